import PyProof.Rows.All
import Wide.All
import OpenK.AllK
import PySem.Str
import Wide.FinOn
import HandS.ForMost
import HandS.Evl
import HandS.IsInst
import HandS.TupAny
import HandS.TupMul
import HandS.Wide
import HandS.Iter
import HandS.Zip
import HandS.Star
import HandS.SetFor
import HandS.Strs
import HandS.TupSets
import KE.KExcSuper
import HandS.ExcInit
import HandS.ExcSuper
import HandS.ClsMeth
import HandS.Text
import KE.KDictKeyed
import PyProof.ReprLen
import PyProof.ReprRoads
import HandS.ExcField
import HandS.HeadEnd
import HandS.HeadHook1
import HandS.HeadHook2
import HandS.HeadNt
import HandS.Head0
import HandS.Head1
import HandS.Head2
import PySem.Challenge.RW_lampthrong_k08_whole_upsets
set_option Elab.async false
set_option linter.all false
set_option maxRecDepth 100000
/-! Rows, scenes, canonical lists: plain Lean, no program in sight. -/
namespace K8
open PySem

/-! ### rows -/
def LeR : List Int → List Int → Prop
  | [], [] => True
  | a :: as, b :: bs => a ≤ b ∧ LeR as bs
  | _, _ => False

instance decLeR : (a b : List Int) → Decidable (LeR a b)
  | [], [] => isTrue trivial
  | a :: as, b :: bs =>
    have := decLeR as bs
    inferInstanceAs (Decidable (a ≤ b ∧ LeR as bs))
  | [], _ :: _ => isFalse id
  | _ :: _, [] => isFalse id

theorem leR_refl : ∀ a : List Int, LeR a a
  | [] => trivial
  | _ :: as => ⟨Int.le_refl _, leR_refl as⟩
theorem leR_trans : ∀ {a b c : List Int}, LeR a b → LeR b c → LeR a c
  | [], [], [], _, _ => trivial
  | _ :: _, _ :: _, _ :: _, h, k => ⟨Int.le_trans h.1 k.1, leR_trans h.2 k.2⟩
  | [], [], _ :: _, _, k => k.elim
  | [], _ :: _, _, h, _ => h.elim
  | _ :: _, [], _, h, _ => h.elim
  | _ :: _, _ :: _, [], _, k => k.elim
theorem leR_antisymm : ∀ {a b : List Int}, LeR a b → LeR b a → a = b
  | [], [], _, _ => rfl
  | _ :: _, _ :: _, h, k => by
    rw [Int.le_antisymm h.1 k.1, leR_antisymm h.2 k.2]
  | [], _ :: _, h, _ => h.elim
  | _ :: _, [], h, _ => h.elim
theorem leR_len : ∀ {a b : List Int}, LeR a b → a.length = b.length
  | [], [], _ => rfl
  | _ :: _, _ :: _, h => by rw [List.length_cons, List.length_cons, leR_len h.2]
  | [], _ :: _, h => h.elim
  | _ :: _, [], h => h.elim
theorem leR_iff : ∀ {a b : List Int}, LeR a b ↔ a.length = b.length ∧ ∀ (k : Nat) (x y : Int), a[k]? = some x → b[k]? = some y → x ≤ y
  | [], [] => by simp [LeR]
  | a :: as, b :: bs => by
    have ih := @leR_iff as bs
    constructor
    · intro h
      refine ⟨leR_len h, fun k x y hx hy => ?_⟩
      cases k with
      | zero =>
        simp only [List.getElem?_cons_zero, Option.some.injEq] at hx hy
        subst hx; subst hy
        exact h.1
      | succ k =>
        simp only [List.getElem?_cons_succ] at hx hy
        exact (ih.mp h.2).2 k x y hx hy
    · intro h
      refine ⟨h.2 0 a b rfl rfl, ih.mpr ⟨by simpa using h.1, fun k x y hx hy => h.2 (k + 1) x y ?_ ?_⟩⟩
      · simpa using hx
      · simpa using hy
  | [], _ :: _ => by simp [LeR]
  | _ :: _, [] => by simp [LeR]

/-- the code of a row: a number, in the base B -/
def code (B : Int) (row : List Int) : Int := match row with
  | [] => 0
  | d :: rest => d * B ^ rest.length + code B rest
def Bd (B : Int) (r : List Int) : Prop := ∀ x ∈ r, 0 ≤ x ∧ x < B
theorem pow_pos' {B : Int} (hB : 0 < B) : ∀ n : Nat, 0 < B ^ n
  | 0 => (Int.pow_zero B).symm ▸ Int.one_pos
  | n + 1 => by rw [Int.pow_succ]; exact Int.mul_pos (pow_pos' hB n) hB
theorem code_bd {B : Int} (hB : 0 < B) : ∀ r : List Int, Bd B r → 0 ≤ code B r ∧ code B r < B ^ r.length
  | [], _ => by simp [code]
  | d :: r, h => by
    have ih := code_bd hB r fun x hx => h x (List.mem_cons_of_mem _ hx)
    have hd := h d List.mem_cons_self
    have hp := pow_pos' hB r.length
    have e : B ^ (d :: r).length = B * B ^ r.length := by rw [List.length_cons, Int.pow_succ, Int.mul_comm]
    have h1 : 0 ≤ d * B ^ r.length := Int.mul_nonneg hd.1 (Int.le_of_lt hp)
    have h2 : (d + 1) * B ^ r.length ≤ B * B ^ r.length := Int.mul_le_mul_of_nonneg_right (by omega) (Int.le_of_lt hp)
    have h3 : (d + 1) * B ^ r.length = d * B ^ r.length + B ^ r.length := by rw [Int.add_mul, Int.one_mul]
    rw [e]
    show 0 ≤ d * B ^ r.length + code B r ∧ d * B ^ r.length + code B r < _
    omega
theorem code_lt {B d e : Int} {r q : List Int} (hB : 0 < B) (hl : r.length = q.length) (hr : Bd B r) (hq : Bd B q) (h : d < e) : code B (d :: r) < code B (e :: q) := by
  have b1 := code_bd hB r hr
  have b2 := code_bd hB q hq
  have hp := pow_pos' hB r.length
  have h2 : (d + 1) * B ^ r.length ≤ e * B ^ r.length := Int.mul_le_mul_of_nonneg_right (by omega) (Int.le_of_lt hp)
  have h3 : (d + 1) * B ^ r.length = d * B ^ r.length + B ^ r.length := by rw [Int.add_mul, Int.one_mul]
  unfold code
  rw [← hl]
  omega
/-- rows below are of smaller code -/
theorem leR_code {B : Int} (hB : 0 < B) : ∀ {a b : List Int}, LeR a b → Bd B a → Bd B b → code B a ≤ code B b ∧ (code B a = code B b → a = b)
  | [], [], _, _, _ => ⟨Int.le_refl _, fun _ => rfl⟩
  | d :: r, e :: q, h, ha, hb => by
    have ha' : Bd B r := fun x hx => ha x (List.mem_cons_of_mem _ hx)
    have hb' : Bd B q := fun x hx => hb x (List.mem_cons_of_mem _ hx)
    obtain ⟨i1, i2⟩ := leR_code hB h.2 ha' hb'
    have hl := leR_len h.2
    rcases Int.lt_or_eq_of_le h.1 with hlt | heq
    · have := code_lt hB hl ha' hb' hlt
      exact ⟨Int.le_of_lt this, fun e => absurd e (Int.ne_of_lt this)⟩
    · subst heq
      refine ⟨?_, fun e => ?_⟩
      · show d * B ^ r.length + code B r ≤ d * B ^ q.length + code B q
        rw [hl]; omega
      · have e' : d * B ^ r.length + code B r = d * B ^ q.length + code B q := e
        rw [hl] at e'
        rw [i2 (by omega)]
  | [], _ :: _, h, _, _ => h.elim
  | _ :: _, [], h, _, _ => h.elim
theorem code_inj {B : Int} (hB : 0 < B) : ∀ {a b : List Int}, a.length = b.length → Bd B a → Bd B b → code B a = code B b → a = b
  | [], [], _, _, _, _ => rfl
  | d :: r, e :: q, hl, ha, hb, h => by
    have ha' : Bd B r := fun x hx => ha x (List.mem_cons_of_mem _ hx)
    have hb' : Bd B q := fun x hx => hb x (List.mem_cons_of_mem _ hx)
    have hl' : r.length = q.length := by simpa using hl
    rcases Int.lt_trichotomy d e with hlt | heq | hgt
    · exact absurd h (Int.ne_of_lt (code_lt hB hl' ha' hb' hlt))
    · subst heq
      have e' : d * B ^ r.length + code B r = d * B ^ q.length + code B q := h
      rw [hl'] at e'
      rw [code_inj hB hl' ha' hb' (by omega)]
    · exact absurd h.symm (Int.ne_of_lt (code_lt hB hl'.symm hb' ha' hgt))

/-! ### the order of names -/
abbrev Slt (a b : Str) : Prop := a.cps.toList < b.cps.toList
theorem slt_irrefl (a : Str) : ¬ Slt a a := fun h => absurd h (List.lt_irrefl _)
theorem slt_trans {a b c : Str} (h : Slt a b) (k : Slt b c) : Slt a c := List.lt_trans h k

/-! ### scenes -/
abbrev Scene := Str × List Int
def Cov (a b : Scene) : Prop := a.1 = b.1 ∧ LeR b.2 a.2
instance (a b : Scene) : Decidable (Cov a b) := inferInstanceAs (Decidable (_ ∧ _))
theorem cov_refl (a : Scene) : Cov a a := ⟨rfl, leR_refl _⟩
theorem cov_trans {a b c : Scene} (h : Cov a b) (k : Cov b c) : Cov a c := ⟨h.1.trans k.1, leR_trans k.2 h.2⟩
theorem cov_antisymm {a b : Scene} (h : Cov a b) (k : Cov b a) : a = b := Prod.ext h.1 (leR_antisymm k.2 h.2)
def Up (L : List Scene) (a : Scene) : Prop := ∃ b ∈ L, Cov a b
instance (L : List Scene) (a : Scene) : Decidable (Up L a) := inferInstanceAs (Decidable (∃ b ∈ L, Cov a b))
theorem up_mono {L : List Scene} {a b : Scene} (h : Cov a b) (k : Up L b) : Up L a :=
  let ⟨c, hc, e⟩ := k
  ⟨c, hc, cov_trans h e⟩
theorem up_mem {L : List Scene} {a : Scene} (h : a ∈ L) : Up L a := ⟨a, h, cov_refl a⟩
/-- the order of scenes -/
def Lt (B : Int) (a b : Scene) : Prop := Slt a.1 b.1 ∨ (a.1 = b.1 ∧ code B a.2 < code B b.2)
theorem lt_irrefl (B : Int) (a : Scene) : ¬ Lt B a a := fun h => by
  rcases h with h | h
  · exact slt_irrefl _ h
  · exact Int.lt_irrefl _ h.2
theorem lt_trans {B : Int} {a b c : Scene} (h : Lt B a b) (k : Lt B b c) : Lt B a c := by
  rcases h with h | ⟨h1, h2⟩ <;> rcases k with k | ⟨k1, k2⟩
  · exact .inl (slt_trans h k)
  · exact .inl (k1 ▸ h)
  · exact .inl (h1 ▸ k)
  · exact .inr ⟨h1.trans k1, Int.lt_trans h2 k2⟩

/-- two lists in strict order with the same members are one -/
theorem sorted_ext {α : Type} {R : α → α → Prop} (irr : ∀ a, ¬ R a a) (tr : ∀ a b c, R a b → R b c → R a c) : ∀ {l m : List α}, l.Pairwise R → m.Pairwise R → (∀ x, x ∈ l ↔ x ∈ m) → l = m
  | [], [], _, _, _ => rfl
  | [], y :: m, _, _, h => absurd ((h y).mpr List.mem_cons_self) (by simp)
  | x :: l, [], _, _, h => absurd ((h x).mp List.mem_cons_self) (by simp)
  | x :: l, y :: m, hl, hm, h =>
    by
    rw [List.pairwise_cons] at hl hm
    have e : x = y := by
      rcases List.mem_cons.mp ((h x).mp List.mem_cons_self) with e | hx
      · exact e
      · rcases List.mem_cons.mp ((h y).mpr List.mem_cons_self) with e | hy
        · exact e.symm
        · exact absurd (tr _ _ _ (hl.1 y hy) (hm.1 x hx)) (irr x)
    subst e
    rw [sorted_ext irr tr hl.2 hm.2 fun z => ?_]
    have hz := h z
    rw [List.mem_cons, List.mem_cons] at hz
    constructor
    · intro hzl
      rcases hz.mp (.inr hzl) with e | q
      · subst e
        exact absurd (hl.1 z hzl) (irr z)
      · exact q
    · intro hzm
      rcases hz.mpr (.inr hzm) with e | q
      · subst e
        exact absurd (hm.1 z hzm) (irr z)
      · exact q
theorem sorted_nodup {α : Type} {R : α → α → Prop} (irr : ∀ a, ¬ R a a) {l : List α} (h : l.Pairwise R) : l.Nodup :=
  h.imp fun {a b} r e => by
    subst e
    exact irr a r

/-! ### canonical lists -/
structure Canon (B : Int) (L : List Scene) : Prop where
  sorted : L.Pairwise (Lt B)
  anti : ∀ a ∈ L, ∀ b ∈ L, Cov a b → a = b
theorem canon_nil (B : Int) : Canon B [] := ⟨.nil, fun _ h => absurd h (by simp)⟩
theorem canon_sub {B : Int} {L M : List Scene} (hL : Canon B L) (h : ∀ a, Up L a → Up M a) (k : ∀ a, Up M a → Up L a) : ∀ a ∈ L, a ∈ M := fun a ha => by
  obtain ⟨b, hb, e⟩ := h a (up_mem ha)
  obtain ⟨c, hc, e2⟩ := k b (up_mem hb)
  have e3 := hL.anti a ha c hc (cov_trans e e2)
  subst e3
  rw [cov_antisymm e e2]
  exact hb
theorem canon_unique {B : Int} {L M : List Scene} (hL : Canon B L) (hM : Canon B M) (h : ∀ a, Up L a ↔ Up M a) : L = M :=
  sorted_ext (lt_irrefl B) (fun _ _ _ => lt_trans) hL.sorted hM.sorted fun x =>
    ⟨canon_sub hL (fun a => (h a).mp) (fun a => (h a).mpr) x, canon_sub hM (fun a => (h a).mpr) (fun a => (h a).mp) x⟩

/-! ### what the program makes of a list of rows, of scenes -/
def stepL (kept : List (List Int)) (r : List Int) : List (List Int) := if kept.any (fun k => decide (LeR k r)) then kept else kept ++ [r]
/-- the least ones of rows in ascending order -/
def leastS (rs : List (List Int)) : List (List Int) := rs.foldl stepL []
structure LeastRows (B : Int) (kept rs : List (List Int)) : Prop where
  sub : ∀ k ∈ kept, k ∈ rs
  cov : ∀ r ∈ rs, ∃ k ∈ kept, LeR k r
  sorted : kept.Pairwise fun a b => code B a < code B b
  anti : ∀ a ∈ kept, ∀ b ∈ kept, LeR b a → a = b
theorem fold_least {B : Int} (hB : 0 < B) : ∀ (rest done kept : List (List Int)), LeastRows B kept done → (done ++ rest).Pairwise (fun a b => code B a < code B b) → (∀ r ∈ done ++ rest, Bd B r) →
    LeastRows B (rest.foldl stepL kept) (done ++ rest)
  | [], done, kept, h, _, _ => by
    rw [List.append_nil]
    exact h
  | r :: rest, done, kept, h, hs, hb => by
    have e : done ++ r :: rest = (done ++ [r]) ++ rest := by simp
    rw [e] at hs hb ⊢
    show LeastRows B (rest.foldl stepL (stepL kept r)) _
    refine fold_least hB rest (done ++ [r]) (stepL kept r) ?_ hs hb
    have hlt : ∀ k ∈ done, code B k < code B r := fun k hk => by
      have q := (List.pairwise_append.mp (List.pairwise_append.mp hs).1).2.2
      exact q k hk r (by simp)
    have hbd : ∀ k ∈ done, Bd B k := fun k hk => hb k (by simp [hk])
    have hbr : Bd B r := hb r (by simp)
    unfold stepL
    by_cases c : kept.any (fun k => decide (LeR k r)) = true
    · rw [if_pos c]
      obtain ⟨k0, hk0, e0⟩ := List.any_eq_true.mp c
      refine ⟨fun k hk => by simp [h.sub k hk], fun q hq => ?_, h.sorted, h.anti⟩
      rcases List.mem_append.1 hq with hq | hq
      · exact h.cov q hq
      · have hq := List.mem_singleton.1 hq
        subst hq
        exact ⟨k0, hk0, of_decide_eq_true e0⟩
    · rw [if_neg c]
      refine ⟨fun k hk => ?_, fun q hq => ?_, ?_, ?_⟩
      · rcases List.mem_append.mp hk with hk | hk
        · simp [h.sub k hk]
        · simp [List.mem_singleton.mp hk]
      · rcases List.mem_append.1 hq with hq | hq
        · obtain ⟨k, hk, e⟩ := h.cov q hq
          exact ⟨k, by simp [hk], e⟩
        · have hq := List.mem_singleton.1 hq
          subst hq
          exact ⟨q, by simp, leR_refl q⟩
      · rw [List.pairwise_append]
        refine ⟨h.sorted, List.pairwise_singleton _ _, fun a ha b hb' => ?_⟩
        rw [List.mem_singleton] at hb'
        subst hb'
        exact hlt a (h.sub a ha)
      · intro a ha b hb' hle
        have g : ∀ x, x ∈ kept ++ [r] → x ∈ kept ∨ x = r := fun x hx => by simpa using hx
        rcases g a ha with ka | ka <;> rcases g b hb' with kb | kb
        · exact h.anti a ka b kb hle
        · rw [kb] at hle
          have l1 := hlt a (h.sub a ka)
          have l2 := (leR_code hB hle hbr (hbd a (h.sub a ka))).1
          exact absurd l1 (by omega)
        · rw [ka] at hle
          exact absurd (List.any_eq_true.mpr ⟨b, kb, decide_eq_true hle⟩) c
        · rw [ka, kb]
theorem least_rows {B : Int} (hB : 0 < B) {rs : List (List Int)} (hs : rs.Pairwise fun a b => code B a < code B b) (hb : ∀ r ∈ rs, Bd B r) : LeastRows B (leastS rs) rs := by
  have := fold_least hB rs [] [] ⟨fun _ h => absurd h (by simp), fun _ h => absurd h (by simp), .nil, fun _ h => absurd h (by simp)⟩ (by simpa using hs) (by simpa using hb)
  rw [List.nil_append] at this
  exact this

/-- L is the canonical list of the scenes -/
structure IsCanon (B : Int) (L S : List Scene) : Prop where
  canon : Canon B L
  sub : ∀ a ∈ L, a ∈ S
  cov : ∀ a ∈ S, Up L a
theorem IsCanon.up {B : Int} {L S : List Scene} (h : IsCanon B L S) (a : Scene) : Up L a ↔ Up S a :=
  ⟨fun ⟨b, hb, e⟩ => ⟨b, h.sub b hb, e⟩, fun ⟨b, hb, e⟩ => up_mono e (h.cov b hb)⟩
def rowsAt (S : List Scene) (p : Str) : List (List Int) := (S.filter fun s => decide (s.1 = p)).map (·.2)
theorem mem_rowsAt {S : List Scene} {p : Str} {r : List Int} : r ∈ rowsAt S p ↔ (p, r) ∈ S := by
  unfold rowsAt
  rw [List.mem_map]
  constructor
  · rintro ⟨s, hs, rfl⟩
    rw [List.mem_filter] at hs
    have e := of_decide_eq_true hs.2
    rw [← e]
    exact hs.1
  · intro h
    exact ⟨(p, r), by simp [h], rfl⟩
theorem canon_of {B : Int} {S : List Scene} {posts : List Str} (f : Str → List (List Int)) (hp : posts.Pairwise Slt) (hm : ∀ p, p ∈ posts ↔ ∃ r, (p, r) ∈ S) (hf : ∀ p ∈ posts, LeastRows B (f p) (rowsAt S p)) :
    IsCanon B (posts.flatMap fun p => (f p).map fun r => (p, r)) S := by
  refine ⟨⟨?_, ?_⟩, ?_, ?_⟩
  · rw [List.pairwise_flatMap]
    refine ⟨fun p h => ?_, hp.imp fun {a b} h x hx y hy => ?_⟩
    · rw [List.pairwise_map]
      exact (hf p h).sorted.imp fun {a b} q => .inr ⟨rfl, q⟩
    · rw [List.mem_map] at hx hy
      obtain ⟨r, _, rfl⟩ := hx
      obtain ⟨q, _, rfl⟩ := hy
      exact .inl h
  · intro a ha b hb c
    rw [List.mem_flatMap] at ha hb
    obtain ⟨p, hp1, hp2⟩ := ha
    obtain ⟨q, hq1, hq2⟩ := hb
    rw [List.mem_map] at hp2 hq2
    obtain ⟨r, hr, rfl⟩ := hp2
    obtain ⟨t, ht, rfl⟩ := hq2
    have e : p = q := c.1
    subst e
    rw [(hf p hp1).anti r hr t ht c.2]
  · intro a ha
    rw [List.mem_flatMap] at ha
    obtain ⟨p, hp1, hp2⟩ := ha
    rw [List.mem_map] at hp2
    obtain ⟨r, hr, rfl⟩ := hp2
    exact mem_rowsAt.mp ((hf p hp1).sub r hr)
  · rintro ⟨p, r⟩ ha
    have h1 := (hm p).mpr ⟨r, ha⟩
    obtain ⟨k, hk, e⟩ := (hf p h1).cov r (mem_rowsAt.mpr ha)
    refine ⟨(p, k), ?_, rfl, e⟩
    rw [List.mem_flatMap]
    exact ⟨p, h1, List.mem_map.mpr ⟨k, hk, rfl⟩⟩
end K8

/-! The cube, the law's own least scenes, joins: plain Lean. -/
namespace K8
open PySem

/-! ### boxes and lower neighbours -/
def InBox (m : Int) : List Int → List Int → Prop
  | [], [] => True
  | b :: bs, r :: rs => (b ≤ r ∧ r ≤ b + m) ∧ InBox m bs rs
  | _, _ => False
theorem inBox_len {m : Int} : ∀ {b r : List Int}, InBox m b r → r.length = b.length
  | [], [], _ => rfl
  | _ :: _, _ :: _, h => by rw [List.length_cons, List.length_cons, inBox_len h.2]
  | [], _ :: _, h => h.elim
  | _ :: _, [], h => h.elim
def lower : List Int → Nat → List Int
  | [], _ => []
  | x :: xs, 0 => (x - 1) :: xs
  | x :: xs, k + 1 => x :: lower xs k
theorem lower_eq : ∀ (r : List Int) (k : Nat) (x : Int), r[k]? = some x → lower r k = r.take k ++ [x - 1] ++ r.drop (k + 1)
  | [], _, _, h => by simp at h
  | x :: xs, 0, y, h => by
    simp only [Option.some.injEq, List.getElem?_cons_zero] at h
    subst h
    rfl
  | x :: xs, k + 1, y, h => by
    have ih := lower_eq xs k y (by simpa using h)
    show x :: lower xs k = _
    rw [ih]
    simp
theorem lower_len : ∀ (r : List Int) (k : Nat), (lower r k).length = r.length
  | [], _ => rfl
  | _ :: _, 0 => rfl
  | _ :: xs, k + 1 => by show (lower xs k).length + 1 = xs.length + 1; rw [lower_len xs k]
theorem lower_le : ∀ (r : List Int) (k : Nat), LeR (lower r k) r
  | [], _ => trivial
  | x :: xs, 0 => ⟨by omega, leR_refl xs⟩
  | x :: xs, k + 1 => ⟨Int.le_refl _, lower_le xs k⟩
theorem lower_ne : ∀ (r : List Int) (k : Nat), k < r.length → ¬ LeR r (lower r k)
  | [], _, h, _ => absurd h (by simp)
  | x :: xs, 0, _, h => absurd h.1 (by omega)
  | x :: xs, k + 1, h, q => lower_ne xs k (by simpa using h) q.2
/-- strictly below: some lower neighbour is still above, and in the box -/
theorem lower_above {m : Int} : ∀ {b a r : List Int}, InBox m b a → InBox m b r → LeR a r → a ≠ r → ∃ k, k < r.length ∧ LeR a (lower r k) ∧ InBox m b (lower r k)
  | [], [], [], _, _, _, hn => absurd rfl hn
  | b :: bs, x :: xs, y :: ys, ha, hr, h, hn => by
    by_cases e : x = y
    · subst e
      obtain ⟨k, hk, h1, h2⟩ := lower_above ha.2 hr.2 h.2 fun z => hn (by rw [z])
      exact ⟨k + 1, by simpa using hk, ⟨Int.le_refl _, h1⟩, hr.1, h2⟩
    · have h1 := h.1
      have h2 := ha.1
      have h3 := hr.1
      exact ⟨0, by simp, ⟨by omega, h.2⟩, by omega, hr.2⟩
  | [], [], _ :: _, _, hr, _, _ => hr.elim
  | [], _ :: _, _, ha, _, _, _ => ha.elim
  | _ :: _, [], _, ha, _, _, _ => ha.elim
  | _ :: _, _ :: _, [], _, hr, _, _ => hr.elim

/-! ### the cube -/
def grow (m : Nat) (rows : List (List Int)) (e : Int) : List (List Int) := rows.flatMap fun row => (List.range (m + 1)).map fun (s : Nat) => row ++ [e + (s : Int)]
def cubeR (m : Nat) (base : List Int) : List (List Int) := base.foldl (grow m) [[]]
def cube (m : Nat) (ps : List Str) (base : List Int) : List Scene := ps.flatMap fun p => (cubeR m base).map fun r => (p, r)
theorem inBox_snoc {m : Int} : ∀ {b r : List Int} {e x : Int}, InBox m (b ++ [e]) (r ++ [x]) ↔ InBox m b r ∧ e ≤ x ∧ x ≤ e + m
  | [], [], e, x => by simp [InBox]
  | b :: bs, r :: rs, e, x => by
    have ih := @inBox_snoc m bs rs e x
    show ((b ≤ r ∧ r ≤ b + m) ∧ InBox m (bs ++ [e]) (rs ++ [x])) ↔ ((b ≤ r ∧ r ≤ b + m) ∧ InBox m bs rs) ∧ e ≤ x ∧ x ≤ e + m
    rw [ih]
    constructor
    · rintro ⟨h1, h2, h3⟩
      exact ⟨⟨h1, h2⟩, h3⟩
    · rintro ⟨⟨h1, h2⟩, h3⟩
      exact ⟨h1, h2, h3⟩
  | [], r :: rs, e, x => by
    constructor
    · intro h
      have := inBox_len h
      simp at this
    · intro h
      exact h.1.elim
  | b :: bs, [], e, x => by
    constructor
    · intro h
      have := inBox_len h
      simp at this
    · intro h
      exact h.1.elim
theorem mem_grow {m : Nat} {rows : List (List Int)} {e : Int} {r : List Int} : r ∈ grow m rows e ↔ ∃ q ∈ rows, ∃ x, r = q ++ [x] ∧ e ≤ x ∧ x ≤ e + (m : Int) := by
  unfold grow
  rw [List.mem_flatMap]
  constructor
  · rintro ⟨q, hq, hr⟩
    rw [List.mem_map] at hr
    obtain ⟨s, hs, rfl⟩ := hr
    rw [List.mem_range] at hs
    exact ⟨q, hq, _, rfl, by omega, by omega⟩
  · rintro ⟨q, hq, x, rfl, h1, h2⟩
    refine ⟨q, hq, List.mem_map.mpr ⟨(x - e).toNat, List.mem_range.mpr (by omega), ?_⟩⟩
    rw [show e + ((x - e).toNat : Int) = x by omega]
theorem cubeR_snoc (m : Nat) (base : List Int) (e : Int) : cubeR m (base ++ [e]) = grow m (cubeR m base) e := by
  unfold cubeR
  rw [List.foldl_append]
  rfl
theorem rev_ind {α : Type} {P : List α → Prop} (h0 : P []) (h1 : ∀ l x, P l → P (l ++ [x])) (l : List α) : P l := by
  have : ∀ l : List α, P l.reverse := fun l => by
    induction l with
    | nil => exact h0
    | cons x l ih =>
      rw [List.reverse_cons]
      exact h1 _ _ ih
  have h := this l.reverse
  rw [List.reverse_reverse] at h
  exact h
theorem mem_cubeR {m : Nat} {base : List Int} : ∀ {r : List Int}, r ∈ cubeR m base ↔ InBox (m : Int) base r := by
  induction base using rev_ind with
  | h0 =>
    intro r
    show r ∈ [[]] ↔ _
    rw [List.mem_singleton]
    cases r with
    | nil => simp [InBox]
    | cons x r => simp [InBox]
  | h1 base e ih =>
    intro r
    rw [cubeR_snoc, mem_grow]
    constructor
    · rintro ⟨q, hq, x, rfl, h1, h2⟩
      exact inBox_snoc.mpr ⟨ih.mp hq, h1, h2⟩
    · intro h
      have hl := inBox_len h
      have hne : r ≠ [] := fun z => by
        subst z
        simp at hl
      have e0 := List.dropLast_concat_getLast hne
      rw [← e0] at h
      obtain ⟨h1, h2, h3⟩ := inBox_snoc.mp h
      exact ⟨r.dropLast, ih.mpr h1, r.getLast hne, e0.symm, h2, h3⟩
theorem code_snoc (B : Int) (x : Int) : ∀ r : List Int, code B (r ++ [x]) = code B r * B + x
  | [] => by simp [code]
  | d :: r => by
    show d * B ^ (r ++ [x]).length + code B (r ++ [x]) = (d * B ^ r.length + code B r) * B + x
    rw [code_snoc B x r, List.length_append, List.length_singleton, Int.pow_succ, Int.add_mul, Int.mul_assoc]
    omega
theorem bd_snoc {B : Int} {r : List Int} {x : Int} : Bd B (r ++ [x]) ↔ Bd B r ∧ 0 ≤ x ∧ x < B := by
  unfold Bd
  constructor
  · intro h
    exact ⟨fun y hy => h y (by simp [hy]), h x (by simp)⟩
  · rintro ⟨h1, h2⟩ y hy
    rcases List.mem_append.1 hy with hy | hy
    · exact h1 y hy
    · rw [List.mem_singleton.mp hy]
      exact h2
theorem inBox_bd {B : Int} {m : Int} : ∀ {b r : List Int}, InBox m b r → (∀ x ∈ b, 0 ≤ x ∧ x + m < B) → Bd B r
  | [], [], _, _ => fun x h => absurd h (by simp)
  | b :: bs, r :: rs, h, hb => fun x hx => by
    have h1 := hb b List.mem_cons_self
    rcases List.mem_cons.1 hx with e | hx
    · subst e
      have := h.1
      omega
    · exact inBox_bd h.2 (fun y hy => hb y (List.mem_cons_of_mem _ hy)) x hx
  | [], _ :: _, h, _ => h.elim
  | _ :: _, [], h, _ => h.elim
theorem cubeR_sorted {B : Int} (hB : 0 < B) {m : Nat} {base : List Int} : (∀ x ∈ base, 0 ≤ x ∧ x + (m : Int) < B) → (cubeR m base).Pairwise fun a b => code B a < code B b := by
  induction base using rev_ind with
  | h0 =>
    intro _
    exact List.pairwise_singleton _ _
  | h1 base e ih =>
    intro hb
    have hb' : ∀ x ∈ base, 0 ≤ x ∧ x + (m : Int) < B := fun x hx => hb x (by simp [hx])
    have he := hb e (by simp)
    rw [cubeR_snoc]
    unfold grow
    rw [List.pairwise_flatMap]
    refine ⟨fun q hq => ?_, (ih hb').imp fun {a b} h x hx y hy => ?_⟩
    · rw [List.pairwise_map]
      refine List.pairwise_lt_range.imp fun {s t} h => ?_
      rw [code_snoc, code_snoc]
      omega
    · rw [List.mem_map] at hx hy
      obtain ⟨s, hs, rfl⟩ := hx
      obtain ⟨t, ht, rfl⟩ := hy
      rw [List.mem_range] at hs ht
      rw [code_snoc, code_snoc]
      have h3 : (code B a + 1) * B ≤ code B b * B := Int.mul_le_mul_of_nonneg_right (by omega) (by omega)
      rw [Int.add_mul, Int.one_mul] at h3
      omega
theorem mem_cube {m : Nat} {ps : List Str} {base : List Int} {s : Scene} : s ∈ cube m ps base ↔ s.1 ∈ ps ∧ InBox (m : Int) base s.2 := by
  unfold cube
  rw [List.mem_flatMap]
  constructor
  · rintro ⟨p, hp, h⟩
    rw [List.mem_map] at h
    obtain ⟨r, hr, rfl⟩ := h
    exact ⟨hp, mem_cubeR.mp hr⟩
  · rintro ⟨h1, h2⟩
    exact ⟨s.1, h1, List.mem_map.mpr ⟨s.2, mem_cubeR.mpr h2, rfl⟩⟩
theorem cube_sorted {B : Int} (hB : 0 < B) {m : Nat} {ps : List Str} {base : List Int} (hp : ps.Pairwise Slt) (hb : ∀ x ∈ base, 0 ≤ x ∧ x + (m : Int) < B) : (cube m ps base).Pairwise (Lt B) := by
  unfold cube
  rw [List.pairwise_flatMap]
  refine ⟨fun p _ => ?_, hp.imp fun {a b} h x hx y hy => ?_⟩
  · rw [List.pairwise_map]
    exact (cubeR_sorted hB hb).imp fun {a b} q => .inr ⟨rfl, q⟩
  · rw [List.mem_map] at hx hy
    obtain ⟨r, _, rfl⟩ := hx
    obtain ⟨q, _, rfl⟩ := hy
    exact .inl h

/-! ### the law's least scenes -/
def hasLower (M : List Scene) (s : Scene) : Bool := (List.range s.2.length).any fun k => decide ((s.1, lower s.2 k) ∈ M)
def lawLeast (M : List Scene) : List Scene := M.filter fun s => !hasLower M s
theorem lawLeast_eq {B : Int} {C L : List Scene} {b : List Int} {m : Int} (hC : C.Pairwise (Lt B)) (hm : ∀ s ∈ C, InBox m b s.2) (hc : ∀ s ∈ C, ∀ r, InBox m b r → (s.1, r) ∈ C) (hL : Canon B L) (hS : ∀ s ∈ L, s ∈ C) :
    lawLeast (C.filter fun s => decide (Up L s)) = L := by
  refine sorted_ext (lt_irrefl B) (fun _ _ _ => lt_trans) ((hC.filter _).filter _) hL.sorted fun x => ?_
  have hmem : ∀ s, s ∈ (C.filter fun s => decide (Up L s)) ↔ s ∈ C ∧ Up L s := fun s => by
    rw [List.mem_filter]
    simp
  have hlow : hasLower (C.filter fun s => decide (Up L s)) x = true ↔ ∃ k, k < x.2.length ∧ (x.1, lower x.2 k) ∈ C ∧ Up L (x.1, lower x.2 k) := by
    unfold hasLower
    rw [List.any_eq_true]
    constructor
    · rintro ⟨k, hk, e⟩
      rw [List.mem_range] at hk
      exact ⟨k, hk, (hmem _).mp (of_decide_eq_true e)⟩
    · rintro ⟨k, hk, e⟩
      exact ⟨k, List.mem_range.mpr hk, decide_eq_true ((hmem _).mpr e)⟩
  have hx : x ∈ lawLeast (C.filter fun s => decide (Up L s)) ↔ (x ∈ C ∧ Up L x) ∧ ¬ hasLower (C.filter fun s => decide (Up L s)) x = true := by
    unfold lawLeast
    rw [List.mem_filter, hmem]
    simp
  rw [hx, hlow]
  constructor
  · rintro ⟨⟨h1, c, hc1, hc2⟩, hn⟩
    by_cases e : c.2 = x.2
    · rw [show x = c from Prod.ext hc2.1 e.symm]
      exact hc1
    · obtain ⟨k, hk, h3, h4⟩ := lower_above (hm c (hS c hc1)) (hm x h1) hc2.2 e
      exact absurd ⟨k, hk, hc x h1 _ h4, c, hc1, hc2.1, h3⟩ hn
  · intro h
    refine ⟨⟨hS x h, up_mem h⟩, ?_⟩
    rintro ⟨k, hk, _, c, hc1, hc2⟩
    have h2 : Cov x (x.1, lower x.2 k) := ⟨rfl, lower_le _ _⟩
    have e := hL.anti x h c hc1 (cov_trans h2 hc2)
    subst e
    exact lower_ne _ _ hk hc2.2

/-! ### joins -/
def joinR : List Int → List Int → List Int
  | a :: as, b :: bs => (if b > a then b else a) :: joinR as bs
  | _, _ => []
theorem joinR_len : ∀ {a b : List Int}, a.length = b.length → (joinR a b).length = a.length
  | [], [], _ => rfl
  | _ :: as, _ :: bs, h => by
    show (joinR as bs).length + 1 = as.length + 1
    rw [joinR_len (by simpa using h)]
  | [], _ :: _, h => nomatch h
  | _ :: _, [], h => nomatch h
theorem joinR_le : ∀ {a b c : List Int}, a.length = b.length → (LeR (joinR a b) c ↔ LeR a c ∧ LeR b c)
  | [], [], [], _ => by simp [joinR, LeR]
  | [], [], _ :: _, _ => by simp [joinR, LeR]
  | _ :: as, _ :: bs, [], _ => by simp [joinR, LeR]
  | x :: as, y :: bs, z :: cs, h => by
    have ih := @joinR_le as bs cs (by simpa using h)
    show ((if y > x then y else x) ≤ z ∧ LeR (joinR as bs) cs) ↔ (x ≤ z ∧ LeR as cs) ∧ (y ≤ z ∧ LeR bs cs)
    rw [ih]
    constructor
    · rintro ⟨h1, h2, h3⟩
      split at h1 <;> exact ⟨⟨by omega, h2⟩, by omega, h3⟩
    · rintro ⟨⟨h1, h2⟩, h3, h4⟩
      exact ⟨by split <;> assumption, h2, h4⟩
  | [], _ :: _, _, h => by simp at h
  | _ :: _, [], _, h => by simp at h
theorem joinR_box {m : Int} : ∀ {b x y : List Int}, InBox m b x → InBox m b y → InBox m b (joinR x y)
  | [], [], [], _, _ => trivial
  | _ :: _, _ :: _, _ :: _, h, k => ⟨by have h1 := h.1; have h2 := k.1; split <;> omega, joinR_box h.2 k.2⟩
  | [], [], _ :: _, _, h => h.elim
  | [], _ :: _, _, h, _ => h.elim
  | _ :: _, [], _, h, _ => h.elim
  | _ :: _, _ :: _, [], _, h => h.elim
def joins (L M : List Scene) : List Scene := L.flatMap fun s => (rowsAt M s.1).map fun r => (s.1, joinR s.2 r)
theorem mem_joins {L M : List Scene} {s : Scene} : s ∈ joins L M ↔ ∃ a ∈ L, ∃ b ∈ M, a.1 = b.1 ∧ s = (a.1, joinR a.2 b.2) := by
  unfold joins
  rw [List.mem_flatMap]
  constructor
  · rintro ⟨a, ha, h⟩
    rw [List.mem_map] at h
    obtain ⟨r, hr, rfl⟩ := h
    exact ⟨a, ha, (a.1, r), mem_rowsAt.mp hr, rfl, rfl⟩
  · rintro ⟨a, ha, b, hb, e, rfl⟩
    refine ⟨a, ha, List.mem_map.mpr ⟨b.2, mem_rowsAt.mpr ?_, rfl⟩⟩
    rw [e]
    exact hb
theorem up_joins {L M : List Scene} {w : Nat} (hL : ∀ s ∈ L, s.2.length = w) (hM : ∀ s ∈ M, s.2.length = w) (a : Scene) : Up (joins L M) a ↔ Up L a ∧ Up M a := by
  constructor
  · rintro ⟨b, hb, h⟩
    obtain ⟨x, hx, y, hy, e, rfl⟩ := mem_joins.mp hb
    have h2 := (joinR_le ((hL x hx).trans (hM y hy).symm)).mp h.2
    exact ⟨⟨x, hx, h.1, h2.1⟩, y, hy, h.1.trans e, h2.2⟩
  · rintro ⟨⟨x, hx, h1, h2⟩, y, hy, h3, h4⟩
    refine ⟨_, mem_joins.mpr ⟨x, hx, y, hy, h1.symm.trans h3, rfl⟩, h1, ?_⟩
    exact (joinR_le ((hL x hx).trans (hM y hy).symm)).mpr ⟨h2, h4⟩
theorem up_append {L M : List Scene} (a : Scene) : Up (L ++ M) a ↔ Up L a ∨ Up M a := by
  constructor
  · rintro ⟨b, hb, h⟩
    rcases List.mem_append.1 hb with hb | hb
    · exact .inl ⟨b, hb, h⟩
    · exact .inr ⟨b, hb, h⟩
  · rintro (⟨b, hb, h⟩ | ⟨b, hb, h⟩)
    · exact ⟨b, by simp [hb], h⟩
    · exact ⟨b, by simp [hb], h⟩
end K8

set_option maxHeartbeats 4100000
/-! The walk by weakest readings: a reading of every expression and statement is its own weakest one; rules say what it yields. -/
namespace K8
open PySem PySem.Spec PyProof.Rows L2 Evl

abbrev Slots := L2.St
abbrev Rel := V → Hp → Prop
/-! B is the part of the heap that never changes and that is leant upon, H the heap; a step makes both greater, and what is new in B did not stand in H -/
def Off (B1 H B : Hp) : Prop := ∀ a o, B a = none → H a = some o → B1 a = none
structure Step (B H B1 H1 : Hp) : Prop where
  b : Ex B B1
  i : Ex B1 H1
  h : Ex H H1
  off : Off B1 H B
theorem Step.refl {B H : Hp} (e : Ex B H) : Step B H B H := ⟨Ex.refl B, e, Ex.refl H, fun _ _ h _ => h⟩
theorem Step.trans {B H B1 H1 B2 H2 : Hp} (s : Step B H B1 H1) (t : Step B1 H1 B2 H2) : Step B H B2 H2 :=
  ⟨s.b.trans t.b, t.i, s.h.trans t.h, fun a o h1 h2 => t.off a o (s.off a o h1 h2) (s.h a o h2)⟩
theorem ex_none {B H : Hp} (e : Ex B H) {a : Addr} (h : H a = none) : B a = none := fresh_back e h
theorem ex_upd2 {B H : Hp} {p : Addr} {o : HO} (e : Ex B H) : Ex (upd B p o) (upd H p o) := fun a u h => by
  by_cases q : a = p
  · subst q
    rw [upd_same] at h ⊢
    exact h
  · rw [upd_ne q] at h ⊢
    exact e a u h
/-- a new object that never changes -/
theorem Step.new {B H : Hp} (e : Ex B H) {p : Addr} {o : HO} (h : H p = none) : Step B H (upd B p o) (upd H p o) :=
  ⟨Ex.new (ex_none e h), ex_upd2 e, Ex.new h, fun a u h1 h2 => by rw [upd_ne (ne_of_none h2 h)]; exact h1⟩
/-- a new object that may change -/
theorem Step.mut {B H : Hp} (e : Ex B H) {p : Addr} {o : HO} (h : H p = none) : Step B H B (upd H p o) :=
  ⟨Ex.refl B, e.trans (Ex.new h), Ex.new h, fun _ _ h1 _ => h1⟩
theorem Step.same {B H B1 H1 : Hp} (s : Step B H B1 H1) : Step B H B H1 := ⟨Ex.refl B, s.b.trans s.i, s.h, fun _ _ h _ => h⟩
/-- what is wanted of a value that R describes, now and in every greater base -/
def Yields (B H : Hp) (R : Rel) (Q : VK) : Prop := ∀ v B1 H1, Step B H B1 H1 → (∀ B2, Ex B1 B2 → R v B2) → Q v H1
def EvP (te : TE) (σ : Slots) (B : Hp) (R : Rel) : Prop := ∀ H, Ex B H → ∀ Q : VK, Yields B H R Q → te σ H Q
def IsV (v : V) : Rel := fun x _ => x = v
def IsD (K : PySem.W.Frag) (d : PyData) : Rel := fun x H => Dp K H x d
theorem Yields.go {B H B1 H1 : Hp} {R : Rel} {Q : VK} (y : Yields B H R Q) (s : Step B H B1 H1) : Yields B1 H1 R Q := fun v B2 H2 t h => y v B2 H2 (s.trans t) h
theorem Yields.imp {B H : Hp} {R R' : Rel} {Q : VK} (y : Yields B H R' Q) (h : ∀ v B1, Ex B B1 → R v B1 → R' v B1) : Yields B H R Q := fun v B1 H1 s k => y v B1 H1 s fun B2 e2 => h v B2 (s.b.trans e2) (k B2 e2)
theorem Yields.at {B H : Hp} {v : V} {R : Rel} {Q : VK} (y : Yields B H R Q) (e : Ex B H) (r : ∀ B2, Ex B B2 → R v B2) : Q v H := y v B H (Step.refl e) r
theorem Yields.val {B H : Hp} {v : V} {Q : VK} (y : Yields B H (IsV v) Q) (e : Ex B H) : Q v H := y.at e fun _ _ => rfl
theorem Yields.valS {B H B1 H1 : Hp} {v : V} {Q : VK} (y : Yields B H (IsV v) Q) (s : Step B H B1 H1) : Q v H1 := y v B1 H1 s fun _ _ => rfl

/-! ### data is kept by growth -/
mutual
theorem Dp.grow {K : PySem.W.Frag} {H H' : Hp} (e : Ex H H') : ∀ (d : PyData) (v : V), Dp K H v d → Dp K H' v d
  | .none, _, h => by cases h; exact .non
  | .bool b, _, h => by cases h; exact .bl b
  | .int i, _, h => by cases h; exact .int i
  | .str x, _, h => by cases h; exact .str x
  | .list ds, _, h => by
    cases h with
    | lst hs ha => exact .lst (ex_l e hs) (Dp.growAll e ds _ ha)
  | .tuple ds, _, h => by
    cases h with
    | tup hs ha => exact .tup (ex_t e hs) (Dp.growAll e ds _ ha)
  | .dict _, _, h => by cases h
theorem Dp.growAll {K : PySem.W.Frag} {H H' : Hp} (e : Ex H H') : ∀ (ds : List PyData) (vs : List V), DpAll K H vs ds → DpAll K H' vs ds
  | [], _, h => by cases h; exact .nil
  | d :: ds, _, h => by
    cases h with
    | cons h1 h2 => exact .cons (Dp.grow e d _ h1) (Dp.growAll e ds _ h2)
end
theorem dp_grow {K : PySem.W.Frag} {H H' : Hp} {d : PyData} {v : V} (h : Dp K H v d) (e : Ex H H') : Dp K H' v d := Dp.grow e d v h
theorem dps_grow {K : PySem.W.Frag} {H H' : Hp} {ds : List PyData} {vs : List V} (h : DpAll K H vs ds) (e : Ex H H') : DpAll K H' vs ds := Dp.growAll e ds vs h
theorem dps_len {K : PySem.W.Frag} {H : Hp} : ∀ {ds : List PyData} {vs : List V}, DpAll K H vs ds → vs.length = ds.length
  | [], _, h => by cases h; rfl
  | _ :: _, _, h => by
    cases h with
    | cons _ h2 => rw [List.length_cons, List.length_cons, dps_len h2]
theorem dps_get {K : PySem.W.Frag} {H : Hp} : ∀ {ds : List PyData} {vs : List V} {i : Nat} {v : V}, DpAll K H vs ds → vs[i]? = some v → ∃ d, ds[i]? = some d ∧ Dp K H v d
  | [], _, _, _, h, e => by cases h; simp at e
  | d :: ds, _, i, v, h, e => by
    cases h with
    | cons h1 h2 =>
      cases i with
      | zero =>
        simp only [Option.some.injEq, List.getElem?_cons_zero] at e
        subst e
        exact ⟨d, rfl, h1⟩
      | succ i =>
        rw [List.getElem?_cons_succ] at e ⊢
        exact dps_get h2 e
theorem dps_get' {K : PySem.W.Frag} {H : Hp} {ds : List PyData} {vs : List V} {i : Nat} {d : PyData} (h : DpAll K H vs ds) (e : ds[i]? = some d) : ∃ v, vs[i]? = some v ∧ Dp K H v d := by
  have hl := dps_len h
  have hi : i < vs.length := by
    have := (List.getElem?_eq_some_iff.mp e).1
    omega
  obtain ⟨d', e', hd⟩ := dps_get h (List.getElem?_eq_getElem hi)
  rw [e] at e'
  cases e'
  exact ⟨_, List.getElem?_eq_getElem hi, hd⟩
theorem dps_append {K : PySem.W.Frag} {H : Hp} : ∀ {ds es : List PyData} {vs ws : List V}, DpAll K H vs ds → DpAll K H ws es → DpAll K H (vs ++ ws) (ds ++ es)
  | [], _, _, _, h, k => by cases h; exact k
  | _ :: _, _, _, _, h, k => by
    cases h with
    | cons h1 h2 => exact .cons h1 (dps_append h2 k)
theorem dps_take {K : PySem.W.Frag} {H : Hp} : ∀ {ds : List PyData} {vs : List V} (n : Nat), DpAll K H vs ds → DpAll K H (vs.take n) (ds.take n)
  | _, _, 0, _ => by rw [List.take_zero, List.take_zero]; exact .nil
  | [], _, n + 1, h => by cases h; exact .nil
  | _ :: _, _, n + 1, h => by
    cases h with
    | cons h1 h2 => exact .cons h1 (dps_take n h2)
theorem dps_drop {K : PySem.W.Frag} {H : Hp} : ∀ {ds : List PyData} {vs : List V} (n : Nat), DpAll K H vs ds → DpAll K H (vs.drop n) (ds.drop n)
  | _, _, 0, h => h
  | [], _, n + 1, h => by cases h; exact .nil
  | _ :: _, _, n + 1, h => by
    cases h with
    | cons h1 h2 => exact dps_drop n h2
theorem dps_ints {K : PySem.W.Frag} {H : Hp} : ∀ ns : List Int, DpAll K H (ns.map V.int) (ns.map PyData.int)
  | [] => .nil
  | n :: ns => .cons (.int n) (dps_ints ns)
theorem dps_ints_inv {K : PySem.W.Frag} {H : Hp} : ∀ {ns : List Int} {vs : List V}, DpAll K H vs (ns.map PyData.int) → vs = ns.map V.int
  | [], _, h => by cases h; rfl
  | n :: ns, _, h => by
    cases h with
    | cons h1 h2 =>
      cases h1
      rw [dps_ints_inv h2]
      rfl
theorem dps_strs {K : PySem.W.Frag} {H : Hp} : ∀ ns : List Str, DpAll K H (ns.map V.str) (ns.map PyData.str)
  | [] => .nil
  | n :: ns => .cons (.str n) (dps_strs ns)
theorem dps_strs_inv {K : PySem.W.Frag} {H : Hp} : ∀ {ns : List Str} {vs : List V}, DpAll K H vs (ns.map PyData.str) → vs = ns.map V.str
  | [], _, h => by cases h; rfl
  | n :: ns, _, h => by
    cases h with
    | cons h1 h2 =>
      cases h1
      rw [dps_strs_inv h2]
      rfl
theorem isD_stable {K : PySem.W.Frag} {H : Hp} {v : V} {d : PyData} (h : Dp K H v d) : ∀ H3, Ex H H3 → IsD K d v H3 := fun _ e => dp_grow h e

/-! ### weakest readings -/
section
variable {X : Cx}
def wE (X : Cx) (e : Expr) : TE := fun σ H Q => ∀ pins s, Inv X pins σ H s → wpAny (model X.prog X.w) X.A (eval e X.env) (EP X pins σ Q) X.xe s
theorem pe_w {e : Expr} : PE X e (wE X e) := ⟨fun pins s _ _ _ I h => h pins s I⟩
theorem w_pe {e : Expr} {t : TE} (h : PE X e t) {σ : Slots} {H : Hp} {Q : VK} (q : t σ H Q) : wE X e σ H Q := fun pins s I => h.run pins s σ H Q I q
def wT (X : Cx) (e : Expr) : TT := fun σ H Q => ∀ pins s, Inv X pins σ H s → wpAny (model X.prog X.w) X.A (isTrue e X.env (eval e X.env)) (TP X pins σ Q) X.xe s
theorem pt_w {e : Expr} : PT X e (wT X e) := ⟨fun pins s _ _ _ I h => h pins s I⟩
theorem w_pt {e : Expr} {t : TT} (h : PT X e t) {σ : Slots} {H : Hp} {Q : Bool → Hp → Prop} (q : t σ H Q) : wT X e σ H Q := fun pins s I => h.run pins s σ H Q I q
def wA (X : Cx) (es : List Expr) : TA := fun σ H Q => ∀ pos pins s, Inv X pins σ H s → wpAny (model X.prog X.w) X.A (spliced (backTo pos (starEach es X.env))) (AP X pins σ Q) X.xe s
theorem pa_w {es : List Expr} : PA X es (wA X es) := ⟨fun pos pins s _ _ _ I h => h pos pins s I⟩
theorem w_pa {es : List Expr} {t : TA} (h : PA X es t) {σ : Slots} {H : Hp} {Q : List V → Hp → Prop} (q : t σ H Q) : wA X es σ H Q := fun pos pins s I => h.run pos pins s σ H Q I q
def wS (X : Cx) (st : Stmt) : TS := fun D σ H => ∀ pins s, Inv X pins σ H s → wpAny (model X.prog X.w) X.A (exec st X.env) (SP X pins D) X.xe s
theorem ps_w {st : Stmt} : PS X st (wS X st) := ⟨fun pins s _ _ _ I h => h pins s I⟩
theorem w_ps {st : Stmt} {t : TS} (h : PS X st t) {σ : Slots} {H : Hp} {D : Ends} (q : t D σ H) : wS X st D σ H := fun pins s I => h.run pins s σ H D I q
def wB (X : Cx) (st : List Stmt) : TS := fun D σ H => ∀ pins s, Inv X pins σ H s → wpAny (model X.prog X.w) X.A (execs st X.env) (SP X pins D) X.xe s
theorem pss_w {st : List Stmt} : PSs X st (wB X st) := ⟨fun pins s _ _ _ I h => h pins s I⟩
theorem w_pss {st : List Stmt} {t : TS} (h : PSs X st t) {σ : Slots} {H : Hp} {D : Ends} (q : t D σ H) : wB X st D σ H := fun pins s I => h.run pins s σ H D I q

/-! ### what expressions yield -/
variable {σ : Slots} {B B' H H' : Hp} {R R' Ra Rb : Rel} {e a b c : Expr} {pos : Pos} {x y z v : V}
abbrev EvE (X : Cx) (e : Expr) (σ : Slots) (B : Hp) (R : Rel) : Prop := EvP (wE X e) σ B R
theorem Yields.down {Q : VK} (y : Yields B H R Q) (s : Step B H B' H) : Yields B' H R Q := y.go s
theorem EvP.mono {te : TE} (ex : Ex B B') (h : EvP te σ B R) : EvP te σ B' R := fun H1 e1 Q y => h H1 (ex.trans e1) Q fun v B1 H2 s r => by
  -- the base B1 over B, and B' beside it: their union
  refine y v (fun a => match B1 a with | some o => some o | none => B' a) H2 ⟨fun a o q => ?_, fun a o q => ?_, s.h, fun a o h1 h2 => ?_⟩ fun B2 e2 => r B2 fun a o q => e2 a o ?_
  · show (match B1 a with | some o => some o | none => B' a) = some o
    cases q1 : B1 a with
    | none => exact q
    | some u =>
      have z1 := s.i a u q1
      have z2 := s.h a o (e1 a o q)
      rw [z1] at z2
      exact z2
  · have q' : (match B1 a with | some o => some o | none => B' a) = some o := q
    cases q1 : B1 a with
    | none =>
      rw [q1] at q'
      exact s.h a o (e1 a o q')
    | some u =>
      rw [q1] at q'
      cases q'
      exact s.i a o q1
  · show (match B1 a with | some o => some o | none => B' a) = none
    have hB : B a = none := fresh_back ex h1
    rw [s.off a o hB h2]
    exact h1
  · show (match B1 a with | some o => some o | none => B' a) = some o
    rw [q]
theorem EvP.imp {te : TE} (h : EvP te σ B R) (k : ∀ v B1, Ex B B1 → R v B1 → R' v B1) : EvP te σ B R' := fun H1 e1 Q y => h H1 e1 Q (y.imp k)
theorem EvP.run {te : TE} (h : EvP te σ B R) (e0 : Ex B H) {Q : VK} (k : ∀ v B1 H1, Step B H B1 H1 → (∀ B2, Ex B1 B2 → R v B2) → Q v H1) : te σ H Q := h H e0 Q k
theorem of_pe {t : TE} (h : PE X e t) (k : EvP t σ B R) : EvE X e σ B R := fun H1 e1 Q y => w_pe h (k H1 e1 Q y)
/-- a value's reading that only reads -/
theorem ev_at {te : TE} (h : ∀ H1, Ex B H1 → ∀ Q : VK, Q v H1 → te σ H1 Q) : EvP te σ B (IsV v) := fun H1 e1 Q y => h H1 e1 Q (y.val e1)
theorem e_var (i : Nat) {n : Str} (hv : σ[i]? = some (some v)) (hN : X.N[i]? = some n := by rfl) (hs : Vis X.env.scope n := by first | exact Or.inl rfl | exact Or.inr (Or.inl rfl) | exact Or.inr (Or.inr rfl))
    (hd : (n == ("__debug__" : Str)) = false := by decide) (hcd : (n == ("__classdict__" : Str)) = false := by decide) : EvE X (.Name n pos) σ B (IsV v) :=
  of_pe (pe_var hN hs hd hcd) (ev_at fun H1 _ Q q => ⟨v, hv, q⟩)
/-- a name that holds a datum -/
theorem e_varD {K : PySem.W.Frag} {d : PyData} (i : Nat) {n : Str} (hv : σ[i]? = some (some v)) (hd0 : Dp K B v d) (hN : X.N[i]? = some n := by rfl) (hs : Vis X.env.scope n := by first | exact Or.inl rfl | exact Or.inr (Or.inl rfl) | exact Or.inr (Or.inr rfl))
    (hd : (n == ("__debug__" : Str)) = false := by decide) (hcd : (n == ("__classdict__" : Str)) = false := by decide) : EvE X (.Name n pos) σ B (IsD K d) :=
  (e_var i hv hN hs hd hcd).imp fun _ B1 e2 r => by
    cases r
    exact dp_grow hd0 e2
theorem e_int {i : Int} {j} : EvE X (.Constant (.int i) j pos) σ B (IsV (.int i)) := of_pe pe_int (ev_at fun _ _ _ q => q)
theorem e_str {s : Str} {j} : EvE X (.Constant (.str s) j pos) σ B (IsV (.str s)) := of_pe pe_str (ev_at fun _ _ _ q => q)
theorem e_bl {k : Bool} {j} : EvE X (.Constant (.bool k) j pos) σ B (IsV (.bl k)) := of_pe pe_bl (ev_at fun _ _ _ q => q)
theorem e_non {j} : EvE X (.Constant .none j pos) σ B (IsV .non) := of_pe pe_non (ev_at fun _ _ _ q => q)
/-- a flat value is a datum -/
theorem EvP.d {K : PySem.W.Frag} {te : TE} {d : PyData} (h : EvP te σ B (IsV v)) (hd : Dp K B v d) : EvP te σ B (IsD K d) := h.imp fun _ B1 e2 r => by
  cases r
  exact dp_grow hd e2
/-- what an operation by values yields -/
def RvP (r : R2) (x y : V) (B : Hp) (R : Rel) : Prop := ∀ H, Ex B H → ∀ Q : VK, Yields B H R Q → r x y H Q
theorem e_op {op : Operator} {r : R2} (ho : OpR X (binaryOp op) r) (ha : EvE X a σ B Ra) (hb : EvE X b σ B Rb) (hr : ∀ x y B1, Ex B B1 → Ra x B1 → Rb y B1 → RvP r x y B1 R) : EvE X (.BinOp a op b pos) σ B R :=
  of_pe (pe_op ho pe_w pe_w) fun H e1 Q q => ha H e1 _ fun x B1 H1 s1 r1 => (hb.mono s1.b) H1 s1.i _ fun y B2 H2 s2 r2 => hr x y B2 (s1.b.trans s2.b) (r1 B2 s2.b) (r2 B2 (Ex.refl B2)) H2 s2.i Q (q.go (s1.trans s2))
theorem e_cmp {op : CmpOp} {r : R2} (ho : OpR X (compareOp op) r) (ha : EvE X a σ B Ra) (hb : EvE X b σ B Rb) (hr : ∀ x y B1, Ex B B1 → Ra x B1 → Rb y B1 → RvP r x y B1 R) (hm : behindInMarks op b = false) : EvE X (.Compare a [op] [b] pos) σ B R :=
  of_pe (pe_cmpR ho pe_w pe_w hm) fun H e1 Q q => ha H e1 _ fun x B1 H1 s1 r1 => (hb.mono s1.b) H1 s1.i _ fun y B2 H2 s2 r2 => hr x y B2 (s1.b.trans s2.b) (r1 B2 s2.b) (r2 B2 (Ex.refl B2)) H2 s2.i Q (q.go (s1.trans s2))
theorem e_ix {r : R2} (hr0 : IxR X r) (ha : EvE X a σ B Ra) (hb : EvE X b σ B Rb) (hr : ∀ x y B1, Ex B B1 → Ra x B1 → Rb y B1 → RvP r x y B1 R) (hs : PlainIx b := by exact fun _ _ => rfl) : EvE X (.Subscript a b pos) σ B R :=
  of_pe (pe_ix hr0 pe_w pe_w hs) fun H e1 Q q => ha H e1 _ fun x B1 H1 s1 r1 => (hb.mono s1.b) H1 s1.i _ fun y B2 H2 s2 r2 => hr x y B2 (s1.b.trans s2.b) (r1 B2 s2.b) (r2 B2 (Ex.refl B2)) H2 s2.i Q (q.go (s1.trans s2))

/-! ### arguments -/
abbrev RelA := List V → Hp → Prop
def EvA' (ta : TA) (σ : Slots) (B : Hp) (RA : RelA) : Prop := ∀ H, Ex B H → ∀ Q : List V → Hp → Prop, (∀ vs B1 H1, Step B H B1 H1 → (∀ B2, Ex B1 B2 → RA vs B2) → Q vs H1) → ta σ H Q
abbrev EvAE (X : Cx) (es : List Expr) (σ : Slots) (B : Hp) (RA : RelA) : Prop := EvA' (wA X es) σ B RA
def ANil : RelA := fun vs _ => vs = []
def ACons (R : Rel) (RA : RelA) : RelA := fun vs H => ∃ v vs', vs = v :: vs' ∧ R v H ∧ RA vs' H
variable {es : List Expr} {RA : RelA}
theorem EvA'.mono {ta : TA} (ex : Ex B B') (h : EvA' ta σ B RA) : EvA' ta σ B' RA := fun H1 e1 Q y => by
  refine h H1 (ex.trans e1) Q fun vs B1 H2 s r => ?_
  refine y vs (fun a => match B1 a with | some o => some o | none => B' a) H2 ⟨fun a o q => ?_, fun a o q => ?_, s.h, fun a o h1 h2 => ?_⟩ fun B2 e2 => r B2 fun a o q => e2 a o ?_
  · show (match B1 a with | some o => some o | none => B' a) = some o
    cases q1 : B1 a with
    | none => exact q
    | some u =>
      have z1 := s.i a u q1
      have z2 := s.h a o (e1 a o q)
      rw [z1] at z2
      exact z2
  · have q' : (match B1 a with | some o => some o | none => B' a) = some o := q
    cases q1 : B1 a with
    | none =>
      rw [q1] at q'
      exact s.h a o (e1 a o q')
    | some u =>
      rw [q1] at q'
      cases q'
      exact s.i a o q1
  · show (match B1 a with | some o => some o | none => B' a) = none
    have hB : B a = none := fresh_back ex h1
    rw [s.off a o hB h2]
    exact h1
  · show (match B1 a with | some o => some o | none => B' a) = some o
    rw [q]
theorem a_nil : EvAE X [] σ B ANil := fun H e1 Q q => w_pa pa_nil (q [] B H (Step.refl e1) fun _ _ => rfl)
theorem a_cons (h : EvE X e σ B R) (hr : EvAE X es σ B RA) (hs : starEach (e :: es) X.env = (false, eval e X.env) :: starEach es X.env := by rfl) : EvAE X (e :: es) σ B (ACons R RA) := fun H e1 Q q =>
  w_pa (pa_cons pe_w pa_w hs) (h H e1 _ fun v B1 H1 s1 r => (hr.mono s1.b) H1 s1.i _ fun vs B2 H2 s2 r2 => q (v :: vs) B2 H2 (s1.trans s2) fun B3 e3 => ⟨v, vs, rfl, r B3 (s2.b.trans e3), r2 B3 e3⟩)
theorem a_one (h : EvE X e σ B R) (hs : starEach [e] X.env = (false, eval e X.env) :: starEach [] X.env := by rfl) : EvAE X [e] σ B (ACons R ANil) := a_cons h a_nil hs
/-- a display -/
theorem e_tup {k} (h : EvAE X es σ B RA) (hl : ∀ vs B1, RA vs B1 → vs.length ≤ 100000) : EvE X (.Tuple es k pos) σ B (fun v H1 => ∃ p vs, v = .ref p ∧ H1 p = some (.tup vs) ∧ RA vs H1) :=
  of_pe (pe_tup pa_w) fun H e1 Q q => h H e1 _ fun vs B1 H1 s1 r => ⟨sz_of (hl vs B1 (r B1 (Ex.refl B1))), fun p hp => q (.ref p) _ _ (s1.trans (Step.new s1.i hp)) fun B2 e2 => ⟨p, vs, rfl, e2 p _ upd_same, r B2 ((Ex.new (ex_none s1.i hp)).trans e2)⟩⟩
theorem e_lst (h : EvAE X es σ B RA) (hl : ∀ vs B1, RA vs B1 → vs.length ≤ 100000) : EvE X (.List es pos) σ B (fun v H1 => ∃ p vs, v = .ref p ∧ H1 p = some (.lst vs) ∧ RA vs H1) :=
  of_pe (pe_lst pa_w) fun H e1 Q q => h H e1 _ fun vs B1 H1 s1 r => ⟨sz_of (hl vs B1 (r B1 (Ex.refl B1))), fun p hp => q (.ref p) _ _ (s1.trans (Step.new s1.i hp)) fun B2 e2 => ⟨p, vs, rfl, e2 p _ upd_same, r B2 ((Ex.new (ex_none s1.i hp)).trans e2)⟩⟩
/-- arguments that are data -/
def AD (K : PySem.W.Frag) (ds : List PyData) : RelA := fun vs H => DpAll K H vs ds
theorem EvA'.imp {ta : TA} {RA' : RelA} (h : EvA' ta σ B RA) (k : ∀ vs B1, Ex B B1 → RA vs B1 → RA' vs B1) : EvA' ta σ B RA' := fun H e1 Q q => h H e1 Q fun vs B1 H1 s r => q vs B1 H1 s fun B2 e2 => k vs B2 (s.b.trans e2) (r B2 e2)
theorem ad_nil {K : PySem.W.Frag} : EvAE X [] σ B (AD K []) := a_nil.imp fun vs B1 _ e => by
  cases e
  exact .nil
theorem ad_cons {K : PySem.W.Frag} {d : PyData} {ds : List PyData} (h : EvE X e σ B (IsD K d)) (hr : EvAE X es σ B (AD K ds)) (hs : starEach (e :: es) X.env = (false, eval e X.env) :: starEach es X.env := by rfl) : EvAE X (e :: es) σ B (AD K (d :: ds)) :=
  (a_cons h hr hs).imp fun vs B1 _ r => by
    obtain ⟨v, vs', rfl, h1, h2⟩ := r
    exact .cons h1 h2
theorem e_tupD {K : PySem.W.Frag} {ds : List PyData} {k} (h : EvAE X es σ B (AD K ds)) (hl : ds.length ≤ 100000) : EvE X (.Tuple es k pos) σ B (IsD K (.tuple ds)) :=
  (e_tup h fun vs H1 r => by rw [dps_len r]; exact hl).imp fun v H2 _ r => by
    obtain ⟨p, vs, rfl, hp, hd⟩ := r
    exact .tup (st_of hp) hd
theorem e_lstD {K : PySem.W.Frag} {ds : List PyData} (h : EvAE X es σ B (AD K ds)) (hl : ds.length ≤ 100000) : EvE X (.List es pos) σ B (IsD K (.list ds)) :=
  (e_lst h fun vs H1 r => by rw [dps_len r]; exact hl).imp fun v H2 _ r => by
    obtain ⟨p, vs, rfl, hp, hd⟩ := r
    exact .lst (sq_of hp) hd

/-! ### calls -/
/-- a promise that only makes objects: pre of the arguments over a base, to a value that R describes -/
def Pure (pre : List V → Hp → Rel → Prop) : Sp := fun vs H Q _ => ∃ B R, Ex B H ∧ pre vs B R ∧ Yields B H R Q
theorem e_callB {n : Str} {id : String} {r : List V → Hp → VK → Prop} {p : Pos} (hc : CallR X (.builtin id) r) (hm : X.mg n = none) (hv : bootBuiltins n = some (.builtin id)) (ha : EvAE X (e :: es) σ B RA)
    (hr : ∀ vs B1, Ex B B1 → RA vs B1 → ∀ H1, Ex B1 H1 → ∀ Q : VK, Yields B1 H1 R Q → r vs H1 Q) (hg : Gl X n := by rfl) (hn : n ≠ "__name__" := by decide) (hd : (n == ("__debug__" : Str)) = false := by decide)
    (he : starEach (e :: es) X.env = (false, eval e X.env) :: starEach es X.env := by rfl) (hpl : (backTo pos (starEach es X.env)).any (·.1) = false := by rfl) : EvE X (.Call (.Name n p) (e :: es) [] pos) σ B R :=
  of_pe (pe_callB hc hg hm hv pa_w (hn := hn) (hdb := hd) (he := he) (hpl := hpl)) fun H e1 Q q => ha H e1 _ fun vs B1 H1 s1 k => hr vs B1 s1.b (k B1 (Ex.refl B1)) H1 s1.i Q (q.go s1)
theorem e_callTy {n : Str} {T : String} {r : List V → Hp → VK → Prop} {p : Pos} (hc : CallR X (.type T) r) (hm : X.mg n = none) (hv : bootBuiltins n = some (.type T)) (ha : EvAE X (e :: es) σ B RA)
    (hr : ∀ vs B1, Ex B B1 → RA vs B1 → ∀ H1, Ex B1 H1 → ∀ Q : VK, Yields B1 H1 R Q → r vs H1 Q) (hg : Gl X n := by rfl) (hn : n ≠ "__name__" := by decide) (hd : (n == ("__debug__" : Str)) = false := by decide)
    (he : starEach (e :: es) X.env = (false, eval e X.env) :: starEach es X.env := by rfl) (hpl : (backTo pos (starEach es X.env)).any (·.1) = false := by rfl) : EvE X (.Call (.Name n p) (e :: es) [] pos) σ B R :=
  of_pe (pe_callTy hc hg hm hv pa_w (hn := hn) (hdb := hd) (he := he) (hpl := hpl)) fun H e1 Q q => ha H e1 _ fun vs B1 H1 s1 k => hr vs B1 s1.b (k B1 (Ex.refl B1)) H1 s1.i Q (q.go s1)
/-- a def of the text, without defaults; what it promises is given for the arguments -/
theorem e_call {CX : CXT} {k : Nat} {f : Addr} {fd : FuncData} {ps : List Str} {sp : Sp} {E : XK} {n : Str} {p : Pos} (F : FnOk X.prog X.w X.K X.mg X.base CX k f fd ps sp) (hr : Room k X.A) (hm : X.mg n = some (.ref f)) (hk : PySem.W.keepIn X.K (.ref f) = true) (hb : Binds X.K fd ps []) (hx : Passes CX X E)
    (ha : EvAE X (e :: es) σ B RA) (hs : ∀ vs B1, Ex B B1 → RA vs B1 → ∀ H1, Ex B1 H1 → ∀ Q : VK, Yields B1 H1 R Q → sp vs H1 Q E) (hg : Gl X n := by rfl) (hdb : (n == ("__debug__" : Str)) = false := by decide)
    (he : starEach (e :: es) X.env = (false, eval e X.env) :: starEach es X.env := by rfl) (hpl : (backTo pos (starEach es X.env)).any (·.1) = false := by rfl) : EvE X (.Call (.Name n p) (e :: es) [] pos) σ B R :=
  of_pe (pe_call F hr hg hm hk hb .nil hx pa_w hdb he hpl) fun H e1 Q q => ha H e1 _ fun vs B1 H1 s1 k => by
    show sp (vs ++ []) H1 Q E
    rw [List.append_nil]
    exact hs vs B1 s1.b (k B1 (Ex.refl B1)) H1 s1.i Q (q.go s1)

/-! ### tests -/
def EvT' (tt : TT) (σ : Slots) (B : Hp) (k : Bool) : Prop := ∀ H, Ex B H → ∀ Q : Bool → Hp → Prop, (∀ B1 H1, Step B H B1 H1 → Q k H1) → tt σ H Q
abbrev EvTE (X : Cx) (e : Expr) (σ : Slots) (B : Hp) (k : Bool) : Prop := EvT' (wT X e) σ B k
variable {k k' : Bool}
theorem EvT'.mono {tt : TT} (ex : Ex B B') (h : EvT' tt σ B k) : EvT' tt σ B' k := fun H e1 Q y => h H (ex.trans e1) Q fun B1 H1 s => y B' H1 ⟨Ex.refl B', e1.trans s.h, s.h, fun _ _ h _ => h⟩
theorem EvT'.is {tt : TT} (h : EvT' tt σ B k) (e : k = k') : EvT' tt σ B k' := e ▸ h
theorem of_pt {t : TT} (h : PT X e t) (q : EvT' t σ B k) : EvTE X e σ B k := fun H1 e1 Q y => w_pt h (q H1 e1 Q y)
theorem t_cmp {op : CmpOp} {r : R2} (ho : OpR X (compareOp op) r) (ha : EvE X a σ B Ra) (hb : EvE X b σ B Rb) (hr : ∀ x y B1, Ex B B1 → Ra x B1 → Rb y B1 → RvP r x y B1 (IsV (.bl k))) (hm : behindInMarks op b = false) : EvTE X (.Compare a [op] [b] pos) σ B k :=
  of_pt (pt_cmpR ho pe_w pe_w hm) fun H e1 Q q => ha H e1 _ fun x B1 H1 s1 r1 => (hb.mono s1.b) H1 s1.i _ fun y B2 H2 s2 r2 => hr x y B2 (s1.b.trans s2.b) (r1 B2 s2.b) (r2 B2 (Ex.refl B2)) H2 s2.i _ fun v B3 H3 s3 r3 => ⟨k, r3 B3 (Ex.refl B3), q B3 H3 ((s1.trans s2).trans s3)⟩
theorem t_not (h : EvTE X e σ B k) : EvTE X (.UnaryOp .Not e pos) σ B (!k) := of_pt (pt_not pt_w) fun H1 e1 Q q => h H1 e1 _ fun B2 H2 s2 => q B2 H2 s2
/-- the truth of any value -/
theorem t_truth (h : EvE X e σ B R) (hk : ∀ v B1, Ex B B1 → R v B1 → ∀ H1, Ex B1 H1 → TruV X.K v H1 k) (he : ∀ whole, isTrue e X.env whole = (do let v ← whole; standAt e.pos; holding [v] (truthy v)) := by intro _; rfl) : EvTE X e σ B k :=
  of_pt (pt_truth pe_w he) fun H e1 Q q => h H e1 _ fun v B1 H1 s1 r => ⟨k, hk v B1 s1.b (r B1 (Ex.refl B1)) H1 s1.i, q B1 H1 s1⟩
end
end K8

/-! Statements and loops by weakest readings. -/
namespace K8
open PySem PySem.Spec PyProof.Rows L2 Evl

/-- a new object that does not yet belong to the base -/
def EvN (te : TE) (σ : Slots) (B : Hp) (R : Addr → Hp → Hp → Prop) : Prop := ∀ H, Ex B H → ∀ Q : VK, (∀ p B1 H1, H p = none → B1 p = none → Step B H B1 H1 → R p B1 H1 → Q (.ref p) H1) → te σ H Q
abbrev EvNE (X : Cx) (e : Expr) (σ : Slots) (B : Hp) (R : Addr → Hp → Hp → Prop) : Prop := EvN (wE X e) σ B R
/-- .. a list: vs over the base -/
def NewL (RA : RelA) : Addr → Hp → Hp → Prop := fun p B H => ∃ vs, H p = some (.lst vs) ∧ ∀ B2, Ex B B2 → RA vs B2
section
variable {X : Cx} {σ : Slots} {B B' H H' : Hp} {R R' Ra Rb : Rel} {e a b c l : Expr} {es : List Expr} {pos : Pos} {x y z v : V} {D : Ends} {st : Stmt} {rest body : List Stmt} {k : Bool} {RA : RelA}
theorem of_peN {t : TE} {R : Addr → Hp → Hp → Prop} (h : PE X e t) (k : EvN t σ B R) : EvNE X e σ B R := fun H1 e1 Q y => w_pe h (k H1 e1 Q y)
theorem n_lst (h : EvAE X es σ B RA) (hl : ∀ vs B1, RA vs B1 → vs.length ≤ 100000) : EvNE X (.List es pos) σ B (NewL RA) :=
  of_peN (pe_lst pa_w) fun H e1 Q q => h H e1 _ fun vs B1 H1 s1 r => ⟨sz_of (hl vs B1 (r B1 (Ex.refl B1))), fun p hp => q p B1 _ (fresh_back s1.h hp) (ex_none s1.i hp) (s1.trans (Step.mut s1.i hp)) ⟨vs, upd_same, r⟩⟩

/-! ### blocks -/
theorem b_nil (h : D.nx σ H) : wB X [] D σ H := w_pss pss_nil h
theorem b_one (h : wS X st D σ H) : wB X [st] D σ H := w_pss (pss_one ps_w) h
theorem b_cons (h : wS X st { D with nx := wB X rest D } σ H) : wB X (st :: rest) D σ H := w_pss (pss_cons ps_w pss_w) h
theorem s_ret (e0 : Ex B H) (h : EvE X e σ B R) (k : ∀ v B1 H1, Step B H B1 H1 → (∀ B2, Ex B1 B2 → R v B2) → D.rt v H1) : wS X (.Return (some e) pos) D σ H := w_ps (ps_ret pe_w) (h.run e0 k)
/-- return what the promise wants -/
theorem s_retY (e0 : Ex B H) (h : EvE X e σ B R) (y : Yields B H R D.rt) : wS X (.Return (some e) pos) D σ H := s_ret e0 h y
theorem s_if (e0 : Ex B H) (h : EvTE X c σ B k) {s1 s2 : List Stmt} (h1 : k = true → ∀ H1, Step B H B H1 → wB X s1 D σ H1) (h2 : k = false → ∀ H1, Step B H B H1 → wB X s2 D σ H1) : wS X (.If c s1 s2 pos) D σ H :=
  w_ps (ps_if pt_w pss_w pss_w) (h H e0 _ fun B1 H1 s => by
    have s' : Step B H B H1 := ⟨Ex.refl B, e0.trans s.h, s.h, fun _ _ h _ => h⟩
    cases k with
    | true => exact h1 rfl H1 s'
    | false => exact h2 rfl H1 s')
theorem s_set (i : Nat) {n : Str} {p : Pos} (e0 : Ex B H) (h : EvE X e σ B R) (k : ∀ v B1 H1, Step B H B1 H1 → (∀ B2, Ex B1 B2 → R v B2) → D.nx (σ.set i (some v)) H1) (hN : X.N.Nodup) (hi : X.N[i]? = some n := by rfl) (hx : Loc X.env.scope n := by first | exact Or.inl rfl | exact Or.inr rfl)
    (hs : swapsWith e (some (.Name n p)) pos.line X.env = pure false := by rfl) (hf : X.fn n = true ∨ X.env.scope.names.lookup n = some .local := by first | exact .inl rfl | exact .inr rfl) : wS X (.Assign [.Name n p] e pos) D σ H :=
  w_ps (ps_set hN hi hx pe_w hs hf) (h.run e0 k)
theorem s_setN (i : Nat) {n : Str} {p : Pos} {RN : Addr → Hp → Hp → Prop} (e0 : Ex B H) (h : EvNE X e σ B RN) (k : ∀ q B1 H1, H q = none → B1 q = none → Step B H B1 H1 → RN q B1 H1 → D.nx (σ.set i (some (.ref q))) H1) (hN : X.N.Nodup) (hi : X.N[i]? = some n := by rfl) (hx : Loc X.env.scope n := by first | exact Or.inl rfl | exact Or.inr rfl)
    (hs : swapsWith e (some (.Name n p)) pos.line X.env = pure false := by rfl) (hf : X.fn n = true ∨ X.env.scope.names.lookup n = some .local := by first | exact .inl rfl | exact .inr rfl) : wS X (.Assign [.Name n p] e pos) D σ H :=
  w_ps (ps_set hN hi hx pe_w hs hf) (h H e0 _ k)
theorem s_expr (e0 : Ex B H) (h : EvE X e σ B R) (k : ∀ B1 H1, Step B H B1 H1 → D.nx σ H1) (hs : swapsWith e none pos.line X.env = pure false := by rfl) : wS X (.Expr e pos) D σ H := w_ps (ps_expr pe_w hs) (h.run e0 fun _ B1 H1 s _ => k B1 H1 s)
/-- a list that may change, beside the base -/
structure Beside (B H : Hp) (p : Addr) (o : HO) : Prop where
  no : B p = none
  at_ : H p = some o
theorem Beside.go {B H B1 H1 : Hp} {p : Addr} {o : HO} (h : Beside B H p o) (s : Step B H B1 H1) : Beside B1 H1 p o := ⟨s.off p o h.no h.at_, s.h p o h.at_⟩
/-- the change of such a thing -/
theorem ex_put {B H : Hp} {p : Addr} {o : HO} (e : Ex B H) (h : B p = none) : Ex B (upd H p o) := fun a u q => by
  rw [upd_ne (ne_of_none q h)]
  exact e a u q
theorem Beside.put {B H : Hp} {p : Addr} {o u : HO} (h : Beside B H p o) : Beside B (upd H p u) p u := ⟨h.no, upd_same⟩
theorem Beside.other {B H : Hp} {p q : Addr} {o u : HO} (h : Beside B H p o) (ne : p ≠ q) : Beside B (upd H q u) p o := ⟨h.no, by rw [upd_ne ne]; exact h.at_⟩
/-- xs.append(e), xs at l, beside the base -/
theorem s_app {lx : Addr} {xs : List V} {o e : Expr} {apos cpos : Pos} (e0 : Ex B H) (ho : EvE X o σ B (IsV (.ref lx))) (h : EvE X e σ B R) (hl : H lx = some (.lst xs)) (hz : xs.length < 100000) (k : ∀ v B1 H1, Step B H B1 H1 → (∀ B2, Ex B1 B2 → R v B2) → D.nx σ (upd H1 lx (.lst (xs ++ [v]))))
    (hp : ∀ {to : TE} {t : TA}, PE X o to → PA X [e] t → PE X (.Call (.Attribute o "append" apos) [e] [] cpos) (tBM X.K "list" rAppend to t) := by exact fun h1 h2 => pe_bm PySem.F.plainAttrs_list PySem.F.slot_list_append PySem.F.type_list_append mt_append h1 h2)
    (hs : swapsWith (.Call (.Attribute o "append" apos) [e] [] cpos) none pos.line X.env = pure false := by rfl) (he : starEach [e] X.env = (false, eval e X.env) :: starEach [] X.env := by rfl) :
    wS X (.Expr (.Call (.Attribute o "append" apos) [e] [] cpos) pos) D σ H :=
  w_ps (ps_expr (hp pe_w (pa_cons pe_w pa_nil he)) hs) (ho.run e0 fun v1 B1 H1 s1 r1 => by
    have ev : v1 = .ref lx := r1 B1 (Ex.refl B1)
    subst ev
    exact ⟨.inl ⟨rfl, xs, sq_of (s1.h lx _ hl)⟩, (h.mono s1.b).run s1.i fun v2 B2 H2 s2 r2 => ⟨lx, xs, v2, rfl, rfl, s2.h lx _ (s1.h lx _ hl), sz_lt hz, k v2 B2 H2 (s1.trans s2) r2⟩⟩)

/-! ### for -/
theorem s_for {wi : TI} {g : TG} {tg : Expr} (hp : PassesOwn (model X.prog X.w) X.A X.env X.xe) (hc : X.calm = true) (hi : PI X tg l wi) (hg : PG X tg g) (h : tFor wi g (wB X body) D σ H) (hs : ∀ x, foldedSetIterable l X.env x = pure x := by intro _; rfl) :
    wS X (.For tg l body [] pos) D σ H := w_ps (ps_for hp hc hi hg pss_w hs) h
/-- over a list -/
theorem s_forL {g : TG} {tg : Expr} (hp : PassesOwn (model X.prog X.w) X.A X.env X.xe) (hc : X.calm = true) (hg : PG X tg g) (e0 : Ex B H) (src : EvE X l σ B R)
    (k : ∀ v B1 H1, Step B H B1 H1 → (∀ B2, Ex B1 B2 → R v B2) → ∃ a xs, v = .ref a ∧ SqL X.K H1 a xs ∧ ∃ Pv : Nat → Slots → Hp → Prop, Pv 0 σ H1 ∧ (∀ i σ' H', i ≤ xs.length → Pv i σ' H' → SqL X.K H' a xs) ∧
      (∀ i x σ' H', xs[i]? = some x → Pv i σ' H' → g x σ' H' fun σ2 H2 => wB X body { D with nx := Pv (i + 1), ct := Pv (i + 1), bk := D.nx } σ2 H2) ∧ (∀ σ' H', Pv xs.length σ' H' → D.nx σ' H'))
    (hs : ∀ x, foldedSetIterable l X.env x = pure x := by intro _; rfl) : wS X (.For tg l body [] pos) D σ H :=
  s_for hp hc (pi_list pe_w) hg (src.run e0 fun v B1 H1 e1 r => by
    obtain ⟨a, xs, rfl, hx, Pv, h0, hl, ht, hd⟩ := k v B1 H1 e1 r
    exact ⟨a, rfl, ⟨xs, hx⟩, for_list Pv h0 hl ht hd⟩) hs
theorem s_forT {g : TG} {tg : Expr} (hp : PassesOwn (model X.prog X.w) X.A X.env X.xe) (hc : X.calm = true) (hg : PG X tg g) (e0 : Ex B H) (src : EvE X l σ B R)
    (k : ∀ v B1 H1, Step B H B1 H1 → (∀ B2, Ex B1 B2 → R v B2) → ∃ a xs, v = .ref a ∧ SqT X.K H1 a xs ∧ ∃ Pv : Nat → Slots → Hp → Prop, Pv 0 σ H1 ∧ (∀ i σ' H', i ≤ xs.length → Pv i σ' H' → SqT X.K H' a xs) ∧
      (∀ i x σ' H', xs[i]? = some x → Pv i σ' H' → g x σ' H' fun σ2 H2 => wB X body { D with nx := Pv (i + 1), ct := Pv (i + 1), bk := D.nx } σ2 H2) ∧ (∀ σ' H', Pv xs.length σ' H' → D.nx σ' H'))
    (hs : ∀ x, foldedSetIterable l X.env x = pure x := by intro _; rfl) : wS X (.For tg l body [] pos) D σ H :=
  s_for hp hc (pi_tup pe_w) hg (src.run e0 fun v B1 H1 e1 r => by
    obtain ⟨a, xs, rfl, hx, Pv, h0, hl, ht, hd⟩ := k v B1 H1 e1 r
    exact ⟨a, rfl, ⟨xs, hx⟩, for_tup Pv h0 hl ht hd⟩) hs
theorem wB_imp {D D' : Ends} (h : wB X body D σ H) (h1 : ∀ σ H, D.nx σ H → D'.nx σ H) (h2 : ∀ v H, D.rt v H → D'.rt v H) (h3 : ∀ σ H, D.bk σ H → D'.bk σ H) (h4 : ∀ σ H, D.ct σ H → D'.ct σ H) : wB X body D' σ H := fun pins s I =>
  thn (h pins s I) fun f s1 q => by
    cases f with
    | next => obtain ⟨σ', H', I', q⟩ := q; exact ⟨σ', H', I', h1 _ _ q⟩
    | brk => obtain ⟨σ', H', I', q⟩ := q; exact ⟨σ', H', I', h3 _ _ q⟩
    | cont => obtain ⟨σ', H', I', q⟩ := q; exact ⟨σ', H', I', h4 _ _ q⟩
    | ret v => obtain ⟨v', σ', H', I', r, q⟩ := q; exact ⟨v', σ', H', I', r, h2 _ _ q⟩
/-- how a loop's turn goes on: the base stays, or grows by what is new -/
abbrev turn (D : Ends) (P : Slots → Hp → Hp → Prop) : Ends := { D with nx := fun σ3 H3 => ∃ B3, P σ3 B3 H3, ct := fun σ3 H3 => ∃ B3, P σ3 B3 H3, bk := D.nx }
/-- over a list of data; P: turn, slots, base, heap; i: the target's slot. P says of a base that it is over B1 and below the heap -/
theorem for_l {α : Type} {i : Nat} {tg : Expr} (L : List α) (enc : α → PyData) (P : Nat → Slots → Hp → Hp → Prop) (hp : PassesOwn (model X.prog X.w) X.A X.env X.xe) (hc : X.calm = true) (hg : PG X tg (gName i)) (e0 : Ex B H) (src : EvE X l σ B (IsD X.K (.list (L.map enc))))
    (h0 : ∀ B1 H1, Step B H B1 H1 → P 0 σ B1 H1)
    (ht : ∀ j a v σ' B' H', L[j]? = some a → Ex B B' → Ex B' H' → Dp X.K B' v (enc a) → P j σ' B' H' → wB X body (turn D fun σ3 B3 H3 => P (j + 1) σ3 B3 H3 ∧ Ex B' B3 ∧ Ex B3 H3) (σ'.set i (some v)) H') (hd : ∀ σ' B' H', Ex B B' → Ex B' H' → P L.length σ' B' H' → D.nx σ' H')
    (hs : ∀ x, foldedSetIterable l X.env x = pure x := by intro _; rfl) : wS X (.For tg l body [] pos) D σ H :=
  s_forL hp hc hg e0 src (fun v B1 H1 s1 r => by
    have r1 := r B1 (Ex.refl B1)
    cases r1 with
    | lst hq ha =>
      rename_i a xs
      have hl : xs.length = L.length := by rw [dps_len ha, List.length_map]
      refine ⟨a, xs, rfl, ex_l s1.i hq, fun j σ' H' => ∃ B', P j σ' B' H' ∧ Ex B1 B' ∧ Ex B' H', ⟨B1, h0 B1 H1 s1, Ex.refl B1, s1.i⟩, fun j σ' H' _ ⟨B', _, q1, q2⟩ => ex_l (q1.trans q2) hq, fun j x σ' H' hx ⟨B', q, q1, q2⟩ => ?_, fun σ' H' ⟨B', q, q1, q2⟩ => hd σ' B' H' (s1.b.trans q1) q2 (hl ▸ q)⟩
      obtain ⟨d, hd1, hd2⟩ := dps_get ha hx
      rw [List.getElem?_map] at hd1
      obtain ⟨w, hw, rfl⟩ := Option.map_eq_some_iff.mp hd1
      exact wB_imp (ht j w x σ' B' H' hw (s1.b.trans q1) q2 (dp_grow hd2 q1) q) (fun _ _ ⟨B3, p, z1, z2⟩ => ⟨B3, p, q1.trans z1, z2⟩) (fun _ _ q => q) (fun _ _ q => q) (fun _ _ ⟨B3, p, z1, z2⟩ => ⟨B3, p, q1.trans z1, z2⟩)) hs
theorem for_t {α : Type} {i : Nat} {tg : Expr} (L : List α) (enc : α → PyData) (P : Nat → Slots → Hp → Hp → Prop) (hp : PassesOwn (model X.prog X.w) X.A X.env X.xe) (hc : X.calm = true) (hg : PG X tg (gName i)) (e0 : Ex B H) (src : EvE X l σ B (IsD X.K (.tuple (L.map enc))))
    (h0 : ∀ B1 H1, Step B H B1 H1 → P 0 σ B1 H1)
    (ht : ∀ j a v σ' B' H', L[j]? = some a → Ex B B' → Ex B' H' → Dp X.K B' v (enc a) → P j σ' B' H' → wB X body (turn D fun σ3 B3 H3 => P (j + 1) σ3 B3 H3 ∧ Ex B' B3 ∧ Ex B3 H3) (σ'.set i (some v)) H') (hd : ∀ σ' B' H', Ex B B' → Ex B' H' → P L.length σ' B' H' → D.nx σ' H')
    (hs : ∀ x, foldedSetIterable l X.env x = pure x := by intro _; rfl) : wS X (.For tg l body [] pos) D σ H :=
  s_forT hp hc hg e0 src (fun v B1 H1 s1 r => by
    have r1 := r B1 (Ex.refl B1)
    cases r1 with
    | tup hq ha =>
      rename_i a xs
      have hl : xs.length = L.length := by rw [dps_len ha, List.length_map]
      refine ⟨a, xs, rfl, ex_t s1.i hq, fun j σ' H' => ∃ B', P j σ' B' H' ∧ Ex B1 B' ∧ Ex B' H', ⟨B1, h0 B1 H1 s1, Ex.refl B1, s1.i⟩, fun j σ' H' _ ⟨B', _, q1, q2⟩ => ex_t (q1.trans q2) hq, fun j x σ' H' hx ⟨B', q, q1, q2⟩ => ?_, fun σ' H' ⟨B', q, q1, q2⟩ => hd σ' B' H' (s1.b.trans q1) q2 (hl ▸ q)⟩
      obtain ⟨d, hd1, hd2⟩ := dps_get ha hx
      rw [List.getElem?_map] at hd1
      obtain ⟨w, hw, rfl⟩ := Option.map_eq_some_iff.mp hd1
      exact wB_imp (ht j w x σ' B' H' hw (s1.b.trans q1) q2 (dp_grow hd2 q1) q) (fun _ _ ⟨B3, p, z1, z2⟩ => ⟨B3, p, q1.trans z1, z2⟩) (fun _ _ q => q) (fun _ _ q => q) (fun _ _ ⟨B3, p, z1, z2⟩ => ⟨B3, p, q1.trans z1, z2⟩)) hs
/-- over range(n) -/
theorem for_r {i : Nat} {tg : Expr} {n : Int} {p pos' : Pos} (P : Nat → Slots → Hp → Hp → Prop) (hp : PassesOwn (model X.prog X.w) X.A X.env X.xe) (hc : X.calm = true) (hg : PG X tg (gName i)) (hm : X.mg "range" = none) (e0 : Ex B H) (src : EvE X a σ B (IsV (.int n))) (hn : 0 ≤ n ∧ n ≤ 100000)
    (h0 : ∀ B1 H1, Step B H B1 H1 → P 0 σ B1 H1)
    (ht : ∀ (j : Nat) σ' B' H', j < n.toNat → Ex B B' → Ex B' H' → P j σ' B' H' → wB X body (turn D fun σ3 B3 H3 => P (j + 1) σ3 B3 H3 ∧ Ex B' B3 ∧ Ex B3 H3) (σ'.set i (some (.int (j : Int)))) H') (hd : ∀ σ' B' H', Ex B B' → Ex B' H' → P n.toNat σ' B' H' → D.nx σ' H') (hgl : Gl X "range" := by rfl)
    (hst : starEach [a] X.env = [(false, eval a X.env)] := by rfl) (hs : ∀ x, foldedSetIterable (.Call (.Name "range" p) [a] [] pos') X.env x = pure x := by intro _; rfl) : wS X (.For tg (.Call (.Name "range" p) [a] [] pos') body [] pos) D σ H :=
  s_for hp hc (pi_range1 hgl hm (pa_cons pe_w pa_nil hst) hst) hg (src.run e0 fun v B1 H1 s1 r => by
    have ev : v = .int n := r B1 (Ex.refl B1)
    subst ev
    refine ⟨n, rfl, by omega, by omega, for_range (lo := 0) (n := n.toNat) (fun j σ' H' => ∃ B', P j σ' B' H' ∧ Ex B1 B' ∧ Ex B' H') ⟨B1, h0 B1 H1 s1, Ex.refl B1, s1.i⟩ (fun j σ' H' hj ⟨B', q, q1, q2⟩ => ?_) fun σ' H' ⟨B', q, q1, q2⟩ => hd σ' B' H' (s1.b.trans q1) q2 q⟩
    have ez : (0 : Int) + (j : Int) = (j : Int) := Int.zero_add _
    show wB X body { D with nx := _, ct := _, bk := D.nx } (σ'.set i (some (.int ((0 : Int) + (j : Int))))) H'
    rw [ez]
    exact wB_imp (ht j σ' B' H' hj (s1.b.trans q1) q2 q) (fun _ _ ⟨B3, p, z1, z2⟩ => ⟨B3, p, q1.trans z1, z2⟩) (fun _ _ q => q) (fun _ _ q => q) (fun _ _ ⟨B3, p, z1, z2⟩ => ⟨B3, p, q1.trans z1, z2⟩)) hs
/-- the same where nothing beside the slots is carried -/
theorem for_lS {α : Type} {i : Nat} {tg : Expr} (L : List α) (enc : α → PyData) (Pv : Nat → Slots → Prop) (hp : PassesOwn (model X.prog X.w) X.A X.env X.xe) (hc : X.calm = true) (hg : PG X tg (gName i)) (e0 : Ex B H) (src : EvE X l σ B (IsD X.K (.list (L.map enc)))) (h0 : Pv 0 σ)
    (ht : ∀ j a v σ' B' H', L[j]? = some a → Step B H B' H' → Dp X.K B' v (enc a) → Pv j σ' → wB X body (turn D fun σ3 B3 H3 => Pv (j + 1) σ3 ∧ Step B' H' B3 H3) (σ'.set i (some v)) H') (hd : ∀ σ' B' H', Step B H B' H' → Pv L.length σ' → D.nx σ' H')
    (hs : ∀ x, foldedSetIterable l X.env x = pure x := by intro _; rfl) : wS X (.For tg l body [] pos) D σ H :=
  for_l L enc (fun j σ' B' H' => Pv j σ' ∧ Step B H B' H') hp hc hg e0 src (fun B1 H1 s => ⟨h0, s⟩) (fun j a v σ' B' H' ha _ _ hv q => wB_imp (ht j a v σ' B' H' ha q.2 hv q.1) (fun _ _ ⟨B3, p, z⟩ => ⟨B3, ⟨p, q.2.trans z⟩, z.b, z.i⟩) (fun _ _ q => q) (fun _ _ q => q) (fun _ _ ⟨B3, p, z⟩ => ⟨B3, ⟨p, q.2.trans z⟩, z.b, z.i⟩)) (fun σ' B' H' _ _ q => hd σ' B' H' q.2 q.1) hs
theorem for_tS {α : Type} {i : Nat} {tg : Expr} (L : List α) (enc : α → PyData) (Pv : Nat → Slots → Prop) (hp : PassesOwn (model X.prog X.w) X.A X.env X.xe) (hc : X.calm = true) (hg : PG X tg (gName i)) (e0 : Ex B H) (src : EvE X l σ B (IsD X.K (.tuple (L.map enc)))) (h0 : Pv 0 σ)
    (ht : ∀ j a v σ' B' H', L[j]? = some a → Step B H B' H' → Dp X.K B' v (enc a) → Pv j σ' → wB X body (turn D fun σ3 B3 H3 => Pv (j + 1) σ3 ∧ Step B' H' B3 H3) (σ'.set i (some v)) H') (hd : ∀ σ' B' H', Step B H B' H' → Pv L.length σ' → D.nx σ' H')
    (hs : ∀ x, foldedSetIterable l X.env x = pure x := by intro _; rfl) : wS X (.For tg l body [] pos) D σ H :=
  for_t L enc (fun j σ' B' H' => Pv j σ' ∧ Step B H B' H') hp hc hg e0 src (fun B1 H1 s => ⟨h0, s⟩) (fun j a v σ' B' H' ha _ _ hv q => wB_imp (ht j a v σ' B' H' ha q.2 hv q.1) (fun _ _ ⟨B3, p, z⟩ => ⟨B3, ⟨p, q.2.trans z⟩, z.b, z.i⟩) (fun _ _ q => q) (fun _ _ q => q) (fun _ _ ⟨B3, p, z⟩ => ⟨B3, ⟨p, q.2.trans z⟩, z.b, z.i⟩)) (fun σ' B' H' _ _ q => hd σ' B' H' q.2 q.1) hs
theorem for_rS {i : Nat} {tg : Expr} {n : Int} {p pos' : Pos} (Pv : Nat → Slots → Prop) (hp : PassesOwn (model X.prog X.w) X.A X.env X.xe) (hc : X.calm = true) (hg : PG X tg (gName i)) (hm : X.mg "range" = none) (e0 : Ex B H) (src : EvE X a σ B (IsV (.int n))) (hn : 0 ≤ n ∧ n ≤ 100000) (h0 : Pv 0 σ)
    (ht : ∀ (j : Nat) σ' B' H', j < n.toNat → Step B H B' H' → Pv j σ' → wB X body (turn D fun σ3 B3 H3 => Pv (j + 1) σ3 ∧ Step B' H' B3 H3) (σ'.set i (some (.int (j : Int)))) H') (hd : ∀ σ' B' H', Step B H B' H' → Pv n.toNat σ' → D.nx σ' H') (hgl : Gl X "range" := by rfl)
    (hst : starEach [a] X.env = [(false, eval a X.env)] := by rfl) (hs : ∀ x, foldedSetIterable (.Call (.Name "range" p) [a] [] pos') X.env x = pure x := by intro _; rfl) : wS X (.For tg (.Call (.Name "range" p) [a] [] pos') body [] pos) D σ H :=
  for_r (fun j σ' B' H' => Pv j σ' ∧ Step B H B' H') hp hc hg hm e0 src hn (fun B1 H1 s => ⟨h0, s⟩) (fun j σ' B' H' ha _ _ q => wB_imp (ht j σ' B' H' ha q.2 q.1) (fun _ _ ⟨B3, p, z⟩ => ⟨B3, ⟨p, q.2.trans z⟩, z.b, z.i⟩) (fun _ _ q => q) (fun _ _ q => q) (fun _ _ ⟨B3, p, z⟩ => ⟨B3, ⟨p, q.2.trans z⟩, z.b, z.i⟩)) (fun σ' B' H' _ _ q => hd σ' B' H' q.2 q.1) hgl hst hs
/-- a turn's end -/
theorem turn_nx {P : Slots → Hp → Hp → Prop} {σ' : Slots} {B3 H3 : Hp} (h : P σ' B3 H3) : (turn D P).nx σ' H3 := ⟨B3, h⟩
end
end K8

/-! What operations on data yield. -/
namespace K8
open PySem PySem.Spec PyProof.Rows L2 Evl

/-- a tracked list of data -/
def IsTL (K : PySem.W.Frag) (ds : List PyData) : Rel := fun v H => ∃ p vs, v = .ref p ∧ H p = some (.lst vs) ∧ DpAll K H vs ds
theorem isTL_d {K : PySem.W.Frag} {ds : List PyData} {v : V} {H : Hp} (h : IsTL K ds v H) : IsD K (.list ds) v H := by
  obtain ⟨p, vs, rfl, hp, hd⟩ := h
  exact .lst (sq_of hp) hd
/-- a datum's type -/
def tyN : PyData → String
  | .none => "NoneType"
  | .bool _ => "bool"
  | .int _ => "int"
  | .str _ => "str"
  | .list _ => "list"
  | .tuple _ => "tuple"
  | .dict _ => "dict"
theorem dp_ty {K : PySem.W.Frag} {H : Hp} {v : V} {d : PyData} (h : Dp K H v d) : TyX K H v (.type (tyN d)) := by
  cases h with
  | non => exact .base .non
  | bl b => exact .base (.bl b)
  | int i => exact .base (.int i)
  | str x => exact .base (.str x)
  | lst hs _ =>
    rcases hs with (h | ⟨o, h⟩) | ⟨o, its, n, h, c, _⟩
    · exact .base (.lst h)
    · exact .base (.frz h)
    · exact .kList h c
  | tup hs _ =>
    rcases hs with (h | ⟨o, h⟩) | ⟨o, its, n, h, c, _⟩
    · exact .base (.tup h)
    · exact .fTuple h
    · exact .kTuple h c
def isInt : PyData → Bool | .int _ => true | .bool _ => true | _ => false
def isBool : PyData → Bool | .bool _ => true | _ => false
def isStr : PyData → Bool | .str _ => true | _ => false
def isTuple : PyData → Bool | .tuple _ => true | _ => false
def isList : PyData → Bool | .list _ => true | _ => false
theorem kit_int (d : PyData) : kitB (tyN d) "int" = some (isInt d) := by cases d <;> simp only [tyN, isInt] <;> decide +kernel
theorem kit_bool (d : PyData) : kitB (tyN d) "bool" = some (isBool d) := by cases d <;> simp only [tyN, isBool] <;> decide +kernel
theorem kit_str (d : PyData) : kitB (tyN d) "str" = some (isStr d) := by cases d <;> simp only [tyN, isStr] <;> decide +kernel
theorem kit_tuple (d : PyData) : kitB (tyN d) "tuple" = some (isTuple d) := by cases d <;> simp only [tyN, isTuple] <;> decide +kernel
theorem kit_list (d : PyData) : kitB (tyN d) "list" = some (isList d) := by cases d <;> simp only [tyN, isList] <;> decide +kernel
theorem hi_ty (T : String) : RelV (.ty T) (.type T) := rfl

section
variable {X : Cx} {σ : Slots} {B B' H H' : Hp} {R R' Ra Rb : Rel} {e a b c l : Expr} {es rest : List Expr} {pos p : Pos} {x y z v : V} {K : PySem.W.Frag} {d d1 d2 : PyData} {ds es' : List PyData} {k k1 k2 : Bool} {i j : Int}

/-- a global's built-in class as a value -/
theorem e_ty {n : Str} {T : String} (hm : X.mg n = none) (hv : bootBuiltins n = some (.type T)) (hg : Gl X n := by rfl) (hn : n ≠ "__name__" := by decide) (hd : (n == ("__debug__" : Str)) = false := by decide) : EvE X (.Name n pos) σ B (IsV (.ty T)) :=
  of_pe (pe_bltn hg hm hv (hi_ty T) hn hd) (ev_at fun _ _ _ q => q)
theorem e_glob {n : Str} {u : Value} (hm : X.mg n = some u) (r : RelV v u) (hg : Gl X n := by rfl) (hd : (n == ("__debug__" : Str)) = false := by decide) : EvE X (.Name n pos) σ B (IsV v) :=
  of_pe (pe_glob hg hm r hd) (ev_at fun _ _ _ q => q)
/-- isinstance(e, T), T a built-in class -/
theorem e_isi {n : Str} {T : String} {pT : Pos} (hi : X.mg "isinstance" = none) (he : EvE X e σ B (IsD X.K d)) (hm : X.mg n = none) (hv : bootBuiltins n = some (.type T)) (hk : kitB (tyN d) T = some k) (hg : Gl X n := by rfl) (hgi : Gl X "isinstance" := by rfl) (hn : n ≠ "__name__" := by decide) (hd : (n == ("__debug__" : Str)) = false := by decide)
    (hs : starEach [e, .Name n pT] X.env = (false, eval e X.env) :: starEach [.Name n pT] X.env := by rfl) (hs2 : starEach [.Name n pT] X.env = (false, eval (.Name n pT) X.env) :: starEach [] X.env := by rfl) (hpl : (backTo pos (starEach [.Name n pT] X.env)).any (·.1) = false := by rfl) :
    EvE X (.Call (.Name "isinstance" p) [e, .Name n pT] [] pos) σ B (IsV (.bl k)) :=
  e_callB (R := IsV (.bl k)) call_isi hi (by decide +kernel) (a_cons he (a_one (e_ty hm hv hg hn hd) hs2) hs) (fun vs B1 e1 r H1 i1 Q q => by
    obtain ⟨v1, vs1, rfl, r1, v2, vs2, rfl, r2, r3⟩ := r
    have e2 : v2 = .ty T := r2
    have e3 : vs2 = [] := r3
    subst e2 e3
    exact ⟨v1, .ty T, _, _, k, rfl, .ty T, dp_ty (dp_grow r1 i1), hk, q.val i1⟩) hgi (he := hs) (hpl := hpl)
/-! ### len, places -/
def lenD : PyData → Option Nat
  | .str s => some s.length
  | .list ds => some ds.length
  | .tuple ds => some ds.length
  | _ => none
theorem e_len {n : Nat} (hm : X.mg "len" = none) (he : EvE X e σ B (IsD X.K d)) (hl : lenD d = some n) (hz : n ≤ 100000) (hg : Gl X "len" := by rfl) (hs : starEach [e] X.env = (false, eval e X.env) :: starEach [] X.env := by rfl) (hpl : (backTo pos (starEach [] X.env)).any (·.1) = false := by rfl) :
    EvE X (.Call (.Name "len" p) [e] [] pos) σ B (IsV (.int (n : Int))) :=
  e_callB (R := IsV (.int (n : Int))) call_len hm PySem.boot_len (a_one he hs) (fun vs B1 e1 r H1 i1 Q q => by
    obtain ⟨v1, vs1, rfl, r1, r3⟩ := r
    have e3 : vs1 = [] := r3
    subst e3
    refine ⟨v1, n, rfl, ?_, q.val i1⟩
    cases r1 with
    | str s =>
      have e : s.length = n := Option.some.inj hl
      exact ⟨by rw [e]; exact sz_of hz, e.symm⟩
    | lst h1 h2 =>
      have e := Option.some.inj hl
      exact .inl ⟨_, ex_l i1 h1, by rw [dps_len h2]; exact e.symm⟩
    | tup h1 h2 =>
      have e := Option.some.inj hl
      exact .inr ⟨_, ex_t i1 h1, by rw [dps_len h2]; exact e.symm⟩
    | _ => cases hl) hg (he := hs) (hpl := hpl)
theorem atI_dps {H : Hp} {ds : List PyData} {vs : List V} {i : Int} {d : PyData} (h : DpAll K H vs ds) (e : atI ds i = some d) : ∃ v, atI vs i = some v ∧ Dp K H v d := by
  unfold atI at e ⊢
  rw [dps_len h]
  cases q : ixN ds.length i with
  | none =>
    rw [q] at e
    cases e
  | some j =>
    rw [q] at e
    exact dps_get' h e
theorem e_ixT (ha : EvE X a σ B (IsD X.K (.tuple ds))) (hb : EvE X b σ B (IsV (.int i))) (h : atI ds i = some d) (hs : PlainIx b := by exact fun _ _ => rfl) : EvE X (.Subscript a b pos) σ B (IsD X.K d) :=
  e_ix ix_tup ha hb (fun x y B1 e1 r1 r2 H1 i1 Q q => by
    cases r2
    cases r1 with
    | tup h1 h2 =>
      obtain ⟨v, hv, hd⟩ := atI_dps h2 h
      exact ⟨_, _, i, v, rfl, rfl, ex_t i1 h1, hv, q.at i1 (isD_stable hd)⟩) hs
theorem e_ixL (ha : EvE X a σ B (IsD X.K (.list ds))) (hb : EvE X b σ B (IsV (.int i))) (h : atI ds i = some d) (hs : PlainIx b := by exact fun _ _ => rfl) : EvE X (.Subscript a b pos) σ B (IsD X.K d) :=
  e_ix ix_list ha hb (fun x y B1 e1 r1 r2 H1 i1 Q q => by
    cases r2
    cases r1 with
    | lst h1 h2 =>
      obtain ⟨v, hv, hd⟩ := atI_dps h2 h
      exact ⟨_, _, i, v, rfl, rfl, ex_l i1 h1, hv, q.at i1 (isD_stable hd)⟩) hs
theorem e_ixS {s : Str} {ch : Nat} (ha : EvE X a σ B (IsV (.str s))) (hb : EvE X b σ B (IsV (.int i))) (hz : s.length ≤ 100000) (h : atI s.cps.toList i = some ch) (hs : PlainIx b := by exact fun _ _ => rfl) : EvE X (.Subscript a b pos) σ B (IsV (.str ⟨#[ch]⟩)) :=
  e_ix ix_str ha hb (fun x y B1 e1 r1 r2 H1 i1 Q q => by
    cases r1
    cases r2
    exact ⟨s, i, ch, rfl, rfl, sz_of hz, h, q.val i1⟩) hs
/-- an exact flat value from a datum -/
theorem EvP.int {te : TE} (h : EvP te σ B (IsD K (.int i))) : EvP te σ B (IsV (.int i)) := h.imp fun _ _ _ r => by cases r; rfl
theorem EvP.str {te : TE} {s : Str} (h : EvP te σ B (IsD K (.str s))) : EvP te σ B (IsV (.str s)) := h.imp fun _ _ _ r => by cases r; rfl
theorem EvP.bl {te : TE} (h : EvP te σ B (IsD K (.bool k))) : EvP te σ B (IsV (.bl k)) := h.imp fun _ _ _ r => by cases r; rfl
theorem EvP.intD {te : TE} (h : EvP te σ B (IsV (.int i))) : EvP te σ B (IsD K (.int i)) := h.d (.int i)
theorem EvP.strD {te : TE} {s : Str} (h : EvP te σ B (IsV (.str s))) : EvP te σ B (IsD K (.str s)) := h.d (.str s)
theorem EvP.blD {te : TE} (h : EvP te σ B (IsV (.bl k))) : EvP te σ B (IsD K (.bool k)) := h.d (.bl k)
theorem EvP.nonD {te : TE} (h : EvP te σ B (IsV .non)) : EvP te σ B (IsD K .none) := h.d .non
theorem EvP.tlD {te : TE} (h : EvP te σ B (IsTL K ds)) : EvP te σ B (IsD K (.list ds)) := h.imp fun _ _ _ r => isTL_d r

/-! ### numbers, texts -/
theorem e_binI {op : Operator} {g : Int → Int → V} (ho : OpR X (binaryOp op) (rI0 g)) (ha : EvE X a σ B (IsV (.int i))) (hb : EvE X b σ B (IsV (.int j))) : EvE X (.BinOp a op b pos) σ B (IsV (g i j)) :=
  e_op ho ha hb fun x y B1 _ r1 r2 H1 i1 Q q => by
    cases r1; cases r2
    exact ⟨i, j, rfl, rfl, q.val i1⟩
theorem e_binC {op : Operator} {C : Int → Int → Prop} {g : Int → Int → V} (ho : OpR X (binaryOp op) (rI C g)) (ha : EvE X a σ B (IsV (.int i))) (hb : EvE X b σ B (IsV (.int j))) (hc : C i j) : EvE X (.BinOp a op b pos) σ B (IsV (g i j)) :=
  e_op ho ha hb fun x y B1 _ r1 r2 H1 i1 Q q => by
    cases r1; cases r2
    exact ⟨i, j, rfl, rfl, hc, q.val i1⟩
theorem e_addI (ha : EvE X a σ B (IsV (.int i))) (hb : EvE X b σ B (IsV (.int j))) : EvE X (.BinOp a .Add b pos) σ B (IsV (.int (i + j))) := e_binI op_add ha hb
theorem e_subI (ha : EvE X a σ B (IsV (.int i))) (hb : EvE X b σ B (IsV (.int j))) : EvE X (.BinOp a .Sub b pos) σ B (IsV (.int (i - j))) := e_binI op_sub ha hb
theorem e_mulI (ha : EvE X a σ B (IsV (.int i))) (hb : EvE X b σ B (IsV (.int j))) (hc : CMul i j) : EvE X (.BinOp a .Mult b pos) σ B (IsV (.int (i * j))) := e_binC op_mul ha hb hc
theorem e_modI (ha : EvE X a σ B (IsV (.int i))) (hb : EvE X b σ B (IsV (.int j))) (hc : 0 < j) : EvE X (.BinOp a .Mod b pos) σ B (IsV (.int (i % j))) := e_binC op_mod ha hb hc
theorem e_powI (ha : EvE X a σ B (IsV (.int i))) (hb : EvE X b σ B (IsV (.int j))) (hc : CPow i j) : EvE X (.BinOp a .Pow b pos) σ B (IsV (.int (i ^ j.toNat))) := e_binC op_pow ha hb hc
theorem e_addS {s t : Str} (ha : EvE X a σ B (IsV (.str s))) (hb : EvE X b σ B (IsV (.str t))) (hz : s.length + t.length ≤ 100000) : EvE X (.BinOp a .Add b pos) σ B (IsV (.str (s ++ t))) :=
  e_op op_add_str ha hb fun x y B1 _ r1 r2 H1 i1 Q q => by
    cases r1; cases r2
    exact ⟨s, t, rfl, rfl, sz_of hz, q.val i1⟩
theorem e_neg (ha : EvE X a σ B (IsV (.int i))) : EvE X (.UnaryOp .USub a pos) σ B (IsV (.int (-i))) := of_pe (pe_un un_neg pe_w) fun H e1 Q q => ha H e1 _ fun v B1 H1 s r => ⟨i, r B1 (Ex.refl B1), q.valS s⟩
/-! ### comparisons as values and tests -/
theorem rvp_I0 {g : Int → Int → V} {H1 : Hp} {x y : V} (r1 : IsV (.int i) x H1) (r2 : IsV (.int j) y H1) : RvP (rI0 g) x y H1 (IsV (g i j)) := fun H i1 Q q => by
  cases r1; cases r2
  exact ⟨i, j, rfl, rfl, q.val i1⟩
theorem t_ltI (ha : EvE X a σ B (IsV (.int i))) (hb : EvE X b σ B (IsV (.int j))) : EvTE X (.Compare a [.Lt] [b] pos) σ B (decide (i < j)) := t_cmp op_lt ha hb (fun _ _ _ _ r1 r2 => rvp_I0 (g := fun i j => .bl (decide (i < j))) r1 r2) (nomark _)
theorem t_gtI (ha : EvE X a σ B (IsV (.int i))) (hb : EvE X b σ B (IsV (.int j))) : EvTE X (.Compare a [.Gt] [b] pos) σ B (decide (j < i)) := t_cmp op_gt ha hb (fun _ _ _ _ r1 r2 => rvp_I0 (g := fun i j => .bl (decide (j < i))) r1 r2) (nomark _)
theorem t_geI (ha : EvE X a σ B (IsV (.int i))) (hb : EvE X b σ B (IsV (.int j))) : EvTE X (.Compare a [.GtE] [b] pos) σ B (decide (j ≤ i)) := t_cmp op_ge ha hb (fun _ _ _ _ r1 r2 => rvp_I0 (g := fun i j => .bl (decide (j ≤ i))) r1 r2) (nomark _)
theorem e_geI (ha : EvE X a σ B (IsV (.int i))) (hb : EvE X b σ B (IsV (.int j))) : EvE X (.Compare a [.GtE] [b] pos) σ B (IsV (.bl (decide (j ≤ i)))) := e_cmp op_ge ha hb (fun _ _ _ _ r1 r2 => rvp_I0 (g := fun i j => .bl (decide (j ≤ i))) r1 r2) (nomark _)
theorem rvp_eq {H1 : Hp} {x y u w : V} (r1 : IsV u x H1) (r2 : IsV w y H1) (h : scal u w = true) : RvP rEq x y H1 (IsV (.bl (decide (u = w)))) := fun H i1 Q q => by
  cases r1; cases r2
  exact ⟨h, q.val i1⟩
theorem rvp_ne {H1 : Hp} {x y u w : V} (r1 : IsV u x H1) (r2 : IsV w y H1) (h : scal u w = true) : RvP rNe x y H1 (IsV (.bl (!decide (u = w)))) := fun H i1 Q q => by
  cases r1; cases r2
  exact ⟨h, q.val i1⟩
/-- == of flat values of one kind -/
theorem t_eqV {u w : V} (ha : EvE X a σ B (IsV u)) (hb : EvE X b σ B (IsV w)) (h : scal u w = true) : EvTE X (.Compare a [.Eq] [b] pos) σ B (decide (u = w)) := t_cmp op_eq ha hb (fun _ _ _ _ r1 r2 => rvp_eq r1 r2 h) (nomark _)
theorem e_eqV {u w : V} (ha : EvE X a σ B (IsV u)) (hb : EvE X b σ B (IsV w)) (h : scal u w = true) : EvE X (.Compare a [.Eq] [b] pos) σ B (IsV (.bl (decide (u = w)))) := e_cmp op_eq ha hb (fun _ _ _ _ r1 r2 => rvp_eq r1 r2 h) (nomark _)
theorem t_neV {u w : V} (ha : EvE X a σ B (IsV u)) (hb : EvE X b σ B (IsV w)) (h : scal u w = true) : EvTE X (.Compare a [.NotEq] [b] pos) σ B (!decide (u = w)) := t_cmp op_ne ha hb (fun _ _ _ _ r1 r2 => rvp_ne r1 r2 h) (nomark _)
theorem e_neV {u w : V} (ha : EvE X a σ B (IsV u)) (hb : EvE X b σ B (IsV w)) (h : scal u w = true) : EvE X (.Compare a [.NotEq] [b] pos) σ B (IsV (.bl (!decide (u = w)))) := e_cmp op_ne ha hb (fun _ _ _ _ r1 r2 => rvp_ne r1 r2 h) (nomark _)
theorem rvp_eqD {H1 : Hp} {x y : V} (r1 : IsD X.K d1 x H1) (r2 : IsD X.K d2 y H1) (h1 : SeqAt.shaped d1 = true) (h2 : SeqAt.shaped d2 = true) : RvP (rEqD X.K) x y H1 (IsV (.bl (PyData.eqv d1 d2))) := fun H i1 Q q => ⟨d1, d2, dp_grow r1 i1, dp_grow r2 i1, h1, h2, q.val i1⟩
theorem rvp_neD {H1 : Hp} {x y : V} (r1 : IsD X.K d1 x H1) (r2 : IsD X.K d2 y H1) (h1 : SeqAt.shaped d1 = true) (h2 : SeqAt.shaped d2 = true) : RvP (rNeD X.K) x y H1 (IsV (.bl (!PyData.eqv d1 d2))) := fun H i1 Q q => ⟨d1, d2, dp_grow r1 i1, dp_grow r2 i1, h1, h2, q.val i1⟩
theorem t_eqD (hu : X.A.units + 64 < cLine) (ha : EvE X a σ B (IsD X.K d1)) (hb : EvE X b σ B (IsD X.K d2)) (h1 : SeqAt.shaped d1 = true) (h2 : SeqAt.shaped d2 = true) : EvTE X (.Compare a [.Eq] [b] pos) σ B (PyData.eqv d1 d2) := t_cmp (op_eqD hu) ha hb (fun _ _ _ _ r1 r2 => rvp_eqD r1 r2 h1 h2) (nomark _)
theorem e_eqD (hu : X.A.units + 64 < cLine) (ha : EvE X a σ B (IsD X.K d1)) (hb : EvE X b σ B (IsD X.K d2)) (h1 : SeqAt.shaped d1 = true) (h2 : SeqAt.shaped d2 = true) : EvE X (.Compare a [.Eq] [b] pos) σ B (IsV (.bl (PyData.eqv d1 d2))) := e_cmp (op_eqD hu) ha hb (fun _ _ _ _ r1 r2 => rvp_eqD r1 r2 h1 h2) (nomark _)
theorem t_neD (hu : X.A.units + 64 < cLine) (ha : EvE X a σ B (IsD X.K d1)) (hb : EvE X b σ B (IsD X.K d2)) (h1 : SeqAt.shaped d1 = true) (h2 : SeqAt.shaped d2 = true) : EvTE X (.Compare a [.NotEq] [b] pos) σ B (!PyData.eqv d1 d2) := t_cmp (op_neD hu) ha hb (fun _ _ _ _ r1 r2 => rvp_neD r1 r2 h1 h2) (nomark _)
theorem e_neD (hu : X.A.units + 64 < cLine) (ha : EvE X a σ B (IsD X.K d1)) (hb : EvE X b σ B (IsD X.K d2)) (h1 : SeqAt.shaped d1 = true) (h2 : SeqAt.shaped d2 = true) : EvE X (.Compare a [.NotEq] [b] pos) σ B (IsV (.bl (!PyData.eqv d1 d2))) := e_cmp (op_neD hu) ha hb (fun _ _ _ _ r1 r2 => rvp_neD r1 r2 h1 h2) (nomark _)
/-- is None, is not None -/
def nonB : PyData → Bool | .none => true | _ => false
theorem dp_non {H1 : Hp} (h : Dp K H1 v d) : decide (v = .non) = nonB d := by cases h <;> rfl
theorem t_isN {j pn} (ha : EvE X a σ B (IsD X.K d)) : EvTE X (.Compare a [.Is] [.Constant .none j pn] pos) σ B (nonB d) := t_cmp op_isN ha e_non (fun _ _ _ _ r1 r2 H1 i1 Q q => ⟨r2, by rw [dp_non r1]; exact q.val i1⟩) (nomark _)
theorem e_isN {j pn} (ha : EvE X a σ B (IsD X.K d)) : EvE X (.Compare a [.Is] [.Constant .none j pn] pos) σ B (IsV (.bl (nonB d))) := e_cmp op_isN ha e_non (fun _ _ _ _ r1 r2 H1 i1 Q q => ⟨r2, by rw [dp_non r1]; exact q.val i1⟩) (nomark _)
theorem t_notN {j pn} (ha : EvE X a σ B (IsD X.K d)) : EvTE X (.Compare a [.IsNot] [.Constant .none j pn] pos) σ B (!nonB d) := t_cmp op_notN ha e_non (fun _ _ _ _ r1 r2 H1 i1 Q q => ⟨r2, by rw [dp_non r1]; exact q.val i1⟩) (nomark _)
/-- a op b op' c, the first true or not -/
theorem e_chain {op op' : CmpOp} {r r' : R2} {Rc : Rel} (ho : OpR X (compareOp op) r) (ho' : OpR X (compareOp op') r') (ha : EvE X a σ B Ra) (hb : EvE X b σ B Rb) (hc : EvE X c σ B Rc)
    (h1 : ∀ x y H1, Ra x H1 → Rb y H1 → RvP r x y H1 (IsV (.bl k1))) (h2 : ∀ y z H1, Rb y H1 → Rc z H1 → RvP r' y z H1 (IsV (.bl k2))) (hm : lastMarks [op, op'] [b, c] = false := by with_unfolding_all rfl) : EvE X (.Compare a [op, op'] [b, c] pos) σ B (IsV (.bl (k1 && k2))) :=
  of_pe (pe_chain ho ho' pe_w pe_w pe_w hm) fun H e1 Q q => ha H e1 _ fun x B1 H1 s1 r1 => (hb.mono s1.b) H1 s1.i _ fun y B2 H2 s2 r2 => h1 x y B2 (r1 B2 s2.b) (r2 B2 (Ex.refl B2)) H2 s2.i _ fun v B3 H3 s3 r3 => ⟨k1, r3 B3 (Ex.refl B3), by
    cases k1 with
    | true => exact (hc.mono ((s1.b.trans s2.b).trans s3.b)) H3 s3.i _ fun z B4 H4 s4 r4 => h2 y z B4 (r2 B4 (s3.b.trans s4.b)) (r4 B4 (Ex.refl B4)) H4 s4.i Q (q.go ((s1.trans s2).trans (s3.trans s4)))
    | false => exact q.valS ((s1.trans s2).trans s3)⟩
theorem t_chain {op op' : CmpOp} {r r' : R2} {Rc : Rel} (ho : OpR X (compareOp op) r) (ho' : OpR X (compareOp op') r') (ha : EvE X a σ B Ra) (hb : EvE X b σ B Rb) (hc : EvE X c σ B Rc)
    (h1 : ∀ x y H1, Ra x H1 → Rb y H1 → RvP r x y H1 (IsV (.bl k1))) (h2 : ∀ y z H1, Rb y H1 → Rc z H1 → RvP r' y z H1 (IsV (.bl k2))) (hm : lastMarks [op, op'] [b, c] = false := by with_unfolding_all rfl) : EvTE X (.Compare a [op, op'] [b, c] pos) σ B (k1 && k2) :=
  of_pt (pt_chain ho ho' pe_w pe_w pe_w hm) fun H e1 Q q => ha H e1 _ fun x B1 H1 s1 r1 => (hb.mono s1.b) H1 s1.i _ fun y B2 H2 s2 r2 => h1 x y B2 (r1 B2 s2.b) (r2 B2 (Ex.refl B2)) H2 s2.i _ fun v B3 H3 s3 r3 => ⟨k1, r3 B3 (Ex.refl B3), by
    cases k1 with
    | true => exact (hc.mono ((s1.b.trans s2.b).trans s3.b)) H3 s3.i _ fun z B4 H4 s4 r4 => h2 y z B4 (r2 B4 (s3.b.trans s4.b)) (r4 B4 (Ex.refl B4)) H4 s4.i _ fun v B5 H5 s5 r5 => ⟨k2, r5 B5 (Ex.refl B5), q B5 H5 (((s1.trans s2).trans s3).trans (s4.trans s5))⟩
    | false => exact ⟨false, rfl, q B3 H3 ((s1.trans s2).trans s3)⟩⟩
theorem t_leleI {m : Int} (ha : EvE X a σ B (IsV (.int i))) (hb : EvE X b σ B (IsV (.int j))) (hc : EvE X c σ B (IsV (.int m))) (hm : lastMarks [.LtE, .LtE] [b, c] = false := by with_unfolding_all rfl) : EvTE X (.Compare a [.LtE, .LtE] [b, c] pos) σ B (decide (i ≤ j) && decide (j ≤ m)) :=
  t_chain op_le op_le ha hb hc (fun _ _ _ r1 r2 => rvp_I0 (g := fun i j => .bl (decide (i ≤ j))) r1 r2) (fun _ _ _ r1 r2 => rvp_I0 (g := fun i j => .bl (decide (i ≤ j))) r1 r2) hm
/-! ### and, or, not -/
theorem e_one {op} (h : EvE X a σ B R) : EvE X (.BoolOp op [a] pos) σ B R := of_pe (pe_one pe_w) h
theorem e_and (ha : EvE X a σ B (IsV (.bl k1))) (hb : k1 = true → EvE X (.BoolOp .And (b :: rest) pos) σ B (IsV (.bl k2))) : EvE X (.BoolOp .And (a :: b :: rest) pos) σ B (IsV (.bl (k1 && k2))) :=
  of_pe (pe_and pe_w pe_w) fun H e1 Q q => ha H e1 _ fun v B1 H1 s r => ⟨k1, r B1 (Ex.refl B1), by
    cases k1 with
    | true => exact ((hb rfl).mono s.b) H1 s.i Q (q.go s)
    | false => exact q.valS s⟩
theorem e_or (ha : EvE X a σ B (IsV (.bl k1))) (hb : k1 = false → EvE X (.BoolOp .Or (b :: rest) pos) σ B (IsV (.bl k2))) : EvE X (.BoolOp .Or (a :: b :: rest) pos) σ B (IsV (.bl (k1 || k2))) :=
  of_pe (pe_or pe_w pe_w) fun H e1 Q q => ha H e1 _ fun v B1 H1 s r => ⟨k1, r B1 (Ex.refl B1), by
    cases k1 with
    | false => exact ((hb rfl).mono s.b) H1 s.i Q (q.go s)
    | true => exact q.valS s⟩
theorem e_not (ha : EvE X a σ B (IsV (.bl k))) : EvE X (.UnaryOp .Not a pos) σ B (IsV (.bl (!k))) := of_pe (pe_not pe_w) fun H e1 Q q => ha H e1 _ fun v B1 H1 s r => ⟨k, r B1 (Ex.refl B1), q.valS s⟩
def wW (X : Cx) (e : Expr) : TT := fun σ B Q => ∀ whole pins s, Inv X pins σ B s → wpAny (model X.prog X.w) X.A (isTrue e X.env whole) (TP X pins σ Q) X.xe s
theorem pw_w {e : Expr} : PW X e (wW X e) := ⟨fun wh pins s _ _ _ I h => h wh pins s I⟩
theorem w_pw {e : Expr} {t : TT} (h : PW X e t) {Q : Bool → Hp → Prop} (q : t σ B Q) : wW X e σ B Q := fun wh pins s I => h.run wh pins s σ B Q I q
abbrev EvW (X : Cx) (e : Expr) (σ : Slots) (B : Hp) (k : Bool) : Prop := EvT' (wW X e) σ B k
theorem EvW.t (h : EvW X e σ B k) : EvTE X e σ B k := of_pt pw_w.pt h
theorem w_and1 (h : EvTE X a σ B k) : EvW X (.BoolOp .And [a] pos) σ B k := fun H1 e1 Q q => w_pw (pw_and1 pt_w) (h H1 e1 Q q)
theorem w_or1 (h : EvTE X a σ B k) : EvW X (.BoolOp .Or [a] pos) σ B k := fun H1 e1 Q q => w_pw (pw_or1 pt_w) (h H1 e1 Q q)
theorem w_and (ha : EvTE X a σ B k1) (hb : k1 = true → EvW X (.BoolOp .And (b :: rest) pos) σ B k2) : EvW X (.BoolOp .And (a :: b :: rest) pos) σ B (k1 && k2) := fun H1 e1 Q q => w_pw (pw_and pt_w pw_w) (ha H1 e1 _ fun B2 H2 s => by
  cases k1 with
  | true => exact hb rfl H2 s.same.i Q fun B3 H3 s3 => q B3 H3 (s.same.trans s3)
  | false => exact q B2 H2 s)
theorem w_or (ha : EvTE X a σ B k1) (hb : k1 = false → EvW X (.BoolOp .Or (b :: rest) pos) σ B k2) : EvW X (.BoolOp .Or (a :: b :: rest) pos) σ B (k1 || k2) := fun H1 e1 Q q => w_pw (pw_or pt_w pw_w) (ha H1 e1 _ fun B2 H2 s => by
  cases k1 with
  | false => exact hb rfl H2 s.same.i Q fun B3 H3 s3 => q B3 H3 (s.same.trans s3)
  | true => exact q B2 H2 s)
/-- a call's answer, a name, as a test -/
theorem t_bl (h : EvE X e σ B (IsV (.bl k))) (he : ∀ whole, isTrue e X.env whole = (do let v ← whole; standAt e.pos; holding [v] (truthy v)) := by intro _; rfl) : EvTE X e σ B k :=
  of_pt (pt_val pe_w he) fun H e1 Q q => h H e1 _ fun v B1 H1 s r => ⟨k, r B1 (Ex.refl B1), q B1 H1 s⟩
theorem e_if (hc : EvTE X c σ B k) (ha : k = true → EvE X a σ B R) (hb : k = false → EvE X b σ B R) : EvE X (.IfExp c a b pos) σ B R :=
  of_pe (pe_ifExp pt_w pe_w pe_w) fun H1 e1 Q q => hc H1 e1 _ fun B2 H2 s => by
    cases k with
    | true => exact ha rfl H2 s.same.i Q (q.go s.same)
    | false => exact hb rfl H2 s.same.i Q (q.go s.same)
/-! ### lists and tuples put together -/
theorem e_catT (ha : EvE X a σ B (IsD X.K (.tuple ds))) (hb : EvE X b σ B (IsD X.K (.tuple es'))) (hz : ds.length + es'.length ≤ 100000) : EvE X (.BinOp a .Add b pos) σ B (IsD X.K (.tuple (ds ++ es'))) :=
  e_op op_catA ha hb fun x y B1 _ r1 r2 H1 i1 Q q => by
    cases r1 with
    | tup h1 h2 =>
      cases r2 with
      | tup g1 g2 =>
        refine ⟨_, _, _, _, rfl, rfl, ex_t i1 h1, ex_t i1 g1, sz_of (by rw [dps_len h2, dps_len g2]; exact hz), fun e => ?_, fun _ e => ?_, fun _ _ p hp => ?_⟩
        · subst e
          cases h2
          exact q.at i1 (isD_stable (.tup g1 g2))
        · subst e
          cases g2
          rw [List.append_nil] at q
          exact q.at i1 (isD_stable (.tup h1 h2))
        · exact q _ _ _ (Step.new i1 hp) (isD_stable (.tup (st_of upd_same) (dps_append (dps_grow h2 (Ex.new (ex_none i1 hp))) (dps_grow g2 (Ex.new (ex_none i1 hp))))))
theorem e_catL (ha : EvE X a σ B (IsTL X.K ds)) (hb : EvE X b σ B (IsTL X.K es')) (hz : ds.length + es'.length ≤ 100000) : EvE X (.BinOp a .Add b pos) σ B (IsTL X.K (ds ++ es')) :=
  e_op op_cat ha hb fun x y B1 _ r1 r2 H1 i1 Q q => by
    obtain ⟨p1, vs1, rfl, h1, h2⟩ := r1
    obtain ⟨p2, vs2, rfl, g1, g2⟩ := r2
    exact ⟨p1, p2, vs1, vs2, rfl, rfl, i1 _ _ h1, i1 _ _ g1, sz_of (by rw [dps_len h2, dps_len g2]; exact hz), fun p hp => q _ _ _ (Step.new i1 hp) fun H3 e3 => ⟨p, _, rfl, e3 p _ upd_same, dps_append (dps_grow h2 ((Ex.new (ex_none i1 hp)).trans e3)) (dps_grow g2 ((Ex.new (ex_none i1 hp)).trans e3))⟩⟩
theorem e_lstT {ds : List PyData} (h : EvAE X es σ B (AD X.K ds)) (hl : ds.length ≤ 100000) : EvE X (.List es pos) σ B (IsTL X.K ds) := e_lst h fun vs H1 r => by rw [dps_len r]; exact hl
end
end K8

/-! The text by places: printed by gen_text.py. -/
namespace K8
open PySem PyProof.Rows L2 PySem.Spec
def top (i : Nat) : Stmt := PySem.Challenge.pw_lampthrong_k08_whole_upsets.main.body.getD i (.Pass ⟨0, 0, 0, 0⟩)
abbrev s_is_integer : Stmt := top 7
abbrev N_is_integer : List Str := ["value"]
theorem sc_is_integer : FnScope N_is_integer ["value"] (defScope s_is_integer) := ⟨rfl, rfl, rfl, by decide +kernel, rfl, by decide +kernel, by decide +kernel⟩
abbrev s_is_letter : Stmt := top 8
abbrev N_is_letter : List Str := ["character"]
theorem sc_is_letter : FnScope N_is_letter ["character"] (defScope s_is_letter) := ⟨rfl, rfl, rfl, by decide +kernel, rfl, by decide +kernel, by decide +kernel⟩
abbrev s_is_name : Stmt := top 9
abbrev N_is_name : List Str := ["value", "character"]
theorem sc_is_name : FnScope N_is_name ["value"] (defScope s_is_name) := ⟨rfl, rfl, rfl, by decide +kernel, rfl, by decide +kernel, by decide +kernel⟩
abbrev s_is_pair : Stmt := top 10
abbrev N_is_pair : List Str := ["value"]
theorem sc_is_pair : FnScope N_is_pair ["value"] (defScope s_is_pair) := ⟨rfl, rfl, rfl, by decide +kernel, rfl, by decide +kernel, by decide +kernel⟩
abbrev s_is_row : Stmt := top 13
abbrev N_is_row : List Str := ["value", "width", "entry"]
theorem sc_is_row : FnScope N_is_row ["value", "width"] (defScope s_is_row) := ⟨rfl, rfl, rfl, by decide +kernel, rfl, by decide +kernel, by decide +kernel⟩
abbrev s_check_row : Stmt := top 14
abbrev N_check_row : List Str := ["row", "width"]
theorem sc_check_row : FnScope N_check_row ["row", "width"] (defScope s_check_row) := ⟨rfl, rfl, rfl, by decide +kernel, rfl, by decide +kernel, by decide +kernel⟩
abbrev s_check_rows : Stmt := top 15
abbrev N_check_rows : List Str := ["rows", "width", "row"]
theorem sc_check_rows : FnScope N_check_rows ["rows"] (defScope s_check_rows) := ⟨rfl, rfl, rfl, by decide +kernel, rfl, by decide +kernel, by decide +kernel⟩
abbrev s_entries_cover : Stmt := top 16
abbrev N_entries_cover : List Str := ["big", "small", "big_entry", "small_entry"]
theorem sc_entries_cover : FnScope N_entries_cover ["big", "small"] (defScope s_entries_cover) := ⟨rfl, rfl, rfl, by decide +kernel, rfl, by decide +kernel, by decide +kernel⟩
abbrev s_covers_some : Stmt := top 17
abbrev N_covers_some : List Str := ["row", "rows", "small"]
theorem sc_covers_some : FnScope N_covers_some ["row", "rows"] (defScope s_covers_some) := ⟨rfl, rfl, rfl, by decide +kernel, rfl, by decide +kernel, by decide +kernel⟩
abbrev s_joined : Stmt := top 18
abbrev N_joined : List Str := ["first", "rest", "rows", "position", "row"]
theorem sc_joined : FnScope N_joined ["first", "rest"] (defScope s_joined) := ⟨rfl, rfl, rfl, by decide +kernel, rfl, by decide +kernel, by decide +kernel⟩
abbrev s_least_among : Stmt := top 19
abbrev N_least_among : List Str := ["rows", "kept", "row"]
theorem sc_least_among : FnScope N_least_among ["rows"] (defScope s_least_among) := ⟨rfl, rfl, rfl, by decide +kernel, rfl, by decide +kernel, by decide +kernel⟩
abbrev s_is_scene : Stmt := top 21
abbrev N_is_scene : List Str := ["value", "width"]
theorem sc_is_scene : FnScope N_is_scene ["value", "width"] (defScope s_is_scene) := ⟨rfl, rfl, rfl, by decide +kernel, rfl, by decide +kernel, by decide +kernel⟩
abbrev s_rows_of_post : Stmt := top 22
abbrev N_rows_of_post : List Str := ["scenes", "post", "place", "row"]
theorem sc_rows_of_post : FnScope N_rows_of_post ["scenes", "post"] (defScope s_rows_of_post) := ⟨rfl, rfl, rfl, by decide +kernel, rfl, by decide +kernel, by decide +kernel⟩
abbrev s_least_scenes_of : Stmt := top 23
abbrev N_least_scenes_of : List Str := ["scenes", "posts", "scene", "post", "row"]
theorem sc_least_scenes_of : FnScope N_least_scenes_of ["scenes"] (defScope s_least_scenes_of) := ⟨rfl, rfl, rfl, by decide +kernel, rfl, by decide +kernel, by decide +kernel⟩
abbrev s_Upset_init : Stmt := inClass (top 24) 0
abbrev N_Upset_init : List Str := ["self", "width", "scenes", "scene"]
theorem sc_Upset_init : FnScope N_Upset_init ["self", "width", "scenes"] (defScope s_Upset_init) := ⟨rfl, rfl, rfl, by decide +kernel, rfl, by decide +kernel, by decide +kernel⟩
abbrev s_Upset_nothing : Stmt := inClass (top 24) 1
abbrev N_Upset_nothing : List Str := ["width"]
theorem sc_Upset_nothing : FnScope N_Upset_nothing ["width"] (defScope s_Upset_nothing) := ⟨rfl, rfl, rfl, by decide +kernel, rfl, by decide +kernel, by decide +kernel⟩
abbrev s_Upset_of : Stmt := inClass (top 24) 2
abbrev N_Upset_of : List Str := ["cls", "first", "rest"]
theorem sc_Upset_of : FnScope N_Upset_of ["cls", "first", "rest"] (defScope s_Upset_of) := ⟨rfl, rfl, rfl, by decide +kernel, rfl, by decide +kernel, by decide +kernel⟩
abbrev s_Upset_least_scenes : Stmt := inClass (top 24) 3
abbrev N_Upset_least_scenes : List Str := ["self"]
theorem sc_Upset_least_scenes : FnScope N_Upset_least_scenes ["self"] (defScope s_Upset_least_scenes) := ⟨rfl, rfl, rfl, by decide +kernel, rfl, by decide +kernel, by decide +kernel⟩
abbrev s_Upset_rows_at : Stmt := inClass (top 24) 4
abbrev N_Upset_rows_at : List Str := ["self", "post"]
theorem sc_Upset_rows_at : FnScope N_Upset_rows_at ["self", "post"] (defScope s_Upset_rows_at) := ⟨rfl, rfl, rfl, by decide +kernel, rfl, by decide +kernel, by decide +kernel⟩
abbrev s_Upset_len : Stmt := inClass (top 24) 5
abbrev N_Upset_len : List Str := ["self"]
theorem sc_Upset_len : FnScope N_Upset_len ["self"] (defScope s_Upset_len) := ⟨rfl, rfl, rfl, by decide +kernel, rfl, by decide +kernel, by decide +kernel⟩
abbrev s_Upset_contains : Stmt := inClass (top 24) 6
abbrev N_Upset_contains : List Str := ["self", "scene"]
theorem sc_Upset_contains : FnScope N_Upset_contains ["self", "scene"] (defScope s_Upset_contains) := ⟨rfl, rfl, rfl, by decide +kernel, rfl, by decide +kernel, by decide +kernel⟩
abbrev s_Upset_or : Stmt := inClass (top 24) 7
abbrev N_Upset_or : List Str := ["self", "other"]
theorem sc_Upset_or : FnScope N_Upset_or ["self", "other"] (defScope s_Upset_or) := ⟨rfl, rfl, rfl, by decide +kernel, rfl, by decide +kernel, by decide +kernel⟩
abbrev s_Upset_and : Stmt := inClass (top 24) 8
abbrev N_Upset_and : List Str := ["self", "other", "scenes", "post", "row", "their_row"]
theorem sc_Upset_and : FnScope N_Upset_and ["self", "other"] (defScope s_Upset_and) := ⟨rfl, rfl, rfl, by decide +kernel, rfl, by decide +kernel, by decide +kernel⟩
abbrev s_Upset_eq : Stmt := inClass (top 24) 9
abbrev N_Upset_eq : List Str := ["self", "other"]
theorem sc_Upset_eq : FnScope N_Upset_eq ["self", "other"] (defScope s_Upset_eq) := ⟨rfl, rfl, rfl, by decide +kernel, rfl, by decide +kernel, by decide +kernel⟩
abbrev s_Upset_first_missing : Stmt := inClass (top 24) 10
abbrev N_Upset_first_missing : List Str := ["self", "other", "scene"]
theorem sc_Upset_first_missing : FnScope N_Upset_first_missing ["self", "other"] (defScope s_Upset_first_missing) := ⟨rfl, rfl, rfl, by decide +kernel, rfl, by decide +kernel, by decide +kernel⟩
abbrev s_l_bag : Stmt := top 26
abbrev N_l_bag : List Str := ["_law_script", "_law_cells", "_law_cell", "_law_great", "_law_seed"]
theorem sc_l_bag : FnScope N_l_bag ["_law_script"] (defScope s_l_bag) := ⟨rfl, rfl, rfl, by decide +kernel, rfl, by decide +kernel, by decide +kernel⟩
abbrev s_l_take : Stmt := top 27
abbrev N_l_take : List Str := ["_law_bag_here", "_law_many", "_law_digit", "_law_cells", "_law_cell", "_law_first", "_law_second", "_law_third"]
theorem sc_l_take : FnScope N_l_take ["_law_bag_here", "_law_many"] (defScope s_l_take) := ⟨rfl, rfl, rfl, by decide +kernel, rfl, by decide +kernel, by decide +kernel⟩
abbrev s_l_is_integer : Stmt := top 28
abbrev N_l_is_integer : List Str := ["_law_value"]
theorem sc_l_is_integer : FnScope N_l_is_integer ["_law_value"] (defScope s_l_is_integer) := ⟨rfl, rfl, rfl, by decide +kernel, rfl, by decide +kernel, by decide +kernel⟩
abbrev s_l_is_row : Stmt := top 29
abbrev N_l_is_row : List Str := ["_law_value", "_law_width", "_law_entry"]
theorem sc_l_is_row : FnScope N_l_is_row ["_law_value", "_law_width"] (defScope s_l_is_row) := ⟨rfl, rfl, rfl, by decide +kernel, rfl, by decide +kernel, by decide +kernel⟩
abbrev s_l_posts : Stmt := top 30
abbrev N_l_posts : List Str := ["_law_bag_here", "_law_letters", "_law_signs", "_law_head", "_law_k", "_law_start", "_law_step", "_law_posts_here", "_law_post"]
theorem sc_l_posts : FnScope N_l_posts ["_law_bag_here"] (defScope s_l_posts) := ⟨rfl, rfl, rfl, by decide +kernel, rfl, by decide +kernel, by decide +kernel⟩
abbrev s_l_base : Stmt := top 31
abbrev N_l_base : List Str := ["_law_bag_here", "_law_width", "_law_found", "_law_k", "_law_great"]
theorem sc_l_base : FnScope N_l_base ["_law_bag_here", "_law_width"] (defScope s_l_base) := ⟨rfl, rfl, rfl, by decide +kernel, rfl, by decide +kernel, by decide +kernel⟩
abbrev s_l_scene : Stmt := top 32
abbrev N_l_scene : List Str := ["_law_bag_here", "_law_posts_here", "_law_base_here", "_law_most", "_law_post", "_law_entry"]
theorem sc_l_scene : FnScope N_l_scene ["_law_bag_here", "_law_posts_here", "_law_base_here", "_law_most"] (defScope s_l_scene) := ⟨rfl, rfl, rfl, by decide +kernel, rfl, by decide +kernel, by decide +kernel⟩
abbrev s_l_over : Stmt := top 33
abbrev N_l_over : List Str := ["_law_big", "_law_small", "_law_k"]
theorem sc_l_over : FnScope N_l_over ["_law_big", "_law_small"] (defScope s_l_over) := ⟨rfl, rfl, rfl, by decide +kernel, rfl, by decide +kernel, by decide +kernel⟩
abbrev s_l_cube : Stmt := top 34
abbrev N_l_cube : List Str := ["_law_posts_here", "_law_base_here", "_law_most", "_law_rows", "_law_entry", "_law_found", "_law_row", "_law_step", "_law_scenes", "_law_post"]
theorem sc_l_cube : FnScope N_l_cube ["_law_posts_here", "_law_base_here", "_law_most"] (defScope s_l_cube) := ⟨rfl, rfl, rfl, by decide +kernel, rfl, by decide +kernel, by decide +kernel⟩
abbrev s_l_covered : Stmt := top 35
abbrev N_l_covered : List Str := ["_law_scene_here", "_law_scenes", "_law_one"]
theorem sc_l_covered : FnScope N_l_covered ["_law_scene_here", "_law_scenes"] (defScope s_l_covered) := ⟨rfl, rfl, rfl, by decide +kernel, rfl, by decide +kernel, by decide +kernel⟩
abbrev s_l_least : Stmt := top 36
abbrev N_l_least : List Str := ["_law_members", "_law_inside", "_law_scene_here", "_law_found", "_law_row", "_law_lower", "_law_k", "_law_one"]
theorem sc_l_least : FnScope N_l_least ["_law_members"] (defScope s_l_least) := ⟨rfl, rfl, rfl, by decide +kernel, rfl, by decide +kernel, by decide +kernel⟩
abbrev s_l_is_scene : Stmt := top 37
abbrev N_l_is_scene : List Str := ["_law_value", "_law_width"]
theorem sc_l_is_scene : FnScope N_l_is_scene ["_law_value", "_law_width"] (defScope s_l_is_scene) := ⟨rfl, rfl, rfl, by decide +kernel, rfl, by decide +kernel, by decide +kernel⟩
abbrev s_l_lists : Stmt := top 38
abbrev N_l_lists : List Str := ["_law_upset", "_law_posts_here", "_law_width", "_law_least_here", "_law_told", "_law_scene_here", "_law_post", "_law_rows", "_law_row"]
theorem sc_l_lists : FnScope N_l_lists ["_law_upset", "_law_posts_here", "_law_width", "_law_least_here"] (defScope s_l_lists) := ⟨rfl, rfl, rfl, by decide +kernel, rfl, by decide +kernel, by decide +kernel⟩
abbrev s_l_asked : Stmt := top 39
abbrev N_l_asked : List Str := ["_law_upset", "_law_members", "_law_posts_here", "_law_cube_here", "_law_base_here", "_law_inside", "_law_scene_here", "_law_least_here"]
theorem sc_l_asked : FnScope N_l_asked ["_law_upset", "_law_members", "_law_posts_here", "_law_cube_here", "_law_base_here"] (defScope s_l_asked) := ⟨rfl, rfl, rfl, by decide +kernel, rfl, by decide +kernel, by decide +kernel⟩
abbrev s_l_says : Stmt := top 40
abbrev N_l_says : List Str := ["_law_told", "_law_due"]
theorem sc_l_says : FnScope N_l_says ["_law_told", "_law_due"] (defScope s_l_says) := ⟨rfl, rfl, rfl, by decide +kernel, rfl, by decide +kernel, by decide +kernel⟩
abbrev s_l_compared : Stmt := top 41
abbrev N_l_compared : List Str := ["_law_upsets", "_law_sets", "_law_width", "_law_leasts", "_law_one", "_law_k", "_law_j", "_law_missing", "_law_scene_here", "_law_told"]
theorem sc_l_compared : FnScope N_l_compared ["_law_upsets", "_law_sets", "_law_width"] (defScope s_l_compared) := ⟨rfl, rfl, rfl, by decide +kernel, rfl, by decide +kernel, by decide +kernel⟩
abbrev s_l_empty : Stmt := top 42
abbrev N_l_empty : List Str := ["_law_posts_here", "_law_width", "_law_none"]
theorem sc_l_empty : FnScope N_l_empty ["_law_posts_here", "_law_width"] (defScope s_l_empty) := ⟨rfl, rfl, rfl, by decide +kernel, rfl, by decide +kernel, by decide +kernel⟩
abbrev s_l_odd : Stmt := top 43
abbrev N_l_odd : List Str := ["_law_row", "_law_place", "_law_way", "_law_parts"]
theorem sc_l_odd : FnScope N_l_odd ["_law_row", "_law_place", "_law_way"] (defScope s_l_odd) := ⟨rfl, rfl, rfl, by decide +kernel, rfl, by decide +kernel, by decide +kernel⟩
abbrev s_l_odd_scene : Stmt := top 44
abbrev N_l_odd_scene : List Str := ["_law_scene_here", "_law_way", "_law_post", "_law_row", "_law_names"]
theorem sc_l_odd_scene : FnScope N_l_odd_scene ["_law_scene_here", "_law_way"] (defScope s_l_odd_scene) := ⟨rfl, rfl, rfl, by decide +kernel, rfl, by decide +kernel, by decide +kernel⟩
abbrev s_l_called : Stmt := top 45
abbrev N_l_called : List Str := ["_law_number", "_law_width", "_law_scene_here", "_law_odd_here", "e"]
theorem sc_l_called : FnScope N_l_called ["_law_number", "_law_width", "_law_scene_here", "_law_odd_here"] (defScope s_l_called) := ⟨rfl, rfl, rfl, by decide +kernel, rfl, by decide +kernel, by decide +kernel⟩
abbrev s_l_refusals : Stmt := top 46
abbrev N_l_refusals : List Str := ["_law_bag_here", "_law_upset", "_law_scene_here", "_law_width", "_law_place", "_law_odds", "_law_way", "_law_k", "_law_odd_here", "_law_lone", "_law_number"]
theorem sc_l_refusals : FnScope N_l_refusals ["_law_bag_here", "_law_upset", "_law_scene_here"] (defScope s_l_refusals) := ⟨rfl, rfl, rfl, by decide +kernel, rfl, by decide +kernel, by decide +kernel⟩
abbrev s_l_of : Stmt := top 47
abbrev N_l_of : List Str := ["_law_scenes"]
theorem sc_l_of : FnScope N_l_of ["_law_scenes"] (defScope s_l_of) := ⟨rfl, rfl, rfl, by decide +kernel, rfl, by decide +kernel, by decide +kernel⟩
abbrev s_law : Stmt := top 48
abbrev N_law : List Str := ["_law_script", "_law_bag_here", "_law_posts_here", "_law_kind", "_law_width", "_law_most", "_law_base_here", "_law_used", "_law_lists_here", "_law_many", "_law_k", "_law_handed", "_law_upsets", "_law_low", "_law_four", "_law_five", "_law_cube_here", "_law_sets", "_law_scenes", "_law_scene_here"]
theorem sc_law : FnScope N_law ["_law_script"] (defScope s_law) := ⟨rfl, rfl, rfl, by decide +kernel, rfl, by decide +kernel, by decide +kernel⟩
end K8

/-! Contracts of defs; the first defs: names and rows. -/
namespace K8
open PySem PySem.Spec PyProof.Rows L2 Evl

/-- the built-ins that the text reads are the built-ins -/
structure Bi (mg : Str → Option Value) : Prop where
  isinstance : mg "isinstance" = none
  int : mg "int" = none
  bool : mg "bool" = none
  str : mg "str" = none
  tuple : mg "tuple" = none
  list : mg "list" = none
  len : mg "len" = none
  range : mg "range" = none
  zip : mg "zip" = none
  sorted : mg "sorted" = none
  set : mg "set" = none
  max : mg "max" = none
  abs : mg "abs" = none
  all : mg "all" = none
  repr : mg "repr" = none
/-- a def of the top, and what it promises -/
structure Dfn (P : Program) (w : World) (K : PySem.W.Frag) (mg : Str → Option Value) (base : Heap) (CX : CXT) (k : Nat) (n : Str) (ps : List Str) (sp : Sp) : Prop where
  ex : ∃ f fd, mg n = some (.ref f) ∧ PySem.W.keepIn K (.ref f) = true ∧ Binds K fd ps [] ∧ FnOk P w K mg base CX k f fd ps sp
theorem Dfn.mono {P : Program} {w : World} {K : PySem.W.Frag} {mg : Str → Option Value} {base : Heap} {CX : CXT} {j k : Nat} {n : Str} {ps : List Str} {sp : Sp} (D : Dfn P w K mg base CX j n ps sp) (h : j ≤ k) : Dfn P w K mg base CX k n ps sp := by
  obtain ⟨f, fd, h1, h2, h3, h4⟩ := D.ex
  exact ⟨f, fd, h1, h2, h3, h4.mono h⟩
/-- where a def stands -/
structure At (K : PySem.W.Frag) (mg : Str → Option Value) (n : Str) (st : Stmt) (ps : List Str) : Prop where
  ex : ∃ f fd, mg n = some (.ref f) ∧ Fun K n n st f fd ∧ Binds K fd ps []
theorem At.dfn {P : Program} {w : World} {K : PySem.W.Frag} {mg : Str → Option Value} {base : Heap} {CX : CXT} {k : Nat} {n : Str} {st : Stmt} {ps : List Str} {sp : Sp} (A : At K mg n st ps) (h : ∀ f fd, Fun K n n st f fd → FnOk P w K mg base CX k f fd ps sp) : Dfn P w K mg base CX k n ps sp := by
  obtain ⟨f, fd, h1, h2, h3⟩ := A.ex
  exact ⟨f, fd, h1, h2.kp, h3, h f fd h2⟩
/-- a promise on data: a flat value -/
def preV (K : PySem.W.Frag) (n : Nat) (ok : List PyData → Prop) (f : List PyData → V) : List V → Hp → Rel → Prop := fun vs H R => ∃ ds, DpAll K H vs ds ∧ ds.length = n ∧ ok ds ∧ R = IsV (f ds)
/-- .. any relation -/
def preR (K : PySem.W.Frag) (n : Nat) (ok : List PyData → Rel → Prop) : List V → Hp → Rel → Prop := fun vs H R => ∃ ds, DpAll K H vs ds ∧ ds.length = n ∧ ok ds R
section
variable {X : Cx} {σ : Slots} {B B' H H' : Hp} {R : Rel} {e : Expr} {es : List Expr} {pos p : Pos} {ds : List PyData} {RA : RelA} {CX : CXT} {k nn : Nat} {n : Str} {ps : List Str} {E : XK}
theorem e_callD {sp : Sp} (G : Dfn X.prog X.w X.K X.mg X.base CX k n ps sp) (hr : Room k X.A) (hx : Passes CX X E) (ha : EvAE X (e :: es) σ B RA) (hs : ∀ vs B1, Ex B B1 → RA vs B1 → ∀ H1, Ex B1 H1 → ∀ Q : VK, Yields B1 H1 R Q → sp vs H1 Q E) (hg : Gl X n := by rfl) (hdb : (n == ("__debug__" : Str)) = false := by decide)
    (he : starEach (e :: es) X.env = (false, eval e X.env) :: starEach es X.env := by rfl) (hpl : (backTo pos (starEach es X.env)).any (·.1) = false := by rfl) : EvE X (.Call (.Name n p) (e :: es) [] pos) σ B R := by
  obtain ⟨f, fd, h1, h2, h3, h4⟩ := G.ex
  exact e_call h4 hr h1 h2 h3 hx ha hs hg hdb he hpl
theorem e_callP {pre : List V → Hp → Rel → Prop} (G : Dfn X.prog X.w X.K X.mg X.base CX0 k n ps (Pure pre)) (hr : Room k X.A) (ha : EvAE X (e :: es) σ B RA) (hs : ∀ vs B1, Ex B B1 → RA vs B1 → pre vs B1 R) (hg : Gl X n := by rfl) (hdb : (n == ("__debug__" : Str)) = false := by decide)
    (he : starEach (e :: es) X.env = (false, eval e X.env) :: starEach es X.env := by rfl) (hpl : (backTo pos (starEach es X.env)).any (·.1) = false := by rfl) : EvE X (.Call (.Name n p) (e :: es) [] pos) σ B R :=
  e_callD G hr pass0 ha (fun vs B1 e1 r H1 i1 Q q => ⟨B1, R, i1, hs vs B1 e1 r, q⟩) hg hdb he hpl
theorem e_callV {ok : List PyData → Prop} {f : List PyData → V} (G : Dfn X.prog X.w X.K X.mg X.base CX0 k n ps (Pure (preV X.K nn ok f))) (hr : Room k X.A) (ha : EvAE X (e :: es) σ B (AD X.K ds)) (hl : ds.length = nn) (hok : ok ds) (hg : Gl X n := by rfl) (hdb : (n == ("__debug__" : Str)) = false := by decide)
    (he : starEach (e :: es) X.env = (false, eval e X.env) :: starEach es X.env := by rfl) (hpl : (backTo pos (starEach es X.env)).any (·.1) = false := by rfl) : EvE X (.Call (.Name n p) (e :: es) [] pos) σ B (IsV (f ds)) :=
  e_callP G hr ha (fun vs H1 _ r => ⟨ds, r, hl, hok, rfl⟩) hg hdb he hpl
theorem e_callK {v : V} {ok : List PyData → Prop} {f : List PyData → V} (G : Dfn X.prog X.w X.K X.mg X.base CX0 k n ps (Pure (preV X.K nn ok f))) (hr : Room k X.A) (ha : EvAE X (e :: es) σ B (AD X.K ds)) (hl : ds.length = nn) (hok : ok ds) (hv : f ds = v) (hg : Gl X n := by rfl) (hdb : (n == ("__debug__" : Str)) = false := by decide)
    (he : starEach (e :: es) X.env = (false, eval e X.env) :: starEach es X.env := by rfl) (hpl : (backTo pos (starEach es X.env)).any (·.1) = false := by rfl) : EvE X (.Call (.Name n p) (e :: es) [] pos) σ B (IsV v) :=
  hv ▸ e_callV G hr ha hl hok hg hdb he hpl
theorem e_callR {ok : List PyData → Rel → Prop} (G : Dfn X.prog X.w X.K X.mg X.base CX0 k n ps (Pure (preR X.K nn ok))) (hr : Room k X.A) (ha : EvAE X (e :: es) σ B (AD X.K ds)) (hl : ds.length = nn) (hok : ok ds R) (hg : Gl X n := by rfl) (hdb : (n == ("__debug__" : Str)) = false := by decide)
    (he : starEach (e :: es) X.env = (false, eval e X.env) :: starEach es X.env := by rfl) (hpl : (backTo pos (starEach es X.env)).any (·.1) = false := by rfl) : EvE X (.Call (.Name n p) (e :: es) [] pos) σ B R :=
  e_callP G hr ha (fun vs H1 _ r => ⟨ds, r, hl, hok⟩) hg hdb he hpl
end
section
variable {P : Program} {w : World} {K : PySem.W.Frag}
variable {mg : Str → Option Value} {base : Heap}
/-- a def that only makes objects -/
theorem pure_ok {x : Str} {st : Stmt} {f : Addr} {fd : FuncData} {N ps : List Str} {k : Nat} {pre : List V → Hp → Rel → Prop} (F : Fun K x x st f fd) (S : FnScope N ps (defScope st)) (len : ∀ vs H R, pre vs H R → vs.length = ps.length)
    (hbody : ∀ (cdv : Value) (A : Around) (outer : List Env) (s : Shared) (B H : Hp) (vs : List V) (Q : VK) (E : XK) (R : Rel), Room k (A.deeper (envOfC x (defScope st) s.heap.objs.size f cdv)) → Ex B H → pre vs B R → Yields B H R Q →
      wB (cxOf CX0 P w K mg base N x (defScope st) f cdv A outer s H E).nox (defBody st) { nx := fun _ H' => Q .non H', rt := Q } (start N vs) H) : FnOk P w K mg base CX0 (k + 1) f fd ps (Pure pre) :=
  F.ok S (fun vs H Q E h => let ⟨B, R, _, h1, _⟩ := h; len vs B R h1) fun cdv A outer s H vs Q E hr h => let ⟨B, R, h0, h1, h2⟩ := h; ⟨_, pss_w, hbody cdv A outer s B H vs Q E R hr h0 h1 h2⟩
theorem pureV_ok {x : Str} {st : Stmt} {f : Addr} {fd : FuncData} {N ps : List Str} {k : Nat} {ok : List PyData → Prop} {g : List PyData → V} (F : Fun K x x st f fd) (S : FnScope N ps (defScope st))
    (hbody : ∀ (cdv : Value) (A : Around) (outer : List Env) (s : Shared) (B H : Hp) (vs : List V) (Q : VK) (E : XK) (ds : List PyData), Room k (A.deeper (envOfC x (defScope st) s.heap.objs.size f cdv)) → Ex B H → DpAll K B vs ds → ds.length = ps.length → ok ds → Yields B H (IsV (g ds)) Q →
      wB (cxOf CX0 P w K mg base N x (defScope st) f cdv A outer s H E).nox (defBody st) { nx := fun _ H' => Q .non H', rt := Q } (start N vs) H) : FnOk P w K mg base CX0 (k + 1) f fd ps (Pure (preV K ps.length ok g)) :=
  pure_ok F S (fun vs H R h => let ⟨ds, h1, h2, _⟩ := h; (dps_len h1).trans h2) fun cdv A outer s B H vs Q E R hr e0 h y => by
    obtain ⟨ds, h1, h2, h3, rfl⟩ := h
    exact hbody cdv A outer s B H vs Q E ds hr e0 h1 h2 h3 y
theorem dps1 {H : Hp} {vs : List V} {ds : List PyData} (h : DpAll K H vs ds) (hl : ds.length = 1) : ∃ d v, ds = [d] ∧ vs = [v] ∧ Dp K H v d := by
  match ds, hl, h with
  | [d], _, .cons h1 .nil => exact ⟨d, _, rfl, rfl, h1⟩
theorem dps2 {H : Hp} {vs : List V} {ds : List PyData} (h : DpAll K H vs ds) (hl : ds.length = 2) : ∃ d e v u, ds = [d, e] ∧ vs = [v, u] ∧ Dp K H v d ∧ Dp K H u e := by
  match ds, hl, h with
  | [d, e], _, .cons h1 (.cons h2 .nil) => exact ⟨d, e, _, _, rfl, rfl, h1, h2⟩
theorem dps3 {H : Hp} {vs : List V} {ds : List PyData} (h : DpAll K H vs ds) (hl : ds.length = 3) : ∃ d e g v u t, ds = [d, e, g] ∧ vs = [v, u, t] ∧ Dp K H v d ∧ Dp K H u e ∧ Dp K H t g := by
  match ds, hl, h with
  | [d, e, g], _, .cons h1 (.cons h2 (.cons h3 .nil)) => exact ⟨d, e, g, _, _, _, rfl, rfl, h1, h2, h3⟩

/-! ### is_integer, is_letter, is_pair -/
def isIntD : PyData → Bool | .int _ => true | _ => false
def fIsInteger : List PyData → V | [d] => .bl (isIntD d) | _ => .non
theorem isIntD_eq (d : PyData) : (isInt d && !isBool d) = isIntD d := by cases d <;> rfl
theorem ok_is_integer {f : Addr} {fd : FuncData} (U : Bi mg) (F : Fun K "is_integer" "is_integer" s_is_integer f fd) : FnOk P w K mg base CX0 1 f fd ["value"] (Pure (preV K 1 (fun _ => True) fIsInteger)) := by
  refine pureV_ok F sc_is_integer fun cdv A outer s B H vs Q E ds hr e0 hd hl _ y => ?_
  obtain ⟨d, v, rfl, rfl, hv⟩ := dps1 hd hl
  refine b_one (s_retY e0 (R := IsV (.bl (isIntD d))) ?_ y)
  rw [← isIntD_eq]
  exact e_and (e_isi U.isinstance (e_varD 0 rfl hv) U.int (by decide +kernel) (kit_int d)) fun _ => e_one (e_not (e_isi U.isinstance (e_varD 0 rfl hv) U.bool (by decide +kernel) (kit_bool d)))
def letterN (c : Nat) : Bool := decide (97 ≤ c) && decide (c ≤ 122)
def digitN (c : Nat) : Bool := decide (48 ≤ c) && decide (c ≤ 57)
def oneOf : PyData → Option Nat | .str ⟨⟨[c]⟩⟩ => some c | _ => none
def fIsLetter : List PyData → V | [.str ⟨⟨[c]⟩⟩] => .bl (letterN c) | _ => .non
theorem lt_one (a b : Nat) : decide ([a] < [b]) = decide (a < b) := by
  simp [List.cons_lt_cons_iff]
theorem ok_is_letter {f : Addr} {fd : FuncData} (F : Fun K "is_letter" "is_letter" s_is_letter f fd) : FnOk P w K mg base CX0 1 f fd ["character"] (Pure (preV K 1 (fun ds => ∃ c, ds = [.str ⟨#[c]⟩]) fIsLetter)) := by
  refine pureV_ok F sc_is_letter fun cdv A outer s B H vs Q E ds hr e0 hd hl hok y => ?_
  obtain ⟨c, rfl⟩ := hok
  obtain ⟨d, v, e, rfl, hv⟩ := dps1 hd hl
  cases e
  cases hv
  refine b_one (s_retY e0 (R := IsV (.bl (letterN c))) ?_ y)
  have e1 : letterN c = (!decide ([c] < [97]) && !decide ([122] < [c])) := by
    rw [lt_one, lt_one]
    unfold letterN
    rw [← decide_not, ← decide_not]
    congr 1 <;> (apply decide_eq_decide.mpr; omega)
  rw [e1]
  exact e_chain op_le_str op_le_str e_str (e_var 0 rfl) e_str (fun x y B1 r1 r2 H1 i1 Q q => by cases r1; cases r2; exact ⟨_, _, rfl, rfl, q.val i1⟩) (fun x y B1 r1 r2 H1 i1 Q q => by cases r1; cases r2; exact ⟨_, _, rfl, rfl, q.val i1⟩)
def tupLen : PyData → Nat → Bool
  | .tuple xs, n => decide ((xs.length : Int) = (n : Int))
  | _, _ => true
def pairD (d : PyData) : Bool := isTuple d && tupLen d 2
theorem dec_intV {i j : Int} : decide (V.int i = V.int j) = decide (i = j) := decide_eq_decide.mpr ⟨fun h => V.int.inj h, fun h => by rw [h]⟩
theorem pairD_iff {d : PyData} : pairD d = true ↔ ∃ a b, d = .tuple [a, b] := by
  cases d with
  | tuple xs =>
    match xs with
    | [] => simp [pairD, tupLen, isTuple]
    | [_] => simp [pairD, tupLen, isTuple]
    | [_, _] => simp [pairD, tupLen, isTuple]
    | _ :: _ :: _ :: xs =>
      simp [pairD, tupLen, isTuple]
      omega
  | _ => simp [pairD, isTuple]
def fIsPair : List PyData → V | [d] => .bl (pairD d) | _ => .non
theorem ok_is_pair {f : Addr} {fd : FuncData} (U : Bi mg) (F : Fun K "is_pair" "is_pair" s_is_pair f fd) : FnOk P w K mg base CX0 1 f fd ["value"] (Pure (preV K 1 (fun ds => ∀ d ∈ ds, ∀ n, lenD d = some n → n ≤ 1000) fIsPair)) := by
  refine pureV_ok F sc_is_pair fun cdv A outer s B H vs Q E ds hr e0 hd hl hok y => ?_
  obtain ⟨d, v, rfl, rfl, hv⟩ := dps1 hd hl
  refine b_one (s_retY e0 (R := IsV (.bl (pairD d))) ?_ y)
  refine e_and (e_isi U.isinstance (e_varD 0 rfl hv) U.tuple (by decide +kernel) (kit_tuple d)) fun ht => e_one ?_
  cases d with
  | tuple xs =>
    have hz : xs.length ≤ 100000 := Nat.le_trans (hok _ List.mem_cons_self _ rfl) (by decide)
    show EvE _ _ _ B (IsV (.bl (decide ((xs.length : Int) = 2))))
    rw [← dec_intV]
    exact e_eqV (e_len U.len (e_varD 0 rfl hv) rfl hz) e_int rfl
  | _ => cases ht
end
end K8

/-! Loops over texts, over zip of two tuples; comprehensions over data. -/
namespace K8
open PySem PySem.Spec PyProof.Rows L2 Evl
section
variable {X : Cx} {σ : Slots} {B B' H H' : Hp} {R R' Ra Rb : Rel} {e a b c l : Expr} {es rest : List Expr} {pos p : Pos} {x y z v : V} {d d1 d2 : PyData} {ds es' : List PyData} {k k1 k2 : Bool} {D : Ends} {body : List Stmt}
/-- over a text, sign by sign -/
theorem for_s {i : Nat} {tg : Expr} (s : Str) (Pv : Nat → Slots → Prop) (hp : PassesOwn (model X.prog X.w) X.A X.env X.xe) (hc : X.calm = true) (hg : PG X tg (gName i)) (e0 : Ex B H) (src : EvE X l σ B (IsV (.str s))) (h0 : Pv 0 σ)
    (ht : ∀ j ch σ' B' H', s.cps.toList[j]? = some ch → Step B H B' H' → Pv j σ' → wB X body (turn D fun σ3 B3 H3 => Pv (j + 1) σ3 ∧ Step B' H' B3 H3) (σ'.set i (some (.str ⟨#[ch]⟩))) H') (hd : ∀ σ' B' H', Step B H B' H' → Pv s.cps.size σ' → D.nx σ' H')
    (hs : ∀ x, foldedSetIterable l X.env x = pure x := by intro _; rfl) : wS X (.For tg l body [] pos) D σ H :=
  s_for hp hc (pi_str pe_w) hg (src.run e0 fun v B1 H1 s1 r => by
    have ev : v = .str s := r B1 (Ex.refl B1)
    subst ev
    refine ⟨s, rfl, fun j m σ' H' => m = s.cps.size - j ∧ j ≤ s.cps.size ∧ Pv j σ' ∧ ∃ B', Step B H B' H', ⟨_, rfl, Nat.zero_le _, h0, B1, s1⟩, ?_⟩
    rintro j m σ' H' ⟨rfl, hj, hP, B', s2⟩
    by_cases hlt : j < s.cps.size
    · refine .inr ⟨hlt, fun σ3 H3 => Pv (j + 1) σ3 ∧ ∃ B3, Step B H B3 H3, fun σ3 H3 q => ⟨_, (by omega : s.cps.size - (j + 1) < s.cps.size - j), rfl, hlt, q.1, q.2⟩, fun x H2 yl => ?_⟩
      obtain ⟨rfl, ch, hch, rfl⟩ := yl
      have hch' : s.cps.toList[j]? = some ch := by rw [Array.getElem?_toList]; exact hch
      exact wB_imp (ht j ch σ' B' H2 hch' s2 hP) (fun _ _ ⟨B3, p, t⟩ => ⟨p, B3, s2.trans t⟩) (fun _ _ q => q) (fun _ _ q => q) (fun _ _ ⟨B3, p, t⟩ => ⟨p, B3, s2.trans t⟩)
    · have ej : j = s.cps.size := by omega
      subst ej
      exact .inl ⟨Nat.le_refl _, hd σ' B' H' s2 hP⟩) hs
/-- for a, b in zip(s, t) over two tuples of ints, of one length -/
theorem for_z {i j : Nat} {t1 t2 : Expr} {kk : Nat} {tpos : Pos} (ns ms : List Int) (hlen : ns.length = ms.length) (Pv : Nat → Slots → Prop) (hp : PassesOwn (model X.prog X.w) X.A X.env X.xe) (hc : X.calm = true) (hg1 : PG X t1 (gName i)) (hg2 : PG X t2 (gName j)) (hm : X.mg "zip" = none) (e0 : Ex B H)
    (s1 : EvE X a σ B (IsD X.K (.tuple (ns.map .int)))) (s2 : EvE X b σ B (IsD X.K (.tuple (ms.map .int)))) (h0 : Pv 0 σ)
    (ht : ∀ m n1 n2 σ' B' H', ns[m]? = some n1 → ms[m]? = some n2 → Step B H B' H' → Pv m σ' → wB X body (turn D fun σ3 B3 H3 => Pv (m + 1) σ3 ∧ Step B' H' B3 H3) ((σ'.set i (some (.int n1))).set j (some (.int n2))) H') (hd : ∀ σ' B' H', Step B H B' H' → Pv ns.length σ' → D.nx σ' H') (hgl : Gl X "zip" := by rfl)
    (hst : starEach [a, b] X.env = (false, eval a X.env) :: starEach [b] X.env := by rfl) (hst2 : starEach [b] X.env = (false, eval b X.env) :: starEach [] X.env := by rfl) (hpl : (backTo pos (starEach [b] X.env)).any (·.1) = false := by rfl)
    (hsq : (assignEach [t1, t2] X.env).map (·.2) = assign t1 X.env :: (assignEach [t2] X.env).map (·.2) := by rfl) (hsq2 : (assignEach [t2] X.env).map (·.2) = assign t2 X.env :: (assignEach [] X.env).map (·.2) := by rfl)
    (hn : (assignEach [t1, t2] X.env).length = 2 := by rfl) (hfi : (assignEach [t1, t2] X.env).findIdx? (·.1) = none := by rfl)
    (hs : ∀ x, foldedSetIterable (.Call (.Name "zip" p) [a, b] [] pos) X.env x = pure x := by intro _; rfl) {pos2 : Pos} : wS X (.For (.Tuple [t1, t2] kk tpos) (.Call (.Name "zip" p) [a, b] [] pos) body [] pos2) D σ H :=
  s_for hp hc (RZ.pi_zipA hgl hm (pa_cons pe_w (pa_cons pe_w pa_nil hst2) hst) (hs := hst) (hpl := hpl)) (pg_tup hc (pgs_cons hg1 (pgs_cons hg2 pgs_nil hsq2) hsq) hn hfi) (s1.run e0 fun v B1 H1 t1 r => (s2.mono t1.b).run t1.i fun u B2 H2 t2 r2 => by
    have r' := r B2 t2.b
    have r2' := r2 B2 (Ex.refl B2)
    cases r' with
    | tup q1 q2 =>
      cases r2' with
      | tup g1 g2 =>
        rename_i a1 xs b1 ys
        have ex := dps_ints_inv q2
        have ey := dps_ints_inv g2
        subst ex ey
        refine ⟨a1, b1, _, _, rfl, .inr ⟨ex_t t2.i q1, ex_t t2.i g1, RZ.for_zipT (by rw [List.length_map, List.length_map]; exact hlen) (fun m σ' H' => Pv m σ' ∧ ∃ B', Ex B2 B' ∧ Step B H B' H') ⟨h0, B2, Ex.refl B2, t1.trans t2⟩ (fun m σ' H' ⟨_, B', z1, z2⟩ => ⟨ex_t (z1.trans z2.i) q1, ex_t (z1.trans z2.i) g1⟩) ?_ ?_⟩⟩
        · intro m x y T σ' H' hx hy ⟨hP, B', z1, z2⟩ np
          rw [List.getElem?_map] at hx hy
          obtain ⟨n1, hn1, rfl⟩ := Option.map_eq_some_iff.mp hx
          obtain ⟨n2, hn2, rfl⟩ := Option.map_eq_some_iff.mp hy
          have sT := Step.mut z2.i (o := HO.tup [.int n1, .int n2]) np
          refine ⟨T, _, rfl, st_of upd_same, rfl, .int n1, [.int n2], rfl, .int n2, [], rfl, rfl, ?_⟩
          exact wB_imp (ht m n1 n2 σ' B' _ hn1 hn2 (z2.trans sT) hP) (fun _ _ ⟨B3, p, t⟩ => ⟨p, B3, z1.trans t.b, (z2.trans sT).trans t⟩) (fun _ _ q => q) (fun _ _ q => q) (fun _ _ ⟨B3, p, t⟩ => ⟨p, B3, z1.trans t.b, (z2.trans sT).trans t⟩)
        · intro σ' H' ⟨hP, B', z1, z2⟩
          rw [List.length_map] at hP
          exact hd σ' B' H' z2 hP) hs

/-! ### comprehensions -/
/-- within a comprehension of X -/
def EvBE (X : Cx) (scope : Scope) (e : Expr) (σ : Slots) (B : Hp) (R : Rel) : Prop := ∀ (s : Shared) (H0 : Hp) (C : Addr) (cl : List (Str × Addr)) (fp : List Addr), EvE (X.blk s H0 scope (compEnvC scope cl C X.env) fp) e σ B R
def EvBT (X : Cx) (scope : Scope) (e : Expr) (σ : Slots) (B : Hp) (k : Bool) : Prop := ∀ (s : Shared) (H0 : Hp) (C : Addr) (cl : List (Str × Addr)) (fp : List Addr), EvTE (X.blk s H0 scope (compEnvC scope cl C X.env) fp) e σ B k
def wEB (X : Cx) (scope : Scope) (e : Expr) : TE := fun σ H Q => ∀ (s : Shared) (H0 : Hp) (C : Addr) (cl : List (Str × Addr)) (fp : List Addr), wE (X.blk s H0 scope (compEnvC scope cl C X.env) fp) e σ H Q
def wTB (X : Cx) (scope : Scope) (e : Expr) : TT := fun σ H Q => ∀ (s : Shared) (H0 : Hp) (C : Addr) (cl : List (Str × Addr)) (fp : List Addr), wT (X.blk s H0 scope (compEnvC scope cl C X.env) fp) e σ H Q
theorem EvBE.ev {scope : Scope} (h : EvBE X scope e σ B R) : EvP (wEB X scope e) σ B R := fun H e0 Q q s H0 C cl fp => h s H0 C cl fp H e0 Q q
theorem EvBT.ev {scope : Scope} (h : EvBT X scope e σ B k) : EvT' (wTB X scope e) σ B k := fun H e0 Q q s H0 C cl fp => h s H0 C cl fp H e0 Q q
theorem pe_wB {scope : Scope} (s : Shared) (H0 : Hp) (C : Addr) (cl : List (Str × Addr)) (fp : List Addr) : PE (X.blk s H0 scope (compEnvC scope cl C X.env) fp) e (wEB X scope e) := ⟨fun pins t _ _ _ I h => h s H0 C cl fp pins t I⟩
theorem pt_wB {scope : Scope} (s : Shared) (H0 : Hp) (C : Addr) (cl : List (Str × Addr)) (fp : List Addr) : PT (X.blk s H0 scope (compEnvC scope cl C X.env) fp) e (wTB X scope e) := ⟨fun pins t _ _ _ I h => h s H0 C cl fp pins t I⟩
/-- what a comprehension keeps: its list at Dl, the items made so far -/
def LcP (K : PySem.W.Frag) (B1 H1 : Hp) (Dl : Addr) (made : List PyData) (H' : Hp) : Prop := ∃ B' acc, Step B1 H1 B' H' ∧ B' Dl = none ∧ H' Dl = some (.lst acc) ∧ DpAll K B' acc made
theorem lcP_start {K : PySem.W.Frag} {B1 H1 : Hp} {Dl : Addr} (e : Ex B1 H1) (h : H1 Dl = none) : LcP K B1 H1 Dl [] (upd H1 Dl (.lst [])) := ⟨B1, [], Step.mut e h, ex_none e h, upd_same, .nil⟩
/-- the comprehension's step -/
theorem lcP_turn {K : PySem.W.Frag} {tt : TT} {te : TE} {B1 H1 B' H' : Hp} {Dl : Addr} {made : List PyData} {acc : List V} {σ2 : Slots} {k : Bool} {d : PyData} {Pn : Hp → Prop} (hD : H1 Dl = none) (s : Step B1 H1 B' H') (n : B' Dl = none) (hd : H' Dl = some (.lst acc)) (ha : DpAll K B' acc made) (hz : made.length < 50000) (ht : EvT' tt σ2 B' k) (he : k = true → EvP te σ2 B' (IsD K d))
    (hn : ∀ H', LcP K B1 H1 Dl (if k = true then made ++ [d] else made) H' → Pn H') :
    tt σ2 H' fun b H3 => if b = true then te σ2 H3 fun y H4 => ∃ acc, H4 Dl = some (.lst acc) ∧ acc.length < sizeLine ∧ Pn (upd H4 Dl (.lst (acc ++ [y]))) else Pn H3 := by
  refine ht H' s.i _ fun B3 H3 s3 => ?_
  have s3' := s3.same
  cases k with
  | false => exact hn H3 ⟨B', acc, s.trans s3', n, s3'.h _ _ hd, ha⟩
  | true =>
    refine he rfl H3 s3'.i _ fun y B4 H4 s4 r => ?_
    have n4 : B4 Dl = none := s4.off _ _ n (s3'.h _ _ hd)
    refine ⟨acc, s4.h _ _ (s3'.h _ _ hd), sz_lt (by rw [dps_len ha]; omega), hn _ ⟨B4, acc ++ [y], ?_, n4, upd_same, dps_append (dps_grow ha s4.b) (.cons (r B4 (Ex.refl B4)) .nil)⟩⟩
    have st := (s.trans s3').trans s4
    exact ⟨st.b, ex_put st.i n4, st.h.mut hD, st.off⟩
theorem take_fm {α β : Type} {L : List α} {f : α → Bool} {g : α → β} {i : Nat} {a : α} (h : L[i]? = some a) : ((L.take (i + 1)).filter f).map g = if f a = true then ((L.take i).filter f).map g ++ [g a] else ((L.take i).filter f).map g := by
  have hi := (List.getElem?_eq_some_iff.mp h).1
  have ha := (List.getElem?_eq_some_iff.mp h).2
  rw [List.take_succ_eq_append_getElem hi, List.filter_append, List.map_append, ha]
  cases hf : f a <;> simp [List.filter_cons, hf]
theorem take_fm_len {α β : Type} (L : List α) (f : α → Bool) (g : α → β) (i : Nat) : (((L.take i).filter f).map g).length ≤ L.length := by
  rw [List.length_map]
  refine Nat.le_trans (List.length_filter_le _ _) ?_
  rw [List.length_take]
  omega
/-- a comprehension over a list of data; T: what the slots say behind the target -/
theorem lc_l {α : Type} {g : TG} {tt : TT} {te : TE} {vs : List Nat} {K : PySem.W.Frag} {tl : TE} (L : List α) (enc : α → PyData) (f : α → Bool) (g' : α → PyData) (T : α → Slots → Hp → Prop) (hz : L.length ≤ 40000) (src : EvP tl σ B (IsD K (.list (L.map enc))))
    (hgo : ∀ a ∈ L, ∀ v B' H' (Q : Slots → Hp → Prop), Ex B B' → Ex B' H' → Dp K B' v (enc a) → (∀ σ2, T a σ2 B' → wipe σ2 vs = wipe σ vs → Q σ2 H') → g v (wipe σ vs) H' Q)
    (ht : ∀ a ∈ L, ∀ σ2 B', Ex B B' → T a σ2 B' → EvT' tt σ2 B' (f a)) (he : ∀ a ∈ L, f a = true → ∀ σ2 B', Ex B B' → T a σ2 B' → EvP te σ2 B' (IsD K (g' a))) : EvN (tLc (iList K tl) g tt te vs) σ B (NewL (AD K ((L.filter f).map g'))) := fun H e0 Q q => src H e0 _ fun v B1 H1 s1 r => by
  have r1 := r B1 (Ex.refl B1)
  cases r1 with
  | lst hq ha =>
    rename_i a xs
    have hl : xs.length = L.length := by rw [dps_len ha, List.length_map]
    refine ⟨a, rfl, ⟨xs, ex_l s1.i hq⟩, fun Dl hD => lc_list (xs := xs) (fun i H' => LcP K B1 H1 Dl (((L.take i).filter f).map g') H') (lcP_start s1.i hD) (fun i H' _ ⟨B', acc, s, _⟩ => ex_l (s.b.trans s.i) hq) (fun i x H' hx P => ?_) fun H' P => ?_⟩
    · obtain ⟨d, hd1, hd2⟩ := dps_get ha hx
      rw [List.getElem?_map] at hd1
      obtain ⟨w, hw, rfl⟩ := Option.map_eq_some_iff.mp hd1
      have hm : w ∈ L := List.mem_of_getElem? hw
      obtain ⟨B', acc, s, n, hd, hacc⟩ := id P
      refine hgo w hm x B' H' _ (s1.b.trans s.b) s.i (dp_grow hd2 s.b) fun σ2 hT hwp => ⟨hwp, ?_⟩
      refine lcP_turn hD s n hd hacc (Nat.lt_of_le_of_lt (take_fm_len L f g' i) (by omega)) (ht w hm σ2 B' (s1.b.trans s.b) hT) (fun hk => he w hm hk σ2 B' (s1.b.trans s.b) hT) fun H3 P3 => ?_
      rw [take_fm hw]
      exact P3
    · obtain ⟨B', acc, s, n, hd, hacc⟩ := P
      rw [hl, List.take_length] at hacc
      exact q Dl B' H' (fresh_back s1.h hD) n (s1.trans s) ⟨acc, hd, fun B2 e2 => dps_grow hacc e2⟩
theorem lc_t {α : Type} {g : TG} {tt : TT} {te : TE} {vs : List Nat} {K : PySem.W.Frag} {tl : TE} (L : List α) (enc : α → PyData) (f : α → Bool) (g' : α → PyData) (T : α → Slots → Hp → Prop) (hz : L.length ≤ 40000) (src : EvP tl σ B (IsD K (.tuple (L.map enc))))
    (hgo : ∀ a ∈ L, ∀ v B' H' (Q : Slots → Hp → Prop), Ex B B' → Ex B' H' → Dp K B' v (enc a) → (∀ σ2, T a σ2 B' → wipe σ2 vs = wipe σ vs → Q σ2 H') → g v (wipe σ vs) H' Q)
    (ht : ∀ a ∈ L, ∀ σ2 B', Ex B B' → T a σ2 B' → EvT' tt σ2 B' (f a)) (he : ∀ a ∈ L, f a = true → ∀ σ2 B', Ex B B' → T a σ2 B' → EvP te σ2 B' (IsD K (g' a))) : EvN (tLc (iTup K tl) g tt te vs) σ B (NewL (AD K ((L.filter f).map g'))) := fun H e0 Q q => src H e0 _ fun v B1 H1 s1 r => by
  have r1 := r B1 (Ex.refl B1)
  cases r1 with
  | tup hq ha =>
    rename_i a xs
    have hl : xs.length = L.length := by rw [dps_len ha, List.length_map]
    refine ⟨a, rfl, ⟨xs, ex_t s1.i hq⟩, fun Dl hD => lc_tup (xs := xs) (fun i H' => LcP K B1 H1 Dl (((L.take i).filter f).map g') H') (lcP_start s1.i hD) (fun i H' _ ⟨B', acc, s, _⟩ => ex_t (s.b.trans s.i) hq) (fun i x H' hx P => ?_) fun H' P => ?_⟩
    · obtain ⟨d, hd1, hd2⟩ := dps_get ha hx
      rw [List.getElem?_map] at hd1
      obtain ⟨w, hw, rfl⟩ := Option.map_eq_some_iff.mp hd1
      have hm : w ∈ L := List.mem_of_getElem? hw
      obtain ⟨B', acc, s, n, hd, hacc⟩ := id P
      refine hgo w hm x B' H' _ (s1.b.trans s.b) s.i (dp_grow hd2 s.b) fun σ2 hT hwp => ⟨hwp, ?_⟩
      refine lcP_turn hD s n hd hacc (Nat.lt_of_le_of_lt (take_fm_len L f g' i) (by omega)) (ht w hm σ2 B' (s1.b.trans s.b) hT) (fun hk => he w hm hk σ2 B' (s1.b.trans s.b) hT) fun H3 P3 => ?_
      rw [take_fm hw]
      exact P3
    · obtain ⟨B', acc, s, n, hd, hacc⟩ := P
      rw [hl, List.take_length] at hacc
      exact q Dl B' H' (fresh_back s1.h hD) n (s1.trans s) ⟨acc, hd, fun B2 e2 => dps_grow hacc e2⟩
/-- over range(n): every item is what R allows -/
theorem lc_r {g : TG} {te : TE} {vs : List Nat} {K : PySem.W.Frag} {ta : TE} {n : Int} (A : Nat → PyData → Prop) (T : Nat → Slots → Prop) (hn : 0 ≤ n ∧ n ≤ 40000) (src : EvP ta σ B (IsV (.int n)))
    (hgo : ∀ (j : Nat) H' (Q : Slots → Hp → Prop), (j : Int) < n → (∀ σ2, T j σ2 → wipe σ2 vs = wipe σ vs → Q σ2 H') → g (.int (j : Int)) (wipe σ vs) H' Q)
    (he : ∀ (j : Nat), (j : Int) < n → ∀ σ2 B', Ex B B' → T j σ2 → EvP te σ2 B' (fun v B1 => ∃ d, A j d ∧ Dp K B1 v d)) :
    EvN (tLc (iRng1 (tCons ta tNil)) g tYes te vs) σ B (fun p B1 H1 => ∃ ds, ds.length = n.toNat ∧ (∀ (i : Nat) d, ds[i]? = some d → A i d) ∧ NewL (AD K ds) p B1 H1) := fun H e0 Q q => src H e0 _ fun v B1 H1 s1 r => by
  have ev : v = .int n := r B1 (Ex.refl B1)
  subst ev
  refine ⟨n, rfl, by omega, by omega, fun Dl hD => lc_range (lo := 0) (n := n.toNat) (fun i H' => ∃ ds, ds.length = i ∧ (∀ (i : Nat) d, ds[i]? = some d → A i d) ∧ LcP K B1 H1 Dl ds H') ⟨[], rfl, fun _ _ h => by simp at h, lcP_start s1.i hD⟩ (fun i H' hi P => ?_) fun H' P => ?_⟩
  · obtain ⟨ds, hlen, hA, B', acc, s, m, hd, hacc⟩ := P
    have ez : (0 : Int) + (i : Int) = (i : Int) := Int.zero_add _
    rw [ez]
    refine hgo i H' _ (by omega) fun σ2 hT hwp => ⟨hwp, ?_⟩
    show te σ2 H' fun y H4 => ∃ acc, H4 Dl = some (.lst acc) ∧ acc.length < sizeLine ∧ _
    refine he i (by omega) σ2 B' (s1.b.trans s.b) hT H' s.i _ fun y B4 H4 s4 r => ?_
    have n4 : B4 Dl = none := s4.off _ _ m hd
    obtain ⟨d, hd1, hd2⟩ := r B4 (Ex.refl B4)
    refine ⟨acc, s4.h _ _ hd, sz_lt (by rw [dps_len hacc]; omega), ds ++ [d], by rw [List.length_append, hlen]; rfl, fun m' x hx => ?_, B4, acc ++ [y], ?_, n4, upd_same, dps_append (dps_grow hacc s4.b) (.cons hd2 .nil)⟩
    · by_cases hm : m' < ds.length
      · rw [List.getElem?_append_left hm] at hx
        exact hA m' x hx
      · rw [List.getElem?_append_right (by omega)] at hx
        have hm2 : m' = i := by
          have := (List.getElem?_eq_some_iff.mp hx).1
          rw [List.length_singleton] at this
          omega
        subst hm2
        rw [hlen, Nat.sub_self] at hx
        have ex : d = x := Option.some.inj hx
        rw [← ex]
        exact hd1
    · have st := s.trans s4
      exact ⟨st.b, ex_put st.i n4, st.h.mut hD, st.off⟩
  · obtain ⟨ds, hlen, hA, B', acc, s, m, hd, hacc⟩ := P
    exact q Dl B' H' (fresh_back s1.h hD) m (s1.trans s) ⟨ds, hlen, hA, acc, hd, fun B2 e2 => dps_grow hacc e2⟩
/-- the slots behind a plain target -/
def TName (K : PySem.W.Frag) (σ : Slots) (vs : List Nat) (j : Nat) (d : PyData) (σ2 : Slots) (B : Hp) : Prop := ∃ v, σ2 = (wipe σ vs).set j (some v) ∧ Dp K B v d
theorem go_name {K : PySem.W.Frag} {vs : List Nat} {j : Nat} {d : PyData} (hw : ∀ x, wipe ((wipe σ vs).set j (some x)) vs = wipe σ vs) {v : V} {B' H' : Hp} {Q : Slots → Hp → Prop} (hd : Dp K B' v d) (k : ∀ σ2, TName K σ vs j d σ2 B' → wipe σ2 vs = wipe σ vs → Q σ2 H') : gName j v (wipe σ vs) H' Q := k _ ⟨v, rfl, hd⟩ (hw v)
/-- [elt for x in l], [elt for x in l if c], l a list of data -/
theorem n_lc {α : Type} {j : Nat} {own : List (Str × Nat)} {elt : Expr} {n : Str} {pn : Pos} {scope : Scope} (L : List α) (enc : α → PyData) (g' : α → PyData) (hN : X.N.Nodup) (hz : L.length ≤ 40000) (src : EvE X l σ B (IsD X.K (.list (L.map enc)))) (ok : blkC X.N X.env.scope scope own = true)
    (he : ∀ a ∈ L, ∀ σ2 B', Ex B B' → TName X.K σ (own.map (·.2)) j (enc a) σ2 B' → EvBE X scope elt σ2 B' (IsD X.K (g' a))) (hc : X.calm = true := by rfl)
    (hj : X.N[j]? = some n := by rfl) (hx : ∀ (C : Addr) (cl : List (Str × Addr)), Loc (compEnvC scope cl C X.env).scope n := by intro _ _; first | exact Or.inl rfl | exact Or.inr rfl) (hf : ∀ (s : Shared) (H0 : Hp) (C : Addr) (cl : List (Str × Addr)) (fp : List Addr), (X.blk s H0 scope (compEnvC scope cl C X.env) fp).fn n = true ∨ (X.blk s H0 scope (compEnvC scope cl C X.env) fp).env.scope.names.lookup n = some .local := by intro _ _ _ _ _; first | exact .inl rfl | exact .inr rfl)
    (hw : ∀ x, wipe ((wipe σ (own.map (·.2))).set j (some x)) (own.map (·.2)) = wipe σ (own.map (·.2)) := by intro _; rfl) (hs : ∀ x, foldedSetIterable l X.env x = pure x := by intro _; rfl) :
    EvNE X (.ListComp elt [⟨.Name n pn, l, [], 0⟩] scope pos) σ B (NewL (AD X.K (L.map g'))) := by
  have h := lc_l (tt := tYes) (te := wEB X scope elt) (g := gName j) (vs := own.map (·.2)) (K := X.K) (tl := wE X l) L enc (fun _ => true) g' (fun a => TName X.K σ (own.map (·.2)) j (enc a)) hz src (fun a _ v B' H' Q _ _ hd k => go_name hw hd k) (fun _ _ _ _ _ _ H e0 Q q => q _ H (Step.refl e0)) fun a ha _ σ2 B' e2 t => (he a ha σ2 B' e2 t).ev
  rw [List.filter_eq_self.mpr (fun _ _ => rfl)] at h
  exact of_peN (pe_lc hc hN (pi_list pe_w) (blkOk_by ok) (fun s H0 C cl fp => pg_name hN hj (hx C cl) (hf s H0 C cl fp)) (fun _ _ _ _ _ => pts_nil) pe_wB hs) h
theorem n_lcIf {α : Type} {j : Nat} {own : List (Str × Nat)} {elt : Expr} {n : Str} {pn : Pos} {scope : Scope} (L : List α) (enc : α → PyData) (f : α → Bool) (g' : α → PyData) (hN : X.N.Nodup) (hz : L.length ≤ 40000) (src : EvE X l σ B (IsD X.K (.list (L.map enc)))) (ok : blkC X.N X.env.scope scope own = true)
    (ht : ∀ a ∈ L, ∀ σ2 B', Ex B B' → TName X.K σ (own.map (·.2)) j (enc a) σ2 B' → EvBT X scope c σ2 B' (f a))
    (he : ∀ a ∈ L, f a = true → ∀ σ2 B', Ex B B' → TName X.K σ (own.map (·.2)) j (enc a) σ2 B' → EvBE X scope elt σ2 B' (IsD X.K (g' a))) (hc : X.calm = true := by rfl)
    (hj : X.N[j]? = some n := by rfl) (hx : ∀ (C : Addr) (cl : List (Str × Addr)), Loc (compEnvC scope cl C X.env).scope n := by intro _ _; first | exact Or.inl rfl | exact Or.inr rfl) (hf : ∀ (s : Shared) (H0 : Hp) (C : Addr) (cl : List (Str × Addr)) (fp : List Addr), (X.blk s H0 scope (compEnvC scope cl C X.env) fp).fn n = true ∨ (X.blk s H0 scope (compEnvC scope cl C X.env) fp).env.scope.names.lookup n = some .local := by intro _ _ _ _ _; first | exact .inl rfl | exact .inr rfl)
    (hw : ∀ x, wipe ((wipe σ (own.map (·.2))).set j (some x)) (own.map (·.2)) = wipe σ (own.map (·.2)) := by intro _; rfl) (hs : ∀ x, foldedSetIterable l X.env x = pure x := by intro _; rfl) :
    EvNE X (.ListComp elt [⟨.Name n pn, l, [c], 0⟩] scope pos) σ B (NewL (AD X.K ((L.filter f).map g'))) :=
  of_peN (pe_lc hc hN (pi_list pe_w) (blkOk_by ok) (fun s H0 C cl fp => pg_name hN hj (hx C cl) (hf s H0 C cl fp)) (fun s H0 C cl fp => pts_one (pt_wB s H0 C cl fp)) pe_wB hs)
    (lc_l (tt := wTB X scope c) (te := wEB X scope elt) (g := gName j) (vs := own.map (·.2)) (K := X.K) (tl := wE X l) L enc f g' (fun a => TName X.K σ (own.map (·.2)) j (enc a)) hz src (fun a _ v B' H' Q _ _ hd k => go_name hw hd k) (fun a ha σ2 B' e2 t => (ht a ha σ2 B' e2 t).ev) fun a ha hk σ2 B' e2 t => (he a ha hk σ2 B' e2 t).ev)
theorem n_lcT {α : Type} {j : Nat} {own : List (Str × Nat)} {elt : Expr} {n : Str} {pn : Pos} {scope : Scope} (L : List α) (enc : α → PyData) (g' : α → PyData) (hN : X.N.Nodup) (hz : L.length ≤ 40000) (src : EvE X l σ B (IsD X.K (.tuple (L.map enc)))) (ok : blkC X.N X.env.scope scope own = true)
    (he : ∀ a ∈ L, ∀ σ2 B', Ex B B' → TName X.K σ (own.map (·.2)) j (enc a) σ2 B' → EvBE X scope elt σ2 B' (IsD X.K (g' a))) (hc : X.calm = true := by rfl)
    (hj : X.N[j]? = some n := by rfl) (hx : ∀ (C : Addr) (cl : List (Str × Addr)), Loc (compEnvC scope cl C X.env).scope n := by intro _ _; first | exact Or.inl rfl | exact Or.inr rfl) (hf : ∀ (s : Shared) (H0 : Hp) (C : Addr) (cl : List (Str × Addr)) (fp : List Addr), (X.blk s H0 scope (compEnvC scope cl C X.env) fp).fn n = true ∨ (X.blk s H0 scope (compEnvC scope cl C X.env) fp).env.scope.names.lookup n = some .local := by intro _ _ _ _ _; first | exact .inl rfl | exact .inr rfl)
    (hw : ∀ x, wipe ((wipe σ (own.map (·.2))).set j (some x)) (own.map (·.2)) = wipe σ (own.map (·.2)) := by intro _; rfl) (hs : ∀ x, foldedSetIterable l X.env x = pure x := by intro _; rfl) :
    EvNE X (.ListComp elt [⟨.Name n pn, l, [], 0⟩] scope pos) σ B (NewL (AD X.K (L.map g'))) := by
  have h := lc_t (tt := tYes) (te := wEB X scope elt) (g := gName j) (vs := own.map (·.2)) (K := X.K) (tl := wE X l) L enc (fun _ => true) g' (fun a => TName X.K σ (own.map (·.2)) j (enc a)) hz src (fun a _ v B' H' Q _ _ hd k => go_name hw hd k) (fun _ _ _ _ _ _ H e0 Q q => q _ H (Step.refl e0)) fun a ha _ σ2 B' e2 t => (he a ha σ2 B' e2 t).ev
  rw [List.filter_eq_self.mpr (fun _ _ => rfl)] at h
  exact of_peN (pe_lc hc hN (pi_tup pe_w) (blkOk_by ok) (fun s H0 C cl fp => pg_name hN hj (hx C cl) (hf s H0 C cl fp)) (fun _ _ _ _ _ => pts_nil) pe_wB hs) h
/-- [elt for k in range(a)] -/
theorem n_lcR {j : Nat} {own : List (Str × Nat)} {elt : Expr} {n : Str} {pn pr : Pos} {scope : Scope} {m : Int} (A : Nat → PyData → Prop) (hN : X.N.Nodup) (hm : X.mg "range" = none) (src : EvE X a σ B (IsV (.int m))) (hn : 0 ≤ m ∧ m ≤ 40000) (ok : blkC X.N X.env.scope scope own = true)
    (he : ∀ (i : Nat), (i : Int) < m → ∀ B', Ex B B' → EvBE X scope elt ((wipe σ (own.map (·.2))).set j (some (.int (i : Int)))) B' (fun v B1 => ∃ d, A i d ∧ Dp X.K B1 v d)) (hc : X.calm = true := by rfl) (hgl : Gl X "range" := by rfl)
    (hj : X.N[j]? = some n := by rfl) (hx : ∀ (C : Addr) (cl : List (Str × Addr)), Loc (compEnvC scope cl C X.env).scope n := by intro _ _; first | exact Or.inl rfl | exact Or.inr rfl) (hf : ∀ (s : Shared) (H0 : Hp) (C : Addr) (cl : List (Str × Addr)) (fp : List Addr), (X.blk s H0 scope (compEnvC scope cl C X.env) fp).fn n = true ∨ (X.blk s H0 scope (compEnvC scope cl C X.env) fp).env.scope.names.lookup n = some .local := by intro _ _ _ _ _; first | exact .inl rfl | exact .inr rfl)
    (hw : ∀ x, wipe ((wipe σ (own.map (·.2))).set j (some x)) (own.map (·.2)) = wipe σ (own.map (·.2)) := by intro _; rfl) (hst : starEach [a] X.env = [(false, eval a X.env)] := by rfl) (hs : ∀ x, foldedSetIterable (.Call (.Name "range" p) [a] [] pr) X.env x = pure x := by intro _; rfl) :
    EvNE X (.ListComp elt [⟨.Name n pn, .Call (.Name "range" p) [a] [] pr, [], 0⟩] scope pos) σ B (fun q B1 H1 => ∃ ds, ds.length = m.toNat ∧ (∀ (i : Nat) d, ds[i]? = some d → A i d) ∧ NewL (AD X.K ds) q B1 H1) :=
  of_peN (pe_lc hc hN (pi_range1 hgl hm (pa_cons pe_w pa_nil hst) hst) (blkOk_by ok) (fun s H0 C cl fp => pg_name hN hj (hx C cl) (hf s H0 C cl fp)) (fun _ _ _ _ _ => pts_nil) pe_wB hs)
    (lc_r A (fun i σ2 => σ2 = (wipe σ (own.map (·.2))).set j (some (.int (i : Int)))) hn src (fun i H' Q _ k => k _ rfl (hw _)) fun i hi σ2 B' e2 t => by
      subst t
      exact (he i hi B' e2).ev)
/-- a new list that is not changed: it joins the base -/
theorem EvN.tl {te : TE} {RA : RelA} (h : EvN te σ B (NewL RA)) : EvP te σ B (fun v B1 => ∃ q vs, v = .ref q ∧ B1 q = some (.lst vs) ∧ RA vs B1) := fun H e0 Q y => h H e0 Q fun q B1 H1 n0 n1 s ⟨vs, hv, r⟩ => y (.ref q) (upd B1 q (.lst vs)) H1 ⟨s.b.trans (Ex.new n1), fun a u z => by
    by_cases e : a = q
    · subst e
      rw [upd_same] at z
      rw [hv]
      exact z
    · rw [upd_ne e] at z
      exact s.i a u z, s.h, fun a u h1 h2 => by
    rw [upd_ne (ne_of_none h2 n0)]
    exact s.off a u h1 h2⟩ fun B2 e2 => ⟨q, vs, rfl, e2 q _ upd_same, r B2 ((Ex.new n1).trans e2)⟩
theorem EvN.dl {te : TE} {K : PySem.W.Frag} {ds : List PyData} (h : EvN te σ B (NewL (AD K ds))) : EvP te σ B (IsTL K ds) := h.tl
end
end K8

/-! is_name, is_row, is_scene, entries_cover, covers_some. -/
namespace K8
open PySem PySem.Spec PyProof.Rows L2 Evl
/-- the module's constants -/
structure Gc (K : PySem.W.Frag) (mg : Str → Option Value) : Prop where
  longest : ∃ t, mg "LONGEST_NAME" = some (.int 12 t)
  widest : ∃ t, mg "WIDEST_ROW" = some (.int 8 t)
  reserved : ∃ a, mg "RESERVED_WORDS" = some (.ref a) ∧ ∀ H, SqT K H a [.str "none", .str "any", .str "self"]
def resB (s : Str) : Bool := (("none" : Str) == s) || ((("any" : Str) == s) || (("self" : Str) == s))
def headL (s : Str) : Bool := match s.cps.toList with | c :: _ => letterN c | [] => false
def nameB (s : Str) : Bool := (decide (1 ≤ s.length) && decide (s.length ≤ 12)) && (headL s && (s.cps.toList.all (fun c => letterN c || digitN c) && !resB s))
def isNameD : PyData → Bool | .str s => nameB s | _ => false
def fIsName : List PyData → V | [d] => .bl (isNameD d) | _ => .non
/-- a datum of small length -/
def small (d : PyData) : Prop := ∀ n, lenD d = some n → n ≤ 1000
section
variable {X : Cx} {σ : Slots} {B B' H H' : Hp} {R R' Ra Rb : Rel} {e a b c l : Expr} {es rest : List Expr} {pos p : Pos} {x y z v : V} {d d1 d2 : PyData} {ds es' : List PyData} {k k1 k2 : Bool} {D : Ends} {body : List Stmt}
theorem s_retB {j} (e0 : Ex B H) (y : Yields B H (IsV (.bl k)) D.rt) (h : k = k1) : wS X (.Return (some (.Constant (.bool k1) j p)) pos) D σ H := s_retY e0 e_bl (h ▸ y)
theorem Yields.bl {Q : VK} (y : Yields B H (IsV (.bl k)) Q) (h : k = k1) : Yields B H (IsV (.bl k1)) Q := h ▸ y
end
section
variable {P : Program} {w : World} {K : PySem.W.Frag}
variable {mg : Str → Option Value} {base : Heap}
abbrev D_is_integer (P : Program) (w : World) (K : PySem.W.Frag) (mg : Str → Option Value) (base : Heap) : Prop := Dfn P w K mg base CX0 1 "is_integer" ["value"] (Pure (preV K 1 (fun _ => True) fIsInteger))
abbrev D_is_letter (P : Program) (w : World) (K : PySem.W.Frag) (mg : Str → Option Value) (base : Heap) : Prop := Dfn P w K mg base CX0 1 "is_letter" ["character"] (Pure (preV K 1 (fun ds => ∃ c, ds = [.str ⟨#[c]⟩]) fIsLetter))
abbrev D_is_pair (P : Program) (w : World) (K : PySem.W.Frag) (mg : Str → Option Value) (base : Heap) : Prop := Dfn P w K mg base CX0 1 "is_pair" ["value"] (Pure (preV K 1 (fun ds => ∀ d ∈ ds, ∀ n, lenD d = some n → n ≤ 1000) fIsPair))
abbrev D_is_name (P : Program) (w : World) (K : PySem.W.Frag) (mg : Str → Option Value) (base : Heap) : Prop := Dfn P w K mg base CX0 2 "is_name" ["value"] (Pure (preV K 1 (fun ds => ∀ d ∈ ds, small d) fIsName))
theorem str_len (s : Str) : s.length = s.cps.toList.length := by simp [Str.length]
theorem take_all {p : Nat → Bool} {l : List Nat} {j c : Nat} (h : l[j]? = some c) (h1 : (l.take j).all p = true) (h2 : p c = true) : (l.take (j + 1)).all p = true := by
  have hi := (List.getElem?_eq_some_iff.mp h).1
  have hc := (List.getElem?_eq_some_iff.mp h).2
  rw [List.take_succ_eq_append_getElem hi, List.all_append, h1, hc]
  simp [h2]
theorem ok_is_name {f : Addr} {fd : FuncData} (U : Bi mg) (C : Gc K mg) (GL : D_is_letter P w K mg base) (F : Fun K "is_name" "is_name" s_is_name f fd) : FnOk P w K mg base CX0 2 f fd ["value"] (Pure (preV K 1 (fun ds => ∀ d ∈ ds, small d) fIsName)) := by
  refine pureV_ok F sc_is_name fun cdv A outer s B H vs Q E ds hr e0 hd hl hok y => ?_
  obtain ⟨d, v, rfl, rfl, hv⟩ := dps1 hd hl
  obtain ⟨t, hL⟩ := C.longest
  obtain ⟨ra, hR, hRs⟩ := C.reserved
  have y1 : Yields B H (IsV (.bl (isNameD d))) Q := y
  refine b_cons (s_if e0 (t_not (t_bl (e_isi U.isinstance (e_varD 0 rfl hv) U.str (by decide +kernel) (kit_str d)))) (fun h1 H1 s1 => ?_) fun h1 H1 s1 => b_nil ?_)
  · refine b_one (s_retB s1.i (y1.go s1) ?_)
    cases d <;> first | rfl | cases h1
  · cases d with
    | str z =>
      have hz : z.length ≤ 1000 := hok _ List.mem_cons_self _ rfl
      have y2 : Yields B H1 (IsV (.bl (nameB z))) Q := y1.go s1
      clear y y1
      refine b_cons (s_if s1.i (t_not (t_leleI e_int (e_len U.len (e_varD 0 rfl hv) rfl (by omega)) (e_glob hL ⟨t, rfl⟩))) (fun h2 H2 s2 => ?_) fun h2 H2 s2 => b_nil ?_)
      · refine b_one (s_retB s2.i (y2.go s2) ?_)
        have h3 : ¬ (1 ≤ z.length ∧ z.length ≤ 12) := fun q => by
          rw [decide_eq_true (show (1 : Int) ≤ (z.length : Int) by omega), decide_eq_true (show (z.length : Int) ≤ 12 by omega)] at h2
          cases h2
        have h4 : (decide (1 ≤ z.length) && decide (z.length ≤ 12)) = false := by
          rw [← Bool.decide_and]
          exact decide_eq_false h3
        unfold nameB
        rw [h4]
        rfl
      · have hlen : 1 ≤ z.length ∧ z.length ≤ 12 := by
          simp only [Bool.not_eq_false', Bool.and_eq_true, decide_eq_true_eq] at h2
          omega
        have e4 : nameB z = (headL z && (z.cps.toList.all (fun c => letterN c || digitN c) && !resB z)) := by
          unfold nameB
          rw [decide_eq_true hlen.1, decide_eq_true hlen.2]
          rfl
        have y3 : Yields B H2 (IsV (.bl (headL z && (z.cps.toList.all (fun c => letterN c || digitN c) && !resB z)))) Q := e4 ▸ y2.go s2
        have s12 := s1.trans s2
        clear y2
        obtain ⟨c0, r0, hc⟩ : ∃ c r, z.cps.toList = c :: r := by
          cases q : z.cps.toList with
          | nil =>
            rw [str_len, q] at hlen
            exact absurd hlen.1 (by simp)
          | cons c r => exact ⟨c, r, rfl⟩
        have hh : headL z = letterN c0 := by
          unfold headL
          rw [hc]
        have hat : atI z.cps.toList 0 = some c0 := by
          rw [hc]
          exact atI_nat (j := 0) rfl
        have hv' := hv
        cases hv'
        refine b_cons (s_if s12.i (t_not (t_bl (e_callK (ds := [.str ⟨#[c0]⟩]) (v := .bl (letterN c0)) GL (hr.mono (by decide)) (ad_cons (e_ixS (e_var 0 rfl) e_int (by omega) hat).strD ad_nil) rfl ⟨c0, rfl⟩ rfl))) (fun h5 H3 s3 => ?_) fun h5 H3 s3 => b_nil ?_)
        · refine b_one (s_retB s3.i (y3.go s3) ?_)
          have h6 : letterN c0 = false := by simpa using h5
          rw [hh, h6]
          rfl
        · have h6 : letterN c0 = true := by simpa using h5
          have y4 : Yields B H3 (IsV (.bl (z.cps.toList.all (fun c => letterN c || digitN c) && !resB z))) Q := by
            have q := y3.go s3
            rw [hh, h6, Bool.true_and] at q
            exact q
          clear y3
          have s13 := s12.trans s3
          refine b_cons (for_s z (fun j σ' => ∃ u, σ' = [some (.str z), u] ∧ (z.cps.toList.take j).all (fun c => letterN c || digitN c) = true) PassesOwn.never rfl (pg_name (i := 1) sc_is_name.nd rfl (.inl rfl)) s13.i (e_var 0 rfl) ⟨none, rfl, rfl⟩ ?_ ?_)
          · rintro j ch σ' B' H' hch st ⟨u, rfl, hall⟩
            have e9 : digitN ch = (!decide ([ch] < [48]) && !decide ([57] < [ch])) := by
              rw [lt_one, lt_one]
              unfold digitN
              rw [← decide_not, ← decide_not]
              congr 1 <;> (apply decide_eq_decide.mpr; omega)
            refine b_one (s_if st.i (t_not (k := letterN ch || digitN ch) (w_or (t_bl (e_callK (ds := [.str ⟨#[ch]⟩]) (v := .bl (letterN ch)) GL (hr.mono (by decide)) (ad_cons (e_var 1 rfl).strD ad_nil) rfl ⟨ch, rfl⟩ rfl)) fun _ => w_or1 ?_).t) (fun h7 H4 s4 => ?_) fun h7 H4 s4 => b_nil ⟨B', ⟨_, rfl, take_all hch hall (by rw [Bool.not_eq_false'] at h7; exact h7)⟩, s4⟩)
            · rw [e9]
              exact t_chain op_le_str op_le_str e_str (e_var 1 rfl) e_str (fun x y B1 r1 r2 H1 i1 Q q => by cases r1; cases r2; exact ⟨_, _, rfl, rfl, q.val i1⟩) (fun x y B1 r1 r2 H1 i1 Q q => by cases r1; cases r2; exact ⟨_, _, rfl, rfl, q.val i1⟩)
            · refine b_one (s_retB s4.i ((y4.go st).go s4) ?_)
              have h8 : z.cps.toList.all (fun c => letterN c || digitN c) = false := by
                rw [← Bool.not_eq_true, List.all_eq_true]
                intro q
                have q2 := q ch (List.mem_of_getElem? hch)
                rw [q2] at h7
                cases h7
              rw [h8]
              rfl
          · rintro σ' B' H' st ⟨u, rfl, hall⟩
            have hall' : z.cps.toList.all (fun c => letterN c || digitN c) = true := by
              rw [← Array.length_toList, List.take_length] at hall
              exact hall
            refine b_one (s_retY (R := IsV (.bl (!resB z))) st.i ?_ ?_)
            · refine e_cmp op_notIn_seq (e_var 0 rfl) (e_glob (v := .ref ra) hR rfl) (fun x y B1 _ r1 r2 H4 i4 Q q => ?_) (by rfl)
              cases r1
              cases r2
              refine ⟨ra, _, rfl, .inr (hRs H4), rfl, rfl, ?_⟩
              have e10 : (if true = true then !inV (.str z) [.str "none", .str "any", .str "self"] else inV (.str z) [.str "none", .str "any", .str "self"]) = !resB z := by
                rw [if_pos rfl]
                congr 1
                unfold resB inV
                simp only [List.any_cons, List.any_nil, Bool.or_false, eqV]
              rw [e10]
              exact q.val i4
            · have q := y4.go st
              rw [hall', Bool.true_and] at q
              exact q
    | _ => cases h1
end
end K8

/-! is_row, is_scene, entries_cover, covers_some, check_row, check_rows. -/
namespace K8
open PySem PySem.Spec PyProof.Rows L2 Evl
def dRow (r : List Int) : PyData := .tuple (r.map .int)
def dScene (s : Scene) : PyData := .tuple [.str s.1, dRow s.2]
def intOf : PyData → Int | .int i => i | _ => 0
def rowOf : PyData → List Int | .tuple xs => xs.map intOf | _ => []
def rowsOf : PyData → List (List Int) | .list xs => xs.map rowOf | _ => []
theorem rowOf_dRow (r : List Int) : rowOf (dRow r) = r := by
  show (r.map PyData.int).map intOf = r
  rw [List.map_map]
  exact List.map_id' r
theorem rowsOf_d (rs : List (List Int)) : rowsOf (.list (rs.map dRow)) = rs := by
  show (rs.map dRow).map rowOf = rs
  rw [List.map_map, show rowOf ∘ dRow = id from funext rowOf_dRow, List.map_id]
def entB : PyData → Bool | .int i => decide (0 ≤ i) | _ => false
def wOk : PyData → Nat → Bool | .int m, n => decide ((n : Int) = m) | _, _ => true
def isRowD (w : PyData) : PyData → Bool
  | .tuple xs => (decide (1 ≤ xs.length) && decide (xs.length ≤ 8)) && (wOk w xs.length && xs.all entB)
  | _ => false
def fIsRow : List PyData → V | [d, w] => .bl (isRowD w d) | _ => .non
def okIsRow (ds : List PyData) : Prop := ∃ d w, ds = [d, w] ∧ small d ∧ (w = .none ∨ ∃ m, w = .int m)
def badE : PyData → Bool | .int i => decide (i < 0) | _ => false
theorem bad_ent (d : PyData) : (!isIntD d || badE d) = !entB d := by
  cases d with
  | int i =>
    show (false || decide (i < 0)) = !decide (0 ≤ i)
    rw [Bool.false_or, ← decide_not]
    exact decide_eq_decide.2 (by omega)
  | _ => rfl
section
variable {P : Program} {w : World} {K : PySem.W.Frag}
variable {mg : Str → Option Value} {base : Heap}
abbrev D_is_row (P : Program) (w : World) (K : PySem.W.Frag) (mg : Str → Option Value) (base : Heap) : Prop := Dfn P w K mg base CX0 2 "is_row" ["value", "width"] (Pure (preV K 2 okIsRow fIsRow))
theorem take_allD {p : PyData → Bool} {l : List PyData} {j : Nat} {c : PyData} (h : l[j]? = some c) (h1 : (l.take j).all p = true) (h2 : p c = true) : (l.take (j + 1)).all p = true := by
  have hi := (List.getElem?_eq_some_iff.mp h).1
  have hc := (List.getElem?_eq_some_iff.mp h).2
  rw [List.take_succ_eq_append_getElem hi, List.all_append, h1, hc]
  simp [h2]
theorem ok_is_row {f : Addr} {fd : FuncData} (U : Bi mg) (C : Gc K mg) (GI : D_is_integer P w K mg base) (F : Fun K "is_row" "is_row" s_is_row f fd) : FnOk P w K mg base CX0 2 f fd ["value", "width"] (Pure (preV K 2 okIsRow fIsRow)) := by
  refine pureV_ok F sc_is_row fun cdv A outer s B H vs Q E ds hr e0 hd hl hok y => ?_
  obtain ⟨d, wd, rfl, hsm, hw⟩ := hok
  obtain ⟨d', wd', v, u, e, rfl, hv, hu⟩ := dps2 hd hl
  cases e
  obtain ⟨t, hW⟩ := C.widest
  have y1 : Yields B H (IsV (.bl (isRowD wd d))) Q := y
  clear y
  refine b_cons (s_if e0 (t_not (t_bl (e_isi U.isinstance (e_varD 0 rfl hv) U.tuple (by decide +kernel) (kit_tuple d)))) (fun h1 H1 s1 => ?_) fun h1 H1 s1 => b_nil ?_)
  · refine b_one (s_retB s1.i (y1.go s1) ?_)
    cases d <;> first | rfl | cases h1
  · cases d with
    | tuple xs =>
      have hz : xs.length ≤ 1000 := hsm _ rfl
      have y2 : Yields B H1 (IsV (.bl ((decide (1 ≤ xs.length) && decide (xs.length ≤ 8)) && (wOk wd xs.length && xs.all entB)))) Q := y1.go s1
      clear y1
      refine b_cons (s_if s1.i (t_not (t_leleI e_int (e_len U.len (e_varD 0 rfl hv) rfl (by omega)) (e_glob hW ⟨t, rfl⟩))) (fun h2 H2 s2 => ?_) fun h2 H2 s2 => b_nil ?_)
      · refine b_one (s_retB s2.i (y2.go s2) ?_)
        have h3 : ¬ (1 ≤ xs.length ∧ xs.length ≤ 8) := fun q => by
          rw [decide_eq_true (show (1 : Int) ≤ (xs.length : Int) by omega), decide_eq_true (show (xs.length : Int) ≤ 8 by omega)] at h2
          cases h2
        rw [← Bool.decide_and, decide_eq_false h3]
        rfl
      · have hlen : 1 ≤ xs.length ∧ xs.length ≤ 8 := by
          simp only [Bool.not_eq_false', Bool.and_eq_true, decide_eq_true_eq] at h2
          omega
        have y3 : Yields B H2 (IsV (.bl (wOk wd xs.length && xs.all entB))) Q := by
          have q := y2.go s2
          rw [decide_eq_true hlen.1, decide_eq_true hlen.2, Bool.true_and, Bool.true_and] at q
          exact q
        clear y2
        have s12 := s1.trans s2
        have hwt : EvTE (cxOf CX0 P w K mg base N_is_row "is_row" (defScope s_is_row) f cdv A outer s H E).nox (match (defBody s_is_row).getD 2 (.Pass ⟨0, 0, 0, 0⟩) with | .If c _ _ _ => c | _ => .Constant .none 0 ⟨0, 0, 0, 0⟩) (start N_is_row [v, u]) B (!wOk wd xs.length) := by
          rcases hw with rfl | ⟨m, rfl⟩
          · exact (w_and (k2 := true) (t_notN (e_varD 1 rfl hu)) fun h => by cases h).t.is rfl
          · exact ((w_and (k2 := !decide (V.int (xs.length : Int) = V.int m)) (t_notN (e_varD 1 rfl hu)) fun _ => w_and1 (t_neV (e_len U.len (e_varD 0 rfl hv) rfl (by omega)) (e_varD 1 rfl hu).int rfl)).t).is (by rw [dec_intV]; rfl)
        refine b_cons (s_if s12.i hwt (fun h4 H3 s3 => ?_) fun h4 H3 s3 => b_nil ?_)
        · refine b_one (s_retB s3.i (y3.go s3) ?_)
          have : wOk wd xs.length = false := by simpa using h4
          rw [this]
          rfl
        · have y4 : Yields B H3 (IsV (.bl (xs.all entB))) Q := by
            have q := y3.go s3
            have : wOk wd xs.length = true := by simpa using h4
            rw [this, Bool.true_and] at q
            exact q
          clear y3
          have s13 := s12.trans s3
          refine b_cons (for_tS xs id (fun j σ' => ∃ z, σ' = [some v, some u, z] ∧ (xs.take j).all entB = true) PassesOwn.never rfl (pg_name (i := 2) sc_is_row.nd rfl (.inl rfl)) s13.i (by rw [List.map_id]; exact e_varD 0 rfl hv) ⟨none, rfl, rfl⟩ ?_ ?_)
          · rintro j a x σ' B' H' ha st hx ⟨z, rfl, hall⟩
            refine b_one (s_if st.i (w_or (k2 := badE a) (t_not (t_bl (e_callK (v := .bl (isIntD a)) GI (hr.mono (by decide)) (ad_cons (e_varD 2 rfl hx) ad_nil) rfl trivial rfl))) (fun h5 => w_or1 ?_)).t (fun h5 H4 s4 => ?_) fun h5 H4 s4 => b_nil ⟨B', ⟨_, rfl, take_allD ha hall ?_⟩, s4⟩)
            · cases a with
              | int i => exact t_ltI (e_varD 2 rfl hx).int e_int
              | _ => cases h5
            · rw [bad_ent] at h5
              refine b_one (s_retB s4.i ((y4.go st).go s4) ?_)
              rw [← Bool.not_eq_true, List.all_eq_true]
              intro q
              rw [q a (List.mem_of_getElem? ha)] at h5
              cases h5
            · rw [bad_ent] at h5
              simpa using h5
          · rintro σ' B' H' st ⟨z, rfl, hall⟩
            rw [List.take_length] at hall
            exact b_one (s_retB st.i (y4.go st) hall)
    | _ => cases h1
/-! ### is_scene -/
def isSceneD (w : PyData) : PyData → Bool
  | .tuple [a, b] => isNameD a && isRowD w b
  | _ => false
def scRest (w : PyData) : PyData → Bool
  | .tuple [a, b] => isNameD a && isRowD w b
  | _ => true
def okScene (d : PyData) : Prop := small d ∧ ∀ xs, d = .tuple xs → ∀ x ∈ xs, small x
def fIsScene : List PyData → V | [d, w] => .bl (isSceneD w d) | _ => .non
def okIsScene (ds : List PyData) : Prop := ∃ d w, ds = [d, w] ∧ okScene d ∧ (w = .none ∨ ∃ m, w = .int m)
abbrev D_is_scene (P : Program) (w : World) (K : PySem.W.Frag) (mg : Str → Option Value) (base : Heap) : Prop := Dfn P w K mg base CX0 3 "is_scene" ["value", "width"] (Pure (preV K 2 okIsScene fIsScene))
theorem ok_is_scene {f : Addr} {fd : FuncData} (GP : D_is_pair P w K mg base) (GN : D_is_name P w K mg base) (GR : D_is_row P w K mg base) (F : Fun K "is_scene" "is_scene" s_is_scene f fd) : FnOk P w K mg base CX0 3 f fd ["value", "width"] (Pure (preV K 2 okIsScene fIsScene)) := by
  refine pureV_ok F sc_is_scene fun cdv A outer s B H vs Q E ds hr e0 hd hl hok y => ?_
  obtain ⟨d, wd, rfl, hsm, hw⟩ := hok
  obtain ⟨d', wd', v, u, e, rfl, hv, hu⟩ := dps2 hd hl
  cases e
  have e1 : isSceneD wd d = (pairD d && scRest wd d) := by
    cases hp2 : pairD d with
    | false =>
      cases hq : isSceneD wd d with
      | false => rfl
      | true =>
        have : pairD d = true := by
          unfold isSceneD at hq
          split at hq
          · rfl
          · cases hq
        rw [hp2] at this
        cases this
    | true =>
      obtain ⟨a, b, rfl⟩ := pairD_iff.mp hp2
      rw [Bool.true_and]
      rfl
  have y1 : Yields B H (IsV (.bl (pairD d && scRest wd d))) Q := e1 ▸ (show Yields B H (IsV (.bl (isSceneD wd d))) Q from y)
  refine b_one (s_retY e0 (e_and (e_callK (v := .bl (pairD d)) GP (hr.mono (by decide)) (ad_cons (e_varD 0 rfl hv) ad_nil) rfl (fun x hx n hn => by rw [List.mem_singleton.mp hx] at hn; exact hsm.1 n hn) rfl) fun hp2 => ?_) y1)
  obtain ⟨a, b, rfl⟩ := pairD_iff.mp hp2
  refine e_and (k1 := isNameD a) (k2 := isRowD wd b) (e_callK (v := .bl (isNameD a)) GN (hr.mono (by decide)) (ad_cons (e_ixT (d := a) (e_varD 0 rfl hv) e_int (atI_nat (j := 0) rfl)) ad_nil) rfl (fun x hx => ?_) rfl) fun _ => e_one (e_callK (v := .bl (isRowD wd b)) GR (hr.mono (by decide)) (ad_cons (e_ixT (d := b) (e_varD 0 rfl hv) e_int (atI_nat (j := 1) rfl)) (ad_cons (e_varD 1 rfl hu) ad_nil)) rfl ⟨b, wd, rfl, hsm.2 _ rfl _ (by simp), hw⟩ rfl)
  rw [List.mem_singleton.mp hx]
  exact hsm.2 _ rfl _ (by simp)
/-! ### entries_cover, covers_some -/
def fEntries : List PyData → V | [a, b] => .bl (decide (LeR (rowOf b) (rowOf a))) | _ => .non
def okEntries (ds : List PyData) : Prop := ∃ ns ms : List Int, ds = [dRow ns, dRow ms] ∧ ns.length = ms.length
abbrev D_entries_cover (P : Program) (w : World) (K : PySem.W.Frag) (mg : Str → Option Value) (base : Heap) : Prop := Dfn P w K mg base CX0 1 "entries_cover" ["big", "small"] (Pure (preV K 2 okEntries fEntries))
theorem ok_entries_cover {f : Addr} {fd : FuncData} (U : Bi mg) (F : Fun K "entries_cover" "entries_cover" s_entries_cover f fd) : FnOk P w K mg base CX0 1 f fd ["big", "small"] (Pure (preV K 2 okEntries fEntries)) := by
  refine pureV_ok F sc_entries_cover fun cdv A outer s B H vs Q E ds hr e0 hd hl hok y => ?_
  obtain ⟨ns, ms, rfl, hlen⟩ := hok
  obtain ⟨d', e', v, u, e, rfl, hv, hu⟩ := dps2 hd hl
  cases e
  have y1 : Yields B H (IsV (.bl (decide (LeR ms ns)))) Q := by
    have q : Yields B H (IsV (.bl (decide (LeR (rowOf (dRow ms)) (rowOf (dRow ns)))))) Q := y
    rw [rowOf_dRow, rowOf_dRow] at q
    exact q
  refine b_cons (for_z (i := 2) (j := 3) ns ms hlen (fun j σ' => ∃ x1 x2, σ' = [some v, some u, x1, x2] ∧ ∀ (m : Nat) (x y : Int), m < j → ms[m]? = some x → ns[m]? = some y → x ≤ y) PassesOwn.never rfl (pg_name sc_entries_cover.nd rfl (.inl rfl)) (pg_name sc_entries_cover.nd rfl (.inl rfl)) U.zip e0 (e_varD 0 rfl hv) (e_varD 1 rfl hu) ⟨none, none, rfl, fun m _ _ h => absurd h (by omega)⟩ ?_ ?_)
  · rintro m n1 n2 σ' B' H' h1 h2 st ⟨x1, x2, rfl, hall⟩
    refine b_one (s_if st.i (t_ltI (e_var 2 rfl) (e_var 3 rfl)) (fun h3 H3 s3 => ?_) fun h3 H3 s3 => b_nil ⟨B', ⟨_, _, rfl, fun m' x y hm hx hy => ?_⟩, s3⟩)
    · refine b_one (s_retB s3.i ((y1.go st).go s3) (decide_eq_false fun q => ?_))
      have := (leR_iff.mp q).2 m n2 n1 h2 h1
      have := of_decide_eq_true h3
      omega
    · by_cases q : m' = m
      · subst q
        rw [h2] at hx
        rw [h1] at hy
        cases hx
        cases hy
        have := of_decide_eq_false h3
        omega
      · exact hall m' x y (by omega) hx hy
  · rintro σ' B' H' st ⟨x1, x2, rfl, hall⟩
    refine b_one (s_retB st.i (y1.go st) (decide_eq_true (leR_iff.mpr ⟨hlen.symm, fun m x y hx hy => hall m x y ?_ hx hy⟩)))
    exact (List.getElem?_eq_some_iff.mp hy).1
def fCovers : List PyData → V | [a, b] => .bl ((rowsOf b).any fun q => decide (LeR q (rowOf a))) | _ => .non
def okCovers (ds : List PyData) : Prop := ∃ (r : List Int) (rs : List (List Int)), ds = [dRow r, .list (rs.map dRow)] ∧ ∀ q ∈ rs, q.length = r.length
abbrev D_covers_some (P : Program) (w : World) (K : PySem.W.Frag) (mg : Str → Option Value) (base : Heap) : Prop := Dfn P w K mg base CX0 2 "covers_some" ["row", "rows"] (Pure (preV K 2 okCovers fCovers))
theorem ok_covers_some {f : Addr} {fd : FuncData} (GE : D_entries_cover P w K mg base) (F : Fun K "covers_some" "covers_some" s_covers_some f fd) : FnOk P w K mg base CX0 2 f fd ["row", "rows"] (Pure (preV K 2 okCovers fCovers)) := by
  refine pureV_ok F sc_covers_some fun cdv A outer s B H vs Q E ds hr e0 hd hl hok y => ?_
  obtain ⟨r, rs, rfl, hlen⟩ := hok
  obtain ⟨d', e', v, u, e, rfl, hv, hu⟩ := dps2 hd hl
  cases e
  have y1 : Yields B H (IsV (.bl (rs.any fun q => decide (LeR q r)))) Q := by
    have q : Yields B H (IsV (.bl ((rowsOf (.list (rs.map dRow))).any fun q => decide (LeR q (rowOf (dRow r)))))) Q := y
    rw [rowOf_dRow, rowsOf_d] at q
    exact q
  refine b_cons (for_lS rs dRow (fun j σ' => ∃ z, σ' = [some v, some u, z] ∧ ∀ q ∈ rs.take j, ¬ LeR q r) PassesOwn.never rfl (pg_name (i := 2) sc_covers_some.nd rfl (.inl rfl)) e0 (e_varD 1 rfl hu) ⟨none, rfl, fun _ h => by simp at h⟩ ?_ ?_)
  · rintro j a x σ' B' H' ha st hx ⟨z, rfl, hall⟩
    have hm := List.mem_of_getElem? ha
    refine b_one (s_if st.i (t_bl (e_callK (v := .bl (decide (LeR a r))) GE (hr.mono (by decide)) (ad_cons (e_varD 0 rfl (dp_grow hv st.b)) (ad_cons (e_varD 2 rfl hx) ad_nil)) rfl ⟨r, a, rfl, (hlen a hm).symm⟩ (by show V.bl (decide (LeR (rowOf (dRow a)) (rowOf (dRow r)))) = _; rw [rowOf_dRow, rowOf_dRow]))) (fun h3 H3 s3 => ?_) fun h3 H3 s3 => b_nil ⟨B', ⟨_, rfl, fun q hq => ?_⟩, s3⟩)
    · exact b_one (s_retB s3.i ((y1.go st).go s3) (List.any_eq_true.mpr ⟨a, hm, h3⟩))
    · have hi := (List.getElem?_eq_some_iff.mp ha).1
      have hc := (List.getElem?_eq_some_iff.mp ha).2
      rw [List.take_succ_eq_append_getElem hi, hc] at hq
      rcases List.mem_append.1 hq with hq | hq
      · exact hall q hq
      · rw [List.mem_singleton.1 hq]
        exact of_decide_eq_false h3
  · rintro σ' B' H' st ⟨z, rfl, hall⟩
    rw [List.take_length] at hall
    refine b_one (s_retB st.i (y1.go st) ?_)
    rw [← Bool.not_eq_true, List.any_eq_true]
    rintro ⟨q, hq, e⟩
    exact hall q hq (of_decide_eq_true e)
end
end K8

/-! check_row, check_rows, joined. -/
namespace K8
open PySem PySem.Spec PyProof.Rows L2 Evl
section
variable {X : Cx} {σ : Slots} {B B' H H' : Hp} {R R' Ra Rb : Rel} {e a b c l : Expr} {es rest : List Expr} {pos p : Pos} {x y z v : V} {d d1 d2 : PyData} {ds es' : List PyData} {k k1 k2 : Bool} {D : Ends} {body : List Stmt} {RA : RelA}
/-- *e in a display -/
theorem a_star (h : EvE X e σ B (IsD X.K (.tuple ds))) (hr : EvAE X es σ B (AD X.K es')) (hs : starEach (.Starred e p :: es) X.env = (true, eval e X.env) :: starEach es X.env := by rfl) : EvAE X (.Starred e p :: es) σ B (AD X.K (ds ++ es')) := fun H e0 Q q =>
  w_pa (StX.pa_star pe_w pa_w hs) (h H e0 _ fun v B1 H1 s1 r => by
    have r1 := r B1 (Ex.refl B1)
    cases r1 with
    | tup h1 h2 =>
      rename_i a xs
      exact ⟨a, xs, rfl, .inl (ex_t s1.i h1), (hr.mono s1.b) H1 s1.i _ fun vs B2 H2 s2 r2 => q _ B2 H2 (s1.trans s2) fun B3 e3 => dps_append (dps_grow h2 (s2.b.trans e3)) (r2 B3 e3)⟩)
/-- a def known by a positional promise -/
theorem pe_callFR {CX : CXT} {k : Nat} {f : Addr} {sp : Sp} {E : XK} {n : Str} {t : TA} (F : FnR X.prog X.w X.K X.mg X.base CX k f sp) (hr : Room k X.A) (hm : X.mg n = some (.ref f)) (hk : PySem.W.keepIn X.K (.ref f) = true) (hx : Passes CX X E) (ha : PA X (e :: es) t) (hg : Gl X n := by rfl) (hd : (n == ("__debug__" : Str)) = false := by decide)
    (he : starEach (e :: es) X.env = (false, eval e X.env) :: starEach es X.env := by rfl) (hpl : (backTo pos (starEach es X.env)).any (·.1) = false := by rfl) : PE X (.Call (.Name n p) (e :: es) [] pos) (fun σ H Q => t σ H fun vs H1 => sp vs H1 Q E) := by
  refine .mk fun pins s σ H Q I h => wpAny_Call_Name_kw (ld_glob I hg hm ?_ hd)
  exact PySem.W.callWith_K (h₀ := X.base) I.ok.mod.kin hk (thn (ha.run pos pins s σ H _ I h) fun us s1 ⟨_, _, I1, r, q⟩ => ⟨I1.kIn, wpAny_call (run_fnR F hr hx I1 r q)⟩) he hpl
theorem e_callFR {CX : CXT} {k : Nat} {f : Addr} {sp : Sp} {E : XK} {n : Str} (F : FnR X.prog X.w X.K X.mg X.base CX k f sp) (hr : Room k X.A) (hm : X.mg n = some (.ref f)) (hk : PySem.W.keepIn X.K (.ref f) = true) (hx : Passes CX X E) (ha : EvAE X (e :: es) σ B RA)
    (hs : ∀ vs B1, Ex B B1 → RA vs B1 → ∀ H1, Ex B1 H1 → ∀ Q : VK, Yields B1 H1 R Q → sp vs H1 Q E) (hg : Gl X n := by rfl) (hd : (n == ("__debug__" : Str)) = false := by decide)
    (he : starEach (e :: es) X.env = (false, eval e X.env) :: starEach es X.env := by rfl) (hpl : (backTo pos (starEach es X.env)).any (·.1) = false := by rfl) : EvE X (.Call (.Name n p) (e :: es) [] pos) σ B R :=
  of_pe (pe_callFR F hr hm hk hx pa_w hg hd he hpl) fun H e1 Q q => ha H e1 _ fun vs B1 H1 s1 k => hs vs B1 s1.b (k B1 (Ex.refl B1)) H1 s1.i Q (q.go s1)
/-- tuple(e) of a list -/
theorem e_tupleOf (hm : X.mg "tuple" = none) (he : EvE X e σ B (IsD X.K (.list ds))) (hg : Gl X "tuple" := by rfl) (hs : starEach [e] X.env = (false, eval e X.env) :: starEach [] X.env := by rfl) (hpl : (backTo pos (starEach [] X.env)).any (·.1) = false := by rfl) : EvE X (.Call (.Name "tuple" p) [e] [] pos) σ B (IsD X.K (.tuple ds)) :=
  e_callTy (R := IsD X.K (.tuple ds)) call_tuple_of hm (by decide +kernel) (a_one he hs) (fun vs B1 e1 r H1 i1 Q q => by
    obtain ⟨v1, vs1, rfl, r1, r3⟩ := r
    have e3 : vs1 = [] := r3
    subst e3
    cases r1 with
    | lst h1 h2 => exact ⟨_, _, rfl, .inl ⟨ex_l i1 h1, fun l hl => q _ _ _ (Step.new i1 hl) (isD_stable (.tup (st_of upd_same) (dps_grow h2 (Ex.new (ex_none i1 hl)))))⟩⟩) hg (he := hs) (hpl := hpl)
/-- list(e) of a list or a tuple: a new list -/
theorem n_listOf (hm : X.mg "list" = none) (he : EvE X e σ B (fun v B1 => IsD X.K (.list ds) v B1 ∨ IsD X.K (.tuple ds) v B1)) (hg : Gl X "list" := by rfl) (hs : starEach [e] X.env = (false, eval e X.env) :: starEach [] X.env := by rfl) (hpl : (backTo pos (starEach [] X.env)).any (·.1) = false := by rfl) : EvNE X (.Call (.Name "list" p) [e] [] pos) σ B (NewL (AD X.K ds)) :=
  of_peN (pe_callTy call_list_of hg hm (by decide +kernel) (pa_cons pe_w pa_nil hs) (he := hs) (hpl := hpl)) fun H e0 Q q => he H e0 _ fun v B1 H1 s1 r => by
    rcases r B1 (Ex.refl B1) with r1 | r1
    · cases r1 with
      | lst h1 h2 => exact ⟨_, _, rfl, .inl (ex_l s1.i h1), fun l hl => q l B1 _ (fresh_back s1.h hl) (ex_none s1.i hl) (s1.trans (Step.mut s1.i hl)) ⟨_, upd_same, fun B2 e2 => dps_grow h2 e2⟩⟩
    · cases r1 with
      | tup h1 h2 => exact ⟨_, _, rfl, .inr (ex_t s1.i h1), fun l hl => q l B1 _ (fresh_back s1.h hl) (ex_none s1.i hl) (s1.trans (Step.mut s1.i hl)) ⟨_, upd_same, fun B2 e2 => dps_grow h2 e2⟩⟩
/-- max(e) of a list of ints, not empty -/
theorem e_max {ns : List Int} {m : Int} (hc : X.calm = true) (hm : X.mg "max" = none) (he : EvE X e σ B (IsD X.K (.list (ns.map .int)))) (h1 : m ∈ ns) (h2 : ∀ y ∈ ns, y ≤ m) (hg : Gl X "max" := by rfl) (hs : starEach [e] X.env = (false, eval e X.env) :: starEach [] X.env := by rfl) (hpl : (backTo pos (starEach [] X.env)).any (·.1) = false := by rfl) : EvE X (.Call (.Name "max" p) [e] [] pos) σ B (IsV (.int m)) :=
  e_callB (R := IsV (.int m)) (cr_max hc) hm (by decide +kernel) (a_one he hs) (fun vs B1 e1 r H1 i1 Q q => by
    obtain ⟨v1, vs1, rfl, r1, r3⟩ := r
    have e3 : vs1 = [] := r3
    subst e3
    cases r1 with
    | lst g1 g2 =>
      have ex := dps_ints_inv g2
      subst ex
      refine ⟨_, ns, rfl, ex_l i1 g1, List.length_pos_of_mem h1, fun m' hm' hle => ?_⟩
      have e4 : m' = m := Int.le_antisymm (h2 m' hm') (hle m h1)
      rw [e4]
      exact q.val i1) hg (he := hs) (hpl := hpl)
end
section
variable {P : Program} {w : World} {K : PySem.W.Frag}
variable {mg : Str → Option Value} {base : Heap}
def fNone : List PyData → V := fun _ => .non
def okCheckRow (ds : List PyData) : Prop := ∃ d w, ds = [d, w] ∧ small d ∧ (w = .none ∨ ∃ m, w = .int m) ∧ isRowD w d = true
abbrev D_check_row (P : Program) (w : World) (K : PySem.W.Frag) (mg : Str → Option Value) (base : Heap) : Prop := Dfn P w K mg base CX0 3 "check_row" ["row", "width"] (Pure (preV K 2 okCheckRow fNone))
theorem ok_check_row {f : Addr} {fd : FuncData} (GR : D_is_row P w K mg base) (F : Fun K "check_row" "check_row" s_check_row f fd) : FnOk P w K mg base CX0 3 f fd ["row", "width"] (Pure (preV K 2 okCheckRow fNone)) := by
  refine pureV_ok F sc_check_row fun cdv A outer s B H vs Q E ds hr e0 hd hl hok y => ?_
  obtain ⟨d, wd, rfl, hsm, hw, hrow⟩ := hok
  obtain ⟨d', wd', v, u, e, rfl, hv, hu⟩ := dps2 hd hl
  cases e
  refine b_one (s_if (k := !true) e0 (t_not (t_bl (e_callK (v := .bl true) GR (hr.mono (by decide)) (ad_cons (e_varD 0 rfl hv) (ad_cons (e_varD 1 rfl hu) ad_nil)) rfl ⟨d, wd, rfl, hsm, hw⟩ (by show V.bl (isRowD wd d) = _; rw [hrow])))) (fun h => by cases h) fun _ H1 s1 => b_nil ?_)
  exact (show Yields B H (IsV .non) Q from y).valS s1
/-- a row as the program has it -/
structure GoodRow (n : Nat) (r : List Int) : Prop where
  len : r.length = n
  pos : 1 ≤ n
  top : n ≤ 8
  nn : ∀ x ∈ r, 0 ≤ x
theorem GoodRow.isRow {n : Nat} {r : List Int} (h : GoodRow n r) {w : PyData} (hw : wOk w n = true) : isRowD w (dRow r) = true := by
  show ((decide (1 ≤ (r.map PyData.int).length) && decide ((r.map PyData.int).length ≤ 8)) && (wOk w (r.map PyData.int).length && (r.map PyData.int).all entB)) = true
  rw [List.length_map, h.len, decide_eq_true h.pos, decide_eq_true h.top, hw, Bool.true_and, Bool.true_and, Bool.true_and, List.all_map, List.all_eq_true]
  intro x hx
  exact decide_eq_true (h.nn x hx)
theorem small_row {n : Nat} {r : List Int} (h : GoodRow n r) : small (dRow r) := fun m hm => by
  have e : (r.map PyData.int).length = m := Option.some.inj hm
  rw [List.length_map, h.len] at e
  have := h.top
  omega
def okCheckRows (ds : List PyData) : Prop := ∃ (n : Nat) (rs : List (List Int)), ds = [.list (rs.map dRow)] ∧ ∀ q ∈ rs, GoodRow n q
abbrev D_check_rows (P : Program) (w : World) (K : PySem.W.Frag) (mg : Str → Option Value) (base : Heap) : Prop := Dfn P w K mg base CX0 4 "check_rows" ["rows"] (Pure (preV K 1 okCheckRows fNone))
theorem ok_check_rows {f : Addr} {fd : FuncData} (U : Bi mg) (GC : D_check_row P w K mg base) (F : Fun K "check_rows" "check_rows" s_check_rows f fd) : FnOk P w K mg base CX0 4 f fd ["rows"] (Pure (preV K 1 okCheckRows fNone)) := by
  refine pureV_ok F sc_check_rows fun cdv A outer s B H vs Q E ds hr e0 hd hl hok y => ?_
  obtain ⟨n, rs, rfl, hg⟩ := hok
  obtain ⟨d', v, e, rfl, hv⟩ := dps1 hd hl
  cases e
  refine b_cons (s_set 1 e0 e_non (fun v1 B1 H1 s1 r1 => ?_) sc_check_rows.nd)
  have e1 : v1 = .non := r1 B1 (Ex.refl B1)
  subst e1
  refine b_one (for_lS rs dRow (fun j σ' => ∃ wv x, σ' = [some v, some wv, x] ∧ (wv = .non ∨ wv = .int (n : Int))) PassesOwn.never rfl (pg_name (i := 2) sc_check_rows.nd rfl (.inl rfl)) s1.i (e_varD 0 rfl (dp_grow hv s1.b)) ⟨.non, none, rfl, .inl rfl⟩ ?_ fun σ' B' H' st _ => (show Yields B H (IsV .non) Q from y).valS (s1.trans st))
  rintro j a x σ' B' H' ha st hx ⟨wv, z, rfl, hw⟩
  have hm := List.mem_of_getElem? ha
  have G := hg a hm
  have hwd : ∃ wd, Dp K B' wv wd ∧ (wd = .none ∨ ∃ m, wd = .int m) ∧ wOk wd n = true := by
    rcases hw with rfl | rfl
    · exact ⟨.none, .non, .inl rfl, rfl⟩
    · exact ⟨.int n, .int _, .inr ⟨_, rfl⟩, decide_eq_true rfl⟩
  obtain ⟨wd, hwd1, hwd2, hwd3⟩ := hwd
  refine b_cons (s_expr st.i (e_callK (v := .non) GC (hr.mono (by decide)) (ad_cons (e_varD 2 rfl hx) (ad_cons (e_varD 1 rfl hwd1) ad_nil)) rfl ⟨_, wd, rfl, small_row G, hwd2, G.isRow hwd3⟩ rfl) fun B2 H2 s2 => ?_)
  have hlen : lenD (dRow a) = some n := by
    show some (a.map PyData.int).length = some n
    rw [List.length_map, G.len]
  refine b_one (s_set 1 s2.i (e_len U.len (e_varD 2 rfl (dp_grow hx s2.b)) hlen (by have := G.top; omega)) (fun v2 B3 H3 s3 r3 => ?_) sc_check_rows.nd)
  have e2 : v2 = .int (n : Int) := r3 B3 (Ex.refl B3)
  subst e2
  exact ⟨B3, ⟨_, _, rfl, .inr rfl⟩, s2.trans s3⟩
/-- joined of two rows -/
def preJoined (K : PySem.W.Frag) : List V → Hp → Rel → Prop := fun vs B R => ∃ (n : Nat) (r q : List Int), DpAll K B vs [dRow r, dRow q] ∧ GoodRow n r ∧ GoodRow n q ∧ R = IsD K (dRow (joinR r q))
structure D_joined (P : Program) (w : World) (K : PySem.W.Frag) (mg : Str → Option Value) (base : Heap) : Prop where
  ex : ∃ f, mg "joined" = some (.ref f) ∧ PySem.W.keepIn K (.ref f) = true ∧ FnR P w K mg base CX0 6 f (Pure (preJoined K))
/-- [elt for k in range(a)], each item told -/
theorem n_lcRF {X : Cx} {σ : Slots} {B : Hp} {a : Expr} {p pos : Pos} {j : Nat} {own : List (Str × Nat)} {elt : Expr} {n : Str} {pn pr : Pos} {scope : Scope} {m : Int} (g : Nat → PyData) (hN : X.N.Nodup) (hm : X.mg "range" = none) (src : EvE X a σ B (IsV (.int m))) (hn : 0 ≤ m ∧ m ≤ 40000) (ok : blkC X.N X.env.scope scope own = true)
    (he : ∀ (i : Nat), (i : Int) < m → ∀ B', Ex B B' → EvBE X scope elt ((wipe σ (own.map (·.2))).set j (some (.int (i : Int)))) B' (IsD X.K (g i))) (hc : X.calm = true := by rfl) (hgl : Gl X "range" := by rfl)
    (hj : X.N[j]? = some n := by rfl) (hx : ∀ (C : Addr) (cl : List (Str × Addr)), Loc (compEnvC scope cl C X.env).scope n := by intro _ _; first | exact Or.inl rfl | exact Or.inr rfl) (hf : ∀ (s : Shared) (H0 : Hp) (C : Addr) (cl : List (Str × Addr)) (fp : List Addr), (X.blk s H0 scope (compEnvC scope cl C X.env) fp).fn n = true ∨ (X.blk s H0 scope (compEnvC scope cl C X.env) fp).env.scope.names.lookup n = some .local := by intro _ _ _ _ _; first | exact .inl rfl | exact .inr rfl)
    (hw : ∀ x, wipe ((wipe σ (own.map (·.2))).set j (some x)) (own.map (·.2)) = wipe σ (own.map (·.2)) := by intro _; rfl) (hst : starEach [a] X.env = [(false, eval a X.env)] := by rfl) (hs : ∀ x, foldedSetIterable (.Call (.Name "range" p) [a] [] pr) X.env x = pure x := by intro _; rfl) :
    EvNE X (.ListComp elt [⟨.Name n pn, .Call (.Name "range" p) [a] [] pr, [], 0⟩] scope pos) σ B (NewL (AD X.K ((List.range m.toNat).map g))) := fun H e0 Q q =>
  n_lcR (fun i d => d = g i) hN hm src hn ok (fun i hi B' e s H0 C cl fp => (he i hi B' e s H0 C cl fp).imp fun v B1 _ r => ⟨_, rfl, r⟩) hc hgl hj hx hf hw hst hs H e0 Q fun p B1 H1 h1 h2 s ⟨ds, hl, ha, hN⟩ => q p B1 H1 h1 h2 s (by
    have e : ds = (List.range m.toNat).map g := by
      apply List.ext_getElem?
      intro i
      by_cases hi : i < ds.length
      · rw [List.getElem?_eq_getElem hi, ha i _ (List.getElem?_eq_getElem hi), List.getElem?_map, List.getElem?_range (by omega)]
        rfl
      · rw [List.getElem?_eq_none (by omega), List.getElem?_eq_none (by rw [List.length_map, List.length_range]; omega)]
    rw [← e]
    exact hN)
def spJoined (K : PySem.W.Frag) : Sp := fun vs H Q _ => ∃ (B : Hp) (n : Nat) (r q : List Int) (v u : V), vs = [v, u] ∧ Ex B H ∧ Dp K B v (dRow r) ∧ Dp K B u (.tuple [dRow q]) ∧ GoodRow n r ∧ GoodRow n q ∧ Yields B H (IsD K (dRow (joinR r q))) Q
theorem joinR_getD : ∀ {r q : List Int} {i : Nat}, i < r.length → i < q.length → (joinR r q)[i]? = some (max (r.getD i 0) (q.getD i 0))
  | a :: as, b :: bs, 0, _, _ => by
    show some (if b > a then b else a) = some (max a b)
    congr 1
    by_cases h : b > a
    · rw [if_pos h, Int.max_eq_right (by omega)]
    · rw [if_neg h, Int.max_eq_left (by omega)]
  | a :: as, b :: bs, i + 1, h1, h2 => joinR_getD (r := as) (q := bs) (i := i) (by simpa using h1) (by simpa using h2)
theorem joinR_range {n : Nat} {r q : List Int} (h1 : r.length = n) (h2 : q.length = n) : (List.range n).map (fun i => PyData.int (max (r.getD i 0) (q.getD i 0))) = (joinR r q).map PyData.int := by
  have hl : (joinR r q).length = n := by rw [joinR_len (by rw [h1, h2]), h1]
  apply List.ext_getElem?
  intro i
  by_cases hi : i < n
  · rw [List.getElem?_map, List.getElem?_map, List.getElem?_range hi, joinR_getD (by omega) (by omega)]
    rfl
  · rw [List.getElem?_eq_none (by rw [List.length_map, List.length_range]; omega), List.getElem?_eq_none (by rw [List.length_map]; omega)]
theorem ok_joined {f : Addr} {fd : FuncData} (U : Bi mg) (GC : D_check_rows P w K mg base) (F : Fun K "joined" "joined" s_joined f fd) : FnR P w K mg base CX0 6 f (Pure (preJoined K)) := by
  rcases F.ex with ⟨oc, od, kV, doc, pm, an, cdv, ct, osl, rfl, lk, hcd⟩
  have h : FnR P w K mg base CX0 (5 + 1) f _ := StX.fn_star (ps := ["first"]) (pv := "rest") (sp := spJoined K) (N := N_joined) (k := 5) (CX := CX0) (P := P) (w := w) (mg := mg) (base := base) lk hcd sc_joined StX.cxUp_none (StX.bind_star1 (B := fun us => bindArgs (PySem.W.fnOf "joined" "joined" (defArgs s_joined) (defBody s_joined) (defScope s_joined) .none kV doc pm an cdv ct) ⟨us, []⟩) (fun _ => rfl) (fun _ _ _ => rfl)) fun A outer s H vs Q E hr hsp => by
    obtain ⟨B, n, r, q, v, u, rfl, e0, hv, hu, g1, g2, y⟩ := hsp
    refine ⟨_, PSs.nox pss_w, ?_⟩
    have ht := g1.top
    refine b_cons (s_set 2 e0 (e_lstT (ad_cons (e_varD 0 rfl hv) (a_star (e_varD 1 rfl hu) ad_nil)) (by show 2 ≤ 100000; decide)) (fun v1 B1 H1 s1 r1 => ?_) sc_joined.nd)
    have r2 : Dp K B1 v1 (.list ([r, q].map dRow)) := isTL_d (r1 B1 (Ex.refl B1))
    have hg : ∀ q' ∈ [r, q], GoodRow n q' := by
      intro q' hq'
      rcases List.mem_cons.mp hq' with rfl | hq'
      · exact g1
      · rw [List.mem_singleton.mp hq']
        exact g2
    refine b_cons (s_expr s1.i (e_callK (v := .non) GC (hr.mono (by decide)) (ad_cons (e_varD 2 rfl r2) ad_nil) rfl ⟨n, _, rfl, hg⟩ rfl) fun B2 H2 s2 => ?_)
    have s12 := s1.trans s2
    have hl : lenD (dRow r) = some n := by
      show some (r.map PyData.int).length = some n
      rw [List.length_map, g1.len]
    have y' : Yields B H (IsD K (.tuple ((List.range n).map (fun i => PyData.int (max (r.getD i 0) (q.getD i 0)))))) Q := by
      rw [joinR_range g1.len g2.len]
      exact y
    refine b_one (s_retY s2.i (e_tupleOf U.tuple (EvP.imp (n_lcRF (j := 3) (own := [("position", 3)]) (fun i => PyData.int (max (r.getD i 0) (q.getD i 0))) sc_joined.nd U.range (e_len U.len (e_varD 0 rfl (dp_grow hv s12.b)) hl (by omega)) (by omega) rfl fun i hi B' e' s' H0 C cl fp => ?_).dl fun _ _ _ r => isTL_d r)) (y'.go s12))
    · have hi' : i < n := by omega
      refine (e_max (ns := [r.getD i 0, q.getD i 0]) rfl U.max (EvP.imp (n_lc (own := [("row", 4)]) (j := 4) [r, q] dRow (fun a => .int (a.getD i 0)) sc_joined.nd (by show 2 ≤ 40000; decide) (e_varD 2 rfl (dp_grow r2 (s2.b.trans e'))) rfl (fun a ha σ2 B3 e3 ht' s4 H4 C4 cl4 fp4 => ?_)).dl fun _ _ _ r => isTL_d r) ?_ ?_).intD
      · obtain ⟨vv, rfl, hvv⟩ := ht'
        have hga := hg a ha
        have hat : atI (a.map PyData.int) (i : Int) = some (.int (a.getD i 0)) := atI_nat (by
          rw [List.getElem?_map, List.getElem?_eq_getElem (by rw [hga.len]; exact hi'), List.getD_eq_getElem?_getD, List.getElem?_eq_getElem (by rw [hga.len]; exact hi')]
          rfl)
        exact e_ixT (ds := a.map PyData.int) (e_varD 4 rfl hvv) (e_var 3 rfl) hat
      · by_cases h : r.getD i 0 ≤ q.getD i 0
        · rw [Int.max_eq_right h]; exact List.mem_cons_of_mem _ List.mem_cons_self
        · rw [Int.max_eq_left (by omega)]; exact List.mem_cons_self
      · intro y hy
        simp only [List.mem_cons, List.not_mem_nil, or_false] at hy
        rcases hy with rfl | rfl
        · exact Int.le_max_left _ _
        · exact Int.le_max_right _ _
  intro A outer s H us vs Q E hr e0 rr hsp
  obtain ⟨B, R, e1, ⟨n, r, q, hd, g1, g2, rfl⟩, y⟩ := hsp
  obtain ⟨d, e, v, u, hds, rfl, hv, hu⟩ := dps2 hd rfl
  cases hds
  refine h A outer s H us _ Q E hr e0 rr ⟨[v], [u], rfl, rfl, small1000 (n := 1) (by decide) |> Nat.le_of_lt, fun p hp => ⟨upd B p (.tup [u]), n, r, q, v, .ref p, rfl, ex_upd2 e1, dp_grow hv (Ex.new (ex_none e1 hp)), .tup (st_of upd_same) (.cons (dp_grow hu (Ex.new (ex_none e1 hp))) .nil), g1, g2, y.go (Step.new e1 hp)⟩⟩
end
end K8

/-! Sets of texts that can be walked. What a set holds is told by a list of its members, up to order. -/
namespace K8
open PySem PyProof.Rows L2 PySem.Spec
abbrev mem1 (e : Int × Value) : Str := strOf e.2

/-- the entries es with their table t hold the texts ks, each once, and a walk meets them all -/
structure Laid (w : World) (ks : List Str) (es : Array (Int × Value)) (t : SetTable) : Prop where
  ent : ∀ e, e ∈ es.toList → ∃ k tk, e = (hashStr w k, Value.str k tk)
  same : (es.toList.map mem1).Perm ks
  once : ks.Nodup
  few : ks.length < scanBound
  fits : t.fits es.size = true
  up : Ris t.place.toList
  walk : w.params.followText "set-order" = true ∨ t.led = true

namespace Laid
variable {P : Program} {w : World} {ks : List Str} {es : Array (Int × Value)} {t : SetTable}
theorem size_eq (L : Laid w ks es t) : es.size = ks.length := by
  simpa using L.same.length_eq
theorem small (L : Laid w ks es t) : es.size < scanBound := L.size_eq ▸ L.few
theorem elems (L : Laid w ks es t) : ElemsOf (PySem.strKind P w) es.toList := by
  intro e m
  obtain ⟨j, tk, rfl⟩ := L.ent e m
  exact ⟨⟨j, PySem.strKind_is P w j tk, rfl⟩, rfl⟩
theorem holds (L : Laid w ks es t) (k : Str) {e : Int × Value} (m : e ∈ es.toList) : (PySem.strKind P w).is k e.2 = true ↔ mem1 e = k := by
  obtain ⟨j, tk, rfl⟩ := L.ent e m
  exact beq_iff_eq (a := j) (b := k)
theorem scan (L : Laid w ks es t) (k : Str) : (es.toList.findIdx? fun e => (PySem.strKind P w).is k e.2).isSome = true ↔ k ∈ ks := by
  rw [List.findIdx?_isSome, List.any_eq_true, ← L.same.mem_iff, List.mem_map]
  exact exists_congr fun e => and_congr_right fun m => L.holds k m
theorem more (L : Laid w ks es t) {k : Str} {tk : Tok} {es1 : Array (Int × Value)} {t1 : SetTable} (new : k ∉ ks) (room : ks.length + 1 < scanBound) (p : es1.toList.Perm ((hashStr w k, .str k tk) :: es.toList)) (f : t1.fits es1.size = true)
    (u : Ris t1.place.toList) (d : t1.led = t.led) : Laid w (k :: ks) es1 t1 where
  ent e m := (List.mem_cons.1 (p.mem_iff.1 m)).elim (fun q => ⟨k, tk, q⟩) (L.ent e)
  same := (p.map mem1).trans (L.same.cons k)
  once := List.nodup_cons.2 ⟨new, L.once⟩
  few := room
  fits := f
  up := u
  walk := d ▸ L.walk
theorem anew (L : Laid w ks es t) (m : Nat) : Laid w ks (relayAll t es m).1 (relayAll t es m).2.1 where
  ent e i := L.ent e ((relayAll_perm t es m).mem_iff.1 i)
  same := ((relayAll_perm t es m).map mem1).trans L.same
  once := L.once
  few := L.few
  fits := relayAll_fits t es m
  up := relayAll_ris t es m
  walk := (relayAll_led t es m).symm ▸ L.walk
theorem off (L : Laid w ks es t) : ∀ b : Bool, Laid w ks es (if b = true then t else { t with plain := false })
  | true => L
  | false => { L with fits := SetTable.fits_plain_off L.fits }
theorem fresh : Laid w [] #[] (.fresh 0 0 (!w.params.followText "set-order")) where
  ent e m := by cases m
  same := .nil
  once := .nil
  few := by decide
  fits := rfl
  up := .nil
  walk := by
    cases h : w.params.followText "set-order" with
    | true => exact .inl rfl
    | false => exact .inr rfl
end Laid

/-- an object that is a plain set -/
def Spot (h : Heap) (a : Addr) : Prop := ∃ o es ep t, h.get? a = some o ∧ o.ExactSet ∧ o.data = .set es ep t
/-- the set at a holds the texts ks -/
def TextSet (w : World) (h : Heap) (a : Addr) (ks : List Str) : Prop := ∃ o es ep t, h.get? a = some o ∧ o.ExactSet ∧ o.data = .set es ep t ∧ Laid w ks es t
theorem TextSet.spot {w : World} {h : Heap} {a : Addr} {ks : List Str} : TextSet w h a ks → Spot h a
  | ⟨o, es, ep, t, ho, hx, hd, _⟩ => ⟨o, es, ep, t, ho, hx, hd⟩
theorem TextSet.at {w : World} {h h' : Heap} {a : Addr} {ks : List Str} : TextSet w h a ks → (∀ o, h.get? a = some o → h'.get? a = some o) → TextSet w h' a ks
  | ⟨o, es, ep, t, ho, r⟩, k => ⟨o, es, ep, t, k o ho, r⟩
/-- what set() makes -/
abbrev newSet (w : World) : Obj := { cls := .type "set", dict := none, data := .set #[] 0 (.fresh 0 0 (!w.params.followText "set-order")) }
theorem TextSet.new {w : World} {h : Heap} {a : Addr} (e : h.get? a = some (newSet w)) : TextSet w h a [] := ⟨_, _, _, _, e, ⟨rfl, rfl, rfl⟩, rfl, .fresh⟩

section
variable {P : Program} {w : World} {A : Around} {E : Value → Shared → Prop} {s : Shared} {a : Addr} {ks : List Str}
theorem ts_put {es : Array (Int × Value)} {t : SetTable} {Q : Unit → Shared → Prop} (T : Spot s.heap a) (L : Laid w ks es t) (q : ∀ h', Heap.SameBut a s.heap h' → TextSet w h' a ks → Q () { s with heap := h' }) :
    wpAny (model P w) A (storeSet a es t) Q E s := by
  obtain ⟨o, es0, ep, t0, ho, hx, hd⟩ := T
  exact wpAny_storeSet_of ho hd (q _ (.update s.heap a _) ⟨_, es, _, t, store_at ho hd, hx, rfl, L⟩) (fits_of_scanBound L.small)
theorem ts_grow {es : Array (Int × Value)} {t : SetTable} {g : Bool → Sem Unit} {dum : Bool} {R : Option Bool → Shared → Prop} (hg : ∀ b (z : Shared) (Q : Unit → Shared → Prop), Q () z → wpAny (model P w) A (g b) Q E z)
    (T : Spot s.heap a) (L : Laid w ks es t) (q : ∀ h', Heap.SameBut a s.heap h' → TextSet w h' a ks → R (some true) { s with heap := h' }) :
    wpAny (model P w) A (storeSet a es t >>= fun _ =>
      if (!dum && t.tooFull) = true then (g (relayAll t es (SetTable.grown es.size)).2.2 >>= fun _ => storeSet a (relayAll t es (SetTable.grown es.size)).1 (relayAll t es (SetTable.grown es.size)).2.1 >>= fun _ => pure (some true))
      else pure (some true)) R E s :=
  by
  refine wpAny_bind (ts_put T L fun h1 b1 T1 => ?_)
  by_cases c : (!dum && t.tooFull) = true
  · rw [if_pos c]
    exact wpAny_bind (hg _ _ _ (wpAny_bind (ts_put T1.spot (L.anew _) fun h2 b2 T2 => wpAny_pure (q h2 (b1.trans b2) T2))))
  · rw [if_neg c]
    exact wpAny_pure (q h1 b1 T1)
theorem ts_rule (b : Bool) {z : Shared} {Q : Unit → Shared → Prop} (q : Q () z) : wpAny (model P w) A (match b with | true => rule "set.scan.the-table-gave-way" | false => pure ()) Q E z :=
  match b with
  | true => wpAny_rule q
  | false => wpAny_pure q
/-- a text is put into the set -/
theorem ts_add {k : Str} {tk : Tok} {Q : Bool → Shared → Prop} (T : TextSet w s.heap a ks) (room : ks.length + 1 < scanBound) (q : ∀ b h', Heap.SameBut a s.heap h' → TextSet w h' a (ks.insert k) → Q b { s with heap := h' }) :
    wpAny (model P w) A (setAddHashed a (.str k tk) (hashStr w k)) Q E s := by
  have T0 := T
  obtain ⟨o, es, ep, t, ho, hx, hd, L⟩ := T
  unfold setAddHashed
  unfold setAddHashedIn
  refine wpAny_holding (wpAny_bind (wpAny_setState_of ho hd L.fits ?_))
  have sc : byScan (.str k tk) es = true := byScan_of (knd := PySem.strKind P w) rfl L.small L.elems
  dsimp only
  rw [if_pos sc]
  unfold setAddByScan
  refine wpAny_bind (wpAny_bind (wpAny_rule (wpAny_bind (wpAny_setScan_of (knd := PySem.strKind P w) (PySem.strKind_is P w k tk) ho hd L.fits L.elems ?_))))
  have found := L.scan (P := P) k
  cases hfi : List.findIdx? (fun e => (PySem.strKind P w).is k e.2) es.toList with
  | some j =>
    rw [hfi] at found
    exact wpAny_pure (wpAny_pure (q _ _ (.refl a s.heap) (by rw [List.insert_of_mem (found.1 rfl)]; exact T0)))
  | none =>
    rw [hfi] at found
    have new : k ∉ ks := fun m => nomatch found.2 m
    rw [List.insert_of_not_mem new] at q
    have p := layNew_perm t es (hashStr w k) (.str k tk)
    rw [Array.toList_push] at p
    have L1 := L.more new room (p.trans (List.perm_append_singleton _ _)) (layNew_fits t es (hashStr w k) (.str k tk)) (layNew_ris t es (hashStr w k) (.str k tk) L.up) (layNew_led t es (hashStr w k) (.str k tk))
    refine wpAny_bind (ts_rule _ ?_)
    by_cases pl : (layNew t es (hashStr w k) (.str k tk)).2.1.plain = true
    · refine (if_pos pl).symm ▸ ?_
      rw [hashByValue_scannable 8 (x := .str k tk) rfl]
      exact wpAny_bind (wpAny_pure (ts_grow (fun b z Q r => ts_rule b r) T0.spot (L1.off _) fun h1 b1 T1 => wpAny_pure (q _ h1 b1 T1)))
    · refine (if_neg pl).symm ▸ ?_
      exact wpAny_bind (wpAny_pure (ts_grow (fun b z Q r => ts_rule b r) T0.spot (L1.off _) fun h1 b1 T1 => wpAny_pure (q _ h1 b1 T1)))

/-- set(..)'s loop, from its i-th item on: ks are the members so far -/
theorem ts_update {I S : Addr} {fp wr : List Addr} {G : Array GenState → Array GenState → Prop} {n : Nat} {Pv : Nat → Value → Prop} {St : Nat → Shared → Prop} {R : Result → Shared → Prop} {ns : List Str}
    (W : WalksS P w A.in1 I fp wr G n Pv St) (out : S ∉ fp) (hn : n = ns.length) (room : ns.length + 1 < scanBound) (hv : ∀ i v, Pv i v → ∃ k tk, ns[i]? = some k ∧ v = .str k tk)
    (i : Nat) (s : Shared) (ks : List Str) (hi : i ≤ n) (st : St i s) (T : TextSet w s.heap S ks) (len : ks.length ≤ i) (mem : ∀ k, k ∈ ks ↔ k ∈ ns.take i)
    (fin : ∀ s' ks', Moved (S :: wr) G s s' → TextSet w s'.heap S ks' → ks'.length ≤ n → (∀ k, k ∈ ks' ↔ k ∈ ns) → R (.ok (.ret .none)) s') : codeAny (model P w) A (.builtin "set.update.loop" ⟨[.ref S, .ref I], []⟩) R s := by
  have skip : S ∉ wr := fun m => out (W.sub S m)
  have wider : ∀ b, b ∈ wr → b ∈ S :: wr := fun b m => .tail S m
  apply codeAny_builtin F.entry_set_update_loop
  rw [Around.under_plainId F.plain_set_update_loop]
  change wpAny _ A.in1 (pyNext (.ref I) >>= _) _ _ _
  rcases Nat.lt_or_eq_of_le hi with lt | e
  · refine wpAny_bind (W.item i s _ _ lt st fun v s1 pv st1 m1 => ?_)
    obtain ⟨k, tk, ek, rfl⟩ := hv i v pv
    change wpAny _ A.in1 (holding [Value.str k tk] (setAdd S (.str k tk)) >>= _) _ _ _
    refine wpAny_bind (wpAny_holding (?_ : wpAny _ _ (setAdd S (.str k tk)) _ _ _))
    unfold setAdd
    refine wpAny_holding (wpAny_bind ((PySem.strKind P w).pyHash (PySem.strKind_is P w k tk) ?_))
    refine ts_add (s := { s1 with toks := s1.toks + 1 }) (T.at fun o e => m1.heap S o skip e) (by omega) fun b h' sb T1 => ?_
    have kept : ∀ c, c ≠ S → ∀ o, s1.heap.get? c = some o → h'.get? c = some o := fun c ne o e => (sb.2 c ne).trans e
    refine wpAny_pure ⟨plainId_quiet F.plain_set_update_loop _, ts_update W out hn room hv (i + 1) _ _ lt (W.frame _ s1 h' _ st1 (Nat.le_succ _) fun c m => kept c fun q => out (q ▸ m)) T1 ?_ (fun j => ?_) fun s2 ks2 m2 => fin s2 ks2 ?_⟩
    · rw [List.length_insert]
      split <;> omega
    · rw [List.mem_insert_iff, List.take_add_one, ek, mem j]
      simp [or_comm]
    · exact Moved.trans W.gtrans ((m1.mono wider).then_heap (Nat.le_succ _) fun c o ne e => kept c (fun q => ne (q ▸ .head _)) o e) m2
  · subst e
    exact wpAny_bind (W.done s _ _ st fun s1 m1 => wpAny_pure (fin s1 ks (m1.mono wider) (T.at fun o e => m1.heap S o skip e) len fun k => by rw [mem k, List.take_of_length_le (by omega)]))
termination_by n - i

theorem strs_nth : ∀ {vs : List Value} {ns : List Str}, StrsAre vs ns → ∀ (i : Nat) (v : Value), vs[i]? = some v → ∃ k tk, ns[i]? = some k ∧ v = .str k tk
  | _, _, .nil, _, _, e => nomatch e
  | _, _, .cons k tk _, 0, _, e => ⟨k, tk, rfl, (Option.some.inj e).symm⟩
  | _, _, .cons _ _ r, i + 1, v, e => strs_nth r i v e

/-- set.__init__ on a set made just now and a list of texts -/
theorem ts_init {p l : Addr} {items : Array Value} {ns : List Str} {Q : PySem.Fin → Shared → Prop} (hh : A.handled = none) (hp : s.heap.get? p = some (newSet w)) (hl : s.heap.IsList l items) (hi : StrsAre items.toList ns)
    (room : ns.length + 1 < scanBound)
    (q : ∀ h' tk ks, TextSet w h' p ks → ks.length ≤ ns.length → (∀ k, k ∈ ks ↔ k ∈ ns) → (∀ b, b ≠ p → ∀ o, s.heap.get? b = some o → h'.get? b = some o) → Q (.done (.ret .none)) { s with heap := h', toks := tk }) :
    wpAny (model P w) A (Builtin.«set.__init__» ⟨[.ref p, .ref l], []⟩) Q E s := by
  have sz : items.size = ns.length := (Array.length_toList (xs := items)).symm.trans hi.length
  have pl : p < s.heap.objs.size := Heap.lt_size hp
  have ne : p ≠ l := by
    rintro rfl
    obtain ⟨o, e, c, _⟩ := hl
    rw [hp] at e
    cases e
    exact nomatch Value.type.inj c
  have lt : l < s.heap.objs.size := by
    obtain ⟨o, e, _⟩ := hl
    exact Heap.lt_size e
  have isSet : s.TypeIs (.ref p) "set" := ⟨_, hp, rfl⟩
  have isList : s.TypeIs (.ref l) "list" := hl.typeIs
  have no1 := F.sub_list_set
  have no2 := F.sub_list_frozenset
  have no3 : (Value.type "list" == Value.type "dict") = false := by decide
  unfold Builtin.«set.__init__»
  unfold noKeywords Builtin.Frozenset.updateFrom
  generalize hI : pyIter = I
  wp_walk
  subst hI
  refine wpAny_pyIter_list hl (wpAny_bind (wpAny_runValue ?_))
  have kept : ∀ b, b < s.heap.objs.size → ∀ o, s.heap.get? b = some o → (s.heap.push { cls := .type "list_iterator", data := .fields #[.ref l, .int 0 0] }).get? b = some o := fun b _ o e => Heap.get?_push_of_some _ e
  refine ts_update (ns := ns) ((Walks.list (by simpa using hh) _ l (Nat.ne_of_lt lt) items).toS) (fun m => ?_) sz room (fun i v e => strs_nth hi i v (by rw [Array.getElem?_toList]; exact e)) 0 _ [] (Nat.zero_le _)
    ⟨⟨_, Heap.get?_push_size _ rfl, rfl, rfl⟩, hl.push _⟩ (.new (kept p pl _ hp)) (Nat.le_refl 0) (fun k => by simp) fun s' ks m T c mem => ?_
  · rcases List.mem_cons.1 m with e | m
    · exact Nat.ne_of_lt pl e
    · exact ne (List.mem_singleton.1 m)
  · rcases s' with ⟨h', g', d', tk', os'⟩
    obtain rfl : g' = s.gens := m.gens
    obtain rfl : d' = s.drawn := m.drawn
    obtain rfl : os' = s.os := m.os
    refine wpAny_pure (wpAny_pure (q h' tk' ks T (sz ▸ c) mem fun b nb o e => m.heap b o ?_ (kept b (Heap.lt_size e) o e)))
    intro i
    rcases List.mem_cons.1 i with i | i
    · exact nb i
    · exact Nat.ne_of_lt (Heap.lt_size e) (List.mem_singleton.1 i)

/-- set(l) of a list of texts -/
theorem ts_call {l : Addr} {items : Array Value} {ns : List Str} {Q : Value → Shared → Prop} (hh : A.handled = none) (hl : s.heap.IsList l items) (hi : StrsAre items.toList ns) (room : ns.length + 1 < scanBound)
    (q : ∀ h' tk ks, TextSet w h' s.heap.objs.size ks → ks.length ≤ ns.length → (∀ k, k ∈ ks ↔ k ∈ ns) → (∀ b o, s.heap.get? b = some o → h'.get? b = some o) → Q (.ref s.heap.objs.size) { s with heap := h', toks := tk }) : wpAny (model P w) A (call (.type "set") [.ref l]) Q E s := by
  have C := F.called_set
  obtain ⟨c0, rest, ways⟩ := C.mro
  have f1 := C.made
  have f2 := C.sub
  have f3 := C.notType
  have f4 := C.canCreate
  have f5 := F.typeCall_set_1 (.ref l)
  have f6 := C.init.lookup
  have f7 := C.init.bind (.ref s.heap.objs.size)
  let s0 : Shared := { s with heap := s.heap.push (newSet w) }
  have at0 : s0.heap.get? s.heap.objs.size = some (newSet w) := Heap.get?_push_size _ rfl
  have is0 : s0.TypeIs (.ref s.heap.objs.size) "set" := ⟨_, at0, rfl⟩
  refine wpAny_call (codeAny_of_tree (wpAny_pure ⟨Code.quiet_builtin _ (by decide +kernel), codeAny_builtin F.entry_type_call ?_⟩))
  rw [Around.under_plain (weight_type_call_type "set" _ _) rfl]
  repeat any_goals (first | assumption | wp_step)
  refine codeAny_mono (code_set_led1 (.ref l) (E := E) (Q₁ := fun v z => v = .ref s.heap.objs.size ∧ z = s0) ⟨rfl, rfl⟩) ?_
  intro r z hr
  rcases r with e | fl
  case error => exact hr
  cases fl
  case ret v =>
    obtain ⟨rfl, rfl⟩ := hr
    repeat any_goals (first | assumption | wp_step)
    refine codeAny_mono (codeAny_call_builtin (R := wants (fun v z => v = .none ∧ ∃ h' tk ks, z = { s with heap := h', toks := tk } ∧ TextSet w h' s.heap.objs.size ks ∧ ks.length ≤ ns.length ∧ (∀ k, k ∈ ks ↔ k ∈ ns) ∧
      (∀ b o, s.heap.get? b = some o → h'.get? b = some o)) E) C.init.plain F.entry_set_init (check_set_init_1 is0 ?_)) ?_
    · exact ts_init (by simpa using hh) at0 (hl.push _) hi room fun h' tk ks T c m k => ⟨rfl, h', tk, ks, rfl, T, c, m, fun b o e => k b (Nat.ne_of_lt (Heap.lt_size e)) o (Heap.get?_push_of_some _ e)⟩
    · intro r z hr
      rcases r with e | fl
      case error => exact hr
      cases fl
      case ret v =>
        obtain ⟨rfl, h', tk, ks, rfl, T, c, m, k⟩ := hr
        repeat any_goals (first | assumption | wp_step)
        exact q h' tk ks T c m k
      all_goals exact hr.elim
  all_goals exact hr.elim
/-- sorted(..) of such a set: a new list of the members, rising -/
theorem ts_sorted {Q : Value → Shared → Prop} (T : TextSet w s.heap a ks) (hh : A.handled = none) (few : ks.length < 64)
    (q : ∀ s' p (out : Array Value) (c : Nat) (ns : List Str), (∀ b o, s.heap.get? b = some o → s'.heap.get? b = some o) → s'.gens = s.gens → s'.os = s.os → s.heap.objs.size ≤ p → s'.heap.get? p = some (seqObj "list" out c) →
      StrsAre out.toList ns → sortedS ns = true → ns.Perm ks → ns.Nodup → Q (.ref p) s') : wpAny (model P w) A (call (.builtin "sorted") [.ref a]) Q E s := by
  obtain ⟨o, es, ep, t, ho, hx, hd, L⟩ := T
  apply Calls.call_function_entry kind_sorted plain_sorted entry_sorted (args_sorted1 _)
  unfold Builtin.«sorted»
  refine wpAny_bind (m := checkCount "sorted" 1 1 _) (wpAny_pure (wpAny_bind (collect_set (A := A.in1) hh ⟨o, ho, hx.1, hd⟩ L.fits L.small L.up L.walk fun s1 vs old here eg eo met => ?_)))
  have texts := strsAre_map vs fun v m => by
    obtain ⟨e, me, rfl⟩ := List.mem_map.1 (met.mem_iff.1 m)
    obtain ⟨k, tk, rfl⟩ := L.ent e me
    exact ⟨k, tk, rfl⟩
  have names : (vs.map strOf).Perm ks := (met.map strOf).trans (by rw [List.map_map]; exact L.same)
  have num : vs.length = ks.length := by simpa using names.length_eq
  let l0 : Obj := seqObj "list" vs.toArray 0
  have new : (s1.heap.push l0).get? s1.heap.objs.size = some l0 := Heap.get?_push_size _ rfl
  refine wpAny_bind (wpAny_newList (wpAny_bind (wpAny_holding (wpAny_call_entry slot_list_sort ⟨_, new, rfl⟩ entry_list_sort (list_sort_treeK strKind_oneLt new texts.keysOf (fun _ _ _ e => keyKind_strs (e ▸ texts)) (num ▸ few) fun st' hp hs => ?_)
    (args_list_sort _)))) (by rw [num, sizeLine_eq]; omega))
  obtain ⟨ns, r1, r2, r3⟩ := sorted_out_str texts hp hs
  have all := r2.trans names
  obtain ⟨c, hc⟩ := sortedHeap_at (vs := vs) (out := (arrOf st').map (·.2)) new
  refine ⟨_, rfl, wpAny_pure ⟨_, rfl, q _ s1.heap.objs.size _ c ns (fun b u e => ?_) eg eo here hc r1 r3 all (all.nodup_iff.2 L.once)⟩⟩
  have lt := Heap.lt_size (old b u e)
  exact (sortedHeap_old (Nat.ne_of_lt lt) ((size_push' _ _).symm ▸ Nat.lt_succ_of_lt lt)).trans (Heap.get?_push_of_some _ (old b u e))
end
end K8

/-! sorted(set(..)) of texts and of rows. -/
namespace K8
open PySem PySem.Spec PyProof.Rows L2 Evl
/-! ### plain -/
theorem leastRows_mem {B : Int} {k1 k2 rs : List (List Int)} (h1 : LeastRows B k1 rs) (h2 : LeastRows B k2 rs) : ∀ k ∈ k1, k ∈ k2 := fun k hk => by
  obtain ⟨a, ha, l1⟩ := h2.cov k (h1.sub k hk)
  obtain ⟨b, hb, l2⟩ := h1.cov a (h2.sub a ha)
  have e := h1.anti k hk b hb (leR_trans l2 l1)
  subst e
  rw [leR_antisymm l2 l1]
  exact ha
theorem leastRows_unique {B : Int} {k1 k2 rs : List (List Int)} (h1 : LeastRows B k1 rs) (h2 : LeastRows B k2 rs) : k1 = k2 :=
  sorted_ext (R := fun a b => code B a < code B b) (fun _ => Int.lt_irrefl _) (fun _ _ _ => Int.lt_trans) h1.sorted h2.sorted fun x => ⟨leastRows_mem h1 h2 x, leastRows_mem h2 h1 x⟩
open Classical in
noncomputable def leastF (B : Int) (rs : List (List Int)) : List (List Int) := if h : ∃ k, LeastRows B k rs then choose h else []
theorem leastF_eq {B : Int} {k rs : List (List Int)} (h : LeastRows B k rs) : leastF B rs = k := by
  unfold leastF
  rw [dif_pos ⟨k, h⟩]
  exact leastRows_unique (Classical.choose_spec (p := fun k => LeastRows B k rs) ⟨k, h⟩) h
open Classical in
noncomputable def srtS (xs : List Str) : List Str := if h : ∃ ys : List Str, ys.Pairwise Slt ∧ ∀ k, k ∈ ys ↔ k ∈ xs then choose h else []
theorem srtS_eq {xs ys : List Str} (h1 : ys.Pairwise Slt) (h2 : ∀ k, k ∈ ys ↔ k ∈ xs) : srtS xs = ys := by
  unfold srtS
  have h : ∃ ys : List Str, ys.Pairwise Slt ∧ ∀ k, k ∈ ys ↔ k ∈ xs := ⟨ys, h1, h2⟩
  rw [dif_pos h]
  have z := Classical.choose_spec h
  exact sorted_ext slt_irrefl (fun _ _ _ => slt_trans) z.1 h1 fun x => (z.2 x).trans (h2 x).symm
/-- the bound of all numbers that come -/
def BB : Int := 10 ^ 31
theorem BB_pos : 0 < BB := by decide
theorem code_eq (B : Int) : ∀ r, TS.code B r = code B r
  | [] => rfl
  | d :: r => by
    show d * B ^ r.length + TS.code B r = d * B ^ r.length + code B r
    rw [code_eq B r]
theorem slt_total {a b : Str} (h : ¬ Slt b a) (ne : a ≠ b) : Slt a b := by
  rcases Classical.em (Slt a b) with q | q
  · exact q
  · exact absurd (show a = b from by
      have e : a.cps.toList = b.cps.toList := List.le_antisymm (List.not_lt.mp h) (List.not_lt.mp q)
      cases a
      cases b
      congr 1
      exact Array.toList_inj.mp e) ne
theorem rising_pw : ∀ (p : Str) (l : List Str), risingS p l = true → (p :: l).Nodup → (p :: l).Pairwise Slt
  | p, [], _, _ => List.pairwise_singleton _ _
  | p, x :: r, h, nd => by
    have h' : (!ltCps x.cps.toList p.cps.toList && risingS x r) = true := h
    rw [Bool.and_eq_true, ltCps_eq] at h'
    have nd2 := (List.nodup_cons.mp nd).2
    have hpx : Slt p x := slt_total (by simpa using h'.1) fun e => (List.nodup_cons.mp nd).1 (e ▸ List.mem_cons_self)
    have ih := rising_pw x r h'.2 nd2
    refine List.pairwise_cons.mpr ⟨fun y hy => ?_, ih⟩
    rcases List.mem_cons.1 hy with e | hy
    · rw [e]
      exact hpx
    · exact slt_trans hpx ((List.pairwise_cons.mp ih).1 y hy)
theorem sortedS_pw : ∀ {l : List Str}, sortedS l = true → l.Nodup → l.Pairwise Slt
  | [], _, _ => .nil
  | p :: l, h, nd => rising_pw p l h nd
/-! ### texts -/
def SetSO (w : World) (a : Addr) (ks : List Str) : HO := .ext fun h => TextSet w h a ks
theorem setSO_new {w : World} {P : Program} {H : Hp} {h : Heap} {a : Addr} {ks : List Str} (T : TextSet w h a ks) : ObjOk P w H h a (SetSO w a ks) :=
  ⟨T, T.imp fun _ x => x.elim fun _ x => x.elim fun _ x => x.elim fun _ x => x.1, fun _ _ p k => TextSet.at p k⟩
section
variable {X : Cx}
def rSetOfS (K : PySem.W.Frag) (w : World) : List V → Hp → VK → Prop := fun xs H Q => ∃ (l : Addr) (ns : List Str), xs = [V.ref l] ∧ SqL K H l (ns.map V.str) ∧ ns.length < 64 ∧
  ∀ a ks, H a = none → ks.length ≤ ns.length → (∀ k, k ∈ ks ↔ k ∈ ns) → Q (.ref a) (upd H a (SetSO w a ks))
theorem cr_setOfS (hc : X.calm = true) : CallR X (.type "set") (rSetOfS X.K X.w) := by
  rintro pins s σ H xs us Q I r ⟨l, ns, rfl, hl, hf, q⟩
  rcases I.list hl with ⟨its, rv, pl, hz⟩
  rw [Vals.ref1 r]
  exact ts_call (P := X.prog) (w := X.w) (ns := ns) (I.ok.hd hc) pl.isList (by simpa using rv.strs) (by unfold scanBound; omega) fun h' tk ks T c m k =>
    ⟨.ref s.heap.objs.size, upd H s.heap.objs.size (SetSO X.w s.heap.objs.size ks), I.laid (t' := tk) k (Nat.le_refl _) (setSO_new T), rfl, q _ ks (I.hok.fresh (Nat.le_refl _)) c m⟩
def rSortedSetS (w : World) : List V → Hp → VK → Prop := fun vs H Q => ∃ (a : Addr) (ks : List Str), vs = [V.ref a] ∧ H a = some (SetSO w a ks) ∧ ks.length < 64 ∧
  ∀ (ns : List Str) (p : Addr), ns.Pairwise Slt → (∀ k : Str, k ∈ ns ↔ k ∈ ks) → H p = none → Q (.ref p) (upd H p (.lst (ns.map V.str)))
theorem cr_sortedSetS (hc : X.calm = true) : CallR X (.builtin "sorted") (rSortedSetS X.w) := by
  rintro pins s σ H vs us Q I r ⟨a, ks, rfl, ha, few, q⟩
  rw [Vals.ref1 r]
  refine ts_sorted (I.hok a _ ha).1 (I.ok.hd hc) few fun s' p out c ns k g o hp hg hi hs pm nd => ?_
  have free : H p = none := I.hok.fresh hp
  have len : (ns.map V.str).length ≤ sizeLine := by rw [List.length_map, pm.length_eq, sizeLine_eq]; omega
  obtain ⟨h1, g1, d1, t1, o1⟩ := s'
  obtain rfl : o1 = s.os := o
  have J : Inv X pins σ (upd H p (.lst (ns.map V.str))) { s with heap := h1, gens := g1, drawn := d1, toks := t1 } :=
    I.call (ch := []) (Un.laid k hp free) (I.hok.laid k hp ⟨len, out.toList, c, vals_of_strs hi, hg⟩) (by rw [show g1 = s.gens from g]; exact I.bare) (fun _ z => nomatch z)
  exact ⟨.ref p, _, J, rfl, q ns p (sortedS_pw hs nd) (fun _ => pm.mem_iff) free⟩
end
section
variable {X : Cx} {σ : Slots} {B B' H H' : Hp} {e : Expr} {pos p p2 pos2 : Pos} {ds : List PyData}
/-- sorted(set(e)) of a list of texts -/
theorem e_sortedSetS {ns : List Str} (hc : X.calm = true) (hm1 : X.mg "sorted" = none) (hm2 : X.mg "set" = none) (he : EvE X e σ B (IsD X.K (.list (ns.map .str)))) (hf : ns.length < 64) (hg1 : Gl X "sorted" := by rfl) (hg2 : Gl X "set" := by rfl)
    (hs : starEach [e] X.env = (false, eval e X.env) :: starEach [] X.env := by rfl) (hs2 : starEach [.Call (.Name "set" p2) [e] [] pos2] X.env = (false, eval (.Call (.Name "set" p2) [e] [] pos2) X.env) :: starEach [] X.env := by rfl)
    (hpl : (backTo pos2 (starEach [] X.env)).any (·.1) = false := by rfl) (hpl2 : (backTo pos (starEach [] X.env)).any (·.1) = false := by rfl) :
    EvE X (.Call (.Name "sorted" p) [.Call (.Name "set" p2) [e] [] pos2] [] pos) σ B (IsD X.K (.list ((srtS ns).map .str))) := by
  have h1 : EvE X (.Call (.Name "set" p2) [e] [] pos2) σ B (fun v B1 => ∃ a ks, v = .ref a ∧ B1 a = some (SetSO X.w a ks) ∧ ks.length ≤ ns.length ∧ ∀ k, k ∈ ks ↔ k ∈ ns) :=
    e_callTy (cr_setOfS hc) hm2 (by decide +kernel) (a_one he hs) (fun vs B1 e1 r H1 i1 Q q => by
      obtain ⟨v1, vs1, rfl, r1, r3⟩ := r
      have e3 : vs1 = [] := r3
      subst e3
      cases r1 with
      | lst g1 g2 =>
        have ex := dps_strs_inv g2
        subst ex
        exact ⟨_, ns, rfl, ex_l i1 g1, hf, fun a ks ha len mem => q _ _ _ (Step.new i1 ha) fun B2 e2 => ⟨a, ks, rfl, e2 a _ upd_same, len, mem⟩⟩) hg2 (he := hs) (hpl := hpl)
  refine e_callB (cr_sortedSetS hc) hm1 (by decide +kernel) (a_one h1 hs2) (fun vs B1 e1 r H1 i1 Q q => ?_) hg1 (he := hs2) (hpl := hpl2)
  obtain ⟨v1, vs1, rfl, ⟨a, ks, rfl, ha, len, mem⟩, r3⟩ := r
  obtain rfl : vs1 = [] := r3
  refine ⟨a, ks, rfl, i1 _ _ ha, by omega, fun ys p h1 h2 hp => ?_⟩
  have ey : srtS ns = ys := srtS_eq h1 fun k => (h2 k).trans (mem k)
  rw [ey] at q
  exact q _ _ _ (Step.new i1 hp) (isD_stable (.lst (sq_of upd_same) (dps_strs ys)))
/-! ### rows -/
theorem dps_rows {K : PySem.W.Frag} {H : Hp} : ∀ {rs : List (List Int)} {vs : List V}, DpAll K H vs (rs.map dRow) → ∃ ks : List (Addr × List Int), vs = ks.map (fun p => V.ref p.1) ∧ ks.map (·.2) = rs ∧ ∀ p ∈ ks, SqT K H p.1 (p.2.map V.int)
  | [], _, h => by
    cases h
    exact ⟨[], rfl, rfl, fun _ h => absurd h (by simp)⟩
  | r :: rs, _, h => by
    cases h with
    | cons h1 h2 =>
      obtain ⟨ks, rfl, rfl, h4⟩ := dps_rows h2
      cases h1 with
      | tup g1 g2 =>
        rename_i a xs
        have ex := dps_ints_inv g2
        subst ex
        exact ⟨(a, r) :: ks, rfl, rfl, fun p hp => by
          rcases List.mem_cons.1 hp with e | hp
          · rw [e]
            exact g1
          · exact h4 p hp⟩
theorem rows_dps {K : PySem.W.Frag} {H : Hp} : ∀ {ks : List (Addr × List Int)}, (∀ p ∈ ks, SqT K H p.1 (p.2.map V.int)) → DpAll K H (ks.map fun p => V.ref p.1) (ks.map fun p => dRow p.2)
  | [], _ => .nil
  | p :: ks, h => .cons (.tup (h p List.mem_cons_self) (dps_ints _)) (rows_dps fun q hq => h q (List.mem_cons_of_mem _ hq))
open Classical in
noncomputable def srtR (B : Int) (rs : List (List Int)) : List (List Int) := if h : ∃ ys : List (List Int), ys.Pairwise (fun a b => code B a < code B b) ∧ ∀ k, k ∈ ys ↔ k ∈ rs then choose h else []
theorem srtR_eq {B : Int} {xs ys : List (List Int)} (h1 : ys.Pairwise fun a b => code B a < code B b) (h2 : ∀ k, k ∈ ys ↔ k ∈ xs) : srtR B xs = ys := by
  unfold srtR
  have h : ∃ ys : List (List Int), ys.Pairwise (fun a b => code B a < code B b) ∧ ∀ k, k ∈ ys ↔ k ∈ xs := ⟨ys, h1, h2⟩
  rw [dif_pos h]
  have z := Classical.choose_spec h
  exact sorted_ext (R := fun a b => code B a < code B b) (fun _ => Int.lt_irrefl _) (fun _ _ _ => Int.lt_trans) z.1 h1 fun x => (z.2 x).trans (h2 x).symm
/-- sorted(set(e)) of a list of rows -/
theorem e_sortedSetR {n : Nat} {C : Int} {rs : List (List Int)} (hC : 0 < C) (hc : X.calm = true) (hu : X.A.units + 64 < cLine) (hm1 : X.mg "sorted" = none) (hm2 : X.mg "set" = none) (he : EvE X e σ B (IsD X.K (.list (rs.map dRow)))) (hf : rs.length < 64) (hn : 1 ≤ n) (hr : ∀ r ∈ rs, r.length = n ∧ Bd C r) (hg1 : Gl X "sorted" := by rfl) (hg2 : Gl X "set" := by rfl)
    (hs : starEach [e] X.env = (false, eval e X.env) :: starEach [] X.env := by rfl) (hs2 : starEach [.Call (.Name "set" p2) [e] [] pos2] X.env = (false, eval (.Call (.Name "set" p2) [e] [] pos2) X.env) :: starEach [] X.env := by rfl)
    (hpl : (backTo pos2 (starEach [] X.env)).any (·.1) = false := by rfl) (hpl2 : (backTo pos (starEach [] X.env)).any (·.1) = false := by rfl) :
    EvE X (.Call (.Name "sorted" p) [.Call (.Name "set" p2) [e] [] pos2] [] pos) σ B (fun v B1 => IsD X.K (.list ((srtR C rs).map dRow)) v B1 ∧ (srtR C rs).Pairwise (fun a b => code C a < code C b) ∧ ∀ k, k ∈ srtR C rs ↔ k ∈ rs) := by
  have h1 : EvE X (.Call (.Name "set" p2) [e] [] pos2) σ B (fun v B1 => ∃ a L, v = .ref a ∧ B1 a = some (SetTO X.prog X.w a L) ∧ (∀ p ∈ L, SqT X.K B1 p.1 (p.2.map V.int)) ∧ ∀ k, k ∈ L.map (·.2) ↔ k ∈ rs) :=
    e_callTy (cr_setOfT hc hu) hm2 (by decide +kernel) (a_one he hs) (fun vs B1 e1 r H1 i1 Q q => by
      obtain ⟨v1, vs1, rfl, r1, r3⟩ := r
      have e3 : vs1 = [] := r3
      subst e3
      cases r1 with
      | lst g1 g2 =>
        obtain ⟨ks, rfl, rfl, h4⟩ := dps_rows g2
        refine ⟨_, ks, rfl, ex_l i1 g1, fun p hp => ex_t i1 (h4 p hp), by rw [List.length_map] at hf; exact hf, fun a L ha h5 h6 => q _ _ _ (Step.new i1 ha) fun B2 e2 => ⟨a, L, rfl, e2 a _ upd_same, fun p hp => ex_t ((Ex.new (ex_none i1 ha)).trans e2) (h4 p (h5 p hp)), fun k => ?_⟩⟩
        constructor
        · intro hk
          obtain ⟨p, hp, rfl⟩ := List.mem_map.mp hk
          exact List.mem_map.mpr ⟨p, h5 p hp, rfl⟩
        · intro hk
          obtain ⟨p, hp, rfl⟩ := List.mem_map.mp hk
          exact h6 p hp) hg2 (he := hs) (hpl := hpl)
  refine e_callB (cr_sortedT hc) hm1 (by decide +kernel) (a_one h1 hs2) (fun vs B1 e1 r H1 i1 Q q => ?_) hg1 (he := hs2) (hpl := hpl2)
  obtain ⟨v1, vs1, rfl, ⟨a, L, rfl, ha, hL, hk⟩, r3⟩ := r
  have e3 : vs1 = [] := r3
  subst e3
  have hB : ∀ p ∈ L, p.2.length = n ∧ TS.Bd C p.2 := fun p hp => hr _ ((hk _).mp (List.mem_map.mpr ⟨p, hp, rfl⟩))
  refine ⟨a, L, n, C, rfl, i1 _ _ ha, fun p hp => ex_t i1 (hL p hp), hn, hB, fun L' p h1 h2 h3 h4 hp => ?_⟩
  have hmem : ∀ k, k ∈ L'.map (·.2) ↔ k ∈ rs := fun k => by
    rw [(h1.map (·.2)).mem_iff]
    exact hk k
  have hpw : (L'.map (·.2)).Pairwise fun a b => code C a < code C b := by
    rw [List.pairwise_map]
    have nd : L'.Pairwise fun a b => a.2 ≠ b.2 := by
      unfold List.Nodup at h2
      rw [List.pairwise_map] at h2
      exact h2
    refine (List.Pairwise.and h4 nd).imp_of_mem fun {a b} ma mb h => ?_
    rw [code_eq, code_eq] at h
    have qa := hB a (h1.mem_iff.mp ma)
    have qb := hB b (h1.mem_iff.mp mb)
    rcases Int.lt_or_eq_of_le h.1 with q | q
    · exact q
    · exact absurd (code_inj hC (qa.1.trans qb.1.symm) qa.2 qb.2 q) h.2
  have ey := srtR_eq hpw hmem
  refine q _ _ _ (Step.new i1 hp) fun B2 e2 => ?_
  rw [ey]
  refine ⟨?_, hpw, hmem⟩
  refine .lst (sq_of (e2 p _ upd_same)) ?_
  rw [List.map_map]
  exact rows_dps fun p hp => ex_t ((Ex.new (ex_none i1 ‹_›)).trans e2) (hL p (h1.mem_iff.mp hp))
end
end K8

/-! Two clauses, pairs as targets, lists that are made and returned. -/
namespace K8
open PySem PySem.Spec PyProof.Rows L2 Evl
theorem Step.put {B H B1 H1 : Hp} (s : Step B H B1 H1) {p : Addr} {o : HO} (n : B1 p = none) (m : H p = none) : Step B H B1 (upd H1 p o) := ⟨s.b, ex_put s.i n, s.h.mut m, s.off⟩
theorem Step.join {B H B1 H1 : Hp} (s : Step B H B1 H1) {p : Addr} {o : HO} (n : B1 p = none) (m : H p = none) (at_ : H1 p = some o) : Step B H (upd B1 p o) H1 :=
  ⟨s.b.trans (Ex.new n), fun a u z => by
    by_cases e : a = p
    · subst e
      rw [upd_same] at z
      rw [at_]
      exact z
    · rw [upd_ne e] at z
      exact s.i a u z, s.h, fun a u h1 h2 => by
    rw [upd_ne (ne_of_none h2 m)]
    exact s.off a u h1 h2⟩
theorem ex_join {B H : Hp} (e : Ex B H) {p : Addr} {o : HO} (at_ : H p = some o) : Ex (upd B p o) H := fun a u z => by
  by_cases q : a = p
  · subst q
    rw [upd_same] at z
    rw [at_]
    exact z
  · rw [upd_ne q] at z
    exact e a u z
/-- a test over a greater base leaves the smaller one as it was -/
theorem Step.less {B B' H B1 H1 : Hp} (e : Ex B H) (s : Step B' H B1 H1) : Step B H B H1 := ⟨Ex.refl B, e.trans s.h, s.h, fun _ _ h _ => h⟩
section
variable {X : Cx} {σ : Slots} {B B' H H' : Hp} {R R' Ra Rb : Rel} {e a b c l : Expr} {es rest : List Expr} {pos p : Pos} {x y z v : V} {d d1 d2 : PyData} {ds es' : List PyData} {k k1 k2 : Bool} {D : Ends} {body : List Stmt}
theorem s_retN {RN : Addr → Hp → Hp → Prop} (e0 : Ex B H) (h : EvNE X e σ B RN) (k : ∀ q B1 H1, H q = none → B1 q = none → Step B H B1 H1 → RN q B1 H1 → D.rt (.ref q) H1) : wS X (.Return (some e) pos) D σ H := w_ps (ps_ret pe_w) (h H e0 _ k)
/-! ### promises of a new list -/
def PureN (pre : List V → Hp → RelA → Prop) : Sp := fun vs H Q _ => ∃ B RA, Ex B H ∧ pre vs B RA ∧ ∀ p B1 H1, H p = none → B1 p = none → Step B H B1 H1 → NewL RA p B1 H1 → Q (.ref p) H1
theorem n_callN {kk : Nat} {n : Str} {ps : List Str} {pre : List V → Hp → RelA → Prop} {RA RB : RelA} (G : Dfn X.prog X.w X.K X.mg X.base CX0 kk n ps (PureN pre)) (hr : Room kk X.A) (ha : EvAE X (e :: es) σ B RA) (hs : ∀ vs B1, Ex B B1 → RA vs B1 → pre vs B1 RB) (hg : Gl X n := by rfl) (hdb : (n == ("__debug__" : Str)) = false := by decide)
    (he : starEach (e :: es) X.env = (false, eval e X.env) :: starEach es X.env := by rfl) (hpl : (backTo pos (starEach es X.env)).any (·.1) = false := by rfl) : EvNE X (.Call (.Name n p) (e :: es) [] pos) σ B (NewL RB) := by
  obtain ⟨f, fd, h1, h2, h3, h4⟩ := G.ex
  exact of_peN (pe_call h4 hr hg h1 h2 h3 .nil pass0 pa_w hdb he hpl) fun H e0 Q q => ha H e0 _ fun vs B1 H1 s1 kx => by
    show PureN pre (vs ++ []) H1 Q _
    rw [List.append_nil]
    exact ⟨B1, RB, s1.i, hs vs B1 s1.b (kx B1 (Ex.refl B1)), fun q' B2 H2 n1 n2 s2 r => q q' B2 H2 (fresh_back s1.h n1) n2 (s1.trans s2) r⟩
/-! ### a pair as the target -/
/-- the slots behind a target of two names -/
def TPair (K : PySem.W.Frag) (σ : Slots) (vs : List Nat) (i j : Nat) (d1 d2 : PyData) (σ2 : Slots) (B : Hp) : Prop := ∃ v u, σ2 = ((wipe σ vs).set i (some v)).set j (some u) ∧ Dp K B v d1 ∧ Dp K B u d2
theorem go_pair {K : PySem.W.Frag} {vs : List Nat} {i j : Nat} (hw : ∀ x y, wipe (((wipe σ vs).set i (some x)).set j (some y)) vs = wipe σ vs) {Q : Slots → Hp → Prop} (i0 : Ex B' H') (hd : Dp K B' v (.tuple [d1, d2])) (k : ∀ σ2, TPair K σ vs i j d1 d2 σ2 B' → wipe σ2 vs = wipe σ vs → Q σ2 H') :
    gTup K 2 (gCons (gName i) (gCons (gName j) gNil)) v (wipe σ vs) H' Q := by
  cases hd with
  | tup h1 h2 =>
    cases h2 with
    | cons g1 h2 =>
      cases h2 with
      | cons g2 h2 =>
        cases h2
        exact ⟨_, _, rfl, ex_t i0 h1, rfl, _, _, rfl, _, _, rfl, rfl, k _ ⟨_, _, rfl, g1, g2⟩ (hw _ _)⟩
/-! ### two clauses -/
theorem flat_pre {α β : Type} {L : List α} {f : α → List β} {i j : Nat} {a : α} (h : L[i]? = some a) : ((L.take i).flatMap f ++ (f a).take j).length ≤ (L.flatMap f).length := by
  have hi := (List.getElem?_eq_some_iff.mp h).1
  have ha := (List.getElem?_eq_some_iff.mp h).2
  have e : L = L.take i ++ a :: L.drop (i + 1) := by
    rw [← ha, List.getElem_cons_drop, List.take_append_drop]
  have e2 : (L.flatMap f).length = ((L.take i).flatMap f).length + ((f a).length + ((L.drop (i + 1)).flatMap f).length) := by
    conv => lhs; rw [e]
    rw [List.flatMap_append, List.flatMap_cons, List.length_append, List.length_append]
  rw [e2, List.length_append, List.length_take]
  omega
theorem flat_next {α β : Type} {L : List α} {f : α → List β} {i : Nat} {a : α} (h : L[i]? = some a) : (L.take (i + 1)).flatMap f = (L.take i).flatMap f ++ f a := by
  have hi := (List.getElem?_eq_some_iff.mp h).1
  have ha := (List.getElem?_eq_some_iff.mp h).2
  rw [List.take_succ_eq_append_getElem hi, List.flatMap_append, ha]
  simp
theorem lc2_l {α β : Type} {g g1 : TG} {te tl tl1 : TE} {vs vs1 : List Nat} {K : PySem.W.Frag} (L : List α) (enc : α → PyData) (M : α → List β) (enc1 : β → PyData) (g' : α → β → PyData) (T : α → Slots → Hp → Prop) (T1 : α → β → Slots → Hp → Prop) (hz : (L.flatMap fun a => (M a).map (g' a)).length ≤ 40000) (src : EvP tl σ B (IsD K (.list (L.map enc))))
    (hT : ∀ a σ2 B' B'', Ex B' B'' → T a σ2 B' → T a σ2 B'')
    (hgo : ∀ a ∈ L, ∀ v B' H' (Q : Slots → Hp → Prop), Ex B B' → Ex B' H' → Dp K B' v (enc a) → (∀ σ2, T a σ2 B' → wipe σ2 vs = wipe σ vs → Q σ2 H') → g v (wipe σ vs) H' Q)
    (src1 : ∀ a ∈ L, ∀ σ2 B', Ex B B' → T a σ2 B' → EvP tl1 σ2 B' (IsD K (.list ((M a).map enc1))))
    (hgo1 : ∀ a ∈ L, ∀ b ∈ M a, ∀ v σ2 B' H' (Q : Slots → Hp → Prop), Ex B B' → Ex B' H' → T a σ2 B' → Dp K B' v (enc1 b) → (∀ σ3, T1 a b σ3 B' → wipe σ3 vs1 = wipe σ2 vs1 → Q σ3 H') → g1 v (wipe σ2 vs1) H' Q)
    (he : ∀ a ∈ L, ∀ b ∈ M a, ∀ σ3 B', Ex B B' → T1 a b σ3 B' → EvP te σ3 B' (IsD K (g' a b))) :
    EvN (tLc2 (iList K tl) g tYes (iList K tl1) g1 tYes te vs vs1) σ B (NewL (AD K (L.flatMap fun a => (M a).map (g' a)))) := fun H e0 Q q => src H e0 _ fun v B1 H1 s1 r => by
  have r1 := r B1 (Ex.refl B1)
  cases r1 with
  | lst hq ha =>
    rename_i a0 xs
    have hl : xs.length = L.length := by rw [dps_len ha, List.length_map]
    refine ⟨a0, rfl, ⟨xs, ex_l s1.i hq⟩, fun Dl hD => ⟨fun i m H' => m = xs.length - i ∧ i ≤ xs.length ∧ LcP K B1 H1 Dl ((L.take i).flatMap fun a => (M a).map (g' a)) H', ⟨xs.length, by simp, Nat.zero_le _, lcP_start s1.i hD⟩, ?_⟩⟩
    rintro i m H' ⟨rfl, hi, P⟩
    obtain ⟨B', acc, s, n, hd, hacc⟩ := id P
    have hq' : SqL K H' a0 xs := ex_l (s.b.trans s.i) hq
    by_cases hlt : i < xs.length
    · refine .inr ⟨⟨xs, xs[i], hq', by simp [hlt]⟩, LcP K B1 H1 Dl ((L.take (i + 1)).flatMap fun a => (M a).map (g' a)), fun H'' p' => ⟨xs.length - (i + 1), by omega, rfl, hlt, p'⟩, fun x H'' yl => ?_⟩
      obtain ⟨ey, yl⟩ := yl
      subst ey
      have hx : xs[i]? = some x := yl xs hq'
      obtain ⟨d, hd1, hd2⟩ := dps_get ha hx
      rw [List.getElem?_map] at hd1
      obtain ⟨w, hw, rfl⟩ := Option.map_eq_some_iff.mp hd1
      have hm : w ∈ L := List.mem_of_getElem? hw
      refine hgo w hm x B' _ _ (s1.b.trans s.b) s.i (dp_grow hd2 s.b) fun σ2 hTw hwp => ⟨hwp, ?_⟩
      unfold tYes
      dsimp only
      rw [if_pos rfl]
      refine src1 w hm σ2 B' (s1.b.trans s.b) hTw _ s.i _ fun v2 B2 H2 s2 r2 => ?_
      have r2' := r2 B2 (Ex.refl B2)
      cases r2' with
      | lst hq2 ha2 =>
        rename_i a2 ys
        have hl2 : ys.length = (M w).length := by rw [dps_len ha2, List.length_map]
        have n2 : B2 Dl = none := s2.off _ _ n hd
        have st2 := s.trans s2
        refine ⟨a2, rfl, ⟨ys, ex_l s2.i hq2⟩, fun j k H3 => k = ys.length - j ∧ j ≤ ys.length ∧ Ex B2 H3 ∧ ∃ B3 acc, Ex B2 B3 ∧ Step B1 H1 B3 H3 ∧ B3 Dl = none ∧ H3 Dl = some (.lst acc) ∧ DpAll K B3 acc (((L.take i).flatMap fun a => (M a).map (g' a)) ++ (((M w).map (g' w)).take j)), ⟨ys.length, by simp, Nat.zero_le _, s2.i, B2, acc, Ex.refl B2, st2, n2, s2.h _ _ hd, ?_⟩, ?_⟩
        · rw [List.take_zero, List.append_nil]
          exact dps_grow hacc s2.b
        · rintro j k H3 ⟨rfl, hj, i3, B3, acc3, b3, s3, n3, hd3, hacc3⟩
          have hq3 : SqL K H3 a2 ys := ex_l i3 hq2
          by_cases hlt2 : j < ys.length
          · refine .inr ⟨⟨ys, ys[j], hq3, by simp [hlt2]⟩, fun H4 => Ex B2 H4 ∧ ∃ B3 acc, Ex B2 B3 ∧ Step B1 H1 B3 H4 ∧ B3 Dl = none ∧ H4 Dl = some (.lst acc) ∧ DpAll K B3 acc (((L.take i).flatMap fun a => (M a).map (g' a)) ++ (((M w).map (g' w)).take (j + 1))), fun H4 p' => ⟨ys.length - (j + 1), by omega, rfl, hlt2, p'⟩, fun x2 H4 yl2 => ?_⟩
            obtain ⟨ey2, yl2⟩ := yl2
            subst ey2
            have hx2 : ys[j]? = some x2 := yl2 ys hq3
            obtain ⟨d2, hd21, hd22⟩ := dps_get ha2 hx2
            rw [List.getElem?_map] at hd21
            obtain ⟨u, hu, rfl⟩ := Option.map_eq_some_iff.mp hd21
            have hmu : u ∈ M w := List.mem_of_getElem? hu
            have bb : Ex B B3 := s1.b.trans s3.b
            refine hgo1 w hm u hmu x2 σ2 B3 _ _ bb s3.i (hT _ _ _ _ (s2.b.trans b3) hTw) (dp_grow hd22 b3) fun σ3 hT1 hwp1 => ⟨hwp1, ?_⟩
            dsimp only
            rw [if_pos rfl]
            refine he w hm u hmu σ3 B3 bb hT1 _ s3.i _ fun yv B4 H5 s4 r4 => ?_
            have n4 : B4 Dl = none := s4.off _ _ n3 hd3
            have hlen : acc3.length < 50000 := by
              rw [dps_len hacc3]
              have := flat_pre (f := fun a => (M a).map (g' a)) (j := j) hw
              omega
            refine ⟨acc3, s4.h _ _ hd3, sz_lt (by omega), ex_put (i3.trans s4.h) (ex_none (b3.trans (s4.b)) n4), B4, acc3 ++ [yv], b3.trans s4.b, (s3.trans s4).put n4 hD, n4, upd_same, ?_⟩
            have ej : ((M w).map (g' w)).take (j + 1) = ((M w).map (g' w)).take j ++ [g' w u] := by
              have hjl := (List.getElem?_eq_some_iff.mp hu).1
              rw [List.take_succ_eq_append_getElem (by rw [List.length_map]; exact hjl), List.getElem_map, (List.getElem?_eq_some_iff.mp hu).2]
            rw [ej, ← List.append_assoc]
            exact dps_append (dps_grow hacc3 s4.b) (.cons (r4 B4 (Ex.refl B4)) .nil)
          · have ejj : j = ys.length := by omega
            subst ejj
            refine .inl ⟨⟨ys, hq3, Nat.le_refl _⟩, B3, acc3, s3, n3, hd3, ?_⟩
            rw [flat_next hw]
            have eT : ((M w).map (g' w)).take ys.length = (M w).map (g' w) := List.take_of_length_le (by rw [List.length_map, hl2]; exact Nat.le_refl _)
            rw [eT] at hacc3
            exact hacc3
    · have ei : i = xs.length := by omega
      subst ei
      refine .inl ⟨⟨xs, hq', Nat.le_refl _⟩, q Dl B' H' (fresh_back s1.h hD) n (s1.trans s) ⟨acc, hd, fun B2 e2 => dps_grow ?_ e2⟩⟩
      rw [hl, List.take_length] at hacc
      exact hacc
end
end K8

/-! least_among, rows_of_post, least_scenes_of. -/
namespace K8
open PySem PySem.Spec PyProof.Rows L2 Evl
theorem srtR_least {B : Int} (hB : 0 < B) {rs : List (List Int)} (h1 : (srtR B rs).Pairwise fun a b => code B a < code B b) (h2 : ∀ k, k ∈ srtR B rs ↔ k ∈ rs) (hb : ∀ r ∈ rs, Bd B r) : LeastRows B (leastS (srtR B rs)) rs := by
  have z := least_rows hB h1 fun r hr => hb r ((h2 r).mp hr)
  exact ⟨fun k hk => (h2 k).mp (z.sub k hk), fun r hr => z.cov r ((h2 r).mpr hr), z.sorted, z.anti⟩
theorem foldl_take {α β : Type} {f : β → α → β} {b : β} {l : List α} {j : Nat} {a : α} (h : l[j]? = some a) : (l.take (j + 1)).foldl f b = f ((l.take j).foldl f b) a := by
  have hi := (List.getElem?_eq_some_iff.mp h).1
  rw [List.take_succ_eq_append_getElem hi, List.foldl_append, (List.getElem?_eq_some_iff.mp h).2]
  rfl
theorem foldl_step_len : ∀ (l k : List (List Int)), (l.foldl stepL k).length ≤ k.length + l.length
  | [], k => Nat.le_refl _
  | r :: l, k => by
    have h := foldl_step_len l (stepL k r)
    have h2 : (stepL k r).length ≤ k.length + 1 := by
      unfold stepL
      split
      · omega
      · rw [List.length_append]
        exact Nat.le_refl _
    show (l.foldl stepL (stepL k r)).length ≤ _
    rw [List.length_cons]
    omega
theorem foldl_step_sub : ∀ (l k : List (List Int)) (x : List Int), x ∈ l.foldl stepL k → x ∈ k ∨ x ∈ l
  | [], k, x, h => .inl h
  | r :: l, k, x, h => by
    rcases foldl_step_sub l (stepL k r) x h with q | q
    · unfold stepL at q
      split at q
      · exact .inl q
      · rcases List.mem_append.1 q with q | q
        · exact .inl q
        · exact .inr (by rw [List.mem_singleton.mp q]; exact List.mem_cons_self)
    · exact .inr (List.mem_cons_of_mem _ q)
theorem nodup_len {α : Type} [DecidableEq α] : ∀ (l D : List α), l.Nodup → (∀ x ∈ l, x ∈ D) → l.length ≤ D.length
  | [], D, _, _ => D.length.zero_le
  | x :: l, D, hn, hs => by
    obtain ⟨h1, h2⟩ := List.nodup_cons.1 hn
    have hx := hs x (.head l)
    have ih := nodup_len l (D.erase x) h2 fun y hy => (List.mem_erase_of_ne fun e => h1 (by rw [← e]; exact hy)).2 (hs y (List.mem_cons_of_mem _ hy))
    have hp := And.intro (List.length_erase_of_mem hx) (List.length_pos_of_mem hx)
    rw [List.length_cons]
    omega
/-- rows that may stand in a set -/
def RowsOk (n : Nat) (rs : List (List Int)) : Prop := 1 ≤ n ∧ rs.length < 64 ∧ ∀ r ∈ rs, r.length = n ∧ Bd BB r
def okLeast (K : PySem.W.Frag) (ds : List PyData) (R : Rel) : Prop := ∃ n rs, ds = [.list (rs.map dRow)] ∧ RowsOk n rs ∧ R = IsD K (.list ((leastF BB rs).map dRow))
section
variable {P : Program} {w : World} {K : PySem.W.Frag}
variable {mg : Str → Option Value} {base : Heap}
abbrev D_least_among (P : Program) (w : World) (K : PySem.W.Frag) (mg : Str → Option Value) (base : Heap) : Prop := Dfn P w K mg base CX0 3 "least_among" ["rows"] (Pure (preR K 1 (okLeast K)))
theorem pureR_ok {x : Str} {st : Stmt} {f : Addr} {fd : FuncData} {N ps : List Str} {k : Nat} {ok : List PyData → Rel → Prop} (F : Fun K x x st f fd) (S : FnScope N ps (defScope st))
    (hbody : ∀ (cdv : Value) (A : Around) (outer : List Env) (s : Shared) (B H : Hp) (vs : List V) (Q : VK) (E : XK) (ds : List PyData) (R : Rel), Room k (A.deeper (envOfC x (defScope st) s.heap.objs.size f cdv)) → Ex B H → DpAll K B vs ds → ds.length = ps.length → ok ds R → Yields B H R Q →
      wB (cxOf CX0 P w K mg base N x (defScope st) f cdv A outer s H E).nox (defBody st) { nx := fun _ H' => Q .non H', rt := Q } (start N vs) H) : FnOk P w K mg base CX0 (k + 1) f fd ps (Pure (preR K ps.length ok)) :=
  pure_ok F S (fun vs H R h => let ⟨ds, h1, h2, _⟩ := h; (dps_len h1).trans h2) fun cdv A outer s B H vs Q E R hr e0 h y => by
    obtain ⟨ds, h1, h2, h3⟩ := h
    exact hbody cdv A outer s B H vs Q E ds R hr e0 h1 h2 h3 y
theorem ok_least_among {f : Addr} {fd : FuncData} (U : Bi mg) (GC : D_covers_some P w K mg base) (F : Fun K "least_among" "least_among" s_least_among f fd) : FnOk P w K mg base CX0 3 f fd ["rows"] (Pure (preR K 1 (okLeast K))) := by
  refine pureR_ok F sc_least_among fun cdv A outer s B H vs Q E ds R hr e0 hd hl hok y => ?_
  obtain ⟨n, rs, rfl, ⟨hn, h64, hrs⟩, rfl⟩ := hok
  obtain ⟨d, v, e, rfl, hv⟩ := dps1 hd hl
  cases e
  have hu : (cxOf CX0 P w K mg base N_least_among "least_among" (defScope s_least_among) f cdv A outer s H E).nox.A.units + 64 < cLine := hr.units
  refine b_cons (s_setN 1 e0 (n_lst (RA := ANil) a_nil fun vs _ e => by cases e; decide) (fun q B1 H1 n0 n1 s1 r1 => ?_) sc_least_among.nd)
  obtain ⟨vs0, hq1, hq2⟩ := r1
  have ev : vs0 = [] := hq2 B1 (Ex.refl B1)
  subst ev
  have hv1 := dp_grow hv s1.b
  -- the loop's source
  refine b_cons (w_ps (ps_for PassesOwn.never rfl (pi_list pe_w) (pg_name (i := 2) sc_least_among.nd rfl (.inl rfl)) pss_w (by intro _; rfl)) ?_)
  refine (e_sortedSetR (n := n) BB_pos rfl hu U.sorted U.set (e_varD 0 rfl hv1) h64 hn hrs) H1 s1.i _ fun v2 B2 H2 s2 r2 => ?_
  obtain ⟨r21, hpw, hmem⟩ := r2 B2 (Ex.refl B2)
  have hlen64 : (srtR BB rs).length < 100 := by
    have hnd : (srtR BB rs).Nodup := sorted_nodup (R := fun a b => code BB a < code BB b) (fun _ => Int.lt_irrefl _) hpw
    have := nodup_len _ rs hnd fun x hx => (hmem x).mp hx
    omega
  have hLe := srtR_least BB_pos hpw hmem fun r hr' => (hrs r hr').2
  have hres : leastF BB rs = leastS (srtR BB rs) := leastF_eq hLe
  cases r21 with
  | lst hq ha =>
    rename_i a xs
    have hl2 : xs.length = (srtR BB rs).length := by rw [dps_len ha, List.length_map]
    have n2 : B2 q = none := s2.off _ _ n1 hq1
    refine ⟨a, rfl, ⟨xs, ex_l s2.i hq⟩, for_list (fun j σ' H' => ∃ B' acc z, σ' = [some v, some (.ref q), z] ∧ Step B H B' H' ∧ Ex B2 B' ∧ B' q = none ∧ H' q = some (.lst acc) ∧ DpAll K B' acc ((((srtR BB rs).take j).foldl stepL []).map dRow)) ⟨B2, [], none, rfl, s1.trans s2, Ex.refl B2, n2, s2.h _ _ hq1, .nil⟩ (fun j σ' H' _ ⟨B', acc, z, _, st, b2, _⟩ => ex_l (b2.trans st.i) hq) (fun j x σ' H' hx ⟨B', acc, z, hσ, st, b2, nq, hacc1, hacc2⟩ => ?_) fun σ' H' ⟨B', acc, z, hσ, st, b2, nq, hacc1, hacc2⟩ => ?_⟩
    · subst hσ
      obtain ⟨d, hd1, hd2⟩ := dps_get ha hx
      rw [List.getElem?_map] at hd1
      obtain ⟨r, hr1, rfl⟩ := Option.map_eq_some_iff.mp hd1
      have hm : r ∈ rs := (hmem r).mp (List.mem_of_getElem? hr1)
      have hsub : ∀ k ∈ ((srtR BB rs).take j).foldl stepL [], k ∈ rs := fun k hk => by
        rcases foldl_step_sub _ _ k hk with h | h
        · cases h
        · exact (hmem k).mp (List.mem_of_mem_take h)
      have hkl : (((srtR BB rs).take j).foldl stepL []).length ≤ 100 := by
        have := foldl_step_len ((srtR BB rs).take j) []
        rw [List.length_take] at this
        simp only [List.length_nil] at this
        omega
      have eB : Ex (upd B' q (.lst acc)) H' := ex_join st.i hacc1
      have hkd : Dp K (upd B' q (.lst acc)) (.ref q) (.list ((((srtR BB rs).take j).foldl stepL []).map dRow)) := .lst (sq_of upd_same) (dps_grow hacc2 (Ex.new nq))
      refine b_one (s_if (B := upd B' q (.lst acc)) (k := !((((srtR BB rs).take j).foldl stepL []).any fun k => decide (LeR k r))) eB (t_not (t_bl (e_callK (v := .bl ((((srtR BB rs).take j).foldl stepL []).any fun k => decide (LeR k r))) GC (hr.mono (by decide)) (ad_cons (e_varD 2 rfl (dp_grow (dp_grow hd2 b2) (Ex.new nq))) (ad_cons (e_varD 1 rfl hkd) ad_nil)) rfl ⟨r, _, rfl, fun k hk => ((hrs k (hsub k hk)).1).trans (hrs r hm).1.symm⟩ (by
        show V.bl ((rowsOf (.list (_ : List PyData))).any fun q => decide (LeR q (rowOf (dRow r)))) = _
        rw [rowsOf_d, rowOf_dRow])))) (fun h5 H3 s3 => ?_) fun h5 H3 s3 => ?_)
      · have s3' := Step.less st.i s3
        have st3 := st.trans s3'
        refine b_one (s_app (X := _) st3.i (e_var 1 rfl) (e_varD 2 rfl (dp_grow hd2 b2)) (s3'.h _ _ hacc1) (by rw [dps_len hacc2, List.length_map]; omega) fun v4 B4 H4 s4 r4 => ?_)
        have n4 : B4 q = none := s4.off _ _ nq (s3'.h _ _ hacc1)
        refine ⟨B4, acc ++ [v4], some x, rfl, (st3.trans s4).put n4 n0, b2.trans s4.b, n4, upd_same, ?_⟩
        rw [foldl_take hr1]
        unfold stepL
        rw [if_neg (by rw [Bool.not_eq_true, ← Bool.not_eq_true']; exact h5), List.map_append]
        exact dps_append (dps_grow hacc2 s4.b) (.cons (r4 B4 (Ex.refl B4)) .nil)
      · have s3' := Step.less st.i s3
        refine b_nil ⟨B', acc, some x, rfl, st.trans s3', b2, nq, s3'.h _ _ hacc1, ?_⟩
        rw [foldl_take hr1]
        unfold stepL
        rw [if_pos (by rw [Bool.not_eq_false'] at h5; exact h5)]
        exact hacc2
    · subst hσ
      rw [hl2, List.take_length] at hacc2
      have stj := st.join nq n0 hacc1
      refine b_one (s_retY stj.i (e_varD 1 rfl (.lst (sq_of upd_same) ?_)) (y.go stj))
      rw [hres]
      exact dps_grow hacc2 (Ex.new nq)
/-! ### rows_of_post -/
def preRowsOf (K : PySem.W.Frag) : List V → Hp → RelA → Prop := fun vs B RA => ∃ (L : List Scene) (p : Str) (d : PyData), DpAll K B vs [d, .str p] ∧ (d = .list (L.map dScene) ∨ d = .tuple (L.map dScene)) ∧ L.length ≤ 10000 ∧ RA = AD K ((rowsAt L p).map dRow)
abbrev D_rows_of_post (P : Program) (w : World) (K : PySem.W.Frag) (mg : Str → Option Value) (base : Heap) : Prop := Dfn P w K mg base CX0 1 "rows_of_post" ["scenes", "post"] (PureN (preRowsOf K))
theorem eqStr {a b : Str} : decide (V.str a = V.str b) = decide (a = b) := decide_eq_decide.mpr ⟨fun h => V.str.inj h, fun h => by rw [h]⟩
theorem rowsAt_map (L : List Scene) (p : Str) : (rowsAt L p).map dRow = (L.filter fun s => decide (s.1 = p)).map fun s => dRow s.2 := by
  unfold rowsAt
  rw [List.map_map]
  rfl
theorem ok_rows_of_post {f : Addr} {fd : FuncData} (F : Fun K "rows_of_post" "rows_of_post" s_rows_of_post f fd) : FnOk P w K mg base CX0 1 f fd ["scenes", "post"] (PureN (preRowsOf K)) := by
  refine F.ok sc_rows_of_post (fun vs H Q E h => ?_) fun cdv A outer s H vs Q E hr h => ?_
  · obtain ⟨B, RA, _, ⟨L, p, d, hd, _⟩, _⟩ := h
    exact dps_len hd
  · obtain ⟨B, RA, e0, ⟨L, p, d, hd, hL, hz, rfl⟩, y⟩ := h
    refine ⟨_, pss_w, ?_⟩
    obtain ⟨d1, d2, v, u, e, rfl, hv, hu⟩ := dps2 hd rfl
    cases e
    rw [rowsAt_map] at y
    have hgo : ∀ a ∈ L, ∀ (v0 : V) (B' H' : Hp) (Q : Slots → Hp → Prop), Ex B B' → Ex B' H' → Dp K B' v0 (dScene a) → (∀ σ2, TPair K (start N_rows_of_post [v, u]) [2, 3] 2 3 (.str a.1) (dRow a.2) σ2 B' → wipe σ2 [2, 3] = wipe (start N_rows_of_post [v, u]) [2, 3] → Q σ2 H') → gTup K 2 (gCons (gName 2) (gCons (gName 3) gNil)) v0 (wipe (start N_rows_of_post [v, u]) [2, 3]) H' Q := fun a _ v0 B' H' Q _ i' hd k => go_pair (fun _ _ => rfl) i' hd k
    rcases hL with rfl | rfl
    · refine b_one (s_retN e0 (of_peN (pe_lc (own := [("place", 2), ("row", 3)]) rfl sc_rows_of_post.nd (pi_list pe_w) (blkOk_by rfl) (fun s H0 C cl fp => pg_tup rfl (pgs_cons (pg_name (i := 2) sc_rows_of_post.nd rfl (.inl rfl)) (pgs_cons (pg_name (i := 3) sc_rows_of_post.nd rfl (.inl rfl)) pgs_nil))) (fun s H0 C cl fp => pts_one (pt_wB s H0 C cl fp)) pe_wB (by intro _; rfl)) (lc_l L dScene (fun s => decide (s.1 = p)) (fun s => dRow s.2) (fun a => TPair K (start N_rows_of_post [v, u]) [2, 3] 2 3 (.str a.1) (dRow a.2)) (by omega) (e_varD 0 rfl hv) hgo (fun a ha σ2 B' e2 t => EvBT.ev ?_) fun a ha hk σ2 B' e2 t => EvBE.ev ?_)) fun q B1 H1 n0 n1 s1 r1 => y q B1 H1 n0 n1 s1 r1)
      · obtain ⟨v1, v2, rfl, h1, h2⟩ := t
        intro s H0 C cl fp
        rw [← eqStr]
        exact t_eqV (e_varD 2 rfl h1).str (e_varD 1 rfl (dp_grow hu e2)).str rfl
      · obtain ⟨v1, v2, rfl, h1, h2⟩ := t
        intro s H0 C cl fp
        exact e_varD 3 rfl h2
    · refine b_one (s_retN e0 (of_peN (pe_lc (own := [("place", 2), ("row", 3)]) rfl sc_rows_of_post.nd (pi_tup pe_w) (blkOk_by rfl) (fun s H0 C cl fp => pg_tup rfl (pgs_cons (pg_name (i := 2) sc_rows_of_post.nd rfl (.inl rfl)) (pgs_cons (pg_name (i := 3) sc_rows_of_post.nd rfl (.inl rfl)) pgs_nil))) (fun s H0 C cl fp => pts_one (pt_wB s H0 C cl fp)) pe_wB (by intro _; rfl)) (lc_t L dScene (fun s => decide (s.1 = p)) (fun s => dRow s.2) (fun a => TPair K (start N_rows_of_post [v, u]) [2, 3] 2 3 (.str a.1) (dRow a.2)) (by omega) (e_varD 0 rfl hv) hgo (fun a ha σ2 B' e2 t => EvBT.ev ?_) fun a ha hk σ2 B' e2 t => EvBE.ev ?_)) fun q B1 H1 n0 n1 s1 r1 => y q B1 H1 n0 n1 s1 r1)
      · obtain ⟨v1, v2, rfl, h1, h2⟩ := t
        intro s H0 C cl fp
        rw [← eqStr]
        exact t_eqV (e_varD 2 rfl h1).str (e_varD 1 rfl (dp_grow hu e2)).str rfl
      · obtain ⟨v1, v2, rfl, h1, h2⟩ := t
        intro s H0 C cl fp
        exact e_varD 3 rfl h2
/-! ### least_scenes_of -/
noncomputable def keptF (L : List Scene) : List Scene := (srtS (L.map (·.1))).flatMap fun p => (leastF BB (rowsAt L p)).map fun r => (p, r)
structure ScenesOk (n : Nat) (L : List Scene) : Prop where
  pos : 1 ≤ n
  few : L.length < 64
  rows : ∀ s ∈ L, s.2.length = n ∧ Bd BB s.2
theorem insertS : ∀ (x : Str) (l : List Str), l.Pairwise Slt → ∃ ys : List Str, ys.Pairwise Slt ∧ ∀ k, k ∈ ys ↔ k = x ∨ k ∈ l
  | x, [], _ => ⟨[x], List.pairwise_singleton _ _, fun k => by simp⟩
  | x, y :: l, h => by
    obtain ⟨h1, h2⟩ := List.pairwise_cons.1 h
    rcases Classical.em (x = y) with e | ne
    · exact ⟨y :: l, h, fun k => by rw [e]; simp⟩
    · rcases Classical.em (Slt x y) with q | q
      · refine ⟨x :: y :: l, List.pairwise_cons.mpr ⟨fun z hz => ?_, h⟩, fun k => by simp⟩
        rcases List.mem_cons.1 hz with e | hz
        · rw [e]
          exact q
        · exact slt_trans q (h1 z hz)
      · obtain ⟨ys, g1, g2⟩ := insertS x l h2
        have q2 : Slt y x := slt_total q fun e => ne e.symm
        refine ⟨y :: ys, List.pairwise_cons.mpr ⟨fun z hz => ?_, g1⟩, fun k => ?_⟩
        · rcases (g2 z).mp hz with e | hz
          · rw [e]
            exact q2
          · exact h1 z hz
        · rw [List.mem_cons, g2, List.mem_cons]
          constructor
          · rintro (h | h | h)
            · exact .inr (.inl h)
            · exact .inl h
            · exact .inr (.inr h)
          · rintro (h | h | h)
            · exact .inr (.inl h)
            · exact .inl h
            · exact .inr (.inr h)
theorem srtS_ex : ∀ xs : List Str, ∃ ys : List Str, ys.Pairwise Slt ∧ ∀ k, k ∈ ys ↔ k ∈ xs
  | [] => ⟨[], .nil, fun k => by simp⟩
  | x :: xs => by
    obtain ⟨ys, h1, h2⟩ := srtS_ex xs
    obtain ⟨zs, g1, g2⟩ := insertS x ys h1
    exact ⟨zs, g1, fun k => by rw [g2, h2, List.mem_cons]⟩
theorem srtS_ok (xs : List Str) : (srtS xs).Pairwise Slt ∧ ∀ k, k ∈ srtS xs ↔ k ∈ xs := by
  obtain ⟨ys, h1, h2⟩ := srtS_ex xs
  rw [srtS_eq h1 h2]
  exact ⟨h1, h2⟩
theorem code_total {C : Int} (hC : 0 < C) {a b : List Int} (hl : a.length = b.length) (ha : Bd C a) (hb : Bd C b) (ne : a ≠ b) (h : ¬ code C a < code C b) : code C b < code C a := by
  rcases Int.lt_trichotomy (code C a) (code C b) with q | q | q
  · exact absurd q h
  · exact absurd (code_inj hC hl ha hb q) ne
  · exact q
theorem insertR {C : Int} (hC : 0 < C) {n : Nat} (x : List Int) (hx : x.length = n ∧ Bd C x) : ∀ (l : List (List Int)), (∀ y ∈ l, y.length = n ∧ Bd C y) → l.Pairwise (fun a b => code C a < code C b) → ∃ ys : List (List Int), ys.Pairwise (fun a b => code C a < code C b) ∧ ∀ k, k ∈ ys ↔ k = x ∨ k ∈ l
  | [], _, _ => ⟨[x], List.pairwise_singleton _ _, fun k => by simp⟩
  | y :: l, hg, h => by
    obtain ⟨h1, h2⟩ := List.pairwise_cons.1 h
    rcases Classical.em (x = y) with e | ne
    · exact ⟨y :: l, h, fun k => by rw [e]; simp⟩
    · rcases Classical.em (code C x < code C y) with q | q
      · refine ⟨x :: y :: l, List.pairwise_cons.mpr ⟨fun z hz => ?_, h⟩, fun k => by simp⟩
        rcases List.mem_cons.1 hz with e | hz
        · rw [e]
          exact q
        · exact Int.lt_trans q (h1 z hz)
      · obtain ⟨ys, g1, g2⟩ := insertR hC x hx l (fun z hz => hg z (List.mem_cons_of_mem _ hz)) h2
        have gy := hg y List.mem_cons_self
        have q2 : code C y < code C x := code_total hC (hx.1.trans gy.1.symm) hx.2 gy.2 ne q
        refine ⟨y :: ys, List.pairwise_cons.mpr ⟨fun z hz => ?_, g1⟩, fun k => ?_⟩
        · rcases (g2 z).mp hz with e | hz
          · rw [e]
            exact q2
          · exact h1 z hz
        · rw [List.mem_cons, g2, List.mem_cons]
          constructor
          · rintro (h | h | h)
            · exact .inr (.inl h)
            · exact .inl h
            · exact .inr (.inr h)
          · rintro (h | h | h)
            · exact .inr (.inl h)
            · exact .inl h
            · exact .inr (.inr h)
theorem srtR_ex {C : Int} (hC : 0 < C) {n : Nat} : ∀ xs : List (List Int), (∀ y ∈ xs, y.length = n ∧ Bd C y) → ∃ ys : List (List Int), ys.Pairwise (fun a b => code C a < code C b) ∧ ∀ k, k ∈ ys ↔ k ∈ xs
  | [], _ => ⟨[], .nil, fun k => by simp⟩
  | x :: xs, h => by
    obtain ⟨ys, h1, h2⟩ := srtR_ex hC xs fun y hy => h y (List.mem_cons_of_mem _ hy)
    obtain ⟨zs, g1, g2⟩ := insertR hC x (h x List.mem_cons_self) ys (fun z hz => h z (List.mem_cons_of_mem _ ((h2 z).mp hz))) h1
    exact ⟨zs, g1, fun k => by rw [g2, h2, List.mem_cons]⟩
theorem leastF_ok {n : Nat} {rs : List (List Int)} (h : ∀ r ∈ rs, r.length = n ∧ Bd BB r) : LeastRows BB (leastF BB rs) rs := by
  obtain ⟨ys, h1, h2⟩ := srtR_ex BB_pos rs h
  have e := srtR_eq h1 h2
  have z := srtR_least BB_pos (e ▸ h1) (e ▸ h2) fun r hr => (h r hr).2
  rw [leastF_eq z]
  exact z
theorem rowsAt_ok {n : Nat} {L : List Scene} (h : ScenesOk n L) (p : Str) : RowsOk n (rowsAt L p) := by
  refine ⟨h.pos, ?_, fun r hr => h.rows _ (mem_rowsAt.mp hr)⟩
  unfold rowsAt
  rw [List.length_map]
  exact Nat.lt_of_le_of_lt (List.length_filter_le _ _) h.few
/-- what the program keeps is the canonical list -/
theorem keptF_ok {n : Nat} {L : List Scene} (h : ScenesOk n L) : IsCanon BB (keptF L) L := by
  refine canon_of (fun p => leastF BB (rowsAt L p)) (srtS_ok _).1 (fun p => ?_) fun p _ => leastF_ok (rowsAt_ok h p).2.2
  rw [(srtS_ok _).2, List.mem_map]
  constructor
  · rintro ⟨s, hs, rfl⟩
    exact ⟨s.2, hs⟩
  · rintro ⟨r, hr⟩
    exact ⟨_, hr, rfl⟩
theorem keptF_len {n : Nat} {L : List Scene} (h : ScenesOk n L) : (keptF L).length < 64 :=
  Nat.lt_of_le_of_lt (nodup_len _ L (sorted_nodup (lt_irrefl BB) (keptF_ok h).canon.sorted) (keptF_ok h).sub) h.few
def okLeastS (K : PySem.W.Frag) (ds : List PyData) (R : Rel) : Prop := ∃ n L, ds = [.list (L.map dScene)] ∧ ScenesOk n L ∧ R = IsD K (.list ((keptF L).map dScene))
abbrev D_least_scenes_of (P : Program) (w : World) (K : PySem.W.Frag) (mg : Str → Option Value) (base : Heap) : Prop := Dfn P w K mg base CX0 4 "least_scenes_of" ["scenes"] (Pure (preR K 1 (okLeastS K)))
theorem ok_least_scenes_of {f : Addr} {fd : FuncData} (U : Bi mg) (GL : D_least_among P w K mg base) (GR : D_rows_of_post P w K mg base) (F : Fun K "least_scenes_of" "least_scenes_of" s_least_scenes_of f fd) : FnOk P w K mg base CX0 4 f fd ["scenes"] (Pure (preR K 1 (okLeastS K))) := by
  refine pureR_ok F sc_least_scenes_of fun cdv A outer s B H vs Q E ds R hr e0 hd hl hok y => ?_
  obtain ⟨n, L, rfl, hL, rfl⟩ := hok
  obtain ⟨d, v, e, rfl, hv⟩ := dps1 hd hl
  cases e
  have hfew := hL.few
  refine b_cons (s_set 1 e0 (e_sortedSetS (ns := L.map (·.1)) rfl U.sorted U.set (EvP.imp (n_lc (own := [("scene", 2)]) (j := 2) L dScene (fun s => .str s.1) sc_least_scenes_of.nd (by omega) (e_varD 0 rfl hv) rfl fun a ha σ2 B' e2 t s H0 C cl fp => ?_).dl fun v2 B2 _ r => ?_) (by rw [List.length_map]; exact hfew)) (fun v1 B1 H1 s1 r1 => ?_) sc_least_scenes_of.nd)
  · obtain ⟨v1, rfl, h1⟩ := t
    exact e_ixT (ds := [.str a.1, dRow a.2]) (e_varD 2 rfl h1) e_int (atI_nat (j := 0) rfl)
  · rw [List.map_map]
    exact isTL_d r
  · have r2 : Dp K B1 v1 (.list ((srtS (L.map (·.1))).map .str)) := r1 B1 (Ex.refl B1)
    have hv1 := dp_grow hv s1.b
    have hlenR : (((srtS (L.map (·.1))).flatMap fun p => (leastF BB (rowsAt L p)).map fun r => dScene (p, r))).length ≤ 40000 := by
      have h := keptF_len hL
      have e : (((srtS (L.map (·.1))).flatMap fun p => (leastF BB (rowsAt L p)).map fun r => dScene (p, r))) = (keptF L).map dScene := by
        unfold keptF
        rw [List.map_flatMap]
        congr 1
        funext p
        rw [List.map_map]
        rfl
      rw [e, List.length_map]
      omega
    have hres : (keptF L).map dScene = ((srtS (L.map (·.1))).flatMap fun p => (leastF BB (rowsAt L p)).map fun r => dScene (p, r)) := by
      unfold keptF
      rw [List.map_flatMap]
      congr 1
      funext p
      rw [List.map_map]
      rfl
    rw [hres] at y
    refine b_one (s_retY s1.i (EvP.imp (EvN.dl (of_peN (pe_lc2 (own := [("post", 3), ("row", 4)]) (vs1 := [4]) rfl sc_least_scenes_of.nd (pi_list pe_w) (blkOk_by rfl) (by decide) (fun s H0 C cl fp => pg_name (i := 3) sc_least_scenes_of.nd rfl (.inl rfl)) (fun _ _ _ _ _ => pts_nil) (fun s H0 C cl fp => pi_list (pe_wB s H0 C cl fp)) (fun s H0 C cl fp => pg_name (i := 4) sc_least_scenes_of.nd rfl (.inl rfl)) (fun _ _ _ _ _ => pts_nil) pe_wB (by intro _; rfl) (by intro _ _; rfl))
      (lc2_l (K := K) (σ := [some v, some v1, none, none, none]) (srtS (L.map (·.1))) .str (fun p => leastF BB (rowsAt L p)) dRow (fun p r => dScene (p, r)) (fun p => TName K [some v, some v1, none, none, none] [3, 4] 3 (.str p)) (fun p r σ3 B3 => ∃ a b, σ3 = [some v, some v1, none, some a, some b] ∧ Dp K B3 a (.str p) ∧ Dp K B3 b (dRow r)) hlenR (e_varD 1 rfl r2) (fun a σ2 B' B'' e ⟨x, h1, h2⟩ => ⟨x, h1, dp_grow h2 e⟩) (fun a _ x B' H' Q' _ _ hx k => go_name (fun _ => rfl) hx k) (fun a ha σ2 B' e2 t => EvBE.ev fun s H0 C cl fp => ?_) (fun a ha b hb x σ2 B' H' Q' _ _ t hx k => ?_) fun a ha b hb σ3 B' e2 t => EvBE.ev fun s H0 C cl fp => ?_)))
      fun _ _ _ r => isTL_d r) (y.go s1))
    · obtain ⟨x, rfl, hx⟩ := t
      refine e_callR GL (hr.mono (by decide)) (ad_cons (ds := []) (d := .list ((rowsAt L a).map dRow)) (EvP.imp (EvN.dl (n_callN GR (hr.mono (by decide)) (ad_cons (e_varD 0 rfl (dp_grow hv1 e2)) (ad_cons (e_varD 3 rfl hx) ad_nil)) fun vs B3 e3 r3 => ⟨L, a, _, r3, .inl rfl, by omega, rfl⟩)) fun _ _ _ r => isTL_d r) ad_nil) rfl ⟨n, _, rfl, rowsAt_ok hL a, rfl⟩
    · obtain ⟨z, rfl, hz⟩ := t
      exact k _ ⟨z, x, rfl, hz, hx⟩ rfl
    · obtain ⟨z, u, rfl, hz, hu⟩ := t
      exact e_tupD (ad_cons (e_varD 3 rfl hz) (ad_cons (e_varD 4 rfl hu) ad_nil)) (by show 2 ≤ 100000; decide)
end
end K8

/-! InvalidScene's own __init__: super().__init__(text), self.value = value. -/
namespace K8
open PySem PySem.Spec PyProof.Rows L2 Evl
abbrev s_IS_init : Stmt := inClass (top 3) 0
abbrev N_IS_init : List Str := ["self", "value"]
abbrev envI (scope : Scope) (L f : Addr) (cda cc : Addr) : Env := PySem.W.ksEnv "InvalidScene.__init__" scope L f (.ref cda) cc
/-- how its body is seen -/
def cxI (P : Program) (w : World) (K : PySem.W.Frag) (mg : Str → Option Value) (base : Heap) (f cda cc : Addr) (A : Around) (outer : List Env) (s : Shared) (H : Hp) (R : Result → Shared → Prop) : Cx where
  prog := P
  w := w
  K := K
  mg := mg
  base := base
  A := A.deeper (envI (defScope s_IS_init) s.heap.objs.size f cda cc)
  N := N_IS_init
  s_0 := s
  H_0 := H
  env := envI (defScope s_IS_init) s.heap.objs.size f cda cc
  outer := outer
  stack := envI (defScope s_IS_init) s.heap.objs.size f cda cc :: outer
  ex := []
  calm := true
  fn := fun _ => false
  pn := []
  xe := fun e s' => wpAny (model P w) (A.deeper (envI (defScope s_IS_init) s.heap.objs.size f cda cc)) (leaving (envI (defScope s_IS_init) s.heap.objs.size f cda cc) e) (fun _ s'' => R (.error e) s'') (fun e' s'' => R (.error e') s'') s'
/-- what the written part says of the class and its __init__ -/
structure ISF (P : Program) (K : PySem.W.Frag) (mg : Str → Option Value) (C f : Addr) (fd : FuncData) : Prop where
  ex : ∃ (oc : Value) (od : Option Addr) (kV doc pm : Value) (an : Option Addr) (cda cc : Addr) (ct : Value) (osl : Array (Option Value)) (ccl : Value) (cdd : Option Addr) (vs : Array Value) (ccs : Array (Option Value)) (file : Str) (tf : Tok) (cl : Value) (cld : Option Addr) (csl : Array (Option Value)) (cdD : ClassData),
    fd = PySem.W.ksFn "__init__" "InvalidScene.__init__" (defArgs s_IS_init) (defBody s_IS_init) (defScope s_IS_init) .none kV doc pm an (.ref cda) ct cc ∧ K.lookup f = some ⟨oc, od, .func fd, osl⟩ ∧ PySem.W.codeIn K (.ref cda) "InvalidScene.__init__" = true ∧
    K.lookup cda = some ⟨ccl, cdd, .fields vs, ccs⟩ ∧ vs[2]? = some (.str file tf) ∧ ((P.main.file : Str) == file) = true ∧ K.lookup cc = some ⟨cl, cld, .cell (some (.ref C)), csl⟩ ∧ PySem.W.clsIn K C = some cdD
  T : OexC K C
  mro : PySem.W.mroIn K C (.ref C) = some true
  sup : mg "super" = none
  top : (P.main.scope.names.lookup ("super" : Str)).isSome = false
  opq : PySem.W.nsIn K cStatics "thirdparty.any" = some none
  si : PySem.W.ks_superIn K C C "__init__" = some (some (.builtin "ValueError.__init__"))
  sv : PySem.W.subIn K (.ref C) (.type "ValueError") = some true
  val : PySem.W.findIn K (.ref C) "value" = some none
section
variable {P : Program} {w : World} {K : PySem.W.Frag}
variable {mg : Str → Option Value} {base : Heap}
def spIS (C : Addr) : Sp := fun vs H Q _ => ∃ (a : Addr) (y : V), vs = [.ref a, y] ∧ H a = some (exo a C none) ∧ ∀ dx, H dx = none → dx ≠ a → Q .non (upd (upd H dx (exd dx [("value", y)])) a (exo a C (some dx)))
theorem inv_IS {f cda cc C : Addr} {A : Around} {outer : List Env} {s : Shared} {H : Hp} {R : Result → Shared → Prop} {h0 : Heap} {t : Nat} {u0 u1 : Value} {v0 v1 : V} {cl : Value} {cld : Option Addr} {csl : Array (Option Value)}
    (hcc : K.lookup cc = some ⟨cl, cld, .cell (some (.ref C)), csl⟩) (hd : A.handled = none) (e0 : Env0 P w K mg base A outer s H) (r0 : RelV v0 u0) (r1 : RelV v1 u1)
    (hn : h0.Ns s.heap.objs.size (fun x => ((["self", "value"] : List Str).zip [u0, u1]).reverse.lookup x)) (hk : ∀ b o, s.heap.get? b = some o → h0.get? b = some o) :
    Inv (cxI P w K mg base f cda cc A outer s H R) [] [some v0, some v1] H { s with heap := h0, toks := t } := by
  have KX : K.In base := e0.mod.kin
  have hb := e0.bs cc _ (KX _ _ hcc)
  have noA : ∀ b : Addr, b ∉ (cxI P w K mg base f cda cc A outer s H R).ex := fun b z => absurd (show b ∈ ([] : List Addr) from z) (by simp)
  have lk : ∀ (x : Str) (c : Addr), (cxI P w K mg base f cda cc A outer s H R).env.cells.lookup x = some c → x = "__class__" ∧ c = cc := fun x c h => by
    have h' : ([("__class__", cc)] : List (Str × Addr)).lookup x = some c := h
    have hm := PySem.mem_of_lookup h'
    rw [List.mem_singleton] at hm
    cases hm
    exact ⟨rfl, rfl⟩
  refine ⟨⟨e0.mod, rfl, rfl, rfl, Nat.le_refl _, fun y z c h1 h2 => ?_, fun y hy => ?_, fun y c h _ => (by cases h), fun _ => hd, Around.frames_deeper e0.frames, .inr ⟨rfl, rfl⟩, fun b z => absurd z (noA b), e0.bs, e0.bsz, fun b _ _ => noA b, fun b z => absurd z (noA b), e0.funs, e0.frf⟩,
    rfl, e0.bare, Un.kept hk, ⟨_, hn, fun i y v h1 h2 h3 => ?_⟩, fun y c h => ?_, e0.hok.fresh (Nat.le_refl _), fun y c h => ?_, fun p hp => absurd (show p ∈ ([] : List (Addr × Obj)) from hp) (by simp), e0.hok.kept hk, rfl⟩
  · rw [(lk y c h1).1, (lk z c h2).1]
  · have hy' : (defScope s_IS_init).names.lookup y = some .cell ∨ (defScope s_IS_init).names.lookup y = some .free := hy
    have hm : (y, NameKind.cell) ∈ (defScope s_IS_init).names ∨ (y, NameKind.free) ∈ (defScope s_IS_init).names := hy'.imp PySem.mem_of_lookup PySem.mem_of_lookup
    have e : (defScope s_IS_init).names = ([("self", .local), ("value", .local), ("__class__", .free), ("super", .globalImplicit)] : List (Str × NameKind)) := by with_unfolding_all rfl
    rw [e] at hm
    simp at hm
    rw [hm]
    exact ⟨cc, rfl⟩
  · match i, h1, h2 with
    | 0, h1, h2 =>
      have e1 : ("self" : Str) = y := Option.some.inj h1
      have e2 : v0 = v := Option.some.inj (Option.some.inj h2)
      subst e1 e2
      exact ⟨u0, r0, .inl ⟨rfl, rfl⟩⟩
    | 1, h1, h2 =>
      have e1 : ("value" : Str) = y := Option.some.inj h1
      have e2 : v1 = v := Option.some.inj (Option.some.inj h2)
      subst e1 e2
      exact ⟨u1, r1, .inl ⟨rfl, rfl⟩⟩
    | i + 2, h1, h2 => simp at h2
  · obtain ⟨_, rfl⟩ := lk y c h
    exact ⟨_, _, hk _ _ hb.1, rfl⟩
  · obtain ⟨_, rfl⟩ := lk y c h
    exact hb.2
/-- ValueError.__init__ by the bound wrapper -/
theorem call_mwV {prog : Program} {w : World} {A : Around} {E : Value → Shared → Prop} {h : Heap} {g : Array GenState} {d : Drawn} {t : Nat} {os : OsState} {nm q : Str} {C N : Addr} {bs bm : List Value} {hdct : Bool} {sn : List Str} {sub : List Value} {ab : Bool} {col : Option Bool} {dd : Option Addr} {k0 k1 k2 k3 k5 : Option Value} {u e t0 : Addr} {rest : List Value} {Q : Value → Shared → Prop}
    (hC : h.get? C = some (excClassObj nm q C N bs bm hdct sn sub ab col dd k0 k1 k2 k3 k5 "ValueError.__new__")) (he : h.get? e = some (PySem.HandSPX.excO C t0)) (hu : h.get? u = some (PySem.W.kxs_mw "ValueError.__init__" e)) (hrest : rest.length ≤ sizeLine)
    (hq : ∀ h' t1, (∀ b o, b ≠ e → h.get? b = some o → h'.get? b = some o) → h'.get? e = some (PySem.HandSPX.excO C t1) → Q .none ⟨h', g, d, t, os⟩) : wpAny (model prog w) A (call (.ref u) rest) Q E ⟨h, g, d, t, os⟩ := by
  refine wpAny_call (codeAny_of_tree (?_ : wpAny _ A.in1 (callAny (.ref u) ⟨rest, []⟩) _ _ _))
  simp only [callAny]
  apply wpAny_bind (wpAny_load hu _)
  simp only [PySem.W.kxs_mw, show (Value.type "method-wrapper" == Value.type "method" || Value.type "method-wrapper" == Value.type "builtin_function_or_method" || Value.type "method-wrapper" == Value.type "method-wrapper") = true by decide, if_true]
  refine PySem.W.KFB.if_so (by decide) (wpAny_bind (PySem.W.check_bound_init F.excBase_ValueError.toExcCallFacts hC he rfl (wpAny_bind (wpAny_pure (wpAny_pure ?_)))))
  refine ⟨Code.quiet_builtin _ (by decide +kernel), codeAny_builtin F.excBase_ValueError.initEntry ?_⟩
  rw [Around.under_plainId F.excBase_ValueError.init.plain _]
  refine PySem.W.exc_init_tree (cls := .ref C) (t0 := t0) (dv := none) (c2 := .none) (c3 := .none) (b4 := .bool false) he hrest fun h' k e' t' => ?_
  exact hq h' _ k e'
def asFlow (Q : Value → Shared → Prop) : Flow → Shared → Prop := fun f s' => Q (match f with | .ret v => v | _ => .none) s'
theorem ok_IS_init {C f : Addr} {fd : FuncData} {k : Nat} (F : ISF P K mg C f fd) : FnOk P w K mg base CX0 (k + 1) f fd ["self", "value"] (spIS C) := by
  obtain ⟨⟨oc, od, kV, doc, pm, an, cda, cc, ct, osl, ccl, cdd, vsC, ccs, file, tf, cl, cld, csl, cdD, rfl, lk, hcd, hcode, hvs, hfile, hcell, hclsD⟩, T, hmro, hsup, htop, hopq, hsi, hsv, hval⟩ := F
  refine ⟨fun vs H Q E h => by obtain ⟨a, y, rfl, _⟩ := h; rfl, fun A outer s H args us vs Q E hr e0 hb r hsp => ?_⟩
  obtain ⟨a, y, rfl, ha, hq⟩ := hsp
  have here := fun b o e => (e0.bs b o e).1
  have KX : K.In s.heap := e0.mod.kin.keeps here
  have lim : s.heap.NoLimit := e0.mod.nolimit.keeps here
  cases r with
  | @cons _ u0 _ ur r0 r1 =>
    cases r1 with
    | @cons _ u1 _ ur2 r1 r2 =>
      cases r2
      obtain rfl : u0 = Value.ref a := r0
      refine PySem.ks_codeAny_call_defAt (fd := PySem.W.ksFn "__init__" "InvalidScene.__init__" (defArgs s_IS_init) (defBody s_IS_init) (defScope s_IS_init) .none kV doc pm an (.ref cda) ct cc) (body := defBody s_IS_init) hr.depth (KX _ _ lk) rfl lim (PySem.W.codeRec_of KX hcd) rfl hb (show ∀ x ∈ (defScope s_IS_init).names, x.2 ≠ NameKind.cell by decide +kernel) (fun x hx => ?_) (fun h0 hns hk => ?_) rfl rfl rfl
      · have hx' := (List.of_mem_zip hx).1
        simp at hx'
        rcases hx' with e | e
        · rw [e]; rfl
        · rw [e]; rfl
      · have I : Inv (cxI P w K mg base f cda cc A outer s H (CR CX0 outer P w H s Q E)) [] [some (.ref a), some y] H { s with heap := h0, toks := s.toks + 2 } := inv_IS hcell hr.hd e0 rfl r1 hns hk
        rcases T.cls with ⟨nm, q, N, bs, bm, sn, sub, ab, col, dd, k0, k1, k2, k3, k5, hC, hbm⟩
        have KX1 : K.In h0 := I.kIn
        have X1 := KX1
        obtain ⟨oD, hD1, hD2⟩ : ∃ oD, h0.get? C = some oD ∧ oD.data = .cls cdD := by
          unfold PySem.W.clsIn at hclsD
          split at hclsD
          · rename_i c d cd' sl ho
            cases hclsD
            exact ⟨_, KX1 _ _ ho, rfl⟩
          · cases hclsD
        obtain ⟨t1, hoe⟩ := exo_at I.hok ha
        have hoe' : h0.get? a = some (PySem.HandSPX.excO C t1) := hoe
        have hlen : start N_IS_init [V.ref a, y] = [some (V.ref a), some y] := rfl
        refine PySem.ks_wpAt_execs_cons ?_
        refine PySem.ks_wpAt_Expr_any (PySem.ks_wpAt_MethodCall (PySem.ks_wpAt_super_base (env := envI (defScope s_IS_init) s.heap.objs.size f cda cc) rfl rfl (by decide) rfl (KX1 _ _ lk) rfl rfl rfl (KX1 _ _ hcode) rfl hvs hfile htop ?_))
        obtain ⟨mb, b1, b2⟩ := I.mod.blt
        refine PySem.W.ks_loadName_global rfl rfl (Calls.loadGlobal_builtin (env := envI (defScope s_IS_init) s.heap.objs.size f cda cc) (I.mod.glob.keeps I.bk) hsup (b1.keeps I.bk) ((b2 _ (by decide)).trans (by decide +kernel : bootBuiltins "super" = some (.type "super"))) ⟨rfl, ?_⟩)
        refine wpAny_loadName_free rfl rfl rfl ⟨_, KX1 _ _ hcell, rfl⟩ ?_
        refine wpAny_loadName_local rfl rfl hns rfl ?_
        refine PySem.ks_wpAny_isType_cls hD1 hD2 ⟨rfl, ?_⟩
        refine PySem.ks_wpAny_call_super hD1 hD2 hoe' rfl (fun c e => by cases e) (PySem.W.looks_mroIn KX1 hmro) (fun h1 e1 k1 => ?_)
        have KX2 : K.In h1 := KX1.keeps k1
        have hsi' := hsi
        unfold PySem.W.ks_superIn at hsi'
        rw [hclsD] at hsi'
        have hoe1 := k1 _ _ hoe'
        have ty1 : PySem.W.Looks (model P w) h1 (typeOf (.ref a)) (.ref C) := PySem.W.InstAt.type (ox := PySem.HandSPX.excO C t1) (od := none) ⟨hoe1, rfl, rfl, trivial⟩
        have hI : PySem.W.Looks (model P w) h1 (isInstance (.ref a) (.type "ValueError")) true := ty1.andThen (PySem.W.looks_subIn KX2 hsv)
        have hne : a ≠ C := fun z => by
          have q := KX1 _ _ hC
          rw [← z, hoe'] at q
          cases q
        refine PySem.W.kxs_getMethod PySem.W.kxs_ValueError e1 (PySem.W.looks_opaque KX2 hopq) (l₀ := cdD.mro) (fun A Q E s k q => wpAny_bind ((PySem.W.looks_clsIn KX2 hclsD) A _ E s k (wpAny_pure q))) rfl KX2 hsi' hI hne (by decide) ?_
        refine PySem.W.kxs_callWith (i := "ValueError.__init__") (u := h1.objs.size) (x := a) (first := []) rfl ?_
        -- the state in the framework
        have k2 : ∀ b o, h1.get? b = some o → (h1.push (PySem.W.kxs_mw "ValueError.__init__" a)).get? b = some o := fun b o e => Heap.get?_push_of_some _ e
        have I2 := I.kept (t' := s.toks + 2 + 1) (fun b o e => k2 b o (k1 b o e))
        have hu : (h1.push (PySem.W.kxs_mw "ValueError.__init__" a)).get? h1.objs.size = some (PySem.W.kxs_mw "ValueError.__init__" a) := Heap.get?_push_size _ rfl
        have hsz0 : h0.objs.size ≤ h1.objs.size := by
          have z : h0.objs.size < h1.objs.size := Heap.lt_size e1
          omega
        have I3 := ClX.pin_new (t' := s.toks + 2 + 1) (a := h1.objs.size) I (fun b o e => k2 b o (k1 b o e)) hsz0 hu (fun v z => nomatch z)
        refine Calls.evalArgs_plain ?_
        refine thn ((pa_cons (X := cxI P w K mg base f cda cc A outer s H (CR CX0 outer P w H s Q E)) pe_str pa_nil).run _ _ _ _ H (fun vs H2 => vs.length = 1 ∧ H2 = H) I3 ⟨rfl, rfl⟩) fun us s4 ⟨vs, H4, I4, rv, hv1, hv2⟩ => ?_
        rw [hv2] at I4
        refine ⟨ClX.pin_at I4, ?_⟩
        obtain ⟨t2, hoe4⟩ := exo_at I4.hok ha
        obtain ⟨hp4, g4, d4, tk4, os4⟩ := s4
        refine call_mwV (I4.kIn _ _ hC) hoe4 (ClX.pin_at I4) (show us.length ≤ sizeLine by rw [← rv.length, hv1, sizeLine_eq]; decide) fun h5 t5 k5' hx5 => ?_
        have J5 := (ClX.unpin I4).write (t' := tk4) (x := a) (e := a) (o := exo a C none) (by rw [ha]; exact True.intro) (.inl rfl) k5' ⟨_, hx5⟩ (exo_ok hx5)
        have eu : upd H a (exo a C none) = H := funext fun b => by
          by_cases hb : b = a
          · rw [hb, upd_same, ha]
          · rw [upd_ne hb]
        rw [eu] at J5
        -- the second statement
        refine wpAt_of_wpAny ?_
        have hps : PSs (cxI P w K mg base f cda cc A outer s H (CR CX0 outer P w H s Q E)) [(defBody s_IS_init).getD 1 (.Pass ⟨0, 0, 0, 0⟩)] _ := pss_one (ps_ost (X := cxI P w K mg base f cda cc A outer s H (CR CX0 outer P w H s Q E)) (pe_var (i := 0) rfl (.inl rfl) (by decide) (by decide)) (pe_var (i := 1) rfl (.inl rfl) (by decide) (by decide)))
        refine thn (hps.run [] _ _ _ { nx := fun _ H' => Q .non H', rt := Q } J5 ?_) fun fl s6 hs => ?_
        · exact ⟨y, rfl, .ref a, rfl, a, C, rfl, T, hval, .inl ⟨ha, fun dx n1 n2 => hq dx n1 n2⟩⟩
        · have fin : ∀ {σ' : L2.St} {H' : Hp} {v : V} {u : Value}, Inv (cxI P w K mg base f cda cc A outer s H (CR CX0 outer P w H s Q E)) [] σ' H' s6 → RelV v u → Q v H' → CE outer P w H s Q u s6 :=
            fun {_ H9 v u} J rv q => ⟨v, H9, J.os, J.bare, J.base, J.hok, rv, q⟩
          cases fl with
          | ret u =>
            rcases hs with ⟨v, σ', H', J, rv, q⟩
            exact fin J rv q
          | next =>
            obtain ⟨σ', H', J, q⟩ := hs
            exact fin (u := Value.none) (v := .non) J rfl q
          | brk =>
            obtain ⟨_, _, _, q⟩ := hs
            exact False.elim q
          | cont =>
            obtain ⟨_, _, _, q⟩ := hs
            exact False.elim q
end
end K8

/-! raise InvalidScene(..); Upset's __init__, least_scenes, rows_at, len, in. -/
namespace K8
open PySem PySem.Spec PyProof.Rows L2 Evl
/-- InvalidScene as the text has it -/
structure XF (P : Program) (K : PySem.W.Frag) (mg : Str → Option Value) (CE : Addr) : Prop where
  ex : ∃ fI fd, ISF P K mg CE fI fd ∧ PySem.W.findIn K (.ref CE) "__init__" = some (some (.ref fI)) ∧ PySem.W.typeIn K (.ref fI) = some (.type "function") ∧ Binds K fd ["self", "value"] []
  mg : mg "InvalidScene" = some (.ref CE)
/-- the wish about an exception that is InvalidScene of the value v -/
abbrev WE := V → Addr → Hp → Prop
section
variable {X : Cx} {σ : Slots} {B B' H H' : Hp} {R R' Ra Rb : Rel} {e a b c l : Expr} {es rest : List Expr} {pos p pos2 : Pos} {x y z v : V} {D : Ends} {W : WX} {CE C : Addr}
theorem s_raiseIS (hc : X.calm = true) (tk : Takes X W) (F : XF X.prog X.K X.mg CE) (hr : Room 2 X.A) (e0 : Ex B H) (h : EvE X e σ B R) (k : ∀ v B1 H1 d, Step B H B1 H1 → (∀ B2, Ex B1 B2 → R v B2) → H1 d = none → W (.ref CE) (some d) σ (upd H1 d (.xd [("value", v)]))) (hg : Gl X "InvalidScene" := by rfl)
    (he : starEach [e] X.env = (false, eval e X.env) :: starEach [] X.env := by rfl) (hpl : (backTo pos (starEach [] X.env)).any (·.1) = false := by rfl) : wS X (.Raise (some (.Call (.Name "InvalidScene" p) [e] [] pos)) none pos2) D σ H := by
  obtain ⟨fI, fd, I, iC, tI, hb⟩ := F.ex
  refine w_ps (ps_raise hc tk (pmk_oex I.T iC tI (ok_IS_init (k := 0) (P := X.prog) (w := X.w) (base := X.base) I) hr hb .nil (fun _ _ _ _ _ _ _ h => h.elim) hg F.mg (pa_cons pe_w pa_nil he) (by decide) he hpl)) ?_
  refine h.run e0 fun v B1 H1 s r => ⟨by show 1 ≤ 1000; decide, fun a ha => ?_⟩
  refine ⟨a, v, rfl, upd_same, fun d hd hda => ⟨rfl, d, [("value", v)], upd_same, ?_, ?_, ?_⟩⟩
  · rw [upd_ne hda, upd_same]
  · rw [upd_ne hda] at hd
    exact hd
  · rw [upd_ne hda] at hd
    have e1 : upd (del (upd (upd (upd H1 a (exo a CE none)) d (exd d [("value", v)])) a (exo a CE (some d))) a) d (.xd [("value", v)]) = upd H1 d (.xd [("value", v)]) := by
      funext b
      by_cases q : b = d
      · rw [q, upd_same, upd_same]
      · rw [upd_ne q, upd_ne q]
        by_cases q2 : b = a
        · rw [q2, del_same, ha]
        · rw [del_ne q2, upd_ne q2, upd_ne q, upd_ne q2]
    rw [e1]
    exact k v B1 H1 d s r hd
/-- an attribute of an instance -/
theorem e_fld {f : Str} {v : V} (he : EvE X e σ B (fun x B1 => ∃ a C dx fs, x = .ref a ∧ B1 a = some (.ins C dx fs) ∧ Cls X.K C ∧ NoAttr X.K C f ∧ ∃ u, fs.lookup f = some u ∧ R u B1)) (hb : attributeBase e f X.env (eval e X.env) = eval e X.env := by rfl) : EvE X (.Attribute e f pos) σ B R :=
  of_pe (pe_fld pe_w hb) fun H e0 Q q => he H e0 _ fun x B1 H1 s r => by
    obtain ⟨a, C, dx, fs, rfl, h1, h2, h3, u, h4, h5⟩ := r B1 (Ex.refl B1)
    refine ⟨a, C, dx, fs, u, rfl, s.i _ _ h1, h2, h3, h4, q u B1 H1 s fun B2 e2 => ?_⟩
    obtain ⟨a', C', dx', fs', ea, h1', h2', h3', u', h4', h5'⟩ := r B2 e2
    cases ea
    have e3 := e2 _ _ h1
    rw [e3] at h1'
    cases h1'
    rw [h4] at h4'
    cases h4'
    exact h5'
/-- an upset of width n with the kept scenes L -/
def IsU (K : PySem.W.Frag) (C : Addr) (n : Nat) (L : List Scene) : Rel := fun v B => ∃ x dx kv, v = .ref x ∧ B x = some (.ins C dx [("width", .int (n : Int)), ("kept", kv)]) ∧ Dp K B kv (.tuple (L.map dScene))
theorem isU_grow {K : PySem.W.Frag} {C : Addr} {n : Nat} {L : List Scene} {v : V} (h : IsU K C n L v B) (e : Ex B B') : IsU K C n L v B' := by
  obtain ⟨x, dx, kv, rfl, h1, h2⟩ := h
  exact ⟨x, dx, kv, rfl, e _ _ h1, dp_grow h2 e⟩
/-- what of the class Upset the walks need -/
structure UC (K : PySem.W.Frag) (C : Addr) : Prop where
  cls : Cls K C
  nW : NoAttr K C "width"
  nK : NoAttr K C "kept"
theorem e_width {n : Nat} {L : List Scene} (U : UC X.K C) (he : EvE X e σ B (IsU X.K C n L)) (hb : attributeBase e "width" X.env (eval e X.env) = eval e X.env := by rfl) : EvE X (.Attribute e "width" pos) σ B (IsV (.int (n : Int))) :=
  e_fld (v := .non) (he.imp fun v B1 _ r => by
    obtain ⟨x, dx, kv, rfl, h1, h2⟩ := r
    exact ⟨x, C, dx, _, rfl, h1, U.cls, U.nW, _, rfl, rfl⟩) hb
theorem e_kept {n : Nat} {L : List Scene} (U : UC X.K C) (he : EvE X e σ B (IsU X.K C n L)) (hb : attributeBase e "kept" X.env (eval e X.env) = eval e X.env := by rfl) : EvE X (.Attribute e "kept" pos) σ B (IsD X.K (.tuple (L.map dScene))) :=
  e_fld (v := .non) (he.imp fun v B1 _ r => by
    obtain ⟨x, dx, kv, rfl, h1, h2⟩ := r
    exact ⟨x, C, dx, _, rfl, h1, U.cls, U.nK, _, rfl, h2⟩) hb
/-- self.f = e, self at x beside the base -/
theorem s_fld {o : Expr} {f : Str} {x dx : Addr} {fs : List (Str × V)} {apos : Pos} (c : Cls X.K C) (n : NoAttr X.K C f) (hl : fs.length < 1000) (e0 : Ex B H) (ho : EvE X o σ B (IsV (.ref x))) (h : EvE X e σ B R) (ha : H x = some (.ins C dx fs)) (k : ∀ v B1 H1, Step B H B1 H1 → (∀ B2, Ex B1 B2 → R v B2) → D.nx σ (upd H1 x (.ins C dx (putF f v fs))))
    (hs : swapsWith e (some (.Attribute o f apos)) pos.line X.env = pure false := by rfl) : wS X (.Assign [.Attribute o f apos] e pos) D σ H :=
  w_ps (ps_fld pe_w pe_w hs) (h.run e0 fun v B1 H1 s r => (ho.mono s.b).run s.i fun v2 B2 H2 s2 r2 => by
    have ev : v2 = .ref x := r2 B2 (Ex.refl B2)
    subst ev
    exact ⟨x, C, dx, fs, rfl, s2.h _ _ (s.h _ _ ha), c, n, hl, k v B2 H2 (s.trans s2) fun B3 e3 => r B3 (s2.b.trans e3)⟩)
end
section
variable {P : Program} {w : World} {K : PySem.W.Frag} {mg : Str → Option Value} {base : Heap} {C CE : Addr}
/-- the scenes are right; or the j-th is the first that is not -/
def AllSc (n : Nat) (ds : List PyData) (L : List Scene) : Prop := ds = L.map dScene ∧ ScenesOk n L ∧ ∀ s ∈ L, isSceneD (.int (n : Int)) (dScene s) = true
def BadSc (n : Nat) (ds : List PyData) (d : PyData) : Prop := ∃ j : Nat, ds[j]? = some d ∧ isSceneD (.int (n : Int)) d = false ∧ ∀ d' ∈ ds.take j, isSceneD (.int (n : Int)) d' = true
/-- Upset(n, ds): the promise of the whole call, from the heap ahead of it -/
def preMake (K : PySem.W.Frag) (C CE : Addr) (n : Nat) (ds : List PyData) (B H : Hp) (Q : VK) (E : XK) : Prop :=
  (∀ d ∈ ds, okScene d) ∧ ds.length ≤ 1000 ∧ ((∃ L, AllSc n ds L ∧ Yields B H (IsU K C n (keptF L)) Q) ∨ ∃ d, BadSc n ds d ∧ ∀ v B1 H1 xd, Step B H B1 H1 → (∀ B2, Ex B1 B2 → Dp K B2 v d) → H1 xd = none → E (.ref CE) (some xd) (upd H1 xd (.xd [("value", v)])))
def spInit (K : PySem.W.Frag) (C CE : Addr) : Sp := fun vs H Q E => ∃ (x dx : Addr) (B H0 : Hp) (n : Nat) (sc : V) (ds : List PyData) (Q0 : VK), vs = [.ref x, .int (n : Int), sc] ∧ H = upd (upd H0 dx (.own x)) x (.ins C dx []) ∧ H0 x = none ∧ H0 dx = none ∧ dx ≠ x ∧ Ex B H0 ∧ Dp K B sc (.list ds) ∧
  preMake K C CE n ds B H0 Q0 E ∧ ∀ H1, Q0 (.ref x) H1 → Q .non H1
theorem ok_init {f : Addr} {fd : FuncData} (U : Bi mg) (UU : UC K C) (XX : XF P K mg CE) (GS : D_is_scene P w K mg base) (GL : D_least_scenes_of P w K mg base) (F : Fun K "__init__" "Upset.__init__" s_Upset_init f fd) :
    FnOk P w K mg base (CX P w) 5 f fd ["self", "width", "scenes"] (spInit K C CE) := by
  rcases F.ex with ⟨oc, od, kV, doc, pm, an, cdv, ct, osl, rfl, lk, hcd⟩
  refine fn_of lk hcd sc_Upset_init (fun vs H Q E h => by obtain ⟨x, dx, B, H0, n, sc, ds, Q0, rfl, _⟩ := h; rfl) fun A outer s H vs Q E hr hsp => ?_
  obtain ⟨x, dx, B, H0, n, sc, ds, Q0, rfl, rfl, hx0, hd0, hne, e0, hsc, ⟨hok, hlen, hor⟩, hQ⟩ := hsp
  refine ⟨_, pss_w, ?_⟩
  have tk : Takes (cxOf (CX P w) P w K mg base N_Upset_init "Upset.__init__" (defScope s_Upset_init) f cdv A outer s (upd (upd H0 dx (.own x)) x (.ins C dx [])) E) (fun cls d _ H => E cls d H) := takes_of rfl rfl rfl rfl
  have hH0 : Ex H0 (upd (upd H0 dx (.own x)) x (.ins C dx [])) := (Ex.new hd0).trans (Ex.new (by rw [upd_ne (Ne.symm hne)]; exact hx0))
  have s0 : Step B H0 B (upd (upd H0 dx (.own x)) x (.ins C dx [])) := ⟨Ex.refl B, e0.trans hH0, hH0, fun _ _ h _ => h⟩
  have bx : B x = none := ex_none e0 hx0
  have go : ∀ j d, ds[j]? = some d → (∀ d' ∈ ds.take j, isSceneD (.int (n : Int)) d' = true) → isSceneD (.int (n : Int)) d = false → ∀ v B1 H1 xd, Step B H0 B1 H1 → (∀ B2, Ex B1 B2 → Dp K B2 v d) → H1 xd = none → E (.ref CE) (some xd) (upd H1 xd (.xd [("value", v)])) := fun j d hj hpre hbad v B1 H1 xd st hv hxd => by
    rcases hor with ⟨L, ⟨hL, _, hall⟩, _⟩ | ⟨d0, ⟨j0, hj0, hb0, hp0⟩, k⟩
    · rw [hL, List.getElem?_map] at hj
      obtain ⟨s, hs, rfl⟩ := Option.map_eq_some_iff.mp hj
      rw [hall s (List.mem_of_getElem? hs)] at hbad
      cases hbad
    · have ej : j = j0 := by
        rcases Nat.lt_trichotomy j j0 with q | q | q
        · have := hp0 d (List.mem_iff_getElem?.mpr ⟨j, by rw [List.getElem?_take_of_lt q]; exact hj⟩)
          rw [this] at hbad
          cases hbad
        · exact q
        · have := hpre d0 (List.mem_iff_getElem?.mpr ⟨j0, by rw [List.getElem?_take_of_lt q]; exact hj0⟩)
          rw [this] at hb0
          cases hb0
      subst ej
      rw [hj] at hj0
      cases hj0
      exact k v B1 H1 xd st hv hxd
  have dd : (ds.map id) = ds := List.map_id ds
  refine b_cons (for_lS (i := 3) ds id (fun j σ' => ∃ z, σ' = [some (.ref x), some (.int (n : Int)), some sc, z] ∧ ∀ d' ∈ ds.take j, isSceneD (.int (n : Int)) d' = true) (passes_of rfl) rfl (pg_name sc_Upset_init.nd rfl (.inl rfl)) s0.i (by rw [dd]; exact e_varD 2 rfl hsc) ⟨none, rfl, fun _ h => by simp at h⟩ ?_ ?_)
  · rintro j d v σ' B' H' hd st hv ⟨z, rfl, hall⟩
    have hm := List.mem_of_getElem? hd
    refine b_one (s_if st.i (t_not (t_bl (e_callK (v := .bl (isSceneD (.int (n : Int)) d)) GS (hr.mono (by decide)) (ad_cons (e_varD 3 rfl hv) (ad_cons (e_var 1 rfl).intD ad_nil)) rfl ⟨d, _, rfl, hok d hm, .inr ⟨_, rfl⟩⟩ rfl))) (fun h5 H3 s3 => ?_) fun h5 H3 s3 => b_nil ⟨B', ⟨_, rfl, fun d' hd' => ?_⟩, s3⟩)
    · refine b_one (s_raiseIS (W := fun cls d _ H => E cls d H) rfl tk XX (hr.mono (by decide)) s3.i (e_varD 3 rfl hv) fun v1 B1 H1 xd s4 r4 hxd => ?_)
      exact go j d hd hall (by simpa using h5) v1 B1 H1 xd (((s0.trans st).trans s3).trans s4) r4 hxd
    · have hi := (List.getElem?_eq_some_iff.mp hd).1
      rw [List.take_succ_eq_append_getElem hi, (List.getElem?_eq_some_iff.mp hd).2] at hd'
      rcases List.mem_append.mp hd' with q | q
      · exact hall d' q
      · rw [List.mem_singleton.mp q]
        simpa using h5
  · rintro σ' B' H' st ⟨z, rfl, hall⟩
    rw [List.take_length] at hall
    rcases hor with ⟨L, ⟨rfl, hL, hall2⟩, y⟩ | ⟨d0, ⟨j0, hj0, hb0, hp0⟩, k⟩
    · have hx1 : H' x = some (.ins C dx []) := st.h _ _ upd_same
      refine b_cons (s_fld (apos := _) UU.cls UU.nW (by decide) st.i (e_var 0 rfl) (e_var 1 rfl) hx1 fun v1 B1 H1 s1 r1 => ?_)
      have ev : v1 = .int (n : Int) := r1 B1 (Ex.refl B1)
      subst ev
      have st1 := (s0.trans st).trans s1
      have bx1 : B1 x = none := (st.trans s1).off _ _ bx upd_same
      have st1' := st1.put (o := .ins C dx (putF "width" (.int (n : Int)) [])) bx1 hx0
      have hsc1 := dp_grow (dp_grow hsc st.b) s1.b
      refine b_one (s_fld (apos := _) UU.cls UU.nK (by show 1 < 1000; decide) st1'.i (e_var 0 rfl) (e_tupleOf U.tuple (e_callR GL (hr.mono (by decide)) (ad_cons (e_varD 2 rfl hsc1) ad_nil) rfl ⟨n, L, rfl, hL, rfl⟩)) upd_same fun v2 B2 H2 s2 r2 => ?_)
      have bx2 : B2 x = none := s2.off _ _ bx1 upd_same
      have stj := ((st1'.trans s2).put (o := .ins C dx (putF "kept" v2 (putF "width" (.int (n : Int)) []))) bx2 hx0).join bx2 hx0 upd_same
      exact hQ _ (y (.ref x) _ _ stj fun B3 e3 => ⟨x, dx, v2, rfl, e3 _ _ upd_same, r2 B3 ((Ex.new bx2).trans e3)⟩)
    · have := hall d0 (List.mem_of_getElem? hj0)
      rw [this] at hb0
      cases hb0
end
end K8

/-! Operators and methods of an own class. -/
namespace K8
open PySem PySem.Spec PyProof.Rows L2 Evl
section
variable {X : Cx} {CXc : CXT} {kk : Nat} {f C : Addr} {fd : FuncData} {ps : List Str} {sp : Sp} {E : XK} {pins : List (Addr × Obj)} {σ : Slots} {H : Hp} {s : Shared}
theorem inst_at {a dx : Addr} {fs : List (Str × V)} (I : Inv X pins σ H s) (e : H a = some (.ins C dx fs)) : ∃ od, PySem.W.InstAt s.heap a (PySem.W.instObj C dx) C (some od) := by
  obtain ⟨mA, O, _⟩ := ins_get I.hok e
  obtain ⟨od, J, _⟩ := O.look
  exact ⟨od, J⟩
theorem run_in1 {Q : VK} {us : List Value} {vs : List V} (F : FnOk X.prog X.w X.K X.mg X.base CXc kk f fd ps sp) (hr : Room (kk + 1) X.A) (hb : Binds X.K fd ps []) (hx : Passes CXc X E)
    (I : Inv X pins σ H s) (r : Vals vs us) (h : sp vs H Q E) : wpAny (model X.prog X.w) X.A.in1 (call (.ref f) us) (EP X pins σ Q) X.xe s := by
  have hl : (us ++ []).length = ps.length := by rw [List.append_nil, ← r.length]; exact F.len _ _ _ _ h
  have hb1 := hb s us I.kIn hl
  rw [List.append_nil] at hb1
  refine wpAny_call (codeAny_mono (F.run X.A.in1 X.stack s H ⟨us, []⟩ us vs Q E hr.in1 I.env0.in1 hb1 r h) fun r s' hq => ?_)
  cases r with
  | error no => exact hx pins σ H s no s' I hq
  | ok fl =>
    cases fl with
    | ret u => exact I.after hq
    | next => exact False.elim hq
    | brk => exact False.elim hq
    | cont => exact False.elim hq
theorem run_fn0 {Q : VK} {us : List Value} {vs : List V} (F : FnOk X.prog X.w X.K X.mg X.base CXc kk f fd ps sp) (hr : Room kk X.A) (hb : Binds X.K fd ps []) (hx : Passes CXc X E)
    (I : Inv X pins σ H s) (r : Vals vs us) (h : sp vs H Q E) : wpAny (model X.prog X.w) X.A (call (.ref f) us) (EP X pins σ Q) X.xe s :=
  run_fn F hr hb .nil hx I r (by rw [List.append_nil]; exact h)
/-- x in o, x not in o, by o's own __contains__ -/
def rInO (C : Addr) (sp : Sp) (E : XK) (neg : Bool) : R2 := fun x y H Q => ∃ a dx fs, y = .ref a ∧ H a = some (.ins C dx fs) ∧ sp [y, x] H (fun v H' => ∃ k, v = .bl k ∧ Q (.bl (if neg then !k else k)) H') E
theorem or_inO (F : FnOk X.prog X.w X.K X.mg X.base CXc kk f fd ps sp) (hr : Room kk X.A) (hb : Binds X.K fd ps []) (hx : Passes CXc X E) (hs : PySem.W.findIn X.K (.ref C) "__contains__" = some (some (.ref f))) (hf : PySem.W.isFn X.K (.ref f) = true) : OpR X (compareOp .In) (rInO C sp E false) := by
  intro pins s σ H; intro x y v u Q I rx ry h
  rcases h with ⟨a, dx, fs, rfl, ha, q⟩
  rcases (show u = Value.ref a from ry) with rfl
  obtain ⟨od, J⟩ := inst_at I ha
  obtain ⟨m, hF⟩ := I.fr
  refine PySem.W.in_K hF I.ok.mod.kin J hs hf (wpAny_mono (run_fn0 (us := [.ref a, v]) (vs := [.ref a, x]) F hr hb hx I (.cons rfl (.cons rx .nil)) q) (fun r s' z => ?_) fun _ _ x => x)
  obtain ⟨v', H', I', rv, k, rfl, q'⟩ := z
  cases rv
  exact wpAny_truthy_bool ⟨.bl _, H', I', rfl, q'⟩
theorem or_notInO (F : FnOk X.prog X.w X.K X.mg X.base CXc kk f fd ps sp) (hr : Room kk X.A) (hb : Binds X.K fd ps []) (hx : Passes CXc X E) (hs : PySem.W.findIn X.K (.ref C) "__contains__" = some (some (.ref f))) (hf : PySem.W.isFn X.K (.ref f) = true) : OpR X (compareOp .NotIn) (rInO C sp E true) := by
  intro pins s σ H; intro x y v u Q I rx ry h
  rcases h with ⟨a, dx, fs, rfl, ha, q⟩
  rcases (show u = Value.ref a from ry) with rfl
  obtain ⟨od, J⟩ := inst_at I ha
  obtain ⟨m, hF⟩ := I.fr
  refine PySem.W.notIn_K hF I.ok.mod.kin J hs hf (wpAny_mono (run_fn0 (us := [.ref a, v]) (vs := [.ref a, x]) F hr hb hx I (.cons rfl (.cons rx .nil)) q) (fun r s' z => ?_) fun _ _ x => x)
  obtain ⟨v', H', I', rv, k, rfl, q'⟩ := z
  cases rv
  exact wpAny_truthy_bool ⟨.bl _, H', I', rfl, q'⟩
/-- o op p, both of the class -/
def rBinO (C : Addr) (sp : Sp) (E : XK) : R2 := fun x y H Q => ∃ a dx fs b dy gs, x = .ref a ∧ y = .ref b ∧ H a = some (.ins C dx fs) ∧ H b = some (.ins C dy gs) ∧ sp [x, y] H (fun v H' => (∃ p, v = .ref p) ∧ Q v H') E
theorem or_binO {op : Operator} (F : FnOk X.prog X.w X.K X.mg X.base CXc kk f fd ps sp) (hr : Room kk X.A) (hb : Binds X.K fd ps []) (hx : Passes CXc X E) (hc : PySem.W.selfFirst X.K C = true) (hs : PySem.W.findIn X.K (.ref C) (PySem.dunder op.info.2) = some (some (.ref f))) (hf : PySem.W.isFn X.K (.ref f) = true) : OpR X (binaryOp op) (rBinO C sp E) := by
  intro pins s σ H; intro x y v u Q I rx ry h
  obtain ⟨a, dx, fs, b, dy, gs, rfl, rfl, ha, hb2, q⟩ := h
  rcases (show v = Value.ref a from rx) with rfl
  rcases (show u = Value.ref b from ry) with rfl
  obtain ⟨od, J⟩ := inst_at I ha
  obtain ⟨od2, J2⟩ := inst_at I hb2
  obtain ⟨m, hF⟩ := I.fr
  refine PySem.W.binop_K hF I.ok.mod.kin J J2.type hc hs hf (wpAny_mono (run_fn0 (us := [.ref a, .ref b]) (vs := [.ref a, .ref b]) F hr hb hx I (.cons rfl (.cons rfl .nil)) q) (fun r s' z => ?_) fun _ _ x => x)
  obtain ⟨v', H', I', rv, ⟨p, rfl⟩, q'⟩ := z
  cases rv
  exact ⟨.ref p, H', I', rfl, q'⟩
/-- o == y, by o's own __eq__ -/
def rEqO (K : PySem.W.Frag) (C : Addr) (sp : Sp) (E : XK) : R2 := fun x y H Q => ∃ a dx fs, x = .ref a ∧ H a = some (.ins C dx fs) ∧ ((∃ b dy gs, y = .ref b ∧ H b = some (.ins C dy gs)) ∨ (∃ b ys, y = .ref b ∧ H b = some (.tup ys))) ∧ sp [x, y] H (fun v H' => ∃ k, v = .bl k ∧ Q (.bl k) H') E
theorem or_eqO (F : FnOk X.prog X.w X.K X.mg X.base CXc kk f fd ps sp) (hr : Room kk X.A) (hb : Binds X.K fd ps []) (hx : Passes CXc X E) (ht : PySem.W.notFirst X.K C (.type "tuple") = true) (hs : PySem.W.findIn X.K (.ref C) "__eq__" = some (some (.ref f))) (hf : PySem.W.isFn X.K (.ref f) = true) : OpR X (compareOp .Eq) (rEqO X.K C sp E) := by
  intro pins s σ H; intro x y v u Q I rx ry h
  obtain ⟨a, dx, fs, rfl, ha, hy, q⟩ := h
  rcases (show v = Value.ref a from rx) with rfl
  obtain ⟨od, J⟩ := inst_at I ha
  obtain ⟨m, hF⟩ := I.fr
  show wpAny _ _ (richCompare .Eq (.ref a) u) _ _ _
  have fin : wpAny (model X.prog X.w) X.A (call (.ref f) [.ref a, u]) (PySem.W.CmpBack (EP X pins σ Q)) X.xe s := wpAny_mono (run_fn0 (us := [.ref a, u]) (vs := [.ref a, y]) F hr hb hx I (.cons rfl (.cons ry .nil)) q) (fun r s' z => by
    obtain ⟨v', H', I', rv, k, rfl, q'⟩ := z
    cases rv
    exact ⟨.bl k, H', I', rfl, q'⟩) fun _ _ x => x
  rcases hy with ⟨b, dy, gs, rfl, hb2⟩ | ⟨b, ys, rfl, hb2⟩
  · obtain rfl : u = Value.ref b := ry
    obtain ⟨od2, J2⟩ := inst_at I hb2
    exact PySem.W.cmp_K (op := .Eq) (tb := .ref C) hr.units0 hF I.ok.mod.kin J J2.type (by simp [PySem.W.notFirst]) hs hf fin
  · obtain rfl : u = Value.ref b := ry
    obtain ⟨_, _, _, o, h1, h2, _⟩ := (show ObjOk X.prog X.w H s.heap b (.tup ys) from I.hok b _ hb2)
    exact PySem.W.cmp_K (op := .Eq) (tb := .type "tuple") hr.units0 hF I.ok.mod.kin J (fun A Q E s k q => wpAny_typeOf_ref (k _ _ h1) (by rw [h2]; exact q)) ht hs hf fin
/-- len(o) -/
def rLenO (C : Addr) (sp : Sp) (E : XK) : List V → Hp → VK → Prop := fun xs H Q => ∃ a dx fs, xs = [.ref a] ∧ H a = some (.ins C dx fs) ∧ sp xs H (fun v H' => ∃ n : Int, v = .int n ∧ 0 ≤ n ∧ n < 2 ^ 63 ∧ Q (.int n) H') E
theorem cr_lenO (F : FnOk X.prog X.w X.K X.mg X.base CXc kk f fd ps sp) (hr : Room (kk + 1) X.A) (hb : Binds X.K fd ps []) (hx : Passes CXc X E) (hs : PySem.W.findIn X.K (.ref C) "__len__" = some (some (.ref f))) (hf : PySem.W.isFn X.K (.ref f) = true) : CallR X (.builtin "len") (rLenO C sp E) := by
  intro pins s σ H; intro xs us Q I r h
  rcases h with ⟨a, dx, fs, rfl, ha, q⟩
  have eu := Vals.ref1 r
  subst eu
  obtain ⟨od, J⟩ := inst_at I ha
  obtain ⟨m, hF⟩ := I.fr
  refine PySem.W.len_K hF I.ok.mod.kin J hs hf (wpAny_mono (run_in1 (us := [.ref a]) (vs := [.ref a]) F hr hb hx I (.cons rfl .nil) q) (fun r s' z => ?_) fun _ _ x => x)
  obtain ⟨v', H', I', rv, n, rfl, h0, h1, q'⟩ := z
  obtain ⟨t, rfl⟩ := rv
  exact ⟨⟨h0, h1⟩, .int n, H', I'.tok _, ⟨_, rfl⟩, q'⟩
end
end K8

/-! Upset: its methods. -/
namespace K8
open PySem PySem.Spec PyProof.Rows L2 Evl
/-! ### plain -/
structure ScOk (n : Nat) (s : Scene) : Prop where
  name : nameB s.1 = true
  row : GoodRow n s.2
  bd : Bd BB s.2
theorem ScOk.is {n : Nat} {s : Scene} (h : ScOk n s) {w : PyData} (hw : wOk w n = true) : isSceneD w (dScene s) = true := by
  show (nameB s.1 && isRowD w (dRow s.2)) = true
  rw [h.name, h.row.isRow hw]
  rfl
theorem wOk_int (n : Nat) : wOk (.int (n : Int)) n = true := decide_eq_true rfl
theorem nameB_len {s : Str} (h : nameB s = true) : 1 ≤ s.length ∧ s.length ≤ 12 := by
  unfold nameB at h
  rw [Bool.and_eq_true, Bool.and_eq_true, decide_eq_true_iff, decide_eq_true_iff] at h
  exact h.1
theorem small_tup {xs : List PyData} (h : xs.length ≤ 1000) : small (.tuple xs) := fun m hm => by
  have e : xs.length = m := Option.some.inj hm
  omega
theorem small_str {s : Str} (h : s.length ≤ 1000) : small (.str s) := fun m hm => by
  have e : s.length = m := Option.some.inj hm
  omega
theorem ScOk.okd {n : Nat} {s : Scene} (h : ScOk n s) : okScene (dScene s) := by
  refine ⟨small_tup (by show 2 ≤ 1000; decide), fun xs hxs x hx => ?_⟩
  cases hxs
  rcases List.mem_cons.1 hx with e | hx
  · rw [e]
    have := nameB_len h.name
    exact small_str (by omega)
  · rw [List.mem_singleton.mp hx]
    exact small_row h.row
structure UGood (n : Nat) (L : List Scene) : Prop where
  pos : 1 ≤ n
  top : n ≤ 8
  few : L.length < 64
  all : ∀ s ∈ L, ScOk n s
theorem UGood.sc {n : Nat} {L : List Scene} (h : UGood n L) : ScenesOk n L := ⟨h.pos, h.few, fun s hs => ⟨(h.all s hs).row.len, (h.all s hs).bd⟩⟩
theorem UGood.allSc {n : Nat} {L : List Scene} (h : UGood n L) : AllSc n (L.map dScene) L := ⟨rfl, h.sc, fun s hs => (h.all s hs).is (wOk_int n)⟩
theorem UGood.sub {n : Nat} {L M : List Scene} (h : UGood n L) (hf : M.length < 64) (hs : ∀ s ∈ M, s ∈ L) : UGood n M := ⟨h.pos, h.top, hf, fun s q => h.all s (hs s q)⟩
theorem UGood.kept {n : Nat} {L : List Scene} (h : UGood n L) : UGood n (keptF L) := h.sub (keptF_len h.sc) (keptF_ok h.sc).sub
theorem UGood.okds {n : Nat} {L : List Scene} (h : UGood n L) : ∀ d ∈ L.map dScene, okScene d := fun d hd => by
  obtain ⟨s, hs, rfl⟩ := List.mem_map.mp hd
  exact (h.all s hs).okd
/-! ### the class's parts as they are called -/
/-- a method m of the class at C -/
structure Mth (P : Program) (w : World) (K : PySem.W.Frag) (mg : Str → Option Value) (base : Heap) (C : Addr) (m : Str) (ps : List Str) (k : Nat) (sp : Sp) : Prop where
  ex : ∃ f fd, PySem.W.findIn K (.ref C) m = some (some (.ref f)) ∧ PySem.W.isFn K (.ref f) = true ∧ PySem.W.keepIn K (.ref f) = true ∧ Binds K fd ps [] ∧ FnOk P w K mg base CX0 k f fd ps sp
/-- making one -/
structure MkU (P : Program) (w : World) (K : PySem.W.Frag) (mg : Str → Option Value) (base : Heap) (C CE : Addr) : Prop where
  at_ : mg "Upset" = some (.ref C)
  ex : ∃ f fd, Mk K C f ∧ Binds K fd ["self", "width", "scenes"] [] ∧ FnOk P w K mg base (L2.CX P w) 5 f fd ["self", "width", "scenes"] (spInit K C CE)
theorem passes_none {X : Cx} : Passes (L2.CX X.prog X.w) X (fun _ _ _ => False) := fun _ _ _ _ _ _ _ h => by
  obtain ⟨_, _, _, _, _, _, _, _, _, _, _, _, h⟩ := h
  exact h.elim
section
variable {X : Cx} {σ : Slots} {B B' H H' : Hp} {R R' Ra Rb : Rel} {e a b c l o : Expr} {es rest : List Expr} {pos p pos2 apos : Pos} {x y z v : V} {D : Ends} {CE C : Addr} {n kk : Nat} {L M : List Scene} {m : Str} {ps : List Str} {RA : RelA} {E : XK}
/-- Upset(a, b), the wish about the whole -/
theorem w_makeU (MU : MkU X.prog X.w X.K X.mg X.base C CE) (hr : Room 6 X.A) (hx : Passes (L2.CX X.prog X.w) X E) {ds : List PyData} (ha : EvE X a σ B (IsV (.int (n : Int)))) (hb : EvE X b σ B (IsD X.K (.list ds))) (e0 : Ex B H) {Q : VK} (hq : ∀ B1 H1, Step B H B1 H1 → preMake X.K C CE n ds B1 H1 Q E) (hg : Gl X "Upset" := by rfl)
    (hs : starEach [a, b] X.env = (false, eval a X.env) :: starEach [b] X.env := by rfl) (hs2 : starEach [b] X.env = (false, eval b X.env) :: starEach [] X.env := by rfl) (hpl : (backTo pos (starEach [b] X.env)).any (·.1) = false := by rfl) : wE X (.Call (.Name "Upset" p) [a, b] [] pos) σ H Q := by
  obtain ⟨f, fd, M, hbi, F⟩ := MU.ex
  refine w_pe (pe_make M F hr hg MU.at_ hbi .nil hx (pa_cons pe_w (pa_cons pe_w pa_nil hs2) hs) (by decide) hs hpl) ?_
  refine ha.run e0 fun v B1 H1 s1 r1 => (hb.mono s1.b).run s1.i fun u B2 H2 s2 r2 => fun x dx hx hd hne => ?_
  have ev : v = .int (n : Int) := r1 B1 (Ex.refl B1)
  subst ev
  exact ⟨x, dx, B2, H2, n, u, ds, Q, rfl, rfl, hx, hd, hne, s2.i, r2 B2 (Ex.refl B2), hq B2 H2 (s1.trans s2), fun H3 q => ⟨rfl, q⟩⟩
theorem e_makeU (MU : MkU X.prog X.w X.K X.mg X.base C CE) (hr : Room 6 X.A) (hL : UGood n L) (ha : EvE X a σ B (IsV (.int (n : Int)))) (hb : EvE X b σ B (IsD X.K (.list (L.map dScene)))) (hg : Gl X "Upset" := by rfl)
    (hs : starEach [a, b] X.env = (false, eval a X.env) :: starEach [b] X.env := by rfl) (hs2 : starEach [b] X.env = (false, eval b X.env) :: starEach [] X.env := by rfl) (hpl : (backTo pos (starEach [b] X.env)).any (·.1) = false := by rfl) : EvE X (.Call (.Name "Upset" p) [a, b] [] pos) σ B (IsU X.K C n (keptF L)) := fun H e0 Q q =>
  w_makeU MU hr passes_none ha hb e0 (fun B1 H1 s => ⟨hL.okds, by rw [List.length_map]; have := hL.few; omega, .inl ⟨L, hL.allSc, q.go s⟩⟩) hg hs hs2 hpl
/-- o.m(e), o.m() of an upset -/
theorem w_meth {pl : Sem Bool} {sp : Sp} (UU : UC X.K C) (G : Mth X.prog X.w X.K X.mg X.base C m ps kk sp) (hr : Room kk X.A) (ho : EvE X o σ B (IsU X.K C n L)) (ha : EvAE X (e :: es) σ B RA) (e0 : Ex B H) {Q : VK}
    (hs : ∀ u vs B1 H1, Step B H B1 H1 → IsU X.K C n L u B1 → RA vs B1 → sp (u :: vs) H1 Q E0) (hm : (m == "width") = false ∧ (m == "kept") = false := by decide) (hst : starEach (e :: es) X.env = (false, eval e X.env) :: starEach es X.env := by rfl) (hpl : (backTo pos (starEach es X.env)).any (·.1) = false := by rfl) (ht : eval (.Call (.Attribute o m apos) (e :: es) [] pos) X.env = (do
      let ov ← eval o X.env
      standAt apos.atName
      let (m1, fs) ← holding [ov] (getMethod ov m pl)
      callWith pos m1 fs (backTo pos (starEach (e :: es) X.env)) (backToKw pos (keywordEach [] X.env))) := by rfl) : wE X (.Call (.Attribute o m apos) (e :: es) [] pos) σ H Q := by
  obtain ⟨f, fd, h1, h2, h3, h4, F⟩ := G.ex
  refine w_pe (pe_meth pe_w UU.cls ⟨h1, h2, h3⟩ F hr h4 .nil pass0 pa_w hst hpl ht) ?_
  refine ho.run e0 fun u B1 H1 s1 r1 => ?_
  obtain ⟨a, dx, kv, rfl, g1, g2⟩ := r1 B1 (Ex.refl B1)
  refine ⟨a, dx, _, rfl, s1.i _ _ g1, ?_, ?_⟩
  · simp only [List.lookup, hm.1, hm.2]
  · refine (ha.mono s1.b) H1 s1.i _ fun vs B2 H2 s2 r2 => ?_
    show sp (_ :: (vs ++ [])) H2 Q E0
    rw [List.append_nil]
    exact hs _ vs B2 H2 (s1.trans s2) (isU_grow ⟨a, dx, kv, rfl, g1, g2⟩ s2.b) (r2 B2 (Ex.refl B2))
theorem w_meth0 {pl : Sem Bool} {sp : Sp} (UU : UC X.K C) (G : Mth X.prog X.w X.K X.mg X.base C m ps kk sp) (hr : Room kk X.A) (ho : EvE X o σ B (IsU X.K C n L)) (e0 : Ex B H) {Q : VK}
    (hs : ∀ u B1 H1, Step B H B1 H1 → IsU X.K C n L u B1 → sp [u] H1 Q E0) (hm : (m == "width") = false ∧ (m == "kept") = false := by decide) (ht : eval (.Call (.Attribute o m apos) [] [] pos) X.env = (do
      let ov ← eval o X.env
      standAt apos.atName
      let (m1, fs) ← holding [ov] (getMethod ov m pl)
      callWith pos m1 fs (backTo pos (starEach [] X.env)) (backToKw pos (keywordEach [] X.env))) := by rfl) : wE X (.Call (.Attribute o m apos) [] [] pos) σ H Q := by
  obtain ⟨f, fd, h1, h2, h3, h4, F⟩ := G.ex
  refine w_pe (pe_meth0 pe_w UU.cls ⟨h1, h2, h3⟩ F hr h4 .nil pass0 ht) ?_
  refine ho.run e0 fun u B1 H1 s1 r1 => ?_
  obtain ⟨a, dx, kv, rfl, g1, g2⟩ := r1 B1 (Ex.refl B1)
  refine ⟨a, dx, _, rfl, s1.i _ _ g1, ?_, ?_⟩
  · simp only [List.lookup, hm.1, hm.2]
  · exact hs _ B1 H1 s1 ⟨a, dx, kv, rfl, g1, g2⟩
end
section
variable {P : Program} {w : World} {K : PySem.W.Frag} {mg : Str → Option Value} {base : Heap} {C CE : Addr}
theorem meth_ok {q : Str} {x : Str} {st : Stmt} {f : Addr} {fd : FuncData} {N ps : List Str} {k : Nat} {sp : Sp} (F : Fun K x q st f fd) (S : FnScope N ps (defScope st)) (len : ∀ vs H Q E, sp vs H Q E → vs.length = ps.length)
    (hbody : ∀ (cdv : Value) (A : Around) (outer : List Env) (s : Shared) (H : Hp) (vs : List V) (Q : VK) (E : XK), Room k (A.deeper (envOfC q (defScope st) s.heap.objs.size f cdv)) → sp vs H Q E →
      wB (cxOf CX0 P w K mg base N q (defScope st) f cdv A outer s H E).nox (defBody st) { nx := fun _ H' => Q .non H', rt := Q } (start N vs) H) : FnOk P w K mg base CX0 (k + 1) f fd ps sp :=
  F.ok S len fun cdv A outer s H vs Q E hr h => ⟨_, pss_w, hbody cdv A outer s H vs Q E hr h⟩
/-- least_scenes, rows_at: new lists -/
def preLS (K : PySem.W.Frag) (C : Addr) : List V → Hp → RelA → Prop := fun vs B RA => ∃ n L v, vs = [v] ∧ IsU K C n L v B ∧ RA = AD K (L.map dScene)
def preRA (K : PySem.W.Frag) (C : Addr) : List V → Hp → RelA → Prop := fun vs B RA => ∃ n L v p, vs = [v, .str p] ∧ IsU K C n L v B ∧ L.length ≤ 10000 ∧ RA = AD K ((rowsAt L p).map dRow)
theorem ok_least_scenes {f : Addr} {fd : FuncData} (U : Bi mg) (UU : UC K C) (F : Fun K "least_scenes" "Upset.least_scenes" s_Upset_least_scenes f fd) : FnOk P w K mg base CX0 1 f fd ["self"] (PureN (preLS K C)) := by
  refine meth_ok F sc_Upset_least_scenes (fun vs H Q E ⟨B, RA, _, ⟨n, L, v, hv, _⟩, _⟩ => by rw [hv]; rfl) fun cdv A outer s H vs Q E hr h => ?_
  obtain ⟨B, RA, e0, ⟨n, L, v, rfl, hu, rfl⟩, y⟩ := h
  exact b_one (s_retN e0 (n_listOf U.list ((e_kept UU ((e_var 0 rfl).imp fun v B1 e r => by cases r; exact isU_grow hu e)).imp fun _ _ _ r => .inr r)) fun q B1 H1 n0 n1 s1 r1 => y q B1 H1 n0 n1 s1 r1)
theorem ok_rows_at {f : Addr} {fd : FuncData} (UU : UC K C) (GR : D_rows_of_post P w K mg base) (F : Fun K "rows_at" "Upset.rows_at" s_Upset_rows_at f fd) : FnOk P w K mg base CX0 2 f fd ["self", "post"] (PureN (preRA K C)) := by
  refine meth_ok F sc_Upset_rows_at (fun vs H Q E ⟨B, RA, _, ⟨n, L, v, p, hv, _⟩, _⟩ => by rw [hv]; rfl) fun cdv A outer s H vs Q E hr h => ?_
  obtain ⟨B, RA, e0, ⟨n, L, v, p, rfl, hu, hz, rfl⟩, y⟩ := h
  exact b_one (s_retN e0 (n_callN GR (hr.mono (by decide)) (ad_cons (e_kept UU ((e_var 0 rfl).imp fun v B1 e r => by cases r; exact isU_grow hu e)) (ad_cons (e_var 1 rfl).strD ad_nil)) fun vs B1 e1 r1 => ⟨L, p, _, r1, .inr rfl, hz, rfl⟩) fun q B1 H1 n0 n1 s1 r1 => y q B1 H1 n0 n1 s1 r1)
/-- len -/
def preLen (K : PySem.W.Frag) (C : Addr) : List V → Hp → Rel → Prop := fun vs B R => ∃ n L v, vs = [v] ∧ IsU K C n L v B ∧ L.length ≤ 10000 ∧ R = IsV (.int (L.length : Int))
theorem ok_len {f : Addr} {fd : FuncData} (U : Bi mg) (UU : UC K C) (F : Fun K "__len__" "Upset.__len__" s_Upset_len f fd) : FnOk P w K mg base CX0 1 f fd ["self"] (Pure (preLen K C)) := by
  refine meth_ok F sc_Upset_len (fun vs H Q E ⟨B, R, _, ⟨n, L, v, hv, _⟩, _⟩ => by rw [hv]; rfl) fun cdv A outer s H vs Q E hr h => ?_
  obtain ⟨B, R, e0, ⟨n, L, v, rfl, hu, hz, rfl⟩, y⟩ := h
  refine b_one (s_retY e0 (e_len U.len (e_kept UU ((e_var 0 rfl).imp fun v B1 e r => by cases r; exact isU_grow hu e)) ?_ (Nat.le_trans hz (by decide))) y)
  show some (L.map dScene).length = _
  rw [List.length_map]
/-- in -/
def covB (L : List Scene) : PyData → Bool
  | .tuple [.str p, b] => (rowsAt L p).any fun q => decide (LeR q (rowOf b))
  | _ => false
def inD (n : Nat) (L : List Scene) (d : PyData) : Bool := isSceneD (.int (n : Int)) d && covB L d
def preIn (K : PySem.W.Frag) (C : Addr) : List V → Hp → Rel → Prop := fun vs B R => ∃ n L v u d, vs = [v, u] ∧ IsU K C n L v B ∧ UGood n L ∧ Dp K B u d ∧ okScene d ∧ R = IsV (.bl (inD n L d))
theorem isRowD_inv {w b : PyData} (h : isRowD w b = true) : ∃ r : List Int, b = dRow r ∧ wOk w r.length = true := by
  cases b with
  | tuple xs =>
    have h' : ((decide (1 ≤ xs.length) && decide (xs.length ≤ 8)) && (wOk w xs.length && xs.all entB)) = true := h
    rw [Bool.and_eq_true, Bool.and_eq_true (wOk w xs.length)] at h'
    have e : xs = (xs.map intOf).map .int := by
      rw [List.map_map]
      have : ∀ x ∈ xs, (PyData.int ∘ intOf) x = id x := fun x hx => by
        have := List.all_eq_true.mp h'.2.2 x hx
        cases x <;> first | rfl | cases this
      rw [List.map_congr_left this, List.map_id]
    refine ⟨xs.map intOf, ?_, by rw [List.length_map]; exact h'.2.1⟩
    show PyData.tuple xs = .tuple ((xs.map intOf).map .int)
    rw [← e]
  | _ => cases h
theorem ok_contains {f : Addr} {fd : FuncData} (UU : UC K C) (GS : D_is_scene P w K mg base) (GC : D_covers_some P w K mg base) (GR : D_rows_of_post P w K mg base) (F : Fun K "__contains__" "Upset.__contains__" s_Upset_contains f fd) : FnOk P w K mg base CX0 5 f fd ["self", "scene"] (Pure (preIn K C)) := by
  refine meth_ok F sc_Upset_contains (fun vs H Q E ⟨B, R, _, ⟨n, L, v, u, d, hv, _⟩, _⟩ => by rw [hv]; rfl) fun cdv A outer s H vs Q E hr h => ?_
  obtain ⟨B, R, e0, ⟨n, L, v, u, d, rfl, hu, hL, hd, hok, rfl⟩, y⟩ := h
  have hself : EvE (cxOf CX0 P w K mg base N_Upset_contains "Upset.__contains__" (defScope s_Upset_contains) f cdv A outer s H E).nox (.Name "self" ⟨0, 0, 0, 0⟩) (start N_Upset_contains [v, u]) B (IsU K C n L) := (e_var 0 rfl).imp fun v B1 e r => by cases r; exact isU_grow hu e
  refine b_cons (s_if e0 (t_not (t_bl (e_callK (v := .bl (isSceneD (.int (n : Int)) d)) GS (hr.mono (by decide)) (ad_cons (e_varD 1 rfl hd) (ad_cons (e_width UU ((e_var 0 rfl).imp fun v B1 e r => by cases r; exact isU_grow hu e)).intD ad_nil)) rfl ⟨d, _, rfl, hok, .inr ⟨_, rfl⟩⟩ rfl))) (fun h5 H3 s3 => ?_) fun h5 H3 s3 => b_nil ?_)
  · refine b_one (s_retB s3.i (y.go s3) ?_)
    unfold inD
    rw [show isSceneD (.int (n : Int)) d = false by simpa using h5]
    rfl
  · have hsc : isSceneD (.int (n : Int)) d = true := by simpa using h5
    have hsc' := hsc
    unfold isSceneD at hsc'
    split at hsc'
    · rename_i a b
      rw [Bool.and_eq_true] at hsc'
      cases a with
      | str p =>
        obtain ⟨r, rfl, hw⟩ := isRowD_inv hsc'.2
        have hrl : (n : Int) = r.length := by
          have q : decide ((r.length : Int) = (n : Int)) = true := hw
          exact (of_decide_eq_true q).symm
        have er : inD n L (.tuple [.str p, dRow r]) = (rowsAt L p).any fun q => decide (LeR q r) := by
          show (isSceneD (.int (n : Int)) (.tuple [.str p, dRow r]) && (rowsAt L p).any fun q => decide (LeR q (rowOf (dRow r)))) = _
          rw [hsc, rowOf_dRow]
          rfl
        rw [er] at y
        refine b_one (s_retY s3.i (e_callK (v := .bl ((rowsAt L p).any fun q => decide (LeR q r))) GC (hr.mono (by decide)) (ad_cons (e_ixT (d := dRow r) (e_varD 1 rfl hd) e_int (atI_nat (j := 1) rfl)) (ad_cons (d := .list ((rowsAt L p).map dRow)) (EvP.imp (EvN.dl (n_callN GR (hr.mono (by decide)) (ad_cons (e_kept UU ((e_var 0 rfl).imp fun v B1 e r => by cases r; exact isU_grow hu e)) (ad_cons (e_ixT (d := .str p) (e_varD 1 rfl hd) e_int (atI_nat (j := 0) rfl)) ad_nil)) fun vs B1 e1 r1 => ⟨L, p, _, r1, .inr rfl, by have := hL.few; omega, rfl⟩)) fun _ _ _ r => isTL_d r) ad_nil)) rfl ⟨r, _, rfl, fun q hq => ?_⟩ ?_) (y.go s3))
        · have := (hL.all _ (mem_rowsAt.mp hq)).row.len
          show q.length = r.length
          rw [show q.length = n from this]
          omega
        · show V.bl ((rowsOf (.list ((rowsAt L p).map dRow))).any fun q => decide (LeR q (rowOf (dRow r)))) = _
          rw [rowsOf_d, rowOf_dRow]
      | _ => cases hsc'.1
    · cases hsc'
end
end K8

/-! Upset: or, and, ==, first_missing, nothing. -/
namespace K8
open PySem PySem.Spec PyProof.Rows L2 Evl
section
variable {X : Cx} {σ : Slots} {B B' H H' : Hp} {R R' Ra Rb : Rel} {e a b c l o : Expr} {es rest : List Expr} {pos p pos2 apos : Pos} {x y z v : V} {D : Ends} {CE C : Addr} {n kk : Nat} {L M : List Scene} {m : Str} {ps : List Str} {RA : RelA} {E : XK} {body : List Stmt}
/-- over a tuple of data, any target; T: what the slots say behind the target -/
theorem for_tG {α : Type} {g : TG} {tg : Expr} (L : List α) (enc : α → PyData) (P : Nat → Slots → Hp → Hp → Prop) (hp : PassesOwn (model X.prog X.w) X.A X.env X.xe) (hc : X.calm = true) (hg : PG X tg g) (e0 : Ex B H) (src : EvE X l σ B (IsD X.K (.tuple (L.map enc))))
    (h0 : ∀ B1 H1, Step B H B1 H1 → P 0 σ B1 H1)
    (ht : ∀ j a v σ' B' H', L[j]? = some a → Ex B B' → Ex B' H' → Dp X.K B' v (enc a) → P j σ' B' H' → g v σ' H' (wB X body (turn D fun σ3 B3 H3 => P (j + 1) σ3 B3 H3 ∧ Ex B' B3 ∧ Ex B3 H3))) (hd : ∀ σ' B' H', Ex B B' → Ex B' H' → P L.length σ' B' H' → D.nx σ' H')
    (gm : ∀ v σ' H' (Q Q' : Slots → Hp → Prop), (∀ σ2 H2, Q σ2 H2 → Q' σ2 H2) → g v σ' H' Q → g v σ' H' Q')
    (hs : ∀ x, foldedSetIterable l X.env x = pure x := by intro _; rfl) : wS X (.For tg l body [] pos) D σ H :=
  s_forT hp hc hg e0 src (fun v B1 H1 s1 r => by
    have r1 := r B1 (Ex.refl B1)
    cases r1 with
    | tup hq ha =>
      rename_i a xs
      have hl : xs.length = L.length := by rw [dps_len ha, List.length_map]
      refine ⟨a, xs, rfl, ex_t s1.i hq, fun j σ' H' => ∃ B', P j σ' B' H' ∧ Ex B1 B' ∧ Ex B' H', ⟨B1, h0 B1 H1 s1, Ex.refl B1, s1.i⟩, fun j σ' H' _ ⟨B', _, q1, q2⟩ => ex_t (q1.trans q2) hq, fun j x σ' H' hx ⟨B', q, q1, q2⟩ => ?_, fun σ' H' ⟨B', q, q1, q2⟩ => hd σ' B' H' (s1.b.trans q1) q2 (hl ▸ q)⟩
      obtain ⟨d, hd1, hd2⟩ := dps_get ha hx
      rw [List.getElem?_map] at hd1
      obtain ⟨w, hw, rfl⟩ := Option.map_eq_some_iff.mp hd1
      refine gm _ _ _ _ _ ?_ (ht j w x σ' B' H' hw (s1.b.trans q1) q2 (dp_grow hd2 q1) q)
      intro σ2 H2 h
      exact wB_imp h (fun _ _ ⟨B3, p, z1, z2⟩ => ⟨B3, p, q1.trans z1, z2⟩) (fun _ _ q => q) (fun _ _ q => q) (fun _ _ ⟨B3, p, z1, z2⟩ => ⟨B3, p, q1.trans z1, z2⟩)) hs
theorem gm_pair {K : PySem.W.Frag} {i j : Nat} : ∀ v σ' H' (Q Q' : Slots → Hp → Prop), (∀ σ2 H2, Q σ2 H2 → Q' σ2 H2) → gTup K 2 (gCons (gName i) (gCons (gName j) gNil)) v σ' H' Q → gTup K 2 (gCons (gName i) (gCons (gName j) gNil)) v σ' H' Q' := by
  rintro v σ' H' Q Q' h ⟨a, xs, h1, h2, h3, v1, r1, h4, v2, r2, h5, h6, h7⟩
  exact ⟨a, xs, h1, h2, h3, v1, r1, h4, v2, r2, h5, h6, h _ _ h7⟩
theorem go_pair2 {K : PySem.W.Frag} {i j : Nat} {d1 d2 : PyData} {Q : Slots → Hp → Prop} {σ' : Slots} (i0 : Ex B' H') (hd : Dp K B' v (.tuple [d1, d2])) (k : ∀ u1 u2, Dp K B' u1 d1 → Dp K B' u2 d2 → Q ((σ'.set i (some u1)).set j (some u2)) H') :
    gTup K 2 (gCons (gName i) (gCons (gName j) gNil)) v σ' H' Q := by
  cases hd with
  | tup h1 h2 =>
    cases h2 with
    | cons g1 h2 =>
      cases h2 with
      | cons g2 h2 =>
        cases h2
        exact ⟨_, _, rfl, ex_t i0 h1, rfl, _, _, rfl, _, _, rfl, rfl, k _ _ g1 g2⟩
end
/-! ### data equality -/
theorem eqvAll_ints : ∀ (a b : List Int), PyData.eqvAll (a.map .int) (b.map .int) = decide (a = b)
  | [], [] | [], _ :: _ | _ :: _, [] => by
    simp [PyData.eqvAll]
  | x :: a, y :: b => by
    have ih := eqvAll_ints a b
    simp only [List.map_cons, PyData.eqvAll, PyData.eqv, ih]
    by_cases h : x = y <;> by_cases h2 : a = b <;> simp [h, h2]
theorem eqv_row (a b : List Int) : PyData.eqv (dRow a) (dRow b) = decide (a = b) := by
  show PyData.eqv (.tuple _) (.tuple _) = _
  simp only [PyData.eqv]
  exact eqvAll_ints a b
theorem eqv_scene (s t : Scene) : PyData.eqv (dScene s) (dScene t) = decide (s = t) := by
  show PyData.eqv (.tuple [.str s.1, dRow s.2]) (.tuple [.str t.1, dRow t.2]) = _
  simp only [PyData.eqv, PyData.eqvAll, eqv_row]
  obtain ⟨s1, s2⟩ := s
  obtain ⟨t1, t2⟩ := t
  by_cases h : s1 = t1 <;> by_cases h2 : s2 = t2 <;> simp [h, h2]
theorem eqvAll_map {α : Type} [DecidableEq α] (enc : α → PyData) (h : ∀ a b, PyData.eqv (enc a) (enc b) = decide (a = b)) : ∀ (L M : List α), PyData.eqvAll (L.map enc) (M.map enc) = decide (L = M)
  | [], [] | [], _ :: _ | _ :: _, [] => by
    simp [PyData.eqvAll]
  | x :: a, y :: b => by
    have ih := eqvAll_map enc h a b
    simp only [List.map_cons, PyData.eqvAll, h, ih]
    by_cases h1 : x = y <;> by_cases h2 : a = b <;> simp [h1, h2]
/-! ### what == can look at -/
def Lay (k : Nat) (d : PyData) : Prop := d.canLay0 = true ∧ d.depth ≤ k
theorem Lay.sh {k : Nat} {d : PyData} (h : Lay k d) (hk : k ≤ 64 := by decide) : SeqAt.shaped d = true := by
  unfold SeqAt.shaped
  rw [h.1, decide_eq_true (Nat.le_trans h.2 hk)]
  rfl
theorem lay_all {k : Nat} : ∀ (xs : List PyData), (∀ x ∈ xs, Lay k x) → PyData.canLayAll0 xs = true ∧ PyData.depthAll xs ≤ k
  | [], _ => ⟨by simp [PyData.canLayAll0], by simp [PyData.depthAll]⟩
  | x :: xs, h => by
    have h1 := h x List.mem_cons_self
    have ih := lay_all xs fun y hy => h y (List.mem_cons_of_mem _ hy)
    refine ⟨by simp [PyData.canLayAll0, h1.1, ih.1], ?_⟩
    simp only [PyData.depthAll]
    exact Nat.max_le.mpr ⟨h1.2, ih.2⟩
theorem lay_tup {k : Nat} {xs : List PyData} (h : ∀ x ∈ xs, Lay k x) : Lay (k + 1) (.tuple xs) := by
  have q := lay_all xs h
  refine ⟨by simp [PyData.canLay0, q.1], ?_⟩
  simp only [PyData.depth]
  omega
theorem lay_lst {k : Nat} {xs : List PyData} (h : ∀ x ∈ xs, Lay k x) : Lay (k + 1) (.list xs) := by
  have q := lay_all xs h
  refine ⟨by simp [PyData.canLay0, q.1], ?_⟩
  simp only [PyData.depth]
  omega
theorem lay_int {i : Int} : Lay 1 (.int i) := ⟨by simp [PyData.canLay0], by simp [PyData.depth]⟩
theorem lay_bool {i : Bool} : Lay 1 (.bool i) := ⟨by simp [PyData.canLay0], by simp [PyData.depth]⟩
theorem lay_non : Lay 1 .none := ⟨by simp [PyData.canLay0], by simp [PyData.depth]⟩
theorem lay_str {s : Str} (h : PyData.strOk s = true) : Lay 1 (.str s) := ⟨by simp [PyData.canLay0, h], by simp [PyData.depth]⟩
theorem lay_row (r : List Int) : Lay 2 (dRow r) := lay_tup fun x hx => by
  obtain ⟨i, _, rfl⟩ := List.mem_map.mp hx
  exact lay_int
theorem Lay.up {j k : Nat} {d : PyData} (h : Lay j d) (hk : j ≤ k) : Lay k d := ⟨h.1, Nat.le_trans h.2 hk⟩
theorem lay_scene {s : Scene} (h : PyData.strOk s.1 = true) : Lay 3 (dScene s) := lay_tup fun x hx => by
  rcases List.mem_cons.1 hx with e | hx
  · rw [e]
    exact (lay_str h).up (by decide)
  · rw [List.mem_singleton.mp hx]
    exact lay_row _
theorem nameB_ok {s : Str} (h : nameB s = true) : PyData.strOk s = true := by
  unfold nameB at h
  rw [Bool.and_eq_true, Bool.and_eq_true (headL s), Bool.and_eq_true (s.cps.toList.all _)] at h
  unfold PyData.strOk
  rw [← Array.all_toList]
  rw [List.all_eq_true]
  intro c hc
  have := List.all_eq_true.mp h.2.2.1 c hc
  unfold letterN digitN at this
  simp only [Bool.or_eq_true, Bool.and_eq_true, decide_eq_true_eq] at this ⊢
  omega
theorem ScOk.lay {n : Nat} {s : Scene} (h : ScOk n s) : Lay 3 (dScene s) := lay_scene (nameB_ok h.name)
section
variable {P : Program} {w : World} {K : PySem.W.Frag} {mg : Str → Option Value} {base : Heap} {C CE : Addr}
/-! ### or, and -/
def preOr (K : PySem.W.Frag) (C : Addr) : List V → Hp → Rel → Prop := fun vs B R => ∃ n L M v u, vs = [v, u] ∧ IsU K C n L v B ∧ IsU K C n M u B ∧ UGood n (L ++ M) ∧ R = IsU K C n (keptF (L ++ M))
theorem n_listKept {X : Cx} {σ : Slots} {B : Hp} {o : Expr} {p pos apos : Pos} {n : Nat} {L : List Scene} (hm : X.mg "list" = none) (UU : UC X.K C) (ho : EvE X o σ B (IsU X.K C n L)) (hb : attributeBase o "kept" X.env (eval o X.env) = eval o X.env := by rfl) (hg : Gl X "list" := by rfl)
    (hs : starEach [.Attribute o "kept" apos] X.env = (false, eval (.Attribute o "kept" apos) X.env) :: starEach [] X.env := by rfl) (hpl : (backTo pos (starEach [] X.env)).any (·.1) = false := by rfl) : EvE X (.Call (.Name "list" p) [.Attribute o "kept" apos] [] pos) σ B (IsTL X.K (L.map dScene)) :=
  (n_listOf hm ((e_kept UU ho hb).imp fun _ _ _ r => .inr r) hg hs hpl).dl
theorem ok_or {f : Addr} {fd : FuncData} (U : Bi mg) (UU : UC K C) (MU : MkU P w K mg base C CE) (F : Fun K "__or__" "Upset.__or__" s_Upset_or f fd) : FnOk P w K mg base CX0 7 f fd ["self", "other"] (Pure (preOr K C)) := by
  refine meth_ok F sc_Upset_or (fun vs H Q E ⟨B, R, _, ⟨n, L, M, v, u, hv, _⟩, _⟩ => by rw [hv]; rfl) fun cdv A outer s H vs Q E hr h => ?_
  obtain ⟨B, R, e0, ⟨n, L, M, v, u, rfl, hu, hu2, hL, rfl⟩, y⟩ := h
  refine b_one (s_retY e0 (e_makeU (L := L ++ M) MU (hr.mono (by decide)) hL (e_width UU ((e_var 0 rfl).imp fun v B1 e r => by cases r; exact isU_grow hu e)) ?_) y)
  rw [List.map_append]
  refine EvP.imp (e_catL (n_listKept U.list UU ((e_var 0 rfl).imp fun v B1 e r => by cases r; exact isU_grow hu e)) (n_listKept U.list UU ((e_var 1 rfl).imp fun v B1 e r => by cases r; exact isU_grow hu2 e)) ?_) fun _ _ _ r => isTL_d r
  have := hL.few
  rw [List.length_append] at this
  rw [List.length_map, List.length_map]
  omega
def preNo (K : PySem.W.Frag) (C : Addr) : List V → Hp → Rel → Prop := fun vs B R => ∃ n : Nat, vs = [.int (n : Int)] ∧ 1 ≤ n ∧ n ≤ 8 ∧ R = IsU K C n (keptF [])
theorem ok_nothing {f : Addr} {fd : FuncData} (MU : MkU P w K mg base C CE) (F : Fun K "nothing" "Upset.nothing" s_Upset_nothing f fd) : FnOk P w K mg base CX0 7 f fd ["width"] (Pure (preNo K C)) := by
  refine meth_ok F sc_Upset_nothing (fun vs H Q E ⟨B, R, _, ⟨n, hv, _⟩, _⟩ => by rw [hv]; rfl) fun cdv A outer s H vs Q E hr h => ?_
  obtain ⟨B, R, e0, ⟨n, rfl, h1, h8, rfl⟩, y⟩ := h
  exact b_one (s_retY e0 (e_makeU (L := []) MU (hr.mono (by decide)) ⟨h1, h8, by decide, fun _ h => absurd h (by simp)⟩ (e_var 0 rfl) (e_lstD ad_nil (by decide))) y)
end
end K8

/-! Upset: and, ==, first_missing. -/
namespace K8
open PySem PySem.Spec PyProof.Rows L2 Evl
theorem joinR_nn {r q : List Int} (h1 : ∀ x ∈ r, 0 ≤ x) : ∀ x ∈ joinR r q, 0 ≤ x := by
  induction r generalizing q with
  | nil => intro x hx; cases q <;> simp [joinR] at hx
  | cons a as ih =>
    intro x hx
    cases q with
    | nil => simp [joinR] at hx
    | cons b bs =>
      have hx' : x ∈ (if b > a then b else a) :: joinR as bs := hx
      have ha := h1 a List.mem_cons_self
      rcases List.mem_cons.1 hx' with e | hx'
      · rw [e]
        split <;> omega
      · exact ih (fun y hy => h1 y (List.mem_cons_of_mem _ hy)) x hx'
theorem joinR_lt {C : Int} {r q : List Int} (h1 : ∀ x ∈ r, x < C) (h2 : ∀ x ∈ q, x < C) : ∀ x ∈ joinR r q, x < C := by
  induction r generalizing q with
  | nil => intro x hx; cases q <;> simp [joinR] at hx
  | cons a as ih =>
    intro x hx
    cases q with
    | nil => simp [joinR] at hx
    | cons b bs =>
      have hx' : x ∈ (if b > a then b else a) :: joinR as bs := hx
      have ha := h1 a List.mem_cons_self
      have hb := h2 b List.mem_cons_self
      rcases List.mem_cons.1 hx' with e | hx'
      · rw [e]
        split <;> omega
      · exact ih (fun y hy => h1 y (List.mem_cons_of_mem _ hy)) (fun y hy => h2 y (List.mem_cons_of_mem _ hy)) x hx'
theorem joins_ok {n : Nat} {L M : List Scene} (hL : UGood n L) (hM : UGood n M) (hf : (joins L M).length < 64) : UGood n (joins L M) := by
  refine ⟨hL.pos, hL.top, hf, fun s hs => ?_⟩
  obtain ⟨a, ha, b, hb, e, rfl⟩ := mem_joins.mp hs
  have ga := hL.all a ha
  have gb := hM.all b hb
  refine ⟨ga.name, ⟨?_, hL.pos, hL.top, joinR_nn ga.row.nn⟩, fun x hx => ⟨joinR_nn ga.row.nn x hx, joinR_lt (fun y hy => (ga.bd y hy).2) (fun y hy => (gb.bd y hy).2) x hx⟩⟩
  rw [joinR_len (by rw [ga.row.len, gb.row.len]), ga.row.len]
section
variable {P : Program} {w : World} {K : PySem.W.Frag} {mg : Str → Option Value} {base : Heap} {C CE : Addr}
def preAnd (K : PySem.W.Frag) (C : Addr) : List V → Hp → Rel → Prop := fun vs B R => ∃ n L M v u, vs = [v, u] ∧ IsU K C n L v B ∧ IsU K C n M u B ∧ UGood n L ∧ UGood n M ∧ (joins L M).length < 64 ∧ R = IsU K C n (keptF (joins L M))
theorem ok_and {f : Addr} {fd : FuncData} (U : Bi mg) (UU : UC K C) (MU : MkU P w K mg base C CE) (GR : D_rows_of_post P w K mg base) (GJ : D_joined P w K mg base) (F : Fun K "__and__" "Upset.__and__" s_Upset_and f fd) : FnOk P w K mg base CX0 7 f fd ["self", "other"] (Pure (preAnd K C)) := by
  refine meth_ok F sc_Upset_and (fun vs H Q E ⟨B, R, _, ⟨n, L, M, v, u, hv, _⟩, _⟩ => by rw [hv]; rfl) fun cdv A outer s H vs Q E hr h => ?_
  obtain ⟨B, R, e0, ⟨n, L, M, v, u, rfl, hu, hu2, hL, hM, hf, rfl⟩, y⟩ := h
  obtain ⟨fj, mj, kj, FJ⟩ := GJ.ex
  refine b_cons (s_setN 2 e0 (n_lst (RA := ANil) a_nil fun vs _ e => by cases e; decide) (fun q B1 H1 n0 n1 s1 r1 => ?_) sc_Upset_and.nd)
  obtain ⟨vs0, hq1, hq2⟩ := r1
  have ev : vs0 = [] := hq2 B1 (Ex.refl B1)
  subst ev
  have hu1 := isU_grow hu s1.b
  have hu21 := isU_grow hu2 s1.b
  refine b_cons (for_tG (g := gTup K 2 (gCons (gName 3) (gCons (gName 4) gNil))) L dScene (fun j σ' B' H' => ∃ acc a b c, σ' = [some v, some u, some (.ref q), a, b, c] ∧ Step B H B' H' ∧ B' q = none ∧ H' q = some (.lst acc) ∧ DpAll K B' acc ((joins (L.take j) M).map dScene)) PassesOwn.never rfl (pg_tup rfl (pgs_cons (pg_name (i := 3) sc_Upset_and.nd rfl (.inl rfl)) (pgs_cons (pg_name (i := 4) sc_Upset_and.nd rfl (.inl rfl)) pgs_nil))) s1.i (e_kept UU ((e_var 0 rfl).imp fun v B1 e r => by cases r; exact isU_grow hu1 e)) (fun B2 H2 s2 => ⟨[], none, none, none, rfl, s1.trans s2, s2.off _ _ n1 hq1, s2.h _ _ hq1, .nil⟩) ?_ ?_ gm_pair)
  · rintro j a x σ' B' H' ha eB i' hx ⟨acc, a1, b1, c1, rfl, st, nq, hq, hacc⟩
    have hm := List.mem_of_getElem? ha
    have ga := hL.all a hm
    refine go_pair2 i' hx fun u1 u2 hu1' hu2' => ?_
    have hu2' : Dp K B' u2 (dRow a.2) := hu2'
    have hz : (rowsAt M a.1).length ≤ 10000 := by
      have := hM.few
      unfold rowsAt
      rw [List.length_map]
      exact Nat.le_trans (List.length_filter_le _ _) (by omega)
    refine b_one (for_l (i := 5) (rowsAt M a.1) dRow (fun i σ2 B2 H2 => ∃ acc c, σ2 = [some v, some u, some (.ref q), some u1, some u2, c] ∧ Step B H B2 H2 ∧ B2 q = none ∧ H2 q = some (.lst acc) ∧ DpAll K B2 acc ((joins (L.take j) M).map dScene ++ (((rowsAt M a.1).map fun r => dScene (a.1, joinR a.2 r)).take i)) ∧ Ex B' B2) PassesOwn.never rfl (pg_name sc_Upset_and.nd rfl (.inl rfl)) st.i (EvP.imp (EvN.dl (n_callN GR (hr.mono (by decide)) (ad_cons (e_kept UU ((e_var 1 rfl).imp fun v B1 e r => by cases r; exact isU_grow (isU_grow hu21 eB) e)) (ad_cons (e_varD 3 rfl hu1') ad_nil)) fun vs B3 e3 r3 => ⟨M, a.1, _, r3, .inr rfl, by have := hM.few; omega, rfl⟩)) fun _ _ _ r => isTL_d r) (fun B2 H2 s2 => ⟨acc, c1, rfl, st.trans s2, s2.off _ _ nq hq, s2.h _ _ hq, by rw [List.take_zero, List.append_nil]; exact dps_grow hacc s2.b, s2.b⟩) ?_ ?_)
    · rintro i r y2 σ2 B2 H2 hr2 eB2 i2 hy2 ⟨acc2, c2, rfl, st2, nq2, hq2', hacc2, eBB⟩
      have hmr : (a.1, r) ∈ M := mem_rowsAt.mp (List.mem_of_getElem? hr2)
      have gr := hM.all _ hmr
      have hlen : acc2.length < 100000 := by
        rw [dps_len hacc2, List.length_append, List.length_map]
        have h1 := flat_pre (L := L) (f := fun s => (rowsAt M s.1).map fun r => ((s.1, joinR s.2 r) : Scene)) (j := i) ha
        have h2 : (joins (L.take j) M).length + (((rowsAt M a.1).map fun r => ((a.1, joinR a.2 r) : Scene)).take i).length < 64 := by
          rw [List.length_append] at h1
          exact Nat.lt_of_le_of_lt h1 hf
        rw [List.length_take, List.length_map] at h2
        rw [List.length_take, List.length_map]
        omega
      refine b_one (s_app st2.i (e_var 2 rfl) (e_tupD (ds := [.str a.1, dRow (joinR a.2 r)]) (ad_cons (e_varD 3 rfl (dp_grow hu1' eBB)) (ad_cons (e_callFR (R := IsD K (dRow (joinR a.2 r))) FJ (hr.mono (by decide)) mj kj pass0 (ad_cons (e_varD 4 rfl (dp_grow hu2' eBB)) (ad_cons (e_varD 5 rfl hy2) ad_nil)) fun vs B3 e3 r3 H3 i3 Q' q' => ⟨B3, _, i3, ⟨n, a.2, r, r3, ga.row, gr.row, rfl⟩, q'⟩) ad_nil)) (by show 2 ≤ 100000; decide)) hq2' hlen fun v4 B4 H4 s4 r4 => ?_)
      have n4 : B4 q = none := s4.off _ _ nq2 hq2'
      have st4 := st2.trans s4
      refine ⟨B4, ⟨acc2 ++ [v4], some y2, rfl, st4.put n4 n0, n4, upd_same, ?_, eBB.trans s4.b⟩, s4.b, ex_put s4.i n4⟩
      have ej : ((rowsAt M a.1).map fun r => dScene (a.1, joinR a.2 r)).take (i + 1) = ((rowsAt M a.1).map fun r => dScene (a.1, joinR a.2 r)).take i ++ [dScene (a.1, joinR a.2 r)] := by
        have hjl := (List.getElem?_eq_some_iff.mp hr2).1
        rw [List.take_succ_eq_append_getElem (by rw [List.length_map]; exact hjl), List.getElem_map, (List.getElem?_eq_some_iff.mp hr2).2]
      rw [ej, ← List.append_assoc]
      exact dps_append (dps_grow hacc2 s4.b) (.cons (r4 B4 (Ex.refl B4)) .nil)
    · rintro σ2 B2 H2 eB2 i2 ⟨acc2, c2, rfl, st2, nq2, hq2', hacc2, eBB⟩
      refine ⟨B2, ⟨acc2, _, _, _, rfl, st2, nq2, hq2', ?_⟩, eBB, i2⟩
      have eT : ((rowsAt M a.1).map fun r => dScene (a.1, joinR a.2 r)).take (rowsAt M a.1).length = (rowsAt M a.1).map fun r => dScene (a.1, joinR a.2 r) := List.take_of_length_le (by rw [List.length_map]; exact Nat.le_refl _)
      rw [eT] at hacc2
      have ej : joins (L.take (j + 1)) M = joins (L.take j) M ++ (rowsAt M a.1).map fun r => (a.1, joinR a.2 r) := flat_next ha
      rw [ej, List.map_append, List.map_map]
      exact hacc2
  · rintro σ' B' H' eB i' ⟨acc, a1, b1, c1, rfl, st, nq, hq, hacc⟩
    rw [List.take_length] at hacc
    have stj := st.join nq n0 hq
    exact b_one (s_retY stj.i (e_makeU (L := joins L M) MU (hr.mono (by decide)) (joins_ok hL hM hf) (e_width UU ((e_var 0 rfl).imp fun v B1 e r => by cases r; exact isU_grow (isU_grow hu1 (eB.trans (Ex.new nq))) e)) (e_varD 2 rfl (.lst (sq_of upd_same) (dps_grow hacc (Ex.new nq))))) (y.go stj))
end
/-! ### in, not in -/
section
variable {X : Cx} {σ : Slots} {B B' H H' : Hp} {a b : Expr} {pos p pos2 apos : Pos} {C : Addr} {n : Nat} {L M : List Scene} {d : PyData}
abbrev D_contains (P : Program) (w : World) (K : PySem.W.Frag) (mg : Str → Option Value) (base : Heap) (C : Addr) : Prop := Mth P w K mg base C "__contains__" ["self", "scene"] 5 (Pure (preIn K C))
theorem rvp_in {neg : Bool} {x y : V} {B1 : Hp} {K : PySem.W.Frag} (rx : IsD K d x B1) (ry : IsU K C n L y B1) (hL : UGood n L) (hd : okScene d) : RvP (rInO C (Pure (preIn K C)) E0 neg) x y B1 (IsV (.bl (if neg then !inD n L d else inD n L d))) := fun H1 i1 Q q => by
  obtain ⟨z, dx, kv, rfl, h1, h2⟩ := id ry
  exact ⟨z, dx, _, rfl, i1 _ _ h1, B1, IsV (.bl (inD n L d)), i1, ⟨n, L, _, x, d, rfl, ry, hL, rx, hd, rfl⟩, fun v B2 H2 s r => ⟨inD n L d, r B2 (Ex.refl B2), q.valS s⟩⟩
theorem t_inU (G : D_contains X.prog X.w X.K X.mg X.base C) (hr : Room 5 X.A) (ha : EvE X a σ B (IsD X.K d)) (hb : EvE X b σ B (IsU X.K C n L)) (hL : UGood n L) (hd : okScene d) (hm : behindInMarks .In b = false := by rfl) : EvTE X (.Compare a [.In] [b] pos) σ B (inD n L d) := by
  obtain ⟨f, fd, h1, h2, h3, h4, F⟩ := G.ex
  exact t_cmp (or_inO F hr h4 pass0 h1 h2) ha hb (fun x y B1 e rx ry => rvp_in (neg := false) rx ry hL hd) hm
theorem e_inU (G : D_contains X.prog X.w X.K X.mg X.base C) (hr : Room 5 X.A) (ha : EvE X a σ B (IsD X.K d)) (hb : EvE X b σ B (IsU X.K C n L)) (hL : UGood n L) (hd : okScene d) (hm : behindInMarks .In b = false := by rfl) : EvE X (.Compare a [.In] [b] pos) σ B (IsV (.bl (inD n L d))) := by
  obtain ⟨f, fd, h1, h2, h3, h4, F⟩ := G.ex
  exact e_cmp (or_inO F hr h4 pass0 h1 h2) ha hb (fun x y B1 e rx ry => rvp_in (neg := false) rx ry hL hd) hm
theorem t_notInU (G : D_contains X.prog X.w X.K X.mg X.base C) (hr : Room 5 X.A) (ha : EvE X a σ B (IsD X.K d)) (hb : EvE X b σ B (IsU X.K C n L)) (hL : UGood n L) (hd : okScene d) (hm : behindInMarks .NotIn b = false := by rfl) : EvTE X (.Compare a [.NotIn] [b] pos) σ B (!inD n L d) := by
  obtain ⟨f, fd, h1, h2, h3, h4, F⟩ := G.ex
  exact t_cmp (or_notInO F hr h4 pass0 h1 h2) ha hb (fun x y B1 e rx ry => rvp_in (neg := true) rx ry hL hd) hm
/-- what isinstance asks of Upset -/
structure UI (K : PySem.W.Frag) (mg : Str → Option Value) (C : Addr) : Prop where
  uc : UC K C
  at_ : mg "Upset" = some (.ref C)
  (ha : PySem.W.findIn K (.ref C) "__class__" = some (some (.builtin "object.__class__")))
  (hn : PySem.W.specialIn K (.builtin "object.__class__") "__get__" = some (some (.builtin "getset_descriptor.__get__")))
  (htk : PySem.W.takesIn K (.builtin "object.__class__") = some true)
  (hm : PySem.W.mroIn K C (.type "object") = some true)
  (me : PySem.W.kitOne K (.ref C) (.ref C) = some true)
  tu : PySem.W.kitOne K (.type "tuple") (.ref C) = some false
/-- isinstance(e, Upset) -/
theorem e_isU (UU : UI X.K X.mg C) {R : Rel} {k : Bool} (hi : X.mg "isinstance" = none) (he : EvE X a σ B R) (hR : ∀ v B1, R v B1 → (k = true ∧ ∃ x dx fs, v = .ref x ∧ B1 x = some (.ins C dx fs)) ∨ (k = false ∧ ∃ x ys, v = .ref x ∧ B1 x = some (.tup ys))) {pT : Pos} (hg : Gl X "Upset" := by rfl) (hgi : Gl X "isinstance" := by rfl)
    (hs : starEach [a, .Name "Upset" pT] X.env = (false, eval a X.env) :: starEach [.Name "Upset" pT] X.env := by rfl) (hs2 : starEach [.Name "Upset" pT] X.env = (false, eval (.Name "Upset" pT) X.env) :: starEach [] X.env := by rfl) (hpl : (backTo pos (starEach [.Name "Upset" pT] X.env)).any (·.1) = false := by rfl) :
    EvE X (.Call (.Name "isinstance" p) [a, .Name "Upset" pT] [] pos) σ B (IsV (.bl k)) :=
  e_callB (R := IsV (.bl k)) call_isi hi (by decide +kernel) (a_cons he (a_one (e_glob (v := .ref C) UU.at_ rfl hg) hs2) hs) (fun vs B1 e1 r H1 i1 Q q => by
    obtain ⟨v1, vs1, rfl, r1, v2, vs2, rfl, r2, r3⟩ := r
    have e2 : v2 = .ref C := r2
    have e3 : vs2 = [] := r3
    subst e2 e3
    rcases hR v1 B1 r1 with ⟨rfl, x, dx, fs, rfl, hx⟩ | ⟨rfl, x, ys, rfl, hx⟩
    · exact ⟨_, .ref C, _, _, true, rfl, .own C, .base (.ins (i1 _ _ hx) UU.uc.cls UU.ha UU.hn UU.htk UU.hm), UU.me, q.val i1⟩
    · exact ⟨_, .ref C, _, _, false, rfl, .own C, .base (.tup (i1 _ _ hx)), UU.tu, q.val i1⟩) hgi (he := hs) (hpl := hpl)
end
theorem inD_scene {n : Nat} {M : List Scene} {s : Scene} (h : ScOk n s) : inD n M (dScene s) = decide (Up M s) := by
  have h1 := h.is (wOk_int n)
  unfold inD
  rw [h1, Bool.true_and]
  show ((rowsAt M s.1).any fun q => decide (LeR q (rowOf (dRow s.2)))) = _
  rw [rowOf_dRow]
  rw [Bool.eq_iff_iff, List.any_eq_true, decide_eq_true_iff]
  constructor
  · rintro ⟨q, hq, e⟩
    exact ⟨(s.1, q), mem_rowsAt.mp hq, rfl, of_decide_eq_true e⟩
  · rintro ⟨b, hb, e1, e2⟩
    refine ⟨b.2, mem_rowsAt.mpr ?_, decide_eq_true e2⟩
    rw [e1]
    exact hb
def missS (L M : List Scene) : Option Scene := L.find? fun s => !decide (Up M s)
def missD (L M : List Scene) : PyData := match missS L M with | some s => dScene s | none => .none
section
variable {P : Program} {w : World} {K : PySem.W.Frag} {mg : Str → Option Value} {base : Heap} {C CE : Addr}
def preEq (K : PySem.W.Frag) (C : Addr) : List V → Hp → Rel → Prop := fun vs B R => ∃ n L v u, vs = [v, u] ∧ IsU K C n L v B ∧ UGood n L ∧ ((∃ m M, IsU K C m M u B ∧ UGood m M ∧ R = IsV (.bl (decide (n = m) && decide (L = M)))) ∨ (∃ b ys, u = .ref b ∧ B b = some (.tup ys) ∧ R = IsV (.bl false)))
theorem lay_scenes {n : Nat} {L : List Scene} (h : UGood n L) : ∀ d ∈ L.map dScene, Lay 3 d := fun d hd => by
  obtain ⟨s, hs, rfl⟩ := List.mem_map.mp hd
  exact (h.all s hs).lay
theorem ok_eq {f : Addr} {fd : FuncData} (U : Bi mg) (UU : UI K mg C) (F : Fun K "__eq__" "Upset.__eq__" s_Upset_eq f fd) : FnOk P w K mg base CX0 1 f fd ["self", "other"] (Pure (preEq K C)) := by
  refine meth_ok F sc_Upset_eq (fun vs H Q E ⟨B, R, _, ⟨n, L, v, u, hv, _⟩, _⟩ => by rw [hv]; rfl) fun cdv A outer s H vs Q E hr h => ?_
  obtain ⟨B, R, e0, ⟨n, L, v, u, rfl, hu, hL, hor⟩, y⟩ := h
  have hun : (cxOf CX0 P w K mg base N_Upset_eq "Upset.__eq__" (defScope s_Upset_eq) f cdv A outer s H E).nox.A.units + 64 < cLine := hr.units
  rcases hor with ⟨m, M, hm, hM, rfl⟩ | ⟨b, ys, rfl, hb, rfl⟩
  · refine b_one (s_retY e0 (R := IsV (.bl (true && (decide (n = m) && decide (L = M))))) (e_and (k1 := true) (e_isU UU U.isinstance ((e_var 1 rfl).imp (R' := IsU K C m M) fun v B1 e r => by cases r; exact isU_grow hm e) fun v B1 r => by
      obtain ⟨x, dx, kv, rfl, h1, h2⟩ := r
      exact .inl ⟨rfl, x, dx, _, rfl, h1⟩) fun _ => e_and (k1 := decide (n = m)) ?_ fun _ => e_one ?_) y)
    · have e : decide (n = m) = decide (V.int (n : Int) = V.int (m : Int)) := by
        rw [dec_intV]
        exact decide_eq_decide.2 (by omega)
      rw [e]
      exact e_eqV (e_width UU.uc ((e_var 0 rfl).imp fun v B1 e r => by cases r; exact isU_grow hu e)) (e_width UU.uc ((e_var 1 rfl).imp fun v B1 e r => by cases r; exact isU_grow hm e)) rfl
    · have e : decide (L = M) = PyData.eqv (.tuple (L.map dScene)) (.tuple (M.map dScene)) := by
        simp only [PyData.eqv]
        rw [eqvAll_map dScene eqv_scene]
      rw [e]
      exact e_eqD hun (e_kept UU.uc ((e_var 0 rfl).imp fun v B1 e r => by cases r; exact isU_grow hu e)) (e_kept UU.uc ((e_var 1 rfl).imp fun v B1 e r => by cases r; exact isU_grow hm e)) (lay_tup (lay_scenes hL)).sh (lay_tup (lay_scenes hM)).sh
  · refine b_one (s_retY e0 (R := IsV (.bl (false && false))) (e_and (k1 := false) (e_isU (R := fun v B1 => v = .ref b ∧ B1 b = some (.tup ys)) UU U.isinstance ((e_var 1 rfl).imp fun v B1 e r => ⟨r, e _ _ hb⟩) fun v B1 r => .inr ⟨rfl, b, ys, r.1, r.2⟩) fun h => by cases h) y)
def preFM (K : PySem.W.Frag) (C : Addr) : List V → Hp → Rel → Prop := fun vs B R => ∃ n L M v u, vs = [v, u] ∧ IsU K C n L v B ∧ IsU K C n M u B ∧ UGood n L ∧ UGood n M ∧ R = IsD K (missD L M)
theorem ok_first_missing {f : Addr} {fd : FuncData} (UU : UC K C) (G : D_contains P w K mg base C) (F : Fun K "first_missing" "Upset.first_missing" s_Upset_first_missing f fd) : FnOk P w K mg base CX0 6 f fd ["self", "other"] (Pure (preFM K C)) := by
  refine meth_ok F sc_Upset_first_missing (fun vs H Q E ⟨B, R, _, ⟨n, L, M, v, u, hv, _⟩, _⟩ => by rw [hv]; rfl) fun cdv A outer s H vs Q E hr h => ?_
  obtain ⟨B, R, e0, ⟨n, L, M, v, u, rfl, hu, hu2, hL, hM, rfl⟩, y⟩ := h
  refine b_cons (for_tS (i := 2) L dScene (fun j σ' => ∃ z, σ' = [some v, some u, z] ∧ ∀ s ∈ L.take j, Up M s) PassesOwn.never rfl (pg_name sc_Upset_first_missing.nd rfl (.inl rfl)) e0 (e_kept UU ((e_var 0 rfl).imp fun v B1 e r => by cases r; exact isU_grow hu e)) ⟨none, rfl, fun _ h => by simp at h⟩ ?_ ?_)
  · rintro j a x σ' B' H' ha st hx ⟨z, rfl, hall⟩
    have hm := List.mem_of_getElem? ha
    have ga := hL.all a hm
    refine b_one (s_if st.i ((t_notInU G (hr.mono (by decide)) (e_varD 2 rfl hx) ((e_var 1 rfl).imp fun v B1 e r => by cases r; exact isU_grow (isU_grow hu2 st.b) e) hM ga.okd).is (by rw [inD_scene ga])) (fun h5 H3 s3 => ?_) fun h5 H3 s3 => b_nil ⟨B', ⟨_, rfl, fun q hq => ?_⟩, s3⟩)
    · refine b_one (s_retY s3.i (e_varD 2 rfl hx) ?_)
      have e : missD L M = dScene a := by
        unfold missD missS
        have hi := (List.getElem?_eq_some_iff.mp ha).1
        have e1 : L.find? (fun s => !decide (Up M s)) = some a := by
          rw [List.find?_eq_some_iff_append]
          refine ⟨h5, L.take j, L.drop (j + 1), ?_, fun s hs => ?_⟩
          · rw [← (List.getElem?_eq_some_iff.mp ha).2, List.getElem_cons_drop, List.take_append_drop]
          · rw [decide_eq_true (hall s hs)]
            rfl
        rw [e1]
      rw [e] at y
      exact (y.go st).go s3
    · have hi := (List.getElem?_eq_some_iff.mp ha).1
      rw [List.take_succ_eq_append_getElem hi, (List.getElem?_eq_some_iff.mp ha).2] at hq
      rcases List.mem_append.1 hq with hq | hq
      · exact hall q hq
      · rw [List.mem_singleton.1 hq]
        simpa using h5
  · rintro σ' B' H' st ⟨z, rfl, hall⟩
    rw [List.take_length] at hall
    have e : missD L M = .none := by
      unfold missD missS
      have e1 : L.find? (fun s => !decide (Up M s)) = none := by
        rw [List.find?_eq_none]
        intro s hs
        rw [decide_eq_true (hall s hs)]
        simp
      rw [e1]
    rw [e] at y
    exact b_one (s_retY st.i (e_non.d .non) (y.go st))
end
end K8

/-! Upset.of; calls of it, of nothing. -/
namespace K8
open PySem PySem.Spec PyProof.Rows L2 Evl
theorem preMake.go {K : PySem.W.Frag} {C CE : Addr} {n : Nat} {ds : List PyData} {B H B1 H1 : Hp} {Q : VK} {E : XK} (h : preMake K C CE n ds B H Q E) (s : Step B H B1 H1) : preMake K C CE n ds B1 H1 Q E := by
  obtain ⟨h1, h2, h3⟩ := h
  refine ⟨h1, h2, ?_⟩
  rcases h3 with ⟨L, hL, y⟩ | ⟨d, hd, k⟩
  · exact .inl ⟨L, hL, y.go s⟩
  · exact .inr ⟨d, hd, fun v B2 H2 xd s2 r n => k v B2 H2 xd (s.trans s2) r n⟩
section
variable {X : Cx} {σ : Slots} {B B' H H' : Hp} {R R' Ra Rb : Rel} {e a b c l o : Expr} {es rest : List Expr} {pos p pos2 apos : Pos} {x y z v : V} {D : Ends} {CE C : Addr} {n kk i : Nat} {L M : List Scene} {m nm : Str} {ps : List Str} {RA : RelA} {E : XK} {CXc : CXT} {f : Addr} {fd : FuncData} {sp : Sp} {t : TA}
/-- the i-th slot holds the class at C, which is called -/
theorem pe_makeL (M : Mk X.K C f) (F : FnOk X.prog X.w X.K X.mg X.base CXc kk f fd ps sp) (hr : Room (kk + 1) X.A) (hN : X.N[i]? = some nm) (hv : Vis X.env.scope nm) (hb : Binds X.K fd ps []) (hx : Passes CXc X E)
    (ha : PA X (e :: es) t) (hd : (nm == ("__debug__" : Str)) = false := by decide) (hcd : (nm == ("__classdict__" : Str)) = false := by decide) (he : starEach (e :: es) X.env = (false, eval e X.env) :: starEach es X.env := by rfl) (hpl : (backTo pos (starEach es X.env)).any (·.1) = false := by rfl) :
    PE X (.Call (.Name nm p) (e :: es) [] pos) (fun σ H Q => σ[i]? = some (some (.ref C)) ∧ tMake C sp [] E t σ H Q) := by
  refine .mk fun pins s σ H Q I h => ?_
  obtain ⟨h0, h⟩ := h
  refine wpAny_Call_Name_kw (thn ((pe_var (i := i) hN hv hd hcd).run pins s σ H (fun x H1 => x = .ref C ∧ H1 = H) I ⟨_, h0, rfl, rfl⟩) fun u s0 ⟨x, H0, I0, rx, ex, eH⟩ => ?_)
  subst ex
  rcases (show u = Value.ref C from rx) with rfl
  rw [eH] at I0
  refine PySem.W.callWith_K (h₀ := X.base) I.ok.mod.kin M.kp (thn (ha.run pos pins s0 σ H _ I0 h) fun us s1 ⟨vs, H1, I1, r, q⟩ => ⟨I1.kIn, ?_⟩) he hpl
  exact run_make M F hr hb .nil hx I1 r q
theorem w_makeL (MU : MkU X.prog X.w X.K X.mg X.base C CE) (hr : Room 6 X.A) (hx : Passes (L2.CX X.prog X.w) X E) (hN : X.N[i]? = some nm) (hv : Vis X.env.scope nm) (hi : σ[i]? = some (some (.ref C))) {ds : List PyData} (ha : EvE X a σ B (IsV (.int (n : Int)))) (hb : EvE X b σ B (IsD X.K (.list ds))) (e0 : Ex B H) {Q : VK} (hq : ∀ B1 H1, Step B H B1 H1 → preMake X.K C CE n ds B1 H1 Q E)
    (hd : (nm == ("__debug__" : Str)) = false := by decide) (hcd : (nm == ("__classdict__" : Str)) = false := by decide) (hs : starEach [a, b] X.env = (false, eval a X.env) :: starEach [b] X.env := by rfl) (hs2 : starEach [b] X.env = (false, eval b X.env) :: starEach [] X.env := by rfl) (hpl : (backTo pos (starEach [b] X.env)).any (·.1) = false := by rfl) : wE X (.Call (.Name nm p) [a, b] [] pos) σ H Q := by
  obtain ⟨f, fd, M, hbi, F⟩ := MU.ex
  refine w_pe (pe_makeL M F hr hN hv hbi hx (pa_cons pe_w (pa_cons pe_w pa_nil hs2) hs) hd hcd hs hpl) ⟨hi, ?_⟩
  refine ha.run e0 fun v B1 H1 s1 r1 => (hb.mono s1.b).run s1.i fun u B2 H2 s2 r2 => fun x dx hx hd hne => ?_
  have ev : v = .int (n : Int) := r1 B1 (Ex.refl B1)
  subst ev
  exact ⟨x, dx, B2, H2, n, u, ds, Q, rfl, rfl, hx, hd, hne, s2.i, r2 B2 (Ex.refl B2), hq B2 H2 (s1.trans s2), fun H3 q => ⟨rfl, q⟩⟩
end
section
variable {P : Program} {w : World} {K : PySem.W.Frag} {mg : Str → Option Value} {base : Heap} {C CE : Addr}
/-- Upset.of(d, ..) -/
def preOf (K : PySem.W.Frag) (C CE : Addr) (d : PyData) (ds : List PyData) (B H : Hp) (Q : VK) (E : XK) : Prop :=
  (∀ x ∈ d :: ds, okScene x) ∧ ds.length ≤ 900 ∧ ((isSceneD .none d = false ∧ ∀ v B1 H1 xd, Step B H B1 H1 → (∀ B2, Ex B1 B2 → Dp K B2 v d) → H1 xd = none → E (.ref CE) (some xd) (upd H1 xd (.xd [("value", v)]))) ∨
    ∃ s : Scene, d = dScene s ∧ isSceneD .none d = true ∧ preMake K C CE s.2.length (d :: ds) B H Q E)
theorem preOf.go {d : PyData} {ds : List PyData} {B H B1 H1 : Hp} {Q : VK} {E : XK} (h : preOf K C CE d ds B H Q E) (s : Step B H B1 H1) : preOf K C CE d ds B1 H1 Q E := by
  obtain ⟨h1, h2, h3⟩ := h
  refine ⟨h1, h2, ?_⟩
  rcases h3 with ⟨hL, k⟩ | ⟨t, ht, hi, k⟩
  · exact .inl ⟨hL, fun v B2 H2 xd s2 r n => k v B2 H2 xd (s.trans s2) r n⟩
  · exact .inr ⟨t, ht, hi, k.go s⟩
def spOf (K : PySem.W.Frag) (C CE : Addr) : Sp := fun vs H Q E => ∃ (B : Hp) (v : V) (rest : List V) (d : PyData) (ds : List PyData), vs = .ref C :: v :: rest ∧ Ex B H ∧ DpAll K B (v :: rest) (d :: ds) ∧ preOf K C CE d ds B H Q E
def spOf2 (K : PySem.W.Frag) (C CE : Addr) : Sp := fun vs H Q E => ∃ (B : Hp) (v u : V) (d : PyData) (ds : List PyData), vs = [.ref C, v, u] ∧ Ex B H ∧ Dp K B v d ∧ Dp K B u (.tuple ds) ∧ preOf K C CE d ds B H Q E
theorem ok_of {f : Addr} {fd : FuncData} (U : Bi mg) (UU : UC K C) (XX : XF P K mg CE) (MU : MkU P w K mg base C CE) (GS : D_is_scene P w K mg base) (F : Fun K "of" "Upset.of" s_Upset_of f fd) : FnR P w K mg base (L2.CX P w) 7 f (spOf K C CE) := by
  rcases F.ex with ⟨oc, od, kV, doc, pm, an, cdv, ct, osl, rfl, lk, hcd⟩
  have h : FnR P w K mg base (L2.CX P w) (6 + 1) f _ := StX.fn_star (ps := ["cls", "first"]) (pv := "rest") (sp := spOf2 K C CE) (N := N_Upset_of) (k := 6) (CX := L2.CX P w) (P := P) (w := w) (mg := mg) (base := base) lk hcd sc_Upset_of StX.cxUp (StX.bind_star2 (B := fun us => bindArgs (PySem.W.fnOf "of" "Upset.of" (defArgs s_Upset_of) (defBody s_Upset_of) (defScope s_Upset_of) .none kV doc pm an cdv ct) ⟨us, []⟩) (fun _ _ => rfl) (fun _ _ _ _ => rfl)) fun A outer s H vs Q E hr hsp => by
    obtain ⟨B, v, u, d, ds, rfl, e0, hv, hu, ⟨hok, hlen, hor⟩⟩ := hsp
    refine ⟨_, pss_w, ?_⟩
    have tk : Takes (cxOf (L2.CX P w) P w K mg base N_Upset_of "Upset.of" (defScope s_Upset_of) f cdv A outer s H E) (fun cls d _ H => E cls d H) := takes_of rfl rfl rfl rfl
    refine b_cons (s_if e0 (t_not (t_bl (e_callK (v := .bl (isSceneD .none d)) GS (hr.mono (by decide)) (ad_cons (e_varD 1 rfl hv) (ad_cons (e_non.d .non) ad_nil)) rfl ⟨d, _, rfl, hok d List.mem_cons_self, .inl rfl⟩ rfl))) (fun h5 H3 s3 => ?_) fun h5 H3 s3 => b_nil ?_)
    · have hf : isSceneD .none d = false := by simpa using h5
      rcases hor with ⟨_, k⟩ | ⟨t, _, hi, _⟩
      · exact b_one (s_raiseIS (W := fun cls d _ H => E cls d H) rfl tk XX (hr.mono (by decide)) s3.i (e_varD 1 rfl hv) fun v1 B1 H1 xd s4 r4 hxd => k v1 B1 H1 xd (s3.trans s4) r4 hxd)
      · rw [hf] at hi
        cases hi
    · have ht : isSceneD .none d = true := by simpa using h5
      rcases hor with ⟨hf, _⟩ | ⟨t, rfl, hi, k⟩
      · rw [hf] at ht
        cases ht
      · have hl : lenD (dRow t.2) = some t.2.length := by
          show some (t.2.map PyData.int).length = _
          rw [List.length_map]
        have hw : t.2.length ≤ 8 := by
          have q : (nameB t.1 && isRowD .none (dRow t.2)) = true := hi
          rw [Bool.and_eq_true] at q
          have q2 : ((decide (1 ≤ (t.2.map PyData.int).length) && decide ((t.2.map PyData.int).length ≤ 8)) && (wOk .none (t.2.map PyData.int).length && (t.2.map PyData.int).all entB)) = true := q.2
          rw [Bool.and_eq_true, Bool.and_eq_true, decide_eq_true_iff, decide_eq_true_iff, List.length_map] at q2
          exact q2.1.2
        refine b_one (w_ps (ps_ret pe_w) (w_makeL (i := 0) (n := t.2.length) (ds := dScene t :: ds) MU (hr.mono (by decide)) (passes_call tk fun _ _ _ _ h => h) rfl (.inl rfl) rfl (e_len U.len (e_ixT (ds := [.str t.1, dRow t.2]) (e_varD 1 rfl hv) e_int (atI_nat (j := 1) rfl)) hl (by omega)) (EvP.imp (e_lstT (ad_cons (e_varD 1 rfl hv) (a_star (e_varD 2 rfl hu) ad_nil)) ?_) fun _ _ _ r => ?_) s3.i fun B1 H1 s1 => k.go (s3.trans s1)))
        · rw [List.append_nil, List.length_cons]
          omega
        · rw [List.append_nil] at r
          exact isTL_d r
  intro A outer s H us vs Q E hr e0 rr hsp
  obtain ⟨B, v, rest, d, ds, rfl, e1, hd, hp⟩ := hsp
  cases hd with
  | cons h1 h2 =>
    refine h A outer s H us _ Q E hr e0 rr ⟨[.ref C, v], rest, rfl, rfl, ?_, fun p hp0 => ⟨upd B p (.tup rest), v, .ref p, d, ds, rfl, ex_upd2 e1, dp_grow h1 (Ex.new (ex_none e1 hp0)), .tup (st_of upd_same) (dps_grow h2 (Ex.new (ex_none e1 hp0))), hp.go (Step.new e1 hp0)⟩⟩
    rw [dps_len h2, sizeLine_eq]
    have := hp.2.1
    omega
end
end K8

/-! Calls of Upset's class method and static method; its operators as expressions. -/
namespace K8
open PySem PySem.Spec PyProof.Rows L2 Evl
/-- a static method of the class at C -/
structure SMet (K : PySem.W.Frag) (C : Addr) (mc : Value) (m : Str) (p g : Addr) : Prop where
  ty : PySem.W.typeIn K (.ref C) = some mc
  at_ : PySem.W.findCls K (.ref C) mc m = some (.get (.builtin "staticmethod.__get__") (.ref p) .none (.ref C))
  rc : ∃ rest, PySem.W.recIn K p "staticmethod" = some (.ref g :: rest)
  hd : PySem.W.handedIn (.ref g) = true
  kp : PySem.W.keepIn K (.ref g) = true
section
variable {X : Cx} {σ : Slots} {B B' H H' : Hp} {R R' Ra Rb : Rel} {e a b c l o : Expr} {es rest : List Expr} {pos p pos2 apos : Pos} {x y z v : V} {D : Ends} {CE C : Addr} {n kk i : Nat} {L M : List Scene} {m nm : Str} {ps : List Str} {RA : RelA} {E : XK} {CXc : CXT} {f pA g : Addr} {fd : FuncData} {sp : Sp} {t : TA} {ta : TE} {mc : Value}
theorem pe_smeth {pl : Sem Bool} (he : PE X o ta) (r : ClX.CRead X.K C mc) (c : SMet X.K C mc m pA g) (F : FnOk X.prog X.w X.K X.mg X.base CXc kk g fd ps sp) (hr : Room kk X.A) (hb : Binds X.K fd ps []) (hx : Passes CXc X E) (ha : PA X (e :: es) t) (hst : starEach (e :: es) X.env = (false, eval e X.env) :: starEach es X.env := by rfl) (hpl : (backTo pos (starEach es X.env)).any (·.1) = false := by rfl) (ht : eval (.Call (.Attribute o m apos) (e :: es) [] pos) X.env = (do
      let ov ← eval o X.env
      standAt apos.atName
      let (m1, fs) ← holding [ov] (getMethod ov m pl)
      callWith pos m1 fs (backTo pos (starEach (e :: es) X.env)) (backToKw pos (keywordEach [] X.env))) := by rfl) :
    PE X (.Call (.Attribute o m apos) (e :: es) [] pos) (fun σ H Q => ta σ H fun x H1 => x = .ref C ∧ t σ H1 fun vs H2 => sp vs H2 Q E) := by
  refine .mk fun pins s σ H Q I h => PySem.W.methodCall_KW (pl := pl) (thn (he.run pins s σ H _ I h) fun u s1 ⟨x, H1, I1, rx, ex, q⟩ => ?_) ht
  subst ex
  rcases (show u = Value.ref C from rx) with rfl
  refine PySem.W.method_cls I1.kIn r.ga ?_
  obtain ⟨m', hF⟩ := I1.fr
  obtain ⟨rest, hp⟩ := c.rc
  refine PySem.W.cls_sm hF I1.ok.mod.kin c.ty r.rd c.at_ hp c.hd ?_
  refine PySem.W.callWith_K (first := []) (h₀ := X.base) I.ok.mod.kin c.kp (thn (ha.run pos pins _ σ H1 _ (I1.tok _) q) fun us s2 ⟨vs, H2, I2, r, q2⟩ => ⟨I2.kIn, ?_⟩) hst hpl
  exact run_fn F hr hb .nil hx I2 r (by rw [List.append_nil]; exact q2)
/-- what of Upset.nothing and Upset.of the law needs -/
structure UN (P : Program) (w : World) (K : PySem.W.Frag) (mg : Str → Option Value) (base : Heap) (C CE : Addr) : Prop where
  at_ : mg "Upset" = some (.ref C)
  no : ∃ mc pA g fd, ClX.CRead K C mc ∧ SMet K C mc "nothing" pA g ∧ Binds K fd ["width"] [] ∧ FnOk P w K mg base CX0 7 g fd ["width"] (Pure (preNo K C))
  of_ : ∃ mc pA g, ClX.CRead K C mc ∧ ClX.CMet K C mc "of" pA g ∧ FnR P w K mg base (L2.CX P w) 7 g (spOf K C CE)
theorem e_nothing {pN : Pos} {pl : Sem Bool} (UU : UN X.prog X.w X.K X.mg X.base C CE) (hr : Room 7 X.A) (h1 : 1 ≤ n) (h8 : n ≤ 8) (ha : EvE X e σ B (IsV (.int (n : Int)))) (hg : Gl X "Upset" := by rfl)
    (hst : starEach [e] X.env = (false, eval e X.env) :: starEach [] X.env := by rfl) (hpl : (backTo pos (starEach [] X.env)).any (·.1) = false := by rfl)
    (ht : eval (.Call (.Attribute (.Name "Upset" pN) "nothing" apos) [e] [] pos) X.env = (do
      let ov ← eval (.Name "Upset" pN) X.env
      standAt apos.atName
      let (m1, fs) ← holding [ov] (getMethod ov "nothing" pl)
      callWith pos m1 fs (backTo pos (starEach [e] X.env)) (backToKw pos (keywordEach [] X.env))) := by rfl) :
    EvE X (.Call (.Attribute (.Name "Upset" pN) "nothing" apos) [e] [] pos) σ B (IsU X.K C n (keptF [])) := by
  obtain ⟨mc, pA, g, fd, r, c, hb, F⟩ := UU.no
  refine of_pe (pe_smeth (pe_glob hg UU.at_ (v := .ref C) rfl) r c F hr hb pass0 (pa_cons pe_w pa_nil hst) hst hpl ht) fun H e0 Q q => ⟨rfl, ha H e0 _ fun v B1 H1 s1 r1 => ?_⟩
  have ev : v = .int (n : Int) := r1 B1 (Ex.refl B1)
  subst ev
  exact ⟨B1, _, s1.i, ⟨n, rfl, h1, h8, rfl⟩, q.go s1⟩
theorem w_of {pN : Pos} {pl : Sem Bool} {d : PyData} {ds : List PyData} (UU : UN X.prog X.w X.K X.mg X.base C CE) (hr : Room 7 X.A) (hx : Passes (L2.CX X.prog X.w) X E) (ha : EvAE X (e :: es) σ B (AD X.K (d :: ds))) (e0 : Ex B H) {Q : VK} (hq : ∀ B1 H1, Step B H B1 H1 → preOf X.K C CE d ds B1 H1 Q E) (hg : Gl X "Upset" := by rfl) (hst : starEach (e :: es) X.env = (false, eval e X.env) :: starEach es X.env := by rfl) (hpl : (backTo pos (starEach es X.env)).any (·.1) = false := by rfl)
    (ht : eval (.Call (.Attribute (.Name "Upset" pN) "of" apos) (e :: es) [] pos) X.env = (do
      let ov ← eval (.Name "Upset" pN) X.env
      standAt apos.atName
      let (m1, fs) ← holding [ov] (getMethod ov "of" pl)
      callWith pos m1 fs (backTo pos (starEach (e :: es) X.env)) (backToKw pos (keywordEach [] X.env))) := by rfl) :
    wE X (.Call (.Attribute (.Name "Upset" pN) "of" apos) (e :: es) [] pos) σ H Q := by
  obtain ⟨mc, pA, g, r, c, F⟩ := UU.of_
  refine w_pe (ClX.pe_cmeth (pe_glob hg UU.at_ (v := .ref C) rfl) r c F hr hx pa_w hst hpl ht) ⟨rfl, ?_⟩
  refine ha H e0 _ fun vs B1 H1 s1 r1 => ?_
  have r2 := r1 B1 (Ex.refl B1)
  cases r2 with
  | cons h1 h2 => exact ⟨B1, _, _, d, ds, rfl, s1.i, .cons h1 h2, hq B1 H1 s1⟩
theorem e_of {pN : Pos} {pl : Sem Bool} {s : Scene} (UU : UN X.prog X.w X.K X.mg X.base C CE) (hr : Room 7 X.A) (hL : UGood n (s :: L)) (ha : EvAE X (e :: es) σ B (AD X.K ((s :: L).map dScene))) (hg : Gl X "Upset" := by rfl) (hst : starEach (e :: es) X.env = (false, eval e X.env) :: starEach es X.env := by rfl) (hpl : (backTo pos (starEach es X.env)).any (·.1) = false := by rfl)
    (ht : eval (.Call (.Attribute (.Name "Upset" pN) "of" apos) (e :: es) [] pos) X.env = (do
      let ov ← eval (.Name "Upset" pN) X.env
      standAt apos.atName
      let (m1, fs) ← holding [ov] (getMethod ov "of" pl)
      callWith pos m1 fs (backTo pos (starEach (e :: es) X.env)) (backToKw pos (keywordEach [] X.env))) := by rfl) :
    EvE X (.Call (.Attribute (.Name "Upset" pN) "of" apos) (e :: es) [] pos) σ B (IsU X.K C n (keptF (s :: L))) := fun H e0 Q q => by
  have hs := hL.all s List.mem_cons_self
  have hf := hL.few
  rw [List.length_cons] at hf
  refine w_of (d := dScene s) (ds := L.map dScene) UU hr passes_none ha e0 (fun B1 H1 st => ⟨fun x hx => hL.okds x hx, by rw [List.length_map]; omega, .inr ⟨s, rfl, hs.is rfl, ?_⟩⟩) hg hst hpl ht
  rw [hs.row.len]
  exact ⟨hL.okds, by rw [List.length_cons, List.length_map]; omega, .inl ⟨s :: L, hL.allSc, q.go st⟩⟩
/-! ### the methods and operators as expressions -/
structure UM (P : Program) (w : World) (K : PySem.W.Frag) (mg : Str → Option Value) (base : Heap) (C CE : Addr) : Prop where
  ui : UI K mg C
  mku : MkU P w K mg base C CE
  un : UN P w K mg base C CE
  ls : Mth P w K mg base C "least_scenes" ["self"] 1 (PureN (preLS K C))
  ra : Mth P w K mg base C "rows_at" ["self", "post"] 2 (PureN (preRA K C))
  len : Mth P w K mg base C "__len__" ["self"] 1 (Pure (preLen K C))
  con : D_contains P w K mg base C
  or_ : Mth P w K mg base C "__or__" ["self", "other"] 7 (Pure (preOr K C))
  and_ : Mth P w K mg base C "__and__" ["self", "other"] 7 (Pure (preAnd K C))
  eq : Mth P w K mg base C "__eq__" ["self", "other"] 1 (Pure (preEq K C))
  fm : Mth P w K mg base C "first_missing" ["self", "other"] 6 (Pure (preFM K C))
  sf : PySem.W.selfFirst K C = true
  nf : PySem.W.notFirst K C (.type "tuple") = true
theorem n_ls {pl : Sem Bool} (UU : UM X.prog X.w X.K X.mg X.base C CE) (hr : Room 1 X.A) (ho : EvE X o σ B (IsU X.K C n L))
    (ht : eval (.Call (.Attribute o "least_scenes" apos) [] [] pos) X.env = (do
      let ov ← eval o X.env
      standAt apos.atName
      let (m1, fs) ← holding [ov] (getMethod ov "least_scenes" pl)
      callWith pos m1 fs (backTo pos (starEach [] X.env)) (backToKw pos (keywordEach [] X.env))) := by rfl) : EvNE X (.Call (.Attribute o "least_scenes" apos) [] [] pos) σ B (NewL (AD X.K (L.map dScene))) := fun H e0 Q q =>
  w_meth0 UU.ui.uc UU.ls hr ho e0 (fun u B1 H1 s1 hu => ⟨B1, _, s1.i, ⟨n, L, u, rfl, hu, rfl⟩, fun q' B2 H2 n1 n2 s2 r => q q' B2 H2 (fresh_back s1.h n1) n2 (s1.trans s2) r⟩) (by decide) ht
theorem n_ra {pl : Sem Bool} {p0 : Str} (UU : UM X.prog X.w X.K X.mg X.base C CE) (hr : Room 2 X.A) (ho : EvE X o σ B (IsU X.K C n L)) (he : EvE X e σ B (IsV (.str p0))) (hz : L.length ≤ 10000) (hst : starEach [e] X.env = (false, eval e X.env) :: starEach [] X.env := by rfl) (hpl : (backTo pos (starEach [] X.env)).any (·.1) = false := by rfl)
    (ht : eval (.Call (.Attribute o "rows_at" apos) [e] [] pos) X.env = (do
      let ov ← eval o X.env
      standAt apos.atName
      let (m1, fs) ← holding [ov] (getMethod ov "rows_at" pl)
      callWith pos m1 fs (backTo pos (starEach [e] X.env)) (backToKw pos (keywordEach [] X.env))) := by rfl) : EvNE X (.Call (.Attribute o "rows_at" apos) [e] [] pos) σ B (NewL (AD X.K ((rowsAt L p0).map dRow))) := fun H e0 Q q =>
  w_meth UU.ui.uc UU.ra hr ho (a_one he hst) e0 (fun u vs B1 H1 s1 hu hv => by
    obtain ⟨v1, vs1, rfl, r1, r3⟩ := hv
    have e3 : vs1 = [] := r3
    have e1 : v1 = .str p0 := r1
    subst e3 e1
    exact ⟨B1, _, s1.i, ⟨n, L, u, p0, rfl, hu, hz, rfl⟩, fun q' B2 H2 n1 n2 s2 r => q q' B2 H2 (fresh_back s1.h n1) n2 (s1.trans s2) r⟩) (by decide) hst hpl ht
theorem e_fm {pl : Sem Bool} (UU : UM X.prog X.w X.K X.mg X.base C CE) (hr : Room 6 X.A) (ho : EvE X o σ B (IsU X.K C n L)) (he : EvE X e σ B (IsU X.K C n M)) (hL : UGood n L) (hM : UGood n M) (hst : starEach [e] X.env = (false, eval e X.env) :: starEach [] X.env := by rfl) (hpl : (backTo pos (starEach [] X.env)).any (·.1) = false := by rfl)
    (ht : eval (.Call (.Attribute o "first_missing" apos) [e] [] pos) X.env = (do
      let ov ← eval o X.env
      standAt apos.atName
      let (m1, fs) ← holding [ov] (getMethod ov "first_missing" pl)
      callWith pos m1 fs (backTo pos (starEach [e] X.env)) (backToKw pos (keywordEach [] X.env))) := by rfl) : EvE X (.Call (.Attribute o "first_missing" apos) [e] [] pos) σ B (IsD X.K (missD L M)) := fun H e0 Q q =>
  w_meth UU.ui.uc UU.fm hr ho (a_one he hst) e0 (fun u vs B1 H1 s1 hu hv => by
    obtain ⟨v1, vs1, rfl, r1, r3⟩ := hv
    have e3 : vs1 = [] := r3
    subst e3
    exact ⟨B1, _, s1.i, ⟨n, L, M, u, v1, rfl, hu, r1, hL, hM, rfl⟩, q.go s1⟩) (by decide) hst hpl ht
theorem e_lenU (UU : UM X.prog X.w X.K X.mg X.base C CE) (hr : Room 2 X.A) (hm : X.mg "len" = none) (he : EvE X e σ B (IsU X.K C n L)) (hz : L.length ≤ 10000) (hg : Gl X "len" := by rfl) (hs : starEach [e] X.env = (false, eval e X.env) :: starEach [] X.env := by rfl) (hpl : (backTo pos (starEach [] X.env)).any (·.1) = false := by rfl) :
    EvE X (.Call (.Name "len" p) [e] [] pos) σ B (IsV (.int (L.length : Int))) := by
  obtain ⟨f, fd, h1, h2, h3, h4, F⟩ := UU.len.ex
  refine e_callB (R := IsV (.int (L.length : Int))) (cr_lenO F hr h4 pass0 h1 h2) hm PySem.boot_len (a_one he hs) (fun vs B1 e1 r H1 i1 Q q => ?_) hg (he := hs) (hpl := hpl)
  obtain ⟨v1, vs1, rfl, r1, r3⟩ := r
  have e3 : vs1 = [] := r3
  subst e3
  obtain ⟨z, dx, kv, rfl, g1, g2⟩ := id r1
  exact ⟨z, dx, _, rfl, i1 _ _ g1, B1, _, i1, ⟨n, L, _, rfl, r1, hz, rfl⟩, fun v B2 H2 s r => ⟨_, r B2 (Ex.refl B2), by omega, by omega, q.valS s⟩⟩
theorem e_orU (UU : UM X.prog X.w X.K X.mg X.base C CE) (hr : Room 7 X.A) (ha : EvE X a σ B (IsU X.K C n L)) (hb : EvE X b σ B (IsU X.K C n M)) (hL : UGood n (L ++ M)) : EvE X (.BinOp a .BitOr b pos) σ B (IsU X.K C n (keptF (L ++ M))) := by
  obtain ⟨f, fd, h1, h2, h3, h4, F⟩ := UU.or_.ex
  refine e_op (or_binO F hr h4 pass0 UU.sf h1 h2) ha hb fun x y B1 e rx ry H1 i1 Q q => ?_
  obtain ⟨z, dx, kv, rfl, g1, g2⟩ := id rx
  obtain ⟨z', dx', kv', rfl, g1', g2'⟩ := id ry
  exact ⟨z, dx, _, z', dx', _, rfl, rfl, i1 _ _ g1, i1 _ _ g1', B1, _, i1, ⟨n, L, M, _, _, rfl, rx, ry, hL, rfl⟩, fun v B2 H2 s r => ⟨by obtain ⟨p, _, _, ev, _⟩ := r B2 (Ex.refl B2); exact ⟨p, ev⟩, q v B2 H2 s r⟩⟩
theorem e_andU (UU : UM X.prog X.w X.K X.mg X.base C CE) (hr : Room 7 X.A) (ha : EvE X a σ B (IsU X.K C n L)) (hb : EvE X b σ B (IsU X.K C n M)) (hL : UGood n L) (hM : UGood n M) (hf : (joins L M).length < 64) : EvE X (.BinOp a .BitAnd b pos) σ B (IsU X.K C n (keptF (joins L M))) := by
  obtain ⟨f, fd, h1, h2, h3, h4, F⟩ := UU.and_.ex
  refine e_op (or_binO F hr h4 pass0 UU.sf h1 h2) ha hb fun x y B1 e rx ry H1 i1 Q q => ?_
  obtain ⟨z, dx, kv, rfl, g1, g2⟩ := id rx
  obtain ⟨z', dx', kv', rfl, g1', g2'⟩ := id ry
  exact ⟨z, dx, _, z', dx', _, rfl, rfl, i1 _ _ g1, i1 _ _ g1', B1, _, i1, ⟨n, L, M, _, _, rfl, rx, ry, hL, hM, hf, rfl⟩, fun v B2 H2 s r => ⟨by obtain ⟨p, _, _, ev, _⟩ := r B2 (Ex.refl B2); exact ⟨p, ev⟩, q v B2 H2 s r⟩⟩
theorem e_eqU {m : Nat} (UU : UM X.prog X.w X.K X.mg X.base C CE) (hr : Room 1 X.A) (ha : EvE X a σ B (IsU X.K C n L)) (hb : EvE X b σ B (IsU X.K C m M)) (hL : UGood n L) (hM : UGood m M) (hm : behindInMarks .Eq b = false := by exact nomark _) : EvE X (.Compare a [.Eq] [b] pos) σ B (IsV (.bl (decide (n = m) && decide (L = M)))) := by
  obtain ⟨f, fd, h1, h2, h3, h4, F⟩ := UU.eq.ex
  refine e_cmp (or_eqO F hr h4 pass0 UU.nf h1 h2) ha hb (fun x y B1 e rx ry H1 i1 Q q => ?_) hm
  obtain ⟨z, dx, kv, rfl, g1, g2⟩ := id rx
  obtain ⟨z', dx', kv', rfl, g1', g2'⟩ := id ry
  exact ⟨z, dx, _, rfl, i1 _ _ g1, .inl ⟨z', dx', _, rfl, i1 _ _ g1'⟩, B1, IsV (.bl (decide (n = m) && decide (L = M))), i1, ⟨n, L, _, _, rfl, rx, hL, .inl ⟨m, M, ry, hM, rfl⟩⟩, fun v B2 H2 s r => ⟨_, r B2 (Ex.refl B2), q.valS s⟩⟩
theorem e_eqT {ds : List PyData} (UU : UM X.prog X.w X.K X.mg X.base C CE) (hr : Room 1 X.A) (ha : EvE X a σ B (IsU X.K C n L)) (hb : EvE X b σ B (fun v B1 => ∃ p vs, v = .ref p ∧ B1 p = some (.tup vs))) (hL : UGood n L) (hm : behindInMarks .Eq b = false := by exact nomark _) : EvE X (.Compare a [.Eq] [b] pos) σ B (IsV (.bl false)) := by
  obtain ⟨f, fd, h1, h2, h3, h4, F⟩ := UU.eq.ex
  refine e_cmp (or_eqO F hr h4 pass0 UU.nf h1 h2) ha hb (fun x y B1 e rx ry H1 i1 Q q => ?_) hm
  obtain ⟨z, dx, kv, rfl, g1, g2⟩ := id rx
  obtain ⟨p, vs, rfl, g3⟩ := ry
  exact ⟨z, dx, _, rfl, i1 _ _ g1, .inr ⟨p, vs, rfl, i1 _ _ g3⟩, B1, IsV (.bl false), i1, ⟨n, L, _, _, rfl, rx, hL, .inr ⟨p, vs, rfl, g3, rfl⟩⟩, fun v B2 H2 s r => ⟨_, r B2 (Ex.refl B2), q.valS s⟩⟩
end
end K8

/-! The law's bag: an object of which only its shape is known. -/
namespace K8
open PySem PySem.Spec PyProof.Rows L2 Evl
def bagO (q c : Addr) : HO := .ext fun h => ∃ (g s n : Int) (its : List Value) (e : Nat), Vals [.int g, .int s, .int n, .ref c] its ∧ h.get? q = some ({ cls := .type "list", data := .seq its.toArray e } : Obj)
theorem bagO_ok {P : Program} {w : World} {H : Hp} {h : Heap} {q c : Addr} {g s n : Int} {its : List Value} {e : Nat} (r : Vals [.int g, .int s, .int n, .ref c] its) (ho : h.get? q = some ({ cls := .type "list", data := .seq its.toArray e } : Obj)) : ObjOk P w H h q (bagO q c) :=
  ⟨⟨g, s, n, its, e, r, ho⟩, ⟨_, ho⟩, fun h1 h2 z k => by
    obtain ⟨g, s, n, its, e, r, ho⟩ := z
    exact ⟨g, s, n, its, e, r, k _ ho⟩⟩
section
variable {X : Cx} {σ : Slots} {B B' H H' : Hp} {R R' Ra Rb : Rel} {e a b c l o : Expr} {es rest : List Expr} {pos p pos2 apos : Pos} {x y z v : V} {D : Ends} {q ca : Addr} {body : List Stmt}
abbrev bagL (g s n : Int) (ca : Addr) : HO := .lst [.int g, .int s, .int n, .ref ca]
theorem b_openBag (ha : H q = some (bagO q ca)) (h : ∀ g s n, wB X body D σ (upd H q (bagL g s n ca))) : wB X body D σ H := fun pins s I => by
  obtain ⟨⟨g, s0, n, its, e, r, ho⟩, _⟩ := I.hok q _ ha
  have I' := I.write (t' := s.toks) (x := q) (e := q) (o := bagL g s0 n ca) (by rw [ha]; trivial) (.inl rfl) (fun b u hb k => k) ⟨_, ho⟩ ⟨by show 4 ≤ sizeLine; rw [sizeLine_eq]; decide, its, e, r, ho⟩
  exact h g s0 n pins _ I'
theorem b_closeBag (h : wB X body { D with nx := fun _ _ => False, rt := fun v H' => ∃ q ca g s n, H' q = some (bagL g s n ca) ∧ D.rt v (upd H' q (bagO q ca)), bk := fun _ _ => False, ct := fun _ _ => False } σ H) : wB X body D σ H := fun pins s I =>
  thn (h pins s I) fun f s1 z => by
    cases f with
    | next => obtain ⟨_, _, _, z⟩ := z; exact z.elim
    | brk => obtain ⟨_, _, _, z⟩ := z; exact z.elim
    | cont => obtain ⟨_, _, _, z⟩ := z; exact z.elim
    | ret v =>
      obtain ⟨v', σ', H', I', r, q, ca, g, s0, n, hq, k⟩ := z
      obtain ⟨hz, its, e, rv, ho⟩ := I'.hok q _ hq
      have I2 := I'.write (t' := s1.toks) (x := q) (e := q) (o := bagO q ca) (by rw [hq]; trivial) (.inl rfl) (fun b u hb k => k) ⟨_, ho⟩ (bagO_ok rv ho)
      exact ⟨v', σ', _, I2, r, k⟩
/-- xs[i] = e, xs at lx with the contents xs -/
theorem s_setI {lx : Addr} {xs : List V} {k : Int} {j : Nat} {p' : Pos} (e0 : Ex B H) (h : EvE X e σ B R) (ho : EvE X o σ B (IsV (.ref lx))) (hi : EvE X a σ B (IsV (.int k))) (hl : H lx = some (.lst xs)) (hj : ixN xs.length k = some j)
    (kk : ∀ v B1 H1, Step B H B1 H1 → (∀ B2, Ex B1 B2 → R v B2) → D.nx σ (upd H1 lx (.lst (xs.set j v))))
    (ha : ∀ v, assign (.Subscript o a p') X.env v = (do
      let at0 ← holding [v] (eval o X.env)
      let key ← holding [v, at0] (eval a X.env)
      standAt p'
      holding [v, at0, key] (setItem at0 key v)
      release [v, at0, key] []) := by intro _; rfl)
    (hs : swapsWithSole [.Subscript o a p'] e pos.line X.env = pure false := by rfl) (hw : swappedStores [.Subscript o a p'] e X.env = pure none := by rfl) (h1 : (assignEach [.Subscript o a p'] X.env).map (·.2) = [assign (.Subscript o a p') X.env] := by rfl) : wS X (.Assign [.Subscript o a p'] e pos) D σ H :=
  w_ps (ps_asg pe_w (pg_sub pe_w pe_w set_list ha) hs hw h1) (h.run e0 fun v B1 H1 s1 r1 => (ho.mono s1.b).run s1.i fun u B2 H2 s2 r2 => (hi.mono (s1.b.trans s2.b)).run s2.i fun i B3 H3 s3 r3 => by
    have e1 : u = .ref lx := r2 B2 (Ex.refl B2)
    have e2 : i = .int k := r3 B3 (Ex.refl B3)
    subst e1 e2
    exact ⟨lx, xs, k, j, rfl, rfl, (s2.trans s3).h _ _ (s1.h _ _ hl), hj, kk v B3 H3 (s1.trans (s2.trans s3)) fun B4 e4 => r1 B4 ((s2.trans s3).b.trans e4)⟩)
/-! ### flat operations on a whole heap -/
theorem e_ixB {xs : List V} {lx : Addr} {k : Int} {v : V} (ha : EvE X a σ B (IsV (.ref lx))) (hb : EvE X b σ B (IsV (.int k))) (hl : B lx = some (.lst xs)) (h : atI xs k = some v) (hs : PlainIx b := by exact fun _ _ => rfl) : EvE X (.Subscript a b pos) σ B (IsV v) :=
  e_ix ix_list ha hb (fun x y B1 e1 r1 r2 H1 i1 Q q => by
    cases r1
    cases r2
    exact ⟨lx, xs, k, v, rfl, rfl, sq_of (i1 _ _ (e1 _ _ hl)), h, q.val i1⟩) hs
theorem e_intI {i : Int} (hm : X.mg "int" = none) (he : EvE X e σ B (IsV (.int i))) (hg : Gl X "int" := by rfl) (hs : starEach [e] X.env = (false, eval e X.env) :: starEach [] X.env := by rfl) (hpl : (backTo pos (starEach [] X.env)).any (·.1) = false := by rfl) : EvE X (.Call (.Name "int" p) [e] [] pos) σ B (IsV (.int i)) :=
  e_callTy (R := IsV (.int i)) call_int1 hm (by decide +kernel) (a_one he hs) (fun vs B1 e1 r H1 i1 Q q => by
    obtain ⟨v1, vs1, rfl, r1, r3⟩ := r
    have e3 : vs1 = [] := r3
    have e4 : v1 = .int i := r1
    subst e3 e4
    exact .inl ⟨i, rfl, q.val i1⟩) hg (he := hs) (hpl := hpl)
theorem e_absI {i : Int} (hm : X.mg "abs" = none) (he : EvE X e σ B (IsV (.int i))) (hg : Gl X "abs" := by rfl) (hs : starEach [e] X.env = (false, eval e X.env) :: starEach [] X.env := by rfl) (hpl : (backTo pos (starEach [] X.env)).any (·.1) = false := by rfl) : EvE X (.Call (.Name "abs" p) [e] [] pos) σ B (IsV (.int (if i < 0 then -i else i))) :=
  e_callB (R := IsV (.int (if i < 0 then -i else i))) call_abs hm (by decide +kernel) (a_one he hs) (fun vs B1 e1 r H1 i1 Q q => by
    obtain ⟨v1, vs1, rfl, r1, r3⟩ := r
    have e3 : vs1 = [] := r3
    have e4 : v1 = .int i := r1
    subst e3 e4
    exact ⟨i, rfl, q.val i1⟩) hg (he := hs) (hpl := hpl)
theorem e_fdivI {i j : Int} (ha : EvE X a σ B (IsV (.int i))) (hb : EvE X b σ B (IsV (.int j))) (hc : CDivW i j) : EvE X (.BinOp a .FloorDiv b pos) σ B (IsV (.int (i / j))) := e_binC op_fdivW ha hb hc
/-- not e, e a list -/
theorem t_notL {ds : List PyData} (ha : EvE X e σ B (IsD X.K (.list ds))) (he : ∀ whole, isTrue e X.env whole = (do let v ← whole; standAt e.pos; holding [v] (truthy v)) := by intro _; rfl) : EvTE X (.UnaryOp .Not e pos) σ B ds.isEmpty := by
  have h : EvTE X e σ B (!ds.isEmpty) := t_truth ha (fun v B1 _ r H1 i1 => by
    cases r with
    | lst h1 h2 => exact .inl ⟨_, ex_l i1 h1, by cases h2 <;> rfl⟩) he
  have h2 := t_not (pos := pos) h
  rw [Bool.not_not] at h2
  exact h2
end
/-! ### _law_take -/
section
variable {P : Program} {w : World} {K : PySem.W.Frag}
variable {mg : Str → Option Value} {base : Heap}
def IsBag (v : V) (B : Hp) : Prop := ∃ q ca ns, v = .ref q ∧ q ≠ ca ∧ B q = some (bagO q ca) ∧ B ca = some (.lst ((ns : List Int).map .int)) ∧ ns.length ≤ 63
theorem bag_grow {v : V} {B B' : Hp} (h : IsBag v B) (e : Ex B B') : IsBag v B' := by
  obtain ⟨q, ca, ns, h1, h2, h3, h4, h5⟩ := h
  exact ⟨q, ca, ns, h1, h2, e _ _ h3, e _ _ h4, h5⟩
/-- some number below m -/
def IsBelow (m : Int) : Rel := fun v _ => ∃ d : Int, v = .int d ∧ 0 ≤ d ∧ d < m
def preTake : List V → Hp → Rel → Prop := fun vs B R => ∃ v m, vs = [v, .int m] ∧ IsBag v B ∧ 0 < m ∧ m < 2 ^ 200 ∧ R = IsBelow m
abbrev D_take (P : Program) (w : World) (K : PySem.W.Frag) (mg : Str → Option Value) (base : Heap) : Prop := Dfn P w K mg base CX0 1 "_law_take" ["_law_bag_here", "_law_many"] (Pure preTake)
/-- what the walk of _law_take keeps: the bag at q, all else as it was -/
structure TkI (B H : Hp) (q ca : Addr) (H' : Hp) (g s n : Int) : Prop where
  at_ : H' q = some (bagL g s n ca)
  oth : ∀ a o, a ≠ q → H a = some o → H' a = some o
theorem TkI.step {B H H' H1 : Hp} {q ca : Addr} {g s n : Int} (t : TkI B H q ca H' g s n) (st : Ex H' H1) : TkI B H q ca H1 g s n := ⟨st _ _ t.at_, fun a o h1 h2 => st _ _ (t.oth a o h1 h2)⟩
theorem TkI.done {B H H' : Hp} {q ca : Addr} {g s n : Int} (t : TkI B H q ca H' g s n) (e0 : Ex B H) (hb : B q = some (bagO q ca)) : Step B H B (upd H' q (bagO q ca)) := by
  have hh : Ex H (upd H' q (bagO q ca)) := fun a o h => by
    by_cases e : a = q
    · subst e
      rw [e0 _ _ hb] at h
      rw [upd_same]
      exact h
    · rw [upd_ne e]
      exact t.oth a o e h
  exact ⟨Ex.refl B, e0.trans hh, hh, fun _ _ h _ => h⟩
theorem ok_take {f : Addr} {fd : FuncData} (U : Bi mg) (F : Fun K "_law_take" "_law_take" s_l_take f fd) : FnOk P w K mg base CX0 1 f fd ["_law_bag_here", "_law_many"] (Pure preTake) := by
  refine pure_ok F sc_l_take (fun vs H R ⟨v, m, hv, _⟩ => by rw [hv]; rfl) fun cdv A outer s0 B H vs Q E R hr e0 h y => ?_
  obtain ⟨v, m, rfl, ⟨q, ca, ns, rfl, hne, hq, hca, hlen⟩, hm, hm2, rfl⟩ := h
  refine b_closeBag (b_openBag (e0 _ _ hq) fun g s n => ?_)
  have hm0 : m ≠ 0 := by omega
  have T0 : TkI B H q ca (upd H q (bagL g s n ca)) g s n := ⟨upd_same, fun a o h1 h2 => by rw [upd_ne h1]; exact h2⟩
  have fin : ∀ (H' : Hp) (g' s' n' d : Int), TkI B H q ca H' g' s' n' → 0 ≤ d → d < m → ∃ q ca g s n, H' q = some (bagL g s n ca) ∧ Q (.int d) (upd H' q (bagO q ca)) := fun H' g' s' n' d t h0 h1 =>
    ⟨q, ca, g', s', n', t.at_, y (.int d) B _ (t.done e0 hq) fun _ _ => ⟨d, rfl, h0, h1⟩⟩
  have at0 : ∀ g s n : Int, atI [V.int g, .int s, .int n, .ref ca] 0 = some (.int g) := fun _ _ _ => atI_nat (j := 0) rfl
  have at1 : ∀ g s n : Int, atI [V.int g, .int s, .int n, .ref ca] 1 = some (.int s) := fun _ _ _ => atI_nat (j := 1) rfl
  have at2 : ∀ g s n : Int, atI [V.int g, .int s, .int n, .ref ca] 2 = some (.int n) := fun _ _ _ => atI_nat (j := 2) rfl
  have at3 : ∀ g s n : Int, atI [V.int g, .int s, .int n, .ref ca] 3 = some (.ref ca) := fun _ _ _ => atI_nat (j := 3) rfl
  refine b_cons (s_setI (e0 := Ex.refl _) (e_addI (e_ixB (e_var 0 rfl) e_int T0.at_ (at2 g s n)) e_int) (e_var 0 rfl) e_int T0.at_ (j := 2) (by rfl) fun v1 B1 H1 s1 r1 => ?_)
  have ev : v1 = .int (n + 1) := r1 B1 (Ex.refl B1)
  subst ev
  have T1 : TkI B H q ca (upd H1 q (bagL g s (n + 1) ca)) g s (n + 1) := ⟨upd_same, fun a o h1 h2 => by rw [upd_ne h1]; exact s1.h _ _ (T0.oth a o h1 h2)⟩
  refine b_cons (s_if (Ex.refl _) (t_gtI (e_ixB (e_var 0 rfl) e_int T1.at_ (at0 _ _ _)) e_int) (fun h5 H3 s3 => ?_) fun h5 H3 s3 => b_nil ?_)
  · have T3 := T1.step s3.h
    refine b_cons (s_set 2 (Ex.refl H3) (e_modI (e_intI U.int (e_ixB (e_var 0 rfl) e_int T3.at_ (at0 _ _ _))) (e_var 1 rfl) hm) (fun v2 B4 H4 s4 r4 => ?_) sc_l_take.nd)
    have ev2 : v2 = .int (g % m) := r4 B4 (Ex.refl B4)
    subst ev2
    have T4 := T3.step s4.h
    refine b_cons (s_setI (e0 := Ex.refl H4) (e_fdivI (e_ixB (e_var 0 rfl) e_int T4.at_ (at0 _ _ _)) (e_var 1 rfl) (wide_div hm (b := 200) (by omega) (by decide) (by decide))) (e_var 0 rfl) e_int T4.at_ (j := 0) (by rfl) fun v3 B5 H5 s5 r5 => ?_)
    have ev3 : v3 = .int (g / m) := r5 B5 (Ex.refl B5)
    subst ev3
    have T5 : TkI B H q ca (upd H5 q (bagL (g / m) s (n + 1) ca)) (g / m) s (n + 1) := ⟨upd_same, fun a o h1 h2 => by rw [upd_ne h1]; exact s5.h _ _ (T4.oth a o h1 h2)⟩
    refine b_one (s_ret (Ex.refl _) (e_var 2 rfl) fun v6 B6 H6 s6 r6 => ?_)
    have ev6 : v6 = .int (g % m) := r6 B6 (Ex.refl B6)
    subst ev6
    exact fin H6 _ _ _ _ (T5.step s6.h) (Int.emod_nonneg _ hm0) (Int.emod_lt_of_pos _ hm)
  · have T3 := T1.step s3.h
    refine b_cons (s_set 3 (Ex.refl H3) (e_ixB (e_var 0 rfl) e_int T3.at_ (at3 _ _ _)) (fun v2 B4 H4 s4 r4 => ?_) sc_l_take.nd)
    have ev2 : v2 = .ref ca := r4 B4 (Ex.refl B4)
    subst ev2
    have T4 := T3.step s4.h
    have hca4 : Dp K H4 (.ref ca) (.list (ns.map .int)) := .lst (sq_of (T4.oth _ _ (Ne.symm hne) (e0 _ _ hca))) (dps_ints ns)
    refine b_cons (s_if (Ex.refl H4) (t_notL (e_varD 3 rfl hca4)) (fun h6 H5 s5 => ?_) fun h6 H5 s5 => b_nil ?_)
    · have T5 := T4.step s5.h
      refine b_one (s_ret (Ex.refl H5) (e_modI (e_intI U.int (e_ixB (e_var 0 rfl) e_int T5.at_ (at2 _ _ _))) (e_var 1 rfl) hm) fun v6 B6 H6 s6 r6 => ?_)
      have ev6 : v6 = .int ((n + 1) % m) := r6 B6 (Ex.refl B6)
      subst ev6
      exact fin H6 _ _ _ _ (T5.step s6.h) (Int.emod_nonneg _ hm0) (Int.emod_lt_of_pos _ hm)
    · have T5 := T4.step s5.h
      have hca5 := dp_grow hca4 s5.h
      have hns : ns ≠ [] := fun z => by
        subst z
        cases h6
      have hl0 : 0 < (ns.length : Int) := by
        have := List.length_pos_iff.mpr hns
        omega
      obtain ⟨cell, hcell⟩ : ∃ cell, ns[((n + 1) % (ns.length : Int)).toNat]? = some cell := ⟨_, List.getElem?_eq_getElem (by
        have := Int.emod_lt_of_pos (n + 1) hl0
        have := Int.emod_nonneg (n + 1) (Int.ne_of_gt hl0)
        omega)⟩
      have hat : atI (ns.map PyData.int) ((n + 1) % (ns.length : Int)) = some (.int cell) := by
        have h0 := Int.emod_nonneg (n + 1) (Int.ne_of_gt hl0)
        have e : ((n + 1) % (ns.length : Int)) = ((((n + 1) % (ns.length : Int)).toNat : Nat) : Int) := by omega
        rw [e]
        exact atI_nat (by rw [List.getElem?_map, hcell]; rfl)
      refine b_cons (s_set 4 (Ex.refl H5) (e_ixL (ds := ns.map .int) (d := .int cell) (e_varD 3 rfl hca5) (e_modI (e_intI U.int (e_ixB (e_var 0 rfl) e_int T5.at_ (at2 _ _ _))) (e_len U.len (e_varD 3 rfl hca5) (n := ns.length) (by show some (ns.map PyData.int).length = _; rw [List.length_map]) (by omega)) hl0) hat) (fun v6 B6 H6 s6 r6 => ?_) sc_l_take.nd)
      have r7 := r6 B6 (Ex.refl B6)
      cases r7
      have T6 := T5.step s6.h
      refine b_cons (s_set 5 (Ex.refl H6) (e_modI (e_intI U.int (e_addI (e_addI (e_mulI (e_var 4 rfl) e_int (.inr (by decide))) (e_mulI (e_ixB (e_var 0 rfl) e_int T6.at_ (at2 _ _ _)) e_int (.inr (by decide)))) (e_ixB (e_var 0 rfl) e_int T6.at_ (at1 _ _ _)))) e_int (by decide)) (fun v7 B7 H7 s7 r7 => ?_) sc_l_take.nd)
      have ev7 := r7 B7 (Ex.refl B7)
      obtain ⟨f1, hf1, hf0, hf2⟩ : ∃ f1 : Int, v7 = .int f1 ∧ 0 ≤ f1 ∧ f1 < 2147483629 := ⟨_, ev7, Int.emod_nonneg _ (by decide), Int.emod_lt_of_pos _ (by decide)⟩
      subst hf1
      have T7 := T6.step s7.h
      refine b_cons (s_set 6 (Ex.refl H7) (e_modI (e_intI U.int (e_addI (e_mulI (e_var 5 rfl) (e_var 5 rfl) (.inr ⟨by omega, by omega⟩)) (e_ixB (e_var 0 rfl) e_int T7.at_ (at1 _ _ _)))) e_int (by decide)) (fun v8 B8 H8 s8 r8 => ?_) sc_l_take.nd)
      have ev8 := r8 B8 (Ex.refl B8)
      obtain ⟨f2, hg1, hg0, hg2⟩ : ∃ f1 : Int, v8 = .int f1 ∧ 0 ≤ f1 ∧ f1 < 2147483647 := ⟨_, ev8, Int.emod_nonneg _ (by decide), Int.emod_lt_of_pos _ (by decide)⟩
      subst hg1
      have T8 := T7.step s8.h
      refine b_cons (s_set 7 (Ex.refl H8) (e_modI (e_intI U.int (e_addI (e_mulI (e_var 6 rfl) (e_var 6 rfl) (.inr ⟨by omega, by omega⟩)) (e_ixB (e_var 0 rfl) e_int T8.at_ (at2 _ _ _)))) e_int (by decide)) (fun v9 B9 H9 s9 r9 => ?_) sc_l_take.nd)
      have ev9 := r9 B9 (Ex.refl B9)
      obtain ⟨f3, hh1, hh0, hh2⟩ : ∃ f1 : Int, v9 = .int f1 ∧ 0 ≤ f1 ∧ f1 < 2147483629 := ⟨_, ev9, Int.emod_nonneg _ (by decide), Int.emod_lt_of_pos _ (by decide)⟩
      subst hh1
      have T9 := T8.step s9.h
      refine b_one (s_ret (Ex.refl H9) (e_modI (e_intI U.int (e_fdivI (e_var 7 rfl) e_int (wide_div (by decide) (b := 200) (by decide) (by decide) (by decide)))) (e_var 1 rfl) hm) fun v10 B10 H10 s10 r10 => ?_)
      have ev10 : v10 = .int (f3 / 64 % m) := r10 B10 (Ex.refl B10)
      subst ev10
      exact fin H10 _ _ _ _ (T9.step s10.h) (Int.emod_nonneg _ hm0) (Int.emod_lt_of_pos _ hm)
end
end K8

/-! The law's small helpers. -/
namespace K8
open PySem PySem.Spec PyProof.Rows L2 Evl
theorem dps_bools_inv {K : PySem.W.Frag} {H : Hp} : ∀ {bs : List Bool} {vs : List V}, DpAll K H vs (bs.map PyData.bool) → vs = bs.map V.bl
  | [], _, h => by cases h; rfl
  | b :: bs, _, h => by
    cases h with
    | cons h1 h2 =>
      cases h1
      rw [dps_bools_inv h2]
      rfl
section
variable {X : Cx} {σ : Slots} {B B' H H' : Hp} {R R' Ra Rb : Rel} {e a b c l o : Expr} {es rest : List Expr} {pos p pos2 apos : Pos} {x y z v : V} {D : Ends} {ds : List PyData}
/-- all(e) of a list of bools -/
theorem e_allB {bs : List Bool} (hc : X.calm = true) (hm : X.mg "all" = none) (he : EvE X e σ B (IsD X.K (.list (bs.map .bool)))) (hg : Gl X "all" := by rfl) (hs : starEach [e] X.env = (false, eval e X.env) :: starEach [] X.env := by rfl) (hpl : (backTo pos (starEach [] X.env)).any (·.1) = false := by rfl) : EvE X (.Call (.Name "all" p) [e] [] pos) σ B (IsV (.bl (bs.all id))) :=
  e_callB (R := IsV (.bl (bs.all id))) (cr_all hc) hm (by decide +kernel) (a_one he hs) (fun vs B1 e1 r H1 i1 Q q => by
    obtain ⟨v1, vs1, rfl, r1, r3⟩ := r
    have e3 : vs1 = [] := r3
    subst e3
    cases r1 with
    | lst g1 g2 =>
      have ex := dps_bools_inv g2
      subst ex
      exact ⟨_, bs, rfl, ex_l i1 g1, q.val i1⟩) hg (he := hs) (hpl := hpl)
end
section
variable {P : Program} {w : World} {K : PySem.W.Frag}
variable {mg : Str → Option Value} {base : Heap}
abbrev D_l_is_integer (P : Program) (w : World) (K : PySem.W.Frag) (mg : Str → Option Value) (base : Heap) : Prop := Dfn P w K mg base CX0 1 "_law_is_integer" ["_law_value"] (Pure (preV K 1 (fun _ => True) fIsInteger))
theorem ok_l_is_integer {f : Addr} {fd : FuncData} (U : Bi mg) (F : Fun K "_law_is_integer" "_law_is_integer" s_l_is_integer f fd) : FnOk P w K mg base CX0 1 f fd ["_law_value"] (Pure (preV K 1 (fun _ => True) fIsInteger)) := by
  refine pureV_ok F sc_l_is_integer fun cdv A outer s B H vs Q E ds hr e0 hd hl _ y => ?_
  obtain ⟨d, v, rfl, rfl, hv⟩ := dps1 hd hl
  refine b_one (s_retY e0 (R := IsV (.bl (isIntD d))) ?_ y)
  rw [← isIntD_eq]
  exact e_and (e_isi U.isinstance (e_varD 0 rfl hv) U.int (by decide +kernel) (kit_int d)) fun _ => e_one (e_not (e_isi U.isinstance (e_varD 0 rfl hv) U.bool (by decide +kernel) (kit_bool d)))
/-- a row of the right width is one -/
def preLRow (K : PySem.W.Frag) : List V → Hp → Rel → Prop := fun vs B R => ∃ (n : Nat) (r : List Int) (v : V), vs = [v, .int (n : Int)] ∧ Dp K B v (dRow r) ∧ GoodRow n r ∧ R = IsV (.bl true)
abbrev D_l_is_row (P : Program) (w : World) (K : PySem.W.Frag) (mg : Str → Option Value) (base : Heap) : Prop := Dfn P w K mg base CX0 2 "_law_is_row" ["_law_value", "_law_width"] (Pure (preLRow K))
theorem ok_l_is_row {f : Addr} {fd : FuncData} (U : Bi mg) (GI : D_l_is_integer P w K mg base) (F : Fun K "_law_is_row" "_law_is_row" s_l_is_row f fd) : FnOk P w K mg base CX0 2 f fd ["_law_value", "_law_width"] (Pure (preLRow K)) := by
  refine pure_ok F sc_l_is_row (fun vs H R ⟨n, r, v, hv, _⟩ => by rw [hv]; rfl) fun cdv A outer s B H vs Q E R hr e0 h y => ?_
  obtain ⟨n, r, v, rfl, hv, hg, rfl⟩ := h
  have hl : lenD (dRow r) = some n := by
    show some (r.map PyData.int).length = _
    rw [List.length_map, hg.len]
  have ht := hg.top
  refine b_cons (s_if (k := false) e0 ((w_or (k1 := false) (k2 := false) ((t_not (t_bl (e_isi (k := true) (T := "tuple") U.isinstance (e_varD 0 rfl hv) U.tuple (by decide +kernel) rfl))).is rfl) fun _ => w_or1 ((t_neV (e_len U.len (e_varD 0 rfl hv) hl (by omega)) (e_var 1 rfl) rfl).is (by simp))).t.is rfl) (fun h => by cases h) fun _ H1 s1 => b_nil ?_)
  have hall : (r.map fun _ => true).all id = true := by simp
  refine b_one (s_retY s1.i (e_allB (bs := r.map fun _ => true) rfl U.all (EvP.imp (n_lcT (own := [("_law_entry", 2)]) (j := 2) r PyData.int (fun _ => .bool true) sc_l_is_row.nd (by rw [hg.len]; omega) (e_varD 0 rfl hv) rfl fun a ha σ2 B' e2 t s H0 C cl fp => ?_).dl fun v2 B2 _ r2 => ?_)) ?_)
  · obtain ⟨v1, rfl, h1⟩ := t
    have h1 : Dp K B' v1 (.int a) := h1
    have h0 := hg.nn a ha
    refine ((e_and (k1 := true) (k2 := true) (e_callK (ds := [.int a]) (v := .bl true) GI (hr.mono (by decide)) (ad_cons (e_varD 2 rfl h1) ad_nil) rfl trivial rfl) fun _ => e_one ?_).d (.bl true))
    have e : (true : Bool) = decide ((0 : Int) ≤ a) := (decide_eq_true h0).symm
    rw [e]
    exact e_geI (e_varD 2 rfl h1).int e_int
  · rw [List.map_map]
    exact isTL_d r2
  · rw [hall]
    exact y.go s1
def preLScene (K : PySem.W.Frag) : List V → Hp → Rel → Prop := fun vs B R => ∃ (n : Nat) (s : Scene) (v : V), vs = [v, .int (n : Int)] ∧ Dp K B v (dScene s) ∧ GoodRow n s.2 ∧ R = IsV (.bl true)
abbrev D_l_is_scene (P : Program) (w : World) (K : PySem.W.Frag) (mg : Str → Option Value) (base : Heap) : Prop := Dfn P w K mg base CX0 3 "_law_is_scene" ["_law_value", "_law_width"] (Pure (preLScene K))
theorem ok_l_is_scene {f : Addr} {fd : FuncData} (U : Bi mg) (GR : D_l_is_row P w K mg base) (F : Fun K "_law_is_scene" "_law_is_scene" s_l_is_scene f fd) : FnOk P w K mg base CX0 3 f fd ["_law_value", "_law_width"] (Pure (preLScene K)) := by
  refine pure_ok F sc_l_is_scene (fun vs H R ⟨n, r, v, hv, _⟩ => by rw [hv]; rfl) fun cdv A outer s B H vs Q E R hr e0 h y => ?_
  obtain ⟨n, t, v, rfl, hv, hg, rfl⟩ := h
  refine b_cons (s_if (k := false) e0 ((w_or (k1 := false) (k2 := false) ((t_not (t_bl (e_isi (k := true) (T := "tuple") U.isinstance (e_varD 0 rfl hv) U.tuple (by decide +kernel) rfl))).is rfl) fun _ => w_or1 ((t_neV (e_len (n := 2) U.len (e_varD 0 rfl hv) rfl (by omega)) e_int rfl).is (by decide))).t.is rfl) (fun h => by cases h) fun _ H1 s1 => b_nil ?_)
  exact b_one (s_retY s1.i (R := IsV (.bl (true && true))) (e_and (k1 := true) (e_isi (T := "str") (d := .str t.1) U.isinstance (e_ixT (ds := [.str t.1, dRow t.2]) (e_varD 0 rfl hv) e_int (atI_nat (j := 0) rfl)) U.str (by decide +kernel) rfl) fun _ => e_one (e_callP GR (hr.mono (by decide)) (a_cons (e_ixT (d := dRow t.2) (ds := [.str t.1, dRow t.2]) (e_varD 0 rfl hv) e_int (atI_nat (j := 1) rfl)) (a_one (e_var 1 rfl))) fun vs B1 e1 r => by
    obtain ⟨v1, vs1, rfl, r1, v2, vs2, rfl, r2, r3⟩ := r
    have e3 : vs2 = [] := r3
    have e2 : v2 = .int (n : Int) := r2
    subst e3 e2
    exact ⟨n, t.2, v1, rfl, r1, hg, rfl⟩)) (y.go s1))
/-- _law_says -/
def preSays : List V → Hp → Rel → Prop := fun vs B R => ∃ k : Bool, vs = [.bl k, .bl k] ∧ R = IsV (.bl true)
abbrev D_says (P : Program) (w : World) (K : PySem.W.Frag) (mg : Str → Option Value) (base : Heap) : Prop := Dfn P w K mg base CX0 1 "_law_says" ["_law_told", "_law_due"] (Pure preSays)
theorem ok_says {f : Addr} {fd : FuncData} (U : Bi mg) (F : Fun K "_law_says" "_law_says" s_l_says f fd) : FnOk P w K mg base CX0 1 f fd ["_law_told", "_law_due"] (Pure preSays) := by
  refine pure_ok F sc_l_says (fun vs H R ⟨k, hv, _⟩ => by rw [hv]; rfl) fun cdv A outer s B H vs Q E R hr e0 h y => ?_
  obtain ⟨k, rfl, rfl⟩ := h
  refine b_one (s_retY e0 (R := IsV (.bl (true && true))) (e_and (k1 := true) (e_isi (T := "bool") (d := .bool k) U.isinstance ((e_var 0 rfl).d (.bl k)) U.bool (by decide +kernel) rfl) fun _ => e_one ?_) y)
  have e : (true : Bool) = decide (V.bl k = V.bl k) := (decide_eq_true rfl).symm
  rw [e]
  exact e_eqV (e_var 0 rfl) (e_var 1 rfl) rfl
/-- _law_over -/
def fOver : List PyData → V | [a, b] => .bl (decide (LeR (rowOf b) (rowOf a))) | _ => .non
def okOver (ds : List PyData) : Prop := ∃ ns ms : List Int, ds = [dRow ns, dRow ms] ∧ ns.length = ms.length ∧ ms.length ≤ 1000
abbrev D_over (P : Program) (w : World) (K : PySem.W.Frag) (mg : Str → Option Value) (base : Heap) : Prop := Dfn P w K mg base CX0 1 "_law_over" ["_law_big", "_law_small"] (Pure (preV K 2 okOver fOver))
theorem ok_over {f : Addr} {fd : FuncData} (U : Bi mg) (F : Fun K "_law_over" "_law_over" s_l_over f fd) : FnOk P w K mg base CX0 1 f fd ["_law_big", "_law_small"] (Pure (preV K 2 okOver fOver)) := by
  refine pureV_ok F sc_l_over fun cdv A outer s B H vs Q E ds hr e0 hd hl hok y => ?_
  obtain ⟨ns, ms, rfl, hlen, hz⟩ := hok
  obtain ⟨d', e', v, u, e, rfl, hv, hu⟩ := dps2 hd hl
  cases e
  have y1 : Yields B H (IsV (.bl (decide (LeR ms ns)))) Q := by
    have q : Yields B H (IsV (.bl (decide (LeR (rowOf (dRow ms)) (rowOf (dRow ns)))))) Q := y
    rw [rowOf_dRow, rowOf_dRow] at q
    exact q
  have hlm : lenD (dRow ms) = some ms.length := by
    show some (ms.map PyData.int).length = _
    rw [List.length_map]
  refine b_cons (for_rS (i := 2) (fun j σ' => ∃ z, σ' = [some v, some u, z] ∧ ∀ (m : Nat) (x y : Int), m < j → ms[m]? = some x → ns[m]? = some y → x ≤ y) PassesOwn.never rfl (pg_name sc_l_over.nd rfl (.inl rfl)) U.range e0 (e_len U.len (e_varD 1 rfl hu) hlm (by omega)) (by omega) ⟨none, rfl, fun m _ _ h => absurd h (by omega)⟩ ?_ ?_)
  · rintro j σ' B' H' hj st ⟨z, rfl, hall⟩
    have hj' : j < ms.length := by omega
    have hjn : j < ns.length := by omega
    have at1 : atI (ns.map PyData.int) (j : Int) = some (.int ns[j]) := atI_nat (by rw [List.getElem?_map, List.getElem?_eq_getElem hjn]; rfl)
    have at2 : atI (ms.map PyData.int) (j : Int) = some (.int ms[j]) := atI_nat (by rw [List.getElem?_map, List.getElem?_eq_getElem hj']; rfl)
    refine b_one (s_if st.i (t_ltI (e_ixT (ds := ns.map .int) (e_varD 0 rfl (dp_grow hv st.b)) (e_var 2 rfl) at1).int (e_ixT (ds := ms.map .int) (e_varD 1 rfl (dp_grow hu st.b)) (e_var 2 rfl) at2).int) (fun h3 H3 s3 => ?_) fun h3 H3 s3 => b_nil ⟨B', ⟨_, rfl, fun m' x y hm hx hy => ?_⟩, s3⟩)
    · refine b_one (s_retB s3.i ((y1.go st).go s3) (decide_eq_false fun q => ?_))
      have := (leR_iff.mp q).2 j _ _ (List.getElem?_eq_getElem hj') (List.getElem?_eq_getElem hjn)
      have := of_decide_eq_true h3
      omega
    · by_cases q : m' = j
      · subst q
        rw [List.getElem?_eq_getElem hj'] at hx
        rw [List.getElem?_eq_getElem hjn] at hy
        cases hx
        cases hy
        have := of_decide_eq_false h3
        omega
      · exact hall m' x y (by omega) hx hy
  · rintro σ' B' H' st ⟨z, rfl, hall⟩
    refine b_one (s_retB st.i (y1.go st) (decide_eq_true (leR_iff.mpr ⟨hlen.symm, fun m x y hx hy => hall m x y ?_ hx hy⟩)))
    have := (List.getElem?_eq_some_iff.mp hx).1
    omega
/-- _law_covered -/
def preCov (K : PySem.W.Frag) : List V → Hp → Rel → Prop := fun vs B R => ∃ (n : Nat) (s : Scene) (L : List Scene) (v u : V), vs = [v, u] ∧ Dp K B v (dScene s) ∧ Dp K B u (.list (L.map dScene)) ∧ n ≤ 8 ∧ s.2.length = n ∧ (∀ t ∈ L, t.2.length = n ∧ PyData.strOk t.1 = true) ∧ L.length ≤ 10000 ∧ R = IsV (.bl (decide (Up L s)))
abbrev D_covered (P : Program) (w : World) (K : PySem.W.Frag) (mg : Str → Option Value) (base : Heap) : Prop := Dfn P w K mg base CX0 2 "_law_covered" ["_law_scene_here", "_law_scenes"] (Pure (preCov K))
theorem ok_covered {f : Addr} {fd : FuncData} (U : Bi mg) (GO : D_over P w K mg base) (F : Fun K "_law_covered" "_law_covered" s_l_covered f fd) : FnOk P w K mg base CX0 2 f fd ["_law_scene_here", "_law_scenes"] (Pure (preCov K)) := by
  refine pure_ok F sc_l_covered (fun vs H R ⟨n, s, L, v, u, hv, _⟩ => by rw [hv]; rfl) fun cdv A outer s0 B H vs Q E R hr e0 h y => ?_
  obtain ⟨n, s, L, v, u, rfl, hv, hu, hn, hs, hL, hz, rfl⟩ := h
  have hun : (cxOf CX0 P w K mg base N_l_covered "_law_covered" (defScope s_l_covered) f cdv A outer s0 H E).nox.A.units + 64 < cLine := hr.units
  have e : (!PyData.eqv (.list ((L.filter fun t => decide (Cov s t)).map dScene)) (.list [])) = decide (Up L s) := by
    cases q : L.filter fun t => decide (Cov s t) with
    | nil =>
      have : ¬ Up L s := fun ⟨b, hb, hc⟩ => by
        have : b ∈ L.filter fun t => decide (Cov s t) := List.mem_filter.mpr ⟨hb, decide_eq_true hc⟩
        rw [q] at this
        cases this
      rw [decide_eq_false this]
      simp [PyData.eqv, PyData.eqvAll]
    | cons b l =>
      have hb : b ∈ L.filter fun t => decide (Cov s t) := by
        rw [q]
        exact List.mem_cons_self
      rw [List.mem_filter] at hb
      have : Up L s := ⟨b, hb.1, of_decide_eq_true hb.2⟩
      rw [decide_eq_true this]
      simp [PyData.eqv, PyData.eqvAll]
  have hlay : ∀ d ∈ (L.filter fun t => decide (Cov s t)).map dScene, Lay 3 d := fun d hd => by
    obtain ⟨t, ht, rfl⟩ := List.mem_map.mp hd
    exact lay_scene (hL t (List.mem_filter.mp ht).1).2
  rw [← e] at y
  refine b_one (s_retY e0 (e_neD hun (EvP.imp (n_lcIf (own := [("_law_one", 2)]) (j := 2) L dScene (fun t => decide (Cov s t)) dScene sc_l_covered.nd (by omega) (e_varD 1 rfl hu) rfl (fun a ha σ2 B' e2 t s1 H0 C cl fp => ?_) fun a ha hk σ2 B' e2 t s1 H0 C cl fp => ?_).dl fun _ _ _ r => isTL_d r) (e_lstD ad_nil (by decide)) (lay_lst hlay).sh rfl) y)
  · obtain ⟨v1, rfl, h1⟩ := t
    have h1 : Dp K B' v1 (dScene a) := h1
    have ea : decide (Cov s a) = (decide (a.1 = s.1) && decide (LeR a.2 s.2)) := by
      rw [← Bool.decide_and]
      exact decide_eq_decide.mpr ⟨fun ⟨p, q⟩ => ⟨p.symm, q⟩, fun ⟨p, q⟩ => ⟨p.symm, q⟩⟩
    rw [ea]
    have e1 : decide (a.1 = s.1) = decide (V.str a.1 = V.str s.1) := eqStr.symm
    rw [e1]
    refine EvW.t (w_and (t_eqV (e_ixT (d := .str a.1) (ds := [.str a.1, dRow a.2]) (e_varD 2 rfl h1) e_int (atI_nat (j := 0) rfl)).str (e_ixT (d := .str s.1) (ds := [.str s.1, dRow s.2]) (e_varD 0 rfl (dp_grow hv e2)) e_int (atI_nat (j := 0) rfl)).str rfl) fun _ => w_and1 (t_bl (e_callK (v := .bl (decide (LeR a.2 s.2))) GO (hr.mono (by decide)) (ad_cons (e_ixT (d := dRow s.2) (ds := [.str s.1, dRow s.2]) (e_varD 0 rfl (dp_grow hv e2)) e_int (atI_nat (j := 1) rfl)) (ad_cons (e_ixT (d := dRow a.2) (ds := [.str a.1, dRow a.2]) (e_varD 2 rfl h1) e_int (atI_nat (j := 1) rfl)) ad_nil)) rfl ⟨s.2, a.2, rfl, by rw [hs, (hL a ha).1], by rw [(hL a ha).1]; omega⟩ ?_)))
    show V.bl (decide (LeR (rowOf (dRow a.2)) (rowOf (dRow s.2)))) = _
    rw [rowOf_dRow, rowOf_dRow]
  · obtain ⟨v1, rfl, h1⟩ := t
    exact e_varD 2 rfl h1
/-- _law_of -/
def preLOf (K : PySem.W.Frag) (C : Addr) : List V → Hp → Rel → Prop := fun vs B R => ∃ (n : Nat) (L : List Scene) (v : V), vs = [v] ∧ Dp K B v (.list (L.map dScene)) ∧ UGood n L ∧ 1 ≤ L.length ∧ L.length ≤ 3 ∧ R = IsU K C n (keptF L)
abbrev D_l_of (P : Program) (w : World) (K : PySem.W.Frag) (mg : Str → Option Value) (base : Heap) (C : Addr) : Prop := Dfn P w K mg base CX0 8 "_law_of" ["_law_scenes"] (Pure (preLOf K C))
theorem ok_l_of {C CE : Addr} {f : Addr} {fd : FuncData} (U : Bi mg) (UU : UM P w K mg base C CE) (F : Fun K "_law_of" "_law_of" s_l_of f fd) : FnOk P w K mg base CX0 8 f fd ["_law_scenes"] (Pure (preLOf K C)) := by
  refine pure_ok F sc_l_of (fun vs H R ⟨n, L, v, hv, _⟩ => by rw [hv]; rfl) fun cdv A outer s0 B H vs Q E R hr e0 h y => ?_
  obtain ⟨n, L, v, rfl, hv, hL, h1, h3, rfl⟩ := h
  have hl : lenD (.list (L.map dScene)) = some L.length := by
    show some (L.map dScene).length = _
    rw [List.length_map]
  have ix : ∀ (j : Nat) (s : Scene), L[j]? = some s → atI (L.map dScene) (j : Int) = some (dScene s) := fun j s hs => atI_nat (by rw [List.getElem?_map, hs]; rfl)
  match L, h1, h3, ix, hv, hL, y with
  | [a], _, _, ix, hv, hL, y =>
    exact b_cons (s_if (k := true) e0 ((t_eqV (e_len (n := 1) U.len (e_varD 0 rfl hv) rfl (by decide)) e_int rfl).is (by decide)) (fun _ H1 s1 => b_one (s_retY s1.i (e_of UU.un (hr.mono (by decide)) hL (ad_cons (e_ixL (e_varD 0 rfl hv) e_int (ix 0 a rfl)) ad_nil)) (y.go s1))) fun h => by cases h)
  | [a, b], _, _, ix, hv, hL, y =>
    refine b_cons (s_if (k := false) e0 ((t_eqV (e_len (n := 2) U.len (e_varD 0 rfl hv) rfl (by decide)) e_int rfl).is (by decide)) (fun h => by cases h) fun _ H1 s1 => b_nil ?_)
    exact b_cons (s_if (k := true) s1.i ((t_eqV (e_len (n := 2) U.len (e_varD 0 rfl hv) rfl (by decide)) e_int rfl).is (by decide)) (fun _ H2 s2 => b_one (s_retY s2.i (e_of UU.un (hr.mono (by decide)) hL (ad_cons (e_ixL (e_varD 0 rfl hv) e_int (ix 0 a rfl)) (ad_cons (e_ixL (e_varD 0 rfl hv) e_int (ix 1 b rfl)) ad_nil))) ((y.go s1).go s2))) fun h => by cases h)
  | [a, b, c], _, _, ix, hv, hL, y =>
    refine b_cons (s_if (k := false) e0 ((t_eqV (e_len (n := 3) U.len (e_varD 0 rfl hv) rfl (by decide)) e_int rfl).is (by decide)) (fun h => by cases h) fun _ H1 s1 => b_nil ?_)
    refine b_cons (s_if (k := false) s1.i ((t_eqV (e_len (n := 3) U.len (e_varD 0 rfl hv) rfl (by decide)) e_int rfl).is (by decide)) (fun h => by cases h) fun _ H2 s2 => b_nil ?_)
    exact b_one (s_retY s2.i (e_of UU.un (hr.mono (by decide)) hL (ad_cons (e_ixL (e_varD 0 rfl hv) e_int (ix 0 a rfl)) (ad_cons (e_ixL (e_varD 0 rfl hv) e_int (ix 1 b rfl)) (ad_cons (e_ixL (e_varD 0 rfl hv) e_int (ix 2 c rfl)) ad_nil)))) ((y.go s1).go s2))
end
end K8

/-! What is drawn: tests, comprehensions whose outcome is not told; _law_bag, _law_base, _law_scene. -/
namespace K8
open PySem PySem.Spec PyProof.Rows L2 Evl
section
variable {X : Cx} {σ : Slots} {B B' H H' : Hp} {R R' Ra Rb : Rel} {e a b c l o : Expr} {es rest : List Expr} {pos p pos2 apos : Pos} {x y z v : V} {D : Ends} {ds : List PyData} {body : List Stmt}
/-- a test, either outcome -/
def EvTA (X : Cx) (e : Expr) (σ : Slots) (B : Hp) : Prop := ∀ H, Ex B H → ∀ Q : Bool → Hp → Prop, (∀ k B1 H1, Step B H B1 H1 → Q k H1) → wT X e σ H Q
theorem ta_cmp {op : CmpOp} {r : R2} (ho : OpR X (compareOp op) r) (ha : EvE X a σ B Ra) (hb : EvE X b σ B Rb) (hr : ∀ x y B1, Ex B B1 → Ra x B1 → Rb y B1 → RvP r x y B1 (fun v _ => ∃ k, v = .bl k)) (hm : behindInMarks op b = false) : EvTA X (.Compare a [op] [b] pos) σ B := fun H1 e1 Q q =>
  w_pt (pt_cmpR ho pe_w pe_w hm) (ha H1 e1 _ fun x B1 H1 s1 r1 => (hb.mono s1.b) H1 s1.i _ fun y B2 H2 s2 r2 => hr x y B2 (s1.b.trans s2.b) (r1 B2 s2.b) (r2 B2 (Ex.refl B2)) H2 s2.i _ fun v B3 H3 s3 r3 => by
    obtain ⟨k, ev⟩ := r3 B3 (Ex.refl B3)
    exact ⟨k, ev, q k B3 H3 ((s1.trans s2).trans s3)⟩)
theorem ta_eqI (ha : EvE X a σ B (fun v _ => ∃ i : Int, v = .int i)) (hb : EvE X b σ B (fun v _ => ∃ i : Int, v = .int i)) : EvTA X (.Compare a [.Eq] [b] pos) σ B :=
  ta_cmp op_eq ha hb (fun x y B1 _ r1 r2 H1 i1 Q q => by
    obtain ⟨i, rfl⟩ := r1
    obtain ⟨j, rfl⟩ := r2
    exact ⟨rfl, q.at i1 fun _ _ => ⟨_, rfl⟩⟩) (nomark _)
theorem s_ifA (e0 : Ex B H) (h : EvTA X c σ B) {s1 s2 : List Stmt} (h1 : ∀ H1, Step B H B H1 → wB X s1 D σ H1) (h2 : ∀ H1, Step B H B H1 → wB X s2 D σ H1) : wS X (.If c s1 s2 pos) D σ H :=
  w_ps (ps_if pt_w pss_w pss_w) (h H e0 _ fun k B1 H1 s => by
    have s' : Step B H B H1 := ⟨Ex.refl B, e0.trans s.h, s.h, fun _ _ h _ => h⟩
    cases k with
    | true => exact h1 H1 s'
    | false => exact h2 H1 s')
/-- or: the second is looked at if the first is false -/
def EvWA (X : Cx) (e : Expr) (σ : Slots) (B : Hp) : Prop := ∀ H, Ex B H → ∀ Q : Bool → Hp → Prop, (∀ k B1 H1, Step B H B1 H1 → Q k H1) → wW X e σ H Q
theorem EvWA.t (h : EvWA X e σ B) : EvTA X e σ B := fun H e0 Q q => w_pt pw_w.pt (h H e0 Q q)
theorem wa_or1 (h : EvTA X a σ B) : EvWA X (.BoolOp .Or [a] pos) σ B := fun H1 e1 Q q => w_pw (pw_or1 pt_w) (h H1 e1 Q q)
theorem wa_and1 (h : EvTA X a σ B) : EvWA X (.BoolOp .And [a] pos) σ B := fun H1 e1 Q q => w_pw (pw_and1 pt_w) (h H1 e1 Q q)
theorem wa_or {k1 : Bool} (ha : EvTE X a σ B k1) (hb : k1 = false → EvWA X (.BoolOp .Or (b :: rest) pos) σ B) : EvWA X (.BoolOp .Or (a :: b :: rest) pos) σ B := fun H1 e1 Q q => w_pw (pw_or pt_w pw_w) (ha H1 e1 _ fun B2 H2 s => by
  cases k1 with
  | false => exact hb rfl H2 s.same.i Q fun k B3 H3 s3 => q k B3 H3 (s.same.trans s3)
  | true => exact q true B2 H2 s)
theorem wa_and {k1 : Bool} (ha : EvTE X a σ B k1) (hb : k1 = true → EvWA X (.BoolOp .And (b :: rest) pos) σ B) : EvWA X (.BoolOp .And (a :: b :: rest) pos) σ B := fun H1 e1 Q q => w_pw (pw_and pt_w pw_w) (ha H1 e1 _ fun B2 H2 s => by
  cases k1 with
  | true => exact hb rfl H2 s.same.i Q fun k B3 H3 s3 => q k B3 H3 (s.same.trans s3)
  | false => exact q false B2 H2 s)
theorem ta_of {k : Bool} (h : EvTE X e σ B k) : EvTA X e σ B := fun H e0 Q q => h H e0 Q fun B1 H1 s => q k B1 H1 s
/-! ### comprehensions -/
/-- over range(n), n not told -/
theorem lc_rE {g : TG} {te : TE} {vs : List Nat} {K : PySem.W.Frag} {ta : TE} {N0 : Nat} (A : PyData → Prop) (T : Slots → Prop) (hn : N0 ≤ 40000) (src : EvP ta σ B (fun v _ => ∃ n : Int, v = .int n ∧ 0 ≤ n ∧ n ≤ N0))
    (hgo : ∀ (j : Nat) H' (Q : Slots → Hp → Prop), (∀ σ2, T σ2 → wipe σ2 vs = wipe σ vs → Q σ2 H') → g (.int (j : Int)) (wipe σ vs) H' Q)
    (he : ∀ σ2 B', Ex B B' → T σ2 → EvP te σ2 B' (fun v B1 => ∃ d, A d ∧ Dp K B1 v d)) :
    EvN (tLc (iRng1 (tCons ta tNil)) g tYes te vs) σ B (fun p B1 H1 => ∃ ds, ds.length ≤ N0 ∧ (∀ d ∈ ds, A d) ∧ NewL (AD K ds) p B1 H1) := fun H e0 Q q => src H e0 _ fun v B1 H1 s1 r => by
  obtain ⟨n, rfl, h0, h1⟩ := r B1 (Ex.refl B1)
  refine ⟨n, rfl, by omega, by omega, fun Dl hD => lc_range (lo := 0) (n := n.toNat) (fun i H' => ∃ ds, ds.length = i ∧ (∀ d ∈ ds, A d) ∧ LcP K B1 H1 Dl ds H') ⟨[], rfl, fun _ h => absurd h (by simp), lcP_start s1.i hD⟩ (fun i H' hi P => ?_) fun H' P => ?_⟩
  · obtain ⟨ds, hlen, hA, B', acc, s, m, hd, hacc⟩ := P
    have ez : (0 : Int) + (i : Int) = (i : Int) := Int.zero_add _
    rw [ez]
    refine hgo i H' _ fun σ2 hT hwp => ⟨hwp, ?_⟩
    show te σ2 H' fun y H4 => ∃ acc, H4 Dl = some (.lst acc) ∧ acc.length < sizeLine ∧ _
    refine he σ2 B' (s1.b.trans s.b) hT H' s.i _ fun y B4 H4 s4 r4 => ?_
    have n4 : B4 Dl = none := s4.off _ _ m hd
    obtain ⟨d, hd1, hd2⟩ := r4 B4 (Ex.refl B4)
    refine ⟨acc, s4.h _ _ hd, sz_lt (by rw [dps_len hacc]; omega), ds ++ [d], by rw [List.length_append, hlen]; rfl, fun x hx => ?_, B4, acc ++ [y], (s.trans s4).put n4 hD, n4, upd_same, dps_append (dps_grow hacc s4.b) (.cons hd2 .nil)⟩
    rcases List.mem_append.1 hx with hx | hx
    · exact hA x hx
    · rw [List.mem_singleton.mp hx]
      exact hd1
  · obtain ⟨ds, hlen, hA, B', acc, s, m, hd, hacc⟩ := P
    exact q Dl B' H' (fresh_back s1.h hD) m (s1.trans s) ⟨ds, by omega, hA, acc, hd, fun B2 e2 => dps_grow hacc e2⟩
theorem n_lcRE {j : Nat} {own : List (Str × Nat)} {elt : Expr} {n : Str} {pn pr : Pos} {scope : Scope} {N0 : Nat} (A : PyData → Prop) (hN : X.N.Nodup) (hm : X.mg "range" = none) (src : EvE X a σ B (fun v _ => ∃ m : Int, v = .int m ∧ 0 ≤ m ∧ m ≤ N0)) (hn : N0 ≤ 40000) (ok : blkC X.N X.env.scope scope own = true)
    (he : ∀ (i : Int) B', Ex B B' → EvBE X scope elt ((wipe σ (own.map (·.2))).set j (some (.int i))) B' (fun v B1 => ∃ d, A d ∧ Dp X.K B1 v d)) (hc : X.calm = true := by rfl) (hgl : Gl X "range" := by rfl)
    (hj : X.N[j]? = some n := by rfl) (hx : ∀ (C : Addr) (cl : List (Str × Addr)), Loc (compEnvC scope cl C X.env).scope n := by intro _ _; first | exact Or.inl rfl | exact Or.inr rfl) (hf : ∀ (s : Shared) (H0 : Hp) (C : Addr) (cl : List (Str × Addr)) (fp : List Addr), (X.blk s H0 scope (compEnvC scope cl C X.env) fp).fn n = true ∨ (X.blk s H0 scope (compEnvC scope cl C X.env) fp).env.scope.names.lookup n = some .local := by intro _ _ _ _ _; first | exact .inl rfl | exact .inr rfl)
    (hw : ∀ x, wipe ((wipe σ (own.map (·.2))).set j (some x)) (own.map (·.2)) = wipe σ (own.map (·.2)) := by intro _; rfl) (hst : starEach [a] X.env = [(false, eval a X.env)] := by rfl) (hs : ∀ x, foldedSetIterable (.Call (.Name "range" p) [a] [] pr) X.env x = pure x := by intro _; rfl) :
    EvNE X (.ListComp elt [⟨.Name n pn, .Call (.Name "range" p) [a] [] pr, [], 0⟩] scope pos) σ B (fun q B1 H1 => ∃ ds, ds.length ≤ N0 ∧ (∀ d ∈ ds, A d) ∧ NewL (AD X.K ds) q B1 H1) :=
  of_peN (pe_lc hc hN (pi_range1 hgl hm (pa_cons pe_w pa_nil hst) hst) (blkOk_by ok) (fun s H0 C cl fp => pg_name hN hj (hx C cl) (hf s H0 C cl fp)) (fun _ _ _ _ _ => pts_nil) pe_wB hs)
    (lc_rE A (fun σ2 => ∃ i : Int, σ2 = (wipe σ (own.map (·.2))).set j (some (.int i))) hn src (fun i H' Q k => k _ ⟨_, rfl⟩ (hw _)) fun σ2 B' e2 t => by
      obtain ⟨i, rfl⟩ := t
      exact (he i B' e2).ev)
/-- over a tuple or a list, each item told by a relation -/
def Rows2 {α : Type} (A : α → PyData → Prop) : List α → List PyData → Prop
  | [], [] => True
  | a :: as, d :: ds => A a d ∧ Rows2 A as ds
  | _, _ => False
theorem rows2_len {α : Type} {A : α → PyData → Prop} : ∀ {L : List α} {ds : List PyData}, Rows2 A L ds → ds.length = L.length
  | [], [], _ => rfl
  | _ :: _, _ :: _, h => by rw [List.length_cons, List.length_cons, rows2_len h.2]
  | [], _ :: _, h => h.elim
  | _ :: _, [], h => h.elim
theorem rows2_snoc {α : Type} {A : α → PyData → Prop} : ∀ {L : List α} {ds : List PyData} {a : α} {d : PyData}, Rows2 A L ds → A a d → Rows2 A (L ++ [a]) (ds ++ [d])
  | [], [], _, _, _, h => ⟨h, trivial⟩
  | _ :: _, _ :: _, _, _, h, k => ⟨h.1, rows2_snoc h.2 k⟩
  | [], _ :: _, _, _, h, _ => h.elim
  | _ :: _, [], _, _, h, _ => h.elim
theorem take_next' {α : Type} {L : List α} {i : Nat} {a : α} (h : L[i]? = some a) : L.take (i + 1) = L.take i ++ [a] := by
  rw [List.take_succ_eq_append_getElem (List.getElem?_eq_some_iff.mp h).1, (List.getElem?_eq_some_iff.mp h).2]
theorem lc_tE {α : Type} {g : TG} {te : TE} {vs : List Nat} {K : PySem.W.Frag} {tl : TE} (L : List α) (enc : α → PyData) (A : α → PyData → Prop) (T : α → Slots → Hp → Prop) (hz : L.length ≤ 40000) (src : EvP tl σ B (IsD K (.tuple (L.map enc))))
    (hgo : ∀ a ∈ L, ∀ v B' H' (Q : Slots → Hp → Prop), Ex B B' → Ex B' H' → Dp K B' v (enc a) → (∀ σ2, T a σ2 B' → wipe σ2 vs = wipe σ vs → Q σ2 H') → g v (wipe σ vs) H' Q)
    (he : ∀ a ∈ L, ∀ σ2 B', Ex B B' → T a σ2 B' → EvP te σ2 B' (fun v B1 => ∃ d, A a d ∧ Dp K B1 v d)) : EvN (tLc (iTup K tl) g tYes te vs) σ B (fun p B1 H1 => ∃ ds, Rows2 A L ds ∧ NewL (AD K ds) p B1 H1) := fun H e0 Q q => src H e0 _ fun v B1 H1 s1 r => by
  have r1 := r B1 (Ex.refl B1)
  cases r1 with
  | tup hq ha =>
    rename_i a xs
    have hl : xs.length = L.length := by rw [dps_len ha, List.length_map]
    refine ⟨a, rfl, ⟨xs, ex_t s1.i hq⟩, fun Dl hD => lc_tup (xs := xs) (fun i H' => ∃ ds, Rows2 A (L.take i) ds ∧ LcP K B1 H1 Dl ds H') ⟨[], trivial, lcP_start s1.i hD⟩ (fun i H' _ ⟨ds, _, B', acc, s, _⟩ => ex_t (s.b.trans s.i) hq) (fun i x H' hx P => ?_) fun H' P => ?_⟩
    · obtain ⟨d, hd1, hd2⟩ := dps_get ha hx
      rw [List.getElem?_map] at hd1
      obtain ⟨w, hw, rfl⟩ := Option.map_eq_some_iff.mp hd1
      have hm : w ∈ L := List.mem_of_getElem? hw
      obtain ⟨ds, hR, B', acc, s, n, hd, hacc⟩ := P
      have hlen : ds.length ≤ L.length := by
        rw [rows2_len hR, List.length_take]
        omega
      refine hgo w hm x B' H' _ (s1.b.trans s.b) s.i (dp_grow hd2 s.b) fun σ2 hT hwp => ⟨hwp, ?_⟩
      unfold tYes
      dsimp only
      rw [if_pos rfl]
      refine he w hm σ2 B' (s1.b.trans s.b) hT H' s.i _ fun y B4 H4 s4 r4 => ?_
      have n4 : B4 Dl = none := s4.off _ _ n hd
      obtain ⟨d4, hd3, hd4⟩ := r4 B4 (Ex.refl B4)
      refine ⟨acc, s4.h _ _ hd, sz_lt (by rw [dps_len hacc]; omega), ds ++ [d4], ?_, B4, acc ++ [y], (s.trans s4).put n4 hD, n4, upd_same, dps_append (dps_grow hacc s4.b) (.cons hd4 .nil)⟩
      rw [take_next' hw]
      exact rows2_snoc hR hd3
    · obtain ⟨ds, hR, B', acc, s, n, hd, hacc⟩ := P
      rw [hl, List.take_length] at hR
      exact q Dl B' H' (fresh_back s1.h hD) n (s1.trans s) ⟨ds, hR, acc, hd, fun B2 e2 => dps_grow hacc e2⟩
theorem lc_lE {α : Type} {g : TG} {te : TE} {vs : List Nat} {K : PySem.W.Frag} {tl : TE} (L : List α) (enc : α → PyData) (A : α → PyData → Prop) (T : α → Slots → Hp → Prop) (hz : L.length ≤ 40000) (src : EvP tl σ B (IsD K (.list (L.map enc))))
    (hgo : ∀ a ∈ L, ∀ v B' H' (Q : Slots → Hp → Prop), Ex B B' → Ex B' H' → Dp K B' v (enc a) → (∀ σ2, T a σ2 B' → wipe σ2 vs = wipe σ vs → Q σ2 H') → g v (wipe σ vs) H' Q)
    (he : ∀ a ∈ L, ∀ σ2 B', Ex B B' → T a σ2 B' → EvP te σ2 B' (fun v B1 => ∃ d, A a d ∧ Dp K B1 v d)) : EvN (tLc (iList K tl) g tYes te vs) σ B (fun p B1 H1 => ∃ ds, Rows2 A L ds ∧ NewL (AD K ds) p B1 H1) := fun H e0 Q q => src H e0 _ fun v B1 H1 s1 r => by
  have r1 := r B1 (Ex.refl B1)
  cases r1 with
  | lst hq ha =>
    rename_i a xs
    have hl : xs.length = L.length := by rw [dps_len ha, List.length_map]
    refine ⟨a, rfl, ⟨xs, ex_l s1.i hq⟩, fun Dl hD => lc_list (xs := xs) (fun i H' => ∃ ds, Rows2 A (L.take i) ds ∧ LcP K B1 H1 Dl ds H') ⟨[], trivial, lcP_start s1.i hD⟩ (fun i H' _ ⟨ds, _, B', acc, s, _⟩ => ex_l (s.b.trans s.i) hq) (fun i x H' hx P => ?_) fun H' P => ?_⟩
    · obtain ⟨d, hd1, hd2⟩ := dps_get ha hx
      rw [List.getElem?_map] at hd1
      obtain ⟨w, hw, rfl⟩ := Option.map_eq_some_iff.mp hd1
      have hm : w ∈ L := List.mem_of_getElem? hw
      obtain ⟨ds, hR, B', acc, s, n, hd, hacc⟩ := P
      have hlen : ds.length ≤ L.length := by
        rw [rows2_len hR, List.length_take]
        omega
      refine hgo w hm x B' H' _ (s1.b.trans s.b) s.i (dp_grow hd2 s.b) fun σ2 hT hwp => ⟨hwp, ?_⟩
      unfold tYes
      dsimp only
      rw [if_pos rfl]
      refine he w hm σ2 B' (s1.b.trans s.b) hT H' s.i _ fun y B4 H4 s4 r4 => ?_
      have n4 : B4 Dl = none := s4.off _ _ n hd
      obtain ⟨d4, hd3, hd4⟩ := r4 B4 (Ex.refl B4)
      refine ⟨acc, s4.h _ _ hd, sz_lt (by rw [dps_len hacc]; omega), ds ++ [d4], ?_, B4, acc ++ [y], (s.trans s4).put n4 hD, n4, upd_same, dps_append (dps_grow hacc s4.b) (.cons hd4 .nil)⟩
      rw [take_next' hw]
      exact rows2_snoc hR hd3
    · obtain ⟨ds, hR, B', acc, s, n, hd, hacc⟩ := P
      rw [hl, List.take_length] at hR
      exact q Dl B' H' (fresh_back s1.h hD) n (s1.trans s) ⟨ds, hR, acc, hd, fun B2 e2 => dps_grow hacc e2⟩
theorem n_lcTE {α : Type} {j : Nat} {own : List (Str × Nat)} {elt : Expr} {n : Str} {pn : Pos} {scope : Scope} (L : List α) (enc : α → PyData) (A : α → PyData → Prop) (hN : X.N.Nodup) (hz : L.length ≤ 40000) (src : EvE X l σ B (IsD X.K (.tuple (L.map enc)))) (ok : blkC X.N X.env.scope scope own = true)
    (he : ∀ a ∈ L, ∀ σ2 B', Ex B B' → TName X.K σ (own.map (·.2)) j (enc a) σ2 B' → EvBE X scope elt σ2 B' (fun v B1 => ∃ d, A a d ∧ Dp X.K B1 v d)) (hc : X.calm = true := by rfl)
    (hj : X.N[j]? = some n := by rfl) (hx : ∀ (C : Addr) (cl : List (Str × Addr)), Loc (compEnvC scope cl C X.env).scope n := by intro _ _; first | exact Or.inl rfl | exact Or.inr rfl) (hf : ∀ (s : Shared) (H0 : Hp) (C : Addr) (cl : List (Str × Addr)) (fp : List Addr), (X.blk s H0 scope (compEnvC scope cl C X.env) fp).fn n = true ∨ (X.blk s H0 scope (compEnvC scope cl C X.env) fp).env.scope.names.lookup n = some .local := by intro _ _ _ _ _; first | exact .inl rfl | exact .inr rfl)
    (hw : ∀ x, wipe ((wipe σ (own.map (·.2))).set j (some x)) (own.map (·.2)) = wipe σ (own.map (·.2)) := by intro _; rfl) (hs : ∀ x, foldedSetIterable l X.env x = pure x := by intro _; rfl) :
    EvNE X (.ListComp elt [⟨.Name n pn, l, [], 0⟩] scope pos) σ B (fun p B1 H1 => ∃ ds, Rows2 A L ds ∧ NewL (AD X.K ds) p B1 H1) :=
  of_peN (pe_lc hc hN (pi_tup pe_w) (blkOk_by ok) (fun s H0 C cl fp => pg_name hN hj (hx C cl) (hf s H0 C cl fp)) (fun _ _ _ _ _ => pts_nil) pe_wB hs)
    (lc_tE (te := wEB X scope elt) (g := gName j) (vs := own.map (·.2)) (K := X.K) (tl := wE X l) L enc A (fun a => TName X.K σ (own.map (·.2)) j (enc a)) hz src (fun a _ v B' H' Q _ _ hd k => go_name hw hd k) fun a ha σ2 B' e2 t => (he a ha σ2 B' e2 t).ev)
theorem n_lcLE {α : Type} {j : Nat} {own : List (Str × Nat)} {elt : Expr} {n : Str} {pn : Pos} {scope : Scope} (L : List α) (enc : α → PyData) (A : α → PyData → Prop) (hN : X.N.Nodup) (hz : L.length ≤ 40000) (src : EvE X l σ B (IsD X.K (.list (L.map enc)))) (ok : blkC X.N X.env.scope scope own = true)
    (he : ∀ a ∈ L, ∀ σ2 B', Ex B B' → TName X.K σ (own.map (·.2)) j (enc a) σ2 B' → EvBE X scope elt σ2 B' (fun v B1 => ∃ d, A a d ∧ Dp X.K B1 v d)) (hc : X.calm = true := by rfl)
    (hj : X.N[j]? = some n := by rfl) (hx : ∀ (C : Addr) (cl : List (Str × Addr)), Loc (compEnvC scope cl C X.env).scope n := by intro _ _; first | exact Or.inl rfl | exact Or.inr rfl) (hf : ∀ (s : Shared) (H0 : Hp) (C : Addr) (cl : List (Str × Addr)) (fp : List Addr), (X.blk s H0 scope (compEnvC scope cl C X.env) fp).fn n = true ∨ (X.blk s H0 scope (compEnvC scope cl C X.env) fp).env.scope.names.lookup n = some .local := by intro _ _ _ _ _; first | exact .inl rfl | exact .inr rfl)
    (hw : ∀ x, wipe ((wipe σ (own.map (·.2))).set j (some x)) (own.map (·.2)) = wipe σ (own.map (·.2)) := by intro _; rfl) (hs : ∀ x, foldedSetIterable l X.env x = pure x := by intro _; rfl) :
    EvNE X (.ListComp elt [⟨.Name n pn, l, [], 0⟩] scope pos) σ B (fun p B1 H1 => ∃ ds, Rows2 A L ds ∧ NewL (AD X.K ds) p B1 H1) :=
  of_peN (pe_lc hc hN (pi_list pe_w) (blkOk_by ok) (fun s H0 C cl fp => pg_name hN hj (hx C cl) (hf s H0 C cl fp)) (fun _ _ _ _ _ => pts_nil) pe_wB hs)
    (lc_lE (te := wEB X scope elt) (g := gName j) (vs := own.map (·.2)) (K := X.K) (tl := wE X l) L enc A (fun a => TName X.K σ (own.map (·.2)) j (enc a)) hz src (fun a _ v B' H' Q _ _ hd k => go_name hw hd k) fun a ha σ2 B' e2 t => (he a ha σ2 B' e2 t).ev)
/-! ### name = [..], stored by the comprehension itself -/
theorem s_setLcL {α : Type} {i j : Nat} {own : List (Str × Nat)} {elt : Expr} {n y0 : Str} {pn py : Pos} {scope : Scope} (L : List α) (enc : α → PyData) (g' : α → PyData) (hN : X.N.Nodup) (hz : L.length ≤ 40000) (src : EvE X l σ B (IsD X.K (.list (L.map enc)))) (ok : blkC X.N X.env.scope scope own = true)
    (he : ∀ a ∈ L, ∀ σ2 B', Ex B B' → TName X.K σ (own.map (·.2)) j (enc a) σ2 B' → EvBE X scope elt σ2 B' (IsD X.K (g' a))) (e0 : Ex B H)
    (kk : ∀ q B1 H1, H q = none → B1 q = none → Step B H B1 H1 → NewL (AD X.K (L.map g')) q B1 H1 → D.nx (σ.set i (some (.ref q))) H1) (hc : X.calm = true := by rfl)
    (hj : X.N[j]? = some n := by rfl) (hx : ∀ (C : Addr) (cl : List (Str × Addr)), Loc (compEnvC scope cl C X.env).scope n := by intro _ _; first | exact Or.inl rfl | exact Or.inr rfl) (hf : ∀ (s : Shared) (H0 : Hp) (C : Addr) (cl : List (Str × Addr)) (fp : List Addr), (X.blk s H0 scope (compEnvC scope cl C X.env) fp).fn n = true ∨ (X.blk s H0 scope (compEnvC scope cl C X.env) fp).env.scope.names.lookup n = some .local := by intro _ _ _ _ _; first | exact .inl rfl | exact .inr rfl)
    (hw : ∀ x, wipe ((wipe σ (own.map (·.2))).set j (some x)) (own.map (·.2)) = wipe σ (own.map (·.2)) := by intro _; rfl)
    (hy : X.N[i]? = some y0 := by rfl) (hyl : X.env.scope.names.lookup y0 = some .local := by rfl) (hs : ∀ x, foldedSetIterable l X.env x = pure x := by intro _; rfl)
    (hsw : swapsWith (.ListComp elt [⟨.Name n pn, l, [], 0⟩] scope pos) (some (.Name y0 py)) pos2.line X.env = pure true := by rfl) :
    wS X (.Assign [.Name y0 py] (.ListComp elt [⟨.Name n pn, l, [], 0⟩] scope pos) pos2) D σ H := by
  have h := lc_l (tt := tYes) (te := wEB X scope elt) (g := gName j) (vs := own.map (·.2)) (K := X.K) (tl := wE X l) L enc (fun _ => true) g' (fun a => TName X.K σ (own.map (·.2)) j (enc a)) hz src (fun a _ v B' H' Q _ _ hd k => go_name hw hd k) (fun _ _ _ _ _ _ H e0 Q q => q _ H (Step.refl e0)) fun a ha _ σ2 B' e2 t => (he a ha σ2 B' e2 t).ev
  rw [List.filter_eq_self.mpr (fun _ _ => rfl)] at h
  exact w_ps (ps_setLc hc hN hy hyl hsw (pi_list pe_w) (blkOk_by ok) (fun s H0 C cl fp => pg_name hN hj (hx C cl) (hf s H0 C cl fp)) (fun _ _ _ _ _ => pts_nil) pe_wB hs) (h H e0 _ kk)
theorem s_setLcLE {α : Type} {i j : Nat} {own : List (Str × Nat)} {elt : Expr} {n y0 : Str} {pn py : Pos} {scope : Scope} (L : List α) (enc : α → PyData) (A : α → PyData → Prop) (hN : X.N.Nodup) (hz : L.length ≤ 40000) (src : EvE X l σ B (IsD X.K (.list (L.map enc)))) (ok : blkC X.N X.env.scope scope own = true)
    (he : ∀ a ∈ L, ∀ σ2 B', Ex B B' → TName X.K σ (own.map (·.2)) j (enc a) σ2 B' → EvBE X scope elt σ2 B' (fun v B1 => ∃ d, A a d ∧ Dp X.K B1 v d)) (e0 : Ex B H)
    (kk : ∀ q B1 H1, H q = none → B1 q = none → Step B H B1 H1 → (∃ ds, Rows2 A L ds ∧ NewL (AD X.K ds) q B1 H1) → D.nx (σ.set i (some (.ref q))) H1) (hc : X.calm = true := by rfl)
    (hj : X.N[j]? = some n := by rfl) (hx : ∀ (C : Addr) (cl : List (Str × Addr)), Loc (compEnvC scope cl C X.env).scope n := by intro _ _; first | exact Or.inl rfl | exact Or.inr rfl) (hf : ∀ (s : Shared) (H0 : Hp) (C : Addr) (cl : List (Str × Addr)) (fp : List Addr), (X.blk s H0 scope (compEnvC scope cl C X.env) fp).fn n = true ∨ (X.blk s H0 scope (compEnvC scope cl C X.env) fp).env.scope.names.lookup n = some .local := by intro _ _ _ _ _; first | exact .inl rfl | exact .inr rfl)
    (hw : ∀ x, wipe ((wipe σ (own.map (·.2))).set j (some x)) (own.map (·.2)) = wipe σ (own.map (·.2)) := by intro _; rfl)
    (hy : X.N[i]? = some y0 := by rfl) (hyl : X.env.scope.names.lookup y0 = some .local := by rfl) (hs : ∀ x, foldedSetIterable l X.env x = pure x := by intro _; rfl)
    (hsw : swapsWith (.ListComp elt [⟨.Name n pn, l, [], 0⟩] scope pos) (some (.Name y0 py)) pos2.line X.env = pure true := by rfl) :
    wS X (.Assign [.Name y0 py] (.ListComp elt [⟨.Name n pn, l, [], 0⟩] scope pos) pos2) D σ H := by
  have h := lc_lE (te := wEB X scope elt) (g := gName j) (vs := own.map (·.2)) (K := X.K) (tl := wE X l) L enc A (fun a => TName X.K σ (own.map (·.2)) j (enc a)) hz src (fun a _ v B' H' Q _ _ hd k => go_name hw hd k) (fun a ha σ2 B' e2 t => (he a ha σ2 B' e2 t).ev)
  exact w_ps (ps_setLc hc hN hy hyl hsw (pi_list pe_w) (blkOk_by ok) (fun s H0 C cl fp => pg_name hN hj (hx C cl) (hf s H0 C cl fp)) (fun _ _ _ _ _ => pts_nil) pe_wB hs) (h H e0 _ kk)
theorem s_setLcR {i j : Nat} {own : List (Str × Nat)} {elt : Expr} {n y0 : Str} {pn py pr : Pos} {scope : Scope} {m : Int} (A : Nat → PyData → Prop) (hN : X.N.Nodup) (hm : X.mg "range" = none) (src : EvE X a σ B (IsV (.int m))) (hn : 0 ≤ m ∧ m ≤ 40000) (ok : blkC X.N X.env.scope scope own = true)
    (he : ∀ (k : Nat), (k : Int) < m → ∀ B', Ex B B' → EvBE X scope elt ((wipe σ (own.map (·.2))).set j (some (.int (k : Int)))) B' (fun v B1 => ∃ d, A k d ∧ Dp X.K B1 v d)) (e0 : Ex B H)
    (kk : ∀ q B1 H1, H q = none → B1 q = none → Step B H B1 H1 → (∃ ds, ds.length = m.toNat ∧ (∀ (k : Nat) d, ds[k]? = some d → A k d) ∧ NewL (AD X.K ds) q B1 H1) → D.nx (σ.set i (some (.ref q))) H1) (hc : X.calm = true := by rfl)
    (hj : X.N[j]? = some n := by rfl) (hx : ∀ (C : Addr) (cl : List (Str × Addr)), Loc (compEnvC scope cl C X.env).scope n := by intro _ _; first | exact Or.inl rfl | exact Or.inr rfl) (hf : ∀ (s : Shared) (H0 : Hp) (C : Addr) (cl : List (Str × Addr)) (fp : List Addr), (X.blk s H0 scope (compEnvC scope cl C X.env) fp).fn n = true ∨ (X.blk s H0 scope (compEnvC scope cl C X.env) fp).env.scope.names.lookup n = some .local := by intro _ _ _ _ _; first | exact .inl rfl | exact .inr rfl)
    (hw : ∀ x, wipe ((wipe σ (own.map (·.2))).set j (some x)) (own.map (·.2)) = wipe σ (own.map (·.2)) := by intro _; rfl)
    (hy : X.N[i]? = some y0 := by rfl) (hyl : X.env.scope.names.lookup y0 = some .local := by rfl) (hgl : Gl X "range" := by rfl) (hst : starEach [a] X.env = [(false, eval a X.env)] := by rfl) (hs : ∀ x, foldedSetIterable (.Call (.Name "range" p) [a] [] pr) X.env x = pure x := by intro _; rfl)
    (hsw : swapsWith (.ListComp elt [⟨.Name n pn, .Call (.Name "range" p) [a] [] pr, [], 0⟩] scope pos) (some (.Name y0 py)) pos2.line X.env = pure true := by rfl) :
    wS X (.Assign [.Name y0 py] (.ListComp elt [⟨.Name n pn, .Call (.Name "range" p) [a] [] pr, [], 0⟩] scope pos) pos2) D σ H := by
  have h := lc_r (K := X.K) (te := wEB X scope elt) (g := gName j) (vs := own.map (·.2)) A (fun k σ2 => σ2 = (wipe σ (own.map (·.2))).set j (some (.int (k : Int)))) hn src (fun k H' Q _ kk => kk _ rfl (hw _)) (fun k hk σ2 B' e2 t => by
      subst t
      exact (he k hk B' e2).ev)
  exact w_ps (ps_setLc hc hN hy hyl hsw (pi_range1 hgl hm (pa_cons pe_w pa_nil hst) hst) (blkOk_by ok) (fun s H0 C cl fp => pg_name hN hj (hx C cl) (hf s H0 C cl fp)) (fun _ _ _ _ _ => pts_nil) pe_wB hs) (h H e0 _ kk)
/-- such a list joins the base -/
theorem EvN.dlE {te : TE} {K : PySem.W.Frag} {Pd : List PyData → Prop} (h : EvN te σ B (fun p B1 H1 => ∃ ds, Pd ds ∧ NewL (AD K ds) p B1 H1)) : EvP te σ B (fun v B1 => ∃ ds, Pd ds ∧ IsTL K ds v B1) := fun H e0 Q y => h H e0 Q fun q B1 H1 n0 n1 s ⟨ds, hp, vs, hv, r⟩ =>
  y (.ref q) _ H1 (s.join n1 n0 hv) fun B2 e2 => ⟨ds, hp, q, vs, rfl, e2 q _ upd_same, r B2 ((Ex.new n1).trans e2)⟩
/-- a tuple's or a list's slice as a new list -/
def cutD (ds : List PyData) (lo hi : Option Int) : List PyData := (ds.drop (HT.sIx ds.length 0 lo)).take (HT.sIx ds.length ds.length hi - HT.sIx ds.length 0 lo)
theorem cut_dps {K : PySem.W.Frag} {H : Hp} {vs : List V} {ds : List PyData} (h : DpAll K H vs ds) (lo hi : Option Int) : DpAll K H (cutV vs lo hi) (cutD ds lo hi) := by
  unfold cutV cutD
  rw [dps_len h]
  exact dps_take _ (dps_drop _ h)
theorem e_slTo {i : Int} {p2 : Pos} (he : EvE X e σ B (IsD X.K (.list ds))) (hu : EvE X b σ B (IsV (.int i))) : EvE X (.Subscript e (.Slice none (some b) none p2) pos) σ B (IsTL X.K (cutD ds none (some i))) :=
  of_pe (pe_slice sl_list pe_w po_none (po_some pe_w)) fun H e0 Q q => he H e0 _ fun x B1 H1 s1 r1 => (hu.mono s1.b) H1 s1.i _ fun y B2 H2 s2 r2 => by
    have ey : y = .int i := r2 B2 (Ex.refl B2)
    subst ey
    have r := r1 B2 s2.b
    cases r with
    | lst h1 h2 => exact ⟨i, rfl, _, _, rfl, ex_l s2.i h1, fun p hp => q _ _ _ ((s1.trans s2).trans (Step.new s2.i hp)) fun B3 e3 => ⟨p, _, rfl, e3 p _ upd_same, cut_dps (dps_grow h2 ((Ex.new (ex_none s2.i hp)).trans e3)) _ _⟩⟩
end
section
variable {P : Program} {w : World} {K : PySem.W.Frag}
variable {mg : Str → Option Value} {base : Heap}
/-! ### _law_bag -/
def preBag (K : PySem.W.Frag) : List V → Hp → Rel → Prop := fun vs B R => ∃ (ns : List Int) (v : V), vs = [v] ∧ Dp K B v (.list (ns.map .int)) ∧ ns.length ≤ 63 ∧ R = IsBag
abbrev D_bag (P : Program) (w : World) (K : PySem.W.Frag) (mg : Str → Option Value) (base : Heap) : Prop := Dfn P w K mg base CX0 1 "_law_bag" ["_law_script"] (Pure (preBag K))
theorem cut63 {ns : List Int} (h : ns.length ≤ 63) : cutD (ns.map .int) none (some 63) = ns.map .int := by
  have e1 : HT.sIx (ns.map PyData.int).length 0 none = 0 := by simp [HT.sIx]
  have e2 : HT.sIx (ns.map PyData.int).length (ns.map PyData.int).length (some 63) = (ns.map PyData.int).length := by
    rw [List.length_map]
    simp only [HT.sIx]
    have : ¬ ((63 : Int) < 0) := by decide
    first
      | omega
      | (simp; omega)
  unfold cutD
  rw [e2, e1, List.drop_zero, Nat.sub_zero, List.take_length]
theorem Step.joinAs {B H B1 H1 : Hp} (s : Step B H B1 H1) {p : Addr} {o : HO} (n : B1 p = none) (m : H p = none) : Step B H (upd B1 p o) (upd H1 p o) :=
  ⟨s.b.trans (Ex.new n), ex_upd2 s.i, s.h.mut m, fun a u h1 h2 => by
    rw [upd_ne (ne_of_none h2 m)]
    exact s.off a u h1 h2⟩
theorem ok_bag {f : Addr} {fd : FuncData} (U : Bi mg) (F : Fun K "_law_bag" "_law_bag" s_l_bag f fd) : FnOk P w K mg base CX0 1 f fd ["_law_script"] (Pure (preBag K)) := by
  refine pure_ok F sc_l_bag (fun vs H R ⟨ns, v, hv, _⟩ => by rw [hv]; rfl) fun cdv A outer s0 B H vs Q E R hr e0 h y => ?_
  obtain ⟨ns, v, rfl, hv, hz, rfl⟩ := h
  refine b_closeBag ?_
  refine b_cons (s_setLcL (i := 1) (own := [("_law_cell", 2)]) (j := 2) ns PyData.int PyData.int sc_l_bag.nd (by omega) (EvP.imp (e_slTo (e_varD 0 rfl hv) e_int) fun v1 B1 _ r => by rw [cut63 hz] at r; exact isTL_d r) rfl (fun a ha σ2 B' e2 t s H0 C cl fp => ?_) e0 fun ca B0 H1 m0 m1 s10 r10 => ?_)
  · obtain ⟨v1, rfl, h1⟩ := t
    have h1 : Dp K B' v1 (.int a) := h1
    exact (e_intI U.int (e_varD 2 rfl h1).int).intD
  · obtain ⟨cvs, hc0, hc20⟩ := r10
    obtain ⟨B1, hB1⟩ : ∃ B1, B1 = upd B0 ca (.lst cvs) := ⟨_, rfl⟩
    have s1 : Step B H B1 H1 := hB1 ▸ s10.join m1 m0 hc0
    have hc1 : B1 ca = some (.lst cvs) := by rw [hB1, upd_same]
    have hc2 : DpAll K B1 cvs (ns.map .int) := hc20 B1 (by rw [hB1]; exact Ex.new m1)
    have hcd : Dp K B1 (.ref ca) (.list (ns.map .int)) := .lst (sq_of hc1) hc2
    refine b_cons (s_set 3 s1.i e_int (fun v2 B2 H2 s2 r2 => ?_) sc_l_bag.nd)
    have ev : v2 = .int 0 := r2 B2 (Ex.refl B2)
    subst ev
    refine b_cons (s_set 4 s2.i e_int (fun v3 B3 H3 s3 r3 => ?_) sc_l_bag.nd)
    have ev : v3 = .int 7 := r3 B3 (Ex.refl B3)
    subst ev
    have st := (s1.trans s2).trans s3
    have hcd3 := dp_grow (dp_grow hcd s2.b) s3.b
    refine b_cons (for_lS (i := 2) ns PyData.int (fun j σ' => ∃ z g s, σ' = [some v, some (.ref ca), z, some (.int g), some (.int s)]) PassesOwn.never rfl (pg_name sc_l_bag.nd rfl (.inl rfl)) st.i (e_varD 1 rfl hcd3) ⟨none, 0, 7, rfl⟩ ?_ ?_)
    · rintro j a x σ' B' H' ha stj hx ⟨z, g, s, rfl⟩
      have hx' : x = .int a := by cases hx; rfl
      subst hx'
      refine b_cons (s_set 4 stj.i (e_modI (e_intI U.int (e_addI (e_addI (e_mulI (e_var 4 rfl) e_int (.inr (by decide))) (e_modI (e_intI U.int (e_var 2 rfl)) e_int (by decide))) e_int)) e_int (by decide)) (fun v4 B4 H4 s4 r4 => ?_) sc_l_bag.nd)
      obtain rfl := r4 B4 (Ex.refl B4)
      refine b_one (s_ifA s4.i (EvWA.t (wa_and (t_eqV (e_var 3 rfl) e_int rfl) fun _ => wa_and1 (ta_of (t_geI (e_absI U.abs (e_var 2 rfl)) (e_powI e_int e_int (by exact ⟨by decide, by decide, by decide⟩)))))) (fun H5 s5 => ?_) fun H5 s5 => b_nil ⟨B4, ⟨_, _, _, rfl⟩, s4.trans s5⟩)
      refine b_one (s_set 3 s5.i (e_absI U.abs (e_var 2 rfl)) (fun v6 B6 H6 s6 r6 => ?_) sc_l_bag.nd)
      obtain rfl := r6 B6 (Ex.refl B6)
      exact ⟨B6, ⟨_, _, _, rfl⟩, (s4.trans s5).trans s6⟩
    · rintro σ' B' H' stj ⟨z, g, s, rfl⟩
      have stB := st.trans stj
      have hcb : B' ca = some (.lst cvs) := (stj.b.trans (Ex.refl _)) _ _ ((s2.trans s3).b _ _ hc1)
      refine b_one (s_retN stj.i (n_lst (a_cons (e_var 3 rfl) (a_cons (e_var 4 rfl) (a_cons e_int (a_one (e_var 1 rfl))))) (fun vs1 B5 r5 => by obtain ⟨x1, r1, rfl, _, x2, r2, rfl, _, x3, r3, rfl, _, x4, r4, rfl, _, h5⟩ := r5; rw [show r4 = [] from h5]; show 4 ≤ 100000; decide)) fun q B6 H6 n0 n1 s6 r6 => ?_)
      obtain ⟨vs6, hq6, r6⟩ := r6
      obtain ⟨x1, r1', rfl, rfl, x2, r2', rfl, rfl, x3, r3', rfl, rfl, x4, r4', rfl, rfl, h5⟩ := r6 B6 (Ex.refl B6)
      have h5' : r4' = [] := h5
      subst h5'
      have stF := stB.trans s6
      have hqH : H q = none := fresh_back (stB.h) n0
      refine ⟨q, ca, g, s, 0, hq6, y (.ref q) _ _ (stF.joinAs (o := bagO q ca) n1 hqH) fun B7 e7 => ?_⟩
      have hc6 : B6 ca = some (.lst cvs) := s6.b _ _ hcb
      have hne : q ≠ ca := fun e => by
        rw [e, hc6] at n1
        cases n1
      have hcv := dps_ints_inv hc2
      refine ⟨q, ca, ns, rfl, hne, e7 _ _ upd_same, e7 _ _ ?_, hz⟩
      rw [upd_ne (Ne.symm hne), hc6, hcv]
end
end K8

/-! _law_posts: three names. -/
namespace K8
open PySem PySem.Spec PyProof.Rows L2 Evl
/-! ### plain: texts -/
abbrev cpl (s : Str) : List Nat := s.cps.toList
theorem cpl_append (a b : Str) : cpl (a ++ b) = cpl a ++ cpl b := by
  show (a.cps ++ b.cps).toList = _
  rw [Array.toList_append]
theorem cpl_inj {a b : Str} (h : cpl a = cpl b) : a = b := by
  cases a
  cases b
  congr 1
  exact Array.toList_inj.mp h
theorem len_cpl (s : Str) : s.length = (cpl s).length := str_len s
theorem len_append (a b : Str) : (a ++ b).length = a.length + b.length := by
  rw [len_cpl, cpl_append, List.length_append, len_cpl, len_cpl]
def okc (c : Nat) : Bool := letterN c || digitN c
def AllOk (s : Str) : Prop := (cpl s).all okc = true
theorem allOk_append {a b : Str} (h : AllOk a) (k : AllOk b) : AllOk (a ++ b) := by
  unfold AllOk at *
  rw [cpl_append, List.all_append, h, k]
  rfl
theorem allOk_one {c : Nat} (h : okc c = true) : AllOk ⟨#[c]⟩ := by
  unfold AllOk cpl
  simp [h]
theorem headL_append {a b : Str} (h : headL a = true) : headL (a ++ b) = true := by
  unfold headL at *
  have e : (a ++ b).cps.toList = a.cps.toList ++ b.cps.toList := cpl_append a b
  rw [e]
  cases q : a.cps.toList with
  | nil => rw [q] at h; cases h
  | cons c r => rw [q] at h; exact h
theorem headL_one {c : Nat} {b : Str} (h : letterN c = true) : headL ((⟨#[c]⟩ : Str) ++ b) = true := headL_append (by unfold headL; exact h)
/-- three names as they come, ahead of the last look -/
structure Good1 (ps : List Str) : Prop where
  three : ps.length = 3
  nd : ps.Nodup
  ok : ∀ p ∈ ps, AllOk p ∧ headL p = true ∧ 1 ≤ p.length ∧ p.length ≤ 12
  res : (∃ p ∈ ps, p.length ≤ 4) → ∀ p ∈ ps, p.length ≤ 11
structure Good2 (ps : List Str) : Prop where
  three : ps.length = 3
  nd : ps.Nodup
  ok : ∀ p ∈ ps, nameB p = true
theorem resB_len {s : Str} (h : resB s = true) : s.length ≤ 4 := by
  unfold resB at h
  simp only [Bool.or_eq_true, beq_iff_eq] at h
  rcases h with h | h | h <;> rw [← h] <;> decide +kernel
theorem good2_same {ps : List Str} (h : Good1 ps) (hr : ∀ p ∈ ps, resB p = false) : Good2 ps := by
  refine ⟨h.three, h.nd, fun p hp => ?_⟩
  obtain ⟨h1, h2, h3, h4⟩ := h.ok p hp
  unfold nameB
  rw [decide_eq_true h3, decide_eq_true h4, h2, hr p hp, show (p.cps.toList.all fun c => letterN c || digitN c) = true from h1]
  rfl
theorem good2_q {ps : List Str} (h : Good1 ps) (hr : ∃ p ∈ ps, resB p = true) : Good2 (ps.map fun p => ("q" : Str) ++ p) := by
  obtain ⟨p0, hp0, hr0⟩ := hr
  have hl := h.res ⟨p0, hp0, resB_len hr0⟩
  refine ⟨by rw [List.length_map]; exact h.three, ?_, fun p hp => ?_⟩
  · unfold List.Nodup
    rw [List.pairwise_map]
    refine h.nd.imp fun {a b} ne e => ne (cpl_inj ?_)
    have e2 := congrArg cpl e
    rw [cpl_append, cpl_append] at e2
    exact List.append_cancel_left e2
  · obtain ⟨q, hq, rfl⟩ := List.mem_map.mp hp
    obtain ⟨h1, h2, h3, h4⟩ := h.ok q hq
    have h5 := hl q hq
    have eq1 : (("q" : Str) ++ q).length = 1 + q.length := by
      rw [len_append]
      congr 1
    have hq1 : ("q" : Str) = ⟨#[113]⟩ := by decide +kernel
    have ha : (("q" : Str) ++ q).cps.toList.all (fun c => letterN c || digitN c) = true := allOk_append (a := "q") (by rw [hq1]; exact allOk_one (by decide)) h1
    have hh : headL (("q" : Str) ++ q) = true := by
      rw [hq1]
      exact headL_one (by decide)
    have hnr : resB (("q" : Str) ++ q) = false := by
      have e : ∀ t : Str, headL t = true → (cpl t).head? = some 113 → resB t = false := fun t _ ht => by
        unfold resB
        simp only [Bool.or_eq_false_iff, beq_eq_false_iff_ne, ne_eq]
        refine ⟨fun z => ?_, fun z => ?_, fun z => ?_⟩ <;> (rw [← z] at ht; exact absurd ht (by decide +kernel))
      refine e _ hh ?_
      rw [cpl_append, hq1]
      rfl
    unfold nameB
    rw [eq1, decide_eq_true (show 1 ≤ 1 + q.length by omega), decide_eq_true (show 1 + q.length ≤ 12 by omega), hh, hnr, ha]
    rfl
/-- h, h and a letter, and a sign more -/
theorem good1_a {h : Str} {c d : Nat} (hh : headL h = true) (ha : AllOk h) (h6 : h.length ≤ 6) (h0 : 1 ≤ h.length) (hc : letterN c = true) (hd : okc d = true) : Good1 [h, h ++ ⟨#[c]⟩, h ++ ⟨#[c]⟩ ++ ⟨#[d]⟩] := by
  have l1 : (h ++ (⟨#[c]⟩ : Str)).length = h.length + 1 := len_append _ _
  have l2 : (h ++ (⟨#[c]⟩ : Str) ++ (⟨#[d]⟩ : Str)).length = h.length + 1 + 1 := by rw [len_append, l1]; rfl
  have a1 : AllOk (h ++ (⟨#[c]⟩ : Str)) := allOk_append ha (allOk_one (by unfold okc; rw [hc]; rfl))
  refine ⟨rfl, ?_, fun p hp => ?_, fun _ p hp => ?_⟩
  · have ne1 : h ≠ h ++ ⟨#[c]⟩ := fun e => by
      have := congrArg Str.length e
      omega
    have ne2 : h ≠ h ++ ⟨#[c]⟩ ++ ⟨#[d]⟩ := fun e => by
      have := congrArg Str.length e
      omega
    have ne3 : h ++ ⟨#[c]⟩ ≠ h ++ ⟨#[c]⟩ ++ ⟨#[d]⟩ := fun e => by
      have := congrArg Str.length e
      omega
    simp [ne1, ne2, ne3]
  · simp only [List.mem_cons, List.not_mem_nil, or_false] at hp
    rcases hp with rfl | rfl | rfl
    · exact ⟨ha, hh, h0, by omega⟩
    · exact ⟨a1, headL_append hh, by omega, by omega⟩
    · exact ⟨allOk_append a1 (allOk_one hd), headL_append (headL_append hh), by omega, by omega⟩
  · simp only [List.mem_cons, List.not_mem_nil, or_false] at hp
    rcases hp with rfl | rfl | rfl <;> omega
/-- h, three letters, ends -/
theorem good1_b {h : Str} {c0 c1 c2 : Nat} {t0 t1 t2 : Str} (hh : h.length = 0 ∨ headL h = true) (ha : AllOk h) (h6 : h.length ≤ 6) (k0 : letterN c0 = true) (k1 : letterN c1 = true) (k2 : letterN c2 = true) (n1 : c0 ≠ c1) (n2 : c0 ≠ c2) (n3 : c1 ≠ c2)
    (g0 : AllOk t0 ∧ t0.length ≤ 5) (g1 : AllOk t1 ∧ t1.length ≤ 5) (g2 : AllOk t2 ∧ t2.length ≤ 5) : Good1 [h ++ ⟨#[c0]⟩ ++ t0, h ++ ⟨#[c1]⟩ ++ t1, h ++ ⟨#[c2]⟩ ++ t2] := by
  have L : ∀ (c : Nat) (t : Str), (h ++ (⟨#[c]⟩ : Str) ++ t).length = h.length + 1 + t.length := fun c t => by rw [len_append, len_append]; rfl
  have A : ∀ (c : Nat) (t : Str), letterN c = true → AllOk t → AllOk (h ++ (⟨#[c]⟩ : Str) ++ t) := fun c t hc ht => allOk_append (allOk_append ha (allOk_one (by unfold okc; rw [hc]; rfl))) ht
  have Hd : ∀ (c : Nat) (t : Str), letterN c = true → headL (h ++ (⟨#[c]⟩ : Str) ++ t) = true := fun c t hc => by
    rcases hh with z | z
    · have e : h ++ (⟨#[c]⟩ : Str) ++ t = (⟨#[c]⟩ : Str) ++ t := cpl_inj (by
        rw [len_cpl] at z
        rw [cpl_append, cpl_append, List.length_eq_zero_iff.mp z, cpl_append]
        rfl)
      rw [e]
      exact headL_one hc
    · exact headL_append (headL_append z)
  have N : ∀ (c d : Nat) (t u : Str), c ≠ d → h ++ (⟨#[c]⟩ : Str) ++ t ≠ h ++ (⟨#[d]⟩ : Str) ++ u := fun c d t u ne e => by
    have e2 := congrArg cpl e
    rw [cpl_append, cpl_append, cpl_append, cpl_append, List.append_assoc, List.append_assoc] at e2
    have e3 := List.append_cancel_left e2
    have e4 : c = d := by
      have : (c :: cpl t) = (d :: cpl u) := e3
      exact (List.cons.inj this).1
    exact ne e4
  have l0 := L c0 t0
  have l1 := L c1 t1
  have l2 := L c2 t2
  refine ⟨rfl, ?_, fun p hp => ?_, fun hres p hp => ?_⟩
  · simp [N c0 c1 t0 t1 n1, N c0 c2 t0 t2 n2, N c1 c2 t1 t2 n3]
  · simp only [List.mem_cons, List.not_mem_nil, or_false] at hp
    rcases hp with rfl | rfl | rfl
    · exact ⟨A _ _ k0 g0.1, Hd _ _ k0, by omega, by omega⟩
    · exact ⟨A _ _ k1 g1.1, Hd _ _ k1, by omega, by omega⟩
    · exact ⟨A _ _ k2 g2.1, Hd _ _ k2, by omega, by omega⟩
  · obtain ⟨q, hq, hq4⟩ := hres
    simp only [List.mem_cons, List.not_mem_nil, or_false] at hp hq
    rcases hq with rfl | rfl | rfl <;> rcases hp with rfl | rfl | rfl <;> omega
abbrev lettersS : Str := "abcdefghijklmnopqrstuvwxyz"
abbrev signsS : Str := lettersS ++ "0123456789"
theorem letters_at : ∀ i : Nat, i < 26 → (cpl lettersS)[i]? = some (97 + i) := by decide +kernel
theorem letters_len : lettersS.length = 26 := by decide +kernel
theorem signs_len : signsS.length = 36 := by decide +kernel
theorem letters_all : (cpl lettersS).all letterN = true := by decide +kernel
theorem signs_all : (cpl signsS).all okc = true := by decide +kernel
theorem strJoin_empty : ∀ ys : List Str, cpl (Str.join ("" : Str) ys) = ys.flatMap cpl
  | [] => by decide +kernel
  | [x] => by simp [Str.join]
  | x :: y :: r => by
    have ih := strJoin_empty (y :: r)
    show cpl (x ++ ("" : Str) ++ Str.join ("" : Str) (y :: r)) = _
    rw [cpl_append, cpl_append, ih]
    have e : cpl ("" : Str) = [] := by decide +kernel
    rw [e, List.append_nil]
    rfl
theorem join_empty (ys : List Str) : cpl (Txt.join ("" : Str) ys) = ys.flatMap cpl := by
  rw [TL.join_eq, strJoin_empty]
/-- a sign -/
def ASign (d : PyData) : Prop := ∃ c : Nat, d = .str ⟨#[c]⟩ ∧ okc c = true
theorem signs_of : ∀ ds : List PyData, (∀ d ∈ ds, ASign d) → ∃ ys : List Str, ds = ys.map .str ∧ (∀ y ∈ ys, AllOk y ∧ y.length = 1)
  | [], _ => ⟨[], rfl, fun _ h => absurd h (by simp)⟩
  | d :: ds, h => by
    obtain ⟨c, rfl, hc⟩ := h d List.mem_cons_self
    obtain ⟨ys, rfl, h2⟩ := signs_of ds fun x hx => h x (List.mem_cons_of_mem _ hx)
    exact ⟨⟨#[c]⟩ :: ys, rfl, fun y hy => by
      rcases List.mem_cons.1 hy with e | hy
      · rw [e]
        exact ⟨allOk_one hc, rfl⟩
      · exact h2 y hy⟩
theorem flat_ok : ∀ ys : List Str, (∀ y ∈ ys, AllOk y ∧ y.length = 1) → (ys.flatMap cpl).all okc = true ∧ (ys.flatMap cpl).length = ys.length ∧ (ys.map (·.length)).sum = ys.length
  | [], _ => ⟨rfl, rfl, rfl⟩
  | y :: ys, h => by
    obtain ⟨h1, h2, h3⟩ := flat_ok ys fun z hz => h z (List.mem_cons_of_mem _ hz)
    obtain ⟨g1, g2⟩ := h y List.mem_cons_self
    refine ⟨by rw [List.flatMap_cons, List.all_append, h1, show (cpl y).all okc = true from g1]; rfl, ?_, ?_⟩
    · rw [List.flatMap_cons, List.length_append, h2, ← len_cpl, g2, List.length_cons]
      omega
    · rw [List.map_cons, List.sum_cons, h3, g2, List.length_cons]
      omega
/-- a bit of text -/
def IsBit : Rel := fun v _ => ∃ t : Str, v = .str t ∧ AllOk t ∧ t.length ≤ 5
section
variable {X : Cx} {σ : Slots} {B B' H H' : Hp} {R R' Ra Rb : Rel} {e a b c l o : Expr} {es rest : List Expr} {pos p pos2 apos cpos : Pos} {x y z v : V} {D : Ends} {ds : List PyData} {body : List Stmt}
theorem e_joinE {j} {pc : Pos} (he : EvE X e σ B (fun v B1 => ∃ ds, (ds.length ≤ 5 ∧ ∀ d ∈ ds, ASign d) ∧ IsTL X.K ds v B1))
    (hp : ∀ {to : TE} {t : TA}, PE X (.Constant (.str ("" : Str)) j pc) to → PA X [e] t → PE X (.Call (.Attribute (.Constant (.str ("" : Str)) j pc) "join" apos) [e] [] cpos) (tBM X.K "str" (fun x xs H Q => ∃ a p, ∃ ys : List Str, x = .str a ∧ xs = [.ref p] ∧ (SqL X.K H p (ys.map V.str) ∨ SqT X.K H p (ys.map V.str)) ∧
    (ys.map (·.length)).sum + ys.length * a.length ≤ 16777216 ∧ Q (.str (Txt.join a ys)) H) to t) := by exact fun h1 h2 => pe_bm PySem.F.plainAttrs_str PySem.F.slot_str_join PySem.F.type_str_join mt_join h1 h2)
    (hs : starEach [e] X.env = (false, eval e X.env) :: starEach [] X.env := by rfl) : EvE X (.Call (.Attribute (.Constant (.str ("" : Str)) j pc) "join" apos) [e] [] cpos) σ B IsBit :=
  of_pe (hp pe_str (pa_cons pe_w pa_nil hs)) fun H e0 Q q => ⟨by first | exact rfl | exact True.intro, he H e0 _ fun v B1 H1 s1 r1 => by
    obtain ⟨ds, ⟨hz, hA⟩, p, vs, rfl, h1, h2⟩ := r1 B1 (Ex.refl B1)
    obtain ⟨ys, rfl, hy⟩ := signs_of ds hA
    have ev := dps_strs_inv h2
    subst ev
    obtain ⟨f1, f2, f3⟩ := flat_ok ys hy
    rw [List.length_map] at hz
    refine ⟨_, p, ys, rfl, rfl, .inl (sq_of (s1.i _ _ h1)), ?_, q _ B1 H1 s1 fun B2 e2 => ⟨_, rfl, ?_, ?_⟩⟩
    · rw [f3]
      have : ys.length * ("" : Str).length = 0 := by
        have : ("" : Str).length = 0 := by decide +kernel
        rw [this, Nat.mul_zero]
      omega
    · unfold AllOk
      rw [join_empty]
      exact f1
    · rw [len_cpl, join_empty, f2]
      exact hz⟩
/-- s[e], e below the length -/
theorem e_ixSE {s : Str} {m : Int} {Pc : Nat → Bool} (ha : EvE X a σ B (IsV (.str s))) (hb : EvE X b σ B (IsBelow m)) (hz : s.length ≤ 1000) (hm : m ≤ s.length) (hp : (cpl s).all Pc = true) (hs : PlainIx b := by exact fun _ _ => rfl) : EvE X (.Subscript a b pos) σ B (fun v _ => ∃ c : Nat, v = .str ⟨#[c]⟩ ∧ Pc c = true) :=
  e_ix ix_str ha hb (fun x y B1 e1 r1 r2 H1 i1 Q q => by
    cases r1
    obtain ⟨d, rfl, h0, h1⟩ := r2
    have hl : s.length = (cpl s).length := len_cpl s
    have hd : d.toNat < (cpl s).length := by omega
    have hat : atI (cpl s) d = some (cpl s)[d.toNat] := by
      have e : d = ((d.toNat : Nat) : Int) := by omega
      conv => lhs; rw [e]
      exact atI_nat (List.getElem?_eq_getElem hd)
    exact ⟨s, d, _, rfl, rfl, sz_of (by omega), hat, q.at i1 fun _ _ => ⟨_, rfl, List.all_eq_true.mp hp _ (List.getElem_mem hd)⟩⟩) hs
/-- a + b of texts, not told -/
theorem e_addSE {Pa Pb : Str → Prop} {la lb : Nat} (ha : EvE X a σ B (fun v _ => ∃ s, v = .str s ∧ Pa s ∧ s.length ≤ la)) (hb : EvE X b σ B (fun v _ => ∃ s, v = .str s ∧ Pb s ∧ s.length ≤ lb)) (hz : la + lb ≤ 1000) : EvE X (.BinOp a .Add b pos) σ B (fun v _ => ∃ s t, v = .str (s ++ t) ∧ (Pa s ∧ s.length ≤ la) ∧ Pb t ∧ t.length ≤ lb) :=
  e_op op_add_str ha hb fun x y B1 _ r1 r2 H1 i1 Q q => by
    obtain ⟨s, rfl, h1⟩ := r1
    obtain ⟨t, rfl, h2⟩ := r2
    exact ⟨s, t, rfl, rfl, sz_of (by omega), q.at i1 fun _ _ => ⟨s, t, rfl, h1, h2⟩⟩
/-- the truth of a list -/
theorem t_lst (ha : EvE X e σ B (IsD X.K (.list ds))) (he : ∀ whole, isTrue e X.env whole = (do let v ← whole; standAt e.pos; holding [v] (truthy v)) := by intro _; rfl) : EvTE X e σ B (!ds.isEmpty) := t_truth ha (fun v B1 _ r H1 i1 => by
    cases r with
    | lst h1 h2 => exact .inl ⟨_, ex_l i1 h1, by cases h2 <;> rfl⟩) he
/-- a test whose outcome tells something -/
def EvTP (X : Cx) (e : Expr) (σ : Slots) (B : Hp) (Pk : Bool → Prop) : Prop := ∀ H, Ex B H → ∀ Q : Bool → Hp → Prop, (∀ k B1 H1, Pk k → Step B H B1 H1 → Q k H1) → wT X e σ H Q
def EvWP (X : Cx) (e : Expr) (σ : Slots) (B : Hp) (Pk : Bool → Prop) : Prop := ∀ H, Ex B H → ∀ Q : Bool → Hp → Prop, (∀ k B1 H1, Pk k → Step B H B1 H1 → Q k H1) → wW X e σ H Q
theorem EvWP.t {Pk : Bool → Prop} (h : EvWP X e σ B Pk) : EvTP X e σ B Pk := fun H e0 Q q => w_pt pw_w.pt (h H e0 Q q)
theorem wp_or {k1 : Bool} (ha : EvTE X a σ B k1) (hb : k1 = false → EvTA X b σ B) : EvWP X (.BoolOp .Or [a, b] pos) σ B (fun k => k1 = true → k = true) := fun H1 e1 Q q => w_pw (pw_or pt_w pw_w) (ha H1 e1 _ fun B2 H2 s => by
  cases k1 with
  | false => exact w_pw (pw_or1 pt_w) (hb rfl H2 s.same.i _ fun k B3 H3 s3 => q k B3 H3 (fun h => by cases h) (s.same.trans s3))
  | true => exact q true B2 H2 (fun _ => rfl) s)
theorem wp_and {k1 : Bool} (ha : EvTE X a σ B k1) (hb : k1 = true → EvTA X b σ B) : EvWP X (.BoolOp .And [a, b] pos) σ B (fun k => k = true → k1 = true) := fun H1 e1 Q q => w_pw (pw_and pt_w pw_w) (ha H1 e1 _ fun B2 H2 s => by
  cases k1 with
  | true => exact w_pw (pw_and1 pt_w) (hb rfl H2 s.same.i _ fun k B3 H3 s3 => q k B3 H3 (fun _ => rfl) (s.same.trans s3))
  | false => exact q false B2 H2 (fun h => h) s)
theorem s_ifP {Pk : Bool → Prop} (e0 : Ex B H) (h : EvTP X c σ B Pk) {s1 s2 : List Stmt} (h1 : Pk true → ∀ H1, Step B H B H1 → wB X s1 D σ H1) (h2 : Pk false → ∀ H1, Step B H B H1 → wB X s2 D σ H1) : wS X (.If c s1 s2 pos) D σ H :=
  w_ps (ps_if pt_w pss_w pss_w) (h H e0 _ fun k B1 H1 hp s => by
    have s' : Step B H B H1 := ⟨Ex.refl B, e0.trans s.h, s.h, fun _ _ h _ => h⟩
    cases k with
    | true => exact h1 hp H1 s'
    | false => exact h2 hp H1 s')
/-- _law_take(bag, m) -/
theorem e_take {m : Int} {q : Pos} (GT : D_take X.prog X.w X.K X.mg X.base) (hr : Room 1 X.A) (ho : EvE X o σ B IsBag) (he : EvE X e σ B (IsV (.int m))) (h0 : 0 < m) (h1 : m < 2 ^ 200) (hg : Gl X "_law_take" := by rfl)
    (hs : starEach [o, e] X.env = (false, eval o X.env) :: starEach [e] X.env := by rfl) (hs2 : starEach [e] X.env = (false, eval e X.env) :: starEach [] X.env := by rfl) (hpl : (backTo pos (starEach [e] X.env)).any (·.1) = false := by rfl) : EvE X (.Call (.Name "_law_take" q) [o, e] [] pos) σ B (IsBelow m) :=
  e_callP GT hr (a_cons ho (a_one he hs2) hs) (fun vs B1 _ r => by
    obtain ⟨v1, vs1, rfl, r1, v2, vs2, rfl, r2, r3⟩ := r
    have e3 : vs2 = [] := r3
    have e2 : v2 = .int m := r2
    subst e3 e2
    exact ⟨v1, m, rfl, r1, h0, h1, rfl⟩) hg (by decide) hs hpl
end
theorem below_ex {m : Int} {v : V} {B : Hp} (h : IsBelow m v B) : ∃ i : Int, v = .int i := let ⟨d, h, _⟩ := h; ⟨d, h⟩
end K8

/-! _law_posts, _law_base, _law_scene. -/
namespace K8
open PySem PySem.Spec PyProof.Rows L2 Evl
theorem EvN.imp {te : TE} {σ : Slots} {B : Hp} {R R' : Addr → Hp → Hp → Prop} (h : EvN te σ B R) (k : ∀ p B1 H1, R p B1 H1 → R' p B1 H1) : EvN te σ B R' := fun H e0 Q q => h H e0 Q fun p B1 H1 n0 n1 s r => q p B1 H1 n0 n1 s (k p B1 H1 r)
section
variable {P : Program} {w : World} {K : PySem.W.Frag}
variable {mg : Str → Option Value} {base : Heap}
def IsPosts (K : PySem.W.Frag) : Rel := fun v B => ∃ ps : List Str, Good2 ps ∧ Dp K B v (.list (ps.map .str))
def prePosts (K : PySem.W.Frag) : List V → Hp → Rel → Prop := fun vs B R => ∃ v, vs = [v] ∧ IsBag v B ∧ R = IsPosts K
abbrev D_posts (P : Program) (w : World) (K : PySem.W.Frag) (mg : Str → Option Value) (base : Heap) : Prop := Dfn P w K mg base CX0 3 "_law_posts" ["_law_bag_here"] (Pure (prePosts K))
theorem l_letter (i : Nat) (h : i < 26) : letterN (97 + i) = true := by
  unfold letterN
  simp only [decide_eq_true_eq, Bool.and_eq_true]
  omega
abbrev sg (c : Nat) : Str := ⟨#[c]⟩
theorem headOne {c : Nat} (h : letterN c = true) : headL (⟨#[c]⟩ : Str) = true := h
theorem ok_posts {f : Addr} {fd : FuncData} (U : Bi mg) (GT : D_take P w K mg base) (F : Fun K "_law_posts" "_law_posts" s_l_posts f fd) : FnOk P w K mg base CX0 3 f fd ["_law_bag_here"] (Pure (prePosts K)) := by
  refine pure_ok F sc_l_posts (fun vs H R ⟨v, hv, _⟩ => by rw [hv]; rfl) fun cdv A outer s0 B H vs Q E R hr e0 h y => ?_
  obtain ⟨v, rfl, hb, rfl⟩ := h
  refine b_cons (s_set 1 e0 e_str (fun v1 B1 H1 s1 r1 => ?_) sc_l_posts.nd)
  have ev : v1 = .str lettersS := r1 B1 (Ex.refl B1)
  subst ev
  refine b_cons (s_set 2 s1.i (e_addS (e_var 1 rfl) e_str (by decide +kernel)) (fun v2 B2 H2 s2 r2 => ?_) sc_l_posts.nd)
  have ev : v2 = .str signsS := r2 B2 (Ex.refl B2)
  subst ev
  have st2 := s1.trans s2
  have hb2 := bag_grow hb st2.b
  refine b_cons (s_set 3 s2.i (e_joinE (EvN.dlE (EvN.imp (n_lcRE (own := [("_law_k", 4)]) (j := 4) (N0 := 5) ASign sc_l_posts.nd U.range (EvP.imp (e_take GT (hr.mono (by decide)) ((e_var 0 rfl).imp fun v B1 e r => by cases r; exact bag_grow hb2 e) e_int (by decide) (by decide)) fun v B1 _ r => by obtain ⟨d, h1, h2, h3⟩ := r; exact ⟨d, h1, h2, by omega⟩) (by decide) rfl fun i B' e' s' H0 C cl fp => ?_) fun p B1 H1 ⟨ds, h1, h2, h3⟩ => ⟨ds, ⟨h1, h2⟩, h3⟩))) (fun v3 B3 H3 s3 r3 => ?_) sc_l_posts.nd)
  · exact EvP.imp (e_ixSE (Pc := okc) (e_var 2 rfl) (e_take GT (hr.mono (by decide)) ((e_var 0 rfl).imp fun v B1 e r => by cases r; exact bag_grow (bag_grow hb2 e') e) e_int (by decide) (by decide)) (by rw [signs_len]; decide) (by rw [signs_len]; decide) signs_all) fun v B1 _ r => by
      obtain ⟨c, rfl, hc⟩ := r
      exact ⟨_, ⟨c, rfl, hc⟩, .str _⟩
  obtain ⟨h1, rfl, ha1, hl1⟩ := r3 B3 (Ex.refl B3)
  have st3 := st2.trans s3
  have hb3 := bag_grow hb2 s3.b
  -- the rest, from the head on
  have rest : ∀ (h : Str) (B' H' : Hp), Step B H B' H' → (h.length = 0 ∨ headL h = true) → AllOk h → h.length ≤ 6 →
      wB (cxOf CX0 P w K mg base N_l_posts "_law_posts" (defScope s_l_posts) f cdv A outer s0 H E).nox ((defBody s_l_posts).drop 4) { nx := fun _ H' => Q .non H', rt := Q } [some v, some (.str lettersS), some (.str signsS), some (.str h), none, none, none, none, none] H' := by
    intro h B' H' st hh ha h6
    have hb' := bag_grow hb st.b
    refine b_cons (s_set 5 st.i (e_take GT (hr.mono (by decide)) ((e_var 0 rfl).imp fun v B1 e r => by cases r; exact bag_grow hb' e) e_int (by decide) (by decide)) (fun v5 B5 H5 s5 r5 => ?_) sc_l_posts.nd)
    obtain ⟨sa, rfl, sa0, sa1⟩ := r5 B5 (Ex.refl B5)
    have hb5 := bag_grow hb' s5.b
    refine b_cons (s_set 6 s5.i (e_op op_add e_int (e_take GT (hr.mono (by decide)) ((e_var 0 rfl).imp fun v B1 e r => by cases r; exact bag_grow hb5 e) e_int (by decide) (by decide)) (R := fun v _ => ∃ i : Int, v = .int i ∧ 1 ≤ i ∧ i ≤ 8) fun x y B1 _ rx ry H1 i1 Q q => by
      cases rx
      obtain ⟨d, rfl, d0, d1⟩ := ry
      exact ⟨1, d, rfl, rfl, q.at i1 fun _ _ => ⟨1 + d, rfl, by omega, by omega⟩⟩) (fun v6 B6 H6 s6 r6 => ?_) sc_l_posts.nd)
    obtain ⟨se, rfl, se0, se1⟩ := r6 B6 (Ex.refl B6)
    have hb6 := bag_grow hb5 s6.b
    have st6 := (st.trans s5).trans s6
    -- the three letters
    obtain ⟨ci, hci⟩ : ∃ ci : Nat → Nat, ci = fun k : Nat => ((sa + (k : Int) * se) % 26).toNat := ⟨_, rfl⟩
    have hc26 : ∀ k : Nat, ci k < 26 := fun k => by
      rw [hci]
      have := Int.emod_nonneg (sa + (k : Int) * se) (show (26 : Int) ≠ 0 by decide)
      have := Int.emod_lt_of_pos (sa + (k : Int) * se) (show (0 : Int) < 26 by decide)
      show ((sa + (k : Int) * se) % 26).toNat < 26
      omega
    have hcc : ∀ k : Nat, (sa + (k : Int) * se) % 26 = (ci k : Int) := fun k => by
      rw [hci]
      have := Int.emod_nonneg (sa + (k : Int) * se) (show (26 : Int) ≠ 0 by decide)
      show _ = (((sa + (k : Int) * se) % 26).toNat : Int)
      omega
    have n01 : ci 0 ≠ ci 1 := fun e => by
      have a0 := hcc 0
      have a1 := hcc 1
      rw [e] at a0
      omega
    have n02 : ci 0 ≠ ci 2 := fun e => by
      have a0 := hcc 0
      have a1 := hcc 2
      rw [e] at a0
      omega
    have n12 : ci 1 ≠ ci 2 := fun e => by
      have a0 := hcc 1
      have a1 := hcc 2
      rw [e] at a0
      omega
    refine b_cons (s_setLcR (i := 7) (own := [("_law_k", 4)]) (j := 4) (fun k d => d = .str (h ++ sg (97 + ci k))) sc_l_posts.nd U.range e_int (by decide) rfl (fun k hk B7 e7 s' H0 C cl fp => ?_) s6.i fun q7 B7 H7 m0 m1 s7 r7 => ?_)
    · have hat : atI (cpl lettersS) ((sa + (k : Int) * se) % 26) = some (97 + ci k) := by
        rw [hcc k]
        exact atI_nat (letters_at (ci k) (hc26 k))
      refine EvP.imp (e_addS (e_var 3 rfl) (e_ixS (e_var 1 rfl) (e_modI (e_intI U.int (e_addI (e_var 5 rfl) (e_mulI (e_var 4 rfl) (e_var 6 rfl) (.inr ⟨by omega, by omega⟩)))) e_int (by decide)) (by rw [letters_len]; decide) hat) ?_) fun v B1 _ r => ?_
      · show h.length + 1 ≤ 100000
        omega
      · cases r
        exact ⟨_, rfl, .str _⟩
    obtain ⟨ds, hdl, hda, vs7, hv7, r7'⟩ := r7
    have hd3 : ds = [.str (h ++ sg (97 + ci 0)), .str (h ++ sg (97 + ci 1)), .str (h ++ sg (97 + ci 2))] := by
      have l3 : ds.length = 3 := hdl
      match ds, l3, hda with
      | [a, b, c], _, hda =>
        rw [hda 0 a rfl, hda 1 b rfl, hda 2 c rfl]
    have sj := s7.join m1 m0 hv7
    obtain ⟨B8, hB8⟩ : ∃ B8, B8 = upd B7 q7 (.lst vs7) := ⟨_, rfl⟩
    rw [← hB8] at sj
    have hp8 : Dp K B8 (.ref q7) (.list ([h ++ sg (97 + ci 0), h ++ sg (97 + ci 1), h ++ sg (97 + ci 2)].map .str)) := by
      refine .lst (sq_of (by rw [hB8, upd_same])) ?_
      have := r7' B8 (by rw [hB8]; exact Ex.new m1)
      rw [hd3] at this
      exact this
    have st8 := st6.trans sj
    have hb8 := bag_grow hb6 sj.b
    -- the last part
    have last : ∀ (ps : List Str) (x7 : V) (x8 : Option V) (x4 : Option V) (B' H' : Hp), Step B H B' H' → Good1 ps → Dp K B' x7 (.list (ps.map .str)) →
        wB (cxOf CX0 P w K mg base N_l_posts "_law_posts" (defScope s_l_posts) f cdv A outer s0 H E).nox ((defBody s_l_posts).drop 8) { nx := fun _ H' => Q .non H', rt := Q } [some v, some (.str lettersS), some (.str signsS), some (.str h), x4, some (.int sa), some (.int se), some x7, x8] H' := by
      intro ps x7 x8 x4 B' H' st' hg hx
      have h3 := hg.three
      refine b_cons (s_if (k := !(ps.filter resB).isEmpty) st'.i ((t_lst (ds := (ps.filter resB).map .str) (EvP.imp (EvN.dl (n_lcIf (own := [("_law_post", 8)]) (j := 8) ps PyData.str resB PyData.str sc_l_posts.nd (by omega) (e_varD 7 rfl hx) rfl (fun a ha σ2 B2 e2 t s1 H0 C cl fp => ?_) fun a ha hk σ2 B2 e2 t s1 H0 C cl fp => ?_)) fun _ _ _ r => isTL_d r)).is ?_) (fun h5 H1 s1 => ?_) fun h5 H1 s1 => b_nil ?_)
      · obtain ⟨v1, rfl, h1⟩ := t
        have h1 : Dp K B2 v1 (.str a) := h1
        cases h1
        have e10 : inV (.str a) [.str "none", .str "any", .str "self"] = resB a := by
          unfold resB inV
          simp only [List.any_cons, List.any_nil, Bool.or_false, eqV]
        rw [← e10]
        refine t_cmp op_in_seq (e_var 8 rfl) (e_tup (RA := ACons (IsV (.str "none")) (ACons (IsV (.str "any")) (ACons (IsV (.str "self")) ANil))) (a_cons e_str (a_cons e_str (a_one e_str))) fun vs B1 r => ?_) (fun x y B1 _ rx ry H1 i1 Q q => ?_) (by rfl)
        · obtain ⟨x1, y1, rfl, _, x2, y2, rfl, _, x3, y3, rfl, _, h5⟩ := r
          rw [show y3 = [] from h5]
          show 3 ≤ 100000
          decide
        · cases rx
          obtain ⟨p, vs, rfl, hp, x1, y1, rfl, rfl, x2, y2, rfl, rfl, x3, y3, rfl, rfl, h5⟩ := ry
          have h6 : y3 = [] := h5
          subst h6
          exact ⟨p, _, rfl, .inr (st_of (i1 _ _ hp)), rfl, rfl, q.val i1⟩
      · obtain ⟨v1, rfl, h1⟩ := t
        exact e_varD 8 rfl h1
      · cases ps.filter resB <;> rfl
      · have hex : ∃ p ∈ ps, resB p = true := by
          cases q : ps.filter resB with
          | nil => rw [q] at h5; cases h5
          | cons p l =>
            have hp : p ∈ ps.filter resB := by rw [q]; exact List.mem_cons_self
            rw [List.mem_filter] at hp
            exact ⟨p, hp.1, hp.2⟩
        refine b_one (s_setLcL (i := 7) (own := [("_law_post", 8)]) (j := 8) ps PyData.str (fun p => .str (("q" : Str) ++ p)) sc_l_posts.nd (by omega) (e_varD 7 rfl hx) rfl (fun a ha σ2 B2 e2 t s2 H0 C cl fp => ?_) s1.i fun q B2 H2 m0 m1 s2 r2 => ?_)
        · obtain ⟨v1, rfl, h1⟩ := t
          have h1 : Dp K B2 v1 (.str a) := h1
          cases h1
          refine EvP.strD (e_addS e_str (e_var 8 rfl) ?_)
          have := (hg.ok a ha).2.2.2
          have e1 : ("q" : Str).length = 1 := by decide +kernel
          rw [e1]
          omega
        · obtain ⟨vs2, hv2, r2'⟩ := r2
          have sj := s2.join m1 m0 hv2
          have hx2 : Dp K (upd B2 q (.lst vs2)) (.ref q) (.list ((ps.map fun p => ("q" : Str) ++ p).map .str)) := by
            refine .lst (sq_of upd_same) ?_
            have := r2' (upd B2 q (.lst vs2)) (Ex.new m1)
            rw [List.map_map]
            exact this
          exact b_one (s_ret sj.i (e_varD 7 rfl hx2) fun v9 B9 H9 s9 r9 => y v9 B9 H9 (((st'.trans s1).trans sj).trans s9) fun B2 e2 => ⟨_, good2_q hg hex, r9 B2 e2⟩)
      · have hno : ∀ p ∈ ps, resB p = false := fun p hp => by
          cases q : resB p with
          | false => rfl
          | true =>
            have hp2 : p ∈ ps.filter resB := List.mem_filter.mpr ⟨hp, q⟩
            cases q2 : ps.filter resB with
            | nil => rw [q2] at hp2; cases hp2
            | cons p l => rw [q2] at h5; cases h5
        exact b_one (s_ret s1.i (e_varD 7 rfl hx) fun v9 B9 H9 s9 r9 => y v9 B9 H9 ((st'.trans s1).trans s9) fun B2 e2 => ⟨ps, good2_same hg hno, r9 B2 e2⟩)
    have hlast := last
    have hlen3 : lenD (.list ([h ++ sg (97 + ci 0), h ++ sg (97 + ci 1), h ++ sg (97 + ci 2)].map .str)) = some 3 := rfl
    have at0 : atI ([h ++ sg (97 + ci 0), h ++ sg (97 + ci 1), h ++ sg (97 + ci 2)].map PyData.str) 0 = some (.str (h ++ sg (97 + ci 0))) := atI_nat (j := 0) rfl
    refine b_cons (s_ifP sj.i (EvWP.t (wp_and (k1 := !decide (V.str h = V.str "")) (t_neV (e_var 3 rfl) e_str rfl) fun _ => ta_eqI ((e_take GT (hr.mono (by decide)) ((e_var 0 rfl).imp fun v B1 e r => by cases r; exact bag_grow hb8 e) e_int (by decide) (by decide)).imp fun v B1 _ r => below_ex r) (e_int.imp fun v B1 _ r => ⟨_, r⟩))) (fun hp H9 s9 => ?_) fun hp H9 s9 => ?_)
    · have hne : h ≠ "" := fun e => by
        have := hp rfl
        rw [e] at this
        simp at this
      have h0 : 1 ≤ h.length := by
        rcases Nat.eq_zero_or_pos h.length with z | z
        · refine absurd (cpl_inj ?_) hne
          rw [len_cpl] at z
          rw [List.length_eq_zero_iff.mp z]
          decide +kernel
        · exact z
      have hH : headL h = true := hh.resolve_left (by omega)
      refine b_one (s_set 7 s9.i (e_lst (RA := ACons (IsV (.str h)) (ACons (IsV (.str (h ++ sg (97 + ci 0)))) (ACons (fun v _ => ∃ c : Nat, okc c = true ∧ v = .str (h ++ sg (97 + ci 0) ++ ⟨#[c]⟩)) ANil))) (a_cons (e_var 3 rfl) (a_cons (EvP.str (e_ixL (ds := [h ++ sg (97 + ci 0), h ++ sg (97 + ci 1), h ++ sg (97 + ci 2)].map PyData.str) (d := .str (h ++ sg (97 + ci 0))) (e_varD 7 rfl hp8) e_int at0)) (a_one (EvP.imp (e_op op_add_str (EvP.str (e_ixL (ds := [h ++ sg (97 + ci 0), h ++ sg (97 + ci 1), h ++ sg (97 + ci 2)].map PyData.str) (d := .str (h ++ sg (97 + ci 0))) (e_varD 7 rfl hp8) e_int at0)) (e_ixSE (Pc := okc) (e_var 2 rfl) (e_take GT (hr.mono (by decide)) ((e_var 0 rfl).imp fun v B1 e r => by cases r; exact bag_grow hb8 e) e_int (by decide) (by decide)) (by rw [signs_len]; decide) (by rw [signs_len]; decide) signs_all) (R := fun v _ => ∃ c : Nat, okc c = true ∧ v = .str (h ++ sg (97 + ci 0) ++ ⟨#[c]⟩)) fun x y B1 _ rx ry H1 i1 Q q => ?_) fun _ _ _ r => r)))) fun vs B1 r => ?_) (fun v10 B10 H10 s10 r10 => ?_) sc_l_posts.nd)
      · cases rx
        obtain ⟨c, rfl, hc⟩ := ry
        refine ⟨_, _, rfl, rfl, sz_of ?_, q.at i1 fun _ _ => ⟨c, hc, rfl⟩⟩
        rw [len_append]
        show h.length + 1 + 1 ≤ 100000
        omega
      · obtain ⟨x1, y1, rfl, _, x2, y2, rfl, _, x3, y3, rfl, _, h5⟩ := r
        rw [show y3 = [] from h5]
        show 3 ≤ 100000
        decide
      · obtain ⟨p, vs, rfl, hp10, x1, y1, rfl, rfl, x2, y2, rfl, rfl, x3, y3, rfl, ⟨c, hc, rfl⟩, h5⟩ := r10 B10 (Ex.refl B10)
        have h6' : y3 = [] := h5
        subst h6'
        exact last [h, h ++ sg (97 + ci 0), h ++ sg (97 + ci 0) ++ ⟨#[c]⟩] _ _ _ B10 H10 ((st8.trans s9).trans s10) (good1_a hH ha h6 h0 (l_letter _ (hc26 0)) hc) (.lst (sq_of hp10) (dps_strs [h, h ++ sg (97 + ci 0), h ++ sg (97 + ci 0) ++ ⟨#[c]⟩]))
    · refine b_one (s_setLcLE (i := 7) (own := [("_law_post", 8)]) (j := 8) [h ++ sg (97 + ci 0), h ++ sg (97 + ci 1), h ++ sg (97 + ci 2)] PyData.str (fun p d => ∃ t, d = .str (p ++ t) ∧ AllOk t ∧ t.length ≤ 5) sc_l_posts.nd (by show 3 ≤ 40000; decide) (e_varD 7 rfl hp8) rfl (fun a ha' σ2 B2 e2 t s2 H0 C cl fp => ?_) s9.i fun q B2 H2 m0 m1 s2 r2 => ?_)
      · obtain ⟨v1, rfl, h1⟩ := t
        have h1 : Dp K B2 v1 (.str a) := h1
        cases h1
        have hal : a.length ≤ 7 := by
          simp only [List.mem_cons, List.not_mem_nil, or_false] at ha'
          rcases ha' with rfl | rfl | rfl <;> (rw [len_append]; show h.length + 1 ≤ 7; omega)
        refine EvP.imp (e_op op_add_str (e_var 8 rfl) (e_joinE (EvN.dlE (EvN.imp (n_lcRE (own := [("_law_k", 4)]) (j := 4) (N0 := 5) ASign sc_l_posts.nd U.range (EvP.imp (e_take GT (hr.mono (by decide)) ((e_var 0 rfl).imp fun v B1 e r => by cases r; exact bag_grow (bag_grow hb8 e2) e) e_int (by decide) (by decide)) fun v B1 _ r => by obtain ⟨d, h1, h2, h3⟩ := r; exact ⟨d, h1, h2, by omega⟩) (by decide) rfl fun i B' e' s' H0 C cl fp => ?_) fun p B1 H1 ⟨ds, h1, h2, h3⟩ => ⟨ds, ⟨h1, h2⟩, h3⟩))) (R := fun v _ => ∃ t : Str, v = .str (a ++ t) ∧ AllOk t ∧ t.length ≤ 5) fun x y B1 _ rx ry H1 i1 Q q => ?_) fun v B1 _ r => ?_
        · exact EvP.imp (e_ixSE (Pc := okc) (e_var 2 rfl) (e_take GT (hr.mono (by decide)) ((e_var 0 rfl).imp fun v B1 e r => by cases r; exact bag_grow (bag_grow (bag_grow hb8 e2) e') e) e_int (by decide) (by decide)) (by rw [signs_len]; decide) (by rw [signs_len]; decide) signs_all) fun v B1 _ r => by
            obtain ⟨c, rfl, hc⟩ := r
            exact ⟨_, ⟨c, rfl, hc⟩, .str _⟩
        · cases rx
          obtain ⟨t, rfl, ht, htl⟩ := ry
          exact ⟨a, t, rfl, rfl, sz_of (by omega), q.at i1 fun _ _ => ⟨t, rfl, ht, htl⟩⟩
        · obtain ⟨t, rfl, ht, htl⟩ := r
          exact ⟨_, ⟨t, rfl, ht, htl⟩, .str _⟩
      · obtain ⟨ds2, hR, vs2, hv2, r2'⟩ := r2
        have sj2 := s2.join m1 m0 hv2
        match ds2, hR with
        | [d0, d1, d2], ⟨⟨t0, h0, k0⟩, ⟨t1, h1, k1⟩, ⟨t2, h2, k2⟩, _⟩ =>
          subst h0 h1 h2
          refine last [h ++ sg (97 + ci 0) ++ t0, h ++ sg (97 + ci 1) ++ t1, h ++ sg (97 + ci 2) ++ t2] _ _ _ _ H2 ((st8.trans s9).trans sj2) (good1_b hh ha h6 (l_letter _ (hc26 0)) (l_letter _ (hc26 1)) (l_letter _ (hc26 2)) (by omega) (by omega) (by omega) k0 k1 k2) (.lst (sq_of upd_same) (r2' _ (Ex.new m1)))
  refine b_cons (s_ifP s3.i (EvWP.t (wp_or (k1 := !decide (V.str h1 = V.str "")) (t_neV (e_var 3 rfl) e_str rfl) fun _ => ta_eqI ((e_take GT (hr.mono (by decide)) ((e_var 0 rfl).imp fun v B1 e r => by cases r; exact bag_grow hb3 e) e_int (by decide) (by decide)).imp fun v B1 _ r => below_ex r) (e_int.imp fun v B1 _ r => ⟨_, r⟩))) (fun hp H9 s9 => ?_) fun hp H9 s9 => b_nil ?_)
  · refine b_one (s_set 3 s9.i (e_op op_add_str (e_ixSE (Pc := letterN) (e_var 1 rfl) (e_take GT (hr.mono (by decide)) ((e_var 0 rfl).imp fun v B1 e r => by cases r; exact bag_grow hb3 e) e_int (by decide) (by decide)) (by rw [letters_len]; decide) (by rw [letters_len]; decide) letters_all) (e_var 3 rfl) (R := fun v _ => ∃ c : Nat, letterN c = true ∧ v = .str ((⟨#[c]⟩ : Str) ++ h1)) fun x y B1 _ rx ry H1 i1 Q q => ?_) (fun v10 B10 H10 s10 r10 => ?_) sc_l_posts.nd)
    · obtain ⟨c, rfl, hc⟩ := rx
      cases ry
      refine ⟨_, _, rfl, rfl, sz_of ?_, q.at i1 fun _ _ => ⟨c, hc, rfl⟩⟩
      show 1 + h1.length ≤ 100000
      omega
    · obtain ⟨c, hc, rfl⟩ := r10 B10 (Ex.refl B10)
      refine rest _ B10 H10 ((st3.trans s9).trans s10) (.inr (headL_one hc)) (allOk_append (allOk_one (by unfold okc; rw [hc]; rfl)) ha1) ?_
      rw [len_append]
      show 1 + h1.length ≤ 6
      omega
  · have hz : h1.length = 0 := by
      have e : (!decide (V.str h1 = V.str "")) = false := by
        cases q : (!decide (V.str h1 = V.str "")) with
        | false => rfl
        | true => exact absurd (hp q) (by decide)
      have e2 : V.str h1 = V.str "" := by simpa using e
      rw [V.str.inj e2]
      decide +kernel
    exact rest _ B3 H9 (st3.trans s9) (.inl hz) ha1 (by omega)
end
end K8

/-! _law_base, _law_scene, _law_cube. -/
namespace K8
open PySem PySem.Spec PyProof.Rows L2 Evl
section
variable {X : Cx} {σ : Slots} {B B' H H' : Hp} {R R' Ra Rb : Rel} {e a b c l o : Expr} {es rest : List Expr} {pos p pos2 apos cpos : Pos} {x y z v : V} {D : Ends} {ds : List PyData} {body : List Stmt}
/-- tuple(e) of a list that is not told -/
theorem e_tupleOfE {Pd : List PyData → Prop} (hm : X.mg "tuple" = none) (he : EvE X e σ B (fun v B1 => ∃ ds, Pd ds ∧ IsTL X.K ds v B1)) (hg : Gl X "tuple" := by rfl) (hs : starEach [e] X.env = (false, eval e X.env) :: starEach [] X.env := by rfl) (hpl : (backTo pos (starEach [] X.env)).any (·.1) = false := by rfl) : EvE X (.Call (.Name "tuple" p) [e] [] pos) σ B (fun v B1 => ∃ ds, Pd ds ∧ Dp X.K B1 v (.tuple ds)) :=
  e_callTy (R := fun v B1 => ∃ ds, Pd ds ∧ Dp X.K B1 v (.tuple ds)) call_tuple_of hm (by decide +kernel) (a_one he hs) (fun vs B1 e1 r H1 i1 Q q => by
    obtain ⟨v1, vs1, rfl, r1, r3⟩ := r
    have e3 : vs1 = [] := r3
    subst e3
    obtain ⟨ds, hp, r2⟩ := r1
    cases isTL_d r2 with
    | lst h1 h2 => exact ⟨_, _, rfl, .inl ⟨ex_l i1 h1, fun l hl => q _ _ _ (Step.new i1 hl) fun B2 e2 => ⟨ds, hp, isD_stable (.tup (st_of upd_same) (dps_grow h2 (Ex.new (ex_none i1 hl)))) B2 e2⟩⟩⟩) hg (he := hs) (hpl := hpl)
/-- a list, some place of it -/
theorem e_ixLE {m : Int} (ha : EvE X a σ B (IsD X.K (.list ds))) (hb : EvE X b σ B (IsBelow m)) (hm : m ≤ ds.length) (hs : PlainIx b := by exact fun _ _ => rfl) : EvE X (.Subscript a b pos) σ B (fun v B1 => ∃ d ∈ ds, Dp X.K B1 v d) :=
  e_ix ix_list ha hb (fun x y B1 e1 r1 r2 H1 i1 Q q => by
    obtain ⟨d, rfl, h0, h1⟩ := r2
    cases r1 with
    | lst g1 g2 =>
      have hd : d.toNat < ds.length := by omega
      have hat : atI ds d = some ds[d.toNat] := by
        have e : d = ((d.toNat : Nat) : Int) := by omega
        conv => lhs; rw [e]
        exact atI_nat (List.getElem?_eq_getElem hd)
      obtain ⟨v, hv, hv2⟩ := atI_dps g2 hat
      exact ⟨_, _, _, _, rfl, rfl, ex_l i1 g1, hv, q.at i1 fun B2 e2 => ⟨_, List.getElem_mem hd, dp_grow hv2 (e2)⟩⟩) hs
/-- sorted(e) of a list of texts -/
theorem e_sortedStr {ss : List Str} (hm : X.mg "sorted" = none) (he : EvE X e σ B (IsD X.K (.list (ss.map .str)))) (hn : ss.Nodup) (h64 : ss.length < 64) (hg : Gl X "sorted" := by rfl) (hs : starEach [e] X.env = (false, eval e X.env) :: starEach [] X.env := by rfl) (hpl : (backTo pos (starEach [] X.env)).any (·.1) = false := by rfl) : EvE X (.Call (.Name "sorted" p) [e] [] pos) σ B (IsD X.K (.list ((srtS ss).map .str))) :=
  e_callB (R := IsD X.K (.list ((srtS ss).map .str))) cr_sortedS hm (by decide +kernel) (a_one he hs) (fun vs B1 e1 r H1 i1 Q q => by
    obtain ⟨v1, vs1, rfl, r1, r3⟩ := r
    have e3 : vs1 = [] := r3
    subst e3
    cases r1 with
    | lst h1 h2 =>
      have ev := dps_strs_inv h2
      subst ev
      refine ⟨_, ss, rfl, ex_l i1 h1, h64, fun ys l hp hs hl => q _ _ _ (Step.new i1 hl) ?_⟩
      have hy := srtS_eq (sortedS_pw hs (hp.nodup_iff.mpr hn)) fun k => hp.mem_iff
      rw [hy]
      exact isD_stable (.lst (sq_of upd_same) (dps_strs ys))) hg (he := hs) (hpl := hpl)
end
section
variable {P : Program} {w : World} {K : PySem.W.Frag}
variable {mg : Str → Option Value} {base : Heap}
/-! ### _law_base -/
def GoodBase (n : Nat) (r : List Int) : Prop := r.length = n ∧ ∀ x ∈ r, 0 ≤ x ∧ x ≤ 9 * 10 ^ 29
def IsBase (K : PySem.W.Frag) (n : Nat) : Rel := fun v B => ∃ r, GoodBase n r ∧ Dp K B v (dRow r)
def preBase (K : PySem.W.Frag) : List V → Hp → Rel → Prop := fun vs B R => ∃ (v : V) (n : Nat), vs = [v, .int (n : Int)] ∧ IsBag v B ∧ n ≤ 8 ∧ R = IsBase K n
abbrev D_base (P : Program) (w : World) (K : PySem.W.Frag) (mg : Str → Option Value) (base : Heap) : Prop := Dfn P w K mg base CX0 2 "_law_base" ["_law_bag_here", "_law_width"] (Pure (preBase K))
theorem ok_base {f : Addr} {fd : FuncData} (U : Bi mg) (GT : D_take P w K mg base) (F : Fun K "_law_base" "_law_base" s_l_base f fd) : FnOk P w K mg base CX0 2 f fd ["_law_bag_here", "_law_width"] (Pure (preBase K)) := by
  refine pure_ok F sc_l_base (fun vs H R ⟨v, n, hv, _⟩ => by rw [hv]; rfl) fun cdv A outer s0 B H vs Q E R hr e0 h y => ?_
  obtain ⟨v, n, rfl, hb, hn, rfl⟩ := h
  refine b_cons (s_setN 2 e0 (n_lst (RA := ANil) a_nil fun vs _ e => by cases e; decide) (fun q B1 H1 n0 n1 s1 r1 => ?_) sc_l_base.nd)
  obtain ⟨vs0, hq1, hq2⟩ := r1
  have ev : vs0 = [] := hq2 B1 (Ex.refl B1)
  subst ev
  refine b_cons (for_r (i := 3) (fun j σ' B' H' => ∃ acc z g r, σ' = [some v, some (.int (n : Int)), some (.ref q), z, g] ∧ Step B H B' H' ∧ B' q = none ∧ H' q = some (.lst acc) ∧ DpAll K B' acc (r.map PyData.int) ∧ GoodBase j r) PassesOwn.never rfl (pg_name sc_l_base.nd rfl (.inl rfl)) U.range s1.i (e_var 1 rfl) (by omega) (fun B2 H2 s2 => ⟨[], none, none, [], rfl, s1.trans s2, s2.off _ _ n1 hq1, s2.h _ _ hq1, .nil, rfl, fun _ h => absurd h (by simp)⟩) ?_ ?_)
  · rintro j σ' B' H' hj eB i' ⟨acc, z, g, r, rfl, st, nq, hq, hacc, hlen, hall⟩
    have hbB := bag_grow hb st.b
    have hz : acc.length < 100000 := by
      rw [dps_len hacc, List.length_map, hlen]
      omega
    refine b_cons (s_set 4 st.i e_int (fun v4 B4 H4 s4 r4 => ?_) sc_l_base.nd)
    obtain rfl := r4 B4 (Ex.refl B4)
    have hb4 := bag_grow hbB s4.b
    refine b_cons (s_ifA s4.i (ta_eqI ((e_take GT (hr.mono (by decide)) ((e_var 0 rfl).imp fun v B1 e r => by cases r; exact bag_grow hb4 e) e_int (by decide) (by decide)).imp fun v B1 _ r => below_ex r) (e_int.imp fun v B1 _ r => ⟨_, r⟩)) (fun H5 s5 => ?_) fun H5 s5 => b_nil ?_)
    · refine b_one (s_set 4 s5.i (e_op op_add e_int (e_take GT (hr.mono (by decide)) ((e_var 0 rfl).imp fun v B1 e r => by cases r; exact bag_grow hb4 e) (e_mulI e_int (e_powI e_int e_int ⟨by decide, by decide, by decide⟩) (.inl (by decide))) (by decide) (by decide)) (R := fun v _ => ∃ i : Int, v = .int i ∧ 0 ≤ i ∧ i ≤ 9 * 10 ^ 29) fun x y B1 _ rx ry H1 i1 Q q => by
        cases rx
        obtain ⟨d, rfl, d0, d1⟩ := ry
        have d1 : d < 9 * 10 ^ 29 := d1
        exact ⟨1, d, rfl, rfl, q.at i1 fun _ _ => ⟨1 + d, rfl, by omega, by omega⟩⟩) (fun v6 B6 H6 s6 r6 => ?_) sc_l_base.nd)
      obtain ⟨gg, rfl, g0, g1⟩ := r6 B6 (Ex.refl B6)
      have sx := (s4.trans s5).trans s6
      refine b_one (s_app s6.i (e_var 2 rfl) (e_var 4 rfl) (sx.h _ _ hq) hz fun v7 B7 H7 s7 r7 => ?_)
      obtain rfl := r7 B7 (Ex.refl B7)
      have sy := sx.trans s7
      have n7 : B7 q = none := sy.off _ _ nq hq
      refine ⟨B7, ⟨acc ++ [.int gg], _, _, r ++ [gg], rfl, (st.trans sy).put n7 n0, n7, upd_same, ?_, by rw [List.length_append, hlen]; rfl, fun x hx => ?_⟩, sy.b, ex_put sy.i n7⟩
      · rw [List.map_append]
        exact dps_append (dps_grow hacc sy.b) (.cons (.int _) .nil)
      · rcases List.mem_append.1 hx with hx | hx
        · exact hall x hx
        · rw [List.mem_singleton.mp hx]
          exact ⟨g0, g1⟩
    · have sx := s4.trans s5
      refine b_one (s_app s5.i (e_var 2 rfl) (e_var 4 rfl) (sx.h _ _ hq) hz fun v7 B7 H7 s7 r7 => ?_)
      obtain rfl := r7 B7 (Ex.refl B7)
      have sy := sx.trans s7
      have n7 : B7 q = none := sy.off _ _ nq hq
      refine ⟨B7, ⟨acc ++ [.int 0], _, _, r ++ [0], rfl, (st.trans sy).put n7 n0, n7, upd_same, ?_, by rw [List.length_append, hlen]; rfl, fun x hx => ?_⟩, sy.b, ex_put sy.i n7⟩
      · rw [List.map_append]
        exact dps_append (dps_grow hacc sy.b) (.cons (.int _) .nil)
      · rcases List.mem_append.1 hx with hx | hx
        · exact hall x hx
        · rw [List.mem_singleton.mp hx]
          decide
  · rintro σ' B' H' eB i' ⟨acc, z, g, r, rfl, st, nq, hq, hacc, hgood⟩
    have stj := st.join nq n0 hq
    refine b_one (s_retY stj.i (EvP.imp (e_tupleOf U.tuple (e_varD 2 rfl (.lst (sq_of upd_same) (dps_grow hacc (Ex.new nq))))) fun v B1 _ r1 => ⟨r, hgood, r1⟩) (y.go stj))
/-! ### _law_scene -/
def IsScn (K : PySem.W.Frag) (ps : List Str) (base : List Int) (m : Int) : Rel := fun v B => ∃ s : Scene, s.1 ∈ ps ∧ InBox m base s.2 ∧ Dp K B v (dScene s)
def preLSc (K : PySem.W.Frag) : List V → Hp → Rel → Prop := fun vs B R => ∃ (bv pv rv : V) (ps : List Str) (r : List Int) (m : Int), vs = [bv, pv, rv, .int m] ∧ IsBag bv B ∧ Dp K B pv (.list (ps.map .str)) ∧ 1 ≤ ps.length ∧ ps.length ≤ 3 ∧ Dp K B rv (dRow r) ∧ r.length ≤ 8 ∧ 0 ≤ m ∧ m ≤ 6 ∧ R = IsScn K ps r m
abbrev D_lscene (P : Program) (w : World) (K : PySem.W.Frag) (mg : Str → Option Value) (base : Heap) : Prop := Dfn P w K mg base CX0 2 "_law_scene" ["_law_bag_here", "_law_posts_here", "_law_base_here", "_law_most"] (Pure (preLSc K))
theorem rows2_box {m : Int} : ∀ {b : List Int} {ds : List PyData}, Rows2 (fun x d => ∃ y : Int, d = .int y ∧ x ≤ y ∧ y ≤ x + m) b ds → ∃ r : List Int, ds = r.map .int ∧ InBox m b r
  | [], [], _ => ⟨[], rfl, trivial⟩
  | x :: b, d :: ds, ⟨⟨y, h1, h2, h3⟩, h⟩ => by
    obtain ⟨r, rfl, k⟩ := rows2_box h
    subst h1
    exact ⟨y :: r, rfl, ⟨h2, h3⟩, k⟩
  | [], _ :: _, h => h.elim
  | _ :: _, [], h => h.elim
theorem ok_lscene {f : Addr} {fd : FuncData} (U : Bi mg) (GT : D_take P w K mg base) (F : Fun K "_law_scene" "_law_scene" s_l_scene f fd) : FnOk P w K mg base CX0 2 f fd ["_law_bag_here", "_law_posts_here", "_law_base_here", "_law_most"] (Pure (preLSc K)) := by
  refine pure_ok F sc_l_scene (fun vs H R ⟨_, _, _, _, _, _, hv, _⟩ => by rw [hv]; rfl) fun cdv A outer s0 B H vs Q E R hr e0 h y => ?_
  obtain ⟨bv, pv, rv, ps, r, m, rfl, hb, hp, hp1, hp3, hrv, hr8, hm0, hm6, rfl⟩ := h
  have hlp : lenD (.list (ps.map .str)) = some ps.length := by
    show some (ps.map PyData.str).length = _
    rw [List.length_map]
  refine b_cons (s_set 4 e0 (EvP.imp (e_ixLE (ds := ps.map .str) (e_varD 1 rfl hp) (e_take GT (hr.mono (by decide)) ((e_var 0 rfl).imp fun v B1 e r => by cases r; exact bag_grow hb e) (e_len U.len (e_varD 1 rfl hp) hlp (by omega)) (by omega) (by omega)) (by rw [List.length_map]; exact Int.le_refl _)) (R' := fun v _ => ∃ p ∈ ps, v = .str p) fun v B1 _ ⟨d, hd, h⟩ => by
    obtain ⟨p, hp, rfl⟩ := List.mem_map.mp hd
    cases h
    exact ⟨p, hp, rfl⟩) (fun v4 B4 H4 s4 r4 => ?_) sc_l_scene.nd)
  obtain ⟨p, hpm, rfl⟩ := r4 B4 (Ex.refl B4)
  have hb4 := bag_grow hb s4.b
  refine b_one (s_ret s4.i (e_tup (RA := ACons (IsV (.str p)) (ACons (fun v B1 => ∃ ds, (Rows2 (fun x d => ∃ y : Int, d = .int y ∧ x ≤ y ∧ y ≤ x + m) r ds) ∧ Dp K B1 v (.tuple ds)) ANil)) (a_cons (e_var 4 rfl) (a_one (e_tupleOfE U.tuple (EvN.dlE (n_lcTE (own := [("_law_entry", 5)]) (j := 5) r PyData.int (fun x d => ∃ y : Int, d = .int y ∧ x ≤ y ∧ y ≤ x + m) sc_l_scene.nd (by omega) (e_varD 2 rfl (dp_grow hrv s4.b)) rfl fun a ha σ2 B2 e2 t s1 H0 C cl fp => ?_))))) fun vs B1 r => ?_) fun v5 B5 H5 s5 r5 => ?_)
  · obtain ⟨v1, rfl, h1⟩ := t
    have h1 : Dp K B2 v1 (.int a) := h1
    cases h1
    refine EvP.imp (e_op op_add (e_var 5 rfl) (e_take GT (hr.mono (by decide)) ((e_var 0 rfl).imp fun v B1 e r => by cases r; exact bag_grow (bag_grow hb4 e2) e) (e_addI (e_var 3 rfl) e_int) (by omega) (by omega)) (R := fun v _ => ∃ i : Int, v = .int i ∧ a ≤ i ∧ i ≤ a + m) fun x y B1 _ rx ry H1 i1 Q q => ?_) fun v B1 _ ⟨i, h1, h2, h3⟩ => ⟨.int i, ⟨i, rfl, h2, h3⟩, h1 ▸ .int i⟩
    cases rx
    obtain ⟨d, rfl, d0, d1⟩ := ry
    exact ⟨a, d, rfl, rfl, q.at i1 fun _ _ => ⟨a + d, rfl, by omega, by omega⟩⟩
  · obtain ⟨x1, y1, rfl, _, x2, y2, rfl, _, h5⟩ := r
    rw [show y2 = [] from h5]
    show 2 ≤ 100000
    decide
  · refine y v5 B5 H5 (s4.trans s5) fun B6 e6 => ?_
    obtain ⟨q, vs5, rfl, hq, x1, y1, rfl, rfl, x2, y2, rfl, ⟨ds, hR, hd⟩, h5⟩ := r5 B6 e6
    have h5' : y2 = [] := h5
    subst h5'
    obtain ⟨r', rfl, hbox⟩ := rows2_box hR
    exact ⟨(p, r'), hpm, hbox, .tup (st_of hq) (.cons (.str _) (.cons hd .nil))⟩
end
end K8

/-! _law_cube. -/
namespace K8
open PySem PySem.Spec PyProof.Rows L2 Evl
theorem grow_len (m : Nat) (rows : List (List Int)) (e : Int) : (grow m rows e).length = rows.length * (m + 1) := by
  unfold grow
  induction rows with
  | nil => simp
  | cons r rs ih =>
    rw [List.flatMap_cons, List.length_append, ih, List.length_map, List.length_range, List.length_cons, Nat.add_mul]
    omega
theorem cubeR_len (m : Nat) (base : List Int) : (cubeR m base).length = (m + 1) ^ base.length := by
  refine rev_ind (P := fun base => (cubeR m base).length = (m + 1) ^ base.length) rfl (fun l x ih => ?_) base
  rw [cubeR_snoc, grow_len, ih, List.length_append]
  rfl
theorem cubeR_take {m : Nat} {base : List Int} {j : Nat} {a : Int} (h : base[j]? = some a) : cubeR m (base.take (j + 1)) = grow m (cubeR m (base.take j)) a := by
  rw [take_next' h, cubeR_snoc]
theorem cubeR_row {m : Nat} {base : List Int} {r : List Int} (h : r ∈ cubeR m base) : r.length = base.length := inBox_len (mem_cubeR.mp h)
theorem range_take {n j : Nat} (h : j < n) : (List.range n).take (j + 1) = (List.range n).take j ++ [j] := by
  rw [List.take_succ_eq_append_getElem (by rw [List.length_range]; exact h), List.getElem_range]
theorem isTL_grow {K : PySem.W.Frag} {ds : List PyData} {v : V} {H H' : Hp} (h : IsTL K ds v H) (e : Ex H H') : IsTL K ds v H' := by
  obtain ⟨p, vs, h1, h2, h3⟩ := h
  exact ⟨p, vs, h1, e _ _ h2, dps_grow h3 e⟩
theorem e_varT {X : Cx} {σ : Slots} {B : Hp} {pos : Pos} {v : V} {ds : List PyData} {K : PySem.W.Frag} (i : Nat) {n : Str} (hv : σ[i]? = some (some v)) (h : IsTL K ds v B) (hN : X.N[i]? = some n := by rfl) (hs : Vis X.env.scope n := by first | exact Or.inl rfl | exact Or.inr (Or.inl rfl) | exact Or.inr (Or.inr rfl))
    (hd : (n == ("__debug__" : Str)) = false := by decide) (hcd : (n == ("__classdict__" : Str)) = false := by decide) : EvE X (.Name n pos) σ B (IsTL K ds) :=
  (e_var i hv hN hs hd hcd).imp fun _ _ e r => by cases r; exact isTL_grow h e
section
variable {P : Program} {w : World} {K : PySem.W.Frag}
variable {mg : Str → Option Value} {base : Heap}
def preCube (K : PySem.W.Frag) : List V → Hp → Rel → Prop := fun vs B R => ∃ (pv rv : V) (ps : List Str) (r : List Int) (m : Nat), vs = [pv, rv, .int (m : Int)] ∧ Dp K B pv (.list (ps.map .str)) ∧ ps.Nodup ∧ ps.length ≤ 3 ∧ Dp K B rv (dRow r) ∧ r.length ≤ 8 ∧ m ≤ 6 ∧ (m + 1) ^ r.length ≤ 256 ∧ R = IsD K (.list ((cube m (srtS ps) r).map dScene))
abbrev D_cube (P : Program) (w : World) (K : PySem.W.Frag) (mg : Str → Option Value) (base : Heap) : Prop := Dfn P w K mg base CX0 1 "_law_cube" ["_law_posts_here", "_law_base_here", "_law_most"] (Pure (preCube K))
theorem ok_cube {f : Addr} {fd : FuncData} (U : Bi mg) (F : Fun K "_law_cube" "_law_cube" s_l_cube f fd) : FnOk P w K mg base CX0 1 f fd ["_law_posts_here", "_law_base_here", "_law_most"] (Pure (preCube K)) := by
  refine pure_ok F sc_l_cube (fun vs H R ⟨_, _, _, _, _, hv, _⟩ => by rw [hv]; rfl) fun cdv A outer s0 B H vs Q E R hr e0 h y => ?_
  obtain ⟨v, u, ps, r, m, rfl, hv, hnd, hp3, hu, hr8, hm6, hc, rfl⟩ := h
  have hpre : ∀ j, (cubeR m (r.take j)).length ≤ 256 := fun j => by
    rw [cubeR_len]
    refine Nat.le_trans (Nat.pow_le_pow_right (by omega) ?_) hc
    rw [List.length_take]
    omega
  refine b_cons (s_set 3 e0 (e_lstD (K := K) (ds := [dRow []]) (ad_cons (e_tupD (ds := []) ad_nil (by decide)) ad_nil) (by show 1 ≤ 100000; decide)) (fun v1 B1 H1 s1 r1 => ?_) sc_l_cube.nd)
  have hv1 : Dp K B1 v1 (.list ((cubeR m (r.take 0)).map dRow)) := r1 B1 (Ex.refl B1)
  refine b_cons (for_t (i := 4) r PyData.int (fun j σ' B' H' => ∃ rv z4 z5 z6 z7, σ' = [some v, some u, some (.int (m : Int)), some rv, z4, z5, z6, z7, none, none] ∧ Step B H B' H' ∧ Dp K B' rv (.list ((cubeR m (r.take j)).map dRow))) PassesOwn.never rfl (pg_name sc_l_cube.nd rfl (.inl rfl)) s1.i (e_varD 1 rfl (dp_grow hu s1.b)) (fun B2 H2 s2 => ⟨v1, _, _, _, _, rfl, s1.trans s2, dp_grow hv1 s2.b⟩) ?_ ?_)
  · rintro j a x σ' B' H' ha eB i' hx ⟨rv, z4, z5, z6, z7, rfl, st, hrv⟩
    cases hx
    refine b_cons (s_setN 5 st.i (n_lst (RA := ANil) a_nil fun vs _ e => by cases e; decide) (fun q B2 H2 n0 n1 s2 r2 => ?_) sc_l_cube.nd)
    obtain ⟨vs0, hq1, hq2⟩ := r2
    have ev : vs0 = [] := hq2 B2 (Ex.refl B2)
    subst ev
    have hrv2 := dp_grow hrv s2.b
    have G : ∀ i k, (((cubeR m (r.take j)).take i).flatMap (fun row => (List.range (m + 1)).map fun (s : Nat) => row ++ [a + (s : Int)]) ++ ((List.range (m + 1)).map fun (s : Nat) => ([] : List Int)).take k).length ≤ 100000 - 1 := fun i k => by
      have h1 := grow_len m ((cubeR m (r.take j)).take i) a
      unfold grow at h1
      rw [List.length_append, h1, List.length_take, List.length_take, List.length_map, List.length_range]
      have := hpre j
      have : min i (cubeR m (r.take j)).length * (m + 1) ≤ 256 * 7 := Nat.mul_le_mul (by omega) (by omega)
      omega
    refine b_cons (for_l (i := 6) (cubeR m (r.take j)) dRow (fun i σ2 B3 H3 => ∃ acc z6 z7, σ2 = [some v, some u, some (.int (m : Int)), some rv, some (.int a), some (.ref q), z6, z7, none, none] ∧ Step B' H' B3 H3 ∧ B3 q = none ∧ H3 q = some (.lst acc) ∧ DpAll K B3 acc ((((cubeR m (r.take j)).take i).flatMap fun row => (List.range (m + 1)).map fun (s : Nat) => row ++ [a + (s : Int)]).map dRow)) PassesOwn.never rfl (pg_name sc_l_cube.nd rfl (.inl rfl)) s2.i (e_varD 3 rfl hrv2) (fun B3 H3 s3 => ⟨[], _, _, rfl, s2.trans s3, s3.off _ _ n1 hq1, s3.h _ _ hq1, .nil⟩) ?_ ?_)
    · rintro i row y1 σ2 B3 H3 hrow eB3 i3 hy1 ⟨acc, z6', z7', rfl, st3, nq, hq, hacc⟩
      have hrl : row.length ≤ 8 := by
        rw [cubeR_row (List.mem_of_getElem? hrow), List.length_take]
        omega
      refine b_one (for_r (i := 7) (fun k σ3 B4 H4 => ∃ acc z7, σ3 = [some v, some u, some (.int (m : Int)), some rv, some (.int a), some (.ref q), some y1, z7, none, none] ∧ Step B' H' B4 H4 ∧ Ex B3 B4 ∧ B4 q = none ∧ H4 q = some (.lst acc) ∧ DpAll K B4 acc ((((cubeR m (r.take j)).take i).flatMap (fun row => (List.range (m + 1)).map fun (s : Nat) => row ++ [a + (s : Int)])).map dRow ++ (((List.range (m + 1)).take k).map fun (s : Nat) => dRow (row ++ [a + (s : Int)])))) PassesOwn.never rfl (pg_name sc_l_cube.nd rfl (.inl rfl)) U.range st3.i (e_addI (e_var 2 rfl) e_int) (by omega) (fun B4 H4 s4 => ⟨acc, _, rfl, st3.trans s4, s4.b, s4.off _ _ nq hq, s4.h _ _ hq, by rw [List.take_zero, List.map_nil, List.append_nil]; exact dps_grow hacc s4.b⟩) ?_ ?_)
      · rintro k σ3 B4 H4 hk eB4 i4 ⟨acc4, z7'', rfl, st4, b34, nq4, hq4, hacc4⟩
        have hk' : k < m + 1 := by omega
        have hlen : acc4.length < 100000 := by
          have h1 := G i k
          rw [dps_len hacc4, List.length_append, List.length_map, List.length_map, List.length_take, List.length_range]
          rw [List.length_append, List.length_take, List.length_map, List.length_range] at h1
          omega
        refine b_one (s_app st4.i (e_var 5 rfl) (e_catT (ds := row.map .int) (es' := [.int (a + (k : Int))]) (e_varD 6 rfl (dp_grow hy1 b34)) (e_tupD (ds := [.int (a + (k : Int))]) (ad_cons (e_addI (e_var 4 rfl) (e_var 7 rfl)).intD ad_nil) (by show 1 ≤ 100000; decide)) (by rw [List.length_map]; show row.length + 1 ≤ 100000; omega)) hq4 hlen fun v5 B5 H5 s5 r5 => ?_)
        have n5 : B5 q = none := s5.off _ _ nq4 hq4
        refine ⟨B5, ⟨acc4 ++ [v5], _, rfl, (st4.trans s5).put n5 n0, b34.trans s5.b, n5, upd_same, ?_⟩, s5.b, ex_put s5.i n5⟩
        rw [range_take hk', List.map_append, ← List.append_assoc]
        refine dps_append (dps_grow hacc4 s5.b) (.cons ?_ .nil)
        have := r5 B5 (Ex.refl B5)
        show Dp K B5 v5 (.tuple ((row ++ [a + (k : Int)]).map .int))
        rw [List.map_append]
        exact this
      · rintro σ3 B4 H4 eB4 i4 ⟨acc4, z7'', rfl, st4, b34, nq4, hq4, hacc4⟩
        refine ⟨B4, ⟨acc4, _, _, rfl, st4, nq4, hq4, ?_⟩, b34, i4⟩
        have em : ((m : Int) + 1).toNat = m + 1 := by omega
        rw [em] at hacc4
        have eT : (List.range (m + 1)).take (m + 1) = List.range (m + 1) := List.take_of_length_le (by rw [List.length_range]; exact Nat.le_refl _)
        rw [eT] at hacc4
        rw [flat_next hrow, List.map_append, List.map_map]
        exact hacc4
    · rintro σ2 B3 H3 eB3 i3 ⟨acc, z6', z7', rfl, st3, nq, hq, hacc⟩
      rw [List.take_length] at hacc
      have stj := st3.join nq n0 hq
      obtain ⟨B4, hB4⟩ : ∃ B4, B4 = upd B3 q (.lst acc) := ⟨_, rfl⟩
      rw [← hB4] at stj
      have hq4 : Dp K B4 (.ref q) (.list ((cubeR m (r.take (j + 1))).map dRow)) := by
        rw [cubeR_take ha]
        exact .lst (sq_of (by rw [hB4, upd_same])) (dps_grow hacc (by rw [hB4]; exact Ex.new nq))
      refine b_one (s_set 3 stj.i (e_var 5 rfl) (fun v5 B5 H5 s5 r5 => ?_) sc_l_cube.nd)
      obtain rfl := r5 B5 (Ex.refl B5)
      exact ⟨B5, ⟨_, _, _, _, _, rfl, (st.trans stj).trans s5, dp_grow hq4 s5.b⟩, (stj.trans s5).b, s5.i⟩
  · rintro σ' B' H' eB i' ⟨rv, z4, z5, z6, z7, rfl, st, hrv⟩
    rw [List.take_length] at hrv
    have hs3 : (srtS ps).length ≤ 3 := by
      have h1 := nodup_len (srtS ps) ps (sorted_nodup slt_irrefl (srtS_ok ps).1) fun x hx => ((srtS_ok ps).2 x).mp hx
      omega
    refine b_cons (s_set 8 st.i (e_lstT ad_nil (by decide)) (fun v2 B2 H2 s2 r2 => ?_) sc_l_cube.nd)
    have h20 := r2 B2 (Ex.refl B2)
    have st2 := st.trans s2
    refine b_cons (for_l (i := 9) (srtS ps) PyData.str (fun j σ' B' H' => ∃ z6 sv z9, σ' = [some v, some u, some (.int (m : Int)), some rv, z4, z5, z6, z7, some sv, z9] ∧ Step B H B' H' ∧ IsTL K ((cube m ((srtS ps).take j) r).map dScene) sv B' ∧ Ex B2 B') PassesOwn.never rfl (pg_name sc_l_cube.nd rfl (.inr rfl)) st2.i (e_sortedStr U.sorted (e_varD 0 rfl (dp_grow hv st2.b)) hnd (by omega)) (fun B3 H3 s3 => ⟨_, _, _, rfl, st2.trans s3, isTL_grow h20 s3.b, s3.b⟩) ?_ ?_)
    · rintro j p x σ2 B3 H3 hp eB3 i3 hx ⟨z6', sv, z9, rfl, st3, hsv, b23⟩
      cases hx
      have hc3 : (cube m ((srtS ps).take j) r).length ≤ 3 * 256 := by
        have : ∀ l : List Str, (cube m l r).length = l.length * (cubeR m r).length := fun l => by
          induction l with
          | nil => simp [cube]
          | cons a l ih =>
            unfold cube at ih ⊢
            rw [List.flatMap_cons, List.length_append, ih, List.length_map, List.length_cons, Nat.add_mul]
            omega
        rw [this, List.length_take, cubeR_len]
        exact Nat.mul_le_mul (by omega) hc
      have hcl : (cubeR m r).length ≤ 256 := by
        rw [cubeR_len]
        exact hc
      refine b_one (s_set 8 st3.i (e_catL (ds := (cube m ((srtS ps).take j) r).map dScene) (es' := (cubeR m r).map fun q => dScene (p, q)) (e_varT 8 rfl hsv) (EvN.dl (n_lc (own := [("_law_row", 6)]) (j := 6) (cubeR m r) dRow (fun q => dScene (p, q)) sc_l_cube.nd (by omega) (e_varD 3 rfl (dp_grow hrv (s2.b.trans b23))) rfl fun a ha σ2 B4 e4 t s5 H0 C cl fp => ?_)) (by rw [List.length_map, List.length_map]; omega)) (fun v4 B4 H4 s4 r4 => ?_) sc_l_cube.nd)
      · obtain ⟨v1, rfl, h1⟩ := t
        have h1 : Dp K B4 v1 (dRow a) := h1
        exact e_tupD (ds := [.str p, dRow a]) (ad_cons (EvP.strD (e_var 9 rfl)) (ad_cons (e_varD 6 rfl h1) ad_nil)) (by show 2 ≤ 100000; decide)
      · refine ⟨B4, ⟨_, _, _, rfl, st3.trans s4, ?_, b23.trans s4.b⟩, s4.b, s4.i⟩
        have := r4 B4 (Ex.refl B4)
        unfold cube at this ⊢
        rw [flat_next hp, List.map_append, List.map_map]
        exact this
    · rintro σ2 B3 H3 eB3 i3 ⟨z6', sv, z9, rfl, st3, hsv, b23⟩
      rw [List.take_length] at hsv
      exact b_one (s_retY st3.i (e_varD 8 rfl (isTL_d hsv)) (y.go st3))
end
end K8

/-! A dict whose keys are scenes: made, stored to, asked. -/
namespace K8
open PySem PySem.Spec PyProof.Rows L2 Evl
def nkey (s : Scene) : NestedKey := .tup [.text s.1, .tup (s.2.map .num)]
theorem nums_inj : ∀ {a b : List Int}, a.map NestedKey.num = b.map NestedKey.num → a = b
  | [], [], _ => rfl
  | x :: a, y :: b, h => by
    injection (List.map_cons ▸ List.map_cons ▸ h : _ :: _ = _ :: _) with h1 h2
    injection h1 with h3
    rw [h3, nums_inj h2]
  | [], _ :: _, h => by cases h
  | _ :: _, [], h => by cases h
theorem nkey_inj {s t : Scene} (h : nkey s = nkey t) : s = t := by
  unfold nkey at h
  injection h with h1
  injection h1 with h2 h3
  injection h2 with h4
  injection h3 with h5 _
  injection h5 with h6
  exact Prod.ext h4 (nums_inj h6)
def dEnt (ks : List (Scene × Addr)) : List (NestedKey × Addr × Value) := ks.map fun p => (nkey p.1, p.2, .bool true)
theorem at_none {ks : List (Scene × Addr)} {s : Scene} (h : s ∉ ks.map (·.1)) : atKey (dEnt ks) (nkey s) = none := by
  induction ks with
  | nil => rfl
  | cons p ks ih =>
    rw [List.map_cons, List.mem_cons] at h
    have h1 : ¬ nkey p.1 = nkey s := fun e => h (.inl (nkey_inj e).symm)
    have h2 := ih fun q => h (.inr q)
    unfold atKey dEnt at h2 ⊢
    rw [List.map_cons, List.find?_cons, decide_eq_false h1]
    exact h2
theorem at_some {ks : List (Scene × Addr)} {s : Scene} : (atKey (dEnt ks) (nkey s)).isSome = decide (s ∈ ks.map (·.1)) := by
  by_cases h : s ∈ ks.map (·.1)
  · rw [decide_eq_true h]
    induction ks with
    | nil => cases h
    | cons p ks ih =>
      by_cases e : nkey p.1 = nkey s
      · unfold atKey dEnt
        rw [List.map_cons, List.find?_cons, decide_eq_true e]
        rfl
      · rw [List.map_cons, List.mem_cons] at h
        have h2 := ih (h.resolve_left fun q => e (by rw [q]))
        unfold atKey dEnt at h2 ⊢
        rw [List.map_cons, List.find?_cons, decide_eq_false e]
        exact h2
  · rw [decide_eq_false h, at_none h]
    rfl
def DEnt (P : Program) (w : World) (a : Addr) (ks : List (Scene × Addr)) (h : Heap) : Prop := (a == sysModules) = false ∧ ∃ o es ep, h.get? a = some o ∧ o.ExactDict ∧ o.data = .dict es ep ∧ es.toList = (dEnt ks).map (entryOfKey (nestedKind P w)) ∧ ((dEnt ks).map (·.1)).Nodup
def dictO (P : Program) (w : World) (a : Addr) (ks : List (Scene × Addr)) : HO := .ext (DEnt P w a ks)
theorem dictO_ok {P : Program} {w : World} {H : Hp} {h : Heap} {a : Addr} {ks : List (Scene × Addr)} (z : DEnt P w a ks h) : ObjOk P w H h a (dictO P w a ks) := by
  obtain ⟨_, o, _, _, ho, _⟩ := id z
  refine ⟨z, ⟨o, ho⟩, fun h1 h2 z k => ?_⟩
  obtain ⟨z1, o, es, ep, ho, r⟩ := z
  exact ⟨z1, o, es, ep, k o ho, r⟩
/-- the keys stand there -/
def DKeys (K : PySem.W.Frag) (H : Hp) (ks : List (Scene × Addr)) : Prop := ∀ p ∈ ks, Dp K H (.ref p.2) (dScene p.1)
theorem dkeys_grow {K : PySem.W.Frag} {H H' : Hp} {ks : List (Scene × Addr)} (h : DKeys K H ks) (e : Ex H H') : DKeys K H' ks := fun p hp => dp_grow (h p hp) e
section
variable {X : Cx} {pins : List (Addr × Obj)} {σ : Slots} {H B B' : Hp} {s : Shared} {a b : Addr} {t : Scene} {ks : List (Scene × Addr)}
theorem nest_ints {h : Heap} : ∀ {ns : List Int} {us : List Value}, Vals (ns.map V.int) us → NestedAll h (ns.map .num) us
  | [], _, r => by cases r; exact .nil
  | n :: ns, _, r => by
    cases r with
    | cons r1 r2 =>
      obtain ⟨t, rfl⟩ := r1
      exact .cons (.int n t) (nest_ints r2)
theorem key_is (I : Inv X pins σ H s) (h : Dp X.K H (.ref b) (dScene t)) : (nestedKind X.prog X.w).is s.heap (nkey t) b := by
  refine ⟨?_, ?_⟩
  · cases h with
    | tup h1 h2 =>
      obtain ⟨its, r, ⟨o, ho, hc, n, hd⟩, _⟩ := I.tuple h1
      refine .tup ho hc hd ?_
      cases h2 with
      | cons g1 g2 =>
        cases g2 with
        | cons g3 g4 =>
          cases g4
          cases g1
          cases r with
          | cons r1 r2 =>
            cases r2 with
            | cons r3 r4 =>
              cases r4
              obtain ⟨t1, rfl⟩ := r1
              refine .cons (.text _ _) (.cons ?_ .nil)
              cases g3 with
              | tup k1 k2 =>
                have ev := dps_ints_inv k2
                subst ev
                obtain ⟨its2, q, ⟨o2, ho2, hc2, n2, hd2⟩, _⟩ := I.tuple k1
                cases r3
                exact .tup ho2 hc2 hd2 (by simpa using nest_ints q)
  · have e : ∀ l : List Int, NestedKey.depthAll (l.map .num) = 0 := fun l => by
      induction l with
      | nil => rfl
      | cons x l ih =>
        show max (NestedKey.depth (.num x)) (NestedKey.depthAll (l.map .num)) = 0
        rw [ih]
        rfl
    show max 0 (max (NestedKey.depthAll (t.2.map .num) + 1) 0) + 1 ≤ 8
    rw [e]
    decide
theorem dictOf (I : Inv X pins σ H s) (ha : H a = some (dictO X.prog X.w a ks)) (hk : DKeys X.K H ks) : (a == sysModules) = false ∧ s.heap.DictOfH (nestedKind X.prog X.w) a (dEnt ks) := by
  obtain ⟨⟨z, o, es, ep, h1, h2, h3, h4, h5⟩, _⟩ := I.hok a _ ha
  refine ⟨z, o, es, ep, h1, h2, h3, h4, fun x hx => ?_, h5⟩
  obtain ⟨p, hp, rfl⟩ := List.mem_map.mp hx
  exact key_is I (hk p hp)
/-! ### asked -/
def rInD (P : Program) (w : World) (K : PySem.W.Frag) : R2 := fun x y H Q => ∃ a b t ks, x = .ref b ∧ y = .ref a ∧ H a = some (dictO P w a ks) ∧ DKeys K H ks ∧ Dp K H (.ref b) (dScene t) ∧ Q (.bl (decide (t ∈ ks.map (·.1)))) H
theorem or_inD (hu : X.A.units + 64 < cLine) : OpR X (compareOp .In) (rInD X.prog X.w X.K) := by
  intro pins s σ H x y u v Q I rx ry h
  obtain ⟨a, b, t, ks, rfl, rfl, ha, hk, hb, q⟩ := h
  cases rx
  cases ry
  obtain ⟨z, dd⟩ := dictOf I ha hk
  refine wpAny_in_heap (knd := nestedKind X.prog X.w) (by show X.A.in1.units + 8 < cLine; have e : X.A.in1.units ≤ X.A.units + 1 := Nat.le_of_eq rfl; omega) (key_is I hb) z dd ?_
  rw [at_some]
  refine ⟨.bl (decide (t ∈ ks.map Prod.fst)), H, I.tok _, ?_, q⟩
  rfl
/-! ### made -/
theorem n_dict {pos : Pos} : EvNE X (.Dict [] [] pos) σ B (fun p B1 H1 => H1 p = some (dictO X.prog X.w p [])) :=
  of_peN (t := fun _ H Q => ∀ p, H p = none → Q (.ref p) (upd H p (dictO X.prog X.w p [])))
    ⟨fun pins s σ H Q I h => wpAny_Dict_empty ⟨.ref s.heap.objs.size, _, I.laid (a := s.heap.objs.size) (o := dictO X.prog X.w s.heap.objs.size []) (t' := s.toks) (fun _ _ q => Heap.get?_push_of_some _ q) (Nat.le_refl _)
      (dictO_ok ⟨beq_eq_false_iff_ne.mpr (Ne.symm (Nat.ne_of_lt I.big)), _, #[], 0, Heap.get?_push_size _ rfl, ⟨rfl, rfl, rfl⟩, rfl, rfl, List.nodup_nil⟩), rfl, h _ (I.hok.fresh (Nat.le_refl _))⟩⟩
    fun H e0 Q q p hp => q p B _ hp (ex_none e0 hp) (Step.mut e0 hp) upd_same
/-! ### stored to -/
def rSetD (P : Program) (w : World) (K : PySem.W.Frag) : V → V → V → Hp → (Hp → Prop) → Prop := fun o i v H Q => ∃ a b t ks, o = .ref a ∧ i = .ref b ∧ v = .bl true ∧ H a = some (dictO P w a ks) ∧ DKeys K H ks ∧ Dp K H (.ref b) (dScene t) ∧ t ∉ ks.map (·.1) ∧ ks.length ≤ 100000 ∧ Q (upd H a (dictO P w a (ks ++ [(t, b)])))
theorem set_dict (hu : X.A.units + 64 < cLine) : PSet X (rSetD X.prog X.w X.K) := by
  intro pins s σ H; intro o i v ov iv u Q I ro ri rv h
  obtain ⟨a, b, t, ks, rfl, rfl, rfl, ha, hk, hb, hn, hl, q⟩ := h
  cases ro
  cases ri
  cases rv
  obtain ⟨z, dd⟩ := dictOf I ha hk
  refine wpAny_setItem_heap (knd := nestedKind X.prog X.w) (hsz := by unfold dEnt; rw [List.length_map, sizeLine_eq]; omega) (by show X.A.in1.units + 8 < cLine; have e : X.A.in1.units ≤ X.A.units + 1 := Nat.le_of_eq rfl; omega) (key_is I hb) dd fun h' dd' hs => ?_
  rw [storedH_new (at_none hn)] at dd'
  have e : dEnt ks ++ [(nkey t, b, Value.bool true)] = dEnt (ks ++ [(t, b)]) := by
    unfold dEnt
    rw [List.map_append]
    rfl
  rw [e] at dd'
  obtain ⟨ob, es, ep, h1, h2, h3, h4, _, h5⟩ := dd'
  exact ⟨_, d_write I (by rw [ha]; exact True.intro) hs ⟨ob, h1⟩ (dictO_ok ⟨z, ob, es, ep, h1, h2, h3, h4, h5⟩), q⟩
end
end K8

/-! Slices of tuples; stores to the dict of scenes; _law_least. -/
namespace K8
open PySem PySem.Spec PyProof.Rows L2 Evl
theorem cutD_whole {ds : List PyData} {lo hi : Option Int} (h : HT.sIx ds.length 0 lo = 0 ∧ HT.sIx ds.length ds.length hi = ds.length) : cutD ds lo hi = ds := by
  unfold cutD
  rw [h.1, h.2, List.drop_zero, Nat.sub_zero, List.take_length]
theorem cut_to (ds : List PyData) (k : Nat) (hk : k ≤ ds.length) : cutD ds none (some (k : Int)) = ds.take k := by
  unfold cutD
  rw [HT.sIx_none, HT.sIx_nat, List.drop_zero, Nat.sub_zero, Nat.min_eq_left hk]
theorem cut_from (ds : List PyData) (k : Nat) : cutD ds (some (k : Int)) none = ds.drop k := by
  unfold cutD
  rw [HT.sIx_none, HT.sIx_nat]
  refine List.take_of_length_le ?_ |>.trans ?_
  · rw [List.length_drop]
    omega
  · by_cases h : k ≤ ds.length
    · rw [Nat.min_eq_left h]
    · rw [Nat.min_eq_right (by omega), List.drop_length, List.drop_of_length_le (by omega)]
section
variable {X : Cx} {σ : Slots} {B B' H H' : Hp} {R R' Ra Rb : Rel} {e a b c l o : Expr} {es rest : List Expr} {pos p pos2 apos cpos : Pos} {x y z v : V} {D : Ends} {ds : List PyData} {body : List Stmt} {i : Int}
theorem slA_run {lo hi : Option Int} {Q : VK} (e0 : Ex B H) (r : Dp X.K B x (.tuple ds)) (q : Yields B H (IsD X.K (.tuple (cutD ds lo hi))) Q) : rSlA X.K x lo hi H Q := by
  cases r with
  | tup h1 h2 =>
    refine ⟨_, _, rfl, ex_t e0 h1, fun hw => ?_, fun hw p hp => ?_⟩
    · rw [dps_len h2] at hw
      rw [cutD_whole hw] at q
      exact q.at e0 (isD_stable (.tup h1 h2))
    · refine q _ _ _ (Step.new e0 hp) (isD_stable (.tup (st_of upd_same) ?_))
      exact dps_grow (cut_dps h2 lo hi) (Ex.new (ex_none e0 hp))
theorem e_slTU {p2 : Pos} (he : EvE X e σ B (IsD X.K (.tuple ds))) (hu : EvE X b σ B (IsV (.int i))) : EvE X (.Subscript e (.Slice none (some b) none p2) pos) σ B (IsD X.K (.tuple (cutD ds none (some i)))) :=
  of_pe (pe_slice sl_tupA pe_w po_none (po_some pe_w)) fun H e0 Q q => he H e0 _ fun x B1 H1 s1 r1 => (hu.mono s1.b) H1 s1.i _ fun y B2 H2 s2 r2 => by
    have ey : y = .int i := r2 B2 (Ex.refl B2)
    subst ey
    exact ⟨i, rfl, slA_run s2.i (r1 B2 s2.b) ((q.go s1).go s2)⟩
theorem e_slTL {p2 : Pos} (he : EvE X e σ B (IsD X.K (.tuple ds))) (hu : EvE X b σ B (IsV (.int i))) : EvE X (.Subscript e (.Slice (some b) none none p2) pos) σ B (IsD X.K (.tuple (cutD ds (some i) none))) :=
  of_pe (pe_slice sl_tupA pe_w (po_some pe_w) po_none) fun H e0 Q q => he H e0 _ fun x B1 H1 s1 r1 => (hu.mono s1.b) H1 s1.i _ fun y B2 H2 s2 r2 => by
    have ey : y = .int i := r2 B2 (Ex.refl B2)
    subst ey
    exact ⟨i, rfl, slA_run s2.i (r1 B2 s2.b) ((q.go s1).go s2)⟩
/-- k in the dict -/
theorem t_inD {q : Addr} {ks : List (Scene × Addr)} {t : Scene} (hu : X.A.units + 64 < cLine) (ha : EvE X a σ B (IsD X.K (dScene t))) (hb : EvE X b σ B (IsV (.ref q))) (hq : B q = some (dictO X.prog X.w q ks)) (hk : DKeys X.K B ks) (hm : behindInMarks .In b = false := by rfl) : EvTE X (.Compare a [.In] [b] pos) σ B (decide (t ∈ ks.map (·.1))) :=
  t_cmp (or_inD hu) ha hb (fun x y B1 e1 r1 r2 H1 i1 Q k => by
    cases r2
    obtain ⟨p, rfl⟩ : ∃ p, x = .ref p := by cases r1; exact ⟨_, rfl⟩
    exact ⟨q, p, t, ks, rfl, rfl, i1 _ _ (e1 _ _ hq), dkeys_grow (dkeys_grow hk e1) i1, dp_grow r1 i1, k.val i1⟩) hm
theorem e_inD {q : Addr} {ks : List (Scene × Addr)} {t : Scene} (hu : X.A.units + 64 < cLine) (ha : EvE X a σ B (IsD X.K (dScene t))) (hb : EvE X b σ B (IsV (.ref q))) (hq : B q = some (dictO X.prog X.w q ks)) (hk : DKeys X.K B ks) (hm : behindInMarks .In b = false := by rfl) : EvE X (.Compare a [.In] [b] pos) σ B (IsV (.bl (decide (t ∈ ks.map (·.1))))) :=
  e_cmp (or_inD hu) ha hb (fun x y B1 e1 r1 r2 H1 i1 Q k => by
    cases r2
    obtain ⟨p, rfl⟩ : ∃ p, x = .ref p := by cases r1; exact ⟨_, rfl⟩
    exact ⟨q, p, t, ks, rfl, rfl, i1 _ _ (e1 _ _ hq), dkeys_grow (dkeys_grow hk e1) i1, dp_grow r1 i1, k.val i1⟩) hm
/-- inside[k] = True -/
theorem s_setD {q b0 : Addr} {ks : List (Scene × Addr)} {t : Scene} {p' pc : Pos} {j} (hu : X.A.units + 64 < cLine) (e0 : Ex B H) (ho : EvE X o σ B (IsV (.ref q))) (hi : EvE X a σ B (IsV (.ref b0))) (hb : Dp X.K B (.ref b0) (dScene t)) (hl : H q = some (dictO X.prog X.w q ks)) (hk : DKeys X.K B ks) (hn : t ∉ ks.map (·.1)) (hz : ks.length ≤ 100000)
    (kk : ∀ B1 H1, Step B H B1 H1 → D.nx σ (upd H1 q (dictO X.prog X.w q (ks ++ [(t, b0)]))))
    (ha : ∀ v, assign (.Subscript o a p') X.env v = (do
      let at0 ← holding [v] (eval o X.env)
      let key ← holding [v, at0] (eval a X.env)
      standAt p'
      holding [v, at0, key] (setItem at0 key v)
      release [v, at0, key] []) := by intro _; rfl)
    (hs : swapsWithSole [.Subscript o a p'] (.Constant (.bool true) j pc) pos.line X.env = pure false := by rfl) (hw : swappedStores [.Subscript o a p'] (.Constant (.bool true) j pc) X.env = pure none := by rfl) (h1 : (assignEach [.Subscript o a p'] X.env).map (·.2) = [assign (.Subscript o a p') X.env] := by rfl) : wS X (.Assign [.Subscript o a p'] (.Constant (.bool true) j pc) pos) D σ H :=
  w_ps (ps_asg pe_w (pg_sub pe_w pe_w (set_dict hu) ha) hs hw h1) ((e_bl (k := true)).run e0 fun v B1 H1 s1 r1 => (ho.mono s1.b).run s1.i fun u B2 H2 s2 r2 => (hi.mono (s1.b.trans s2.b)).run s2.i fun i B3 H3 s3 r3 => by
    have e3 : v = .bl true := r1 B1 (Ex.refl B1)
    have e1 : u = .ref q := r2 B2 (Ex.refl B2)
    have e2 : i = .ref b0 := r3 B3 (Ex.refl B3)
    subst e1 e2 e3
    have st := s1.trans (s2.trans s3)
    exact ⟨q, b0, t, ks, rfl, rfl, rfl, st.h _ _ hl, dkeys_grow (dkeys_grow hk st.b) st.i, dp_grow (dp_grow hb st.b) st.i, hn, hz, kk B3 H3 st⟩)
end
/-! ### _law_least -/
theorem cut_lower {r : List Int} {k : Nat} {x : Int} (h : r[k]? = some x) : cutD (r.map .int) none (some (k : Int)) ++ [PyData.int (x - 1)] ++ cutD (r.map .int) (some ((k : Int) + 1)) none = (lower r k).map .int := by
  have hk := (List.getElem?_eq_some_iff.mp h).1
  have e1 : ((k : Int) + 1) = ((k + 1 : Nat) : Int) := by omega
  rw [e1, cut_to _ _ (by rw [List.length_map]; omega), cut_from, lower_eq r k x h]
  simp
section
variable {P : Program} {w : World} {K : PySem.W.Frag}
variable {mg : Str → Option Value} {base : Heap}
def preLeast (K : PySem.W.Frag) : List V → Hp → Rel → Prop := fun vs B R => ∃ (M : List Scene) (v : V), vs = [v] ∧ Dp K B v (.list (M.map dScene)) ∧ M.Nodup ∧ M.length ≤ 10000 ∧ (∀ s ∈ M, s.2.length ≤ 8) ∧ R = IsD K (.list ((lawLeast M).map dScene))
abbrev D_least (P : Program) (w : World) (K : PySem.W.Frag) (mg : Str → Option Value) (base : Heap) : Prop := Dfn P w K mg base CX0 1 "_law_least" ["_law_members"] (Pure (preLeast K))
theorem low_any (M : List Scene) (s : Scene) (ls : List (List Int)) (h : ls = (List.range s.2.length).map (lower s.2)) : (ls.filter fun r => decide ((s.1, r) ∈ M)).isEmpty = !hasLower M s := by
  unfold hasLower
  subst h
  induction List.range s.2.length with
  | nil => rfl
  | cons k l ih =>
    rw [List.map_cons, List.filter_cons, List.any_cons]
    by_cases q : (s.1, lower s.2 k) ∈ M
    · simp [q]
    · rw [if_neg (by simpa using q), ih, decide_eq_false q, Bool.false_or]
theorem lowers_of {r : List Int} : ∀ {ds : List PyData}, ds.length = r.length → (∀ (k : Nat) d, ds[k]? = some d → d = dRow (lower r k)) → ds = ((List.range r.length).map (lower r)).map dRow := fun {ds} hl h => by
  apply List.ext_getElem?; intro k
  by_cases hk : k < r.length
  · have h1 : ds[k]? = some ds[k] := List.getElem?_eq_getElem (by omega)
    rw [h1, h k _ h1, List.getElem?_map, List.getElem?_map, List.getElem?_range hk]
    rfl
  · rw [List.getElem?_eq_none (by omega), List.getElem?_eq_none (by rw [List.length_map, List.length_map, List.length_range]; omega)]
theorem filter_take {α : Type} {L : List α} {f : α → Bool} {i : Nat} {a : α} (h : L[i]? = some a) : (L.take (i + 1)).filter f = (L.take i).filter f ++ (if f a = true then [a] else []) := by
  rw [take_next' h, List.filter_append]
  by_cases q : f a = true
  · rw [if_pos q]
    simp [q]
  · rw [if_neg q]
    simp [q]
theorem ok_least {f : Addr} {fd : FuncData} (U : Bi mg) (F : Fun K "_law_least" "_law_least" s_l_least f fd) : FnOk P w K mg base CX0 1 f fd ["_law_members"] (Pure (preLeast K)) := by
  refine pure_ok F sc_l_least (fun vs H R ⟨_, _, hv, _⟩ => by rw [hv]; rfl) fun cdv A outer s0 B H vs Q E R hr e0 h y => ?_
  obtain ⟨M, v, rfl, hv, hnd, hz, h8, rfl⟩ := h
  have hu : (cxOf CX0 P w K mg base N_l_least "_law_least" (defScope s_l_least) f cdv A outer s0 H E).nox.A.units + 64 < cLine := hr.units
  refine b_cons (s_setN 1 e0 n_dict (fun q B1 H1 n0 n1 s1 hq1 => ?_) sc_l_least.nd)
  refine b_cons (for_l (i := 2) M dScene (fun j σ' B' H' => ∃ z ks, σ' = [some v, some (.ref q), z, none, none, none, none, none] ∧ Step B H B' H' ∧ B' q = none ∧ H' q = some (dictO P w q ks) ∧ DKeys K B' ks ∧ ks.map (·.1) = M.take j) PassesOwn.never rfl (pg_name sc_l_least.nd rfl (.inr rfl)) s1.i (e_varD 0 rfl (dp_grow hv s1.b)) (fun B2 H2 s2 => ⟨none, [], rfl, s1.trans s2, s2.off _ _ n1 hq1, s2.h _ _ hq1, fun _ h => absurd h (by simp), rfl⟩) ?_ ?_)
  · rintro j t x σ' B' H' ht eB i' hx ⟨z, ks, rfl, st, nq, hq, hk, hks⟩
    obtain ⟨b0, rfl⟩ : ∃ b0, x = .ref b0 := by cases hx; exact ⟨_, rfl⟩
    have hn : t ∉ ks.map (·.1) := by
      rw [hks]
      intro hm
      have h1 := take_next' ht
      have h2 : (M.take (j + 1)).Nodup := hnd.sublist (List.take_sublist _ _)
      rw [h1, List.nodup_append] at h2
      exact h2.2.2 t hm t (List.mem_singleton.mpr rfl) rfl
    have hkl : ks.length ≤ 100000 := by
      have := congrArg List.length hks
      rw [List.length_map, List.length_take] at this
      omega
    refine b_one (s_setD hu st.i (e_var 1 rfl) (e_var 2 rfl) hx hq hk hn hkl fun B4 H4 s4 => ?_)
    have n4 : B4 q = none := s4.off _ _ nq hq
    refine ⟨B4, ⟨_, ks ++ [(t, b0)], rfl, (st.trans s4).put n4 n0, n4, upd_same, fun p hp => ?_, ?_⟩, s4.b, ex_put s4.i n4⟩
    · rcases List.mem_append.1 hp with hp | hp
      · exact dp_grow (hk p hp) s4.b
      · rw [List.mem_singleton.1 hp]
        exact dp_grow hx s4.b
    · rw [List.map_append, hks, take_next' ht]
      rfl
  · rintro σ' B' H' eB i' ⟨z, ks, rfl, st, nq, hq, hk, hks⟩
    rw [List.take_length] at hks
    have stj0 := st.join nq n0 hq
    obtain ⟨Bd, hBd⟩ : ∃ Bd, Bd = upd B' q (dictO P w q ks) := ⟨_, rfl⟩
    have stj : Step B H Bd H' := hBd ▸ stj0
    have hqd : Bd q = some (dictO P w q ks) := by rw [hBd, upd_same]
    have hkd : DKeys K Bd ks := dkeys_grow hk (by rw [hBd]; exact Ex.new nq)
    clear stj0 hBd nq
    refine b_cons (s_setN 3 stj.i (n_lst (RA := ANil) a_nil fun vs _ e => by cases e; decide) (fun g B2 H2 g0 g1 s2 r2 => ?_) sc_l_least.nd)
    obtain ⟨vs0, hg1, hg2⟩ := r2
    have ev : vs0 = [] := hg2 B2 (Ex.refl B2)
    subst ev
    have st2 := stj.trans s2
    have g0H : H g = none := fresh_back stj.h g0
    have hv2 := dp_grow hv st2.b
    have hq2 := s2.b _ _ hqd
    have hk2 := dkeys_grow hkd s2.b
    refine b_cons (for_l (i := 2) M dScene (fun j σ' B' H' => ∃ acc z a4 a5 a6 a7, σ' = [some v, some (.ref q), z, some (.ref g), a4, a5, a6, a7] ∧ Step B H B' H' ∧ Ex B2 B' ∧ B' g = none ∧ H' g = some (.lst acc) ∧ DpAll K B' acc (((M.take j).filter fun s => !hasLower M s).map dScene)) PassesOwn.never rfl (pg_name sc_l_least.nd rfl (.inr rfl)) st2.i (e_varD 0 rfl hv2) (fun B3 H3 s3 => ⟨[], _, _, _, _, _, rfl, st2.trans s3, s3.b, s3.off _ _ g1 hg1, s3.h _ _ hg1, .nil⟩) ?_ ?_)
    · rintro j t x σ' B3 H3 ht eB3 i3 hx ⟨acc, z', a4, a5, a6, a7, rfl, st3, b23, ng, hg, hacc⟩
      have hm := List.mem_of_getElem? ht
      have ht8 := h8 t hm
      have hx0 : Dp K B3 x (.tuple [.str t.1, dRow t.2]) := hx
      refine b_cons (s_set 4 st3.i (e_ixT (ds := [.str t.1, dRow t.2]) (d := dRow t.2) (e_varD 2 rfl hx0) e_int (atI_nat (j := 1) rfl)) (fun v4 B4 H4 s4 r4 => ?_) sc_l_least.nd)
      have hrow : Dp K B4 v4 (.tuple (t.2.map .int)) := r4 B4 (Ex.refl B4)
      have hlr : lenD (.tuple (t.2.map .int)) = some t.2.length := by
        show some (t.2.map PyData.int).length = _
        rw [List.length_map]
      refine b_cons (s_setLcR (i := 5) (own := [("_law_k", 6)]) (j := 6) (fun k d => d = dRow (lower t.2 k)) sc_l_least.nd U.range (e_len U.len (e_varD 4 rfl hrow) hlr (by omega)) (by omega) rfl (fun k hk B5 e5 s' H0 C cl fp => ?_) s4.i fun q5 B5 H5 m0 m1 s5 r5 => ?_)
      · have hk' : k < t.2.length := by omega
        have hx1 : t.2[k]? = some t.2[k] := List.getElem?_eq_getElem hk'
        have hr5 := dp_grow hrow e5
        have at1 : atI (t.2.map PyData.int) (k : Int) = some (.int t.2[k]) := atI_nat (by rw [List.getElem?_map, hx1]; rfl)
        have hc := cut_lower hx1
        refine EvP.imp (e_catT (ds := cutD (t.2.map .int) none (some (k : Int)) ++ [PyData.int (t.2[k] - 1)]) (es' := cutD (t.2.map .int) (some ((k : Int) + 1)) none) (e_catT (ds := cutD (t.2.map .int) none (some (k : Int))) (es' := [PyData.int (t.2[k] - 1)]) (e_slTU (e_varD 4 rfl hr5) (e_var 6 rfl)) (e_tupD (ds := [PyData.int (t.2[k] - 1)]) (ad_cons (EvP.intD (e_subI (EvP.int (e_ixT (ds := t.2.map .int) (d := .int t.2[k]) (e_varD 4 rfl hr5) (e_var 6 rfl) at1)) e_int)) ad_nil) (by show 1 ≤ 100000; decide)) ?_) (e_slTL (e_varD 4 rfl hr5) (e_addI (e_var 6 rfl) e_int)) ?_) fun v1 B1 _ r1 => ⟨_, rfl, ?_⟩
        · have h1 := congrArg List.length hc
          rw [List.length_append, List.length_append, List.length_map, lower_len] at h1
          show _ + 1 ≤ 100000
          have : [PyData.int (t.2[k] - 1)].length = 1 := rfl
          omega
        · have h1 := congrArg List.length hc
          rw [List.length_append, List.length_map, lower_len] at h1
          omega
        · rw [hc] at r1
          exact r1
      · obtain ⟨ds, hdl, hda, vs5, hv5, r5'⟩ := r5
        have hds := lowers_of (r := t.2) (by omega) hda
        obtain ⟨ls, hls⟩ : ∃ ls, ls = (List.range t.2.length).map (lower t.2) := ⟨_, rfl⟩
        rw [← hls] at hds
        subst hds
        have hll : ls.length = t.2.length := by rw [hls, List.length_map, List.length_range]
        have sj := s5.join m1 m0 hv5
        obtain ⟨B6, hB6⟩ : ∃ B6, B6 = upd B5 q5 (.lst vs5) := ⟨_, rfl⟩
        rw [← hB6] at sj
        have hlow : Dp K B6 (.ref q5) (.list (ls.map dRow)) := .lst (sq_of (by rw [hB6, upd_same])) (r5' B6 (by rw [hB6]; exact Ex.new m1))
        have sx := s4.trans sj
        have hq6 := sx.b _ _ (b23 _ _ hq2)
        have hk6 := dkeys_grow (dkeys_grow hk2 b23) sx.b
        have hx6 := dp_grow hx0 sx.b
        have hg6 := sx.h _ _ hg
        have ng6 : B6 g = none := sx.off _ _ ng hg
        have hzz : acc.length < 100000 := by
          rw [dps_len hacc, List.length_map]
          refine Nat.lt_of_le_of_lt (List.length_filter_le _ _) ?_
          rw [List.length_take]
          omega
        refine b_one (s_if (k := (ls.filter fun r => decide ((t.1, r) ∈ M)).isEmpty) sj.i ((t_notL (ds := (ls.filter fun r => decide ((t.1, r) ∈ M)).map dRow) (EvP.imp (EvN.dl (n_lcIf (own := [("_law_one", 7)]) (j := 7) ls dRow (fun r => decide ((t.1, r) ∈ M)) dRow sc_l_least.nd (by omega) (e_varD 5 rfl hlow) rfl (fun a ha σ2 B7 e7 tt s1' H0 C cl fp => ?_) fun a ha hk' σ2 B7 e7 tt s1' H0 C cl fp => ?_)) fun _ _ _ r => isTL_d r)).is ?_) (fun h5 H7 s7 => ?_) fun h5 H7 s7 => b_nil ?_)
        · obtain ⟨v1, rfl, h1⟩ := tt
          have h1 : Dp K B7 v1 (dRow a) := h1
          rw [← hks]
          exact t_inD (t := (t.1, a)) hu (e_tupD (ds := [.str t.1, dRow a]) (ad_cons (e_ixT (ds := [.str t.1, dRow t.2]) (d := .str t.1) (e_varD 2 rfl (dp_grow hx6 e7)) e_int (atI_nat (j := 0) rfl)) (ad_cons (e_varD 7 rfl h1) ad_nil)) (by show 2 ≤ 100000; decide)) (e_var 1 rfl) (e7 _ _ hq6) (dkeys_grow hk6 e7)
        · obtain ⟨v1, rfl, h1⟩ := tt
          exact e_varD 7 rfl h1
        · cases ls.filter fun r => decide ((t.1, r) ∈ M) <;> rfl
        · rw [low_any M t ls hls] at h5
          refine b_one (s_app s7.i (e_var 3 rfl) (e_varD 2 rfl hx6) (s7.h _ _ hg6) hzz fun v8 B8 H8 s8 r8 => ?_)
          have sy := (sx.trans s7).trans s8
          have n8 : B8 g = none := sy.off _ _ ng hg
          refine ⟨B8, ⟨acc ++ [v8], _, _, _, _, _, rfl, (st3.trans sy).put n8 g0H, b23.trans sy.b, n8, upd_same, ?_⟩, sy.b, ex_put sy.i n8⟩
          rw [filter_take ht, if_pos h5, List.map_append]
          exact dps_append (dps_grow hacc sy.b) (.cons (r8 B8 (Ex.refl B8)) .nil)
        · rw [low_any M t ls hls] at h5
          have sy := sx.trans s7
          refine ⟨B6, ⟨acc, _, _, _, _, _, rfl, st3.trans sy, b23.trans sy.b, sy.off _ _ ng hg, sy.h _ _ hg, ?_⟩, sy.b, sy.i⟩
          rw [filter_take ht, if_neg (by rw [h5]; decide), List.append_nil]
          exact dps_grow hacc sy.b
    · rintro σ' B3 H3 eB3 i3 ⟨acc, z', a4, a5, a6, a7, rfl, st3, b23, ng, hg, hacc⟩
      rw [List.take_length] at hacc
      have sj := st3.join ng g0H hg
      exact b_one (s_retY sj.i (e_varD 3 rfl (.lst (sq_of upd_same) (dps_grow hacc (Ex.new ng)))) (y.go sj))
end
end K8

/-! _law_lists. -/
namespace K8
open PySem PySem.Spec PyProof.Rows L2 Evl
theorem eqv_scenes (L : List Scene) : PyData.eqv (.list (L.map dScene)) (.list (L.map dScene)) = true := by
  show PyData.eqvAll _ _ = true
  rw [eqvAll_map dScene eqv_scene, decide_eq_true rfl]
theorem eqv_rows (L : List (List Int)) : PyData.eqv (.list (L.map dRow)) (.list (L.map dRow)) = true := by
  show PyData.eqvAll _ _ = true
  rw [eqvAll_map dRow eqv_row, decide_eq_true rfl]
section
variable {P : Program} {w : World} {K : PySem.W.Frag} {mg : Str → Option Value} {base : Heap} {C CE : Addr}
def preLists (K : PySem.W.Frag) (C : Addr) : List V → Hp → Rel → Prop := fun vs B R => ∃ (n : Nat) (L : List Scene) (ps : List Str) (u pv lv : V), vs = [u, pv, .int (n : Int), lv] ∧ IsU K C n L u B ∧ UGood n L ∧ Dp K B pv (.list (ps.map .str)) ∧ Dp K B lv (.list (L.map dScene)) ∧ R = IsV (.bl true)
abbrev D_lists (P : Program) (w : World) (K : PySem.W.Frag) (mg : Str → Option Value) (base : Heap) (C : Addr) : Prop := Dfn P w K mg base CX0 4 "_law_lists" ["_law_upset", "_law_posts_here", "_law_width", "_law_least_here"] (Pure (preLists K C))
theorem lay_rows {n : Nat} {L : List Scene} (h : UGood n L) (p : Str) : ∀ d ∈ (rowsAt L p).map dRow, Lay 3 d := fun d hd => by
  obtain ⟨r, _, rfl⟩ := List.mem_map.mp hd
  exact (lay_row r).up (by decide)
theorem ok_lists {f : Addr} {fd : FuncData} (U : Bi mg) (UU : UM P w K mg base C CE) (GI : D_l_is_integer P w K mg base) (GR : D_l_is_row P w K mg base) (GS : D_l_is_scene P w K mg base) (F : Fun K "_law_lists" "_law_lists" s_l_lists f fd) : FnOk P w K mg base CX0 4 f fd ["_law_upset", "_law_posts_here", "_law_width", "_law_least_here"] (Pure (preLists K C)) := by
  refine pure_ok F sc_l_lists (fun vs H R ⟨_, _, _, _, _, _, hv, _⟩ => by rw [hv]; rfl) fun cdv A outer s0 B H vs Q E R hr e0 h y => ?_
  obtain ⟨n, L, ps, u, pv, lv, rfl, hu, hL, hp, hl, rfl⟩ := h
  have hun : (cxOf CX0 P w K mg base N_l_lists "_law_lists" (defScope s_l_lists) f cdv A outer s0 H E).nox.A.units + 64 < cLine := hr.units
  have h64 := hL.few
  have hlay : SeqAt.shaped (.list (L.map dScene)) = true := (lay_lst (lay_scenes hL)).sh
  refine b_cons (s_setN 4 e0 (n_ls UU (hr.mono (by decide)) ((e_var 0 rfl).imp fun v B1 e r => by cases r; exact isU_grow hu e)) (fun p B1 H1 n0 n1 s1 r1 => ?_) sc_l_lists.nd)
  obtain ⟨vs, hp1, hvs⟩ := r1
  have hvs1 := hvs B1 (Ex.refl B1)
  have hlen : vs.length < 100000 := by
    rw [dps_len hvs1, List.length_map]
    omega
  obtain ⟨Bt, hBt⟩ : ∃ Bt, Bt = upd B1 p (.lst vs) := ⟨_, rfl⟩
  have xt : Ex B1 Bt := by rw [hBt]; exact Ex.new n1
  have et : Ex Bt H1 := by rw [hBt]; exact ex_join s1.i hp1
  have hpt : Dp K Bt (.ref p) (.list (L.map dScene)) := .lst (sq_of (by rw [hBt, upd_same])) (dps_grow hvs1 xt)
  have hlt := dp_grow (dp_grow hl s1.b) xt
  have hall : (L.map fun _ => true).all id = true := by simp
  refine b_cons (s_if (B := Bt) (k := false) et ((w_or (k1 := false) (k2 := false) ((t_not (t_bl (e_isi (k := true) (T := "list") U.isinstance (e_varD 4 rfl hpt) U.list (by decide +kernel) rfl))).is rfl) fun _ => w_or (k1 := false) (k2 := false) ((t_not (t_bl (e_allB (bs := L.map fun _ => true) rfl U.all (EvP.imp (n_lc (own := [("_law_scene_here", 5)]) (j := 5) L dScene (fun _ => .bool true) sc_l_lists.nd (by omega) (e_varD 4 rfl hpt) rfl fun a ha σ2 B' e2 t s H0 C cl fp => ?_).dl fun v2 B2 _ r2 => ?_)))).is ?_) fun _ => w_or1 ((t_neD hun (e_varD 4 rfl hpt) (e_varD 3 rfl hlt) hlay hlay).is (by rw [eqv_scenes]; rfl))).t.is rfl) (fun h => by cases h) fun _ H2 s2 => b_nil ?_)
  · obtain ⟨v1, rfl, h1⟩ := t
    have h1 : Dp K B' v1 (dScene a) := h1
    exact EvP.blD (e_callP GS (hr.mono (by decide)) (a_cons (e_varD 5 rfl h1) (a_one (e_var 2 rfl))) fun vs B1 e1 r => by
      obtain ⟨v1, vs1, rfl, r1, v2, vs2, rfl, r2, r3⟩ := r
      have e3 : vs2 = [] := r3
      have e2 : v2 = .int (n : Int) := r2
      subst e3 e2
      exact ⟨n, a, v1, rfl, r1, (hL.all a ha).row, rfl⟩)
  · rw [List.map_map]
    exact isTL_d r2
  · rw [hall]
    rfl
  have s2' : Step B1 H1 B1 H2 := Step.less s1.i s2
  refine b_cons (s_app s2'.i (e_var 4 rfl) e_non (s2'.h _ _ hp1) hlen fun v3 B3 H3 s3 r3 => ?_)
  have st3 : Step B H B3 (upd H3 p (.lst (vs ++ [v3]))) := (s1.trans (s2'.trans s3)).put ((s2'.trans s3).off _ _ n1 hp1) n0
  refine b_cons (for_l (i := 6) ps PyData.str (fun j σ' B' H' => ∃ z6 z7, σ' = [some u, some pv, some (.int (n : Int)), some lv, some (.ref p), none, z6, z7, none] ∧ Step B H B' H') PassesOwn.never rfl (pg_name sc_l_lists.nd rfl (.inr rfl)) st3.i (e_varD 1 rfl (dp_grow hp st3.b)) (fun B4 H4 s4 => ⟨_, _, rfl, st3.trans s4⟩) ?_ ?_)
  · rintro j post x σ' B' H' hpost eB i' hx ⟨z6, z7, rfl, st⟩
    cases hx
    have huB := isU_grow hu st.b
    have hlB := dp_grow hl st.b
    refine b_cons (s_setN 7 st.i (n_ra UU (hr.mono (by decide)) ((e_var 0 rfl).imp fun v B1 e r => by cases r; exact isU_grow huB e) (e_var 6 rfl) (by omega)) (fun q B4 H4 m0 m1 s4 r4 => ?_) sc_l_lists.nd)
    obtain ⟨ws, hq4, hws⟩ := r4
    have hws4 := hws B4 (Ex.refl B4)
    have hwlen : ws.length < 100000 := by
      rw [dps_len hws4, List.length_map]
      unfold rowsAt
      rw [List.length_map]
      exact Nat.lt_of_le_of_lt (List.length_filter_le _ _) (by omega)
    obtain ⟨Bq, hBq⟩ : ∃ Bq, Bq = upd B4 q (.lst ws) := ⟨_, rfl⟩
    have xq : Ex B4 Bq := by rw [hBq]; exact Ex.new m1
    have eq : Ex Bq H4 := by rw [hBq]; exact ex_join s4.i hq4
    have hqt : Dp K Bq (.ref q) (.list ((rowsAt L post).map dRow)) := .lst (sq_of (by rw [hBq, upd_same])) (dps_grow hws4 xq)
    have hlq := dp_grow (dp_grow hlB s4.b) xq
    have hrl : (rowsAt L post).length < 64 := by
      unfold rowsAt
      rw [List.length_map]
      exact Nat.lt_of_le_of_lt (List.length_filter_le _ _) h64
    have hlayr : SeqAt.shaped (.list ((rowsAt L post).map dRow)) = true := (lay_lst (lay_rows hL post)).sh
    have hallr : ((rowsAt L post).map fun _ => true).all id = true := by simp
    refine b_cons (s_if (B := Bq) (k := false) eq ((w_or (k1 := false) (k2 := false) ((t_not (t_bl (e_isi (k := true) (T := "list") U.isinstance (e_varD 7 rfl hqt) U.list (by decide +kernel) rfl))).is rfl) fun _ => w_or1 ((t_not (t_bl (e_allB (bs := (rowsAt L post).map fun _ => true) rfl U.all (EvP.imp (n_lc (own := [("_law_row", 8)]) (j := 8) (rowsAt L post) dRow (fun _ => .bool true) sc_l_lists.nd (by omega) (e_varD 7 rfl hqt) rfl fun a ha σ2 B' e2 t s H0 C cl fp => ?_).dl fun v2 B2 _ r2 => ?_)))).is ?_)).t.is rfl) (fun h => by cases h) fun _ H5 s5 => b_nil ?_)
    · obtain ⟨v1, rfl, h1⟩ := t
      have h1 : Dp K B' v1 (dRow a) := h1
      exact EvP.blD (e_callP GR (hr.mono (by decide)) (a_cons (e_varD 8 rfl h1) (a_one (e_var 2 rfl))) fun vs B1 e1 r => by
        obtain ⟨v1, vs1, rfl, r1, v2, vs2, rfl, r2, r3⟩ := r
        have e3 : vs2 = [] := r3
        have e2 : v2 = .int (n : Int) := r2
        subst e3 e2
        exact ⟨n, a, v1, rfl, r1, (hL.all _ (mem_rowsAt.mp ha)).row, rfl⟩)
    · rw [List.map_map]
      exact isTL_d r2
    · rw [hallr]
      rfl
    have eq5 : Ex Bq H5 := s5.i
    refine b_cons (s_if (B := Bq) (k := false) eq5 ((t_neD (d2 := .list ((rowsAt L post).map dRow)) hun (e_varD 7 rfl hqt) (EvP.imp (EvN.dl (n_lcIf (own := [("_law_scene_here", 5)]) (j := 5) L dScene (fun s => decide (s.1 = post)) (fun s => dRow s.2) sc_l_lists.nd (by omega) (e_varD 3 rfl hlq) rfl (fun a ha σ2 B7 e7 tt s1' H0 C cl fp => ?_) fun a ha hk' σ2 B7 e7 tt s1' H0 C cl fp => ?_)) fun v1 B1 _ r1 => ?_) hlayr hlayr).is (by rw [eqv_rows]; rfl)) (fun h => by cases h) fun _ H6 s6 => b_nil ?_)
    · obtain ⟨v1, rfl, h1⟩ := tt
      have h1 : Dp K B7 v1 (dScene a) := h1
      have e1 : decide (a.1 = post) = decide (V.str a.1 = V.str post) := eqStr.symm
      rw [e1]
      exact t_eqV (EvP.str (e_ixT (d := .str a.1) (ds := [.str a.1, dRow a.2]) (e_varD 5 rfl h1) e_int (atI_nat (j := 0) rfl))) (e_var 6 rfl) rfl
    · obtain ⟨v1, rfl, h1⟩ := tt
      have h1 : Dp K B7 v1 (dScene a) := h1
      exact e_ixT (d := dRow a.2) (ds := [.str a.1, dRow a.2]) (e_varD 5 rfl h1) e_int (atI_nat (j := 1) rfl)
    · rw [rowsAt_map]
      exact isTL_d r1
    have s6' : Step B4 H4 B4 H6 := Step.less s4.i (s5.trans s6)
    refine b_one (s_app s6'.i (e_var 7 rfl) e_non (s6'.h _ _ hq4) hwlen fun v7 B7 H7 s7 r7 => ?_)
    have sy := s6'.trans s7
    exact ⟨B7, ⟨_, _, rfl, st.trans ((s4.trans sy).put (sy.off _ _ m1 hq4) m0)⟩, (s4.trans sy).b, ((s4.trans sy).put (sy.off _ _ m1 hq4) m0).i⟩
  · rintro σ' B' H' eB i' ⟨z6, z7, rfl, st⟩
    have huB := isU_grow hu st.b
    have hlB := dp_grow hl st.b
    have hll : lenD (.list (L.map dScene)) = some L.length := by
      show some (L.map dScene).length = _
      rw [List.length_map]
    have eL : (true : Bool) = decide (V.int (L.length : Int) = V.int (L.length : Int)) := (decide_eq_true rfl).symm
    have eN : (true : Bool) = decide (V.int (n : Int) = V.int (n : Int)) := (decide_eq_true rfl).symm
    have eu : ∀ {z6 z7 : Option V}, EvE (cxOf CX0 P w K mg base N_l_lists "_law_lists" (defScope s_l_lists) f cdv A outer s0 H E).nox (.Name "_law_upset" ⟨0, 0, 0, 0⟩) [some u, some pv, some (.int (n : Int)), some lv, some (.ref p), none, z6, z7, none] B' (IsU K C n L) := (e_var 0 rfl).imp fun v B1 e r => by cases r; exact isU_grow huB e
    refine b_one (s_retY st.i (R := IsV (.bl (true && (true && true)))) (e_and (k1 := true) (k2 := true && true) (e_callK (ds := [.int (L.length : Int)]) (v := .bl true) GI (hr.mono (by decide)) (ad_cons (EvP.intD (e_lenU UU (hr.mono (by decide)) U.len ((e_var 0 rfl).imp fun v B1 e r => by cases r; exact isU_grow huB e) (by omega))) ad_nil) rfl trivial rfl) fun _ => e_and (k1 := true) (k2 := true) ?_ fun _ => e_one ?_) (y.go st))
    · rw [eL]
      exact e_eqV (e_lenU UU (hr.mono (by decide)) U.len ((e_var 0 rfl).imp fun v B1 e r => by cases r; exact isU_grow huB e) (by omega)) (e_len U.len (e_varD 3 rfl hlB) hll (by omega)) rfl
    · rw [eN]
      exact e_eqV (e_width UU.ui.uc ((e_var 0 rfl).imp fun v B1 e r => by cases r; exact isU_grow huB e)) (e_var 2 rfl) rfl
end
end K8

/-! _law_asked. -/
namespace K8
open PySem PySem.Spec PyProof.Rows L2 Evl
section
variable {P : Program} {w : World} {K : PySem.W.Frag} {mg : Str → Option Value} {base : Heap} {C CE : Addr}
def preAsked (K : PySem.W.Frag) (C : Addr) : List V → Hp → Rel → Prop := fun vs B R => ∃ (n : Nat) (L M Cs : List Scene) (ps : List Str) (r : List Int) (u mv pv cv rv : V), vs = [u, mv, pv, cv, rv] ∧ IsU K C n L u B ∧ UGood n L ∧ Dp K B mv (.list (M.map dScene)) ∧ M.Nodup ∧ M.length ≤ 10000 ∧ (∀ s ∈ M, s.2.length ≤ 8) ∧ Dp K B pv (.list (ps.map .str)) ∧ Dp K B cv (.list (Cs.map dScene)) ∧
  (∀ s ∈ Cs, ScOk n s ∧ (Up L s ↔ s ∈ M)) ∧ Dp K B rv (dRow r) ∧ r.length = n ∧ lawLeast M = L ∧ R = IsV (.bl true)
abbrev D_asked (P : Program) (w : World) (K : PySem.W.Frag) (mg : Str → Option Value) (base : Heap) (C : Addr) : Prop := Dfn P w K mg base CX0 6 "_law_asked" ["_law_upset", "_law_members", "_law_posts_here", "_law_cube_here", "_law_base_here"] (Pure (preAsked K C))
theorem ok_asked {f : Addr} {fd : FuncData} (U : Bi mg) (UU : UM P w K mg base C CE) (GL : D_least P w K mg base) (GT : D_lists P w K mg base C) (F : Fun K "_law_asked" "_law_asked" s_l_asked f fd) : FnOk P w K mg base CX0 6 f fd ["_law_upset", "_law_members", "_law_posts_here", "_law_cube_here", "_law_base_here"] (Pure (preAsked K C)) := by
  refine pure_ok F sc_l_asked (fun vs H R ⟨_, _, _, _, _, _, _, _, _, _, _, hv, _⟩ => by rw [hv]; rfl) fun cdv A outer s0 B H vs Q E R hr e0 h y => ?_
  obtain ⟨n, L, M, Cs, ps, r, u, mv, pv, cv, rv, rfl, hu, hL, hm, hnd, hz, h8, hp, hc, hcs, hrv, hrn, hleast, rfl⟩ := h
  have hun : (cxOf CX0 P w K mg base N_l_asked "_law_asked" (defScope s_l_asked) f cdv A outer s0 H E).nox.A.units + 64 < cLine := hr.units
  refine b_cons (s_if (k := false) e0 ((t_not (t_bl (e_isU (k := true) UU.ui U.isinstance ((e_var 0 rfl).imp fun v B1 e r => by cases r; exact isU_grow hu e) fun v B1 r => .inl ⟨rfl, by obtain ⟨x, dx, kv, h1, h2, _⟩ := r; exact ⟨x, dx, _, h1, h2⟩⟩))).is rfl) (fun h => by cases h) fun _ H1 s1 => b_nil ?_)
  refine b_cons (s_setN 5 s1.i n_dict (fun q B2 H2 n0 n1 s2 hq2 => ?_) sc_l_asked.nd)
  have st2 := s1.trans s2
  have n0H : H q = none := fresh_back s1.h n0
  refine b_cons (for_l (i := 6) M dScene (fun j σ' B' H' => ∃ z ks, σ' = [some u, some mv, some pv, some cv, some rv, some (.ref q), z, none] ∧ Step B H B' H' ∧ B' q = none ∧ H' q = some (dictO P w q ks) ∧ DKeys K B' ks ∧ ks.map (·.1) = M.take j) PassesOwn.never rfl (pg_name sc_l_asked.nd rfl (.inl rfl)) s2.i (e_varD 1 rfl (dp_grow hm st2.b)) (fun B3 H3 s3 => ⟨none, [], rfl, st2.trans s3, s3.off _ _ n1 hq2, s3.h _ _ hq2, fun _ h => absurd h (by simp), rfl⟩) ?_ ?_)
  · rintro j t x σ' B' H' ht eB i' hx ⟨z, ks, rfl, st, nq, hq, hk, hks⟩
    obtain ⟨b0, rfl⟩ : ∃ b0, x = .ref b0 := by cases hx; exact ⟨_, rfl⟩
    have hn : t ∉ ks.map (·.1) := by
      rw [hks]
      intro hm
      have h1 := take_next' ht
      have h2 : (M.take (j + 1)).Nodup := hnd.sublist (List.take_sublist _ _)
      rw [h1, List.nodup_append] at h2
      exact h2.2.2 t hm t (List.mem_singleton.mpr rfl) rfl
    have hkl : ks.length ≤ 100000 := by
      have := congrArg List.length hks
      rw [List.length_map, List.length_take] at this
      omega
    refine b_one (s_setD hun st.i (e_var 5 rfl) (e_var 6 rfl) hx hq hk hn hkl fun B4 H4 s4 => ?_)
    have n4 : B4 q = none := s4.off _ _ nq hq
    refine ⟨B4, ⟨_, ks ++ [(t, b0)], rfl, (st.trans s4).put n4 n0H, n4, upd_same, fun p hp => ?_, ?_⟩, s4.b, ex_put s4.i n4⟩
    · rcases List.mem_append.1 hp with hp | hp
      · exact dp_grow (hk p hp) s4.b
      · rw [List.mem_singleton.1 hp]
        exact dp_grow hx s4.b
    · rw [List.map_append, hks, take_next' ht]
      rfl
  · rintro σ' B' H' eB i' ⟨z, ks, rfl, st, nq, hq, hk, hks⟩
    rw [List.take_length] at hks
    have stj0 := st.join nq n0H hq
    obtain ⟨Bd, hBd⟩ : ∃ Bd, Bd = upd B' q (dictO P w q ks) := ⟨_, rfl⟩
    have stj : Step B H Bd H' := hBd ▸ stj0
    have hqd : Bd q = some (dictO P w q ks) := by rw [hBd, upd_same]
    have hkd : DKeys K Bd ks := dkeys_grow hk (by rw [hBd]; exact Ex.new nq)
    clear stj0 hBd nq
    have hud := isU_grow hu stj.b
    refine b_cons (for_lS (i := 6) Cs dScene (fun j σ' => ∃ z, σ' = [some u, some mv, some pv, some cv, some rv, some (.ref q), z, none]) PassesOwn.never rfl (pg_name sc_l_asked.nd rfl (.inl rfl)) stj.i (e_varD 3 rfl (dp_grow hc stj.b)) ⟨_, rfl⟩ ?_ ?_)
    · rintro j t x σ' B3 H3 ht st3 hx ⟨z', rfl⟩
      obtain ⟨ht1, ht2⟩ := hcs t (List.mem_of_getElem? ht)
      have e1 : inD n L (dScene t) = decide (t ∈ ks.map (·.1)) := by
        rw [inD_scene ht1, hks]
        exact decide_eq_decide.mpr ht2
      refine b_one (s_if (k := false) st3.i ((t_neV (u := .bl (inD n L (dScene t))) (w := .bl (decide (t ∈ ks.map (·.1)))) (e_inU UU.con (hr.mono (by decide)) (e_varD 6 rfl hx) ((e_var 0 rfl).imp fun v B1 e r => by cases r; exact isU_grow (isU_grow hud st3.b) e) hL ht1.okd) (e_inD hun (e_varD 6 rfl hx) (e_var 5 rfl) (st3.b _ _ hqd) (dkeys_grow hkd st3.b)) rfl).is (by rw [e1, decide_eq_true rfl]; rfl)) (fun h => by cases h) fun _ H4 s4 => b_nil ⟨B3, ⟨_, rfl⟩, s4⟩)
    · rintro σ' B3 H3 st3 ⟨z', rfl⟩
      have stA := stj.trans st3
      refine b_cons (s_set 7 st3.i (e_callP (R := IsD K (.list ((lawLeast M).map dScene))) GL (hr.mono (by decide)) (a_one (e_varD 1 rfl (dp_grow hm stA.b))) fun vs B1 e1 r => by
        obtain ⟨v1, vs1, rfl, r1, r3⟩ := r
        have e3 : vs1 = [] := r3
        subst e3
        exact ⟨M, v1, rfl, r1, hnd, hz, h8, rfl⟩) (fun v4 B4 H4 s4 r4 => ?_) sc_l_asked.nd)
      have hv4 : Dp K B4 v4 (.list (L.map dScene)) := by
        rw [← hleast]
        exact r4 B4 (Ex.refl B4)
      have stB := stA.trans s4
      have hlr : lenD (dRow r) = some n := by
        show some (r.map PyData.int).length = _
        rw [List.length_map, hrn]
      have hn8 := hL.top
      refine b_one (s_retY s4.i (R := IsV (.bl (true && true))) (e_and (k1 := true) (k2 := true) (e_callP GT (hr.mono (by decide)) (a_cons (e_var 0 rfl) (a_cons (e_var 2 rfl) (a_cons (e_len U.len (e_varD 4 rfl (dp_grow hrv stB.b)) hlr (by omega)) (a_one (e_var 7 rfl))))) fun vs B5 e5 r => ?_) fun _ => e_one (e_callP GT (hr.mono (by decide)) (a_cons (e_var 0 rfl) (a_cons (e_var 2 rfl) (a_cons (e_len U.len (e_varD 4 rfl (dp_grow hrv stB.b)) hlr (by omega)) (a_one (e_var 7 rfl))))) fun vs B5 e5 r => ?_)) (y.go stB))
      · obtain ⟨v1, vs1, rfl, r1, v2, vs2, rfl, r2, v3, vs3, rfl, r3, v5, vs5, rfl, r5, r6⟩ := r
        have e6 : vs5 = [] := r6
        cases r1
        cases r2
        cases r3
        cases r5
        subst e6
        exact ⟨n, L, ps, u, pv, v4, rfl, isU_grow (isU_grow hu stB.b) e5, hL, dp_grow (dp_grow hp stB.b) e5, dp_grow hv4 e5, rfl⟩
      · obtain ⟨v1, vs1, rfl, r1, v2, vs2, rfl, r2, v3, vs3, rfl, r3, v5, vs5, rfl, r5, r6⟩ := r
        have e6 : vs5 = [] := r6
        cases r1
        cases r2
        cases r3
        cases r5
        subst e6
        exact ⟨n, L, ps, u, pv, v4, rfl, isU_grow (isU_grow hu stB.b) e5, hL, dp_grow (dp_grow hp stB.b) e5, dp_grow hv4 e5, rfl⟩
end
end K8

/-! _law_compared. -/
namespace K8
open PySem PySem.Spec PyProof.Rows L2 Evl
theorem first_of (L : List Scene) (p : Scene → Bool) : ((L.filter p).map dScene ++ [PyData.none])[0]? = some (match L.find? p with | some s => dScene s | none => .none) := by
  induction L with
  | nil => rfl
  | cons a L ih =>
    by_cases h : p a = true
    · rw [List.filter_cons_of_pos h, List.find?_cons_of_pos h]
      rfl
    · rw [List.filter_cons_of_neg h, List.find?_cons_of_neg h]
      exact ih
theorem eqv_sets (L M : List Scene) : PyData.eqv (.list (L.map dScene)) (.list (M.map dScene)) = decide (L = M) := by
  show PyData.eqvAll _ _ = _
  rw [eqvAll_map dScene eqv_scene]
section
variable {X : Cx} {σ : Slots} {B B' H H' : Hp} {R R' Ra Rb : Rel} {e a b c l o : Expr} {es rest : List Expr} {pos p pos2 apos cpos : Pos} {x y z v : V} {D : Ends} {ds : List PyData} {body : List Stmt}
/-- the length of a list whose items are not data -/
theorem e_lenL {xs : List V} {lx : Addr} (hm : X.mg "len" = none) (he : EvE X e σ B (IsV (.ref lx))) (hl : B lx = some (.lst xs)) (hg : Gl X "len" := by rfl) (hs : starEach [e] X.env = (false, eval e X.env) :: starEach [] X.env := by rfl) (hpl : (backTo pos (starEach [] X.env)).any (·.1) = false := by rfl) : EvE X (.Call (.Name "len" p) [e] [] pos) σ B (IsV (.int (xs.length : Int))) :=
  e_callB (R := IsV (.int (xs.length : Int))) call_len_seq hm PySem.boot_len (a_one he hs) (fun vs B1 e1 r H1 i1 Q q => by
    obtain ⟨v1, vs1, rfl, r1, r3⟩ := r
    have e3 : vs1 = [] := r3
    subst e3
    cases r1
    exact ⟨lx, xs, rfl, .inl (sq_of (i1 _ _ (e1 _ _ hl))), q.val i1⟩) hg (he := hs) (hpl := hpl)
end
section
variable {P : Program} {w : World} {K : PySem.W.Frag} {mg : Str → Option Value} {base : Heap} {C CE : Addr}
abbrev Two := List Scene × List Scene
def IsUs (K : PySem.W.Frag) (C : Addr) (n : Nat) (T : List Two) : Rel := fun v B => ∃ p us, v = .ref p ∧ B p = some (.lst us) ∧ us.length = T.length ∧ ∀ (k : Nat) u t, us[k]? = some u → T[k]? = some t → IsU K C n t.1 u B
structure TwoOk (n : Nat) (t : Two) : Prop where
  good : UGood n t.1
  nd : t.2.Nodup
  few : t.2.length ≤ 10000
  ok : ∀ s ∈ t.2, ScOk n s
  least : lawLeast t.2 = t.1
def preComp (K : PySem.W.Frag) (C : Addr) : List V → Hp → Rel → Prop := fun vs B R => ∃ (n : Nat) (T : List Two) (uv sv : V), vs = [uv, sv, .int (n : Int)] ∧ T.length ≤ 10 ∧ IsUs K C n T uv B ∧ Dp K B sv (.list ((T.map fun t : Two => t.2).map fun (M : List Scene) => PyData.list (M.map dScene))) ∧ (∀ t ∈ T, TwoOk n t) ∧ (∀ t ∈ T, ∀ t' ∈ T, t.1 = t'.1 → t.2 = t'.2) ∧ R = IsV (.bl true)
abbrev D_compared (P : Program) (w : World) (K : PySem.W.Frag) (mg : Str → Option Value) (base : Heap) (C : Addr) : Prop := Dfn P w K mg base CX0 7 "_law_compared" ["_law_upsets", "_law_sets", "_law_width"] (Pure (preComp K C))
theorem isUs_grow {n : Nat} {T : List Two} {v : V} {B B' : Hp} (h : IsUs K C n T v B) (e : Ex B B') : IsUs K C n T v B' := by
  obtain ⟨p, us, h1, h2, h3, h4⟩ := h
  exact ⟨p, us, h1, e _ _ h2, h3, fun k u t a b => isU_grow (h4 k u t a b) e⟩
theorem ok_compared {f : Addr} {fd : FuncData} (U : Bi mg) (UU : UM P w K mg base C CE) (GL : D_least P w K mg base) (GY : D_says P w K mg base) (GC : D_covered P w K mg base) (GS : D_l_is_scene P w K mg base) (F : Fun K "_law_compared" "_law_compared" s_l_compared f fd) : FnOk P w K mg base CX0 7 f fd ["_law_upsets", "_law_sets", "_law_width"] (Pure (preComp K C)) := by
  refine pure_ok F sc_l_compared (fun vs H R ⟨_, _, _, _, hv, _⟩ => by rw [hv]; rfl) fun cdv A outer s0 B H vs Q E R hr e0 h y => ?_
  obtain ⟨n, T, uv, sv, rfl, hT, huv, hsv, hok, hinj, rfl⟩ := h
  have hun : (cxOf CX0 P w K mg base N_l_compared "_law_compared" (defScope s_l_compared) f cdv A outer s0 H E).nox.A.units + 64 < cLine := hr.units
  obtain ⟨pu, us, rfl, hpu, hlen, hus⟩ := huv
  refine b_cons (s_setN 3 e0 (n_lc (α := List Scene) (own := [("_law_one", 4)]) (j := 4) (T.map fun t : Two => t.2) (fun (M : List Scene) => PyData.list (M.map dScene)) (fun (M : List Scene) => PyData.list ((lawLeast M).map dScene)) sc_l_compared.nd (by rw [List.length_map]; omega) (e_varD 1 rfl hsv) rfl (fun M hM σ2 B2 e2 t s2 H0 C cl fp => ?_)) (fun q B1 H1 m0 m1 s1 r1 => ?_) sc_l_compared.nd)
  · obtain ⟨v1, rfl, h1⟩ := t
    have h1 : Dp K B2 v1 (.list (M.map dScene)) := h1
    obtain ⟨t, ht, rfl⟩ := List.mem_map.mp hM
    have g := hok t ht
    exact e_callP GL (hr.mono (by decide)) (a_one (e_varD 4 rfl h1)) fun vs B1 e1 r => by
      obtain ⟨v1, vs1, rfl, r1, r3⟩ := r
      have e3 : vs1 = [] := r3
      subst e3
      exact ⟨t.2, v1, rfl, r1, g.nd, g.few, fun s hs => by rw [(g.ok s hs).row.len]; exact g.good.top, rfl⟩
  · obtain ⟨vs1, hv1, r1'⟩ := r1
    have sj0 := s1.join m1 m0 hv1
    obtain ⟨B2, hB2⟩ : ∃ B2, B2 = upd B1 q (.lst vs1) := ⟨_, rfl⟩
    rw [← hB2] at sj0
    have hleasts : Dp K B2 (.ref q) (.list (T.map fun t => .list (t.1.map dScene))) := by
      refine .lst (sq_of (by rw [hB2, upd_same])) ?_
      have := r1' B2 (by rw [hB2]; exact Ex.new m1)
      rw [List.map_map] at this
      have e : (T.map fun t => PyData.list (t.1.map dScene)) = T.map ((fun M => PyData.list ((lawLeast M).map dScene)) ∘ fun t : Two => t.2) := List.map_congr_left fun t ht => by
        show _ = PyData.list ((lawLeast t.2).map dScene)
        rw [(hok t ht).least]
      rw [e]
      exact this
    have hpu2 := sj0.b _ _ hpu
    have hus2 : ∀ (k : Nat) u t, us[k]? = some u → T[k]? = some t → IsU K C n t.1 u B2 := fun k u t h1 h2 => isU_grow (hus k u t h1 h2) sj0.b
    have hsv2 := dp_grow hsv sj0.b
    have atU : ∀ {k : Nat} {t : Two}, T[k]? = some t → ∃ u, atI us (k : Int) = some u ∧ IsU K C n t.1 u B2 := fun {k t} h => by
      have hk := (List.getElem?_eq_some_iff.mp h).1
      have h1 : us[k]? = some us[k] := List.getElem?_eq_getElem (by omega)
      exact ⟨us[k], atI_nat h1, hus2 k _ t h1 h⟩
    have atS : ∀ {k : Nat} {t : Two}, T[k]? = some t → atI ((T.map fun t : Two => t.2).map fun (M : List Scene) => PyData.list (M.map dScene)) (k : Int) = some (.list (t.2.map dScene)) := fun {k t} h => atI_nat (by rw [List.getElem?_map, List.getElem?_map, h]; rfl)
    have atL : ∀ {k : Nat} {t : Two}, T[k]? = some t → atI (T.map fun t => PyData.list (t.1.map dScene)) (k : Int) = some (.list (t.1.map dScene)) := fun {k t} h => atI_nat (by rw [List.getElem?_map, h]; rfl)
    refine b_cons (for_rS (i := 5) (fun k σ' => ∃ z5 z6 z7 z9, σ' = [some (.ref pu), some sv, some (.int (n : Int)), some (.ref q), none, z5, z6, z7, none, z9]) PassesOwn.never rfl (pg_name sc_l_compared.nd rfl (.inl rfl)) U.range sj0.i (e_lenL U.len (e_var 0 rfl) hpu2) (by omega) ⟨_, _, _, _, rfl⟩ ?_ ?_)
    · rintro k σ' B3 H3 hk st3 ⟨z5, z6, z7, z9, rfl⟩
      have hkT : k < T.length := by omega
      have hTk : T[k]? = some T[k] := List.getElem?_eq_getElem hkT
      obtain ⟨tk, htk⟩ : ∃ tk, T[k]? = some tk := ⟨_, hTk⟩
      clear hTk
      have gk := hok tk (List.mem_of_getElem? htk)
      obtain ⟨uk, huk, hIk⟩ := atU htk
      have hpu3 := st3.b _ _ hpu2
      refine b_cons (s_if (k := false) st3.i ((t_not (t_bl (e_callP (R := IsV (.bl true)) GY (hr.mono (by decide)) (a_cons (R := IsV (.bl false)) (e_eqT (ds := []) UU (hr.mono (by decide)) ((e_ixB (e_var 0 rfl) (e_var 5 rfl) hpu3 huk).imp fun v B1 e r => by cases r; exact isU_grow (isU_grow hIk st3.b) e) (EvP.imp (e_tup (RA := ACons (IsV (.int (n : Int))) ANil) (a_one (e_var 2 rfl)) fun vs B1 r => ?_) fun v B1 _ ⟨p, vs, h1, h2, _⟩ => ⟨p, vs, h1, h2⟩) gk.good) (a_one (e_bl (k := false)))) fun vs B1 e1 r => ?_))).is rfl) (fun h => by cases h) fun _ H4 s4 => b_nil ?_)
      · obtain ⟨x1, y1, rfl, _, h5⟩ := r
        rw [show y1 = [] from h5]
        show 1 ≤ 100000
        decide
      · obtain ⟨v1, vs1, rfl, r1, v2, vs2, rfl, r2, r3⟩ := r
        have e3 : vs2 = [] := r3
        cases r1
        cases r2
        subst e3
        exact ⟨false, rfl, rfl⟩
      refine b_one (for_rS (i := 6) (fun j σ' => ∃ z6 z7 z9, σ' = [some (.ref pu), some sv, some (.int (n : Int)), some (.ref q), none, some (.int (k : Int)), z6, z7, none, z9]) PassesOwn.never rfl (pg_name sc_l_compared.nd rfl (.inr rfl)) U.range s4.i (e_lenL U.len (e_var 0 rfl) hpu3) (by omega) ⟨_, _, _, rfl⟩ ?_ ?_)
      · rintro j σ' B5 H5 hj st5 ⟨z6', z7', z9', rfl⟩
        have hjT : j < T.length := by omega
        obtain ⟨tj, htj⟩ : ∃ tj, T[j]? = some tj := ⟨_, List.getElem?_eq_getElem hjT⟩
        have gj := hok tj (List.mem_of_getElem? htj)
        obtain ⟨uj, huj, hIj⟩ := atU htj
        have x25 : Ex B2 B5 := st3.b.trans (st5.b)
        have hpu5 := x25 _ _ hpu2
        have hIk5 := isU_grow hIk x25
        have hIj5 := isU_grow hIj x25
        have hsv5 := dp_grow hsv2 x25
        have hl5 := dp_grow hleasts x25
        have hlayk : SeqAt.shaped (.list (tk.2.map dScene)) = true := (lay_lst (k := 3) fun d hd => by obtain ⟨s, hs, rfl⟩ := List.mem_map.mp hd; exact (gk.ok s hs).lay).sh
        have hlayj : SeqAt.shaped (.list (tj.2.map dScene)) = true := (lay_lst (k := 3) fun d hd => by obtain ⟨s, hs, rfl⟩ := List.mem_map.mp hd; exact (gj.ok s hs).lay).sh
        have hdec : (decide (n = n) && decide (tk.1 = tj.1)) = PyData.eqv (.list (tk.2.map dScene)) (.list (tj.2.map dScene)) := by
          rw [eqv_sets, decide_eq_true (rfl : n = n), Bool.true_and]
          refine decide_eq_decide.mpr ⟨fun h => hinj tk (List.mem_of_getElem? htk) tj (List.mem_of_getElem? htj) h, fun h => ?_⟩
          rw [← gk.least, ← gj.least, h]
        refine b_cons (s_if (k := false) st5.i ((t_not (t_bl (e_callP (R := IsV (.bl true)) GY (hr.mono (by decide)) (a_cons (R := IsV (.bl (PyData.eqv (.list (tk.2.map dScene)) (.list (tj.2.map dScene))))) (EvP.imp (e_eqU UU (hr.mono (by decide)) ((e_ixB (e_var 0 rfl) (e_var 5 rfl) hpu5 huk).imp fun v B1 e r => by cases r; exact isU_grow hIk5 e) ((e_ixB (e_var 0 rfl) (e_var 6 rfl) hpu5 huj).imp fun v B1 e r => by cases r; exact isU_grow hIj5 e) gk.good gj.good) fun v B1 _ r => by rw [← hdec]; exact r) (a_one (e_eqD hun (e_ixL (d := .list (tk.2.map dScene)) (e_varD 1 rfl hsv5) (e_var 5 rfl) (atS htk)) (e_ixL (d := .list (tj.2.map dScene)) (e_varD 1 rfl hsv5) (e_var 6 rfl) (atS htj)) hlayk hlayj))) fun vs B1 e1 r => ?_))).is rfl) (fun h => by cases h) fun _ H6 s6 => b_nil ?_)
        · obtain ⟨v1, vs1, rfl, r1, v2, vs2, rfl, r2, r3⟩ := r
          have e3 : vs2 = [] := r3
          cases r1
          cases r2
          subst e3
          exact ⟨_, rfl, rfl⟩
        have hmd : (match tk.1.find? fun s => !decide (Up tj.1 s) with | some s => dScene s | none => PyData.none) = missD tk.1 tj.1 := rfl
        have hfk := gk.good.few
        refine b_cons (s_set 7 s6.i (e_ixL (ds := (tk.1.filter fun s => !decide (Up tj.1 s)).map dScene ++ [.none]) (d := missD tk.1 tj.1) (EvP.tlD (e_catL (ds := (tk.1.filter fun s => !decide (Up tj.1 s)).map dScene) (es' := [.none]) (EvN.dl (n_lcIf (own := [("_law_scene_here", 8)]) (j := 8) tk.1 dScene (fun s => !decide (Up tj.1 s)) dScene sc_l_compared.nd (by omega) (e_ixL (d := .list (tk.1.map dScene)) (e_varD 3 rfl hl5) (e_var 5 rfl) (atL htk)) rfl (fun a ha σ2 B7 e7 tt s1' H0 C cl fp => ?_) fun a ha hk' σ2 B7 e7 tt s1' H0 C cl fp => ?_)) (e_lstT (ad_cons (EvP.nonD e_non) ad_nil) (by show 1 ≤ 100000; decide)) ?_)) e_int ?_) (fun v7 B7 H7 s7 r7 => ?_) sc_l_compared.nd)
        · obtain ⟨v1, rfl, h1⟩ := tt
          have h1 : Dp K B7 v1 (dScene a) := h1
          have ga := gk.good.all a ha
          exact t_not (t_bl (e_callP (R := IsV (.bl (decide (Up tj.1 a)))) GC (hr.mono (by decide)) (a_cons (e_varD 8 rfl h1) (a_one (e_ixL (d := .list (tj.1.map dScene)) (e_varD 3 rfl (dp_grow hl5 e7)) (e_var 6 rfl) (atL htj)))) fun vs B1 e1 r => by
            obtain ⟨v1, vs1, rfl, r1, v2, vs2, rfl, r2, r3⟩ := r
            have e3 : vs2 = [] := r3
            subst e3
            have hfj := gj.good.few
            exact ⟨n, a, tj.1, v1, v2, rfl, r1, r2, gk.good.top, ga.row.len, fun t ht => ⟨(gj.good.all t ht).row.len, nameB_ok (gj.good.all t ht).name⟩, by omega, rfl⟩))
        · obtain ⟨v1, rfl, h1⟩ := tt
          exact e_varD 8 rfl h1
        · rw [List.length_map]
          have := List.length_filter_le (fun s => !decide (Up tj.1 s)) tk.1
          show _ + 1 ≤ 100000
          omega
        · rw [← hmd]
          exact atI_nat (j := 0) (first_of _ _)
        have hd7 : Dp K B7 v7 (missD tk.1 tj.1) := r7 B7 (Ex.refl B7)
        refine b_cons (s_set 9 s7.i (e_fm UU (hr.mono (by decide)) ((e_ixB (e_var 0 rfl) (e_var 5 rfl) (s7.b _ _ hpu5) huk).imp fun v B1 e r => by cases r; exact isU_grow (isU_grow hIk5 s7.b) e) ((e_ixB (e_var 0 rfl) (e_var 6 rfl) (s7.b _ _ hpu5) huj).imp fun v B1 e r => by cases r; exact isU_grow (isU_grow hIj5 s7.b) e) gk.good gj.good) (fun v9 B9 H9 s9 r9 => ?_) sc_l_compared.nd)
        have hd9 : Dp K B9 v9 (missD tk.1 tj.1) := r9 B9 (Ex.refl B9)
        have hd79 := dp_grow hd7 s9.b
        have stf := (s6.trans s7).trans s9
        refine b_cons (s_if (k := false) s9.i ((w_and (t_isN (e_varD 7 rfl hd79)) fun _ => w_and1 (t_notN (e_varD 9 rfl hd9))).t.is (by cases nonB (missD tk.1 tj.1) <;> rfl)) (fun h => by cases h) fun _ H10 s10 => b_nil ?_)
        have stg := stf.trans s10
        have hcase : missD tk.1 tj.1 = .none ∨ ∃ s ∈ tk.1, missD tk.1 tj.1 = dScene s := by
          unfold missD missS
          cases hq : tk.1.find? fun s => !decide (Up tj.1 s) with
          | none => exact .inl rfl
          | some s => exact .inr ⟨s, List.mem_of_find?_eq_some hq, rfl⟩
        rcases hcase with hcase | ⟨s, hs, hcase⟩
        · rw [hcase] at hd79 hd9
          refine b_one (s_if (k := false) s10.i ((w_and (k1 := false) (k2 := false) ((t_notN (e_varD 7 rfl hd79)).is rfl) fun h => by cases h).t.is rfl) (fun h => by cases h) fun _ H11 s11 => b_nil ⟨B9, ⟨_, _, _, rfl⟩, stg.trans s11⟩)
        · rw [hcase] at hd79 hd9
          have gs := gk.good.all s hs
          refine b_one (s_if (k := false) s10.i ((w_and (k1 := true) (k2 := false) ((t_notN (e_varD 7 rfl hd79)).is rfl) fun _ => w_and1 ((w_or (k1 := false) (k2 := false) ((t_not (t_bl (e_callP (R := IsV (.bl true)) GS (hr.mono (by decide)) (a_cons (e_varD 9 rfl hd9) (a_one (e_var 2 rfl))) fun vs B1 e1 r => ?_))).is rfl) fun _ => w_or1 ((t_neD hun (e_varD 9 rfl hd9) (e_varD 7 rfl hd79) gs.lay.sh gs.lay.sh).is (by rw [eqv_scene, decide_eq_true rfl]; rfl))).t.is rfl)).t.is rfl) (fun h => by cases h) fun _ H11 s11 => b_nil ⟨B9, ⟨_, _, _, rfl⟩, stg.trans s11⟩)
          obtain ⟨v1, vs1, rfl, r1, v2, vs2, rfl, r2, r3⟩ := r
          have e3 : vs2 = [] := r3
          cases r2
          subst e3
          exact ⟨n, s, v1, rfl, r1, gs.row, rfl⟩
      · rintro σ' B5 H5 st5 ⟨z6', z7', z9', rfl⟩
        exact ⟨B5, ⟨_, _, _, _, rfl⟩, s4.trans st5⟩
    · rintro σ' B3 H3 st3 ⟨z5, z6, z7, z9, rfl⟩
      exact b_one (s_retB st3.i ((y.go sj0).go st3) rfl)
end
end K8

/-! (0,) * n; _law_empty. -/
namespace K8
open PySem PySem.Spec PyProof.Rows L2 Evl
theorem tuple_mul1 (l : Addr) (items : Array Value) (n : Nat) (dd : Option Addr) (sl : Array (Option Value)) (u : Tok) :
    Meets (Builtin.«tuple.__mul__» ⟨[.ref l, .int 1 u], []⟩) (fun _ R s => s.heap.get? l = some { cls := .type "tuple", dict := dd, data := .seq items n, slots := sl } ∧
      R (.ok (.ret (Value.ref l))) s) :=
  .of_wp fun prog w A R ⟨hp, g, d, tk, os⟩ ⟨hl, h⟩ => by
    have f1 := AutoSeq1.idx_int
    (wp_walk using wpAny_loadPart' hl); exact ⟨_, rfl, h⟩
def rRep1 (K : PySem.W.Frag) : R2 := fun x y H Q => ∃ l xs, x = .ref l ∧ y = .int 1 ∧ SqT K H l xs ∧ Q (.ref l) H
section
variable {X : Cx} {σ : Slots} {B B' H H' : Hp} {R R' Ra Rb : Rel} {e a b c l o : Expr} {es rest : List Expr} {pos p pos2 apos cpos : Pos} {x y z v : V} {D : Ends} {ds : List PyData} {body : List Stmt}
theorem op_rep1 : OpR X (binaryOp .Mult) (rRep1 X.K) := by
  intro pins s σ H; intro x y v u Q I rx ry h
  obtain ⟨l, xs, rfl, rfl, hT, q⟩ := h
  cases rx
  obtain ⟨t, rfl⟩ := ry
  rcases I.tuple hT with ⟨its, r, ⟨⟨cls, dd, data, sl⟩, ho, hc, n, hd⟩, hs⟩
  simp only at hc hd
  subst hc hd
  exact wpAny_binaryOp_repeat_ref (T := "tuple") (U := "int") (by decide) ⟨_, ho, rfl⟩ (fun s' => typeIs_int s' 1 t) noFill_tuple_mul F.fills_int_mul F.slot_int_rmul repeat_tuple F.slot_int_index.lookup
    (call_meets F.slot_int_rmul (typeIs_int s 1 t) F.entry_int_rmul (F.args_int_rmul_2 _ _) (int_rmul_tuple 1 t l its.toArray n dd sl)
      ⟨ho, rfl, ⟨_, ho, rfl⟩, call_meets F.slot_tuple_mul ⟨_, ho, rfl⟩ F.entry_tuple_mul (F.args_tuple_mul_2 _ _) (tuple_mul1 l its.toArray n dd sl t) ⟨ho, .ref l, H, I, rfl, q⟩⟩)
theorem rep_zero {K : PySem.W.Frag} {H : Hp} : ∀ n : Nat, DpAll K H (List.replicate n [V.int 0]).flatten ((List.replicate n (0 : Int)).map .int)
  | 0 => .nil
  | n + 1 => by
    rw [List.replicate_succ, List.replicate_succ, List.flatten_cons, List.map_cons]
    exact .cons (.int 0) (rep_zero n)
/-- (0,) * n -/
theorem e_zeros {n : Nat} (h1 : 1 ≤ n) (h8 : n ≤ 8) (ha : EvE X a σ B (IsD X.K (dRow [0]))) (hb : EvE X b σ B (IsV (.int (n : Int)))) : EvE X (.BinOp a .Mult b pos) σ B (IsD X.K (dRow (List.replicate n 0))) := by
  by_cases h : n = 1
  · subst h
    exact e_op op_rep1 ha hb fun x y B1 _ r1 r2 H1 i1 Q q => by
      cases r2
      cases r1 with
      | tup g1 g2 => exact ⟨_, _, rfl, rfl, ex_t i1 g1, q.at i1 (isD_stable (.tup g1 g2))⟩
  · exact e_op op_repT ha hb fun x y B1 _ r1 r2 H1 i1 Q q => by
      cases r2
      cases r1 with
      | tup g1 g2 =>
        cases g2 with
        | cons k1 k2 =>
          cases k2
          cases k1
          refine ⟨_, _, _, rfl, rfl, ex_t i1 g1, by simp, by omega, by omega, by decide, fun p hp => q _ _ _ (Step.new i1 hp) (isD_stable (.tup (st_of upd_same) ?_))⟩
          rw [Int.toNat_natCast]
          exact rep_zero n
end
theorem keptF_nil {n : Nat} (h1 : 1 ≤ n) : keptF [] = [] := by
  have h : ScenesOk n [] := ⟨h1, by decide, fun _ h => absurd h (by simp)⟩
  exact List.eq_nil_iff_forall_not_mem.mpr fun s hs => absurd ((keptF_ok h).sub s hs) (by simp)
theorem uGood_nil {n : Nat} (h1 : 1 ≤ n) (h8 : n ≤ 8) : UGood n [] := ⟨h1, h8, by decide, fun _ h => absurd h (by simp)⟩
section
variable {P : Program} {w : World} {K : PySem.W.Frag} {mg : Str → Option Value} {base : Heap} {C CE : Addr}
def preEmpty (K : PySem.W.Frag) : List V → Hp → Rel → Prop := fun vs B R => ∃ (n : Nat) (ps : List Str) (pv : V), vs = [pv, .int (n : Int)] ∧ 1 ≤ n ∧ n ≤ 8 ∧ Dp K B pv (.list (ps.map .str)) ∧ (∃ p rest, ps = p :: rest ∧ nameB p = true) ∧ R = IsV (.bl true)
abbrev D_empty (P : Program) (w : World) (K : PySem.W.Frag) (mg : Str → Option Value) (base : Heap) : Prop := Dfn P w K mg base CX0 8 "_law_empty" ["_law_posts_here", "_law_width"] (Pure (preEmpty K))
theorem zero_sc {n : Nat} {p : Str} (h1 : 1 ≤ n) (h8 : n ≤ 8) (hp : nameB p = true) : ScOk n (p, List.replicate n 0) := by
  refine ⟨hp, ⟨by rw [List.length_replicate], h1, h8, fun x hx => ?_⟩, fun x hx => ?_⟩
  · rw [(List.mem_replicate.mp hx).2]
    decide
  · rw [(List.mem_replicate.mp hx).2]
    exact ⟨by decide, by decide⟩
theorem ok_empty {f : Addr} {fd : FuncData} (U : Bi mg) (UU : UM P w K mg base C CE) (GL : D_lists P w K mg base C) (GY : D_says P w K mg base) (F : Fun K "_law_empty" "_law_empty" s_l_empty f fd) : FnOk P w K mg base CX0 8 f fd ["_law_posts_here", "_law_width"] (Pure (preEmpty K)) := by
  refine pure_ok F sc_l_empty (fun vs H R ⟨_, _, _, hv, _⟩ => by rw [hv]; rfl) fun cdv A outer s0 B H vs Q E R hr e0 h y => ?_
  obtain ⟨n, ps, pv, rfl, h1, h8, hp, ⟨p0, rest, rfl, hp0⟩, rfl⟩ := h
  have hk := keptF_nil h1
  have hg := uGood_nil h1 h8
  refine b_cons (s_set 2 e0 (e_nothing UU.un (hr.mono (by decide)) h1 h8 (e_var 1 rfl)) (fun v1 B1 H1 s1 r1 => ?_) sc_l_empty.nd)
  have hu : IsU K C n [] v1 B1 := by
    have := r1 B1 (Ex.refl B1)
    rw [hk] at this
    exact this
  have hp1 := dp_grow hp s1.b
  have eD : inD n [] (dScene (p0, List.replicate n 0)) = false := by
    rw [inD_scene (zero_sc h1 h8 hp0)]
    exact decide_eq_false fun ⟨b, hb, _⟩ => absurd hb (by simp)
  refine b_cons (s_if (k := false) s1.i ((w_or (k1 := false) (k2 := false) ((t_not (t_bl (e_callP (R := IsV (.bl true)) GL (hr.mono (by decide)) (a_cons (e_var 2 rfl) (a_cons (e_var 0 rfl) (a_cons (e_var 1 rfl) (a_one (e_lstD (K := K) (ds := []) ad_nil (by decide)))))) fun vs B2 e2 r => ?_))).is rfl) fun _ => w_or1 ((t_inU UU.con (hr.mono (by decide)) (e_tupD (ds := [.str p0, dRow (List.replicate n 0)]) (ad_cons (e_ixL (ds := (p0 :: rest).map .str) (d := .str p0) (e_varD 0 rfl hp1) e_int (atI_nat (j := 0) rfl)) (ad_cons (e_zeros h1 h8 (e_tupD (ds := [.int 0]) (ad_cons (EvP.intD e_int) ad_nil) (by show 1 ≤ 100000; decide)) (e_var 1 rfl)) ad_nil)) (by show 2 ≤ 100000; decide)) ((e_var 2 rfl).imp fun v B1 e r => by cases r; exact isU_grow hu e) hg (zero_sc h1 h8 hp0).okd).is eD)).t.is rfl) (fun h => by cases h) fun _ H2 s2 => b_nil ?_)
  · obtain ⟨v1, vs1, rfl, r1, v2, vs2, rfl, r2, v3, vs3, rfl, r3, v4, vs4, rfl, r4, r5⟩ := r
    have e5 : vs4 = [] := r5
    cases r1
    cases r2
    cases r3
    subst e5
    exact ⟨n, [], p0 :: rest, _, _, v4, rfl, isU_grow hu e2, hg, dp_grow hp1 e2, r4, rfl⟩
  have eT : (true : Bool) = (decide (n = n) && decide (([] : List Scene) = [])) := by simp
  refine b_cons (s_if (k := false) s2.i ((w_or (k1 := false) (k2 := false) ((t_not (t_bl (e_callP (R := IsV (.bl true)) GY (hr.mono (by decide)) (a_cons (R := IsV (.bl true)) (EvP.imp (e_eqU (L := []) (M := []) UU (hr.mono (by decide)) ((e_var 2 rfl).imp fun v B1 e r => by cases r; exact isU_grow hu e) (EvP.imp (e_makeU (L := []) UU.mku (hr.mono (by decide)) hg (e_var 1 rfl) (e_lstD (ds := []) ad_nil (by decide))) fun v B1 _ r => by rw [hk] at r; exact r) hg hg) fun v B1 _ r => by rw [eT]; exact r) (a_one (e_bl (k := true)))) fun vs B1 e1 r => ?_))).is rfl) fun _ => w_or1 ((t_not (t_bl (e_isU (k := true) UU.ui U.isinstance ((e_var 2 rfl).imp fun v B1 e r => by cases r; exact isU_grow hu e) fun v B1 r => .inl ⟨rfl, by obtain ⟨x, dx, kv, h1, h2, _⟩ := r; exact ⟨x, dx, _, h1, h2⟩⟩))).is rfl)).t.is rfl) (fun h => by cases h) fun _ H3 s3 => b_nil ?_)
  · obtain ⟨v1, vs1, rfl, r1, v2, vs2, rfl, r2, r3⟩ := r
    have e3 : vs2 = [] := r3
    cases r1
    cases r2
    subst e3
    exact ⟨true, rfl, rfl⟩
  obtain ⟨m, hm⟩ : ∃ m : Nat, (m : Int) = 1 + ((n : Int) + 1) % 8 := ⟨(1 + ((n : Int) + 1) % 8).toNat, by omega⟩
  have hm1 : 1 ≤ m := by omega
  have hm8 : m ≤ 8 := by omega
  have hne : n ≠ m := by omega
  have eF : (false : Bool) = (decide (n = m) && decide (([] : List Scene) = [])) := by
    rw [decide_eq_false hne]
    rfl
  have hgm := uGood_nil hm1 hm8
  have hkm := keptF_nil hm1
  refine b_one (s_retY s3.i (R := IsV (.bl (true && true))) (e_and (k1 := true) (k2 := true) (e_callP (R := IsV (.bl true)) GY (hr.mono (by decide)) (a_cons (R := IsV (.bl false)) (EvP.imp (e_eqU (L := []) (M := []) (m := m) UU (hr.mono (by decide)) ((e_var 2 rfl).imp fun v B1 e r => by cases r; exact isU_grow hu e) (EvP.imp (e_nothing (n := m) UU.un (hr.mono (by decide)) hm1 hm8 ?_) fun v B1 _ r => by rw [hkm] at r; exact r) hg hgm) fun v B1 _ r => by rw [eF]; exact r) (a_one (e_bl (k := false)))) fun vs B1 e1 r => ?_) fun _ => e_one (EvP.imp (e_isN (d := missD [] []) (e_fm (L := []) (M := []) UU (hr.mono (by decide)) ((e_var 2 rfl).imp fun v B1 e r => by cases r; exact isU_grow hu e) ((e_var 2 rfl).imp fun v B1 e r => by cases r; exact isU_grow hu e) hg hg)) fun v B1 _ r => r)) (y.go ((s1.trans s2).trans s3)))
  · rw [hm]
    exact e_addI e_int (e_modI (e_intI U.int (e_addI (e_var 1 rfl) e_int)) e_int (by decide))
  · obtain ⟨v1, vs1, rfl, r1, v2, vs2, rfl, r2, r3⟩ := r
    have e3 : vs2 = [] := r3
    cases r1
    cases r2
    subst e3
    exact ⟨false, rfl, rfl⟩
end
end K8

/-! What repr gives of the data that the law hands over. -/
namespace K8
open PySem PySem.Spec PyProof.Rows L2 Evl
/-! ### its signs are signs -/
def ChOk (s : Str) : Prop := ∀ c ∈ cpl s, c < 0x110000
theorem chOk_str {s : Str} (h : ChOk s) : PyData.strOk s = true := by
  unfold PyData.strOk
  refine Array.all_eq_true_iff_forall_mem.mpr fun c hc => ?_
  exact decide_eq_true (h c (Array.mem_toList_iff.mpr hc))
theorem str_chOk {s : Str} (h : PyData.strOk s = true) : ChOk s := fun c hc => by
  have := (Array.all_eq_true_iff_forall_mem.mp h) c (Array.mem_toList_iff.mp hc)
  simpa using this
theorem chOk_append {a b : Str} (h : ChOk a) (k : ChOk b) : ChOk (a ++ b) := fun c hc => by
  rw [cpl_append] at hc
  rcases List.mem_append.1 hc with hc | hc
  · exact h c hc
  · exact k c hc
theorem chOk_of (s : String) : ChOk (Str.ofString s) := fun c hc => by
  have e : cpl (Str.ofString s) = s.toList.map Char.toNat := by
    unfold cpl
    rw [Str.ofString_eq_toList]
  rw [e] at hc
  obtain ⟨ch, _, rfl⟩ := List.mem_map.mp hc
  have := ch.valid
  rcases this with h | ⟨_, h⟩
  · show ch.val.toNat < _
    exact Nat.lt_trans h (by decide)
  · exact h
theorem char_lt (ch : Char) : ch.toNat < 0x110000 := by
  rcases ch.valid with h | ⟨_, h⟩
  · exact Nat.lt_trans h (by decide)
  · exact h
theorem reprChar_ok (q c : Nat) (hc : c < 0x110000) : ∀ x ∈ Builtin.Str.reprChar q c, x < 0x110000 := fun x hx => by
  have hd : ∀ w : Nat, ∀ x ∈ List.replicate (w - ((Nat.toDigits 16 c).map Char.toNat).length) 48 ++ (Nat.toDigits 16 c).map Char.toNat, x < 0x110000 := fun w x hx => by
    rcases List.mem_append.1 hx with hx | hx
    · rw [(List.mem_replicate.mp hx).2]
      decide
    · obtain ⟨ch, _, rfl⟩ := List.mem_map.mp hx
      exact char_lt ch
  unfold Builtin.Str.reprChar at hx
  dsimp only at hx
  have two : ∀ a b : Nat, a < 0x110000 → b < 0x110000 → ∀ l : List Nat, (∀ x ∈ l, x < 0x110000) → ∀ x ∈ [a, b] ++ l, x < 0x110000 := fun a b ha hb l hl x hx => by
    simp only [List.cons_append, List.nil_append, List.mem_cons] at hx
    rcases hx with rfl | rfl | hx
    · exact ha
    · exact hb
    · exact hl x hx
  split at hx
  · exact two 92 c (by decide) hc [] (fun _ h => absurd h (by simp)) x (by simpa using hx)
  · split at hx
    · exact two 92 110 (by decide) (by decide) [] (fun _ h => absurd h (by simp)) x (by simpa using hx)
    · split at hx
      · exact two 92 114 (by decide) (by decide) [] (fun _ h => absurd h (by simp)) x (by simpa using hx)
      · split at hx
        · exact two 92 116 (by decide) (by decide) [] (fun _ h => absurd h (by simp)) x (by simpa using hx)
        · split at hx
          · rw [List.mem_singleton.mp hx]
            exact hc
          · split at hx
            · exact two _ _ (by decide) (by decide) _ (hd 2) x hx
            · split at hx
              · exact two _ _ (by decide) (by decide) _ (hd 4) x hx
              · exact two _ _ (by decide) (by decide) _ (hd 8) x hx
theorem reprText_ok {s : Str} (h : ChOk s) : ChOk (reprText s) := fun x hx => by
  have hq : reprQuote s < 0x110000 := by
    unfold reprQuote
    split <;> decide
  have hf : ∀ (l : List Nat) (acc : Array Nat), (∀ c ∈ l, c < 0x110000) → (∀ c ∈ acc, c < 0x110000) → ∀ c ∈ l.foldl (fun out c => out ++ (Builtin.Str.reprChar (reprQuote s) c).toArray) acc, c < 0x110000 := fun l => by
    induction l with
    | nil => intro acc _ h2 c hc; exact h2 c hc
    | cons a l ih =>
      intro acc h1 h2 c hc
      refine ih (acc ++ (Builtin.Str.reprChar (reprQuote s) a).toArray) (fun c hc => h1 c (List.mem_cons_of_mem _ hc)) (fun c hc => ?_) c hc
      rcases Array.mem_append.mp hc with hc | hc
      · exact h2 c hc
      · exact reprChar_ok _ a (h1 a List.mem_cons_self) c (by simpa using hc)
  unfold cpl at hx
  have hx2 := Array.mem_toList_iff.mp hx
  unfold reprText at hx2
  rw [← Array.foldl_toList] at hx2
  rcases Array.mem_push.mp hx2 with hx3 | hx3
  · exact hf _ _ h (fun c hc => by
      have : c = reprQuote s := by simpa using hc
      rw [this]
      exact hq) x hx3
  · rw [hx3]
    exact hq
theorem textFrom_ok : ∀ (ts : List Str) (k : Nat) (acc : Str), ChOk acc → (∀ t ∈ ts, ChOk t) → ChOk (textFrom k acc ts)
  | [], _, _, h, _ => h
  | t :: ts, k, acc, h, ht => by
    refine textFrom_ok ts (k + 1) _ (chOk_append (chOk_append h (chOk_of _)) (ht t List.mem_cons_self)) fun u hu => ht u (List.mem_cons_of_mem _ hu)
theorem join_ok' {sep : Str} (hs : ChOk sep) : ∀ ts : List Str, (∀ t ∈ ts, ChOk t) → ChOk (Str.join sep ts)
  | [], _ => fun c hc => by
    have : cpl (Str.join sep []) = [] := rfl
    rw [this] at hc
    cases hc
  | [t], h => h t (by simp)
  | t :: u :: ts, h => chOk_append (chOk_append (h t (by simp)) hs) (join_ok' hs (u :: ts) fun x hx => h x (List.mem_cons_of_mem _ hx))
mutual
theorem shown_ok : ∀ d : PyData, d.canLay0 = true → ChOk d.shown
  | .none, _ => chOk_of "None"
  | .bool b, _ => by cases b <;> exact chOk_of _
  | .int i, _ => chOk_of (toString i)
  | .str x, h => by
    simp only [PyData.canLay0] at h
    simp only [PyData.shown]
    exact reprText_ok (str_chOk h)
  | .list xs, h => by
    simp only [PyData.canLay0] at h
    simp only [PyData.shown]
    exact chOk_append (textFrom_ok _ _ _ (chOk_of "[") (shownAll_ok xs h)) (chOk_of "]")
  | .tuple xs, h => by
    simp only [PyData.canLay0] at h
    simp only [PyData.shown]
    exact chOk_append (chOk_append (chOk_of "(") (join_ok' (chOk_of ", ") _ (shownAll_ok xs h))) (chOk_of _)
  | .dict _, h => by simp only [PyData.canLay0] at h; exact nomatch h
theorem shownAll_ok : ∀ xs : List PyData, PyData.canLayAll0 xs = true → ∀ t ∈ PyData.shownAll xs, ChOk t
  | [], _, t, ht => by
    simp only [PyData.shownAll] at ht
    cases ht
  | x :: xs, h, t, ht => by
    simp only [PyData.canLayAll0, Bool.and_eq_true] at h
    simp only [PyData.shownAll] at ht
    rcases List.mem_cons.mp ht with e | ht
    · rw [e]
      exact shown_ok x h.1
    · exact shownAll_ok xs h.2 t ht
end
/-! ### data small enough -/
structure Nice (k w : Nat) (d : PyData) : Prop where
  lay : Lay k d
  sh : d.showable = true
  lv : d.leavesShort 40 = true
  wt : d.weight ≤ w
theorem Nice.up {j k v w : Nat} {d : PyData} (h : Nice j v d) (h1 : j ≤ k) (h2 : v ≤ w) : Nice k w d := ⟨h.lay.up h1, h.sh, h.lv, Nat.le_trans h.wt h2⟩
theorem Nice.fits {k w : Nat} {d : PyData} (h : Nice k w d) (hw : w ≤ 100000) : d.shown.length ≤ sizeLine := by
  have h1 := PyData.shown_le 40 (by decide) d h.lv
  have h2 := h.wt
  rw [sizeLine_eq]
  omega
theorem nice_all {k w : Nat} : ∀ xs : List PyData, (∀ x ∈ xs, Nice k w x) → PyData.showableAll xs = true ∧ PyData.leavesShortAll 40 xs = true ∧ PyData.weightAll xs ≤ xs.length * (w + 1)
  | [], _ => ⟨rfl, rfl, Nat.zero_le _⟩
  | x :: xs, h => by
    obtain ⟨h1, h2, h3⟩ := nice_all xs fun y hy => h y (List.mem_cons_of_mem _ hy)
    have g := h x List.mem_cons_self
    refine ⟨by simp only [PyData.showableAll, h1, g.sh, Bool.and_self], by simp only [PyData.leavesShortAll, h2, g.lv, Bool.and_self], ?_⟩
    simp only [PyData.weightAll, List.length_cons, Nat.add_mul]
    have := g.wt
    omega
theorem nice_tup {k w m : Nat} {xs : List PyData} (h : ∀ x ∈ xs, Nice k w x) (hm : xs.length * (w + 1) ≤ m) : Nice (k + 1) m (.tuple xs) := by
  obtain ⟨h1, h2, h3⟩ := nice_all xs h
  exact ⟨lay_tup fun x hx => (h x hx).lay, by simpa only [PyData.showable] using h1, by simpa only [PyData.leavesShort] using h2, by simp only [PyData.weight]; omega⟩
theorem nice_lst {k w m : Nat} {xs : List PyData} (h : ∀ x ∈ xs, Nice k w x) (hm : xs.length * (w + 1) ≤ m) : Nice (k + 1) m (.list xs) := by
  obtain ⟨h1, h2, h3⟩ := nice_all xs h
  exact ⟨lay_lst fun x hx => (h x hx).lay, by simpa only [PyData.showable] using h1, by simpa only [PyData.leavesShort] using h2, by simp only [PyData.weight]; omega⟩
theorem nice_none : Nice 1 110 .none := ⟨lay_non, rfl, rfl, by simp only [PyData.weight]; omega⟩
theorem nice_bool {b : Bool} : Nice 1 110 (.bool b) := ⟨lay_bool, rfl, rfl, by simp only [PyData.weight]; omega⟩
theorem nice_int {i : Int} (h : i.natAbs < 10 ^ 32) : Nice 1 110 (.int i) := by
  have hl : i.natAbs.log2 < 107 := by
    by_cases e : i.natAbs = 0
    · rw [e]
      decide
    · exact (Nat.log2_lt e).mpr (Nat.lt_trans h (by decide))
  refine ⟨lay_int, decide_eq_true (by omega), decide_eq_true ?_, ?_⟩
  · have e := int_text_length_le10 (k := 32) (by decide) h
    show (Str.ofString (toString i)).length ≤ 40
    rw [PySem.ofString_length]
    omega
  · simp only [PyData.weight]
    split <;> omega
theorem nice_str {s : Str} (h : PyData.strOk s = true) (hl : s.length ≤ 100) : Nice 1 110 (.str s) := by
  refine ⟨lay_str h, rfl, ?_, ?_⟩
  · simp only [PyData.leavesShort, List.all_eq_true, decide_eq_true_eq]
    intro c hc
    have := str_chOk h c hc
    exact Nat.lt_trans this (by decide)
  · simp only [PyData.weight]
    have e : s.length = s.cps.size := rfl
    omega
theorem noDict {d : PyData} (h : d.canLay0 = true) : d.hasDict = false := PyData.hasDict_of_canLay d h
end K8

/-! try .. except InvalidScene as e; e.value; repr; defs that are called with no repr under way. -/
namespace K8
open PySem PySem.Spec PyProof.Rows L2 Evl
section
variable {X : Cx} {σ : Slots} {B B' H H' : Hp} {R R' Ra Rb : Rel} {e a b c l o : Expr} {es rest : List Expr} {pos p pos2 apos cpos : Pos} {x y z v : V} {D : Ends} {ds : List PyData} {body : List Stmt} {W : WX} {E : XK}
theorem passes_len (tk : Takes X W) (hW : ∀ cls d σ H, σ.length = X.N.length → E cls d H → W cls d σ H) : Passes (L2.CX X.prog X.w) X E :=
  fun _ σ _ _ e s' I c => tk e s' (XE.of_call I (fun cls d H' h => hW cls d σ H' I.len h) c)
theorem takes_no : Takes X (fun _ _ _ _ => False) := fun u s' h => by
  obtain ⟨_, _, _, _, _, _, _, _, _, _, _, _, _, _, _, _, w⟩ := h
  exact w.elim
/-- try: body, except C as n: suite (what the clause catches) -/
theorem s_tryAs {i : Nat} {n x0 : Str} {c0 : Value} {b₀ : Stmt} {suite : List Stmt} {np pos' : Pos} (hN : X.N.Nodup) (hi : X.N[i]? = some n) (hln : X.env.kindOf n = some .local) (hc : Names X x0 c0)
    (hb : ∀ (W : WX) (pn : List (Addr × Obj)) (xe : Value → Shared → Prop), Takes (X.tr pn xe) W →
      (∀ cls d σ' H', PySem.W.exmOne X.K cls c0 = some true → (∀ (a : Addr) (oe : Obj) (pn : List (Addr × Obj)), Zc cls d oe → (∃ vs, oe.data = .fields vs) → H' a = none → wB (X.suite a ((a, oe) :: pn)) (b₀ :: suite) { nx := fun σ' H' => D.nx (σ'.set i none) H', rt := D.rt, bk := fun σ' H' => D.bk (σ'.set i none) H', ct := fun σ' H' => D.ct (σ'.set i none) H' } (σ'.set i (some (.ref a))) H') → W cls d σ' H') →
      wB (X.tr pn xe) body D σ H)
    (hs : X.stack = X.env :: X.outer := by rfl) (hf : X.env.frame = some X.env.locals := by rfl) : wS X (.Try body [.ExceptHandler (some (.Name x0 np)) (some n) (b₀ :: suite) pos'] [] [] pos) D σ H :=
  w_ps (ps_try_as (i := i) (tb := fun W D σ H => ∀ pn xe, Takes (X.tr pn xe) W → wB (X.tr pn xe) body D σ H) (ts := fun a cls d D σ H => ∀ oe pn, Zc cls d oe → (∃ vs, oe.data = .fields vs) → wB (X.suite a ((a, oe) :: pn)) (b₀ :: suite) D σ H) (Wout := fun _ _ _ _ => False) hs hf hN hi hln hc takes_no
    (fun W pn xe tk _ => ⟨fun pins s σ H D I h => h pn xe tk pins s I⟩) fun a oe cls d pn hz hf => ⟨fun pins s σ H D I h => h oe pn hz hf pins s I⟩)
    fun pn xe tk => hb _ pn xe tk fun cls d σ' H' he k => ⟨true, he, fun _ a ha oe pn hz hf => k a oe pn hz hf ha, fun h => by cases h⟩
/-- e.value, e the exception that was caught -/
theorem e_exv {a C xd : Addr} {oe : Obj} {pn : List (Addr × Obj)} {f : Str} {fs : List (Str × V)} (T : XfC X.K C) (hno : PySem.W.findIn X.K (.ref C) f = some none) (hz : Zc (.ref C) (some xd) oe) (hf : ∃ vs, oe.data = .fields vs) (he : EvE (X.suite a ((a, oe) :: pn)) e σ B (IsV (.ref a))) (hx : B xd = some (.xd fs)) (hl : fs.lookup f = some v)
    (hb : attributeBase e f X.env (eval e X.env) = eval e X.env := by rfl) : EvE (X.suite a ((a, oe) :: pn)) (.Attribute e f pos) σ B (IsV v) :=
  of_pe (pe_xf T hno hz hf pe_w hb) fun H e0 Q q => he H e0 _ fun u B1 H1 s1 r1 => ⟨r1 B1 (Ex.refl B1), rfl, xd, fs, v, rfl, s1.i _ _ (s1.b _ _ hx), hl, q.valS s1⟩
/-! ### repr -/
def rRepr (K : PySem.W.Frag) : List V → Hp → VK → Prop := fun xs H Q => ∃ d v, xs = [v] ∧ Dp K H v d ∧ (d = .none ∨ ∃ p, v = .ref p) ∧ d.showable = true ∧ d.canLay0 = true ∧ d.depth ≤ 60 ∧ d.shown.length ≤ sizeLine ∧ Q (.str d.shown) H
theorem cr_repr (hg : X.A.guards = some []) (hu : X.A.units + 64 < cLine) : CallR X (.builtin "repr") (rRepr X.K) := by
  intro pins s σ H; intro xs us Q I r h
  obtain ⟨d, v, rfl, hd, hor, hs, hc, hdp, hz, q⟩ := h
  cases r with
  | cons r1 r2 =>
    cases r2
    rcases hor with rfl | ⟨p, rfl⟩
    · cases hd
      cases r1
      exact PySem.P.repr_of_none ⟨.str "None", H, I.tok _, ⟨_, rfl⟩, q⟩
    · obtain ⟨as, rd⟩ := Dp.reads I d _ _ hd r1
      cases r1
      exact repr_of_reads' rd hs (fun h => by rw [noDict hc] at h; cases h) hg (by omega) (fun _ _ e => e) (fun h' u tk hk => ⟨.str d.shown, H, I.kept hk, ⟨_, rfl⟩, q⟩) hz
/-- what repr can be asked for -/
def Shown (d : PyData) (v : V) : Prop := (d = .none ∨ ∃ p, v = .ref p)
theorem e_repr {d : PyData} {k w : Nat} (hg : X.A.guards = some []) (hu : X.A.units + 64 < cLine) (hm : X.mg "repr" = none) (hn : Nice k w d) (hk : k ≤ 60) (hw : w ≤ 100000) (hd : d = .none ∨ (∃ xs, d = .list xs) ∨ ∃ xs, d = .tuple xs) (he : EvE X e σ B (IsD X.K d)) (hgl : Gl X "repr" := by rfl) (hs : starEach [e] X.env = (false, eval e X.env) :: starEach [] X.env := by rfl) (hpl : (backTo pos (starEach [] X.env)).any (·.1) = false := by rfl) :
    EvE X (.Call (.Name "repr" p) [e] [] pos) σ B (IsV (.str d.shown)) :=
  e_callB (R := IsV (.str d.shown)) (cr_repr hg hu) hm (by decide +kernel) (a_one he hs) (fun vs B1 e1 r H1 i1 Q q => by
    obtain ⟨v1, vs1, rfl, r1, r3⟩ := r
    have e3 : vs1 = [] := r3
    subst e3
    refine ⟨d, v1, rfl, dp_grow r1 i1, ?_, hn.sh, hn.lay.1, Nat.le_trans hn.lay.2 hk, hn.fits hw, q.val i1⟩
    rcases hd with rfl | ⟨xs, rfl⟩ | ⟨xs, rfl⟩
    · exact .inl rfl
    · cases r1
      exact .inr ⟨_, rfl⟩
    · cases r1
      exact .inr ⟨_, rfl⟩) hgl (he := hs) (hpl := hpl)
end
/-! ### defs that are called with no repr under way -/
structure FnG (P : Program) (w : World) (K : PySem.W.Frag) (mg : Str → Option Value) (base : Heap) (k : Nat) (f : Addr) (fd : FuncData) (ps : List Str) (sp : Sp) : Prop where
  len : ∀ xs H Q E, sp xs H Q E → xs.length = ps.length
  run : ∀ (A : Around) (outer : List Env) (s : Shared) (H : Hp) (args : Args) (us : List Value) (vs : List V) (Q : VK) (E : XK), A.guards = some [] → Room k A → Env0 P w K mg base A outer s H → BindsTo s fd args (ps.zip us) → Vals vs us → sp vs H Q E →
    codeAny (model P w) A (.call (.ref f) args) (CR CX0 outer P w H s Q E) s
structure DfnG (P : Program) (w : World) (K : PySem.W.Frag) (mg : Str → Option Value) (base : Heap) (k : Nat) (n : Str) (ps : List Str) (sp : Sp) : Prop where
  ex : ∃ f fd, mg n = some (.ref f) ∧ PySem.W.keepIn K (.ref f) = true ∧ Binds K fd ps [] ∧ FnG P w K mg base k f fd ps sp
theorem At.dfnG {P : Program} {w : World} {K : PySem.W.Frag} {mg : Str → Option Value} {base : Heap} {k : Nat} {n : Str} {st : Stmt} {ps : List Str} {sp : Sp} (A : At K mg n st ps) (h : ∀ f fd, Fun K n n st f fd → FnG P w K mg base k f fd ps sp) : DfnG P w K mg base k n ps sp := by
  obtain ⟨f, fd, h1, h2, h3⟩ := A.ex
  exact ⟨f, fd, h1, h2.kp, h3, h f fd h2⟩
section
variable {P : Program} {w : World} {K : PySem.W.Frag}
variable {mg : Str → Option Value} {base : Heap}
theorem pure_okG {x : Str} {st : Stmt} {f : Addr} {fd : FuncData} {N ps : List Str} {k : Nat} {pre : List V → Hp → Rel → Prop} (F : Fun K x x st f fd) (S : FnScope N ps (defScope st)) (len : ∀ vs H R, pre vs H R → vs.length = ps.length)
    (hbody : ∀ (cdv : Value) (A : Around) (outer : List Env) (s : Shared) (B H : Hp) (vs : List V) (Q : VK) (E : XK) (R : Rel), A.guards = some [] → Room k (A.deeper (envOfC x (defScope st) s.heap.objs.size f cdv)) → Ex B H → pre vs B R → Yields B H R Q →
      wB (cxOf CX0 P w K mg base N x (defScope st) f cdv A outer s H E).nox (defBody st) { nx := fun _ H' => Q .non H', rt := Q } (start N vs) H) : FnG P w K mg base (k + 1) f fd ps (Pure pre) := by
  obtain ⟨oc, od, kV, doc, pm, an, cdv, ct, osl, rfl, held, code⟩ := F.ex
  refine ⟨fun vs H Q E ⟨B, R, _, h1, _⟩ => len vs B R h1, fun A outer s H args us vs Q E quiet room env bind rel ⟨B, R, h0, h1, h2⟩ => ?_⟩
  have here := fun b o e => (env.bs b o e).1
  have frag : K.In s.heap := env.mod.kin.keeps here
  refine codeAny_call_function room.depth (frag _ _ held) rfl S.co S.gen rfl (PySem.W.codeRec_of frag code) (bind _ _ _ _ (wpAny_newFunctionEnv_cells S.kind
    (fun y m => (S.par y.1 (List.of_mem_zip m).1).imp id fun q => ⟨q, PySem.W.cellsFrom_some _ _ _ (.inl q)⟩) fun en he s1 x => ?_))
  cases he
  refine ⟨(env.mod.nolimit.keeps here).keeps x.toInCall.keep, codeAny_func (wpAny_mono ((PSs.nox pss_w).run [] s1 _ H _ (inv_start S room.hd env (len vs B R h1) rel x)
    (hbody cdv A outer s B H vs Q E R quiet (room.deeper _) h0 h1 h2)) (fun fl z out => ?_) fun _ _ no => no)⟩
  cases fl
  case ret u =>
    obtain ⟨v, _, H1, J, rv, q⟩ := out
    exact ⟨v, H1, J.os, J.bare, J.base, J.hok, rv, q⟩
  case next =>
    obtain ⟨_, H1, J, q⟩ := out
    exact ⟨.non, H1, J.os, J.bare, J.base, J.hok, rfl, q⟩
  all_goals
    obtain ⟨_, _, _, no⟩ := out
    exact no.elim
end
section
variable {X : Cx} {σ : Slots} {B B' H H' : Hp} {R : Rel} {e : Expr} {es : List Expr} {pos p : Pos} {RA : RelA} {k : Nat} {n : Str} {ps : List Str}
theorem e_callG {pre : List V → Hp → Rel → Prop} (G : DfnG X.prog X.w X.K X.mg X.base k n ps (Pure pre)) (hgd : X.A.guards = some []) (hr : Room k X.A) (ha : EvAE X (e :: es) σ B RA) (hs : ∀ vs B1, Ex B B1 → RA vs B1 → pre vs B1 R) (hg : Gl X n := by rfl) (hdb : (n == ("__debug__" : Str)) = false := by decide)
    (he : starEach (e :: es) X.env = (false, eval e X.env) :: starEach es X.env := by rfl) (hpl : (backTo pos (starEach es X.env)).any (·.1) = false := by rfl) : EvE X (.Call (.Name n p) (e :: es) [] pos) σ B R := by
  obtain ⟨f, fd, h1, h2, h3, F⟩ := G.ex
  have P0 : PE X (.Call (.Name n p) (e :: es) [] pos) (fun σ H Q => wA X (e :: es) σ H fun vs H1 => Pure pre vs H1 Q E0) := by
    refine .mk fun pins s σ H Q I h => ?_
    refine wpAny_Call_Name_kw (ld_glob I hg h1 ?_ hdb)
    refine PySem.W.callWith_K (h₀ := X.base) I.ok.mod.kin h2 (thn (pa_w.run pos pins s σ H _ I h) fun us s1 ⟨vs, H1, I1, r, q⟩ => ⟨I1.kIn, ?_⟩) he hpl
    have hl : (us ++ []).length = ps.length := by
      rw [List.append_nil, ← r.length]
      exact F.len _ _ _ _ q
    refine wpAny_call (codeAny_mono (F.run X.A X.stack s1 H1 ⟨us, []⟩ (us ++ []) vs Q E0 hgd hr I1.env0 (h3 s1 us I1.kIn hl) (by rw [List.append_nil]; exact r) q) fun r s' hq => ?_)
    cases r with
    | error e => exact hq.elim
    | ok fl =>
      cases fl with
      | ret u => exact I1.after hq
      | next => exact False.elim hq
      | brk => exact False.elim hq
      | cont => exact False.elim hq
  exact of_pe P0 fun H e1 Q q => ha H e1 _ fun vs B1 H1 s1 kx => ⟨B1, R, s1.i, hs vs B1 s1.b (kx B1 (Ex.refl B1)), q.go s1⟩
end
end K8

/-! _law_odd, _law_odd_scene. -/
namespace K8
open PySem PySem.Spec PyProof.Rows L2 Evl
theorem eqI_true {i j : Int} (h : decide (V.int i = V.int j) = true) : i = j := V.int.inj (of_decide_eq_true h)
theorem eqI_false {i j : Int} (h : decide (V.int i = V.int j) = false) : i ≠ j := fun e => of_decide_eq_false h (by rw [e])
/-! ### the data -/
def oddParts : List PyData := [.tuple [.int (-1)], .tuple [.bool true], .tuple [.none], .tuple [.str "1"], .tuple [.tuple [.int 0]]]
def oddPart : Nat → PyData | 1 => .int (-1) | 2 => .bool true | 3 => .none | 4 => .str "1" | _ => .tuple [.int 0]
def putD (r : List Int) (p : Nat) (x : PyData) : PyData := .tuple ((r.map .int).take p ++ [x] ++ (r.map .int).drop (p + 1))
def oddRow (r : List Int) (p : Nat) (way : Nat) : PyData :=
  if way = 0 then .list (r.map .int) else if way < 6 then putD r p (oddPart way) else if way = 6 then dRow (r ++ [0]) else if way = 7 then dRow r.dropLast else if way = 8 then .tuple [] else if way = 9 then dRow (List.replicate 9 0)
  else if way = 10 then .none else if way = 11 then .str "" else .int 5
def oddNames (p : Str) : List PyData := [.str "none", .str "any", .str "self", .str "", .str ("R" ++ p), .str ("1" ++ p), .str (p ++ " "), .str (p ++ "_"), .str "abcdefghijklm", .int 5]
def oddScene (s : Scene) (way : Nat) : PyData :=
  if way = 0 then .list [.str s.1, dRow s.2] else if way = 1 then .tuple [.str s.1, dRow s.2, dRow s.2] else if way = 2 then .tuple [.str s.1] else if way = 3 then .tuple [dRow s.2, .str s.1] else if way = 4 then .none
  else if way < 15 then .tuple [(oddNames s.1).getD (way - 5) .none, dRow s.2] else .tuple []
/-! ### what they are -/
structure Odd (n : Nat) (lone : Bool) (d : PyData) : Prop where
  okd : okScene d
  nice : Nice 5 10000 d
  kind : d = .none ∨ (∃ xs, d = .list xs) ∨ ∃ xs, d = .tuple xs
  notN : isSceneD (.int (n : Int)) d = false
  yes : lone = true → isSceneD .none d = false
  no : lone = false → ∃ m t, ScOk m t ∧ d = dScene t ∧ m ≠ n
theorem small_int {i : Int} : small (.int i) := fun m h => by cases h
theorem small_non : small .none := fun m h => by cases h
theorem small_bool {b : Bool} : small (.bool b) := fun m h => by cases h
theorem small_lst {xs : List PyData} (h : xs.length ≤ 1000) : small (.list xs) := fun m hm => by
  have e : xs.length = m := Option.some.inj hm
  omega
theorem row_nice {r : List Int} (hb : Bd BB r) (hl : r.length ≤ 9) : Nice 2 999 (dRow r) := nice_tup (k := 1) (w := 110) (fun x hx => by
  obtain ⟨i, hi, rfl⟩ := List.mem_map.mp hx
  obtain ⟨h0, h1⟩ := hb i hi
  have h1 : i < 10 ^ 31 := h1
  exact nice_int (by omega)) (by rw [List.length_map]; omega)
theorem nice2 {a b : PyData} (ha : Nice 3 1200 a) (hb : Nice 3 1200 b) : Nice 5 10000 (.tuple [a, b]) := (nice_tup (k := 3) (w := 1200) (m := 10000) (fun x hx => by
  simp only [List.not_mem_nil, or_false, List.mem_cons] at hx
  rcases hx with rfl | rfl
  · exact ha
  · exact hb) (by show 2 * 1201 ≤ 10000; decide)).up (by decide) (by decide)
theorem nm_ok {s : Scene} {n : Nat} (h : ScOk n s) : PyData.strOk s.1 = true ∧ s.1.length ≤ 12 := ⟨nameB_ok h.name, (nameB_len h.name).2⟩
theorem odd_pair {n : Nat} {a b : PyData} (ha : Nice 3 1200 a) (hb : Nice 3 1200 b) (sa : small a) (sb : small b) (h : ∀ w, isSceneD w (.tuple [a, b]) = false) : Odd n true (.tuple [a, b]) :=
  ⟨⟨small_tup (by show 2 ≤ 1000; decide), fun xs e x hx => by
    cases e
    simp only [List.not_mem_nil, or_false, List.mem_cons] at hx
    rcases hx with rfl | rfl
    · exact sa
    · exact sb⟩, nice2 ha hb, .inr (.inr ⟨_, rfl⟩), h _, fun _ => h _, fun h => by cases h⟩
theorem noName {a b : PyData} (h : isNameD a = false) : ∀ w, isSceneD w (.tuple [a, b]) = false := fun w => by
  show (isNameD a && isRowD w b) = false
  rw [h]
  rfl
theorem noRow {a b : PyData} (h : ∀ w, isRowD w b = false) : ∀ w, isSceneD w (.tuple [a, b]) = false := fun w => by
  show (isNameD a && isRowD w b) = false
  rw [h, Bool.and_false]
theorem len1 : ∀ c : Nat, (⟨#[c]⟩ : Str).length = 1 := fun _ => rfl
theorem oddName_not {p : Str} (hp : nameB p = true) : ∀ d ∈ oddNames p, isNameD d = false ∧ Nice 1 110 d ∧ small d := by
  have hl := nameB_len hp
  have hs := nameB_ok hp
  have all : ∀ a : Str, cpl a ≠ [] → (cpl a).all (fun c => letterN c || digitN c) = false → nameB a = false := fun a _ h => by
    unfold nameB
    rw [show (a.cps.toList.all fun c => letterN c || digitN c) = false from h]
    simp
  have hd : ∀ a : Str, headL a = false → nameB a = false := fun a h => by
    unfold nameB
    rw [h]
    simp
  have ok1 : ∀ (a : Str), PyData.strOk a = true → a.length ≤ 20 → Nice 1 110 (.str a) ∧ small (.str a) := fun a h1 h2 => ⟨nice_str h1 (by omega), small_str (by omega)⟩
  have cat : ∀ (a b : Str), PyData.strOk a = true → PyData.strOk b = true → a.length + b.length ≤ 20 → Nice 1 110 (.str (a ++ b)) ∧ small (.str (a ++ b)) := fun a b h1 h2 h3 => ok1 _ (chOk_str (chOk_append (str_chOk h1) (str_chOk h2))) (by rw [len_append]; exact h3)
  intro d hd'
  simp only [oddNames, List.mem_cons, List.not_mem_nil, or_false] at hd'
  rcases hd' with rfl | rfl | rfl | rfl | rfl | rfl | rfl | rfl | rfl | rfl
  · exact ⟨by decide +kernel, ok1 _ (by decide +kernel) (by decide +kernel)⟩
  · exact ⟨by decide +kernel, ok1 _ (by decide +kernel) (by decide +kernel)⟩
  · exact ⟨by decide +kernel, ok1 _ (by decide +kernel) (by decide +kernel)⟩
  · exact ⟨by decide +kernel, ok1 _ (by decide +kernel) (by decide +kernel)⟩
  · refine ⟨hd _ ?_, cat _ _ (by decide +kernel) hs (by have e : ("R" : Str).length = 1 := by decide +kernel
                                                        omega)⟩
    have e : ("R" : Str) = ⟨#[82]⟩ := by decide +kernel
    rw [e]
    have e2 : (((⟨#[82]⟩ : Str) ++ p).cps.toList) = 82 :: cpl p := cpl_append _ _
    unfold headL
    rw [e2]
    show letterN 82 = false
    decide
  · refine ⟨hd _ ?_, cat _ _ (by decide +kernel) hs (by have e : ("1" : Str).length = 1 := by decide +kernel
                                                        omega)⟩
    have e : ("1" : Str) = ⟨#[49]⟩ := by decide +kernel
    rw [e]
    have e2 : (((⟨#[49]⟩ : Str) ++ p).cps.toList) = 49 :: cpl p := cpl_append _ _
    unfold headL
    rw [e2]
    show letterN 49 = false
    decide
  · refine ⟨all _ ?_ ?_, cat _ _ hs (by decide +kernel) (by have e : (" " : Str).length = 1 := by decide +kernel
                                                            omega)⟩
    · have e : (" " : Str) = ⟨#[32]⟩ := by decide +kernel
      rw [e, cpl_append]
      simp
    · have e : (" " : Str) = ⟨#[32]⟩ := by decide +kernel
      rw [e, cpl_append, List.all_append]
      have : (cpl (⟨#[32]⟩ : Str)).all (fun c => letterN c || digitN c) = false := by decide
      rw [this, Bool.and_false]
  · refine ⟨all _ ?_ ?_, cat _ _ hs (by decide +kernel) (by have e : ("_" : Str).length = 1 := by decide +kernel
                                                            omega)⟩
    · have e : ("_" : Str) = ⟨#[95]⟩ := by decide +kernel
      rw [e, cpl_append]
      simp
    · have e : ("_" : Str) = ⟨#[95]⟩ := by decide +kernel
      rw [e, cpl_append, List.all_append]
      have : (cpl (⟨#[95]⟩ : Str)).all (fun c => letterN c || digitN c) = false := by decide
      rw [this, Bool.and_false]
  · exact ⟨by decide +kernel, ok1 _ (by decide +kernel) (by decide +kernel)⟩
  · exact ⟨rfl, nice_int (by decide), small_int⟩
theorem odd_scene {n : Nat} {s : Scene} (h : ScOk n s) (way : Nat) : Odd n true (oddScene s way) := by
  obtain ⟨hs, hl⟩ := nm_ok h
  have hr : Nice 2 999 (dRow s.2) := row_nice h.bd (by rw [h.row.len]; have := h.row.top; omega)
  have hr3 : Nice 3 1200 (dRow s.2) := hr.up (by decide) (by decide)
  have hp3 : Nice 3 1200 (.str s.1) := (nice_str hs (by omega)).up (by decide) (by decide)
  have sr := small_row h.row
  have sp : small (.str s.1) := small_str (by omega)
  have gen : ∀ d : PyData, okScene d → Nice 5 10000 d → (d = .none ∨ (∃ xs, d = .list xs) ∨ ∃ xs, d = .tuple xs) → (∀ w, isSceneD w d = false) → Odd n true d := fun d a b c e => ⟨a, b, c, e _, fun _ => e _, fun h => by cases h⟩
  unfold oddScene
  split
  · refine gen _ ⟨small_lst (by show 2 ≤ 1000; decide), fun xs e => by cases e⟩ ?_ (.inr (.inl ⟨_, rfl⟩)) (fun w => rfl)
    exact (nice_lst (k := 3) (w := 1200) (m := 10000) (fun x hx => by
      simp only [List.not_mem_nil, or_false, List.mem_cons] at hx
      rcases hx with rfl | rfl
      · exact hp3
      · exact hr3) (by show 2 * 1201 ≤ 10000; decide)).up (by decide) (by decide)
  split
  · refine gen _ ⟨small_tup (by show 3 ≤ 1000; decide), fun xs e x hx => ?_⟩ ?_ (.inr (.inr ⟨_, rfl⟩)) (fun w => rfl)
    · cases e
      simp only [List.not_mem_nil, or_false, List.mem_cons] at hx
      rcases hx with rfl | rfl | rfl
      · exact sp
      · exact sr
      · exact sr
    · exact (nice_tup (k := 3) (w := 1200) (m := 10000) (fun x hx => by
        simp only [List.not_mem_nil, or_false, List.mem_cons] at hx
        rcases hx with rfl | rfl | rfl
        · exact hp3
        · exact hr3
        · exact hr3) (by show 3 * 1201 ≤ 10000; decide)).up (by decide) (by decide)
  split
  · refine gen _ ⟨small_tup (by show 1 ≤ 1000; decide), fun xs e x hx => ?_⟩ ?_ (.inr (.inr ⟨_, rfl⟩)) (fun w => rfl)
    · cases e
      rw [List.mem_singleton.mp hx]
      exact sp
    · exact (nice_tup (k := 3) (w := 1200) (m := 10000) (fun x hx => by
        rw [List.mem_singleton.mp hx]
        exact hp3) (by show 1 * 1201 ≤ 10000; decide)).up (by decide) (by decide)
  split
  · exact odd_pair hr3 hp3 sr sp (noName rfl)
  split
  · exact gen _ ⟨small_non, fun xs e => by cases e⟩ (nice_none.up (by decide) (by decide)) (.inl rfl) (fun w => rfl)
  split
  · have hw : way - 5 < (oddNames s.1).length := by
      show way - 5 < 10
      omega
    have hg : (oddNames s.1).getD (way - 5) .none ∈ oddNames s.1 := by
      rw [List.getD_eq_getElem?_getD, List.getElem?_eq_getElem hw]
      exact List.getElem_mem hw
    obtain ⟨h1, h2, h3⟩ := oddName_not h.name _ hg
    exact odd_pair (h2.up (by decide) (by decide)) hr3 h3 sr (noName h1)
  · exact gen _ ⟨small_tup (by show 0 ≤ 1000; decide), fun xs e x hx => by cases e; cases hx⟩ ((nice_tup (k := 1) (w := 110) (m := 10000) (xs := []) (fun x hx => by cases hx) (by decide)).up (by decide) (by decide)) (.inr (.inr ⟨_, rfl⟩)) (fun w => rfl)
/-- when the row stays a row, of another width -/
def loneB (n way : Nat) : Bool := !(decide (way = 6) || decide (way = 7)) || (decide (way = 6) && decide (n = 8)) || (decide (way = 7) && decide (n = 1))
theorem put_no {r : List Int} {p : Nat} {x : PyData} (h : entB x = false) : ∀ w, isRowD w (putD r p x) = false := fun w => by
  show (_ && (_ && List.all _ entB)) = false
  rw [List.all_append, List.all_append, List.all_cons, h]
  simp
theorem rowLen_no {r : List Int} (h : r.length = 0 ∨ 8 < r.length) : ∀ w, isRowD w (dRow r) = false := fun w => by
  show ((decide (1 ≤ (r.map PyData.int).length) && decide ((r.map PyData.int).length ≤ 8)) && _) = false
  rw [List.length_map]
  rcases h with h | h
  · rw [h]
    rfl
  · rw [decide_eq_false (show ¬ r.length ≤ 8 by omega), Bool.and_false]
    rfl
theorem odd_row {n : Nat} {s : Scene} (h : ScOk n s) {p : Nat} (hp : p < n) (way : Nat) : Odd n (loneB n way) (.tuple [.str s.1, oddRow s.2 p way]) := by
  obtain ⟨hs, hl⟩ := nm_ok h
  have hn8 := h.row.top
  have hn1 := h.row.pos
  have hlen := h.row.len
  have hp3 : Nice 3 1200 (.str s.1) := (nice_str hs (by omega)).up (by decide) (by decide)
  have sp : small (.str s.1) := small_str (by omega)
  have gen : ∀ d : PyData, loneB n way = true → Nice 3 1200 d → small d → (∀ w, isRowD w d = false) → Odd n (loneB n way) (.tuple [.str s.1, d]) := fun d a b c e => by
    rw [a]
    exact odd_pair hp3 b sp c (noRow e)
  have lone : ∀ {b : Bool}, b = true → way ≠ 6 → way ≠ 7 → loneB n way = true := fun _ h6 h7 => by
    unfold loneB
    rw [decide_eq_false h6, decide_eq_false h7]
    rfl
  have oth : ∀ (m : Nat) (r : List Int), loneB n way = false → ScOk m (s.1, r) → m ≠ n → Odd n (loneB n way) (.tuple [.str s.1, dRow r]) := fun m r a b ne => by
    rw [a]
    refine ⟨b.okd, nice2 hp3 ((row_nice b.bd (by rw [b.row.len]; have := b.row.top; omega)).up (by decide) (by decide)), .inr (.inr ⟨_, rfl⟩), ?_, fun h => (by cases h), fun _ => ⟨m, (s.1, r), b, rfl, ne⟩⟩
    show (nameB s.1 && ((decide (1 ≤ (r.map PyData.int).length) && decide ((r.map PyData.int).length ≤ 8)) && (decide (((r.map PyData.int).length : Int) = (n : Int)) && _))) = false
    have bl : r.length = m := b.row.len
    rw [List.length_map, bl, decide_eq_false (show ¬ ((m : Int) = (n : Int)) by omega)]
    simp
  unfold oddRow
  split
  · refine gen _ (lone rfl (by omega) (by omega)) ?_ (small_lst (by rw [List.length_map]; omega)) (fun w => rfl)
    exact (nice_lst (k := 1) (w := 110) (m := 1200) (fun x hx => by
      obtain ⟨i, hi, rfl⟩ := List.mem_map.mp hx
      obtain ⟨h0, h1⟩ := h.bd i hi
      have h1 : i < 10 ^ 31 := h1
      exact nice_int (by omega)) (by rw [List.length_map]; omega)).up (by decide) (by decide)
  split
  · have hx : entB (oddPart way) = false ∧ Nice 2 111 (oddPart way) := by
      have hw : way = 1 ∨ way = 2 ∨ way = 3 ∨ way = 4 ∨ way = 5 := by omega
      rcases hw with rfl | rfl | rfl | rfl | rfl
      · exact ⟨rfl, (nice_int (by decide)).up (by decide) (by decide)⟩
      · exact ⟨rfl, nice_bool.up (by decide) (by decide)⟩
      · exact ⟨rfl, nice_none.up (by decide) (by decide)⟩
      · exact ⟨rfl, (nice_str (by decide +kernel) (by decide +kernel)).up (by decide) (by decide)⟩
      · exact ⟨rfl, nice_tup (k := 1) (w := 110) (fun x hx => by rw [List.mem_singleton.mp hx]; exact nice_int (by decide)) (by decide)⟩
    have hl2 : ((s.2.map PyData.int).take p ++ [oddPart way] ++ (s.2.map PyData.int).drop (p + 1)).length = n := by
      rw [List.length_append, List.length_append, List.length_take, List.length_drop, List.length_map]
      show min p s.2.length + 1 + (s.2.length - (p + 1)) = n
      omega
    refine gen _ (lone rfl (by omega) (by omega)) ?_ (small_tup (by rw [hl2]; omega)) (put_no hx.1)
    refine (nice_tup (k := 2) (w := 111) (m := 1200) (fun x hx' => ?_) (by rw [hl2]; omega))
    have hints : ∀ y ∈ s.2.map PyData.int, Nice 2 111 y := fun y hy => by
      obtain ⟨i, hi, rfl⟩ := List.mem_map.mp hy
      obtain ⟨h0, h1⟩ := h.bd i hi
      have h1 : i < 10 ^ 31 := h1
      exact (nice_int (by omega)).up (by decide) (by decide)
    rcases List.mem_append.1 hx' with hx' | hx'
    · rcases List.mem_append.mp hx' with hx' | hx'
      · exact hints x (List.mem_of_mem_take hx')
      · rw [List.mem_singleton.mp hx']
        exact hx.2
    · exact hints x (List.mem_of_mem_drop hx')
  have bd0 : Bd BB (s.2 ++ [0]) := fun x hx => by
    rcases List.mem_append.1 hx with hx | hx
    · exact h.bd x hx
    · rw [List.mem_singleton.mp hx]
      exact ⟨by decide, by decide⟩
  split
  · rename_i h6
    subst h6
    by_cases e8 : n = 8
    · refine gen _ ?_ ((row_nice bd0 (by rw [List.length_append, hlen, e8]; decide)).up (by decide) (by decide)) (small_tup (by rw [List.length_map, List.length_append]; show s.2.length + 1 ≤ 1000; omega)) (rowLen_no (.inr (by rw [List.length_append, hlen, e8]; decide)))
      unfold loneB
      rw [decide_eq_true e8]
      rfl
    · refine oth (n + 1) _ ?_ ⟨h.name, ⟨by rw [List.length_append, hlen]; rfl, by omega, by omega, fun x hx => ?_⟩, bd0⟩ (by omega)
      · unfold loneB
        rw [decide_eq_false e8]
        rfl
      · exact (bd0 x hx).1
  have bd1 : Bd BB s.2.dropLast := fun x hx => h.bd x ((List.dropLast_sublist s.2).subset hx)
  split
  · rename_i h7
    subst h7
    by_cases e1 : n = 1
    · refine gen _ ?_ ((row_nice bd1 (by rw [List.length_dropLast]; omega)).up (by decide) (by decide)) (small_tup (by rw [List.length_map, List.length_dropLast]; omega)) (rowLen_no (.inl (by rw [List.length_dropLast]; omega)))
      unfold loneB
      rw [decide_eq_true e1]
      rfl
    · refine oth (n - 1) _ ?_ ⟨h.name, ⟨by rw [List.length_dropLast, hlen], by omega, by omega, fun x hx => ?_⟩, bd1⟩ (by omega)
      · unfold loneB
        rw [decide_eq_false e1]
        rfl
      · exact (bd1 x hx).1
  split
  · exact gen _ (lone rfl (by omega) (by omega)) ((nice_tup (k := 1) (w := 110) (m := 1200) (xs := []) (fun x hx => by cases hx) (by decide)).up (by decide) (by decide)) (small_tup (by decide)) (fun w => rfl)
  split
  · exact gen _ (lone rfl (by omega) (by omega)) ((row_nice (fun x hx => by rw [(List.mem_replicate.mp hx).2]; exact ⟨by decide, by decide⟩) (by decide)).up (by decide) (by decide)) (small_tup (by decide)) (rowLen_no (.inr (by decide)))
  split
  · exact gen _ (lone rfl (by omega) (by omega)) (nice_none.up (by decide) (by decide)) small_non (fun w => rfl)
  split
  · exact gen _ (lone rfl (by omega) (by omega)) ((nice_str (by decide +kernel) (by decide +kernel)).up (by decide) (by decide)) (small_str (by decide +kernel)) (fun w => rfl)
  · exact gen _ (lone rfl (by omega) (by omega)) ((nice_int (by decide)).up (by decide) (by decide)) small_int (fun w => rfl)
end K8

/-! The walks of _law_odd, _law_odd_scene. -/
namespace K8
open PySem PySem.Spec PyProof.Rows L2 Evl
section
variable {P : Program} {w : World} {K : PySem.W.Frag}
variable {mg : Str → Option Value} {base : Heap}
def preOddR (K : PySem.W.Frag) : List V → Hp → Rel → Prop := fun vs B R => ∃ (r : List Int) (p way : Nat) (v : V), vs = [v, .int (p : Int), .int (way : Int)] ∧ Dp K B v (dRow r) ∧ p < r.length ∧ r.length ≤ 8 ∧ R = IsD K (oddRow r p way)
abbrev D_odd (P : Program) (w : World) (K : PySem.W.Frag) (mg : Str → Option Value) (base : Heap) : Prop := Dfn P w K mg base CX0 1 "_law_odd" ["_law_row", "_law_place", "_law_way"] (Pure (preOddR K))
theorem cut_last (ds : List PyData) : cutD ds none (some (-1)) = ds.dropLast := by
  unfold cutD
  rw [HT.sIx_none, List.drop_zero, Nat.sub_zero]
  have e : HT.sIx ds.length ds.length (some (-1)) = ds.length - 1 := by
    show (if (-1 : Int) < 0 then ((-1 : Int) + (ds.length : Int)).toNat else min (-1 : Int).toNat ds.length) = _
    rw [if_pos (by decide)]
    omega
  rw [e, List.dropLast_eq_take]
theorem ok_odd {f : Addr} {fd : FuncData} (U : Bi mg) (F : Fun K "_law_odd" "_law_odd" s_l_odd f fd) : FnOk P w K mg base CX0 1 f fd ["_law_row", "_law_place", "_law_way"] (Pure (preOddR K)) := by
  refine pure_ok F sc_l_odd (fun vs H R ⟨_, _, _, _, hv, _⟩ => by rw [hv]; rfl) fun cdv A outer s0 B H vs Q E R hr e0 h y => ?_
  obtain ⟨r, p, way, v, rfl, hv, hp, h8, rfl⟩ := h
  have hv' : Dp K B v (.tuple (r.map .int)) := hv
  refine b_cons (s_if (k := decide (V.int (way : Int) = V.int 0)) e0 (t_eqV (e_var 2 rfl) e_int rfl) (fun h H1 s1 => ?_) fun h H1 s1 => b_nil ?_)
  · have hw : way = 0 := by have := eqI_true h; omega
    have hy : oddRow r p way = .list (r.map .int) := by unfold oddRow; rw [if_pos hw]
    rw [hy] at y
    exact b_one (s_retY s1.i (EvP.tlD (EvN.dl (n_listOf (ds := r.map .int) U.list (EvP.imp (e_varD 0 rfl hv') fun v B1 _ r => .inr r)))) (y.go s1))
  have w0 : way ≠ 0 := fun e => eqI_false h (by rw [e]; rfl)
  refine b_cons (s_if (k := decide ((way : Int) < 6)) s1.i (t_ltI (e_var 2 rfl) e_int) (fun h H2 s2 => ?_) fun h H2 s2 => b_nil ?_)
  · have hw : way < 6 := by have := of_decide_eq_true h; omega
    have hy : oddRow r p way = putD r p (oddPart way) := by unfold oddRow; rw [if_neg w0, if_pos hw]
    rw [hy] at y
    refine b_cons (s_set 3 s2.i (e_lstD (K := K) (ds := oddParts) (ad_cons (e_tupD (ds := [.int (-1)]) (ad_cons (EvP.intD (e_neg e_int)) ad_nil) (by decide)) (ad_cons (e_tupD (ds := [.bool true]) (ad_cons (EvP.blD e_bl) ad_nil) (by decide)) (ad_cons (e_tupD (ds := [.none]) (ad_cons (EvP.nonD e_non) ad_nil) (by decide)) (ad_cons (e_tupD (ds := [.str "1"]) (ad_cons (EvP.strD e_str) ad_nil) (by decide)) (ad_cons (e_tupD (ds := [.tuple [.int 0]]) (ad_cons (e_tupD (ds := [.int 0]) (ad_cons (EvP.intD e_int) ad_nil) (by decide)) ad_nil) (by decide)) ad_nil))))) (by decide)) (fun v3 B3 H3 s3 r3 => ?_) sc_l_odd.nd)
    have h3 : Dp K B3 v3 (.list oddParts) := r3 B3 (Ex.refl B3)
    have hat : atI oddParts ((way : Int) - 1) = some (.tuple [oddPart way]) := by
      have hw : way = 1 ∨ way = 2 ∨ way = 3 ∨ way = 4 ∨ way = 5 := by omega
      rcases hw with rfl | rfl | rfl | rfl | rfl
      · exact atI_nat (j := 0) rfl
      · exact atI_nat (j := 1) rfl
      · exact atI_nat (j := 2) rfl
      · exact atI_nat (j := 3) rfl
      · exact atI_nat (j := 4) rfl
    have hv3 := dp_grow hv' s3.b
    have c1 : cutD (r.map PyData.int) none (some (p : Int)) = (r.map .int).take p := cut_to _ _ (by rw [List.length_map]; omega)
    have c2 : cutD (r.map PyData.int) (some ((p : Int) + 1)) none = (r.map .int).drop (p + 1) := by
      have e1 : ((p : Int) + 1) = ((p + 1 : Nat) : Int) := by omega
      rw [e1, cut_from]
    refine b_one (s_retY s3.i (EvP.imp (e_catT (ds := cutD (r.map .int) none (some (p : Int)) ++ [oddPart way]) (es' := cutD (r.map .int) (some ((p : Int) + 1)) none) (e_catT (ds := cutD (r.map .int) none (some (p : Int))) (es' := [oddPart way]) (e_slTU (e_varD 0 rfl hv3) (e_var 1 rfl)) (e_ixL (ds := oddParts) (e_varD 3 rfl h3) (e_subI (e_var 2 rfl) e_int) hat) ?_) (e_slTL (e_varD 0 rfl hv3) (e_addI (e_var 1 rfl) e_int)) ?_) fun v B1 _ r1 => ?_) (((y.go s1).go s2).go s3))
    · rw [c1, List.length_take, List.length_map]
      show _ + 1 ≤ 100000
      omega
    · rw [c1, c2, List.length_append, List.length_take, List.length_map, List.length_drop, List.length_map]
      show min p r.length + 1 + _ ≤ 100000
      omega
    · rw [c1, c2] at r1
      exact r1
  have w6 : ¬ way < 6 := fun e => of_decide_eq_false h (by omega)
  refine b_cons (s_if (k := decide (V.int (way : Int) = V.int 6)) s2.i (t_eqV (e_var 2 rfl) e_int rfl) (fun h H3 s3 => ?_) fun h H3 s3 => b_nil ?_)
  · have hw : way = 6 := by have := eqI_true h; omega
    have hy : oddRow r p way = .tuple (r.map .int ++ [.int 0]) := by
      unfold oddRow
      rw [if_neg w0, if_neg w6, if_pos hw]
      show PyData.tuple ((r ++ [0]).map .int) = _
      rw [List.map_append]
      rfl
    rw [hy] at y
    exact b_one (s_retY s3.i (e_catT (ds := r.map .int) (es' := [.int 0]) (e_varD 0 rfl hv') (e_tupD (ds := [.int 0]) (ad_cons (EvP.intD e_int) ad_nil) (by decide)) (by rw [List.length_map]; show r.length + 1 ≤ 100000; omega)) (((y.go s1).go s2).go s3))
  have n6 : way ≠ 6 := fun e => eqI_false h (by rw [e]; rfl)
  refine b_cons (s_if (k := decide (V.int (way : Int) = V.int 7)) s3.i (t_eqV (e_var 2 rfl) e_int rfl) (fun h H4 s4 => ?_) fun h H4 s4 => b_nil ?_)
  · have hw : way = 7 := by have := eqI_true h; omega
    have hy : oddRow r p way = .tuple (cutD (r.map .int) none (some (-1))) := by
      unfold oddRow
      rw [if_neg w0, if_neg w6, if_neg n6, if_pos hw, cut_last]
      show PyData.tuple (r.dropLast.map .int) = _
      rw [List.map_dropLast]
    rw [hy] at y
    exact b_one (s_retY s4.i (e_slTU (e_varD 0 rfl hv') (e_neg e_int)) ((((y.go s1).go s2).go s3).go s4))
  have n7 : way ≠ 7 := fun e => eqI_false h (by rw [e]; rfl)
  refine b_cons (s_if (k := decide (V.int (way : Int) = V.int 8)) s4.i (t_eqV (e_var 2 rfl) e_int rfl) (fun h H5 s5 => ?_) fun h H5 s5 => b_nil ?_)
  · have hw : way = 8 := by have := eqI_true h; omega
    have hy : oddRow r p way = .tuple [] := by
      unfold oddRow
      rw [if_neg w0, if_neg w6, if_neg n6, if_neg n7, if_pos hw]
    rw [hy] at y
    exact b_one (s_retY s5.i (e_tupD (ds := []) ad_nil (by decide)) (((((y.go s1).go s2).go s3).go s4).go s5))
  have n8 : way ≠ 8 := fun e => eqI_false h (by rw [e]; rfl)
  refine b_cons (s_if (k := decide (V.int (way : Int) = V.int 9)) s5.i (t_eqV (e_var 2 rfl) e_int rfl) (fun h H6 s6 => ?_) fun h H6 s6 => b_nil ?_)
  · have hw : way = 9 := by have := eqI_true h; omega
    have hy : oddRow r p way = .tuple [.int 0, .int 0, .int 0, .int 0, .int 0, .int 0, .int 0, .int 0, .int 0] := by
      unfold oddRow
      rw [if_neg w0, if_neg w6, if_neg n6, if_neg n7, if_neg n8, if_pos hw]
      rfl
    rw [hy] at y
    have z : ∀ {X : Cx} {σ : Slots} {B : Hp} {j : Nat} {pos : Pos}, EvE X (.Constant (.int 0) j pos) σ B (IsD X.K (.int 0)) := EvP.intD e_int
    exact b_one (s_retY s6.i (e_tupD (ad_cons z (ad_cons z (ad_cons z (ad_cons z (ad_cons z (ad_cons z (ad_cons z (ad_cons z (ad_cons z ad_nil))))))))) (by show 9 ≤ 100000; decide)) ((((((y.go s1).go s2).go s3).go s4).go s5).go s6))
  have n9 : way ≠ 9 := fun e => eqI_false h (by rw [e]; rfl)
  refine b_cons (s_if (k := decide (V.int (way : Int) = V.int 10)) s6.i (t_eqV (e_var 2 rfl) e_int rfl) (fun h H7 s7 => ?_) fun h H7 s7 => b_nil ?_)
  · have hw : way = 10 := by have := eqI_true h; omega
    have hy : oddRow r p way = .none := by
      unfold oddRow
      rw [if_neg w0, if_neg w6, if_neg n6, if_neg n7, if_neg n8, if_neg n9, if_pos hw]
    rw [hy] at y
    exact b_one (s_retY s7.i (EvP.nonD e_non) (((((((y.go s1).go s2).go s3).go s4).go s5).go s6).go s7))
  have n10 : way ≠ 10 := fun e => eqI_false h (by rw [e]; rfl)
  refine b_cons (s_if (k := decide (V.int (way : Int) = V.int 11)) s7.i (t_eqV (e_var 2 rfl) e_int rfl) (fun h H8 s8 => ?_) fun h H8 s8 => b_nil ?_)
  · have hw : way = 11 := by have := eqI_true h; omega
    have hy : oddRow r p way = .str "" := by
      unfold oddRow
      rw [if_neg w0, if_neg w6, if_neg n6, if_neg n7, if_neg n8, if_neg n9, if_neg n10, if_pos hw]
    rw [hy] at y
    exact b_one (s_retY s8.i (EvP.strD e_str) ((((((((y.go s1).go s2).go s3).go s4).go s5).go s6).go s7).go s8))
  have n11 : way ≠ 11 := fun e => eqI_false h (by rw [e]; rfl)
  have hy : oddRow r p way = .int 5 := by
    unfold oddRow
    rw [if_neg w0, if_neg w6, if_neg n6, if_neg n7, if_neg n8, if_neg n9, if_neg n10, if_neg n11]
  rw [hy] at y
  exact b_one (s_retY s8.i (EvP.intD e_int) ((((((((y.go s1).go s2).go s3).go s4).go s5).go s6).go s7).go s8))
end
end K8

/-! The walk of _law_odd_scene. -/
namespace K8
open PySem PySem.Spec PyProof.Rows L2 Evl
section
variable {P : Program} {w : World} {K : PySem.W.Frag}
variable {mg : Str → Option Value} {base : Heap}
/-! ### _law_odd_scene -/
def preOddS (K : PySem.W.Frag) : List V → Hp → Rel → Prop := fun vs B R => ∃ (s : Scene) (way : Nat) (v : V), vs = [v, .int (way : Int)] ∧ Dp K B v (dScene s) ∧ s.1.length ≤ 100 ∧ R = IsD K (oddScene s way)
abbrev D_odd_scene (P : Program) (w : World) (K : PySem.W.Frag) (mg : Str → Option Value) (base : Heap) : Prop := Dfn P w K mg base CX0 1 "_law_odd_scene" ["_law_scene_here", "_law_way"] (Pure (preOddS K))
theorem ok_odd_scene {f : Addr} {fd : FuncData} (U : Bi mg) (F : Fun K "_law_odd_scene" "_law_odd_scene" s_l_odd_scene f fd) : FnOk P w K mg base CX0 1 f fd ["_law_scene_here", "_law_way"] (Pure (preOddS K)) := by
  refine pure_ok F sc_l_odd_scene (fun vs H R ⟨_, _, _, hv, _⟩ => by rw [hv]; rfl) fun cdv A outer s0 B H vs Q E R hr e0 h y => ?_
  obtain ⟨s, way, v, rfl, hv, hl, rfl⟩ := h
  refine b_cons (s_set 2 e0 (EvP.str (e_ixT (ds := [.str s.1, dRow s.2]) (d := .str s.1) (e_varD 0 rfl hv) e_int (atI_nat (j := 0) rfl))) (fun v1 B1 H1 s1 r1 => ?_) sc_l_odd_scene.nd)
  obtain rfl := r1 B1 (Ex.refl B1)
  refine b_cons (s_set 3 s1.i (e_ixT (ds := [.str s.1, dRow s.2]) (d := dRow s.2) (e_varD 0 rfl (dp_grow hv s1.b)) e_int (atI_nat (j := 1) rfl)) (fun v2 B2 H2 s2 r2 => ?_) sc_l_odd_scene.nd)
  have hr2 : Dp K B2 v2 (dRow s.2) := r2 B2 (Ex.refl B2)
  have y2 := (y.go s1).go s2
  clear y
  refine b_cons (s_if (k := decide (V.int (way : Int) = V.int 0)) s2.i (t_eqV (e_var 1 rfl) e_int rfl) (fun h H1 s1 => ?_) fun h H1 s1 => b_nil ?_)
  · have hw : way = 0 := by have := eqI_true h; omega
    have hy : oddScene s way = .list [.str s.1, dRow s.2] := by unfold oddScene; rw [if_pos hw]
    rw [hy] at y2
    exact b_one (s_retY s1.i (e_lstD (ad_cons (EvP.strD (e_var 2 rfl)) (ad_cons (e_varD 3 rfl hr2) ad_nil)) (by show 2 ≤ 100000; decide)) (y2.go s1))
  have n0 : way ≠ 0 := fun e => eqI_false h (by rw [e]; rfl)
  have y3 := y2.go s1
  clear y2
  refine b_cons (s_if (k := decide (V.int (way : Int) = V.int 1)) s1.i (t_eqV (e_var 1 rfl) e_int rfl) (fun h H1 s1 => ?_) fun h H1 s1 => b_nil ?_)
  · have hw : way = 1 := by have := eqI_true h; omega
    have hy : oddScene s way = .tuple [.str s.1, dRow s.2, dRow s.2] := by unfold oddScene; rw [if_neg n0, if_pos hw]
    rw [hy] at y3
    exact b_one (s_retY s1.i (e_tupD (ad_cons (EvP.strD (e_var 2 rfl)) (ad_cons (e_varD 3 rfl hr2) (ad_cons (e_varD 3 rfl hr2) ad_nil))) (by show 3 ≤ 100000; decide)) (y3.go s1))
  have n1 : way ≠ 1 := fun e => eqI_false h (by rw [e]; rfl)
  have y4 := y3.go s1
  clear y3
  refine b_cons (s_if (k := decide (V.int (way : Int) = V.int 2)) s1.i (t_eqV (e_var 1 rfl) e_int rfl) (fun h H1 s1 => ?_) fun h H1 s1 => b_nil ?_)
  · have hw : way = 2 := by have := eqI_true h; omega
    have hy : oddScene s way = .tuple [.str s.1] := by unfold oddScene; rw [if_neg n0, if_neg n1, if_pos hw]
    rw [hy] at y4
    exact b_one (s_retY s1.i (e_tupD (ad_cons (EvP.strD (e_var 2 rfl)) ad_nil) (by show 1 ≤ 100000; decide)) (y4.go s1))
  have n2 : way ≠ 2 := fun e => eqI_false h (by rw [e]; rfl)
  have y5 := y4.go s1
  clear y4
  refine b_cons (s_if (k := decide (V.int (way : Int) = V.int 3)) s1.i (t_eqV (e_var 1 rfl) e_int rfl) (fun h H1 s1 => ?_) fun h H1 s1 => b_nil ?_)
  · have hw : way = 3 := by have := eqI_true h; omega
    have hy : oddScene s way = .tuple [dRow s.2, .str s.1] := by unfold oddScene; rw [if_neg n0, if_neg n1, if_neg n2, if_pos hw]
    rw [hy] at y5
    exact b_one (s_retY s1.i (e_tupD (ad_cons (e_varD 3 rfl hr2) (ad_cons (EvP.strD (e_var 2 rfl)) ad_nil)) (by show 2 ≤ 100000; decide)) (y5.go s1))
  have n3 : way ≠ 3 := fun e => eqI_false h (by rw [e]; rfl)
  have y6 := y5.go s1
  clear y5
  refine b_cons (s_if (k := decide (V.int (way : Int) = V.int 4)) s1.i (t_eqV (e_var 1 rfl) e_int rfl) (fun h H1 s1 => ?_) fun h H1 s1 => b_nil ?_)
  · have hw : way = 4 := by have := eqI_true h; omega
    have hy : oddScene s way = .none := by unfold oddScene; rw [if_neg n0, if_neg n1, if_neg n2, if_neg n3, if_pos hw]
    rw [hy] at y6
    exact b_one (s_retY s1.i (EvP.nonD e_non) (y6.go s1))
  have n4 : way ≠ 4 := fun e => eqI_false h (by rw [e]; rfl)
  have y7 := y6.go s1
  clear y6
  refine b_cons (s_if (k := decide ((way : Int) < 15)) s1.i (t_ltI (e_var 1 rfl) e_int) (fun h H1 s1 => ?_) fun h H1 s1 => b_nil ?_)
  · have hw : way < 15 := by have := of_decide_eq_true h; omega
    have hy : oddScene s way = .tuple [(oddNames s.1).getD (way - 5) .none, dRow s.2] := by unfold oddScene; rw [if_neg n0, if_neg n1, if_neg n2, if_neg n3, if_neg n4, if_pos hw]
    rw [hy] at y7
    have lR : ("R" : Str).length = 1 := by decide +kernel
    have l1 : ("1" : Str).length = 1 := by decide +kernel
    have lS : (" " : Str).length = 1 := by decide +kernel
    have lU : ("_" : Str).length = 1 := by decide +kernel
    refine b_cons (s_set 4 s1.i (e_lstD (K := K) (ds := oddNames s.1) (ad_cons (EvP.strD e_str) (ad_cons (EvP.strD e_str) (ad_cons (EvP.strD e_str) (ad_cons (EvP.strD e_str) (ad_cons (EvP.strD (e_addS e_str (e_var 2 rfl) (by omega))) (ad_cons (EvP.strD (e_addS e_str (e_var 2 rfl) (by omega))) (ad_cons (EvP.strD (e_addS (e_var 2 rfl) e_str (by omega))) (ad_cons (EvP.strD (e_addS (e_var 2 rfl) e_str (by omega))) (ad_cons (EvP.strD e_str) (ad_cons (EvP.intD e_int) ad_nil)))))))))) (by show 10 ≤ 100000; decide)) (fun v3 B3 H3 s3 r3 => ?_) sc_l_odd_scene.nd)
    have h3 : Dp K B3 v3 (.list (oddNames s.1)) := r3 B3 (Ex.refl B3)
    have hlt : way - 5 < (oddNames s.1).length := by
      show way - 5 < 10
      omega
    have hat : atI (oddNames s.1) ((way : Int) - 5) = some ((oddNames s.1).getD (way - 5) .none) := by
      have e : ((way : Int) - 5) = ((way - 5 : Nat) : Int) := by omega
      rw [e]
      refine atI_nat ?_
      rw [List.getD_eq_getElem?_getD, List.getElem?_eq_getElem hlt]
      rfl
    exact b_one (s_retY s3.i (e_tupD (ad_cons (e_ixL (ds := oddNames s.1) (e_varD 4 rfl h3) (e_subI (e_var 1 rfl) e_int) hat) (ad_cons (e_varD 3 rfl (dp_grow hr2 s3.b)) ad_nil)) (by show 2 ≤ 100000; decide)) ((y7.go s1).go s3))
  have n15 : ¬ way < 15 := fun e => of_decide_eq_false h (by omega)
  have hy : oddScene s way = .tuple [] := by unfold oddScene; rw [if_neg n0, if_neg n1, if_neg n2, if_neg n3, if_neg n4, if_neg n15]
  rw [hy] at y7
  exact b_one (s_retY s1.i (e_tupD (ds := []) ad_nil (by decide)) (y7.go s1))
end
end K8

/-! _law_called. -/
namespace K8
open PySem PySem.Spec PyProof.Rows L2 Evl
/-- what catching InvalidScene needs -/
structure CF (K : PySem.W.Frag) (mg : Str → Option Value) (CE : Addr) : Prop where
  exm : PySem.W.exmOne K (.ref CE) (.ref CE) = some true
  xf : XfC K CE
  no : PySem.W.findIn K (.ref CE) "value" = some none
  at_ : mg "InvalidScene" = some (.ref CE)
theorem notW {m n : Nat} {s : Scene} (h : ScOk n s) (ne : m ≠ n) : isSceneD (.int (m : Int)) (dScene s) = false := by
  show (nameB s.1 && ((decide (1 ≤ (s.2.map PyData.int).length) && decide ((s.2.map PyData.int).length ≤ 8)) && (decide (((s.2.map PyData.int).length : Int) = (m : Int)) && _))) = false
  rw [List.length_map, h.row.len, decide_eq_false (show ¬ ((n : Int) = (m : Int)) by omega)]
  simp
theorem scene_nice {n : Nat} {s : Scene} (h : ScOk n s) : Nice 5 10000 (dScene s) := by
  obtain ⟨hs, hl⟩ := nm_ok h
  exact nice2 ((nice_str hs (by omega)).up (by decide) (by decide)) ((row_nice h.bd (by rw [h.row.len]; have := h.row.top; omega)).up (by decide) (by decide))
section
variable {X : Cx} {σ : Slots} {B B' H H' : Hp} {e : Expr} {pos : Pos} {D : Ends}
theorem s_exprW (h : wE X e σ H (fun _ H1 => D.nx σ H1)) (hs : swapsWith e none pos.line X.env = pure false := by rfl) : wS X (.Expr e pos) D σ H := w_ps (ps_expr pe_w hs) h
end
section
variable {P : Program} {w : World} {K : PySem.W.Frag} {mg : Str → Option Value} {base : Heap} {C CE : Addr}
def preCalled (K : PySem.W.Frag) : List V → Hp → Rel → Prop := fun vs B R => ∃ (k n : Nat) (s : Scene) (d e : PyData) (lone : Bool) (sv dv : V), vs = [.int (k : Int), .int (n : Int), sv, dv] ∧ Dp K B sv (dScene s) ∧ ScOk n s ∧ Dp K B dv d ∧ Odd n lone d ∧
  ((k ≤ 3 ∧ e = d) ∨ ((k = 4 ∨ k = 5) ∧ lone = true ∧ e = d) ∨ (k = 5 ∧ lone = false ∧ e = dScene s)) ∧ R = IsD K (.list [.str "refused", .str e.shown])
abbrev D_called (P : Program) (w : World) (K : PySem.W.Frag) (mg : Str → Option Value) (base : Heap) : Prop := DfnG P w K mg base 8 "_law_called" ["_law_number", "_law_width", "_law_scene_here", "_law_odd_here"] (Pure (preCalled K))
theorem ok_called {f : Addr} {fd : FuncData} (U : Bi mg) (UU : UM P w K mg base C CE) (CC : CF K mg CE) (F : Fun K "_law_called" "_law_called" s_l_called f fd) : FnG P w K mg base 8 f fd ["_law_number", "_law_width", "_law_scene_here", "_law_odd_here"] (Pure (preCalled K)) := by
  refine pure_okG F sc_l_called (fun vs H R ⟨_, _, _, _, _, _, _, _, hv, _⟩ => by rw [hv]; rfl) fun cdv A outer s0 B H vs Q E R hg hr e0 h y => ?_
  obtain ⟨k, n, s, d, e, lone, sv, dv, rfl, hsv, hs, hdv, hodd, hor, rfl⟩ := h
  have hun : (cxOf CX0 P w K mg base N_l_called "_law_called" (defScope s_l_called) f cdv A outer s0 H E).nox.A.units + 64 < cLine := hr.units
  have hne : Nice 5 10000 e ∧ (e = .none ∨ (∃ xs, e = .list xs) ∨ ∃ xs, e = .tuple xs) := by
    rcases hor with ⟨_, rfl⟩ | ⟨_, _, rfl⟩ | ⟨_, _, rfl⟩
    · exact ⟨hodd.nice, hodd.kind⟩
    · exact ⟨hodd.nice, hodd.kind⟩
    · exact ⟨scene_nice hs, .inr (.inr ⟨_, rfl⟩)⟩
  refine b_cons (s_tryAs (i := 4) sc_l_called.nd rfl rfl ⟨rfl, by decide, .inl CC.at_⟩ fun W pn xe tk kW => ?_)
  have fin : ∀ (B1 H1 : Hp), Step B H B1 H1 → ∀ (v : V) (xd : Addr), (∀ B2, Ex B1 B2 → Dp K B2 v e) → H1 xd = none → ∀ σ' : Slots, σ'.length = 5 → W (.ref CE) (some xd) σ' (upd H1 xd (.xd [("value", v)])) := fun B1 H1 st v xd hv hxd σ' hl => by
    refine kW _ _ _ _ CC.exm fun a oe pn' hz hf ha => ?_
    have sx : Step B H (upd B1 xd (.xd [("value", v)])) (upd H1 xd (.xd [("value", v)])) := st.trans (Step.new st.i hxd)
    have hset : (σ'.set 4 (some (.ref a)))[4]? = some (some (.ref a)) := List.getElem?_set_self (by omega)
    refine b_one (s_retY sx.i (e_lstD (K := K) (ds := [.str "refused", .str e.shown]) (ad_cons (EvP.strD e_str) (ad_cons (EvP.strD (e_repr (d := e) hg hun U.repr hne.1 (by decide) (by decide) hne.2 (EvP.d (e_exv (xd := xd) (fs := [("value", v)]) CC.xf CC.no hz hf (e_var 4 hset) upd_same rfl) (hv _ (Ex.new (ex_none st.i hxd)))))) ad_nil)) (by show 2 ≤ 100000; decide)) (y.go sx))
  have hx : Passes (L2.CX P w) ((cxOf CX0 P w K mg base N_l_called "_law_called" (defScope s_l_called) f cdv A outer s0 H E).nox.tr pn xe) (fun cls dd H' => ∀ σ' : Slots, σ'.length = 5 → W cls dd σ' H') := passes_len tk fun cls dd σ' H' hl h => h σ' hl
  have okn : okScene .none := ⟨small_non, fun xs e => by cases e⟩
  have badN : ∀ (ds : List PyData) (j : Nat), ds[j]? = some d → (∀ d' ∈ ds.take j, d' = dScene s) → BadSc n ds d := fun ds j h1 h2 => ⟨j, h1, hodd.notN, fun d' hd' => by rw [h2 d' hd']; exact hs.is (wOk_int n)⟩
  have sn : isSceneD .none (dScene s) = true := hs.is rfl
  have hsn := hs.row.len
  refine b_one (s_if (k := decide (V.int (k : Int) = V.int 0)) e0 (t_eqV (e_var 0 rfl) e_int rfl) (fun h H1 s1 => ?_) fun h H1 s1 => ?_)
  · have hk : k = 0 := by have := eqI_true h; omega
    have he : e = d := by
      rcases hor with ⟨_, e⟩ | ⟨h, _, _⟩ | ⟨h, _, _⟩
      · exact e
      · omega
      · omega
    subst he
    refine b_one (s_exprW (w_makeU UU.mku (hr.mono (by decide)) hx (ds := [dScene s, e, .none]) (e_var 1 rfl) (e_lstD (ad_cons (e_varD 2 rfl hsv) (ad_cons (e_varD 3 rfl hdv) (ad_cons (EvP.nonD e_non) ad_nil))) (by show 3 ≤ 100000; decide)) s1.i fun B2 H2 s2 => ⟨fun x hx => ?_, by show 3 ≤ 1000; decide, .inr ⟨e, badN _ 1 rfl (fun d' hd' => by simpa using hd'), fun v B3 H3 xd s3 hv hxd => fin B3 H3 ((s1.trans s2).trans s3) v xd hv hxd⟩⟩))
    simp only [List.not_mem_nil, or_false, List.mem_cons] at hx
    rcases hx with rfl | rfl | rfl
    · exact hs.okd
    · exact hodd.okd
    · exact okn
  have k0 : k ≠ 0 := fun e => eqI_false h (by rw [e]; rfl)
  refine b_one (s_if (k := decide (V.int (k : Int) = V.int 1)) s1.i (t_eqV (e_var 0 rfl) e_int rfl) (fun h H2 s2 => ?_) fun h H2 s2 => ?_)
  · have hk : k = 1 := by have := eqI_true h; omega
    have he : e = d := by
      rcases hor with ⟨_, e⟩ | ⟨h, _, _⟩ | ⟨h, _, _⟩
      · exact e
      · omega
      · omega
    subst he
    refine b_one (s_exprW (w_makeU UU.mku (hr.mono (by decide)) hx (ds := [e, dScene s]) (e_var 1 rfl) (e_lstD (ad_cons (e_varD 3 rfl hdv) (ad_cons (e_varD 2 rfl hsv) ad_nil)) (by show 2 ≤ 100000; decide)) s2.i fun B3 H3 s3 => ⟨fun x hx => ?_, by show 2 ≤ 1000; decide, .inr ⟨e, badN _ 0 rfl (fun d' hd' => by simp at hd'), fun v B4 H4 xd s4 hv hxd => fin B4 H4 (((s1.trans s2).trans s3).trans s4) v xd hv hxd⟩⟩))
    simp only [List.not_mem_nil, or_false, List.mem_cons] at hx
    rcases hx with rfl | rfl
    · exact hodd.okd
    · exact hs.okd
  have k1 : k ≠ 1 := fun e => eqI_false h (by rw [e]; rfl)
  have st2 := s1.trans s2
  refine b_one (s_if (k := decide (V.int (k : Int) = V.int 2)) s2.i (t_eqV (e_var 0 rfl) e_int rfl) (fun h H3 s3 => ?_) fun h H3 s3 => ?_)
  · have hk : k = 2 := by have := eqI_true h; omega
    have he : e = d := by
      rcases hor with ⟨_, e⟩ | ⟨h, _, _⟩ | ⟨h, _, _⟩
      · exact e
      · omega
      · omega
    subst he
    have hall : ∀ x ∈ dScene s :: [e, .none], okScene x := fun x hx => by
      simp only [List.not_mem_nil, or_false, List.mem_cons] at hx
      rcases hx with rfl | rfl | rfl
      · exact hs.okd
      · exact hodd.okd
      · exact okn
    refine b_one (s_exprW (w_of (d := dScene s) (ds := [e, .none]) UU.un hr hx (ad_cons (e_varD 2 rfl hsv) (ad_cons (e_varD 3 rfl hdv) (ad_cons (EvP.nonD e_non) ad_nil))) s3.i fun B4 H4 s4 => ⟨hall, by show 2 ≤ 900; decide, .inr ⟨s, rfl, sn, ?_⟩⟩))
    rw [hsn]
    exact ⟨hall, by show 3 ≤ 1000; decide, .inr ⟨e, badN _ 1 rfl (fun d' hd' => by simpa using hd'), fun v B5 H5 xd s5 hv hxd => fin B5 H5 (((st2.trans s3).trans s4).trans s5) v xd hv hxd⟩⟩
  have k2 : k ≠ 2 := fun e => eqI_false h (by rw [e]; rfl)
  have st3 := st2.trans s3
  refine b_one (s_if (k := decide (V.int (k : Int) = V.int 3)) s3.i (t_eqV (e_var 0 rfl) e_int rfl) (fun h H4 s4 => ?_) fun h H4 s4 => ?_)
  · have hk : k = 3 := by have := eqI_true h; omega
    have he : e = d := by
      rcases hor with ⟨_, e⟩ | ⟨h, _, _⟩ | ⟨h, _, _⟩
      · exact e
      · omega
      · omega
    subst he
    have hall : ∀ x ∈ dScene s :: [dScene s, e], okScene x := fun x hx => by
      simp only [List.not_mem_nil, or_false, List.mem_cons] at hx
      rcases hx with rfl | rfl | rfl
      · exact hs.okd
      · exact hs.okd
      · exact hodd.okd
    refine b_one (s_exprW (w_of (d := dScene s) (ds := [dScene s, e]) UU.un hr hx (ad_cons (e_varD 2 rfl hsv) (ad_cons (e_varD 2 rfl hsv) (ad_cons (e_varD 3 rfl hdv) ad_nil))) s4.i fun B5 H5 s5 => ⟨hall, by show 2 ≤ 900; decide, .inr ⟨s, rfl, sn, ?_⟩⟩))
    rw [hsn]
    exact ⟨hall, by show 3 ≤ 1000; decide, .inr ⟨e, badN _ 2 rfl (fun d' hd' => by simpa using hd'), fun v B6 H6 xd s6 hv hxd => fin B6 H6 (((st3.trans s4).trans s5).trans s6) v xd hv hxd⟩⟩
  have k3 : k ≠ 3 := fun e => eqI_false h (by rw [e]; rfl)
  have st4 := st3.trans s4
  refine b_one (s_if (k := decide (V.int (k : Int) = V.int 4)) s4.i (t_eqV (e_var 0 rfl) e_int rfl) (fun h H5 s5 => ?_) fun h H5 s5 => ?_)
  · have hk : k = 4 := by have := eqI_true h; omega
    obtain ⟨hlone, he⟩ : lone = true ∧ e = d := by
      rcases hor with ⟨h, e⟩ | ⟨h, a, b⟩ | ⟨h, _, _⟩
      · omega
      · exact ⟨a, b⟩
      · omega
    subst he
    exact b_one (s_exprW (w_of (d := e) (ds := []) UU.un hr hx (ad_cons (e_varD 3 rfl hdv) ad_nil) s5.i fun B6 H6 s6 => ⟨fun x hx => by rw [List.mem_singleton.mp hx]; exact hodd.okd, by show 0 ≤ 900; decide, .inl ⟨hodd.yes hlone, fun v B7 H7 xd s7 hv hxd => fin B7 H7 (((st4.trans s5).trans s6).trans s7) v xd hv hxd⟩⟩))
  have k4 : k ≠ 4 := fun e => eqI_false h (by rw [e]; rfl)
  have st5 := st4.trans s5
  have hall : ∀ x ∈ d :: [dScene s], okScene x := fun x hx => by
    simp only [List.not_mem_nil, or_false, List.mem_cons] at hx
    rcases hx with rfl | rfl
    · exact hodd.okd
    · exact hs.okd
  refine b_one (s_exprW (w_of (d := d) (ds := [dScene s]) UU.un hr hx (ad_cons (e_varD 3 rfl hdv) (ad_cons (e_varD 2 rfl hsv) ad_nil)) s5.i fun B6 H6 s6 => ⟨hall, by show 1 ≤ 900; decide, ?_⟩))
  rcases hor with ⟨h, _⟩ | ⟨_, hlone, he⟩ | ⟨_, hlone, he⟩
  · omega
  · subst he
    exact .inl ⟨hodd.yes hlone, fun v B7 H7 xd s7 hv hxd => fin B7 H7 ((st5.trans s6).trans s7) v xd hv hxd⟩
  · subst he
    obtain ⟨m, t, ht, hd, ne⟩ := hodd.no hlone
    have hsd : isSceneD .none d = true := by
      rw [hd]
      exact ht.is rfl
    refine .inr ⟨t, hd, hsd, ?_⟩
    rw [ht.row.len]
    refine ⟨hall, by show 2 ≤ 1000; decide, .inr ⟨dScene s, ⟨1, rfl, notW hs ne, fun d' hd' => ?_⟩, fun v B7 H7 xd s7 hv hxd => fin B7 H7 ((st5.trans s6).trans s7) v xd hv hxd⟩⟩
    have e1 : d' = d := by simpa using hd'
    rw [e1, hd]
    exact ht.is (wOk_int m)
end
end K8

/-! _law_refusals. -/
namespace K8
open PySem PySem.Spec PyProof.Rows L2 Evl
theorem dps_rep {K : PySem.W.Frag} {H : Hp} {vs : List V} {ds : List PyData} (g : DpAll K H vs ds) : ∀ m : Nat, DpAll K H (List.replicate m vs).flatten (List.replicate m ds).flatten
  | 0 => .nil
  | n + 1 => by
    simp only [List.replicate_succ, List.flatten_cons]
    exact dps_append g (dps_rep g n)
section
variable {X : Cx} {σ : Slots} {B B' H H' : Hp} {a b : Expr} {pos : Pos} {ds : List PyData} {m : Nat}
/-- a list times a number -/
theorem e_repL (ha : EvE X a σ B (IsTL X.K ds)) (hb : EvE X b σ B (IsV (.int (m : Int)))) (hm : m ≤ 1000) (hz : ds.length * m ≤ 100000) : EvE X (.BinOp a .Mult b pos) σ B (IsTL X.K (List.replicate m ds).flatten) :=
  e_op op_rep ha hb fun x y B1 _ r1 r2 H1 i1 Q q => by
    obtain ⟨l, vs, rfl, h1, h2⟩ := r1
    cases r2
    have hl := dps_len h2
    refine ⟨l, (m : Int), vs, rfl, rfl, i1 _ _ h1, by omega, by omega, ?_, fun p hp => q _ _ _ (Step.new i1 hp) fun B2 e2 => ⟨p, _, rfl, e2 p _ upd_same, ?_⟩⟩
    · rw [Int.toNat_natCast, hl, sizeLine_eq]
      omega
    · rw [Int.toNat_natCast]
      exact dps_rep (dps_grow h2 ((Ex.new (ex_none i1 hp)).trans e2)) m
end
def odds (s : Scene) (p : Nat) : List PyData := (List.range 16).map (oddScene s) ++ (List.range 13).map fun way => .tuple [.str s.1, oddRow s.2 p way]
def loneK (n k : Nat) : Bool := !(decide (k = 22) || decide (k = 23)) || ((decide (k = 22) && decide (n = 8)) || (decide (k = 23) && decide (n = 1)))
theorem odds_at {n : Nat} {s : Scene} (h : ScOk n s) {p : Nat} (hp : p < n) {k : Nat} (hk : k < 29) : ∃ d, (odds s p)[k]? = some d ∧ Odd n (loneK n k) d := by
  by_cases h16 : k < 16
  · refine ⟨oddScene s k, ?_, ?_⟩
    · unfold odds
      rw [List.getElem?_append_left (by rw [List.length_map, List.length_range]; exact h16), List.getElem?_map, List.getElem?_range h16]
      rfl
    · have e : loneK n k = true := by
        unfold loneK
        rw [decide_eq_false (show ¬ k = 22 by omega), decide_eq_false (show ¬ k = 23 by omega)]
        rfl
      rw [e]
      exact odd_scene h k
  · refine ⟨.tuple [.str s.1, oddRow s.2 p (k - 16)], ?_, ?_⟩
    · unfold odds
      rw [List.getElem?_append_right (by rw [List.length_map, List.length_range]; omega), List.length_map, List.length_range, List.getElem?_map, List.getElem?_range (by omega)]
      rfl
    · have e : loneK n k = loneB n (k - 16) := by
        unfold loneK loneB
        have e1 : decide (k = 22) = decide (k - 16 = 6) := decide_eq_decide.mpr (by omega)
        have e2 : decide (k = 23) = decide (k - 16 = 7) := decide_eq_decide.mpr (by omega)
        rw [e1, e2, Bool.or_assoc]
      rw [e]
      exact odd_row h hp (k - 16)
def refD (e : PyData) : PyData := .list [.str "refused", .str e.shown]
theorem ref_lay {k w : Nat} {e : PyData} (h : Nice k w e) : Lay 2 (refD e) := lay_lst fun x hx => by
  simp only [List.not_mem_nil, or_false, List.mem_cons] at hx
  rcases hx with rfl | rfl
  · exact lay_str (by decide +kernel)
  · exact lay_str (chOk_str (shown_ok e h.lay.1))
theorem ref_eqv (e : PyData) : PyData.eqv (refD e) (refD e) = true := by simp [refD, PyData.eqv, PyData.eqvAll]
section
variable {P : Program} {w : World} {K : PySem.W.Frag} {mg : Str → Option Value} {base : Heap} {C CE : Addr}
def preRef (K : PySem.W.Frag) (C : Addr) : List V → Hp → Rel → Prop := fun vs B R => ∃ (n : Nat) (L : List Scene) (s : Scene) (bv uv sv : V), vs = [bv, uv, sv] ∧ IsBag bv B ∧ IsU K C n L uv B ∧ UGood n L ∧ Dp K B sv (dScene s) ∧ ScOk n s ∧ R = IsV (.bl true)
abbrev D_refusals (P : Program) (w : World) (K : PySem.W.Frag) (mg : Str → Option Value) (base : Heap) (C : Addr) : Prop := DfnG P w K mg base 9 "_law_refusals" ["_law_bag_here", "_law_upset", "_law_scene_here"] (Pure (preRef K C))
theorem ok_refusals {f : Addr} {fd : FuncData} (U : Bi mg) (UU : UM P w K mg base C CE) (GT : D_take P w K mg base) (GO : D_odd P w K mg base) (GS : D_odd_scene P w K mg base) (GC : D_called P w K mg base) (F : Fun K "_law_refusals" "_law_refusals" s_l_refusals f fd) : FnG P w K mg base 9 f fd ["_law_bag_here", "_law_upset", "_law_scene_here"] (Pure (preRef K C)) := by
  refine pure_okG F sc_l_refusals (fun vs H R ⟨_, _, _, _, _, _, hv, _⟩ => by rw [hv]; rfl) fun cdv A outer s0 B H vs Q E R hg hr e0 h y => ?_
  obtain ⟨n, L, s, bv, uv, sv, rfl, hb, hu, hL, hsv, hs, rfl⟩ := h
  have hun : (cxOf CX0 P w K mg base N_l_refusals "_law_refusals" (defScope s_l_refusals) f cdv A outer s0 H E).nox.A.units + 64 < cLine := hr.units
  have hsn := hs.row.len
  have hn8 := hs.row.top
  have hn1 := hs.row.pos
  have hnm := nm_ok hs
  have hsv' : Dp K B sv (.tuple [.str s.1, dRow s.2]) := hsv
  have hlr : lenD (dRow s.2) = some n := by
    show some (s.2.map PyData.int).length = _
    rw [List.length_map, hsn]
  refine b_cons (s_set 3 e0 (e_len U.len (e_ixT (ds := [.str s.1, dRow s.2]) (d := dRow s.2) (e_varD 2 rfl hsv') e_int (atI_nat (j := 1) rfl)) hlr (by omega)) (fun v1 B1 H1 s1 r1 => ?_) sc_l_refusals.nd)
  obtain rfl := r1 B1 (Ex.refl B1)
  refine b_cons (s_set 4 s1.i (e_take GT (hr.mono (by decide)) ((e_var 0 rfl).imp fun v B1 e r => by cases r; exact bag_grow (bag_grow hb s1.b) e) (e_var 3 rfl) (by omega) (by omega)) (fun v2 B2 H2 s2 r2 => ?_) sc_l_refusals.nd)
  obtain ⟨pi, rfl, p0, p1⟩ := r2 B2 (Ex.refl B2)
  obtain ⟨p, hpp⟩ : ∃ p : Nat, pi = (p : Int) := ⟨pi.toNat, by omega⟩
  subst hpp
  have hp : p < n := by omega
  have st2 := s1.trans s2
  have hsv2 : Dp K B2 sv (.tuple [.str s.1, dRow s.2]) := dp_grow hsv' st2.b
  refine b_cons (s_setLcR (i := 5) (own := [("_law_way", 6)]) (j := 6) (fun k d => d = oddScene s k) sc_l_refusals.nd U.range e_int (by decide) rfl (fun k hk B3 e3 s' H0 C cl fp => ?_) s2.i fun q3 B3 H3 m0 m1 s3 r3 => ?_)
  · exact EvP.imp (e_callP (R := IsD K (oddScene s k)) GS (hr.mono (by decide)) (a_cons (e_varD 2 rfl (dp_grow hsv2 e3)) (a_one (e_var 6 rfl))) fun vs B1 e1 r => by
      obtain ⟨v1, vs1, rfl, r1, v2, vs2, rfl, r2, r3⟩ := r
      have e3 : vs2 = [] := r3
      cases r2
      subst e3
      exact ⟨s, k, v1, rfl, r1, by omega, rfl⟩) fun v B1 _ r => ⟨_, rfl, r⟩
  obtain ⟨ds3, hdl, hda, vs3, hv3, r3'⟩ := r3
  have hds3 : ds3 = (List.range 16).map (oddScene s) := by
    apply List.ext_getElem?; intro k
    by_cases hk : k < 16
    · have h1 : ds3[k]? = some ds3[k] := List.getElem?_eq_getElem (by omega)
      rw [h1, hda k _ h1, List.getElem?_map, List.getElem?_range hk]
      rfl
    · rw [List.getElem?_eq_none (by omega), List.getElem?_eq_none (by rw [List.length_map, List.length_range]; omega)]
  subst hds3
  have sj := s3.join m1 m0 hv3
  obtain ⟨B4, hB4⟩ : ∃ B4, B4 = upd B3 q3 (.lst vs3) := ⟨_, rfl⟩
  rw [← hB4] at sj
  have ht4 : IsTL K ((List.range 16).map (oddScene s)) (.ref q3) B4 := ⟨q3, vs3, rfl, by rw [hB4, upd_same], r3' B4 (by rw [hB4]; exact Ex.new m1)⟩
  have hsv4 := dp_grow hsv2 sj.b
  refine b_cons (s_set 5 sj.i (e_catL (ds := (List.range 16).map (oddScene s)) (es' := (List.range 13).map fun way => .tuple [.str s.1, oddRow s.2 p way]) (e_varT 5 rfl ht4) (EvN.dl (n_lcRF (own := [("_law_way", 6)]) (j := 6) (m := 13) (fun way => .tuple [.str s.1, oddRow s.2 p way]) sc_l_refusals.nd U.range e_int (by decide) rfl fun k hk B5 e5 s' H0 C cl fp => ?_)) (by rw [List.length_map, List.length_map, List.length_range, List.length_range]; decide)) (fun v5 B5 H5 s5 r5 => ?_) sc_l_refusals.nd)
  · exact e_tupD (ds := [.str s.1, oddRow s.2 p k]) (ad_cons (e_ixT (ds := [.str s.1, dRow s.2]) (d := .str s.1) (e_varD 2 rfl (dp_grow hsv4 e5)) e_int (atI_nat (j := 0) rfl)) (ad_cons (e_callP (R := IsD K (oddRow s.2 p k)) GO (hr.mono (by decide)) (a_cons (e_ixT (ds := [.str s.1, dRow s.2]) (d := dRow s.2) (e_varD 2 rfl (dp_grow hsv4 e5)) e_int (atI_nat (j := 1) rfl)) (a_cons (e_var 4 rfl) (a_one (e_var 6 rfl)))) fun vs B1 e1 r => by
      obtain ⟨v1, vs1, rfl, r1, v2, vs2, rfl, r2, v3, vs3, rfl, r3, r4⟩ := r
      have e4 : vs3 = [] := r4
      cases r2
      cases r3
      subst e4
      exact ⟨s.2, p, k, v1, rfl, r1, by omega, by omega, rfl⟩) ad_nil)) (by show 2 ≤ 100000; decide)
  have h5 : Dp K B5 v5 (.list (odds s p)) := isTL_d (r5 B5 (Ex.refl B5))
  have st5 := (st2.trans sj).trans s5
  refine b_cons (for_rS (i := 7) (fun k σ' => ∃ z7 z8 z9, σ' = [some bv, some uv, some sv, some (.int (n : Int)), some (.int (p : Int)), some v5, none, z7, z8, z9, none]) PassesOwn.never rfl (pg_name sc_l_refusals.nd rfl (.inl rfl)) U.range st5.i e_int (by decide) ⟨_, _, _, rfl⟩ ?_ ?_)
  · rintro k σ' B6 H6 hk st6 ⟨z7, z8, z9, rfl⟩
    have hk29 : k < 29 := by omega
    obtain ⟨d, hd, hodd⟩ := odds_at hs hp hk29
    have x6 : Ex B B6 := st5.b.trans st6.b
    refine b_cons (s_set 8 st6.i (e_ixL (ds := odds s p) (d := d) (e_varD 5 rfl (dp_grow h5 st6.b)) (e_var 7 rfl) (atI_nat hd)) (fun v7 B7 H7 s7 r7 => ?_) sc_l_refusals.nd)
    have h7 : Dp K B7 v7 d := r7 B7 (Ex.refl B7)
    have k22 : decide (V.int (k : Int) = V.int 22) = decide (k = 22) := decide_eq_decide.mpr ⟨fun h => by have := V.int.inj h; omega, fun h => by rw [h]; rfl⟩
    have k23 : decide (V.int (k : Int) = V.int 23) = decide (k = 23) := decide_eq_decide.mpr ⟨fun h => by have := V.int.inj h; omega, fun h => by rw [h]; rfl⟩
    have n8 : decide (V.int (n : Int) = V.int 8) = decide (n = 8) := decide_eq_decide.mpr ⟨fun h => by have := V.int.inj h; omega, fun h => by rw [h]; rfl⟩
    have e1' : decide (V.int (n : Int) = V.int 1) = decide (n = 1) := decide_eq_decide.mpr ⟨fun h => by have := V.int.inj h; omega, fun h => by rw [h]; rfl⟩
    have hinv : inV (.int (k : Int)) [.int 22, .int 23] = (decide (k = 22) || decide (k = 23)) := by
      have a1 : eqV (.int 22) (.int (k : Int)) = decide (k = 22) := by
        have : eqV (.int 22) (.int (k : Int)) = decide ((22 : Int) = (k : Int)) := rfl
        rw [this]
        exact decide_eq_decide.2 (by omega)
      have a2 : eqV (.int 23) (.int (k : Int)) = decide (k = 23) := by
        have : eqV (.int 23) (.int (k : Int)) = decide ((23 : Int) = (k : Int)) := rfl
        rw [this]
        exact decide_eq_decide.2 (by omega)
      unfold inV
      simp only [List.any_cons, List.any_nil, Bool.or_false, a1, a2]
    refine b_cons (s_set 9 s7.i (R := IsV (.bl (loneK n k))) (e_or (k1 := !(decide (k = 22) || decide (k = 23))) (k2 := (decide (k = 22) && decide (n = 8)) || (decide (k = 23) && decide (n = 1))) (e_cmp op_notIn_seq (e_var 7 rfl) (e_tup (RA := ACons (IsV (.int 22)) (ACons (IsV (.int 23)) ANil)) (a_cons e_int (a_one e_int)) fun vs B1 r => ?_) (fun x y B1 _ rx ry H1 i1 Q q => ?_) (by rfl)) fun _ => e_or (k1 := decide (k = 22) && decide (n = 8)) (k2 := decide (k = 23) && decide (n = 1)) (e_and (k1 := decide (k = 22)) (k2 := decide (n = 8)) (by rw [← k22]; exact e_eqV (e_var 7 rfl) e_int rfl) fun _ => e_one (by rw [← n8]; exact e_eqV (e_var 3 rfl) e_int rfl)) fun _ => e_one (e_and (k1 := decide (k = 23)) (k2 := decide (n = 1)) (by rw [← k23]; exact e_eqV (e_var 7 rfl) e_int rfl) fun _ => e_one (by rw [← e1']; exact e_eqV (e_var 3 rfl) e_int rfl))) (fun v8 B8 H8 s8 r8 => ?_) sc_l_refusals.nd)
    · obtain ⟨x1, y1, rfl, _, x2, y2, rfl, _, h5⟩ := r
      rw [show y2 = [] from h5]
      show 2 ≤ 100000
      decide
    · cases rx
      obtain ⟨p, vs, rfl, hp, x1, y1, rfl, rfl, x2, y2, rfl, rfl, h5⟩ := ry
      have h6 : y2 = [] := h5
      subst h6
      refine ⟨p, _, rfl, .inr (st_of (i1 _ _ hp)), rfl, rfl, ?_⟩
      rw [hinv]
      exact q.val i1
    obtain rfl := r8 B8 (Ex.refl B8)
    obtain ⟨lone, hlone⟩ : ∃ lone, lone = loneK n k := ⟨_, rfl⟩
    rw [← hlone] at hodd ⊢
    have st8 := s7.trans s8
    have x8 : Ex B B8 := x6.trans st8.b
    have h8 : Dp K B8 v7 d := dp_grow h7 s8.b
    have hsv8 : Dp K B8 sv (dScene s) := dp_grow hsv x8
    have hu8 := isU_grow hu x8
    have eD : inD n L d = false := by
      unfold inD
      rw [hodd.notN]
      rfl
    refine b_cons (s_if (k := false) s8.i ((t_inU UU.con (hr.mono (by decide)) (e_varD 8 rfl h8) ((e_var 1 rfl).imp fun v B1 e r => by cases r; exact isU_grow hu8 e) hL hodd.okd).is eD) (fun h => by cases h) fun _ H9 s9 => b_nil ?_)
    have hsh : SeqAt.shaped (.list [refD d, refD d, refD d, refD d]) = true := (lay_lst (k := 2) fun x hx => by
      simp only [List.not_mem_nil, or_false, List.mem_cons] at hx
      rcases hx with rfl | rfl | rfl | rfl <;> exact ref_lay hodd.nice).sh
    have hsh1 : ∀ {e : PyData}, Nice 5 10000 e → SeqAt.shaped (refD e) = true := fun h => (ref_lay h).sh
    have heq4 : PyData.eqv (.list [refD d, refD d, refD d, refD d]) (.list [refD d, refD d, refD d, refD d]) = true := by
      show PyData.eqvAll _ _ = true
      simp only [PyData.eqvAll, ref_eqv, Bool.and_self]
    have call : ∀ {X : Cx} {σ : Slots} {B' : Hp} {e : Expr} {es : List Expr} (k0 : Nat) (ee : PyData), ((k0 ≤ 3 ∧ ee = d) ∨ ((k0 = 4 ∨ k0 = 5) ∧ lone = true ∧ ee = d) ∨ (k0 = 5 ∧ lone = false ∧ ee = dScene s)) → ∀ vs B1, Ex B8 B1 → ACons (IsV (.int (k0 : Int))) (ACons (IsV (.int (n : Int))) (ACons (IsV sv) (ACons (IsV v7) ANil))) vs B1 → preCalled K vs B1 (IsD K (refD ee)) := fun k0 ee hk0 vs B1 e1 r => by
      obtain ⟨v1, vs1, rfl, r1, v2, vs2, rfl, r2, v3, vs3, rfl, r3, v4, vs4, rfl, r4, r5⟩ := r
      have e5 : vs4 = [] := r5
      cases r1
      cases r2
      cases r3
      cases r4
      subst e5
      exact ⟨k0, n, s, d, ee, lone, _, _, rfl, dp_grow hsv8 e1, hs, dp_grow h8 e1, hodd, hk0, rfl⟩
    refine b_cons (s_if (k := false) s9.i ((t_neD (d1 := .list [refD d, refD d, refD d, refD d]) (d2 := .list [refD d, refD d, refD d, refD d]) hun (EvP.imp (EvN.dl (n_lcRF (own := [("_law_number", 10)]) (j := 10) (m := 4) (fun _ => refD d) sc_l_refusals.nd U.range e_int (by decide) rfl fun k0 hk0 B9 e9 s' H0 C cl fp => ?_)) fun v B1 _ r => isTL_d r) (EvP.imp (e_repL (m := 4) (ds := [refD d]) (e_lstT (ad_cons (e_lstD (K := K) (ds := [.str "refused", .str d.shown]) (ad_cons (EvP.strD e_str) (ad_cons (EvP.strD (e_repr hg hun U.repr hodd.nice (by decide) (by decide) hodd.kind (e_varD 8 rfl h8))) ad_nil)) (by show 2 ≤ 100000; decide)) ad_nil) (by show 1 ≤ 100000; decide)) e_int (by decide) (by show 1 * 4 ≤ 100000; decide)) fun v B1 _ r => isTL_d r) hsh hsh).is (by rw [heq4]; rfl)) (fun h => by cases h) fun _ H10 s10 => b_nil ?_)
    · exact e_callG (R := IsD K (refD d)) GC hg (hr.mono (by decide)) (a_cons (e_var 10 rfl) (a_cons (e_var 3 rfl) (a_cons (e_var 2 rfl) (a_one (e_var 8 rfl))))) fun vs B1 e1 r => call (X := (cxOf CX0 P w K mg base N_l_refusals "_law_refusals" (defScope s_l_refusals) f cdv A outer s0 H E).nox) (σ := []) (B' := B1) (e := .Name "x" ⟨0, 0, 0, 0⟩) (es := []) k0 d (.inl ⟨by omega, rfl⟩) vs B1 (e9.trans e1) r
    have st10 := (st8.trans s9).trans s10
    refine b_cons (s_if (k := false) s10.i ((w_and (k1 := lone) (k2 := false) (t_bl (e_var 9 rfl)) fun hl => w_and1 ((t_neD (d1 := refD d) (d2 := refD d) hun (e_callG (R := IsD K (refD d)) GC hg (hr.mono (by decide)) (a_cons (R := IsV (.int ((4 : Nat) : Int))) e_int (a_cons (e_var 3 rfl) (a_cons (e_var 2 rfl) (a_one (e_var 8 rfl))))) fun vs B1 e1 r => call (X := (cxOf CX0 P w K mg base N_l_refusals "_law_refusals" (defScope s_l_refusals) f cdv A outer s0 H E).nox) (σ := []) (B' := B1) (e := .Name "x" ⟨0, 0, 0, 0⟩) (es := []) 4 d (.inr (.inl ⟨.inl rfl, hl, rfl⟩)) vs B1 e1 r) (e_lstD (K := K) (ds := [.str "refused", .str d.shown]) (ad_cons (EvP.strD e_str) (ad_cons (EvP.strD (e_repr hg hun U.repr hodd.nice (by decide) (by decide) hodd.kind (e_varD 8 rfl h8))) ad_nil)) (by show 2 ≤ 100000; decide)) (hsh1 hodd.nice) (hsh1 hodd.nice)).is (by rw [ref_eqv]; rfl))).t.is (Bool.and_false _)) (fun h => by cases h) fun _ H11 s11 => b_nil ?_)
    obtain ⟨ee, hee⟩ : ∃ ee, ee = if lone then d else dScene s := ⟨_, rfl⟩
    have hen : Nice 5 10000 ee ∧ (ee = .none ∨ (∃ xs, ee = .list xs) ∨ ∃ xs, ee = .tuple xs) := by
      rw [hee]
      cases lone with
      | true => exact ⟨hodd.nice, hodd.kind⟩
      | false => exact ⟨scene_nice hs, .inr (.inr ⟨_, rfl⟩)⟩
    have h5or : (5 ≤ 3 ∧ ee = d) ∨ ((5 = 4 ∨ 5 = 5) ∧ lone = true ∧ ee = d) ∨ (5 = 5 ∧ lone = false ∧ ee = dScene s) := by
      rw [hee]
      cases lone with
      | true => exact .inr (.inl ⟨.inr rfl, rfl, rfl⟩)
      | false => exact .inr (.inr ⟨rfl, rfl, rfl⟩)
    refine b_one (s_if (k := false) s11.i ((t_neD (d1 := refD ee) (d2 := refD ee) hun (e_callG (R := IsD K (refD ee)) GC hg (hr.mono (by decide)) (a_cons (R := IsV (.int ((5 : Nat) : Int))) e_int (a_cons (e_var 3 rfl) (a_cons (e_var 2 rfl) (a_one (e_var 8 rfl))))) fun vs B1 e1 r => call (X := (cxOf CX0 P w K mg base N_l_refusals "_law_refusals" (defScope s_l_refusals) f cdv A outer s0 H E).nox) (σ := []) (B' := B1) (e := .Name "x" ⟨0, 0, 0, 0⟩) (es := []) 5 ee h5or vs B1 e1 r) (e_lstD (K := K) (ds := [.str "refused", .str ee.shown]) (ad_cons (EvP.strD e_str) (ad_cons (EvP.strD (e_repr hg hun U.repr hen.1 (by decide) (by decide) hen.2 (e_if (k := lone) (t_bl (e_var 9 rfl)) (fun hl => ?_) fun hl => ?_))) ad_nil)) (by show 2 ≤ 100000; decide)) (hsh1 hen.1) (hsh1 hen.1)).is (by rw [ref_eqv]; rfl)) (fun h => by cases h) fun _ H12 s12 => b_nil ⟨B8, ⟨_, _, _, rfl⟩, (st10.trans s11).trans s12⟩)
    · rw [hee, hl]
      exact e_varD 8 rfl h8
    · rw [hee, hl]
      exact e_varD 2 rfl hsv8
  · rintro σ' B6 H6 st6 ⟨z7, z8, z9, rfl⟩
    exact b_one (s_retB st6.i ((y.go st5).go st6) rfl)
end
end K8

/-! What the law's own body needs: a list that leaves the base again, loops over lists not told, lists of instances. -/
namespace K8
open PySem PySem.Spec PyProof.Rows L2 Evl
/-! ### an object leaves the base -/
def del (B : Hp) (q : Addr) : Hp := fun a => if a = q then none else B a
theorem del_same {B : Hp} {q : Addr} : del B q q = none := by unfold del; rw [if_pos rfl]
theorem del_ne {B : Hp} {q a : Addr} (h : a ≠ q) : del B q a = B a := by unfold del; rw [if_neg h]
theorem del_ex {B : Hp} {q : Addr} : Ex (del B q) B := fun a o h => by
  by_cases e : a = q
  · rw [e, del_same] at h
    cases h
  · rw [del_ne e] at h
    exact h
theorem ex_del {B B1 : Hp} {q : Addr} {o : HO} (n : B q = none) (e : Ex (upd B q o) B1) : Ex B (del B1 q) := fun a u h => by
  have ne : a ≠ q := ne_of_none h n
  rw [del_ne ne]
  exact e a u (by rw [upd_ne ne]; exact h)
theorem Step.drop {B H B1 H1 : Hp} {q : Addr} {o : HO} (n : B q = none) (s : Step (upd B q o) H B1 H1) : Step B H (del B1 q) H1 :=
  ⟨ex_del n s.b, del_ex.trans s.i, s.h, fun a u h1 h2 => by
    by_cases e : a = q
    · rw [e]
      exact del_same
    · rw [del_ne e]
      exact s.off a u (by rw [upd_ne e]; exact h1) h2⟩
/-- no list in it -/
inductive Flat : PyData → Prop
  | non : Flat .none
  | bl (b : Bool) : Flat (.bool b)
  | int (i : Int) : Flat (.int i)
  | str (s : Str) : Flat (.str s)
  | tup {ds : List PyData} : (∀ d ∈ ds, Flat d) → Flat (.tuple ds)
mutual
theorem dp_del {K : PySem.W.Frag} {B : Hp} {q : Addr} {xs : List V} (hq : B q = some (.lst xs)) : ∀ (d : PyData) (v : V), Flat d → Dp K B v d → Dp K (del B q) v d
  | .none, _, _, h => by cases h; exact .non
  | .bool b, _, _, h => by cases h; exact .bl b
  | .int i, _, _, h => by cases h; exact .int i
  | .str s, _, _, h => by cases h; exact .str s
  | .list ds, _, f, h => by cases f
  | .tuple ds, _, f, h => by
    cases f with
    | tup f =>
      cases h with
      | tup h1 h2 =>
        rename_i a ys
        refine .tup ?_ (dps_del hq ds ys f h2)
        rcases h1 with (h1 | ⟨o, h1⟩) | h1
        · have ne : a ≠ q := fun e => by
            rw [e, hq] at h1
            cases h1
          exact .inl (.inl (by rw [del_ne ne]; exact h1))
        · have ne : a ≠ q := fun e => by
            rw [e, hq] at h1
            cases h1
          exact .inl (.inr ⟨o, by rw [del_ne ne]; exact h1⟩)
        · exact .inr h1
  | .dict _, _, f, _ => by cases f
theorem dps_del {K : PySem.W.Frag} {B : Hp} {q : Addr} {xs : List V} (hq : B q = some (.lst xs)) : ∀ (ds : List PyData) (vs : List V), (∀ d ∈ ds, Flat d) → DpAll K B vs ds → DpAll K (del B q) vs ds
  | [], _, _, h => by cases h; exact .nil
  | d :: ds, _, f, h => by
    cases h with
    | cons h1 h2 => exact .cons (dp_del hq d _ (f d List.mem_cons_self) h1) (dps_del hq ds _ (fun x hx => f x (List.mem_cons_of_mem _ hx)) h2)
end
theorem flat_row (r : List Int) : Flat (dRow r) := .tup fun d hd => by
  obtain ⟨i, _, rfl⟩ := List.mem_map.mp hd
  exact .int i
theorem flat_scene (s : Scene) : Flat (dScene s) := .tup fun d hd => by
  simp only [List.mem_cons, List.not_mem_nil, or_false] at hd
  rcases hd with rfl | rfl
  · exact .str _
  · exact flat_row _
theorem flat_scenes (L : List Scene) : ∀ d ∈ L.map dScene, Flat d := fun d hd => by
  obtain ⟨s, _, rfl⟩ := List.mem_map.mp hd
  exact flat_scene s
theorem isU_del {K : PySem.W.Frag} {C : Addr} {n : Nat} {L : List Scene} {v : V} {B : Hp} {q : Addr} {xs : List V} (hq : B q = some (.lst xs)) (h : IsU K C n L v B) : IsU K C n L v (del B q) := by
  obtain ⟨x, dx, kv, h1, h2, h3⟩ := h
  have ne : x ≠ q := fun e => by
    rw [e, hq] at h2
    cases h2
  exact ⟨x, dx, kv, h1, by rw [del_ne ne]; exact h2, dp_del hq _ _ (.tup (flat_scenes L)) h3⟩
section
variable {X : Cx} {σ : Slots} {B B' H H' : Hp} {R R' Ra Rb : Rel} {e a b c l o : Expr} {es rest : List Expr} {pos p pos2 apos : Pos} {x y z v : V} {D : Ends} {ds : List PyData} {body : List Stmt} {RA RB : RelA}
/-- over a list of data that is not told -/
theorem for_lE {α : Type} {i : Nat} {tg : Expr} (PL : List α → Prop) (enc : α → PyData) (P : List α → Nat → Slots → Hp → Hp → Prop) (hp : PassesOwn (model X.prog X.w) X.A X.env X.xe) (hc : X.calm = true) (hg : PG X tg (gName i)) (e0 : Ex B H) (src : EvE X l σ B (fun v B1 => ∃ L, PL L ∧ Dp X.K B1 v (.list (L.map enc))))
    (h0 : ∀ L B1 H1, PL L → Step B H B1 H1 → P L 0 σ B1 H1)
    (ht : ∀ L (j : Nat) a v σ' B' H', PL L → L[j]? = some a → Ex B B' → Ex B' H' → Dp X.K B' v (enc a) → P L j σ' B' H' → wB X body (turn D fun σ3 B3 H3 => P L (j + 1) σ3 B3 H3 ∧ Ex B' B3 ∧ Ex B3 H3) (σ'.set i (some v)) H') (hd : ∀ L σ' B' H', PL L → Ex B B' → Ex B' H' → P L L.length σ' B' H' → D.nx σ' H')
    (hs : ∀ x, foldedSetIterable l X.env x = pure x := by intro _; rfl) : wS X (.For tg l body [] pos) D σ H :=
  s_forL hp hc hg e0 src (fun v B1 H1 s1 r => by
    obtain ⟨L, hL, r1⟩ := r B1 (Ex.refl B1)
    cases r1 with
    | lst hq ha =>
      rename_i a xs
      have hl : xs.length = L.length := by rw [dps_len ha, List.length_map]
      refine ⟨a, xs, rfl, ex_l s1.i hq, fun j σ' H' => ∃ B', P L j σ' B' H' ∧ Ex B1 B' ∧ Ex B' H', ⟨B1, h0 L B1 H1 hL s1, Ex.refl B1, s1.i⟩, fun j σ' H' _ ⟨B', _, q1, q2⟩ => ex_l (q1.trans q2) hq, fun j x σ' H' hx ⟨B', q, q1, q2⟩ => ?_, fun σ' H' ⟨B', q, q1, q2⟩ => hd L σ' B' H' hL (s1.b.trans q1) q2 (hl ▸ q)⟩
      obtain ⟨d, hd1, hd2⟩ := dps_get ha hx
      rw [List.getElem?_map] at hd1
      obtain ⟨w, hw, rfl⟩ := Option.map_eq_some_iff.mp hd1
      exact wB_imp (ht L j w x σ' B' H' hL hw (s1.b.trans q1) q2 (dp_grow hd2 q1) q) (fun _ _ ⟨B3, p, z1, z2⟩ => ⟨B3, p, q1.trans z1, z2⟩) (fun _ _ q => q) (fun _ _ q => q) (fun _ _ ⟨B3, p, z1, z2⟩ => ⟨B3, p, q1.trans z1, z2⟩)) hs
/-- xs.append(e), e a new list -/
theorem s_appN {lx : Addr} {xs : List V} {o e : Expr} {apos cpos : Pos} {RN : Addr → Hp → Hp → Prop} (e0 : Ex B H) (ho : EvE X o σ B (IsV (.ref lx))) (h : ∀ B' H', Ex B B' → Ex H H' → Ex B' H' → ∀ Q : VK, (∀ p B1 H1, H' p = none → B1 p = none → Step B' H' B1 H1 → RN p B1 H1 → Q (.ref p) H1) → wE X e σ H' Q) (hl : H lx = some (.lst xs)) (hz : xs.length < 100000)
    (k : ∀ p B1 H1, H p = none → B1 p = none → Step B H B1 H1 → RN p B1 H1 → D.nx σ (upd H1 lx (.lst (xs ++ [.ref p]))))
    (hp : ∀ {to : TE} {t : TA}, PE X o to → PA X [e] t → PE X (.Call (.Attribute o "append" apos) [e] [] cpos) (tBM X.K "list" rAppend to t) := by exact fun h1 h2 => pe_bm PySem.F.plainAttrs_list PySem.F.slot_list_append PySem.F.type_list_append mt_append h1 h2)
    (hs : swapsWith (.Call (.Attribute o "append" apos) [e] [] cpos) none pos.line X.env = pure false := by rfl) (he : starEach [e] X.env = (false, eval e X.env) :: starEach [] X.env := by rfl) :
    wS X (.Expr (.Call (.Attribute o "append" apos) [e] [] cpos) pos) D σ H :=
  w_ps (ps_expr (hp pe_w (pa_cons pe_w pa_nil he)) hs) (ho.run e0 fun v1 B1 H1 s1 r1 => by
    have ev : v1 = .ref lx := r1 B1 (Ex.refl B1)
    subst ev
    exact ⟨.inl ⟨rfl, xs, sq_of (s1.h lx _ hl)⟩, h B1 H1 s1.b s1.h s1.i _ fun p B2 H2 n0 n1 s2 r2 => ⟨lx, xs, .ref p, rfl, rfl, s2.h lx _ (s1.h lx _ hl), sz_lt hz, k p B2 H2 (fresh_back s1.h n0) n1 (s1.trans s2) r2⟩⟩)
theorem appN_of {RN : Addr → Hp → Hp → Prop} (h : ∀ B', Ex B B' → EvNE X e σ B' RN) : ∀ B' H', Ex B B' → Ex H H' → Ex B' H' → ∀ Q : VK, (∀ p B1 H1, H' p = none → B1 p = none → Step B' H' B1 H1 → RN p B1 H1 → Q (.ref p) H1) → wE X e σ H' Q := fun B' H' e1 _ e3 Q q => h B' e1 H' e3 Q q
/-- a list and more, a new list -/
theorem n_catV {lx : Addr} {xs : List V} {k : Nat} (ha : EvE X a σ B (IsV (.ref lx))) (hl : B lx = some (.lst xs)) (hb : EvE X b σ B (fun v B1 => ∃ p vs, v = .ref p ∧ B1 p = some (.lst vs) ∧ RA vs B1)) (hk : ∀ vs B1, RA vs B1 → vs.length ≤ k) (hz : xs.length + k ≤ 100000) (hRA : ∀ vs B1 B2, Ex B1 B2 → RA vs B1 → RA vs B2) : EvNE X (.BinOp a .Add b pos) σ B (fun p B1 H1 => ∃ vs, H1 p = some (.lst (xs ++ vs)) ∧ RA vs B1) :=
  of_peN (pe_op op_cat pe_w pe_w) fun H e0 Q q => ha H e0 _ fun x B1 H1 s1 r1 => (hb.mono s1.b) H1 s1.i _ fun y B2 H2 s2 r2 => by
    have ex : x = .ref lx := r1 B1 (Ex.refl B1)
    subst ex
    obtain ⟨p, vs, rfl, h1, h2⟩ := r2 B2 (Ex.refl B2)
    have st := s1.trans s2
    refine ⟨lx, p, xs, vs, rfl, rfl, st.i _ _ (st.b _ _ hl), s2.i _ _ h1, sz_of (by have := hk vs B2 h2; omega), fun l hl2 => q l B2 _ (fresh_back st.h hl2) (ex_none st.i hl2) (st.trans (Step.mut st.i hl2)) ⟨vs, upd_same, h2⟩⟩
end
end K8

/-! The law's sets and upsets, plain. -/
namespace K8
open PySem PySem.Spec PyProof.Rows L2 Evl
theorem kept_le {n : Nat} {L : List Scene} (h : ScenesOk n L) : (keptF L).length ≤ L.length :=
  nodup_len _ _ (sorted_nodup (lt_irrefl BB) (keptF_ok h).canon.sorted) (keptF_ok h).sub
theorem joins_len (L M : List Scene) : (joins L M).length ≤ L.length * M.length := by
  unfold joins
  induction L with
  | nil => simp
  | cons s L ih =>
    have h1 : (rowsAt M s.1).length ≤ M.length := by
      unfold rowsAt
      rw [List.length_map]
      exact List.length_filter_le _ _
    rw [List.flatMap_cons, List.length_append, List.length_map, List.length_cons, Nat.add_mul]
    omega
/-- the law's frame: names, base, reach -/
structure Frm (n m : Nat) (ps : List Str) (r : List Int) : Prop where
  pos : 1 ≤ n
  top : n ≤ 8
  base : GoodBase n r
  m6 : m ≤ 6
  small : (m + 1) ^ n ≤ 256
  names : ∀ p ∈ ps, nameB p = true
  nd : ps.Nodup
  few : ps.length ≤ 3
section
variable {n m : Nat} {ps : List Str} {r : List Int}
noncomputable abbrev cubeOf (m : Nat) (ps : List Str) (r : List Int) : List Scene := cube m (srtS ps) r
theorem Frm.bnd (F : Frm n m ps r) : ∀ x ∈ r, 0 ≤ x ∧ x + (m : Int) < BB := fun x hx => by
  obtain ⟨h1, h2⟩ := F.base.2 x hx
  have := F.m6
  have e : BB = 10 ^ 31 := rfl
  rw [e]
  omega
theorem Frm.mem (F : Frm n m ps r) {s : Scene} : s ∈ cubeOf m ps r ↔ s.1 ∈ ps ∧ InBox (m : Int) r s.2 := by
  rw [mem_cube, (srtS_ok ps).2]
theorem Frm.scOk (F : Frm n m ps r) {s : Scene} (h : s ∈ cubeOf m ps r) : ScOk n s := by
  obtain ⟨h1, h2⟩ := F.mem.mp h
  have hb := inBox_bd h2 F.bnd
  exact ⟨F.names _ h1, ⟨(inBox_len h2).trans F.base.1, F.pos, F.top, fun x hx => (hb x hx).1⟩, hb⟩
theorem Frm.sorted (F : Frm n m ps r) : (cubeOf m ps r).Pairwise (Lt BB) := cube_sorted BB_pos (srtS_ok ps).1 F.bnd
theorem Frm.len (F : Frm n m ps r) : (cubeOf m ps r).length ≤ 768 := by
  have hs3 : (srtS ps).length ≤ 3 := by
    have h1 := nodup_len (srtS ps) ps (sorted_nodup slt_irrefl (srtS_ok ps).1) fun x hx => ((srtS_ok ps).2 x).mp hx
    have := F.few
    omega
  have : ∀ l : List Str, (cube m l r).length = l.length * (cubeR m r).length := fun l => by
    induction l with
    | nil => simp [cube]
    | cons a l ih =>
      unfold cube at ih ⊢
      rw [List.flatMap_cons, List.length_append, ih, List.length_map, List.length_cons, Nat.add_mul]
      omega
  show (cube m (srtS ps) r).length ≤ 768
  rw [this, cubeR_len, F.base.1]
  exact Nat.mul_le_mul hs3 F.small
/-- scenes of the cube, not many -/
structure InC (n m : Nat) (ps : List Str) (r : List Int) (X : List Scene) : Prop where
  sub : ∀ s ∈ X, s ∈ cubeOf m ps r
  few : X.length < 64
theorem InC.good (F : Frm n m ps r) {X : List Scene} (h : InC n m ps r X) : UGood n X := ⟨F.pos, F.top, h.few, fun s hs => F.scOk (h.sub s hs)⟩
theorem InC.kept (F : Frm n m ps r) {X : List Scene} (h : InC n m ps r X) : InC n m ps r (keptF X) := ⟨fun s hs => h.sub s ((keptF_ok (h.good F).sc).sub s hs), keptF_len (h.good F).sc⟩
theorem InC.up (F : Frm n m ps r) {X : List Scene} (h : InC n m ps r X) (a : Scene) : Up (keptF X) a ↔ Up X a := (keptF_ok (h.good F).sc).up a
noncomputable abbrev setOf (m : Nat) (ps : List Str) (r : List Int) (X : List Scene) : List Scene := (cubeOf m ps r).filter fun s => decide (Up X s)
theorem setOf_congr {X Y : List Scene} (h : ∀ a, Up X a ↔ Up Y a) : setOf m ps r X = setOf m ps r Y := List.filter_congr fun s _ => decide_eq_decide.mpr (h s)
theorem least_of (F : Frm n m ps r) {X : List Scene} (h : InC n m ps r X) : lawLeast (setOf m ps r X) = keptF X := by
  rw [← setOf_congr (h.up F)]
  exact lawLeast_eq (b := r) (m := (m : Int)) F.sorted (fun s hs => (F.mem.mp hs).2) (fun s hs q hq => F.mem.mpr ⟨(F.mem.mp hs).1, hq⟩) (keptF_ok (h.good F).sc).canon (h.kept F).sub
theorem set_len (F : Frm n m ps r) (X : List Scene) : (setOf m ps r X).length ≤ 768 := Nat.le_trans (List.length_filter_le _ _) F.len
theorem set_nd (F : Frm n m ps r) (X : List Scene) : (setOf m ps r X).Nodup := sorted_nodup (lt_irrefl BB) (F.sorted.filter _)
theorem set_mem {X : List Scene} {s : Scene} : s ∈ setOf m ps r X ↔ s ∈ cubeOf m ps r ∧ Up X s := by
  rw [List.mem_filter]
  simp
theorem two_ok (F : Frm n m ps r) {X : List Scene} (h : InC n m ps r X) : TwoOk n (keptF X, setOf m ps r X) :=
  ⟨(h.kept F).good F, set_nd F X, Nat.le_trans (set_len F X) (by decide), fun s hs => F.scOk (set_mem.mp hs).1, least_of F h⟩
theorem two_inj (F : Frm n m ps r) {X Y : List Scene} (h : InC n m ps r X) (k : InC n m ps r Y) (e : keptF X = keptF Y) : setOf m ps r X = setOf m ps r Y :=
  setOf_congr fun a => by rw [← h.up F a, ← k.up F a, e]
/-- X and Y together -/
theorem InC.app (F : Frm n m ps r) {X Y : List Scene} (h : InC n m ps r X) (k : InC n m ps r Y) (hf : X.length + Y.length < 64) : InC n m ps r (X ++ Y) := ⟨fun s hs => by
  rcases List.mem_append.mp hs with hs | hs
  · exact h.sub s hs
  · exact k.sub s hs, by rw [List.length_append]; exact hf⟩
theorem InC.joins (F : Frm n m ps r) {X Y : List Scene} (h : InC n m ps r X) (k : InC n m ps r Y) (hf : X.length * Y.length < 64) : InC n m ps r (joins X Y) := ⟨fun s hs => by
  obtain ⟨a, ha, b, hb, e1, rfl⟩ := mem_joins.mp hs
  obtain ⟨p1, b1⟩ := F.mem.mp (h.sub a ha)
  obtain ⟨p2, b2⟩ := F.mem.mp (k.sub b hb)
  exact F.mem.mpr ⟨p1, joinR_box b1 b2⟩, Nat.lt_of_le_of_lt (joins_len X Y) hf⟩
theorem InC.width (F : Frm n m ps r) {X : List Scene} (h : InC n m ps r X) : ∀ s ∈ X, s.2.length = n := fun s hs => (F.scOk (h.sub s hs)).row.len
/-! the six -/
variable {L0 L1 L2 : List Scene}
noncomputable abbrev X3 (L0 L1 : List Scene) : List Scene := keptF L0 ++ keptF L1
noncomputable abbrev X4 (L0 L1 : List Scene) : List Scene := joins (keptF L0) (keptF L1)
noncomputable abbrev X5 (L0 L1 L2 : List Scene) : List Scene := joins (keptF (keptF L1 ++ keptF L0)) (keptF L2)
structure Ls (n m : Nat) (ps : List Str) (r : List Int) (L0 L1 L2 : List Scene) : Prop where
  c0 : InC n m ps r L0
  c1 : InC n m ps r L1
  c2 : InC n m ps r L2
  l0 : L0.length ≤ 5
  l1 : L1.length ≤ 3
  l2 : L2.length ≤ 5
  one : 1 ≤ L1.length
theorem Ls.x3 (F : Frm n m ps r) (h : Ls n m ps r L0 L1 L2) : InC n m ps r (X3 L0 L1) := (h.c0.kept F).app F (h.c1.kept F) (by
  have a := kept_le (h.c0.good F).sc
  have b := kept_le (h.c1.good F).sc
  have := h.l0
  have := h.l1
  omega)
theorem Ls.x3' (F : Frm n m ps r) (h : Ls n m ps r L0 L1 L2) : InC n m ps r (X3 L1 L0) ∧ (X3 L1 L0).length ≤ 8 := by
  have a := kept_le (h.c0.good F).sc
  have b := kept_le (h.c1.good F).sc
  have := h.l0
  have := h.l1
  refine ⟨(h.c1.kept F).app F (h.c0.kept F) (by omega), ?_⟩
  show (keptF L1 ++ keptF L0).length ≤ 8
  rw [List.length_append]
  omega
theorem Ls.x4 (F : Frm n m ps r) (h : Ls n m ps r L0 L1 L2) : InC n m ps r (X4 L0 L1) := (h.c0.kept F).joins F (h.c1.kept F) (by
  have a := kept_le (h.c0.good F).sc
  have b := kept_le (h.c1.good F).sc
  have := h.l0
  have := h.l1
  have : (keptF L0).length * (keptF L1).length ≤ 5 * 3 := Nat.mul_le_mul (by omega) (by omega)
  omega)
theorem Ls.x5 (F : Frm n m ps r) (h : Ls n m ps r L0 L1 L2) : InC n m ps r (X5 L0 L1 L2) := ((h.x3' F).1.kept F).joins F (h.c2.kept F) (by
  have a := kept_le ((h.x3' F).1.good F).sc
  have a2 := (h.x3' F).2
  have b := kept_le (h.c2.good F).sc
  have := h.l2
  have : (keptF (X3 L1 L0)).length * (keptF L2).length ≤ 8 * 5 := Nat.mul_le_mul (by omega) (by omega)
  omega)
theorem Ls.up3 (F : Frm n m ps r) (h : Ls n m ps r L0 L1 L2) (a : Scene) : Up (X3 L0 L1) a ↔ Up (L0 ++ L1) a := by
  rw [up_append, up_append, h.c0.up F, h.c1.up F]
theorem Ls.set3 (F : Frm n m ps r) (h : Ls n m ps r L0 L1 L2) : setOf m ps r (L0 ++ L1) = setOf m ps r (X3 L0 L1) := setOf_congr fun a => (h.up3 F a).symm
theorem Ls.set4 (F : Frm n m ps r) (h : Ls n m ps r L0 L1 L2) : ((setOf m ps r L0).filter fun s => decide (Up L1 s)) = setOf m ps r (X4 L0 L1) := by
  rw [List.filter_filter]
  refine List.filter_congr fun s _ => ?_
  rw [← Bool.decide_and]
  refine decide_eq_decide.mpr ?_
  rw [up_joins ((h.c0.kept F).width F) ((h.c1.kept F).width F), h.c0.up F, h.c1.up F]
  exact ⟨fun ⟨a, b⟩ => ⟨b, a⟩, fun ⟨a, b⟩ => ⟨b, a⟩⟩
theorem Ls.set5 (F : Frm n m ps r) (h : Ls n m ps r L0 L1 L2) : ((setOf m ps r (L0 ++ L1)).filter fun s => decide (Up L2 s)) = setOf m ps r (X5 L0 L1 L2) := by
  rw [List.filter_filter]
  refine List.filter_congr fun s _ => ?_
  rw [← Bool.decide_and]
  refine decide_eq_decide.mpr ?_
  rw [up_joins (((h.x3' F).1.kept F).width F) ((h.c2.kept F).width F), (h.x3' F).1.up F, h.c2.up F, up_append, up_append, h.c0.up F, h.c1.up F]
  exact ⟨fun ⟨a, b⟩ => ⟨b.symm, a⟩, fun ⟨a, b⟩ => ⟨b, a.symm⟩⟩
/-- the six lists that the six upsets and sets are of -/
noncomputable def sixX (L0 L1 L2 : List Scene) : List (List Scene) := [L0, L1, L2, X3 L0 L1, X4 L0 L1, X5 L0 L1 L2]
theorem Ls.six (F : Frm n m ps r) (h : Ls n m ps r L0 L1 L2) : ∀ X ∈ sixX L0 L1 L2, InC n m ps r X := fun X hX => by
  simp only [sixX, List.mem_cons, List.not_mem_nil, or_false] at hX
  rcases hX with rfl | rfl | rfl | rfl | rfl | rfl
  · exact h.c0
  · exact h.c1
  · exact h.c2
  · exact h.x3 F
  · exact h.x4 F
  · exact h.x5 F
noncomputable def sixT (m : Nat) (ps : List Str) (r : List Int) (L0 L1 L2 : List Scene) : List Two := (sixX L0 L1 L2).map fun X => (keptF X, setOf m ps r X)
theorem Ls.sixOk (F : Frm n m ps r) (h : Ls n m ps r L0 L1 L2) : ∀ t ∈ sixT m ps r L0 L1 L2, TwoOk n t := fun t ht => by
  obtain ⟨X, hX, rfl⟩ := List.mem_map.mp ht
  exact two_ok F (h.six F X hX)
theorem Ls.sixInj (F : Frm n m ps r) (h : Ls n m ps r L0 L1 L2) : ∀ t ∈ sixT m ps r L0 L1 L2, ∀ t' ∈ sixT m ps r L0 L1 L2, t.1 = t'.1 → t.2 = t'.2 := fun t ht t' ht' e => by
  obtain ⟨X, hX, rfl⟩ := List.mem_map.mp ht
  obtain ⟨Y, hY, rfl⟩ := List.mem_map.mp ht'
  exact two_inj F (h.six F X hX) (h.six F Y hY) e
end
end K8

/-! The law's last part: cube, sets, the questions. -/
namespace K8
open PySem PySem.Spec PyProof.Rows L2 Evl
abbrev encL (L : List Scene) : PyData := .list (L.map dScene)
section
variable {X : Cx} {σ : Slots} {B B' H H' : Hp} {e a b c l o : Expr} {pos p apos cpos : Pos} {D : Ends}
/-- sets.append(e), e a new list of scenes, sets readable meanwhile -/
theorem s_appSets {q : Addr} {vs : List V} {sets : List (List Scene)} {S : List Scene} (e0 : Ex B H) (n : B q = none) (hq : H q = some (.lst vs)) (hv : DpAll X.K B vs (sets.map encL)) (hz : sets.length < 1000)
    (ho : EvE X o σ (upd B q (.lst vs)) (IsV (.ref q))) (h : ∀ B', Ex (upd B q (.lst vs)) B' → EvNE X e σ B' (NewL (AD X.K (S.map dScene))))
    (kk : ∀ B3 H1 vs', Step B H B3 H1 → B3 q = none → DpAll X.K B3 vs' ((sets ++ [S]).map encL) → D.nx σ (upd H1 q (.lst vs')))
    (hp : ∀ {to : TE} {t : TA}, PE X o to → PA X [e] t → PE X (.Call (.Attribute o "append" apos) [e] [] cpos) (tBM X.K "list" rAppend to t) := by exact fun h1 h2 => pe_bm PySem.F.plainAttrs_list PySem.F.slot_list_append PySem.F.type_list_append mt_append h1 h2)
    (hs : swapsWith (.Call (.Attribute o "append" apos) [e] [] cpos) none pos.line X.env = pure false := by rfl) (he : starEach [e] X.env = (false, eval e X.env) :: starEach [] X.env := by rfl) :
    wS X (.Expr (.Call (.Attribute o "append" apos) [e] [] cpos) pos) D σ H :=
  s_appN (ex_join e0 hq) ho (appN_of h) hq (by rw [dps_len hv, List.length_map]; omega) (fun p B1 H1 n0 n1 s1 r1 => by
    obtain ⟨ws, hw, hws⟩ := r1
    have hw1 := hws B1 (Ex.refl B1)
    have hq1 : B1 q = some (.lst vs) := s1.b _ _ upd_same
    have ne : p ≠ q := fun e => by
      rw [e, hq] at n0
      cases n0
    have s2 := Step.drop n s1
    have np : del B1 q p = none := by rw [del_ne ne]; exact n1
    have s3 : Step B H (upd (del B1 q) p (.lst ws)) H1 := s2.join np n0 hw
    refine kk _ _ _ s3 (by rw [upd_ne (Ne.symm ne)]; exact del_same) ?_
    rw [List.map_append]
    refine dps_append (dps_grow hv s3.b) (.cons (.lst (sq_of upd_same) ?_) .nil)
    exact dps_grow (dps_del hq1 _ _ (flat_scenes S) hw1) (Ex.new np)) hp hs he
end
section
variable {P : Program} {w : World} {K : PySem.W.Frag} {mg : Str → Option Value} {base : Heap} {C CE : Addr}
abbrev XL (P : Program) (w : World) (K : PySem.W.Frag) (mg : Str → Option Value) (base : Heap) (f : Addr) (cdv : Value) (A : Around) (outer : List Env) (s0 : Shared) (H : Hp) (E : XK) : Cx := (cxOf CX0 P w K mg base N_law "law" (defScope s_law) f cdv A outer s0 H E).nox
/-- lists of scenes in a list -/
def IsLL (K : PySem.W.Frag) (LL : List (List Scene)) (v : V) (B : Hp) : Prop := ∃ p vs, v = .ref p ∧ B p = some (.lst vs) ∧ vs.length = LL.length ∧ ∀ (i : Nat) u L, vs[i]? = some u → LL[i]? = some L → IsTL K (L.map dScene) u B
theorem isLL_grow {LL : List (List Scene)} {v : V} {B B' : Hp} (h : IsLL K LL v B) (e : Ex B B') : IsLL K LL v B' := by
  obtain ⟨p, vs, h1, h2, h3, h4⟩ := h
  exact ⟨p, vs, h1, e _ _ h2, h3, fun i u L a b => isTL_grow (h4 i u L a b) e⟩
theorem isLL_dp {LL : List (List Scene)} {v : V} {B : Hp} (h : IsLL K LL v B) : Dp K B v (.list (LL.map encL)) := by
  obtain ⟨p, vs, rfl, h2, h3, h4⟩ := h
  refine .lst (sq_of h2) ?_
  clear h2
  induction vs generalizing LL with
  | nil =>
    cases LL with
    | nil => exact .nil
    | cons _ _ => cases h3
  | cons u vs ih =>
    cases LL with
    | nil => cases h3
    | cons L LL =>
      exact .cons (isTL_d (h4 0 u L rfl rfl)) (ih (by simpa using h3) fun i u' L' a b => h4 (i + 1) u' L' a b)
theorem e_ixLL {X : Cx} {σ : Slots} {B : Hp} {a b : Expr} {pos : Pos} {LL : List (List Scene)} {L : List Scene} {v : V} {k : Nat} (ha : EvE X a σ B (IsV v)) (hb : EvE X b σ B (IsV (.int (k : Int)))) (h : IsLL X.K LL v B) (hk : LL[k]? = some L) (hs : PlainIx b := by exact fun _ _ => rfl) : EvE X (.Subscript a b pos) σ B (IsTL X.K (L.map dScene)) := by
  obtain ⟨p, vs, rfl, h2, h3, h4⟩ := h
  have hlt := (List.getElem?_eq_some_iff.mp hk).1
  have h5 : vs[k]? = some vs[k] := List.getElem?_eq_getElem (by omega)
  have h6 := h4 k _ L h5 hk
  exact (e_ixB ha hb h2 (atI_nat h5) hs).imp fun v B1 e r => by
    cases r
    exact isTL_grow h6 e
/-- upsets in a list -/
def IsUL (K : PySem.W.Frag) (C : Addr) (n : Nat) (Xs : List (List Scene)) (v : V) (B : Hp) : Prop := ∃ p us, v = .ref p ∧ B p = some (.lst us) ∧ us.length = Xs.length ∧ ∀ (k : Nat) u X, us[k]? = some u → Xs[k]? = some X → IsU K C n (keptF X) u B
theorem isUL_grow {n : Nat} {Xs : List (List Scene)} {v : V} {B B' : Hp} (h : IsUL K C n Xs v B) (e : Ex B B') : IsUL K C n Xs v B' := by
  obtain ⟨p, vs, h1, h2, h3, h4⟩ := h
  exact ⟨p, vs, h1, e _ _ h2, h3, fun i u L a b => isU_grow (h4 i u L a b) e⟩
theorem e_ixUL {X : Cx} {σ : Slots} {B : Hp} {a b : Expr} {pos : Pos} {n : Nat} {Xs : List (List Scene)} {L : List Scene} {v : V} {k : Nat} (ha : EvE X a σ B (IsV v)) (hb : EvE X b σ B (IsV (.int (k : Int)))) (h : IsUL X.K C n Xs v B) (hk : Xs[k]? = some L) (hs : PlainIx b := by exact fun _ _ => rfl) : EvE X (.Subscript a b pos) σ B (IsU X.K C n (keptF L)) := by
  obtain ⟨p, vs, rfl, h2, h3, h4⟩ := h
  have hlt := (List.getElem?_eq_some_iff.mp hk).1
  have h5 : vs[k]? = some vs[k] := List.getElem?_eq_getElem (by omega)
  have h6 := h4 k _ L h5 hk
  exact (e_ixB ha hb h2 (atI_nat h5) hs).imp fun v B1 e r => by
    cases r
    exact isU_grow h6 e
theorem law_C {f : Addr} {cdv : Value} {A : Around} {outer : List Env} {s0 : Shared} {H0 : Hp} {E : XK} (U : Bi mg) (UU : UM P w K mg base C CE) (GU : D_cube P w K mg base) (GC : D_covered P w K mg base) (GA : D_asked P w K mg base C) (GP : D_compared P w K mg base C) (GE : D_empty P w K mg base) (GR : D_refusals P w K mg base C)
    {n m : Nat} {ps ps0 : List Str} {r : List Int} {L0 L1 L2 : List Scene} (F : Frm n m ps r) (h : Ls n m ps r L0 L1 L2) (hps0 : ∃ p rest, ps0 = p :: rest ∧ nameB p = true)
    {B H : Hp} {Q : VK} {sv bv pv rv uv lv v12 : V} {z3 z9 z10 z11 z13 z14 z15 : Option V} (hg : A.guards = some []) (hr : Room 9 (XL P w K mg base f cdv A outer s0 H0 E).A) (e0 : Ex B H) (y : Yields B H (IsV (.bl true)) Q)
    (hb : IsBag bv B) (hpv : Dp K B pv (.list (ps0.map .str))) (huv : Dp K B uv (.list (ps.map .str))) (hrv : Dp K B rv (dRow r)) (hlv : IsLL K [L0, L1, L2] lv B) (hul : IsUL K C n (sixX L0 L1 L2) v12 B) :
    wB (XL P w K mg base f cdv A outer s0 H0 E) ((defBody s_law).drop 19) { nx := fun _ H' => Q .non H', rt := Q } [some sv, some bv, some pv, z3, some (.int (n : Int)), some (.int (m : Int)), some rv, some uv, some lv, z9, z10, z11, some v12, z13, z14, z15, none, none, none, none] H := by
  have hrl := F.base.1
  have hn8 := F.top
  have hm6 := F.m6
  refine b_cons (s_set 16 e0 (e_callP (R := IsD K (encL (cubeOf m ps r))) GU (hr.mono (by decide)) (a_cons (e_var 7 rfl) (a_cons (e_var 6 rfl) (a_one (e_var 5 rfl)))) fun vs B1 e1 rr => ?_) (fun v1 B1 H1 s1 r1 => ?_) sc_law.nd)
  · obtain ⟨v1, vs1, rfl, r1, v2, vs2, rfl, r2, v3, vs3, rfl, r3, r4⟩ := rr
    have e4 : vs3 = [] := r4
    cases r1
    cases r2
    cases r3
    subst e4
    exact ⟨_, _, ps, r, m, rfl, dp_grow huv e1, F.nd, F.few, dp_grow hrv e1, by omega, hm6, by rw [hrl]; exact F.small, rfl⟩
  have hcv : Dp K B1 v1 (encL (cubeOf m ps r)) := r1 B1 (Ex.refl B1)
  have hcl := F.len
  have hlv1 := isLL_grow hlv s1.b
  have cov : ∀ {X : Cx} {L : List Scene} (hX : InC n m ps r L) (a : Scene), a ∈ cubeOf m ps r → ∀ (B' : Hp) (vs : List V) (B2 : Hp), Ex B' B2 → ACons (IsD K (dScene a)) (ACons (IsD K (encL L)) ANil) vs B2 → preCov K vs B2 (IsV (.bl (decide (Up L a)))) := fun {X} {L} hX a ha B' vs B2 e2 rr => by
    obtain ⟨v1, vs1, rfl, r1, v2, vs2, rfl, r2, r3⟩ := rr
    have e3 : vs2 = [] := r3
    subst e3
    have := hX.few
    exact ⟨n, a, L, v1, v2, rfl, r1, r2, hn8, (F.scOk ha).row.len, fun t ht => ⟨(F.scOk (hX.sub t ht)).row.len, nameB_ok (F.scOk (hX.sub t ht)).name⟩, by omega, rfl⟩
  have inL : ∀ L ∈ [L0, L1, L2], InC n m ps r L := fun L hL => by
    simp only [List.mem_cons, List.not_mem_nil, or_false] at hL
    rcases hL with rfl | rfl | rfl
    · exact h.c0
    · exact h.c1
    · exact h.c2
  refine b_cons (s_setLcL (i := 17) (own := [("_law_scenes", 18)]) (j := 18) [L0, L1, L2] encL (fun L => encL (setOf m ps r L)) sc_law.nd (by show 3 ≤ 40000; decide) (e_varD 8 rfl (isLL_dp hlv1)) rfl (fun L hL σ2 B2 e2 t s2 H2 C2 cl fp => ?_) s1.i fun q B2 H2 m0 m1 s2 r2 => ?_)
  · obtain ⟨v2, rfl, h2⟩ := t
    have h2 : Dp K B2 v2 (encL L) := h2
    refine EvP.tlD (EvN.dl (n_lcIf (own := [("_law_scene_here", 19)]) (j := 19) (cubeOf m ps r) dScene (fun s => decide (Up L s)) dScene sc_law.nd (by omega) (e_varD 16 rfl (dp_grow hcv e2)) rfl (fun a ha σ3 B3 e3 t3 s3 H3 C3 cl3 fp3 => ?_) fun a ha hk σ3 B3 e3 t3 s3 H3 C3 cl3 fp3 => ?_))
    · obtain ⟨v3, rfl, h3⟩ := t3
      have h3 : Dp K B3 v3 (dScene a) := h3
      exact t_bl (e_callP (R := IsV (.bl (decide (Up L a)))) GC (hr.mono (by decide)) (a_cons (e_varD 19 rfl h3) (a_one (e_varD 18 rfl (dp_grow h2 e3)))) fun vs B4 e4 rr => cov (X := XL P w K mg base f cdv A outer s0 H0 E) (inL L hL) a ha B3 vs B4 e4 rr)
    · obtain ⟨v3, rfl, h3⟩ := t3
      exact e_varD 19 rfl h3
  · obtain ⟨vs2, hq2, hvs2⟩ := r2
    have hv2 : DpAll K B2 vs2 ([setOf m ps r L0, setOf m ps r L1, setOf m ps r L2].map encL) := hvs2 B2 (Ex.refl B2)
    have st2 := s1.trans s2
    have q0 : H q = none := fresh_back s1.h m0
    have hcv2 := dp_grow hcv s2.b
    have hlv2 := isLL_grow hlv1 s2.b
    have c01 : InC n m ps r (L0 ++ L1) := h.c0.app F h.c1 (by have := h.l0; have := h.l1; omega)
    refine b_cons (s_appSets (S := setOf m ps r (L0 ++ L1)) (sets := [setOf m ps r L0, setOf m ps r L1, setOf m ps r L2]) s2.i m1 hq2 hv2 (by show 3 < 1000; decide) (e_var 17 rfl) (fun B' e' => n_lcIf (own := [("_law_scene_here", 19)]) (j := 19) (cubeOf m ps r) dScene (fun s => decide (Up (L0 ++ L1) s)) dScene sc_law.nd (by omega) (e_varD 16 rfl (dp_grow hcv2 ((Ex.new m1).trans e'))) rfl (fun a ha σ3 B3 e3 t3 s3 H3 C3 cl3 fp3 => ?_) fun a ha hk σ3 B3 e3 t3 s3 H3 C3 cl3 fp3 => ?_) fun B3 H3 vs3 st3 nq3 hv3 => ?_)
    · obtain ⟨v3, rfl, h3⟩ := t3
      have h3 : Dp K B3 v3 (dScene a) := h3
      have hl3 := isLL_grow hlv2 (((Ex.new m1).trans e').trans e3)
      refine t_bl (e_callP (R := IsV (.bl (decide (Up (L0 ++ L1) a)))) GC (hr.mono (by decide)) (a_cons (e_varD 19 rfl h3) (a_one (R := IsD K (encL (L0 ++ L1))) (EvP.imp (e_catL (ds := L0.map dScene) (es' := L1.map dScene) (e_ixLL (k := 0) (e_var 8 rfl) e_int hl3 rfl) (e_ixLL (k := 1) (e_var 8 rfl) e_int hl3 rfl) ?_) fun v B1 _ r1 => ?_))) fun vs B4 e4 rr => cov (X := XL P w K mg base f cdv A outer s0 H0 E) c01 a ha B3 vs B4 e4 rr)
      · rw [List.length_map, List.length_map]
        have := h.l0
        have := h.l1
        omega
      · have := isTL_d r1
        rw [← List.map_append] at this
        exact this
    · obtain ⟨v3, rfl, h3⟩ := t3
      exact e_varD 19 rfl h3
    have hlv3 := isLL_grow hlv2 st3.b
    have hcv3 := dp_grow hcv2 st3.b
    have st3' : Step B H B3 (upd H3 q (.lst vs3)) := (st2.trans st3).put nq3 q0
    have hset : Dp K (upd B3 q (.lst vs3)) (.ref q) (.list (([setOf m ps r L0, setOf m ps r L1, setOf m ps r L2] ++ [setOf m ps r (L0 ++ L1)]).map encL)) := .lst (sq_of upd_same) (dps_grow hv3 (Ex.new nq3))
    refine b_cons (s_appSets (S := (setOf m ps r L0).filter fun s => decide (Up L1 s)) (sets := [setOf m ps r L0, setOf m ps r L1, setOf m ps r L2] ++ [setOf m ps r (L0 ++ L1)]) st3'.i nq3 upd_same hv3 (by show 4 < 1000; decide) (e_var 17 rfl) (fun B' e' => n_lcIf (own := [("_law_scene_here", 19)]) (j := 19) (setOf m ps r L0) dScene (fun s => decide (Up L1 s)) dScene sc_law.nd (by have := set_len F L0; omega) (e_ixL (ds := ([setOf m ps r L0, setOf m ps r L1, setOf m ps r L2] ++ [setOf m ps r (L0 ++ L1)]).map encL) (d := encL (setOf m ps r L0)) (e_varD 17 rfl (dp_grow hset e')) e_int (atI_nat (j := 0) rfl)) rfl (fun a ha σ3 B4 e3 t3 s3 H4 C3 cl3 fp3 => ?_) fun a ha hk σ3 B4 e3 t3 s3 H4 C3 cl3 fp3 => ?_) fun B4 H4 vs4 st4 nq4 hv4 => ?_)
    · obtain ⟨v3, rfl, h3⟩ := t3
      have h3 : Dp K B4 v3 (dScene a) := h3
      have hl3 := isLL_grow hlv3 (((Ex.new nq3).trans e').trans e3)
      exact t_bl (e_callP (R := IsV (.bl (decide (Up L1 a)))) GC (hr.mono (by decide)) (a_cons (e_varD 19 rfl h3) (a_one (R := IsD K (encL L1)) (EvP.tlD (e_ixLL (k := 1) (e_var 8 rfl) e_int hl3 rfl)))) fun vs B5 e5 rr => cov (X := XL P w K mg base f cdv A outer s0 H0 E) h.c1 a (set_mem.mp ha).1 B4 vs B5 e5 rr)
    · obtain ⟨v3, rfl, h3⟩ := t3
      exact e_varD 19 rfl h3
    have hlv4 := isLL_grow hlv3 st4.b
    have hcv4 := dp_grow hcv3 st4.b
    have st4' : Step B H B4 (upd H4 q (.lst vs4)) := (st3'.trans st4).put nq4 q0
    obtain ⟨sets4, hs4⟩ : ∃ sets4, sets4 = [setOf m ps r L0, setOf m ps r L1, setOf m ps r L2, setOf m ps r (L0 ++ L1), setOf m ps r (X4 L0 L1)] := ⟨_, rfl⟩
    have hv4' : DpAll K B4 vs4 (sets4.map encL) := by
      rw [h.set4 F] at hv4
      rw [hs4]
      exact hv4
    have hset4 : Dp K (upd B4 q (.lst vs4)) (.ref q) (.list (sets4.map encL)) := .lst (sq_of upd_same) (dps_grow hv4' (Ex.new nq4))
    refine b_cons (s_appSets (S := (setOf m ps r (L0 ++ L1)).filter fun s => decide (Up L2 s)) (sets := sets4) st4'.i nq4 upd_same hv4' (by rw [hs4]; show 5 < 1000; decide) (e_var 17 rfl) (fun B' e' => n_lcIf (own := [("_law_scene_here", 19)]) (j := 19) (setOf m ps r (L0 ++ L1)) dScene (fun s => decide (Up L2 s)) dScene sc_law.nd (by have := set_len F (L0 ++ L1); omega) (e_ixL (ds := sets4.map encL) (d := encL (setOf m ps r (L0 ++ L1))) (e_varD 17 rfl (dp_grow hset4 e')) e_int (atI_nat (j := 3) (by rw [hs4]; rfl))) rfl (fun a ha σ3 B5 e3 t3 s3 H5 C3 cl3 fp3 => ?_) fun a ha hk σ3 B5 e3 t3 s3 H5 C3 cl3 fp3 => ?_) fun B5 H5 vs5 st5 nq5 hv5 => ?_)
    · obtain ⟨v3, rfl, h3⟩ := t3
      have h3 : Dp K B5 v3 (dScene a) := h3
      have hl3 := isLL_grow hlv4 (((Ex.new nq4).trans e').trans e3)
      exact t_bl (e_callP (R := IsV (.bl (decide (Up L2 a)))) GC (hr.mono (by decide)) (a_cons (e_varD 19 rfl h3) (a_one (R := IsD K (encL L2)) (EvP.tlD (e_ixLL (k := 2) (e_var 8 rfl) e_int hl3 rfl)))) fun vs B6 e6 rr => cov (X := XL P w K mg base f cdv A outer s0 H0 E) h.c2 a (set_mem.mp ha).1 B5 vs B6 e6 rr)
    · obtain ⟨v3, rfl, h3⟩ := t3
      exact e_varD 19 rfl h3
    have st5' : Step B H B5 (upd H5 q (.lst vs5)) := (st4'.trans st5).put nq5 q0
    have hv5' : DpAll K B5 vs5 ((sixX L0 L1 L2).map fun X => encL (setOf m ps r X)) := by
      rw [h.set5 F, hs4] at hv5
      rw [h.set3 F] at hv5
      exact hv5
    have st6' := st5'.join nq5 q0 upd_same
    obtain ⟨B6, hB6⟩ : ∃ B6, B6 = upd B5 q (.lst vs5) := ⟨_, rfl⟩
    rw [← hB6] at st6'
    have hsets : Dp K B6 (.ref q) (.list ((sixX L0 L1 L2).map fun X => encL (setOf m ps r X))) := .lst (sq_of (by rw [hB6, upd_same])) (dps_grow hv5' (by rw [hB6]; exact Ex.new nq5))
    have hcv6 : Dp K B6 v1 (encL (cubeOf m ps r)) := dp_grow hcv4 (st5.b.trans (by rw [hB6]; exact Ex.new nq5))
    have hul6 := isUL_grow hul st6'.b
    have hpv6 := dp_grow hpv st6'.b
    have hrv6 := dp_grow hrv st6'.b
    have hlv6 := isLL_grow hlv st6'.b
    have hb6 := bag_grow hb st6'.b
    have hat : ∀ {k : Nat} {X : List Scene}, (sixX L0 L1 L2)[k]? = some X → atI ((sixX L0 L1 L2).map fun X => encL (setOf m ps r X)) (k : Int) = some (encL (setOf m ps r X)) := fun {k X} hk => atI_nat (by rw [List.getElem?_map, hk]; rfl)
    clear hB6
    refine b_cons (for_rS (i := 10) (fun j σ' => ∃ z10, σ' = [some sv, some bv, some pv, z3, some (.int (n : Int)), some (.int (m : Int)), some rv, some uv, some lv, z9, z10, z11, some v12, z13, z14, z15, some v1, some (.ref q), none, none]) PassesOwn.never rfl (pg_name sc_law.nd rfl (.inl rfl)) U.range st6'.i e_int (by decide) ⟨_, rfl⟩ ?_ ?_)
    · rintro k σ' B7 H7 hk st7 ⟨z10', rfl⟩
      have hk6 : k < 6 := by omega
      obtain ⟨X, hX⟩ : ∃ X, (sixX L0 L1 L2)[k]? = some X := ⟨_, List.getElem?_eq_getElem (by show k < 6; exact hk6)⟩
      have hXi := h.six F X (List.mem_of_getElem? hX)
      refine b_one (s_if (k := false) st7.i ((t_not (t_bl (e_callP (R := IsV (.bl true)) GA (hr.mono (by decide)) (a_cons (e_ixUL (e_var 12 rfl) (e_var 10 rfl) (isUL_grow hul6 st7.b) hX) (a_cons (e_ixL (ds := (sixX L0 L1 L2).map fun X => encL (setOf m ps r X)) (d := encL (setOf m ps r X)) (e_varD 17 rfl (dp_grow hsets st7.b)) (e_var 10 rfl) (hat hX)) (a_cons (e_var 2 rfl) (a_cons (e_var 16 rfl) (a_one (e_var 6 rfl)))))) fun vs B8 e8 rr => ?_))).is rfl) (fun h => by cases h) fun _ H8 s8 => b_nil ⟨B7, ⟨_, rfl⟩, s8⟩)
      obtain ⟨v1', vs1, rfl, r1, v2', vs2', rfl, r2, v3', vs3', rfl, r3, v4', vs4', rfl, r4, v5', vs5', rfl, r5, r6⟩ := rr
      have e6 : vs5' = [] := r6
      cases r3
      cases r4
      cases r5
      subst e6
      exact ⟨n, keptF X, setOf m ps r X, cubeOf m ps r, ps0, r, v1', v2', _, _, _, rfl, r1, (hXi.kept F).good F, r2, set_nd F X, Nat.le_trans (set_len F X) (by decide), fun s hs => by rw [(F.scOk (set_mem.mp hs).1).row.len]; exact hn8, dp_grow hpv6 (st7.b.trans e8), dp_grow hcv6 (st7.b.trans e8), fun s hs => ⟨F.scOk hs, by rw [hXi.up F, set_mem]; exact ⟨fun z => ⟨hs, z⟩, fun z => z.2⟩⟩, dp_grow hrv6 (st7.b.trans e8), hrl, least_of F hXi, rfl⟩
    · rintro σ' B7 H7 st7 ⟨z10', rfl⟩
      have x7 := st7.b
      refine b_cons (s_if (k := false) st7.i ((w_or (k1 := false) (k2 := false) ((t_not (t_bl (e_callP (R := IsV (.bl true)) GP (hr.mono (by decide)) (a_cons (e_var 12 rfl) (a_cons (e_var 17 rfl) (a_one (e_var 4 rfl)))) fun vs B8 e8 rr => ?_))).is rfl) fun _ => w_or1 ((t_not (t_bl (e_callP (R := IsV (.bl true)) GE (hr.mono (by decide)) (a_cons (e_var 2 rfl) (a_one (e_var 4 rfl))) fun vs B8 e8 rr => ?_))).is rfl)).t.is rfl) (fun h => by cases h) fun _ H8 s8 => b_nil ?_)
      · obtain ⟨v1', vs1, rfl, r1, v2', vs2', rfl, r2, v3', vs3', rfl, r3, r6⟩ := rr
        have e6 : vs3' = [] := r6
        cases r1
        cases r2
        cases r3
        subst e6
        obtain ⟨pu, us, h1, h2, h3, h4⟩ := isUL_grow hul6 (x7.trans e8)
        refine ⟨n, sixT m ps r L0 L1 L2, _, _, rfl, by show 6 ≤ 10; decide, ⟨pu, us, h1, h2, by rw [h3]; rfl, fun k u t a b => ?_⟩, ?_, h.sixOk F, h.sixInj F, rfl⟩
        · unfold sixT at b
          rw [List.getElem?_map] at b
          obtain ⟨X, hX, rfl⟩ := Option.map_eq_some_iff.mp b
          exact h4 k u X a hX
        · exact dp_grow hsets (x7.trans e8)
      · obtain ⟨v1', vs1, rfl, r1, v2', vs2', rfl, r2, r6⟩ := rr
        have e6 : vs2' = [] := r6
        cases r1
        cases r2
        subst e6
        exact ⟨n, ps0, _, rfl, F.pos, hn8, dp_grow hpv6 (x7.trans e8), hps0, rfl⟩
      obtain ⟨s10, hs10⟩ : ∃ s, L1[0]? = some s := ⟨_, List.getElem?_eq_getElem (by have := h.one; omega)⟩
      have hsc := F.scOk (h.c1.sub s10 (List.mem_of_getElem? hs10))
      refine b_one (s_retY s8.i (e_callG (R := IsV (.bl true)) GR hg (hr.mono (by decide)) (a_cons (e_var 1 rfl) (a_cons (e_ixUL (k := 3) (L := X3 L0 L1) (e_var 12 rfl) e_int (isUL_grow hul6 x7) rfl) (a_one (e_ixL (ds := L1.map dScene) (d := dScene s10) (EvP.tlD (e_ixLL (k := 1) (L := L1) (e_var 8 rfl) e_int (isLL_grow hlv6 x7) rfl)) e_int (atI_nat (j := 0) (by rw [List.getElem?_map, hs10]; rfl)))))) fun vs B8 e8 rr => ?_) (((y.go st6').go st7).go s8))
      obtain ⟨v1', vs1, rfl, r1, v2', vs2', rfl, r2, v3', vs3', rfl, r3, r6⟩ := rr
      have e6 : vs3' = [] := r6
      cases r1
      subst e6
      exact ⟨n, keptF (X3 L0 L1), s10, _, v2', v3', rfl, bag_grow hb6 (x7.trans e8), r2, ((h.x3 F).kept F).good F, r3, hsc, rfl⟩
end
end K8

/-! The law's middle part: the upsets are made. -/
namespace K8
open PySem PySem.Spec PyProof.Rows L2 Evl
section
variable {P : Program} {w : World} {K : PySem.W.Frag} {mg : Str → Option Value} {base : Heap} {C CE : Addr}
def ULs (K : PySem.W.Frag) (C : Addr) (n : Nat) (B : Hp) : List (List Scene) → List V → Prop
  | [], [] => True
  | X :: Xs, u :: us => IsU K C n (keptF X) u B ∧ ULs K C n B Xs us
  | [], _ :: _ => False
  | _ :: _, [] => False
theorem ULs.app {n : Nat} {B : Hp} : ∀ {Xs Ys : List (List Scene)} {us vs : List V}, ULs K C n B Xs us → ULs K C n B Ys vs → ULs K C n B (Xs ++ Ys) (us ++ vs)
  | [], _, [], _, _, h => h
  | _ :: _, _, _ :: _, _, h, k => ⟨h.1, ULs.app h.2 k⟩
  | [], _, _ :: _, _, h, _ => h.elim
  | _ :: _, _, [], _, h, _ => h.elim
theorem ULs.grow {n : Nat} {B B' : Hp} (e : Ex B B') : ∀ {Xs : List (List Scene)} {us : List V}, ULs K C n B Xs us → ULs K C n B' Xs us
  | [], [], _ => trivial
  | _ :: _, _ :: _, h => ⟨isU_grow h.1 e, ULs.grow e h.2⟩
  | [], _ :: _, h => h.elim
  | _ :: _, [], h => h.elim
theorem ULs.del {n : Nat} {B : Hp} {q : Addr} {xs : List V} (hq : B q = some (.lst xs)) : ∀ {Xs : List (List Scene)} {us : List V}, ULs K C n B Xs us → ULs K C n (del B q) Xs us
  | [], [], _ => trivial
  | _ :: _, _ :: _, h => ⟨isU_del hq h.1, ULs.del hq h.2⟩
  | [], _ :: _, h => h.elim
  | _ :: _, [], h => h.elim
theorem ULs.len {n : Nat} {B : Hp} : ∀ {Xs : List (List Scene)} {us : List V}, ULs K C n B Xs us → us.length = Xs.length
  | [], [], _ => rfl
  | _ :: _, _ :: _, h => by rw [List.length_cons, List.length_cons, ULs.len h.2]
  | [], _ :: _, h => h.elim
  | _ :: _, [], h => h.elim
theorem ULs.get {n : Nat} {B : Hp} : ∀ {Xs : List (List Scene)} {us : List V}, ULs K C n B Xs us → ∀ (k : Nat) u X, us[k]? = some u → Xs[k]? = some X → IsU K C n (keptF X) u B
  | X :: Xs, u :: us, h, 0, _, _, a, b => by
    cases a
    cases b
    exact h.1
  | X :: Xs, u :: us, h, k + 1, _, _, a, b => ULs.get h.2 k _ _ (by simpa using a) (by simpa using b)
  | [], [], _, k, _, _, a, _ => by simp at a
  | [], _ :: _, h, _, _, _, _, _ => h.elim
  | _ :: _, [], h, _, _, _, _, _ => h.elim
theorem ULs.is {n : Nat} {B : Hp} {Xs : List (List Scene)} {us : List V} {p : Addr} (h : ULs K C n B Xs us) (hp : B p = some (.lst us)) : IsUL K C n Xs (.ref p) B := ⟨p, us, rfl, hp, h.len, h.get⟩
theorem four_of {L : List Scene} (h : 1 ≤ L.length) : ∃ a b c d, (List.replicate 4 L).flatten.take 4 = [a, b, c, d] ∧ (∀ s ∈ [a, b, c, d], s ∈ L) := by
  have hl : 4 ≤ (List.replicate 4 L).flatten.length := by
    simp
    omega
  have hs : ∀ s ∈ (List.replicate 4 L).flatten.take 4, s ∈ L := fun s hs => by
    have h1 := List.mem_of_mem_take hs
    rw [List.mem_flatten] at h1
    obtain ⟨l, hl, h2⟩ := h1
    rw [(List.mem_replicate.mp hl).2] at h2
    exact h2
  have hlen : ((List.replicate 4 L).flatten.take 4).length = 4 := by
    rw [List.length_take]
    omega
  match q : (List.replicate 4 L).flatten.take 4, hlen with
  | [a, b, c, d], _ => exact ⟨a, b, c, d, rfl, by rw [q] at hs; exact hs⟩
theorem law_B {f : Addr} {cdv : Value} {A : Around} {outer : List Env} {s0 : Shared} {H0 : Hp} {E : XK} (U : Bi mg) (UU : UM P w K mg base C CE) (GO : D_l_of P w K mg base C) (GY : D_says P w K mg base) (GU : D_cube P w K mg base) (GC : D_covered P w K mg base) (GA : D_asked P w K mg base C) (GP : D_compared P w K mg base C) (GE : D_empty P w K mg base) (GR : D_refusals P w K mg base C)
    {n m : Nat} {ps ps0 : List Str} {r : List Int} {L0 L1 L2 : List Scene} (F : Frm n m ps r) (h : Ls n m ps r L0 L1 L2) {pu p0 : Str} {rest rest0 : List Str} (hps : ps = pu :: rest) (hps0 : ps0 = p0 :: rest0) (hp0 : nameB p0 = true)
    {B H : Hp} {Q : VK} {sv bv pv rv uv lv : V} {z3 z9 z10 : Option V} (hg : A.guards = some []) (hr : Room 9 (XL P w K mg base f cdv A outer s0 H0 E).A) (e0 : Ex B H) (y : Yields B H (IsV (.bl true)) Q)
    (hb : IsBag bv B) (hpv : Dp K B pv (.list (ps0.map .str))) (huv : Dp K B uv (.list (ps.map .str))) (hrv : Dp K B rv (dRow r)) (hlv : IsLL K [L0, L1, L2] lv B) :
    wB (XL P w K mg base f cdv A outer s0 H0 E) ((defBody s_law).drop 9) { nx := fun _ H' => Q .non H', rt := Q } [some sv, some bv, some pv, z3, some (.int (n : Int)), some (.int (m : Int)), some rv, some uv, some lv, z9, z10, none, none, none, none, none, none, none, none, none] H := by
  have hun : (XL P w K mg base f cdv A outer s0 H0 E).A.units + 64 < cLine := hr.units
  have g0 := h.c0.good F
  have g1 := h.c1.good F
  have g2 := h.c2.good F
  refine b_cons (s_setN 11 e0 (n_listOf (ds := L0.map dScene) U.list (EvP.imp (EvP.tlD (e_ixLL (k := 0) (e_var 8 rfl) e_int hlv rfl)) fun v B1 _ r => .inl r)) (fun q B1 H1 n0 n1 s1 r1 => ?_) sc_law.nd)
  obtain ⟨vq, hq1, hvq⟩ := r1
  have hvq1 := hvq B1 (Ex.refl B1)
  obtain ⟨Bt, hBt⟩ : ∃ Bt, Bt = upd B1 q (.lst vq) := ⟨_, rfl⟩
  have xt : Ex B1 Bt := by rw [hBt]; exact Ex.new n1
  have et : Ex Bt H1 := by rw [hBt]; exact ex_join s1.i hq1
  have hqt : Bt q = some (.lst vq) := by rw [hBt, upd_same]
  have hdt : Dp K Bt (.ref q) (.list (L0.map dScene)) := .lst (sq_of hqt) (dps_grow hvq1 xt)
  have hlt := isLL_grow (isLL_grow hlv s1.b) xt
  refine b_cons (s_setN 12 et (n_lst (RA := ACons (IsU K C n (keptF L0)) (ACons (IsU K C n (keptF L1)) (ACons (IsU K C n (keptF L2)) ANil))) (a_cons (e_makeU UU.mku (hr.mono (by decide)) g0 (e_var 4 rfl) (e_varD 11 rfl hdt)) (a_cons (e_callP GO (hr.mono (by decide)) (a_one (EvP.tlD (e_ixLL (k := 1) (L := L1) (e_var 8 rfl) e_int hlt rfl))) fun vs B2 e2 rr => ?_) (a_one (e_makeU UU.mku (hr.mono (by decide)) g2 (e_var 4 rfl) (EvP.tlD (EvN.dl (n_listOf (ds := L2.map dScene) U.list (EvP.imp (EvP.tlD (e_ixLL (k := 2) (e_var 8 rfl) e_int hlt rfl)) fun v B1 _ r => .inl r)))))))) fun vs B2 rr => ?_) (fun p B2 H2 m0 m1 s2 r2 => ?_) sc_law.nd)
  · obtain ⟨v1, vs1, rfl, r1, r3⟩ := rr
    have e3 : vs1 = [] := r3
    subst e3
    exact ⟨n, L1, v1, rfl, r1, g1, h.one, h.l1, rfl⟩
  · obtain ⟨x1, y1, rfl, _, x2, y2, rfl, _, x3, y3, rfl, _, h5⟩ := rr
    rw [show y3 = [] from h5]
    show 3 ≤ 100000
    decide
  obtain ⟨us, hp2, hus⟩ := r2
  obtain ⟨u0, y1, rfl, hu0, u1, y2, rfl, hu1, u2, y3, rfl, hu2, h5⟩ := hus B2 (Ex.refl B2)
  have h5' : y3 = [] := h5
  subst h5'
  have ne : p ≠ q := fun e => by
    rw [e, hq1] at m0
    cases m0
  have hq2 : B2 q = some (.lst vq) := s2.b _ _ hqt
  have sA : Step B1 H1 (del B2 q) H2 := Step.drop n1 (hBt ▸ s2)
  have npd : del B2 q p = none := by rw [del_ne ne]; exact m1
  have sB := (s1.trans sA).join npd (fresh_back s1.h m0) hp2
  obtain ⟨B3, hB3⟩ : ∃ B3, B3 = upd (del B2 q) p (.lst [u0, u1, u2]) := ⟨_, rfl⟩
  rw [← hB3] at sB
  have x3 : Ex (del B2 q) B3 := by rw [hB3]; exact Ex.new npd
  have ul3 : ULs K C n B3 [L0, L1, L2] [u0, u1, u2] := ⟨isU_grow (isU_del hq2 hu0) x3, isU_grow (isU_del hq2 hu1) x3, isU_grow (isU_del hq2 hu2) x3, trivial⟩
  have hul3 : IsUL K C n [L0, L1, L2] (.ref p) B3 := ul3.is (by rw [hB3, upd_same])
  have hp3 : B3 p = some (.lst [u0, u1, u2]) := by rw [hB3, upd_same]
  have nq3 : B3 q = none := by rw [hB3, upd_ne (Ne.symm ne)]; exact del_same
  have hq2' : H2 q = some (.lst vq) := s2.h _ _ hq1
  have hvq3 : DpAll K B3 vq (L0.map dScene) := dps_grow hvq1 (sA.b.trans x3)
  have hlv3 := isLL_grow hlv sB.b
  clear hB3
  obtain ⟨B4, hB4⟩ : ∃ B4, B4 = upd B3 q (.lst vq) := ⟨_, rfl⟩
  have x4 : Ex B3 B4 := by rw [hB4]; exact Ex.new nq3
  have e4 : Ex B4 H2 := by rw [hB4]; exact ex_join sB.i hq2'
  have hd4 : Dp K B4 (.ref q) (.list (L0.map dScene)) := .lst (sq_of (by rw [hB4, upd_same])) (dps_grow hvq3 x4)
  have hsh0 : SeqAt.shaped (encL L0) = true := (lay_lst (lay_scenes g0)).sh
  refine b_cons (s_if (B := B4) (k := false) e4 ((t_neD hun (e_varD 11 rfl hd4) (EvP.tlD (e_ixLL (k := 0) (L := L0) (e_var 8 rfl) e_int (isLL_grow hlv3 x4) rfl)) hsh0 hsh0).is (by rw [eqv_scenes]; rfl)) (fun h => by cases h) fun _ H5 s5 => b_nil ?_)
  have s5' : Step B3 H2 B3 H5 := Step.less sB.i s5
  have hpv3 := dp_grow hpv sB.b
  have l0q : vq.length < 100000 := by
    rw [dps_len hvq1, List.length_map]
    have := h.l0
    omega
  refine b_cons (s_app s5'.i (e_var 11 rfl) (e_tupD (ds := [.str p0, dRow (List.replicate n 0)]) (ad_cons (e_ixL (ds := ps0.map .str) (d := .str p0) (e_varD 2 rfl hpv3) e_int (atI_nat (j := 0) (by rw [hps0]; rfl))) (ad_cons (e_zeros F.pos F.top (e_tupD (ds := [.int 0]) (ad_cons (EvP.intD e_int) ad_nil) (by show 1 ≤ 100000; decide)) (e_var 4 rfl)) ad_nil)) (by show 2 ≤ 100000; decide)) (s5'.h _ _ hq2') l0q fun v6 B6 H6 s6 r6 => ?_)
  have st6 := ((sB.trans s5').trans s6).put (o := .lst (vq ++ [v6])) ((s5'.trans s6).off _ _ nq3 hq2') n0
  have x36 : Ex B3 B6 := s6.b
  have huv6 := dp_grow huv st6.b
  refine b_cons (s_set 13 st6.i (e_tupD (ds := [.str pu, dRow r]) (ad_cons (e_ixL (ds := ps.map .str) (d := .str pu) (e_varD 7 rfl huv6) e_int (atI_nat (j := 0) (by rw [hps]; rfl))) (ad_cons (e_varD 6 rfl (dp_grow hrv st6.b)) ad_nil)) (by show 2 ≤ 100000; decide)) (fun v7 B7 H7 s7 r7 => ?_) sc_law.nd)
  have hlow : Dp K B7 v7 (dScene (pu, r)) := r7 B7 (Ex.refl B7)
  have st7 := st6.trans s7
  have hlv7 := isLL_grow hlv st7.b
  obtain ⟨fa, fb, fc, fd, hfour, hfin⟩ := four_of h.one
  have hcut : cutD ((List.replicate 4 (L1.map dScene)).flatten) none (some 4) = [fa, fb, fc, fd].map dScene := by
    have e1 : (List.replicate 4 (L1.map dScene)).flatten = ((List.replicate 4 L1).flatten).map dScene := by rw [List.map_flatten, List.map_replicate]
    have hl : 4 ≤ (((List.replicate 4 L1).flatten).map dScene).length := by
      have := h.one
      simp
      omega
    have e2 := cut_to (((List.replicate 4 L1).flatten).map dScene) 4 hl
    rw [e1]
    refine Eq.trans e2 ?_
    rw [← List.map_take, hfour]
  refine b_cons (s_set 14 s7.i (EvP.imp (e_slTo (EvP.tlD (e_repL (m := 4) (ds := L1.map dScene) (e_ixLL (k := 1) (L := L1) (e_var 8 rfl) e_int hlv7 rfl) e_int (by decide) (by rw [List.length_map]; have := h.l1; omega))) e_int) (R' := IsTL K ([fa, fb, fc, fd].map dScene)) fun v B1 _ r => by rw [hcut] at r; exact r) (fun v8 B8 H8 s8 r8 => ?_) sc_law.nd)
  have h8 : IsTL K ([fa, fb, fc, fd].map dScene) v8 B8 := r8 B8 (Ex.refl B8)
  have h8d := isTL_d h8
  have hlow8 := dp_grow hlow s8.b
  have lowC : (pu, r) ∈ cubeOf m ps r := F.mem.mpr ⟨by rw [hps]; exact List.mem_cons_self, by
    have : ∀ l : List Int, InBox (m : Int) l l := fun l => by
      induction l with
      | nil => trivial
      | cons a l ih => exact ⟨⟨Int.le_refl _, by omega⟩, ih⟩
    exact this r⟩
  have gF : UGood n ([fa, fb, fc, fd] ++ [(pu, r)]) := ⟨F.pos, F.top, by show 5 < 64; decide, fun s hs => by
    rcases List.mem_append.mp hs with hs | hs
    · exact g1.all s (hfin s hs)
    · rw [List.mem_singleton.mp hs]
      exact F.scOk lowC⟩
  refine b_cons (s_set 15 s8.i (e_of (s := fa) (L := [fb, fc, fd, (pu, r)]) UU.un (hr.mono (by decide)) gF (ad_cons (e_ixL (ds := [fa, fb, fc, fd].map dScene) (e_varD 14 rfl h8d) e_int (atI_nat (j := 0) rfl)) (ad_cons (e_ixL (ds := [fa, fb, fc, fd].map dScene) (e_varD 14 rfl h8d) e_int (atI_nat (j := 1) rfl)) (ad_cons (e_ixL (ds := [fa, fb, fc, fd].map dScene) (e_varD 14 rfl h8d) e_int (atI_nat (j := 2) rfl)) (ad_cons (e_ixL (ds := [fa, fb, fc, fd].map dScene) (e_varD 14 rfl h8d) e_int (atI_nat (j := 3) rfl)) (ad_cons (e_varD 13 rfl hlow8) ad_nil)))))) (fun v9 B9 H9 s9 r9 => ?_) sc_law.nd)
  have h9 : IsU K C n (keptF ([fa, fb, fc, fd] ++ [(pu, r)])) v9 B9 := r9 B9 (Ex.refl B9)
  have gK := gF.kept
  have okl := F.scOk lowC
  have inlow : inD n (keptF ([fa, fb, fc, fd] ++ [(pu, r)])) (dScene (pu, r)) = true := by
    rw [inD_scene okl]
    exact decide_eq_true (((keptF_ok gF.sc).up _).mpr (up_mem (by simp)))
  have eT : (true : Bool) = (decide (n = n) && decide (keptF ([fa, fb, fc, fd] ++ [(pu, r)]) = keptF ([fa, fb, fc, fd] ++ [(pu, r)]))) := by simp
  have h8t := isTL_grow h8 s9.b
  refine b_cons (s_if (k := false) s9.i ((w_or (k1 := false) (k2 := false) ((t_notInU UU.con (hr.mono (by decide)) (e_varD 13 rfl (dp_grow hlow8 s9.b)) ((e_var 15 rfl).imp fun v B1 e r => by cases r; exact isU_grow h9 e) gK okl.okd).is (by rw [inlow]; rfl)) fun _ => w_or1 ((t_not (t_bl (e_callP (R := IsV (.bl true)) GY (hr.mono (by decide)) (a_cons (R := IsV (.bl true)) (EvP.imp (e_eqU UU (hr.mono (by decide)) ((e_var 15 rfl).imp fun v B1 e r => by cases r; exact isU_grow h9 e) (e_makeU (L := [fa, fb, fc, fd] ++ [(pu, r)]) UU.mku (hr.mono (by decide)) gF (e_var 4 rfl) (EvP.tlD (e_catL (ds := [fa, fb, fc, fd].map dScene) (es' := [dScene (pu, r)]) (e_varT 14 rfl h8t) (e_lstT (ad_cons (e_varD 13 rfl (dp_grow hlow8 s9.b)) ad_nil) (by show 1 ≤ 100000; decide)) (by show 4 + 1 ≤ 100000; decide)))) gK gK) fun v B1 _ r => by rw [eT]; exact r) (a_one (e_bl (k := true)))) fun vs B1 e1 rr => ?_))).is rfl)).t.is rfl) (fun h => by cases h) fun _ H10 s10 => b_nil ?_)
  · obtain ⟨v1, vs1, rfl, r1, v2, vs2, rfl, r2, r3⟩ := rr
    have e3 : vs2 = [] := r3
    cases r1
    cases r2
    subst e3
    exact ⟨true, rfl, rfl⟩
  have x39 : Ex B3 B9 := ((x36.trans s7.b).trans s8.b).trans s9.b
  have hul9 := isUL_grow hul3 x39
  have ul9 := ul3.grow x39
  have stX := ((st7.trans s8).trans s9).trans s10
  have gX3 := (h.x3 F).good F
  have gX4 := (h.x4 F)
  refine b_cons (s_setN 12 s10.i (n_catV (RA := ACons (IsU K C n (keptF (X3 L0 L1))) (ACons (IsU K C n (keptF (X4 L0 L1))) ANil)) (k := 2) (xs := [u0, u1, u2]) (e_var 12 rfl) (x39 _ _ hp3) (e_lst (a_cons (e_orU UU (hr.mono (by decide)) (e_ixUL (k := 0) (e_var 12 rfl) e_int hul9 rfl) (e_ixUL (k := 1) (e_var 12 rfl) e_int hul9 rfl) gX3) (a_one (e_andU UU (hr.mono (by decide)) (e_ixUL (k := 0) (e_var 12 rfl) e_int hul9 rfl) (e_ixUL (k := 1) (e_var 12 rfl) e_int hul9 rfl) g0.kept g1.kept gX4.few))) fun vs B1 rr => ?_) (fun vs B1 rr => ?_) (by show 3 + 2 ≤ 100000; decide) fun vs B1 B2 e rr => ?_) (fun t B11 H11 k0 k1 s11 r11 => ?_) sc_law.nd)
  · obtain ⟨x1, y1, rfl, _, x2, y2, rfl, _, h5⟩ := rr
    rw [show y2 = [] from h5]
    show 2 ≤ 100000
    decide
  · obtain ⟨x1, y1, rfl, _, x2, y2, rfl, _, h5⟩ := rr
    rw [show y2 = [] from h5]
    exact Nat.le_refl 2
  · obtain ⟨x1, y1, rfl, g3, x2, y2, rfl, g4, h5⟩ := rr
    exact ⟨x1, _, rfl, isU_grow g3 e, x2, _, rfl, isU_grow g4 e, h5⟩
  obtain ⟨ws, ht11, hws⟩ := r11
  obtain ⟨u3, y1, rfl, hu3, u4, y2, rfl, hu4, h5⟩ := hws
  have h5' : y2 = [] := h5
  subst h5'
  have ul5 : ULs K C n B11 ([L0, L1, L2] ++ [X3 L0 L1, X4 L0 L1]) ([u0, u1, u2] ++ [u3, u4]) := (ul9.grow s11.b).app ⟨hu3, hu4, trivial⟩
  have t0 : H t = none := fresh_back stX.h k0
  obtain ⟨Bs, hBs⟩ : ∃ Bs, Bs = upd B11 t (.lst ([u0, u1, u2] ++ [u3, u4])) := ⟨_, rfl⟩
  have xs : Ex B11 Bs := by rw [hBs]; exact Ex.new k1
  have es : Ex Bs H11 := by rw [hBs]; exact ex_join s11.i ht11
  have hul5 := (ul5.grow xs).is (p := t) (by rw [hBs, upd_same])
  have x3' := h.x3' F
  refine b_cons (s_app es (e_var 12 rfl) (e_andU UU (hr.mono (by decide)) (e_orU UU (hr.mono (by decide)) (e_ixUL (k := 1) (L := L1) (e_var 12 rfl) e_int hul5 rfl) (e_ixUL (k := 0) (L := L0) (e_var 12 rfl) e_int hul5 rfl) (x3'.1.good F)) (e_ixUL (k := 2) (L := L2) (e_var 12 rfl) e_int hul5 rfl) (x3'.1.good F).kept g2.kept (h.x5 F).few) ht11 (by show 5 < 100000; decide) fun v12 B12 H12 s12 r12 => ?_)
  have h12 : IsU K C n (keptF (X5 L0 L1 L2)) v12 B12 := r12 B12 (Ex.refl B12)
  have ht12 : B12 t = some (.lst ([u0, u1, u2] ++ [u3, u4])) := s12.b _ _ (by rw [hBs, upd_same])
  have s12' : Step B11 H11 (del B12 t) H12 := Step.drop k1 (hBs ▸ s12)
  have stF := ((stX.trans s11).trans s12').put (o := .lst ([u0, u1, u2] ++ [u3, u4] ++ [v12])) del_same t0
  have stG := stF.join del_same t0 upd_same
  have ul6 : ULs K C n (del B12 t) (sixX L0 L1 L2) ([u0, u1, u2] ++ [u3, u4] ++ [v12]) := (ul5.grow s12'.b).app (Ys := [X5 L0 L1 L2]) ⟨isU_del ht12 h12, trivial⟩
  have hul6 : IsUL K C n (sixX L0 L1 L2) (.ref t) (upd (del B12 t) t (.lst ([u0, u1, u2] ++ [u3, u4] ++ [v12]))) := (ul6.grow (Ex.new del_same)).is upd_same
  exact law_C U UU GU GC GA GP GE GR F h ⟨p0, rest0, hps0, hp0⟩ hg hr stG.i (y.go stG) (bag_grow hb stG.b) (dp_grow hpv stG.b) (dp_grow huv stG.b) (dp_grow hrv stG.b) (isLL_grow hlv stG.b) hul6
end
end K8

/-! law. -/
namespace K8
open PySem PySem.Spec PyProof.Rows L2 Evl
section
variable {P : Program} {w : World} {K : PySem.W.Frag} {mg : Str → Option Value} {base : Heap} {C CE : Addr}
def TLs (K : PySem.W.Frag) (B : Hp) : List (List Scene) → List V → Prop
  | [], [] => True
  | X :: Xs, u :: us => IsTL K (X.map dScene) u B ∧ TLs K B Xs us
  | [], _ :: _ => False
  | _ :: _, [] => False
theorem TLs.app {B : Hp} : ∀ {Xs Ys : List (List Scene)} {us vs : List V}, TLs K B Xs us → TLs K B Ys vs → TLs K B (Xs ++ Ys) (us ++ vs)
  | [], _, [], _, _, h => h
  | _ :: _, _, _ :: _, _, h, k => ⟨h.1, TLs.app h.2 k⟩
  | [], _, _ :: _, _, h, _ => h.elim
  | _ :: _, _, [], _, h, _ => h.elim
theorem TLs.grow {B B' : Hp} (e : Ex B B') : ∀ {Xs : List (List Scene)} {us : List V}, TLs K B Xs us → TLs K B' Xs us
  | [], [], _ => trivial
  | _ :: _, _ :: _, h => ⟨isTL_grow h.1 e, TLs.grow e h.2⟩
  | [], _ :: _, h => h.elim
  | _ :: _, [], h => h.elim
theorem TLs.len {B : Hp} : ∀ {Xs : List (List Scene)} {us : List V}, TLs K B Xs us → us.length = Xs.length
  | [], [], _ => rfl
  | _ :: _, _ :: _, h => by rw [List.length_cons, List.length_cons, TLs.len h.2]
  | [], _ :: _, h => h.elim
  | _ :: _, [], h => h.elim
theorem TLs.get {B : Hp} : ∀ {Xs : List (List Scene)} {us : List V}, TLs K B Xs us → ∀ (k : Nat) u X, us[k]? = some u → Xs[k]? = some X → IsTL K (X.map dScene) u B
  | X :: Xs, u :: us, h, 0, _, _, a, b => by
    cases a
    cases b
    exact h.1
  | X :: Xs, u :: us, h, k + 1, _, _, a, b => TLs.get h.2 k _ _ (by simpa using a) (by simpa using b)
  | [], [], _, k, _, _, a, _ => by simp at a
  | [], _ :: _, h, _, _, _, _, _ => h.elim
  | _ :: _, [], h, _, _, _, _, _ => h.elim
theorem scenes_of {p : Scene → Prop} : ∀ ds : List PyData, (∀ d ∈ ds, ∃ s, d = dScene s ∧ p s) → ∃ S : List Scene, ds = S.map dScene ∧ ∀ s ∈ S, p s
  | [], _ => ⟨[], rfl, fun _ h => absurd h (by simp)⟩
  | d :: ds, h => by
    obtain ⟨s, rfl, hs⟩ := h d List.mem_cons_self
    obtain ⟨S, rfl, hS⟩ := scenes_of ds fun x hx => h x (List.mem_cons_of_mem _ hx)
    exact ⟨s :: S, rfl, fun x hx => by
      rcases List.mem_cons.1 hx with e | hx
      · rw [e]; exact hs
      · exact hS x hx⟩
def PLaw (L : List Int) : Prop := ∃ a b c : Int, L = [a, b, c] ∧ (0 ≤ a ∧ a ≤ 5) ∧ (1 ≤ b ∧ b ≤ 3) ∧ (0 ≤ c ∧ c ≤ 5)
def mostD : List PyData := [.int 6, .int 4, .int 3, .int 1, .int 1, .int 1, .int 1, .int 1]
theorem most_at {n : Nat} (h1 : 1 ≤ n) (h8 : n ≤ 8) : ∃ m : Nat, atI mostD ((n : Int) - 1) = some (.int (m : Int)) ∧ (m + 1) ^ n ≤ 256 ∧ m ≤ 6 := by
  have hc : n = 1 ∨ n = 2 ∨ n = 3 ∨ n = 4 ∨ n = 5 ∨ n = 6 ∨ n = 7 ∨ n = 8 := by omega
  rcases hc with rfl | rfl | rfl | rfl | rfl | rfl | rfl | rfl
  · exact ⟨6, atI_nat (j := 0) rfl, by decide, by decide⟩
  · exact ⟨4, atI_nat (j := 1) rfl, by decide, by decide⟩
  · exact ⟨3, atI_nat (j := 2) rfl, by decide, by decide⟩
  · exact ⟨1, atI_nat (j := 3) rfl, by decide, by decide⟩
  · exact ⟨1, atI_nat (j := 4) rfl, by decide, by decide⟩
  · exact ⟨1, atI_nat (j := 5) rfl, by decide, by decide⟩
  · exact ⟨1, atI_nat (j := 6) rfl, by decide, by decide⟩
  · exact ⟨1, atI_nat (j := 7) rfl, by decide, by decide⟩
def kindD : List PyData := [.int 1, .int 2, .int 3, .int 2, .int 3, .int 4]
theorem kind_at {k : Int} (h0 : 0 ≤ k) (h5 : k ≤ 5) : ∃ n : Nat, atI kindD k = some (.int (n : Int)) ∧ 1 ≤ n ∧ n ≤ 8 := by
  have hc : k = 0 ∨ k = 1 ∨ k = 2 ∨ k = 3 ∨ k = 4 ∨ k = 5 := by omega
  rcases hc with rfl | rfl | rfl | rfl | rfl | rfl
  · exact ⟨1, atI_nat (j := 0) rfl, by decide, by decide⟩
  · exact ⟨2, atI_nat (j := 1) rfl, by decide, by decide⟩
  · exact ⟨3, atI_nat (j := 2) rfl, by decide, by decide⟩
  · exact ⟨2, atI_nat (j := 3) rfl, by decide, by decide⟩
  · exact ⟨3, atI_nat (j := 4) rfl, by decide, by decide⟩
  · exact ⟨4, atI_nat (j := 5) rfl, by decide, by decide⟩
def preLaw (K : PySem.W.Frag) : List V → Hp → Rel → Prop := fun vs B R => ∃ (ns : List Int) (v : V), vs = [v] ∧ Dp K B v (.list (ns.map .int)) ∧ ns.length ≤ 63 ∧ R = IsV (.bl true)
abbrev D_law (P : Program) (w : World) (K : PySem.W.Frag) (mg : Str → Option Value) (base : Heap) : Prop := DfnG P w K mg base 10 "law" ["_law_script"] (Pure (preLaw K))
theorem ok_law {f : Addr} {fd : FuncData} (U : Bi mg) (UU : UM P w K mg base C CE) (GB : D_bag P w K mg base) (GT : D_take P w K mg base) (GPo : D_posts P w K mg base) (GBa : D_base P w K mg base) (GS : D_lscene P w K mg base) (GO : D_l_of P w K mg base C) (GY : D_says P w K mg base) (GU : D_cube P w K mg base) (GC : D_covered P w K mg base) (GA : D_asked P w K mg base C) (GP : D_compared P w K mg base C) (GE : D_empty P w K mg base) (GR : D_refusals P w K mg base C)
    (F : Fun K "law" "law" s_law f fd) : FnG P w K mg base 10 f fd ["_law_script"] (Pure (preLaw K)) := by
  refine pure_okG F sc_law (fun vs H R ⟨_, _, hv, _⟩ => by rw [hv]; rfl) fun cdv A outer s0 B H vs Q E R hg hr e0 h y => ?_
  obtain ⟨ns, v, rfl, hv, hz, rfl⟩ := h
  refine b_cons (s_set 1 e0 (e_callP (R := IsBag) GB (hr.mono (by decide)) (a_one (e_varD 0 rfl hv)) fun vs B1 e1 rr => ?_) (fun v1 B1 H1 s1 r1 => ?_) sc_law.nd)
  · obtain ⟨v1, vs1, rfl, r1, r3⟩ := rr
    have e3 : vs1 = [] := r3
    subst e3
    exact ⟨ns, v1, rfl, r1, hz, rfl⟩
  have hb1 := r1 B1 (Ex.refl B1)
  refine b_cons (s_set 2 s1.i (e_callP (R := IsPosts K) GPo (hr.mono (by decide)) (a_one ((e_var 1 rfl).imp (R' := IsBag) fun v B1 e r => by cases r; exact bag_grow hb1 e)) fun vs B1 e1 rr => ?_) (fun v2 B2 H2 s2 r2 => ?_) sc_law.nd)
  · obtain ⟨v1, vs1, rfl, r1, r3⟩ := rr
    have e3 : vs1 = [] := r3
    subst e3
    exact ⟨v1, rfl, r1, rfl⟩
  obtain ⟨ps0, hps, hpv⟩ := r2 B2 (Ex.refl B2)
  have st2 := s1.trans s2
  have hb2 := bag_grow hb1 s2.b
  refine b_cons (s_set 3 s2.i (e_take GT (hr.mono (by decide)) ((e_var 1 rfl).imp fun v B1 e r => by cases r; exact bag_grow hb2 e) e_int (by decide) (by decide)) (fun v3 B3 H3 s3 r3 => ?_) sc_law.nd)
  obtain ⟨kd, rfl, k0, k1⟩ := r3 B3 (Ex.refl B3)
  have hb3 := bag_grow hb2 s3.b
  refine b_cons (s_set 4 s3.i (R := fun v _ => ∃ n : Nat, v = .int (n : Int) ∧ 1 ≤ n ∧ n ≤ 8) (e_if (k := decide (5 < kd)) (t_gtI (e_var 3 rfl) e_int) (fun _ => e_op op_add e_int (e_take GT (hr.mono (by decide)) ((e_var 1 rfl).imp fun v B1 e r => by cases r; exact bag_grow hb3 e) e_int (by decide) (by decide)) fun x y B1 _ rx ry H1 i1 Q q => ?_) fun hk => ?_) (fun v4 B4 H4 s4 r4 => ?_) sc_law.nd)
  · cases rx
    obtain ⟨d, rfl, d0, d1⟩ := ry
    exact ⟨5, d, rfl, rfl, q.at i1 fun _ _ => ⟨(5 + d).toNat, by rw [Int.toNat_of_nonneg (by omega)], by omega, by omega⟩⟩
  · have hk5 : kd ≤ 5 := by have := of_decide_eq_false hk; omega
    obtain ⟨n, hn, n1, n8⟩ := kind_at k0 hk5
    exact EvP.imp (EvP.int (e_ixL (ds := kindD) (e_lstD (ad_cons (EvP.intD e_int) (ad_cons (EvP.intD e_int) (ad_cons (EvP.intD e_int) (ad_cons (EvP.intD e_int) (ad_cons (EvP.intD e_int) (ad_cons (EvP.intD e_int) ad_nil)))))) (by show 6 ≤ 100000; decide)) (e_var 3 rfl) hn)) fun v B1 _ r => ⟨n, r, n1, n8⟩
  obtain ⟨n, rfl, n1, n8⟩ := r4 B4 (Ex.refl B4)
  obtain ⟨m, hm, hsm, hm6⟩ := most_at n1 n8
  refine b_cons (s_set 5 s4.i (EvP.int (e_ixL (ds := mostD) (e_lstD (ad_cons (EvP.intD e_int) (ad_cons (EvP.intD e_int) (ad_cons (EvP.intD e_int) (ad_cons (EvP.intD e_int) (ad_cons (EvP.intD e_int) (ad_cons (EvP.intD e_int) (ad_cons (EvP.intD e_int) (ad_cons (EvP.intD e_int) ad_nil)))))))) (by show 8 ≤ 100000; decide)) (e_subI (e_var 4 rfl) e_int) hm)) (fun v5 B5 H5 s5 r5 => ?_) sc_law.nd)
  obtain rfl := r5 B5 (Ex.refl B5)
  have hb5 := bag_grow (bag_grow hb3 s4.b) s5.b
  refine b_cons (s_set 6 s5.i (e_callP (R := IsBase K n) GBa (hr.mono (by decide)) (a_cons ((e_var 1 rfl).imp (R' := IsBag) fun v B1 e r => by cases r; exact bag_grow hb5 e) (a_one (e_var 4 rfl))) fun vs B1 e1 rr => ?_) (fun v6 B6 H6 s6 r6 => ?_) sc_law.nd)
  · obtain ⟨v1, vs1, rfl, r1, v2, vs2, rfl, r2, r3⟩ := rr
    have e3 : vs2 = [] := r3
    cases r2
    subst e3
    exact ⟨v1, n, rfl, r1, n8, rfl⟩
  obtain ⟨r, hgr, hrv⟩ := r6 B6 (Ex.refl B6)
  have st6 := (((st2.trans s3).trans s4).trans s5).trans s6
  have hpv6 : Dp K B6 v2 (.list (ps0.map .str)) := dp_grow hpv (((s3.trans s4).trans s5).trans s6).b
  obtain ⟨ps, hpsd⟩ : ∃ ps, ps = if 5 < n then ps0.take 1 else ps0 := ⟨_, rfl⟩
  have h3 := hps.three
  obtain ⟨p0, rest0, hp0⟩ : ∃ p rest, ps0 = p :: rest := by
    cases q : ps0 with
    | nil => rw [q] at h3; cases h3
    | cons a l => exact ⟨a, l, rfl⟩
  obtain ⟨rest, hpss⟩ : ∃ rest, ps = p0 :: rest := by
    rw [hpsd, hp0]
    split
    · exact ⟨[], rfl⟩
    · exact ⟨rest0, rfl⟩
  have hsub : ∀ p ∈ ps, p ∈ ps0 := fun p hp => by
    rw [hpsd] at hp
    split at hp
    · exact List.mem_of_mem_take hp
    · exact hp
  have hlen : ps.length ≤ 3 := by
    rw [hpsd]
    split
    · rw [List.length_take]
      omega
    · omega
  have hnd : ps.Nodup := by
    rw [hpsd]
    split
    · exact hps.nd.sublist (List.take_sublist _ _)
    · exact hps.nd
  have F0 : Frm n m ps r := ⟨n1, n8, hgr, hm6, hsm, fun p hp => hps.ok p (hsub p hp), hnd, hlen⟩
  refine b_cons (s_set 7 s6.i (R := IsD K (.list (ps.map .str))) (e_if (k := decide ((5 : Int) < (n : Int))) (t_gtI (e_var 4 rfl) e_int) (fun hk => ?_) fun hk => ?_) (fun v7 B7 H7 s7 r7 => ?_) sc_law.nd)
  · have hn : 5 < n := by have := of_decide_eq_true hk; omega
    have e1 : cutD (ps0.map PyData.str) none (some 1) = ps.map .str := by
      refine (cut_to (ps0.map PyData.str) 1 (by rw [List.length_map]; omega)).trans ?_
      rw [hpsd, if_pos hn, List.map_take]
    exact EvP.imp (e_slTo (e_varD 2 rfl hpv6) e_int) fun v B1 _ r => by
      rw [e1] at r
      exact isTL_d r
  · have hn : ¬ 5 < n := by have := of_decide_eq_false hk; omega
    rw [hpsd, if_neg hn]
    exact e_varD 2 rfl hpv6
  have huv : Dp K B7 v7 (.list (ps.map .str)) := r7 B7 (Ex.refl B7)
  have st7 := st6.trans s7
  have hrv7 := dp_grow hrv s7.b
  have hb7 := bag_grow (bag_grow hb5 s6.b) s7.b
  have hpv7 := dp_grow hpv6 s7.b
  refine b_cons (s_setN 8 s7.i (n_lst (RA := ANil) a_nil fun vs _ e => by cases e; decide) (fun q B8 H8 q0 q1 s8 r8 => ?_) sc_law.nd)
  obtain ⟨vs0, hq8, hvs0⟩ := r8
  have ev : vs0 = [] := hvs0 B8 (Ex.refl B8)
  subst ev
  have st8 := st7.trans s8
  have q0H : H q = none := fresh_back st7.h q0
  have hb8 := bag_grow hb7 s8.b
  have huv8 := dp_grow huv s8.b
  have hrv8 := dp_grow hrv7 s8.b
  refine b_cons (for_lE (i := 9) PLaw PyData.int (fun L j σ' B' H' => ∃ z9 acc LL, σ' = [some v, some v1, some v2, some (.int kd), some (.int (n : Int)), some (.int (m : Int)), some v6, some v7, some (.ref q), z9, none, none, none, none, none, none, none, none, none, none] ∧ Step B H B' H' ∧ Ex B8 B' ∧ B' q = none ∧ H' q = some (.lst acc) ∧ TLs K B' LL acc ∧ LL.length = j ∧ ∀ (i : Nat) Li, LL[i]? = some Li → (∃ li, L[i]? = some li ∧ Li.length = li.toNat) ∧ ∀ s ∈ Li, s ∈ cubeOf m ps r) PassesOwn.never rfl (pg_name sc_law.nd rfl (.inl rfl)) st8.i (EvP.imp (e_lst (RA := ACons (IsBelow 6) (ACons (fun v _ => ∃ i : Int, v = .int i ∧ 1 ≤ i ∧ i ≤ 3) (ACons (IsBelow 6) ANil))) (a_cons (e_take GT (hr.mono (by decide)) ((e_var 1 rfl).imp fun v B1 e r => by cases r; exact bag_grow hb8 e) e_int (by decide) (by decide)) (a_cons (e_op op_add e_int (e_take GT (hr.mono (by decide)) ((e_var 1 rfl).imp fun v B1 e r => by cases r; exact bag_grow hb8 e) e_int (by decide) (by decide)) fun x y B1 _ rx ry H1 i1 Q q => ?_) (a_one (e_take GT (hr.mono (by decide)) ((e_var 1 rfl).imp fun v B1 e r => by cases r; exact bag_grow hb8 e) e_int (by decide) (by decide))))) fun vs B1 rr => ?_) fun v B1 _ rr => ?_) (fun L B9 H9 hL s9 => ⟨_, [], [], rfl, st8.trans s9, s9.b, s9.off _ _ q1 hq8, s9.h _ _ hq8, trivial, rfl, fun i Li h => by simp at h⟩) ?_ ?_)
  · cases rx
    obtain ⟨d, rfl, d0, d1⟩ := ry
    exact ⟨1, d, rfl, rfl, q.at i1 fun _ _ => ⟨1 + d, rfl, by omega, by omega⟩⟩
  · obtain ⟨x1, y1, rfl, _, x2, y2, rfl, _, x3, y3, rfl, _, h5⟩ := rr
    rw [show y3 = [] from h5]
    show 3 ≤ 100000
    decide
  · obtain ⟨p, vs, rfl, hp, x1, y1, rfl, ⟨a, rfl, a0, a1⟩, x2, y2, rfl, ⟨b, rfl, b0, b1⟩, x3, y3, rfl, ⟨c, rfl, c0, c1⟩, h5⟩ := rr
    have h6 : y3 = [] := h5
    subst h6
    exact ⟨[a, b, c], ⟨a, b, c, rfl, ⟨a0, by omega⟩, ⟨b0, b1⟩, ⟨c0, by omega⟩⟩, .lst (sq_of hp) (.cons (.int a) (.cons (.int b) (.cons (.int c) .nil)))⟩
  · rintro L j a x σ' B9 H9 hL ha eB i9 hx ⟨z9, acc, LL, rfl, st9, x89, nq, hq, hTL, hLL, hall⟩
    cases hx
    have haB : 0 ≤ a ∧ a ≤ 5 := by
      obtain ⟨a', b', c', rfl, h1, h2, h3⟩ := hL
      match j, ha with
      | 0, ha => cases ha; omega
      | 1, ha => cases ha; omega
      | 2, ha => cases ha; omega
      | j + 3, ha => simp at ha
    have hjl : acc.length ≤ 100 := by
      rw [hTL.len, hLL]
      have h1 := (List.getElem?_eq_some_iff.mp ha).1
      obtain ⟨a', b', c', rfl, _⟩ := hL
      have h2 : j < 3 := h1
      omega
    have hb9 := bag_grow hb8 x89
    have huv9 := dp_grow huv8 x89
    have hrv9 := dp_grow hrv8 x89
    refine b_one (s_appN (RN := fun p B1 H1 => ∃ ds, ds.length = a.toNat ∧ (∀ (i : Nat) d, ds[i]? = some d → ∃ s, d = dScene s ∧ s ∈ cubeOf m ps r) ∧ NewL (AD K ds) p B1 H1) st9.i (e_var 8 rfl) (appN_of fun B' e' => n_lcR (own := [("_law_k", 10)]) (j := 10) (m := a) (fun _ d => ∃ s, d = dScene s ∧ s ∈ cubeOf m ps r) sc_law.nd U.range (e_var 9 rfl) (by omega) rfl fun k hk B10 e10 s' H10 C10 cl fp => ?_) hq (by omega) fun p B10 H10 p0' p1' s10 r10 => ?_)
    · refine EvP.imp (e_callP (R := IsScn K ps r (m : Int)) GS (hr.mono (by decide)) (a_cons ((e_var 1 rfl).imp (R' := IsBag) fun v B1 e r => by cases r; exact bag_grow (bag_grow (bag_grow hb9 e') e10) e) (a_cons (e_var 7 rfl) (a_cons (e_var 6 rfl) (a_one (e_var 5 rfl))))) fun vs B1 e1 rr => ?_) fun v B1 _ ⟨s, h1, h2, h3⟩ => ⟨dScene s, ⟨s, rfl, F0.mem.mpr ⟨h1, h2⟩⟩, h3⟩
      obtain ⟨v1', vs1, rfl, r1, v2', vs2, rfl, r2, v3', vs3, rfl, r3, v4', vs4, rfl, r4, r5⟩ := rr
      have e5 : vs4 = [] := r5
      cases r2
      cases r3
      cases r4
      subst e5
      refine ⟨v1', _, _, ps, r, (m : Int), rfl, r1, dp_grow huv9 ((e'.trans e10).trans e1), by rw [hpss]; simp, hlen, dp_grow hrv9 ((e'.trans e10).trans e1), by rw [hgr.1]; exact n8, by omega, by omega, rfl⟩
    · obtain ⟨ds, hdl, hda, ws, hp10, hws⟩ := r10
      obtain ⟨S, rfl, hS⟩ := scenes_of (p := fun s => s ∈ cubeOf m ps r) ds fun d hd => by
        obtain ⟨i, hi⟩ := List.mem_iff_getElem?.mp hd
        exact hda i d hi
      have ne : p ≠ q := fun e => by
        rw [e, hq] at p0'
        cases p0'
      have s11 := s10.join p1' p0' hp10
      have nq11 : (upd B10 p (.lst ws)) q = none := by rw [upd_ne (Ne.symm ne)]; exact s10.off _ _ nq hq
      have hT : IsTL K (S.map dScene) (.ref p) (upd B10 p (.lst ws)) := ⟨p, ws, rfl, upd_same, hws _ (Ex.new p1')⟩
      refine ⟨_, ⟨_, acc ++ [.ref p], LL ++ [S], rfl, (st9.trans s11).put nq11 q0H, x89.trans s11.b, nq11, upd_same, (hTL.grow s11.b).app ⟨hT, trivial⟩, by rw [List.length_append, hLL]; rfl, fun i Li hi => ?_⟩, s11.b, ex_put s11.i nq11⟩
      by_cases hij : i < LL.length
      · rw [List.getElem?_append_left hij] at hi
        exact hall i Li hi
      · rw [List.getElem?_append_right (by omega)] at hi
        have hi0 : i - LL.length = 0 := by
          have := (List.getElem?_eq_some_iff.1 hi).1
          simp at this
          omega
        rw [hi0] at hi
        cases hi
        refine ⟨⟨a, ?_, by rw [List.length_map] at hdl; exact hdl⟩, hS⟩
        have : i = j := by omega
        rw [this]
        exact ha
  · rintro L σ' B9 H9 hL eB i9 ⟨z9, acc, LL, rfl, st9, x89, nq, hq, hTL, hLL, hall⟩
    obtain ⟨a, b, c, rfl, ha, hb', hc⟩ := hL
    have hl3 : LL.length = 3 := hLL
    match LL, hl3, hTL, hall with
    | [L0, L1, L2], _, hTL, hall =>
      obtain ⟨⟨l0, e0', hl0⟩, hS0⟩ := hall 0 L0 rfl
      obtain ⟨⟨l1, e1', hl1⟩, hS1⟩ := hall 1 L1 rfl
      obtain ⟨⟨l2, e2', hl2⟩, hS2⟩ := hall 2 L2 rfl
      cases e0'
      cases e1'
      cases e2'
      have LS : Ls n m ps r L0 L1 L2 := ⟨⟨hS0, by omega⟩, ⟨hS1, by omega⟩, ⟨hS2, by omega⟩, by omega, by omega, by omega, by omega⟩
      have stj := st9.join nq q0H hq
      have hlv : IsLL K [L0, L1, L2] (.ref q) (upd B9 q (.lst acc)) := ⟨q, acc, rfl, upd_same, hTL.len, (hTL.grow (Ex.new nq)).get⟩
      have x9 : Ex B8 (upd B9 q (.lst acc)) := x89.trans (Ex.new nq)
      exact law_B U UU GO GY GU GC GA GP GE GR F0 LS hpss hp0 (hps.ok p0 (by rw [hp0]; exact List.mem_cons_self)) hg hr stj.i (y.go stj) (bag_grow hb8 x9) (dp_grow (dp_grow hpv7 s8.b) x9) (dp_grow huv8 x9) (dp_grow hrv8 x9) hlv
end
end K8

/-! The end: the law's def is called on the script, from a heap in which the script alone is tracked. -/
namespace K8
open PySem PySem.Spec PyProof.Rows L2 Evl
/-- the script's object, laid by: tracked at a alone, and not where it is an object of the module -/
def only1 (K : PySem.W.Frag) (a : Addr) (o : Obj) (x : HO) : Hp := fun b => if b = a ∧ K.lookup a = none then some (.frz o x) else none
section
variable {P : Program} {w : World} {K : PySem.W.Frag} {a b : Addr} {o : Obj} {x u : HO} {h : Heap}
theorem only1_some (e : only1 K a o x b = some u) : b = a ∧ K.lookup a = none ∧ u = .frz o x := by
  unfold only1 at e
  by_cases c : b = a ∧ K.lookup a = none
  · exact ⟨c.1, c.2, (Option.some.inj ((if_pos c).symm.trans e)).symm⟩
  · exact nomatch (if_neg c).symm.trans e
theorem only1_none (e : b = a → K.lookup a ≠ none) : only1 K a o x b = none := if_neg fun c => e c.1 c.2
/-- every promise that the law's def needs of the heap ahead of it -/
structure Floor (K : PySem.W.Frag) (mg mb : Str → Option Value) (s : Shared) (a : Addr) (vs : List Value) (ns : List Int) : Prop where
  frag : K.In s.heap
  glob : Heap.Ns s.heap mainGlobals mg
  bltn : Heap.Ns s.heap builtinsNs mb
  boot : ∀ y : Str, y ≠ "__name__" → mb y = bootBuiltins y
  free : Heap.NoLimit s.heap
  gens : s.gens = #[]
  list : s.heap.get? a = some { cls := .type "list", data := .seq vs.toArray }
  nums : IntsAre vs ns
  size : ns.length ≤ sizeLine
namespace Floor
variable {mg mb : Str → Option Value} {s : Shared} {vs : List Value} {ns : List Int}
abbrev obj (vs : List Value) : Obj := { cls := .type "list", data := .seq vs.toArray }
abbrev hp (K : PySem.W.Frag) (a : Addr) (vs : List Value) (ns : List Int) : Hp := only1 K a (obj vs) (.lst (ns.map V.int))
theorem dict_free (L : Floor K mg mb s a vs ns) {es : Array DictEntry} {ep : Nat} (e : s.heap.get? b = some o) (d : o.data = .dict es ep) : hp K a vs ns b = none :=
  only1_none fun q _ => by
    rw [q, L.list] at e
    cases e
    cases d
theorem ns_kept (L : Floor K mg mb s a vs ns) {g : Addr} {m : Str → Option Value} : Heap.Ns s.heap g m → Heap.Ns (hidT s.heap (hp K a vs ns)) g m
  | ⟨o, es, ep, e, d, r⟩ => ⟨o, es, ep, hidT_get e (L.dict_free e d), d, r⟩
theorem in_kept (L : Floor K mg mb s a vs ns) : K.In (hidT s.heap (hp K a vs ns)) := fun b o e =>
  hidT_get (L.frag b o e) (only1_none fun q z => by rw [q] at e; exact nomatch z.symm.trans e)
theorem laid (L : Floor K mg mb s a vs ns) : HOk P w (hp K a vs ns) s.heap := fun b u e => by
  obtain ⟨rfl, _, rfl⟩ := only1_some e
  exact ⟨L.list, (List.length_map (f := V.int) (as := ns)).symm ▸ L.size, vs, _, vals_ints L.nums, L.list⟩
theorem reads (L : Floor K mg mb s a vs ns) : SqL K (hp K a vs ns) a (ns.map V.int) := by
  cases c : K.lookup a with
  | none => exact .inl (.inr ⟨obj vs, if_pos ⟨rfl, c⟩⟩)
  | some o =>
    cases (L.frag a o c).symm.trans L.list
    exact .inr ⟨_, vs.toArray, _, c, rfl, rfl, rfl, by rw [List.size_toArray, L.nums.length]; exact L.size, by simpa using vals_ints L.nums⟩
theorem env (L : Floor K mg mb s a vs ns) : Env0 P w K mg (hidT s.heap (hp K a vs ns)) callerA [] s (hp K a vs ns) where
  frames := rfl
  mod := ⟨L.in_kept, L.ns_kept L.glob, ⟨mb, L.ns_kept L.bltn, L.boot⟩, L.free.imp fun _ r => ⟨L.ns_kept r.1, r.2⟩⟩
  bs _ _ e := of_hidT e
  bsz := Nat.le_of_eq (hidT_size _ _)
  funs := trivial
  frf _ m := nomatch m
  hok := L.laid
  bare := .of_eq L.gens
/-- the call of the law's def on the script -/
theorem call (L : Floor K mg mb s a vs ns) {k : Nat} {f : Addr} {fd : FuncData} {p : Str} {sp : Sp} (room : Room k callerA) (bind : ∀ (z : Shared) (v : Value), BindsTo z fd ⟨[v], []⟩ [(p, v)])
    (F : ∀ base, K.In base → Heap.Ns base mainGlobals mg → FnG P w K mg base k f fd [p] sp) (pre : ∀ H, Only H → SqL K H a (ns.map V.int) → sp [.ref a] H (fun v _ => v = .bl true) fun _ _ _ => False) :
    codeAny (model P w) callerA (.call (.ref f) ⟨[.ref a], []⟩) (fun r z => r = .ok (.ret (.bool true)) ∧ OldK s.heap z.heap ∧ z.os = s.os ∧ AllBare z.gens) s := by
  have one : Only (hp K a vs ns) := fun b => by
    cases e : hp K a vs ns b with
    | none => exact .inl rfl
    | some u => exact .inr ⟨_, _, congrArg some (only1_some e).2.2⟩
  refine codeAny_mono ((F _ L.in_kept (L.ns_kept L.glob)).run callerA [] s _ ⟨[.ref a], []⟩ [.ref a] [.ref a] _ _ rfl room L.env (bind s _) (.cons rfl .nil) (pre _ one L.reads)) fun r z out => ?_
  rcases r with e | fl
  case error => exact (show False from out).elim
  cases fl
  case ret u =>
    obtain ⟨v, H1, eos, eg, un, ok1, rv, rfl⟩ := out
    obtain rfl : u = Value.bool true := rv
    refine ⟨rfl, .of_keep fun b o e => ?_, eos, eg⟩
    cases c : hp K a vs ns b with
    | none => exact un.keep b o e c (fun m => nomatch m) fun m => nomatch m
    | some y =>
      obtain ⟨rfl, _, rfl⟩ := only1_some c
      cases e.symm.trans L.list
      exact (ok1 _ _ (un.frzs _ _ _ c)).1
  all_goals exact out.elim
end Floor
end
/-- what is to be shown of the law's def, world by world -/
abbrev Answers (P : Program) (n k : Nat) (p : Str) (w : World) (mg : Str → Option Value) (f : Addr) (h : Heap) : Prop :=
  ∃ (K : PySem.W.Frag) (fd : FuncData) (sp : Sp), K.In h ∧ (∀ (z : Shared) (v : Value), BindsTo z fd ⟨[v], []⟩ [(p, v)]) ∧ (∀ (H : Hp) (a : Addr) (ns : List Int), ns.length ≤ n → Only H → SqL K H a (ns.map V.int) → sp [.ref a] H (fun v _ => v = .bl true) fun _ _ _ => False) ∧
    ∀ base, K.In base → Heap.Ns base mainGlobals mg → FnG P w K mg base k f fd [p] sp
theorem walk_ofG {l : PySem.W.OpenLaw} {n k : Nat} {q : Program} {loose : List Str} {XP : (Str → Option Value) → Heap → Prop} {YP : World → Heap → Prop} {d : DefRec} {x : Str} (most : l.most = some n) (fits : n ≤ sizeLine)
    (plain : d.params.defaults = []) (room : Room k callerA) (F : ∀ w mg f h, YP w h → Heap.Ns h mainGlobals mg → mg d.name = some (.ref f) → Answers l.prog n k x w mg f h) :
    PySem.W.WalkO q loose XP YP l.row.toRowW d [] fun f vs => PySem.call f vs :=
  Att.attach_call most plain fun w s0 s mg mb f o pm cd doc a vs ns G Y _ _ _ named list nums len gens => by
    obtain ⟨K, fd, sp, frag, bind, pre, fn⟩ := F w mg f _ Y G.T.g named
    exact Floor.call ⟨frag, G.T.g, G.T.b, G.T.builtins, G.T.nolimit, gens, list, nums, Nat.le_trans len fits⟩ room bind fn fun H => pre H a ns len
end K8

/-! The head's facts, from what the hook says of K. -/
namespace K8
open PySem PySem.Spec PyProof.Rows L2 Evl
def gT (x : Str) (st : Stmt) : He5.DefA := ⟨fun K => He.ga K x, x, x, defArgs st, defBody st, defScope st, [], []⟩
def gM (m q : Str) (st : Stmt) : He5.DefA := ⟨fun K => He.ma K (He.ga K "Upset") m, m, q, defArgs st, defBody st, defScope st, [], []⟩
def gW (T : String) (m q : Str) (st : Stmt) : He5.DefA := ⟨fun K => He5.wf K (He.ga K "Upset") T m, m, q, defArgs st, defBody st, defScope st, [], []⟩
theorem fun_of {K : PySem.W.Frag} {at_ : PySem.W.Frag → Addr} {x q : Str} {st : Stmt} (e : He5.fnA K (at_ K) = (⟨at_, x, q, defArgs st, defBody st, defScope st, [], []⟩ : He5.DefA).val) (c : (⟨at_, x, q, defArgs st, defBody st, defScope st, [], []⟩ : He5.DefA).ok K = true) : ∃ fd, Fun K x q st (at_ K) fd := by
  obtain ⟨fd, F⟩ := He5.DefA.funD e c
  obtain ⟨oc, od, dV, kV, doc, pm, an, cdv, ct, osl, h1, h2, h3, hD, _⟩ := F.ex
  rcases hD with ⟨_, rfl⟩ | ⟨ne, _⟩
  · exact ⟨fd, ⟨oc, od, kV, doc, pm, an, cdv, ct, osl, h1, h2, h3⟩, F.kp⟩
  · exact absurd rfl ne
end K8

/-! Where each def of the top stands: printed by gen_head.py. -/
namespace K8
open PySem PySem.Spec PyProof.Rows L2 Evl
def tops : List (Str × Stmt) := [(("is_integer" : Str), s_is_integer), (("is_letter" : Str), s_is_letter), (("is_name" : Str), s_is_name), (("is_pair" : Str), s_is_pair), (("is_row" : Str), s_is_row), (("check_row" : Str), s_check_row), (("check_rows" : Str), s_check_rows), (("entries_cover" : Str), s_entries_cover), (("covers_some" : Str), s_covers_some), (("least_among" : Str), s_least_among), (("is_scene" : Str), s_is_scene), (("rows_of_post" : Str), s_rows_of_post), (("least_scenes_of" : Str), s_least_scenes_of), (("_law_bag" : Str), s_l_bag), (("_law_take" : Str), s_l_take), (("_law_is_integer" : Str), s_l_is_integer), (("_law_is_row" : Str), s_l_is_row), (("_law_posts" : Str), s_l_posts), (("_law_base" : Str), s_l_base), (("_law_scene" : Str), s_l_scene), (("_law_over" : Str), s_l_over), (("_law_cube" : Str), s_l_cube), (("_law_covered" : Str), s_l_covered), (("_law_least" : Str), s_l_least), (("_law_is_scene" : Str), s_l_is_scene), (("_law_lists" : Str), s_l_lists), (("_law_asked" : Str), s_l_asked), (("_law_says" : Str), s_l_says), (("_law_compared" : Str), s_l_compared), (("_law_empty" : Str), s_l_empty), (("_law_odd" : Str), s_l_odd), (("_law_odd_scene" : Str), s_l_odd_scene), (("_law_called" : Str), s_l_called), (("_law_refusals" : Str), s_l_refusals), (("_law_of" : Str), s_l_of)]
/-- a def of the top -/
structure TopF (K : PySem.W.Frag) (mg : Str → Option Value) (x : Str) (st : Stmt) : Prop where
  g : mg x = some (.ref (He.ga K x))
  f : ∃ fd, Fun K x x st (He.ga K x) fd
section
variable {K : PySem.W.Frag} {mg : Str → Option Value}
theorem at_is_integer (T : TopF K mg "is_integer" s_is_integer) : At K mg "is_integer" s_is_integer ["value"] := by
  obtain ⟨fd, F⟩ := T.f
  exact ⟨_, fd, T.g, F, F.binds fun _ _ _ _ _ _ us hl => match us, hl with | [_], _ => rfl⟩
theorem at_is_letter (T : TopF K mg "is_letter" s_is_letter) : At K mg "is_letter" s_is_letter ["character"] := by
  obtain ⟨fd, F⟩ := T.f
  exact ⟨_, fd, T.g, F, F.binds fun _ _ _ _ _ _ us hl => match us, hl with | [_], _ => rfl⟩
theorem at_is_name (T : TopF K mg "is_name" s_is_name) : At K mg "is_name" s_is_name ["value"] := by
  obtain ⟨fd, F⟩ := T.f
  exact ⟨_, fd, T.g, F, F.binds fun _ _ _ _ _ _ us hl => match us, hl with | [_], _ => rfl⟩
theorem at_is_pair (T : TopF K mg "is_pair" s_is_pair) : At K mg "is_pair" s_is_pair ["value"] := by
  obtain ⟨fd, F⟩ := T.f
  exact ⟨_, fd, T.g, F, F.binds fun _ _ _ _ _ _ us hl => match us, hl with | [_], _ => rfl⟩
theorem at_is_row (T : TopF K mg "is_row" s_is_row) : At K mg "is_row" s_is_row ["value", "width"] := by
  obtain ⟨fd, F⟩ := T.f
  exact ⟨_, fd, T.g, F, F.binds fun _ _ _ _ _ _ us hl => match us, hl with | [_, _], _ => rfl⟩
theorem at_check_row (T : TopF K mg "check_row" s_check_row) : At K mg "check_row" s_check_row ["row", "width"] := by
  obtain ⟨fd, F⟩ := T.f
  exact ⟨_, fd, T.g, F, F.binds fun _ _ _ _ _ _ us hl => match us, hl with | [_, _], _ => rfl⟩
theorem at_check_rows (T : TopF K mg "check_rows" s_check_rows) : At K mg "check_rows" s_check_rows ["rows"] := by
  obtain ⟨fd, F⟩ := T.f
  exact ⟨_, fd, T.g, F, F.binds fun _ _ _ _ _ _ us hl => match us, hl with | [_], _ => rfl⟩
theorem at_entries_cover (T : TopF K mg "entries_cover" s_entries_cover) : At K mg "entries_cover" s_entries_cover ["big", "small"] := by
  obtain ⟨fd, F⟩ := T.f
  exact ⟨_, fd, T.g, F, F.binds fun _ _ _ _ _ _ us hl => match us, hl with | [_, _], _ => rfl⟩
theorem at_covers_some (T : TopF K mg "covers_some" s_covers_some) : At K mg "covers_some" s_covers_some ["row", "rows"] := by
  obtain ⟨fd, F⟩ := T.f
  exact ⟨_, fd, T.g, F, F.binds fun _ _ _ _ _ _ us hl => match us, hl with | [_, _], _ => rfl⟩
theorem at_least_among (T : TopF K mg "least_among" s_least_among) : At K mg "least_among" s_least_among ["rows"] := by
  obtain ⟨fd, F⟩ := T.f
  exact ⟨_, fd, T.g, F, F.binds fun _ _ _ _ _ _ us hl => match us, hl with | [_], _ => rfl⟩
theorem at_is_scene (T : TopF K mg "is_scene" s_is_scene) : At K mg "is_scene" s_is_scene ["value", "width"] := by
  obtain ⟨fd, F⟩ := T.f
  exact ⟨_, fd, T.g, F, F.binds fun _ _ _ _ _ _ us hl => match us, hl with | [_, _], _ => rfl⟩
theorem at_rows_of_post (T : TopF K mg "rows_of_post" s_rows_of_post) : At K mg "rows_of_post" s_rows_of_post ["scenes", "post"] := by
  obtain ⟨fd, F⟩ := T.f
  exact ⟨_, fd, T.g, F, F.binds fun _ _ _ _ _ _ us hl => match us, hl with | [_, _], _ => rfl⟩
theorem at_least_scenes_of (T : TopF K mg "least_scenes_of" s_least_scenes_of) : At K mg "least_scenes_of" s_least_scenes_of ["scenes"] := by
  obtain ⟨fd, F⟩ := T.f
  exact ⟨_, fd, T.g, F, F.binds fun _ _ _ _ _ _ us hl => match us, hl with | [_], _ => rfl⟩
theorem at_law_bag (T : TopF K mg "_law_bag" s_l_bag) : At K mg "_law_bag" s_l_bag ["_law_script"] := by
  obtain ⟨fd, F⟩ := T.f
  exact ⟨_, fd, T.g, F, F.binds fun _ _ _ _ _ _ us hl => match us, hl with | [_], _ => rfl⟩
theorem at_law_take (T : TopF K mg "_law_take" s_l_take) : At K mg "_law_take" s_l_take ["_law_bag_here", "_law_many"] := by
  obtain ⟨fd, F⟩ := T.f
  exact ⟨_, fd, T.g, F, F.binds fun _ _ _ _ _ _ us hl => match us, hl with | [_, _], _ => rfl⟩
theorem at_law_is_integer (T : TopF K mg "_law_is_integer" s_l_is_integer) : At K mg "_law_is_integer" s_l_is_integer ["_law_value"] := by
  obtain ⟨fd, F⟩ := T.f
  exact ⟨_, fd, T.g, F, F.binds fun _ _ _ _ _ _ us hl => match us, hl with | [_], _ => rfl⟩
theorem at_law_is_row (T : TopF K mg "_law_is_row" s_l_is_row) : At K mg "_law_is_row" s_l_is_row ["_law_value", "_law_width"] := by
  obtain ⟨fd, F⟩ := T.f
  exact ⟨_, fd, T.g, F, F.binds fun _ _ _ _ _ _ us hl => match us, hl with | [_, _], _ => rfl⟩
theorem at_law_posts (T : TopF K mg "_law_posts" s_l_posts) : At K mg "_law_posts" s_l_posts ["_law_bag_here"] := by
  obtain ⟨fd, F⟩ := T.f
  exact ⟨_, fd, T.g, F, F.binds fun _ _ _ _ _ _ us hl => match us, hl with | [_], _ => rfl⟩
theorem at_law_base (T : TopF K mg "_law_base" s_l_base) : At K mg "_law_base" s_l_base ["_law_bag_here", "_law_width"] := by
  obtain ⟨fd, F⟩ := T.f
  exact ⟨_, fd, T.g, F, F.binds fun _ _ _ _ _ _ us hl => match us, hl with | [_, _], _ => rfl⟩
theorem at_law_scene (T : TopF K mg "_law_scene" s_l_scene) : At K mg "_law_scene" s_l_scene ["_law_bag_here", "_law_posts_here", "_law_base_here", "_law_most"] := by
  obtain ⟨fd, F⟩ := T.f
  exact ⟨_, fd, T.g, F, F.binds fun _ _ _ _ _ _ us hl => match us, hl with | [_, _, _, _], _ => rfl⟩
theorem at_law_over (T : TopF K mg "_law_over" s_l_over) : At K mg "_law_over" s_l_over ["_law_big", "_law_small"] := by
  obtain ⟨fd, F⟩ := T.f
  exact ⟨_, fd, T.g, F, F.binds fun _ _ _ _ _ _ us hl => match us, hl with | [_, _], _ => rfl⟩
theorem at_law_cube (T : TopF K mg "_law_cube" s_l_cube) : At K mg "_law_cube" s_l_cube ["_law_posts_here", "_law_base_here", "_law_most"] := by
  obtain ⟨fd, F⟩ := T.f
  exact ⟨_, fd, T.g, F, F.binds fun _ _ _ _ _ _ us hl => match us, hl with | [_, _, _], _ => rfl⟩
theorem at_law_covered (T : TopF K mg "_law_covered" s_l_covered) : At K mg "_law_covered" s_l_covered ["_law_scene_here", "_law_scenes"] := by
  obtain ⟨fd, F⟩ := T.f
  exact ⟨_, fd, T.g, F, F.binds fun _ _ _ _ _ _ us hl => match us, hl with | [_, _], _ => rfl⟩
theorem at_law_least (T : TopF K mg "_law_least" s_l_least) : At K mg "_law_least" s_l_least ["_law_members"] := by
  obtain ⟨fd, F⟩ := T.f
  exact ⟨_, fd, T.g, F, F.binds fun _ _ _ _ _ _ us hl => match us, hl with | [_], _ => rfl⟩
theorem at_law_is_scene (T : TopF K mg "_law_is_scene" s_l_is_scene) : At K mg "_law_is_scene" s_l_is_scene ["_law_value", "_law_width"] := by
  obtain ⟨fd, F⟩ := T.f
  exact ⟨_, fd, T.g, F, F.binds fun _ _ _ _ _ _ us hl => match us, hl with | [_, _], _ => rfl⟩
theorem at_law_lists (T : TopF K mg "_law_lists" s_l_lists) : At K mg "_law_lists" s_l_lists ["_law_upset", "_law_posts_here", "_law_width", "_law_least_here"] := by
  obtain ⟨fd, F⟩ := T.f
  exact ⟨_, fd, T.g, F, F.binds fun _ _ _ _ _ _ us hl => match us, hl with | [_, _, _, _], _ => rfl⟩
theorem at_law_asked (T : TopF K mg "_law_asked" s_l_asked) : At K mg "_law_asked" s_l_asked ["_law_upset", "_law_members", "_law_posts_here", "_law_cube_here", "_law_base_here"] := by
  obtain ⟨fd, F⟩ := T.f
  exact ⟨_, fd, T.g, F, F.binds fun _ _ _ _ _ _ us hl => match us, hl with | [_, _, _, _, _], _ => rfl⟩
theorem at_law_says (T : TopF K mg "_law_says" s_l_says) : At K mg "_law_says" s_l_says ["_law_told", "_law_due"] := by
  obtain ⟨fd, F⟩ := T.f
  exact ⟨_, fd, T.g, F, F.binds fun _ _ _ _ _ _ us hl => match us, hl with | [_, _], _ => rfl⟩
theorem at_law_compared (T : TopF K mg "_law_compared" s_l_compared) : At K mg "_law_compared" s_l_compared ["_law_upsets", "_law_sets", "_law_width"] := by
  obtain ⟨fd, F⟩ := T.f
  exact ⟨_, fd, T.g, F, F.binds fun _ _ _ _ _ _ us hl => match us, hl with | [_, _, _], _ => rfl⟩
theorem at_law_empty (T : TopF K mg "_law_empty" s_l_empty) : At K mg "_law_empty" s_l_empty ["_law_posts_here", "_law_width"] := by
  obtain ⟨fd, F⟩ := T.f
  exact ⟨_, fd, T.g, F, F.binds fun _ _ _ _ _ _ us hl => match us, hl with | [_, _], _ => rfl⟩
theorem at_law_odd (T : TopF K mg "_law_odd" s_l_odd) : At K mg "_law_odd" s_l_odd ["_law_row", "_law_place", "_law_way"] := by
  obtain ⟨fd, F⟩ := T.f
  exact ⟨_, fd, T.g, F, F.binds fun _ _ _ _ _ _ us hl => match us, hl with | [_, _, _], _ => rfl⟩
theorem at_law_odd_scene (T : TopF K mg "_law_odd_scene" s_l_odd_scene) : At K mg "_law_odd_scene" s_l_odd_scene ["_law_scene_here", "_law_way"] := by
  obtain ⟨fd, F⟩ := T.f
  exact ⟨_, fd, T.g, F, F.binds fun _ _ _ _ _ _ us hl => match us, hl with | [_, _], _ => rfl⟩
theorem at_law_called (T : TopF K mg "_law_called" s_l_called) : At K mg "_law_called" s_l_called ["_law_number", "_law_width", "_law_scene_here", "_law_odd_here"] := by
  obtain ⟨fd, F⟩ := T.f
  exact ⟨_, fd, T.g, F, F.binds fun _ _ _ _ _ _ us hl => match us, hl with | [_, _, _, _], _ => rfl⟩
theorem at_law_refusals (T : TopF K mg "_law_refusals" s_l_refusals) : At K mg "_law_refusals" s_l_refusals ["_law_bag_here", "_law_upset", "_law_scene_here"] := by
  obtain ⟨fd, F⟩ := T.f
  exact ⟨_, fd, T.g, F, F.binds fun _ _ _ _ _ _ us hl => match us, hl with | [_, _, _], _ => rfl⟩
theorem at_law_of (T : TopF K mg "_law_of" s_l_of) : At K mg "_law_of" s_l_of ["_law_scenes"] := by
  obtain ⟨fd, F⟩ := T.f
  exact ⟨_, fd, T.g, F, F.binds fun _ _ _ _ _ _ us hl => match us, hl with | [_], _ => rfl⟩
end
end K8

/-! The class's facts, from checks on K. -/
namespace K8
open PySem PySem.Spec PyProof.Rows L2 Evl
abbrev cU (K : PySem.W.Frag) : Addr := He.ga K "Upset"
abbrev cE (K : PySem.W.Frag) : Addr := He.ga K "InvalidScene"
def frees : List Str := ["isinstance", "int", "bool", "str", "tuple", "list", "len", "range", "zip", "sorted", "set", "max", "abs", "all", "repr", "super"]
def meths : List Str := ["least_scenes", "rows_at", "__len__", "__contains__", "__or__", "__and__", "__eq__", "first_missing"]
def facts : List He.Fa := (frees.map .free) ++ (tops.map fun p => He.Fa.glo p.1) ++ [.glo "joined", .glo "law", .glo "Upset", .glo "InvalidScene", .glo "RESERVED_WORDS", .int "LONGEST_NAME" 12, .int "WIDEST_ROW" 8, .cls "Upset", .noat "Upset" "width", .noat "Upset" "kept", .mkr "Upset", .noat "InvalidScene" "value", .exm "InvalidScene" "InvalidScene" true] ++ meths.map (.meth "Upset")
def chk1 (K : PySem.W.Frag) : Bool :=
  decide (PySem.W.findIn K (.ref (cU K)) "__class__" = some (some (.builtin "object.__class__"))) && (decide (PySem.W.specialIn K (.builtin "object.__class__") "__get__" = some (some (.builtin "getset_descriptor.__get__"))) && (decide (PySem.W.takesIn K (.builtin "object.__class__") = some true) && (decide (PySem.W.mroIn K (cU K) (.type "object") = some true) && (decide (PySem.W.kitOne K (.ref (cU K)) (.ref (cU K)) = some true) && (decide (PySem.W.kitOne K (.type "tuple") (.ref (cU K)) = some false) && (PySem.W.selfFirst K (cU K) && PySem.W.notFirst K (cU K) (.type "tuple")))))))
def chk2 (K : PySem.W.Frag) : Bool :=
  PySem.W.readsIn K (cU K) (.type "type") && (decide (PySem.W.specialIn K (.ref (cU K)) "__getattribute__" = some (some (.builtin "type.__getattribute__"))) && (decide (PySem.W.typeIn K (.ref (cU K)) = some (.type "type")) && (He5.wrapB K (cU K) "staticmethod" "staticmethod.__get__" "nothing" && (He5.wrapB K (cU K) "classmethod" "classmethod.__get__" "of" && (PySem.W.fnIn K (He5.wf K (cU K) "classmethod" "of") && (PySem.W.keepIn K (.ref (He5.wf K (cU K) "staticmethod" "nothing"))))))))
def chk3 (K : PySem.W.Frag) : Bool :=
  xfB K (cE K) && (He.tupB K "RESERVED_WORDS" [.str "none", .str "any", .str "self"] && (decide (PySem.W.findIn K (.ref (cE K)) "__init__" = some (some (.ref (He.ma K (cE K) "__init__")))) && (decide (PySem.W.typeIn K (.ref (He.ma K (cE K) "__init__")) = some (.type "function")) && (decide (PySem.W.mroIn K (cE K) (.ref (cE K)) = some true) && (decide (PySem.W.nsIn K cStatics "thirdparty.any" = some none) && (decide (PySem.W.ks_superIn K (cE K) (cE K) "__init__" = some (some (.builtin "ValueError.__init__"))) && (decide (PySem.W.subIn K (.ref (cE K)) (.type "ValueError") = some true) && decide (PySem.W.findIn K (.ref (cE K)) "value" = some none))))))))
theorem c1 {K : PySem.W.Frag} {mg : Str → Option Value} (h : chk1 K = true) (hg : mg "Upset" = some (.ref (cU K))) (uc : UC K (cU K)) : UI K mg (cU K) ∧ PySem.W.selfFirst K (cU K) = true ∧ PySem.W.notFirst K (cU K) (.type "tuple") = true := by
  unfold chk1 at h
  simp only [decide_eq_true_eq, Bool.and_eq_true] at h
  obtain ⟨h1, h2, h3, h4, h5, h6, h7, h8⟩ := h
  exact ⟨⟨uc, hg, h1, h2, h3, h4, h5, h6⟩, h7, h8⟩
theorem c2 {K : PySem.W.Frag} (h : chk2 K = true) : ClX.CRead K (cU K) (.type "type") ∧ SMet K (cU K) (.type "type") "nothing" (He.ma K (cU K) "nothing") (He5.wf K (cU K) "staticmethod" "nothing") ∧ ClX.CMet K (cU K) (.type "type") "of" (He.ma K (cU K) "of") (He5.wf K (cU K) "classmethod" "of") := by
  unfold chk2 at h
  simp only [decide_eq_true_eq, Bool.and_eq_true] at h
  obtain ⟨h1, h2, h3, h4, h5, h6, h7⟩ := h
  obtain ⟨w1, w2⟩ := He5.wrapB_ok h4
  exact ⟨⟨h1, h2⟩, ⟨h3, w1, w2, rfl, h7⟩, He5.cmet_of h5 h6⟩
end K8
namespace K8
open PySem PySem.Spec PyProof.Rows L2 Evl
structure C3 (K : PySem.W.Frag) : Prop where
  xf : XfC K (cE K)
  res : ∀ H, SqT K H (He.ga K "RESERVED_WORDS") [.str "none", .str "any", .str "self"]
  ini : PySem.W.findIn K (.ref (cE K)) "__init__" = some (some (.ref (He.ma K (cE K) "__init__")))
  ity : PySem.W.typeIn K (.ref (He.ma K (cE K) "__init__")) = some (.type "function")
  mro : PySem.W.mroIn K (cE K) (.ref (cE K)) = some true
  opq : PySem.W.nsIn K cStatics "thirdparty.any" = some none
  si : PySem.W.ks_superIn K (cE K) (cE K) "__init__" = some (some (.builtin "ValueError.__init__"))
  sv : PySem.W.subIn K (.ref (cE K)) (.type "ValueError") = some true
  val : PySem.W.findIn K (.ref (cE K)) "value" = some none
theorem c3 {K : PySem.W.Frag} (h : chk3 K = true) : C3 K := by
  unfold chk3 at h
  simp only [decide_eq_true_eq, Bool.and_eq_true] at h
  obtain ⟨h1, h2, h3, h4, h5, h6, h7, h8, h9⟩ := h
  exact ⟨xfB_ok h1, fun H => He.tupB_ok h2 H, h3, h4, h5, h6, h7, h8, h9⟩
end K8

/-! InvalidScene and its __init__, from checks on K. -/
namespace K8
open PySem PySem.Spec PyProof.Rows L2 Evl
def clsB (K : PySem.W.Frag) (C : Addr) : Bool := match K.lookup C with
  | some ⟨.type "type", _, .cls cd, row⟩ => (match cd.mro, row.toList with
    | .ref C' :: bm, [_, _, _, _, some (.builtin n), _] => decide (C' = C) && (decide (n = "ValueError.__new__") && ((!cd.hasDel) && (cd.hasDict && PySem.HandSPX.refsVE bm)))
    | _, _ => false)
  | _ => false
theorem clsB_ok {K : PySem.W.Frag} {C : Addr} (h : clsB K C = true) : ∃ nm q N bs bm sn sub ab col dd k0 k1 k2 k3 k5, K.lookup C = some (excClassObj nm q C N bs bm true sn sub ab col dd k0 k1 k2 k3 k5 "ValueError.__new__") ∧ PySem.HandSPX.refsVE bm = true := by
  unfold clsB at h
  split at h
  · rename_i dd cd sl ho
    split at h
    · rename_i C' bm k0 k1 k2 k3 n k5 hm0 hs
      simp only [Bool.and_eq_true, decide_eq_true_eq, Bool.not_eq_true'] at h
      obtain ⟨rfl, rfl, hd, hdi, hr⟩ := h
      obtain ⟨nm, bs, mro, N, q, hdict, sn, sub, ab, col, hdel⟩ := cd
      simp only at hm0 hd hdi
      subst hm0 hd hdi
      have es : sl = #[k0, k1, k2, k3, some (.builtin "ValueError.__new__"), k5] := by
        rw [← hs]
      subst es
      exact ⟨nm, q, N, bs, bm, sn, sub, ab, col, dd, k0, k1, k2, k3, k5, ho, hr⟩
    · cases h
  · cases h
def isA (K : PySem.W.Frag) (f : Addr) : He5.FnW := match K.lookup f with
  | some ⟨_, _, .func fd, _⟩ => some (fd.name, fd.qualname, fd.params, fd.body, fd.scope, fd.globals, [], fd.builtins)
  | _ => none
def isV : He5.FnW := some ("__init__", "InvalidScene.__init__", defArgs s_IS_init, .stmts (defBody s_IS_init), defScope s_IS_init, mainGlobals, [], builtinsNs)
def cellB (K : PySem.W.Frag) (cc C : Addr) : Bool := match K.lookup cc with
  | some ⟨_, _, .cell (some (.ref D)), _⟩ => decide (D = C)
  | _ => false
def fileB (K : PySem.W.Frag) (cda : Addr) (file : Str) : Bool := match K.lookup cda with
  | some ⟨_, _, .fields vs, _⟩ => (match (vs[2]? : Option Value) with
    | some (.str z _) => file == z
    | _ => false)
  | _ => false
def initB (K : PySem.W.Frag) (f C : Addr) (file : Str) : Bool := match K.lookup f with
  | some ⟨_, _, .func fd, _⟩ => (match fd.closure, fd.code, fd.defaults with
    | [(n, cc)], .ref cda, .none => decide (n = "__class__") && (PySem.W.codeIn K (.ref cda) "InvalidScene.__init__" && (cellB K cc C && fileB K cda file))
    | _, _, _ => false)
  | _ => false
theorem isf_of {P : Program} {K : PySem.W.Frag} {mg : Str → Option Value} {f C : Addr} (e : isA K f = isV) (h : initB K f C (P.main.file : Str) = true) (T : OexC K C) (mro : PySem.W.mroIn K C (.ref C) = some true) (sup : mg "super" = none) (top : (P.main.scope.names.lookup ("super" : Str)).isSome = false)
    (opq : PySem.W.nsIn K cStatics "thirdparty.any" = some none) (si : PySem.W.ks_superIn K C C "__init__" = some (some (.builtin "ValueError.__init__"))) (sv : PySem.W.subIn K (.ref C) (.type "ValueError") = some true) (val : PySem.W.findIn K (.ref C) "value" = some none) (hc : ∃ cdD, PySem.W.clsIn K C = some cdD) : ∃ fd, ISF P K mg C f fd := by
  unfold isA at e
  unfold initB at h
  cases q : K.lookup f with
  | none =>
    rw [q] at e
    cases e
  | some o =>
    rw [q] at e h
    obtain ⟨oc, od, data, osl⟩ := o
    cases data with
    | func fd =>
      dsimp only at e h
      obtain ⟨name, qualname, params, body, scope, globals, closure, defaults, kV, doc, pm, an, code, ct, builtins⟩ := fd
      dsimp only at e h
      split at h
      · rename_i n cc cda
        simp only [decide_eq_true_eq, Bool.and_eq_true] at h
        obtain ⟨rfl, h2, h3, h4⟩ := h
        unfold isV at e
        injection e with e
        simp only [Prod.mk.injEq] at e
        obtain ⟨rfl, rfl, rfl, rfl, rfl, rfl, _, rfl⟩ := e
        unfold cellB at h3
        unfold fileB at h4
        split at h3
        · rename_i cl cld D csl hcc
          have hD : D = C := of_decide_eq_true h3
          subst hD
          split at h4
          · rename_i ccl cdd vs ccs hcda
            split at h4
            · rename_i z tz hz
              obtain ⟨cdD, hcd⟩ := hc
              exact ⟨_, ⟨oc, od, kV, doc, pm, an, cda, cc, ct, osl, ccl, cdd, vs, ccs, z, tz, cl, cld, csl, cdD, rfl, q, h2, hcda, hz, h4, hcc, hcd⟩, T, mro, sup, top, opq, si, sv, val⟩
            · cases h4
          · cases h4
        · cases h3
      · cases h
    | _ => cases e
end K8

set_option maxHeartbeats 0
/-! The run of the head. -/
namespace K8
open PySem PyProof.Rows L2 PySem.Spec
abbrev RR : PySem.W.OpenRow := PySem.W.OpenLaw.row PySem.Challenge.rw_lampthrong_k08_whole_upsets
def obsX (c : PySem.W.Frag → Bool) (fn : List He5.DefA) (K : PySem.W.Frag) : He.AlD := (c K && fn.all fun d => d.ok K, isA K (He.ma K (cE K) "__init__") :: fn.map fun d => He5.fnA K (d.at_ K))
def valX (fn : List He5.DefA) : He.AlD := (true, isV :: fn.map He5.DefA.val)
def SaysX (c : PySem.W.Frag → Bool) (fn : List He5.DefA) (K : PySem.W.Frag) : Prop := obsX c fn K = valX fn
def obsXG (n : Nat) (c : PySem.W.Frag → Bool) (fn : List He5.DefA) (g : Addr → Option Obj) : He.AlD := obsX c fn (He.frG g (He5.asA g n))
def hookX (n : Nat) (c : PySem.W.Frag → Bool) (fn : List He5.DefA) : PySem.W.Hook where
  α := He.AlD
  obs := fun s => obsXG n c fn s.heap.get?
  val := fun _ => valX fn
  says := fun _ h => ∃ K : PySem.W.Frag, K.In h ∧ SaysX c fn K
  of := fun _ _ e => ⟨_, He.frG_in, e⟩
  keeps := fun _ _ _ ⟨K, hK, z⟩ k => ⟨K, PySem.W.Frag.In.keeps hK k, z⟩
theorem obsXG_eq {n : Nat} {c : PySem.W.Frag → Bool} {fn : List He5.DefA} {g : Addr → Option Obj} {s : Shared} (h : ∀ a, g a = s.heap.get? a) : obsXG n c fn g = (hookX n c fn).obs s := by
  rw [show g = _ from funext h] <;> rfl
def loose1 : List Str := ["CrowdError", "InvalidRow", "InvalidScene", "LONGEST_NAME", "RESERVED_WORDS", "is_integer", "is_letter", "is_name", "is_pair", "WIDEST_ROW", "is_row", "check_row", "check_rows", "entries_cover", "covers_some", "joined", "least_among", "is_scene", "rows_of_post", "least_scenes_of", "Upset"]
def loose2 : List Str := ["_law_bag", "_law_take", "_law_is_integer", "_law_is_row", "_law_posts", "_law_base", "_law_scene", "_law_over", "_law_cube", "_law_covered", "_law_least", "_law_is_scene", "_law_lists", "_law_asked", "_law_says", "_law_compared", "_law_empty", "_law_odd", "_law_odd_scene", "_law_called", "_law_refusals", "_law_of"]
def loose : List Str := loose1 ++ loose2
def fnsD : List He5.DefA := (tops.map fun p => gT p.1 p.2) ++ [gT "joined" s_joined, gT "law" s_law, gM "__init__" "Upset.__init__" s_Upset_init, gM "least_scenes" "Upset.least_scenes" s_Upset_least_scenes, gM "rows_at" "Upset.rows_at" s_Upset_rows_at, gM "__len__" "Upset.__len__" s_Upset_len, gM "__contains__" "Upset.__contains__" s_Upset_contains, gM "__or__" "Upset.__or__" s_Upset_or, gM "__and__" "Upset.__and__" s_Upset_and, gM "__eq__" "Upset.__eq__" s_Upset_eq, gM "first_missing" "Upset.first_missing" s_Upset_first_missing, gW "staticmethod" "nothing" "Upset.nothing" s_Upset_nothing, gW "classmethod" "of" "Upset.of" s_Upset_of]
def chk4 (K : PySem.W.Frag) : Bool :=
  clsB K (cE K) && (decide (PySem.W.findIn K (.ref (cE K)) "__setattr__" = some (some (.builtin "object.__setattr__"))) && (decide (PySem.W.subIn K (.ref (cE K)) (.type "BaseException") = some true) && (decide (PySem.W.typeIn K (.ref (cE K)) = some (.type "type")) && (PySem.W.keepIn K (.ref (cE K)) && (initB K (He.ma K (cE K) "__init__") (cE K) (PySem.Challenge.pw_lampthrong_k08_whole_upsets.main.file : Str) && (PySem.W.clsIn K (cE K)).isSome)))))
def chk : PySem.W.Frag → Bool := fun K => (facts.all fun f => f.ok K) && (chk1 K && (chk2 K && (chk3 K && chk4 K)))
abbrev hk : PySem.W.Hook := hookX 5 chk fnsD
def ob (s : PySem.W.SharedT) : He.AlD := obsXG 5 chk fnsD (HandSHeadRun.getT s)
theorem ob_eq (s : PySem.W.SharedT) : ob s = hk.obs s.abs := obsXG_eq (HandSHeadRun.getT_eq s)
theorem run (w : World) : HandSHeadRun.RunEq RR (PySem.W.view RR.prog [48]) hk ob 4000 loose w := by
  intro os
  kernel_rfl
end K8

set_option maxHeartbeats 4100000
/-! What the hook says, taken apart. -/
namespace K8
open PySem PySem.Spec PyProof.Rows L2 Evl
structure Says (K : PySem.W.Frag) : Prop where
  fa : ∀ f ∈ facts, f.ok K = true
  k1 : chk1 K = true
  k2 : chk2 K = true
  k3 : chk3 K = true
  k4 : chk4 K = true
  is : isA K (He.ma K (cE K) "__init__") = isV
  fn : ∀ d ∈ fnsD, d.ok K = true ∧ He5.fnA K (d.at_ K) = d.val
theorem says_of {K : PySem.W.Frag} (c : SaysX chk fnsD K) : Says K := by
  unfold SaysX obsX valX at c
  obtain ⟨h1, h2⟩ := Prod.mk.inj c
  obtain ⟨h3, h4⟩ := List.cons.inj h2
  have h5 := List.map_inj_left.mp h4
  rw [Bool.and_eq_true] at h1
  obtain ⟨hc, ha⟩ := h1
  unfold chk at hc
  obtain ⟨f, a, b, d, e⟩ := (by simpa only [Bool.and_eq_true] using hc)
  exact ⟨fun x hx => List.all_eq_true.mp f x hx, a, b, d, e, h3, fun d hd => ⟨List.all_eq_true.mp ha d hd, h5 d hd⟩⟩
end K8

/-! The names of the module. -/
namespace K8
open PySem PySem.Spec PyProof.Rows L2 Evl
section
variable {K : PySem.W.Frag} {h : Heap}
variable {mg : Str → Option Value}
theorem free_of (X : K.In h) (G : h.Ns mainGlobals mg) (S : Says K) {x : Str} (hx : x ∈ frees) : mg x = none :=
  He.free_ok X G (S.fa (.free x) (List.mem_append.mpr (.inl (List.mem_append.mpr (.inl (List.mem_append.mpr (.inl (List.mem_map_of_mem hx))))))))
theorem top_of (X : K.In h) (G : h.Ns mainGlobals mg) (S : Says K) {x : Str} {st : Stmt} (hx : (x, st) ∈ tops) : TopF K mg x st :=
  ⟨He.glo_ok X G (S.fa (.glo x) (List.mem_append.mpr (.inl (List.mem_append.mpr (.inl (List.mem_append.mpr (.inr (List.mem_map.mpr ⟨(x, st), hx, rfl⟩)))))))), by
    have hd : gT x st ∈ fnsD := List.mem_append.mpr (.inl (List.mem_map.mpr ⟨(x, st), hx, rfl⟩))
    obtain ⟨c, e⟩ := S.fn _ hd
    exact fun_of e c⟩
theorem oth_of (S : Says K) {f : He.Fa} {i : Nat} (hi : ([.glo "joined", .glo "law", .glo "Upset", .glo "InvalidScene", .glo "RESERVED_WORDS", .int "LONGEST_NAME" 12, .int "WIDEST_ROW" 8, .cls "Upset", .noat "Upset" "width", .noat "Upset" "kept", .mkr "Upset", .noat "InvalidScene" "value", .exm "InvalidScene" "InvalidScene" true] : List He.Fa)[i]? = some f) : f.ok K = true :=
  S.fa f (List.mem_append.mpr (.inl (List.mem_append.mpr (.inr (List.mem_of_getElem? hi)))))
theorem bi_of (X : K.In h) (G : h.Ns mainGlobals mg) (S : Says K) : Bi mg :=
  ⟨free_of X G S (by decide +kernel), free_of X G S (by decide +kernel), free_of X G S (by decide +kernel), free_of X G S (by decide +kernel), free_of X G S (by decide +kernel), free_of X G S (by decide +kernel), free_of X G S (by decide +kernel), free_of X G S (by decide +kernel), free_of X G S (by decide +kernel), free_of X G S (by decide +kernel), free_of X G S (by decide +kernel), free_of X G S (by decide +kernel), free_of X G S (by decide +kernel), free_of X G S (by decide +kernel), free_of X G S (by decide +kernel)⟩
theorem gc_of (X : K.In h) (G : h.Ns mainGlobals mg) (S : Says K) : Gc K mg :=
  ⟨He.int_ok X G (oth_of S (i := 5) rfl), He.int_ok X G (oth_of S (i := 6) rfl), _, He.glo_ok X G (oth_of S (i := 4) rfl), (c3 S.k3).res⟩
theorem uc_of (S : Says K) : UC K (cU K) := ⟨He.cls_ok (oth_of S (i := 7) rfl), He.noat_ok (oth_of S (i := 8) rfl), He.noat_ok (oth_of S (i := 9) rfl)⟩
end
end K8

/-! The promises of the defs: printed by gen_head2.py. -/
namespace K8
open PySem PySem.Spec PyProof.Rows L2 Evl
section
variable {P : Program} {w : World} {K : PySem.W.Frag} {h : Heap} {mg : Str → Option Value} {base : Heap}
theorem d_is_integer (X : K.In h) (G : h.Ns mainGlobals mg) (S : Says K) : D_is_integer P w K mg base := (at_is_integer (top_of X G S (List.mem_of_getElem? (i := 0) rfl))).dfn fun _ _ F => ok_is_integer (bi_of X G S) F
theorem d_is_letter (X : K.In h) (G : h.Ns mainGlobals mg) (S : Says K) : D_is_letter P w K mg base := (at_is_letter (top_of X G S (List.mem_of_getElem? (i := 1) rfl))).dfn fun _ _ F => ok_is_letter F
theorem d_is_name (X : K.In h) (G : h.Ns mainGlobals mg) (S : Says K) : D_is_name P w K mg base := (at_is_name (top_of X G S (List.mem_of_getElem? (i := 2) rfl))).dfn fun _ _ F => ok_is_name (bi_of X G S) (gc_of X G S) (d_is_letter X G S) F
theorem d_is_pair (X : K.In h) (G : h.Ns mainGlobals mg) (S : Says K) : D_is_pair P w K mg base := (at_is_pair (top_of X G S (List.mem_of_getElem? (i := 3) rfl))).dfn fun _ _ F => ok_is_pair (bi_of X G S) F
theorem d_is_row (X : K.In h) (G : h.Ns mainGlobals mg) (S : Says K) : D_is_row P w K mg base := (at_is_row (top_of X G S (List.mem_of_getElem? (i := 4) rfl))).dfn fun _ _ F => ok_is_row (bi_of X G S) (gc_of X G S) (d_is_integer X G S) F
theorem d_is_scene (X : K.In h) (G : h.Ns mainGlobals mg) (S : Says K) : D_is_scene P w K mg base := (at_is_scene (top_of X G S (List.mem_of_getElem? (i := 10) rfl))).dfn fun _ _ F => ok_is_scene (d_is_pair X G S) (d_is_name X G S) (d_is_row X G S) F
theorem d_check_row (X : K.In h) (G : h.Ns mainGlobals mg) (S : Says K) : D_check_row P w K mg base := (at_check_row (top_of X G S (List.mem_of_getElem? (i := 5) rfl))).dfn fun _ _ F => ok_check_row (d_is_row X G S) F
theorem d_check_rows (X : K.In h) (G : h.Ns mainGlobals mg) (S : Says K) : D_check_rows P w K mg base := (at_check_rows (top_of X G S (List.mem_of_getElem? (i := 6) rfl))).dfn fun _ _ F => ok_check_rows (bi_of X G S) (d_check_row X G S) F
theorem d_entries_cover (X : K.In h) (G : h.Ns mainGlobals mg) (S : Says K) : D_entries_cover P w K mg base := (at_entries_cover (top_of X G S (List.mem_of_getElem? (i := 7) rfl))).dfn fun _ _ F => ok_entries_cover (bi_of X G S) F
theorem d_covers_some (X : K.In h) (G : h.Ns mainGlobals mg) (S : Says K) : D_covers_some P w K mg base := (at_covers_some (top_of X G S (List.mem_of_getElem? (i := 8) rfl))).dfn fun _ _ F => ok_covers_some (d_entries_cover X G S) F
theorem d_least_among (X : K.In h) (G : h.Ns mainGlobals mg) (S : Says K) : D_least_among P w K mg base := (at_least_among (top_of X G S (List.mem_of_getElem? (i := 9) rfl))).dfn fun _ _ F => ok_least_among (bi_of X G S) (d_covers_some X G S) F
theorem d_rows_of_post (X : K.In h) (G : h.Ns mainGlobals mg) (S : Says K) : D_rows_of_post P w K mg base := (at_rows_of_post (top_of X G S (List.mem_of_getElem? (i := 11) rfl))).dfn fun _ _ F => ok_rows_of_post F
theorem d_least_scenes_of (X : K.In h) (G : h.Ns mainGlobals mg) (S : Says K) : D_least_scenes_of P w K mg base := (at_least_scenes_of (top_of X G S (List.mem_of_getElem? (i := 12) rfl))).dfn fun _ _ F => ok_least_scenes_of (bi_of X G S) (d_least_among X G S) (d_rows_of_post X G S) F
theorem d_l_is_integer (X : K.In h) (G : h.Ns mainGlobals mg) (S : Says K) : D_l_is_integer P w K mg base := (at_law_is_integer (top_of X G S (List.mem_of_getElem? (i := 15) rfl))).dfn fun _ _ F => ok_l_is_integer (bi_of X G S) F
theorem d_l_is_row (X : K.In h) (G : h.Ns mainGlobals mg) (S : Says K) : D_l_is_row P w K mg base := (at_law_is_row (top_of X G S (List.mem_of_getElem? (i := 16) rfl))).dfn fun _ _ F => ok_l_is_row (bi_of X G S) (d_l_is_integer X G S) F
theorem d_l_is_scene (X : K.In h) (G : h.Ns mainGlobals mg) (S : Says K) : D_l_is_scene P w K mg base := (at_law_is_scene (top_of X G S (List.mem_of_getElem? (i := 24) rfl))).dfn fun _ _ F => ok_l_is_scene (bi_of X G S) (d_l_is_row X G S) F
theorem d_says (X : K.In h) (G : h.Ns mainGlobals mg) (S : Says K) : D_says P w K mg base := (at_law_says (top_of X G S (List.mem_of_getElem? (i := 27) rfl))).dfn fun _ _ F => ok_says (bi_of X G S) F
theorem d_over (X : K.In h) (G : h.Ns mainGlobals mg) (S : Says K) : D_over P w K mg base := (at_law_over (top_of X G S (List.mem_of_getElem? (i := 20) rfl))).dfn fun _ _ F => ok_over (bi_of X G S) F
theorem d_covered (X : K.In h) (G : h.Ns mainGlobals mg) (S : Says K) : D_covered P w K mg base := (at_law_covered (top_of X G S (List.mem_of_getElem? (i := 22) rfl))).dfn fun _ _ F => ok_covered (bi_of X G S) (d_over X G S) F
theorem d_take (X : K.In h) (G : h.Ns mainGlobals mg) (S : Says K) : D_take P w K mg base := (at_law_take (top_of X G S (List.mem_of_getElem? (i := 14) rfl))).dfn fun _ _ F => ok_take (bi_of X G S) F
theorem d_bag (X : K.In h) (G : h.Ns mainGlobals mg) (S : Says K) : D_bag P w K mg base := (at_law_bag (top_of X G S (List.mem_of_getElem? (i := 13) rfl))).dfn fun _ _ F => ok_bag (bi_of X G S) F
theorem d_posts (X : K.In h) (G : h.Ns mainGlobals mg) (S : Says K) : D_posts P w K mg base := (at_law_posts (top_of X G S (List.mem_of_getElem? (i := 17) rfl))).dfn fun _ _ F => ok_posts (bi_of X G S) (d_take X G S) F
theorem d_base (X : K.In h) (G : h.Ns mainGlobals mg) (S : Says K) : D_base P w K mg base := (at_law_base (top_of X G S (List.mem_of_getElem? (i := 18) rfl))).dfn fun _ _ F => ok_base (bi_of X G S) (d_take X G S) F
theorem d_lscene (X : K.In h) (G : h.Ns mainGlobals mg) (S : Says K) : D_lscene P w K mg base := (at_law_scene (top_of X G S (List.mem_of_getElem? (i := 19) rfl))).dfn fun _ _ F => ok_lscene (bi_of X G S) (d_take X G S) F
theorem d_cube (X : K.In h) (G : h.Ns mainGlobals mg) (S : Says K) : D_cube P w K mg base := (at_law_cube (top_of X G S (List.mem_of_getElem? (i := 21) rfl))).dfn fun _ _ F => ok_cube (bi_of X G S) F
theorem d_least (X : K.In h) (G : h.Ns mainGlobals mg) (S : Says K) : D_least P w K mg base := (at_law_least (top_of X G S (List.mem_of_getElem? (i := 23) rfl))).dfn fun _ _ F => ok_least (bi_of X G S) F
theorem d_odd (X : K.In h) (G : h.Ns mainGlobals mg) (S : Says K) : D_odd P w K mg base := (at_law_odd (top_of X G S (List.mem_of_getElem? (i := 30) rfl))).dfn fun _ _ F => ok_odd (bi_of X G S) F
theorem d_odd_scene (X : K.In h) (G : h.Ns mainGlobals mg) (S : Says K) : D_odd_scene P w K mg base := (at_law_odd_scene (top_of X G S (List.mem_of_getElem? (i := 31) rfl))).dfn fun _ _ F => ok_odd_scene (bi_of X G S) F
theorem d_l_of (X : K.In h) (G : h.Ns mainGlobals mg) (S : Says K) (UU : UM P w K mg base (cU K) (cE K)) : D_l_of P w K mg base (cU K) := (at_law_of (top_of X G S (List.mem_of_getElem? (i := 34) rfl))).dfn fun _ _ F => ok_l_of (bi_of X G S) UU F
theorem d_lists (X : K.In h) (G : h.Ns mainGlobals mg) (S : Says K) (UU : UM P w K mg base (cU K) (cE K)) : D_lists P w K mg base (cU K) := (at_law_lists (top_of X G S (List.mem_of_getElem? (i := 25) rfl))).dfn fun _ _ F => ok_lists (bi_of X G S) UU (d_l_is_integer X G S) (d_l_is_row X G S) (d_l_is_scene X G S) F
theorem d_asked (X : K.In h) (G : h.Ns mainGlobals mg) (S : Says K) (UU : UM P w K mg base (cU K) (cE K)) : D_asked P w K mg base (cU K) := (at_law_asked (top_of X G S (List.mem_of_getElem? (i := 26) rfl))).dfn fun _ _ F => ok_asked (bi_of X G S) UU (d_least X G S) (d_lists X G S UU) F
theorem d_compared (X : K.In h) (G : h.Ns mainGlobals mg) (S : Says K) (UU : UM P w K mg base (cU K) (cE K)) : D_compared P w K mg base (cU K) := (at_law_compared (top_of X G S (List.mem_of_getElem? (i := 28) rfl))).dfn fun _ _ F => ok_compared (bi_of X G S) UU (d_least X G S) (d_says X G S) (d_covered X G S) (d_l_is_scene X G S) F
theorem d_empty (X : K.In h) (G : h.Ns mainGlobals mg) (S : Says K) (UU : UM P w K mg base (cU K) (cE K)) : D_empty P w K mg base := (at_law_empty (top_of X G S (List.mem_of_getElem? (i := 29) rfl))).dfn fun _ _ F => ok_empty (bi_of X G S) UU (d_lists X G S UU) (d_says X G S) F
theorem d_called (X : K.In h) (G : h.Ns mainGlobals mg) (S : Says K) (UU : UM P w K mg base (cU K) (cE K)) (CC : CF K mg (cE K)) : D_called P w K mg base := (at_law_called (top_of X G S (List.mem_of_getElem? (i := 32) rfl))).dfnG fun _ _ F => ok_called (bi_of X G S) UU CC F
theorem d_refusals (X : K.In h) (G : h.Ns mainGlobals mg) (S : Says K) (UU : UM P w K mg base (cU K) (cE K)) (CC : CF K mg (cE K)) : D_refusals P w K mg base (cU K) := (at_law_refusals (top_of X G S (List.mem_of_getElem? (i := 33) rfl))).dfnG fun _ _ F => ok_refusals (bi_of X G S) UU (d_take X G S) (d_odd X G S) (d_odd_scene X G S) (d_called X G S UU CC) F
end
end K8

/-! The class Upset and the error InvalidScene. -/
namespace K8
open PySem PySem.Spec PyProof.Rows L2 Evl
abbrev PP : Program := PySem.Challenge.pw_lampthrong_k08_whole_upsets
section
variable {w : World} {K : PySem.W.Frag} {h : Heap} {mg : Str → Option Value} {base : Heap}
theorem xf_of (X : K.In h) (G : h.Ns mainGlobals mg) (S : Says K) : XF PP K mg (cE K) ∧ CF K mg (cE K) := by
  have h4 := S.k4
  unfold chk4 at h4
  simp only [Bool.and_eq_true, decide_eq_true_eq] at h4
  obtain ⟨hc, sa, exC, tyC, kC, hi, hs⟩ := h4
  have c := c3 S.k3
  have T : OexC K (cE K) := ⟨clsB_ok hc, sa, exC, tyC, kC⟩
  have hm : mg "InvalidScene" = some (.ref (cE K)) := He.glo_ok X G (oth_of S (i := 3) rfl)
  obtain ⟨fd, F⟩ := isf_of (P := PP) (mg := mg) S.is hi T c.mro (free_of X G S (by decide +kernel)) (by decide +kernel) c.opq c.si c.sv c.val (Option.isSome_iff_exists.mp hs)
  refine ⟨⟨⟨_, fd, F, c.ini, c.ity, ?_⟩, hm⟩, ⟨He.exm_ok (oth_of S (i := 12) rfl), c.xf, c.val, hm⟩⟩
  obtain ⟨oc, od, kV, doc, pm, an, cda, cc, ct, osl, ccl, cdd, vs, ccs, file, tf, cl, cld, csl, cdD, rfl, _⟩ := F.ex
  exact .all fun us hl => match us, hl with | [_, _], _ => rfl
end
end K8
namespace K8
open PySem PySem.Spec PyProof.Rows L2 Evl
section
variable {w : World} {K : PySem.W.Frag} {h : Heap} {mg : Str → Option Value} {base : Heap}
theorem mth_of (S : Says K) {m q : Str} {st : Stmt} {ps : List Str} {k i j : Nat} {sp : Sp} (hm : meths[i]? = some m) (hd : fnsD[j]? = some (gM m q st)) (hb : ∀ {fd}, Fun K m q st (He.ma K (cU K) m) fd → Binds K fd ps []) (ok : ∀ {fd}, Fun K m q st (He.ma K (cU K) m) fd → FnOk PP w K mg base CX0 k (He.ma K (cU K) m) fd ps sp) : Mth PP w K mg base (cU K) m ps k sp := by
  have f1 := S.fa (.meth "Upset" m) (List.mem_append.mpr (.inr (List.mem_map_of_mem (List.mem_of_getElem? hm))))
  obtain ⟨c, e⟩ := S.fn _ (List.mem_of_getElem? hd)
  obtain ⟨fd, F⟩ := fun_of (at_ := fun K => He.ma K (He.ga K "Upset") m) e c
  have f2 : (He.eqO (PySem.W.findIn K (.ref (cU K)) m) (some (some (.ref (He.ma K (cU K) m)))) && (PySem.W.isFn K (.ref (He.ma K (cU K) m)) && PySem.W.keepIn K (.ref (He.ma K (cU K) m)))) = true := f1
  simp only [Bool.and_eq_true] at f2
  obtain ⟨a, b, d⟩ := f2
  exact ⟨_, fd, He.eqO_ok a, b, d, hb F, ok F⟩
end
end K8

/-! UM: all of the class. -/
namespace K8
open PySem PySem.Spec PyProof.Rows L2 Evl
section
variable {w : World} {K : PySem.W.Frag} {h : Heap} {mg : Str → Option Value} {base : Heap}
theorem joined_of (X : K.In h) (G : h.Ns mainGlobals mg) (S : Says K) : D_joined PP w K mg base := by
  obtain ⟨c, e⟩ := S.fn _ (List.mem_of_getElem? (i := 35) rfl)
  obtain ⟨fd, F⟩ := fun_of (at_ := fun K => He.ga K "joined") (x := "joined") (q := "joined") (st := s_joined) e c
  exact ⟨_, He.glo_ok X G (oth_of S (i := 0) rfl), F.kp, ok_joined (bi_of X G S) (d_check_rows X G S) F⟩
theorem mku_of (X : K.In h) (G : h.Ns mainGlobals mg) (S : Says K) : MkU PP w K mg base (cU K) (cE K) := by
  obtain ⟨c, e⟩ := S.fn _ (List.mem_of_getElem? (i := 37) rfl)
  obtain ⟨fd, F⟩ := fun_of (at_ := fun K => He.ma K (He.ga K "Upset") "__init__") (x := "__init__") (q := "Upset.__init__") (st := s_Upset_init) e c
  exact ⟨He.glo_ok X G (oth_of S (i := 2) rfl), _, fd, He.mkr_ok (oth_of S (i := 10) rfl), F.binds fun _ _ _ _ _ _ us hl => match us, hl with | [_, _, _], _ => rfl, ok_init (bi_of X G S) (uc_of S) (xf_of X G S).1 (d_is_scene X G S) (d_least_scenes_of X G S) F⟩
theorem un_of (X : K.In h) (G : h.Ns mainGlobals mg) (S : Says K) : UN PP w K mg base (cU K) (cE K) := by
  obtain ⟨r, sm, cm⟩ := c2 S.k2
  obtain ⟨c, e⟩ := S.fn _ (List.mem_of_getElem? (i := 46) rfl)
  obtain ⟨fd, F⟩ := fun_of (at_ := fun K => He5.wf K (He.ga K "Upset") "staticmethod" "nothing") (x := "nothing") (q := "Upset.nothing") (st := s_Upset_nothing) e c
  obtain ⟨c', e'⟩ := S.fn _ (List.mem_of_getElem? (i := 47) rfl)
  obtain ⟨fd', F'⟩ := fun_of (at_ := fun K => He5.wf K (He.ga K "Upset") "classmethod" "of") (x := "of") (q := "Upset.of") (st := s_Upset_of) e' c'
  exact ⟨He.glo_ok X G (oth_of S (i := 2) rfl), ⟨_, _, _, fd, r, sm, F.binds fun _ _ _ _ _ _ us hl => match us, hl with | [_], _ => rfl, ok_nothing (mku_of X G S) F⟩, ⟨_, _, _, r, cm, ok_of (bi_of X G S) (uc_of S) (xf_of X G S).1 (mku_of X G S) (d_is_scene X G S) F'⟩⟩
theorem um_of (X : K.In h) (G : h.Ns mainGlobals mg) (S : Says K) : UM PP w K mg base (cU K) (cE K) := by
  have U := bi_of X G S
  have uc := uc_of S
  have hg : mg "Upset" = some (.ref (cU K)) := He.glo_ok X G (oth_of S (i := 2) rfl)
  obtain ⟨ui, sf, nf⟩ := c1 S.k1 hg uc
  have MU : MkU PP w K mg base (cU K) (cE K) := mku_of X G S
  have con : D_contains PP w K mg base (cU K) := mth_of S (i := 3) (j := 41) rfl rfl (fun F => F.binds fun _ _ _ _ _ _ us hl => match us, hl with | [_, _], _ => rfl) fun F => ok_contains uc (d_is_scene X G S) (d_covers_some X G S) (d_rows_of_post X G S) F
  refine ⟨ui, MU, un_of X G S, ?_, ?_, ?_, con, ?_, ?_, ?_, ?_, sf, nf⟩
  · exact mth_of S (i := 0) (j := 38) rfl rfl (fun F => F.binds fun _ _ _ _ _ _ us hl => match us, hl with | [_], _ => rfl) fun F => ok_least_scenes U uc F
  · exact mth_of S (i := 1) (j := 39) rfl rfl (fun F => F.binds fun _ _ _ _ _ _ us hl => match us, hl with | [_, _], _ => rfl) fun F => ok_rows_at uc (d_rows_of_post X G S) F
  · exact mth_of S (i := 2) (j := 40) rfl rfl (fun F => F.binds fun _ _ _ _ _ _ us hl => match us, hl with | [_], _ => rfl) fun F => ok_len U uc F
  · exact mth_of S (i := 4) (j := 42) rfl rfl (fun F => F.binds fun _ _ _ _ _ _ us hl => match us, hl with | [_, _], _ => rfl) fun F => ok_or U uc MU F
  · exact mth_of S (i := 5) (j := 43) rfl rfl (fun F => F.binds fun _ _ _ _ _ _ us hl => match us, hl with | [_, _], _ => rfl) fun F => ok_and U uc MU (d_rows_of_post X G S) (joined_of X G S) F
  · exact mth_of S (i := 6) (j := 44) rfl rfl (fun F => F.binds fun _ _ _ _ _ _ us hl => match us, hl with | [_, _], _ => rfl) fun F => ok_eq U ui F
  · exact mth_of S (i := 7) (j := 45) rfl rfl (fun F => F.binds fun _ _ _ _ _ _ us hl => match us, hl with | [_, _], _ => rfl) fun F => ok_first_missing uc con F
end
end K8

set_option maxHeartbeats 0
/-! The end. -/
namespace K8
open PySem PySem.Spec PyProof.Rows L2 Evl
theorem law_facts {w : World} {K : PySem.W.Frag} {h : Heap} {mg : Str → Option Value} {f : Addr} (X : K.In h) (G : h.Ns mainGlobals mg) (hfa : mg ("law" : Str) = some (.ref f)) (c : SaysX chk fnsD K) :
    ∃ fd : FuncData, (∀ (s : Shared) (v : Value), BindsTo s fd ⟨[v], []⟩ [("_law_script", v)]) ∧ ∀ base : Heap, K.In base → base.Ns mainGlobals mg → FnG PP w K mg base 10 f fd ["_law_script"] (Pure (preLaw K)) := by
  have S := says_of c
  obtain ⟨c', e⟩ := S.fn _ (List.mem_of_getElem? (i := 36) rfl)
  obtain ⟨fd0, F0⟩ := He5.DefA.funD (d := gT "law" s_law) e c'
  obtain ⟨fd, F⟩ := fun_of (at_ := fun K => He.ga K "law") (x := "law") (q := "law") (st := s_law) e c'
  have e2 := hfa.symm.trans (He.glo_ok X G (oth_of S (i := 1) rfl))
  cases e2
  refine ⟨fd, ?_, fun base _ _ => ?_⟩
  · obtain ⟨oc, od, kV, doc, pm, an, cdv, ct, osl, rfl, _, _⟩ := F.ex
    intro s v
    exact .of_eq rfl
  · have UU := um_of (w := w) (base := base) X G S
    exact ok_law (bi_of X G S) UU (d_bag X G S) (d_take X G S) (d_posts X G S) (d_base X G S) (d_lscene X G S) (d_l_of X G S UU) (d_says X G S) (d_cube X G S) (d_covered X G S) (d_asked X G S UU) (d_compared X G S UU) (d_empty X G S UU) (d_refusals X G S UU (xf_of X G S).2) F
theorem law_sp {K : PySem.W.Frag} {H : Hp} {a : Addr} {ns : List Int} (hl : ns.length ≤ 63) (hS : SqL K H a (ns.map V.int)) : Pure (preLaw K) [.ref a] H (fun v _ => v = .bl true) fun _ _ _ => False :=
  ⟨H, _, Ex.refl H, ⟨ns, .ref a, rfl, .lst hS (dps_ints ns), hl, rfl⟩, fun v B1 H1 s r => r B1 (Ex.refl B1)⟩
end K8
open PyProof.Rows PySem PySem.W PySem.Calls
theorem PySem.Challenge.cw_lampthrong_k08_whole_upsets_holds : PySem.Challenge.rw_lampthrong_k08_whole_upsets.Holds := by
  w_on; o_law
  refine HandSHeadRun.head_any (r := OpenLaw.row PySem.Challenge.rw_lampthrong_k08_whole_upsets) (q := view (OpenLaw.row PySem.Challenge.rw_lampthrong_k08_whole_upsets).prog [48]) (H := K8.hk) (ob := K8.ob) (M := 4000) (loose := K8.loose) (d := HandSHeadRun.topDef (OpenLaw.row PySem.Challenge.rw_lampthrong_k08_whole_upsets).prog 48) (kwd := []) K8.ob_eq
    (by kernel_rfl) (fun s => by kernel_rfl) K8.run (by kernel_rfl) (by kernel_rfl) (by kernel_rfl) (by rfl) (by first | assumption | decide +kernel) (by decide +kernel) ⟨rfl, rfl, rfl, rfl, rfl, by decide +kernel⟩ ?hw ?hc
  case hw => w_witness2
  case hc =>
    refine K8.walk_ofG (l := PySem.Challenge.rw_lampthrong_k08_whole_upsets) (n := 63) (k := 10) (x := "_law_script") rfl (by decide) (by kernel_rfl) ⟨rfl, by decide, by decide⟩ ?F
    intro w mg fa h Y G hmg0
    obtain ⟨K, KX, c⟩ := Y
    have named : mg ("law" : PySem.Str) = some (.ref fa) := by
      have e : (HandSHeadRun.topDef (OpenLaw.row PySem.Challenge.rw_lampthrong_k08_whole_upsets).prog 48).name = ("law" : PySem.Str) := by kernel_rfl
      rw [← e]
      exact hmg0
    obtain ⟨fd, hb, hF⟩ := K8.law_facts (w := w) KX G named c
    refine ⟨K, fd, K8.Pure (K8.preLaw K), KX, hb, fun H a ns hl _ hS => ?_, hF⟩
    exact K8.law_sp hl hS

