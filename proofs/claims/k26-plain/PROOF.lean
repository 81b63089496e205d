import PyProof.Rows.All
import Wide.All
import OpenK.AllK
import Wide.FinOn
import HandS.ForMost
import HandS.StrMore
import HandS.ReplaceList
import HandS.ReplaceLit
import HandS.IsInst
import HandS.Style
import HandS.Conv
import HandS.More
import HandS.Codes
import HandS.ReplaceDef
import PySem.Challenge.RW_evenhour_k26_plain_there_and_back
set_option Elab.async false
set_option linter.all false
set_option maxRecDepth 100000
set_option maxHeartbeats 4000000
namespace Pl
open PySem L2 TL PySem.StrLaws

/-! ### masks, escapes -/
def esc : List Nat → List Nat
  | [] => []
  | c :: r => (if c = 92 then [92, 92] else if c = 34 then [92, 34] else if c = 10 then [92, 110] else [c]) ++ esc r
def unesc : List Nat → List Nat
  | [] => []
  | [c] => [c]
  | c :: d :: r => if c = 92 ∧ d = 92 then 92 :: unesc r else if c = 92 ∧ d = 34 then 34 :: unesc r else if c = 92 ∧ d = 110 then 10 :: unesc r else c :: unesc (d :: r)
def EscB (d : Nat) : Prop := d = 92 ∨ d = 34 ∨ d = 110
instance (d : Nat) : Decidable (EscB d) := by unfold EscB; exact inferInstance
def msk : List Nat → List Nat
  | [] => []
  | [c] => [c]
  | c :: d :: r => if c = 92 ∧ EscB d then 46 :: 46 :: msk r else c :: msk (d :: r)

theorem msk_pl {c : Nat} (h : c ≠ 92) (r : List Nat) : msk (c :: r) = c :: msk r := by
  cases r with
  | nil => rfl
  | cons d r =>
    rw [msk, if_neg (fun z => h z.1)]
theorem msk_es {d : Nat} (h : EscB d) (r : List Nat) : msk (92 :: d :: r) = 46 :: 46 :: msk r := by
  rw [msk, if_pos ⟨rfl, h⟩]
theorem msk_lone {d : Nat} (h : ¬ EscB d) (r : List Nat) : msk (92 :: d :: r) = 92 :: msk (d :: r) := by
  rw [msk, if_neg (fun z => h z.2)]
theorem unesc_pl {c : Nat} (h : c ≠ 92) (r : List Nat) : unesc (c :: r) = c :: unesc r := by
  cases r with
  | nil => rfl
  | cons d r => rw [unesc, if_neg (fun z => h z.1), if_neg (fun z => h z.1), if_neg (fun z => h z.1)]
theorem msk_len : ∀ (n : Nat) (l : List Nat), l.length ≤ n → (msk l).length = l.length
  | _, [], _ => rfl
  | _, [c], _ => rfl
  | 0, c :: d :: r, h => by simp at h
  | n + 1, c :: d :: r, h => by
    have h1 := msk_len n r (by simp at h; omega)
    have h2 := msk_len n (d :: r) (by simp at h ⊢; omega)
    rw [msk]
    split
    · simp [h1]
    · rw [List.length_cons, h2]; rfl
theorem msk_length (l : List Nat) : (msk l).length = l.length := msk_len l.length l (Nat.le_refl _)

/-- three replacements, one after the other, are the mask -/
theorem rp_miss {a b c : Nat} (h : c ≠ a) (z r : List Nat) : replL [a, b] z (c :: r) = c :: replL [a, b] z r :=
  replL_miss (fun e => by
    have e2 := congrArg List.head? e
    cases r <;> simp at e2 <;> exact h e2)
theorem rp_miss2 {a b c : Nat} (h : c ≠ b) (z r : List Nat) : replL [a, b] z (a :: c :: r) = a :: replL [a, b] z (c :: r) :=
  replL_miss (fun e => by
    have e2 : [a, c] = [a, b] := e
    injection e2 with _ e3
    injection e3 with e4 _
    exact h e4)
theorem rp_hit {a b : Nat} (z r : List Nat) : replL [a, b] z (a :: b :: r) = z ++ replL [a, b] z r :=
  replL_hit (by simp) rfl
theorem rp_one {a b c : Nat} (z : List Nat) : replL [a, b] z [c] = [c] := by
  rw [replL_miss (fun e => by have e2 := congrArg List.length e; simp at e2), replL_nil]
abbrev dots : List Nat := [46, 46]
def maskP (l : List Nat) : List Nat := replL [92, 110] dots (replL [92, 34] dots (replL [92, 92] dots l))
theorem mask_n : ∀ (n : Nat) (l : List Nat), l.length ≤ n → maskP l = msk l
  | _, [], _ => by unfold maskP; rw [replL_nil, replL_nil, replL_nil]; rfl
  | _, [c], _ => by unfold maskP; rw [rp_one, rp_one, rp_one]; rfl
  | 0, c :: d :: r, h => by simp at h
  | n + 1, c :: d :: r, h => by
    have h1 := mask_n n r (by simp at h; omega)
    have h2 := mask_n n (d :: r) (by simp at h ⊢; omega)
    unfold maskP at *
    by_cases hc : c = 92
    · subst hc
      by_cases hd : EscB d
      · rw [msk_es hd, ← h1]
        rcases hd with rfl | rfl | rfl
        · rw [rp_hit]
          show replL [92, 110] dots (replL [92, 34] dots (46 :: 46 :: _)) = _
          rw [rp_miss (a := 92) (b := 34) (c := 46) (by decide), rp_miss (a := 92) (b := 34) (c := 46) (by decide), rp_miss (c := 46) (by decide), rp_miss (c := 46) (by decide)]
          rfl
        · rw [rp_miss2 (b := 92) (c := 34) (by decide), rp_miss (b := 92) (c := 34) (by decide), rp_hit]
          show replL [92, 110] dots (46 :: 46 :: _) = _
          rw [rp_miss (c := 46) (by decide), rp_miss (c := 46) (by decide)]
          rfl
        · rw [rp_miss2 (b := 92) (c := 110) (by decide), rp_miss (b := 92) (c := 110) (by decide), rp_miss2 (b := 34) (c := 110) (by decide), rp_miss (b := 34) (c := 110) (by decide), rp_hit]
          rfl
      · have d1 : d ≠ 92 := fun e => hd (.inl e)
        have d2 : d ≠ 34 := fun e => hd (.inr (.inl e))
        have d3 : d ≠ 110 := fun e => hd (.inr (.inr e))
        rw [msk_lone hd, ← h2]
        rw [rp_miss2 d1, rp_miss d1, rp_miss2 d2, rp_miss d1, rp_miss2 d3, rp_miss d1]
    · rw [msk_pl hc, ← h2, rp_miss hc, rp_miss hc, rp_miss hc]
theorem mask_eq (l : List Nat) : maskP l = msk l := mask_n l.length l (Nat.le_refl _)

/-- a closed beginning: nothing behind it changes its mask -/
def Cl (p : List Nat) : Prop := ∀ x, msk (p ++ x) = msk p ++ msk x
theorem Cl.nil : Cl [] := fun _ => rfl
theorem Cl.app {p q : List Nat} (hp : Cl p) (hq : Cl q) : Cl (p ++ q) := fun x => by
  rw [List.append_assoc, hp, hq, hp q, List.append_assoc]
theorem Cl.one {c : Nat} (h : c ≠ 92) : Cl [c] := fun x => by
  show msk (c :: x) = c :: msk x
  exact msk_pl h x
theorem Cl.es {d : Nat} (h : EscB d) : Cl [92, d] := fun x => by
  show msk (92 :: d :: x) = msk [92, d] ++ msk x
  rw [msk_es h, msk_es h]
  rfl
theorem Cl.all {p : List Nat} (h : ∀ c ∈ p, c ≠ 92) : Cl p := by
  induction p with
  | nil => exact Cl.nil
  | cons c r ih => exact Cl.app (p := [c]) (Cl.one (h c (by simp))) (ih fun d hd => h d (by simp [hd]))
theorem esc_cl : ∀ s, Cl (esc s)
  | [] => Cl.nil
  | c :: r => by
    refine Cl.app ?_ (esc_cl r)
    split
    · exact Cl.es (.inl rfl)
    · split
      · exact Cl.es (.inr (.inl rfl))
      · split
        · exact Cl.es (.inr (.inr rfl))
        · rename_i h _ _
          exact Cl.one h
theorem msk_esc : ∀ s, ∀ c ∈ msk (esc s), c ≠ 34 ∧ c ≠ 10 ∧ c ≠ 92
  | [], _, h => by cases h
  | a :: r, c, h => by
    have ih := msk_esc r
    unfold esc at h
    split at h
    · rw [Cl.es (.inl rfl)] at h
      simp only [msk, EscB, List.mem_append] at h
      simp at h
      rcases h with rfl | h
      · decide
      · exact ih c h
    · split at h
      · rw [Cl.es (.inr (.inl rfl))] at h
        simp only [msk, EscB, List.mem_append] at h
        simp at h
        rcases h with rfl | h
        · decide
        · exact ih c h
      · split at h
        · rw [Cl.es (.inr (.inr rfl))] at h
          simp only [msk, EscB, List.mem_append] at h
          simp at h
          rcases h with rfl | h
          · decide
          · exact ih c h
        · rename_i h1 h2 h3
          rw [Cl.one h1] at h
          simp only [msk, List.mem_append] at h
          simp at h
          rcases h with rfl | h
          · exact ⟨h2, h3, h1⟩
          · exact ih c h

/-- each backslash begins an escape -/
inductive WF : List Nat → Prop
  | nil : WF []
  | pl {c : Nat} {r : List Nat} (h : c ≠ 92) (t : WF r) : WF (c :: r)
  | es {d : Nat} {r : List Nat} (h : EscB d) (t : WF r) : WF (92 :: d :: r)
/-- .. other than of a backslash -/
inductive WF1 : List Nat → Prop
  | nil : WF1 []
  | pl {c : Nat} {r : List Nat} (h : c ≠ 92) (t : WF1 r) : WF1 (c :: r)
  | es {d : Nat} {r : List Nat} (h : d = 34 ∨ d = 110) (t : WF1 r) : WF1 (92 :: d :: r)
theorem WF1.app {p q : List Nat} (hp : WF1 p) (hq : WF1 q) : WF1 (p ++ q) := by
  induction hp with
  | nil => exact hq
  | pl h _ ih => exact .pl h ih
  | es h _ ih => exact .es h ih
def unp (p : List Nat) : List Nat := replL [92, 110] [10] (replL [92, 34] [34] p)
theorem unp_nil : unp [] = [] := by unfold unp; rw [replL_nil, replL_nil]
theorem unp_pl {c : Nat} (h : c ≠ 92) (r : List Nat) : unp (c :: r) = c :: unp r := by
  unfold unp
  rw [rp_miss h, rp_miss h]
theorem unp_q (r : List Nat) : unp (92 :: 34 :: r) = 34 :: unp r := by
  unfold unp
  rw [rp_hit]
  show replL [92, 110] [10] (34 :: replL [92, 34] [34] r) = _
  rw [rp_miss (c := 34) (by decide)]
theorem unp_n (r : List Nat) : unp (92 :: 110 :: r) = 10 :: unp r := by
  unfold unp
  rw [rp_miss2 (c := 110) (by decide), rp_miss (c := 110) (by decide), rp_hit]
  rfl
theorem unp_app {p : List Nat} (hp : WF1 p) (x : List Nat) : unp (p ++ x) = unp p ++ unp x := by
  induction hp with
  | nil => rw [unp_nil]; rfl
  | pl h _ ih => rw [List.cons_append, unp_pl h, unp_pl h, ih]; rfl
  | es h _ ih =>
    rcases h with rfl | rfl
    · rw [List.cons_append, List.cons_append, unp_q, unp_q, ih]; rfl
    · rw [List.cons_append, List.cons_append, unp_n, unp_n, ih]; rfl
theorem spl_ne (S : List Nat) : ∀ (l : List Nat) (k : Nat) (acc : List Nat), spl S k acc l ≠ []
  | [], k, acc => by rw [spl_nil]; simp
  | c :: r, 0, acc => by
    show (if pre S (c :: r) = true then acc :: spl S (S.length - 1) [] r else spl S 0 (acc ++ [c]) r) ≠ []
    split
    · simp
    · exact spl_ne S r 0 _
  | c :: r, k + 1, acc => spl_ne S r k acc
def unP (l : List Nat) : List Nat := joinL [92] ((spl [92, 92] 0 [] l).map unp)
theorem unP_acc {l : List Nat} (h : WF l) : ∀ acc, WF1 acc → joinL [92] ((spl [92, 92] 0 acc l).map unp) = unp acc ++ unesc l := by
  induction h with
  | nil => intro acc _; rw [spl_nil]; show unp acc = _; rw [unesc, List.append_nil]
  | @pl c r hc _ ih =>
    intro acc ha
    have hp : pre [92, 92] (c :: r) = false := pre_of_head _ _ hc
    have hw : WF1 [c] := .pl hc .nil
    rw [spl_miss hp, ih _ (ha.app hw), unp_app ha, unp_pl hc, unp_nil, unesc_pl hc, List.append_assoc]
    rfl
  | @es d r hd _ ih =>
    intro acc ha
    rcases hd with rfl | rfl | rfl
    · rw [spl_hit (show pre [92, 92] (92 :: 92 :: r) = true from pre_self [92, 92] r), spl_pass]
      have hne := spl_ne [92, 92] r 0 []
      have i0 := ih [] .nil
      show joinL [92] (unp acc :: (spl [92, 92] 0 [] r).map unp) = _
      cases e : spl [92, 92] 0 [] r with
      | nil => exact absurd e hne
      | cons a b =>
        rw [e] at i0
        show unp acc ++ ([92] ++ joinL [92] ((a :: b).map unp)) = _
        rw [i0, unp_nil]
        simp [unesc]
    · have hp : pre [92, 92] (92 :: 34 :: r) = false := rfl
      have hp2 : pre [92, 92] (34 :: r) = false := pre_of_head _ _ (by decide)
      have hw : WF1 [92, 34] := .es (.inl rfl) .nil
      rw [spl_miss hp, spl_miss hp2, List.append_assoc, show ([92] ++ [34] : List Nat) = [92, 34] from rfl, ih _ (ha.app hw), unp_app ha, unp_q, unp_nil, List.append_assoc]
      simp [unesc]
    · have hp : pre [92, 92] (92 :: 110 :: r) = false := rfl
      have hp2 : pre [92, 92] (110 :: r) = false := pre_of_head _ _ (by decide)
      have hw : WF1 [92, 110] := .es (.inr rfl) .nil
      rw [spl_miss hp, spl_miss hp2, List.append_assoc, show ([92] ++ [110] : List Nat) = [92, 110] from rfl, ih _ (ha.app hw), unp_app ha, unp_n, unp_nil, List.append_assoc]
      simp [unesc]
theorem unP_eq {l : List Nat} (h : WF l) : unP l = unesc l := by
  unfold unP
  rw [unP_acc h [] .nil, unp_nil]
  rfl
theorem unesc_no {l : List Nat} (h : 92 ∉ l) : unesc l = l := by
  induction l with
  | nil => rfl
  | cons c r ih =>
    rw [unesc_pl (fun e => h (by simp [e])), ih fun z => h (by simp [z])]
theorem esc_wf : ∀ s, WF (esc s)
  | [] => .nil
  | c :: r => by
    have ih := esc_wf r
    unfold esc
    split
    · exact .es (.inl rfl) ih
    · split
      · exact .es (.inr (.inl rfl)) ih
      · split
        · exact .es (.inr (.inr rfl)) ih
        · rename_i h _ _
          exact .pl h ih
theorem unesc_esc : ∀ s, unesc (esc s) = s
  | [] => rfl
  | c :: r => by
    have ih := unesc_esc r
    unfold esc
    split
    · rename_i h; subst h
      show unesc (92 :: 92 :: esc r) = _
      rw [unesc, if_pos ⟨rfl, rfl⟩, ih]
    · split
      · rename_i h; subst h
        show unesc (92 :: 34 :: esc r) = _
        rw [unesc, if_neg (by decide), if_pos ⟨rfl, rfl⟩, ih]
      · split
        · rename_i h; subst h
          show unesc (92 :: 110 :: esc r) = _
          rw [unesc, if_neg (by decide), if_neg (by decide), if_pos ⟨rfl, rfl⟩, ih]
        · rename_i h _ _
          show unesc (c :: esc r) = _
          rw [unesc_pl h, ih]
/-- one sign replaced by others -/
theorem rp1 {a : Nat} {z : List Nat} : ∀ l, replL [a] z l = l.flatMap (fun c => if c = a then z else [c])
  | [] => by rw [replL_nil]; rfl
  | c :: r => by
    have ih := rp1 (a := a) (z := z) r
    by_cases h : c = a
    · subst h
      rw [replL_hit (by simp) (by simp), List.flatMap_cons, if_pos rfl]
      show z ++ replL [c] z r = _
      rw [ih]
    · rw [replL_miss (by simp [h]), List.flatMap_cons, if_neg h, ih]
      rfl
theorem escP (l : List Nat) : replL [10] [92, 110] (replL [34] [92, 34] (replL [92] [92, 92] l)) = esc l := by
  rw [rp1, rp1, rp1]
  induction l with
  | nil => rfl
  | cons c r ih =>
    rw [List.flatMap_cons, List.flatMap_append, List.flatMap_append, ih]
    show _ = (if c = 92 then [92, 92] else if c = 34 then [92, 34] else if c = 10 then [92, 110] else [c]) ++ esc r
    congr 1
    by_cases h : c = 92
    · subst h; rfl
    · rw [if_neg h, if_neg h]
      by_cases h2 : c = 34
      · subst h2; rfl
      · rw [if_neg h2]
        by_cases h3 : c = 10
        · subst h3; rfl
        · rw [if_neg h3]
          simp [h2, h3]
theorem esc_len : ∀ s, (esc s).length ≤ 2 * s.length
  | [] => Nat.le_refl _
  | c :: r => by
    have ih := esc_len r
    unfold esc
    rw [List.length_append, List.length_cons]
    split
    · simp; omega
    · split
      · simp; omega
      · split <;> simp <;> omega
theorem esc_mem : ∀ (s : List Nat) (m : Nat), 110 < m → (∀ c ∈ s, c < m) → ∀ c ∈ esc s, c < m
  | [], _, _, _, c, h => by cases h
  | a :: r, m, hm, hs, c, h => by
    have ih := esc_mem r m hm (fun d hd => hs d (by simp [hd])) c
    unfold esc at h
    rw [List.mem_append] at h
    rcases h with h | h
    · have ha := hs a (by simp)
      split at h
      · simp at h; omega
      · split at h
        · simp at h; omega
        · split at h
          · simp at h; omega
          · simp at h; omega
    · exact ih h
end Pl
namespace Pl
open PySem L2 TL PySem.StrLaws
abbrev D := PyData
mutual
def txt : D → List Nat
  | .none => [78]
  | .bool b => if b then [84] else [70]
  | .int i => tl (Str.ofString (toString i))
  | .str s => 34 :: (esc (tl s) ++ [34])
  | .tuple ds => 40 :: (joinL [32] (txtL ds) ++ [41])
  | .list _ => []
  | .dict _ => []
def txtL : List D → List (List Nat)
  | [] => []
  | d :: ds => txt d :: txtL ds
end
theorem txtL_map : ∀ ds : List D, txtL ds = ds.map txt
  | [] => by rw [txtL]; rfl
  | d :: ds => by rw [txtL, txtL_map ds]; rfl
def dig (c : Nat) : Prop := 48 ≤ c ∧ c ≤ 57
instance (c : Nat) : Decidable (dig c) := by unfold dig; exact inferInstance
/-- the values that are drawn: within k tuples -/
inductive OkD : Nat → D → Prop
  | non {k : Nat} : OkD k .none
  | bl {k : Nat} (b : Bool) : OkD k (.bool b)
  | int {k : Nat} {i : Int} (h : i.natAbs < 10 ^ 21) : OkD k (.int i)
  | str {k : Nat} {s : Str} (h : ∀ c ∈ tl s, c < 127) (hl : s.length ≤ 8) : OkD k (.str s)
  | tup {k : Nat} {ds : List D} (h : ∀ d ∈ ds, OkD k d) : OkD (k + 1) (.tuple ds)

/-! ### numbers -/
theorem num_head : ∀ (n m : Nat), m ≤ n → 1 ≤ m → ∃ c r, numL m = c :: r ∧ 49 ≤ c
  | 0, m, h, h1 => by omega
  | n + 1, m, h, h1 => by
    by_cases hm : m < 10
    · exact ⟨48 + m, [], numL_lt hm, by omega⟩
    · obtain ⟨c, r, e, hc⟩ := num_head n (m / 10) (by omega) (by omega)
      exact ⟨c, r ++ [48 + m % 10], by rw [numL_step (by omega), e]; rfl, hc⟩
theorem num_zero {n : Nat} {r : List Nat} (h : numL n = 48 :: r) : r = [] := by
  by_cases hn : n < 10
  · rw [numL_lt hn] at h
    injection h with _ h2
    exact h2.symm
  · obtain ⟨c, r', e, hc⟩ := num_head n n (Nat.le_refl _) (by omega)
    rw [e] at h
    injection h with h1 _
    omega
theorem tl_neg (m : Nat) : tl (Str.ofString (toString (Int.negSucc m))) = 45 :: numL (m + 1) := by
  rw [tl_ofString]
  have e : toString (Int.negSucc m) = "-" ++ toString (((m + 1 : Nat)) : Int) := rfl
  rw [e, String.toList_append, List.map_append, ← tl_num (m + 1), tl_ofString]
  rfl
theorem tl_pos {i : Int} (h : 0 ≤ i) : tl (Str.ofString (toString i)) = numL i.toNat := by
  have e : i = ((i.toNat : Nat) : Int) := by omega
  rw [← tl_num i.toNat, ← e]
theorem int_signs (i : Int) : (0 ≤ i ∧ tl (Str.ofString (toString i)) = numL i.natAbs) ∨ (i < 0 ∧ tl (Str.ofString (toString i)) = 45 :: numL i.natAbs) := by
  cases i with
  | ofNat n => exact .inl ⟨Int.natCast_nonneg n, tl_num n⟩
  | negSucc m => exact .inr ⟨Int.negSucc_lt_zero m, tl_neg m⟩
theorem num_dig {n c : Nat} (h : c ∈ numL n) : dig c := numL_digits n c h
theorem int_len {i : Int} (h : i.natAbs < 10 ^ 21) : (txt (.int i)).length ≤ 22 := by
  have hl := numL_len (n := i.natAbs) (k := 21) (by decide) h
  rw [txt]
  rcases int_signs i with ⟨_, e⟩ | ⟨_, e⟩
  · rw [e]; omega
  · rw [e]; simp; omega

/-! ### what is read -/
structure NumOk (L : List Nat) (a b e : Nat) (i : Int) : Prop where
  sgn : (L[a]? = some 45 ∧ b = a + 1) ∨ ((∃ c, L[a]? = some c ∧ dig c) ∧ b = a)
  be : b < e
  eL : e ≤ L.length
  run : ∀ j, b ≤ j → j < e → ∃ c, L[j]? = some c ∧ dig c
  stop : ∀ c, L[e]? = some c → ¬ dig c
  zero : L[b]? = some 48 → b = a ∧ e = b + 1
  len : e - a ≤ 30
  val : PySem.intText? (⟨((L.drop a).take (e - a)).toArray⟩ : Str) = some i
def wordOf (c : Nat) : Option D := if c = 84 then some (.bool true) else if c = 70 then some (.bool false) else if c = 78 then some .none else none
structure QuoOk (L : List Nat) (a q : Nat) (s : Str) : Prop where
  aq : a ≤ q
  at_ : (msk L)[q]? = some 34
  bef : ∀ j, a ≤ j → j < q → ∀ c, (msk L)[j]? = some c → c ≠ 34 ∧ c ≠ 10 ∧ c ≠ 92
  wf : WF ((L.drop a).take (q - a))
  val : tl s = unesc ((L.drop a).take (q - a))
mutual
inductive Rd (L : List Nat) : Nat → Nat → D → Nat → Prop
  | wrd {k a c : Nat} {d : D} (h : L[a]? = some c) (w : wordOf c = some d) : Rd L k a d (a + 1)
  | quo {k a q : Nat} {s : Str} (h : L[a]? = some 34) (w : QuoOk L (a + 1) q s) : Rd L k a (.str s) (q + 1)
  | num {k a b e : Nat} {i : Int} (h : NumOk L a b e i) : Rd L k a (.int i) e
  | tup0 {k a : Nat} (h : L[a]? = some 40) (h1 : L[a + 1]? = some 41) : Rd L (k + 1) a (.tuple []) (a + 2)
  | tup {k a e : Nat} {ds : List D} (h : L[a]? = some 40) (h1 : L[a + 1]? ≠ some 41) (w : Lp L k (a + 1) ds e) : Rd L (k + 1) a (.tuple ds) e
inductive Lp (L : List Nat) : Nat → Nat → List D → Nat → Prop
  | one {k a e : Nat} {d : D} (w : Rd L k a d e) (h : L[e]? = some 41) : Lp L k a [d] (e + 1)
  | more {k a e e' : Nat} {d : D} {ds : List D} (w : Rd L k a d e) (h : L[e]? = some 32) (r : Lp L k (e + 1) ds e') : Lp L k a (d :: ds) e'
end
/-- reading goes on, and stays within -/
theorem lt_of_some {L : List Nat} {a c : Nat} (h : L[a]? = some c) : a < L.length := (List.getElem?_eq_some_iff.mp h).1
mutual
theorem Rd.on {L : List Nat} {k a e : Nat} {d : D} (h : Rd L k a d e) : a < e ∧ e ≤ L.length := by
  cases h with
  | wrd h w => exact ⟨Nat.lt_succ_self _, lt_of_some h⟩
  | quo h w =>
    have h1 := lt_of_some w.at_
    rw [msk_length] at h1
    have h2 := w.aq
    omega
  | num h =>
    have h1 := h.be
    have h2 := h.eL
    rcases h.sgn with ⟨_, q⟩ | ⟨_, q⟩ <;> omega
  | tup0 h h1 =>
    have := lt_of_some h1
    omega
  | tup h h1 w =>
    have := w.on
    omega
theorem Lp.on {L : List Nat} {k a e : Nat} {ds : List D} (h : Lp L k a ds e) : a < e ∧ e ≤ L.length := by
  cases h with
  | one w h =>
    have := w.on
    have := lt_of_some h
    omega
  | more w h r =>
    have := w.on
    have := r.on
    omega
end

/-! ### texts are read back -/
def NoDig (r : List Nat) : Prop := ∀ c, r.head? = some c → ¬ dig c
theorem at_app {p x : List Nat} {j : Nat} : (p ++ x)[p.length + j]? = x[j]? := by
  rw [List.getElem?_append_right (by omega)]
  congr 1
  omega
theorem at_app0 {p x : List Nat} : (p ++ x)[p.length]? = x[0]? := at_app (j := 0)
theorem cut_app {p x r : List Nat} : ((p ++ (x ++ r)).drop p.length).take x.length = x := by
  rw [List.drop_left, List.take_left]
theorem reads_num (p rest : List Nat) (i : Int) (hi : i.natAbs < 10 ^ 21) (hr : NoDig rest) :
    ∃ b, NumOk (p ++ (txt (.int i) ++ rest)) p.length b (p.length + (txt (.int i)).length) i := by
  have hlen := int_len hi
  have hcut : ((p ++ (txt (.int i) ++ rest)).drop p.length).take (p.length + (txt (.int i)).length - p.length) = txt (.int i) := by
    rw [Nat.add_sub_cancel_left]; exact cut_app
  have hval : PySem.intText? (⟨(txt (.int i)).toArray⟩ : Str) = some i := by
    rw [txt] at hlen ⊢
    rcases int_signs i with ⟨h0, e⟩ | ⟨h0, e⟩
    · rw [e] at hlen ⊢
      have := PySem.intText_digits (x := ⟨(numL i.natAbs).toArray⟩) (numL_digits _) (numL_ne _) (by show (numL i.natAbs).toArray.size ≤ 4300; simp; omega)
      rw [this]
      show some ((NumText.digitsVal (numL i.natAbs) : Nat) : Int) = some i
      rw [numL_val]
      congr 1
      omega
    · rw [e] at hlen ⊢
      have := PySem.intText_neg (x := ⟨(45 :: numL i.natAbs).toArray⟩) (cs := numL i.natAbs) rfl (numL_digits _) (numL_ne _) (by show (45 :: numL i.natAbs).toArray.size ≤ 4300; simp at hlen ⊢; omega)
      rw [this, numL_val]
      congr 1
      omega
  have hstop : ∀ c, (p ++ (txt (.int i) ++ rest))[p.length + (txt (.int i)).length]? = some c → ¬ dig c := by
    intro c hc
    rw [at_app, at_app0] at hc
    cases rest with
    | nil => simp at hc
    | cons r0 rr => exact hr c hc
  rw [txt] at hlen hcut hval hstop ⊢
  rcases int_signs i with ⟨h0, e⟩ | ⟨h0, e⟩
  · rw [e] at hlen hcut hval hstop ⊢
    obtain ⟨n0, nr, en⟩ : ∃ c r, numL i.natAbs = c :: r := List.exists_cons_of_ne_nil (numL_ne _)
    have hpos : 0 < (numL i.natAbs).length := by rw [en]; simp
    refine ⟨p.length, .inr ⟨⟨n0, by rw [at_app0, en]; rfl, num_dig (n := i.natAbs) (by rw [en]; simp)⟩, rfl⟩, by omega, by simp, fun j h1 h2 => ?_, hstop, fun hz => ?_, by omega, by rw [hcut]; exact hval⟩
    · obtain ⟨m, rfl⟩ : ∃ m, j = p.length + m := ⟨j - p.length, by omega⟩
      have hm : m < (numL i.natAbs).length := by omega
      refine ⟨(numL i.natAbs)[m], ?_, num_dig (List.getElem_mem hm)⟩
      rw [at_app, List.getElem?_append_left hm, List.getElem?_eq_getElem hm]
    · rw [at_app0, en] at hz
      have hz' : n0 = 48 := Option.some.inj hz
      subst hz'
      have := num_zero en
      rw [en, this]
      exact ⟨rfl, rfl⟩
  · rw [e] at hlen hcut hval hstop ⊢
    obtain ⟨n0, nr, en, hc⟩ := num_head i.natAbs i.natAbs (Nat.le_refl _) (by omega)
    refine ⟨p.length + 1, .inl ⟨by rw [at_app0]; rfl, rfl⟩, by rw [en]; simp, by simp, fun j h1 h2 => ?_, hstop, fun hz => ?_, by omega, by rw [hcut]; exact hval⟩
    · obtain ⟨m, rfl⟩ : ∃ m, j = p.length + (1 + m) := ⟨j - p.length - 1, by omega⟩
      have hm : m < (numL i.natAbs).length := by simp at h2; omega
      refine ⟨(numL i.natAbs)[m], ?_, num_dig (List.getElem_mem hm)⟩
      rw [at_app, Nat.add_comm 1 m, List.cons_append, List.getElem?_cons_succ, List.getElem?_append_left hm, List.getElem?_eq_getElem hm]
    · rw [at_app, en] at hz
      have hz' : n0 = 48 := Option.some.inj hz
      omega
theorem cl_int (i : Int) : Cl (txt (.int i)) := by
  refine Cl.all fun c hc e => ?_
  subst e
  rw [txt] at hc
  rcases int_signs i with ⟨_, e⟩ | ⟨_, e⟩
  · rw [e] at hc
    have := num_dig hc
    unfold dig at this
    omega
  · rw [e] at hc
    rcases List.mem_cons.mp hc with h | h
    · omega
    · have := num_dig h
      unfold dig at this
      omega
theorem reads_str (p rest : List Nat) (s : Str) (hp : Cl p) : QuoOk (p ++ (txt (.str s) ++ rest)) (p.length + 1) (p.length + 1 + (esc (tl s)).length) s := by
  have e : p ++ (txt (.str s) ++ rest) = (p ++ [34]) ++ (esc (tl s) ++ (34 :: rest)) := by rw [txt]; simp
  have el : p.length + 1 = (p ++ [34]).length := by simp
  have hm : msk (p ++ (txt (.str s) ++ rest)) = (msk p ++ [34]) ++ (msk (esc (tl s)) ++ (34 :: msk rest)) := by
    rw [e, Cl.app hp (Cl.one (by decide)), esc_cl, msk_pl (by decide), hp]
    rfl
  have e2 : p.length + 1 = (msk p ++ [34]).length := by simp [msk_length]
  have e3 : (esc (tl s)).length = (msk (esc (tl s))).length := (msk_length _).symm
  have hc : ((p ++ (txt (.str s) ++ rest)).drop (p.length + 1)).take (p.length + 1 + (esc (tl s)).length - (p.length + 1)) = esc (tl s) := by
    rw [Nat.add_sub_cancel_left, e, el]; exact cut_app
  refine ⟨by omega, ?_, fun j h1 h2 c hj => ?_, ?_, ?_⟩
  · rw [hm, e2, at_app, e3, at_app0]; rfl
  · obtain ⟨m, rfl⟩ : ∃ m, j = p.length + 1 + m := ⟨j - (p.length + 1), by omega⟩
    rw [hm, e2, at_app, List.getElem?_append_left (by omega)] at hj
    exact msk_esc (tl s) c (List.mem_of_getElem? hj)
  · rw [hc]; exact esc_wf _
  · rw [hc, unesc_esc]
theorem cl_str (s : Str) : Cl (txt (.str s)) := by
  rw [txt]
  exact Cl.app (p := [34]) (Cl.one (by decide)) (Cl.app (esc_cl _) (Cl.one (by decide)))
theorem cl_join : ∀ (ps : List (List Nat)), (∀ p ∈ ps, Cl p) → Cl (joinL [32] ps)
  | [], _ => Cl.nil
  | [p], h => h p (by simp)
  | p :: q :: r, h => by
    show Cl (p ++ ([32] ++ joinL [32] (q :: r)))
    exact Cl.app (h p (by simp)) (Cl.app (Cl.one (by decide)) (cl_join (q :: r) fun z hz => h z (by simp [hz])))
theorem cl_txt {k : Nat} {d : D} (h : OkD k d) : Cl (txt d) := by
  induction h with
  | non => rw [txt]; exact Cl.one (by decide)
  | bl b =>
    rw [txt]
    cases b
    · exact Cl.one (by decide)
    · exact Cl.one (by decide)
  | int h => exact cl_int _
  | str h => exact cl_str _
  | @tup k ds h ih =>
    rw [txt, txtL_map]
    refine Cl.app (p := [40]) (Cl.one (by decide)) (Cl.app (cl_join _ fun p hp => ?_) (Cl.one (by decide)))
    obtain ⟨d, hd, rfl⟩ := List.mem_map.mp hp
    exact ih d hd
theorem txt_head {k : Nat} {d : D} (h : OkD k d) : ∃ c r, txt d = c :: r ∧ c ≠ 41 ∧ c ≠ 32 := by
  cases h with
  | non => exact ⟨78, [], by rw [txt], by decide, by decide⟩
  | bl b =>
    cases b
    · exact ⟨70, [], by rw [txt]; rfl, by decide, by decide⟩
    · exact ⟨84, [], by rw [txt]; rfl, by decide, by decide⟩
  | @int _ i h =>
    rw [txt]
    rcases int_signs i with ⟨_, e⟩ | ⟨_, e⟩
    · obtain ⟨c, r, en⟩ : ∃ c r, numL i.natAbs = c :: r := List.exists_cons_of_ne_nil (numL_ne _)
      have hd : dig c := num_dig (n := i.natAbs) (by rw [en]; simp)
      unfold dig at hd
      exact ⟨c, r, by rw [e, en], by omega, by omega⟩
    · exact ⟨45, _, e, by decide, by decide⟩
  | @str _ s h => exact ⟨34, esc (tl s) ++ [34], by rw [txt], by decide, by decide⟩
  | @tup k ds h => exact ⟨40, joinL [32] (txtL ds) ++ [41], by rw [txt], by decide, by decide⟩
theorem reads {k : Nat} {d : D} (h : OkD k d) : ∀ p rest, Cl p → NoDig rest → Rd (p ++ (txt d ++ rest)) k p.length d (p.length + (txt d).length) := by
  induction h with
  | non =>
    intro p rest _ _
    rw [txt]
    exact .wrd (c := 78) (by rw [at_app0]; rfl) rfl
  | bl b =>
    intro p rest _ _
    rw [txt]
    cases b
    · exact .wrd (c := 70) (by rw [at_app0]; rfl) rfl
    · exact .wrd (c := 84) (by rw [at_app0]; rfl) rfl
  | int h =>
    intro p rest _ hr
    obtain ⟨b, hb⟩ := reads_num p rest _ h hr
    exact .num hb
  | @str k s h =>
    intro p rest hp _
    have q := reads_str p rest s hp
    have e : p.length + (txt (.str s)).length = p.length + 1 + (esc (tl s)).length + 1 := by rw [txt]; simp; omega
    rw [e]
    exact .quo (by rw [at_app0, txt]; rfl) q
  | @tup k ds h ih =>
    intro p rest hp _
    have all : ∀ (ds : List D), ds ≠ [] → (∀ d ∈ ds, OkD k d) → (∀ d ∈ ds, ∀ p rest, Cl p → NoDig rest → Rd (p ++ (txt d ++ rest)) k p.length d (p.length + (txt d).length)) →
        ∀ p, Cl p → Lp (p ++ (joinL [32] (ds.map txt) ++ 41 :: rest)) k p.length ds (p.length + (joinL [32] (ds.map txt)).length + 1) := by
      intro ds
      induction ds with
      | nil => intro h; exact absurd rfl h
      | cons d ds ihd =>
        intro _ hok hrd p hp
        cases ds with
        | nil =>
          show Lp (p ++ (txt d ++ 41 :: rest)) k p.length [d] (p.length + (txt d).length + 1)
          refine .one (hrd d (by simp) p (41 :: rest) hp fun c hc => ?_) (by rw [at_app, at_app0]; rfl)
          have : 41 = c := Option.some.inj hc
          subst this
          decide
        | cons d2 ds =>
          have e : joinL [32] ((d :: d2 :: ds).map txt) = txt d ++ 32 :: joinL [32] ((d2 :: ds).map txt) := rfl
          have r1 := hrd d (by simp) p (32 :: (joinL [32] ((d2 :: ds).map txt) ++ 41 :: rest)) hp fun c hc => by
            have : 32 = c := Option.some.inj hc
            subst this
            decide
          have r2 := ihd (by simp) (fun z hz => hok z (by simp at hz ⊢; exact .inr hz)) (fun z hz => hrd z (by simp at hz ⊢; exact .inr hz)) (p ++ (txt d ++ [32]))
            (Cl.app hp (Cl.app (cl_txt (hok d (by simp))) (Cl.one (by decide))))
          have el : p ++ (txt d ++ 32 :: (joinL [32] ((d2 :: ds).map txt) ++ 41 :: rest)) = (p ++ (txt d ++ [32])) ++ (joinL [32] ((d2 :: ds).map txt) ++ 41 :: rest) := by simp
          rw [e]
          have el0 : p ++ (txt d ++ 32 :: joinL [32] ((d2 :: ds).map txt) ++ 41 :: rest) = p ++ (txt d ++ 32 :: (joinL [32] ((d2 :: ds).map txt) ++ 41 :: rest)) := by simp
          rw [el0]
          refine .more r1 (by rw [at_app, at_app0]; rfl) ?_
          rw [el]
          have e3 : p.length + (txt d).length + 1 = (p ++ (txt d ++ [32])).length := by simp; omega
          have e4 : p.length + (txt d ++ 32 :: joinL [32] ((d2 :: ds).map txt)).length + 1 = (p ++ (txt d ++ [32])).length + (joinL [32] ((d2 :: ds).map txt)).length + 1 := by simp; omega
          rw [e3, e4]
          exact r2
    cases ds with
    | nil =>
      rw [txt, txtL]
      refine .tup0 (by rw [at_app0]; rfl) (by rw [at_app]; rfl)
    | cons d ds =>
      have e : txt (.tuple (d :: ds)) = 40 :: (joinL [32] ((d :: ds).map txt) ++ [41]) := by rw [txt, txtL_map]
      rw [e]
      obtain ⟨c, r, ec, h41, _⟩ := txt_head (h d (by simp))
      have ej : ∃ r', joinL [32] ((d :: ds).map txt) = c :: r' := by
        cases ds with
        | nil => exact ⟨r, ec⟩
        | cons d2 ds => exact ⟨r ++ ([32] ++ joinL [32] ((d2 :: ds).map txt)), by show txt d ++ _ = _; rw [ec]; rfl⟩
      obtain ⟨r', ej⟩ := ej
      have w := all (d :: ds) (by simp) h ih (p ++ [40]) (Cl.app hp (Cl.one (by decide)))
      have e5 : p.length + (40 :: (joinL [32] ((d :: ds).map txt) ++ [41])).length = (p ++ [40]).length + (joinL [32] ((d :: ds).map txt)).length + 1 := by simp; omega
      rw [e5]
      refine .tup (by rw [at_app0]; rfl) (by rw [at_app, ej]; intro z; exact h41 (Option.some.inj z)) ?_
      have e6 : p ++ (40 :: (joinL [32] ((d :: ds).map txt) ++ [41]) ++ rest) = (p ++ [40]) ++ (joinL [32] ((d :: ds).map txt) ++ 41 :: rest) := by simp
      rw [e6]
      have e7 : p.length + 1 = (p ++ [40]).length := by simp
      rw [e7]
      exact w
/-- a whole text -/
theorem reads_all {k : Nat} {d : D} (h : OkD k d) : Rd (txt d) k 0 d (txt d).length := by
  have q := reads h [] [] Cl.nil (fun c hc => by cases hc)
  rw [List.nil_append, List.append_nil] at q
  have e : ([] : List Nat).length + (txt d).length = (txt d).length := by simp
  rw [e] at q
  exact q
end Pl
/-! Data on the abstract heap, operators that take all kinds, steps of readings. -/
namespace Z
open PySem PySem.Spec PyProof.Rows L2
abbrev St := L2.St

/-! ### tuples stay -/
section
variable {K : PySem.W.Frag} {H H' H1 H2 : Hp} {p a : Addr} {o : HO} {xs ys : List V}
def Tk (K : PySem.W.Frag) (H H' : Hp) : Prop := ∀ a xs, SqT K H a xs → SqT K H' a xs
theorem Tk.refl : Tk K H H := fun _ _ h => h
theorem Tk.trans (a : Tk K H H1) (b : Tk K H1 H2) : Tk K H H2 := fun x xs h => b x xs (a x xs h)
theorem same_new (h : H p = none) : Same H (upd H p o) := fun b u e => by rw [upd_ne (ne_of_none e h)]; exact e
theorem same_rd {u : HO} (s : Same H H') (h : Rd H a u) : Rd H' a u := h.elim (fun q => .inl (s _ _ q)) fun ⟨o, q⟩ => .inr ⟨o, s _ _ q⟩
theorem Tk.same (s : Same H H') : Tk K H H' := fun _ _ h => h.elim (fun q => .inl (same_rd s q)) .inr
theorem same_tup (s : Same H H') (h : SqT K H a xs) : SqT K H' a xs := Tk.same s a xs h
theorem Tk.new (h : H p = none) : Tk K H (upd H p o) := Tk.same (same_new h)
theorem Tk.lst (h : H p = some (.lst ys)) : Tk K H (upd H p o) := fun a xs q => by
  rcases q with (q | ⟨u, q⟩) | q
  · exact .inl (.inl (by rw [upd_ne (fun e => by rw [e, h] at q; cases q)]; exact q))
  · exact .inl (.inr ⟨u, by rw [upd_ne (fun e => by rw [e, h] at q; cases q)]; exact q⟩)
  · exact .inr q
theorem Tk.dK {kvs : List (Key × V)} (h : H p = some (.dK kvs)) : Tk K H (upd H p o) := fun a xs q => by
  rcases q with (q | ⟨u, q⟩) | q
  · exact .inl (.inl (by rw [upd_ne (fun e => by rw [e, h] at q; cases q)]; exact q))
  · exact .inl (.inr ⟨u, by rw [upd_ne (fun e => by rw [e, h] at q; cases q)]; exact q⟩)
  · exact .inr q
theorem Tk.ins {C dx : Addr} {fs : List (Str × V)} (h : H p = some (.ins C dx fs)) : Tk K H (upd H p o) := fun a xs q => by
  rcases q with (q | ⟨u, q⟩) | q
  · exact .inl (.inl (by rw [upd_ne (fun e => by rw [e, h] at q; cases q)]; exact q))
  · exact .inl (.inr ⟨u, by rw [upd_ne (fun e => by rw [e, h] at q; cases q)]; exact q⟩)
  · exact .inr q
/-- behind a change of an object that H does not know -/
theorem same_mut (s : Same H H') (h : H p = none) : Same H (upd H' p o) := fun a u e => by
  rw [upd_ne (ne_of_none e h)]; exact s a u e
end

/-! ### data: None, bools, ints, texts, tuples of these -/
mutual
inductive Im (K : PySem.W.Frag) (H : Hp) : V → PyData → Prop
  | non : Im K H .non .none
  | bl (b : Bool) : Im K H (.bl b) (.bool b)
  | int (i : Int) : Im K H (.int i) (.int i)
  | str (x : Str) : Im K H (.str x) (.str x)
  | tup {a : Addr} {xs : List V} {ds : List PyData} : SqT K H a xs → ImA K H xs ds → Im K H (.ref a) (.tuple ds)
inductive ImA (K : PySem.W.Frag) (H : Hp) : List V → List PyData → Prop
  | nil : ImA K H [] []
  | cons {v : V} {vs : List V} {d : PyData} {ds : List PyData} : Im K H v d → ImA K H vs ds → ImA K H (v :: vs) (d :: ds)
end
section
variable {K : PySem.W.Frag} {H H' : Hp}
mutual
theorem Im.ts (t : Tk K H H') : ∀ {v : V} {d : PyData}, Im K H v d → Im K H' v d
  | _, _, .non => .non
  | _, _, .bl b => .bl b
  | _, _, .int i => .int i
  | _, _, .str x => .str x
  | _, _, .tup h r => .tup (t _ _ h) (ImA.ts t r)
theorem ImA.ts (t : Tk K H H') : ∀ {vs : List V} {ds : List PyData}, ImA K H vs ds → ImA K H' vs ds
  | _, _, .nil => .nil
  | _, _, .cons h r => .cons (Im.ts t h) (ImA.ts t r)
end
theorem Im.same {v : V} {d : PyData} (s : Same H H') (h : Im K H v d) : Im K H' v d := h.ts (Tk.same s)
theorem ImA.same {v : List V} {d : List PyData} (s : Same H H') (h : ImA K H v d) : ImA K H' v d := h.ts (Tk.same s)
mutual
theorem Im.dp : ∀ {v : V} {d : PyData}, Im K H v d → Dp K H v d
  | _, _, .non => .non
  | _, _, .bl b => .bl b
  | _, _, .int i => .int i
  | _, _, .str x => .str x
  | _, _, .tup h r => .tup h (ImA.dp r)
theorem ImA.dp : ∀ {vs : List V} {ds : List PyData}, ImA K H vs ds → DpAll K H vs ds
  | _, _, .nil => .nil
  | _, _, .cons h r => .cons (Im.dp h) (ImA.dp r)
end
theorem ImA.len : ∀ {vs : List V} {ds : List PyData}, ImA K H vs ds → vs.length = ds.length
  | _, _, .nil => rfl
  | _, _, .cons _ r => congrArg (· + 1) (ImA.len r)
theorem ImA.get : ∀ {vs : List V} {ds : List PyData} {i : Nat} {d : PyData}, ImA K H vs ds → ds[i]? = some d → ∃ v, vs[i]? = some v ∧ Im K H v d
  | _, _, _, _, .nil, h => by simp at h
  | _, _, 0, _, .cons h r, e => by simp at e; subst e; exact ⟨_, rfl, h⟩
  | _, _, i + 1, d, .cons h r, e => by
    obtain ⟨v, h1, h2⟩ := ImA.get (i := i) (d := d) r (by simpa using e)
    exact ⟨v, by simpa using h1, h2⟩
theorem ImA.app : ∀ {vs ws : List V} {ds es : List PyData}, ImA K H vs ds → ImA K H ws es → ImA K H (vs ++ ws) (ds ++ es)
  | _, _, _, _, .nil, s => s
  | _, _, _, _, .cons h r, s => .cons h (ImA.app r s)
theorem ImA.one {v : V} {d : PyData} (h : Im K H v d) : ImA K H [v] [d] := .cons h .nil
theorem ImA.snoc {vs : List V} {ds : List PyData} {v : V} {d : PyData} (r : ImA K H vs ds) (h : Im K H v d) : ImA K H (vs ++ [v]) (ds ++ [d]) := r.app (ImA.one h)
theorem ImA.take : ∀ {vs : List V} {ds : List PyData} (n : Nat), ImA K H vs ds → ImA K H (vs.take n) (ds.take n)
  | _, _, 0, _ => .nil
  | _, _, _ + 1, .nil => .nil
  | _, _, n + 1, .cons h r => .cons h (ImA.take n r)
theorem ImA.drop : ∀ {vs : List V} {ds : List PyData} (n : Nat), ImA K H vs ds → ImA K H (vs.drop n) (ds.drop n)
  | _, _, 0, r => r
  | _, _, _ + 1, .nil => .nil
  | _, _, n + 1, .cons h r => ImA.drop n r
theorem Im.of_tup {v : V} {ds : List PyData} (h : Im K H v (.tuple ds)) : ∃ a xs, v = .ref a ∧ SqT K H a xs ∧ ImA K H xs ds := by
  cases h with
  | tup h r => exact ⟨_, _, rfl, h, r⟩
theorem Im.new_tup {p : Addr} {xs : List V} {ds : List PyData} (h : H p = none) (r : ImA K H xs ds) : Im K (upd H p (.tup xs)) (.ref p) (.tuple ds) :=
  .tup (SqT.of upd_same) (r.ts (Tk.new h))
end

/-! ### isinstance -/
def isT : String → PyData → Bool
  | "int", .int _ => true
  | "int", .bool _ => true
  | "bool", .bool _ => true
  | "str", .str _ => true
  | "tuple", .tuple _ => true
  | _, _ => false
section
variable {K : PySem.W.Frag} {H : Hp}
theorem tyT {a : Addr} {xs : List V} (h : SqT K H a xs) : TyX K H (.ref a) (.type "tuple") := by
  rcases h with (h | ⟨o, h⟩) | ⟨o, its, n, h, hc, _⟩
  · exact .base (.tup h)
  · exact .fTuple h
  · exact .kTuple h hc
theorem tyL {a : Addr} {xs : List V} (h : SqL K H a xs) : TyX K H (.ref a) (.type "list") := by
  rcases h with (h | ⟨o, h⟩) | ⟨o, its, n, h, hc, _⟩
  · exact .base (.lst h)
  · exact .base (.frz h)
  · exact .kList h hc
theorem isi {x : V} {t T : String} {b : Bool} {Q : VK} (ty : TyX K H x (.type t)) (e : kitB t T = some b) (q : Q (.bl b) H) : rIsi K [x, .ty T] H Q :=
  ⟨x, .ty T, _, _, b, rfl, .ty T, ty, kit_ty e, q⟩
theorem isi_int {v : V} {d : PyData} {Q : VK} (h : Im K H v d) (q : Q (.bl (isT "int" d)) H) : rIsi K [v, .ty "int"] H Q := by
  cases h with
  | non => exact isi (b := false) (.base .non) (by decide +kernel) q
  | bl b => exact isi (b := true) (.base (.bl b)) (by decide +kernel) q
  | int i => exact isi (b := true) (.base (.int i)) (by decide +kernel) q
  | str x => exact isi (b := false) (.base (.str x)) (by decide +kernel) q
  | tup h r => exact isi (b := false) (tyT h) (by decide +kernel) q
theorem isi_bool {v : V} {d : PyData} {Q : VK} (h : Im K H v d) (q : Q (.bl (isT "bool" d)) H) : rIsi K [v, .ty "bool"] H Q := by
  cases h with
  | non => exact isi (b := false) (.base .non) (by decide +kernel) q
  | bl b => exact isi (b := true) (.base (.bl b)) (by decide +kernel) q
  | int i => exact isi (b := false) (.base (.int i)) (by decide +kernel) q
  | str x => exact isi (b := false) (.base (.str x)) (by decide +kernel) q
  | tup h r => exact isi (b := false) (tyT h) (by decide +kernel) q
theorem isi_str {v : V} {d : PyData} {Q : VK} (h : Im K H v d) (q : Q (.bl (isT "str" d)) H) : rIsi K [v, .ty "str"] H Q := by
  cases h with
  | non => exact isi (b := false) (.base .non) (by decide +kernel) q
  | bl b => exact isi (b := false) (.base (.bl b)) (by decide +kernel) q
  | int i => exact isi (b := false) (.base (.int i)) (by decide +kernel) q
  | str x => exact isi (b := true) (.base (.str x)) (by decide +kernel) q
  | tup h r => exact isi (b := false) (tyT h) (by decide +kernel) q
theorem isi_tuple {v : V} {d : PyData} {Q : VK} (h : Im K H v d) (q : Q (.bl (isT "tuple" d)) H) : rIsi K [v, .ty "tuple"] H Q := by
  cases h with
  | non => exact isi (b := false) (.base .non) (by decide +kernel) q
  | bl b => exact isi (b := false) (.base (.bl b)) (by decide +kernel) q
  | int i => exact isi (b := false) (.base (.int i)) (by decide +kernel) q
  | str x => exact isi (b := false) (.base (.str x)) (by decide +kernel) q
  | tup h r => exact isi (b := true) (tyT h) (by decide +kernel) q
end

/-! ### operators that take all kinds -/
section
variable {X : Cx}
inductive RAdd (K : PySem.W.Frag) : V → V → Hp → VK → Prop
  | int {i j : Int} {H : Hp} {Q : VK} : Q (.int (i + j)) H → RAdd K (.int i) (.int j) H Q
  | str {i j : Str} {H : Hp} {Q : VK} : i.length + j.length ≤ sizeLine → Q (.str (i ++ j)) H → RAdd K (.str i) (.str j) H Q
  | lst {a b : Addr} {xs ys : List V} {H : Hp} {Q : VK} : H a = some (.lst xs) → H b = some (.lst ys) → xs.length + ys.length ≤ sizeLine → (∀ p, H p = none → Q (.ref p) (upd H p (.lst (xs ++ ys)))) → RAdd K (.ref a) (.ref b) H Q
theorem op_addA : OpR X (binaryOp .Add) (RAdd X.K) := by
  intro pins s σ H x y v u Q I rx ry h
  cases h with
  | int q => exact op_add pins s σ H _ _ v u Q I rx ry ⟨_, _, rfl, rfl, q⟩
  | str hl q => exact op_add_str pins s σ H _ _ v u Q I rx ry ⟨_, _, rfl, rfl, hl, q⟩
  | lst ha hb hl q => exact op_cat pins s σ H _ _ v u Q I rx ry ⟨_, _, _, _, rfl, rfl, ha, hb, hl, q⟩
/-- ==, != : scalars, or data at any depth -/
inductive REq (K : PySem.W.Frag) (neg : Bool) : V → V → Hp → VK → Prop
  | sc {x y : V} {H : Hp} {Q : VK} : scal x y = true → Q (.bl (if neg then !decide (x = y) else decide (x = y))) H → REq K neg x y H Q
  | dat {x y : V} {d e : PyData} {H : Hp} {Q : VK} : Im K H x d → Im K H y e → SeqAt.shaped d = true → SeqAt.shaped e = true → Q (.bl (if neg then !PyData.eqv d e else PyData.eqv d e)) H → REq K neg x y H Q
  | dp {x y : V} {d e : PyData} {H : Hp} {Q : VK} : Dp K H x d → Dp K H y e → SeqAt.shaped d = true → SeqAt.shaped e = true → Q (.bl (if neg then !PyData.eqv d e else PyData.eqv d e)) H → REq K neg x y H Q
theorem op_eqA (hu : X.A.units + 64 < cLine) : OpR X (compareOp .Eq) (REq X.K false) := by
  intro pins s σ H x y v u Q I rx ry h
  cases h with
  | sc h q => exact op_eq pins s σ H _ _ v u Q I rx ry ⟨h, q⟩
  | dat h1 h2 s1 s2 q => exact op_eqD hu pins s σ H _ _ v u Q I rx ry ⟨_, _, h1.dp, h2.dp, s1, s2, q⟩
  | dp h1 h2 s1 s2 q => exact op_eqD hu pins s σ H _ _ v u Q I rx ry ⟨_, _, h1, h2, s1, s2, q⟩
theorem op_neA (hu : X.A.units + 64 < cLine) : OpR X (compareOp .NotEq) (REq X.K true) := by
  intro pins s σ H x y v u Q I rx ry h
  cases h with
  | sc h q => exact op_ne pins s σ H _ _ v u Q I rx ry ⟨h, q⟩
  | dat h1 h2 s1 s2 q => exact op_neD hu pins s σ H _ _ v u Q I rx ry ⟨_, _, h1.dp, h2.dp, s1, s2, q⟩
  | dp h1 h2 s1 s2 q => exact op_neD hu pins s σ H _ _ v u Q I rx ry ⟨_, _, h1, h2, s1, s2, q⟩
/-- x is None, x is True, x is False -/
inductive RIs (neg : Bool) : V → V → Hp → VK → Prop
  | non {x : V} {H : Hp} {Q : VK} : Q (.bl (if neg then !decide (x = .non) else decide (x = .non))) H → RIs neg x .non H Q
  | bl {x : V} {b : Bool} {H : Hp} {Q : VK} : Q (.bl (if neg then !decide (x = .bl b) else decide (x = .bl b))) H → RIs neg x (.bl b) H Q
theorem op_isA : OpR X (compareOp .Is) (RIs false) := by
  intro pins s σ H x y v u Q I rx ry h
  cases h with
  | non q => exact op_isN pins s σ H _ _ v u Q I rx ry ⟨rfl, q⟩
  | @bl b _ _ q =>
    cases (show u = Value.bool b from ry)
    cases x with
    | bl a => exact op_isBl pins s σ H _ (.bl b) v _ Q I rx rfl ⟨_, _, rfl, rfl, by simpa using q⟩
    | non =>
      cases (show v = Value.none from rx)
      exact wpAny_is_other rfl (fun z => nomatch z) ⟨.bl false, H, I, rfl, by simpa using q⟩
    | int i =>
      obtain ⟨t, rfl⟩ := (show ∃ t, v = Value.int i t from rx)
      exact wpAny_is_other rfl (fun z => nomatch z) ⟨.bl false, H, I, rfl, by simpa using q⟩
    | str i =>
      obtain ⟨t, rfl⟩ := (show ∃ t, v = Value.str i t from rx)
      exact wpAny_is_other rfl (fun z => nomatch z) ⟨.bl false, H, I, rfl, by simpa using q⟩
    | byt i =>
      obtain ⟨t, rfl⟩ := (show ∃ t, v = Value.bytes i t from rx)
      exact wpAny_is_other rfl (fun z => nomatch z) ⟨.bl false, H, I, rfl, by simpa using q⟩
    | flt i =>
      obtain ⟨t, rfl⟩ := (show ∃ t, v = Value.float i t from rx)
      exact wpAny_is_other rfl (fun z => nomatch z) ⟨.bl false, H, I, rfl, by simpa using q⟩
    | ref a =>
      cases (show v = Value.ref a from rx)
      exact wpAny_is_other rfl (fun z => nomatch z) ⟨.bl false, H, I, rfl, by simpa using q⟩
    | ty n =>
      cases (show v = Value.type n from rx)
      exact wpAny_is_other rfl (fun z => nomatch z) ⟨.bl false, H, I, rfl, by simpa using q⟩
theorem op_notA : OpR X (compareOp .IsNot) (fun x y H Q => y = .non ∧ Q (.bl (!decide (x = .non))) H) := op_notN
/-- an order: ints or texts -/
inductive RLt : V → V → Hp → VK → Prop
  | int {i j : Int} {H : Hp} {Q : VK} : Q (.bl (decide (i < j))) H → RLt (.int i) (.int j) H Q
  | str {i j : Str} {H : Hp} {Q : VK} : Q (.bl (decide (i.cps.toList < j.cps.toList))) H → RLt (.str i) (.str j) H Q
theorem op_ltA : OpR X (compareOp .Lt) RLt := by
  intro pins s σ H x y v u Q I rx ry h
  cases h with
  | int q => exact op_lt pins s σ H _ _ v u Q I rx ry ⟨_, _, rfl, rfl, q⟩
  | str q => exact op_lt_str pins s σ H _ _ v u Q I rx ry ⟨_, _, rfl, rfl, q⟩
inductive RGt : V → V → Hp → VK → Prop
  | int {i j : Int} {H : Hp} {Q : VK} : Q (.bl (decide (j < i))) H → RGt (.int i) (.int j) H Q
  | str {i j : Str} {H : Hp} {Q : VK} : Q (.bl (decide (j.cps.toList < i.cps.toList))) H → RGt (.str i) (.str j) H Q
theorem op_gtA : OpR X (compareOp .Gt) RGt := by
  intro pins s σ H x y v u Q I rx ry h
  cases h with
  | int q => exact op_gt pins s σ H _ _ v u Q I rx ry ⟨_, _, rfl, rfl, q⟩
  | str q => exact op_gt_str pins s σ H _ _ v u Q I rx ry ⟨_, _, rfl, rfl, q⟩
/-- len -/
inductive RLen (K : PySem.W.Frag) : List V → Hp → VK → Prop
  | str {z : Str} {H : Hp} {Q : VK} : z.length ≤ sizeLine → Q (.int z.length) H → RLen K [.str z] H Q
  | tup {p : Addr} {xs : List V} {H : Hp} {Q : VK} : SqT K H p xs → Q (.int xs.length) H → RLen K [.ref p] H Q
  | lst {p : Addr} {xs : List V} {H : Hp} {Q : VK} : SqL K H p xs → Q (.int xs.length) H → RLen K [.ref p] H Q
  | dct {p : Addr} {kvs : List (Key × V)} {H : Hp} {Q : VK} : H p = some (.dK kvs) → Q (.int kvs.length) H → RLen K [.ref p] H Q
theorem call_lenA : CallR X (.builtin "len") (RLen X.K) := by
  intro pins s σ H xs us Q I r h
  cases h with
  | str h q => exact call_len_str pins s σ H _ us Q I r ⟨_, rfl, h, q⟩
  | tup h q => exact call_len_seq pins s σ H _ us Q I r ⟨_, _, rfl, .inr h, q⟩
  | lst h q => exact call_len_seq pins s σ H _ us Q I r ⟨_, _, rfl, .inl h, q⟩
  | dct h q => exact call_lenD pins s σ H _ us Q I r ⟨_, _, rfl, h, q⟩
/-- an item -/
inductive RIx (K : PySem.W.Frag) : V → V → Hp → VK → Prop
  | lst {p : Addr} {xs : List V} {i : Int} {v : V} {H : Hp} {Q : VK} : SqL K H p xs → atI xs i = some v → Q v H → RIx K (.ref p) (.int i) H Q
  | tup {p : Addr} {xs : List V} {i : Int} {v : V} {H : Hp} {Q : VK} : SqT K H p xs → atI xs i = some v → Q v H → RIx K (.ref p) (.int i) H Q
  | str {z : Str} {i : Int} {c : Nat} {H : Hp} {Q : VK} : z.length ≤ sizeLine → atI z.cps.toList i = some c → Q (.str ⟨#[c]⟩) H → RIx K (.str z) (.int i) H Q
theorem ix_all : IxR X (RIx X.K) := by
  intro value slice pins s σ H x y v u Q I rx ry h hs
  cases h with
  | lst h1 h2 q => exact ix_list value slice pins s σ H _ _ v u Q I rx ry ⟨_, _, _, _, rfl, rfl, h1, h2, q⟩ hs
  | tup h1 h2 q => exact ix_tup value slice pins s σ H _ _ v u Q I rx ry ⟨_, _, _, _, rfl, rfl, h1, h2, q⟩ hs
  | str h1 h2 q => exact ix_str value slice pins s σ H _ _ v u Q I rx ry ⟨_, _, _, rfl, rfl, h1, h2, q⟩ hs
/-- a slice -/
inductive RSl (K : PySem.W.Frag) : V → Option Int → Option Int → Hp → VK → Prop
  | lst {p : Addr} {xs : List V} {lo hi : Option Int} {H : Hp} {Q : VK} : SqL K H p xs → (∀ q, H q = none → Q (.ref q) (upd H q (.lst (cutV xs lo hi)))) → RSl K (.ref p) lo hi H Q
  | tup {p : Addr} {xs : List V} {lo hi : Option Int} {H : Hp} {Q : VK} : SqT K H p xs → ¬ (HT.sIx xs.length 0 lo = 0 ∧ HT.sIx xs.length xs.length hi = xs.length) → (∀ q, H q = none → Q (.ref q) (upd H q (.tup (cutV xs lo hi)))) → RSl K (.ref p) lo hi H Q
  | str {z : Str} {lo hi : Option Int} {H : Hp} {Q : VK} : z.length ≤ sizeLine → Q (.str (cutS z lo hi)) H → RSl K (.str z) lo hi H Q
theorem sl_all : SlR X (RSl X.K) := by
  have h1 : SlR X (rSlL X.K) := sl_list
  have h2 : SlR X (rSlT X.K) := sl_tup
  have h3 : SlR X rSlS := sl_str
  intro pins s σ H x v vl vu lo hi sl Q I rx hs pl pu h
  cases h with
  | lst a q => exact h1 pins s σ H _ v vl vu _ _ sl Q I rx hs pl pu ⟨_, _, rfl, a, q⟩
  | tup a b q => exact h2 pins s σ H _ v vl vu _ _ sl Q I rx hs pl pu ⟨_, _, rfl, a, b, q⟩
  | str a q => exact h3 pins s σ H _ v vl vu _ _ sl Q I rx hs pl pu ⟨_, rfl, a, q⟩
/-- int(x): an int, a bool, a text -/
inductive RInt : List V → Hp → VK → Prop
  | int {i : Int} {H : Hp} {Q : VK} : Q (.int i) H → RInt [.int i] H Q
  | bl {b : Bool} {H : Hp} {Q : VK} : Q (.int (if b then 1 else 0)) H → RInt [.bl b] H Q
  | str {z : Str} {n : Int} {H : Hp} {Q : VK} : PySem.intText? z = some n → z.length ≤ 640 → Q (.int n) H → RInt [.str z] H Q
theorem call_intA : CallR X (.type "int") RInt := by
  intro pins s σ H xs us Q I r h
  cases h with
  | int q => exact call_int1 pins s σ H _ us Q I r (.inl ⟨_, rfl, q⟩)
  | bl q => exact call_int1 pins s σ H _ us Q I r (.inr ⟨_, rfl, q⟩)
  | str h1 h2 q => exact call_int_str pins s σ H _ us Q I r ⟨_, _, rfl, h1, h2, q⟩
end

theorem b_len : bootBuiltins (Str.ofString "len") = some (.builtin "len") := by decide +kernel
theorem b_isinstance : bootBuiltins (Str.ofString "isinstance") = some (.builtin "isinstance") := by decide +kernel
theorem b_sum : bootBuiltins (Str.ofString "sum") = some (.builtin "sum") := by decide +kernel
theorem b_all : bootBuiltins (Str.ofString "all") = some (.builtin "all") := by decide +kernel
theorem b_any : bootBuiltins (Str.ofString "any") = some (.builtin "any") := by decide +kernel
theorem b_ord : bootBuiltins (Str.ofString "ord") = some (.builtin "ord") := by decide +kernel
theorem b_abs : bootBuiltins (Str.ofString "abs") = some (.builtin "abs") := by decide +kernel
theorem b_sorted : bootBuiltins (Str.ofString "sorted") = some (.builtin "sorted") := by decide +kernel
theorem b_max : bootBuiltins (Str.ofString "max") = some (.builtin "max") := by decide +kernel
theorem b_min : bootBuiltins (Str.ofString "min") = some (.builtin "min") := by decide +kernel
theorem b_chr : bootBuiltins (Str.ofString "chr") = some (.builtin "chr") := by decide +kernel
theorem b_int : bootBuiltins (Str.ofString "int") = some (.type "int") := by decide +kernel
theorem b_str : bootBuiltins (Str.ofString "str") = some (.type "str") := by decide +kernel
theorem b_bool : bootBuiltins (Str.ofString "bool") = some (.type "bool") := by decide +kernel
theorem b_tuple : bootBuiltins (Str.ofString "tuple") = some (.type "tuple") := by decide +kernel
theorem b_list : bootBuiltins (Str.ofString "list") = some (.type "list") := by decide +kernel
theorem b_dict : bootBuiltins (Str.ofString "dict") = some (.type "dict") := by decide +kernel
theorem b_range : bootBuiltins (Str.ofString "range") = some (.type "range") := by decide +kernel
theorem b_zip : bootBuiltins (Str.ofString "zip") = some (.type "zip") := by decide +kernel
theorem b_enumerate : bootBuiltins (Str.ofString "enumerate") = some (.type "enumerate") := by decide +kernel
theorem b_type : bootBuiltins (Str.ofString "type") = some (.type "type") := by decide +kernel

/-! ### the same within a comprehension's block: K is named -/
section
variable {X : Cx} {K : PySem.W.Frag}
theorem op_addK (h : X.K = K) : OpR X (binaryOp .Add) (RAdd K) := h ▸ op_addA
theorem op_eqK (h : X.K = K) (hu : X.A.units + 64 < cLine) : OpR X (compareOp .Eq) (REq K false) := h ▸ op_eqA hu
theorem op_neK (h : X.K = K) (hu : X.A.units + 64 < cLine) : OpR X (compareOp .NotEq) (REq K true) := h ▸ op_neA hu
theorem call_lenK (h : X.K = K) : CallR X (.builtin "len") (RLen K) := h ▸ call_lenA
theorem call_isiK' (h : X.K = K) : CallR X (.builtin "isinstance") (rIsi K) := h ▸ call_isi
theorem ix_allK (h : X.K = K) : IxR X (RIx K) := h ▸ ix_all
theorem sl_allK (h : X.K = K) : SlR X (RSl K) := h ▸ sl_all
theorem pe_fldK {e : Expr} {f : Str} {pos : Pos} {ta : TE} (h : X.K = K) (he : PE X e ta) (hb : attributeBase e f X.env (eval e X.env) = eval e X.env := by rfl) : PE X (.Attribute e f pos) (tFld K ta f) := h ▸ pe_fld he hb
theorem pi_listK {tg l : Expr} {tl : TE} (h : X.K = K) (hl : PE X l tl) : PI X tg l (iList K tl) := h ▸ pi_list hl
theorem pi_tupK {tg l : Expr} {tl : TE} (h : X.K = K) (hl : PE X l tl) : PI X tg l (iTup K tl) := h ▸ pi_tup hl
theorem pt_truK {a : Expr} {ta : TE} (h : X.K = K) (ha : PE X a ta) (he : ∀ whole, isTrue a X.env whole = (do let v ← whole; standAt a.pos; holding [v] (truthy v)) := by intro _; rfl) : PT X a (fun σ H Q => ta σ H fun x H' => ∃ k, TruV K x H' k ∧ Q k H') := h ▸ pt_truth ha he
end
/-! ### what stands in the text -/
section
variable {P : Program} {w : World} {K : PySem.W.Frag} {mg : Str → Option Value} {base : Heap}
/-- a def: its promise, how its arguments bind, where it stands -/
structure Gd (P : Program) (w : World) (K : PySem.W.Frag) (mg : Str → Option Value) (base : Heap) (CX : CXT) (k : Nat) (x : Str) (f : Addr) (fd : FuncData) (ps : List Str) (sp : Sp) : Prop where
  ok : FnOk P w K mg base CX k f fd ps sp
  bi : Binds K fd ps []
  g : mg x = some (.ref f)
  kp : PySem.W.keepIn K (.ref f) = true
/-- a method: its promise, how its arguments bind, where it is found -/
structure Gm (P : Program) (w : World) (K : PySem.W.Frag) (mg : Str → Option Value) (base : Heap) (CX : CXT) (k : Nat) (C : Addr) (x : Str) (f : Addr) (fd : FuncData) (ps : List Str) (sp : Sp) : Prop where
  ok : FnOk P w K mg base CX k f fd ps sp
  bi : Binds K fd ps []
  m : Meth K C x f
/-- an __init__ -/
structure Gi (P : Program) (w : World) (K : PySem.W.Frag) (mg : Str → Option Value) (base : Heap) (CX : CXT) (k : Nat) (C : Addr) (f : Addr) (fd : FuncData) (ps : List Str) (sp : Sp) : Prop where
  ok : FnOk P w K mg base CX k f fd ps sp
  bi : Binds K fd ps []
  mm : Mk K C f
variable {X : Cx} {CX : CXT} {k : Nat} {f : Addr} {fd : FuncData} {ps : List Str} {sp : Sp} {x : Str} {p pos : Pos} {e : Expr} {es : List Expr} {t : TA} {E : XK}
theorem pc (G : Gd X.prog X.w X.K X.mg X.base CX0 k x f fd ps sp) (hr : Room k X.A) (ha : PA X (e :: es) t) (hg : Gl X x := by rfl) (hdb : (x == ("__debug__" : Str)) = false := by decide)
    (he : starEach (e :: es) X.env = (false, eval e X.env) :: starEach es X.env := by rfl) (hpl : (backTo pos (starEach es X.env)).any (·.1) = false := by rfl) : PE X (.Call (.Name x p) (e :: es) [] pos) (tCall sp [] E0 t) :=
  pe_call G.ok hr hg G.g G.kp G.bi .nil pass0 ha hdb he hpl
end

/-- a value's truth as a test -/
def tTruA (K : PySem.W.Frag) (ta : TE) : TT := fun σ H Q => ta σ H fun x H' => ∃ k, TruV K x H' k ∧ Q k H'
theorem pt_tru {X : Cx} {a : Expr} {ta : TE} (ha : PE X a ta) (he : ∀ whole, isTrue a X.env whole = (do let v ← whole; standAt a.pos; holding [v] (truthy v)) := by intro _; rfl) : PT X a (tTruA X.K ta) := pt_truth ha he
/-! ### steps of readings -/
section
variable {K : PySem.W.Frag} {σ : St} {H : Hp} {Q : VK} {QA : List V → Hp → Prop} {QB : Bool → Hp → Prop} {ta tb te : TE} {tl : TA} {t u : TT} {r : R2} {v x y : V} {i : Nat} {D : Ends} {s1 s2 : L2.TS}
theorem r_var (h : σ[i]? = some (some v)) (q : Q v H) : tVar i σ H Q := ⟨v, h, q⟩
theorem r_c (q : Q v H) : tC v σ H Q := q
theorem r_op (q : ta σ H fun x H1 => tb σ H1 fun y H2 => r x y H2 Q) : tOp r ta tb σ H Q := q
theorem r_un {r : V → Hp → VK → Prop} (q : ta σ H fun x H1 => r x H1 Q) : tUn r ta σ H Q := q
theorem r_cb {r : List V → Hp → VK → Prop} (q : tl σ H fun vs H1 => r vs H1 Q) : tCB r tl σ H Q := q
theorem r_nil (q : QA [] H) : tNil σ H QA := q
theorem r_cons (q : ta σ H fun x H1 => tl σ H1 fun xs H2 => QA (x :: xs) H2) : tCons ta tl σ H QA := q
theorem r_tup (q : tl σ H fun xs H1 => xs.length ≤ sizeLine ∧ ∀ p, H1 p = none → Q (.ref p) (upd H1 p (.tup xs))) : tTup tl σ H Q := q
theorem r_lst (q : tl σ H fun xs H1 => xs.length ≤ sizeLine ∧ ∀ p, H1 p = none → Q (.ref p) (upd H1 p (.lst xs))) : tLst tl σ H Q := q
theorem r_call {sp : Sp} {dvs : List V} {E : XK} (q : tl σ H fun vs H1 => sp (vs ++ dvs) H1 Q E) : tCall sp dvs E tl σ H Q := q
theorem r_b {te : TE} (q : te σ H fun x H1 => ∃ c, x = .bl c ∧ QB c H1) : tB te σ H QB := q
theorem r_test {te : TE} (q : te σ H fun x H1 => ∃ c, x = .bl c ∧ QB c H1) : tTest te σ H QB := q
theorem r_bl {b : Bool} {R : Bool → Prop} (q : R b) : ∃ c, V.bl b = .bl c ∧ R c := ⟨b, rfl, q⟩
theorem r_not (q : t σ H fun c H1 => QB (!c) H1) : tNot t σ H QB := q
theorem r_and (q : t σ H fun c H1 => if c = true then u σ H1 QB else QB false H1) : tAnd t u σ H QB := q
theorem r_or (q : t σ H fun c H1 => if c = true then QB true H1 else u σ H1 QB) : tOr t u σ H QB := q
theorem r_if {ta tb : TE} (q : t σ H fun c H1 => if c = true then ta σ H1 Q else tb σ H1 Q) : tIf t ta tb σ H Q := q
theorem r_seq (q : s1 { D with nx := s2 D } σ H) : tSeq s1 s2 D σ H := q
theorem r_next (q : D.nx σ H) : tNext D σ H := q
theorem r_brk (q : D.bk σ H) : tBreak D σ H := q
theorem r_cont (q : D.ct σ H) : tCont D σ H := q
theorem r_drop {te : TE} (q : te σ H fun _ H1 => D.nx σ H1) : tDrop te D σ H := q
theorem r_ret {te : TE} (q : te σ H D.rt) : tRet te D σ H := q
theorem r_retN (q : D.rt .non H) : tRetN D σ H := q
theorem r_ifS (q : t σ H fun b H1 => if b = true then s1 D σ H1 else s2 D σ H1) : tIfS t s1 s2 D σ H := q
theorem r_asg {te : TE} {g : TG} (q : te σ H fun x H1 => g x σ H1 D.nx) : tAsg te g D σ H := q
theorem r_gname {R : St → Hp → Prop} (q : R (σ.set i (some v)) H) : gName i v σ H R := q
theorem r_tru (q : ta σ H fun x H' => ∃ k, TruV K x H' k ∧ QB k H') : tTruA K ta σ H QB := q
theorem r_truS {y : Str} {R : Bool → Prop} (h : y.length ≤ sizeLine) (q : R ((y.length : Int) != 0)) : ∃ k, TruV K (.str y) H k ∧ R k := ⟨_, ⟨h, rfl⟩, q⟩
theorem r_truT {a : Addr} {xs : List V} {R : Bool → Prop} (h : SqT K H a xs) (q : R (!xs.isEmpty)) : ∃ k, TruV K (.ref a) H k ∧ R k := ⟨_, .inr (.inl ⟨_, h, rfl⟩), q⟩
theorem r_truL {a : Addr} {xs : List V} {R : Bool → Prop} (h : SqL K H a xs) (q : R (!xs.isEmpty)) : ∃ k, TruV K (.ref a) H k ∧ R k := ⟨_, .inl ⟨_, h, rfl⟩, q⟩
theorem r_truB {b : Bool} {R : Bool → Prop} (q : R b) : ∃ k, TruV K (.bl b) H k ∧ R k := ⟨_, rfl, q⟩
theorem r_andV (q : ta σ H fun x H1 => ∃ c, x = .bl c ∧ if c = true then tb σ H1 Q else Q (.bl false) H1) : tAndV ta tb σ H Q := q
theorem r_orV (q : ta σ H fun x H1 => ∃ c, x = .bl c ∧ if c = true then Q (.bl true) H1 else tb σ H1 Q) : tOrV ta tb σ H Q := q
theorem r_notV (q : ta σ H fun x H1 => ∃ c, x = .bl c ∧ Q (.bl (!c)) H1) : tNotV ta σ H Q := q
theorem r_gsub {to ti : TE} {tset : TSet} {R : St → Hp → Prop} (q : to σ H fun o H1 => ti σ H1 fun i H2 => tset o i v H2 fun H3 => R σ H3) : gSub to ti tset v σ H R := q
theorem r_setL {p : Addr} {xs : List V} {k : Int} {j : Nat} {R : Hp → Prop} (h : H p = some (.lst xs)) (hj : ixN xs.length k = some j) (q : R (upd H p (.lst (xs.set j v)))) : rSetL (.ref p) (.int k) v H R := ⟨p, xs, k, j, rfl, rfl, h, hj, q⟩
theorem r_bm {T : String} {r : V → List V → Hp → VK → Prop} {to : TE} (q : to σ H fun x H1 => tyV K T x H1 ∧ tl σ H1 fun xs H2 => r x xs H2 Q) : tBM K T r to tl σ H Q := q
theorem r_bm0 {T : String} {r : V → List V → Hp → VK → Prop} {to : TE} (q : to σ H fun x H1 => tyV K T x H1 ∧ r x [] H1 Q) : tBM0 K T r to σ H Q := q
theorem r_tyL {p : Addr} {xs : List V} {R : Prop} (h : SqL K H p xs) (q : R) : tyV K "list" (.ref p) H ∧ R := ⟨.inl ⟨rfl, _, h⟩, q⟩
theorem r_app {p : Addr} {xs : List V} (h : H p = some (.lst xs)) (hl : xs.length < sizeLine) (q : Q .non (upd H p (.lst (xs ++ [v])))) : rAppend (.ref p) [v] H Q := ⟨p, xs, v, rfl, rfl, h, hl, q⟩
theorem r_i0 {g : Int → Int → V} {a b : Int} (q : Q (g a b) H) : rI0 g (.int a) (.int b) H Q := ⟨a, b, rfl, rfl, q⟩
theorem r_i {C : Int → Int → Prop} {g : Int → Int → V} {a b : Int} (c : C a b) (q : Q (g a b) H) : rI C g (.int a) (.int b) H Q := ⟨a, b, rfl, rfl, c, q⟩
theorem r_fldE {f : Str} (q : ta σ H fun x H1 => ∃ a C dx fs v, x = .ref a ∧ H1 a = some (.ins C dx fs) ∧ Cls K C ∧ NoAttr K C f ∧ fs.lookup f = some v ∧ Q v H1) : tFld K ta f σ H Q := q
theorem x_fld {a C dx : Addr} {fs : List (Str × V)} {f : Str} {R : V → Prop} (ho : H a = some (.ins C dx fs)) (hc : Cls K C) (hn : NoAttr K C f) (hl : fs.lookup f = some v) (q : R v) :
    ∃ a' C dx fs v, V.ref a = .ref a' ∧ H a' = some (.ins C dx fs) ∧ Cls K C ∧ NoAttr K C f ∧ fs.lookup f = some v ∧ R v := ⟨a, C, dx, fs, v, rfl, ho, hc, hn, hl, q⟩
theorem r_meth {C : Addr} {m : Str} {sp : Sp} {dvs : List V} {E : XK} (q : ta σ H fun x H1 => ∃ a dx fs, x = .ref a ∧ H1 a = some (.ins C dx fs) ∧ fs.lookup m = none ∧ tl σ H1 fun vs H2 => sp (x :: (vs ++ dvs)) H2 Q E) : tMeth C m sp dvs E ta tl σ H Q := q
theorem x_meth {a C dx : Addr} {fs : List (Str × V)} {m : Str} {R : Prop} (ho : H a = some (.ins C dx fs)) (hl : fs.lookup m = none) (q : R) : ∃ a' dx fs, V.ref a = .ref a' ∧ H a' = some (.ins C dx fs) ∧ fs.lookup m = none ∧ R := ⟨a, dx, fs, rfl, ho, hl, q⟩
theorem r_sfld {f : Str} {tv : TE} (q : tv σ H fun y H1 => ta σ H1 fun x H2 => ∃ a C dx fs, x = .ref a ∧ H2 a = some (.ins C dx fs) ∧ Cls K C ∧ NoAttr K C f ∧ fs.length < 1000 ∧ D.nx σ (upd H2 a (.ins C dx (putF f y fs)))) : sFld K ta tv f D σ H := q
theorem x_sfld {a C dx : Addr} {fs : List (Str × V)} {f : Str} {R : Hp → Prop} {y : V} (ho : H a = some (.ins C dx fs)) (hc : Cls K C) (hn : NoAttr K C f) (hl : fs.length < 1000) (q : R (upd H a (.ins C dx (putF f y fs)))) :
    ∃ a' C dx fs, V.ref a = .ref a' ∧ H a' = some (.ins C dx fs) ∧ Cls K C ∧ NoAttr K C f ∧ fs.length < 1000 ∧ R (upd H a' (.ins C dx (putF f y fs))) := ⟨a, C, dx, fs, rfl, ho, hc, hn, hl, q⟩
theorem r_make {C : Addr} {sp : Sp} {dvs : List V} {E : XK} (q : tl σ H fun vs H1 => ∀ x dx, H1 x = none → H1 dx = none → dx ≠ x → sp (.ref x :: (vs ++ dvs)) (upd (upd H1 dx (.own x)) x (.ins C dx [])) (fun v H2 => v = .non ∧ Q (.ref x) H2) E) : tMake C sp dvs E tl σ H Q := q
theorem r_tyS {z : Str} {R : Prop} (q : R) : tyV K "str" (.str z) H ∧ R := ⟨rfl, q⟩
theorem r_gtup {n : Nat} {t : TGs} {R : St → Hp → Prop} {a : Addr} {xs : List V} (h : SqT K H a xs) (hn : xs.length = n) (q : t xs σ H R) : gTup K n t (.ref a) σ H R := ⟨a, xs, rfl, h, hn, q⟩
theorem r_gcons {t : TG} {u : TGs} {r : List V} {R : St → Hp → Prop} (q : t v σ H fun σ' H' => u r σ' H' R) : gCons t u (v :: r) σ H R := ⟨v, r, rfl, q⟩
theorem r_gnil {R : St → Hp → Prop} (q : R σ H) : gNil [] σ H R := ⟨rfl, q⟩
theorem r_aug {te : TE} {ti : TIp} (h : σ[i]? = some (some x)) (q : te σ H fun y H1 => ti x y H1 fun z H2 => D.nx (σ.set i (some z)) H2) : tAug i te ti D σ H := ⟨x, h, q⟩
theorem r_ip {f : Int → Int → Int} {a b : Int} (q : Q (.int (f a b)) H) : ipI f (.int a) (.int b) H Q := ⟨a, b, rfl, rfl, q⟩
theorem r_chain {r' : R2} {tc : TE} (q : ta σ H fun x H1 => tb σ H1 fun y H2 => r x y H2 fun z H3 => ∃ k, z = .bl k ∧ if k = true then tc σ H3 fun u H4 => r' y u H4 Q else Q (.bl false) H3) : tChain r r' ta tb tc σ H Q := q
theorem r_tm0 {r : V → List V → Hp → VK → Prop} {to : TE} (q : to σ H fun x H1 => (∃ a, x = .str a) ∧ r x [] H1 Q) : tM0 r to σ H Q := q
theorem r_tm1 {r : V → List V → Hp → VK → Prop} {to te : TE} (q : to σ H fun x H1 => (∃ a, x = .str a) ∧ te σ H1 fun y H2 => r x [y] H2 Q) : tM1 r to te σ H Q := q
theorem r_sl {r : V → Option Int → Option Int → Hp → VK → Prop} {tl th : TO} (q : te σ H fun x H1 => tl σ H1 fun l H2 => th σ H2 fun u H3 => r x l u H3 Q) : tSl r te tl th σ H Q := q
theorem r_nopart {R : Option Int → Hp → Prop} (q : R none H) : tNoPart σ H R := q
theorem r_part {R : Option Int → Hp → Prop} (q : te σ H fun x H1 => ∃ i, x = .int i ∧ R (some i) H1) : tPart te σ H R := q
theorem r_ofint {R : Int → Prop} {n : Int} (q : R n) : ∃ i, V.int n = .int i ∧ R i := ⟨n, rfl, q⟩
theorem r_repl {to : TE} {y z : Str} (q : to σ H fun v H1 => ∃ x, v = .str x ∧ (x.length + (x.length + 1) * z.length ≤ 16777216 ∧ Q (.str (Txt.replace x y z)) H1)) : CwR.tReplC to y z σ H Q := q
theorem r_ofstr {R : Str → Prop} {x : Str} (q : R x) : ∃ y, V.str x = .str y ∧ R y := ⟨x, rfl, q⟩
theorem r_isstr {R : Prop} {x : Str} (q : R) : (∃ y, V.str x = .str y) ∧ R := ⟨⟨x, rfl⟩, q⟩
theorem r_isN (q : Q (.bl (decide (x = .non))) H) : RIs false x .non H Q := .non q
theorem r_isB {b : Bool} (q : Q (.bl (decide (x = .bl b))) H) : RIs false x (.bl b) H Q := .bl q
theorem r_eqS (h : scal x y = true) (q : Q (.bl (decide (x = y))) H) : REq K false x y H Q := .sc h q
theorem r_neS (h : scal x y = true) (q : Q (.bl (!decide (x = y))) H) : REq K true x y H Q := .sc h q
theorem ite_t {A B : Prop} {c : Bool} (h : c = true) (a : A) : if c = true then A else B := by rw [h]; exact iteT a
theorem ite_f {A B : Prop} {c : Bool} (h : c = false) (b : B) : if c = true then A else B := by rw [h]; exact iteF b
theorem r_wtup {xs : List V} {a : Addr} {R : Prop} (h : SqT K H a xs) (q : R) : (∃ xs, SqT K H a xs) ∧ R := ⟨⟨xs, h⟩, q⟩
theorem r_wlst {xs : List V} {a : Addr} {R : Prop} (h : SqL K H a xs) (q : R) : (∃ xs, SqL K H a xs) ∧ R := ⟨⟨xs, h⟩, q⟩
theorem r_ofref {R : Addr → Prop} {a : Addr} (q : R a) : ∃ b, V.ref a = .ref b ∧ R b := ⟨a, rfl, q⟩
theorem r_ite {A B : Prop} {c : Bool} (h1 : c = true → A) (h2 : c = false → B) : if c = true then A else B := by
  cases c
  · exact iteF (h2 rfl)
  · exact iteT (h1 rfl)
end
/-! ### comprehensions whose elements are data -/
section
variable {K : PySem.W.Frag} {a : Addr} {xs : List V} {g : TG} {te : TE} {vs : List Nat} {σ : St} {H1 : Hp} {D : Addr} {Qd : Hp → Prop}
/-- a for's walk -/
def ForW (J : It) (g : TG) (tb : L2.TS) (D : Ends) (σ : St) (H1 : Hp) : Prop := ∃ W : Nat → Nat → St → Hp → Prop, (∃ m, W 0 m σ H1) ∧ ∀ i m σ H, W i m σ H →
  (J.stop i H ∧ D.nx σ H) ∨ (J.go i H ∧ ∃ N : St → Hp → Prop, (∀ σ' H', N σ' H' → ∃ m', m' < m ∧ W (i + 1) m' σ' H') ∧ ∀ x H', J.yld i H x H' → g x σ H' fun σ2 H2 => tb { D with nx := N, ct := N, bk := D.nx } σ2 H2)
theorem r_for {wi : TI} {tb : L2.TS} {E : Ends} {H : Hp} (q : wi σ H fun J H1 => ForW J g tb E σ H1) : tFor wi g tb E σ H := q
/-- a comprehension's walk, its new list at D -/
def LcW (J : It) (H1 : Hp) (D : Addr) (g : TG) (tt : TT) (te : TE) (vs : List Nat) (σ : St) (Qd : Hp → Prop) : Prop := ∃ W : Nat → Nat → Hp → Prop, (∃ m, W 0 m (upd H1 D (.lst []))) ∧ ∀ i m H, W i m H →
  (J.stop i H ∧ Qd H) ∨ (J.go i H ∧ ∃ Nx : Hp → Prop, (∀ H', Nx H' → ∃ m', m' < m ∧ W (i + 1) m' H') ∧ ∀ x H', J.yld i H x H' → g x (wipe σ vs) H' fun σ2 H2 => wipe σ2 vs = wipe σ vs ∧ tt σ2 H2 fun b H3 =>
    if b = true then te σ2 H3 fun y H4 => ∃ acc, H4 D = some (.lst acc) ∧ acc.length < sizeLine ∧ Nx (upd H4 D (.lst (acc ++ [y]))) else Nx H3)
theorem r_lc {wi : TI} {tt : TT} {H : Hp} {Q : VK} (q : wi σ H fun J H1 => ∀ D, H1 D = none → LcW J H1 D g tt te vs σ (Q (.ref D))) : tLc wi g tt te vs σ H Q := q
theorem r_itup {ta : TE} {H : Hp} {R : It → Hp → Prop} (q : ta σ H fun x H1 => ∃ a, x = .ref a ∧ (∃ xs, SqT K H1 a xs) ∧ R (Itt K a) H1) : iTup K ta σ H R := q
theorem r_ilst {ta : TE} {H : Hp} {R : It → Hp → Prop} (q : ta σ H fun x H1 => ∃ a, x = .ref a ∧ (∃ xs, SqL K H1 a xs) ∧ R (Itl K a) H1) : iList K ta σ H R := q
theorem r_irg1 {tl : TA} {H : Hp} {R : It → Hp → Prop} (q : tl σ H fun vs H1 => ∃ j : Int, vs = [.int j] ∧ -(2 ^ 62) ≤ j ∧ j < 2 ^ 62 ∧ R (Itr 0 j.toNat) H1) : iRng1 tl σ H R := q
theorem r_irg2 {tl : TA} {H : Hp} {R : It → Hp → Prop} (q : tl σ H fun vs H1 => ∃ i j : Int, vs = [.int i, .int j] ∧ (-(2 ^ 62) ≤ i ∧ i < 2 ^ 62 ∧ -(2 ^ 62) ≤ j ∧ j < 2 ^ 62) ∧ R (Itr i (j - i).toNat) H1) : iRng2 tl σ H R := q
theorem take_succ' {α : Type} {l : List α} {i : Nat} {x : α} (h : l[i]? = some x) : l.take (i + 1) = l.take i ++ [x] := by
  rw [List.take_add_one, h]; rfl
theorem lc_im_tup (es : List PyData) (hlen : es.length = xs.length) (hz : xs.length < sizeLine) (hx : SqT K H1 a xs) (hD : H1 D = none)
    (hs : ∀ (i : Nat) (x : V) (e : PyData) (H : Hp), xs[i]? = some x → es[i]? = some e → Same H1 H → ∀ R : St → Hp → Prop,
      (∀ σ2 H2, wipe σ2 vs = wipe σ vs → (∀ R' : VK, (∀ y H3, Same H H3 → Im K H3 y e → R' y H3) → te σ2 H2 R') → R σ2 H2) → g x (wipe σ vs) H R)
    (hd : ∀ H acc, Same H1 H → H D = some (.lst acc) → ImA K H acc es → Qd H) :
    LcW (Itt K a) H1 D g tYes te vs σ Qd := by
  refine lc_tup (xs := xs) (fun i H => Same H1 H ∧ ∃ acc, H D = some (.lst acc) ∧ ImA K H acc (es.take i)) ⟨same_new hD, [], upd_same, .nil⟩ (fun i H _ p => same_tup p.1 hx) ?_ ?_
  · rintro i x H hi ⟨s, acc, hacc, ha⟩
    have hlt : i < es.length := by rw [hlen]; exact (List.getElem?_eq_some_iff.mp hi).1
    obtain ⟨e, he⟩ : ∃ e, es[i]? = some e := ⟨_, List.getElem?_eq_getElem hlt⟩
    have hal : acc.length ≤ i := by rw [ha.len, List.length_take]; omega
    refine hs i x e H hi he s _ fun σ2 H2 w q => ⟨w, ?_⟩
    refine q _ fun y H3 s3 im => ?_
    refine ⟨acc, s3 _ _ hacc, Nat.lt_of_le_of_lt hal (by omega), same_mut (s.trans s3) hD, acc ++ [y], upd_same, ?_⟩
    rw [take_succ' he]
    have st : Tk K H3 (upd H3 D (.lst (acc ++ [y]))) := Tk.lst (s3 _ _ hacc)
    exact ((ha.same s3).ts st).snoc (im.ts st)
  · rintro H ⟨s, acc, hacc, ha⟩
    rw [← hlen, List.take_length] at ha
    exact hd H acc s hacc ha
end
section
variable {K : PySem.W.Frag} {a : Addr} {xs : List V} {g : TG} {te : TE} {vs : List Nat} {σ : St} {H1 : Hp} {D : Addr} {Qd : Hp → Prop}
theorem lc_im_lst (es : List PyData) (hlen : es.length = xs.length) (hz : xs.length < sizeLine) (hx : SqL K H1 a xs) (hD : H1 D = none)
    (hs : ∀ (i : Nat) (x : V) (e : PyData) (H : Hp), xs[i]? = some x → es[i]? = some e → Same H1 H → ∀ R : St → Hp → Prop,
      (∀ σ2 H2, wipe σ2 vs = wipe σ vs → (∀ R' : VK, (∀ y H3, Same H H3 → Im K H3 y e → R' y H3) → te σ2 H2 R') → R σ2 H2) → g x (wipe σ vs) H R)
    (hd : ∀ H acc, Same H1 H → H D = some (.lst acc) → ImA K H acc es → Qd H) :
    LcW (Itl K a) H1 D g tYes te vs σ Qd := by
  refine lc_list (xs := xs) (fun i H => Same H1 H ∧ ∃ acc, H D = some (.lst acc) ∧ ImA K H acc (es.take i)) ⟨same_new hD, [], upd_same, .nil⟩ (fun i H _ p => p.1.seq hx) ?_ ?_
  · rintro i x H hi ⟨s, acc, hacc, ha⟩
    have hlt : i < es.length := by rw [hlen]; exact (List.getElem?_eq_some_iff.mp hi).1
    obtain ⟨e, he⟩ : ∃ e, es[i]? = some e := ⟨_, List.getElem?_eq_getElem hlt⟩
    have hal : acc.length ≤ i := by rw [ha.len, List.length_take]; omega
    refine hs i x e H hi he s _ fun σ2 H2 w q => ⟨w, ?_⟩
    refine q _ fun y H3 s3 im => ?_
    refine ⟨acc, s3 _ _ hacc, Nat.lt_of_le_of_lt hal (by omega), same_mut (s.trans s3) hD, acc ++ [y], upd_same, ?_⟩
    rw [take_succ' he]
    have st : Tk K H3 (upd H3 D (.lst (acc ++ [y]))) := Tk.lst (s3 _ _ hacc)
    exact ((ha.same s3).ts st).snoc (im.ts st)
  · rintro H ⟨s, acc, hacc, ha⟩
    rw [← hlen, List.take_length] at ha
    exact hd H acc s hacc ha
/-- over a range: the block may change what Inv says -/
theorem lc_im_rng {lo : Int} {n : Nat} (Inv : Nat → Hp → List V → Prop) (hz : n < sizeLine) (hD : H1 D = none) (h0 : Inv 0 (upd H1 D (.lst [])) [])
    (hs : ∀ (i : Nat) (H : Hp) (acc : List V), i < n → acc.length = i → H D = some (.lst acc) → Inv i H acc → ∀ R : St → Hp → Prop,
      (∀ σ2 H2, wipe σ2 vs = wipe σ vs → (∀ R' : VK, (∀ y H3, H3 D = some (.lst acc) → Inv (i + 1) (upd H3 D (.lst (acc ++ [y]))) (acc ++ [y]) → R' y H3) → te σ2 H2 R') → R σ2 H2) → g (.int (lo + i)) (wipe σ vs) H R)
    (hd : ∀ H acc, H D = some (.lst acc) → acc.length = n → Inv n H acc → Qd H) :
    LcW (Itr lo n) H1 D g tYes te vs σ Qd := by
  refine lc_range (fun i H => ∃ acc, H D = some (.lst acc) ∧ acc.length = i ∧ Inv i H acc) ⟨[], upd_same, rfl, h0⟩ ?_ ?_
  · rintro i H hi ⟨acc, hacc, hl, ha⟩
    refine hs i H acc hi hl hacc ha _ fun σ2 H2 w q => ⟨w, ?_⟩
    refine q _ fun y H3 h3 hI => ?_
    exact ⟨acc, h3, by omega, acc ++ [y], upd_same, by rw [List.length_append, hl]; rfl, hI⟩
  · rintro H ⟨acc, hacc, hl, ha⟩
    exact hd H acc hacc hl ha
end
theorem ImA_strs {K : PySem.W.Frag} {H : Hp} : ∀ {vs : List V} {ss : List Str}, ImA K H vs (ss.map PyData.str) → vs = ss.map V.str
  | [], [], _ => rfl
  | _ :: _, [], h => by cases h
  | [], _ :: _, h => by cases h
  | v :: vs, x :: ss, h => by
    cases h with
    | cons h1 h2 =>
      cases h1
      rw [ImA_strs h2]
      rfl
end Z
/-! Rules for bodies in which a token is out: a def's body, name = e, o.f = e, a method's call, a list comprehension. -/
namespace ZT
open PySem PySem.Spec PyProof.Rows L2
section
variable {X : Cx}
theorem psst_nox {st : List Stmt} {t : TS} (h : PSsT X.nox st t) : PSsT X st t := fun pins s σ H D h0 I hw =>
  wpAny_mono (h pins s σ H D h0 (I.wish _) hw) (fun _ _ q => q.unwish) fun _ _ z => False.elim z
/-- a def's body, by rules that ask a token -/
theorem okT {P : Program} {w : World} {K : PySem.W.Frag} {mg : Str → Option Value} {base : Heap} {x qual : Str} {st : Stmt} {f : Addr} {fd : FuncData} {N ps : List Str} {k : Nat} {sp : Sp} (F : Fun K x qual st f fd) (S : FnScope N ps (defScope st))
    (hnc : ∀ y ∈ (defScope st).names, y.2 ≠ .cell) (hps : 1 ≤ ps.length) (len : ∀ vs H Q E, sp vs H Q E → vs.length = ps.length)
    (hbody : ∀ (cdv : Value) (A : Around) (outer : List Env) (s : Shared) (H : Hp) (vs : List V) (Q : VK) (E : XK), Room k (A.deeper (envOfC qual (defScope st) s.heap.objs.size f cdv)) → sp vs H Q E →
      ∃ t, PSsT (cxOf CX0 P w K mg base N qual (defScope st) f cdv A outer s H E).nox (defBody st) t ∧ t { nx := fun _ H' => Q .non H', rt := Q } (start N vs) H) : FnOk P w K mg base CX0 (k + 1) f fd ps sp := by
  obtain ⟨oc, od, kV, doc, pm, an, cdv, ct, osl, rfl, lk, hcd⟩ := F.ex
  refine fn_ofT lk hcd S hnc hps len fun A outer s H vs Q E hr hsp => ?_
  obtain ⟨t, h, q⟩ := hbody cdv A outer s H vs Q E hr hsp
  exact ⟨t, psst_nox h, q⟩
/-- name = e -/
theorem pst_set {i : Nat} {x : Str} {px pos : Pos} {e : Expr} {te : TE} (hN : X.N.Nodup) (hi : X.N[i]? = some x) (hx : Loc X.env.scope x) (he : PET X e te)
    (hs : swapsWith e (some (.Name x px)) pos.line X.env = pure false := by rfl) (hf : X.fn x = true ∨ X.env.scope.names.lookup x = some .local := by first | exact .inl rfl | exact .inr rfl | assumption) :
    PST X (.Assign [.Name x px] e pos) (tAsg te (gName i)) := by
  intro pins s σ H D h0 I h
  refine wpAny_Assign_Name (thn (he pins s σ H _ h0 I h) fun v s1 q => ?_) hs
  obtain ⟨y, H1, I1, r1, q1⟩ := q
  exact store_ok I1 hN hi hx r1 (fun s2 I2 => ⟨_, H1, I2, q1⟩) hf
/-- o.f = e -/
theorem pst_fld {o e : Expr} {f : Str} {p' pos : Pos} {ta tv : TE} (ha : PE X o ta) (he : PET X e tv) (hs : swapsWith e (some (.Attribute o f p')) pos.line X.env = pure false := by rfl) :
    PST X (.Assign [.Attribute o f p'] e pos) (sFld X.K ta tv f) := by
  intro pins s σ H D h0 I h
  refine plainObj_wpAny_Assign_Attribute (thn (he pins s σ H _ h0 I h) fun u s1 q1 => ?_) hs
  obtain ⟨y, H1, I1, ry, q⟩ := q1
  refine thn (ha.run pins s1 σ H1 _ I1 q) fun ov s2 q2 => ?_
  obtain ⟨x, H2, I2, rx, a, C, dx, fs, ex, ea, c, n, l, q3⟩ := q2
  subst ex
  cases rx
  exact setattr_ok I2 ea c n l ry fun s3 I3 => ⟨σ, _, I3, q3⟩
/-- s.m(e), s a text, e by a rule that asks a token -/
theorem pet_m1 {o e : Expr} {to te : TE} {id : String} {name : Str} {apos pos : Pos} {r : V → List V → Hp → VK → Prop} (slot : Slot "str" name id) (ty : typeOf (.builtin id) = pure (.type "method_descriptor")) (rule : MtR X id r) (ho : PE X o to) (he : PET X e te)
    (hs : starEach [e] X.env = [(false, eval e X.env)] := by rfl) (hbase : attributeBase o name X.env (eval o X.env) = eval o X.env := by rfl) (hline : (apos.endLine == pos.line) = true := by rfl) :
    PET X (.Call (.Attribute o name apos) [e] [] pos) (tM1 r to te) := by
  intro pins s σ H Q h0 I h
  refine PySem.Call_method1 hbase hs hline (wpAny_with_toks h0 (wpAny_mono (ho.run pins s σ H _ I h) (fun v s1 q hk => ?_) fun _ _ z _ => z))
  obtain ⟨x, H1, I1, r1, q1⟩ := q
  obtain ⟨⟨a, rfl⟩, q1⟩ := q1
  have r1' := r1
  obtain ⟨t, rfl⟩ := r1'
  refine ⟨"str", _, F.plainAttrs_str, slot, ty, typeIs_str _ _ _, (fun _ e => nomatch e), Calls.callWith_builtin rfl (Calls.evalArgs_plain (Calls.spliced_cons ?_))⟩
  refine thn (he pins s1 σ H1 _ hk I1 q1) fun u s2 q2 => ?_
  obtain ⟨y, H2, I2, r2, q2⟩ := q2
  exact Calls.spliced_nil (rule pins s2 σ H2 _ [y] _ [u] Q I2 r1 (.cons r2 .nil) q2)
/-- f(e, ..), f one's own -/
theorem pet_call {CX : CXT} {k : Nat} {f : Addr} {fd : FuncData} {ps : List Str} {sp : Sp} {dvs : List V} {ds : List Value} {E : XK} {x : Str} {p pos : Pos} {e : Expr} {es : List Expr} {t : TA}
    (F : FnOk X.prog X.w X.K X.mg X.base CX k f fd ps sp) (hr : Room k X.A) (hg : Gl X x) (hm : X.mg x = some (.ref f)) (hk : PySem.W.keepIn X.K (.ref f) = true) (hb : Binds X.K fd ps ds) (hd : Vals dvs ds) (hx : Passes CX X E)
    (ha : PAT X (e :: es) t) (hdb : (x == ("__debug__" : Str)) = false := by decide) (he : starEach (e :: es) X.env = (false, eval e X.env) :: starEach es X.env := by rfl) (hpl : (backTo pos (starEach es X.env)).any (·.1) = false := by rfl) :
    PET X (.Call (.Name x p) (e :: es) [] pos) (tCall sp dvs E t) := by
  intro pins s σ H Q h0 I h
  refine wpAny_Call_Name_kw (ld_glob I hg hm ?_ hdb)
  refine PySem.W.callWith_K (h₀ := X.base) I.ok.mod.kin hk (thn (ha pos pins s σ H _ h0 I h) fun us s1 q => ?_) he hpl
  obtain ⟨vs, H1, I1, r, q⟩ := q
  exact ⟨I1.kIn, run_fn F hr hb hd hx I1 r q⟩
/-- the clause's loop with a token out: one turn after the other -/
theorem lc_coreT {pins : List (Addr × Obj)} {s : Shared} {σ : L2.St} {H : Hp} {Q : VK} {elt tg iter : Expr} {scope : Scope} {own : List (Str × Nat)} {pos pos' : Pos} {wi : TI} {g : TG} {te : TE} {Qf : Value → Shared → Prop} (h0 : 1 ≤ s.toks)
    (hc : X.calm = true) (hN : X.N.Nodup) (I : Inv X pins σ H s) (hi : PI X tg iter wi) (ok : BlkOk X.N X.env.scope scope own)
    (hg : ∀ (s : Shared) (H : Hp) (C : Addr) (cl : List (Str × Addr)) (fp : List Addr), PG (X.blk s H scope (compEnvC scope cl C X.env) fp) tg g)
    (he : ∀ (s : Shared) (H : Hp) (C : Addr) (cl : List (Str × Addr)) (fp : List Addr), PET (X.blk s H scope (compEnvC scope cl C X.env) fp) elt te) (hs : ∀ x, foldedSetIterable iter X.env x = pure x)
    (h : tLc wi g tYes te (own.map (·.2)) σ H Q)
    (hRR : ∀ D C s' m H', Inv X pins σ H' s' → Q (.ref D) H' → s'.heap.Ns C m → FpOk X pins H' C → compPost (model X.prog X.w) X.A X.xe none Qf (.ref D) C (.ok .next) s') :
    wpAny (model X.prog X.w) X.A (comprehension (.ListComp elt [⟨tg, iter, [], 0⟩] scope pos) scope X.env pos' (newList []) false (eval iter X.env) none) Qf X.xe s := by
  have hfree : ∀ y ∈ scope.names, y.2 = .free → ∃ c, X.env.cells.lookup y.1 = some c := fun y hy e =>
    (ok.free y hy e).elim (fun k => I.ok.has _ (.inl k)) fun k => I.ok.has _ (.inr k)
  refine wpAny_comprehension_free (use := none) rfl hs (closure_ok hfree) ok.kind (fun y hy e => (ok.uniq y hy).trans (congrArg some e)) ?_
  refine wpAny_with_toks h0 (wpAny_mono (hi.run pins s σ H _ I h) (fun xv s1 hx k1 => ?_) fun _ _ z _ => z)
  refine wpAny_with_toks k1 (wpAny_mono hx (fun itv s2 h2 k2 => ?_) fun _ _ z _ => z)
  obtain ⟨it, fp, tn, J, H2, rfl, I2, T, st2, f2, q⟩ := h2
  refine wpAny_newObj_type (newEnv_comp ?_) (by show 0 ≤ sizeLine; decide)
  generalize hD : s2.heap.objs.size = D
  have hDn : H2 D = none := I2.hok.fresh (Nat.le_of_eq hD)
  obtain ⟨W, ⟨m0, w0⟩, turn⟩ := q D hDn
  -- a new list stands at D
  generalize hs3 : ({ s2 with heap := s2.heap.push { cls := .type "list", data := .seq ([] : List Value).toArray } } : Shared) = s3
  have t3 : s3.toks = s2.toks := by rw [← hs3]
  have h3 : s3.heap = s2.heap.push { cls := .type "list", data := .seq ([] : List Value).toArray } := by rw [← hs3]
  have old : ∀ b o, s2.heap.get? b = some o → s3.heap.get? b = some o := fun b o e => by rw [h3]; exact Heap.get?_push_of_some _ e
  have I3 : Inv X pins σ (upd H2 D (.lst [])) s3 := by
    rw [← hs3]
    refine I2.laid (t' := s2.toks) (fun b o e => Heap.get?_push_of_some _ e) (Nat.le_of_eq hD) ⟨Nat.zero_le _, [], 0, .nil, ?_⟩
    rw [← hD]; exact Heap.get?_push_size _ rfl
  have f3 : ∀ b ∈ fp, FpOk X pins (upd H2 D (.lst [])) b ∧ b < s3.heap.objs.size := fun b hb => by
    obtain ⟨o, e, _⟩ := T.obj _ _ st2 b hb
    have hlt := Heap.lt_size e
    have hne : b ≠ D := by rw [← hD]; exact Nat.ne_of_lt hlt
    exact ⟨⟨(upd_ne hne).trans (f2 b hb).1, (f2 b hb).2⟩, by rw [h3, Heap.size_push]; exact Nat.lt_succ_of_lt hlt⟩
  have st3 : tn 0 s3.heap := T.keep _ _ _ st2 fun b _ o e => old b o e
  have I4 := block_start I3 ok hN f3
  have pg := hg s3 (upd H2 D (.lst [])) s3.heap.objs.size (cellsFrom (s3.heap.objs.size + 1) scope.names (cloFrom X.env.cells scope.names [])) fp
  have pe := he s3 (upd H2 D (.lst [])) s3.heap.objs.size (cellsFrom (s3.heap.objs.size + 1) scope.names (cloFrom X.env.cells scope.names [])) fp
  show codeAny _ _ (.compStart (.ListComp elt [⟨tg, iter, [], 0⟩] scope pos) 0 (.ref it) (.ref D) (compEnvC scope (cellsFrom (s3.heap.objs.size + 1) scope.names (cloFrom X.env.cells scope.names [])) s3.heap.objs.size X.env)) (compPost (model X.prog X.w) X.A X.xe none Qf (.ref D) s3.heap.objs.size) { s3 with heap := pushCells (s3.heap.push { cls := .type "dict", data := .dict #[] }) scope.names }
  have nfp : ∀ b ∈ fp, (upd H2 D (.lst [])) b = none := fun b hb => (f3 b hb).1.1
  generalize hce : compEnvC scope (cellsFrom (s3.heap.objs.size + 1) scope.names (cloFrom X.env.cells scope.names [])) s3.heap.objs.size X.env = ce at I4 pg pe ⊢
  have cL : ce.locals = s3.heap.objs.size := by subst hce; rfl
  generalize hH3 : upd H2 D (.lst []) = H3 at I3 I4 pg pe w0 nfp f3
  have t4 : ({ s3 with heap := pushCells (s3.heap.push { cls := .type "dict", data := .dict #[] }) scope.names } : Shared).toks = s3.toks := rfl
  generalize hs4 : ({ s3 with heap := pushCells (s3.heap.push { cls := .type "dict", data := .dict #[] }) scope.names } : Shared) = s4 at I4 t4 ⊢
  have st4 : tn 0 s4.heap := T.keep _ _ _ st3 fun b _ o e => by rw [← hs4]; exact pushCells_keeps _ _ _ _ (Heap.get?_push_of_some _ e)
  have stat : ∀ {σ' : L2.St} {H' : Hp} {s' : Shared}, Inv (X.blk s3 H3 scope ce fp) [] σ' H' s' → (∀ b ∈ fp, H' b = none) → ∀ b ∈ fp, FpOk (X.blk s3 H3 scope ce fp) [] H' b := fun {σ' H' s'} J' hn b hb =>
    ⟨hn b hb, (J'.ok.exf b hb).1, J'.ok.exfs b hb, .inl hb, fun x c e => (J'.ok.exf b hb).2 x c e, fun p hp => absurd (show p ∈ ([] : List (Addr × Obj)) ++ [] from hp) (by simp)⟩
  let Z : Nat → Shared → Prop := fun n s' => 1 ≤ s'.toks ∧ ∃ i H', Inv (X.blk s3 H3 scope ce fp) [] (wipe σ (own.map (·.2))) H' s' ∧ tn i s'.heap ∧ (∀ b ∈ fp, H' b = none) ∧ W i n H'
  have loop : codeAny (model X.prog X.w) X.A (.compLoop (.ListComp elt [⟨tg, iter, [], 0⟩] scope pos) 0 (.ref it) (.ref D) ce) (compPost (model X.prog X.w) X.A X.xe none Qf (.ref D) s3.heap.objs.size) s4 := by
    refine compLoop_any Z ?_ m0 ⟨by omega, 0, H3, I4, st4, nfp, w0⟩
    rintro n s5 ⟨k5, i, H5, I5, st5, n5, w5⟩
    rcases turn i n H5 w5 with ⟨stop, qq⟩ | ⟨go, Nx, hNx, step⟩
    · have td := T.done (X.blk s3 H3 scope ce fp) rfl rfl rfl hc i [] s5 _ H5 (fun _ _ => False) I5 (stat I5 n5) st5 stop
      refine thnF td fun r s6 w6 => ?_
      obtain ⟨rfl, I6⟩ := w6
      have I7 : Inv X pins σ H5 s6 := I3.call' (ch := fp) I6.os I6.base I6.hok I6.bare fun b hb => ⟨(f3 b hb).1.2.2.2.1, (f3 b hb).1.2.1, (f3 b hb).1.2.2.2.2.1, (f3 b hb).1.2.2.2.2.2⟩
      have nC : H5 s3.heap.objs.size = none := cL ▸ (show H5 ce.locals = none from I6.free)
      obtain ⟨m, hn, _⟩ := I6.loc
      have hn' : s6.heap.Ns s3.heap.objs.size m := cL ▸ (show s6.heap.Ns ce.locals m from hn)
      exact hRR D s3.heap.objs.size s6 m H5 I7 qq hn' (I3.fpOk (Nat.le_refl _) nC)
    · have ti := T.item (X.blk s3 H3 scope ce fp) rfl rfl rfl hc i [] s5 _ H5 (fun _ _ => False) I5 (stat I5 n5) st5 go
      refine wpAny_with_toks k5 (wpAny_mono ti (fun r s6 w6 k6 => ?_) fun _ _ z _ => False.elim z)
      obtain ⟨u, rfl, h6⟩ := w6
      refine wpAny_with_toks k6 (wpAny_mono h6 (fun _ s7 w7 k7 => ?_) fun _ _ z _ => False.elim z)
      obtain ⟨x, H7, I7, r7, y7, st7, n7⟩ := w7
      have I7' := I7.pinned (stat I7 n7) (T.obj _ _ st7)
      refine wpAny_with_toks k7 (wpAny_mono (pg.run _ s7 _ H7 x u _ I7' r7 (step x H7 y7)) (fun _ s8 w8 k8 => ?_) fun _ _ z _ => False.elim z)
      obtain ⟨σ8, H8, I8, hw8, q8⟩ := w8
      have fin : ∀ {s' : Shared} {H' : Hp}, 1 ≤ s'.toks → Inv (X.blk s3 H3 scope ce fp) ([] ++ pinsAt fp s7.heap) σ8 H' s' → Nx H' → ∃ m, m < n ∧ Z m s' := fun {s' H'} ks J' nx => by
        obtain ⟨m', hm, w'⟩ := hNx H' nx
        have pin' : ∀ b ∈ fp, ∀ o, s7.heap.get? b = some o → s'.heap.get? b = some o ∧ H' b = none := fun b hb o e =>
          let z := J'.pin (b, o) (List.mem_append_right _ (List.mem_append_right _ (mem_pinsAt hb e)))
          ⟨z.1, z.2.1⟩
        have hl : (wipe σ (own.map (·.2))).length = σ8.length := (congrArg List.length hw8).symm.trans (wipe_length _ _)
        refine ⟨m', hm, ks, i + 1, H', (J'.unpinned (pins := [])).weak hl (fun j v e => ?_), T.keep _ _ _ st7 fun b hb o e => (pin' b hb o e).1, fun b hb => ?_, w'⟩
        · rw [← hw8] at e
          exact (wipe_some e).1
        · obtain ⟨o, e, _⟩ := T.obj _ _ st7 b hb
          exact (pin' b hb o e).2
      -- no test: the element, then it goes to the list's end
      refine wpAny_tests_nil ?_
      have q9 : te σ8 H8 fun y H4 => ∃ acc, H4 D = some (.lst acc) ∧ acc.length < sizeLine ∧ Nx (upd H4 D (.lst (acc ++ [y]))) := q8
      show wpAny _ _ (eval elt ce) _ _ s8
      refine wpAny_with_toks k8 (wpAny_mono (pe _ s8 σ8 H8 _ k8 I8 q9) (fun z s10 w10 k10 => ?_) fun _ _ z _ => False.elim z)
      obtain ⟨yv, H10, I10, r10, acc, hD10, hz10, nx⟩ := w10
      exact wpAny_with_toks k10 (wpAny_mono (app_ok (X := X.blk s3 H3 scope ce fp) (E := fun _ _ => False) (Q := fun _ s11 => Inv (X.blk s3 H3 scope ce fp) ([] ++ pinsAt fp s7.heap) σ8 (upd H10 D (.lst (acc ++ [yv]))) s11) I10 hD10 hz10 r10 fun s11 I11 => I11) (fun _ s11 J11 k11 => fin k11 J11 nx) fun _ _ z _ => False.elim z)
  exact codeAny_compStart_list loop (T.self X.A 0 _ _ _ st4 loop)
theorem pet_lc {elt tg iter : Expr} {scope : Scope} {own : List (Str × Nat)} {pos : Pos} {wi : TI} {g : TG} {te : TE} (hc : X.calm = true) (hN : X.N.Nodup) (hi : PI X tg iter wi) (ok : BlkOk X.N X.env.scope scope own)
    (hg : ∀ (s : Shared) (H : Hp) (C : Addr) (cl : List (Str × Addr)) (fp : List Addr), PG (X.blk s H scope (compEnvC scope cl C X.env) fp) tg g)
    (he : ∀ (s : Shared) (H : Hp) (C : Addr) (cl : List (Str × Addr)) (fp : List Addr), PET (X.blk s H scope (compEnvC scope cl C X.env) fp) elt te) (hs : ∀ x, foldedSetIterable iter X.env x = pure x := by intro _; rfl) :
    PET X (.ListComp elt [⟨tg, iter, [], 0⟩] scope pos) (tLc wi g tYes te (own.map (·.2))) := by
  intro pins s σ H Q h0 I h
  rw [eval_ListComp]
  refine lc_coreT h0 hc hN I hi ok hg he hs h fun D C s' m H' I' q hn f => ⟨m, hn, fun h'' sb => ?_⟩
  obtain ⟨f0, f1, f2, f3, f4, f5⟩ := f
  exact ⟨.ref D, H', I'.turned (t' := s'.toks) (fun b o hb e => (sb.2 b hb).trans e) f0 f1 f3 f4 f5, rfl, q⟩
end
end ZT
namespace Pl
open PySem L2 TL PySem.StrLaws PySem.Builtin PySem.Builtin.Str
/-- a text of these signs -/
def S (l : List Nat) : Str := ⟨l.toArray⟩
theorem tl_S (l : List Nat) : tl (S l) = l := rfl
theorem S_tl (x : Str) : S (tl x) = x := mk_tl x
theorem S_len (l : List Nat) : (S l).length = l.length := by rw [len_tl, tl_S]
theorem ofS {s : Str} {l : List Nat} (h : tl s = l) : s = S l := by rw [← h, S_tl]
theorem from_nat {n i : Nat} : fromIndex n (i : Int) = i := by
  unfold fromIndex
  rw [if_neg (by omega)]
  omega
theorem getD_S {L : List Nat} {v c : Nat} (h : L[v]? = some c) : (S L).cps.getD v 0 = c := getD_of_getElem? h
/-- one sign is looked for, from a place on -/
theorem find3_S (L : List Nat) (c i : Nat) : (Txt.find3 (S L) (S [c]) (i : Int) = -1 ∧ ∀ v, i ≤ v → L[v]? ≠ some c) ∨
    ∃ k : Nat, Txt.find3 (S L) (S [c]) (i : Int) = (k : Int) ∧ i ≤ k ∧ L[k]? = some c ∧ ∀ v, i ≤ v → v < k → L[v]? ≠ some c := by
  rcases find3_spec (S L) c (i : Int) with ⟨h, hn⟩ | ⟨k, h, h1, h2, h3, hn⟩
  · refine .inl ⟨h, fun v hv e => ?_⟩
    have hlt := (List.getElem?_eq_some_iff.mp e).1
    exact hn v (by rw [from_nat]; exact hv) (by rw [S_len]; exact hlt) (getD_S e)
  · rw [from_nat] at h1
    refine .inr ⟨k, h, h1, getElem?_of_getD h2 h3, fun v hv hk e => ?_⟩
    exact hn v (by rw [from_nat]; exact hv) hk (getD_S e)
theorem occ_head_to (x y : Str) (lo hi limit : Nat) (hl : 1 ≤ limit) :
    (occurrences x y lo hi limit = [] ∧ ∀ i, lo ≤ i → ¬ At x y hi i) ∨
    ∃ i r, occurrences x y lo hi limit = i :: r ∧ lo ≤ i ∧ At x y hi i ∧ ∀ k, lo ≤ k → k < i → ¬ At x y hi k := by
  rw [occ_eq]
  rcases occ_first x y hi limit hl (List.range' lo (hi + 1 - lo)) lo (fun i hi => (List.mem_range'_1.mp hi).1) with ⟨h0, hn⟩ | ⟨pre, a, post, e, h0, ha, hn⟩
  · exact .inl ⟨by rw [h0], fun i hlo hi' => hn i (List.mem_range'_1.mpr ⟨hlo, by have := hi'.1; omega⟩) hi'⟩
  · obtain ⟨q1, q2⟩ := range'_split_from e
    generalize (forIn (List.range' lo (hi + 1 - lo)) ((#[] : Array Nat), lo) (occBody x y hi limit)).run.fst = arr at h0
    have h1 : arr.toList[0]? = some a := by simpa using h0
    cases hL : arr.toList with
    | nil => rw [hL] at h1; cases h1
    | cons b t =>
      rw [hL] at h1
      have hb : b = a := by simpa using h1
      exact .inr ⟨a, t, by rw [hb], q1, ha, fun k k0 k1 => hn k (q2 k k0 k1)⟩
theorem at_one {L : List Nat} {c hi v : Nat} (hh : hi ≤ L.length) : At (S L) (S [c]) hi v ↔ v < hi ∧ L[v]? = some c := by
  have e1 : (S [c]).length = 1 := rfl
  have h := subAt_one (S L) c v
  constructor
  · intro q
    have hlt : v + 1 ≤ hi := q.1
    exact ⟨by omega, h.mp ⟨by show v + 1 ≤ (S L).length; rw [S_len]; omega, q.2⟩⟩
  · rintro ⟨q1, q2⟩
    exact ⟨by show v + 1 ≤ hi; omega, (h.mpr q2).2⟩
theorem find4_S (L : List Nat) (c i j : Nat) (hj : j ≤ L.length) : (Txt.findIn (S L) (S [c]) (i : Int) (j : Int) = -1 ∧ ∀ v, i ≤ v → v < j → L[v]? ≠ some c) ∨
    ∃ k : Nat, Txt.findIn (S L) (S [c]) (i : Int) (j : Int) = (k : Int) ∧ i ≤ k ∧ k < j ∧ L[k]? = some c ∧ ∀ v, i ≤ v → v < k → L[v]? ≠ some c := by
  have ej : toIndexW (S L).length (j : Int) = j := by
    unfold toIndexW
    rw [S_len, if_neg (by omega)]
    omega
  unfold Txt.findIn
  rw [from_nat, ej]
  rcases occ_head_to (S L) (S [c]) i j 1 (Nat.le_refl _) with ⟨h0, hn⟩ | ⟨k, r, h0, hlo, hk, hn⟩
  · rw [h0]
    exact .inl ⟨rfl, fun v h1 h2 e => hn v h1 ((at_one hj).mpr ⟨h2, e⟩)⟩
  · rw [h0]
    obtain ⟨k1, k2⟩ := (at_one hj).mp hk
    exact .inr ⟨k, rfl, hlo, k1, k2, fun v h1 h2 e => hn v h1 h2 ((at_one hj).mpr ⟨by omega, e⟩)⟩
theorem dig_ascii : ∀ c, c < 128 → Unicode.isDigit c = decide (dig c) := by decide +kernel
/-- a cut of a text -/
theorem cut_S (L : List Nat) (i j : Nat) (hi : i ≤ L.length) (hj : j ≤ L.length) : cutS (S L) (some (i : Int)) (some (j : Int)) = S ((L.drop i).take (j - i)) := by
  unfold cutS
  rw [S_len, HT.sIx_nat, HT.sIx_nat, Nat.min_eq_left hi, Nat.min_eq_left hj]
  rfl
theorem cut_S' (L : List Nat) (i j : Nat) : cutS (S L) (some (i : Int)) (some (j : Int)) = S ((L.drop (min i L.length)).take (min j L.length - min i L.length)) := by
  unfold cutS
  rw [S_len, HT.sIx_nat, HT.sIx_nat]
  rfl
theorem cut_from (L : List Nat) (i : Nat) (hi : i ≤ L.length) : cutS (S L) (some (i : Int)) none = S (L.drop i) := by
  unfold cutS
  rw [S_len, HT.sIx_nat, HT.sIx_none, Nat.min_eq_left hi]
  show S ((L.drop i).take (L.length - i)) = _
  rw [List.take_of_length_le (by rw [List.length_drop]; omega)]
/-- the sign at a place, as a text -/
def sgn (L : List Nat) (i : Nat) : List Nat := match L[i]? with | some c => [c] | none => []
theorem cut_one (L : List Nat) (i : Nat) : cutS (S L) (some (i : Int)) (some ((i : Int) + 1)) = S (sgn L i) := by
  have e : ((i : Int) + 1) = ((i + 1 : Nat) : Int) := by omega
  rw [e, cut_S']
  congr 1
  unfold sgn
  by_cases h : i < L.length
  · rw [Nat.min_eq_left (by omega), Nat.min_eq_left (by omega), List.getElem?_eq_getElem h, List.drop_eq_getElem_cons h]
    have : i + 1 - i = 1 := by omega
    rw [this]
    rfl
  · rw [List.getElem?_eq_none (by omega), Nat.min_eq_right (by omega), Nat.min_eq_right (by omega), Nat.sub_self]
    rfl
theorem isdigit_S (l : List Nat) (ha : ∀ c ∈ l, c < 128) : Txt.isdigit (S l) = (decide (l ≠ []) && l.all fun c => decide (dig c)) := by
  unfold Txt.isdigit
  rw [S_len]
  have e : (S l).cps.all Unicode.isDigit = l.all fun c => decide (dig c) := by
    show l.toArray.all Unicode.isDigit = _
    rw [List.all_toArray]
    rw [Bool.eq_iff_iff, List.all_eq_true, List.all_eq_true]
    constructor
    · intro h c hc; rw [← dig_ascii c (ha c hc)]; exact h c hc
    · intro h c hc; rw [dig_ascii c (ha c hc)]; exact h c hc
  rw [e]
  congr 1
  cases l <;> simp
end Pl
namespace Ev
open PySem PySem.Spec PyProof.Rows L2 Z
abbrev St := L2.St
def top (i : Nat) : Stmt := PySem.Challenge.pw_evenhour_k26_plain_there_and_back.main.body.getD i (.Pass ⟨0, 0, 0, 0⟩)
abbrev S_law_cell : Stmt := top 13
abbrev S_law_digits : Stmt := top 14
abbrev S_law_draw : Stmt := top 15
/-- what the module's names hold -/
structure Txt (K : PySem.W.Frag) (mg : Str → Option Value) : Prop where
  z_len : mg "len" = none
  z_range : mg "range" = none
  z_int : mg "int" = none
  z_str : mg "str" = none
  z_bool : mg "bool" = none
  z_tuple : mg "tuple" = none
  z_isinstance : mg "isinstance" = none
section
variable {P : Program} {w : World} {K : PySem.W.Frag} {mg : Str → Option Value} {base : Heap}
local macro_rules | `(tactic| walk_at "ar") => `(tactic| ((try dsimp only); first | decide | omega | exact ⟨by omega, by omega⟩ | exact .inl ⟨by omega, by omega⟩ | exact .inr ⟨by omega, by omega⟩ | (unfold CPow; decide)))
local macro_rules | `(tactic| walk_at "rd1") => `(tactic| first
  | (with_reducible refine Z.r_seq ?_) | (with_reducible refine Z.r_ifS ?_) | (with_reducible refine Z.r_asg ?_) | (with_reducible refine Z.r_ret ?_) | (with_reducible refine Z.r_drop ?_)
  | (with_reducible refine Z.r_op ?_) | ((with_reducible refine Z.r_var (v := ?vv) ?hv ?_); (case hv => exact rfl)) | (with_reducible refine Z.r_c ?_) | (with_reducible refine Z.r_gname ?_)
  | (with_reducible refine Z.r_test ?_) | (with_reducible refine Z.r_b ?_) | (with_reducible refine Z.r_bl ?_) | (with_reducible refine Z.r_cb ?_) | (with_reducible refine Z.r_cons ?_) | (with_reducible refine Z.r_nil ?_)
  | (with_reducible refine Z.r_call ?_) | (with_reducible refine Z.r_not ?_) | (with_reducible refine Z.r_and ?_) | (with_reducible refine Z.r_or ?_) | (with_reducible refine Z.r_if ?_) | (with_reducible refine Z.r_un ?_)
  | (with_reducible refine Z.r_tm0 ?_) | (with_reducible refine Z.r_tm1 ?_) | (with_reducible refine Z.r_sl ?_) | (with_reducible refine Z.r_nopart ?_) | (with_reducible refine Z.r_part ?_) | (with_reducible refine Z.r_ofint ?_)
  | (with_reducible refine Z.r_tup ?_) | (with_reducible refine Z.r_lst ?_)
  | (with_reducible refine Z.r_lc ?_) | (with_reducible refine Z.r_for ?_) | (with_reducible refine Z.r_itup ?_) | (with_reducible refine Z.r_ilst ?_) | (with_reducible refine Z.r_irg1 ?_) | (with_reducible refine Z.r_irg2 ?_) | (with_reducible refine Z.r_fldE ?_) | (with_reducible refine Z.r_meth ?_) | (with_reducible refine Z.r_sfld ?_) | (with_reducible refine Z.r_make ?_) | (with_reducible refine Z.r_tyS ?_) | (with_reducible refine Z.r_gcons ?_) | (with_reducible refine Z.r_gnil ?_) | ((with_reducible refine Z.r_aug (x := ?xx) ?ha ?_); (case ha => exact rfl)) | (with_reducible refine Z.r_ip ?_) | (with_reducible refine Z.r_chain ?_)
  | (with_reducible refine Z.r_gsub ?_) | (with_reducible refine Z.r_bm ?_) | (with_reducible refine Z.r_bm0 ?_)
  | ((with_reducible refine Z.r_i ?hc ?_); (case hc => walk_at "ar"))
  | (with_reducible refine Z.RAdd.int ?_) | (with_reducible refine Z.r_i0 ?_) | (with_reducible refine Z.RLt.int ?_) | (with_reducible refine Z.RGt.int ?_) | (with_reducible refine Z.r_isN ?_) | (with_reducible refine Z.r_isB ?_) | (with_reducible refine Z.r_repl ?_) | (with_reducible refine Z.r_ofstr ?_) | (with_reducible refine Z.r_isstr ?_) | (with_reducible refine Z.r_ofref ?_) | (with_reducible refine Z.RInt.int ?_)
  | (with_reducible refine Z.r_next ?_) | (with_reducible refine Z.r_brk ?_) | (with_reducible refine Z.r_cont ?_) | (with_reducible refine Z.r_retN ?_) | (with_reducible refine Z.r_truB ?_) | (with_reducible refine Z.r_tru ?_) | (with_reducible refine Z.r_andV ?_) | (with_reducible refine Z.r_orV ?_) | (with_reducible refine Z.r_notV ?_))
local macro_rules | `(tactic| walk_at "rd") => `(tactic| (repeat walk_at "rd1"))
local macro_rules | `(tactic| walk_at "br") => `(tactic| first | refine Z.ite_t (by first | rfl | assumption | decide) ?_ | refine Z.ite_f (by first | rfl | assumption | decide) ?_)
local macro_rules | `(tactic| walk_at "isi") => `(tactic| first | ((with_reducible refine Z.isi_bool (d := ?dd) ?hi ?_); (case hi => assumption)) | ((with_reducible refine Z.isi_int (d := ?dd) ?hi ?_); (case hi => assumption)) | ((with_reducible refine Z.isi_str (d := ?dd) ?hi ?_); (case hi => assumption)) | ((with_reducible refine Z.isi_tuple (d := ?dd) ?hi ?_); (case hi => assumption)))
local macro_rules | `(tactic| walk_at "go") => `(tactic| (repeat (first | walk_at "rd1" | walk_at "isi" | walk_at "br")))
local macro_rules | `(tactic| walk_at "k") => `(tactic| dsimp only [cxOf, Cx.nox, Cx.wish])
theorem sc_law_cell : FnScope ["script", "k"] ["script", "k"] (defScope S_law_cell) := ⟨rfl, rfl, rfl, by decide +kernel, rfl, by decide +kernel, by decide +kernel⟩
theorem sc_law_digits : FnScope ["script", "first", "last", "digits", "k", "cell", "turn", "seed"] ["script", "first", "last"] (defScope S_law_digits) := ⟨rfl, rfl, rfl, by decide +kernel, rfl, by decide +kernel, by decide +kernel⟩
theorem sc_law_draw : FnScope ["box", "many", "at"] ["box", "many"] (defScope S_law_draw) := ⟨rfl, rfl, rfl, by decide +kernel, rfl, by decide +kernel, by decide +kernel⟩
/-- a cell of the script -/
def cell (ns : List Int) (k : Int) : Int := ns.getD k.toNat 0
def spCell (K : PySem.W.Frag) : Sp := fun vs H Q _ => ∃ (a : Addr) (ns : List Int) (k : Int), vs = [.ref a, .int k] ∧ SqL K H a (ns.map V.int) ∧ 0 ≤ k ∧ Q (.int (cell ns k)) H
theorem at_int {ns : List Int} {k : Int} (h0 : 0 ≤ k) (h : k < ns.length) : atI (ns.map V.int) k = some (.int (cell ns k)) := by
  have e : k = ((k.toNat : Nat) : Int) := by omega
  have hk : k.toNat < ns.length := by omega
  have q : atI (ns.map V.int) ((k.toNat : Nat) : Int) = some (.int ns[k.toNat]) := atI_nat (by rw [List.getElem?_map, List.getElem?_eq_getElem hk]; rfl)
  rw [← e] at q
  rw [q]
  unfold cell
  rw [List.getD_eq_getElem?_getD, List.getElem?_eq_getElem hk]
  rfl
theorem ok_law_cell {f : Addr} {fd : FuncData} (F : Fun K "_law_cell" "_law_cell" S_law_cell f fd) (T : Txt K mg) : FnOk P w K mg base CX0 1 f fd ["script", "k"] (spCell K) := by
  refine F.ok sc_law_cell (fun vs H Q E h => ?_) (fun cdv A outer s H vs Q E hr h => ?_)
  · obtain ⟨a, ns, k, rfl, _⟩ := h
    rfl
  obtain ⟨a, ns, k, rfl, hS, h0, q⟩ := h
  refine ⟨_, (pss_cons (ps_if (pt_cmpR op_ltA (pv 1) (pe_callB call_lenA (by rfl) T.z_len Z.b_len (pa_cons (pv 0) pa_nil)) (nomark _))
   (pss_one (ps_ret (pe_ix ix_all (pv 0) (pv 1) (fun _ _ => rfl))))
   pss_nil)
  (pss_one (ps_ret pe_int))), ?_⟩
  walk_at "rd"
  refine .lst hS ?_
  walk_at "rd"
  rw [List.length_map]
  refine r_ite (fun c => ?_) (fun c => ?_)
  · walk_at "rd"
    exact .lst hS (at_int h0 (of_decide_eq_true c)) q
  · walk_at "rd"
    have c' : ¬ k < (ns.length : Int) := of_decide_eq_false c
    have e : cell ns k = 0 := by
      unfold cell
      rw [List.getD_eq_getElem?_getD, List.getElem?_eq_none (by omega)]
      rfl
    rw [e] at q
    exact q

/-- the digits' list and the next place -/
structure Box (H : Hp) (b d : Addr) (at_ : Int) : Prop where
  bx : H b = some (.lst [.ref d, .int at_])
  dg : ∃ ds : List Int, H d = some (.lst (ds.map V.int))
  at0 : 0 ≤ at_
theorem Box.ne {H : Hp} {b d : Addr} {at_ : Int} (h : Box H b d at_) : b ≠ d := fun e => by
  obtain ⟨ds, q⟩ := h.dg
  have h1 := h.bx
  rw [e, q] at h1
  injection h1 with h1
  injection h1 with h1
  cases ds with
  | nil => cases h1
  | cons a r => injection h1 with h1 _; cases h1
theorem Box.next {H : Hp} {b d : Addr} {at_ : Int} (h : Box H b d at_) : Box (upd H b (.lst [.ref d, .int (at_ + 1)])) b d (at_ + 1) := by
  obtain ⟨ds, q⟩ := h.dg
  exact ⟨upd_same, ⟨ds, by rw [upd_ne h.ne.symm]; exact q⟩, by have := h.at0; omega⟩
theorem Box.same {H H' : Hp} {b d : Addr} {at_ : Int} (s : Same H H') (h : Box H b d at_) : Box H' b d at_ := by
  obtain ⟨ds, q⟩ := h.dg
  exact ⟨s _ _ h.bx, ⟨ds, s _ _ q⟩, h.at0⟩
def spDraw : Sp := fun vs H Q _ => ∃ (b d : Addr) (at_ m : Int), vs = [.ref b, .int m] ∧ Box H b d at_ ∧ 0 < m ∧ ∀ r : Int, 0 ≤ r → r < m → Q (.int r) (upd H b (.lst [.ref d, .int (at_ + 1)]))
theorem ok_law_draw {f : Addr} {fd : FuncData} (F : Fun K "_law_draw" "_law_draw" S_law_draw f fd) (T : Txt K mg) : FnOk P w K mg base CX0 1 f fd ["box", "many"] spDraw := by
  refine F.ok sc_law_draw (fun vs H Q E h => ?_) (fun cdv A outer s H vs Q E hr h => ?_)
  · obtain ⟨b, d, at_, m, rfl, _⟩ := h
    rfl
  obtain ⟨b, d, at_, m, rfl, B, hm, q⟩ := h
  have B' := B.next
  obtain ⟨ds, hd⟩ := B'.dg
  refine ⟨_, (pss_cons (ps_set (i := 2) sc_law_draw.nd rfl (Or.inl rfl) (pe_ix ix_all (pv 0) pe_int (fun _ _ => rfl)))
  (pss_cons (ps_asg (pe_op op_addA (pv 2) pe_int) (pg_sub (pv 0) pe_int set_list))
  (pss_cons (ps_if (pt_cmpR op_ltA (pv 2) (pe_callB call_lenA (by rfl) T.z_len Z.b_len (pa_cons (pe_ix ix_all (pv 0) pe_int (fun _ _ => rfl)) pa_nil)) (nomark _))
   (pss_one (ps_ret (pe_op op_mod (pe_callTy call_intA (by rfl) T.z_int Z.b_int (pa_cons (pe_ix ix_all (pe_ix ix_all (pv 0) pe_int (fun _ _ => rfl)) (pv 2) (fun _ _ => rfl)) pa_nil)) (pv 1))))
   pss_nil)
  (pss_one (ps_ret (pe_op op_mod (pe_callTy call_intA (by rfl) T.z_int Z.b_int (pa_cons (pe_op op_mul (pv 2) pe_int) pa_nil)) (pv 1))))))), ?_⟩
  walk_at "rd"
  refine .lst (SqL.of B.bx) (v := .int at_) rfl ?_
  walk_at "rd"
  refine r_setL (j := 1) B.bx rfl ?_
  walk_at "rd"
  refine .lst (SqL.of B'.bx) (v := .ref d) rfl (.lst (SqL.of hd) ?_)
  walk_at "rd"
  rw [List.length_map]
  refine r_ite (fun c => ?_) (fun c => ?_)
  · walk_at "rd"
    refine .lst (SqL.of B'.bx) (v := .ref d) rfl ?_
    walk_at "rd"
    refine .lst (SqL.of hd) (at_int B.at0 (of_decide_eq_true c)) ?_
    walk_at "rd"
    exact q _ (Int.emod_nonneg _ (by omega)) (Int.emod_lt_of_pos _ hm)
  · walk_at "rd"
    exact q _ (Int.emod_nonneg _ (by omega)) (Int.emod_lt_of_pos _ hm)

/-- digits: all from 0 to 999 -/
def Dig (ds : List Int) : Prop := ∀ z ∈ ds, 0 ≤ z ∧ z < 1000
theorem Dig.snoc {ds : List Int} {z : Int} (h : Dig ds) (h0 : 0 ≤ z) (h1 : z < 1000) : Dig (ds ++ [z]) := fun y hy => by
  rcases List.mem_append.mp hy with hy | hy
  · exact h y hy
  · rw [List.mem_singleton.mp hy]; exact ⟨h0, h1⟩
theorem small1000' {n : Nat} (h : n ≤ 100000) : n < sizeLine := Nat.lt_of_le_of_lt h (by decide)
def spDigits (K : PySem.W.Frag) : Sp := fun vs H Q _ => ∃ (a : Addr) (ns : List Int) (i j : Int), vs = [.ref a, .int i, .int j] ∧ SqL K H a (ns.map V.int) ∧ 0 ≤ i ∧ j ≤ 1000 ∧ 0 ≤ j ∧ i ≤ 1000 ∧
  ∀ (p : Addr) (H' : Hp) (ds : List Int), Same H H' → H p = none → H' p = some (.lst (ds.map V.int)) → Dig ds → ds.length ≤ 1600 → Q (.ref p) H'
theorem map_snoc (ds : List Int) (z : Int) : ds.map V.int ++ [V.int z] = (ds ++ [z]).map V.int := by simp
theorem ok_law_digits {f g : Addr} {fd gd : FuncData} (F : Fun K "_law_digits" "_law_digits" S_law_digits f fd) (T : Txt K mg) (G_law_cell : Gd P w K mg base CX0 1 "_law_cell" g gd ["script", "k"] (spCell K)) : FnOk P w K mg base CX0 2 f fd ["script", "first", "last"] (spDigits K) := by
  refine F.ok sc_law_digits (fun vs H Q E h => ?_) (fun cdv A outer s H vs Q E hr h => ?_)
  · obtain ⟨a, ns, i, j, rfl, _⟩ := h
    rfl
  obtain ⟨a, ns, i, j, rfl, hS, h0, h1, h2, h3, q⟩ := h
  refine ⟨_, (pss_cons (ps_set (i := 3) sc_law_digits.nd rfl (Or.inl rfl) (pe_lst pa_nil))
  (pss_cons (ps_for PassesOwn.never rfl (pi_range2 (by rfl) T.z_range (pa_cons (pv 1) (pa_cons (pv 2) pa_nil))) (pg_name (i := 4) sc_law_digits.nd rfl (Or.inl rfl))
   (pss_cons (ps_if (pt_cmpR op_gtA (pe_callB call_lenA (by rfl) T.z_len Z.b_len (pa_cons (pv 3) pa_nil)) pe_int (nomark _))
   (pss_one ps_break)
   pss_nil)
  (pss_cons (ps_set (i := 5) sc_law_digits.nd rfl (Or.inl rfl) (pc G_law_cell (hr.mono (by decide)) (pa_cons (pv 0) (pa_cons (pv 4) pa_nil))))
  (C8.pss_cut (ps_if (pt_cmpR op_ltA (pv 5) pe_int (nomark _))
   (pss_one (ps_set (i := 5) sc_law_digits.nd rfl (Or.inl rfl) (pe_op op_sub pe_int (pe_op op_mul pe_int (pv 5)))))
   pss_nil)
  (pss_one (ps_if (pt_cmpR op_ge (pv 5) (pe_op op_pow pe_int pe_int) (nomark _))
   (pss_one (ps_for PassesOwn.never rfl (pi_range1 (by rfl) T.z_range (pa_cons pe_int pa_nil)) (pg_name (i := 6) sc_law_digits.nd rfl (Or.inl rfl))
   (pss_one (ps_if (pt_cmpR op_gtA (pv 5) pe_int (nomark _))
   (pss_cons (ps_expr (pe_bm PySem.F.plainAttrs_list PySem.F.slot_list_append PySem.F.type_list_append mt_append (pv 3) (pa_cons (pe_op op_mod (pe_callTy call_intA (by rfl) T.z_int Z.b_int (pa_cons (pv 5) pa_nil)) pe_int) pa_nil)))
  (pss_one (ps_set (i := 5) sc_law_digits.nd rfl (Or.inl rfl) (pe_op op_fdiv (pv 5) pe_int))))
   pss_nil))))
   (pss_cons (ps_set (i := 7) sc_law_digits.nd rfl (Or.inl rfl) (pe_op op_mod (pe_callTy call_intA (by rfl) T.z_int Z.b_int (pa_cons (pe_op op_addA (pe_op op_addA (pe_op op_mul (pv 5) pe_int) (pe_op op_mul (pv 4) pe_int)) pe_int) pa_nil)) pe_int))
  (pss_one (ps_for PassesOwn.never rfl (pi_range1 (by rfl) T.z_range (pa_cons pe_int pa_nil)) (pg_name (i := 6) sc_law_digits.nd rfl (Or.inl rfl))
   (pss_cons (ps_set (i := 7) sc_law_digits.nd rfl (Or.inl rfl) (pe_op op_mod (pe_callTy call_intA (by rfl) T.z_int Z.b_int (pa_cons (pe_op op_addA (pe_op op_addA (pe_op op_mul (pv 7) pe_int) (pe_op op_mul pe_int (pv 6))) pe_int) pa_nil)) pe_int))
  (pss_one (ps_expr (pe_bm PySem.F.plainAttrs_list PySem.F.slot_list_append PySem.F.type_list_append mt_append (pv 3) (pa_cons (pe_op op_mod (pe_callTy call_intA (by rfl) T.z_int Z.b_int (pa_cons (pe_op op_fdiv (pv 7) pe_int) pa_nil)) pe_int) pa_nil))))))))))))))
  (pss_one (ps_ret (pv 3))))), ?_⟩
  walk_at "rd"
  refine ⟨by show 0 ≤ sizeLine; decide, fun p hp => ?_⟩
  walk_at "rd"
  -- for k in range(first, last)
  have s0 : Same H (upd H p (.lst [])) := same_new hp
  refine ⟨i, j, rfl, ⟨by omega, by omega, by omega, by omega⟩, for_range (lo := i) (n := (j - i).toNat)
    (fun n σ H' => ∃ (x1 x2 x3 x4 : Option V) (ds : List Int), σ = [some (.ref a), some (.int i), some (.int j), some (.ref p), x1, x2, x3, x4] ∧ Same H H' ∧ H' p = some (.lst (ds.map V.int)) ∧ Dig ds ∧ ds.length ≤ 1600)
    ⟨none, none, none, none, [], rfl, s0, upd_same, (fun _ h => nomatch h : Dig []), by decide⟩ ?_ ?_⟩
  · rintro n σ H1 hn ⟨x1, x2, x3, x4, ds, rfl, s1, e1, hd, hl⟩
    walk_at "rd"
    refine .lst (SqL.of e1) ?_
    walk_at "rd"
    rw [List.length_map]
    refine r_ite (fun c => ?_) (fun c => ?_)
    · walk_at "rd"
      exact q p H1 ds s1 hp e1 hd hl
    have c' : ds.length ≤ 1500 := by
      have := of_decide_eq_false c
      omega
    walk_at "rd"
    refine ⟨a, ns, i + n, rfl, s1.seq hS, by omega, ?_⟩
    walk_at "rd"
    refine ⟨fun σ' H' => ∃ z : Int, 0 ≤ z ∧ σ' = [some (.ref a), some (.int i), some (.int j), some (.ref p), some (.int (i + n)), some (.int z), x3, x4] ∧ H' = H1, ?_, ?_⟩
    · walk_at "rd"
      refine r_ite (fun c => ?_) (fun c => ?_)
      · walk_at "rd"
        exact ⟨_, by have := of_decide_eq_true c; omega, rfl, rfl⟩
      · walk_at "rd"
        exact ⟨_, by have := of_decide_eq_false c; omega, rfl, rfl⟩
    rintro σ' H' ⟨z, hz, rfl, rfl⟩
    walk_at "rd"
    refine r_ite (fun c => ?_) (fun c => ?_)
    · walk_at "rd"
      refine ⟨60, rfl, by decide, by decide, for_range (lo := 0) (n := 60)
        (fun m σ H2 => ∃ (z : Int) (y3 : Option V) (es : List Int), 0 ≤ z ∧ σ = [some (.ref a), some (.int i), some (.int j), some (.ref p), some (.int (i + n)), some (.int z), y3, x4] ∧ Same H H2 ∧ H2 p = some (.lst (es.map V.int)) ∧ Dig es ∧ es.length ≤ 1500 + m)
        ⟨z, x3, ds, hz, rfl, s1, e1, hd, c'⟩ ?_ ?_⟩
      · rintro m σ H2 hm ⟨z, y3, es, hz, rfl, s2, e2, he, hle⟩
        walk_at "rd"
        refine r_ite (fun c => ?_) (fun c => ?_)
        · walk_at "rd"
          refine r_tyL (SqL.of e2) ?_
          walk_at "rd"
          refine r_app e2 (by rw [List.length_map]; exact small1000' (by omega)) ?_
          walk_at "rd"
          refine ⟨_, _, es ++ [z % 1000], ?_, rfl, same_mut s2 hp, by rw [upd_same, map_snoc], he.snoc (Int.emod_nonneg _ (by decide)) (Int.emod_lt_of_pos _ (by decide)), by rw [List.length_append]; show es.length + 1 ≤ _; omega⟩
          omega
        · walk_at "rd"
          exact ⟨_, _, es, hz, rfl, s2, e2, he, by omega⟩
      · rintro σ H2 ⟨z, y3, es, hz, rfl, s2, e2, he, hle⟩
        exact ⟨_, _, _, _, es, rfl, s2, e2, he, by omega⟩
    · walk_at "rd"
      refine ⟨12, rfl, by decide, by decide, for_range (lo := 0) (n := 12)
        (fun m σ H2 => ∃ (z : Int) (y3 : Option V) (es : List Int) (sd : Int), 0 ≤ z ∧ 0 ≤ sd ∧ sd < 2147483647 ∧ σ = [some (.ref a), some (.int i), some (.int j), some (.ref p), some (.int (i + n)), some (.int z), y3, some (.int sd)] ∧ Same H H2 ∧ H2 p = some (.lst (es.map V.int)) ∧ Dig es ∧ es.length ≤ 1500 + m)
        ⟨z, x3, ds, _, hz, Int.emod_nonneg _ (by decide), Int.emod_lt_of_pos _ (by decide), rfl, s1, e1, hd, c'⟩ ?_ ?_⟩
      · rintro m σ H2 hm ⟨z, y3, es, sd, hz, hs0, hs1, rfl, s2, e2, he, hle⟩
        walk_at "rd"
        refine r_tyL (SqL.of e2) ?_
        walk_at "rd"
        refine r_app e2 (by rw [List.length_map]; exact small1000' (by omega)) ?_
        walk_at "rd"
        refine ⟨_, _, es ++ [_], _, hz, Int.emod_nonneg _ (by decide), Int.emod_lt_of_pos _ (by decide), rfl, same_mut s2 hp, by rw [upd_same, map_snoc], he.snoc (Int.emod_nonneg _ (by decide)) (Int.emod_lt_of_pos _ (by decide)), by rw [List.length_append]; show es.length + 1 ≤ _; omega⟩
      · rintro σ H2 ⟨z, y3, es, sd, hz, hs0, hs1, rfl, s2, e2, he, hle⟩
        exact ⟨_, _, _, _, es, rfl, s2, e2, he, by omega⟩
  · rintro σ H1 ⟨x1, x2, x3, x4, ds, rfl, s1, e1, hd, hl⟩
    walk_at "rd"
    exact q p H1 ds s1 hp e1 hd hl
end
end Ev
namespace Ev
open PySem PySem.Spec PyProof.Rows L2 Z TL Pl
abbrev S_unescaped : Stmt := top 11
abbrev S_Reader___init__ : Stmt := inClass (top 9) 0
abbrev S_Reader_digits_end : Stmt := inClass (top 9) 4
abbrev S_Reader_number : Stmt := inClass (top 9) 3
abbrev S_Reader_quoted : Stmt := inClass (top 9) 5
/-- what the top has made of the class -/
structure TxtR (K : PySem.W.Frag) (mg : Str → Option Value) (C : Addr) : Prop extends Txt K mg where
  cl_Reader : Cls K C
  nP : NoAttr K C "plain"
  nM : NoAttr K C "mask"
  g_Reader : mg "Reader" = some (.ref C)
section
variable {P : Program} {w : World} {K : PySem.W.Frag} {mg : Str → Option Value} {base : Heap} {C : Addr}
local macro_rules | `(tactic| walk_at "ar") => `(tactic| ((try dsimp only); first | decide | omega | exact ⟨by omega, by omega⟩ | exact .inl ⟨by omega, by omega⟩ | exact .inr ⟨by omega, by omega⟩ | (unfold CPow; decide)))
local macro_rules | `(tactic| walk_at "rd1") => `(tactic| first
  | (with_reducible refine Z.r_seq ?_) | (with_reducible refine Z.r_ifS ?_) | (with_reducible refine Z.r_asg ?_) | (with_reducible refine Z.r_ret ?_) | (with_reducible refine Z.r_drop ?_)
  | (with_reducible refine Z.r_op ?_) | ((with_reducible refine Z.r_var (v := ?vv) ?hv ?_); (case hv => exact rfl)) | (with_reducible refine Z.r_c ?_) | (with_reducible refine Z.r_gname ?_)
  | (with_reducible refine Z.r_test ?_) | (with_reducible refine Z.r_b ?_) | (with_reducible refine Z.r_bl ?_) | (with_reducible refine Z.r_cb ?_) | (with_reducible refine Z.r_cons ?_) | (with_reducible refine Z.r_nil ?_)
  | (with_reducible refine Z.r_call ?_) | (with_reducible refine Z.r_not ?_) | (with_reducible refine Z.r_and ?_) | (with_reducible refine Z.r_or ?_) | (with_reducible refine Z.r_if ?_) | (with_reducible refine Z.r_un ?_)
  | (with_reducible refine Z.r_tm0 ?_) | (with_reducible refine Z.r_tm1 ?_) | (with_reducible refine Z.r_sl ?_) | (with_reducible refine Z.r_nopart ?_) | (with_reducible refine Z.r_part ?_) | (with_reducible refine Z.r_ofint ?_)
  | (with_reducible refine Z.r_tup ?_) | (with_reducible refine Z.r_lst ?_)
  | (with_reducible refine Z.r_lc ?_) | (with_reducible refine Z.r_for ?_) | (with_reducible refine Z.r_itup ?_) | (with_reducible refine Z.r_ilst ?_) | (with_reducible refine Z.r_irg1 ?_) | (with_reducible refine Z.r_irg2 ?_) | (with_reducible refine Z.r_fldE ?_) | (with_reducible refine Z.r_meth ?_) | (with_reducible refine Z.r_sfld ?_) | (with_reducible refine Z.r_make ?_) | (with_reducible refine Z.r_tyS ?_) | (with_reducible refine Z.r_gcons ?_) | (with_reducible refine Z.r_gnil ?_) | ((with_reducible refine Z.r_aug (x := ?xx) ?ha ?_); (case ha => exact rfl)) | (with_reducible refine Z.r_ip ?_) | (with_reducible refine Z.r_chain ?_)
  | (with_reducible refine Z.r_gsub ?_) | (with_reducible refine Z.r_bm ?_) | (with_reducible refine Z.r_bm0 ?_)
  | ((with_reducible refine Z.r_i ?hc ?_); (case hc => walk_at "ar"))
  | (with_reducible refine Z.RAdd.int ?_) | (with_reducible refine Z.r_i0 ?_) | (with_reducible refine Z.RLt.int ?_) | (with_reducible refine Z.RGt.int ?_) | (with_reducible refine Z.r_isN ?_) | (with_reducible refine Z.r_isB ?_) | (with_reducible refine Z.r_repl ?_) | (with_reducible refine Z.r_ofstr ?_) | (with_reducible refine Z.r_isstr ?_) | (with_reducible refine Z.r_ofref ?_) | (with_reducible refine Z.RInt.int ?_)
  | (with_reducible refine Z.r_next ?_) | (with_reducible refine Z.r_brk ?_) | (with_reducible refine Z.r_cont ?_) | (with_reducible refine Z.r_retN ?_) | (with_reducible refine Z.r_truB ?_) | (with_reducible refine Z.r_tru ?_) | (with_reducible refine Z.r_andV ?_) | (with_reducible refine Z.r_orV ?_) | (with_reducible refine Z.r_notV ?_))
local macro_rules | `(tactic| walk_at "rd") => `(tactic| (repeat walk_at "rd1"))
local macro_rules | `(tactic| walk_at "br") => `(tactic| first | refine Z.ite_t (by first | rfl | assumption | decide) ?_ | refine Z.ite_f (by first | rfl | assumption | decide) ?_)
local macro_rules | `(tactic| walk_at "isi") => `(tactic| first | ((with_reducible refine Z.isi_bool (d := ?dd) ?hi ?_); (case hi => assumption)) | ((with_reducible refine Z.isi_int (d := ?dd) ?hi ?_); (case hi => assumption)) | ((with_reducible refine Z.isi_str (d := ?dd) ?hi ?_); (case hi => assumption)) | ((with_reducible refine Z.isi_tuple (d := ?dd) ?hi ?_); (case hi => assumption)))
local macro_rules | `(tactic| walk_at "go") => `(tactic| (repeat (first | walk_at "rd1" | walk_at "isi" | walk_at "br")))
local macro_rules | `(tactic| walk_at "k") => `(tactic| dsimp only [cxOf, Cx.nox, Cx.wish])
theorem sc_unescaped : FnScope ["text", "parts", "part"] ["text"] (defScope S_unescaped) := ⟨rfl, rfl, rfl, by decide +kernel, rfl, by decide +kernel, by decide +kernel⟩
theorem sc_Reader___init__ : FnScope ["self", "plain"] ["self", "plain"] (defScope S_Reader___init__) := ⟨rfl, rfl, rfl, by decide +kernel, rfl, by decide +kernel, by decide +kernel⟩
theorem sc_Reader_digits_end : FnScope ["self", "begin", "end", "close"] ["self", "begin"] (defScope S_Reader_digits_end) := ⟨rfl, rfl, rfl, by decide +kernel, rfl, by decide +kernel, by decide +kernel⟩
theorem sc_Reader_number : FnScope ["self", "at", "begin", "end", "digits"] ["self", "at"] (defScope S_Reader_number) := ⟨rfl, rfl, rfl, by decide +kernel, rfl, by decide +kernel, by decide +kernel⟩
theorem sc_Reader_quoted : FnScope ["self", "at", "quote", "inner"] ["self", "at"] (defScope S_Reader_quoted) := ⟨rfl, rfl, rfl, by decide +kernel, rfl, by decide +kernel, by decide +kernel⟩
/-! ### unescaped -/
def spUn : Sp := fun vs H Q _ => ∃ l : List Nat, vs = [.str (S l)] ∧ WF l ∧ l.length ≤ 100000 ∧ ∀ H', Same H H' → Q (.str (S (unesc l))) H'
theorem repl_tl {x y z : Str} (hy : 1 ≤ y.length) : tl (Txt.replace x y z) = PySem.StrLaws.replL (tl y) (tl z) (tl x) := PySem.StrLaws.replace_list hy
theorem repl_le {x y z : Str} {n m : Nat} (hx : x.length ≤ n) (hz : z.length ≤ m) : (Txt.replace x y z).length ≤ n + (n + 1) * m := by
  refine Nat.le_trans (TK.replace_len x y z) ?_
  refine Nat.add_le_add hx (Nat.mul_le_mul (by omega) hz)
theorem fit2 {x z : Str} {n m : Nat} (hx : x.length ≤ n) (hz : z.length ≤ m) (h : n + (n + 1) * m ≤ 16777216) : x.length + (x.length + 1) * z.length ≤ 16777216 :=
  Nat.le_trans (Nat.add_le_add hx (Nat.mul_le_mul (by omega) hz)) h
theorem spl_sum (Sx : List Nat) : ∀ (l : List Nat) (k : Nat) (acc : List Nat), ((spl Sx k acc l).map List.length).sum + (spl Sx k acc l).length ≤ acc.length + l.length + 1
  | [], k, acc => by rw [spl_nil]; simp
  | c :: r, 0, acc => by
    show ((if pre Sx (c :: r) = true then acc :: spl Sx (Sx.length - 1) [] r else spl Sx 0 (acc ++ [c]) r).map List.length).sum + (if pre Sx (c :: r) = true then acc :: spl Sx (Sx.length - 1) [] r else spl Sx 0 (acc ++ [c]) r).length ≤ _
    split
    · have := spl_sum Sx r (Sx.length - 1) []
      simp only [List.map_cons, List.sum_cons, List.length_cons, List.length_nil] at this ⊢
      omega
    · have := spl_sum Sx r 0 (acc ++ [c])
      simp only [List.length_append, List.length_cons, List.length_nil] at this ⊢
      omega
  | c :: r, k + 1, acc => by
    have := spl_sum Sx r k acc
    simp only [List.length_cons] at this ⊢
    show ((spl Sx k acc r).map List.length).sum + (spl Sx k acc r).length ≤ _
    omega
theorem mem_le_sum : ∀ (l : List Nat) (x : Nat), x ∈ l → x ≤ l.sum
  | [], _, h => by cases h
  | a :: r, x, h => by
    rw [List.sum_cons]
    rcases List.mem_cons.mp h with rfl | h
    · omega
    · have := mem_le_sum r x h
      omega
def unT (x : Str) : Str := Txt.replace (Txt.replace x "\\\"" "\"") "\\n" "\n"
theorem unT_tl (x : Str) : tl (unT x) = unp (tl x) := by
  unfold unT unp
  rw [repl_tl (by decide +kernel), repl_tl (by decide +kernel)]
  rfl
theorem unp_len (l : List Nat) (hl : l.length ≤ 100000) : (unp l).length ≤ 4 * l.length + 8 := by
  have h1 := repl_le (x := S l) (y := "\\\"") (z := "\"") (n := l.length) (m := 1) (Nat.le_of_eq (S_len l)) (by decide +kernel)
  have h2 := repl_le (y := "\\n") (z := "\n") (m := 1) h1 (by decide +kernel)
  have e : (unT (S l)).length = (unp l).length := by rw [len_tl, unT_tl]; rfl
  rw [← e]
  show (Txt.replace (Txt.replace (S l) "\\\"" "\"") "\\n" "\n").length ≤ _
  omega
theorem ok_unescaped {f : Addr} {fd : FuncData} (F : Fun K "unescaped" "unescaped" S_unescaped f fd) (T : Txt K mg) : FnOk P w K mg base CX0 1 f fd ["text"] spUn := by
  refine ZT.okT F sc_unescaped (by decide +kernel) (by decide) (fun vs H Q E h => ?_) (fun cdv A outer s H vs Q E hr h => ?_)
  · obtain ⟨l, rfl, _⟩ := h
    rfl
  obtain ⟨l, rfl, hw, hl, q⟩ := h
  have sl : (S l).length = l.length := S_len l
  refine ⟨_, (psst_cons (PST.of (ps_if (pt_cmpR op_notIn_sign pe_str (pv 0) (by rfl))
   (pss_one (ps_ret (pv 0)))
   pss_nil))
  (psst_cons (PST.of (ps_set (i := 1) sc_unescaped.nd rfl (Or.inl rfl) (pe_split (pv 0) pe_str)))
  (CwR.psst_one (CwR.pst_ret (ZT.pet_m1 PySem.F.slot_str_join PySem.F.type_str_join mt_join pe_str (ZT.pet_lc (own := [("part", 2)]) (g := gName 2) rfl sc_unescaped.nd (pi_list (pv 1)) (blkOk_by (own := [("part", 2)]) (N := ["text", "parts", "part"]) (sc := defScope S_unescaped) (by decide +kernel)) (fun _ _ _ _ _ => pg_name (i := 2) sc_unescaped.nd rfl (Or.inl rfl)) (fun _ _ _ _ _ => (CwR.pet_replT (CwR.pet_replC (pv 2)))))))))), ?_⟩
  walk_at "k"
  walk_at "go"
  refine ⟨92, S l, rfl, rfl, ?_⟩
  walk_at "go"
  refine r_ite (fun c => ?_) (fun c => ?_)
  · walk_at "go"
    have h92 : 92 ∉ l := by
      have c2 : (!decide (92 ∈ l)) = true := c
      simpa using c2
    have := q H (Same.refl _)
    rw [unesc_no h92] at this
    exact this
  walk_at "go"
  have es : (Txt.split (S l) "\\\\").map tl = spl [92, 92] 0 [] l := split_spl (S l) "\\\\" (by show ([92, 92] : List Nat) ≠ []; simp) (kind_ok (by decide +kernel))
  have hsum := spl_sum [92, 92] l 0 []
  have hlen : (Txt.split (S l) "\\\\").length = (spl [92, 92] 0 [] l).length := by rw [← es, List.length_map]
  have hpart : ∀ x ∈ Txt.split (S l) "\\\\", x.length ≤ 100001 := fun x hx => by
    have hm : tl x ∈ spl [92, 92] 0 [] l := by rw [← es]; exact List.mem_map_of_mem hx
    have hle : (tl x).length ≤ ((spl [92, 92] 0 [] l).map List.length).sum := by
      exact mem_le_sum _ _ (List.mem_map_of_mem hm)
    rw [len_tl]
    simp only [List.length_nil] at hsum
    omega
  refine ⟨S l, "\\\\", rfl, rfl, by decide +kernel, by rw [sl]; exact Nat.le_trans (Nat.add_le_add_right hl 2) (by decide +kernel), fun p hp => ?_⟩
  walk_at "go"
  refine r_wlst (SqL.of upd_same) ?_
  intro D hD
  have sp0 : Same H (upd H p (.lst ((Txt.split (S l) "\\\\").map V.str))) := same_new hp
  simp only [List.length_nil] at hsum
  refine lc_im_lst (xs := (Txt.split (S l) "\\\\").map V.str) (es := ((Txt.split (S l) "\\\\").map unT).map PyData.str) (by simp) (by rw [List.length_map, hlen]; exact Nat.lt_of_le_of_lt (Nat.le_trans (Nat.le_add_left _ _) hsum) (Nat.lt_of_le_of_lt (m := 100001) (by omega) (by decide +kernel))) (SqL.of upd_same) hD ?_ ?_
  · intro i x e H1 hi he s1 R k
    refine k _ _ rfl fun R' kk => ?_
    rw [List.getElem?_map] at hi
    rw [List.getElem?_map, List.getElem?_map] at he
    cases hd : (Txt.split (S l) "\\\\")[i]? with
    | none => rw [hd] at he; cases he
    | some y =>
      rw [hd] at he hi
      cases he
      cases hi
      have hy := hpart y (List.mem_of_getElem? hd)
      walk_at "go"
      refine ⟨fit2 (m := 1) hy (by decide +kernel) (by decide), ?_⟩
      walk_at "go"
      refine ⟨fit2 (m := 1) (repl_le (m := 1) hy (by decide +kernel)) (by decide +kernel) (by decide), ?_⟩
      walk_at "go"
      exact kk _ _ (Same.refl _) (.str _)
  · intro H1 acc s1 hacc him
    have hst := ImA_strs him
    subst hst
    walk_at "go"
    refine ⟨_, _, _, rfl, rfl, .inl (SqL.of hacc), ?_, ?_⟩
    · have e1 : ∀ ys : List Str, (∀ x ∈ ys, x.length ≤ 100001) → ((ys.map unT).map (·.length)).sum ≤ 4 * ((ys.map tl).map List.length).sum + 8 * ys.length + 8 * ys.length := by
        intro ys hys
        induction ys with
        | nil => simp
        | cons y r ih =>
          have h1 := hys y (by simp)
          have ih := ih (fun x hx => hys x (by simp [hx]))
          have h2 : (unT y).length ≤ 4 * (tl y).length + 16 := by
            rw [len_tl, unT_tl]
            by_cases hb : (tl y).length ≤ 100000
            · have := unp_len (tl y) hb; omega
            · have h1' := repl_le (x := y) (y := "\\\"") (z := "\"") (n := y.length) (m := 1) (Nat.le_refl _) (by decide +kernel)
              have h2' := repl_le (y := "\\n") (z := "\n") (m := 1) h1' (by decide +kernel)
              have e : (unT y).length = (unp (tl y)).length := by rw [len_tl, unT_tl]
              rw [← e]
              rw [len_tl y] at h2'
              show (Txt.replace (Txt.replace y "\\\"" "\"") "\\n" "\n").length ≤ _
              omega
          simp only [List.map_cons, List.sum_cons, List.length_cons] at ih ⊢
          omega
      have := e1 _ hpart
      rw [es] at this
      rw [List.length_map]
      have e2 : ("\\" : Str).length = 1 := by decide +kernel
      rw [e2]
      rw [hlen] at this ⊢
      omega
    have := q H1 (sp0.trans s1)
    have e : S (unesc l) = Txt.join ("\\" : Str) ((Txt.split (S l) "\\\\").map unT) := by
      refine (ofS ?_).symm
      rw [join_eq, tl_join, List.map_map, ← unP_eq hw]
      unfold unP
      rw [← es, List.map_map]
      have : (fun x => tl (unT x)) = (fun x => unp (tl x)) := funext unT_tl
      show joinL [92] (List.map (fun x => tl (unT x)) _) = joinL [92] (List.map (fun x => unp (tl x)) _)
      rw [this]
    rw [e] at this
    exact this

/-! ### the reader's object -/
def rfl2 (L : List Nat) : List (Str × V) := [(("plain" : Str), .str (S L)), (("mask" : Str), .str (S (msk L)))]
theorem pm_ne : ¬ (("plain" : Str) = "mask") := by decide +kernel
theorem rfl2_put (L : List Nat) : putF "mask" (.str (S (msk L))) (putF "plain" (.str (S L)) []) = rfl2 L := by
  show (if ("plain" : Str) = "mask" then _ else (("plain" : Str), V.str (S L)) :: putF "mask" (.str (S (msk L))) []) = _
  rw [if_neg pm_ne]
  rfl
theorem rfl2_plain (L : List Nat) : (rfl2 L).lookup ("plain" : Str) = some (.str (S L)) := by
  unfold rfl2
  simp [List.lookup]
theorem rfl2_mask (L : List Nat) : (rfl2 L).lookup ("mask" : Str) = some (.str (S (msk L))) := by
  unfold rfl2
  have h : (("mask" : Str) == ("plain" : Str)) = false := by decide +kernel
  simp only [List.lookup, h]
  simp
theorem rfl2_no (L : List Nat) {m : Str} (h1 : (m == ("plain" : Str)) = false) (h2 : (m == ("mask" : Str)) = false) : (rfl2 L).lookup m = none := by
  unfold rfl2
  simp only [List.lookup, h1, h2]
structure Rdr (C : Addr) (H : Hp) (p : Addr) (L : List Nat) : Prop where
  ob : ∃ dx, H p = some (.ins C dx (rfl2 L))
  asc : ∀ c ∈ L, c < 128
  len : L.length ≤ 100000
theorem Rdr.same {H H' : Hp} {p : Addr} {L : List Nat} (s : Same H H') (h : Rdr C H p L) : Rdr C H' p L := by
  obtain ⟨dx, e⟩ := h.ob
  exact ⟨⟨dx, s _ _ e⟩, h.asc, h.len⟩
theorem x_plain {H : Hp} {p : Addr} {L : List Nat} {R : V → Prop} (T : TxtR K mg C) (h : Rdr C H p L) (q : R (.str (S L))) :
    ∃ a' C dx fs v, V.ref p = .ref a' ∧ H a' = some (.ins C dx fs) ∧ Cls K C ∧ NoAttr K C "plain" ∧ fs.lookup ("plain" : Str) = some v ∧ R v := by
  obtain ⟨dx, e⟩ := h.ob
  exact x_fld e T.cl_Reader T.nP (rfl2_plain L) q
theorem x_mask {H : Hp} {p : Addr} {L : List Nat} {R : V → Prop} (T : TxtR K mg C) (h : Rdr C H p L) (q : R (.str (S (msk L)))) :
    ∃ a' C dx fs v, V.ref p = .ref a' ∧ H a' = some (.ins C dx fs) ∧ Cls K C ∧ NoAttr K C "mask" ∧ fs.lookup ("mask" : Str) = some v ∧ R v := by
  obtain ⟨dx, e⟩ := h.ob
  exact x_fld e T.cl_Reader T.nM (rfl2_mask L) q
theorem x_rmeth {H : Hp} {p : Addr} {L : List Nat} {m : Str} {R : Prop} (h : Rdr C H p L) (h1 : (m == ("plain" : Str)) = false) (h2 : (m == ("mask" : Str)) = false) (q : R) :
    ∃ a' dx fs, V.ref p = .ref a' ∧ H a' = some (.ins C dx fs) ∧ fs.lookup m = none ∧ R := by
  obtain ⟨dx, e⟩ := h.ob
  exact x_meth e (rfl2_no L h1 h2) q
def spInit (C : Addr) : Sp := fun vs H Q _ => ∃ (p dx : Addr) (L : List Nat), vs = [.ref p, .str (S L)] ∧ H p = some (.ins C dx []) ∧ L.length ≤ 100000 ∧ Q .non (upd H p (.ins C dx (rfl2 L)))
theorem ok_init {f : Addr} {fd : FuncData} (F : Fun K "__init__" "Reader.__init__" S_Reader___init__ f fd) (T : TxtR K mg C) : FnOk P w K mg base CX0 1 f fd ["self", "plain"] (spInit C) := by
  refine ZT.okT F sc_Reader___init__ (by decide +kernel) (by decide) (fun vs H Q E h => ?_) (fun cdv A outer s H vs Q E hr h => ?_)
  · obtain ⟨p, dx, L, rfl, _⟩ := h
    rfl
  obtain ⟨p, dx, L, rfl, hp, hl, q⟩ := h
  have sl : (S L).length ≤ 100000 := by rw [S_len]; exact hl
  refine ⟨_, (psst_cons (PST.of (ps_fld (pv 0) (pv 1) rfl))
  (CwR.psst_one (ZT.pst_fld (pv 0) (CwR.pet_replT (CwR.pet_replT (CwR.pet_replC (pv 1))))))), ?_⟩
  walk_at "k"
  walk_at "go"
  refine x_sfld hp T.cl_Reader T.nP (by decide) ?_
  walk_at "go"
  have e1 := repl_le (x := S L) (y := "\\\\") (z := "..") (m := 2) sl (by decide +kernel)
  have e2 := repl_le (y := "\\\"") (z := "..") (m := 2) e1 (by decide +kernel)
  refine ⟨fit2 (m := 2) sl (by decide +kernel) (by decide), ?_⟩
  walk_at "go"
  refine ⟨fit2 (m := 2) e1 (by decide +kernel) (by decide), ?_⟩
  walk_at "go"
  refine ⟨fit2 (m := 2) e2 (by decide +kernel) (by decide), ?_⟩
  walk_at "go"
  refine x_sfld upd_same T.cl_Reader T.nM (by show 1 < 1000; decide) ?_
  walk_at "go"
  have em : Txt.replace (Txt.replace (Txt.replace (S L) "\\\\" "..") "\\\"" "..") "\\n" ".." = S (msk L) := by
    refine ofS ?_
    rw [repl_tl (by decide +kernel), repl_tl (by decide +kernel), repl_tl (by decide +kernel), ← mask_eq]
    rfl
  rw [em, upd_upd, rfl2_put]
  exact q
/-! ### digits_end -/
structure RunOk (L : List Nat) (b e : Nat) : Prop where
  be : b < e
  eL : e ≤ L.length
  run : ∀ j, b ≤ j → j < e → ∃ c, L[j]? = some c ∧ dig c
  stop : ∀ c, L[e]? = some c → ¬ dig c
def spDE (C : Addr) : Sp := fun vs H Q _ => ∃ (p : Addr) (L : List Nat) (b e : Nat), vs = [.ref p, .int b] ∧ Rdr C H p L ∧ RunOk L b e ∧ Q (.int e) H
/-- [b, m) holds no blank and no bracket; m is the end, or one of these stands there -/
structure Mid (L : List Nat) (b m : Nat) : Prop where
  bm : b ≤ m
  mL : m ≤ L.length
  no : ∀ j, b ≤ j → j < m → L[j]? ≠ some 32 ∧ L[j]? ≠ some 41
  en : m = L.length ∨ L[m]? = some 32 ∨ L[m]? = some 41
theorem mid_dig {L : List Nat} {b m e : Nat} (M : Mid L b m) (R : RunOk L b e) (h : ∀ j, b ≤ j → j < m → ∃ c, L[j]? = some c ∧ dig c) (hm : b < m) : m = e := by
  rcases Nat.lt_trichotomy m e with h1 | h1 | h1
  · obtain ⟨c, hc, hd⟩ := R.run m M.bm h1
    rcases M.en with q | q | q
    · have := R.eL; omega
    · rw [hc] at q; cases q; exact absurd hd (by decide)
    · rw [hc] at q; cases q; exact absurd hd (by decide)
  · exact h1
  · obtain ⟨c, hc, hd⟩ := h e (Nat.le_of_lt R.be) h1
    exact absurd hd (R.stop c hc)
theorem all_cut {L : List Nat} {i j : Nat} (hj : j ≤ L.length) (p : Nat → Bool) : ((L.drop i).take (j - i)).all p = true ↔ ∀ k, i ≤ k → k < j → ∃ c, L[k]? = some c ∧ p c = true := by
  rw [List.all_eq_true]
  constructor
  · intro h k h1 h2
    have hk : k < L.length := by omega
    refine ⟨L[k], List.getElem?_eq_getElem hk, h _ ?_⟩
    refine List.mem_iff_getElem?.mpr ⟨k - i, ?_⟩
    rw [List.getElem?_take_of_lt (by omega), List.getElem?_drop, show i + (k - i) = k by omega, List.getElem?_eq_getElem hk]
  · intro h c hc
    obtain ⟨k, hk⟩ := List.mem_iff_getElem?.mp hc
    have hk2 : k < j - i := by
      have := (List.getElem?_eq_some_iff.mp hk).1
      rw [List.length_take] at this
      omega
    rw [List.getElem?_take_of_lt hk2, List.getElem?_drop] at hk
    obtain ⟨d, hd, hp⟩ := h (i + k) (by omega) (by omega)
    rw [hk] at hd
    cases hd
    exact hp
theorem ok_digits_end {f : Addr} {fd : FuncData} (F : Fun K "digits_end" "Reader.digits_end" S_Reader_digits_end f fd) (T : TxtR K mg C) : FnOk P w K mg base CX0 1 f fd ["self", "begin"] (spDE C) := by
  refine F.ok sc_Reader_digits_end (fun vs H Q E h => ?_) (fun cdv A outer s H vs Q E hr h => ?_)
  · obtain ⟨p, L, b, e, rfl, _⟩ := h
    rfl
  obtain ⟨p, L, b, e, rfl, hR, hd, q⟩ := h
  have hlen := hR.len
  have sl : (S L).length ≤ sizeLine := by rw [S_len]; exact Nat.le_trans hlen (by decide +kernel)
  have hbl : b < L.length := Nat.lt_of_lt_of_le hd.be hd.eL
  refine ⟨_, (pss_cons (ps_set (i := 2) sc_Reader_digits_end.nd rfl (Or.inl rfl) (pe_bm PySem.F.plainAttrs_str PySem.F.slot_str_find PySem.F.type_str_find mt_find3 (pe_fld (pv 0) rfl) (pa_cons pe_str (pa_cons (pv 1) pa_nil))))
  (C8.pss_cut (ps_if (pt_cmpR op_ltA (pv 2) pe_int (nomark _))
   (pss_one (ps_set (i := 2) sc_Reader_digits_end.nd rfl (Or.inl rfl) (pe_callB call_lenA (by rfl) T.z_len Z.b_len (pa_cons (pe_fld (pv 0) rfl) pa_nil))))
   pss_nil)
  (pss_cons (ps_set (i := 3) sc_Reader_digits_end.nd rfl (Or.inl rfl) (pe_bm PySem.F.plainAttrs_str PySem.F.slot_str_find PySem.F.type_str_find mt_find4 (pe_fld (pv 0) rfl) (pa_cons pe_str (pa_cons (pv 1) (pa_cons (pv 2) pa_nil)))))
  (C8.pss_cut (ps_if (pt_cmpR op_ge (pv 3) pe_int (nomark _))
   (pss_one (ps_set (i := 2) sc_Reader_digits_end.nd rfl (Or.inl rfl) (pv 3)))
   pss_nil)
  (pss_cons (ps_if (pt_val (pe_m0 PySem.F.slot_str_isdigit PySem.F.type_str_isdigit mt_isdigit (pe_slice sl_all (pe_fld (pv 0) rfl) (po_some (pv 1)) (po_some (pv 2)))))
   (pss_one (ps_ret (pv 2)))
   pss_nil)
  (pss_cons (ps_set (i := 2) sc_Reader_digits_end.nd rfl (Or.inl rfl) (pv 1))
  (pss_cons (ps_while PassesOwn.never (pt_val (pe_m0 PySem.F.slot_str_isdigit PySem.F.type_str_isdigit mt_isdigit (pe_slice sl_all (pe_fld (pv 0) rfl) (po_some (pv 2)) (po_some (pe_op op_addA (pv 2) pe_int)))))
   (pss_one (ps_aug (i := 2) sc_Reader_digits_end.nd rfl (Or.inl rfl) pe_int ip_add)))
  (pss_one (ps_ret (pv 2)))))))))), ?_⟩
  walk_at "k"
  walk_at "go"
  refine x_plain T hR ?_
  walk_at "go"
  refine ⟨S L, S [32], b, rfl, rfl, ?_⟩
  walk_at "go"
  -- behind the first test: the blank, or the end
  refine ⟨fun σ' H' => ∃ m : Nat, b ≤ m ∧ m ≤ L.length ∧ (∀ j, b ≤ j → j < m → L[j]? ≠ some 32) ∧ (m = L.length ∨ L[m]? = some 32) ∧ σ' = [some (.ref p), some (.int b), some (.int m), none] ∧ H = H', ?_, ?_⟩
  · rcases find3_S L 32 b with ⟨ef, hn⟩ | ⟨k, ef, h1, h2, hn⟩
    · rw [ef]
      walk_at "go"
      refine x_plain T hR ?_
      walk_at "go"
      refine .str sl ?_
      walk_at "go"
      exact ⟨L.length, Nat.le_of_lt hbl, Nat.le_refl _, fun j hj _ => hn j hj, .inl rfl, by rw [S_len]; rfl, rfl⟩
    · rw [ef]
      walk_at "go"
      exact ⟨k, h1, Nat.le_of_lt (List.getElem?_eq_some_iff.mp h2).1, hn, .inr h2, rfl, rfl⟩
  rintro σ' H' ⟨m, hm1, hm2, hm3, hm4, rfl, rfl⟩
  walk_at "go"
  refine x_plain T hR ?_
  walk_at "go"
  refine ⟨S L, S [41], b, m, rfl, rfl, ?_⟩
  walk_at "go"
  refine ⟨fun σ' H' => ∃ (m : Nat) (y : Option V), Mid L b m ∧ σ' = [some (.ref p), some (.int b), some (.int m), y] ∧ H = H', ?_, ?_⟩
  · rcases find4_S L 41 b m hm2 with ⟨ef, hn⟩ | ⟨k, ef, h1, h2, h3, hn⟩
    · rw [ef]
      walk_at "go"
      refine ⟨m, _, ⟨hm1, hm2, fun j h1 h2 => ⟨hm3 j h1 h2, hn j h1 h2⟩, ?_⟩, rfl, rfl⟩
      rcases hm4 with z | z
      · exact .inl z
      · exact .inr (.inl z)
    · rw [ef]
      walk_at "go"
      exact ⟨k, _, ⟨h1, by omega, fun j j1 j2 => ⟨hm3 j j1 (by omega), hn j j1 j2⟩, .inr (.inr h3)⟩, rfl, rfl⟩
  rintro σ' H' ⟨m, y, M, rfl, rfl⟩
  walk_at "go"
  refine x_plain T hR ?_
  walk_at "go"
  refine .str sl ?_
  rw [cut_S L b m (Nat.le_of_lt hbl) M.mL]
  walk_at "go"
  refine ⟨rfl, trivial, ?_⟩
  rw [isdigit_S _ fun c hc => hR.asc c (List.mem_of_mem_drop (List.mem_of_mem_take hc))]
  walk_at "go"
  refine r_ite (fun c => ?_) (fun c => ?_)
  · walk_at "go"
    rw [Bool.and_eq_true] at c
    have hne : ((L.drop b).take (m - b)) ≠ [] := of_decide_eq_true c.1
    have hbm : b < m := by
      rcases Nat.lt_or_ge b m with z | z
      · exact z
      · exact absurd (by rw [show m - b = 0 by omega]; rfl) hne
    have hall := (all_cut M.mL _).mp c.2
    have em : m = e := mid_dig M hd (fun j h1 h2 => by obtain ⟨c, hc, hp⟩ := hall j h1 h2; exact ⟨c, hc, of_decide_eq_true hp⟩) hbm
    rw [em]
    exact q
  · walk_at "go"
    -- the digits one after the other
    refine ⟨fun m σ H' => ∃ j : Nat, b ≤ j ∧ j ≤ e ∧ m = e - j ∧ σ = [some (.ref p), some (.int b), some (.int j), y] ∧ H = H', ⟨_, b, Nat.le_refl _, Nat.le_of_lt hd.be, rfl, rfl, rfl⟩, ?_⟩
    rintro n σ H' ⟨j, hj1, hj2, rfl, rfl, rfl⟩
    walk_at "go"
    refine x_plain T hR ?_
    walk_at "go"
    refine .str sl ?_
    rw [cut_one]
    walk_at "go"
    refine ⟨rfl, trivial, ?_⟩
    have hsg : ∀ c ∈ sgn L j, c < 128 := fun c hc => by
      unfold sgn at hc
      split at hc
      · rename_i d hd
        rw [List.mem_singleton.mp hc]
        exact hR.asc d (List.mem_of_getElem? hd)
      · cases hc
    rw [isdigit_S _ hsg]
    walk_at "go"
    by_cases hje : j = e
    · subst hje
      refine ite_f ?_ ?_
      · unfold sgn
        cases hc : L[j]? with
        | none => simp
        | some c => simp [hd.stop c hc]
      · walk_at "go"
        exact q
    · obtain ⟨c, hc, hdc⟩ := hd.run j hj1 (by omega)
      refine ite_t ?_ ?_
      · unfold sgn
        rw [hc]
        simp [hdc]
      · refine ⟨fun σ' H' => ∃ m', m' < e - j ∧ ∃ j : Nat, b ≤ j ∧ j ≤ e ∧ m' = e - j ∧ σ' = [some (.ref p), some (.int b), some (.int j), y] ∧ H = H', fun _ _ z => z, ?_⟩
        walk_at "go"
        exact ⟨_, by omega, j + 1, by omega, by omega, rfl, rfl, rfl⟩
end
end Ev
namespace Ev
open PySem PySem.Spec PyProof.Rows L2 Z TL Pl
section
variable {P : Program} {w : World} {K : PySem.W.Frag} {mg : Str → Option Value} {base : Heap} {C : Addr}
local macro_rules | `(tactic| walk_at "ar") => `(tactic| ((try dsimp only); first | decide | omega | exact ⟨by omega, by omega⟩ | exact .inl ⟨by omega, by omega⟩ | exact .inr ⟨by omega, by omega⟩ | (unfold CPow; decide)))
local macro_rules | `(tactic| walk_at "rd1") => `(tactic| first
  | (with_reducible refine Z.r_seq ?_) | (with_reducible refine Z.r_ifS ?_) | (with_reducible refine Z.r_asg ?_) | (with_reducible refine Z.r_ret ?_) | (with_reducible refine Z.r_drop ?_)
  | (with_reducible refine Z.r_op ?_) | ((with_reducible refine Z.r_var (v := ?vv) ?hv ?_); (case hv => exact rfl)) | (with_reducible refine Z.r_c ?_) | (with_reducible refine Z.r_gname ?_)
  | (with_reducible refine Z.r_test ?_) | (with_reducible refine Z.r_b ?_) | (with_reducible refine Z.r_bl ?_) | (with_reducible refine Z.r_cb ?_) | (with_reducible refine Z.r_cons ?_) | (with_reducible refine Z.r_nil ?_)
  | (with_reducible refine Z.r_call ?_) | (with_reducible refine Z.r_not ?_) | (with_reducible refine Z.r_and ?_) | (with_reducible refine Z.r_or ?_) | (with_reducible refine Z.r_if ?_) | (with_reducible refine Z.r_un ?_)
  | (with_reducible refine Z.r_tm0 ?_) | (with_reducible refine Z.r_tm1 ?_) | (with_reducible refine Z.r_sl ?_) | (with_reducible refine Z.r_nopart ?_) | (with_reducible refine Z.r_part ?_) | (with_reducible refine Z.r_ofint ?_)
  | (with_reducible refine Z.r_tup ?_) | (with_reducible refine Z.r_lst ?_)
  | (with_reducible refine Z.r_lc ?_) | (with_reducible refine Z.r_for ?_) | (with_reducible refine Z.r_itup ?_) | (with_reducible refine Z.r_ilst ?_) | (with_reducible refine Z.r_irg1 ?_) | (with_reducible refine Z.r_irg2 ?_) | (with_reducible refine Z.r_fldE ?_) | (with_reducible refine Z.r_meth ?_) | (with_reducible refine Z.r_sfld ?_) | (with_reducible refine Z.r_make ?_) | (with_reducible refine Z.r_tyS ?_) | (with_reducible refine Z.r_gcons ?_) | (with_reducible refine Z.r_gnil ?_) | ((with_reducible refine Z.r_aug (x := ?xx) ?ha ?_); (case ha => exact rfl)) | (with_reducible refine Z.r_ip ?_) | (with_reducible refine Z.r_chain ?_)
  | (with_reducible refine Z.r_gsub ?_) | (with_reducible refine Z.r_bm ?_) | (with_reducible refine Z.r_bm0 ?_)
  | ((with_reducible refine Z.r_i ?hc ?_); (case hc => walk_at "ar"))
  | (with_reducible refine Z.RAdd.int ?_) | (with_reducible refine Z.r_i0 ?_) | (with_reducible refine Z.RLt.int ?_) | (with_reducible refine Z.RGt.int ?_) | (with_reducible refine Z.r_isN ?_) | (with_reducible refine Z.r_isB ?_) | (with_reducible refine Z.r_repl ?_) | (with_reducible refine Z.r_ofstr ?_) | (with_reducible refine Z.r_isstr ?_) | (with_reducible refine Z.r_ofref ?_) | (with_reducible refine Z.RInt.int ?_)
  | (with_reducible refine Z.r_next ?_) | (with_reducible refine Z.r_brk ?_) | (with_reducible refine Z.r_cont ?_) | (with_reducible refine Z.r_retN ?_) | (with_reducible refine Z.r_truB ?_) | (with_reducible refine Z.r_tru ?_) | (with_reducible refine Z.r_andV ?_) | (with_reducible refine Z.r_orV ?_) | (with_reducible refine Z.r_notV ?_))
local macro_rules | `(tactic| walk_at "rd") => `(tactic| (repeat walk_at "rd1"))
local macro_rules | `(tactic| walk_at "br") => `(tactic| first | refine Z.ite_t (by first | rfl | assumption | decide) ?_ | refine Z.ite_f (by first | rfl | assumption | decide) ?_)
local macro_rules | `(tactic| walk_at "isi") => `(tactic| first | ((with_reducible refine Z.isi_bool (d := ?dd) ?hi ?_); (case hi => assumption)) | ((with_reducible refine Z.isi_int (d := ?dd) ?hi ?_); (case hi => assumption)) | ((with_reducible refine Z.isi_str (d := ?dd) ?hi ?_); (case hi => assumption)) | ((with_reducible refine Z.isi_tuple (d := ?dd) ?hi ?_); (case hi => assumption)))
local macro_rules | `(tactic| walk_at "go") => `(tactic| (repeat (first | walk_at "rd1" | walk_at "isi" | walk_at "br")))
local macro_rules | `(tactic| walk_at "k") => `(tactic| dsimp only [cxOf, Cx.nox, Cx.wish])
theorem dec1 (c d : Nat) : decide (V.str (S [c]) = V.str (S [d])) = decide (c = d) := by
  rw [Bool.eq_iff_iff, decide_eq_true_iff, decide_eq_true_iff]
  constructor
  · intro h
    injection h with h
    have := congrArg tl h
    rw [tl_S, tl_S] at this
    injection this
  · intro h; rw [h]
def spNum (K : PySem.W.Frag) (C : Addr) : Sp := fun vs H Q _ => ∃ (p : Addr) (L : List Nat) (a b e : Nat) (i : Int), vs = [.ref p, .int a] ∧ Rdr C H p L ∧ NumOk L a b e i ∧
  ∀ v H', Same H H' → Im K H' v (.tuple [.int i, .int e]) → Q v H'
theorem pair_new {H : Hp} {t : Addr} {x y : V} {d e : D} (ht : H t = none) (hx : Im K H x d) (hy : Im K H y e) : Im K (upd H t (.tup [x, y])) (.ref t) (.tuple [d, e]) := Im.new_tup ht (.cons hx (.cons hy .nil))
theorem ok_number {f g : Addr} {fd gd : FuncData} (F : Fun K "number" "Reader.number" S_Reader_number f fd) (T : TxtR K mg C) {tk : Tok} (hD : mg "DIGITS_AT_MOST" = some (.int 2000 tk)) (G_digits_end : Gm P w K mg base CX0 1 C "digits_end" g gd ["self", "begin"] (spDE C)) :
    FnOk P w K mg base CX0 2 f fd ["self", "at"] (spNum K C) := by
  refine F.ok sc_Reader_number (fun vs H Q E h => ?_) (fun cdv A outer s H vs Q E hr h => ?_)
  · obtain ⟨p, L, a, b, e, i, rfl, _⟩ := h
    rfl
  obtain ⟨p, L, a, b, e, i, rfl, hR, hN, q⟩ := h
  have hlen := hR.len
  have sl : (S L).length ≤ sizeLine := by rw [S_len]; exact Nat.le_trans hlen (by decide +kernel)
  have o45 : Str.ofString "-" = S [45] := by decide +kernel
  have o48 : Str.ofString "0" = S [48] := by decide +kernel
  have hab : a ≤ b := by rcases hN.sgn with ⟨_, z⟩ | ⟨_, z⟩ <;> omega
  have hbl : b < L.length := Nat.lt_of_lt_of_le hN.be hN.eL
  obtain ⟨c, hc⟩ : ∃ c, L[a]? = some c := by rcases hN.sgn with ⟨z, _⟩ | ⟨⟨c, z, _⟩, _⟩ <;> exact ⟨_, z⟩
  obtain ⟨c0, hc0, hd0⟩ := hN.run b (Nat.le_refl _) hN.be
  have hnl := hN.len
  refine ⟨_, (pss_cons (ps_set (i := 2) sc_Reader_number.nd rfl (Or.inl rfl) (pv 1))
  (C8.pss_cut (ps_if (pt_cmpR (op_eqA hr.units) (pe_ix ix_all (pe_fld (pv 0) rfl) (pv 1) (fun _ _ => rfl)) pe_str (nomark _))
   (pss_one (ps_set (i := 2) sc_Reader_number.nd rfl (Or.inl rfl) (pe_op op_addA (pv 1) pe_int)))
   pss_nil)
  (pss_cons (ps_set (i := 3) sc_Reader_number.nd rfl (Or.inl rfl) (pe_meth (pv 0) T.cl_Reader G_digits_end.m G_digits_end.ok (hr.mono (by decide)) G_digits_end.bi .nil pass0 (pa_cons (pv 2) pa_nil)))
  (pss_cons (ps_set (i := 4) sc_Reader_number.nd rfl (Or.inl rfl) (pe_slice sl_all (pe_fld (pv 0) rfl) (po_some (pv 2)) (po_some (pv 3))))
  (C8.pss_cut (ps_if (PW.pt (pw_or (pt_not (pt_tru (pv 4))) (pw_or1 (PW.pt (pw_and (pt_cmpR op_gtA (pv 2) (pv 1) (nomark _)) (pw_and1 (pt_cmpR (op_eqA hr.units) (pe_ix ix_all (pv 4) pe_int (fun _ _ => rfl)) pe_str (nomark _))))))))
   (pss_one ps_never)
   pss_nil)
  (C8.pss_cut (ps_if (PW.pt (pw_and (pt_cmpR (op_eqA hr.units) (pe_ix ix_all (pv 4) pe_int (fun _ _ => rfl)) pe_str (nomark _)) (pw_and1 (pt_cmpR op_gtA (pe_callB call_lenA (by rfl) T.z_len Z.b_len (pa_cons (pv 4) pa_nil)) pe_int (nomark _)))))
   (pss_one ps_never)
   pss_nil)
  (pss_cons (ps_if (pt_cmpR op_gtA (pe_callB call_lenA (by rfl) T.z_len Z.b_len (pa_cons (pv 4) pa_nil)) (pe_glob (v := .int 2000) rfl hD ⟨_, rfl⟩) (nomark _))
   (pss_one ps_never)
   pss_nil)
  (pss_one (ps_ret (pe_tup (pa_cons (pe_callTy call_intA (by rfl) T.z_int Z.b_int (pa_cons (pe_slice sl_all (pe_fld (pv 0) rfl) (po_some (pv 1)) (po_some (pv 3))) pa_nil)) (pa_cons (pv 3) pa_nil)))))))))))), ?_⟩
  walk_at "k"
  walk_at "go"
  refine ⟨fun σ' H' => σ' = [some (.ref p), some (.int a), some (.int b), none, none] ∧ H = H', ?_, ?_⟩
  walk_at "go"
  refine x_plain T hR ?_
  walk_at "go"
  refine .str sl (atI_nat hc) ?_
  rw [o45]
  refine .sc rfl ?_
  show ∃ k, V.bl (decide (V.str (S [c]) = V.str (S [45]))) = V.bl k ∧ _
  rw [dec1]
  walk_at "go"
  · refine r_ite (fun z => ?_) (fun z => ?_)
    · have hz : c = 45 := of_decide_eq_true z
      walk_at "go"
      rcases hN.sgn with ⟨_, e⟩ | ⟨⟨c', h1, h2⟩, _⟩
      · exact ⟨by rw [e]; rfl, rfl⟩
      · rw [hc, hz] at h1; cases h1; exact absurd h2 (by decide)
    · have hz : ¬ c = 45 := of_decide_eq_false z
      walk_at "go"
      rcases hN.sgn with ⟨h1, _⟩ | ⟨_, e⟩
      · rw [hc] at h1; exact absurd (Option.some.inj h1) hz
      · exact ⟨by rw [e]; rfl, rfl⟩
  rintro σ' H' ⟨rfl, rfl⟩
  walk_at "go"
  refine x_rmeth hR (by decide +kernel) (by decide +kernel) ?_
  walk_at "go"
  refine ⟨p, L, b, e, rfl, hR, ⟨hN.be, hN.eL, hN.run, hN.stop⟩, ?_⟩
  walk_at "go"
  refine x_plain T hR ?_
  walk_at "go"
  refine .str sl ?_
  rw [cut_S L b e (Nat.le_of_lt hbl) hN.eL]
  have hdl : ((L.drop b).take (e - b)).length = e - b := by rw [List.length_take, List.length_drop]; have := hN.eL; omega
  have hd0' : ((L.drop b).take (e - b))[0]? = some c0 := by
    have := hN.be
    rw [List.getElem?_take_of_lt (by omega), List.getElem?_drop]
    exact hc0
  have sd : (S ((L.drop b).take (e - b))).length ≤ sizeLine := by rw [S_len, hdl]; exact Nat.le_trans (m := 100000) (by have := hN.eL; omega) (by decide +kernel)
  generalize hDL : (L.drop b).take (e - b) = DL at hdl hd0' sd ⊢
  have dlen : (S DL).length = e - b := by rw [S_len, hdl]
  have hbe := hN.be
  walk_at "go"
  -- no zero ahead
  have zero : c0 = 48 → b = a ∧ e = b + 1 := fun z => hN.zero (by rw [hc0, z])
  have first : atI (tl (S DL)) 0 = some c0 := atI_nat (j := 0) hd0'
  have first' : ∀ R : VK, R (.str (S [c0])) H → RIx K (.str (S DL)) (.int 0) H R := fun R h => .str sd first h
  have is0 : ∀ R : VK, R (.bl (decide (c0 = 48))) H → REq K false (.str (S [c0])) (.str (Str.ofString "0")) H R := fun R h => by
    rw [o48]
    refine .sc rfl ?_
    show R (.bl (decide (V.str (S [c0]) = V.str (S [48])))) H
    rw [dec1]
    exact h
  refine ⟨fun σ' H' => σ' = [some (.ref p), some (.int a), some (.int b), some (.int e), some (.str (S DL))] ∧ H = H', ?_, ?_⟩
  · walk_at "go"
    refine r_truS sd ?_
    walk_at "go"
    refine ite_f (by rw [dlen]; simp; omega) ?_
    walk_at "go"
    refine r_ite (fun z => ?_) (fun z => ?_)
    · walk_at "go"
      refine first' _ ?_
      walk_at "go"
      refine is0 _ ?_
      walk_at "go"
      have hz : (a : Int) < b := of_decide_eq_true z
      refine ite_f (decide_eq_false fun y => by have := zero y; omega) ?_
      walk_at "go"
      exact ⟨rfl, rfl⟩
    · walk_at "go"
      exact ⟨rfl, rfl⟩
  rintro σ' H' ⟨rfl, rfl⟩
  refine ⟨fun σ' H' => σ' = [some (.ref p), some (.int a), some (.int b), some (.int e), some (.str (S DL))] ∧ H = H', ?_, ?_⟩
  · walk_at "go"
    refine first' _ ?_
    walk_at "go"
    refine is0 _ ?_
    walk_at "go"
    refine r_ite (fun z => ?_) (fun z => ?_)
    · walk_at "go"
      refine .str sd ?_
      walk_at "go"
      have := zero (of_decide_eq_true z)
      refine ite_f (decide_eq_false (by rw [dlen]; omega)) ?_
      walk_at "go"
      exact ⟨rfl, rfl⟩
    · walk_at "go"
      exact ⟨rfl, rfl⟩
  rintro σ' H' ⟨rfl, rfl⟩
  walk_at "go"
  refine .str sd ?_
  walk_at "go"
  refine ite_f (decide_eq_false (by rw [dlen]; omega)) ?_
  walk_at "go"
  refine x_plain T hR ?_
  walk_at "go"
  refine .str sl ?_
  rw [cut_S L a e (by omega) hN.eL]
  walk_at "go"
  refine .str hN.val (by rw [S_len, List.length_take]; omega) ?_
  walk_at "go"
  refine ⟨by show 2 ≤ sizeLine; decide, fun t ht => ?_⟩
  exact q _ _ (same_new ht) (pair_new ht (.int _) (.int _))

def spQuo (K : PySem.W.Frag) (C : Addr) : Sp := fun vs H Q _ => ∃ (p : Addr) (L : List Nat) (a z : Nat) (x : Str), vs = [.ref p, .int a] ∧ Rdr C H p L ∧ QuoOk L a z x ∧
  ∀ v H', Same H H' → Im K H' v (.tuple [.str x, .int ((z : Int) + 1)]) → Q v H'
theorem ok_quoted {f g : Addr} {fd gd : FuncData} (F : Fun K "quoted" "Reader.quoted" S_Reader_quoted f fd) (T : TxtR K mg C) (G_unescaped : Gd P w K mg base CX0 1 "unescaped" g gd ["text"] spUn) :
    FnOk P w K mg base CX0 2 f fd ["self", "at"] (spQuo K C) := by
  refine F.ok sc_Reader_quoted (fun vs H Q E h => ?_) (fun cdv A outer s H vs Q E hr h => ?_)
  · obtain ⟨p, L, a, z, x, rfl, _⟩ := h
    rfl
  obtain ⟨p, L, a, z, x, rfl, hR, hN, q⟩ := h
  have hlen := hR.len
  have sl : (S L).length ≤ sizeLine := by rw [S_len]; exact Nat.le_trans hlen (by decide +kernel)
  have sm : (S (msk L)).length ≤ sizeLine := by rw [S_len, msk_length]; exact Nat.le_trans hlen (by decide +kernel)
  have hzL : z < (msk L).length := (List.getElem?_eq_some_iff.mp hN.at_).1
  have hzL' : z < L.length := by rw [msk_length] at hzL; exact hzL
  have haz := hN.aq
  have o34 : Str.ofString "\"" = S [34] := by decide +kernel
  have hf : Txt.find3 (S (msk L)) (S [34]) (a : Int) = (z : Int) := by
    rcases find3_S (msk L) 34 a with ⟨_, hn⟩ | ⟨k, e, h1, h2, hn⟩
    · exact absurd hN.at_ (hn z haz)
    · rw [e]
      have : ¬ k < z := fun h => (hN.bef k h1 h 34 h2).1 rfl
      have : ¬ z < k := fun h => hn z haz h hN.at_
      congr 1
      omega
  have hin : ∀ c ∈ (msk L).drop a |>.take (z - a), c ≠ 34 ∧ c ≠ 10 ∧ c ≠ 92 := fun c hc => by
    obtain ⟨k, hk⟩ := List.mem_iff_getElem?.mp hc
    have hk2 : k < z - a := by
      have := (List.getElem?_eq_some_iff.mp hk).1
      rw [List.length_take] at this
      omega
    rw [List.getElem?_take_of_lt hk2, List.getElem?_drop] at hk
    exact hN.bef (a + k) (by omega) (by omega) c hk
  refine ⟨_, (pss_cons (ps_set (i := 2) sc_Reader_quoted.nd rfl (Or.inl rfl) (pe_bm PySem.F.plainAttrs_str PySem.F.slot_str_find PySem.F.type_str_find mt_find3 (pe_fld (pv 0) rfl) (pa_cons pe_str (pa_cons (pv 1) pa_nil))))
  (pss_cons (ps_if (pt_cmpR op_ltA (pv 2) pe_int (nomark _))
   (pss_one ps_never)
   pss_nil)
  (pss_cons (ps_set (i := 3) sc_Reader_quoted.nd rfl (Or.inl rfl) (pe_slice sl_all (pe_fld (pv 0) rfl) (po_some (pv 1)) (po_some (pv 2))))
  (pss_cons (ps_if (PW.pt (pw_or (pt_cmpR op_in_sign pe_str (pv 3) (by rfl)) (pw_or1 (pt_cmpR op_in_sign pe_str (pv 3) (by rfl)))))
   (pss_one ps_never)
   pss_nil)
  (pss_one (ps_ret (pe_tup (pa_cons (pc G_unescaped (hr.mono (by decide)) (pa_cons (pe_slice sl_all (pe_fld (pv 0) rfl) (po_some (pv 1)) (po_some (pv 2))) pa_nil)) (pa_cons (pe_op op_addA (pv 2) pe_int) pa_nil))))))))), ?_⟩
  walk_at "k"
  walk_at "go"
  refine x_mask T hR ?_
  walk_at "go"
  refine ⟨S (msk L), S [34], a, rfl, by rw [o34], ?_⟩
  rw [hf]
  walk_at "go"
  refine x_mask T hR ?_
  walk_at "go"
  refine .str sm ?_
  rw [cut_S (msk L) a z (by omega) (Nat.le_of_lt hzL)]
  walk_at "go"
  refine ⟨10, S (((msk L).drop a).take (z - a)), by decide +kernel, rfl, ?_⟩
  walk_at "go"
  refine ite_f (decide_eq_false fun h => (hin 10 h).2.1 rfl) ?_
  walk_at "go"
  refine ⟨92, S (((msk L).drop a).take (z - a)), by decide +kernel, rfl, ?_⟩
  walk_at "go"
  refine ite_f (decide_eq_false fun h => (hin 92 h).2.2 rfl) ?_
  walk_at "go"
  refine x_plain T hR ?_
  walk_at "go"
  refine .str sl ?_
  rw [cut_S L a z (by omega) (Nat.le_of_lt hzL')]
  walk_at "go"
  refine ⟨_, rfl, hN.wf, by rw [List.length_take, List.length_drop]; omega, fun H1 s1 => ?_⟩
  walk_at "go"
  refine ⟨by show 2 ≤ sizeLine; decide, fun t ht => ?_⟩
  have ex : S (unesc ((L.drop a).take (z - a))) = x := by rw [← hN.val, S_tl]
  rw [ex]
  exact q _ _ (s1.trans (same_new ht)) (pair_new ht (.str _) (.int _))
end
end Ev
namespace Ev
open PySem PySem.Spec PyProof.Rows L2 Z TL Pl
abbrev S_Reader_value : Stmt := inClass (top 9) 1
abbrev S_Reader_members : Stmt := inClass (top 9) 2
section
variable {P : Program} {w : World} {K : PySem.W.Frag} {mg : Str → Option Value} {base : Heap} {C : Addr}
local macro_rules | `(tactic| walk_at "ar") => `(tactic| ((try dsimp only); first | decide | omega | exact ⟨by omega, by omega⟩ | exact .inl ⟨by omega, by omega⟩ | exact .inr ⟨by omega, by omega⟩ | (unfold CPow; decide)))
local macro_rules | `(tactic| walk_at "rd1") => `(tactic| first
  | (with_reducible refine Z.r_seq ?_) | (with_reducible refine Z.r_ifS ?_) | (with_reducible refine Z.r_asg ?_) | (with_reducible refine Z.r_ret ?_) | (with_reducible refine Z.r_drop ?_)
  | (with_reducible refine Z.r_op ?_) | ((with_reducible refine Z.r_var (v := ?vv) ?hv ?_); (case hv => exact rfl)) | (with_reducible refine Z.r_c ?_) | (with_reducible refine Z.r_gname ?_)
  | (with_reducible refine Z.r_test ?_) | (with_reducible refine Z.r_b ?_) | (with_reducible refine Z.r_bl ?_) | (with_reducible refine Z.r_cb ?_) | (with_reducible refine Z.r_cons ?_) | (with_reducible refine Z.r_nil ?_)
  | (with_reducible refine Z.r_call ?_) | (with_reducible refine Z.r_not ?_) | (with_reducible refine Z.r_and ?_) | (with_reducible refine Z.r_or ?_) | (with_reducible refine Z.r_if ?_) | (with_reducible refine Z.r_un ?_)
  | (with_reducible refine Z.r_tm0 ?_) | (with_reducible refine Z.r_tm1 ?_) | (with_reducible refine Z.r_sl ?_) | (with_reducible refine Z.r_nopart ?_) | (with_reducible refine Z.r_part ?_) | (with_reducible refine Z.r_ofint ?_)
  | (with_reducible refine Z.r_tup ?_) | (with_reducible refine Z.r_lst ?_)
  | (with_reducible refine Z.r_lc ?_) | (with_reducible refine Z.r_for ?_) | (with_reducible refine Z.r_itup ?_) | (with_reducible refine Z.r_ilst ?_) | (with_reducible refine Z.r_irg1 ?_) | (with_reducible refine Z.r_irg2 ?_) | (with_reducible refine Z.r_fldE ?_) | (with_reducible refine Z.r_meth ?_) | (with_reducible refine Z.r_sfld ?_) | (with_reducible refine Z.r_make ?_) | (with_reducible refine Z.r_tyS ?_) | (with_reducible refine Z.r_gcons ?_) | (with_reducible refine Z.r_gnil ?_) | ((with_reducible refine Z.r_aug (x := ?xx) ?ha ?_); (case ha => exact rfl)) | (with_reducible refine Z.r_ip ?_) | (with_reducible refine Z.r_chain ?_)
  | (with_reducible refine Z.r_gsub ?_) | (with_reducible refine Z.r_bm ?_) | (with_reducible refine Z.r_bm0 ?_)
  | ((with_reducible refine Z.r_i ?hc ?_); (case hc => walk_at "ar"))
  | (with_reducible refine Z.RAdd.int ?_) | (with_reducible refine Z.r_i0 ?_) | (with_reducible refine Z.RLt.int ?_) | (with_reducible refine Z.RGt.int ?_) | (with_reducible refine Z.r_isN ?_) | (with_reducible refine Z.r_isB ?_) | (with_reducible refine Z.r_repl ?_) | (with_reducible refine Z.r_ofstr ?_) | (with_reducible refine Z.r_isstr ?_) | (with_reducible refine Z.r_ofref ?_) | (with_reducible refine Z.RInt.int ?_)
  | (with_reducible refine Z.r_next ?_) | (with_reducible refine Z.r_brk ?_) | (with_reducible refine Z.r_cont ?_) | (with_reducible refine Z.r_retN ?_) | (with_reducible refine Z.r_truB ?_) | (with_reducible refine Z.r_tru ?_) | (with_reducible refine Z.r_andV ?_) | (with_reducible refine Z.r_orV ?_) | (with_reducible refine Z.r_notV ?_))
local macro_rules | `(tactic| walk_at "rd") => `(tactic| (repeat walk_at "rd1"))
local macro_rules | `(tactic| walk_at "br") => `(tactic| first | refine Z.ite_t (by first | rfl | assumption | decide) ?_ | refine Z.ite_f (by first | rfl | assumption | decide) ?_)
local macro_rules | `(tactic| walk_at "isi") => `(tactic| first | ((with_reducible refine Z.isi_bool (d := ?dd) ?hi ?_); (case hi => assumption)) | ((with_reducible refine Z.isi_int (d := ?dd) ?hi ?_); (case hi => assumption)) | ((with_reducible refine Z.isi_str (d := ?dd) ?hi ?_); (case hi => assumption)) | ((with_reducible refine Z.isi_tuple (d := ?dd) ?hi ?_); (case hi => assumption)))
local macro_rules | `(tactic| walk_at "go") => `(tactic| (repeat (first | walk_at "rd1" | walk_at "isi" | walk_at "br")))
local macro_rules | `(tactic| walk_at "k") => `(tactic| dsimp only [cxOf, Cx.nox, Cx.wish])
theorem sc_Reader_value : FnScope ["self", "at", "depth", "sign"] ["self", "at", "depth"] (defScope S_Reader_value) := ⟨rfl, rfl, rfl, by decide +kernel, rfl, by decide +kernel, by decide +kernel⟩
theorem sc_Reader_members : FnScope ["self", "at", "depth", "rows", "value", "sign"] ["self", "at", "depth"] (defScope S_Reader_members) := ⟨rfl, rfl, rfl, by decide +kernel, rfl, by decide +kernel, by decide +kernel⟩
/-- what WORDS holds at a text -/
def wordV (z : Str) : Option Value := if z = "T" then some (.bool true) else if z = "F" then some (.bool false) else if z = "N" then some .none else none
structure TxtW (K : PySem.W.Frag) (w : World) (mg : Str → Option Value) (dW : Addr) : Prop where
  g : mg "WORDS" = some (.ref dW)
  kd : ∃ es n, KDict K w dW es n
  wd : ∀ z, PySem.W.nsIn K dW z = some (wordV z)
theorem S1_inj {c d : Nat} (h : S [c] = S [d]) : c = d := by
  have := congrArg tl h
  rw [tl_S, tl_S] at this
  injection this
theorem S1_eq {c d : Nat} {lit : Str} (h : lit = S [d]) : (S [c] = lit) ↔ c = d := by
  rw [h]
  exact ⟨S1_inj, fun e => by rw [e]⟩
theorem oT : ("T" : Str) = S [84] := by decide +kernel
theorem oF : ("F" : Str) = S [70] := by decide +kernel
theorem oN : ("N" : Str) = S [78] := by decide +kernel
theorem wordV_S (c : Nat) : wordV (S [c]) = if c = 84 then some (.bool true) else if c = 70 then some (.bool false) else if c = 78 then some .none else none := by
  unfold wordV
  simp only [S1_eq oT, S1_eq oF, S1_eq oN]
theorem eqS {c d : Nat} {lit : Str} {H : Hp} {R : VK} (h : lit = S [d]) (q : R (.bl (decide (c = d))) H) : REq K false (.str (S [c])) (.str lit) H R := by
  subst h
  refine .sc rfl ?_
  show R (.bl (decide (V.str (S [c]) = V.str (S [d])))) H
  rw [dec1]
  exact q
theorem neS {c d : Nat} {lit : Str} {H : Hp} {R : VK} (h : lit = S [d]) (q : R (.bl (!decide (c = d))) H) : REq K true (.str (S [c])) (.str lit) H R := by
  subst h
  refine .sc rfl ?_
  show R (.bl (!decide (V.str (S [c]) = V.str (S [d])))) H
  rw [dec1]
  exact q
theorem sgn_some {L : List Nat} {a c : Nat} (h : L[a]? = some c) : sgn L a = [c] := by unfold sgn; rw [h]
/-- a value is read, n tuples may be opened -/
def spVal (K : PySem.W.Frag) (C : Addr) (n : Nat) : Sp := fun vs H Q _ => ∃ (p : Addr) (L : List Nat) (a e : Nat) (dep : Int) (d : D), vs = [.ref p, .int a, .int dep] ∧ dep + n = 40 ∧ Rdr C H p L ∧ Rd L n a d e ∧
  ∀ v H', Same H H' → Im K H' v (.tuple [d, .int e]) → Q v H'
def spMem (K : PySem.W.Frag) (C : Addr) (n : Nat) : Sp := fun vs H Q _ => ∃ (k : Nat) (p : Addr) (L : List Nat) (a e : Nat) (dep : Int) (ds : List D), n = k + 1 ∧ vs = [.ref p, .int a, .int dep] ∧ dep + k = 40 ∧ Rdr C H p L ∧
  ((L[a]? = some 41 ∧ ds = [] ∧ e = a + 1) ∨ ((∃ c, L[a]? = some c ∧ c ≠ 41) ∧ Lp L k a ds e)) ∧ ∀ v H', Same H H' → Im K H' v (.tuple [.tuple ds, .int e]) → Q v H'
theorem word_im {c : Nat} {d : D} (h : wordOf c = some d) : ∃ (u : Value) (x : V), wordV (S [c]) = some u ∧ RelV x u ∧ ∀ H, Im K H x d := by
  rw [wordV_S]
  unfold wordOf at h
  split at h
  · cases h
    exact ⟨.bool true, .bl true, by rw [if_pos ‹_›], rfl, fun _ => .bl true⟩
  · split at h
    · cases h
      rename_i h1 h2
      exact ⟨.bool false, .bl false, by rw [if_neg h1, if_pos h2], rfl, fun _ => .bl false⟩
    · split at h
      · cases h
        rename_i h1 h2 h3
        exact ⟨.none, .non, by rw [if_neg h1, if_neg h2, if_pos h3], rfl, fun _ => .non⟩
      · cases h
theorem ok_value {n : Nat} {f g1 g2 g3 dW : Addr} {fd d1 d2 d3 : FuncData} (F : Fun K "value" "Reader.value" S_Reader_value f fd) (T : TxtR K mg C) (W : TxtW K w mg dW) {tk : Tok} (hP : mg "DEPTH_AT_MOST" = some (.int 40 tk))
    (G_quoted : Gm P w K mg base CX0 2 C "quoted" g1 d1 ["self", "at"] (spQuo K C)) (G_number : Gm P w K mg base CX0 2 C "number" g2 d2 ["self", "at"] (spNum K C))
    (G_members : Gm P w K mg base CX0 (2 * n + 2) C "members" g3 d3 ["self", "at", "depth"] (spMem K C n)) :
    FnOk P w K mg base CX0 (2 * n + 3) f fd ["self", "at", "depth"] (spVal K C n) := by
  refine F.ok sc_Reader_value (fun vs H Q E h => ?_) (fun cdv A outer s H vs Q E hr h => ?_)
  · obtain ⟨p, L, a, e, dep, d, rfl, _⟩ := h
    rfl
  obtain ⟨p, L, a, e, dep, d, rfl, hdep, hR, hd, q⟩ := h
  obtain ⟨es, nn, D⟩ := W.kd
  have hlen := hR.len
  have sl : (S L).length ≤ sizeLine := by rw [S_len]; exact Nat.le_trans hlen (by decide +kernel)
  have o34 : Str.ofString "\"" = S [34] := by decide +kernel
  have o40 : Str.ofString "(" = S [40] := by decide +kernel
  have o45 : Str.ofString "-" = S [45] := by decide +kernel
  obtain ⟨c, hc⟩ : ∃ c, L[a]? = some c := by
    cases hd with
    | wrd h _ => exact ⟨_, h⟩
    | quo h _ => exact ⟨_, h⟩
    | num h => rcases h.sgn with ⟨z, _⟩ | ⟨⟨c, z, _⟩, _⟩ <;> exact ⟨_, z⟩
    | tup0 h _ => exact ⟨_, h⟩
    | tup h _ _ => exact ⟨_, h⟩
  refine ⟨_, (pss_cons (ps_set (i := 3) sc_Reader_value.nd rfl (Or.inl rfl) (pe_slice sl_all (pe_fld (pv 0) rfl) (po_some (pv 1)) (po_some (pe_op op_addA (pv 1) pe_int))))
  (pss_cons (ps_if (pt_cmpR (op_in_kd D) (pv 3) (pe_glob (v := .ref dW) rfl W.g rfl) (by rfl))
   (pss_one (ps_ret (pe_tup (pa_cons (pe_ix ix_kdict (pe_glob (v := .ref dW) rfl W.g rfl) (pv 3) (fun _ _ => rfl)) (pa_cons (pe_op op_addA (pv 1) pe_int) pa_nil)))))
   pss_nil)
  (pss_cons (ps_if (pt_cmpR (op_eqA hr.units) (pv 3) pe_str (nomark _))
   (pss_one (ps_ret (pe_meth (pv 0) T.cl_Reader G_quoted.m G_quoted.ok (hr.mono (by omega)) G_quoted.bi .nil pass0 (pa_cons (pe_op op_addA (pv 1) pe_int) pa_nil))))
   pss_nil)
  (pss_cons (ps_if (PW.pt (pw_and (pt_cmpR (op_eqA hr.units) (pv 3) pe_str (nomark _)) (pw_and1 (pt_cmpR op_ltA (pv 2) (pe_glob (v := .int 40) rfl hP ⟨_, rfl⟩) (nomark _)))))
   (pss_one (ps_ret (pe_meth (pv 0) T.cl_Reader G_members.m G_members.ok (hr.mono (by omega)) G_members.bi .nil pass0 (pa_cons (pe_op op_addA (pv 1) pe_int) (pa_cons (pe_op op_addA (pv 2) pe_int) pa_nil)))))
   pss_nil)
  (pss_cons (ps_if (PW.pt (pw_or (pt_cmpR (op_eqA hr.units) (pv 3) pe_str (nomark _)) (pw_or1 (pt_val (pe_m0 PySem.F.slot_str_isdigit PySem.F.type_str_isdigit mt_isdigit (pv 3))))))
   (pss_one (ps_ret (pe_meth (pv 0) T.cl_Reader G_number.m G_number.ok (hr.mono (by omega)) G_number.bi .nil pass0 (pa_cons (pv 1) pa_nil))))
   pss_nil)
  (pss_one ps_never)))))), ?_⟩
  walk_at "k"
  walk_at "go"
  refine x_plain T hR ?_
  walk_at "go"
  refine .str sl ?_
  rw [cut_one, sgn_some hc]
  walk_at "go"
  refine ⟨_, _, rfl, rfl, W.wd _, ?_⟩
  walk_at "go"
  cases hd with
  | wrd h hw =>
    rw [hc] at h
    cases h
    obtain ⟨u, x, e1, e2, e3⟩ := word_im (K := K) hw
    rw [e1]
    walk_at "go"
    refine ⟨dW, _, x, rfl, rfl, ⟨es, nn, u, D.at_, D.lit, (W.wd _).trans (congrArg some e1), e2⟩, ?_⟩
    walk_at "go"
    refine ⟨by show 2 ≤ sizeLine; decide, fun t ht => ?_⟩
    exact q _ _ (same_new ht) (pair_new ht (e3 _) (.int _))
  | quo h hw =>
    rw [hc] at h
    cases h
    have e1 : wordV (S [34]) = none := by rw [wordV_S]; rfl
    rw [e1]
    walk_at "go"
    refine eqS o34 ?_
    walk_at "go"
    refine x_rmeth hR (by decide +kernel) (by decide +kernel) ?_
    walk_at "go"
    refine ⟨p, L, a + 1, _, _, rfl, hR, hw, fun v H1 s1 h1 => ?_⟩
    walk_at "go"
    exact q v H1 s1 h1
  | num h =>
    have hcd : c = 45 ∨ dig c := by
      rcases h.sgn with ⟨z, _⟩ | ⟨⟨c', z, y⟩, _⟩
      · rw [hc] at z; cases z; exact .inl rfl
      · rw [hc] at z; cases z; exact .inr y
    have hne : c ≠ 84 ∧ c ≠ 70 ∧ c ≠ 78 ∧ c ≠ 34 ∧ c ≠ 40 := by
      unfold dig at hcd
      omega
    have e1 : wordV (S [c]) = none := by rw [wordV_S, if_neg hne.1, if_neg hne.2.1, if_neg hne.2.2.1]
    rw [e1]
    walk_at "go"
    refine eqS o34 ?_
    walk_at "go"
    refine ite_f (decide_eq_false hne.2.2.2.1) ?_
    walk_at "go"
    refine eqS o40 ?_
    walk_at "go"
    refine ite_f (decide_eq_false hne.2.2.2.2) ?_
    walk_at "go"
    refine eqS o45 ?_
    walk_at "go"
    by_cases h45 : c = 45
    · refine ite_t (decide_eq_true h45) ?_
      walk_at "go"
      refine x_rmeth hR (by decide +kernel) (by decide +kernel) ?_
      walk_at "go"
      refine ⟨p, L, a, _, _, _, rfl, hR, h, fun v H1 s1 h1 => ?_⟩
      walk_at "go"
      exact q v H1 s1 h1
    · refine ite_f (decide_eq_false h45) ?_
      walk_at "go"
      have hdc : dig c := by rcases hcd with z | z; exact absurd z h45; exact z
      refine ⟨rfl, trivial, ?_⟩
      rw [isdigit_S [c] (fun x hx => by rw [List.mem_singleton.mp hx]; unfold dig at hdc; omega)]
      walk_at "go"
      refine ite_t (by simp [hdc]) ?_
      walk_at "go"
      refine x_rmeth hR (by decide +kernel) (by decide +kernel) ?_
      walk_at "go"
      refine ⟨p, L, a, _, _, _, rfl, hR, h, fun v H1 s1 h1 => ?_⟩
      walk_at "go"
      exact q v H1 s1 h1
  | @tup0 k _ h h1 =>
    rw [hc] at h
    cases h
    have e1 : wordV (S [40]) = none := by rw [wordV_S]; rfl
    rw [e1]
    walk_at "go"
    refine eqS o34 ?_
    walk_at "go"
    refine eqS o40 ?_
    walk_at "go"
    refine ite_t (decide_eq_true (by omega)) ?_
    walk_at "go"
    refine x_rmeth hR (by decide +kernel) (by decide +kernel) ?_
    walk_at "go"
    refine ⟨k, p, L, a + 1, _, dep + 1, [], rfl, rfl, by omega, hR, .inl ⟨h1, rfl, rfl⟩, fun v H1 s1 h1 => ?_⟩
    walk_at "go"
    exact q v H1 s1 h1
  | @tup k _ _ ds h h1 hw =>
    rw [hc] at h
    cases h
    have e1 : wordV (S [40]) = none := by rw [wordV_S]; rfl
    have hc1 : ∃ c, L[a + 1]? = some c ∧ c ≠ 41 := by
      have := hw.on
      refine ⟨L[a + 1]'(by omega), List.getElem?_eq_getElem (by omega), fun z => h1 ?_⟩
      rw [List.getElem?_eq_getElem (by omega), z]
    rw [e1]
    walk_at "go"
    refine eqS o34 ?_
    walk_at "go"
    refine eqS o40 ?_
    walk_at "go"
    refine ite_t (decide_eq_true (by omega)) ?_
    walk_at "go"
    refine x_rmeth hR (by decide +kernel) (by decide +kernel) ?_
    walk_at "go"
    refine ⟨k, p, L, a + 1, _, dep + 1, ds, rfl, rfl, by omega, hR, .inr ⟨hc1, hw⟩, fun v H1 s1 h1 => ?_⟩
    walk_at "go"
    exact q v H1 s1 h1
theorem ok_members {n : Nat} {f g : Addr} {fd gd : FuncData} (F : Fun K "members" "Reader.members" S_Reader_members f fd) (T : TxtR K mg C)
    (G_value : Gm P w K mg base CX0 (2 * n + 3) C "value" g gd ["self", "at", "depth"] (spVal K C n)) :
    FnOk P w K mg base CX0 (2 * (n + 1) + 2) f fd ["self", "at", "depth"] (spMem K C (n + 1)) := by
  refine F.ok sc_Reader_members (fun vs H Q E h => ?_) (fun cdv A outer s H vs Q E hr h => ?_)
  · obtain ⟨k, p, L, a, e, dep, ds, _, rfl, _⟩ := h
    rfl
  obtain ⟨k, p, L, a, e, dep, ds, hk, rfl, hdep, hR, hd, q⟩ := h
  have hk' : k = n := by omega
  subst hk'
  have hlen := hR.len
  have sl : (S L).length ≤ sizeLine := by rw [S_len]; exact Nat.le_trans hlen (by decide +kernel)
  have o41 : Str.ofString ")" = S [41] := by decide +kernel
  have o32 : Str.ofString " " = S [32] := by decide +kernel
  obtain ⟨c, hc⟩ : ∃ c, L[a]? = some c := by
    rcases hd with ⟨h, _⟩ | ⟨⟨c, h, _⟩, _⟩ <;> exact ⟨_, h⟩
  refine ⟨_, (pss_cons (ps_if (pt_cmpR (op_eqA hr.units) (pe_slice sl_all (pe_fld (pv 0) rfl) (po_some (pv 1)) (po_some (pe_op op_addA (pv 1) pe_int))) pe_str (nomark _))
   (pss_one (ps_ret (pe_tup (pa_cons (pe_tup pa_nil) (pa_cons (pe_op op_addA (pv 1) pe_int) pa_nil)))))
   pss_nil)
  (pss_cons (ps_set (i := 3) sc_Reader_members.nd rfl (Or.inl rfl) (pe_lst pa_nil))
  (pss_one (ps_while PassesOwn.never (pt_val pe_bl)
   (pss_cons (ps_asg (pe_meth (pv 0) T.cl_Reader G_value.m G_value.ok (hr.mono (by omega)) G_value.bi .nil pass0 (pa_cons (pv 1) (pa_cons (pv 2) pa_nil))) (pg_tup rfl (pgs_cons (pg_name (i := 4) sc_Reader_members.nd rfl (Or.inl rfl)) (pgs_cons (pg_name (i := 1) sc_Reader_members.nd rfl (Or.inl rfl)) pgs_nil))))
  (pss_cons (ps_expr (pe_bm PySem.F.plainAttrs_list PySem.F.slot_list_append PySem.F.type_list_append mt_append (pv 3) (pa_cons (pv 4) pa_nil)))
  (pss_cons (ps_set (i := 5) sc_Reader_members.nd rfl (Or.inl rfl) (pe_slice sl_all (pe_fld (pv 0) rfl) (po_some (pv 1)) (po_some (pe_op op_addA (pv 1) pe_int))))
  (pss_cons (ps_if (pt_cmpR (op_eqA hr.units) (pv 5) pe_str (nomark _))
   (pss_one (ps_ret (pe_tup (pa_cons (pe_callTy call_tuple_of (by rfl) T.z_tuple Z.b_tuple (pa_cons (pv 3) pa_nil)) (pa_cons (pe_op op_addA (pv 1) pe_int) pa_nil)))))
   pss_nil)
  (pss_cons (ps_if (pt_cmpR (op_neA hr.units) (pv 5) pe_str (nomark _))
   (pss_one ps_never)
   pss_nil)
  (pss_one (ps_aug (i := 1) sc_Reader_members.nd rfl (Or.inl rfl) pe_int ip_add))))))))))), ?_⟩
  walk_at "k"
  walk_at "go"
  refine x_plain T hR ?_
  walk_at "go"
  refine .str sl ?_
  rw [cut_one, sgn_some hc]
  walk_at "go"
  refine eqS o41 ?_
  walk_at "go"
  rcases hd with ⟨h, rfl, rfl⟩ | ⟨⟨c', h, h41⟩, hw⟩
  · rw [hc] at h
    cases h
    walk_at "go"
    refine ⟨by show 0 ≤ sizeLine; decide, fun t ht => ?_⟩
    walk_at "go"
    refine ⟨by show 2 ≤ sizeLine; decide, fun t2 ht2 => ?_⟩
    exact q _ _ ((same_new ht).trans (same_new ht2)) (pair_new ht2 (Im.new_tup ht .nil) (.int _))
  rw [hc] at h
  cases h
  refine ite_f (decide_eq_false h41) ?_
  walk_at "go"
  refine ⟨by show 0 ≤ sizeLine; decide, fun r hr0 => ?_⟩
  walk_at "go"
  refine ⟨fun m σ H' => ∃ (a' : Nat) (x1 x2 : Option V) (xs : List V) (dn dr : List D), m = L.length - a' ∧ dn.length ≤ a' ∧ Lp L k a' dr e ∧ dn ++ dr = ds ∧ σ = [some (.ref p), some (.int a'), some (.int dep), some (.ref r), x1, x2] ∧ Same H H' ∧ H' r = some (.lst xs) ∧ ImA K H' xs dn,
    ⟨_, a, none, none, [], [], ds, rfl, Nat.zero_le _, hw, rfl, rfl, same_new hr0, upd_same, .nil⟩, ?_⟩
  rintro m σ H' ⟨a', x1, x2, xs, dn, dr, rfl, hda, hL, hds, rfl, s1, e1, im1⟩
  walk_at "go"
  refine ⟨fun σ' H' => ∃ m', m' < L.length - a' ∧ ∃ (a' : Nat) (x1 x2 : Option V) (xs : List V) (dn dr : List D), m' = L.length - a' ∧ dn.length ≤ a' ∧ Lp L k a' dr e ∧ dn ++ dr = ds ∧ σ' = [some (.ref p), some (.int a'), some (.int dep), some (.ref r), x1, x2] ∧ Same H H' ∧ H' r = some (.lst xs) ∧ ImA K H' xs dn, fun _ _ z => z, ?_⟩
  walk_at "go"
  refine x_rmeth (hR.same s1) (by decide +kernel) (by decide +kernel) ?_
  walk_at "go"
  -- the next member
  have rest : ∃ (d : D) (e1 : Nat), Rd L k a' d e1 ∧ ((L[e1]? = some 41 ∧ dr = [d] ∧ e = e1 + 1) ∨ (L[e1]? = some 32 ∧ ∃ dr', dr = d :: dr' ∧ Lp L k (e1 + 1) dr' e)) := by
    cases hL with
    | one w h => exact ⟨_, _, w, .inl ⟨h, rfl, rfl⟩⟩
    | more w h r => exact ⟨_, _, w, .inr ⟨h, _, rfl, r⟩⟩
  obtain ⟨d, e1', hd, hrest⟩ := rest
  refine ⟨p, L, a', e1', dep, d, rfl, by omega, hR.same s1, hd, fun v H1 s2 hv => ?_⟩
  obtain ⟨t, ys, rfl, ht, hys⟩ := hv.of_tup
  cases hys with
  | @cons y0 _ _ _ hy hys =>
  cases hys with
  | @cons y1 _ _ _ hy1 hys =>
  cases hys
  cases hy1
  walk_at "go"
  refine r_gtup ht rfl ?_
  walk_at "go"
  have e2 := s2 _ _ e1
  refine r_tyL (SqL.of e2) ?_
  walk_at "go"
  have hxl : xs.length = dn.length := im1.len
  have hdl : dn.length ≤ L.length := by have := hL.on; omega
  refine r_app e2 (by rw [hxl]; exact Nat.lt_of_le_of_lt (Nat.le_trans hdl hlen) (by decide +kernel)) ?_
  have tk : Tk K H1 (upd H1 r (.lst (xs ++ [y0]))) := Tk.lst e2
  have s3 : Same H (upd H1 r (.lst (xs ++ [y0]))) := same_mut (s1.trans s2) hr0
  have im3 : ImA K (upd H1 r (.lst (xs ++ [y0]))) (xs ++ [y0]) (dn ++ [d]) := ((im1.same s2).ts tk).snoc (hy.ts tk)
  walk_at "go"
  refine x_plain T (hR.same s3) ?_
  walk_at "go"
  refine .str sl ?_
  have hon := hd.on
  rcases hrest with ⟨h41, rfl, rfl⟩ | ⟨h32, dr', rfl, hL'⟩
  · rw [cut_one, sgn_some h41]
    walk_at "go"
    refine eqS o41 ?_
    walk_at "go"
    refine ⟨r, _, rfl, .inl ⟨SqL.of upd_same, fun l hl => ?_⟩⟩
    walk_at "go"
    refine ⟨by show 2 ≤ sizeLine; decide, fun t2 ht2 => ?_⟩
    rw [← hds] at q
    exact q _ _ (s3.trans ((same_new hl).trans (same_new ht2))) (pair_new ht2 (Im.new_tup hl im3) (.int _))
  · rw [cut_one, sgn_some h32]
    walk_at "go"
    refine eqS o41 ?_
    walk_at "go"
    refine neS o32 ?_
    walk_at "go"
    exact ⟨_, by omega, e1' + 1, _, _, _, dn ++ [d], dr', rfl, by rw [List.length_append]; show dn.length + 1 ≤ _; omega, hL', by rw [← hds]; simp, rfl, s3, upd_same, im3⟩
end
end Ev
namespace Ev
open PySem PySem.Spec PyProof.Rows L2 Z TL Pl
abbrev S_show_plain : Stmt := top 7
abbrev S_law_plain : Stmt := top 17
section
variable {P : Program} {w : World} {K : PySem.W.Frag} {mg : Str → Option Value} {base : Heap}
local macro_rules | `(tactic| walk_at "ar") => `(tactic| ((try dsimp only); first | decide | omega | exact ⟨by omega, by omega⟩ | exact .inl ⟨by omega, by omega⟩ | exact .inr ⟨by omega, by omega⟩ | (unfold CPow; decide)))
local macro_rules | `(tactic| walk_at "rd1") => `(tactic| first
  | (with_reducible refine Z.r_seq ?_) | (with_reducible refine Z.r_ifS ?_) | (with_reducible refine Z.r_asg ?_) | (with_reducible refine Z.r_ret ?_) | (with_reducible refine Z.r_drop ?_)
  | (with_reducible refine Z.r_op ?_) | ((with_reducible refine Z.r_var (v := ?vv) ?hv ?_); (case hv => exact rfl)) | (with_reducible refine Z.r_c ?_) | (with_reducible refine Z.r_gname ?_)
  | (with_reducible refine Z.r_test ?_) | (with_reducible refine Z.r_b ?_) | (with_reducible refine Z.r_bl ?_) | (with_reducible refine Z.r_cb ?_) | (with_reducible refine Z.r_cons ?_) | (with_reducible refine Z.r_nil ?_)
  | (with_reducible refine Z.r_call ?_) | (with_reducible refine Z.r_not ?_) | (with_reducible refine Z.r_and ?_) | (with_reducible refine Z.r_or ?_) | (with_reducible refine Z.r_if ?_) | (with_reducible refine Z.r_un ?_)
  | (with_reducible refine Z.r_tm0 ?_) | (with_reducible refine Z.r_tm1 ?_) | (with_reducible refine Z.r_sl ?_) | (with_reducible refine Z.r_nopart ?_) | (with_reducible refine Z.r_part ?_) | (with_reducible refine Z.r_ofint ?_)
  | (with_reducible refine Z.r_tup ?_) | (with_reducible refine Z.r_lst ?_)
  | (with_reducible refine Z.r_lc ?_) | (with_reducible refine Z.r_for ?_) | (with_reducible refine Z.r_itup ?_) | (with_reducible refine Z.r_ilst ?_) | (with_reducible refine Z.r_irg1 ?_) | (with_reducible refine Z.r_irg2 ?_) | (with_reducible refine Z.r_fldE ?_) | (with_reducible refine Z.r_meth ?_) | (with_reducible refine Z.r_sfld ?_) | (with_reducible refine Z.r_make ?_) | (with_reducible refine Z.r_tyS ?_) | (with_reducible refine Z.r_gcons ?_) | (with_reducible refine Z.r_gnil ?_) | ((with_reducible refine Z.r_aug (x := ?xx) ?ha ?_); (case ha => exact rfl)) | (with_reducible refine Z.r_ip ?_) | (with_reducible refine Z.r_chain ?_)
  | (with_reducible refine Z.r_gsub ?_) | (with_reducible refine Z.r_bm ?_) | (with_reducible refine Z.r_bm0 ?_)
  | ((with_reducible refine Z.r_i ?hc ?_); (case hc => walk_at "ar"))
  | (with_reducible refine Z.RAdd.int ?_) | (with_reducible refine Z.r_i0 ?_) | (with_reducible refine Z.RLt.int ?_) | (with_reducible refine Z.RGt.int ?_) | (with_reducible refine Z.r_isN ?_) | (with_reducible refine Z.r_isB ?_) | (with_reducible refine Z.r_repl ?_) | (with_reducible refine Z.r_ofstr ?_) | (with_reducible refine Z.r_isstr ?_) | (with_reducible refine Z.r_ofref ?_) | (with_reducible refine Z.RInt.int ?_)
  | (with_reducible refine Z.r_next ?_) | (with_reducible refine Z.r_brk ?_) | (with_reducible refine Z.r_cont ?_) | (with_reducible refine Z.r_retN ?_) | (with_reducible refine Z.r_truB ?_) | (with_reducible refine Z.r_tru ?_) | (with_reducible refine Z.r_andV ?_) | (with_reducible refine Z.r_orV ?_) | (with_reducible refine Z.r_notV ?_))
local macro_rules | `(tactic| walk_at "rd") => `(tactic| (repeat walk_at "rd1"))
local macro_rules | `(tactic| walk_at "br") => `(tactic| first | refine Z.ite_t (by first | rfl | assumption | decide) ?_ | refine Z.ite_f (by first | rfl | assumption | decide) ?_)
local macro_rules | `(tactic| walk_at "isi") => `(tactic| first | ((with_reducible refine Z.isi_bool (d := ?dd) ?hi ?_); (case hi => assumption)) | ((with_reducible refine Z.isi_int (d := ?dd) ?hi ?_); (case hi => assumption)) | ((with_reducible refine Z.isi_str (d := ?dd) ?hi ?_); (case hi => assumption)) | ((with_reducible refine Z.isi_tuple (d := ?dd) ?hi ?_); (case hi => assumption)))
local macro_rules | `(tactic| walk_at "go") => `(tactic| (repeat (first | walk_at "rd1" | walk_at "isi" | walk_at "br")))
local macro_rules | `(tactic| walk_at "k") => `(tactic| dsimp only [cxOf, Cx.nox, Cx.wish])
theorem sc_show_plain : FnScope ["value", "text", "part"] ["value"] (defScope S_show_plain) := ⟨rfl, rfl, rfl, by decide +kernel, rfl, by decide +kernel, by decide +kernel⟩
theorem sc_law_plain : FnScope ["value", "one"] ["value"] (defScope S_law_plain) := ⟨rfl, rfl, rfl, by decide +kernel, rfl, by decide +kernel, by decide +kernel⟩
theorem join_len : ∀ (ps : List (List Nat)), (ps.map List.length).sum + ps.length ≤ (joinL [32] ps).length + 1
  | [] => by decide
  | [p] => by show p.length + 0 + 1 ≤ _; exact Nat.le_refl _
  | p :: q :: r => by
    have ih := join_len (q :: r)
    have e : (joinL [32] (p :: q :: r)).length = p.length + (1 + (joinL [32] (q :: r)).length) := by
      show (p ++ ([32] ++ joinL [32] (q :: r))).length = _
      simp only [List.length_append, List.length_singleton]
    rw [e, List.map_cons, List.sum_cons, List.length_cons]
    omega
theorem mem_join : ∀ (ps : List (List Nat)) (p : List Nat), p ∈ ps → p.length ≤ (joinL [32] ps).length
  | [], p, h => by cases h
  | [q], p, h => by
    rw [List.mem_singleton.mp h]
    exact Nat.le_refl _
  | a :: q :: r, p, h => by
    have e : (joinL [32] (a :: q :: r)).length = a.length + (1 + (joinL [32] (q :: r)).length) := by
      show (a ++ ([32] ++ joinL [32] (q :: r))).length = _
      simp only [List.length_append, List.length_singleton]
    rcases List.mem_cons.mp h with rfl | h
    · omega
    · have := mem_join (q :: r) p h
      omega
/-- the text of a value that is drawn, within n - 1 tuples -/
def spShow (K : PySem.W.Frag) (n : Nat) : Sp := fun vs H Q _ => ∃ (v : V) (d : D) (k : Nat), n = k + 1 ∧ vs = [v] ∧ Im K H v d ∧ OkD k d ∧ (txt d).length ≤ 1000000 ∧ ∀ H', Same H H' → Q (.str (S (txt d))) H'
theorem shown_str (s : Str) : tl (Txt.replace (Txt.replace (Txt.replace s "\\" "\\\\") "\"" "\\\"") "\n" "\\n") = esc (tl s) := by
  rw [repl_tl (by decide +kernel), repl_tl (by decide +kernel), repl_tl (by decide +kernel), ← escP]
  rfl
theorem no_show {f : Addr} {fd : FuncData} : FnOk P w K mg base CX0 0 f fd ["value"] (spShow K 0) := by
  have no : ∀ vs H Q E, ¬ spShow K 0 vs H Q E := fun vs H Q E h => by
    obtain ⟨v, d, k, e, _⟩ := h
    omega
  exact ⟨fun vs H Q E h => absurd h (no vs H Q E), fun A outer s H args us vs Q E _ _ _ _ h => absurd h (no vs H Q E)⟩
theorem ok_show_plain {n : Nat} {f : Addr} {fd : FuncData} (F : Fun K "show_plain" "show_plain" S_show_plain f fd) (T : Txt K mg) (G_show_plain : Gd P w K mg base CX0 n "show_plain" f fd ["value"] (spShow K n)) : FnOk P w K mg base CX0 (n + 1) f fd ["value"] (spShow K (n + 1)) := by
  refine ZT.okT F sc_show_plain (by decide +kernel) (by decide) (fun vs H Q E h => ?_) (fun cdv A outer s H vs Q E hr h => ?_)
  · obtain ⟨v, d, k, _, rfl, _⟩ := h
    rfl
  obtain ⟨v, d, k, hk, rfl, hv, hd, hl, q⟩ := h
  have hk' : k = n := by omega
  subst hk'
  refine ⟨_, (psst_cons (PST.of (ps_if (pt_cmpR op_isA (pv 0) pe_non (nomark _))
   (pss_one (ps_ret pe_str))
   pss_nil))
  (psst_cons (PST.of (ps_if (pt_val (pe_callB call_isi (by rfl) T.z_isinstance Z.b_isinstance (pa_cons (pv 0) (pa_cons (pe_bltn (v := .ty "bool") (by rfl) T.z_bool Z.b_bool rfl) pa_nil))))
   (pss_one (ps_ret (pe_ifExp (pt_val (pv 0)) pe_str pe_str)))
   pss_nil))
  (psst_cons (PST.of (ps_if (pt_val (pe_callB call_isi (by rfl) T.z_isinstance Z.b_isinstance (pa_cons (pv 0) (pa_cons (pe_bltn (v := .ty "int") (by rfl) T.z_int Z.b_int rfl) pa_nil))))
   (pss_one (ps_ret (pe_callTy call_str_int (by rfl) T.z_str Z.b_str (pa_cons (pv 0) pa_nil))))
   pss_nil))
  (psst_cons (CwR.pst_if (pt_val (pe_callB call_isi (by rfl) T.z_isinstance Z.b_isinstance (pa_cons (pv 0) (pa_cons (pe_bltn (v := .ty "str") (by rfl) T.z_str Z.b_str rfl) pa_nil))))
   (psst_cons (ZT.pst_set (i := 1) sc_show_plain.nd rfl (Or.inl rfl) (CwR.pet_replT (CwR.pet_replT (CwR.pet_replC (pv 0)))))
  (CwR.psst_one (PST.of (ps_ret (pe_op op_addA (pe_op op_addA pe_str (pv 1)) pe_str)))))
   CwR.psst_nil)
  (CwR.psst_one (PST.of (ps_ret (pe_op op_addA (pe_op op_addA pe_str (pe_join pe_str (pe_lc (own := [("part", 2)]) (g := gName 2) (tt := tYes) rfl sc_show_plain.nd (pi_tup (pv 0)) (blkOk_by (own := [("part", 2)]) (N := ["value", "text", "part"]) (sc := defScope S_show_plain) (by decide +kernel)) (fun _ _ _ _ _ => pg_name (i := 2) sc_show_plain.nd rfl (Or.inl rfl)) (fun _ _ _ _ _ => pts_nil) (fun _ _ _ _ _ => (pc G_show_plain (hr) (pa_cons (pv 2) pa_nil)))))) pe_str)))))))), ?_⟩
  walk_at "k"
  have hv' := hv
  cases hd with
  | non =>
    cases hv
    walk_at "go"
    exact q _ (Same.refl _)
  | bl b =>
    cases hv
    cases b <;> (walk_at "go"; exact q _ (Same.refl _))
  | @int _ i hi =>
    cases hv
    walk_at "go"
    refine ⟨i, rfl, ?_, ?_⟩
    · by_cases h0 : i.natAbs = 0
      · rw [h0]; decide
      · exact Nat.lt_trans ((Nat.log2_lt h0).mpr (Nat.lt_of_lt_of_le hi (by decide : 10 ^ 21 ≤ 2 ^ 70))) (by decide)
    · have := q _ (Same.refl _)
      rw [txt, S_tl] at this
      exact this
  | @str _ s hc hs =>
    cases hv
    walk_at "go"
    have e1 := repl_le (x := s) (y := "\\") (z := "\\\\") (n := 8) (m := 2) hs (by decide +kernel)
    have e2 := repl_le (x := Txt.replace s "\\" "\\\\") (y := "\"") (z := "\\\"") (n := 26) (m := 2) e1 (by decide +kernel)
    have e3 := repl_le (x := Txt.replace (Txt.replace s "\\" "\\\\") "\"" "\\\"") (y := "\n") (z := "\\n") (n := 80) (m := 2) e2 (by decide +kernel)
    refine ⟨fit2 (m := 2) hs (by decide +kernel) (by decide), ?_⟩
    walk_at "go"
    refine ⟨fit2 (m := 2) e1 (by decide +kernel) (by decide), ?_⟩
    walk_at "go"
    refine ⟨fit2 (m := 2) e2 (by decide +kernel) (by decide), ?_⟩
    walk_at "go"
    refine .str (Nat.le_trans (Nat.add_le_add_left e3 _) (by decide +kernel)) ?_
    walk_at "go"
    refine .str ?_ ?_
    · refine Nat.le_trans (Nat.add_le_add_right (m := 1 + 242) ?_ _) (by decide +kernel)
      rw [PySem.Str.length_append]
      exact Nat.add_le_add_left e3 _
    have := q _ (Same.refl _)
    have e : S (txt (.str s)) = (("\"" : Str) ++ Txt.replace (Txt.replace (Txt.replace s "\\" "\\\\") "\"" "\\\"") "\n" "\\n") ++ ("\"" : Str) := by
      refine (ofS ?_).symm
      rw [tl_append, tl_append, shown_str, txt]
      rfl
    rw [e] at this
    exact this
  | @tup k' ds hds =>
    obtain ⟨a, xs, rfl, hx, ha⟩ := hv.of_tup
    walk_at "go"
    refine r_wtup hx ?_
    intro D hD
    have hlen : xs.length = ds.length := ha.len
    have el : (txt (.tuple ds)).length = (joinL [32] (ds.map txt)).length + 2 := by rw [txt, txtL_map]; simp
    have hn : ds.length ≤ 1000002 := by
      have := join_len (ds.map txt)
      rw [List.length_map] at this
      omega
    have small : ∀ d ∈ ds, (txt d).length ≤ 1000000 := fun d hd => by
      have := mem_join (ds.map txt) (txt d) (List.mem_map_of_mem hd)
      omega
    refine lc_im_tup (es := (ds.map fun d => S (txt d)).map PyData.str) (by simp [hlen]) (by rw [hlen]; exact Nat.lt_of_le_of_lt hn (by decide +kernel)) hx hD ?_ ?_
    · intro i x e H1 hi he s1 R k
      refine k _ _ rfl fun R' kk => ?_
      rw [List.getElem?_map, List.getElem?_map] at he
      cases hd : ds[i]? with
      | none => rw [hd] at he; cases he
      | some d =>
        rw [hd] at he
        cases he
        have hmem := List.mem_of_getElem? hd
        obtain ⟨x', hx', him⟩ := ha.get hd
        have : x' = x := by rw [hi] at hx'; exact (Option.some.inj hx').symm
        subst this
        walk_at "go"
        refine ⟨x', d, k', rfl, rfl, him.same s1, hds d hmem, small d hmem, fun H2 s2 => ?_⟩
        exact kk _ _ s2 (.str _)
    · intro H1 acc s1 hacc him
      have hst := ImA_strs him
      subst hst
      walk_at "go"
      refine ⟨_, _, _, rfl, rfl, .inl (SqL.of hacc), ?_, ?_⟩
      · have := join_len (ds.map txt)
        have e1 : ((ds.map fun d => S (txt d)).map (·.length)).sum = ((ds.map txt).map List.length).sum := by
          rw [List.map_map, List.map_map]
          exact congrArg List.sum (List.map_congr_left fun d _ => S_len (txt d))
        rw [e1]
        rw [List.length_map] at this ⊢
        have e2 : (" " : Str).length = 1 := by decide +kernel
        rw [e2]
        omega
      have ej : tl (Txt.join (" " : Str) (ds.map fun d => S (txt d))) = joinL [32] (ds.map txt) := by
        rw [join_eq, tl_join, List.map_map]
        rfl
      have lj : (Txt.join (" " : Str) (ds.map fun d => S (txt d))).length ≤ 1000000 := by rw [len_tl, ej]; omega
      walk_at "go"
      refine .str (Nat.le_trans (Nat.add_le_add_left lj _) (by decide +kernel)) ?_
      walk_at "go"
      refine .str ?_ ?_
      · refine Nat.le_trans (Nat.add_le_add_right (m := 1 + 1000000) ?_ _) (by decide +kernel)
        rw [PySem.Str.length_append]
        exact Nat.add_le_add_left lj _
      have := q _ s1
      have e : S (txt (.tuple ds)) = (("(" : Str) ++ Txt.join (" " : Str) (ds.map fun d => S (txt d))) ++ (")" : Str) := by
        refine (ofS ?_).symm
        rw [tl_append, tl_append, ej, txt, txtL_map]
        rfl
      rw [e] at this
      exact this
theorem ok_law_plain {n : Nat} {f : Addr} {fd : FuncData} (F : Fun K "_law_plain" "_law_plain" S_law_plain f fd) (T : Txt K mg) (G_law_plain : Gd P w K mg base CX0 n "_law_plain" f fd ["value"] (spShow K n)) : FnOk P w K mg base CX0 (n + 1) f fd ["value"] (spShow K (n + 1)) := by
  refine ZT.okT F sc_law_plain (by decide +kernel) (by decide) (fun vs H Q E h => ?_) (fun cdv A outer s H vs Q E hr h => ?_)
  · obtain ⟨v, d, k, _, rfl, _⟩ := h
    rfl
  obtain ⟨v, d, k, hk, rfl, hv, hd, hl, q⟩ := h
  have hk' : k = n := by omega
  subst hk'
  refine ⟨_, (psst_cons (PST.of (ps_if (pt_cmpR op_isA (pv 0) pe_non (nomark _))
   (pss_one (ps_ret pe_str))
   pss_nil))
  (psst_cons (PST.of (ps_if (pt_cmpR op_isA (pv 0) pe_bl (nomark _))
   (pss_one (ps_ret pe_str))
   pss_nil))
  (psst_cons (PST.of (ps_if (pt_cmpR op_isA (pv 0) pe_bl (nomark _))
   (pss_one (ps_ret pe_str))
   pss_nil))
  (psst_cons (PST.of (ps_if (pt_val (pe_callB call_isi (by rfl) T.z_isinstance Z.b_isinstance (pa_cons (pv 0) (pa_cons (pe_bltn (v := .ty "int") (by rfl) T.z_int Z.b_int rfl) pa_nil))))
   (pss_one (ps_ret (pe_callTy call_str_int (by rfl) T.z_str Z.b_str (pa_cons (pv 0) pa_nil))))
   pss_nil))
  (psst_cons (PST.of (ps_if (pt_val (pe_callB call_isi (by rfl) T.z_isinstance Z.b_isinstance (pa_cons (pv 0) (pa_cons (pe_bltn (v := .ty "tuple") (by rfl) T.z_tuple Z.b_tuple rfl) pa_nil))))
   (pss_one (ps_ret (pe_op op_addA (pe_op op_addA pe_str (pe_join pe_str (pe_lc (own := [("one", 1)]) (g := gName 1) (tt := tYes) rfl sc_law_plain.nd (pi_tup (pv 0)) (blkOk_by (own := [("one", 1)]) (N := ["value", "one"]) (sc := defScope S_law_plain) (by decide +kernel)) (fun _ _ _ _ _ => pg_name (i := 1) sc_law_plain.nd rfl (Or.inl rfl)) (fun _ _ _ _ _ => pts_nil) (fun _ _ _ _ _ => (pc G_law_plain (hr) (pa_cons (pv 1) pa_nil)))))) pe_str)))
   pss_nil))
  (CwR.psst_one (CwR.pst_ret (CwR.pet_op op_addA (CwR.pet_op op_addA (CwR.PET.of pe_str) (CwR.pet_replT (CwR.pet_replT (CwR.pet_replC (pv 0))))) (CwR.PET.of pe_str))))))))), ?_⟩
  walk_at "k"
  have hv' := hv
  cases hd with
  | non =>
    cases hv
    walk_at "go"
    exact q _ (Same.refl _)
  | bl b =>
    cases hv
    cases b <;> (walk_at "go"; exact q _ (Same.refl _))
  | @int _ i hi =>
    cases hv
    walk_at "go"
    refine ⟨i, rfl, ?_, ?_⟩
    · by_cases h0 : i.natAbs = 0
      · rw [h0]; decide
      · exact Nat.lt_trans ((Nat.log2_lt h0).mpr (Nat.lt_of_lt_of_le hi (by decide : 10 ^ 21 ≤ 2 ^ 70))) (by decide)
    · have := q _ (Same.refl _)
      rw [txt, S_tl] at this
      exact this
  | @str _ s hc hs =>
    cases hv
    walk_at "go"
    have e1 := repl_le (x := s) (y := "\\") (z := "\\\\") (n := 8) (m := 2) hs (by decide +kernel)
    have e2 := repl_le (x := Txt.replace s "\\" "\\\\") (y := "\"") (z := "\\\"") (n := 26) (m := 2) e1 (by decide +kernel)
    have e3 := repl_le (x := Txt.replace (Txt.replace s "\\" "\\\\") "\"" "\\\"") (y := "\n") (z := "\\n") (n := 80) (m := 2) e2 (by decide +kernel)
    refine ⟨fit2 (m := 2) hs (by decide +kernel) (by decide), ?_⟩
    walk_at "go"
    refine ⟨fit2 (m := 2) e1 (by decide +kernel) (by decide), ?_⟩
    walk_at "go"
    refine ⟨fit2 (m := 2) e2 (by decide +kernel) (by decide), ?_⟩
    walk_at "go"
    refine .str (Nat.le_trans (Nat.add_le_add_left e3 _) (by decide +kernel)) ?_
    walk_at "go"
    refine .str ?_ ?_
    · refine Nat.le_trans (Nat.add_le_add_right (m := 1 + 242) ?_ _) (by decide +kernel)
      rw [PySem.Str.length_append]
      exact Nat.add_le_add_left e3 _
    have := q _ (Same.refl _)
    have e : S (txt (.str s)) = (("\"" : Str) ++ Txt.replace (Txt.replace (Txt.replace s "\\" "\\\\") "\"" "\\\"") "\n" "\\n") ++ ("\"" : Str) := by
      refine (ofS ?_).symm
      rw [tl_append, tl_append, shown_str, txt]
      rfl
    rw [e] at this
    exact this
  | @tup k' ds hds =>
    obtain ⟨a, xs, rfl, hx, ha⟩ := hv.of_tup
    walk_at "go"
    refine r_wtup hx ?_
    intro D hD
    have hlen : xs.length = ds.length := ha.len
    have el : (txt (.tuple ds)).length = (joinL [32] (ds.map txt)).length + 2 := by rw [txt, txtL_map]; simp
    have hn : ds.length ≤ 1000002 := by
      have := join_len (ds.map txt)
      rw [List.length_map] at this
      omega
    have small : ∀ d ∈ ds, (txt d).length ≤ 1000000 := fun d hd => by
      have := mem_join (ds.map txt) (txt d) (List.mem_map_of_mem hd)
      omega
    refine lc_im_tup (es := (ds.map fun d => S (txt d)).map PyData.str) (by simp [hlen]) (by rw [hlen]; exact Nat.lt_of_le_of_lt hn (by decide +kernel)) hx hD ?_ ?_
    · intro i x e H1 hi he s1 R k
      refine k _ _ rfl fun R' kk => ?_
      rw [List.getElem?_map, List.getElem?_map] at he
      cases hd : ds[i]? with
      | none => rw [hd] at he; cases he
      | some d =>
        rw [hd] at he
        cases he
        have hmem := List.mem_of_getElem? hd
        obtain ⟨x', hx', him⟩ := ha.get hd
        have : x' = x := by rw [hi] at hx'; exact (Option.some.inj hx').symm
        subst this
        walk_at "go"
        refine ⟨x', d, k', rfl, rfl, him.same s1, hds d hmem, small d hmem, fun H2 s2 => ?_⟩
        exact kk _ _ s2 (.str _)
    · intro H1 acc s1 hacc him
      have hst := ImA_strs him
      subst hst
      walk_at "go"
      refine ⟨_, _, _, rfl, rfl, .inl (SqL.of hacc), ?_, ?_⟩
      · have := join_len (ds.map txt)
        have e1 : ((ds.map fun d => S (txt d)).map (·.length)).sum = ((ds.map txt).map List.length).sum := by
          rw [List.map_map, List.map_map]
          exact congrArg List.sum (List.map_congr_left fun d _ => S_len (txt d))
        rw [e1]
        rw [List.length_map] at this ⊢
        have e2 : (" " : Str).length = 1 := by decide +kernel
        rw [e2]
        omega
      have ej : tl (Txt.join (" " : Str) (ds.map fun d => S (txt d))) = joinL [32] (ds.map txt) := by
        rw [join_eq, tl_join, List.map_map]
        rfl
      have lj : (Txt.join (" " : Str) (ds.map fun d => S (txt d))).length ≤ 1000000 := by rw [len_tl, ej]; omega
      walk_at "go"
      refine .str (Nat.le_trans (Nat.add_le_add_left lj _) (by decide +kernel)) ?_
      walk_at "go"
      refine .str ?_ ?_
      · refine Nat.le_trans (Nat.add_le_add_right (m := 1 + 1000000) ?_ _) (by decide +kernel)
        rw [PySem.Str.length_append]
        exact Nat.add_le_add_left lj _
      have := q _ s1
      have e : S (txt (.tuple ds)) = (("(" : Str) ++ Txt.join (" " : Str) (ds.map fun d => S (txt d))) ++ (")" : Str) := by
        refine (ofS ?_).symm
        rw [tl_append, tl_append, ej, txt, txtL_map]
        rfl
      rw [e] at this
      exact this
end
end Ev
namespace Ev
open PySem PySem.Spec PyProof.Rows L2 Z TL Pl
abbrev S_read_plain : Stmt := top 8
abbrev S_law_same : Stmt := top 16
section
variable {P : Program} {w : World} {K : PySem.W.Frag} {mg : Str → Option Value} {base : Heap} {C : Addr}
local macro_rules | `(tactic| walk_at "ar") => `(tactic| ((try dsimp only); first | decide | omega | exact ⟨by omega, by omega⟩ | exact .inl ⟨by omega, by omega⟩ | exact .inr ⟨by omega, by omega⟩ | (unfold CPow; decide)))
local macro_rules | `(tactic| walk_at "rd1") => `(tactic| first
  | (with_reducible refine Z.r_seq ?_) | (with_reducible refine Z.r_ifS ?_) | (with_reducible refine Z.r_asg ?_) | (with_reducible refine Z.r_ret ?_) | (with_reducible refine Z.r_drop ?_)
  | (with_reducible refine Z.r_op ?_) | ((with_reducible refine Z.r_var (v := ?vv) ?hv ?_); (case hv => exact rfl)) | (with_reducible refine Z.r_c ?_) | (with_reducible refine Z.r_gname ?_)
  | (with_reducible refine Z.r_test ?_) | (with_reducible refine Z.r_b ?_) | (with_reducible refine Z.r_bl ?_) | (with_reducible refine Z.r_cb ?_) | (with_reducible refine Z.r_cons ?_) | (with_reducible refine Z.r_nil ?_)
  | (with_reducible refine Z.r_call ?_) | (with_reducible refine Z.r_not ?_) | (with_reducible refine Z.r_and ?_) | (with_reducible refine Z.r_or ?_) | (with_reducible refine Z.r_if ?_) | (with_reducible refine Z.r_un ?_)
  | (with_reducible refine Z.r_tm0 ?_) | (with_reducible refine Z.r_tm1 ?_) | (with_reducible refine Z.r_sl ?_) | (with_reducible refine Z.r_nopart ?_) | (with_reducible refine Z.r_part ?_) | (with_reducible refine Z.r_ofint ?_)
  | (with_reducible refine Z.r_tup ?_) | (with_reducible refine Z.r_lst ?_)
  | (with_reducible refine Z.r_lc ?_) | (with_reducible refine Z.r_for ?_) | (with_reducible refine Z.r_itup ?_) | (with_reducible refine Z.r_ilst ?_) | (with_reducible refine Z.r_irg1 ?_) | (with_reducible refine Z.r_irg2 ?_) | (with_reducible refine Z.r_fldE ?_) | (with_reducible refine Z.r_meth ?_) | (with_reducible refine Z.r_sfld ?_) | (with_reducible refine Z.r_make ?_) | (with_reducible refine Z.r_tyS ?_) | (with_reducible refine Z.r_gcons ?_) | (with_reducible refine Z.r_gnil ?_) | ((with_reducible refine Z.r_aug (x := ?xx) ?ha ?_); (case ha => exact rfl)) | (with_reducible refine Z.r_ip ?_) | (with_reducible refine Z.r_chain ?_)
  | (with_reducible refine Z.r_gsub ?_) | (with_reducible refine Z.r_bm ?_) | (with_reducible refine Z.r_bm0 ?_)
  | ((with_reducible refine Z.r_i ?hc ?_); (case hc => walk_at "ar"))
  | (with_reducible refine Z.RAdd.int ?_) | (with_reducible refine Z.r_i0 ?_) | (with_reducible refine Z.RLt.int ?_) | (with_reducible refine Z.RGt.int ?_) | (with_reducible refine Z.r_isN ?_) | (with_reducible refine Z.r_isB ?_) | (with_reducible refine Z.r_repl ?_) | (with_reducible refine Z.r_ofstr ?_) | (with_reducible refine Z.r_isstr ?_) | (with_reducible refine Z.r_ofref ?_) | (with_reducible refine Z.RInt.int ?_)
  | (with_reducible refine Z.r_next ?_) | (with_reducible refine Z.r_brk ?_) | (with_reducible refine Z.r_cont ?_) | (with_reducible refine Z.r_retN ?_) | (with_reducible refine Z.r_truB ?_) | (with_reducible refine Z.r_tru ?_) | (with_reducible refine Z.r_andV ?_) | (with_reducible refine Z.r_orV ?_) | (with_reducible refine Z.r_notV ?_))
local macro_rules | `(tactic| walk_at "rd") => `(tactic| (repeat walk_at "rd1"))
local macro_rules | `(tactic| walk_at "br") => `(tactic| first | refine Z.ite_t (by first | rfl | assumption | decide) ?_ | refine Z.ite_f (by first | rfl | assumption | decide) ?_)
local macro_rules | `(tactic| walk_at "isi") => `(tactic| first | ((with_reducible refine Z.isi_bool (d := ?dd) ?hi ?_); (case hi => assumption)) | ((with_reducible refine Z.isi_int (d := ?dd) ?hi ?_); (case hi => assumption)) | ((with_reducible refine Z.isi_str (d := ?dd) ?hi ?_); (case hi => assumption)) | ((with_reducible refine Z.isi_tuple (d := ?dd) ?hi ?_); (case hi => assumption)))
local macro_rules | `(tactic| walk_at "go") => `(tactic| (repeat (first | walk_at "rd1" | walk_at "isi" | walk_at "br")))
local macro_rules | `(tactic| walk_at "k") => `(tactic| dsimp only [cxOf, Cx.nox, Cx.wish])
theorem sc_read_plain : FnScope ["text", "value", "at"] ["text"] (defScope S_read_plain) := ⟨rfl, rfl, rfl, by decide +kernel, rfl, by decide +kernel, by decide +kernel⟩
theorem sc_law_same : FnScope ["actual", "due", "k"] ["actual", "due"] (defScope S_law_same) := ⟨rfl, rfl, rfl, by decide +kernel, rfl, by decide +kernel, by decide +kernel⟩
/-! ### read_plain -/
def spRead (K : PySem.W.Frag) : Sp := fun vs H Q _ => ∃ (L : List Nat) (d : D), vs = [.str (S L)] ∧ (∀ c ∈ L, c < 128) ∧ L.length ≤ 100000 ∧ Rd L 40 0 d L.length ∧ ∀ v H', Same H H' → Im K H' v d → Q v H'
theorem ok_read_plain {f g1 g2 : Addr} {fd d1 d2 : FuncData} (F : Fun K "read_plain" "read_plain" S_read_plain f fd) (T : TxtR K mg C) (G_Reader_init : Gi P w K mg base CX0 1 C g1 d1 ["self", "plain"] (spInit C))
    (G_value : Gm P w K mg base CX0 83 C "value" g2 d2 ["self", "at", "depth"] (spVal K C 40)) : FnOk P w K mg base CX0 84 f fd ["text"] (spRead K) := by
  refine F.ok sc_read_plain (fun vs H Q E h => ?_) (fun cdv A outer s H vs Q E hr h => ?_)
  · obtain ⟨L, d, rfl, _⟩ := h
    rfl
  obtain ⟨L, d, rfl, hasc, hlen, hd, q⟩ := h
  have sl : (S L).length ≤ sizeLine := by rw [S_len]; exact Nat.le_trans hlen (by decide +kernel)
  refine ⟨_, (pss_cons (ps_asg (pe_meth (pe_make G_Reader_init.mm G_Reader_init.ok (hr.mono (by decide)) rfl T.g_Reader G_Reader_init.bi .nil pass0 (pa_cons (pv 0) pa_nil)) T.cl_Reader G_value.m G_value.ok (hr.mono (by decide)) G_value.bi .nil pass0 (pa_cons pe_int (pa_cons pe_int pa_nil))) (pg_tup rfl (pgs_cons (pg_name (i := 1) sc_read_plain.nd rfl (Or.inl rfl)) (pgs_cons (pg_name (i := 2) sc_read_plain.nd rfl (Or.inl rfl)) pgs_nil))))
  (pss_cons (ps_if (pt_cmpR op_ltA (pv 2) (pe_callB call_lenA (by rfl) T.z_len Z.b_len (pa_cons (pv 0) pa_nil)) (nomark _))
   (pss_one ps_never)
   pss_nil)
  (pss_one (ps_ret (pv 1))))), ?_⟩
  walk_at "k"
  walk_at "go"
  intro x dx hx hdx hne
  have s0 : Same H (upd (upd H dx (.own x)) x (.ins C dx [])) := (same_new hdx).trans (same_new (by rw [upd_ne (Ne.symm hne)]; exact hx))
  refine ⟨x, dx, L, rfl, upd_same, hlen, rfl, ?_⟩
  rw [upd_upd]
  have s1 : Same H (upd (upd H dx (.own x)) x (.ins C dx (rfl2 L))) := (same_new hdx).trans (same_new (by rw [upd_ne (Ne.symm hne)]; exact hx))
  have R : Rdr C (upd (upd H dx (.own x)) x (.ins C dx (rfl2 L))) x L := ⟨⟨dx, upd_same⟩, hasc, hlen⟩
  refine x_rmeth R (by decide +kernel) (by decide +kernel) ?_
  walk_at "go"
  refine ⟨x, L, 0, L.length, 0, d, rfl, by decide, R, hd, fun v H1 s2 hv => ?_⟩
  obtain ⟨t, ys, rfl, ht, hys⟩ := hv.of_tup
  cases hys with
  | @cons y0 _ _ _ hy hys =>
  cases hys with
  | @cons y1 _ _ _ hy1 hys =>
  cases hys
  cases hy1
  walk_at "go"
  refine r_gtup ht rfl ?_
  walk_at "go"
  refine .str sl ?_
  walk_at "go"
  refine ite_f (decide_eq_false (by rw [S_len]; omega)) ?_
  walk_at "go"
  exact q _ _ (s1.trans s2) hy
/-! ### _law_same -/
theorem OkD.up {k : Nat} {d : D} (h : OkD k d) : OkD (k + 1) d := by
  induction h with
  | non => exact .non
  | bl b => exact .bl b
  | int h => exact .int h
  | str h hl => exact .str h hl
  | tup h ih => exact .tup ih
/-- its shape alone: at most so many tuples, one in another -/
inductive Sh : Nat → D → Prop
  | non {k : Nat} : Sh k .none
  | bl {k : Nat} (b : Bool) : Sh k (.bool b)
  | int {k : Nat} {i : Int} : Sh k (.int i)
  | str {k : Nat} {s : Str} : Sh k (.str s)
  | tup {k : Nat} {ds : List D} (h : ∀ d ∈ ds, Sh k d) : Sh (k + 1) (.tuple ds)
theorem sh_of {k : Nat} {d : D} (h : OkD k d) : Sh k d := by
  induction h with
  | non => exact .non
  | bl b => exact .bl b
  | int h => exact .int
  | str h hl => exact .str
  | tup h ih => exact .tup ih
def spSame (K : PySem.W.Frag) (n : Nat) : Sp := fun vs H Q _ => ∃ (v u : V) (d : D) (k : Nat), n = k + 1 ∧ vs = [v, u] ∧ Im K H v d ∧ Im K H u d ∧ Sh k d ∧ (txt d).length ≤ 1000000 ∧ Q (.bl true) H
theorem no_same {f : Addr} {fd : FuncData} : FnOk P w K mg base CX0 0 f fd ["actual", "due"] (spSame K 0) := by
  have no : ∀ vs H Q E, ¬ spSame K 0 vs H Q E := fun vs H Q E h => by
    obtain ⟨v, u, d, k, e, _⟩ := h
    omega
  exact ⟨fun vs H Q E h => absurd h (no vs H Q E), fun A outer s H args us vs Q E _ _ _ _ h => absurd h (no vs H Q E)⟩
theorem ok_law_same {n : Nat} {f : Addr} {fd : FuncData} (F : Fun K "_law_same" "_law_same" S_law_same f fd) (T : Txt K mg) (G_law_same : Gd P w K mg base CX0 n "_law_same" f fd ["actual", "due"] (spSame K n)) : FnOk P w K mg base CX0 (n + 1) f fd ["actual", "due"] (spSame K (n + 1)) := by
  refine F.ok sc_law_same (fun vs H Q E h => ?_) (fun cdv A outer s H vs Q E hr h => ?_)
  · obtain ⟨v, u, d, k, _, rfl, _⟩ := h
    rfl
  obtain ⟨v, u, d, k, hk, rfl, hv, hu, hd, hl, q⟩ := h
  have hk' : k = n := by omega
  subst hk'
  refine ⟨_, (pss_cons (ps_if (pt_val (pe_callB call_isi (by rfl) T.z_isinstance Z.b_isinstance (pa_cons (pv 1) (pa_cons (pe_bltn (v := .ty "tuple") (by rfl) T.z_tuple Z.b_tuple rfl) pa_nil))))
   (pss_cons (ps_if (PW.pt (pw_or (pt_not (pt_val (pe_callB call_isi (by rfl) T.z_isinstance Z.b_isinstance (pa_cons (pv 0) (pa_cons (pe_bltn (v := .ty "tuple") (by rfl) T.z_tuple Z.b_tuple rfl) pa_nil))))) (pw_or1 (pt_cmpR (op_neA hr.units) (pe_callB call_lenA (by rfl) T.z_len Z.b_len (pa_cons (pv 0) pa_nil)) (pe_callB call_lenA (by rfl) T.z_len Z.b_len (pa_cons (pv 1) pa_nil)) (nomark _)))))
   (pss_one (ps_ret pe_bl))
   pss_nil)
  (pss_cons (ps_for PassesOwn.never rfl (pi_range1 (by rfl) T.z_range (pa_cons (pe_callB call_lenA (by rfl) T.z_len Z.b_len (pa_cons (pv 1) pa_nil)) pa_nil)) (pg_name (i := 2) sc_law_same.nd rfl (Or.inl rfl))
   (pss_one (ps_if (pt_not (pt_val (pc G_law_same (hr) (pa_cons (pe_ix ix_all (pv 0) (pv 2) (fun _ _ => rfl)) (pa_cons (pe_ix ix_all (pv 1) (pv 2) (fun _ _ => rfl)) pa_nil)))))
   (pss_one (ps_ret pe_bl))
   pss_nil)))
  (pss_one (ps_ret pe_bl))))
   pss_nil)
  (pss_cons (ps_if (pt_cmpR op_isA (pv 1) pe_non (nomark _))
   (pss_one (ps_ret (pe_cmpR op_isA (pv 0) pe_non (nomark _))))
   pss_nil)
  (pss_cons (ps_if (pt_cmpR op_isA (pv 1) pe_bl (nomark _))
   (pss_one (ps_ret (pe_cmpR op_isA (pv 0) pe_bl (nomark _))))
   pss_nil)
  (pss_cons (ps_if (pt_cmpR op_isA (pv 1) pe_bl (nomark _))
   (pss_one (ps_ret (pe_cmpR op_isA (pv 0) pe_bl (nomark _))))
   pss_nil)
  (pss_cons (ps_if (pt_val (pe_callB call_isi (by rfl) T.z_isinstance Z.b_isinstance (pa_cons (pv 1) (pa_cons (pe_bltn (v := .ty "int") (by rfl) T.z_int Z.b_int rfl) pa_nil))))
   (pss_one (ps_ret (pe_and (pe_callB call_isi (by rfl) T.z_isinstance Z.b_isinstance (pa_cons (pv 0) (pa_cons (pe_bltn (v := .ty "int") (by rfl) T.z_int Z.b_int rfl) pa_nil))) (pe_and (pe_not (pe_callB call_isi (by rfl) T.z_isinstance Z.b_isinstance (pa_cons (pv 0) (pa_cons (pe_bltn (v := .ty "bool") (by rfl) T.z_bool Z.b_bool rfl) pa_nil)))) (pe_one (pe_cmpR (op_eqA hr.units) (pv 0) (pv 1) (nomark _)))))))
   pss_nil)
  (pss_one (ps_ret (pe_and (pe_callB call_isi (by rfl) T.z_isinstance Z.b_isinstance (pa_cons (pv 0) (pa_cons (pe_bltn (v := .ty "str") (by rfl) T.z_str Z.b_str rfl) pa_nil))) (pe_one (pe_cmpR (op_eqA hr.units) (pv 0) (pv 1) (nomark _))))))))))), ?_⟩
  walk_at "k"
  have hv' := hv
  have hu' := hu
  cases hd with
  | non =>
    cases hv
    cases hu
    walk_at "go"
    exact q
  | bl b =>
    cases hv
    cases hu
    cases b <;> (walk_at "go"; exact q)
  | int =>
    cases hv
    cases hu
    walk_at "go"
    refine .sc rfl ?_
    show Q (.bl (decide _)) _
    rw [decide_eq_true rfl]
    exact q
  | str =>
    cases hv
    cases hu
    walk_at "go"
    refine .sc rfl ?_
    show Q (.bl (decide _)) _
    rw [decide_eq_true rfl]
    exact q
  | @tup k' ds hds =>
    obtain ⟨a, xs, rfl, hx, ha⟩ := hv.of_tup
    obtain ⟨b, ys, rfl, hy, hb⟩ := hu.of_tup
    have hxl := ha.len
    have hyl := hb.len
    walk_at "go"
    refine .tup hx ?_
    walk_at "go"
    refine .tup hy ?_
    walk_at "go"
    refine r_neS rfl ?_
    walk_at "go"
    refine ite_f (by rw [hxl, hyl]; simp) ?_
    walk_at "go"
    refine .tup hy ?_
    walk_at "go"
    have el : (txt (.tuple ds)).length = (joinL [32] (ds.map txt)).length + 2 := by rw [txt, txtL_map]; simp
    have hn : ds.length ≤ 1000002 := by
      have := join_len (ds.map txt)
      rw [List.length_map] at this
      omega
    have small : ∀ d ∈ ds, (txt d).length ≤ 1000000 := fun d hd => by
      have := mem_join (ds.map txt) (txt d) (List.mem_map_of_mem hd)
      omega
    refine ⟨ys.length, rfl, by omega, by omega, for_range (lo := 0) (n := ((ys.length : Int)).toNat) (fun i σ H' => (∃ x : Option V, σ = [some (.ref a), some (.ref b), x]) ∧ H = H') ⟨⟨none, rfl⟩, rfl⟩ ?_ ?_⟩
    · rintro i σ H' hi ⟨⟨x, rfl⟩, rfl⟩
      have hil : i < ds.length := by omega
      obtain ⟨d, hd⟩ : ∃ d, ds[i]? = some d := ⟨_, List.getElem?_eq_getElem hil⟩
      obtain ⟨x1, e1, i1⟩ := ha.get hd
      obtain ⟨y1, e2, i2⟩ := hb.get hd
      walk_at "go"
      refine .tup hx (at_of (by omega) e1) ?_
      walk_at "go"
      refine .tup hy (at_of (by omega) e2) ?_
      walk_at "go"
      refine ⟨x1, y1, d, k', rfl, rfl, i1, i2, hds d (List.mem_of_getElem? hd), small d (List.mem_of_getElem? hd), ?_⟩
      walk_at "go"
      exact ⟨⟨_, rfl⟩, rfl⟩
    · rintro σ H' ⟨⟨x, rfl⟩, rfl⟩
      walk_at "go"
      exact q
end
end Ev
namespace Ev
open PySem PySem.Spec PyProof.Rows L2 Z TL Pl
abbrev S_law_value : Stmt := top 18
abbrev S_law : Stmt := top 19
section
variable {P : Program} {w : World} {K : PySem.W.Frag} {mg : Str → Option Value} {base : Heap} {C : Addr}
local macro_rules | `(tactic| walk_at "ar") => `(tactic| ((try dsimp only); first | decide | omega | exact ⟨by omega, by omega⟩ | exact .inl ⟨by omega, by omega⟩ | exact .inr ⟨by omega, by omega⟩ | (unfold CPow; decide)))
local macro_rules | `(tactic| walk_at "rd1") => `(tactic| first
  | (with_reducible refine Z.r_seq ?_) | (with_reducible refine Z.r_ifS ?_) | (with_reducible refine Z.r_asg ?_) | (with_reducible refine Z.r_ret ?_) | (with_reducible refine Z.r_drop ?_)
  | (with_reducible refine Z.r_op ?_) | ((with_reducible refine Z.r_var (v := ?vv) ?hv ?_); (case hv => exact rfl)) | (with_reducible refine Z.r_c ?_) | (with_reducible refine Z.r_gname ?_)
  | (with_reducible refine Z.r_test ?_) | (with_reducible refine Z.r_b ?_) | (with_reducible refine Z.r_bl ?_) | (with_reducible refine Z.r_cb ?_) | (with_reducible refine Z.r_cons ?_) | (with_reducible refine Z.r_nil ?_)
  | (with_reducible refine Z.r_call ?_) | (with_reducible refine Z.r_not ?_) | (with_reducible refine Z.r_and ?_) | (with_reducible refine Z.r_or ?_) | (with_reducible refine Z.r_if ?_) | (with_reducible refine Z.r_un ?_)
  | (with_reducible refine Z.r_tm0 ?_) | (with_reducible refine Z.r_tm1 ?_) | (with_reducible refine Z.r_sl ?_) | (with_reducible refine Z.r_nopart ?_) | (with_reducible refine Z.r_part ?_) | (with_reducible refine Z.r_ofint ?_)
  | (with_reducible refine Z.r_tup ?_) | (with_reducible refine Z.r_lst ?_)
  | (with_reducible refine Z.r_lc ?_) | (with_reducible refine Z.r_for ?_) | (with_reducible refine Z.r_itup ?_) | (with_reducible refine Z.r_ilst ?_) | (with_reducible refine Z.r_irg1 ?_) | (with_reducible refine Z.r_irg2 ?_) | (with_reducible refine Z.r_fldE ?_) | (with_reducible refine Z.r_meth ?_) | (with_reducible refine Z.r_sfld ?_) | (with_reducible refine Z.r_make ?_) | (with_reducible refine Z.r_tyS ?_) | (with_reducible refine Z.r_gcons ?_) | (with_reducible refine Z.r_gnil ?_) | ((with_reducible refine Z.r_aug (x := ?xx) ?ha ?_); (case ha => exact rfl)) | (with_reducible refine Z.r_ip ?_) | (with_reducible refine Z.r_chain ?_)
  | (with_reducible refine Z.r_gsub ?_) | (with_reducible refine Z.r_bm ?_) | (with_reducible refine Z.r_bm0 ?_)
  | ((with_reducible refine Z.r_i ?hc ?_); (case hc => walk_at "ar"))
  | (with_reducible refine Z.RAdd.int ?_) | (with_reducible refine Z.r_i0 ?_) | (with_reducible refine Z.RLt.int ?_) | (with_reducible refine Z.RGt.int ?_) | (with_reducible refine Z.r_isN ?_) | (with_reducible refine Z.r_isB ?_) | (with_reducible refine Z.r_repl ?_) | (with_reducible refine Z.r_ofstr ?_) | (with_reducible refine Z.r_isstr ?_) | (with_reducible refine Z.r_ofref ?_) | (with_reducible refine Z.RInt.int ?_)
  | (with_reducible refine Z.r_next ?_) | (with_reducible refine Z.r_brk ?_) | (with_reducible refine Z.r_cont ?_) | (with_reducible refine Z.r_retN ?_) | (with_reducible refine Z.r_truB ?_) | (with_reducible refine Z.r_tru ?_) | (with_reducible refine Z.r_andV ?_) | (with_reducible refine Z.r_orV ?_) | (with_reducible refine Z.r_notV ?_))
local macro_rules | `(tactic| walk_at "rd") => `(tactic| (repeat walk_at "rd1"))
local macro_rules | `(tactic| walk_at "br") => `(tactic| first | refine Z.ite_t (by first | rfl | assumption | decide) ?_ | refine Z.ite_f (by first | rfl | assumption | decide) ?_)
local macro_rules | `(tactic| walk_at "isi") => `(tactic| first | ((with_reducible refine Z.isi_bool (d := ?dd) ?hi ?_); (case hi => assumption)) | ((with_reducible refine Z.isi_int (d := ?dd) ?hi ?_); (case hi => assumption)) | ((with_reducible refine Z.isi_str (d := ?dd) ?hi ?_); (case hi => assumption)) | ((with_reducible refine Z.isi_tuple (d := ?dd) ?hi ?_); (case hi => assumption)))
local macro_rules | `(tactic| walk_at "go") => `(tactic| (repeat (first | walk_at "rd1" | walk_at "isi" | walk_at "br")))
local macro_rules | `(tactic| walk_at "k") => `(tactic| dsimp only [cxOf, Cx.nox, Cx.wish])
theorem sc_law_value : FnScope ["box", "deep", "kind", "k", "number", "signs"] ["box", "deep"] (defScope S_law_value) := ⟨rfl, rfl, rfl, by decide +kernel, rfl, by decide +kernel, by decide +kernel⟩
theorem sc_law : FnScope ["script", "box", "turn", "value", "k", "text"] ["script"] (defScope S_law) := ⟨rfl, rfl, rfl, by decide +kernel, rfl, by decide +kernel, by decide +kernel⟩
def sgL : List Nat := [32, 33, 34, 35, 36, 38, 39, 40, 41, 42, 43, 44, 45, 46, 47, 48, 49, 56, 57, 58, 59, 60, 61, 62, 63, 64, 65, 90, 91, 92, 93, 94, 95, 96, 97, 122, 123, 124, 125, 126, 10, 110, 84, 70, 78]
theorem o_sg : Str.ofString " !\"#$&'()*+,-./0189:;<=>?@AZ[\\]^_`az{|}~\nnTFN" = S sgL := by decide +kernel
theorem sg_at {i : Int} (h0 : 0 ≤ i) (h1 : i < 45) : ∃ c, atI sgL i = some c ∧ c < 127 := by
  have hk : i.toNat < sgL.length := by show i.toNat < 45; omega
  have e : i = ((i.toNat : Nat) : Int) := by omega
  refine ⟨sgL[i.toNat], ?_, ?_⟩
  · have q := atI_nat (List.getElem?_eq_getElem hk)
    rw [← e] at q
    exact q
  · exact (by decide : ∀ c ∈ sgL, c < 127) _ (List.getElem_mem hk)
/-- all but the object at b stands as it was -/
def But (b : Addr) (H H' : Hp) : Prop := ∀ a o, a ≠ b → H a = some o → H' a = some o
theorem But.refl {b : Addr} {H : Hp} : But b H H := fun _ _ _ h => h
theorem But.trans {b : Addr} {H H1 H2 : Hp} (x : But b H H1) (y : But b H1 H2) : But b H H2 := fun a o n h => y a o n (x a o n h)
theorem But.same {b : Addr} {H H1 : Hp} (x : Same H H1) : But b H H1 := fun a o _ h => x a o h
theorem But.upd {b : Addr} {H : Hp} {o : HO} : But b H (upd H b o) := fun a u n h => by rw [upd_ne n]; exact h
theorem But.new {b p : Addr} {H H1 : Hp} {o : HO} (x : But b H H1) (hp : H p = none) : But b H (L2.upd H1 p o) := fun a u n h => by
  rw [upd_ne (ne_of_none h hp)]; exact x a u n h
theorem But.tk {b : Addr} {H H' : Hp} {xs : List V} (x : But b H H') (hb : H b = some (.lst xs)) : Tk K H H' := fun a ys h => by
  have ne : ∀ u, H a = some u → (∀ zs, u ≠ .lst zs) → a ≠ b := fun u hu hn e => by
    rw [e, hb] at hu
    exact hn xs (Option.some.inj hu).symm
  rcases h with (h | ⟨o, h⟩) | h
  · exact .inl (.inl (x _ _ (ne _ h (fun _ z => nomatch z)) h))
  · exact .inl (.inr ⟨o, x _ _ (ne _ h (fun _ z => nomatch z)) h⟩)
  · exact .inr h
theorem OkD.le {k m : Nat} {d : D} (h : OkD k d) (hm : k ≤ m) : OkD m d := by
  induction hm with
  | refl => exact h
  | step _ ih => exact OkD.up ih
/-- how long a drawn value's text may be -/
def tb : Nat → Nat
  | 0 => 24
  | k + 1 => 3 * tb k + 30
theorem tb_ge : ∀ k, 24 ≤ tb k
  | 0 => Nat.le_refl _
  | k + 1 => by have := tb_ge k; show 24 ≤ 3 * tb k + 30; omega
theorem join_le : ∀ (ps : List (List Nat)), (joinL [32] ps).length ≤ (ps.map List.length).sum + ps.length
  | [] => Nat.le_refl _
  | [p] => by show p.length ≤ p.length + 0 + 1; omega
  | p :: q :: r => by
    have ih := join_le (q :: r)
    have e : (joinL [32] (p :: q :: r)).length = p.length + (1 + (joinL [32] (q :: r)).length) := by
      show (p ++ ([32] ++ joinL [32] (q :: r))).length = _
      simp only [List.length_append, List.length_singleton]
    rw [e, List.map_cons, List.sum_cons, List.length_cons]
    omega
theorem sum_le : ∀ (ps : List (List Nat)) (B : Nat), (∀ p ∈ ps, p.length ≤ B) → (ps.map List.length).sum ≤ ps.length * B
  | [], B, _ => by simp
  | p :: r, B, h => by
    have h1 := h p (by simp)
    have ih := sum_le r B fun x hx => h x (by simp [hx])
    rw [List.map_cons, List.sum_cons, List.length_cons, Nat.succ_mul]
    omega
structure Dr (k : Nat) (d : D) : Prop where
  ok : OkD k d
  len : (txt d).length ≤ tb k
theorem Dr.leaf {k : Nat} {d : D} (h : OkD k d) (hl : (txt d).length ≤ 24) : Dr k d := ⟨h, Nat.le_trans hl (tb_ge k)⟩
def spValue (K : PySem.W.Frag) (n : Nat) : Sp := fun vs H Q _ => ∃ (b dd : Addr) (at_ : Int) (k : Nat), n = k + 1 ∧ vs = [.ref b, .int k] ∧ Box H b dd at_ ∧
  ∀ (v : V) (d : D) (at' : Int) (H' : Hp), But b H H' → Box H' b dd at' → Im K H' v d → Dr k d → Q v H'
theorem ok_law_value {n : Nat} {f g : Addr} {fd gd : FuncData} (F : Fun K "_law_value" "_law_value" S_law_value f fd) (T : Txt K mg) (G_law_draw : Gd P w K mg base CX0 1 "_law_draw" g gd ["box", "many"] spDraw)
    (G_law_value : Gd P w K mg base CX0 (n + 1) "_law_value" f fd ["box", "deep"] (spValue K n)) : FnOk P w K mg base CX0 (n + 1 + 1) f fd ["box", "deep"] (spValue K (n + 1)) := by
  refine F.ok sc_law_value (fun vs H Q E h => ?_) (fun cdv A outer s H vs Q E hr h => ?_)
  · obtain ⟨b, dd, at_, k, _, rfl, _⟩ := h
    rfl
  obtain ⟨b, dd, at_, k, hk, rfl, B, q⟩ := h
  have hk' : k = n := by omega
  subst hk'
  refine ⟨_, (pss_cons (ps_set (i := 2) sc_law_value.nd rfl (Or.inl rfl) (pc G_law_draw (hr.mono (by omega)) (pa_cons (pv 0) (pa_cons pe_int pa_nil))))
  (C8.pss_cut (ps_if (PW.pt (pw_and (pt_cmpR op_ltA (pv 2) pe_int (nomark _)) (pw_and1 (pt_cmpR op_gtA (pv 1) pe_int (nomark _)))))
   (pss_one (ps_ret (pe_callTy call_tuple_of (by rfl) T.z_tuple Z.b_tuple (pa_cons (pe_lc (own := [("k", 3)]) (g := gName 3) (tt := tYes) rfl sc_law_value.nd (pi_range1 (by rfl) T.z_range (pa_cons (pc G_law_draw (hr.mono (by omega)) (pa_cons (pv 0) (pa_cons pe_int pa_nil))) pa_nil)) (blkOk_by (own := [("k", 3)]) (N := ["box", "deep", "kind", "k", "number", "signs"]) (sc := defScope S_law_value) (by decide +kernel)) (fun _ _ _ _ _ => pg_name (i := 3) sc_law_value.nd rfl (Or.inl rfl)) (fun _ _ _ _ _ => pts_nil) (fun _ _ _ _ _ => (pc G_law_value (hr.mono (by omega)) (pa_cons (pv 0) (pa_cons (pe_op op_sub (pv 1) pe_int) pa_nil))))) pa_nil))))
   pss_nil)
  (pss_cons (ps_if (pt_cmpR (op_eqA hr.units) (pv 2) pe_int (nomark _))
   (pss_one (ps_ret (pe_ix ix_all (pe_lst (pa_cons pe_non (pa_cons pe_bl (pa_cons pe_bl pa_nil)))) (pc G_law_draw (hr.mono (by omega)) (pa_cons (pv 0) (pa_cons pe_int pa_nil))) (fun _ _ => rfl))))
   pss_nil)
  (pss_cons (ps_if (pt_cmpR (op_eqA hr.units) (pv 2) pe_int (nomark _))
   (pss_cons (ps_set (i := 4) sc_law_value.nd rfl (Or.inl rfl) (pe_op op_sub (pe_op op_addA (pe_op op_mul (pc G_law_draw (hr.mono (by omega)) (pa_cons (pv 0) (pa_cons pe_int pa_nil))) (pe_op op_pow pe_int pe_int)) (pc G_law_draw (hr.mono (by omega)) (pa_cons (pv 0) (pa_cons pe_int pa_nil)))) pe_int))
  (pss_one (ps_ret (pe_ix ix_all (pe_lst (pa_cons (pv 4) (pa_cons (pe_op op_sub pe_int (pv 4)) (pa_cons (pe_op op_addA (pe_op op_pow pe_int pe_int) (pv 4)) (pa_cons pe_int pa_nil))))) (pc G_law_draw (hr.mono (by omega)) (pa_cons (pv 0) (pa_cons pe_int pa_nil))) (fun _ _ => rfl)))))
   pss_nil)
  (pss_cons (ps_if (pt_cmpR (op_eqA hr.units) (pv 2) pe_int (nomark _))
   (pss_one (ps_ret (pe_op op_sub (pc G_law_draw (hr.mono (by omega)) (pa_cons (pv 0) (pa_cons pe_int pa_nil))) pe_int)))
   pss_nil)
  (pss_cons (ps_set (i := 5) sc_law_value.nd rfl (Or.inr rfl) pe_str)
  (pss_one (ps_ret (pe_join pe_str (pe_lc (own := [("k", 3)]) (g := gName 3) (tt := tYes) rfl sc_law_value.nd (pi_range1 (by rfl) T.z_range (pa_cons (pc G_law_draw (hr.mono (by omega)) (pa_cons (pv 0) (pa_cons pe_int pa_nil))) pa_nil)) (blkOk_by (own := [("k", 3)]) (N := ["box", "deep", "kind", "k", "number", "signs"]) (sc := defScope S_law_value) (by decide +kernel)) (fun _ _ _ _ _ => pg_name (i := 3) sc_law_value.nd rfl (Or.inl rfl)) (fun _ _ _ _ _ => pts_nil) (fun _ _ _ _ _ => (pe_ix (ix_allK (K := K) rfl) (pv 5) (pe_op op_mod (pe_callTy call_intA (by rfl) T.z_int Z.b_int (pa_cons (pc G_law_draw (hr.mono (by omega)) (pa_cons (pv 0) (pa_cons pe_int pa_nil))) pa_nil)) (pe_callB (call_lenK (K := K) rfl) (by rfl) T.z_len Z.b_len (pa_cons (pv 5) pa_nil))) (fun _ _ => rfl))))))))))))), ?_⟩
  walk_at "k"
  walk_at "go"
  refine ⟨b, dd, at_, 9, rfl, B, by decide, fun r hr0 hr1 => ?_⟩
  have B1 := B.next
  have bt1 : But b H (upd H b (.lst [.ref dd, .int (at_ + 1)])) := But.upd
  generalize upd H b (.lst [.ref dd, .int (at_ + 1)]) = H1 at B1 bt1 ⊢
  refine ⟨fun σ' H' => σ' = [some (.ref b), some (.int k), some (.int r), none, none, none] ∧ H1 = H', ?_, ?_⟩
  · walk_at "go"
    refine r_ite (fun c1 => ?_) (fun c1 => ?_)
    · walk_at "go"
      refine r_ite (fun c2 => ?_) (fun c2 => ?_)
      · obtain ⟨k', rfl⟩ : ∃ k', k = k' + 1 := ⟨k - 1, by have := of_decide_eq_true c2; omega⟩
        walk_at "go"
        refine ⟨b, dd, _, 4, rfl, B1, by decide, fun m hm0 hm1 => ?_⟩
        have B2 := B1.next
        have bt2 : But b H (upd H1 b (.lst [.ref dd, .int (at_ + 1 + 1)])) := bt1.trans But.upd
        generalize upd H1 b (.lst [.ref dd, .int (at_ + 1 + 1)]) = H2 at B2 bt2 ⊢
        walk_at "go"
        refine ⟨m, rfl, by omega, by omega, ?_⟩
        intro Dl hD
        have hsz : m.toNat < sizeLine := Nat.lt_trans (by omega : m.toNat < 4) (by decide +kernel)
        have hbD : b ≠ Dl := ne_of_none B2.bx hD
        have hddD : dd ≠ Dl := by obtain ⟨ds, e⟩ := B2.dg; exact ne_of_none e hD
        refine lc_im_rng (lo := 0) (n := m.toNat) (fun i H' acc => ∃ (es : List Pl.D) (at' : Int), ImA K H' acc es ∧ (∀ e ∈ es, Dr k' e) ∧ Box H' b dd at' ∧ But b H H') hsz hD ?_ ?_ ?_
        · exact ⟨[], _, .nil, (fun _ h => nomatch h), B2.same (same_new hD), bt2.trans (But.same (same_new hD))⟩
        · rintro i H3 acc hi hal hacc ⟨es, at3, im3, hes, B3, bt3⟩ R kk
          refine kk _ _ rfl fun R' kk' => ?_
          walk_at "go"
          refine ⟨b, dd, at3, k', rfl, by simp, B3, fun v d at4 H4 bt4 B4 im4 hd4 => ?_⟩
          have tk34 : Tk K H3 H4 := bt4.tk B3.bx
          have hD4 := bt4 _ _ (Ne.symm hbD) hacc
          refine kk' _ _ hD4 ⟨es ++ [d], at4, ?_, ?_, ?_, ?_⟩
          · have tk5 : Tk K H4 (upd H4 Dl (.lst (acc ++ [v]))) := Tk.lst hD4
            exact ((im3.ts tk34).ts tk5).snoc (im4.ts tk5)
          · intro e he
            rcases List.mem_append.mp he with he | he
            · exact hes e he
            · rw [List.mem_singleton.mp he]; exact hd4
          · obtain ⟨ds, e⟩ := B4.dg
            exact ⟨by rw [upd_ne hbD]; exact B4.bx, ⟨ds, by rw [upd_ne hddD]; exact e⟩, B4.at0⟩
          · have hHD : H Dl = none := by
              cases e : H Dl with
              | none => rfl
              | some o =>
                have := bt2 Dl o (Ne.symm hbD) e
                rw [hD] at this
                cases this
            exact But.new (bt3.trans bt4) hHD
        · rintro H3 acc hacc hal ⟨es, at3, im3, hes, B3, bt3⟩
          walk_at "go"
          refine ⟨Dl, acc, rfl, .inl ⟨SqL.of hacc, fun t ht => ?_⟩⟩
          have hlen : es.length ≤ 3 := by
            have := im3.len
            omega
          refine q _ (.tuple es) at3 _ (bt3.trans (But.same (same_new ht))) (B3.same (same_new ht)) (Im.new_tup ht im3) ⟨OkD.tup fun d hd => (hes d hd).ok, ?_⟩
          have h1 := join_le (es.map txt)
          have h2 := sum_le (es.map txt) (tb k') (fun x hx => by obtain ⟨d, hd, rfl⟩ := List.mem_map.mp hx; exact (hes d hd).len)
          have el : (txt (.tuple es)).length = (joinL [32] (es.map txt)).length + 2 := by rw [txt, txtL_map]; simp
          have h3 : (es.map txt).length * tb k' ≤ 3 * tb k' := Nat.mul_le_mul_right _ (by rw [List.length_map]; exact hlen)
          rw [List.length_map] at h1 h3
          rw [List.length_map] at h2
          show _ ≤ 3 * tb k' + 30
          omega
      · walk_at "go"
        exact ⟨rfl, rfl⟩
    · walk_at "go"
      exact ⟨rfl, rfl⟩
  rintro σ' H' ⟨rfl, rfl⟩
  walk_at "go"
  refine r_eqS rfl ?_
  walk_at "go"
  refine r_ite (fun c3 => ?_) (fun c3 => ?_)
  · -- None, True or False
    walk_at "go"
    refine ⟨by show 3 ≤ sizeLine; decide, fun p hp => ?_⟩
    have B2 := B1.same (same_new (o := .lst [.non, .bl true, .bl false]) hp)
    have hbp : b ≠ p := ne_of_none B1.bx hp
    walk_at "go"
    refine ⟨b, dd, _, 3, rfl, B2, by decide, fun m hm0 hm1 => ?_⟩
    have B3 := B2.next
    have bt3 : But b H (upd (upd H1 p (.lst [.non, .bl true, .bl false])) b (.lst [.ref dd, .int (at_ + 1 + 1)])) := (bt1.trans (But.same (same_new hp))).trans But.upd
    have hp3 : (upd (upd H1 p (.lst [.non, .bl true, .bl false])) b (.lst [.ref dd, .int (at_ + 1 + 1)])) p = some (.lst [.non, .bl true, .bl false]) := by rw [upd_ne hbp.symm, upd_same]
    generalize upd (upd H1 p (.lst [.non, .bl true, .bl false])) b (.lst [.ref dd, .int (at_ + 1 + 1)]) = H3 at B3 bt3 hp3 ⊢
    have hm : m = 0 ∨ m = 1 ∨ m = 2 := by omega
    rcases hm with rfl | rfl | rfl
    · refine .lst (SqL.of hp3) (v := .non) rfl ?_
      exact q _ _ _ _ bt3 B3 .non (Dr.leaf .non (by rw [txt]; decide))
    · refine .lst (SqL.of hp3) (v := .bl true) rfl ?_
      exact q _ _ _ _ bt3 B3 (.bl true) (Dr.leaf (.bl _) (by rw [txt]; decide))
    · refine .lst (SqL.of hp3) (v := .bl false) rfl ?_
      exact q _ _ _ _ bt3 B3 (.bl false) (Dr.leaf (.bl _) (by rw [txt]; decide))
  walk_at "go"
  refine r_eqS rfl ?_
  walk_at "go"
  have leaf_int : ∀ (i : Int) (at' : Int) (H' : Hp), i.natAbs < 10 ^ 21 → But b H H' → Box H' b dd at' → Q (.int i) H' := fun i at' H' hi bt B => by
    have := int_len hi
    exact q _ (.int i) at' H' bt B (.int i) (Dr.leaf (.int hi) (by omega))
  refine r_ite (fun c4 => ?_) (fun c4 => ?_)
  · walk_at "go"
    refine ⟨b, dd, _, 900, rfl, B1, by decide, fun m hm0 hm1 => ?_⟩
    have B2 := B1.next
    have bt2 : But b H (upd H1 b (.lst [.ref dd, .int (at_ + 1 + 1)])) := bt1.trans But.upd
    generalize upd H1 b (.lst [.ref dd, .int (at_ + 1 + 1)]) = H2 at B2 bt2 ⊢
    walk_at "go"
    refine ⟨b, dd, _, 900, rfl, B2, by decide, fun m2 hm20 hm21 => ?_⟩
    have B3 := B2.next
    have bt3 : But b H (upd H2 b (.lst [.ref dd, .int (at_ + 1 + 1 + 1)])) := bt2.trans But.upd
    generalize upd H2 b (.lst [.ref dd, .int (at_ + 1 + 1 + 1)]) = H3 at B3 bt3 ⊢
    have e16 : (10 : Int) ^ (16 : Int).toNat = 10000000000000000 := by decide
    have e19 : (10 : Int) ^ (19 : Int).toNat = 10000000000000000000 := by decide
    rw [e16]
    walk_at "go"
    rw [e19]
    obtain ⟨z, hz⟩ : ∃ z : Int, z = m * 10000000000000000 + m2 - 450 := ⟨_, rfl⟩
    rw [← hz]
    have hzb : -450 ≤ z ∧ z < 9000000000000000450 := by omega
    refine ⟨by show 4 ≤ sizeLine; decide, fun p hp => ?_⟩
    have B4 := B3.same (same_new (o := .lst [.int z, .int (0 - z), .int (10000000000000000000 + z), .int 0]) hp)
    have hbp : b ≠ p := ne_of_none B3.bx hp
    walk_at "go"
    refine ⟨b, dd, _, 4, rfl, B4, by decide, fun m3 hm30 hm31 => ?_⟩
    have B5 := B4.next
    have bt5 : But b H (upd (upd H3 p (.lst [.int z, .int (0 - z), .int (10000000000000000000 + z), .int 0])) b (.lst [.ref dd, .int (at_ + 1 + 1 + 1 + 1)])) := (bt3.trans (But.same (same_new hp))).trans But.upd
    have hp5 : (upd (upd H3 p (.lst [.int z, .int (0 - z), .int (10000000000000000000 + z), .int 0])) b (.lst [.ref dd, .int (at_ + 1 + 1 + 1 + 1)])) p = some (.lst [.int z, .int (0 - z), .int (10000000000000000000 + z), .int 0]) := by rw [upd_ne hbp.symm, upd_same]
    generalize upd (upd H3 p (.lst [.int z, .int (0 - z), .int (10000000000000000000 + z), .int 0])) b (.lst [.ref dd, .int (at_ + 1 + 1 + 1 + 1)]) = H5 at B5 bt5 hp5 ⊢
    have hm : m3 = 0 ∨ m3 = 1 ∨ m3 = 2 ∨ m3 = 3 := by omega
    rcases hm with rfl | rfl | rfl | rfl
    · exact .lst (SqL.of hp5) (v := .int z) rfl (leaf_int _ _ _ (by omega) bt5 B5)
    · exact .lst (SqL.of hp5) (v := .int (0 - z)) rfl (leaf_int _ _ _ (by omega) bt5 B5)
    · exact .lst (SqL.of hp5) (v := .int (10000000000000000000 + z)) rfl (leaf_int _ _ _ (by omega) bt5 B5)
    · exact .lst (SqL.of hp5) (v := .int 0) rfl (leaf_int _ _ _ (by omega) bt5 B5)
  walk_at "go"
  refine r_eqS rfl ?_
  walk_at "go"
  refine r_ite (fun c5 => ?_) (fun c5 => ?_)
  · walk_at "go"
    refine ⟨b, dd, _, 30, rfl, B1, by decide, fun m hm0 hm1 => ?_⟩
    have B2 := B1.next
    have bt2 : But b H (upd H1 b (.lst [.ref dd, .int (at_ + 1 + 1)])) := bt1.trans But.upd
    walk_at "go"
    exact leaf_int _ _ _ (by omega) bt2 B2
  -- a text
  walk_at "go"
  rw [o_sg]
  refine ⟨b, dd, _, 9, rfl, B1, by decide, fun m hm0 hm1 => ?_⟩
  have B2 := B1.next
  have bt2 : But b H (upd H1 b (.lst [.ref dd, .int (at_ + 1 + 1)])) := bt1.trans But.upd
  generalize upd H1 b (.lst [.ref dd, .int (at_ + 1 + 1)]) = H2 at B2 bt2 ⊢
  walk_at "go"
  refine ⟨m, rfl, by omega, by omega, ?_⟩
  intro Dl hD
  have hsz : m.toNat < sizeLine := Nat.lt_trans (by omega : m.toNat < 10) (by decide +kernel)
  have hbD : b ≠ Dl := ne_of_none B2.bx hD
  have hddD : dd ≠ Dl := by obtain ⟨ds, e⟩ := B2.dg; exact ne_of_none e hD
  have hHD : H Dl = none := by
    cases e : H Dl with
    | none => rfl
    | some o =>
      have := bt2 Dl o (Ne.symm hbD) e
      rw [hD] at this
      cases this
  have hsl : ((S sgL).length : Int) = 45 := rfl
  refine lc_im_rng (lo := 0) (n := m.toNat) (fun i H' acc => ∃ (cs : List Nat) (at' : Int), acc = cs.map (fun c => V.str (S [c])) ∧ (∀ c ∈ cs, c < 127) ∧ Box H' b dd at' ∧ But b H H') hsz hD ?_ ?_ ?_
  · exact ⟨[], _, rfl, fun _ h => (nomatch h), B2.same (same_new hD), bt2.trans (But.same (same_new hD))⟩
  · rintro i H3 acc hi hal hacc ⟨cs, at3, rfl, hcs, B3, bt3⟩ R kk
    refine kk _ _ rfl fun R' kk' => ?_
    walk_at "go"
    refine ⟨b, dd, at3, 900, rfl, B3, by decide, fun r2 hr20 hr21 => ?_⟩
    have B4 := B3.next
    have bt4 : But b H (upd H3 b (.lst [.ref dd, .int (at3 + 1)])) := bt3.trans But.upd
    have hacc4 : (upd H3 b (.lst [.ref dd, .int (at3 + 1)])) Dl = some (.lst (cs.map fun c => V.str (S [c]))) := by rw [upd_ne hbD.symm]; exact hacc
    generalize upd H3 b (.lst [.ref dd, .int (at3 + 1)]) = H4 at B4 bt4 hacc4 ⊢
    walk_at "go"
    refine .str (by decide +kernel) ?_
    walk_at "go"
    obtain ⟨c, hc1, hc2⟩ := sg_at (i := r2 % 45) (Int.emod_nonneg _ (by decide)) (Int.emod_lt_of_pos _ (by decide))
    rw [hsl]
    refine .str (by decide +kernel) hc1 ?_
    refine kk' _ _ hacc4 ⟨cs ++ [c], at3 + 1, by simp; rfl, ?_, ?_, But.new bt4 hHD⟩
    · intro x hx
      rcases List.mem_append.mp hx with hx | hx
      · exact hcs x hx
      · rw [List.mem_singleton.mp hx]; exact hc2
    · obtain ⟨ds, e⟩ := B4.dg
      exact ⟨by rw [upd_ne hbD]; exact B4.bx, ⟨ds, by rw [upd_ne hddD]; exact e⟩, B4.at0⟩
  · rintro H3 acc hacc hal ⟨cs, at3, rfl, hcs, B3, bt3⟩
    have hcl : cs.length ≤ 8 := by rw [List.length_map] at hal; omega
    have e0 : (Str.ofString "").length = 0 := by decide +kernel
    walk_at "go"
    refine ⟨Str.ofString "", Dl, cs.map (fun c => S [c]), rfl, rfl, .inl (SqL.of (by rw [hacc, List.map_map]; rfl)), ?_, ?_⟩
    · rw [e0, Nat.mul_zero, Nat.add_zero, List.map_map]
      have : ∀ cs : List Nat, (cs.map ((fun x : Str => x.length) ∘ fun c => S [c])).sum = cs.length := by
        intro cs
        induction cs with
        | nil => rfl
        | cons c r ih =>
          rw [List.map_cons, List.sum_cons, ih, List.length_cons]
          show 1 + r.length = _
          omega
      rw [this]
      omega
    have ej : Txt.join (Str.ofString "") (cs.map fun c => S [c]) = S cs := by
      refine ofS ?_
      rw [join_eq, tl_join, List.map_map]
      have : ∀ cs : List Nat, joinL [] (cs.map (TL.tl ∘ fun c => S [c])) = cs := by
        intro cs
        induction cs with
        | nil => rfl
        | cons c r ih =>
          cases r with
          | nil => rfl
          | cons d r =>
            show [c] ++ ([] ++ joinL [] ((d :: r).map (TL.tl ∘ fun c => S [c]))) = _
            rw [ih]
            rfl
      exact this cs
    rw [ej]
    refine q _ (.str (S cs)) at3 _ bt3 B3 (.str _) (Dr.leaf (.str hcs (by rw [S_len]; exact hcl)) ?_)
    rw [txt]
    have := esc_len (tl (S cs))
    rw [tl_S] at this ⊢
    simp only [List.length_cons, List.length_append, List.length_nil]
    omega

theorem no_value {f : Addr} {fd : FuncData} : FnOk P w K mg base CX0 1 f fd ["box", "deep"] (spValue K 0) := by
  have no : ∀ vs H Q E, ¬ spValue K 0 vs H Q E := fun vs H Q E h => by
    obtain ⟨b, dd, at_, k, e, _⟩ := h
    omega
  exact ⟨fun vs H Q E h => absurd h (no vs H Q E), fun A outer s H args us vs Q E _ _ _ _ h => absurd h (no vs H Q E)⟩
/-! ### the law -/
def spLaw (K : PySem.W.Frag) : Sp := fun vs H Q _ => ∃ (a : Addr) (ns : List Int), vs = [.ref a] ∧ SqL K H a (ns.map V.int) ∧ ns.length ≤ 63 ∧ ∀ H', Q (.bl true) H'
theorem txt_asc {k : Nat} {d : D} (h : OkD k d) : ∀ c ∈ txt d, c < 128 := by
  induction h with
  | non => rw [txt]; decide
  | bl b => cases b <;> (rw [txt]; decide)
  | @int k i h =>
    intro c hc
    rw [txt] at hc
    rcases int_signs i with ⟨_, e⟩ | ⟨_, e⟩
    · rw [e] at hc
      have := num_dig hc
      unfold dig at this
      omega
    · rw [e] at hc
      rcases List.mem_cons.mp hc with h | h
      · omega
      · have := num_dig h
        unfold dig at this
        omega
  | @str k s h hl =>
    intro c hc
    rw [txt] at hc
    rcases List.mem_cons.mp hc with h1 | h1
    · omega
    · rcases List.mem_append.mp h1 with h1 | h1
      · have := esc_mem (tl s) 127 (by decide) h c h1
        omega
      · have := List.mem_singleton.mp h1
        omega
  | @tup k ds h ih =>
    have key : ∀ (ps : List (List Nat)), (∀ p ∈ ps, ∀ c ∈ p, c < 128) → ∀ c ∈ joinL [32] ps, c < 128 := by
      intro ps
      induction ps with
      | nil => intro _ c hc; cases hc
      | cons p r ihp =>
        intro hp c hc
        cases r with
        | nil => exact hp p (by simp) c hc
        | cons q r =>
          have hc' : c ∈ p ++ ([32] ++ joinL [32] (q :: r)) := hc
          rcases List.mem_append.mp hc' with h1 | h1
          · exact hp p (by simp) c h1
          · rcases List.mem_append.mp h1 with h1 | h1
            · have := List.mem_singleton.mp h1
              omega
            · exact ihp (fun x hx => hp x (by simp [hx])) c h1
    intro c hc
    rw [txt, txtL_map] at hc
    rcases List.mem_cons.mp hc with h1 | h1
    · omega
    · rcases List.mem_append.mp h1 with h1 | h1
      · refine key _ (fun p hp => ?_) c h1
        obtain ⟨d, hd, rfl⟩ := List.mem_map.mp hp
        exact ih d hd
      · have := List.mem_singleton.mp h1
        omega
theorem ok_law {f g1 g2 g3 g4 g5 g6 g7 : Addr} {fd d1 d2 d3 d4 d5 d6 d7 : FuncData} (F : Fun K "law" "law" S_law f fd) (T : Txt K mg)
    (G_law_digits : Gd P w K mg base CX0 2 "_law_digits" g1 d1 ["script", "first", "last"] (spDigits K)) (G_law_draw : Gd P w K mg base CX0 1 "_law_draw" g2 d2 ["box", "many"] spDraw)
    (G_law_value : Gd P w K mg base CX0 6 "_law_value" g3 d3 ["box", "deep"] (spValue K 5)) (G_law_plain : Gd P w K mg base CX0 41 "_law_plain" g4 d4 ["value"] (spShow K 41))
    (G_show_plain : Gd P w K mg base CX0 41 "show_plain" g5 d5 ["value"] (spShow K 41)) (G_read_plain : Gd P w K mg base CX0 84 "read_plain" g6 d6 ["text"] (spRead K))
    (G_law_same : Gd P w K mg base CX0 41 "_law_same" g7 d7 ["actual", "due"] (spSame K 41)) : FnOk P w K mg base CX0 85 f fd ["script"] (spLaw K) := by
  refine F.ok sc_law (fun vs H Q E h => ?_) (fun cdv A outer s H vs Q E hr h => ?_)
  · obtain ⟨a, ns, rfl, _⟩ := h
    rfl
  obtain ⟨a, ns, rfl, hS, h63, q⟩ := h
  refine ⟨_, (pss_cons (ps_set (i := 1) sc_law.nd rfl (Or.inl rfl) (pe_lst (pa_cons (pc G_law_digits (hr.mono (by decide)) (pa_cons (pv 0) (pa_cons pe_int (pa_cons pe_int pa_nil)))) (pa_cons pe_int pa_nil))))
  (pss_cons (ps_for PassesOwn.never rfl (pi_range1 (by rfl) T.z_range (pa_cons pe_int pa_nil)) (pg_name (i := 2) sc_law.nd rfl (Or.inl rfl))
   (pss_cons (ps_set (i := 3) sc_law.nd rfl (Or.inl rfl) (pc G_law_value (hr.mono (by decide)) (pa_cons (pv 1) (pa_cons pe_int pa_nil))))
  (pss_cons (ps_for PassesOwn.never rfl (pi_range1 (by rfl) T.z_range (pa_cons (pe_ix ix_all (pe_lst (pa_cons pe_int (pa_cons pe_int (pa_cons pe_int (pa_cons pe_int pa_nil))))) (pc G_law_draw (hr.mono (by decide)) (pa_cons (pv 1) (pa_cons pe_int pa_nil))) (fun _ _ => rfl)) pa_nil)) (pg_name (i := 4) sc_law.nd rfl (Or.inl rfl))
   (pss_one (ps_set (i := 3) sc_law.nd rfl (Or.inl rfl) (pe_tup (pa_cons (pv 3) pa_nil)))))
  (pss_cons (ps_set (i := 5) sc_law.nd rfl (Or.inl rfl) (pc G_law_plain (hr.mono (by decide)) (pa_cons (pv 3) pa_nil)))
  (pss_one (ps_if (PW.pt (pw_or (pt_not (pt_val (pc G_law_same (hr.mono (by decide)) (pa_cons (pc G_show_plain (hr.mono (by decide)) (pa_cons (pv 3) pa_nil)) (pa_cons (pv 5) pa_nil))))) (pw_or1 (pt_not (pt_val (pc G_law_same (hr.mono (by decide)) (pa_cons (pc G_read_plain (hr.mono (by decide)) (pa_cons (pv 5) pa_nil)) (pa_cons (pv 3) pa_nil))))))))
   (pss_one (ps_ret pe_bl))
   pss_nil))))))
  (pss_one (ps_ret pe_bl)))), ?_⟩
  walk_at "k"
  walk_at "go"
  refine ⟨a, ns, 0, 63, rfl, hS, by decide, by decide, by decide, by decide, fun dd H1 ds s1 hd0 hd1 hdg hdl => ?_⟩
  walk_at "go"
  refine ⟨by show 2 ≤ sizeLine; decide, fun b hb => ?_⟩
  have B0 : Box (upd H1 b (.lst [.ref dd, .int 0])) b dd 0 := ⟨upd_same, ⟨ds, by rw [upd_ne (ne_of_none hd1 hb)]; exact hd1⟩, Int.le_refl 0⟩
  generalize upd H1 b (.lst [.ref dd, .int 0]) = H2 at B0 ⊢
  walk_at "go"
  refine ⟨6, rfl, by decide, by decide, for_range (lo := 0) (n := 6) (fun i σ H' => ∃ (x2 x3 x4 x5 : Option V) (at_ : Int), σ = [some (.ref a), some (.ref b), x2, x3, x4, x5] ∧ Box H' b dd at_) ⟨none, none, none, none, 0, rfl, B0⟩ ?_ ?_⟩
  · rintro i σ H3 hi ⟨x2, x3, x4, x5, at_, rfl, B3⟩
    walk_at "go"
    refine ⟨b, dd, at_, 4, rfl, rfl, B3, fun v d at4 H4 bt4 B4 im4 hd4 => ?_⟩
    walk_at "go"
    refine ⟨by show 4 ≤ sizeLine; decide, fun p hp => ?_⟩
    have B5 := B4.same (same_new (o := .lst [.int 0, .int 0, .int 0, .int 36]) hp)
    have im5 := im4.same (same_new (o := .lst [.int 0, .int 0, .int 0, .int 36]) hp)
    have hbp : b ≠ p := ne_of_none B4.bx hp
    have hp5 : (upd H4 p (.lst [.int 0, .int 0, .int 0, .int 36])) p = some (.lst [.int 0, .int 0, .int 0, .int 36]) := upd_same
    generalize upd H4 p (.lst [.int 0, .int 0, .int 0, .int 36]) = H5 at B5 im5 hp5 ⊢
    walk_at "go"
    refine ⟨b, dd, at4, 4, rfl, B5, by decide, fun m hm0 hm1 => ?_⟩
    have B6 := B5.next
    have im6 := im5.ts (But.tk (H' := upd H5 b (.lst [.ref dd, .int (at4 + 1)])) But.upd B5.bx)
    have hp6 : (upd H5 b (.lst [.ref dd, .int (at4 + 1)])) p = some (.lst [.int 0, .int 0, .int 0, .int 36]) := by rw [upd_ne hbp.symm]; exact hp5
    generalize upd H5 b (.lst [.ref dd, .int (at4 + 1)]) = H6 at B6 im6 hp6 ⊢
    obtain ⟨n, hn, hat⟩ : ∃ n : Nat, n ≤ 36 ∧ atI [V.int 0, .int 0, .int 0, .int 36] m = some (.int n) := by
      have hm : m = 0 ∨ m = 1 ∨ m = 2 ∨ m = 3 := by omega
      rcases hm with rfl | rfl | rfl | rfl
      · exact ⟨0, by decide, rfl⟩
      · exact ⟨0, by decide, rfl⟩
      · exact ⟨0, by decide, rfl⟩
      · exact ⟨36, by decide, rfl⟩
    refine .lst (SqL.of hp6) hat ?_
    refine ⟨n, rfl, by omega, by omega, for_range (lo := 0) (n := ((n : Int)).toNat) (fun j σ H' => ∃ (x4 : Option V) (v : V) (d : D), σ = [some (.ref a), some (.ref b), some (.int (0 + i)), some v, x4, x5] ∧ Box H' b dd (at4 + 1) ∧ Im K H' v d ∧ OkD (4 + j) d ∧ (txt d).length ≤ tb 4 + 2 * j)
      ⟨x4, v, d, rfl, B6, im6, hd4.ok, hd4.len⟩ ?_ ?_⟩
    · rintro j σ H7 hj ⟨x4, v, d, rfl, B7, im7, hok, hl⟩
      walk_at "go"
      refine ⟨by show 1 ≤ sizeLine; decide, fun t ht => ?_⟩
      refine ⟨_, _, .tuple [d], rfl, B7.same (same_new ht), Im.new_tup ht (ImA.one im7), OkD.tup fun e he => by rw [List.mem_singleton.mp he]; exact hok, ?_⟩
      have : (txt (.tuple [d])).length = (txt d).length + 2 := by
        rw [txt, txtL, txtL]
        show (40 :: (txt d ++ [41])).length = _
        simp
      omega
    · rintro σ H7 ⟨x4, v, d, rfl, B7, im7, hok, hl⟩
      have hok40 : OkD 40 d := OkD.le hok (by omega)
      have htb : tb 4 = 3144 := by decide
      have hl' : (txt d).length ≤ 10000 := by omega
      walk_at "go"
      refine ⟨v, d, 40, rfl, rfl, im7, hok40, by omega, fun H8 s8 => ?_⟩
      walk_at "go"
      refine ⟨v, d, 40, rfl, rfl, im7.same s8, hok40, by omega, fun H9 s9 => ?_⟩
      walk_at "go"
      refine ⟨.str (S (txt d)), .str (S (txt d)), .str (S (txt d)), 40, rfl, rfl, .str _, .str _, .str, ?_, ?_⟩
      · rw [txt]
        have := esc_len (tl (S (txt d)))
        rw [tl_S] at this ⊢
        simp only [List.length_cons, List.length_append, List.length_nil]
        omega
      walk_at "go"
      refine ⟨txt d, d, rfl, txt_asc hok40, by omega, reads_all hok40, fun u H10 s10 hu => ?_⟩
      walk_at "go"
      refine ⟨u, v, d, 40, rfl, rfl, hu, ((im7.same s8).same s9).same s10, sh_of hok40, by omega, ?_⟩
      walk_at "go"
      exact ⟨_, _, _, _, at4 + 1, rfl, ((B7.same s8).same s9).same s10⟩
  · rintro σ H3 ⟨x2, x3, x4, x5, at_, rfl, B3⟩
    walk_at "go"
    exact q _
end
end Ev
namespace Ev
open PySem PySem.Spec PyProof.Rows L2 Z TL Pl
theorem no_mem {P : Program} {w : World} {K : PySem.W.Frag} {mg : Str → Option Value} {base : Heap} {C : Addr} {f : Addr} {fd : FuncData} : FnOk P w K mg base CX0 (2 * 0 + 2) f fd ["self", "at", "depth"] (spMem K C 0) := by
  have no : ∀ vs H Q E, ¬ spMem K C 0 vs H Q E := fun vs H Q E h => by
    obtain ⟨k, _, _, _, _, _, _, e, _⟩ := h
    omega
  exact ⟨fun vs H Q E h => absurd h (no vs H Q E), fun A outer s H args us vs Q E _ _ _ _ h => absurd h (no vs H Q E)⟩
theorem words_at {K : PySem.W.Frag} {dW : Addr} {h1 h2 h3 : Int} {t1 t2 t3 : Tok} {n : Nat} (l : K.lookup dW = some ⟨.type "dict", none, .dict #[⟨h1, .str "T" t1, .bool true⟩, ⟨h2, .str "F" t2, .bool false⟩, ⟨h3, .str "N" t3, .none⟩] n, #[]⟩) (z : Str) :
    PySem.W.nsIn K dW z = some (wordV z) := by
  unfold PySem.W.nsIn wordV
  rw [l]
  have e : ∀ x : Str, ∀ t, (Value.str x t).isStr z = decide (z = x) := fun x t => by
    rw [PySem.W.isStr_of]
    show (x == z) = decide (z = x)
    rw [Bool.eq_iff_iff, beq_iff_eq, decide_eq_true_iff]
    exact eq_comm
  have rk : ∀ (h : Int) (x : Str) (t : Tok) (v : Value), (⟨h, .str x t, v⟩ : DictEntry).refKey = false := fun _ _ _ _ => rfl
  have f1 : ¬ (("F" : Str) = "T") := by decide +kernel
  have f2 : ¬ (("N" : Str) = "T") := by decide +kernel
  have f3 : ¬ (("N" : Str) = "F") := by decide +kernel
  simp only [List.find?, e]
  by_cases a : z = "T"
  · simp [a]
  · by_cases b : z = "F"
    · simp [b, f1]
    · by_cases c : z = "N"
      · simp [c, f2, f3]
      · simp [a, b, c, rk]
theorem all_mk {l : PySem.W.OpenLaw} {w : World} {K : PySem.W.Frag} {h : Heap} {mg : Str → Option Value} {fa CReader f1 f2 f3 f4 f5 f6 f7 f8 f9 f10 f11 f12 f13 f14 f15 f16 : Addr} {dW : Addr} {h1 h2 h3 : Int} {t1 t2 t3 tD tP : Tok} {nW : Nat} (X : K.In h) (G : h.Ns mainGlobals mg) (hfa : mg "law" = some (.ref fa))
    {od1 an1 : Option Addr} {sl1 : Array (Option Value)} {oc1 kV1 dc1 pm1 cd1 ct1 : Value}
    {od2 an2 : Option Addr} {sl2 : Array (Option Value)} {oc2 kV2 dc2 pm2 cd2 ct2 : Value}
    {od3 an3 : Option Addr} {sl3 : Array (Option Value)} {oc3 kV3 dc3 pm3 cd3 ct3 : Value}
    {od4 an4 : Option Addr} {sl4 : Array (Option Value)} {oc4 kV4 dc4 pm4 cd4 ct4 : Value}
    {od5 an5 : Option Addr} {sl5 : Array (Option Value)} {oc5 kV5 dc5 pm5 cd5 ct5 : Value}
    {od6 an6 : Option Addr} {sl6 : Array (Option Value)} {oc6 kV6 dc6 pm6 cd6 ct6 : Value}
    {od7 an7 : Option Addr} {sl7 : Array (Option Value)} {oc7 kV7 dc7 pm7 cd7 ct7 : Value}
    {od8 an8 : Option Addr} {sl8 : Array (Option Value)} {oc8 kV8 dc8 pm8 cd8 ct8 : Value}
    {od9 an9 : Option Addr} {sl9 : Array (Option Value)} {oc9 kV9 dc9 pm9 cd9 ct9 : Value}
    {od10 an10 : Option Addr} {sl10 : Array (Option Value)} {oc10 kV10 dc10 pm10 cd10 ct10 : Value}
    {od11 an11 : Option Addr} {sl11 : Array (Option Value)} {oc11 kV11 dc11 pm11 cd11 ct11 : Value}
    {od12 an12 : Option Addr} {sl12 : Array (Option Value)} {oc12 kV12 dc12 pm12 cd12 ct12 : Value}
    {od13 an13 : Option Addr} {sl13 : Array (Option Value)} {oc13 kV13 dc13 pm13 cd13 ct13 : Value}
    {od14 an14 : Option Addr} {sl14 : Array (Option Value)} {oc14 kV14 dc14 pm14 cd14 ct14 : Value}
    {od15 an15 : Option Addr} {sl15 : Array (Option Value)} {oc15 kV15 dc15 pm15 cd15 ct15 : Value}
    {od16 an16 : Option Addr} {sl16 : Array (Option Value)} {oc16 kV16 dc16 pm16 cd16 ct16 : Value}
    (aCReader : PySem.W.nsIn K mainGlobals "Reader" = some (some (.ref CReader)))
    (a1 : PySem.W.findIn K (.ref CReader) "__init__" = some (some (.ref f1)))
    (i1 : PySem.W.isFn K (.ref f1) = true)
    (l1 : K.lookup f1 = some ⟨oc1, od1, .func (PySem.W.fnOf "__init__" "Reader.__init__" (defArgs S_Reader___init__) (defBody S_Reader___init__) (defScope S_Reader___init__) .none kV1 dc1 pm1 an1 cd1 ct1), sl1⟩)
    (c1 : PySem.W.codeIn K cd1 "Reader.__init__" = true)
    (k1 : PySem.W.keepIn K (.ref f1) = true)
    (a2 : PySem.W.findIn K (.ref CReader) "value" = some (some (.ref f2)))
    (i2 : PySem.W.isFn K (.ref f2) = true)
    (l2 : K.lookup f2 = some ⟨oc2, od2, .func (PySem.W.fnOf "value" "Reader.value" (defArgs S_Reader_value) (defBody S_Reader_value) (defScope S_Reader_value) .none kV2 dc2 pm2 an2 cd2 ct2), sl2⟩)
    (c2 : PySem.W.codeIn K cd2 "Reader.value" = true)
    (k2 : PySem.W.keepIn K (.ref f2) = true)
    (a3 : PySem.W.findIn K (.ref CReader) "members" = some (some (.ref f3)))
    (i3 : PySem.W.isFn K (.ref f3) = true)
    (l3 : K.lookup f3 = some ⟨oc3, od3, .func (PySem.W.fnOf "members" "Reader.members" (defArgs S_Reader_members) (defBody S_Reader_members) (defScope S_Reader_members) .none kV3 dc3 pm3 an3 cd3 ct3), sl3⟩)
    (c3 : PySem.W.codeIn K cd3 "Reader.members" = true)
    (k3 : PySem.W.keepIn K (.ref f3) = true)
    (a4 : PySem.W.findIn K (.ref CReader) "number" = some (some (.ref f4)))
    (i4 : PySem.W.isFn K (.ref f4) = true)
    (l4 : K.lookup f4 = some ⟨oc4, od4, .func (PySem.W.fnOf "number" "Reader.number" (defArgs S_Reader_number) (defBody S_Reader_number) (defScope S_Reader_number) .none kV4 dc4 pm4 an4 cd4 ct4), sl4⟩)
    (c4 : PySem.W.codeIn K cd4 "Reader.number" = true)
    (k4 : PySem.W.keepIn K (.ref f4) = true)
    (a5 : PySem.W.findIn K (.ref CReader) "digits_end" = some (some (.ref f5)))
    (i5 : PySem.W.isFn K (.ref f5) = true)
    (l5 : K.lookup f5 = some ⟨oc5, od5, .func (PySem.W.fnOf "digits_end" "Reader.digits_end" (defArgs S_Reader_digits_end) (defBody S_Reader_digits_end) (defScope S_Reader_digits_end) .none kV5 dc5 pm5 an5 cd5 ct5), sl5⟩)
    (c5 : PySem.W.codeIn K cd5 "Reader.digits_end" = true)
    (k5 : PySem.W.keepIn K (.ref f5) = true)
    (a6 : PySem.W.findIn K (.ref CReader) "quoted" = some (some (.ref f6)))
    (i6 : PySem.W.isFn K (.ref f6) = true)
    (l6 : K.lookup f6 = some ⟨oc6, od6, .func (PySem.W.fnOf "quoted" "Reader.quoted" (defArgs S_Reader_quoted) (defBody S_Reader_quoted) (defScope S_Reader_quoted) .none kV6 dc6 pm6 an6 cd6 ct6), sl6⟩)
    (c6 : PySem.W.codeIn K cd6 "Reader.quoted" = true)
    (k6 : PySem.W.keepIn K (.ref f6) = true)
    (pgReader : PySem.W.plainGet K CReader Str.empty = true)
    (hdReader : PySem.W.hasDictIn K CReader = true)
    (poReader : PySem.W.plainOver K CReader = true)
    (saReader : PySem.W.findIn K (.ref CReader) "__setattr__" = some (some (.builtin "object.__setattr__")))
    (mkReader : PySem.W.makesIn K CReader = true)
    (kcReader : PySem.W.keepIn K (.ref CReader) = true)
    (nReader_plain : PySem.W.findIn K (.ref CReader) "plain" = some none)
    (nReader_mask : PySem.W.findIn K (.ref CReader) "mask" = some none)
    (a7 : PySem.W.nsIn K mainGlobals "show_plain" = some (some (.ref f7)))
    (l7 : K.lookup f7 = some ⟨oc7, od7, .func (PySem.W.fnOf "show_plain" "show_plain" (defArgs S_show_plain) (defBody S_show_plain) (defScope S_show_plain) .none kV7 dc7 pm7 an7 cd7 ct7), sl7⟩)
    (c7 : PySem.W.codeIn K cd7 "show_plain" = true)
    (k7 : PySem.W.keepIn K (.ref f7) = true)
    (a8 : PySem.W.nsIn K mainGlobals "read_plain" = some (some (.ref f8)))
    (l8 : K.lookup f8 = some ⟨oc8, od8, .func (PySem.W.fnOf "read_plain" "read_plain" (defArgs S_read_plain) (defBody S_read_plain) (defScope S_read_plain) .none kV8 dc8 pm8 an8 cd8 ct8), sl8⟩)
    (c8 : PySem.W.codeIn K cd8 "read_plain" = true)
    (k8 : PySem.W.keepIn K (.ref f8) = true)
    (a9 : PySem.W.nsIn K mainGlobals "unescaped" = some (some (.ref f9)))
    (l9 : K.lookup f9 = some ⟨oc9, od9, .func (PySem.W.fnOf "unescaped" "unescaped" (defArgs S_unescaped) (defBody S_unescaped) (defScope S_unescaped) .none kV9 dc9 pm9 an9 cd9 ct9), sl9⟩)
    (c9 : PySem.W.codeIn K cd9 "unescaped" = true)
    (k9 : PySem.W.keepIn K (.ref f9) = true)
    (a10 : PySem.W.nsIn K mainGlobals "_law_cell" = some (some (.ref f10)))
    (l10 : K.lookup f10 = some ⟨oc10, od10, .func (PySem.W.fnOf "_law_cell" "_law_cell" (defArgs S_law_cell) (defBody S_law_cell) (defScope S_law_cell) .none kV10 dc10 pm10 an10 cd10 ct10), sl10⟩)
    (c10 : PySem.W.codeIn K cd10 "_law_cell" = true)
    (k10 : PySem.W.keepIn K (.ref f10) = true)
    (a11 : PySem.W.nsIn K mainGlobals "_law_digits" = some (some (.ref f11)))
    (l11 : K.lookup f11 = some ⟨oc11, od11, .func (PySem.W.fnOf "_law_digits" "_law_digits" (defArgs S_law_digits) (defBody S_law_digits) (defScope S_law_digits) .none kV11 dc11 pm11 an11 cd11 ct11), sl11⟩)
    (c11 : PySem.W.codeIn K cd11 "_law_digits" = true)
    (k11 : PySem.W.keepIn K (.ref f11) = true)
    (a12 : PySem.W.nsIn K mainGlobals "_law_draw" = some (some (.ref f12)))
    (l12 : K.lookup f12 = some ⟨oc12, od12, .func (PySem.W.fnOf "_law_draw" "_law_draw" (defArgs S_law_draw) (defBody S_law_draw) (defScope S_law_draw) .none kV12 dc12 pm12 an12 cd12 ct12), sl12⟩)
    (c12 : PySem.W.codeIn K cd12 "_law_draw" = true)
    (k12 : PySem.W.keepIn K (.ref f12) = true)
    (a13 : PySem.W.nsIn K mainGlobals "_law_same" = some (some (.ref f13)))
    (l13 : K.lookup f13 = some ⟨oc13, od13, .func (PySem.W.fnOf "_law_same" "_law_same" (defArgs S_law_same) (defBody S_law_same) (defScope S_law_same) .none kV13 dc13 pm13 an13 cd13 ct13), sl13⟩)
    (c13 : PySem.W.codeIn K cd13 "_law_same" = true)
    (k13 : PySem.W.keepIn K (.ref f13) = true)
    (a14 : PySem.W.nsIn K mainGlobals "_law_plain" = some (some (.ref f14)))
    (l14 : K.lookup f14 = some ⟨oc14, od14, .func (PySem.W.fnOf "_law_plain" "_law_plain" (defArgs S_law_plain) (defBody S_law_plain) (defScope S_law_plain) .none kV14 dc14 pm14 an14 cd14 ct14), sl14⟩)
    (c14 : PySem.W.codeIn K cd14 "_law_plain" = true)
    (k14 : PySem.W.keepIn K (.ref f14) = true)
    (a15 : PySem.W.nsIn K mainGlobals "_law_value" = some (some (.ref f15)))
    (l15 : K.lookup f15 = some ⟨oc15, od15, .func (PySem.W.fnOf "_law_value" "_law_value" (defArgs S_law_value) (defBody S_law_value) (defScope S_law_value) .none kV15 dc15 pm15 an15 cd15 ct15), sl15⟩)
    (c15 : PySem.W.codeIn K cd15 "_law_value" = true)
    (k15 : PySem.W.keepIn K (.ref f15) = true)
    (a16 : PySem.W.nsIn K mainGlobals "law" = some (some (.ref f16)))
    (l16 : K.lookup f16 = some ⟨oc16, od16, .func (PySem.W.fnOf "law" "law" (defArgs S_law) (defBody S_law) (defScope S_law) .none kV16 dc16 pm16 an16 cd16 ct16), sl16⟩)
    (c16 : PySem.W.codeIn K cd16 "law" = true)
    (k16 : PySem.W.keepIn K (.ref f16) = true)
    (z_len : PySem.W.nsIn K mainGlobals "len" = some none)
    (z_range : PySem.W.nsIn K mainGlobals "range" = some none)
    (z_int : PySem.W.nsIn K mainGlobals "int" = some none)
    (z_str : PySem.W.nsIn K mainGlobals "str" = some none)
    (z_bool : PySem.W.nsIn K mainGlobals "bool" = some none)
    (z_tuple : PySem.W.nsIn K mainGlobals "tuple" = some none)
    (z_isinstance : PySem.W.nsIn K mainGlobals "isinstance" = some none)
    (aW : PySem.W.nsIn K mainGlobals "WORDS" = some (some (.ref dW)))
    (lW : K.lookup dW = some ⟨.type "dict", none, .dict #[⟨h1, .str "T" t1, .bool true⟩, ⟨h2, .str "F" t2, .bool false⟩, ⟨h3, .str "N" t3, .none⟩] nW, #[]⟩)
    (kW : PySem.W.KeysLit w.params (#[⟨h1, .str "T" t1, .bool true⟩, ⟨h2, .str "F" t2, .bool false⟩, ⟨h3, .str "N" t3, .none⟩] : Array DictEntry).toList)
    (sW : (dW == sysModules) = false)
    (aD : PySem.W.nsIn K mainGlobals "DIGITS_AT_MOST" = some (some (.int 2000 tD)))
    (aP : PySem.W.nsIn K mainGlobals "DEPTH_AT_MOST" = some (some (.int 40 tP))) :
    ∃ fd : FuncData, (∀ (s : Shared) (v : Value), BindsTo s fd ⟨[v], []⟩ [("script", v)]) ∧ ∀ base : Heap, K.In base → base.Ns mainGlobals mg → FnOk l.prog w K mg base CX0 85 fa fd ["script"] (spLaw K) := by
  have e := hfa.symm.trans (PySem.W.mg_of X G a16)
  cases e
  obtain ⟨D1, F1, b1⟩ : ∃ fd, Fun K "__init__" "Reader.__init__" S_Reader___init__ f1 fd ∧ Binds K fd ["self", "plain"] [] := ⟨_, fun_mk (st := S_Reader___init__) l1 c1 k1, (fun_mk (st := S_Reader___init__) l1 c1 k1).binds (ps := ["self", "plain"]) fun _ _ _ _ _ _ us hl => match us, hl with | [_, _], _ => rfl⟩
  obtain ⟨D2, F2, b2⟩ : ∃ fd, Fun K "value" "Reader.value" S_Reader_value f2 fd ∧ Binds K fd ["self", "at", "depth"] [] := ⟨_, fun_mk (st := S_Reader_value) l2 c2 k2, (fun_mk (st := S_Reader_value) l2 c2 k2).binds (ps := ["self", "at", "depth"]) fun _ _ _ _ _ _ us hl => match us, hl with | [_, _, _], _ => rfl⟩
  obtain ⟨D3, F3, b3⟩ : ∃ fd, Fun K "members" "Reader.members" S_Reader_members f3 fd ∧ Binds K fd ["self", "at", "depth"] [] := ⟨_, fun_mk (st := S_Reader_members) l3 c3 k3, (fun_mk (st := S_Reader_members) l3 c3 k3).binds (ps := ["self", "at", "depth"]) fun _ _ _ _ _ _ us hl => match us, hl with | [_, _, _], _ => rfl⟩
  obtain ⟨D4, F4, b4⟩ : ∃ fd, Fun K "number" "Reader.number" S_Reader_number f4 fd ∧ Binds K fd ["self", "at"] [] := ⟨_, fun_mk (st := S_Reader_number) l4 c4 k4, (fun_mk (st := S_Reader_number) l4 c4 k4).binds (ps := ["self", "at"]) fun _ _ _ _ _ _ us hl => match us, hl with | [_, _], _ => rfl⟩
  obtain ⟨D5, F5, b5⟩ : ∃ fd, Fun K "digits_end" "Reader.digits_end" S_Reader_digits_end f5 fd ∧ Binds K fd ["self", "begin"] [] := ⟨_, fun_mk (st := S_Reader_digits_end) l5 c5 k5, (fun_mk (st := S_Reader_digits_end) l5 c5 k5).binds (ps := ["self", "begin"]) fun _ _ _ _ _ _ us hl => match us, hl with | [_, _], _ => rfl⟩
  obtain ⟨D6, F6, b6⟩ : ∃ fd, Fun K "quoted" "Reader.quoted" S_Reader_quoted f6 fd ∧ Binds K fd ["self", "at"] [] := ⟨_, fun_mk (st := S_Reader_quoted) l6 c6 k6, (fun_mk (st := S_Reader_quoted) l6 c6 k6).binds (ps := ["self", "at"]) fun _ _ _ _ _ _ us hl => match us, hl with | [_, _], _ => rfl⟩
  obtain ⟨D7, F7, b7⟩ : ∃ fd, Fun K "show_plain" "show_plain" S_show_plain f7 fd ∧ Binds K fd ["value"] [] := ⟨_, fun_mk (st := S_show_plain) l7 c7 k7, (fun_mk (st := S_show_plain) l7 c7 k7).binds (ps := ["value"]) fun _ _ _ _ _ _ us hl => match us, hl with | [_], _ => rfl⟩
  obtain ⟨D8, F8, b8⟩ : ∃ fd, Fun K "read_plain" "read_plain" S_read_plain f8 fd ∧ Binds K fd ["text"] [] := ⟨_, fun_mk (st := S_read_plain) l8 c8 k8, (fun_mk (st := S_read_plain) l8 c8 k8).binds (ps := ["text"]) fun _ _ _ _ _ _ us hl => match us, hl with | [_], _ => rfl⟩
  obtain ⟨D9, F9, b9⟩ : ∃ fd, Fun K "unescaped" "unescaped" S_unescaped f9 fd ∧ Binds K fd ["text"] [] := ⟨_, fun_mk (st := S_unescaped) l9 c9 k9, (fun_mk (st := S_unescaped) l9 c9 k9).binds (ps := ["text"]) fun _ _ _ _ _ _ us hl => match us, hl with | [_], _ => rfl⟩
  obtain ⟨D10, F10, b10⟩ : ∃ fd, Fun K "_law_cell" "_law_cell" S_law_cell f10 fd ∧ Binds K fd ["script", "k"] [] := ⟨_, fun_mk (st := S_law_cell) l10 c10 k10, (fun_mk (st := S_law_cell) l10 c10 k10).binds (ps := ["script", "k"]) fun _ _ _ _ _ _ us hl => match us, hl with | [_, _], _ => rfl⟩
  obtain ⟨D11, F11, b11⟩ : ∃ fd, Fun K "_law_digits" "_law_digits" S_law_digits f11 fd ∧ Binds K fd ["script", "first", "last"] [] := ⟨_, fun_mk (st := S_law_digits) l11 c11 k11, (fun_mk (st := S_law_digits) l11 c11 k11).binds (ps := ["script", "first", "last"]) fun _ _ _ _ _ _ us hl => match us, hl with | [_, _, _], _ => rfl⟩
  obtain ⟨D12, F12, b12⟩ : ∃ fd, Fun K "_law_draw" "_law_draw" S_law_draw f12 fd ∧ Binds K fd ["box", "many"] [] := ⟨_, fun_mk (st := S_law_draw) l12 c12 k12, (fun_mk (st := S_law_draw) l12 c12 k12).binds (ps := ["box", "many"]) fun _ _ _ _ _ _ us hl => match us, hl with | [_, _], _ => rfl⟩
  obtain ⟨D13, F13, b13⟩ : ∃ fd, Fun K "_law_same" "_law_same" S_law_same f13 fd ∧ Binds K fd ["actual", "due"] [] := ⟨_, fun_mk (st := S_law_same) l13 c13 k13, (fun_mk (st := S_law_same) l13 c13 k13).binds (ps := ["actual", "due"]) fun _ _ _ _ _ _ us hl => match us, hl with | [_, _], _ => rfl⟩
  obtain ⟨D14, F14, b14⟩ : ∃ fd, Fun K "_law_plain" "_law_plain" S_law_plain f14 fd ∧ Binds K fd ["value"] [] := ⟨_, fun_mk (st := S_law_plain) l14 c14 k14, (fun_mk (st := S_law_plain) l14 c14 k14).binds (ps := ["value"]) fun _ _ _ _ _ _ us hl => match us, hl with | [_], _ => rfl⟩
  obtain ⟨D15, F15, b15⟩ : ∃ fd, Fun K "_law_value" "_law_value" S_law_value f15 fd ∧ Binds K fd ["box", "deep"] [] := ⟨_, fun_mk (st := S_law_value) l15 c15 k15, (fun_mk (st := S_law_value) l15 c15 k15).binds (ps := ["box", "deep"]) fun _ _ _ _ _ _ us hl => match us, hl with | [_, _], _ => rfl⟩
  have F16 := fun_mk (st := S_law) l16 c16 k16

  have T : Txt K mg := ⟨PySem.W.mg_none_of X G z_len, PySem.W.mg_none_of X G z_range, PySem.W.mg_none_of X G z_int, PySem.W.mg_none_of X G z_str, PySem.W.mg_none_of X G z_bool, PySem.W.mg_none_of X G z_tuple, PySem.W.mg_none_of X G z_isinstance⟩
  have TR : TxtR K mg CReader := ⟨T, ⟨pgReader, hdReader, poReader, saReader⟩, nReader_plain, nReader_mask, PySem.W.mg_of X G aCReader⟩
  have W : TxtW K w mg dW := ⟨PySem.W.mg_of X G aW, ⟨_, _, ⟨lW, kW, sW⟩⟩, fun z => words_at lW z⟩
  have hD := PySem.W.mg_of X G aD
  have hP := PySem.W.mg_of X G aP
  refine ⟨PySem.W.fnOf "law" "law" (defArgs S_law) (defBody S_law) (defScope S_law) .none kV16 dc16 pm16 an16 cd16 ct16, fun s v => .of_eq rfl, fun base _ _ => ?_⟩

  have G_cell : Gd l.prog w K mg base CX0 1 "_law_cell" f10 D10 ["script", "k"] (spCell K) := ⟨ok_law_cell F10 T, b10, PySem.W.mg_of X G a10, k10⟩
  have G_draw : Gd l.prog w K mg base CX0 1 "_law_draw" f12 D12 ["box", "many"] spDraw := ⟨ok_law_draw F12 T, b12, PySem.W.mg_of X G a12, k12⟩
  have G_digits : Gd l.prog w K mg base CX0 2 "_law_digits" f11 D11 ["script", "first", "last"] (spDigits K) := ⟨ok_law_digits F11 T G_cell, b11, PySem.W.mg_of X G a11, k11⟩
  have G_un : Gd l.prog w K mg base CX0 1 "unescaped" f9 D9 ["text"] spUn := ⟨ok_unescaped F9 T, b9, PySem.W.mg_of X G a9, k9⟩
  have G_show : ∀ n, Gd l.prog w K mg base CX0 n "show_plain" f7 D7 ["value"] (spShow K n) := fun n => by
    induction n with
    | zero => exact ⟨no_show, b7, PySem.W.mg_of X G a7, k7⟩
    | succ n ih => exact ⟨ok_show_plain F7 T ih, b7, PySem.W.mg_of X G a7, k7⟩
  have G_plain : ∀ n, Gd l.prog w K mg base CX0 n "_law_plain" f14 D14 ["value"] (spShow K n) := fun n => by
    induction n with
    | zero => exact ⟨no_show, b14, PySem.W.mg_of X G a14, k14⟩
    | succ n ih => exact ⟨ok_law_plain F14 T ih, b14, PySem.W.mg_of X G a14, k14⟩
  have G_same : ∀ n, Gd l.prog w K mg base CX0 n "_law_same" f13 D13 ["actual", "due"] (spSame K n) := fun n => by
    induction n with
    | zero => exact ⟨no_same, b13, PySem.W.mg_of X G a13, k13⟩
    | succ n ih => exact ⟨ok_law_same F13 T ih, b13, PySem.W.mg_of X G a13, k13⟩
  have G_value : ∀ n, Gd l.prog w K mg base CX0 (n + 1) "_law_value" f15 D15 ["box", "deep"] (spValue K n) := fun n => by
    induction n with
    | zero => exact ⟨no_value, b15, PySem.W.mg_of X G a15, k15⟩
    | succ n ih => exact ⟨ok_law_value F15 T G_draw ih, b15, PySem.W.mg_of X G a15, k15⟩
  have G_init : Gi l.prog w K mg base CX0 1 CReader f1 D1 ["self", "plain"] (spInit CReader) := ⟨ok_init F1 TR, b1, ⟨mkReader, a1, i1, kcReader⟩⟩
  have G_de : Gm l.prog w K mg base CX0 1 CReader "digits_end" f5 D5 ["self", "begin"] (spDE CReader) := ⟨ok_digits_end F5 TR, b5, ⟨a5, i5, k5⟩⟩
  have G_num : Gm l.prog w K mg base CX0 2 CReader "number" f4 D4 ["self", "at"] (spNum K CReader) := ⟨ok_number F4 TR hD G_de, b4, ⟨a4, i4, k4⟩⟩
  have G_quo : Gm l.prog w K mg base CX0 2 CReader "quoted" f6 D6 ["self", "at"] (spQuo K CReader) := ⟨ok_quoted F6 TR G_un, b6, ⟨a6, i6, k6⟩⟩
  have G_rd : ∀ n, Gm l.prog w K mg base CX0 (2 * n + 3) CReader "value" f2 D2 ["self", "at", "depth"] (spVal K CReader n) := fun n => by
    induction n with
    | zero => exact ⟨ok_value F2 TR W hP G_quo G_num ⟨no_mem, b3, ⟨a3, i3, k3⟩⟩, b2, ⟨a2, i2, k2⟩⟩
    | succ n ih => exact ⟨ok_value F2 TR W hP G_quo G_num ⟨ok_members F3 TR ih, b3, ⟨a3, i3, k3⟩⟩, b2, ⟨a2, i2, k2⟩⟩
  have G_read : Gd l.prog w K mg base CX0 84 "read_plain" f8 D8 ["text"] (spRead K) := ⟨ok_read_plain F8 TR G_init (G_rd 40), b8, PySem.W.mg_of X G a8, k8⟩
  exact ok_law F16 T G_digits G_draw (G_value 5) (G_plain 41) (G_show 41) G_read (G_same 41)
theorem walk {l : PySem.W.OpenLaw} {q : Program} {loose : List Str} {XP : (Str → Option Value) → Heap → Prop} {YP : World → Heap → Prop} {d : DefRec} {K : Params → PySem.W.Frag} (hn : l.most = some 63) (hdf : d.params.defaults = [])
    (hY : ∀ (w : World) (h : Heap), YP w h → (K w.params).In h)
    (F : ∀ (w : World) (mg : Str → Option Value) (fa : Addr) (h : Heap), (K w.params).In h → h.Ns mainGlobals mg → mg d.name = some (.ref fa) →
      ∃ fd : FuncData, (∀ (s : Shared) (u : Value), BindsTo s fd ⟨[u], []⟩ [("script", u)]) ∧ ∀ base : Heap, (K w.params).In base → base.Ns mainGlobals mg → FnOk l.prog w (K w.params) mg base CX0 85 fa fd ["script"] (spLaw (K w.params))) :
    PySem.W.WalkO q loose XP YP l.row.toRowW d [] (fun f vs => PySem.call f vs) :=
  L2.walk_of (n := 63) (k := 85) (x := "script") (CX := fun _ => CX0) (sp := fun w => spLaw (K w.params)) hn (by decide) hdf ⟨rfl, by decide, by decide⟩ hY F (fun _ _ a ns hl _ hS => ⟨a, ns, rfl, hS, hl, fun _ => rfl⟩) fun _ _ _ _ _ z => z
end Ev
open PySem PySem.W PyProof.Rows
set_option maxRecDepth 100000 in
set_option maxHeartbeats 0 in
theorem PySem.Challenge.cw_evenhour_k26_plain_there_and_back_holds : PySem.Challenge.rw_evenhour_k26_plain_there_and_back.Holds := by
  w_on; o_law; k_head; (case hw => w_witness2)
  k_fill
  refine Ev.walk (l := PySem.Challenge.rw_evenhour_k26_plain_there_and_back) rfl rfl (fun w h Y => PySem.W.kIn_of Y) ?F
  case F =>
    intro w mg fa h KX G hmg
    refine' Ev.all_mk KX G hmg ?aCReader ?a1 ?i1 ?l1 ?c1 ?k1 ?a2 ?i2 ?l2 ?c2 ?k2 ?a3 ?i3 ?l3 ?c3 ?k3 ?a4 ?i4 ?l4 ?c4 ?k4 ?a5 ?i5 ?l5 ?c5 ?k5 ?a6 ?i6 ?l6 ?c6 ?k6 ?pgReader ?hdReader ?poReader ?saReader ?mkReader ?kcReader ?nReader_plain ?nReader_mask ?a7 ?l7 ?c7 ?k7 ?a8 ?l8 ?c8 ?k8 ?a9 ?l9 ?c9 ?k9 ?a10 ?l10 ?c10 ?k10 ?a11 ?l11 ?c11 ?k11 ?a12 ?l12 ?c12 ?k12 ?a13 ?l13 ?c13 ?k13 ?a14 ?l14 ?c14 ?k14 ?a15 ?l15 ?c15 ?k15 ?a16 ?l16 ?c16 ?k16 ?z_len ?z_range ?z_int ?z_str ?z_bool ?z_tuple ?z_isinstance ?aW ?lW ?kW ?sW ?aD ?aP
    (case aCReader => k_is)
    (case a1 => k_is)
    (case i1 => k_is)
    (case l1 => k_is)
    (case c1 => k_is)
    (case k1 => k_is)
    (case a2 => k_is)
    (case i2 => k_is)
    (case l2 => k_is)
    (case c2 => k_is)
    (case k2 => k_is)
    (case a3 => k_is)
    (case i3 => k_is)
    (case l3 => k_is)
    (case c3 => k_is)
    (case k3 => k_is)
    (case a4 => k_is)
    (case i4 => k_is)
    (case l4 => k_is)
    (case c4 => k_is)
    (case k4 => k_is)
    (case a5 => k_is)
    (case i5 => k_is)
    (case l5 => k_is)
    (case c5 => k_is)
    (case k5 => k_is)
    (case a6 => k_is)
    (case i6 => k_is)
    (case l6 => k_is)
    (case c6 => k_is)
    (case k6 => k_is)
    (case pgReader => k_is)
    (case hdReader => k_is)
    (case poReader => k_is)
    (case saReader => k_is)
    (case mkReader => k_is)
    (case kcReader => k_is)
    (case nReader_plain => k_is)
    (case nReader_mask => k_is)
    (case a7 => k_is)
    (case l7 => k_is)
    (case c7 => k_is)
    (case k7 => k_is)
    (case a8 => k_is)
    (case l8 => k_is)
    (case c8 => k_is)
    (case k8 => k_is)
    (case a9 => k_is)
    (case l9 => k_is)
    (case c9 => k_is)
    (case k9 => k_is)
    (case a10 => k_is)
    (case l10 => k_is)
    (case c10 => k_is)
    (case k10 => k_is)
    (case a11 => k_is)
    (case l11 => k_is)
    (case c11 => k_is)
    (case k11 => k_is)
    (case a12 => k_is)
    (case l12 => k_is)
    (case c12 => k_is)
    (case k12 => k_is)
    (case a13 => k_is)
    (case l13 => k_is)
    (case c13 => k_is)
    (case k13 => k_is)
    (case a14 => k_is)
    (case l14 => k_is)
    (case c14 => k_is)
    (case k14 => k_is)
    (case a15 => k_is)
    (case l15 => k_is)
    (case c15 => k_is)
    (case k15 => k_is)
    (case a16 => k_is)
    (case l16 => k_is)
    (case c16 => k_is)
    (case k16 => k_is)
    (case z_len => k_is)
    (case z_range => k_is)
    (case z_int => k_is)
    (case z_str => k_is)
    (case z_bool => k_is)
    (case z_tuple => k_is)
    (case z_isinstance => k_is)
    (case aW => k_is)
    (case lW => k_is)
    (case kW => first | exact ⟨⟨_, _, rfl, rfl⟩, ⟨_, _, rfl, rfl⟩, ⟨_, _, rfl, rfl⟩, trivial⟩ | k_is)
    (case sW => first | rfl | decide | k_is)
    (case aD => k_is)
    (case aP => k_is)
#print axioms PySem.Challenge.cw_evenhour_k26_plain_there_and_back_holds
