import PyProof.Rows.All
import Wide.All
import OpenK.AllK
import Wide.FinOn
import PyProof.EqAt
import PyProof.EqKinds
import PyProof.TupleCall
import PyProof.EnumMake
import PyProof.ListStr
import PyProof.InstEq
import KE.GoesMore
import KE.GoesEnum
import HandS.ForMost
import HandS.More
import HandS.OwnEq
import HandS.Slots
import HandS.SlotsOwn
import HandS.IsInst
import HandS.Zip
import HandS.TupAny
import HandS.Conv
import HandS.Walk
import HandS.Evl
import PySem.Challenge.RW_rakedpapers_k07_whole_opposites_and_shor
set_option Elab.async false
set_option linter.all false
set_option maxRecDepth 100000
set_option maxHeartbeats 8000000
/-! The plain law: deeds, shortening, running; no program in sight. -/
namespace K7

inductive Deed where
  | draw (r : Bool) (s : List Int)
  | drop (c : Nat) (x : Nat)
  | paper (cs : List Nat)

abbrev modu (w h : Nat) (r : Bool) : Nat := if r then w else h
abbrev cnt (w h : Nat) (r : Bool) : Nat := if r then h else w
def plainS (m : Nat) (s : List Int) : List Int := s.map fun x => x % (m : Int)
def negS (s : List Int) : List Int := s.map fun x => 0 - x
def addS (a b : List Int) : List Int := List.zipWith (fun x y => x + y) a b
def posi (s : List Int) : Bool := s.any fun x => decide (0 < x)
def isDraw : Deed → Bool
  | .draw _ _ => true
  | _ => false
def plainD (w h : Nat) : Deed → Deed
  | .draw r s => .draw r (plainS (modu w h r) s)
  | d => d
def oppD (w h : Nat) : Deed → Deed
  | .draw r s => .draw r (plainS (modu w h r) (negS s))
  | d => d

/-! ### the stack of short, its top first -/
def push (w h : Nat) (stk : List Deed) (r : Bool) (s : List Int) : List Deed :=
  if posi (plainS (modu w h r) s) then .draw r (plainS (modu w h r) s) :: stk else stk
def step (w h : Nat) (stk : List Deed) (d : Deed) : List Deed :=
  match d with
  | .draw r s => match stk with
    | .draw r' s' :: rest => if r' = r then push w h rest r (addS s' s) else push w h stk r s
    | _ => push w h stk r s
  | d => d :: stk
def shortR (w h : Nat) (rec : List Deed) : List Deed := rec.foldl (step w h) []
def short (w h : Nat) (rec : List Deed) : List Deed := (shortR w h rec).reverse

/-! ### strides -/
theorem plainS_len (m : Nat) (s : List Int) : (plainS m s).length = s.length := by simp [plainS]
theorem negS_len (s : List Int) : (negS s).length = s.length := by simp [negS]
theorem addS_len (a b : List Int) : (addS a b).length = min a.length b.length := by simp [addS]
theorem plainS_idem (m : Nat) (s : List Int) : plainS m (plainS m s) = plainS m s := by
  simp [plainS, List.map_map, Function.comp_def, Int.emod_emod]
theorem plainS_addR (m : Nat) : ∀ a b : List Int, plainS m (addS a (plainS m b)) = plainS m (addS a b)
  | [], b => by simp [plainS, addS]
  | _ :: _, [] => by simp [plainS, addS]
  | x :: a, y :: b => by
    have ih := plainS_addR m a b
    simp only [plainS, addS, List.map_cons, List.zipWith_cons_cons] at ih ⊢
    rw [ih]
    congr 1
    exact Int.add_emod_emod x y m
theorem plainS_addL (m : Nat) : ∀ a b : List Int, plainS m (addS (plainS m a) b) = plainS m (addS a b)
  | [], b => by simp [plainS, addS]
  | _ :: _, [] => by simp [plainS, addS]
  | x :: a, y :: b => by
    have ih := plainS_addL m a b
    simp only [plainS, addS, List.map_cons, List.zipWith_cons_cons] at ih ⊢
    rw [ih]
    congr 1
    exact Int.emod_add_emod x m y
theorem addS_assoc : ∀ a b c : List Int, addS (addS a b) c = addS a (addS b c)
  | [], b, c => by simp [addS]
  | _ :: _, [], c => by simp [addS]
  | _ :: _, _ :: _, [] => by simp [addS]
  | x :: a, y :: b, z :: c => by
    have ih := addS_assoc a b c
    simp only [addS, List.zipWith_cons_cons] at ih ⊢
    rw [ih, Int.add_assoc]
/-- all noughts -/
def Zer (s : List Int) : Prop := ∀ x ∈ s, x = 0
theorem zer_of {m : Nat} {s : List Int} (hm : 0 < m) (h : posi (plainS m s) = false) : Zer (plainS m s) := by
  intro x hx
  have h1 : ¬ 0 < x := by
    intro hp
    have : posi (plainS m s) = true := List.any_eq_true.mpr ⟨x, hx, by simp [hp]⟩
    rw [h] at this
    cases this
  obtain ⟨y, _, rfl⟩ := List.mem_map.mp hx
  have h2 : 0 ≤ y % (m : Int) := Int.emod_nonneg y (by omega)
  omega
theorem addS_zerR : ∀ {a z : List Int}, Zer z → a.length = z.length → addS a z = a
  | [], _, _, _ => by simp [addS]
  | x :: a, [], _, h => by simp at h
  | x :: a, y :: z, hz, h => by
    have ih := addS_zerR (a := a) (z := z) (fun t ht => hz t (List.mem_cons_of_mem _ ht)) (by simpa using h)
    have e : y = 0 := hz y List.mem_cons_self
    simp only [addS, List.zipWith_cons_cons] at ih ⊢
    rw [ih, e, Int.add_zero]
theorem addS_zerL : ∀ {z a : List Int}, Zer z → a.length = z.length → addS z a = a
  | [], a, _, h => by
    have : a = [] := List.eq_nil_of_length_eq_zero (by simpa using h)
    simp [addS, this]
  | y :: z, [], _, h => by simp at h
  | y :: z, x :: a, hz, h => by
    have ih := addS_zerL (a := a) (z := z) (fun t ht => hz t (List.mem_cons_of_mem _ ht)) (by simpa using h)
    have e : y = 0 := hz y List.mem_cons_self
    simp only [addS, List.zipWith_cons_cons] at ih ⊢
    rw [ih, e, Int.zero_add]
theorem zer_plain {m : Nat} {z : List Int} (h : Zer z) : plainS m z = z := by
  unfold plainS
  refine List.ext_getElem (by simp) fun i h1 h2 => ?_
  have e : z[i] = 0 := h _ (List.getElem_mem h2)
  simp [e]
theorem zer_posi {z : List Int} (h : Zer z) : posi z = false := by
  unfold posi
  rw [List.any_eq_false]
  intro x hx
  have := h x hx
  simp [this]
/-- small -/
def Sm (m : Nat) (s : List Int) : Prop := ∀ x ∈ s, 0 ≤ x ∧ x < (m : Int)
theorem sm_plain {m : Nat} (hm : 0 < m) (s : List Int) : Sm m (plainS m s) := by
  intro x hx
  obtain ⟨y, _, rfl⟩ := List.mem_map.mp hx
  exact ⟨Int.emod_nonneg y (by omega), Int.emod_lt_of_pos y (by omega)⟩
theorem plain_sm {m : Nat} {s : List Int} (h : Sm m s) : plainS m s = s := by
  unfold plainS
  refine List.ext_getElem (by simp) fun i h1 h2 => ?_
  have e := h _ (List.getElem_mem h2)
  simp [Int.emod_eq_of_lt e.1 e.2]
theorem sm_zer {m : Nat} {s : List Int} (h : Sm m s) (hp : posi s = false) : Zer s := by
  intro x hx
  have h1 : ¬ 0 < x := by
    intro hp'
    have : posi s = true := List.any_eq_true.mpr ⟨x, hx, by simp [hp']⟩
    rw [hp] at this
    cases this
  have := h x hx
  omega

/-! ### reduced stacks -/
def okD (w h : Nat) : Deed → Prop
  | .draw r s => s.length = cnt w h r ∧ Sm (modu w h r) s ∧ posi s = true
  | _ => True
def notSame : Deed → List Deed → Prop
  | .draw r _, .draw r' _ :: _ => r ≠ r'
  | _, _ => True
def Red (w h : Nat) : List Deed → Prop
  | [] => True
  | d :: rest => okD w h d ∧ notSame d rest ∧ Red w h rest
def lenD (w h : Nat) : Deed → Prop
  | .draw r s => s.length = cnt w h r
  | _ => True
def topNot (r : Bool) : List Deed → Prop
  | .draw r' _ :: _ => r' ≠ r
  | _ => True
variable {w h : Nat}
theorem modu_pos (hw : 0 < w) (hh : 0 < h) (r : Bool) : 0 < modu w h r := by cases r <;> simp [modu, hw, hh]
theorem step_top {stk : List Deed} {r : Bool} (ht : topNot r stk) (s : List Int) : step w h stk (.draw r s) = push w h stk r s := by
  match stk, ht with
  | [], _ => rfl
  | .drop _ _ :: _, _ => rfl
  | .paper _ :: _, _ => rfl
  | .draw r' s' :: rest, ht => exact if_neg ht
theorem step_same {rest : List Deed} {r : Bool} (s' s : List Int) : step w h (.draw r s' :: rest) (.draw r s) = push w h rest r (addS s' s) := if_pos rfl
theorem top_cases (r : Bool) (stk : List Deed) : topNot r stk ∨ ∃ s' rest, stk = .draw r s' :: rest := by
  match stk with
  | [] => exact .inl trivial
  | .drop _ _ :: _ => exact .inl trivial
  | .paper _ :: _ => exact .inl trivial
  | .draw r' s' :: rest =>
    by_cases e : r' = r
    · exact .inr ⟨s', rest, by rw [e]⟩
    · exact .inl e
theorem topNot_of_red {r : Bool} {s' : List Int} {rest : List Deed} (R : Red w h (.draw r s' :: rest)) : topNot r rest := by
  match rest, R with
  | [], _ => trivial
  | .drop _ _ :: _, _ => trivial
  | .paper _ :: _, _ => trivial
  | .draw r' _ :: _, R => exact fun e => R.2.1 e.symm
theorem notSame_of_top {r : Bool} {s : List Int} {rest : List Deed} (ht : topNot r rest) : notSame (.draw r s) rest := by
  match rest, ht with
  | [], _ => trivial
  | .drop _ _ :: _, _ => trivial
  | .paper _ :: _, _ => trivial
  | .draw r' _ :: _, ht => exact fun e => ht e.symm
theorem push_red (hw : 0 < w) (hh : 0 < h) {stk : List Deed} {r : Bool} {s : List Int} (R : Red w h stk) (ht : topNot r stk) (hl : s.length = cnt w h r) : Red w h (push w h stk r s) := by
  unfold push
  by_cases hp : posi (plainS (modu w h r) s) = true
  · rw [if_pos hp]
    exact ⟨⟨by rw [plainS_len, hl], sm_plain (modu_pos hw hh r) s, hp⟩, notSame_of_top ht, R⟩
  · rw [if_neg hp]
    exact R
theorem step_red (hw : 0 < w) (hh : 0 < h) {stk : List Deed} {d : Deed} (R : Red w h stk) (hl : lenD w h d) : Red w h (step w h stk d) := by
  match d with
  | .drop _ _ => exact ⟨trivial, by cases stk <;> trivial, R⟩
  | .paper _ => exact ⟨trivial, by cases stk <;> trivial, R⟩
  | .draw r s =>
    rcases top_cases r stk with ht | ⟨s', rest, rfl⟩
    · rw [step_top ht]
      exact push_red hw hh R ht hl
    · rw [step_same]
      refine push_red hw hh R.2.2 (topNot_of_red R) ?_
      have h1 : s'.length = cnt w h r := R.1.1
      have h2 : s.length = cnt w h r := hl
      rw [addS_len, h1, h2, Nat.min_self]
theorem foldl_red (hw : 0 < w) (hh : 0 < h) : ∀ (rec : List Deed) {stk : List Deed}, Red w h stk → (∀ d ∈ rec, lenD w h d) → Red w h (rec.foldl (step w h) stk)
  | [], _, R, _ => R
  | d :: rec, _, R, hl => foldl_red hw hh rec (step_red hw hh R (hl d List.mem_cons_self)) fun e he => hl e (List.mem_cons_of_mem _ he)
/-- plain or not is the same to a step -/
theorem push_plain (stk : List Deed) (r : Bool) (s : List Int) : push w h stk r (plainS (modu w h r) s) = push w h stk r s := by
  unfold push
  rw [plainS_idem]
theorem push_congr {stk : List Deed} {r : Bool} {s t : List Int} (e : plainS (modu w h r) s = plainS (modu w h r) t) : push w h stk r s = push w h stk r t := by
  unfold push
  rw [e]
theorem step_plain (stk : List Deed) (d : Deed) : step w h stk (plainD w h d) = step w h stk d := by
  match d with
  | .drop _ _ => rfl
  | .paper _ => rfl
  | .draw r s =>
    show step w h stk (.draw r (plainS (modu w h r) s)) = _
    rcases top_cases r stk with ht | ⟨s', rest, rfl⟩
    · rw [step_top ht, step_top ht, push_plain]
    · rw [step_same, step_same]
      exact push_congr (plainS_addR _ _ _)
theorem foldl_plain : ∀ (rec : List Deed) (stk : List Deed), (rec.map (plainD w h)).foldl (step w h) stk = rec.foldl (step w h) stk
  | [], _ => rfl
  | d :: rec, stk => by
    show (rec.map (plainD w h)).foldl (step w h) (step w h stk (plainD w h d)) = rec.foldl (step w h) (step w h stk d)
    rw [step_plain]
    exact foldl_plain rec _
/-- a draw of noughts does nothing -/
theorem step_zero {stk : List Deed} {r : Bool} {s : List Int} (R : Red w h stk) (hl : s.length = cnt w h r) (hz : Zer s) : step w h stk (.draw r s) = stk := by
  rcases top_cases r stk with ht | ⟨s', rest, rfl⟩
  · rw [step_top ht]
    unfold push
    rw [zer_plain hz, zer_posi hz]
    exact if_neg (by decide)
  · rw [step_same]
    have h1 : s'.length = cnt w h r := R.1.1
    have e : addS s' s = s' := addS_zerR hz (by rw [h1, hl])
    unfold push
    rw [e, plain_sm R.1.2.1]
    have hp : posi s' = true := R.1.2.2
    exact if_pos hp
/-- two draws of a kind are one -/
theorem step_two (hw : 0 < w) (hh : 0 < h) {stk : List Deed} {r : Bool} {a b : List Int} (R : Red w h stk) (ha : a.length = cnt w h r) (hb : b.length = cnt w h r) :
    step w h (step w h stk (.draw r a)) (.draw r b) = step w h stk (.draw r (plainS (modu w h r) (addS a b))) := by
  have pl : step w h stk (.draw r (plainS (modu w h r) (addS a b))) = step w h stk (.draw r (addS a b)) := step_plain stk (.draw r (addS a b))
  rw [pl]
  have key : ∀ (base : List Deed) (x c : List Int), topNot r base → x.length = cnt w h r → c.length = cnt w h r →
      step w h (push w h base r x) (.draw r c) = push w h base r (addS x c) := by
    intro base x c ht hx hc
    unfold push
    by_cases hp : posi (plainS (modu w h r) x) = true
    · rw [if_pos hp, step_same]
      exact push_congr (plainS_addL _ _ _)
    · rw [if_neg hp, step_top ht]
      have hz : Zer (plainS (modu w h r) x) := zer_of (modu_pos hw hh r) (by simpa using hp)
      refine push_congr ?_
      rw [← plainS_addL, addS_zerL hz (by rw [plainS_len, hx, hc])]
  rcases top_cases r stk with ht | ⟨s', rest, rfl⟩
  · rw [step_top ht, step_top ht]
    exact key _ _ _ ht ha hb
  · have h1 : s'.length = cnt w h r := R.1.1
    rw [step_same, step_same, key _ _ _ (topNot_of_red R) (by rw [addS_len, h1, ha, Nat.min_self]) hb, addS_assoc]

/-! ### the law's own joining -/
def keepD : Deed → Bool
  | .draw _ s => posi s
  | _ => true
def sameK : Deed → Deed → Bool
  | .draw r _, .draw r' _ => r == r'
  | _, _ => false
def joinD (w h : Nat) : Deed → Deed → Deed
  | .draw r s, .draw _ s' => .draw r (plainS (modu w h r) (addS s s'))
  | d, _ => d
def sameAt (rows : List Deed) (k : Nat) : Bool := match rows[k]?, rows[k + 1]? with
  | some a, some b => sameK a b
  | _, _ => false
def atL (rows : List Deed) : List Nat := (List.range (rows.length - 1)).filter (sameAt rows)
def joinAt (w h : Nat) (rows : List Deed) (k : Nat) : List Deed := match rows[k]?, rows[k + 1]? with
  | some a, some b => rows.take k ++ [joinD w h a b] ++ rows.drop (k + 2)
  | _, _ => rows
def turnD (w h : Nat) (rows : List Deed) : List Deed := match atL (rows.filter keepD) with
  | [] => rows.filter keepD
  | k :: _ => joinAt w h (rows.filter keepD) k
def turns (w h : Nat) : Nat → List Deed → List Deed
  | 0, rows => rows
  | n + 1, rows => turns w h n (turnD w h rows)
def lawShort (w h : Nat) (rec : List Deed) : List Deed := turns w h (2 * rec.length + 1) (rec.map (plainD w h))

/-- plain, of the right length -/
def Pl (w h : Nat) : Deed → Prop
  | .draw r s => s.length = cnt w h r ∧ Sm (modu w h r) s
  | _ => True
theorem Pl.len {d : Deed} (p : Pl w h d) : lenD w h d := by
  cases d with
  | draw r s => exact p.1
  | drop _ _ => trivial
  | paper _ => trivial
theorem pl_plain (hw : 0 < w) (hh : 0 < h) {d : Deed} (hl : lenD w h d) : Pl w h (plainD w h d) := by
  cases d with
  | draw r s => exact ⟨by rw [plainS_len]; exact hl, sm_plain (modu_pos hw hh r) s⟩
  | drop _ _ => trivial
  | paper _ => trivial
theorem foldl_filter (hw : 0 < w) (hh : 0 < h) : ∀ (rows : List Deed) {stk : List Deed}, Red w h stk → (∀ d ∈ rows, Pl w h d) → (rows.filter keepD).foldl (step w h) stk = rows.foldl (step w h) stk
  | [], _, _, _ => rfl
  | d :: rows, stk, R, hp => by
    have hd := hp d List.mem_cons_self
    have ih := fun {stk : List Deed} (R : Red w h stk) => foldl_filter hw hh rows R fun e he => hp e (List.mem_cons_of_mem _ he)
    by_cases k : keepD d = true
    · rw [List.filter_cons_of_pos k]
      exact ih (step_red hw hh R hd.len)
    · rw [List.filter_cons_of_neg k]
      show _ = rows.foldl (step w h) (step w h stk d)
      have e : step w h stk d = stk := by
        cases d with
        | drop _ _ => exact absurd rfl k
        | paper _ => exact absurd rfl k
        | draw r s => exact step_zero R hd.1 (sm_zer hd.2 (Bool.eq_false_iff.mpr k))
      rw [e]
      exact ih R
theorem sameAt_some {rows : List Deed} {k : Nat} (e : sameAt rows k = true) : ∃ r a b, rows[k]? = some (.draw r a) ∧ rows[k + 1]? = some (.draw r b) := by
  unfold sameAt at e
  split at e
  · rename_i x y hx hy
    cases x with
    | draw r a =>
      cases y with
      | draw r' b =>
        have e' : r = r' := by simpa [sameK] using e
        subst e'
        exact ⟨r, a, b, hx, hy⟩
      | drop _ _ => cases e
      | paper _ => cases e
    | drop _ _ => cases e
    | paper _ => cases e
  · cases e
theorem split_two {α : Type} {rows : List α} {k : Nat} {a b : α} (ha : rows[k]? = some a) (hb : rows[k + 1]? = some b) : rows = rows.take k ++ ([a, b] ++ rows.drop (k + 2)) := by
  obtain ⟨h1, e1⟩ := List.getElem?_eq_some_iff.mp ha
  obtain ⟨h2, e2⟩ := List.getElem?_eq_some_iff.mp hb
  have d1 : rows.drop k = a :: rows.drop (k + 1) := by rw [List.drop_eq_getElem_cons h1, e1]
  have d2 : rows.drop (k + 1) = b :: rows.drop (k + 2) := by rw [List.drop_eq_getElem_cons h2, e2]
  calc rows = rows.take k ++ rows.drop k := (List.take_append_drop k rows).symm
    _ = _ := by rw [d1, d2]; rfl
theorem atL_mem {rows : List Deed} {k : Nat} (hk : k ∈ atL rows) : sameAt rows k = true := (List.mem_filter.mp hk).2
theorem joinAt_eq {rows : List Deed} {k : Nat} {r : Bool} {a b : List Int} (ha : rows[k]? = some (.draw r a)) (hb : rows[k + 1]? = some (.draw r b)) :
    joinAt w h rows k = rows.take k ++ [.draw r (plainS (modu w h r) (addS a b))] ++ rows.drop (k + 2) := by
  unfold joinAt
  rw [ha, hb]
  rfl
theorem foldl_join (hw : 0 < w) (hh : 0 < h) {rows : List Deed} {k : Nat} (e : sameAt rows k = true) (hp : ∀ d ∈ rows, Pl w h d) : (joinAt w h rows k).foldl (step w h) [] = rows.foldl (step w h) [] := by
  obtain ⟨r, a, b, ha, hb⟩ := sameAt_some e
  have pa : Pl w h (.draw r a) := hp _ (List.mem_of_getElem? ha)
  have pb : Pl w h (.draw r b) := hp _ (List.mem_of_getElem? hb)
  rw [joinAt_eq ha hb]
  have es := split_two ha hb
  have R : Red w h ((rows.take k).foldl (step w h) []) := foldl_red hw hh _ trivial fun d hd => (hp d (List.mem_of_mem_take hd)).len
  conv => rhs; rw [es]
  rw [List.foldl_append, List.foldl_append, List.foldl_append, List.foldl_append]
  show (rows.drop (k + 2)).foldl (step w h) (step w h ((rows.take k).foldl (step w h) []) (.draw r (plainS (modu w h r) (addS a b)))) =
    (rows.drop (k + 2)).foldl (step w h) (step w h (step w h ((rows.take k).foldl (step w h) []) (.draw r a)) (.draw r b))
  rw [step_two hw hh R pa.1 pb.1]
theorem pl_join (hw : 0 < w) (hh : 0 < h) {rows : List Deed} {k : Nat} (e : sameAt rows k = true) (hp : ∀ d ∈ rows, Pl w h d) : ∀ d ∈ joinAt w h rows k, Pl w h d := by
  obtain ⟨r, a, b, ha, hb⟩ := sameAt_some e
  have pa : Pl w h (.draw r a) := hp _ (List.mem_of_getElem? ha)
  have pb : Pl w h (.draw r b) := hp _ (List.mem_of_getElem? hb)
  rw [joinAt_eq ha hb]
  intro d hd
  rcases List.mem_append.mp hd with hd | hd
  · rcases List.mem_append.mp hd with hd | hd
    · exact hp d (List.mem_of_mem_take hd)
    · rw [List.mem_singleton.mp hd]
      exact ⟨by rw [plainS_len, addS_len, pa.1, pb.1, Nat.min_self], sm_plain (modu_pos hw hh r) _⟩
  · exact hp d (List.mem_of_mem_drop hd)
theorem len_join {rows : List Deed} {k : Nat} (e : sameAt rows k = true) : (joinAt w h rows k).length + 1 = rows.length := by
  obtain ⟨r, a, b, ha, hb⟩ := sameAt_some e
  rw [joinAt_eq ha hb]
  obtain ⟨h2, _⟩ := List.getElem?_eq_some_iff.mp hb
  simp only [List.length_append, List.length_take, List.length_drop, List.length_singleton]
  omega
/-- normal: nothing to drop, nothing to join -/
def Nf (w h : Nat) (rows : List Deed) : Prop := (∀ d ∈ rows, Pl w h d) ∧ (∀ d ∈ rows, keepD d = true) ∧ atL rows = []
theorem nf_turn {rows : List Deed} (n : Nf w h rows) : turnD w h rows = rows := by
  have e : rows.filter keepD = rows := List.filter_eq_self.mpr n.2.1
  unfold turnD
  rw [e, n.2.2]
theorem nf_turns : ∀ (k : Nat) {rows : List Deed}, Nf w h rows → turns w h k rows = rows
  | 0, _, _ => rfl
  | k + 1, rows, n => by
    show turns w h k (turnD w h rows) = rows
    rw [nf_turn n]
    exact nf_turns k n
theorem turns_nf (hw : 0 < w) (hh : 0 < h) : ∀ (k : Nat) (rows : List Deed), rows.length < k → (∀ d ∈ rows, Pl w h d) →
    Nf w h (turns w h k rows) ∧ shortR w h (turns w h k rows) = shortR w h rows
  | 0, _, hk, _ => absurd hk (Nat.not_lt_zero _)
  | k + 1, rows, hk, hp => by
    have hpf : ∀ d ∈ rows.filter keepD, Pl w h d := fun d hd => hp d (List.mem_filter.mp hd).1
    have hfl : (rows.filter keepD).length ≤ rows.length := List.length_filter_le _ _
    show Nf w h (turns w h k (turnD w h rows)) ∧ shortR w h (turns w h k (turnD w h rows)) = shortR w h rows
    have fe : shortR w h (rows.filter keepD) = shortR w h rows := foldl_filter hw hh rows trivial hp
    unfold turnD
    cases e : atL (rows.filter keepD) with
    | nil =>
      have n : Nf w h (rows.filter keepD) := ⟨hpf, fun d hd => (List.mem_filter.mp hd).2, e⟩
      show Nf w h (turns w h k (rows.filter keepD)) ∧ shortR w h (turns w h k (rows.filter keepD)) = shortR w h rows
      rw [nf_turns k n]
      exact ⟨n, fe⟩
    | cons j js =>
      have hs : sameAt (rows.filter keepD) j = true := atL_mem (by rw [e]; exact List.mem_cons_self)
      have hl := len_join (w := w) (h := h) hs
      obtain ⟨q1, q2⟩ := turns_nf hw hh k (joinAt w h (rows.filter keepD) j) (by omega) (pl_join hw hh hs hpf)
      exact ⟨q1, q2.trans ((foldl_join hw hh hs hpf).trans fe)⟩
/-- a normal list is its own stack -/
theorem nf_fold : ∀ (rows stk : List Deed), Red w h (rows.reverse ++ stk) → rows.foldl (step w h) stk = rows.reverse ++ stk
  | [], _, _ => rfl
  | d :: rows, stk, R => by
    have R' : Red w h (rows.reverse ++ (d :: stk)) := by
      rw [List.reverse_cons, List.append_assoc] at R
      exact R
    have tail : ∀ (l : List Deed), Red w h (l ++ (d :: stk)) → Red w h (d :: stk) := by
      intro l
      induction l with
      | nil => exact fun x => x
      | cons a l ih => exact fun x => ih x.2.2
    have Rd := tail _ R'
    have e : step w h stk d = d :: stk := by
      cases d with
      | drop _ _ => rfl
      | paper _ => rfl
      | draw r s =>
        rw [step_top (topNot_of_red Rd)]
        unfold push
        rw [plain_sm Rd.1.2.1]
        have hp : posi s = true := Rd.1.2.2
        exact if_pos hp
    show rows.foldl (step w h) (step w h stk d) = _
    rw [e, nf_fold rows (d :: stk) R', List.reverse_cons, List.append_assoc]
    rfl
theorem sameAt_cons {d : Deed} {rows : List Deed} {k : Nat} : sameAt (d :: rows) (k + 1) = sameAt rows k := by
  unfold sameAt
  simp
theorem atL_nil_iff {rows : List Deed} : atL rows = [] ↔ ∀ k, sameAt rows k = false := by
  unfold atL
  rw [List.filter_eq_nil_iff]
  constructor
  · intro q k
    by_cases hk : k < rows.length - 1
    · simpa using q k (List.mem_range.mpr hk)
    · unfold sameAt
      have : rows[k + 1]? = none := List.getElem?_eq_none (by omega)
      rw [this]
      cases rows[k]? <;> rfl
  · intro q k _
    simp [q k]
/-- reduced from the other end -/
theorem red_reverse : ∀ (rows : List Deed), (∀ d ∈ rows, okD w h d) → (∀ k, sameAt rows k = false) → ∀ stk, Red w h stk → (∀ d s, rows.head? = some d → stk.head? = some s → sameK d s = false) → Red w h (rows.reverse ++ stk)
  | [], _, _, _, R, _ => R
  | d :: rows, hp, hs, stk, R, ht => by
    rw [List.reverse_cons, List.append_assoc]
    refine red_reverse rows (fun e he => hp e (List.mem_cons_of_mem _ he)) (fun k => sameAt_cons (d := d) ▸ hs (k + 1)) ([d] ++ stk) ⟨hp d List.mem_cons_self, ?_, R⟩ ?_
    · cases d with
      | drop _ _ => trivial
      | paper _ => trivial
      | draw r s =>
        match stk, ht with
        | [], _ => trivial
        | .drop _ _ :: _, _ => trivial
        | .paper _ :: _, _ => trivial
        | .draw r' s' :: _, ht =>
          have q := ht _ _ rfl rfl
          intro e
          subst e
          simp [sameK] at q
    · intro a s ha hst
      have : s = d := (Option.some.inj hst).symm
      subst this
      cases rows with
      | nil => cases ha
      | cons b rows =>
        have : a = b := (Option.some.inj ha).symm
        subst this
        have q : sameK s a = false := hs 0
        cases s with
        | drop _ _ => cases a <;> rfl
        | paper _ => cases a <;> rfl
        | draw r1 s1 =>
          cases a with
          | drop _ _ => rfl
          | paper _ => rfl
          | draw r2 s2 =>
            have q' : (r1 == r2) = false := q
            show (r2 == r1) = false
            rw [BEq.comm]
            exact q'
theorem nf_red {rows : List Deed} (n : Nf w h rows) : Red w h rows.reverse := by
  have q := red_reverse (w := w) (h := h) rows (fun d hd => ?_) (atL_nil_iff.mp n.2.2) [] trivial (fun _ _ _ h => nomatch h)
  · rwa [List.append_nil] at q
  · have p := n.1 d hd
    have k := n.2.1 d hd
    cases d with
    | drop _ _ => trivial
    | paper _ => trivial
    | draw r s => exact ⟨p.1, p.2, k⟩
theorem nf_short {rows : List Deed} (n : Nf w h rows) : short w h rows = rows := by
  have q := nf_fold (w := w) (h := h) rows [] (by rw [List.append_nil]; exact nf_red n)
  unfold short shortR
  rw [q, List.append_nil, List.reverse_reverse]
theorem law_short (hw : 0 < w) (hh : 0 < h) {rec : List Deed} (hl : ∀ d ∈ rec, lenD w h d) : lawShort w h rec = short w h rec ∧ short w h (short w h rec) = short w h rec := by
  have hp : ∀ d ∈ rec.map (plainD w h), Pl w h d := fun d hd => by
    obtain ⟨e, he, rfl⟩ := List.mem_map.mp hd
    exact pl_plain hw hh (hl e he)
  obtain ⟨n, e⟩ := turns_nf hw hh (2 * rec.length + 1) (rec.map (plainD w h)) (by simp; omega) hp
  have e1 : shortR w h (rec.map (plainD w h)) = shortR w h rec := foldl_plain rec []
  have e2 : short w h (lawShort w h rec) = lawShort w h rec := nf_short n
  have e3 : short w h (lawShort w h rec) = short w h rec := congrArg List.reverse (e.trans e1)
  have e4 : lawShort w h rec = short w h rec := e2.symm.trans e3
  exact ⟨e4, by rw [← e4]; exact e2⟩

/-! ### what short leaves: plain draws, all else as it was -/
theorem short_mem_red (hw : 0 < w) (hh : 0 < h) {rec : List Deed} (hl : ∀ d ∈ rec, lenD w h d) : Red w h (shortR w h rec) := foldl_red hw hh rec trivial hl
theorem red_all : ∀ {stk : List Deed}, Red w h stk → ∀ d ∈ stk, okD w h d
  | [], _, _, hd => nomatch hd
  | a :: stk, R, d, hd => by
    rcases List.mem_cons.mp hd with e | hd
    · rw [e]; exact R.1
    · exact red_all R.2.2 d hd
theorem push_len (stk : List Deed) (r : Bool) (s : List Int) : (push w h stk r s).length ≤ stk.length + 1 := by
  unfold push
  split <;> simp
theorem step_len (stk : List Deed) (d : Deed) : (step w h stk d).length ≤ stk.length + 1 := by
  match d with
  | .drop _ _ => exact Nat.le_refl _
  | .paper _ => exact Nat.le_refl _
  | .draw r s =>
    rcases top_cases r stk with ht | ⟨s', rest, rfl⟩
    · rw [step_top ht]; exact push_len _ _ _
    · rw [step_same]
      have := push_len (w := w) (h := h) rest r (addS s' s)
      simp only [List.length_cons]
      omega
theorem foldl_len : ∀ (rec stk : List Deed), (rec.foldl (step w h) stk).length ≤ stk.length + rec.length
  | [], stk => Nat.le_refl _
  | d :: rec, stk => by
    have h1 := foldl_len rec (step w h stk d)
    have h2 := step_len (w := w) (h := h) stk d
    show (rec.foldl (step w h) (step w h stk d)).length ≤ stk.length + (rec.length + 1)
    omega
theorem short_len (rec : List Deed) : (short w h rec).length ≤ rec.length := by
  unfold short
  rw [List.length_reverse]
  have := foldl_len (w := w) (h := h) rec []
  simpa [shortR] using this
/-- a property of all that is no draw stays -/
theorem step_mem {stk : List Deed} {d e : Deed} (he : e ∈ step w h stk d) : (isDraw e = true) ∨ e ∈ stk ∨ e = d := by
  match d with
  | .drop _ _ =>
    rcases List.mem_cons.mp he with q | q
    · exact .inr (.inr q)
    · exact .inr (.inl q)
  | .paper _ =>
    rcases List.mem_cons.mp he with q | q
    · exact .inr (.inr q)
    · exact .inr (.inl q)
  | .draw r s =>
    have pm : ∀ (base : List Deed) (t : List Int), e ∈ push w h base r t → isDraw e = true ∨ e ∈ base := by
      intro base t hm
      unfold push at hm
      split at hm
      · rcases List.mem_cons.mp hm with q | q
        · left; rw [q]; rfl
        · exact .inr q
      · exact .inr hm
    rcases top_cases r stk with ht | ⟨s', rest, rfl⟩
    · rw [step_top ht] at he
      rcases pm _ _ he with q | q
      · exact .inl q
      · exact .inr (.inl q)
    · rw [step_same] at he
      rcases pm _ _ he with q | q
      · exact .inl q
      · exact .inr (.inl (List.mem_cons_of_mem _ q))
theorem foldl_mem : ∀ (rec : List Deed) {stk : List Deed} {e : Deed}, e ∈ rec.foldl (step w h) stk → isDraw e = true ∨ e ∈ stk ∨ e ∈ rec
  | [], _, _, he => .inr (.inl he)
  | d :: rec, stk, e, he => by
    rcases foldl_mem rec (stk := step w h stk d) he with q | q | q
    · exact .inl q
    · rcases step_mem q with q | q | q
      · exact .inl q
      · exact .inr (.inl q)
      · exact .inr (.inr (q ▸ List.mem_cons_self))
    · exact .inr (.inr (List.mem_cons_of_mem _ q))
theorem short_mem {rec : List Deed} {e : Deed} (he : e ∈ short w h rec) : isDraw e = true ∨ e ∈ rec := by
  rcases foldl_mem rec (stk := []) (List.mem_reverse.mp he) with q | q | q
  · exact .inl q
  · cases q
  · exact .inr q
end K7
/-! The plain law: what deeds do to a tray of things. -/
namespace K7
variable {w h : Nat}

/-! ### a draw -/
def shf (a : Nat) (x : Int) (m : Nat) : Nat := (((a : Int) - x) % (m : Int)).toNat
def srcC (w h : Nat) (r : Bool) (s : List Int) (c : Nat) : Nat :=
  if r then c / w * w + shf (c % w) (s.getD (c / w) 0) w else shf (c / w) (s.getD (c % w) 0) h * w + c % w
def actL {α : Type} [Inhabited α] (w h : Nat) (r : Bool) (s : List Int) (x : List α) : List α := (List.range (w * h)).map fun c => x.getD (srcC w h r s c) default
theorem shf_lt {a : Nat} {x : Int} {m : Nat} (hm : 0 < m) : shf a x m < m := by
  unfold shf
  have h1 : 0 ≤ ((a : Int) - x) % (m : Int) := Int.emod_nonneg _ (by omega)
  have h2 : ((a : Int) - x) % (m : Int) < m := Int.emod_lt_of_pos _ (by omega)
  omega
theorem shf_int {a : Nat} {x : Int} {m : Nat} (hm : 0 < m) : ((shf a x m : Nat) : Int) = ((a : Int) - x) % (m : Int) := by
  unfold shf
  have h1 : 0 ≤ ((a : Int) - x) % (m : Int) := Int.emod_nonneg _ (by omega)
  omega
theorem shf_mod {a : Nat} {x : Int} {m : Nat} : shf a (x % (m : Int)) m = shf a x m := by
  unfold shf
  rw [Int.sub_emod, Int.emod_emod, ← Int.sub_emod]
theorem shf_add {a : Nat} {x y : Int} {m : Nat} (hm : 0 < m) : shf (shf a y m) x m = shf a (x + y) m := by
  have e : ((shf a y m : Nat) : Int) = ((a : Int) - y) % (m : Int) := shf_int hm
  show ((((shf a y m : Nat) : Int) - x) % (m : Int)).toNat = (((a : Int) - (x + y)) % (m : Int)).toNat
  rw [e, Int.emod_sub_emod]
  congr 2
  omega
theorem shf_zero {a m : Nat} (ha : a < m) : shf a 0 m = a := by
  unfold shf
  rw [Int.sub_zero, Int.emod_eq_of_lt (by omega) (by omega)]
  omega
theorem row_lt (hw : 0 < w) {c : Nat} (hc : c < w * h) : c / w < h := Nat.div_lt_of_lt_mul hc
theorem cell_lt {a b : Nat} (ha : a < h) (hb : b < w) : a * w + b < w * h := by
  have : (a + 1) * w ≤ h * w := Nat.mul_le_mul_right w ha
  rw [Nat.add_mul, Nat.one_mul] at this
  rw [Nat.mul_comm w h]
  omega
theorem srcC_lt (hw : 0 < w) (hh : 0 < h) {r : Bool} {s : List Int} {c : Nat} (hc : c < w * h) : srcC w h r s c < w * h := by
  unfold srcC
  cases r with
  | true => exact cell_lt (row_lt hw hc) (shf_lt hw)
  | false => exact cell_lt (shf_lt hh) (Nat.mod_lt _ hw)
theorem cell_div (hw : 0 < w) {a b : Nat} (hb : b < w) : (a * w + b) / w = a := by
  rw [Nat.mul_comm, Nat.mul_add_div hw, Nat.div_eq_of_lt hb, Nat.add_zero]
theorem cell_mod {a b : Nat} (hb : b < w) : (a * w + b) % w = b := by
  rw [Nat.mul_comm, Nat.mul_add_mod, Nat.mod_eq_of_lt hb]
theorem getD_plain (m : Nat) (s : List Int) (i : Nat) : (plainS m s).getD i 0 = s.getD i 0 % (m : Int) := by
  unfold plainS
  rw [List.getD_eq_getElem?_getD, List.getD_eq_getElem?_getD, List.getElem?_map]
  cases s[i]? <;> simp
theorem getD_add {a b : List Int} {i : Nat} (ha : i < a.length) (hb : i < b.length) : (addS a b).getD i 0 = a.getD i 0 + b.getD i 0 := by
  unfold addS
  simp [List.getD_eq_getElem?_getD, List.getElem?_zipWith, List.getElem?_eq_getElem ha, List.getElem?_eq_getElem hb]
theorem srcC_plain {r : Bool} {s : List Int} {c : Nat} : srcC w h r (plainS (modu w h r) s) c = srcC w h r s c := by
  unfold srcC
  cases r with
  | true => rw [if_pos rfl, if_pos rfl, getD_plain]; exact congrArg _ shf_mod
  | false => rw [if_neg (by decide), if_neg (by decide), getD_plain]; exact congrArg (fun z => z * w + c % w) shf_mod
theorem srcC_add (hw : 0 < w) (hh : 0 < h) {r : Bool} {s t : List Int} {c : Nat} (hs : s.length = cnt w h r) (ht : t.length = cnt w h r) (hc : c < w * h) :
    srcC w h r s (srcC w h r t c) = srcC w h r (addS s t) c := by
  have hrow := row_lt hw hc
  have hp : c % w < w := Nat.mod_lt _ hw
  unfold srcC
  cases r with
  | true =>
    simp only [if_true]
    have hs' : s.length = h := hs
    have ht' : t.length = h := ht
    rw [cell_div hw (shf_lt hw), cell_mod (shf_lt hw), shf_add hw, getD_add (by omega) (by omega)]
  | false =>
    simp only [Bool.false_eq_true, if_false]
    have hs' : s.length = w := hs
    have ht' : t.length = w := ht
    rw [cell_div hw hp, cell_mod hp, shf_add hh, getD_add (by omega) (by omega)]
theorem srcC_zero (hw : 0 < w) {r : Bool} {s : List Int} {c : Nat} (hz : Zer s) (hc : c < w * h) : srcC w h r s c = c := by
  have z : ∀ i, s.getD i 0 = 0 := fun i => by
    rw [List.getD_eq_getElem?_getD]
    cases e : s[i]? with
    | none => rfl
    | some x => exact hz x (List.mem_of_getElem? e)
  have hrow := row_lt hw hc
  unfold srcC
  rw [z, z]
  have hdm := Nat.div_add_mod c w
  cases r with
  | true =>
    rw [if_pos rfl, shf_zero (Nat.mod_lt _ hw), Nat.mul_comm (c / w) w]
    exact hdm
  | false =>
    rw [if_neg (by decide), shf_zero hrow, Nat.mul_comm (c / w) w]
    exact hdm
section
variable {α : Type} [Inhabited α]
theorem actL_len {r : Bool} {s : List Int} {x : List α} : (actL w h r s x).length = w * h := by simp [actL]
theorem getD_range {n i : Nat} {f : Nat → α} (hi : i < n) : ((List.range n).map f).getD i default = f i := by
  simp [List.getD_eq_getElem?_getD, List.getElem?_range hi]
theorem range_getD {x : List α} {n : Nat} (hx : x.length = n) : ((List.range n).map fun c => x.getD c default) = x := by
  refine List.ext_getElem (by simp [hx]) fun i h1 h2 => ?_
  simp [List.getD_eq_getElem?_getD, List.getElem?_eq_getElem h2]
theorem actL_plain {r : Bool} {s : List Int} {x : List α} : actL w h r (plainS (modu w h r) s) x = actL w h r s x := by
  unfold actL
  simp only [srcC_plain]
theorem actL_add (hw : 0 < w) (hh : 0 < h) {r : Bool} {s t : List Int} {x : List α} (hs : s.length = cnt w h r) (ht : t.length = cnt w h r) :
    actL w h r t (actL w h r s x) = actL w h r (addS s t) x := by
  unfold actL
  refine List.map_congr_left fun c hc => ?_
  have hc' : c < w * h := List.mem_range.mp hc
  rw [getD_range (srcC_lt hw hh hc'), srcC_add hw hh hs ht hc']
theorem actL_zero (hw : 0 < w) {r : Bool} {s : List Int} {x : List α} (hz : Zer s) (hx : x.length = w * h) : actL w h r s x = x := by
  refine Eq.trans ?_ (range_getD hx)
  unfold actL
  refine List.map_congr_left fun c hc => ?_
  rw [srcC_zero hw hz (List.mem_range.mp hc)]

/-! ### a drop -/
def b2n (b : Bool) : Nat := if b then 1 else 0
def rowV (w c o : Nat) : Nat := c / w * w + o + b2n (decide (o < c % w)) - b2n (decide (c % w < o))
def colV (w c o : Nat) : Nat := (o + b2n (decide (o < c / w)) - b2n (decide (c / w < o))) * w + c % w
def pushRow (w h c : Nat) : Nat → List (Option Nat)
  | 0 => (List.range (w * h)).map some
  | n + 1 => (pushRow w h c n).set (c / w * w + n) (some (rowV w c n))
def pushCol (w h c : Nat) : Nat → List (Option Nat)
  | 0 => pushRow w h c w
  | n + 1 => (pushCol w h c n).set (n * w + c % w) (some (colV w c n))
def pushL (w h c : Nat) : List (Option Nat) := (pushCol w h c h).set c none
theorem pushRow_len (c n : Nat) : (pushRow w h c n).length = w * h := by
  induction n with
  | zero => simp [pushRow]
  | succ n ih => simp [pushRow, ih]
theorem pushCol_len (c n : Nat) : (pushCol w h c n).length = w * h := by
  induction n with
  | zero => simp [pushCol, pushRow_len]
  | succ n ih => simp [pushCol, ih]
theorem pushL_len (c : Nat) : (pushL w h c).length = w * h := by simp [pushL, pushCol_len]
theorem mem_set {β : Type} {l : List β} {i : Nat} {a x : β} (hx : x ∈ l.set i a) : x = a ∨ x ∈ l := by
  rcases List.mem_or_eq_of_mem_set hx with q | q
  · exact .inr q
  · exact .inl q
theorem rowV_lt {c o : Nat} (hw : 0 < w) (hc : c < w * h) (ho : o < w) : rowV w c o < w * h := by
  have hrow := row_lt hw hc
  have hp : c % w < w := Nat.mod_lt _ hw
  have hb : c / w * w + w ≤ w * h := by
    have : (c / w + 1) * w ≤ h * w := Nat.mul_le_mul_right w hrow
    rw [Nat.add_mul, Nat.one_mul] at this
    rw [Nat.mul_comm w h]
    exact this
  unfold rowV b2n
  by_cases h1 : o < c % w <;> by_cases h2 : c % w < o <;> simp [h1, h2] <;> omega
theorem colV_lt {c o : Nat} (hw : 0 < w) (hc : c < w * h) (ho : o < h) : colV w c o < w * h := by
  have hrow := row_lt hw hc
  have hp : c % w < w := Nat.mod_lt _ hw
  unfold colV
  refine cell_lt ?_ hp
  unfold b2n
  by_cases h1 : o < c / w <;> by_cases h2 : c / w < o <;> simp [h1, h2] <;> omega
def InR (n : Nat) : Option Nat → Prop
  | none => True
  | some i => i < n
theorem pushRow_in {c : Nat} (hw : 0 < w) (hc : c < w * h) : ∀ n, n ≤ w → ∀ x ∈ pushRow w h c n, InR (w * h) x
  | 0, _, x, hx => by
    obtain ⟨i, hi, rfl⟩ := List.mem_map.mp hx
    exact List.mem_range.mp hi
  | n + 1, hn, x, hx => by
    rcases mem_set hx with q | q
    · rw [q]; exact rowV_lt hw hc hn
    · exact pushRow_in hw hc n (by omega) x q
theorem pushCol_in {c : Nat} (hw : 0 < w) (hc : c < w * h) : ∀ n, n ≤ h → ∀ x ∈ pushCol w h c n, InR (w * h) x
  | 0, _, x, hx => pushRow_in hw hc w (Nat.le_refl _) x hx
  | n + 1, hn, x, hx => by
    rcases mem_set hx with q | q
    · rw [q]; exact colV_lt hw hc hn
    · exact pushCol_in hw hc n (by omega) x q
theorem pushL_in {c : Nat} (hw : 0 < w) (hc : c < w * h) : ∀ x ∈ pushL w h c, InR (w * h) x := by
  intro x hx
  rcases mem_set hx with q | q
  · rw [q]; trivial
  · exact pushCol_in hw hc h (Nat.le_refl _) x q

/-! ### deeds on a tray -/
def takeO (things : List α) (fresh : α) : Option Nat → α
  | none => fresh
  | some i => things.getD i default
def doD (w h : Nat) (d : Deed) (fresh : α) (st : List α × List (List α)) : List α × List (List α) :=
  match d with
  | .draw r s => (actL w h r s st.1, st.2)
  | .drop c _ => ((pushL w h c).map (takeO st.1 fresh), st.2)
  | .paper cs => ((List.range st.1.length).map (fun i => if i ∈ cs then fresh else st.1.getD i default), st.2 ++ [cs.map fun c => st.1.getD c default])
def runD (w h : Nat) (col : Deed → α) (rec : List Deed) (st : List α × List (List α)) : List α × List (List α) := rec.foldl (fun st d => doD w h d (col d) st) st
theorem doD_len {d : Deed} {fresh : α} {st : List α × List (List α)} (hs : st.1.length = w * h) : (doD w h d fresh st).1.length = w * h := by
  cases d with
  | draw r s => exact actL_len
  | drop c x => simp [doD, pushL_len]
  | paper cs => simp [doD, hs]
theorem runD_len {col : Deed → α} : ∀ (rec : List Deed) {st : List α × List (List α)}, st.1.length = w * h → (runD w h col rec st).1.length = w * h
  | [], _, hs => hs
  | _ :: rec, _, hs => runD_len rec (doD_len hs)
theorem runD_append {col : Deed → α} (a b : List Deed) (st : List α × List (List α)) : runD w h col (a ++ b) st = runD w h col b (runD w h col a st) := List.foldl_append
variable {col : Deed → α}
/-- a zero draw at the end -/
theorem run_zero (hw : 0 < w) {r : Bool} {s : List Int} {st : List α × List (List α)} (hz : Zer s) (hs : st.1.length = w * h) : runD w h col [.draw r s] st = st := by
  show (actL w h r s st.1, st.2) = st
  rw [actL_zero hw hz hs]
theorem run_plain {r : Bool} {s : List Int} {st : List α × List (List α)} : runD w h col [.draw r (plainS (modu w h r) s)] st = runD w h col [.draw r s] st := by
  show (actL w h r (plainS (modu w h r) s) st.1, st.2) = (actL w h r s st.1, st.2)
  rw [actL_plain]
theorem run_two (hw : 0 < w) (hh : 0 < h) {r : Bool} {s t : List Int} {st : List α × List (List α)} (hs : s.length = cnt w h r) (ht : t.length = cnt w h r) :
    runD w h col [.draw r s, .draw r t] st = runD w h col [.draw r (addS s t)] st := by
  show (actL w h r t (actL w h r s st.1), st.2) = (actL w h r (addS s t) st.1, st.2)
  rw [actL_add hw hh hs ht]
theorem run_push (hw : 0 < w) (hh : 0 < h) {base : List Deed} {r : Bool} {s : List Int} {st : List α × List (List α)} (hs : st.1.length = w * h) :
    runD w h col (push w h base r s).reverse st = runD w h col (base.reverse ++ [.draw r s]) st := by
  unfold push
  by_cases hp : posi (plainS (modu w h r) s) = true
  · rw [if_pos hp, List.reverse_cons, runD_append, runD_append, run_plain]
  · rw [if_neg hp, runD_append, ← run_plain, run_zero hw (zer_of (modu_pos hw hh r) (by simpa using hp)) (runD_len _ hs)]
theorem run_step (hw : 0 < w) (hh : 0 < h) {stk : List Deed} {d : Deed} {st : List α × List (List α)} (hl : ∀ e ∈ stk, lenD w h e) (hd : lenD w h d) (hs : st.1.length = w * h) :
    runD w h col (step w h stk d).reverse st = runD w h col (stk.reverse ++ [d]) st := by
  match d with
  | .drop _ _ => exact congrArg (fun l => runD w h col l st) List.reverse_cons
  | .paper _ => exact congrArg (fun l => runD w h col l st) List.reverse_cons
  | .draw r s =>
    rcases top_cases r stk with ht | ⟨s', rest, rfl⟩
    · rw [step_top ht]
      exact run_push hw hh hs
    · rw [step_same, run_push hw hh hs, List.reverse_cons, List.append_assoc, runD_append, runD_append]
      have h1 : s'.length = cnt w h r := hl _ List.mem_cons_self
      exact (run_two hw hh h1 hd).symm
theorem push_lenD (hw : 0 < w) (hh : 0 < h) {base : List Deed} {r : Bool} {s : List Int} (hl : ∀ e ∈ base, lenD w h e) (hs : s.length = cnt w h r) : ∀ e ∈ push w h base r s, lenD w h e := by
  intro e he
  unfold push at he
  split at he
  · rcases List.mem_cons.mp he with q | q
    · rw [q]; show (plainS _ s).length = _; rw [plainS_len, hs]
    · exact hl e q
  · exact hl e he
theorem step_lenD (hw : 0 < w) (hh : 0 < h) {stk : List Deed} {d : Deed} (hl : ∀ e ∈ stk, lenD w h e) (hd : lenD w h d) : ∀ e ∈ step w h stk d, lenD w h e := by
  match d with
  | .drop _ _ =>
    intro e he
    rcases List.mem_cons.mp he with q | q
    · rw [q]; trivial
    · exact hl e q
  | .paper _ =>
    intro e he
    rcases List.mem_cons.mp he with q | q
    · rw [q]; trivial
    · exact hl e q
  | .draw r s =>
    rcases top_cases r stk with ht | ⟨s', rest, rfl⟩
    · rw [step_top ht]; exact push_lenD hw hh hl hd
    · rw [step_same]
      have h1 : s'.length = cnt w h r := hl _ List.mem_cons_self
      have h2 : s.length = cnt w h r := hd
      exact push_lenD hw hh (fun e he => hl e (List.mem_cons_of_mem _ he)) (by rw [addS_len, h1, h2, Nat.min_self])
theorem run_fold (hw : 0 < w) (hh : 0 < h) {st : List α × List (List α)} (hs : st.1.length = w * h) : ∀ (rec stk : List Deed), (∀ e ∈ stk, lenD w h e) → (∀ e ∈ rec, lenD w h e) →
    runD w h col (rec.foldl (step w h) stk).reverse st = runD w h col (stk.reverse ++ rec) st
  | [], stk, _, _ => by rw [List.append_nil]; rfl
  | d :: rec, stk, hl, hr => by
    have hd := hr d List.mem_cons_self
    show runD w h col (rec.foldl (step w h) (step w h stk d)).reverse st = _
    rw [run_fold hw hh hs rec (step w h stk d) (step_lenD hw hh hl hd) fun e he => hr e (List.mem_cons_of_mem _ he), runD_append, run_step hw hh hl hd hs, ← runD_append, List.append_assoc]
    rfl
theorem run_short (hw : 0 < w) (hh : 0 < h) {st : List α × List (List α)} (hs : st.1.length = w * h) {rec : List Deed} (hr : ∀ e ∈ rec, lenD w h e) : runD w h col (short w h rec) st = runD w h col rec st :=
  run_fold hw hh hs rec [] (fun _ h => nomatch h) hr

/-! ### undoing -/
theorem zer_opp (m : Nat) : ∀ s : List Int, Zer (plainS m (addS s (plainS m (negS s))))
  | [] => fun x hx => by simp [plainS, addS] at hx
  | a :: s => by
    intro x hx
    rw [plainS_addR] at hx
    simp only [plainS, addS, negS, List.map_cons, List.zipWith_cons_cons] at hx
    rcases List.mem_cons.mp hx with q | q
    · rw [q, show a + (0 - a) = 0 by omega]
      exact Int.zero_emod _
    · refine zer_opp m s x ?_
      rw [plainS_addR]
      exact q
theorem run_opp (hw : 0 < w) (hh : 0 < h) {d : Deed} (hd : isDraw d = true) (hl : lenD w h d) {st : List α × List (List α)} (hs : st.1.length = w * h) : runD w h col [d, oppD w h d] st = st := by
  cases d with
  | drop _ _ => cases hd
  | paper _ => cases hd
  | draw r s =>
    have e : s.length = cnt w h r := hl
    show runD w h col [.draw r s, .draw r (plainS (modu w h r) (negS s))] st = st
    rw [run_two hw hh e (by rw [plainS_len, negS_len, e]), ← run_plain, run_zero hw (zer_opp _ s) hs]
theorem run_undo (hw : 0 < w) (hh : 0 < h) : ∀ (ds : List Deed), (∀ d ∈ ds, isDraw d = true ∧ lenD w h d) → ∀ {st : List α × List (List α)}, st.1.length = w * h → runD w h col (ds ++ ds.reverse.map (oppD w h)) st = st
  | [], _, _, _ => rfl
  | d :: ds, hl, st, hs => by
    have hd := hl d List.mem_cons_self
    have ih := run_undo hw hh ds (fun e he => hl e (List.mem_cons_of_mem _ he)) (st := runD w h col [d] st) (runD_len _ hs)
    have e : d :: ds ++ (d :: ds).reverse.map (oppD w h) = [d] ++ ((ds ++ ds.reverse.map (oppD w h)) ++ [oppD w h d]) := by simp
    rw [e, runD_append, runD_append, ih, ← runD_append]
    exact run_opp hw hh hd.1 hd.2 hs

/-! ### a relation of things is kept -/
def Rel2 {β : Type} (R : α → β → Prop) (xs : List α) (ys : List β) : Prop := xs.length = ys.length ∧ ∀ (i : Nat) (x : α) (y : β), xs[i]? = some x → ys[i]? = some y → R x y
variable {β : Type} [Inhabited β] {R : α → β → Prop}
theorem Rel2.at {xs : List α} {ys : List β} (h : Rel2 R xs ys) {i : Nat} (hi : i < xs.length) : R (xs.getD i default) (ys.getD i default) := by
  have hj : i < ys.length := h.1 ▸ hi
  rw [List.getD_eq_getElem?_getD, List.getD_eq_getElem?_getD, List.getElem?_eq_getElem hi, List.getElem?_eq_getElem hj]
  exact h.2 i _ _ (List.getElem?_eq_getElem hi) (List.getElem?_eq_getElem hj)
theorem Rel2.map {γ : Type} {f : γ → α} {g : γ → β} {l : List γ} (h : ∀ z ∈ l, R (f z) (g z)) : Rel2 R (l.map f) (l.map g) := by
  refine ⟨by simp, fun i x y hx hy => ?_⟩
  rw [List.getElem?_map] at hx hy
  cases e : l[i]? with
  | none => rw [e] at hx; cases hx
  | some z =>
    rw [e] at hx hy
    cases hx
    cases hy
    exact h z (List.mem_of_getElem? e)
theorem Rel2.mono {R' : α → β → Prop} {xs : List α} {ys : List β} (h : Rel2 R xs ys) (k : ∀ x y, R x y → R' x y) : Rel2 R' xs ys := ⟨h.1, fun i x y hx hy => k x y (h.2 i x y hx hy)⟩
theorem Rel2.snoc {xs : List α} {ys : List β} {x : α} {y : β} (h : Rel2 R xs ys) (hr : R x y) : Rel2 R (xs ++ [x]) (ys ++ [y]) := by
  refine ⟨by simp [h.1], fun i a b ha hb => ?_⟩
  by_cases hi : i < xs.length
  · rw [List.getElem?_append_left hi] at ha
    rw [List.getElem?_append_left (h.1 ▸ hi)] at hb
    exact h.2 i a b ha hb
  · rw [List.getElem?_append_right (by omega)] at ha
    rw [List.getElem?_append_right (by rw [← h.1]; omega), ← h.1] at hb
    cases e : i - xs.length with
    | zero =>
      rw [e] at ha hb
      cases ha
      cases hb
      exact hr
    | succ n =>
      rw [e] at ha
      cases ha
/-- the deed is one for such a tray -/
def inD (w h : Nat) : Deed → Prop
  | .draw r s => s.length = cnt w h r
  | .drop c _ => c < w * h
  | .paper cs => ∀ c ∈ cs, c < w * h
theorem inD.len {d : Deed} (p : inD w h d) : lenD w h d := by
  cases d with
  | draw r s => exact p
  | drop _ _ => trivial
  | paper _ => trivial
theorem doD_rel (hw : 0 < w) (hh : 0 < h) {d : Deed} (hd : inD w h d) {fx : α} {fy : β} (hf : R fx fy) {s : List α × List (List α)} {t : List β × List (List β)}
    (hl : s.1.length = w * h) (h1 : Rel2 R s.1 t.1) (h2 : Rel2 (Rel2 R) s.2 t.2) : Rel2 R (doD w h d fx s).1 (doD w h d fy t).1 ∧ Rel2 (Rel2 R) (doD w h d fx s).2 (doD w h d fy t).2 := by
  cases d with
  | draw r st =>
    refine ⟨Rel2.map fun c hc => h1.at ?_, h2⟩
    rw [hl]
    exact srcC_lt hw hh (List.mem_range.mp hc)
  | drop c x =>
    refine ⟨Rel2.map fun o ho => ?_, h2⟩
    cases o with
    | none => exact hf
    | some i => exact h1.at (by rw [hl]; exact pushL_in hw hd _ ho)
  | paper cs =>
    refine ⟨?_, h2.snoc (Rel2.map fun c hc => h1.at (by rw [hl]; exact hd c hc))⟩
    show Rel2 R ((List.range s.1.length).map _) ((List.range t.1.length).map _)
    rw [← h1.1]
    refine Rel2.map fun i hi => ?_
    by_cases q : i ∈ cs
    · rw [if_pos q, if_pos q]; exact hf
    · rw [if_neg q, if_neg q]; exact h1.at (List.mem_range.mp hi)
end

/-! ### sources and what is shown of them -/
inductive Src where
  | cell (k : Nat)
  | drop (i : Nat)
  | paper (i : Nat)
inductive Thing where
  | txt (c : Nat)
  | cel (k : Nat)
instance : Inhabited Src := ⟨.cell 0⟩
instance : Inhabited Thing := ⟨.cel 0⟩
def colN : Deed → Nat
  | .drop _ x => x
  | _ => 46
def colT (d : Deed) : Thing := .txt (colN d)
/-- the source that the deed at i leaves -/
def srcOf (d : Deed) (i : Nat) : Src := match d with
  | .drop _ _ => .drop i
  | _ => .paper i
def shownM (rec : List Deed) : Src → Thing
  | .cell k => .cel k
  | .drop i => .txt (match rec[i]? with | some d => colN d | none => 46)
  | .paper _ => .txt 46
def runS (w h : Nat) : List Deed → Nat → List Src × List (List Src) → List Src × List (List Src)
  | [], _, st => st
  | d :: rec, i, st => runS w h rec (i + 1) (doD w h d (srcOf d i) st)
theorem srcOf_shown {rec : List Deed} {i : Nat} {d : Deed} (e : rec[i]? = some d) : shownM rec (srcOf d i) = colT d := by
  cases d with
  | drop c x => show Thing.txt (match rec[i]? with | some d => colN d | none => 46) = _; rw [e]; rfl
  | draw _ _ => rfl
  | paper _ => rfl
theorem rel_eq {α β : Type} {g : α → β} {xs : List α} {ys : List β} (h : Rel2 (fun x y => g x = y) xs ys) : xs.map g = ys := by
  refine List.ext_getElem (by rw [List.length_map]; exact h.1) fun i h1 h2 => ?_
  rw [List.getElem_map]
  have h1' : i < xs.length := by simpa using h1
  exact h.2 i _ _ (List.getElem?_eq_getElem h1') (List.getElem?_eq_getElem h2)
theorem rel2_eq {α β : Type} {g : α → β} {xs : List (List α)} {ys : List (List β)} (h : Rel2 (Rel2 (fun x y => g x = y)) xs ys) : xs.map (·.map g) = ys :=
  rel_eq (h.mono fun _ _ q => rel_eq q)
theorem runS_rel (hw : 0 < w) (hh : 0 < h) {all : List Deed} : ∀ (rec pre : List Deed), all = pre ++ rec → (∀ d ∈ rec, inD w h d) → ∀ {s : List Src × List (List Src)} {t : List Thing × List (List Thing)}, s.1.length = w * h →
    Rel2 (fun x y => shownM all x = y) s.1 t.1 → Rel2 (Rel2 (fun x y => shownM all x = y)) s.2 t.2 →
    Rel2 (fun x y => shownM all x = y) (runS w h rec pre.length s).1 (runD w h colT rec t).1 ∧ Rel2 (Rel2 (fun x y => shownM all x = y)) (runS w h rec pre.length s).2 (runD w h colT rec t).2
  | [], _, _, _, _, _, _, h1, h2 => ⟨h1, h2⟩
  | d :: rec, pre, ea, hr, s, t, hl, h1, h2 => by
    have e : all[pre.length]? = some d := by rw [ea]; simp
    obtain ⟨g1, g2⟩ := doD_rel hw hh (hr d List.mem_cons_self) (R := fun x y => shownM all x = y) (srcOf_shown e) hl h1 h2
    have q := runS_rel hw hh rec (pre ++ [d]) (by rw [ea]; simp) (fun e he => hr e (List.mem_cons_of_mem _ he)) (doD_len hl) g1 g2
    rw [List.length_append, List.length_singleton] at q
    exact q
def cells0 (w h : Nat) : List Src := (List.range (w * h)).map Src.cell
def cellsT (w h : Nat) : List Thing := (List.range (w * h)).map Thing.cel
/-- what a recipe tells -/
def outM (w h : Nat) (rec : List Deed) : List (List Thing) := (runD w h colT rec (cellsT w h, [])).1 :: (runD w h colT rec (cellsT w h, [])).2
theorem out_src (hw : 0 < w) (hh : 0 < h) {rec : List Deed} (hr : ∀ d ∈ rec, inD w h d) :
    (runS w h rec 0 (cells0 w h, [])).1.map (shownM rec) :: (runS w h rec 0 (cells0 w h, [])).2.map (·.map (shownM rec)) = outM w h rec := by
  obtain ⟨g1, g2⟩ := runS_rel hw hh (all := rec) rec [] rfl hr (s := (cells0 w h, [])) (t := (cellsT w h, [])) (by simp [cells0]) (Rel2.map fun _ _ => rfl) ⟨rfl, fun i x y hx _ => by simp at hx⟩
  unfold outM
  rw [← rel_eq g1, ← rel2_eq g2]
  rfl
theorem out_short (hw : 0 < w) (hh : 0 < h) {rec : List Deed} (hr : ∀ d ∈ rec, lenD w h d) : outM w h (short w h rec) = outM w h rec := by
  unfold outM
  rw [run_short hw hh (by simp [cellsT]) hr]
theorem out_undo (hw : 0 < w) (hh : 0 < h) {ds : List Deed} (hr : ∀ d ∈ ds, isDraw d = true ∧ lenD w h d) : outM w h (ds ++ short w h (ds.reverse.map (oppD w h))) = outM w h [] := by
  have hl : ∀ d ∈ ds.reverse.map (oppD w h), lenD w h d := by
    intro d hd
    obtain ⟨e, he, rfl⟩ := List.mem_map.mp hd
    have q := (hr e (List.mem_reverse.mp he)).2
    cases e with
    | draw r s => show (plainS _ (negS s)).length = _; rw [plainS_len, negS_len]; exact q
    | drop _ _ => trivial
    | paper _ => trivial
  have hc : (cellsT w h).length = w * h := by simp [cellsT]
  have e : runD w h colT (ds ++ short w h (ds.reverse.map (oppD w h))) (cellsT w h, []) = (cellsT w h, []) := by
    rw [runD_append, run_short hw hh (runD_len _ hc) hl, ← runD_append]
    exact run_undo hw hh ds hr hc
  unfold outM
  rw [e]
  rfl
theorem opp_opp (d : Deed) : oppD w h (oppD w h d) = plainD w h d := by
  cases d with
  | drop _ _ => rfl
  | paper _ => rfl
  | draw r s =>
    show Deed.draw r _ = Deed.draw r _
    congr 1
    unfold plainS negS
    rw [List.map_map, List.map_map, List.map_map]
    refine List.map_congr_left fun x _ => ?_
    show (0 - (0 - x) % ((modu w h r : Nat) : Int)) % ((modu w h r : Nat) : Int) = x % ((modu w h r : Nat) : Int)
    rw [Int.sub_emod, Int.emod_emod, ← Int.sub_emod]
    congr 1
    omega
end K7
/-! Rules of the hand layer that this program wants and that no module has. -/
namespace K7R
open PySem PySem.Spec PyProof.Rows L2
open AutoSeq1 (wpAny_loadPart')

/-! ### for over a list or a tuple -/
section
variable {X : Cx} {tg : Expr}
def iAny (K : PySem.W.Frag) (tl : TE) : TI := fun σ H R => tl σ H fun x H1 => ∃ a, x = .ref a ∧ ((∃ xs, SqL K H1 a xs) ∧ R (Itl K a) H1 ∨ (∃ xs, SqT K H1 a xs) ∧ R (Itt K a) H1)
theorem pi_any {l : Expr} {tl : TE} (hl : PE X l tl) : PI X tg l (iAny X.K tl) := by
  refine ⟨fun pins s σ H R I h => ?_⟩
  refine thn (hl.run pins s σ H _ I h) fun v s1 ⟨x, H1, I1, r1, q1⟩ => ?_
  obtain ⟨a, e, q1⟩ := q1
  subst e
  cases r1
  rcases q1 with ⟨⟨xs, hq⟩, q⟩ | ⟨⟨xs, hq⟩, q⟩
  · obtain ⟨its, rv, p, hz⟩ := I1.list hq
    refine wpAny_pyIter_list p.isList ?_
    refine ⟨s1.heap.objs.size, [s1.heap.objs.size], _, _, H1, rfl, I1.kept (t' := s1.toks) fun b o e => Heap.get?_push_of_some _ e, turn_list a _, ⟨_, Heap.get?_push_size _ rfl, rfl, rfl⟩, fun b hb => ?_, q⟩
    have e : b = s1.heap.objs.size := by simpa using hb
    subst e
    exact I1.fpOk (Nat.le_refl _) (I1.hok.fresh (Nat.le_refl _))
  · obtain ⟨its, rv, p, hz⟩ := I1.tuple hq
    refine wpAny_pyIter_tuple (show s1.heap.IsTuple a its.toArray from p) ?_
    refine ⟨s1.heap.objs.size, [s1.heap.objs.size], _, _, H1, rfl, I1.kept (t' := s1.toks) fun b o e => Heap.get?_push_of_some _ e, turn_tuple a _, ⟨_, Heap.get?_push_size _ rfl, rfl, rfl⟩, fun b hb => ?_, q⟩
    have e : b = s1.heap.objs.size := by simpa using hb
    subst e
    exact I1.fpOk (Nat.le_refl _) (I1.hok.fresh (Nat.le_refl _))
end

/-! ### enumerate(tuple) -/
theorem meets_enumerate_newT (l : Addr) (items : Array Value) :
    Meets (Builtin.«enumerate.__new__» ⟨[.type "enumerate", .ref l], []⟩) (fun _ R s => s.heap.IsTuple l items ∧
      R (.ok (.ret (.ref (s.heap.push { cls := .type "tuple_iterator", data := .fields #[.ref l, .int 0 0] }).objs.size)))
        { s with heap := (s.heap.push { cls := .type "tuple_iterator", data := .fields #[.ref l, .int 0 0] }).push { cls := .type "enumerate", data := .fields #[.none, .bool false, .ref s.heap.objs.size, rawInt 0, .none, .none] } }) :=
  .of_wp fun prog w A R s h => by
    obtain ⟨hp, g, d, tk, os⟩ := s; obtain ⟨hL, h⟩ := h
    have hsub := sub_enumerate
    wp_walk using wpAny_pyIter_tuple hL
    refine wpAny_stack_any fun st => wpAny_pure ?_
    split
    · rename_i c _ _ _ _ _
      cases (c == Value.type "enumerate")
      · wp_walk using wpAny_pyIter_tuple hL
        exact ⟨_, rfl, h⟩
      · wp_walk using wpAny_pyIter_tuple hL
        exact ⟨_, rfl, h⟩
    · wp_walk using wpAny_pyIter_tuple hL
      exact ⟨_, rfl, h⟩
section
variable {prog : Program} {w : World} {A : Around} {E : Value → Shared → Prop} {s : Shared}
theorem call_enumerate_tuple {l : Addr} {items : Array Value} {Q : Value → Shared → Prop} (hL : s.heap.IsTuple l items)
    (h : ∀ h', IsEnum h' (s.heap.objs.size + 1) s.heap.objs.size 0 .none → h'.IsTupleIter s.heap.objs.size l 0 → h'.objs.size = s.heap.objs.size + 2 →
      (∀ b o, s.heap.get? b = some o → h'.get? b = some o) → Q (.ref (s.heap.objs.size + 1)) { s with heap := h' }) :
    wpAny (model prog w) A (call (.type "enumerate") [.ref l]) Q E s := by
  refine callType_new F.called_enumerate (by decide) (F.typeCall_enumerate_1 _) (F.newCall_enumerate_1 _) (fun obj => F.args_object_init_2 obj _) F.entry_enumerate_new
    (meets_enumerate_newT l items) ⟨hL, ?_⟩
  have hz : (s.heap.push { cls := .type "tuple_iterator", data := .fields #[.ref l, .int 0 0] }).objs.size = s.heap.objs.size + 1 := Heap.size_push ..
  show _ ∧ _
  rw [hz]
  have he : IsEnum ((s.heap.push { cls := .type "tuple_iterator", data := .fields #[.ref l, .int 0 0] }).push
      { cls := .type "enumerate", data := .fields #[.none, .bool false, .ref s.heap.objs.size, rawInt 0, .none, .none] }) (s.heap.objs.size + 1) s.heap.objs.size 0 .none := by
    have := Heap.get?_push_size (s.heap.push { cls := .type "tuple_iterator", data := .fields #[.ref l, .int 0 0] })
      (o := { cls := .type "enumerate", data := .fields #[.none, .bool false, .ref s.heap.objs.size, rawInt 0, .none, .none] }) rfl
    rw [hz] at this; exact this
  refine ⟨⟨_, he, rfl⟩, h _ he ⟨_, Heap.get?_push_of_some _ (Heap.get?_push_size _ rfl), rfl, rfl⟩ (by rw [Heap.size_push, hz]) fun b o x => Heap.get?_push_of_some _ (Heap.get?_push_of_some _ x)⟩
end
/-- the tuple at a as it stands at each turn, each item in a new pair -/
def IteT (K : PySem.W.Frag) (a : Addr) : It :=
  ⟨fun i H => ∃ (xs : List V) (x : V), SqT K H a xs ∧ xs[i]? = some x, fun i H v H' => ∃ T x, v = .ref T ∧ H T = none ∧ H' = upd H T (.tup [.int (i : Nat), x]) ∧ ∀ xs, SqT K H a xs → xs[i]? = some x, fun i H => ∃ xs : List V, SqT K H a xs ∧ xs.length ≤ i⟩
theorem turn_enumT {P : Program} {w : World} {K : PySem.W.Frag} {elts : List Expr} {kk : Nat} {tpos : Pos} (a e it : Addr) (hai : a ≠ it) (hae : a ≠ e) :
    Turn P w K (.Tuple elts kk tpos) (IteT K a) [e, it] e (fun i h => (∃ old, IsEnum h e it ((i : Nat) : Int) old) ∧ h.IsTupleIter it a i ∧ e ≠ it) where
  mem := by simp
  obj := fun i h st b hb => by
    obtain ⟨⟨old, he⟩, ⟨o, ho, hc, hd⟩, _⟩ := st
    have e' : b = e ∨ b = it := by simpa using hb
    rcases e' with z | z
    · rw [z]; exact ⟨_, he, fun v q => nomatch q⟩
    · rw [z]; exact ⟨o, ho, fun v q => by rw [hd] at q; cases q⟩
  keep := fun i h h' st k => let ⟨⟨old, he⟩, hi, hne⟩ := st; ⟨⟨old, k e (by simp) _ he⟩, hi.at fun o q => k it (by simp) o q, hne⟩
  item := by
    intro X hP hw hK hc i pins s σ H E I hf st hg
    subst hP hw hK
    obtain ⟨⟨old, he⟩, hit, hne⟩ := st
    obtain ⟨xs, x, hq, hx⟩ := hg
    obtain ⟨its, rv, p, hz⟩ := I.tuple hq
    obtain ⟨u, hu, ru⟩ := rv.get hx
    have hel : e < s.heap.objs.size := Heap.lt_size he
    have hil : it < s.heap.objs.size := by obtain ⟨_, q, _⟩ := hit; exact Heap.lt_size q
    have hlt : i < its.toArray.size := by
      have := (List.getElem?_eq_some_iff.mp hu).1
      simpa using this
    have pT : s.heap.IsTuple a its.toArray := p
    have D := Draws.tuple (prog := X.prog) (w := X.w) (A := X.A.in1) (I.ok.hd hc) it a hai its.toArray
    refine wpAny_pyNext_enum_itemD D he ⟨hit, pT⟩ hlt hne (by simp only [List.mem_cons, List.not_mem_nil, or_false, not_or]; exact ⟨hne, Ne.symm hae⟩) fun x' h' tk hPx ho hst' hT hsz hk => ?_
    have hxu : x' = u := by
      have e1 : its[i]? = some x' := by simpa using hPx
      rw [hu] at e1
      exact (Option.some.inj e1).symm
    subst hxu
    refine ⟨_, rfl, wpAny_letOwnedTupleGo_enum (s := { s with heap := h', toks := tk + 1 }) ho fun h'' he' sb => ?_⟩
    have hT2 : h''.get? s.heap.objs.size = some { cls := .type "tuple", data := .seq #[.int i tk, x'] } := (sb.2 _ (Nat.ne_of_gt hel)).trans hT
    have new : ObjOk X.prog X.w (upd H s.heap.objs.size (.tup [.int (i : Nat), x])) h'' s.heap.objs.size (.tup [.int (i : Nat), x]) :=
      ⟨by show 2 ≤ sizeLine; decide, [.int i tk, x'], .cons ⟨_, rfl⟩ (.cons ru .nil), ⟨_, hT2, rfl, _, rfl⟩⟩
    have I1 : Inv X pins σ (upd H s.heap.objs.size (.tup [.int (i : Nat), x])) { s with heap := h'', toks := tk + 1 } :=
      I.turnedNew (ch := [e, it]) (fun b ob hb q => (sb.2 b (fun z => hb (by simp [z]))).trans (hk b ob (fun z => hb (by simp [z])) (fun z => hb (by simp [z])) q)) hf (Nat.le_refl _) new
    refine ⟨.ref s.heap.objs.size, _, I1, rfl, ⟨_, x, rfl, I.hok.fresh (Nat.le_refl _), rfl, fun ys hy => by rw [I.tuple_inj hy hq]; exact hx⟩, ⟨⟨x', ?_⟩, hst'.1.at fun o q => (sb.2 it (Ne.symm hne)).trans q, hne⟩, fun b hb => ?_⟩
    · have e1 : ((i + 1 : Nat) : Int) = (i : Int) + 1 := by omega
      rw [e1]; exact he'
    · have hb' : b < s.heap.objs.size := by
        have e' : b = e ∨ b = it := by simpa using hb
        rcases e' with z | z
        · rw [z]; exact hel
        · rw [z]; exact hil
      rw [upd_ne (Nat.ne_of_lt hb')]
      exact (hf b hb).1
  done := by
    intro X hP hw hK hc i pins s σ H E I hf st hg
    subst hP hw hK
    obtain ⟨⟨old, he⟩, hit, hne⟩ := st
    obtain ⟨xs, hq, hx⟩ := hg
    obtain ⟨its, rv, p, hz⟩ := I.tuple hq
    obtain ⟨f0, f1, f2, f3, f4, f5⟩ := hf it (by simp)
    have hl := rv.length
    have pT : s.heap.IsTuple a its.toArray := p
    have hT : s.TypeIs (.ref e) "enumerate" := ⟨_, he, rfl⟩
    unfold pyNext
    refine wpAny_bind (wpAny_attempt (wpAny_callSpecial?_slot (name := Str.ofString "__next__") hT F.slot_enumerate_next
      (wpAny_call_entry F.slot_enumerate_next hT F.entry_enumerate_next ?_ (F.args_enumerate_next_1 _))))
    show wpAny _ _ (field (.ref e) 2 >>= _) _ _ _
    refine wpAny_bind (wpAny_field he rfl (x := .ref it) rfl ?_)
    refine wpAny_bind (wpAny_nextOf_tuple_end (A := X.A.in1) (items := its.toArray) (i := i) (show X.A.in1.handled = none from I.ok.hd hc) hit pT (by simp; omega) fun h' x he' hx' => ?_)
    obtain ⟨o, ho, hc'⟩ := hx'
    refine wpAny_bind (wpAny_isInstance (T := "StopIteration") (b := true) ⟨o, ho, hc'⟩ isSubtype_stop ?_)
    exact wpAny_pure ⟨rfl, I.turned (t' := s.toks) (fun b o hb q => he' b o hb q) f0 f1 f3 f4 f5⟩
  self := fun A i s Q E st h => let ⟨⟨_, he⟩, _⟩ := st; wpAny_pyIter_enum he h
def iEnumT (K : PySem.W.Frag) (ta : TA) : TI := fun σ H R => ta σ H fun vs H1 => ∃ a xs, vs = [.ref a] ∧ SqT K H1 a xs ∧ R (IteT K a) H1
theorem pi_enumT {X : Cx} {e : Expr} {ta : TA} {p pos tpos : Pos} {elts : List Expr} {kk : Nat} (hg : Gl X "enumerate") (hm : X.mg "enumerate" = none) (ha : PA X [e] ta) (hs : starEach [e] X.env = [(false, eval e X.env)] := by rfl) :
    PI X (.Tuple elts kk tpos) (.Call (.Name "enumerate" p) [e] [] pos) (iEnumT X.K ta) := by
  refine ⟨fun pins s σ H R I h => ?_⟩
  refine Call_ (ld_blt I hg hm boot_enumerate (PyProof.Rows.callWith_type1 (thn (ha.run pos pins s σ H _ I h) fun us s1 ⟨vs, H1, I1, r1, q1⟩ => ?_) hs rfl))
  obtain ⟨a, xs, ex, hq, q⟩ := q1
  subst ex
  cases r1 with
  | cons r rr =>
    cases rr
    cases r
    obtain ⟨its, rv, p', hz⟩ := I1.tuple hq
    have pT : s1.heap.IsTuple a its.toArray := p'
    have hal : a < s1.heap.objs.size := by obtain ⟨o, ho, _⟩ := pT; exact Heap.lt_size ho
    refine call_enumerate_tuple pT fun h' he hit hsz hk => wpAny_pyIter_enum he ?_
    have I2 : Inv X pins σ H1 { s1 with heap := h' } := I1.kept (t' := s1.toks) hk
    refine ⟨s1.heap.objs.size + 1, [s1.heap.objs.size + 1, s1.heap.objs.size], _, _, H1, rfl, I2, turn_enumT a (s1.heap.objs.size + 1) s1.heap.objs.size (Nat.ne_of_lt hal) (Nat.ne_of_lt (Nat.lt_succ_of_lt hal)), ⟨⟨.none, he⟩, hit, Nat.succ_ne_self _⟩, fun b hb => ?_, q⟩
    have e' : b = s1.heap.objs.size + 1 ∨ b = s1.heap.objs.size := by simpa using hb
    have hle : s1.heap.objs.size ≤ b := by
      rcases e' with z | z
      · rw [z]; exact Nat.le_add_right _ _
      · rw [z]; exact Nat.le_refl _
    exact I1.fpOk hle (I1.hok.fresh hle)
theorem walk_enumT {K : PySem.W.Frag} {a : Addr} {xs : List V} : Walk (IteT K a) xs.length (fun H => SqT K H a xs) (YPair (fun i => some (.int (i : Nat))) (fun i => xs[i]?)) := by
  refine ⟨fun i _ hi q => ⟨xs, xs[i], q, by simp [hi]⟩, fun _ q => ⟨xs, q, Nat.le_refl _⟩, fun i H v H' _ q y => ?_⟩
  obtain ⟨T, x, h1, h2, h3, h4⟩ := y
  exact ⟨T, .int (i : Nat), x, h1, h2, h3, rfl, h4 xs q⟩
theorem walk_zipT {K : PySem.W.Frag} {a b : Addr} {xs ys : List V} {n : Nat} (hn : n = min xs.length ys.length) : Walk (RZ.ItzT K a b) n (fun H => SqT K H a xs ∧ SqT K H b ys) (YPair (fun i => xs[i]?) (fun i => ys[i]?)) := by
  subst hn
  refine ⟨fun i _ hi q => ?_, fun _ q => ⟨xs, ys, q.1, q.2, by omega⟩, fun i H v H' _ q y => ?_⟩
  · have h1 : i < xs.length := by omega
    have h2 : i < ys.length := by omega
    exact ⟨xs, ys, xs[i], ys[i], q.1, q.2, by simp [h1], by simp [h2]⟩
  · obtain ⟨T, x, z, h1, h2, h3, h4, h5⟩ := y
    exact ⟨T, x, z, h1, h2, h3, h4 xs q.1, h5 ys q.2⟩

/-! ### max(tuple of ints) -/
section
variable {prog : Program} {w : World} {A : Around} {E : Value → Shared → Prop} {s : Shared} {l : Addr} {xs : Array (Int × Tok)}
theorem max_intTuple {Q : Value → Shared → Prop} (hh : A.handled = none) (hl : s.heap.IsTuple l (intItems xs)) (hne : 0 < xs.size)
    (h : ∀ v h' tk, (intItems xs)[argBest (fun i j => decide (numAt xs i > numAt xs j)) (xs.size - 1)]? = some v → (∀ b o, s.heap.get? b = some o → h'.get? b = some o) → Q v { s with heap := h', toks := tk }) :
    wpAny (model prog w) A (call (.builtin "max") [.ref l]) Q E s := by
  have hlt : l < s.heap.objs.size := by obtain ⟨_, e, _⟩ := hl; exact Heap.lt_size e
  refine call_max_walk (wpAny_pyIter_tuple hl ?_)
  refine ⟨s.heap.objs.size, _, _, _, _, _, _, rfl, Walks.tuple (A := A.in1) hh _ l (Nat.ne_of_lt hlt) (intItems xs), ⟨⟨_, Heap.get?_push_size _ rfl, rfl, rfl⟩, hl.push _⟩, (fun b hb => ?_), by simpa [intItems] using hne, CmpOf.ints_gt (numAt xs) (fun _ _ => intItems_at), fun v h' tk hP hk => ?_⟩
  · show b < (s.heap.push _).objs.size
    rw [Heap.size_push]
    rcases List.mem_cons.mp hb with rfl | hb
    · exact Nat.lt_succ_self _
    · rcases List.mem_cons.mp hb with rfl | hb
      · exact Nat.lt_succ_of_lt hlt
      · cases hb
  · refine h v h' tk (by simpa [intItems] using hP) fun b o e => hk b o (fun hm => ?_) (Heap.get?_push_of_some _ e)
    rcases List.mem_cons.mp hm with e1 | hm
    · exact absurd (e1 ▸ Heap.lt_size e) (Nat.lt_irrefl _)
    · cases hm
theorem max_rawT {its : List Value} {ns : List Int} {Q : Value → Shared → Prop} (hh : A.handled = none) (hl : s.heap.IsTuple l its.toArray) (hi : IntsAre its ns) (hne : 0 < ns.length)
    (h : ∀ h' tk M t', (∀ b o, s.heap.get? b = some o → h'.get? b = some o) → M ∈ ns → (∀ a, a ∈ ns → a ≤ M) → Q (.int M t') { s with heap := h', toks := tk }) : wpAny (model prog w) A (call (.builtin "max") [.ref l]) Q E s := by
  obtain ⟨xs, e⟩ := hi.allInts.items
  have hn : numsOf (intItems xs).toList = ns := by rw [← e]; exact hi.numsOf
  rw [nums_intItems] at hn
  subst hn
  rw [e] at hl
  have hsz : 0 < xs.size := by simpa using hne
  refine max_intTuple hh hl hsz fun v h' tk hv hk => ?_
  obtain ⟨t, rfl⟩ := intItems_at hv
  obtain ⟨h1, h2⟩ := argBest_gt (numAt xs) (xs.size - 1)
  refine h h' tk _ t hk ?_ fun a ha => ?_
  · rw [numAt_eq]; exact PySem.getD_mem (by rw [List.length_map, Array.length_toList]; omega)
  · obtain ⟨j, hj, rfl⟩ := mem_getD ha
    rw [List.length_map, Array.length_toList] at hj
    rw [← numAt_eq]; exact h2 j (by omega)
end
def rMaxT (K : PySem.W.Frag) : List V → Hp → VK → Prop := fun vs H Q => ∃ (a : Addr) (ns : List Int), vs = [V.ref a] ∧ SqT K H a (ns.map V.int) ∧ 0 < ns.length ∧ ∀ m, m ∈ ns → (∀ y, y ∈ ns → y ≤ m) → Q (.int m) H
theorem cr_maxT {X : Cx} (hc : X.calm = true) : CallR X (.builtin "max") (rMaxT X.K) := by
  intro pins s σ H vs us Q I r h
  obtain ⟨a, ns, rfl, hs, hne, q⟩ := h
  obtain ⟨its, rv, hl, _⟩ := I.tuple hs
  rw [Vals.ref1 r]
  exact max_rawT (I.ok.hd hc) (show s.heap.IsTuple a its.toArray from hl) rv.ints hne fun h' tk m t' hk h1 h2 => ⟨.int _, H, I.kept hk, ⟨_, rfl⟩, q m h1 h2⟩

/-! ### list(text) -/
def signsV (z : Str) : List V := z.cps.toList.map fun c => V.str ⟨#[c]⟩
theorem call_list_text {X : Cx} (hc : X.calm = true) : CallR X (.type "list") (fun xs H Q => ∃ z, xs = [.str z] ∧ z.length ≤ sizeLine ∧ ∀ l, H l = none → Q (.ref l) (upd H l (.lst (signsV z)))) := by
  intro pins s σ H vs us Q I r h
  obtain ⟨z, rfl, hz, q⟩ := h
  obtain ⟨u, rfl, ru⟩ := r.one
  obtain ⟨t, rfl⟩ := (show ∃ t, u = Value.str z t from ru)
  refine call_list_str (I.ok.hd hc) z t (hn := hz) fun h' tk acc c hk hS hacc => ?_
  have hv : Vals (signsV z) acc.toList := by
    refine vals_of_at ?_ fun j x u hx hu => ?_
    · unfold signsV
      rw [List.length_map, Array.length_toList, Array.length_toList]
      exact hacc.1.symm
    · obtain ⟨c, t', hc', rfl⟩ := hacc.2 j u (by simpa using hu)
      unfold signsV at hx
      rw [List.getElem?_map] at hx
      have e : z.cps.toList[j]? = some c := by simpa using hc'
      rw [e] at hx
      have e2 : V.str ⟨#[c]⟩ = x := Option.some.inj hx
      subst e2
      exact ⟨t', rfl⟩
  have hlen : (signsV z).length ≤ sizeLine := by
    unfold signsV
    rw [List.length_map, Array.length_toList]
    exact hz
  refine ⟨.ref s.heap.objs.size, upd H s.heap.objs.size (.lst (signsV z)), I.laid (t' := tk) hk (Nat.le_refl _) ⟨hlen, acc.toList, c, hv, ?_⟩, rfl, q _ (I.hok.fresh (Nat.le_refl _))⟩
  have e : acc.toList.toArray = acc := by simp
  rw [e]
  exact hS
theorem call_list_any {X : Cx} (hc : X.calm = true) : CallR X (.type "list") (fun xs H Q => (∃ p ys, xs = [.ref p] ∧ (SqL X.K H p ys ∨ SqT X.K H p ys) ∧ ∀ l, H l = none → Q (.ref l) (upd H l (.lst ys))) ∨ ∃ z, xs = [.str z] ∧ z.length ≤ sizeLine ∧ ∀ l, H l = none → Q (.ref l) (upd H l (.lst (signsV z)))) :=
  call_list_of.or (call_list_text hc)
end K7R

/-! ### != of tuples and of own instances, where == gives True -/
namespace GQN
open PySem PySem.SeqAt GQ
open AutoSeq1 (wpAny_loadPart')
section
variable {prog : Program} {w : World} {A : Around} {R : Result → Shared → Prop}
theorem tuple_neG (l b : Addr) (items items2 : Array Value) (n n2 : Nat) (dd dd2 : Option Addr) (sl sl2 : Array (Option Value)) (hsz : items.size = items2.size) (I : Nat → Shared → Prop)
    (turn : ∀ i (h1 : i < items.size) (h2 : i < items2.size) s, I i s → wpAny (model prog w) A.in1 (eqBool items[i] items2[i]) (fun r s' => r = true ∧ I (i + 1) s') (fun e s' => R (.error e) s') s)
    (fin : ∀ s, I items.size s → R (.ok (.ret (.bool false))) s) {s : Shared} (hl1 : s.heap.get? l = some { cls := .type "tuple", dict := dd, data := .seq items n, slots := sl }) (hb1 : s.heap.get? b = some { cls := .type "tuple", dict := dd2, data := .seq items2 n2, slots := sl2 }) (h : I 0 s) :
    wpAny (model prog w) A.in1 (Builtin.«tuple.__ne__» ⟨[.ref l, .ref b], []⟩) (FinOf prog w A R) (fun e s' => R (.error e) s') s := by
  have f2 := AutoSeq1.sub_tuple_tuple
  have hZ : (items.toList.zip items2.toList).length = items.size := by simp [hsz]
  have h0 := h
  obtain ⟨hp, g, d, tk, os⟩ := s
  wp_walk using wpAny_loadPart' hl1, wpAny_loadPart' hb1, wpAny_forIn_list _ (fun rest b s' => b.1 = none ∧ ∃ i, rest = (items.toList.zip items2.toList).drop i ∧ i ≤ items.size ∧ I i s') _
  case turn =>
    rintro ⟨y, x⟩ rest b s' ⟨hb', i, hz, hi, hI⟩
    have hlt : i < (items.toList.zip items2.toList).length := by
      rcases Nat.lt_or_ge i (items.toList.zip items2.toList).length with h' | h'
      · exact h'
      · rw [List.drop_of_length_le h'] at hz; cases hz
    have h1 : i < items.size := hZ ▸ hlt
    have h2 : i < items2.size := hsz ▸ h1
    rw [List.drop_eq_getElem_cons hlt] at hz
    injection hz with hyx hrest
    have hy : y = items[i] := by have := congrArg Prod.fst hyx; simpa using this
    have hx : x = items2[i] := by have := congrArg Prod.snd hyx; simpa using this
    subst hy hx
    refine wpAny_bind (wpAny_mono (turn i h1 h2 s' hI) (fun r s2 q2 => ?_) fun _ _ x => x)
    obtain ⟨hr, q2⟩ := q2
    subst hr
    wp_walk
    exact ⟨rfl, i + 1, hrest, h1, q2⟩
  case fin =>
    rintro ⟨b1, b2⟩ s' ⟨hb', i, hz, hi, hI⟩
    simp only at hb'
    subst hb'
    have hge : items.size ≤ i := by
      rcases Nat.lt_or_ge i (items.toList.zip items2.toList).length with h' | h'
      · rw [List.drop_eq_getElem_cons h'] at hz; cases hz
      · exact hZ ▸ h'
    have hi' : i = items.size := by omega
    have hR : R (.ok (.ret (.bool false))) s' := fin s' (hi' ▸ hI)
    wp_walk
    simpa [Builtin.Tuple.tupleCompareSizes, hsz, bne] using hR
  case h =>
    exact ⟨rfl, 0, rfl, Nat.zero_le _, h0⟩
end
section
variable {prog : Program} {w : World} {A : Around} {E : Value → Shared → Prop} {s : Shared}
theorem rcNe_tupG {l b : Addr} {items items2 : Array Value} {Q : Value → Shared → Prop} (hsz : items.size = items2.size) (hu : A.units < cLine) (I : Nat → Shared → Prop)
    (hl : s.heap.IsTuple l items) (hb : s.heap.IsTuple b items2)
    (turn : ∀ i (h1 : i < items.size) (h2 : i < items2.size) s, I i s → wpAny (model prog w) A.in1 (eqBool items[i] items2[i]) (fun r s' => r = true ∧ I (i + 1) s') E s)
    (fin : ∀ s, I items.size s → Q (.bool false) s) (h : I 0 s) : wpAny (model prog w) A (richCompare .NotEq (.ref l) (.ref b)) Q E s := by
  obtain ⟨⟨cls, dd, data, sl⟩, ho, hc, n, hd⟩ := id hl
  obtain ⟨⟨cls2, dd2, data2, sl2⟩, ho2, hc2, n2, hd2⟩ := id hb
  simp only at hc hd hc2 hd2
  subst hc hd hc2 hd2
  refine wpAny_richCompare_same_room (op := .NotEq) ⟨_, ho, rfl⟩ ⟨_, ho2, rfl⟩ F.slot_tuple_ne (call_here F.slot_tuple_ne ⟨_, ho, rfl⟩ F.entry_tuple_ne (F.args_tuple_ne_2 _ _) ?_) hu
  exact tuple_neG (R := wants (fun v s' => v ≠ .notImplemented ∧ Q v s') E) l b items items2 n n2 dd dd2 sl sl2 hsz I turn (fun s' q => ⟨(fun x => nomatch x), fin s' q⟩) ho ho2 h
end
section
variable {M : Model} {prog : Program} {w : World} {A : Around} {E : Value → Shared → Prop} {s : Shared} {K : PySem.W.Frag} {x y C f : Addr} {ox : Obj} {od : Option Obj}
theorem ifBound_objNe {args : List Value} {Q : Option Value → Shared → Prop} (X : K.In s.heap) (I : PySem.W.InstAt s.heap x ox C od) (hs : PySem.W.findIn K (.ref C) "__ne__" = some (some (.builtin "object.__ne__")))
    (h : wpAny M A (call (.builtin "object.__ne__") (.ref x :: args)) (fun v => Q (some v)) E s) : wpAny M A (callSpecialIfBound? (.ref x) "__ne__" args) Q E s := by
  simp only [callSpecialIfBound?, bindSpecialIfBound?]
  refine wpAny_holding (wpAny_bind (wpAny_bind (wpAny_bind (I.type.here ((PySem.W.looks_findIn X hs).here ?_)))))
  refine wpAny_bind (wpAny_askSetting (wpAny_ite ?_))
  have fin : wpAny M A (call (.builtin "object.__ne__") ([.ref x] ++ args) >>= fun v => pure (some v)) Q E s := wpAny_bind (wpAny_mono h (fun v s' h' => wpAny_pure h') fun _ _ h' => h')
  split
  · exact wpAny_bind (wpAny_of_eq (F.cmp_object.ne.bind _) (wpAny_pure (by exact fin)))
  · exact wpAny_tryCatch (wpAny_bind (wpAny_of_eq (F.cmp_object.ne.bind _) (wpAny_pure (by exact fin))))
/-- object.__ne__ where the own __eq__ gives True -/
theorem entry_objNe {Q : Fin → Shared → Prop} (hu : A.units < cLine) (X : K.In s.heap) (I : PySem.W.InstAt s.heap x ox C od) (hs : PySem.W.findIn K (.ref C) "__eq__" = some (some (.ref f))) (hf : PySem.W.isFn K (.ref f) = true)
    (h : wpAny (model prog w) A (call (.ref f) [.ref x, .ref y]) (fun v s' => v = .bool true ∧ Q (.done (.ret (.bool false))) s') E s) :
    wpAny (model prog w) A (Builtin.«object.__ne__» ⟨[.ref x, .ref y], []⟩) Q E s := by
  have one : wpAny (model prog w) A (callSpecialIfBound? (.ref x) "__eq__" [.ref y]) (fun r s' => r = some (.bool true) ∧ Q (.done (.ret (.bool false))) s') E s :=
    PySem.W.ifBound_K X I hs hf (wpAny_mono h (fun v s' ⟨e, q⟩ => ⟨by rw [e], q⟩) fun _ _ e => e)
  unfold Builtin.«object.__ne__»
  refine wpAny_bind (wpAny_of_eq (a := (Value.ref x, [Value.ref y])) rfl ?_)
  refine wpAny_bind (wpAny_cRoomFor hu ?_)
  refine wpAny_bind (wpAny_mono one (fun r s' ⟨e, q⟩ => ?_) fun _ _ e => e)
  subst e
  refine wpAny_bind (wpAny_truthy_bool ?_)
  exact wpAny_pure q
theorem rcNe_own {Q : Value → Shared → Prop} (hu : A.units + 1 < cLine) (X : K.In s.heap) (I : PySem.W.InstAt s.heap x ox C od) (J : PySem.W.Looks (model prog w) s.heap (typeOf (.ref y)) (.ref C)) (hm : PySem.W.mroIn K C (.type "object") = some true)
    (hne : PySem.W.findIn K (.ref C) "__ne__" = some (some (.builtin "object.__ne__"))) (hs : PySem.W.findIn K (.ref C) "__eq__" = some (some (.ref f))) (hf : PySem.W.isFn K (.ref f) = true)
    (h : wpAny (model prog w) A.in1 (call (.ref f) [.ref x, .ref y]) (fun v s' => v = .bool true ∧ Q (.bool false) s') E s) : wpAny (model prog w) A (richCompare .NotEq (.ref x) (.ref y)) Q E s := by
  have hu0 : A.units < cLine := Nat.lt_of_succ_lt hu
  have one : wpAny (model prog w) A (tryCompare (.ref x) (cmpInfo .NotEq).2.1 (.ref y)) (fun r s' => ∃ v, r = some v ∧ Q v s') E s := by
    unfold tryCompare
    refine wpAny_bind (ifBound_objNe X I hne (wpAny_call (codeAny_call_builtin F.cmp_object.ne.plain F.cmpEntry_ne (PySem.W.check_slot F.cmpKind_ne F.cmpSplit_ne (I.type.andThen (PySem.W.looks_mroIn X hm)) (F.cmpArgs_ne _ _) (entry_objNe (A := A.in1) (show A.in1.units < cLine from hu) X I hs hf ?_)))))
    refine wpAny_mono h (fun v s' ⟨e, q⟩ => ⟨e, ?_⟩) fun _ _ e => e
    exact wpAny_pure ⟨_, rfl, q⟩
  unfold richCompare
  simp only [oneThing_ref]
  refine wpAny_holding (wpAny_bind (wpAny_cRoomFor hu0 ?_))
  refine wpAny_bind (I.type.here (wpAny_bind (J.here ?_)))
  split
  · rename_i q
    exact absurd q (by simp)
  · refine wpAny_bind (wpAny_pure ?_)
    simp only [Bool.false_eq_true, if_false]
    refine wpAny_bind (wpAny_mono one (fun r s' z => ?_) fun _ _ e => e)
    obtain ⟨v, rfl, hq⟩ := z
    exact wpAny_pure hq
end
end GQN

namespace K7R
open PySem PySem.Spec PyProof.Rows L2
section
variable {X : Cx} {n : Nat} {D : Eqv}
/-- slotted instances of the class at C with the text's own ==: what R says of the two -/
def DSlt (C : Addr) (R : Addr → Addr → Hp → Prop) : Eqv := fun x y H => ∃ a b dx dy fs gs, x = .ref a ∧ y = .ref b ∧ SlX.Slt H a C dx fs ∧ SlX.Slt H b C dy gs ∧ R a b H
theorem slt_ext {H H' : Hp} {a C dx : Addr} {vs : List (Option V)} (h : SlX.Slt H a C dx vs) (e : Ext H H') : SlX.Slt H' a C dx vs := by
  rcases h with ⟨h1, h2⟩ | ⟨h1, h2⟩
  · exact .inl ⟨e _ _ h1, h2⟩
  · exact .inr ⟨e _ _ h1, e _ _ h2⟩
theorem mon_slt {C : Addr} {R : Addr → Addr → Hp → Prop} (hR : ∀ a b H H', Ext H H' → R a b H → R a b H') : Mon (DSlt C R) := fun x y H H' e d => by
  obtain ⟨a, b, dx, dy, fs, gs, hx, hy, h1, h2, r⟩ := d
  exact ⟨a, b, dx, dy, fs, gs, hx, hy, slt_ext h1 e, slt_ext h2 e, hR a b H H' e r⟩
theorem run_eq {A : Around} {CX : CXT} {f : Addr} {fd : FuncData} {ps : List Str} {R : Addr → Addr → Hp → Prop} {E : XK} {pins : List (Addr × Obj)} {σ : L2.St} {H : Hp} {s : Shared} {a b : Addr} (F : FnOk X.prog X.w X.K X.mg X.base CX n f fd ps (spEq R))
    (hb : Binds X.K fd ps []) (hx : Passes CX X E) (sb : Sub X n A) (I : Inv X pins σ H s) (hr : R a b H) :
    wpAny (model X.prog X.w) A (call (.ref f) [.ref a, .ref b]) (fun v s' => v = .bool true ∧ ∃ H', Inv X pins σ H' s' ∧ Ext H H') X.xe s := by
  have hsp : spEq R [.ref a, .ref b] H (fun v H' => v = .bl true ∧ Ext H H') E := ⟨a, b, rfl, hr, fun H' e => ⟨rfl, e⟩⟩
  have e0 : Env0 X.prog X.w X.K X.mg X.base A X.stack s H := by
    have e := I.env0
    exact ⟨by rw [sb.fr]; exact e.frames, e.mod, e.bs, e.bsz, e.funs, e.frf, e.hok, e.bare⟩
  have hl := F.len _ _ _ _ hsp
  have r2 : Vals [V.ref a, V.ref b] [Value.ref a, Value.ref b] := .cons rfl (.cons rfl .nil)
  refine wpAny_call (codeAny_mono (F.run A X.stack s H ⟨[.ref a, .ref b], []⟩ [.ref a, .ref b] [.ref a, .ref b] _ E sb.room e0 (by
    have := hb s [.ref a, .ref b] I.kIn (by simpa using hl)
    simpa using this) r2 hsp) fun r s' hq => ?_)
  cases r with
  | error e => exact hx pins σ H s e s' I hq
  | ok fl =>
    cases fl with
    | ret w =>
      obtain ⟨z, H', I', rz, ez, ex⟩ := I.after hq
      subst ez
      cases rz
      exact ⟨rfl, H', I', ex⟩
    | next => exact False.elim hq
    | brk => exact False.elim hq
    | cont => exact False.elim hq
theorem rcG_slt {CX : CXT} {C f : Addr} {fd : FuncData} {ps : List Str} {R : Addr → Addr → Hp → Prop} {E : XK} (F : FnOk X.prog X.w X.K X.mg X.base CX n f fd ps (spEq R))
    (hs : PySem.W.findIn X.K (.ref C) "__eq__" = some (some (.ref f))) (hf : PySem.W.isFn X.K (.ref f) = true) (hb : Binds X.K fd ps []) (hx : Passes CX X E) : RcG X n (DSlt C R) := by
  intro A pins s σ H x y u v sb I rx ry d
  obtain ⟨a, b, dx, dy, fs, gs, rfl, rfl, ha, hb', hr⟩ := d
  cases rx
  cases ry
  obtain ⟨sl, od, _, J, _⟩ := SlX.slt_inst I ha
  obtain ⟨sl', od', _, J', _⟩ := SlX.slt_inst I hb'
  obtain ⟨m, hF⟩ := I.fr
  refine PySem.W.cmp_K (op := .Eq) (tb := .ref C) sb.room.units0 hF I.ok.mod.kin J J'.type (by simp [PySem.W.notFirst]) hs hf ?_
  refine wpAny_mono (run_eq F hb hx sb I hr) (fun v s' ⟨e, q⟩ => ?_) fun _ _ e => e
  subst e
  exact ⟨rfl, q⟩
theorem eqG_slt {CX : CXT} {C f : Addr} {fd : FuncData} {ps : List Str} {R : Addr → Addr → Hp → Prop} {E : XK} (F : FnOk X.prog X.w X.K X.mg X.base CX n f fd ps (spEq R))
    (hs : PySem.W.findIn X.K (.ref C) "__eq__" = some (some (.ref f))) (hf : PySem.W.isFn X.K (.ref f) = true) (hb : Binds X.K fd ps []) (hx : Passes CX X E) : EqG X n (DSlt C R) :=
  (rcG_slt F hs hf hb hx).eqG fun _ _ _ d => let ⟨a, b, _, _, _, _, hx, hy, _⟩ := d; ⟨a, b, hx, hy⟩
/-- x != y where the two are equal -/
def rNeG (D : Eqv) : R2 := fun x y H Q => D x y H ∧ ∀ H', Ext H H' → Q (.bl false) H'
theorem op_neTup (hD : Mon D) (h : EqG X n D) (hr : Room (n + 1) X.A) : OpR X (compareOp .NotEq) (rNeG (DTup X.K D)) := by
  intro pins s σ H x y v u Q I rx ry hq
  obtain ⟨⟨a, b, xs, ys, rfl, rfl, ha, hb, p⟩, q⟩ := hq
  cases rx
  cases ry
  obtain ⟨its, r, e, z⟩ := I.tuple ha
  obtain ⟨its2, r2, e2, z2⟩ := I.tuple hb
  have hsz : its.toArray.size = its2.toArray.size := by rw [List.size_toArray, List.size_toArray, ← r.length, ← r2.length]; exact p.1
  have sb : Sub X (n + 1) X.A := ⟨hr, rfl⟩
  show wpAny (model X.prog X.w) X.A (richCompare .NotEq (.ref a) (.ref b)) (EP X pins σ Q) X.xe s
  refine GQN.rcNe_tupG hsz hr.units0 (fun _ s' => LoopI X pins σ H s') e e2 (fun i h1 h2 s' q => turnG hD h sb p r r2 i h1 h2 s' q) (fun s' ql => ?_) ⟨H, I, Ext.rfl'⟩
  obtain ⟨H', I', ex⟩ := ql
  exact ⟨.bl false, H', I', rfl, q H' ex⟩
theorem op_neSlt {CX : CXT} {C f : Addr} {fd : FuncData} {ps : List Str} {R : Addr → Addr → Hp → Prop} {E : XK} (F : FnOk X.prog X.w X.K X.mg X.base CX n f fd ps (spEq R)) (hm : PySem.W.mroIn X.K C (.type "object") = some true)
    (hne : PySem.W.findIn X.K (.ref C) "__ne__" = some (some (.builtin "object.__ne__"))) (hs : PySem.W.findIn X.K (.ref C) "__eq__" = some (some (.ref f))) (hf : PySem.W.isFn X.K (.ref f) = true) (hb : Binds X.K fd ps []) (hx : Passes CX X E)
    (hr : Room (n + 1) X.A) : OpR X (compareOp .NotEq) (rNeG (DSlt C R)) := by
  intro pins s σ H x y v u Q I rx ry hq
  obtain ⟨⟨a, b, dx, dy, fs, gs, rfl, rfl, ha, hb', hr'⟩, q⟩ := hq
  cases rx
  cases ry
  obtain ⟨sl, od, _, J, _⟩ := SlX.slt_inst I ha
  obtain ⟨sl', od', _, J', _⟩ := SlX.slt_inst I hb'
  have sb : Sub X n X.A.in1 := (show Sub X (n + 1) X.A from ⟨hr, rfl⟩).in1
  show wpAny (model X.prog X.w) X.A (richCompare .NotEq (.ref a) (.ref b)) (EP X pins σ Q) X.xe s
  refine GQN.rcNe_own (by have := hr.units; omega) I.kIn J J'.type hm hne hs hf ?_
  refine wpAny_mono (run_eq F hb hx sb I hr') (fun v s' ⟨e, H', I', ex⟩ => ⟨e, ?_⟩) fun _ _ e => e
  exact ⟨.bl false, H', I', rfl, q H' ex⟩
end
end K7R
/-! The text by places, what is known of the top, calls by promises, data in the heap. -/
namespace K7
open PySem L2
def top (i : Nat) : Stmt := PySem.Challenge.pw_rakedpapers_k07_whole_opposites_and_shor.main.body.getD i (.Pass ⟨0, 0, 0, 0⟩)

/-! ### calls by promises -/
/-- the module has a def of that name, that keeps the promise -/
def Kn (P : Program) (w : World) (K : PySem.W.Frag) (mg : Str → Option Value) (base : Heap) (x : Str) (k : Nat) (ps : List Str) (sp : Sp) : Prop :=
  ∃ f fd, FnOk P w K mg base CX0 k f fd ps sp ∧ mg x = some (.ref f) ∧ PySem.W.keepIn K (.ref f) = true ∧ L2.Binds K fd ps []
/-- a method of the class at C -/
def Km (P : Program) (w : World) (K : PySem.W.Frag) (mg : Str → Option Value) (base : Heap) (C : Addr) (m : Str) (k : Nat) (ps : List Str) (sp : Sp) : Prop :=
  ∃ f fd, FnOk P w K mg base CX0 k f fd ps sp ∧ Meth K C m f ∧ L2.Binds K fd ps []
/-- a class of that name, made by its __init__ -/
def Kc (P : Program) (w : World) (K : PySem.W.Frag) (mg : Str → Option Value) (base : Heap) (C : Addr) (x : Str) (k : Nat) (ps : List Str) (sp : Sp) : Prop :=
  ∃ f fd, FnOk P w K mg base CX0 k f fd ps sp ∧ Mk K C f ∧ mg x = some (.ref C) ∧ L2.Binds K fd ps []
/-- a property of the class at C -/
def Kp (P : Program) (w : World) (K : PySem.W.Frag) (mg : Str → Option Value) (base : Heap) (C : Addr) (f : Str) (k : Nat) (sp : Sp) : Prop :=
  ∃ p g, PySem.W.findIn K (.ref C) f = some (some (.ref p)) ∧ PySem.W.specialIn K (.ref p) "__get__" = some (some (.builtin "property.__get__")) ∧ PySem.W.takesIn K (.ref p) = some true ∧
    (∃ rest, PySem.W.recIn K p "property" = some (.ref g :: rest)) ∧ FnR P w K mg base CX0 k g sp
/-- a name of the module -/
def GV (mg : Str → Option Value) (x : Str) (v : V) : Prop := ∃ u, mg x = some u ∧ RelV v u
section
variable {X : Cx} {k : Nat} {C : Addr} {ps : List Str} {sp : Sp} {x m f : Str} {p pos apos : Pos} {e o : Expr} {es : List Expr} {ta : TE} {t : TA} {v : V}
theorem pe_gl (hg : Gl X x) (h : GV X.mg x v) (hd : (x == ("__debug__" : Str)) = false := by decide) : PE X (.Name x pos) (tC v) := by
  obtain ⟨u, hm, r⟩ := h
  exact pe_glob hg hm r hd
theorem pe_kn (h : Kn X.prog X.w X.K X.mg X.base x k ps sp) (hr : Room k X.A) (hg : Gl X x) (ha : PA X (e :: es) t) (hdb : (x == ("__debug__" : Str)) = false := by decide)
    (he : starEach (e :: es) X.env = (false, eval e X.env) :: starEach es X.env := by rfl) (hpl : (backTo pos (starEach es X.env)).any (·.1) = false := by rfl) : PE X (.Call (.Name x p) (e :: es) [] pos) (tCall sp [] E0 t) := by
  obtain ⟨f, fd, F, hm, hk, hb⟩ := h
  exact pe_call F hr hg hm hk hb .nil pass0 ha hdb he hpl
theorem pe_mk (h : Kc X.prog X.w X.K X.mg X.base C x k ps sp) (hr : Room (k + 1) X.A) (hg : Gl X x) (ha : PA X (e :: es) t) (hdb : (x == ("__debug__" : Str)) = false := by decide)
    (he : starEach (e :: es) X.env = (false, eval e X.env) :: starEach es X.env := by rfl) (hpl : (backTo pos (starEach es X.env)).any (·.1) = false := by rfl) : PE X (.Call (.Name x p) (e :: es) [] pos) (tMake C sp [] E0 t) := by
  obtain ⟨f, fd, F, M, hm, hb⟩ := h
  exact pe_make M F hr hg hm hb .nil pass0 ha hdb he hpl
theorem pe_km {pl : Sem Bool} (h : Km X.prog X.w X.K X.mg X.base C m k ps sp) (c : Cls X.K C) (hr : Room k X.A) (he : PE X o ta) (ha : PA X (e :: es) t)
    (hst : starEach (e :: es) X.env = (false, eval e X.env) :: starEach es X.env := by rfl) (hpl : (backTo pos (starEach es X.env)).any (·.1) = false := by rfl)
    (ht : eval (.Call (.Attribute o m apos) (e :: es) [] pos) X.env = (do
      let ov ← eval o X.env
      standAt apos.atName
      let (f, first) ← holding [ov] (getMethod ov m pl)
      callWith pos f first (backTo pos (starEach (e :: es) X.env)) (backToKw pos (keywordEach [] X.env))) := by rfl) :
    PE X (.Call (.Attribute o m apos) (e :: es) [] pos) (tMeth C m sp [] E0 ta t) := by
  obtain ⟨f, fd, F, M, hb⟩ := h
  exact pe_meth he c M F hr hb .nil pass0 ha hst hpl ht
theorem pe_kp (h : Kp X.prog X.w X.K X.mg X.base C f k sp) (c : SlX.SCls X.K C) (hr : Room (k + 1) X.A) (he : PE X e ta) (hb : attributeBase e f X.env (eval e X.env) = eval e X.env := by rfl) : PE X (.Attribute e f pos) (SlX.tPropSl C sp E0 ta) := by
  obtain ⟨p, g, at_, get, tk, rc, F⟩ := h
  exact SlX.pe_propSl he c at_ get tk rc F hr (fun _ _ _ _ q => q) hb
end
section
variable {P : Program} {w : World} {K : PySem.W.Frag} {mg : Str → Option Value} {base : Heap} {C : Addr} {x : Str} {k : Nat} {ps : List Str} {sp sp' : Sp}
theorem Kn.imp (h : Kn P w K mg base x k ps sp) (i : ∀ vs H Q E, sp' vs H Q E → sp vs H Q E) : Kn P w K mg base x k ps sp' := by
  obtain ⟨f, fd, F, r⟩ := h
  exact ⟨f, fd, F.imp i, r⟩
end

/-! ### what is known of the top -/
structure Txt (K : PySem.W.Frag) (mg : Str → Option Value) where
  cBath : Addr
  cTray : Addr
  slot : Addr
  b_isinstance : mg "isinstance" = none
  b_int : mg "int" = none
  b_bool : mg "bool" = none
  b_str : mg "str" = none
  b_tuple : mg "tuple" = none
  b_list : mg "list" = none
  b_len : mg "len" = none
  b_all : mg "all" = none
  b_zip : mg "zip" = none
  b_enumerate : mg "enumerate" = none
  b_range : mg "range" = none
  b_max : mg "max" = none
  g_LETTERS : GV mg "LETTERS" (.str "abcdefghijklmnopqrstuvwxyz")
  g_NOTHING : GV mg "NOTHING" (.str ".")
  g_MAX_SIDE : GV mg "MAX_SIDE" (.int 5)
  g_MAX_CELLS : GV mg "MAX_CELLS" (.int 12)
  g_MAX_STRIDE : GV mg "MAX_STRIDE" (.int 9)
  g_MAX_DEEDS : GV mg "MAX_DEEDS" (.int 12)
  g_DROP : GV mg "DROP" (.str "drop")
  g_RAKE : GV mg "RAKE" (.str "rake")
  g_COMB : GV mg "COMB" (.str "comb")
  g_PAPER : GV mg "PAPER" (.str "paper")
  g_CELL : GV mg "CELL" (.str "cell")
  g_Bath : mg "Bath" = some (.ref cBath)
  sc : SlX.SCls K cBath
  sl1 : SlX.Slot1 K cBath "parts" slot 0
  si : SlX.SIsi K cBath
  kit : PySem.W.kitOne K (.ref cBath) (.ref cBath) = some true
  ne : PySem.W.findIn K (.ref cBath) "__ne__" = some (some (.builtin "object.__ne__"))
  clTray : Cls K cTray
  nSize : NoAttr K cTray "size"
  nThings : NoAttr K cTray "things"
  nPapers : NoAttr K cTray "papers"

/-! ### heaps -/
abbrev Ex (H H' : Hp) : Prop := Ext H H'
theorem Ex.refl (H : Hp) : Ex H H := fun _ _ h => h
theorem Ex.new {H : Hp} {p : Addr} {o : HO} (h : H p = none) : Ex H (upd H p o) := Ext.upd h
theorem Ex.new' {H H1 : Hp} {p : Addr} {o : HO} (x : Ex H H1) (h : H1 p = none) : Ex H (upd H1 p o) := Ext.upd' x h
theorem fresh_back {H H' : Hp} {p : Addr} (e : Ex H H') (h : H' p = none) : H p = none := by
  cases h1 : H p with
  | none => rfl
  | some o =>
    rw [e p o h1] at h
    cases h
/-- an object that H does not know may change -/
theorem Ex.mut {H H' : Hp} {p : Addr} {o : HO} (e : Ex H H') (h : H p = none) : Ex H (upd H' p o) := fun a u ha => by
  rw [upd_ne (ne_of_none ha h)]
  exact e a u ha
/-- tuples stay -/
def ExT (H H' : Hp) : Prop := ∀ a xs, H a = some (.tup xs) → H' a = some (.tup xs)
theorem Ex.t {H H' : Hp} (e : Ex H H') : ExT H H' := fun a xs h => e a _ h
theorem ExT.refl (H : Hp) : ExT H H := fun _ _ h => h
theorem ExT.trans {H H1 H2 : Hp} (a : ExT H H1) (b : ExT H1 H2) : ExT H H2 := fun c xs h => b c xs (a c xs h)
theorem ExT.upd {H : Hp} {p : Addr} {o : HO} (h : ∀ xs, H p ≠ some (.tup xs)) : ExT H (L2.upd H p o) := fun a xs e => by
  have ne : a ≠ p := fun z => by
    subst z
    exact h xs e
  rw [upd_ne ne]
  exact e
theorem not_tup_lst {H : Hp} {p : Addr} {ys : List V} (h : H p = some (.lst ys)) : ∀ xs, H p ≠ some (.tup xs) := fun xs e => by rw [h] at e; cases e
theorem not_tup_none {H : Hp} {p : Addr} (h : H p = none) : ∀ xs, H p ≠ some (.tup xs) := fun xs e => by rw [h] at e; cases e
theorem not_tup_ins {H : Hp} {p C dx : Addr} {fs : List (Str × V)} (h : H p = some (.ins C dx fs)) : ∀ xs, H p ≠ some (.tup xs) := fun xs e => by rw [h] at e; cases e
theorem sz {n : Nat} (h : n ≤ 100000) : n ≤ sizeLine := Nat.le_trans h (by decide)
theorem szl {n : Nat} (h : n < 100000) : n < sizeLine := Nat.lt_of_lt_of_le h (by decide)

/-! ### data -/
instance : Inhabited V := ⟨.non⟩
instance : Inhabited Deed := ⟨.paper []⟩
def kindS (r : Bool) : Str := if r then "rake" else "comb"
def sg (c : Nat) : Str := ⟨#[c]⟩
def natV (cs : List Nat) : List V := cs.map fun c : Nat => V.int (c : Int)
/-- the value is the deed -/
def DeedV (H : Hp) (v : V) : Deed → Prop
  | .draw r s => ∃ a b, v = .ref a ∧ H a = some (.tup [.str (kindS r), .ref b]) ∧ H b = some (.tup (s.map V.int))
  | .drop c x => ∃ a, v = .ref a ∧ H a = some (.tup [.str "drop", .int (c : Int), .str (sg x)])
  | .paper cs => ∃ a b, v = .ref a ∧ H a = some (.tup [.str "paper", .ref b]) ∧ H b = some (.tup (natV cs))
theorem DeedV.ex {H H' : Hp} {v : V} (e : ExT H H') : ∀ {d : Deed}, DeedV H v d → DeedV H' v d
  | .draw _ _, ⟨a, b, h1, h2, h3⟩ => ⟨a, b, h1, e _ _ h2, e _ _ h3⟩
  | .drop _ _, ⟨a, h1, h2⟩ => ⟨a, h1, e _ _ h2⟩
  | .paper _, ⟨a, b, h1, h2, h3⟩ => ⟨a, b, h1, e _ _ h2, e _ _ h3⟩
/-- the values are the deeds -/
def DeedsV (H : Hp) (vs : List V) (ds : List Deed) : Prop := Rel2 (DeedV H) vs ds
theorem DeedsV.ex {H H' : Hp} {vs : List V} {ds : List Deed} (e : ExT H H') (h : DeedsV H vs ds) : DeedsV H' vs ds := h.mono fun _ _ q => q.ex e
def RecV (H : Hp) (v : V) (ds : List Deed) : Prop := ∃ a vs, v = .ref a ∧ H a = some (.tup vs) ∧ DeedsV H vs ds
theorem RecV.ex {H H' : Hp} {v : V} {ds : List Deed} (e : ExT H H') (h : RecV H v ds) : RecV H' v ds := by
  obtain ⟨a, vs, h1, h2, h3⟩ := h
  exact ⟨a, vs, h1, e _ _ h2, h3.ex e⟩
/-- a tray may be so large -/
def Sz (w h : Nat) : Prop := 0 < w ∧ w ≤ 5 ∧ 0 < h ∧ h ≤ 5 ∧ w * h ≤ 12
/-- the deed is one for such a tray -/
def Va (w h : Nat) : Deed → Prop
  | .draw r s => s.length = cnt w h r ∧ ∀ x ∈ s, -9 ≤ x ∧ x ≤ 9
  | .drop c x => c < w * h ∧ 97 ≤ x ∧ x ≤ 122
  | .paper cs => cs ≠ [] ∧ cs.Pairwise (· < ·) ∧ ∀ c ∈ cs, c < w * h
theorem Va.len {w h : Nat} {d : Deed} (v : Va w h d) : lenD w h d := by
  cases d with
  | draw r s => exact v.1
  | drop _ _ => trivial
  | paper _ => trivial
theorem Va.inD {w h : Nat} {d : Deed} (v : Va w h d) : inD w h d := by
  cases d with
  | draw r s => exact v.1
  | drop _ _ => exact v.1
  | paper _ => exact v.2.2
theorem Va.paper_len {w h : Nat} {cs : List Nat} (hs : Sz w h) (v : Va w h (.paper cs)) : cs.length ≤ 12 := by
  obtain ⟨_, hp, hb⟩ := v
  have hn : cs.Nodup := hp.imp (fun h => Nat.ne_of_lt h)
  have hsub : ∀ c ∈ cs, c ∈ List.range (w * h) := fun c hc => List.mem_range.mpr (hb c hc)
  have := (List.Nodup.length_le_of_subset hn hsub)
  rw [List.length_range] at this
  exact Nat.le_trans this hs.2.2.2.2
theorem cnt_le {w h : Nat} (hs : Sz w h) (r : Bool) : cnt w h r ≤ 5 := by
  cases r with
  | true => exact hs.2.2.2.1
  | false => exact hs.2.1
theorem cnt_pos {w h : Nat} (hs : Sz w h) (r : Bool) : 0 < cnt w h r := by
  cases r with
  | true => exact hs.2.2.1
  | false => exact hs.1
theorem modu_le {w h : Nat} (hs : Sz w h) (r : Bool) : modu w h r ≤ 5 := by
  cases r with
  | true => exact hs.2.1
  | false => exact hs.2.2.2.1
/-- signs: small letters, and the point -/
def Sig (c : Nat) : Prop := (97 ≤ c ∧ c ≤ 122) ∨ c = 46
/-- an instance of Bath -/
def BathAt {K : PySem.W.Frag} {mg : Str → Option Value} (T : Txt K mg) (H : Hp) (a : Addr) (w h : Nat) (z : List Nat) : Prop :=
  ∃ dx t, SlX.Slt H a T.cBath dx [some (.ref t)] ∧ H t = some (.tup [.int (w : Int), .int (h : Int), .str ⟨z.toArray⟩])
theorem BathAt.ex {K : PySem.W.Frag} {mg : Str → Option Value} {T : Txt K mg} {H H' : Hp} {a : Addr} {w h : Nat} {z : List Nat} (e : Ex H H') (b : BathAt T H a w h z) : BathAt T H' a w h z := by
  obtain ⟨dx, t, h1, h2⟩ := b
  exact ⟨dx, t, K7R.slt_ext h1 e, e _ _ h2⟩
end K7
/-! The rules that speak of the written part, with the part as a letter (for what stands within a comprehension). -/
namespace K7
open PySem L2 K7R
section
variable {X : Cx} {K : PySem.W.Frag}
theorem ix_listK (h : X.K = K := by rfl) : IxR X (rIxL K) := h ▸ ix_list
theorem ix_tupK (h : X.K = K := by rfl) : IxR X (rIxT K) := h ▸ ix_tup
theorem ix_seqK (h : X.K = K := by rfl) : IxR X (rIx K) := h ▸ ix_seq
theorem op_in_seqK (h : X.K = K := by rfl) : OpR X (compareOp .In) (rIn K false) := h ▸ op_in_seq
theorem op_notIn_seqK (h : X.K = K := by rfl) : OpR X (compareOp .NotIn) (rIn K true) := h ▸ op_notIn_seq
theorem call_lenK (h : X.K = K := by rfl) : CallR X (.builtin "len") (fun xs H Q => ∃ x n, xs = [x] ∧ LenV K x H n ∧ Q (.int n) H) := h ▸ call_len
theorem call_tuple_ofK (h : X.K = K := by rfl) : CallR X (.type "tuple") (fun xs H Q => ∃ p ys, xs = [.ref p] ∧ ((SqL K H p ys ∧ ∀ l, H l = none → Q (.ref l) (upd H l (.tup ys))) ∨ (SqT K H p ys ∧ Q (.ref p) H))) := h ▸ call_tuple_of
theorem cr_maxTK (hc : X.calm = true) (h : X.K = K := by rfl) : CallR X (.builtin "max") (rMaxT K) := h ▸ cr_maxT hc
theorem pe_fldK {e : Expr} {f : Str} {pos : Pos} {ta : TE} (he : PE X e ta) (hb : attributeBase e f X.env (eval e X.env) = eval e X.env) (h : X.K = K := by rfl) : PE X (.Attribute e f pos) (tFld K ta f) := h ▸ pe_fld he hb
theorem pi_listK {tg l : Expr} {tl : TE} (hl : PE X l tl) (h : X.K = K := by rfl) : PI X tg l (iList K tl) := h ▸ pi_list hl
theorem pi_tupK {tg l : Expr} {tl : TE} (hl : PE X l tl) (h : X.K = K := by rfl) : PI X tg l (iTup K tl) := h ▸ pi_tup hl
/-! a comprehension within a comprehension -/
theorem look_relabel {env : Env} : ∀ {names : List (Str × NameKind)} {x : Str}, names.lookup x = some .cell ∨ names.lookup x = some .free →
    (names.map fun (n, k) => if (k == NameKind.free && env.scope.kind == .function && env.kindOf n == some .cell) then (n, NameKind.cell) else (n, k)).lookup x = some .cell ∨
    (names.map fun (n, k) => if (k == NameKind.free && env.scope.kind == .function && env.kindOf n == some .cell) then (n, NameKind.cell) else (n, k)).lookup x = some .free
  | [], _, h => by rcases h with h | h <;> cases h
  | (n, k) :: r, x, h => by
    have ih := @look_relabel env r x
    show List.lookup x ((if (k == NameKind.free && env.scope.kind == .function && env.kindOf n == some .cell) = true then (n, NameKind.cell) else (n, k)) :: _) = _ ∨ List.lookup x ((if (k == NameKind.free && env.scope.kind == .function && env.kindOf n == some .cell) = true then (n, NameKind.cell) else (n, k)) :: _) = _
    cases hx : x == n with
    | true =>
      by_cases hc : (k == NameKind.free && env.scope.kind == .function && env.kindOf n == some .cell) = true
      · rw [if_pos hc]; simp only [List.lookup_cons, hx]; exact .inl trivial
      · rw [if_neg hc]
        simp only [List.lookup_cons, hx] at h ⊢
        exact h
    | false =>
      simp only [List.lookup_cons, hx] at h
      by_cases hc : (k == NameKind.free && env.scope.kind == .function && env.kindOf n == some .cell) = true
      · rw [if_pos hc]; simp only [List.lookup_cons, hx]; exact ih h
      · rw [if_neg hc]; simp only [List.lookup_cons, hx]; exact ih h
theorem blkOk_in {N : List Str} {sc scope : Scope} {env : Env} {own : List (Str × Nat)} (h : blkC N sc scope own = true) : BlkOk N (relabel sc env) scope own :=
  have b := blkOk_by h
  ⟨b.kind, b.uniq, b.ix, fun y hy e => look_relabel (b.free y hy e), b.own⟩
end
end K7
/-! Data for ==. -/
namespace K7
open PySem L2
theorem itP {c A B : Prop} [Decidable c] (hc : c) (h : A) : if c then A else B := by rw [if_pos hc]; exact h
theorem iteS {c A B : Prop} [Decidable c] (h : A) (g : B) : if c then A else B := by
  split
  · exact h
  · exact g
theorem itN {c A B : Prop} [Decidable c] (hc : ¬ c) (h : B) : if c then A else B := by rw [if_neg hc]; exact h

mutual
theorem eqv_refl0 : ∀ d : PyData, d.canLay0 = true → PyData.eqv d d = true
  | .none, _ => rfl
  | .bool b, _ => by simp [PyData.eqv]
  | .int i, _ => by simp [PyData.eqv]
  | .str x, _ => by simp [PyData.eqv]
  | .list xs, h => by rw [PyData.eqv]; exact eqvAll_refl0 xs h
  | .tuple xs, h => by rw [PyData.eqv]; exact eqvAll_refl0 xs h
  | .dict _, h => nomatch h
theorem eqvAll_refl0 : ∀ xs : List PyData, PyData.canLayAll0 xs = true → PyData.eqvAll xs xs = true
  | [], _ => rfl
  | x :: xs, h => by
    have h' : x.canLay0 = true ∧ PyData.canLayAll0 xs = true := by simpa [PyData.canLayAll0] using h
    rw [PyData.eqvAll, eqv_refl0 x h'.1, eqvAll_refl0 xs h'.2]; rfl
end
/-- laid data of a depth -/
def Wf (n : Nat) (d : PyData) : Prop := d.canLay0 = true ∧ d.depth ≤ n
theorem Wf.mono {n m : Nat} {d : PyData} (h : Wf n d) (l : n ≤ m) : Wf m d := ⟨h.1, Nat.le_trans h.2 l⟩
theorem Wf.shaped {n : Nat} {d : PyData} (h : Wf n d) (l : n ≤ 64) : SeqAt.shaped d = true := by
  unfold SeqAt.shaped
  rw [h.1, decide_eq_true (Nat.le_trans h.2 l)]
  rfl
theorem Wf.refl {n : Nat} {d : PyData} (h : Wf n d) : PyData.eqv d d = true := eqv_refl0 d h.1
theorem wf_int (i : Int) : Wf 0 (.int i) := ⟨rfl, Nat.le_refl _⟩
theorem wf_all {n : Nat} : ∀ {ds : List PyData}, (∀ d ∈ ds, Wf n d) → PyData.canLayAll0 ds = true ∧ PyData.depthAll ds ≤ n
  | [], _ => ⟨rfl, Nat.zero_le _⟩
  | d :: ds, h => by
    have h1 := h d List.mem_cons_self
    have h2 := wf_all (ds := ds) fun e he => h e (List.mem_cons_of_mem _ he)
    refine ⟨?_, ?_⟩
    · rw [PyData.canLayAll0, h1.1, h2.1]; rfl
    · rw [PyData.depthAll]; exact Nat.max_le.mpr ⟨h1.2, h2.2⟩
theorem wf_tup {n : Nat} {ds : List PyData} (h : ∀ d ∈ ds, Wf n d) : Wf (n + 1) (.tuple ds) := by
  obtain ⟨h1, h2⟩ := wf_all h
  refine ⟨?_, ?_⟩
  · rw [PyData.canLay0]; exact h1
  · rw [PyData.depth]; exact Nat.succ_le_succ h2
theorem wf_lst {n : Nat} {ds : List PyData} (h : ∀ d ∈ ds, Wf n d) : Wf (n + 1) (.list ds) := by
  obtain ⟨h1, h2⟩ := wf_all h
  refine ⟨?_, ?_⟩
  · rw [PyData.canLay0]; exact h1
  · rw [PyData.depth]; exact Nat.succ_le_succ h2
theorem wf_sg {c : Nat} (h : c < 1000) : Wf 0 (.str (sg c)) := by
  refine ⟨?_, Nat.le_refl _⟩
  have : ∀ x, x < 1000 → PyData.canLay0 (.str (sg x)) = true := by decide +kernel
  exact this c h
theorem wf_kind (r : Bool) : Wf 0 (.str (kindS r)) := by
  refine ⟨?_, Nat.le_refl _⟩
  cases r <;> decide +kernel
theorem wf_str {x : Str} (h : PyData.canLay0 (.str x) = true) : Wf 0 (.str x) := ⟨h, Nat.le_refl _⟩

theorem dpAll_map {K : PySem.W.Frag} {H : Hp} {α : Type} {f : α → V} {g : α → PyData} : ∀ {l : List α}, (∀ x ∈ l, Dp K H (f x) (g x)) → DpAll K H (l.map f) (l.map g)
  | [], _ => .nil
  | x :: l, h => .cons (h x List.mem_cons_self) (dpAll_map fun y hy => h y (List.mem_cons_of_mem _ hy))
theorem dpAll_rel {K : PySem.W.Frag} {H : Hp} {α : Type} {R : V → α → Prop} {g : α → PyData} (hR : ∀ v x, R v x → Dp K H v (g x)) : ∀ {vs : List V} {l : List α}, vs.length = l.length → (∀ (i : Nat) v x, vs[i]? = some v → l[i]? = some x → R v x) → DpAll K H vs (l.map g)
  | [], [], _, _ => .nil
  | [], _ :: _, h, _ => by cases h
  | _ :: _, [], h, _ => by cases h
  | v :: vs, x :: l, h, q => .cons (hR v x (q 0 v x rfl rfl)) (dpAll_rel hR (by simpa using h) fun i a b ha hb => q (i + 1) a b (by simpa using ha) (by simpa using hb))
/-- the data of a deed -/
def dD : Deed → PyData
  | .draw r s => .tuple [.str (kindS r), .tuple (s.map .int)]
  | .drop c x => .tuple [.str "drop", .int (c : Int), .str (sg x)]
  | .paper cs => .tuple [.str "paper", .tuple (cs.map fun c : Nat => .int (c : Int))]
def dRec (ds : List Deed) : PyData := .tuple (ds.map dD)
section
variable {K : PySem.W.Frag} {H : Hp}
theorem dp_ints {a : Addr} {s : List Int} (h : H a = some (.tup (s.map V.int))) : Dp K H (.ref a) (.tuple (s.map .int)) := .tup (SqT.of h) (dpAll_map fun x _ => .int x)
theorem dp_nats {a : Addr} {s : List Nat} (h : H a = some (.tup (natV s))) : Dp K H (.ref a) (.tuple (s.map fun c : Nat => .int (c : Int))) := .tup (SqT.of h) (dpAll_map fun x _ => .int _)
theorem dp_deed {v : V} : ∀ {d : Deed}, DeedV H v d → Dp K H v (dD d)
  | .draw r s, ⟨a, b, h1, h2, h3⟩ => by subst h1; exact .tup (SqT.of h2) (.cons (.str _) (.cons (dp_ints h3) .nil))
  | .drop c x, ⟨a, h1, h2⟩ => by subst h1; exact .tup (SqT.of h2) (.cons (.str _) (.cons (.int _) (.cons (.str _) .nil)))
  | .paper cs, ⟨a, b, h1, h2, h3⟩ => by subst h1; exact .tup (SqT.of h2) (.cons (.str _) (.cons (dp_nats h3) .nil))
theorem dp_rec {v : V} {ds : List Deed} (h : RecV H v ds) : Dp K H v (dRec ds) := by
  obtain ⟨a, vs, h1, h2, h3⟩ := h
  subst h1
  exact .tup (SqT.of h2) (dpAll_rel (R := DeedV H) (fun v x q => dp_deed q) h3.1 h3.2)
end
theorem wf_ints (s : List Int) : Wf 1 (.tuple (s.map .int)) := wf_tup fun d hd => by
  obtain ⟨x, _, rfl⟩ := List.mem_map.mp hd
  exact wf_int x
theorem wf_nats (s : List Nat) : Wf 1 (.tuple (s.map fun c : Nat => .int (c : Int))) := wf_tup fun d hd => by
  obtain ⟨x, _, rfl⟩ := List.mem_map.mp hd
  exact wf_int _
/-- a colour that can be a sign -/
def colOk : Deed → Prop
  | .drop _ x => x < 1000
  | _ => True
theorem Va.col {w h : Nat} {d : Deed} (v : Va w h d) : colOk d := by
  cases d with
  | draw _ _ => trivial
  | drop c x => exact Nat.lt_of_le_of_lt v.2.2 (by decide)
  | paper _ => trivial
theorem wf_deed {d : Deed} (h : colOk d) : Wf 2 (dD d) := by
  cases d with
  | draw r s =>
    refine wf_tup fun d hd => ?_
    rcases List.mem_cons.mp hd with e | hd
    · rw [e]; exact (wf_kind r).mono (by decide)
    · rw [List.mem_singleton.mp hd]; exact wf_ints s
  | drop c x =>
    refine wf_tup fun d hd => ?_
    rcases List.mem_cons.mp hd with e | hd
    · rw [e]; exact (wf_str (by decide +kernel)).mono (by decide)
    · rcases List.mem_cons.mp hd with e | hd
      · rw [e]; exact (wf_int _).mono (by decide)
      · rw [List.mem_singleton.mp hd]; exact (wf_sg h).mono (by decide)
  | paper cs =>
    refine wf_tup fun d hd => ?_
    rcases List.mem_cons.mp hd with e | hd
    · rw [e]; exact (wf_str (by decide +kernel)).mono (by decide)
    · rw [List.mem_singleton.mp hd]; exact wf_nats cs
theorem wf_rec {ds : List Deed} (h : ∀ d ∈ ds, colOk d) : Wf 3 (dRec ds) := wf_tup fun e he => by
  obtain ⟨d, hd, rfl⟩ := List.mem_map.mp he
  exact wf_deed (h d hd)
end K7
/-! Numbers, signs, sizes. -/
namespace K7
open PySem L2
section
variable {P : Program} {w : World} {K : PySem.W.Frag} {mg : Str → Option Value} {base : Heap}

def sp_is_number : Sp := fun vs H Q _ => ∃ x lo hi : Int, vs = [.int x, .int lo, .int hi] ∧ Q (.bl (decide (lo ≤ x) && decide (x ≤ hi))) H
abbrev s_is_number : Stmt := top 17
theorem sc_is_number : FnScope ["value", "smallest", "largest"] ["value", "smallest", "largest"] (defScope s_is_number) := ⟨rfl, rfl, rfl, by decide +kernel, rfl, by decide +kernel, by decide +kernel⟩
theorem ok_is_number {f : Addr} {fd : FuncData} (F : Fun K "is_number" "is_number" s_is_number f fd) (T : Txt K mg) : FnOk P w K mg base CX0 1 f fd ["value", "smallest", "largest"] sp_is_number := by
  refine F.ok sc_is_number (fun vs H Q E h => ?_) (fun cdv A outer s H vs Q E hr h => ?_)
  · obtain ⟨x, lo, hi, rfl, _⟩ := h
    rfl
  · obtain ⟨x, lo, hi, rfl, k⟩ := h
    refine ⟨_, ((pss_one (ps_ret (pe_and (pe_callB call_isi (by rfl) T.b_isinstance (by decide +kernel) (pa_cons (pv 0) (pa_cons (pe_bltn (v := .ty "int") (by rfl) T.b_int (by decide +kernel) rfl) pa_nil))) (pe_and (pe_not (pe_callB call_isi (by rfl) T.b_isinstance (by decide +kernel) (pa_cons (pv 0) (pa_cons (pe_bltn (v := .ty "bool") (by rfl) T.b_bool (by decide +kernel) rfl) pa_nil)))) (pe_one (pe_chain op_le op_le (pv 1) (pv 0) (pv 2)))))))), ?_⟩
    refine ⟨_, rfl, _, _, _, _, true, rfl, .ty _, .base (.int _), kit_ty (by decide +kernel), true, rfl, iteT ?_⟩
    refine ⟨_, rfl, _, _, _, _, false, rfl, .ty _, .base (.int _), kit_ty (by decide +kernel), false, rfl, true, rfl, iteT ?_⟩
    refine ⟨_, rfl, _, rfl, _, _, rfl, rfl, _, rfl, ite2 (fun h1 => ?_) (fun h1 => ?_)⟩
    · refine ⟨_, rfl, _, _, rfl, rfl, ?_⟩
      rw [h1, Bool.true_and] at k
      exact k
    · rw [Bool.eq_false_iff.mpr h1, Bool.false_and] at k
      exact k

theorem letters_mem {x : Nat} (h : 97 ≤ x ∧ x ≤ 122) : x ∈ (("abcdefghijklmnopqrstuvwxyz" : Str)).cps.toList := by
  have : ∀ y, y ≤ 122 → 97 ≤ y → y ∈ (("abcdefghijklmnopqrstuvwxyz" : Str)).cps.toList := by decide +kernel
  exact this x h.2 h.1
theorem signs_mem {x : Nat} (h : Sig x) : x ∈ (("abcdefghijklmnopqrstuvwxyz" : Str) ++ ("." : Str)).cps.toList := by
  have : ∀ y, y ≤ 122 → Sig y → y ∈ (("abcdefghijklmnopqrstuvwxyz" : Str) ++ ("." : Str)).cps.toList := by
    unfold Sig
    decide +kernel
  exact this x (by rcases h with h | h <;> omega) h

def sp_is_letter : Sp := fun vs H Q _ => ∃ x : Nat, vs = [.str (sg x)] ∧ (97 ≤ x ∧ x ≤ 122) ∧ Q (.bl true) H
abbrev s_is_letter : Stmt := top 18
theorem sc_is_letter : FnScope ["value"] ["value"] (defScope s_is_letter) := ⟨rfl, rfl, rfl, by decide +kernel, rfl, by decide +kernel, by decide +kernel⟩
theorem ok_is_letter {f : Addr} {fd : FuncData} (F : Fun K "is_letter" "is_letter" s_is_letter f fd) (T : Txt K mg) : FnOk P w K mg base CX0 1 f fd ["value"] sp_is_letter := by
  refine F.ok sc_is_letter (fun vs H Q E h => ?_) (fun cdv A outer s H vs Q E hr h => ?_)
  · obtain ⟨x, rfl, _⟩ := h
    rfl
  · obtain ⟨x, rfl, hx, k⟩ := h
    refine ⟨_, ((pss_one (ps_ret (pe_and (pe_callB call_isi (by rfl) T.b_isinstance (by decide +kernel) (pa_cons (pv 0) (pa_cons (pe_bltn (v := .ty "str") (by rfl) T.b_str (by decide +kernel) rfl) pa_nil))) (pe_and (pe_cmpR op_eq (pe_callB call_len (by rfl) T.b_len (by decide +kernel) (pa_cons (pv 0) pa_nil)) pe_int (nomark _)) (pe_one (pe_cmpR op_in_sign (pv 0) (pe_gl (by rfl) T.g_LETTERS) (by rfl)))))))), ?_⟩
    refine ⟨_, rfl, _, _, _, _, true, rfl, .ty _, .base (.str _), kit_ty (by decide +kernel), true, rfl, iteT ?_⟩
    refine ⟨_, rfl, _, 1, rfl, ⟨(by show 1 ≤ sizeLine; decide), rfl⟩, rfl, true, rfl, iteT ?_⟩
    refine ⟨_, rfl, x, _, rfl, rfl, ?_⟩
    rw [decide_eq_true (letters_mem hx)]
    exact k

def sp_are_signs : Sp := fun vs H Q _ => ∃ (n : Int) (z : List Nat), vs = [.int n, .str ⟨z.toArray⟩] ∧ n = z.length ∧ z.length ≤ 1000 ∧ (∀ c ∈ z, Sig c) ∧ ∀ H', Ex H H' → Q (.bl true) H'
abbrev s_are_signs : Stmt := top 19
theorem sc_are_signs : FnScope ["size", "value", "sign"] ["size", "value"] (defScope s_are_signs) := ⟨rfl, rfl, rfl, by decide +kernel, rfl, by decide +kernel, by decide +kernel⟩
theorem ok_are_signs {f : Addr} {fd : FuncData} (F : Fun K "are_signs" "are_signs" s_are_signs f fd) (T : Txt K mg) : FnOk P w K mg base CX0 1 f fd ["size", "value"] sp_are_signs := by
  refine F.ok sc_are_signs (fun vs H Q E h => ?_) (fun cdv A outer s H vs Q E hr h => ?_)
  · obtain ⟨n, z, rfl, _⟩ := h
    rfl
  · obtain ⟨n, z, rfl, hn, hz, hs, k⟩ := h
    subst hn
    refine ⟨_, ((pss_one (ps_ret (pe_and (pe_callB call_isi (by rfl) T.b_isinstance (by decide +kernel) (pa_cons (pv 1) (pa_cons (pe_bltn (v := .ty "str") (by rfl) T.b_str (by decide +kernel) rfl) pa_nil))) (pe_and (pe_cmpR op_eq (pe_callB call_len (by rfl) T.b_len (by decide +kernel) (pa_cons (pv 1) pa_nil)) (pv 0) (nomark _)) (pe_one (pe_callB (cr_all rfl) (by rfl) T.b_all (by decide +kernel) (pa_cons (pe_lc (own := [("sign", 2)]) (g := gName 2) (tt := tYes) rfl sc_are_signs.nd (pi_str (pv 1)) (blkOk_by (own := [("sign", 2)]) (N := ["size", "value", "sign"]) (sc := defScope s_are_signs) (by decide +kernel)) (fun _ _ _ _ _ => (pg_name (i := 2) sc_are_signs.nd rfl (Or.inl rfl))) (fun _ _ _ _ _ => pts_nil) (fun _ _ _ _ _ => (pe_cmpR op_in_sign (pv 2) (pe_op op_add_str (pe_gl (by rfl) T.g_LETTERS) (pe_gl (by rfl) T.g_NOTHING)) (by rfl)))) pa_nil)))))))), ?_⟩
    refine ⟨_, rfl, _, _, _, _, true, rfl, .ty _, .base (.str _), kit_ty (by decide +kernel), true, rfl, iteT ?_⟩
    refine ⟨_, rfl, _, z.length, rfl, ⟨(sz (Nat.le_trans hz (by decide))), by simp [Str.length]⟩, _, rfl, rfl, true, (by simp), iteT ?_⟩
    refine ⟨_, rfl, _, rfl, fun D hD => ?_⟩
    refine lc_it (n := z.length) (Y := fun i H x H' => H' = H ∧ ∃ c, z[i]? = some c ∧ x = .str (sg c)) ?wk (fun i H' => Ex H H' ∧ H' D = some (.lst ((List.replicate i true).map V.bl)) ∧ True) ⟨Ex.new hD, upd_same, trivial⟩ (fun _ _ _ _ => trivial) ?_ ?_
    · have e : z.length = (⟨z.toArray⟩ : Str).cps.size := by simp
      rw [e]
      exact walk_str.mono (fun _ _ => trivial) (fun i H x H' _ _ y => ⟨y.1, by simpa [sg] using y.2⟩)
    · rintro i x H1 H2 hi ⟨e1, h1, _⟩ ⟨rfl, c, hc, rfl⟩
      refine ⟨rfl, _, rfl, _, _, rfl, rfl, (sz (by decide)), c, _, rfl, rfl, _, h1, szl (by simp; omega), e1.mut hD, ?_, trivial⟩
      rw [upd_same, decide_eq_true (signs_mem (hs c (List.mem_of_getElem? hc))), List.replicate_succ', List.map_append]
      rfl
    · rintro H1 ⟨e1, h1, _⟩
      refine ⟨D, List.replicate z.length true, rfl, SqL.of h1, ?_⟩
      have e : (List.replicate z.length true).all id = true := by simp
      rw [e]
      exact k _ e1
end
end K7
/-! Sizes, Bath. -/
namespace K7
open PySem L2
section
variable {P : Program} {w : World} {K : PySem.W.Frag} {mg : Str → Option Value} {base : Heap}

theorem mul_int_nat (a b : Nat) : (a : Int) * (b : Int) = ((a * b : Nat) : Int) := (Int.natCast_mul a b).symm
def sp_is_size : Sp := fun vs H Q _ => ∃ a b : Nat, vs = [.int (a : Int), .int (b : Int)] ∧ Sz a b ∧ Q (.bl true) H
abbrev s_is_size : Stmt := top 20
theorem sc_is_size : FnScope ["width", "height"] ["width", "height"] (defScope s_is_size) := ⟨rfl, rfl, rfl, by decide +kernel, rfl, by decide +kernel, by decide +kernel⟩
theorem ok_is_size {f : Addr} {fd : FuncData} (F : Fun K "is_size" "is_size" s_is_size f fd) (T : Txt K mg) (k_is_number : Kn P w K mg base "is_number" 1 ["value", "smallest", "largest"] sp_is_number) :
    FnOk P w K mg base CX0 2 f fd ["width", "height"] sp_is_size := by
  refine F.ok sc_is_size (fun vs H Q E h => ?_) (fun cdv A outer s H vs Q E hr h => ?_)
  · obtain ⟨a, b, rfl, _⟩ := h
    rfl
  · obtain ⟨a, b, rfl, ⟨s1, s2, s3, s4, s5⟩, k⟩ := h
    refine ⟨_, ((pss_one (ps_ret (pe_and (pe_kn k_is_number (hr.mono (by decide)) (by rfl) (pa_cons (pv 0) (pa_cons pe_int (pa_cons (pe_gl (by rfl) T.g_MAX_SIDE) pa_nil)))) (pe_and (pe_kn k_is_number (hr.mono (by decide)) (by rfl) (pa_cons (pv 1) (pa_cons pe_int (pa_cons (pe_gl (by rfl) T.g_MAX_SIDE) pa_nil)))) (pe_one (pe_cmpR op_le (pe_op op_mul (pv 0) (pv 1)) (pe_gl (by rfl) T.g_MAX_CELLS) (nomark _)))))))), ?_⟩
    refine ⟨_, rfl, _, _, _, rfl, _, rfl, itP (by simp; omega) ?_⟩
    refine ⟨_, rfl, _, _, _, rfl, _, rfl, itP (by simp; omega) ?_⟩
    refine ⟨_, rfl, _, rfl, _, _, rfl, rfl, .inl ⟨by omega, by omega⟩, _, _, rfl, rfl, ?_⟩
    show Q (.bl (decide ((a : Int) * (b : Int) ≤ 12))) H
    rw [decide_eq_true (show (a : Int) * (b : Int) ≤ 12 by rw [mul_int_nat]; omega)]
    exact k
def sp_check_size : Sp := fun vs H Q _ => ∃ a b : Nat, vs = [.int (a : Int), .int (b : Int)] ∧ Sz a b ∧ Q .non H
abbrev s_check_size : Stmt := top 21
theorem sc_check_size : FnScope ["width", "height"] ["width", "height"] (defScope s_check_size) := ⟨rfl, rfl, rfl, by decide +kernel, rfl, by decide +kernel, by decide +kernel⟩
theorem ok_check_size {f : Addr} {fd : FuncData} (F : Fun K "check_size" "check_size" s_check_size f fd) (T : Txt K mg) (k_is_size : Kn P w K mg base "is_size" 2 ["width", "height"] sp_is_size) :
    FnOk P w K mg base CX0 3 f fd ["width", "height"] sp_check_size := by
  refine F.ok sc_check_size (fun vs H Q E h => ?_) (fun cdv A outer s H vs Q E hr h => ?_)
  · obtain ⟨a, b, rfl, _⟩ := h
    rfl
  · obtain ⟨a, b, rfl, hs, k⟩ := h
    refine ⟨_, ((pss_one (ps_if (pt_not (pt_val (pe_kn k_is_size (hr.mono (by decide)) (by rfl) (pa_cons (pv 0) (pa_cons (pv 1) pa_nil))))) (pss_one ps_never) pss_nil))), ?_⟩
    exact ⟨_, rfl, _, rfl, a, b, rfl, hs, _, rfl, iteF k⟩

/-! ### Bath -/
def sp_bath_init (T : Txt K mg) : Sp := fun vs H Q _ => ∃ (H0 : Hp) (x dx : Addr) (a b : Nat) (z : List Nat), vs = [.ref x, .int (a : Int), .int (b : Int), .str ⟨z.toArray⟩] ∧ Ex H0 H ∧ H0 x = none ∧ H0 dx = none ∧ dx ≠ x ∧
  H x = some (.ins T.cBath dx []) ∧ H dx = some (.own x) ∧ Sz a b ∧ z.length = a * b ∧ (∀ c ∈ z, Sig c) ∧ ∀ H', Ex H0 H' → BathAt T H' x a b z → Q .non H'
abbrev s_Bath___init__ : Stmt := inClass (top 22) 1
theorem sc_Bath___init__ : FnScope ["self", "width", "height", "cells"] ["self", "width", "height", "cells"] (defScope s_Bath___init__) := ⟨rfl, rfl, rfl, by decide +kernel, rfl, by decide +kernel, by decide +kernel⟩
theorem ok_bath_init {f : Addr} {fd : FuncData} (F : Fun K "__init__" "Bath.__init__" s_Bath___init__ f fd) (T : Txt K mg) (k_is_number : Kn P w K mg base "is_number" 1 ["value", "smallest", "largest"] sp_is_number)
    (k_is_size : Kn P w K mg base "is_size" 2 ["width", "height"] sp_is_size) (k_are_signs : Kn P w K mg base "are_signs" 1 ["size", "value"] sp_are_signs) :
    FnOk P w K mg base CX0 3 f fd ["self", "width", "height", "cells"] (sp_bath_init T) := by
  refine F.ok sc_Bath___init__ (fun vs H Q E h => ?_) (fun cdv A outer s H vs Q E hr h => ?_)
  · obtain ⟨_, _, _, _, _, _, rfl, _⟩ := h
    rfl
  · obtain ⟨H0, x, dx, a, b, z, rfl, e0, hx0, hd0, hne, hx, hd, hs, hz, hsg, k⟩ := h
    have hs' := hs
    obtain ⟨s1, s2, s3, s4, s5⟩ := hs'
    refine ⟨_, ((pss_cons (ps_if (pt_not (pt_val (pe_kn k_is_number (hr.mono (by decide)) (by rfl) (pa_cons (pv 1) (pa_cons pe_int (pa_cons (pe_gl (by rfl) T.g_MAX_SIDE) pa_nil)))))) (pss_one ps_never) pss_nil)
      (pss_cons (ps_if (pt_not (pt_val (pe_kn k_is_size (hr.mono (by decide)) (by rfl) (pa_cons (pv 1) (pa_cons (pv 2) pa_nil))))) (pss_one ps_never) pss_nil)
      (pss_cons (ps_if (pt_not (pt_val (pe_kn k_are_signs (hr.mono (by decide)) (by rfl) (pa_cons (pe_op op_mul (pv 1) (pv 2)) (pa_cons (pv 3) pa_nil))))) (pss_one ps_never) pss_nil)
      (pss_one (SlX.ps_sl (pv 0) (pe_tup (pa_cons (pv 1) (pa_cons (pv 2) (pa_cons (pv 3) pa_nil)))) rfl)))))), ?_⟩
    refine ⟨_, rfl, _, _, _, rfl, _, rfl, itN (by simp; omega) ?_⟩
    refine ⟨_, rfl, _, rfl, a, b, rfl, hs, _, rfl, iteF ?_⟩
    refine ⟨_, rfl, _, rfl, _, _, rfl, rfl, .inl ⟨by omega, by omega⟩, _, rfl, _, z, rfl, by rw [mul_int_nat, hz], by omega, hsg, fun H1 e1 => ⟨_, rfl, iteF ?_⟩⟩
    refine ⟨_, rfl, _, rfl, _, rfl, (by show 3 ≤ sizeLine; decide), fun t ht => ?_⟩
    have htx : t ≠ x := fun q => by rw [q, e1 _ _ hx] at ht; cases ht
    have htd : t ≠ dx := fun q => by rw [q, e1 _ _ hd] at ht; cases ht
    refine ⟨_, rfl, x, T.cBath, dx, T.slot, [], 0, rfl, .inl ⟨by rw [upd_ne htx.symm]; exact e1 _ _ hx, rfl⟩, T.sc, T.sl1, ?_⟩
    refine k _ (fun p o hp => ?_) ⟨dx, t, SlX.slH_slt hne, ?_⟩
    · have h1 : p ≠ x := ne_of_none hp hx0
      have h2 : p ≠ dx := ne_of_none hp hd0
      rw [SlX.slH_ne h1 h2, upd_ne (ne_of_none (e1 _ _ (e0 _ _ hp)) ht)]
      exact e1 _ _ (e0 _ _ hp)
    · rw [SlX.slH_ne htx htd, upd_same]
def sp_width (T : Txt K mg) : Sp := fun vs H Q _ => ∃ (x : Addr) (a b : Nat) (z : List Nat), vs = [.ref x] ∧ BathAt T H x a b z ∧ Q (.int (a : Int)) H
def sp_height (T : Txt K mg) : Sp := fun vs H Q _ => ∃ (x : Addr) (a b : Nat) (z : List Nat), vs = [.ref x] ∧ BathAt T H x a b z ∧ Q (.int (b : Int)) H
def sp_cells (T : Txt K mg) : Sp := fun vs H Q _ => ∃ (x : Addr) (a b : Nat) (z : List Nat), vs = [.ref x] ∧ BathAt T H x a b z ∧ Q (.str ⟨z.toArray⟩) H
abbrev s_Bath_width : Stmt := inClass (top 22) 2
theorem sc_Bath_width : FnScope ["self"] ["self"] (defScope s_Bath_width) := ⟨rfl, rfl, rfl, by decide +kernel, rfl, by decide +kernel, by decide +kernel⟩
abbrev s_Bath_height : Stmt := inClass (top 22) 3
theorem sc_Bath_height : FnScope ["self"] ["self"] (defScope s_Bath_height) := ⟨rfl, rfl, rfl, by decide +kernel, rfl, by decide +kernel, by decide +kernel⟩
abbrev s_Bath_cells : Stmt := inClass (top 22) 4
theorem sc_Bath_cells : FnScope ["self"] ["self"] (defScope s_Bath_cells) := ⟨rfl, rfl, rfl, by decide +kernel, rfl, by decide +kernel, by decide +kernel⟩
theorem ok_width {f : Addr} {fd : FuncData} (F : Fun K "width" "Bath.width" s_Bath_width f fd) (T : Txt K mg) : FnOk P w K mg base CX0 1 f fd ["self"] (sp_width T) := by
  refine F.ok sc_Bath_width (fun vs H Q E h => ?_) (fun cdv A outer s H vs Q E hr h => ?_)
  · obtain ⟨_, _, _, _, rfl, _⟩ := h
    rfl
  · obtain ⟨x, a, b, z, rfl, ⟨dx, t, hsl, ht⟩, k⟩ := h
    refine ⟨_, ((pss_one (ps_ret (pe_ix ix_tup (SlX.pe_sl (pv 0)) pe_int (fun _ _ => rfl))))), ?_⟩
    exact ⟨_, rfl, x, T.cBath, dx, T.slot, _, 0, _, rfl, hsl, T.sc, T.sl1, rfl, t, _, _, _, rfl, rfl, SqT.of ht, rfl, k⟩
theorem ok_height {f : Addr} {fd : FuncData} (F : Fun K "height" "Bath.height" s_Bath_height f fd) (T : Txt K mg) : FnOk P w K mg base CX0 1 f fd ["self"] (sp_height T) := by
  refine F.ok sc_Bath_height (fun vs H Q E h => ?_) (fun cdv A outer s H vs Q E hr h => ?_)
  · obtain ⟨_, _, _, _, rfl, _⟩ := h
    rfl
  · obtain ⟨x, a, b, z, rfl, ⟨dx, t, hsl, ht⟩, k⟩ := h
    refine ⟨_, ((pss_one (ps_ret (pe_ix ix_tup (SlX.pe_sl (pv 0)) pe_int (fun _ _ => rfl))))), ?_⟩
    exact ⟨_, rfl, x, T.cBath, dx, T.slot, _, 0, _, rfl, hsl, T.sc, T.sl1, rfl, t, _, _, _, rfl, rfl, SqT.of ht, rfl, k⟩
theorem ok_cells {f : Addr} {fd : FuncData} (F : Fun K "cells" "Bath.cells" s_Bath_cells f fd) (T : Txt K mg) : FnOk P w K mg base CX0 1 f fd ["self"] (sp_cells T) := by
  refine F.ok sc_Bath_cells (fun vs H Q E h => ?_) (fun cdv A outer s H vs Q E hr h => ?_)
  · obtain ⟨_, _, _, _, rfl, _⟩ := h
    rfl
  · obtain ⟨x, a, b, z, rfl, ⟨dx, t, hsl, ht⟩, k⟩ := h
    refine ⟨_, ((pss_one (ps_ret (pe_ix ix_tup (SlX.pe_sl (pv 0)) pe_int (fun _ _ => rfl))))), ?_⟩
    exact ⟨_, rfl, x, T.cBath, dx, T.slot, _, 0, _, rfl, hsl, T.sc, T.sl1, rfl, t, _, _, _, rfl, rfl, SqT.of ht, rfl, k⟩
/-- the same bath, twice -/
def BathEq (T : Txt K mg) (x y : Addr) (H : Hp) : Prop := ∃ (a b : Nat) (z : List Nat), (∀ c ∈ z, Sig c) ∧ BathAt T H x a b z ∧ BathAt T H y a b z
theorem wf_signs {z : List Nat} (h : ∀ c ∈ z, Sig c) : Wf 0 (.str ⟨z.toArray⟩) := by
  refine wf_str ?_
  rw [PyData.canLay0]
  unfold PySem.PyData.strOk
  rw [Array.all_eq_true_iff_forall_mem]
  intro x hx
  have := h x (by simpa using hx)
  unfold Sig at this
  simp
  omega
abbrev s_Bath___eq__ : Stmt := inClass (top 22) 6
theorem sc_Bath___eq__ : FnScope ["self", "other"] ["self", "other"] (defScope s_Bath___eq__) := ⟨rfl, rfl, rfl, by decide +kernel, rfl, by decide +kernel, by decide +kernel⟩
theorem ok_bath_eq {f : Addr} {fd : FuncData} (F : Fun K "__eq__" "Bath.__eq__" s_Bath___eq__ f fd) (T : Txt K mg) (k_width : Kp P w K mg base T.cBath "width" 1 (sp_width T)) (k_height : Kp P w K mg base T.cBath "height" 1 (sp_height T))
    (k_cells : Kp P w K mg base T.cBath "cells" 1 (sp_cells T)) : FnOk P w K mg base CX0 3 f fd ["self", "other"] (spEq (BathEq T)) := by
  refine F.ok sc_Bath___eq__ (fun vs H Q E h => ?_) (fun cdv A outer s H vs Q E hr h => ?_)
  · obtain ⟨_, _, rfl, _⟩ := h
    rfl
  · obtain ⟨x, y, rfl, ⟨a, b, z, hsg, hx, hy⟩, k⟩ := h
    have hx0 := hx
    have hy0 := hy
    obtain ⟨dx, t, hsl, ht⟩ := hx0
    obtain ⟨dy, t', hsl', ht'⟩ := hy0
    refine ⟨_, ((pss_one (ps_ret (pe_and (pe_callB (SlX.call_isiSl (.ref T.cBath)) (by rfl) T.b_isinstance (by decide +kernel) (pa_cons (pv 1) (pa_cons (pe_glob (v := .ref T.cBath) (by rfl) T.g_Bath rfl) pa_nil))) (pe_one (pe_cmpR (op_eqD hr.units) (SlX.pe_sl (pv 0)) (pe_tup (pa_cons (pe_kp k_width T.sc (hr.mono (by decide)) (pv 1)) (pa_cons (pe_kp k_height T.sc (hr.mono (by decide)) (pv 1)) (pa_cons (pe_kp k_cells T.sc (hr.mono (by decide)) (pv 1)) pa_nil)))) (nomark _))))))), ?_⟩
    refine ⟨_, rfl, y, T.cBath, dy, _, .ref T.cBath, true, rfl, rfl, fun _ r => r, hsl', T.sc, T.si, T.kit, true, rfl, iteT ?_⟩
    refine ⟨_, rfl, x, T.cBath, dx, T.slot, _, 0, _, rfl, hsl, T.sc, T.sl1, rfl, ?_⟩
    refine ⟨_, rfl, y, dy, _, rfl, hsl', y, a, b, z, rfl, hy, ?_⟩
    refine ⟨_, rfl, y, dy, _, rfl, hsl', y, a, b, z, rfl, hy, ?_⟩
    refine ⟨_, rfl, y, dy, _, rfl, hsl', y, a, b, z, rfl, hy, ?_⟩
    refine ⟨(by show 3 ≤ sizeLine; decide), fun p hp => ?_⟩
    have wf : Wf 1 (.tuple [.int (a : Int), .int (b : Int), .str ⟨z.toArray⟩]) := wf_tup fun d hd => by
      rcases List.mem_cons.mp hd with e | hd
      · rw [e]; exact wf_int _
      · rcases List.mem_cons.mp hd with e | hd
        · rw [e]; exact wf_int _
        · rw [List.mem_singleton.mp hd]; exact wf_signs hsg
    refine ⟨_, _, .tup (SqT.of (Ex.new hp _ _ ht)) (.cons (.int _) (.cons (.int _) (.cons (.str _) .nil))), .tup (SqT.of upd_same) (.cons (.int _) (.cons (.int _) (.cons (.str _) .nil))), wf.shaped (by decide), wf.shaped (by decide), ?_⟩
    rw [wf.refl]
    exact k _ (Ex.new hp)
end
end K7
/-! Deeds are looked at. -/
namespace K7
open PySem L2
section
variable {P : Program} {w : World} {K : PySem.W.Frag} {mg : Str → Option Value} {base : Heap}
/-- i times True -/
def trues (i : Nat) : List V := (List.replicate i true).map V.bl
theorem trues_len (i : Nat) : (trues i).length = i := by simp [trues]
theorem trues_succ (i : Nat) : trues (i + 1) = trues i ++ [V.bl true] := by
  unfold trues
  rw [List.replicate_succ', List.map_append]
  rfl
theorem all_trues {H : Hp} {D : Addr} {n : Nat} {Q : VK} (h : H D = some (.lst (trues n))) (q : Q (.bl true) H) : rAll K [V.ref D] H Q := by
  refine ⟨D, List.replicate n true, rfl, SqL.of h, ?_⟩
  have e : (List.replicate n true).all id = true := by simp
  rw [e]
  exact q

theorem map_at {α : Type} {f : α → V} {l : List α} {i : Nat} {x : V} (h : (l.map f)[i]? = some x) : ∃ y, l[i]? = some y ∧ x = f y := by
  rw [List.getElem?_map] at h
  cases e : l[i]? with
  | none => rw [e] at h; cases h
  | some y => rw [e] at h; exact ⟨y, rfl, (Option.some.inj h).symm⟩
theorem natV_at {l : List Nat} {i : Nat} {x : V} (h : (natV l)[i]? = some x) : ∃ y : Nat, l[i]? = some y ∧ x = .int (y : Int) := map_at h
def sp_are_strides : Sp := fun vs H Q _ => ∃ (a : Addr) (ns : List Int) (n : Nat), vs = [.ref a, .int (n : Int)] ∧ H a = some (.tup (ns.map V.int)) ∧ ns.length = n ∧ n ≤ 5 ∧ (∀ x ∈ ns, -9 ≤ x ∧ x ≤ 9) ∧ ∀ H', Ex H H' → Q (.bl true) H'
abbrev s_are_strides : Stmt := top 23
theorem sc_are_strides : FnScope ["value", "count", "stride"] ["value", "count"] (defScope s_are_strides) := ⟨rfl, rfl, rfl, by decide +kernel, rfl, by decide +kernel, by decide +kernel⟩
theorem ok_are_strides {f : Addr} {fd : FuncData} (F : Fun K "are_strides" "are_strides" s_are_strides f fd) (T : Txt K mg) (k_is_number : Kn P w K mg base "is_number" 1 ["value", "smallest", "largest"] sp_is_number) :
    FnOk P w K mg base CX0 2 f fd ["value", "count"] sp_are_strides := by
  refine F.ok sc_are_strides (fun vs H Q E h => ?_) (fun cdv A outer s H vs Q E hr h => ?_)
  · obtain ⟨_, _, _, rfl, _⟩ := h
    rfl
  · obtain ⟨a, ns, n, rfl, ha, hn, hn5, hb, k⟩ := h
    refine ⟨_, ((pss_cons (ps_if (PW.pt (pw_or (pt_not (pt_val (pe_callB call_isi (by rfl) T.b_isinstance (by decide +kernel) (pa_cons (pv 0) (pa_cons (pe_bltn (v := .ty "tuple") (by rfl) T.b_tuple (by decide +kernel) rfl) pa_nil))))) (pw_or1 (pt_cmpR op_ne (pe_callB call_len (by rfl) T.b_len (by decide +kernel) (pa_cons (pv 0) pa_nil)) (pv 1) (nomark _))))) (pss_one (ps_ret pe_bl)) pss_nil)
      (pss_one (ps_ret (pe_callB (cr_all rfl) (by rfl) T.b_all (by decide +kernel) (pa_cons (pe_lc (own := [("stride", 2)]) (g := gName 2) (tt := tYes) rfl sc_are_strides.nd (pi_tup (pv 0)) (blkOk_by (own := [("stride", 2)]) (N := ["value", "count", "stride"]) (sc := defScope s_are_strides) (by decide +kernel)) (fun _ _ _ _ _ => (pg_name (i := 2) sc_are_strides.nd rfl (Or.inl rfl))) (fun _ _ _ _ _ => pts_nil) (fun _ _ _ _ _ => (pe_kn k_is_number (hr.mono (by decide)) (by rfl) (pa_cons (pv 2) (pa_cons (pe_op op_sub pe_int (pe_gl (by rfl) T.g_MAX_STRIDE)) (pa_cons (pe_gl (by rfl) T.g_MAX_STRIDE) pa_nil)))))) pa_nil)))))), ?_⟩
    refine ⟨_, rfl, _, _, _, _, true, rfl, .ty _, .base (.tup ha), kit_ty (by decide +kernel), _, rfl, iteF ?_⟩
    refine ⟨_, rfl, _, _, rfl, .inr ⟨_, SqT.of ha, rfl⟩, _, rfl, rfl, _, rfl, iteNS (by rw [List.length_map, hn]) ?_⟩
    refine ⟨_, rfl, a, rfl, ⟨_, SqT.of ha⟩, fun D hD => ?_⟩
    refine lc_it walk_tup (fun i H' => Ex H H' ∧ H' D = some (.lst (trues i))) ⟨Ex.new hD, upd_same⟩ (fun i H' _ p => SqT.of (p.1 _ _ ha)) ?_ ?_
    · rintro i x H1 H2 hi ⟨e1, h1⟩ ⟨rfl, hx⟩
      rw [List.getElem?_map] at hx
      cases hy : ns[i]? with
      | none => rw [hy] at hx; cases hx
      | some y =>
        rw [hy] at hx
        cases hx
        have b := hb y (List.mem_of_getElem? hy)
        refine ⟨rfl, _, rfl, _, _, rfl, rfl, _, _, _, rfl, _, h1, szl (by rw [trues_len, List.length_map] at *; omega), e1.mut hD, ?_⟩
        rw [upd_same, trues_succ]
        show some (HO.lst (trues i ++ [V.bl (decide ((0 : Int) - 9 ≤ y) && decide (y ≤ 9))])) = _
        rw [decide_eq_true (show (0 : Int) - 9 ≤ y by omega), decide_eq_true b.2]
        rfl
    · rintro H1 ⟨e1, h1⟩
      exact all_trues h1 (k _ e1)

theorem lt_pair {cs : List Nat} (hp : cs.Pairwise (· < ·)) {i x y : Nat} (hx : cs[i]? = some x) (hy : (cs.drop 1)[i]? = some y) : x < y := by
  rw [List.getElem?_drop] at hy
  obtain ⟨h1, rfl⟩ := List.getElem?_eq_some_iff.mp hx
  obtain ⟨h2, rfl⟩ := List.getElem?_eq_some_iff.mp hy
  exact List.pairwise_iff_getElem.mp hp _ _ _ _ (by omega)
def sp_are_cells : Sp := fun vs H Q _ => ∃ (a : Addr) (cs : List Nat) (n : Int), vs = [.int n, .ref a] ∧ H a = some (.tup (natV cs)) ∧ cs ≠ [] ∧ cs.Pairwise (· < ·) ∧ (∀ c ∈ cs, (c : Int) < n) ∧ cs.length ≤ 12 ∧ ∀ H', Ex H H' → Q (.bl true) H'
abbrev s_are_cells : Stmt := top 24
theorem sc_are_cells : FnScope ["size", "value", "cell", "one", "other"] ["size", "value"] (defScope s_are_cells) := ⟨rfl, rfl, rfl, by decide +kernel, rfl, by decide +kernel, by decide +kernel⟩
theorem ok_are_cells {f : Addr} {fd : FuncData} (F : Fun K "are_cells" "are_cells" s_are_cells f fd) (T : Txt K mg) (k_is_number : Kn P w K mg base "is_number" 1 ["value", "smallest", "largest"] sp_is_number) :
    FnOk P w K mg base CX0 2 f fd ["size", "value"] sp_are_cells := by
  refine F.ok sc_are_cells (fun vs H Q E h => ?_) (fun cdv A outer s H vs Q E hr h => ?_)
  · obtain ⟨_, _, _, rfl, _⟩ := h
    rfl
  · obtain ⟨a, cs, n, rfl, ha, hne, hp, hb, hl, k⟩ := h
    refine ⟨_, ((pss_cons (ps_if (PW.pt (pw_or (pt_not (pt_val (pe_callB call_isi (by rfl) T.b_isinstance (by decide +kernel) (pa_cons (pv 1) (pa_cons (pe_bltn (v := .ty "tuple") (by rfl) T.b_tuple (by decide +kernel) rfl) pa_nil))))) (pw_or (pt_cmpR (op_eqD hr.units) (pv 1) (pe_tup pa_nil) (nomark _)) (pw_or1 (pt_not (pt_val (pe_callB (cr_all rfl) (by rfl) T.b_all (by decide +kernel) (pa_cons (pe_lc (own := [("cell", 2)]) (g := gName 2) (tt := tYes) rfl sc_are_cells.nd (pi_tup (pv 1)) (blkOk_by (own := [("cell", 2)]) (N := ["size", "value", "cell", "one", "other"]) (sc := defScope s_are_cells) (by decide +kernel)) (fun _ _ _ _ _ => (pg_name (i := 2) sc_are_cells.nd rfl (Or.inl rfl))) (fun _ _ _ _ _ => pts_nil) (fun _ _ _ _ _ => (pe_kn k_is_number (hr.mono (by decide)) (by rfl) (pa_cons (pv 2) (pa_cons pe_int (pa_cons (pe_op op_sub (pv 0) pe_int) pa_nil)))))) pa_nil)))))))) (pss_one (ps_ret pe_bl)) pss_nil)
      (pss_one (ps_ret (pe_callB (cr_all rfl) (by rfl) T.b_all (by decide +kernel) (pa_cons (pe_lc (own := [("one", 3), ("other", 4)]) (g := gTup K 2 (gCons (gName 3) (gCons (gName 4) gNil))) (tt := tYes) rfl sc_are_cells.nd (RZ.pi_zipA (by rfl) T.b_zip (pa_cons (pv 1) (pa_cons (pe_slice sl_tup (pv 1) (po_some pe_int) po_none) pa_nil))) (blkOk_by (own := [("one", 3), ("other", 4)]) (N := ["size", "value", "cell", "one", "other"]) (sc := defScope s_are_cells) (by decide +kernel)) (fun _ _ _ _ _ => (pg_tup rfl (pgs_cons (pg_name (i := 3) sc_are_cells.nd rfl (Or.inl rfl)) (pgs_cons (pg_name (i := 4) sc_are_cells.nd rfl (Or.inl rfl)) pgs_nil)))) (fun _ _ _ _ _ => pts_nil) (fun _ _ _ _ _ => (pe_cmpR op_lt (pv 3) (pv 4) (nomark _)))) pa_nil)))))), ?_⟩
    have ev : PyData.eqv (.tuple (cs.map fun c : Nat => .int (c : Int))) (.tuple []) = false := by
      cases cs with
      | nil => exact absurd rfl hne
      | cons c cs => rfl
    have len : (natV cs).length = cs.length := by simp [natV]
    refine ⟨_, rfl, _, _, _, _, true, rfl, .ty _, .base (.tup ha), kit_ty (by decide +kernel), _, rfl, iteF ?_⟩
    refine ⟨_, rfl, Nat.zero_le _, fun p hp0 => ?_⟩
    have e0 : Ex H (upd H p (.tup [])) := Ex.new hp0
    refine ⟨_, _, dp_nats (e0 _ _ ha), .tup (SqT.of upd_same) .nil, (wf_nats cs).shaped (by decide), rfl, _, rfl, itN (by rw [ev]; decide) ?_⟩
    refine ⟨_, rfl, a, rfl, ⟨_, SqT.of (e0 _ _ ha)⟩, fun D hD => ?_⟩
    have D0 : H D = none := fresh_back e0 hD
    refine lc_it walk_tup (fun i H' => Ex H H' ∧ H' D = some (.lst (trues i))) ⟨e0.new' hD, upd_same⟩ (fun i H' _ p => SqT.of (p.1 _ _ ha)) ?_ ?_
    · rintro i x H1 H2 hi ⟨e1, h1⟩ ⟨rfl, hx⟩
      unfold natV at hx
      rw [List.getElem?_map] at hx
      cases hy : cs[i]? with
      | none => rw [hy] at hx; cases hx
      | some y =>
        rw [hy] at hx
        cases hx
        have b := hb y (List.mem_of_getElem? hy)
        refine ⟨rfl, _, rfl, _, rfl, _, _, rfl, rfl, _, _, _, rfl, _, h1, szl (by rw [trues_len]; omega), e1.mut D0, ?_⟩
        rw [upd_same, trues_succ]
        show some (HO.lst (trues i ++ [V.bl (decide ((0 : Int) ≤ (y : Int)) && decide ((y : Int) ≤ n - 1))])) = _
        rw [decide_eq_true (show (0 : Int) ≤ (y : Int) by omega), decide_eq_true (show (y : Int) ≤ n - 1 by omega)]
        rfl
    · rintro H1 ⟨e1, h1⟩
      refine ⟨D, List.replicate _ true, rfl, SqL.of h1, _, rfl, itN (by simp) ?_⟩
      refine ⟨_, rfl, _, rfl, ⟨_, rfl, a, _, rfl, SqT.of (e1 _ _ ha), ?_, fun q hq => ?_⟩⟩
      · rintro ⟨z, _⟩
        have e : HT.sIx (natV cs).length 0 (some (1 : Int)) = min 1 (natV cs).length := HT.sIx_nat _ _ 1
        rw [e, len] at z
        have : 0 < cs.length := List.length_pos_iff.mpr hne
        omega
      · have ec : cutV (natV cs) (some (1 : Int)) none = natV (cs.drop 1) := by
          unfold cutV
          have e : HT.sIx (natV cs).length 0 (some (1 : Int)) = min 1 (natV cs).length := HT.sIx_nat _ _ 1
          have : 0 < cs.length := List.length_pos_iff.mpr hne
          rw [e, HT.sIx_none, len, Nat.min_eq_left this]
          unfold natV
          rw [List.map_drop]
          exact List.take_of_length_le (by simp)
        rw [ec]
        have e2 : Ex H (upd H1 q (.tup (natV (cs.drop 1)))) := Ex.new' e1 hq
        refine ⟨a, q, _, _, rfl, .inr ⟨SqT.of (e2 _ _ ha), SqT.of upd_same, fun D2 hD2 => ?_⟩⟩
        have eq2 : Ex (upd H q (.tup (natV (cs.drop 1)))) (upd H1 q (.tup (natV (cs.drop 1)))) := fun b o hb' => by
          by_cases hbq : b = q
          · subst hbq; rw [upd_same] at hb' ⊢; exact hb'
          · rw [upd_ne hbq] at hb' ⊢; exact e1 _ _ hb'
        have q0 : H q = none := fresh_back e1 hq
        have D20 : upd H q (.tup (natV (cs.drop 1))) D2 = none := fresh_back eq2 hD2
        refine lc_it (K7R.walk_zipT rfl) (fun i H' => Ex (upd H q (.tup (natV (cs.drop 1)))) H' ∧ H' D2 = some (.lst (trues i))) ⟨Ex.new' eq2 hD2, upd_same⟩ (fun i H' _ p => ⟨SqT.of (p.1 _ _ (Ex.new q0 _ _ ha)), SqT.of (p.1 _ _ upd_same)⟩) ?_ ?_
        · rintro i v H3 H4 hi ⟨e3, h3⟩ ⟨T, x, y, rfl, hT, rfl, hx, hy⟩
          obtain ⟨c, hx', rfl⟩ := natV_at hx
          obtain ⟨d, hy', rfl⟩ := natV_at hy
          have lt := lt_pair hp hx' hy'
          refine ⟨T, _, rfl, SqT.of upd_same, rfl, _, _, rfl, _, _, rfl, rfl, rfl, ?_⟩
          refine ⟨_, rfl, _, rfl, _, _, rfl, rfl, trues i, Ex.new hT _ _ h3, ?_, (Ex.new' e3 hT).mut D20, ?_⟩
          · rw [trues_len]; exact szl (by have := (List.getElem?_eq_some_iff.mp hx').1; omega)
          · rw [upd_same, trues_succ]
            show some (HO.lst (trues i ++ [V.bl (decide ((c : Int) < (d : Int)))])) = _
            rw [decide_eq_true (show (c : Int) < (d : Int) by omega)]
        · rintro H3 ⟨e3, h3⟩
          exact all_trues h3 (k _ fun b o hb => e3 _ _ (Ex.new q0 _ _ hb))
end
end K7
/-! Deeds and recipes are looked at. -/
namespace K7
open PySem L2 K7R
section
variable {P : Program} {w : World} {K : PySem.W.Frag} {mg : Str → Option Value} {base : Heap}
def sp_is_draw : Sp := fun vs H Q _ => ∃ (a b : Nat) (v : V) (d : Deed), vs = [.int (a : Int), .int (b : Int), v] ∧ Sz a b ∧ DeedV H v d ∧ Va a b d ∧ ∀ H', Ex H H' → Q (.bl (isDraw d)) H'
abbrev s_is_draw : Stmt := top 25
theorem sc_is_draw : FnScope ["width", "height", "value"] ["width", "height", "value"] (defScope s_is_draw) := ⟨rfl, rfl, rfl, by decide +kernel, rfl, by decide +kernel, by decide +kernel⟩
theorem ok_is_draw {f : Addr} {fd : FuncData} (F : Fun K "is_draw" "is_draw" s_is_draw f fd) (T : Txt K mg) (k_are_strides : Kn P w K mg base "are_strides" 2 ["value", "count"] sp_are_strides) :
    FnOk P w K mg base CX0 3 f fd ["width", "height", "value"] sp_is_draw := by
  refine F.ok sc_is_draw (fun vs H Q E h => ?_) (fun cdv A outer s H vs Q E hr h => ?_)
  · obtain ⟨_, _, _, _, rfl, _⟩ := h
    rfl
  · obtain ⟨a, b, v, d, rfl, hs, hd, hv, k⟩ := h
    refine ⟨_, ((pss_cons (ps_if (PW.pt (pw_or (pt_not (pt_val (pe_callB call_isi (by rfl) T.b_isinstance (by decide +kernel) (pa_cons (pv 2) (pa_cons (pe_bltn (v := .ty "tuple") (by rfl) T.b_tuple (by decide +kernel) rfl) pa_nil))))) (pw_or (pt_cmpR op_ne (pe_callB call_len (by rfl) T.b_len (by decide +kernel) (pa_cons (pv 2) pa_nil)) pe_int (nomark _)) (pw_or1 (pt_cmpR op_notIn_seq (pe_ix ix_tup (pv 2) pe_int (fun _ _ => rfl)) (pe_tup (pa_cons (pe_gl (by rfl) T.g_RAKE) (pa_cons (pe_gl (by rfl) T.g_COMB) pa_nil))) (by rfl)))))) (pss_one (ps_ret pe_bl)) pss_nil)
      (pss_one (ps_ret (pe_kn k_are_strides (hr.mono (by decide)) (by rfl) (pa_cons (pe_ix ix_tup (pv 2) pe_int (fun _ _ => rfl)) (pa_cons (pe_ifExp (pt_cmpR op_eq (pe_ix ix_tup (pv 2) pe_int (fun _ _ => rfl)) (pe_gl (by rfl) T.g_RAKE) (nomark _)) (pv 1) (pv 0)) pa_nil))))))), ?_⟩
    cases d with
    | draw r s =>
      obtain ⟨p, q, rfl, hp, hq⟩ := hd
      refine ⟨_, rfl, _, _, _, _, true, rfl, .ty _, .base (.tup hp), kit_ty (by decide +kernel), _, rfl, iteF ?_⟩
      refine ⟨_, rfl, _, _, rfl, .inr ⟨_, SqT.of hp, rfl⟩, rfl, _, rfl, iteF ?_⟩
      refine ⟨_, rfl, p, _, _, _, rfl, rfl, SqT.of hp, rfl, (by show 2 ≤ sizeLine; decide), fun t ht => ?_⟩
      have e1 : Ex H (upd H t (.tup [.str "rake", .str "comb"])) := Ex.new ht
      refine ⟨t, _, rfl, .inr (SqT.of upd_same), rfl, rfl, _, rfl, itN (by cases r <;> decide +kernel) ?_⟩
      refine ⟨_, rfl, p, _, _, _, rfl, rfl, SqT.of (e1 _ _ hp), rfl, ?_⟩
      refine ⟨_, rfl, p, _, _, _, rfl, rfl, SqT.of (e1 _ _ hp), rfl, rfl, _, rfl, ?_⟩
      cases r with
      | true => exact itP (by decide +kernel) ⟨_, rfl, q, s, b, rfl, e1 _ _ hq, hv.1, hs.2.2.2.1, hv.2, fun H' e2 => k H' (e1.trans e2)⟩
      | false => exact itN (by decide +kernel) ⟨_, rfl, q, s, a, rfl, e1 _ _ hq, hv.1, hs.2.1, hv.2, fun H' e2 => k H' (e1.trans e2)⟩
    | drop c x =>
      obtain ⟨p, rfl, hp⟩ := hd
      refine ⟨_, rfl, _, _, _, _, true, rfl, .ty _, .base (.tup hp), kit_ty (by decide +kernel), _, rfl, iteF ?_⟩
      exact ⟨_, rfl, _, _, rfl, .inr ⟨_, SqT.of hp, rfl⟩, rfl, _, rfl, iteT (k H (Ex.refl H))⟩
    | paper cs =>
      obtain ⟨p, q, rfl, hp, hq⟩ := hd
      refine ⟨_, rfl, _, _, _, _, true, rfl, .ty _, .base (.tup hp), kit_ty (by decide +kernel), _, rfl, iteF ?_⟩
      refine ⟨_, rfl, _, _, rfl, .inr ⟨_, SqT.of hp, rfl⟩, rfl, _, rfl, iteF ?_⟩
      refine ⟨_, rfl, p, _, _, _, rfl, rfl, SqT.of hp, rfl, (by show 2 ≤ sizeLine; decide), fun t ht => ?_⟩
      have e1 : Ex H (upd H t (.tup [.str "rake", .str "comb"])) := Ex.new ht
      exact ⟨t, _, rfl, .inr (SqT.of upd_same), rfl, rfl, _, rfl, itP (by decide +kernel) (k _ e1)⟩

def sp_is_deed : Sp := fun vs H Q _ => ∃ (a b : Nat) (v : V) (d : Deed), vs = [.int (a : Int), .int (b : Int), v] ∧ Sz a b ∧ DeedV H v d ∧ Va a b d ∧ ∀ H', Ex H H' → Q (.bl true) H'
abbrev s_is_deed : Stmt := top 26
theorem sc_is_deed : FnScope ["width", "height", "value"] ["width", "height", "value"] (defScope s_is_deed) := ⟨rfl, rfl, rfl, by decide +kernel, rfl, by decide +kernel, by decide +kernel⟩
theorem ok_is_deed {f : Addr} {fd : FuncData} (F : Fun K "is_deed" "is_deed" s_is_deed f fd) (T : Txt K mg) (k_is_draw : Kn P w K mg base "is_draw" 3 ["width", "height", "value"] sp_is_draw)
    (k_is_number : Kn P w K mg base "is_number" 1 ["value", "smallest", "largest"] sp_is_number) (k_is_letter : Kn P w K mg base "is_letter" 1 ["value"] sp_is_letter) (k_are_cells : Kn P w K mg base "are_cells" 2 ["size", "value"] sp_are_cells) :
    FnOk P w K mg base CX0 4 f fd ["width", "height", "value"] sp_is_deed := by
  refine F.ok sc_is_deed (fun vs H Q E h => ?_) (fun cdv A outer s H vs Q E hr h => ?_)
  · obtain ⟨_, _, _, _, rfl, _⟩ := h
    rfl
  · obtain ⟨a, b, v, d, rfl, hs, hd, hv, k⟩ := h
    have hs' := hs
    obtain ⟨s1, s2, s3, s4, s5⟩ := hs'
    refine ⟨_, ((pss_cons (ps_if (pt_val (pe_kn k_is_draw (hr.mono (by decide)) (by rfl) (pa_cons (pv 0) (pa_cons (pv 1) (pa_cons (pv 2) pa_nil))))) (pss_one (ps_ret pe_bl)) pss_nil)
      (pss_cons (ps_if (PW.pt (pw_or (pt_not (pt_val (pe_callB call_isi (by rfl) T.b_isinstance (by decide +kernel) (pa_cons (pv 2) (pa_cons (pe_bltn (v := .ty "tuple") (by rfl) T.b_tuple (by decide +kernel) rfl) pa_nil))))) (pw_or1 (pt_cmpR (op_eqD hr.units) (pv 2) (pe_tup pa_nil) (nomark _))))) (pss_one (ps_ret pe_bl)) pss_nil)
      (pss_cons (ps_if (pt_cmpR op_eq (pe_ix ix_tup (pv 2) pe_int (fun _ _ => rfl)) (pe_gl (by rfl) T.g_DROP) (nomark _)) (pss_one (ps_ret (pe_and (pe_cmpR op_eq (pe_callB call_len (by rfl) T.b_len (by decide +kernel) (pa_cons (pv 2) pa_nil)) pe_int (nomark _)) (pe_and (pe_kn k_is_number (hr.mono (by decide)) (by rfl) (pa_cons (pe_ix ix_tup (pv 2) pe_int (fun _ _ => rfl)) (pa_cons pe_int (pa_cons (pe_op op_sub (pe_op op_mul (pv 0) (pv 1)) pe_int) pa_nil)))) (pe_one (pe_kn k_is_letter (hr.mono (by decide)) (by rfl) (pa_cons (pe_ix ix_tup (pv 2) pe_int (fun _ _ => rfl)) pa_nil))))))) pss_nil)
      (pss_one (ps_ret (pe_and (pe_cmpR op_eq (pe_ix ix_tup (pv 2) pe_int (fun _ _ => rfl)) (pe_gl (by rfl) T.g_PAPER) (nomark _)) (pe_and (pe_cmpR op_eq (pe_callB call_len (by rfl) T.b_len (by decide +kernel) (pa_cons (pv 2) pa_nil)) pe_int (nomark _)) (pe_one (pe_kn k_are_cells (hr.mono (by decide)) (by rfl) (pa_cons (pe_op op_mul (pv 0) (pv 1)) (pa_cons (pe_ix ix_tup (pv 2) pe_int (fun _ _ => rfl)) pa_nil)))))))))))), ?_⟩
    refine ⟨_, rfl, _, rfl, _, rfl, a, b, v, d, rfl, hs, hd, hv, fun H1 e1 => ⟨_, rfl, ?_⟩⟩
    cases d with
    | draw r s => exact iteT (k _ e1)
    | drop c x =>
      refine iteF ?_
      obtain ⟨p, rfl, hp⟩ := hd
      refine ⟨_, rfl, _, _, _, _, true, rfl, .ty _, .base (.tup (e1 _ _ hp)), kit_ty (by decide +kernel), _, rfl, iteF ?_⟩
      refine ⟨_, rfl, Nat.zero_le _, fun t ht => ?_⟩
      have e2 : Ex H (upd H1 t (.tup [])) := Ex.new' e1 ht
      have hp2 := e2 _ _ hp
      refine ⟨_, _, dp_deed (d := .drop c x) ⟨p, rfl, hp2⟩, .tup (SqT.of upd_same) .nil, (wf_deed hv.col).shaped (by decide), rfl, _, rfl, iteF ?_⟩
      refine ⟨_, rfl, p, _, _, _, rfl, rfl, SqT.of hp2, rfl, rfl, _, rfl, itP (by decide +kernel) ?_⟩
      refine ⟨_, rfl, _, _, rfl, .inr ⟨_, SqT.of hp2, rfl⟩, rfl, _, rfl, iteT ?_⟩
      refine ⟨_, rfl, p, _, _, _, rfl, rfl, SqT.of hp2, rfl, ?_⟩
      refine ⟨_, rfl, _, rfl, _, _, rfl, rfl, .inl ⟨by omega, by omega⟩, _, _, rfl, rfl, ?_⟩
      have hc := hv.1
      refine ⟨_, _, _, rfl, _, rfl, itP ?_ ?_⟩
      · rw [mul_int_nat]
        simp
        omega
      · refine ⟨_, rfl, p, _, _, _, rfl, rfl, SqT.of hp2, rfl, x, rfl, hv.2, k _ e2⟩
    | paper cs =>
      refine iteF ?_
      obtain ⟨p, q, rfl, hp, hq⟩ := hd
      refine ⟨_, rfl, _, _, _, _, true, rfl, .ty _, .base (.tup (e1 _ _ hp)), kit_ty (by decide +kernel), _, rfl, iteF ?_⟩
      refine ⟨_, rfl, Nat.zero_le _, fun t ht => ?_⟩
      have e2 : Ex H (upd H1 t (.tup [])) := Ex.new' e1 ht
      have hp2 := e2 _ _ hp
      have hq2 := e2 _ _ hq
      refine ⟨_, _, dp_deed (d := .paper cs) ⟨p, q, rfl, hp2, hq2⟩, .tup (SqT.of upd_same) .nil, (wf_deed hv.col).shaped (by decide), rfl, _, rfl, iteF ?_⟩
      refine ⟨_, rfl, p, _, _, _, rfl, rfl, SqT.of hp2, rfl, rfl, _, rfl, itN (by decide +kernel) ?_⟩
      refine ⟨_, rfl, p, _, _, _, rfl, rfl, SqT.of hp2, rfl, rfl, _, rfl, itP (by decide +kernel) ?_⟩
      refine ⟨_, rfl, _, _, rfl, .inr ⟨_, SqT.of hp2, rfl⟩, rfl, _, rfl, iteT ?_⟩
      refine ⟨_, rfl, _, rfl, _, _, rfl, rfl, .inl ⟨by omega, by omega⟩, ?_⟩
      refine ⟨_, rfl, p, _, _, _, rfl, rfl, SqT.of hp2, rfl, q, cs, _, rfl, hq2, hv.1, hv.2.1, fun c hc => ?_, hv.paper_len hs, fun H' e3 => k _ (e2.trans e3)⟩
      have := hv.2.2 c hc
      rw [mul_int_nat]
      omega

def sp_check_recipe : Sp := fun vs H Q _ => ∃ (a b : Nat) (v : V) (ds : List Deed), vs = [.int (a : Int), .int (b : Int), v] ∧ Sz a b ∧ RecV H v ds ∧ (∀ d ∈ ds, Va a b d) ∧ ds.length ≤ 12 ∧ ∀ H', Ex H H' → Q .non H'
abbrev s_check_recipe : Stmt := top 27
theorem sc_check_recipe : FnScope ["width", "height", "recipe", "index", "deed"] ["width", "height", "recipe"] (defScope s_check_recipe) := ⟨rfl, rfl, rfl, by decide +kernel, rfl, by decide +kernel, by decide +kernel⟩
theorem ok_check_recipe {f : Addr} {fd : FuncData} (F : Fun K "check_recipe" "check_recipe" s_check_recipe f fd) (T : Txt K mg) (k_is_deed : Kn P w K mg base "is_deed" 4 ["width", "height", "value"] sp_is_deed) :
    FnOk P w K mg base CX0 5 f fd ["width", "height", "recipe"] sp_check_recipe := by
  refine F.ok sc_check_recipe (fun vs H Q E h => ?_) (fun cdv A outer s H vs Q E hr h => ?_)
  · obtain ⟨_, _, _, _, rfl, _⟩ := h
    rfl
  · obtain ⟨a, b, v, ds, rfl, hs, ⟨p, us, rfl, hp, hds⟩, hva, hl, k⟩ := h
    refine ⟨_, ((pss_one (ps_for PassesOwn.never rfl (pi_enumT (by rfl) T.b_enumerate (pa_cons (pv 2) pa_nil)) (pg_tup rfl (pgs_cons (pg_name (i := 3) sc_check_recipe.nd rfl (by first | exact Or.inl rfl | exact Or.inr rfl)) (pgs_cons (pg_name (i := 4) sc_check_recipe.nd rfl (by first | exact Or.inl rfl | exact Or.inr rfl)) pgs_nil))) (pss_one (ps_if (PW.pt (pw_or (pt_cmpR op_eq (pv 3) (pe_gl (by rfl) T.g_MAX_DEEDS) (nomark _)) (pw_or1 (pt_not (pt_val (pe_kn k_is_deed (hr.mono (by decide)) (by rfl) (pa_cons (pv 0) (pa_cons (pv 1) (pa_cons (pv 4) pa_nil))))))))) (pss_one ps_never) pss_nil))))), ?_⟩
    refine ⟨_, rfl, p, us, rfl, SqT.of hp, for_it K7R.walk_enumT (fun i σ H' => Ex H H' ∧ ∃ o1 o2, σ = [some (.int (a : Int)), some (.int (b : Int)), some (.ref p), o1, o2]) ⟨Ex.refl H, none, none, rfl⟩ (fun i σ H' _ q => SqT.of (q.1 _ _ hp)) ?_ (fun σ H' q => k _ q.1)⟩
    rintro i x σ H1 H2 hi ⟨e1, o1, o2, rfl⟩ ⟨t, x1, x2, rfl, ht, rfl, h1, h2⟩
    cases h1
    have hi' : i < ds.length := by rw [← hds.1]; exact hi
    have hd : DeedV H x2 ds[i] := hds.2 i x2 _ h2 (List.getElem?_eq_getElem hi')
    have e2 : Ex H (upd H1 t (.tup [.int (i : Nat), x2])) := Ex.new' e1 ht
    refine ⟨t, _, rfl, SqT.of upd_same, rfl, _, _, rfl, _, _, rfl, rfl, ?_⟩
    refine ⟨_, rfl, rfl, _, rfl, itN (by simp; omega) ?_⟩
    refine ⟨_, rfl, _, rfl, _, rfl, a, b, x2, ds[i], rfl, hs, hd.ex e2.t, hva _ (List.getElem_mem hi'), fun H3 e3 => ⟨_, rfl, iteF ?_⟩⟩
    exact ⟨e2.trans e3, _, _, rfl⟩
end
end K7
/-! drawn, pushed. -/
namespace K7
open PySem L2 K7R
section
variable {P : Program} {w : World} {K : PySem.W.Frag} {mg : Str → Option Value} {base : Heap}
theorem row_int (a i : Nat) : (0 + (i : Int)) / (a : Int) = ((i / a : Nat) : Int) := by rw [Int.zero_add]; exact (Int.natCast_ediv i a).symm
theorem place_int (a i : Nat) : (0 + (i : Int)) - (0 + (i : Int)) / (a : Int) * (a : Int) = ((i % a : Nat) : Int) := by
  rw [row_int, Int.zero_add, mul_int_nat]
  have h := Nat.div_add_mod i a
  rw [Nat.mul_comm] at h
  omega
theorem row_int' (a i : Nat) : (i : Int) / (a : Int) = ((i / a : Nat) : Int) := (Int.natCast_ediv i a).symm
theorem place_int' (a i : Nat) : (i : Int) - (i : Int) / (a : Int) * (a : Int) = ((i % a : Nat) : Int) := by
  rw [row_int', mul_int_nat]
  have h := Nat.div_add_mod i a
  rw [Nat.mul_comm] at h
  omega
theorem src_rake {a b i : Nat} {s : List Int} (ha : 0 < a) : ((srcC a b true s i : Nat) : Int) = ((i / a : Nat) : Int) * (a : Int) + (((i % a : Nat) : Int) - s.getD (i / a) 0) % (a : Int) := by
  show ((i / a * a + shf (i % a) (s.getD (i / a) 0) a : Nat) : Int) = _
  rw [Int.natCast_add, shf_int ha, Int.natCast_mul]
theorem src_comb {a b i : Nat} {s : List Int} (hb : 0 < b) : ((srcC a b false s i : Nat) : Int) = (((i / a : Nat) : Int) - s.getD (i % a) 0) % (b : Int) * (a : Int) + ((i % a : Nat) : Int) := by
  show ((shf (i / a) (s.getD (i % a) 0) b * a + i % a : Nat) : Int) = _
  rw [Int.natCast_add, Int.natCast_mul, shf_int hb]
theorem ints_at {s : List Int} {i : Nat} (h : i < s.length) : (s.map V.int)[i]? = some (.int (s.getD i 0)) := by
  rw [List.getElem?_map, List.getElem?_eq_getElem h, List.getD_eq_getElem?_getD, List.getElem?_eq_getElem h]
  rfl
theorem natV_snoc (f : Nat → Nat) (i : Nat) : natV ((List.range (i + 1)).map f) = natV ((List.range i).map f) ++ [V.int ((f i : Nat) : Int)] := by
  unfold natV
  rw [List.range_succ, List.map_append, List.map_append]
  rfl
theorem natV_len (l : List Nat) : (natV l).length = l.length := by simp [natV]

def sp_drawn : Sp := fun vs H Q _ => ∃ (a b : Nat) (v : V) (r : Bool) (s : List Int), vs = [.int (a : Int), .int (b : Int), v] ∧ Sz a b ∧ DeedV H v (.draw r s) ∧ s.length = cnt a b r ∧
  ∀ p H', H p = none → Ex H H' → H' p = some (.lst (natV ((List.range (a * b)).map (srcC a b r s)))) → Q (.ref p) H'
abbrev s_drawn : Stmt := top 28
theorem sc_drawn : FnScope ["width", "height", "deed", "kind", "strides", "found", "cell", "row", "place"] ["width", "height", "deed"] (defScope s_drawn) := ⟨rfl, rfl, rfl, by decide +kernel, rfl, by decide +kernel, by decide +kernel⟩
theorem ok_drawn {f : Addr} {fd : FuncData} (F : Fun K "drawn" "drawn" s_drawn f fd) (T : Txt K mg) : FnOk P w K mg base CX0 1 f fd ["width", "height", "deed"] sp_drawn := by
  refine F.ok sc_drawn (fun vs H Q E h => ?_) (fun cdv A outer s H vs Q E hr h => ?_)
  · obtain ⟨_, _, _, _, _, rfl, _⟩ := h
    rfl
  · obtain ⟨a, b, v, r, s, rfl, hs, ⟨p, q, rfl, hp, hq⟩, hl, k⟩ := h
    have hs' := hs
    obtain ⟨s1, s2, s3, s4, s5⟩ := hs'
    refine ⟨_, ((pss_cons (ps_asg (pv 2) (pg_tup rfl (pgs_cons (pg_name (i := 3) sc_drawn.nd rfl (by first | exact Or.inl rfl | exact Or.inr rfl)) (pgs_cons (pg_name (i := 4) sc_drawn.nd rfl (by first | exact Or.inl rfl | exact Or.inr rfl)) pgs_nil))))
      (pss_cons (ps_set (i := 5) sc_drawn.nd rfl (by first | exact Or.inl rfl | exact Or.inr rfl) (pe_lst pa_nil))
      (pss_cons (ps_for PassesOwn.never rfl (pi_range1 (by rfl) T.b_range (pa_cons (pe_op op_mul (pv 0) (pv 1)) pa_nil)) (pg_name (i := 6) sc_drawn.nd rfl (by first | exact Or.inl rfl | exact Or.inr rfl)) (pss_cons (ps_par (i := 7) (j := 8) rfl sc_drawn.nd rfl rfl (by decide) rfl rfl (pa_cons (pe_op op_fdiv (pv 6) (pv 0)) (pa_cons (pe_op op_sub (pv 6) (pe_op op_mul (pe_op op_fdiv (pv 6) (pv 0)) (pv 0))) pa_nil)) (by rfl))
      (pss_cons (ps_if (pt_cmpR op_eq (pv 3) (pe_gl (by rfl) T.g_RAKE) (nomark _)) (pss_one (ps_set (i := 8) sc_drawn.nd rfl (by first | exact Or.inl rfl | exact Or.inr rfl) (pe_op op_mod (pe_callTy call_int1 (by rfl) T.b_int (by decide +kernel) (pa_cons (pe_op op_sub (pv 8) (pe_ix ix_tup (pv 4) (pv 7) (fun _ _ => rfl))) pa_nil)) (pv 0)))) (pss_one (ps_set (i := 7) sc_drawn.nd rfl (by first | exact Or.inl rfl | exact Or.inr rfl) (pe_op op_mod (pe_callTy call_int1 (by rfl) T.b_int (by decide +kernel) (pa_cons (pe_op op_sub (pv 7) (pe_ix ix_tup (pv 4) (pv 8) (fun _ _ => rfl))) pa_nil)) (pv 1)))))
      (pss_one (ps_expr (pe_bm PySem.F.plainAttrs_list PySem.F.slot_list_append PySem.F.type_list_append mt_append (pv 5) (pa_cons (pe_op op_add (pe_op op_mul (pv 7) (pv 0)) (pv 8)) pa_nil)))))))
      (pss_one (ps_ret (pv 5))))))), ?_⟩
    refine ⟨_, rfl, p, _, rfl, SqT.of hp, rfl, _, _, rfl, _, _, rfl, rfl, ?_⟩
    refine ⟨Nat.zero_le _, fun l hl0 => ?_⟩
    refine ⟨_, rfl, _, rfl, _, _, rfl, rfl, .inl ⟨by omega, by omega⟩, _, rfl, by rw [mul_int_nat]; omega, by rw [mul_int_nat]; omega, ?_⟩
    have en : ((a : Int) * (b : Int)).toNat = a * b := by rw [mul_int_nat]; rfl
    rw [en]
    refine for_it (walk_range (lo := 0)) (fun i σ H' => Ex H H' ∧ H' l = some (.lst (natV ((List.range i).map (srcC a b r s)))) ∧ ∃ o1 o2 o3, σ = [some (.int (a : Int)), some (.int (b : Int)), some (.ref p), some (.str (kindS r)), some (.ref q), some (.ref l), o1, o2, o3])
      ⟨Ex.new hl0, upd_same, none, none, none, rfl⟩ (fun _ _ _ _ _ => trivial) ?_ ?_
    · rintro i x σ H1 H2 hi ⟨e1, h1, o1, o2, o3, rfl⟩ ⟨rfl, rfl⟩
      have hrow := row_lt (h := b) s1 hi
      have hpl : i % a < a := Nat.mod_lt _ s1
      refine ⟨_, rfl, _, rfl, _, _, rfl, rfl, ⟨by omega, by omega⟩, _, rfl, _, rfl, _, rfl, _, _, rfl, rfl, ⟨by omega, by omega⟩, _, rfl, _, _, rfl, rfl, .inr ⟨by omega, by omega⟩, _, _, rfl, rfl, _, _, rfl, ?_⟩
      have e0 : (0 : Int) + (i : Int) = (i : Int) := Int.zero_add _
      cases r with
      | true =>
        have hl' : s.length = b := hl
        refine ⟨_, rfl, rfl, _, rfl, itP (by decide +kernel) ?_⟩
        refine ⟨_, rfl, _, rfl, _, rfl, q, _, _, .int (s.getD (i / a) 0), rfl, rfl, SqT.of (e1 _ _ hq), ?_, _, _, rfl, rfl, .inl ⟨_, rfl, _, rfl, _, _, rfl, rfl, (by omega), ?_⟩⟩
        · show atI _ ((0 + (i : Int)) / (a : Int)) = _
          rw [row_int]
          exact atI_nat (ints_at (by rw [hl']; exact hrow))
        · refine ⟨_, rfl, .inl ⟨rfl, _, SqL.of h1⟩, _, rfl, _, rfl, _, _, rfl, rfl, .inr ⟨by omega, by omega⟩, _, rfl, _, _, rfl, rfl, l, _, _, rfl, rfl, h1, szl (by rw [natV_len]; simp; omega), ?_⟩
          refine ⟨e1.mut hl0, ?_, _, _, _, rfl⟩
          rw [upd_same, natV_snoc, src_rake s1]
          show some (HO.lst (_ ++ [V.int ((0 + (i : Int)) / (a : Int) * (a : Int) + (((0 + (i : Int)) - (0 + (i : Int)) / (a : Int) * (a : Int)) - s.getD (i / a) 0) % (a : Int))])) = _
          rw [place_int, row_int]
      | false =>
        have hl' : s.length = a := hl
        refine ⟨_, rfl, rfl, _, rfl, itN (by decide +kernel) ?_⟩
        refine ⟨_, rfl, _, rfl, _, rfl, q, _, _, .int (s.getD (i % a) 0), rfl, rfl, SqT.of (e1 _ _ hq), ?_, _, _, rfl, rfl, .inl ⟨_, rfl, _, rfl, _, _, rfl, rfl, (by omega), ?_⟩⟩
        · show atI _ ((0 + (i : Int)) - (0 + (i : Int)) / (a : Int) * (a : Int)) = _
          rw [place_int]
          exact atI_nat (ints_at (by rw [hl']; exact hpl))
        · refine ⟨_, rfl, .inl ⟨rfl, _, SqL.of h1⟩, _, rfl, _, rfl, _, _, rfl, rfl, .inr ⟨by omega, by omega⟩, _, rfl, _, _, rfl, rfl, l, _, _, rfl, rfl, h1, szl (by rw [natV_len]; simp; omega), ?_⟩
          refine ⟨e1.mut hl0, ?_, _, _, _, rfl⟩
          rw [upd_same, natV_snoc, src_comb s3]
          show some (HO.lst (_ ++ [V.int ((((0 + (i : Int)) / (a : Int)) - s.getD (i % a) 0) % (b : Int) * (a : Int) + ((0 + (i : Int)) - (0 + (i : Int)) / (a : Int) * (a : Int)))])) = _
          rw [place_int, row_int]
    · rintro σ H1 ⟨e1, h1, o1, o2, o3, rfl⟩
      exact ⟨_, rfl, k l H1 hl0 e1 h1⟩

/-! ### pushed -/
def optV : Option Nat → V
  | none => .non
  | some i => .int (i : Int)
theorem map_set' {α β : Type} (f : α → β) (l : List α) (i : Nat) (x : α) : (l.set i x).map f = (l.map f).set i (f x) := List.map_set
theorem b2n_int (c : Bool) : (if c then (1 : Int) else 0) = ((b2n c : Nat) : Int) := by cases c <;> rfl
theorem rowV_int {a c o : Nat} : ((rowV a c o : Nat) : Int) = ((c / a : Nat) : Int) * (a : Int) + (o : Int) + ((b2n (decide (o < c % a)) : Nat) : Int) - ((b2n (decide (c % a < o)) : Nat) : Int) := by
  unfold rowV
  rw [mul_int_nat]
  generalize c / a * a = z
  generalize c % a = y
  unfold b2n
  by_cases h1 : o < y <;> by_cases h2 : y < o <;> simp [h1, h2] <;> omega
theorem colV_int {a c o : Nat} : ((colV a c o : Nat) : Int) = ((o : Int) + ((b2n (decide (o < c / a)) : Nat) : Int) - ((b2n (decide (c / a < o)) : Nat) : Int)) * (a : Int) + ((c % a : Nat) : Int) := by
  unfold colV
  rw [Int.natCast_add, Int.natCast_mul]
  congr 2
  generalize c / a = y
  unfold b2n
  by_cases h1 : o < y <;> by_cases h2 : y < o <;> simp [h1, h2] <;> omega
theorem ixN_nat {n j : Nat} {i : Int} (e : i = (j : Int)) (h : j < n) : ixN n i = some j := by
  subst e
  unfold ixN
  rw [if_pos (by omega), if_pos (by omega)]
  rfl
def sp_pushed : Sp := fun vs H Q _ => ∃ (a b c : Nat), vs = [.int (a : Int), .int (b : Int), .int (c : Int)] ∧ Sz a b ∧ c < a * b ∧
  ∀ p H', H p = none → Ex H H' → H' p = some (.lst ((pushL a b c).map optV)) → Q (.ref p) H'
abbrev s_pushed : Stmt := top 29
theorem sc_pushed : FnScope ["width", "height", "cell", "found", "row", "place", "other"] ["width", "height", "cell"] (defScope s_pushed) := ⟨rfl, rfl, rfl, by decide +kernel, rfl, by decide +kernel, by decide +kernel⟩
theorem ok_pushed {f : Addr} {fd : FuncData} (F : Fun K "pushed" "pushed" s_pushed f fd) (T : Txt K mg) : FnOk P w K mg base CX0 1 f fd ["width", "height", "cell"] sp_pushed := by
  refine F.ok sc_pushed (fun vs H Q E h => ?_) (fun cdv A outer s H vs Q E hr h => ?_)
  · obtain ⟨_, _, _, rfl, _⟩ := h
    rfl
  · obtain ⟨a, b, c, rfl, hs, hc, k⟩ := h
    have hs' := hs
    obtain ⟨s1, s2, s3, s4, s5⟩ := hs'
    have hrow := row_lt (h := b) s1 hc
    have hpl : c % a < a := Nat.mod_lt _ s1
    refine ⟨_, ((pss_cons (ps_set (i := 3) sc_pushed.nd rfl (by first | exact Or.inl rfl | exact Or.inr rfl) (pe_listRg rfl (by rfl) T.b_list (prg_1 (by rfl) T.b_range (pe_op op_mul (pv 0) (pv 1)))))
      (pss_cons (ps_par (i := 4) (j := 5) rfl sc_pushed.nd rfl rfl (by decide) rfl rfl (pa_cons (pe_op op_fdiv (pv 2) (pv 0)) (pa_cons (pe_op op_sub (pv 2) (pe_op op_mul (pe_op op_fdiv (pv 2) (pv 0)) (pv 0))) pa_nil)) (by rfl))
      (pss_cons (ps_for PassesOwn.never rfl (pi_range1 (by rfl) T.b_range (pa_cons (pv 0) pa_nil)) (pg_name (i := 6) sc_pushed.nd rfl (by first | exact Or.inl rfl | exact Or.inr rfl)) (pss_one (ps_asg (pe_op op_sub (pe_op op_add (pe_op op_add (pe_op op_mul (pv 4) (pv 0)) (pv 6)) (pe_callTy call_int1 (by rfl) T.b_int (by decide +kernel) (pa_cons (pe_cmpR op_lt (pv 6) (pv 5) (nomark _)) pa_nil))) (pe_callTy call_int1 (by rfl) T.b_int (by decide +kernel) (pa_cons (pe_cmpR op_gt (pv 6) (pv 5) (nomark _)) pa_nil))) (pg_sub (pv 3) (pe_op op_add (pe_op op_mul (pv 4) (pv 0)) (pv 6)) set_list))))
      (pss_cons (ps_for PassesOwn.never rfl (pi_range1 (by rfl) T.b_range (pa_cons (pv 1) pa_nil)) (pg_name (i := 6) sc_pushed.nd rfl (by first | exact Or.inl rfl | exact Or.inr rfl)) (pss_one (ps_asg (pe_op op_add (pe_op op_mul (pe_op op_sub (pe_op op_add (pv 6) (pe_callTy call_int1 (by rfl) T.b_int (by decide +kernel) (pa_cons (pe_cmpR op_lt (pv 6) (pv 4) (nomark _)) pa_nil))) (pe_callTy call_int1 (by rfl) T.b_int (by decide +kernel) (pa_cons (pe_cmpR op_gt (pv 6) (pv 4) (nomark _)) pa_nil))) (pv 0)) (pv 5)) (pg_sub (pv 3) (pe_op op_add (pe_op op_mul (pv 6) (pv 0)) (pv 5)) set_list))))
      (pss_cons (ps_asg pe_non (pg_sub (pv 3) (pv 2) set_list))
      (pss_one (ps_ret (pv 3))))))))), ?_⟩
    refine ⟨_, rfl, _, rfl, _, _, rfl, rfl, .inl ⟨by omega, by omega⟩, _, rfl, RgOk.of_le (by omega) (by rw [mul_int_nat]; omega) (by omega) (by rw [mul_int_nat]; omega), fun l hl0 => ?_⟩
    have er : rgV 0 ((a : Int) * (b : Int)) = (pushRow a b c 0).map optV := by
      unfold rgV pushRow
      rw [Int.sub_zero, mul_int_nat, Int.toNat_natCast, List.map_map]
      refine List.map_congr_left fun i _ => ?_
      show V.int (0 + (i : Int)) = V.int (i : Int)
      rw [Int.zero_add]
    rw [er]
    refine ⟨_, rfl, _, rfl, _, _, rfl, rfl, ⟨by omega, by omega⟩, _, rfl, _, rfl, _, rfl, _, _, rfl, rfl, ⟨by omega, by omega⟩, _, rfl, _, _, rfl, rfl, .inr ⟨by omega, by omega⟩, _, _, rfl, rfl, _, _, rfl, ?_⟩
    have e2 : (c : Int) - (c : Int) / (a : Int) * (a : Int) = ((c % a : Nat) : Int) := place_int' a c
    have e1 : (c : Int) / (a : Int) = ((c / a : Nat) : Int) := row_int' a c
    refine ⟨_, rfl, _, rfl, by omega, by omega, ?_⟩
    refine for_it (walk_range (lo := 0)) (fun i σ H' => Ex H H' ∧ H' l = some (.lst ((pushRow a b c i).map optV)) ∧ ∃ o1, σ = [some (.int (a : Int)), some (.int (b : Int)), some (.int (c : Int)), some (.ref l), some (.int ((c / a : Nat) : Int)), some (.int ((c % a : Nat) : Int)), o1])
      ⟨Ex.new hl0, upd_same, none, ?_⟩ (fun _ _ _ _ _ => trivial) ?_ ?_
    · rw [← e2, ← e1]
      rfl
    · rintro i x σ H1 H2 hi ⟨x1, h1, o1, rfl⟩ ⟨rfl, rfl⟩
      have hi' : i < a := by simpa using hi
      refine ⟨_, rfl, _, rfl, _, _, rfl, rfl, .inr ⟨by omega, by omega⟩, _, rfl, _, _, rfl, rfl, _, rfl, _, rfl, _, _, rfl, rfl, .inr ⟨_, rfl, _, _, rfl, rfl, ?_⟩⟩
      refine ⟨_, rfl, _, rfl, _, _, rfl, rfl, .inr ⟨_, rfl, _, _, rfl, rfl, ?_⟩⟩
      refine ⟨_, rfl, _, rfl, _, rfl, _, _, rfl, rfl, .inr ⟨by omega, by omega⟩, _, rfl, _, _, rfl, rfl, l, _, _, c / a * a + i, rfl, rfl, h1, ixN_nat ?_ ?_, ?_⟩
      · show ((c / a : Nat) : Int) * (a : Int) + (0 + (i : Int)) = _
        rw [Int.natCast_add, Int.natCast_mul, Int.zero_add]
      · rw [List.length_map, pushRow_len]
        exact cell_lt hrow hi'
      · refine ⟨x1.mut hl0, ?_, _, rfl⟩
        rw [upd_same]
        show some (HO.lst (((pushRow a b c i).map optV).set (c / a * a + i) (.int (((c / a : Nat) : Int) * (a : Int) + (0 + (i : Int)) + (if decide ((0 : Int) + (i : Int) < ((c % a : Nat) : Int)) then 1 else 0) - (if decide (((c % a : Nat) : Int) < 0 + (i : Int)) then 1 else 0))))) = some (HO.lst (((pushRow a b c i).set (c / a * a + i) (some (rowV a c i))).map optV))
        rw [map_set']
        show _ = some (HO.lst (((pushRow a b c i).map optV).set (c / a * a + i) (.int ((rowV a c i : Nat) : Int))))
        rw [rowV_int, Int.zero_add, b2n_int, b2n_int, show decide ((i : Int) < ((c % a : Nat) : Int)) = decide (i < c % a) from by simp only [Int.ofNat_lt], show decide (((c % a : Nat) : Int) < (i : Int)) = decide (c % a < i) from by simp only [Int.ofNat_lt]]
    · rintro σ H1 ⟨x1, h1, o1, rfl⟩
      rw [Int.toNat_natCast] at h1
      refine ⟨_, rfl, _, rfl, by omega, by omega, ?_⟩
      refine for_it (walk_range (lo := 0)) (fun i σ H' => Ex H H' ∧ H' l = some (.lst ((pushCol a b c i).map optV)) ∧ ∃ o1, σ = [some (.int (a : Int)), some (.int (b : Int)), some (.int (c : Int)), some (.ref l), some (.int ((c / a : Nat) : Int)), some (.int ((c % a : Nat) : Int)), o1])
        ⟨x1, h1, o1, rfl⟩ (fun _ _ _ _ _ => trivial) ?_ ?_
      · rintro i x σ H1 H2 hi ⟨x1, h1, o1, rfl⟩ ⟨rfl, rfl⟩
        have hi' : i < b := by simpa using hi
        refine ⟨_, rfl, _, rfl, _, rfl, _, _, rfl, rfl, .inr ⟨_, rfl, _, _, rfl, rfl, ?_⟩⟩
        refine ⟨_, rfl, _, rfl, _, _, rfl, rfl, .inr ⟨_, rfl, _, _, rfl, rfl, ?_⟩⟩
        refine ⟨_, rfl, _, _, rfl, rfl, .inr ⟨by omega, by omega⟩, _, rfl, _, _, rfl, rfl, ?_⟩
        refine ⟨_, rfl, _, rfl, _, rfl, _, _, rfl, rfl, .inr ⟨by omega, by omega⟩, _, rfl, _, _, rfl, rfl, l, _, _, i * a + c % a, rfl, rfl, h1, ixN_nat ?_ ?_, ?_⟩
        · show (0 + (i : Int)) * (a : Int) + ((c % a : Nat) : Int) = _
          rw [Int.natCast_add, Int.natCast_mul, Int.zero_add]
        · rw [List.length_map, pushCol_len]
          exact cell_lt hi' hpl
        · refine ⟨x1.mut hl0, ?_, _, rfl⟩
          rw [upd_same]
          show some (HO.lst (((pushCol a b c i).map optV).set (i * a + c % a) (.int ((0 + (i : Int) + (if decide ((0 : Int) + (i : Int) < ((c / a : Nat) : Int)) then 1 else 0) - (if decide (((c / a : Nat) : Int) < 0 + (i : Int)) then 1 else 0)) * (a : Int) + ((c % a : Nat) : Int))))) = some (HO.lst (((pushCol a b c i).set (i * a + c % a) (some (colV a c i))).map optV))
          rw [map_set']
          show _ = some (HO.lst (((pushCol a b c i).map optV).set (i * a + c % a) (.int ((colV a c i : Nat) : Int))))
          rw [colV_int, Int.zero_add, b2n_int, b2n_int, show decide ((i : Int) < ((c / a : Nat) : Int)) = decide (i < c / a) from by simp only [Int.ofNat_lt], show decide (((c / a : Nat) : Int) < (i : Int)) = decide (c / a < i) from by simp only [Int.ofNat_lt]]
      · rintro σ H1 ⟨x1, h1, o1, rfl⟩
        rw [Int.toNat_natCast] at h1
        refine ⟨_, rfl, _, rfl, l, _, _, c, rfl, rfl, h1, ixN_nat rfl (by rw [List.length_map, pushCol_len]; exact hc), ?_⟩
        refine ⟨_, rfl, k l _ hl0 (x1.mut hl0) ?_⟩
        rw [upd_same]
        unfold pushL
        rw [map_set']
        rfl
end
end K7
/-! Tray. -/
namespace K7
open PySem L2 K7R
/-- the attributes of a tray -/
structure Fs (fs : List (Str × V)) (st l p : Addr) : Prop where
  size : fs.lookup ("size" : Str) = some (.ref st)
  things : fs.lookup ("things" : Str) = some (.ref l)
  papers : fs.lookup ("papers" : Str) = some (.ref p)
  nodo : fs.lookup ("do" : Str) = none
  len : fs.length ≤ 3
theorem putF_len {f : Str} {v x : V} : ∀ {fs : List (Str × V)}, fs.lookup f = some x → (putF f v fs).length = fs.length
  | [], h => by cases h
  | (g, y) :: r, h => by
    unfold putF
    by_cases e : g = f
    · rw [if_pos e]
      rfl
    · rw [if_neg e]
      have e' : (f == g) = false := by rw [beq_eq_false_iff_ne]; exact fun z => e z.symm
      rw [List.lookup_cons, e'] at h
      show (putF f v r).length + 1 = r.length + 1
      rw [putF_len h]
theorem Fs.put {fs : List (Str × V)} {st l p l' : Addr} (F : Fs fs st l p) : Fs (putF "things" (.ref l') fs) st l' p := by
  refine ⟨?_, ?_, ?_, ?_, ?_⟩
  · rw [lookup_putF, if_neg (by decide +kernel)]; exact F.size
  · rw [lookup_putF, if_pos rfl]
  · rw [lookup_putF, if_neg (by decide +kernel)]; exact F.papers
  · rw [lookup_putF, if_neg (by decide +kernel)]; exact F.nodo
  · rw [putF_len F.things]; exact F.len
theorem Fs.mk3 (st l p : Addr) : Fs (putF "papers" (.ref p) (putF "things" (.ref l) (putF "size" (.ref st) []))) st l p := by
  refine ⟨?_, ?_, ?_, ?_, ?_⟩
  · rw [lookup_putF, if_neg (by decide +kernel), lookup_putF, if_neg (by decide +kernel), lookup_putF, if_pos rfl]
  · rw [lookup_putF, if_neg (by decide +kernel), lookup_putF, if_pos rfl]
  · rw [lookup_putF, if_pos rfl]
  · rw [lookup_putF, if_neg (by decide +kernel), lookup_putF, if_neg (by decide +kernel), lookup_putF, if_neg (by decide +kernel)]
    rfl
  · have h : ∀ (f : Str) (v : V) (fs : List (Str × V)), (putF f v fs).length ≤ fs.length + 1 := by
      intro f v fs
      induction fs with
      | nil => exact Nat.le_refl _
      | cons x r ih =>
        obtain ⟨g, y⟩ := x
        unfold putF
        split
        · simp
        · simp only [List.length_cons]; omega
    have h1 := h "papers" (.ref p) (putF "things" (.ref l) (putF "size" (.ref st) []))
    have h2 := h "things" (.ref l) (putF "size" (.ref st) [])
    have h3 := h "size" (.ref st) []
    simp only [List.length_nil] at h3
    omega
/-- behind the heap H0, all kept, a tray stands at t, with things vs and papers qs -/
structure TrayAt {K : PySem.W.Frag} {mg : Str → Option Value} (T : Txt K mg) (H0 H : Hp) (t : Addr) (a b : Nat) (vs : List V) (qs : List (List V)) : Prop where
  old : Ex H0 H
  new : H0 t = none
  ex : ∃ (dx st l p : Addr) (fs : List (Str × V)) (rs : List Addr), H t = some (.ins T.cTray dx fs) ∧ Fs fs st l p ∧ H st = some (.tup [.int (a : Int), .int (b : Int)]) ∧ H l = some (.lst vs) ∧ H p = some (.lst (rs.map V.ref)) ∧ H0 p = none ∧ l ≠ p ∧
    rs.length = qs.length ∧ ∀ (i : Nat) (r : Addr) (q : List V), rs[i]? = some r → qs[i]? = some q → r ≠ p ∧ H r = some (.lst q)
instance : Inhabited (List V) := ⟨[]⟩
section
variable {P : Program} {w : World} {K : PySem.W.Frag} {mg : Str → Option Value} {base : Heap}
/-- what can be made a list of: a list that stands, a text -/
def Listed (H : Hp) (v : V) (vs : List V) : Prop := (∃ p, v = .ref p ∧ H p = some (.lst vs)) ∨ ∃ z : List Nat, v = .str ⟨z.toArray⟩ ∧ vs = z.map (fun c => V.str (sg c))
def sp_tray_init (T : Txt K mg) : Sp := fun vs H Q _ => ∃ (H0 : Hp) (x dx : Addr) (a b : Nat) (v : V) (us : List V), vs = [.ref x, .int (a : Int), .int (b : Int), v] ∧ Ex H0 H ∧ H0 x = none ∧ H x = some (.ins T.cTray dx []) ∧
  Listed H0 v us ∧ us.length ≤ 1000 ∧ ∀ H', TrayAt T H0 H' x a b us [] → ExT H H' → Q .non H'
abbrev s_Tray___init__ : Stmt := inClass (top 30) 0
theorem sc_Tray___init__ : FnScope ["self", "width", "height", "things"] ["self", "width", "height", "things"] (defScope s_Tray___init__) := ⟨rfl, rfl, rfl, by decide +kernel, rfl, by decide +kernel, by decide +kernel⟩
theorem ok_tray_init {f : Addr} {fd : FuncData} (F : Fun K "__init__" "Tray.__init__" s_Tray___init__ f fd) (T : Txt K mg) : FnOk P w K mg base CX0 1 f fd ["self", "width", "height", "things"] (sp_tray_init T) := by
  refine F.ok sc_Tray___init__ (fun vs H Q E h => ?_) (fun cdv A outer s H vs Q E hr h => ?_)
  · obtain ⟨_, _, _, _, _, _, _, rfl, _⟩ := h
    rfl
  · obtain ⟨H0, x, dx, a, b, v, us, rfl, e0, hx0, hx, hv, hl, k⟩ := h
    refine ⟨_, ((pss_cons (ps_fld (pv 0) (pe_tup (pa_cons (pv 1) (pa_cons (pv 2) pa_nil))) rfl)
      (pss_cons (ps_fld (pv 0) (pe_callTy (call_list_any rfl) (by rfl) T.b_list (by decide +kernel) (pa_cons (pv 3) pa_nil)) rfl)
      (pss_one (ps_fld (pv 0) (pe_lst pa_nil) rfl))))), ?_⟩
    refine ⟨_, rfl, _, rfl, (by show 2 ≤ sizeLine; decide), fun st hst => ?_⟩
    have nxs : x ≠ st := ne_of_none hx hst
    refine ⟨_, rfl, x, T.cTray, dx, [], rfl, (by rw [upd_ne nxs]; exact hx), T.clTray, T.nSize, (by show 0 < 1000; decide), ?_⟩
    -- the heap behind the size
    have e1 : Ex H0 (upd (upd H st (.tup [.int (a : Int), .int (b : Int)])) x (.ins T.cTray dx (putF "size" (.ref st) []))) := (Ex.new' e0 hst).mut hx0
    have t1 : ExT H (upd (upd H st (.tup [.int (a : Int), .int (b : Int)])) x (.ins T.cTray dx (putF "size" (.ref st) []))) := (Ex.new hst).t.trans (ExT.upd (not_tup_ins (by rw [upd_ne nxs]; exact hx)))
    have st1 : (upd (upd H st (.tup [.int (a : Int), .int (b : Int)])) x (.ins T.cTray dx (putF "size" (.ref st) []))) st = some (.tup [.int (a : Int), .int (b : Int)]) := by rw [upd_ne nxs.symm, upd_same]
    have x1 : (upd (upd H st (.tup [.int (a : Int), .int (b : Int)])) x (.ins T.cTray dx (putF "size" (.ref st) []))) x = some (.ins T.cTray dx (putF "size" (.ref st) [])) := upd_same
    generalize upd (upd H st (.tup [.int (a : Int), .int (b : Int)])) x (.ins T.cTray dx (putF "size" (.ref st) [])) = H1 at e1 t1 st1 x1 ⊢
    -- list(things), then the rest
    have fin : ∀ l, H1 l = none → (sFld K (tVar 0) (tLst tNil) "papers") { nx := fun _ H' => Q .non H', rt := Q } (L2.start ["self", "width", "height", "things"] [.ref x, .int (a : Int), .int (b : Int), v]) (upd (upd H1 l (.lst us)) x (.ins T.cTray dx (putF "things" (.ref l) (putF "size" (.ref st) [])))) := by
      intro l hl1
      have nxl : x ≠ l := ne_of_none x1 hl1
      have e2 : Ex H0 (upd (upd H1 l (.lst us)) x (.ins T.cTray dx (putF "things" (.ref l) (putF "size" (.ref st) [])))) := (Ex.new' e1 hl1).mut hx0
      have t2 : ExT H1 (upd (upd H1 l (.lst us)) x (.ins T.cTray dx (putF "things" (.ref l) (putF "size" (.ref st) [])))) := (Ex.new hl1).t.trans (ExT.upd (not_tup_ins (by rw [upd_ne nxl]; exact x1)))
      have l2 : (upd (upd H1 l (.lst us)) x (.ins T.cTray dx (putF "things" (.ref l) (putF "size" (.ref st) [])))) l = some (.lst us) := by rw [upd_ne nxl.symm, upd_same]
      have x2 : (upd (upd H1 l (.lst us)) x (.ins T.cTray dx (putF "things" (.ref l) (putF "size" (.ref st) [])))) x = some (.ins T.cTray dx (putF "things" (.ref l) (putF "size" (.ref st) []))) := upd_same
      generalize upd (upd H1 l (.lst us)) x (.ins T.cTray dx (putF "things" (.ref l) (putF "size" (.ref st) []))) = H2 at e2 t2 l2 x2 ⊢
      refine ⟨Nat.zero_le _, fun p hp => ?_⟩
      have nxp : x ≠ p := ne_of_none x2 hp
      have nlp : l ≠ p := ne_of_none l2 hp
      have fl : (putF "things" (V.ref l) (putF "size" (V.ref st) [])).length < 1000 := by
        show (putF "things" (V.ref l) [(("size" : Str), V.ref st)]).length < 1000
        unfold putF
        split
        · show 1 < 1000; decide
        · show 2 < 1000; decide
      refine ⟨_, rfl, x, T.cTray, dx, _, rfl, (by rw [upd_ne nxp]; exact x2), T.clTray, T.nPapers, fl, ?_⟩
      refine k _ ⟨(Ex.new' e2 hp).mut hx0, hx0, dx, st, l, p, _, [], upd_same, Fs.mk3 st l p, ?_, ?_, ?_, fresh_back e2 hp, nlp, rfl, fun i r q h _ => by simp at h⟩ ?_
      · have sx : st ≠ x := nxs.symm
        rw [upd_ne sx]
        exact (Ex.new hp).t _ _ (t2 _ _ st1)
      · rw [upd_ne nxl.symm]; exact Ex.new hp _ _ l2
      · rw [upd_ne nxp.symm, upd_same]; rfl
      · exact t1.trans (t2.trans ((Ex.new hp).t.trans (ExT.upd (not_tup_ins (by rw [upd_ne nxp]; exact x2)))))
    have size_len : (putF "size" (V.ref st) []).length < 1000 := by show 1 < 1000; decide
    rcases hv with ⟨p, rfl, hp⟩ | ⟨z, rfl, rfl⟩
    · refine ⟨_, rfl, .inl ⟨p, us, rfl, .inl (SqL.of (e1 _ _ hp)), fun l hl1 => ?_⟩⟩
      exact ⟨_, rfl, x, T.cTray, dx, _, rfl, (by rw [upd_ne (ne_of_none x1 hl1)]; exact x1), T.clTray, T.nThings, size_len, fin l hl1⟩
    · have es : signsV ⟨z.toArray⟩ = z.map (fun c => V.str (sg c)) := rfl
      refine ⟨_, rfl, .inr ⟨⟨z.toArray⟩, rfl, sz (by rw [List.length_map] at hl; show z.toArray.size ≤ _; rw [List.size_toArray]; omega), fun l hl1 => ?_⟩⟩
      rw [es]
      exact ⟨_, rfl, x, T.cTray, dx, _, rfl, (by rw [upd_ne (ne_of_none x1 hl1)]; exact x1), T.clTray, T.nThings, size_len, fin l hl1⟩
end
end K7
/-! Tray.do. -/
namespace K7
open PySem L2 K7R
theorem inV_nat (i : Nat) (cs : List Nat) : inV (.int (i : Int)) (natV cs) = decide (i ∈ cs) := by
  unfold inV natV
  rw [List.any_map]
  rw [Bool.eq_iff_iff, List.any_eq_true, decide_eq_true_eq]
  constructor
  · rintro ⟨c, hc, e⟩
    have e' : ((c : Int) == (i : Int)) = true := e
    have : c = i := by
      have := beq_iff_eq.mp e'
      omega
    exact this ▸ hc
  · intro hc
    refine ⟨i, hc, ?_⟩
    show ((i : Int) == (i : Int)) = true
    exact beq_self_eq_true _
theorem flat_nat (cs : List Nat) : (natV cs).all flatV = true := by
  rw [List.all_eq_true]
  intro x hx
  obtain ⟨c, _, rfl⟩ := List.mem_map.mp hx
  rfl
theorem getD_at {α : Type} [Inhabited α] {l : List α} {i : Nat} (h : i < l.length) : l[i]? = some (l.getD i default) := by
  rw [List.getElem?_eq_getElem h, List.getD_eq_getElem?_getD, List.getElem?_eq_getElem h]
  rfl
section
variable {P : Program} {w : World} {K : PySem.W.Frag} {mg : Str → Option Value} {base : Heap}
/-- new things on a tray -/
theorem TrayAt.put {T : Txt K mg} {H0 H H2 : Hp} {t dx st l p D : Addr} {a b : Nat} {us : List V} {qs : List (List V)} {fs : List (Str × V)} {rs : List Addr} (e0 : Ex H0 H) (nt : H0 t = none) (ht : H t = some (.ins T.cTray dx fs)) (F : Fs fs st l p)
    (hst : H st = some (.tup [.int (a : Int), .int (b : Int)])) (hp : H p = some (.lst (rs.map V.ref))) (np : H0 p = none) (rl : rs.length = qs.length) (hr : ∀ (i : Nat) (r : Addr) (q : List V), rs[i]? = some r → qs[i]? = some q → r ≠ p ∧ H r = some (.lst q))
    (e2 : Ex H H2) (hD0 : H D = none) (hD : H2 D = some (.lst us)) : TrayAt T H0 (upd H2 t (.ins T.cTray dx (putF "things" (.ref D) fs))) t a b us qs := by
  have sne : st ≠ t := ne_of hst ht (by intro z; cases z)
  have pne : p ≠ t := ne_of hp ht (by intro z; cases z)
  have Dt : D ≠ t := (ne_of_none ht hD0).symm
  have Dp : D ≠ p := (ne_of_none hp hD0).symm
  refine ⟨(show Ex H0 H2 from e0.trans e2).mut nt, nt, dx, st, D, p, _, rs, upd_same, F.put, ?_, ?_, ?_, np, Dp, rl, fun i r q h1 h2 => ?_⟩
  · rw [upd_ne sne]; exact e2 _ _ hst
  · rw [upd_ne Dt]; exact hD
  · rw [upd_ne pne]; exact e2 _ _ hp
  · obtain ⟨r1, r2⟩ := hr i r q h1 h2
    have rt : r ≠ t := ne_of r2 ht (by intro z; cases z)
    exact ⟨r1, by rw [upd_ne rt]; exact e2 _ _ r2⟩
theorem ext_put {T : Txt K mg} {H H2 : Hp} {t dx : Addr} {fs gs : List (Str × V)} (ht : H t = some (.ins T.cTray dx fs)) (e2 : Ex H H2) : ExT H (L2.upd H2 t (.ins T.cTray dx gs)) := e2.t.trans (ExT.upd (not_tup_ins (e2 _ _ ht)))
/-- one more paper -/
theorem TrayAt.paper {T : Txt K mg} {H0 H H2 : Hp} {t dx st l p D : Addr} {a b : Nat} {us ys : List V} {qs : List (List V)} {fs : List (Str × V)} {rs : List Addr} (e0 : Ex H0 H) (nt : H0 t = none) (ht : H t = some (.ins T.cTray dx fs)) (F : Fs fs st l p)
    (hst : H st = some (.tup [.int (a : Int), .int (b : Int)])) (hl : H l = some (.lst us)) (hp : H p = some (.lst (rs.map V.ref))) (np : H0 p = none) (nlp : l ≠ p) (rl : rs.length = qs.length) (hr : ∀ (i : Nat) (r : Addr) (q : List V), rs[i]? = some r → qs[i]? = some q → r ≠ p ∧ H r = some (.lst q))
    (e2 : Ex H H2) (hD0 : H D = none) (hD : H2 D = some (.lst ys)) : TrayAt T H0 (upd H2 p (.lst (rs.map V.ref ++ [V.ref D]))) t a b us (qs ++ [ys]) := by
  have sne : st ≠ p := ne_of hst hp (by intro z; cases z)
  have tne : t ≠ p := ne_of ht hp (by intro z; cases z)
  have Dp : D ≠ p := (ne_of_none hp hD0).symm
  refine ⟨(show Ex H0 H2 from e0.trans e2).mut np, nt, dx, st, l, p, fs, rs ++ [D], ?_, F, ?_, ?_, ?_, np, nlp, by simp [rl], fun i r q h1 h2 => ?_⟩
  · rw [upd_ne tne]; exact e2 _ _ ht
  · rw [upd_ne sne]; exact e2 _ _ hst
  · rw [upd_ne nlp]; exact e2 _ _ hl
  · rw [upd_same, List.map_append]; rfl
  · by_cases hi : i < rs.length
    · rw [List.getElem?_append_left hi] at h1
      rw [List.getElem?_append_left (rl ▸ hi)] at h2
      obtain ⟨r1, r2⟩ := hr i r q h1 h2
      exact ⟨r1, by rw [upd_ne r1]; exact e2 _ _ r2⟩
    · rw [List.getElem?_append_right (by omega)] at h1
      rw [List.getElem?_append_right (by omega), ← rl] at h2
      cases e : i - rs.length with
      | succ n => rw [e] at h1; cases h1
      | zero =>
        rw [e] at h1 h2
        cases h1
        cases h2
        exact ⟨Dp, by rw [upd_ne Dp]; exact hD⟩

def sp_do (T : Txt K mg) : Sp := fun vs H Q _ => ∃ (H0 : Hp) (t : Addr) (a b : Nat) (us : List V) (qs : List (List V)) (v fv : V) (d : Deed), vs = [.ref t, v, fv] ∧ TrayAt T H0 H t a b us qs ∧ Sz a b ∧ DeedV H v d ∧ Va a b d ∧ us.length = a * b ∧ qs.length ≤ 12 ∧
  ∀ H', TrayAt T H0 H' t a b (doD a b d fv (us, qs)).1 (doD a b d fv (us, qs)).2 → ExT H H' → Q .non H'
theorem draw_opt (a b : Nat) (r : Bool) (s : List Int) : natV ((List.range (a * b)).map (srcC a b r s)) = (((List.range (a * b)).map fun c => some (srcC a b r s c)) : List (Option Nat)).map optV := by
  unfold natV
  rw [List.map_map, List.map_map]
  rfl
theorem draw_take (a b : Nat) (r : Bool) (s : List Int) (us : List V) (fv : V) : (((List.range (a * b)).map fun c => some (srcC a b r s c)) : List (Option Nat)).map (takeO us fv) = actL a b r s us := by
  rw [List.map_map]
  rfl
theorem take_snoc {α : Type} {f : α → V} {l : List α} {i : Nat} {x : α} (h : l[i]? = some x) : (l.take (i + 1)).map f = (l.take i).map f ++ [f x] := by
  obtain ⟨h1, rfl⟩ := List.getElem?_eq_some_iff.mp h
  rw [List.take_succ_eq_append_getElem h1, List.map_append]
  rfl
theorem lst_take {α : Type} {f : α → V} {l : List α} {H : Hp} {D : Addr} (h : H D = some (.lst ((l.take l.length).map f))) : H D = some (.lst (l.map f)) := by
  rw [List.take_length] at h
  exact h
abbrev rIsNon : R2 := fun x y H Q => y = V.non ∧ Q (.bl (decide (x = V.non))) H
abbrev s_Tray_do : Stmt := inClass (top 30) 1
theorem sc_Tray_do : FnScope ["self", "deed", "fresh", "width", "height", "cell", "thing", "ways"] ["self", "deed", "fresh"] (defScope s_Tray_do) := ⟨rfl, rfl, rfl, by decide +kernel, rfl, by decide +kernel, by decide +kernel⟩
theorem ok_do {f : Addr} {fd : FuncData} (F : Fun K "do" "Tray.do" s_Tray_do f fd) (T : Txt K mg) (k_pushed : Kn P w K mg base "pushed" 1 ["width", "height", "cell"] sp_pushed) (k_drawn : Kn P w K mg base "drawn" 1 ["width", "height", "deed"] sp_drawn) :
    FnOk P w K mg base CX0 2 f fd ["self", "deed", "fresh"] (sp_do T) := by
  refine F.ok sc_Tray_do (fun vs H Q E h => ?_) (fun cdv A outer s H vs Q E hr h => ?_)
  · obtain ⟨_, _, _, _, _, _, _, _, _, rfl, _⟩ := h
    rfl
  · obtain ⟨H0, t, a, b, us, qs, v, fv, d, rfl, ⟨e0, nt, dx, st, l, p, fs, rs, ht, FS, hst, hl, hp, np, nlp, rl, hrs⟩, hs, hd, hva, hul, hql, k⟩ := h
    have hs' := hs
    obtain ⟨s1, s2, s3, s4, s5⟩ := hs'
    refine ⟨_, ((pss_cons (ps_asg (pe_fld (pv 0) rfl) (pg_tup rfl (pgs_cons (pg_name (i := 3) sc_Tray_do.nd rfl (by first | exact Or.inl rfl | exact Or.inr rfl)) (pgs_cons (pg_name (i := 4) sc_Tray_do.nd rfl (by first | exact Or.inl rfl | exact Or.inr rfl)) pgs_nil))))
      (pss_cons (ps_if (pt_cmpR op_eq (pe_ix ix_tup (pv 1) pe_int (fun _ _ => rfl)) (pe_gl (by rfl) T.g_PAPER) (nomark _)) (pss_cons (ps_expr (pe_bm PySem.F.plainAttrs_list PySem.F.slot_list_append PySem.F.type_list_append mt_append (pe_fld (pv 0) rfl) (pa_cons (pe_lc (own := [("cell", 5)]) (g := gName 5) (tt := tYes) (te := tOp (rIxL K) (tFld K (tVar 0) "things") (tVar 5)) rfl sc_Tray_do.nd (pi_tup (pe_ix ix_tup (pv 1) pe_int (fun _ _ => rfl))) (blkOk_by (own := [("cell", 5)]) (N := ["self", "deed", "fresh", "width", "height", "cell", "thing", "ways"]) (sc := defScope s_Tray_do) (by decide +kernel)) (fun _ _ _ _ _ => (pg_name (i := 5) sc_Tray_do.nd rfl (Or.inl rfl))) (fun _ _ _ _ _ => pts_nil) (fun _ _ _ _ _ => (pe_ix (ix_listK (K := K)) (pe_fldK (K := K) (pv 0) rfl) (pv 5) (fun _ _ => rfl)))) pa_nil)))
      (pss_cons (ps_fld (pv 0) (pe_lc (own := [("cell", 5), ("thing", 6)]) (g := gTup K 2 (gCons (gName 5) (gCons (gName 6) gNil))) (tt := tYes) (te := tIf (tTest (tOp (rIn K false) (tVar 5) (tOp (rIxT K) (tVar 1) (tC (.int 1))))) (tVar 2) (tVar 6)) rfl sc_Tray_do.nd (pi_enum (by rfl) T.b_enumerate (pa_cons (pe_fld (pv 0) rfl) pa_nil)) (blkOk_by (own := [("cell", 5), ("thing", 6)]) (N := ["self", "deed", "fresh", "width", "height", "cell", "thing", "ways"]) (sc := defScope s_Tray_do) (by decide +kernel)) (fun _ _ _ _ _ => (pg_tup rfl (pgs_cons (pg_name (i := 5) sc_Tray_do.nd rfl (Or.inl rfl)) (pgs_cons (pg_name (i := 6) sc_Tray_do.nd rfl (Or.inl rfl)) pgs_nil)))) (fun _ _ _ _ _ => pts_nil) (fun _ _ _ _ _ => (pe_ifExp (pt_cmpR (op_in_seqK (K := K)) (pv 5) (pe_ix (ix_tupK (K := K)) (pv 1) pe_int (fun _ _ => rfl)) (by rfl)) (pv 2) (pv 6)))) rfl)
      (pss_one ps_retN))) pss_nil)
      (pss_cons (ps_set (i := 7) sc_Tray_do.nd rfl (by first | exact Or.inl rfl | exact Or.inr rfl) (pe_ifExp (pt_cmpR op_eq (pe_ix ix_tup (pv 1) pe_int (fun _ _ => rfl)) (pe_gl (by rfl) T.g_DROP) (nomark _)) (pe_kn k_pushed (hr.mono (by decide)) (by rfl) (pa_cons (pv 3) (pa_cons (pv 4) (pa_cons (pe_ix ix_tup (pv 1) pe_int (fun _ _ => rfl)) pa_nil)))) (pe_kn k_drawn (hr.mono (by decide)) (by rfl) (pa_cons (pv 3) (pa_cons (pv 4) (pa_cons (pv 1) pa_nil))))))
      (pss_one (ps_fld (pv 0) (pe_lc (own := [("cell", 5)]) (g := gName 5) (tt := tYes) (te := tIf (tTest (tOp rIsNon (tVar 5) (tC .non))) (tVar 2) (tOp (rIxL K) (tFld K (tVar 0) "things") (tVar 5))) rfl sc_Tray_do.nd (pi_list (pv 7)) (blkOk_by (own := [("cell", 5)]) (N := ["self", "deed", "fresh", "width", "height", "cell", "thing", "ways"]) (sc := defScope s_Tray_do) (by decide +kernel)) (fun _ _ _ _ _ => (pg_name (i := 5) sc_Tray_do.nd rfl (Or.inl rfl))) (fun _ _ _ _ _ => pts_nil) (fun _ _ _ _ _ => (pe_ifExp (pt_cmpR op_isN (pv 5) pe_non (nomark _)) (pv 2) (pe_ix (ix_listK (K := K)) (pe_fldK (K := K) (pv 0) rfl) (pv 5) (fun _ _ => rfl))))) rfl)))))), ?_⟩
    refine ⟨_, rfl, t, T.cTray, dx, fs, _, rfl, ht, T.clTray, T.nSize, FS.size, st, _, rfl, SqT.of hst, rfl, _, _, rfl, _, _, rfl, rfl, ?_⟩
    have fin : ∀ (wl : Addr) (H1 : Hp) (os : List (Option Nat)), Ex H H1 → H1 wl = some (.lst (os.map optV)) → (∀ o ∈ os, InR (a * b) o) → os.length ≤ 12 → (∀ H', TrayAt T H0 H' t a b (os.map (takeO us fv)) qs → ExT H H' → Q .non H') →
        (sFld K (tVar 0) (tLc (iList K (tVar 7)) (gName 5) tYes (tIf (tTest (tOp rIsNon (tVar 5) (tC .non))) (tVar 2) (tOp (rIxL K) (tFld K (tVar 0) "things") (tVar 5))) [5]) "things") { nx := fun _ H' => Q .non H', rt := Q }
          [some (.ref t), some v, some fv, some (.int (a : Int)), some (.int (b : Int)), none, none, some (.ref wl)] H1 := by
      intro wl H1 os e1 hw hin hol kk
      refine ⟨_, rfl, wl, rfl, ⟨_, SqL.of hw⟩, fun D hD => ?_⟩
      have D0 : H D = none := fresh_back e1 hD
      refine lc_it walk_list (fun i H' => Ex H1 H' ∧ H' D = some (.lst ((os.take i).map (takeO us fv)))) ⟨Ex.new hD, upd_same⟩ (fun i H' _ p => SqL.of (p.1 _ _ hw)) ?_ ?_
      · rintro i x H2 H3 hi ⟨e2, h2⟩ ⟨rfl, hx⟩
        obtain ⟨o, ho, rfl⟩ := map_at hx
        have hsz : ((os.take i).map (takeO us fv)).length < sizeLine := szl (by simp; omega)
        cases o with
        | none =>
          refine ⟨rfl, _, rfl, rfl, _, rfl, itP rfl ⟨_, rfl, _, h2, hsz, e2.mut hD, ?_⟩⟩
          rw [upd_same, take_snoc ho]
          rfl
        | some j =>
          have hj : j < us.length := by rw [hul]; exact hin _ (List.mem_of_getElem? ho)
          refine ⟨rfl, _, rfl, rfl, _, rfl, itN (by show ¬ decide (V.int (j : Int) = V.non) = true; simp) ⟨_, rfl, t, T.cTray, dx, fs, _, rfl, e2 _ _ (e1 _ _ ht), T.clTray, T.nThings, FS.things, _, rfl, l, us, _, _, rfl, rfl, SqL.of (e2 _ _ (e1 _ _ hl)), atI_nat (getD_at hj), _, h2, hsz, e2.mut hD, ?_⟩⟩
          rw [upd_same, take_snoc ho]
          rfl
      · rintro H2 ⟨e2, h2⟩
        rw [List.length_map] at h2
        have h2' := lst_take h2
        refine ⟨_, rfl, t, T.cTray, dx, fs, rfl, e2 _ _ (e1 _ _ ht), T.clTray, T.nThings, Nat.lt_of_le_of_lt FS.len (by decide), ?_⟩
        exact kk _ (TrayAt.put e0 nt ht FS hst hp np rl hrs (e1.trans e2) D0 h2') (ext_put ht (e1.trans e2))
    cases d with
    | draw r s =>
      obtain ⟨p', q', rfl, hp', hq'⟩ := hd
      refine ⟨_, rfl, p', _, _, _, rfl, rfl, SqT.of hp', rfl, rfl, _, rfl, itN (by cases r <;> decide +kernel) ?_⟩
      refine ⟨_, rfl, p', _, _, _, rfl, rfl, SqT.of hp', rfl, rfl, _, rfl, itN (by cases r <;> decide +kernel) ?_⟩
      refine ⟨_, rfl, _, rfl, _, rfl, a, b, .ref p', r, s, rfl, hs, ⟨p', q', rfl, hp', hq'⟩, hva.1, fun wl H1 hw e1 hwl => ?_⟩
      rw [draw_opt] at hwl
      refine fin wl H1 _ e1 hwl (fun o ho => ?_) (by simp; omega) (fun H' tr et => k H' ?_ et)
      · obtain ⟨c, hc, rfl⟩ := List.mem_map.mp ho
        exact srcC_lt s1 s3 (List.mem_range.mp hc)
      · rw [draw_take] at tr
        exact tr
    | drop c x =>
      obtain ⟨p', rfl, hp'⟩ := hd
      refine ⟨_, rfl, p', _, _, _, rfl, rfl, SqT.of hp', rfl, rfl, _, rfl, itN (by decide +kernel) ?_⟩
      refine ⟨_, rfl, p', _, _, _, rfl, rfl, SqT.of hp', rfl, rfl, _, rfl, itP (by decide +kernel) ?_⟩
      refine ⟨_, rfl, _, rfl, _, rfl, p', _, _, _, rfl, rfl, SqT.of hp', rfl, a, b, c, rfl, hs, hva.1, fun wl H1 hw e1 hwl => ?_⟩
      exact fin wl H1 _ e1 hwl (fun o ho => pushL_in s1 hva.1 o ho) (by rw [pushL_len]; omega) (fun H' tr et => k H' tr et)
    | paper cs =>
      obtain ⟨p', q', rfl, hp', hq'⟩ := hd
      have hcl := hva.paper_len hs
      have npq : p' ≠ p := ne_of hp' hp (by intro z; cases z)
      have nqq : q' ≠ p := ne_of hq' hp (by intro z; cases z)
      refine ⟨_, rfl, p', _, _, _, rfl, rfl, SqT.of hp', rfl, rfl, _, rfl, itP (by decide +kernel) ?_⟩
      refine ⟨_, rfl, t, T.cTray, dx, fs, _, rfl, ht, T.clTray, T.nPapers, FS.papers, .inl ⟨rfl, _, SqL.of hp⟩, ?_⟩
      refine ⟨_, rfl, p', _, _, _, rfl, rfl, SqT.of hp', rfl, q', rfl, ⟨_, SqT.of hq'⟩, fun D hD => ?_⟩
      refine lc_it walk_tup (fun i H' => Ex H H' ∧ H' D = some (.lst ((cs.take i).map fun c => us.getD c default))) ⟨Ex.new hD, upd_same⟩ (fun i H' _ p => SqT.of (p.1 _ _ hq')) ?_ ?_
      · rintro i x H2 H3 hi ⟨e2, h2⟩ ⟨rfl, hx⟩
        obtain ⟨c, hc, rfl⟩ := natV_at hx
        have hj : c < us.length := by rw [hul]; exact hva.2.2 _ (List.mem_of_getElem? hc)
        refine ⟨rfl, _, rfl, t, T.cTray, dx, fs, _, rfl, e2 _ _ ht, T.clTray, T.nThings, FS.things, _, rfl, l, us, _, _, rfl, rfl, SqL.of (e2 _ _ hl), atI_nat (getD_at hj), _, h2, szl (by simp; omega), e2.mut hD, ?_⟩
        rw [upd_same, take_snoc hc]
      · rintro H1 ⟨e1, h1⟩
        rw [natV_len] at h1
        have h1' := lst_take h1
        refine ⟨p, _, _, rfl, rfl, e1 _ _ hp, szl (by rw [List.length_map, rl]; omega), ?_⟩
        have TA := TrayAt.paper e0 nt ht FS hst hl hp np nlp rl hrs e1 hD h1'
        have et1 : ExT H (upd H1 p (.lst (rs.map V.ref ++ [V.ref D]))) := e1.t.trans (ExT.upd (not_tup_lst (e1 _ _ hp)))
        generalize upd H1 p (.lst (rs.map V.ref ++ [V.ref D])) = H2 at TA et1 ⊢
        obtain ⟨e0, nt, dx, st, l, p, fs, rs, ht, FS, hst, hl, hp, np, nlp, rl, hrs⟩ := TA
        have hp2 := et1 _ _ hp'
        have hq2 := et1 _ _ hq'
        refine ⟨_, rfl, t, T.cTray, dx, fs, _, rfl, ht, T.clTray, T.nThings, FS.things, l, us, rfl, SqL.of hl, fun D2 hD2 => ?_⟩
        refine lc_it walk_enum (fun i H' => Ex H2 H' ∧ H' D2 = some (.lst ((List.range i).map fun j => if j ∈ cs then fv else us.getD j default))) ⟨Ex.new hD2, upd_same⟩ (fun i H' _ p => SqL.of (p.1 _ _ hl)) ?_ ?_
        · rintro i x H3 H4 hi ⟨e3, h3⟩ ⟨tt, x1, x2, rfl, htt, rfl, h4, h5⟩
          cases h4
          have h5' : us[i]? = some x2 := h5
          have e4 : Ex H2 (upd H3 tt (.tup [.int (i : Nat), x2])) := Ex.new' e3 htt
          have ex2 : x2 = us.getD i default := by
            have := getD_at hi
            rw [h5'] at this
            exact Option.some.inj this
          refine ⟨tt, _, rfl, SqT.of upd_same, rfl, _, _, rfl, _, _, rfl, rfl, rfl, ?_⟩
          refine ⟨_, rfl, _, rfl, p', _, _, _, rfl, rfl, SqT.of (e4 _ _ hp2), rfl, q', _, rfl, .inr (SqT.of (e4 _ _ hq2)), rfl, flat_nat cs, _, rfl, ?_⟩
          have en : (if false = true then !inV (.int (i : Int)) (natV cs) else inV (.int (i : Int)) (natV cs)) = decide (i ∈ cs) := inV_nat i cs
          have hsz : ((List.range i).map fun j => if j ∈ cs then fv else us.getD j default).length < sizeLine := szl (by simp; omega)
          by_cases hm : i ∈ cs
          · refine itP (en.trans (decide_eq_true hm)) ⟨_, rfl, _, Ex.new htt _ _ h3, hsz, e4.mut hD2, ?_⟩
            rw [upd_same, List.range_succ, List.map_append]
            show some (HO.lst (_ ++ [fv])) = some (HO.lst (_ ++ [if i ∈ cs then fv else us.getD i default]))
            rw [if_pos hm]
          · refine itN (fun z => hm (of_decide_eq_true (en.symm.trans z))) ⟨_, rfl, _, Ex.new htt _ _ h3, hsz, e4.mut hD2, ?_⟩
            rw [upd_same, List.range_succ, List.map_append]
            show some (HO.lst (_ ++ [x2])) = some (HO.lst (_ ++ [if i ∈ cs then fv else us.getD i default]))
            rw [if_neg hm, ex2]
        · rintro H3 ⟨e3, h3⟩
          refine ⟨_, rfl, t, T.cTray, dx, fs, rfl, e3 _ _ ht, T.clTray, T.nThings, Nat.lt_of_le_of_lt FS.len (by decide), ?_⟩
          exact k _ (TrayAt.put e0 nt ht FS hst hp np rl hrs e3 hD2 h3) (et1.trans (ext_put ht e3))
end
end K7
/-! done. -/
namespace K7
open PySem L2 K7R
abbrev rJoin (K : PySem.W.Frag) : V → List V → Hp → VK → Prop := fun x xs H Q => ∃ a p, ∃ ys : List Str, x = .str a ∧ xs = [.ref p] ∧ (SqL K H p (ys.map V.str) ∨ SqT K H p (ys.map V.str)) ∧ (ys.map (·.length)).sum + ys.length * a.length ≤ 16777216 ∧ Q (.str (Txt.join a ys)) H
theorem joinL_ones : ∀ cs : List Nat, TL.joinL [] (cs.map fun c => [c]) = cs
  | [] => rfl
  | [_] => rfl
  | c :: d :: r => by
    have h := joinL_ones (d :: r)
    show [c] ++ ([] ++ TL.joinL [] ((d :: r).map fun c => [c])) = c :: d :: r
    rw [h]
    rfl
theorem join_signs (cs : List Nat) : Txt.join ("" : Str) (cs.map sg) = ⟨cs.toArray⟩ := by
  rw [TL.join_eq, ← TL.mk_tl (Str.join ("" : Str) (cs.map sg)), TL.tl_join, List.map_map]
  have e1 : TL.tl ("" : Str) = [] := by decide +kernel
  have e2 : (TL.tl ∘ sg) = fun c => [c] := rfl
  rw [e1, e2, joinL_ones]
theorem sum_ones (cs : List Nat) : (cs.map fun _ => 1).sum = cs.length := by
  induction cs with
  | nil => rfl
  | cons c cs ih => rw [List.map_cons, List.sum_cons, ih, List.length_cons, Nat.add_comm]
theorem join_size (cs : List Nat) (h : cs.length ≤ 1000) : ((cs.map sg).map (·.length)).sum + (cs.map sg).length * ("" : Str).length ≤ 16777216 := by
  have e : ("" : Str).length = 0 := by decide +kernel
  rw [e, Nat.mul_zero, List.map_map]
  have : ((fun x : Str => x.length) ∘ sg) = fun _ => 1 := rfl
  rw [this, sum_ones]
  omega
theorem runD_take {α : Type} [Inhabited α] {a b : Nat} {col : Deed → α} {ds : List Deed} {i : Nat} (h : i < ds.length) (st : List α × List (List α)) :
    runD a b col (ds.take (i + 1)) st = doD a b ds[i] (col ds[i]) (runD a b col (ds.take i) st) := by
  rw [List.take_succ_eq_append_getElem h, runD_append]
  rfl
/-- a value that is a sign -/
def IsSg (v : V) (c : Nat) : Prop := v = .str (sg c) ∧ Sig c
theorem isSg_map {vs : List V} {cs : List Nat} (h : Rel2 IsSg vs cs) : vs = (cs.map sg).map V.str := by
  refine List.ext_getElem (by simp [h.1]) fun i h1 h2 => ?_
  have h3 : i < cs.length := h.1 ▸ h1
  rw [List.getElem_map, List.getElem_map]
  exact (h.2 i _ _ (List.getElem?_eq_getElem h1) (List.getElem?_eq_getElem h3)).1
theorem isSg_sig {vs : List V} {cs : List Nat} (h : Rel2 IsSg vs cs) : ∀ c ∈ cs, Sig c := by
  intro c hc
  obtain ⟨i, h2, rfl⟩ := List.mem_iff_getElem.mp hc
  have h1 : i < vs.length := h.1 ▸ h2
  exact (h.2 i _ _ (List.getElem?_eq_getElem h1) (List.getElem?_eq_getElem h2)).2
theorem doD_papers {α : Type} [Inhabited α] {a b : Nat} {d : Deed} {f : α} {st : List α × List (List α)} : (doD a b d f st).2.length ≤ st.2.length + 1 := by
  cases d with
  | draw _ _ => exact Nat.le_succ _
  | drop _ _ => exact Nat.le_succ _
  | paper cs => show (st.2 ++ [_]).length ≤ _; rw [List.length_append]; exact Nat.le_refl _
theorem runD_papers {α : Type} [Inhabited α] {a b : Nat} {col : Deed → α} : ∀ (ds : List Deed) (st : List α × List (List α)), (runD a b col ds st).2.length ≤ st.2.length + ds.length
  | [], st => Nat.le_refl _
  | d :: ds, st => by
    have h1 := runD_papers (a := a) (b := b) (col := col) ds (doD a b d (col d) st)
    have h2 := doD_papers (a := a) (b := b) (d := d) (f := col d) (st := st)
    show (runD a b col ds (doD a b d (col d) st)).2.length ≤ st.2.length + (ds.length + 1)
    omega
/-- papers are short -/
theorem doD_plen {α : Type} [Inhabited α] {a b : Nat} {d : Deed} {f : α} {st : List α × List (List α)} (hd : ∀ cs, d = .paper cs → cs.length ≤ 12) (h : ∀ q ∈ st.2, q.length ≤ 12) : ∀ q ∈ (doD a b d f st).2, q.length ≤ 12 := by
  cases d with
  | draw _ _ => exact h
  | drop _ _ => exact h
  | paper cs =>
    intro q hq
    rcases List.mem_append.mp hq with e | e
    · exact h q e
    · rw [List.mem_singleton.mp e, List.length_map]; exact hd cs rfl
theorem runD_plen {α : Type} [Inhabited α] {a b : Nat} {col : Deed → α} : ∀ (ds : List Deed) (st : List α × List (List α)), (∀ cs, .paper cs ∈ ds → cs.length ≤ 12) → (∀ q ∈ st.2, q.length ≤ 12) → ∀ q ∈ (runD a b col ds st).2, q.length ≤ 12
  | [], _, _, h => h
  | d :: ds, st, hd, h => runD_plen ds _ (fun cs hc => hd cs (List.mem_cons_of_mem _ hc)) (doD_plen (fun cs e => hd cs (e ▸ List.mem_cons_self)) h)
section
variable {P : Program} {w : World} {K : PySem.W.Frag} {mg : Str → Option Value} {base : Heap}
def sp_done (T : Txt K mg) : Sp := fun vs H Q _ => ∃ (bt : Addr) (v : V) (a b : Nat) (z : List Nat) (ds : List Deed), vs = [.ref bt, v] ∧ BathAt T H bt a b z ∧ Sz a b ∧ z.length = a * b ∧ (∀ c ∈ z, Sig c) ∧ RecV H v ds ∧ (∀ d ∈ ds, Va a b d) ∧ ds.length ≤ 12 ∧
  ∀ r bt' lp H', Ex H H' → H' r = some (.tup [.ref bt', .ref lp]) → BathAt T H' bt' a b (runD a b colN ds (z, [])).1 → (∀ c ∈ (runD a b colN ds (z, [])).1, Sig c) →
    H' lp = some (.lst ((runD a b colN ds (z, [])).2.map fun q => V.str ⟨q.toArray⟩)) → Q (.ref r) H'
abbrev s_done : Stmt := top 31
theorem sc_done : FnScope ["bath", "recipe", "tray", "deed", "signs"] ["bath", "recipe"] (defScope s_done) := ⟨rfl, rfl, rfl, by decide +kernel, rfl, by decide +kernel, by decide +kernel⟩
theorem ok_done {f : Addr} {fd : FuncData} (F : Fun K "done" "done" s_done f fd) (T : Txt K mg) (k_check_recipe : Kn P w K mg base "check_recipe" 5 ["width", "height", "recipe"] sp_check_recipe)
    (k_width : Kp P w K mg base T.cBath "width" 1 (sp_width T)) (k_height : Kp P w K mg base T.cBath "height" 1 (sp_height T)) (k_cells : Kp P w K mg base T.cBath "cells" 1 (sp_cells T))
    (k_Tray : Kc P w K mg base T.cTray "Tray" 1 ["self", "width", "height", "things"] (sp_tray_init T)) (k_do : Km P w K mg base T.cTray "do" 2 ["self", "deed", "fresh"] (sp_do T))
    (k_Bath : Kc P w K mg base T.cBath "Bath" 3 ["self", "width", "height", "cells"] (sp_bath_init T)) :
    FnOk P w K mg base CX0 6 f fd ["bath", "recipe"] (sp_done T) := by
  refine F.ok sc_done (fun vs H Q E h => ?_) (fun cdv A outer s H vs Q E hr h => ?_)
  · obtain ⟨_, _, _, _, _, _, rfl, _⟩ := h
    rfl
  · obtain ⟨bt, v, a, b, z, ds, rfl, hB, hs, hz, hsg, hrec, hva, hdl, k⟩ := h
    have hs' := hs
    obtain ⟨s1, s2, s3, s4, s5⟩ := hs'
    refine ⟨_, ((pss_cons (ps_expr (pe_kn k_check_recipe (hr.mono (by decide)) (by rfl) (pa_cons (pe_kp k_width T.sc (hr.mono (by decide)) (pv 0)) (pa_cons (pe_kp k_height T.sc (hr.mono (by decide)) (pv 0)) (pa_cons (pv 1) pa_nil)))))
      (pss_cons (ps_set (i := 2) sc_done.nd rfl (by first | exact Or.inl rfl | exact Or.inr rfl) (pe_mk k_Tray (hr.mono (by decide)) (by rfl) (pa_cons (pe_kp k_width T.sc (hr.mono (by decide)) (pv 0)) (pa_cons (pe_kp k_height T.sc (hr.mono (by decide)) (pv 0)) (pa_cons (pe_kp k_cells T.sc (hr.mono (by decide)) (pv 0)) pa_nil)))))
      (pss_cons (ps_for PassesOwn.never rfl (pi_tup (pv 1)) (pg_name (i := 3) sc_done.nd rfl (by first | exact Or.inl rfl | exact Or.inr rfl)) (pss_one (ps_expr (pe_km k_do T.clTray (hr.mono (by decide)) (pv 2) (pa_cons (pv 3) (pa_cons (pe_ifExp (pt_cmpR op_eq (pe_ix ix_tup (pv 3) pe_int (fun _ _ => rfl)) (pe_gl (by rfl) T.g_DROP) (nomark _)) (pe_ix ix_tup (pv 3) pe_int (fun _ _ => rfl)) (pe_gl (by rfl) T.g_NOTHING)) pa_nil))))))
      (pss_one (ps_ret (pe_tup (pa_cons (pe_mk k_Bath (hr.mono (by decide)) (by rfl) (pa_cons (pe_kp k_width T.sc (hr.mono (by decide)) (pv 0)) (pa_cons (pe_kp k_height T.sc (hr.mono (by decide)) (pv 0)) (pa_cons (pe_join pe_str (pe_fld (pv 2) rfl)) pa_nil)))) (pa_cons (pe_lc (own := [("signs", 4)]) (g := gName 4) (tt := tYes) (te := tM1 (rJoin K) (tC (.str "")) (tVar 4)) rfl sc_done.nd (pi_list (pe_fld (pv 2) rfl)) (blkOk_by (own := [("signs", 4)]) (N := ["bath", "recipe", "tray", "deed", "signs"]) (sc := defScope s_done) (by decide +kernel)) (fun _ _ _ _ _ => (pg_name (i := 4) sc_done.nd rfl (Or.inl rfl))) (fun _ _ _ _ _ => pts_nil) (fun _ _ _ _ _ => (pe_join pe_str (pv 4)))) pa_nil))))))))), ?_⟩
    have bat : ∀ {H' : Hp}, Ex H H' → ∃ dx vs, SlX.Slt H' bt T.cBath dx vs ∧ BathAt T H' bt a b z := fun e => by
      have hB' := hB.ex e
      have hB2 := hB'
      obtain ⟨dx, t, hsl, _⟩ := hB2
      exact ⟨dx, _, hsl, hB'⟩
    obtain ⟨dx0, vs0, hsl0, _⟩ := bat (Ex.refl H)
    refine ⟨_, rfl, bt, dx0, vs0, rfl, hsl0, bt, a, b, z, rfl, hB, _, rfl, bt, dx0, vs0, rfl, hsl0, bt, a, b, z, rfl, hB, _, rfl, a, b, v, ds, rfl, hs, hrec, hva, hdl, fun H1 e1 => ?_⟩
    obtain ⟨dx1, vs1, hsl1, hB1⟩ := bat e1
    refine ⟨_, rfl, bt, dx1, vs1, rfl, hsl1, bt, a, b, z, rfl, hB1, _, rfl, bt, dx1, vs1, rfl, hsl1, bt, a, b, z, rfl, hB1, _, rfl, bt, dx1, vs1, rfl, hsl1, bt, a, b, z, rfl, hB1, fun x dx hx hdx hne => ?_⟩
    have e2 : Ex H1 (upd (upd H1 dx (.own x)) x (.ins T.cTray dx [])) := (Ex.new hdx).trans (Ex.new (by rw [upd_ne hne.symm]; exact hx))
    refine ⟨H1, x, dx, a, b, .str ⟨z.toArray⟩, z.map (fun c => V.str (sg c)), rfl, e2, hx, upd_same, .inr ⟨z, rfl, rfl⟩, by rw [List.length_map]; omega, fun H2 TA et => ⟨rfl, ?_⟩⟩
    obtain ⟨p, us, rfl, hp, hds⟩ := hrec
    -- the loop over the deeds
    refine ⟨_, rfl, p, rfl, ⟨_, SqT.of (TA.old _ _ (e1 _ _ hp))⟩, ?_⟩
    refine for_it walk_tup (fun i σ H' => ∃ (us' : List V) (qs : List (List V)) (o : Option V), TrayAt T H1 H' x a b us' qs ∧ Rel2 IsSg us' (runD a b colN (ds.take i) (z, [])).1 ∧ Rel2 (Rel2 IsSg) qs (runD a b colN (ds.take i) (z, [])).2 ∧ σ = [some (.ref bt), some (.ref p), some (.ref x), o, none])
      ⟨_, _, none, TA, ⟨by simp [runD], fun i v c h1 h2 => ?_⟩, ⟨rfl, fun i v c h1 _ => by simp at h1⟩, rfl⟩ (fun i σ H' _ q => by obtain ⟨_, _, _, TA', _⟩ := q; exact SqT.of (TA'.old _ _ (e1 _ _ hp))) ?_ ?_
    · rw [List.getElem?_map] at h1
      have h2' : z[i]? = some c := h2
      rw [h2'] at h1
      cases h1
      exact ⟨rfl, hsg c (List.mem_of_getElem? h2')⟩
    · rintro i y σ H3 H4 hi ⟨us', qs, o, TA', r1, r2, rfl⟩ ⟨rfl, hy⟩
      have hid : i < ds.length := by rw [← hds.1]; exact hi
      have hd0 : DeedV H y ds[i] := hds.2 i y _ hy (List.getElem?_eq_getElem hid)
      have e3 : Ex H H4 := e1.trans TA'.old
      have hd := hd0.ex e3.t
      have hv := hva _ (List.getElem_mem hid)
      have TA2 := TA'
      obtain ⟨_, nt, dx2, st, l, pp, fs, rs, ht, FS, _⟩ := TA2
      have ul : us'.length = a * b := by rw [r1.1]; exact runD_len _ hz
      have ql : qs.length ≤ 12 := by
        rw [r2.1]
        have := runD_papers (a := a) (b := b) (col := colN) (ds.take i) (z, [])
        rw [List.length_take] at this
        simp only [List.length_nil] at this
        omega
      -- what do leaves
      have back : ∀ fv, IsSg fv (colN ds[i]) → sp_do T [.ref x, y, fv] H4 (fun _ H' => ∃ (us' : List V) (qs : List (List V)) (o : Option V), TrayAt T H1 H' x a b us' qs ∧ Rel2 IsSg us' (runD a b colN (ds.take (i + 1)) (z, [])).1 ∧ Rel2 (Rel2 IsSg) qs (runD a b colN (ds.take (i + 1)) (z, [])).2 ∧
          [some (V.ref bt), some (.ref p), some (.ref x), some y, none] = [some (.ref bt), some (.ref p), some (.ref x), o, none]) E0 := by
        intro fv hf
        refine ⟨H1, x, a, b, us', qs, y, fv, ds[i], rfl, TA', hs, hd, hv, ul, ql, fun H' TA3 _ => ?_⟩
        obtain ⟨g1, g2⟩ := doD_rel s1 s3 hv.inD (R := IsSg) hf (s := (us', qs)) (t := runD a b colN (ds.take i) (z, [])) ul r1 r2
        rw [runD_take hid]
        exact ⟨_, _, _, TA3, g1, g2, rfl⟩
      have dot : (V.str ("." : Str)) = .str (sg 46) := by
        have : ("." : Str) = sg 46 := by decide +kernel
        rw [this]
      cases hdd : ds[i] with
      | draw r s =>
        rw [hdd] at hd back
        obtain ⟨p', q', rfl, hp', hq'⟩ := hd
        refine ⟨_, rfl, x, dx2, fs, rfl, ht, FS.nodo, _, rfl, _, rfl, p', _, _, _, rfl, rfl, SqT.of hp', rfl, rfl, _, rfl, itN (by cases r <;> decide +kernel) ?_⟩
        exact back _ ⟨dot, .inr rfl⟩
      | drop c cx =>
        rw [hdd] at hd back hv
        obtain ⟨p', rfl, hp'⟩ := hd
        refine ⟨_, rfl, x, dx2, fs, rfl, ht, FS.nodo, _, rfl, _, rfl, p', _, _, _, rfl, rfl, SqT.of hp', rfl, rfl, _, rfl, itP (by decide +kernel) ?_⟩
        refine ⟨_, rfl, p', _, _, _, rfl, rfl, SqT.of hp', rfl, ?_⟩
        exact back _ ⟨rfl, .inl hv.2⟩
      | paper cs =>
        rw [hdd] at hd back
        obtain ⟨p', q', rfl, hp', hq'⟩ := hd
        refine ⟨_, rfl, x, dx2, fs, rfl, ht, FS.nodo, _, rfl, _, rfl, p', _, _, _, rfl, rfl, SqT.of hp', rfl, rfl, _, rfl, itN (by decide +kernel) ?_⟩
        exact back _ ⟨dot, .inr rfl⟩
    · rintro σ H3 ⟨us', qs, o, TA', r1, r2, rfl⟩
      rw [hds.1, List.take_length] at r1 r2
      have hcl : (runD a b colN ds (z, [])).1.length = a * b := runD_len _ hz
      have hcs := isSg_sig r1
      have hqn : (runD a b colN ds (z, [])).2.length ≤ 12 := by
        have := runD_papers (a := a) (b := b) (col := colN) ds (z, [])
        simp only [List.length_nil] at this
        omega
      have hqp : ∀ q ∈ (runD a b colN ds (z, [])).2, q.length ≤ 12 := runD_plen ds _ (fun cs hc => (hva _ hc).paper_len hs) (fun q h => by cases h)
      generalize hst : runD a b colN ds (z, []) = stE at *
      obtain ⟨old, nt, dx2, st, l, pp, fs, rs, ht, FS, hst', hl, hpp, npp, nlp, rl, hrs⟩ := TA'
      have e3 : Ex H H3 := e1.trans old
      obtain ⟨dx3, vs3, hsl3, hB3⟩ := bat e3
      have ues := isSg_map r1
      rw [ues] at hl
      refine ⟨_, rfl, bt, dx3, vs3, rfl, hsl3, bt, a, b, z, rfl, hB3, _, rfl, bt, dx3, vs3, rfl, hsl3, bt, a, b, z, rfl, hB3, ⟨_, rfl⟩, _, rfl, x, T.cTray, dx2, fs, _, rfl, ht, T.clTray, T.nThings, FS.things, _, l, _, rfl, rfl, .inl (SqL.of hl), join_size _ (by rw [hcl]; omega), ?_⟩
      rw [join_signs]
      intro x2 dxx hx2 hdx2 hne2
      have e4 : Ex H3 (upd (upd H3 dxx (.own x2)) x2 (.ins T.cBath dxx [])) := (Ex.new hdx2).trans (Ex.new (by rw [upd_ne hne2.symm]; exact hx2))
      refine ⟨H3, x2, dxx, a, b, stE.1, rfl, e4, hx2, hdx2, hne2, upd_same, by rw [upd_ne hne2, upd_same], hs, hcl, hcs, fun H4 e5 hB5 => ⟨rfl, ?_⟩⟩
      refine ⟨_, rfl, x, T.cTray, dx2, fs, _, rfl, e5 _ _ ht, T.clTray, T.nPapers, FS.papers, pp, rfl, ⟨_, SqL.of (e5 _ _ hpp)⟩, fun D hD => ?_⟩
      refine lc_it walk_list (fun i H' => Ex H4 H' ∧ H' D = some (.lst ((stE.2.take i).map fun q => V.str ⟨q.toArray⟩))) ⟨Ex.new hD, upd_same⟩ (fun i H' _ p => SqL.of (p.1 _ _ (e5 _ _ hpp))) ?_ ?_
      · rintro i y H5 H6 hi ⟨e6, h6⟩ ⟨rfl, hy⟩
        obtain ⟨r, hr', rfl⟩ := map_at hy
        have hi1 : i < rs.length := (List.getElem?_eq_some_iff.mp hr').1
        have hi2 : i < qs.length := rl ▸ hi1
        have hi3 : i < stE.2.length := r2.1 ▸ hi2
        obtain ⟨_, hq⟩ := hrs i r _ hr' (List.getElem?_eq_getElem hi2)
        have rq : Rel2 IsSg qs[i] stE.2[i] := r2.2 i _ _ (List.getElem?_eq_getElem hi2) (List.getElem?_eq_getElem hi3)
        rw [isSg_map rq] at hq
        have hq' := e6 _ _ (e5 _ _ hq)
        refine ⟨rfl, ⟨_, rfl⟩, _, rfl, _, r, _, rfl, rfl, .inl (SqL.of hq'), join_size _ (by have := hqp _ (List.getElem_mem hi3); omega), _, h6, szl (by simp; omega), e6.mut hD, ?_⟩
        rw [join_signs, upd_same, take_snoc (List.getElem?_eq_getElem hi3)]
      · rintro H5 ⟨e6, h6⟩
        have eL : (rs.map V.ref).length = stE.2.length := by rw [List.length_map, rl, r2.1]
        rw [eL] at h6
        have h6' := lst_take h6
        refine ⟨(by show 2 ≤ sizeLine; decide), fun r hr' => ?_⟩
        have e7 : Ex H4 (upd H5 r (.tup [.ref x2, .ref D])) := Ex.new' e6 hr'
        exact k r x2 D _ (e3.trans (e5.trans e7)) upd_same (hB5.ex e7) hcs (Ex.new hr' _ _ h6')
end
end K7
/-! plain, turned_back, opposite. -/
namespace K7
open PySem L2 K7R
section
variable {P : Program} {w : World} {K : PySem.W.Frag} {mg : Str → Option Value} {base : Heap}
def intV (l : List Int) : List V := l.map V.int
def sp_plain : Sp := fun vs H Q _ => ∃ (a b : Nat) (v : V) (r : Bool) (s : List Int), vs = [.int (a : Int), .int (b : Int), v] ∧ 0 < a ∧ 0 < b ∧ DeedV H v (.draw r s) ∧ s.length ≤ 1000 ∧ ∀ v' H', Ex H H' → DeedV H' v' (.draw r (plainS (modu a b r) s)) → Q v' H'
abbrev s_plain : Stmt := top 33
theorem sc_plain : FnScope ["width", "height", "deed", "length", "stride"] ["width", "height", "deed"] (defScope s_plain) := ⟨rfl, rfl, rfl, by decide +kernel, rfl, by decide +kernel, by decide +kernel⟩
theorem ok_plain {f : Addr} {fd : FuncData} (F : Fun K "plain" "plain" s_plain f fd) (T : Txt K mg) : FnOk P w K mg base CX0 1 f fd ["width", "height", "deed"] sp_plain := by
  refine F.ok sc_plain (fun vs H Q E h => ?_) (fun cdv A outer s H vs Q E hr h => ?_)
  · obtain ⟨_, _, _, _, _, rfl, _⟩ := h
    rfl
  · obtain ⟨a, b, v, r, s, rfl, ha, hb, ⟨p, q, rfl, hp, hq⟩, hl, k⟩ := h
    refine ⟨_, ((pss_cons (ps_set (i := 3) sc_plain.nd rfl (by first | exact Or.inl rfl | exact Or.inr rfl) (pe_ifExp (pt_cmpR op_eq (pe_ix ix_tup (pv 2) pe_int (fun _ _ => rfl)) (pe_gl (by rfl) T.g_RAKE) (nomark _)) (pv 0) (pv 1)))
      (pss_one (ps_ret (pe_tup (pa_cons (pe_ix ix_tup (pv 2) pe_int (fun _ _ => rfl)) (pa_cons (pe_callTy call_tuple_of (by rfl) T.b_tuple (by decide +kernel) (pa_cons (pe_lc (own := [("stride", 4)]) (g := gName 4) (tt := tYes) rfl sc_plain.nd (pi_tup (pe_ix ix_tup (pv 2) pe_int (fun _ _ => rfl))) (blkOk_by (own := [("stride", 4)]) (N := ["width", "height", "deed", "length", "stride"]) (sc := defScope s_plain) (by decide +kernel)) (fun _ _ _ _ _ => (pg_name (i := 4) sc_plain.nd rfl (Or.inl rfl))) (fun _ _ _ _ _ => pts_nil) (fun _ _ _ _ _ => (pe_op op_mod (pe_callTy call_int1 (by rfl) T.b_int (by decide +kernel) (pa_cons (pv 4) pa_nil)) (pv 3)))) pa_nil)) pa_nil))))))), ?_⟩
    refine ⟨_, rfl, p, _, _, _, rfl, rfl, SqT.of hp, rfl, rfl, _, rfl, ?_⟩
    have rest : ∀ m : Nat, m = modu a b r → 0 < m → (tRet (tTup (tCons (tOp (rIxT K) (tVar 2) (tC (.int 0))) (tCons (tCB (fun xs H Q => ∃ p ys, xs = [V.ref p] ∧ ((SqL K H p ys ∧ ∀ l, H l = none → Q (V.ref l) (upd H l (.tup ys))) ∨ (SqT K H p ys ∧ Q (V.ref p) H)))
        (tCons (tLc (iTup K (tOp (rIxT K) (tVar 2) (tC (.int 1)))) (gName 4) tYes (tOp (rI (fun _ j => 0 < j) fun i j => .int (i % j)) (tCB (fun xs H Q => (∃ i, xs = [V.int i] ∧ Q (.int i) H) ∨ ∃ k, xs = [V.bl k] ∧ Q (.int (if k then 1 else 0)) H) (tCons (tVar 4) tNil)) (tVar 3)) [4]) tNil)) tNil))))
        { nx := fun _ H' => Q .non H', rt := Q } [some (.int (a : Int)), some (.int (b : Int)), some (.ref p), some (.int (m : Int)), none] H := by
      intro m hm hm0
      refine ⟨_, rfl, p, _, _, _, rfl, rfl, SqT.of hp, rfl, _, rfl, p, _, _, _, rfl, rfl, SqT.of hp, rfl, q, rfl, ⟨_, SqT.of hq⟩, fun D hD => ?_⟩
      refine lc_it walk_tup (fun i H' => Ex H H' ∧ H' D = some (.lst ((s.take i).map fun x => V.int (x % (m : Int))))) ⟨Ex.new hD, upd_same⟩ (fun i H' _ p => SqT.of (p.1 _ _ hq)) ?_ ?_
      · rintro i x H2 H3 hi ⟨e2, h2⟩ ⟨rfl, hx⟩
        obtain ⟨y, hy, rfl⟩ := map_at hx
        refine ⟨rfl, _, rfl, .inl ⟨_, rfl, _, rfl, _, _, rfl, rfl, (by omega), _, h2, szl (by simp; omega), e2.mut hD, ?_⟩⟩
        rw [upd_same, take_snoc hy]
      · rintro H1 ⟨e1, h1⟩
        rw [List.length_map] at h1
        have h1' := lst_take h1
        refine ⟨D, _, rfl, .inl ⟨SqL.of h1', fun t ht => ?_⟩⟩
        have e2 : Ex H (upd H1 t (.tup (s.map fun x => V.int (x % (m : Int))))) := Ex.new' e1 ht
        refine ⟨(by show 2 ≤ sizeLine; decide), fun z hz => ?_⟩
        refine k _ _ (Ex.new' e2 hz) ⟨z, t, rfl, upd_same, Ex.new hz _ _ ?_⟩
        rw [upd_same]
        unfold plainS
        rw [List.map_map, ← hm]
        rfl
    cases r with
    | true => exact itP (by decide +kernel) ⟨_, rfl, rest a rfl ha⟩
    | false => exact itN (by decide +kernel) ⟨_, rfl, rest b rfl hb⟩

def sp_turned : Sp := fun vs H Q _ => ∃ (a b : Nat) (v : V) (r : Bool) (s : List Int), vs = [.int (a : Int), .int (b : Int), v] ∧ 0 < a ∧ 0 < b ∧ DeedV H v (.draw r s) ∧ s.length ≤ 1000 ∧ ∀ v' H', Ex H H' → DeedV H' v' (.draw r (plainS (modu a b r) (negS s))) → Q v' H'
abbrev s_turned_back : Stmt := top 34
theorem sc_turned_back : FnScope ["width", "height", "deed", "stride"] ["width", "height", "deed"] (defScope s_turned_back) := ⟨rfl, rfl, rfl, by decide +kernel, rfl, by decide +kernel, by decide +kernel⟩
theorem ok_turned {f : Addr} {fd : FuncData} (F : Fun K "turned_back" "turned_back" s_turned_back f fd) (T : Txt K mg) (k_plain : Kn P w K mg base "plain" 1 ["width", "height", "deed"] sp_plain) : FnOk P w K mg base CX0 2 f fd ["width", "height", "deed"] sp_turned := by
  refine F.ok sc_turned_back (fun vs H Q E h => ?_) (fun cdv A outer s H vs Q E hr h => ?_)
  · obtain ⟨_, _, _, _, _, rfl, _⟩ := h
    rfl
  · obtain ⟨a, b, v, r, s, rfl, ha, hb, ⟨p, q, rfl, hp, hq⟩, hl, k⟩ := h
    refine ⟨_, ((pss_one (ps_ret (pe_kn k_plain (hr.mono (by decide)) (by rfl) (pa_cons (pv 0) (pa_cons (pv 1) (pa_cons (pe_tup (pa_cons (pe_ix ix_tup (pv 2) pe_int (fun _ _ => rfl)) (pa_cons (pe_callTy call_tuple_of (by rfl) T.b_tuple (by decide +kernel) (pa_cons (pe_lc (own := [("stride", 3)]) (g := gName 3) (tt := tYes) rfl sc_turned_back.nd (pi_tup (pe_ix ix_tup (pv 2) pe_int (fun _ _ => rfl))) (blkOk_by (own := [("stride", 3)]) (N := ["width", "height", "deed", "stride"]) (sc := defScope s_turned_back) (by decide +kernel)) (fun _ _ _ _ _ => (pg_name (i := 3) sc_turned_back.nd rfl (Or.inl rfl))) (fun _ _ _ _ _ => pts_nil) (fun _ _ _ _ _ => (pe_op op_sub pe_int (pv 3)))) pa_nil)) pa_nil))) pa_nil))))))), ?_⟩
    refine ⟨_, rfl, _, rfl, _, rfl, p, _, _, _, rfl, rfl, SqT.of hp, rfl, _, rfl, p, _, _, _, rfl, rfl, SqT.of hp, rfl, q, rfl, ⟨_, SqT.of hq⟩, fun D hD => ?_⟩
    refine lc_it walk_tup (fun i H' => Ex H H' ∧ H' D = some (.lst ((s.take i).map fun x => V.int (0 - x)))) ⟨Ex.new hD, upd_same⟩ (fun i H' _ p => SqT.of (p.1 _ _ hq)) ?_ ?_
    · rintro i x H2 H3 hi ⟨e2, h2⟩ ⟨rfl, hx⟩
      obtain ⟨y, hy, rfl⟩ := map_at hx
      refine ⟨rfl, _, rfl, _, _, rfl, rfl, _, h2, szl (by simp; omega), e2.mut hD, ?_⟩
      rw [upd_same, take_snoc hy]
    · rintro H1 ⟨e1, h1⟩
      rw [List.length_map] at h1
      have h1' := lst_take h1
      refine ⟨D, _, rfl, .inl ⟨SqL.of h1', fun t ht => ?_⟩⟩
      have e2 : Ex H (upd H1 t (.tup (s.map fun x => V.int (0 - x)))) := Ex.new' e1 ht
      refine ⟨(by show 2 ≤ sizeLine; decide), fun z hz => ?_⟩
      have e3 := Ex.new' (o := .tup [.str (kindS r), .ref t]) e2 hz
      refine ⟨a, b, .ref z, r, negS s, rfl, ha, hb, ⟨z, t, rfl, upd_same, Ex.new hz _ _ ?_⟩, by rw [negS_len]; exact hl, fun v' H' e4 hv => k v' H' (e3.trans e4) hv⟩
      rw [upd_same]
      unfold negS
      rw [List.map_map]
      rfl

def sp_opposite (T : Txt K mg) : Sp := fun vs H Q _ => ∃ (bt : Addr) (v : V) (a b : Nat) (z : List Nat) (r : Bool) (s : List Int), vs = [.ref bt, v] ∧ BathAt T H bt a b z ∧ Sz a b ∧ DeedV H v (.draw r s) ∧ Va a b (.draw r s) ∧
  ∀ v' H', Ex H H' → DeedV H' v' (.draw r (plainS (modu a b r) (negS s))) → Q v' H'
abbrev s_opposite : Stmt := top 35
theorem sc_opposite : FnScope ["bath", "deed"] ["bath", "deed"] (defScope s_opposite) := ⟨rfl, rfl, rfl, by decide +kernel, rfl, by decide +kernel, by decide +kernel⟩
theorem ok_opposite {f : Addr} {fd : FuncData} (F : Fun K "opposite" "opposite" s_opposite f fd) (T : Txt K mg) (k_width : Kp P w K mg base T.cBath "width" 1 (sp_width T)) (k_height : Kp P w K mg base T.cBath "height" 1 (sp_height T))
    (k_is_draw : Kn P w K mg base "is_draw" 3 ["width", "height", "value"] sp_is_draw) (k_turned_back : Kn P w K mg base "turned_back" 2 ["width", "height", "deed"] sp_turned) : FnOk P w K mg base CX0 4 f fd ["bath", "deed"] (sp_opposite T) := by
  refine F.ok sc_opposite (fun vs H Q E h => ?_) (fun cdv A outer s H vs Q E hr h => ?_)
  · obtain ⟨_, _, _, _, _, _, _, rfl, _⟩ := h
    rfl
  · obtain ⟨bt, v, a, b, z, r, s, rfl, hB, hs, hd, hva, k⟩ := h
    refine ⟨_, ((pss_cons (ps_if (pt_not (pt_val (pe_kn k_is_draw (hr.mono (by decide)) (by rfl) (pa_cons (pe_kp k_width T.sc (hr.mono (by decide)) (pv 0)) (pa_cons (pe_kp k_height T.sc (hr.mono (by decide)) (pv 0)) (pa_cons (pv 1) pa_nil)))))) (pss_one ps_never) pss_nil)
      (pss_one (ps_ret (pe_kn k_turned_back (hr.mono (by decide)) (by rfl) (pa_cons (pe_kp k_width T.sc (hr.mono (by decide)) (pv 0)) (pa_cons (pe_kp k_height T.sc (hr.mono (by decide)) (pv 0)) (pa_cons (pv 1) pa_nil)))))))), ?_⟩
    have bat : ∀ {H' : Hp}, Ex H H' → ∃ dx vs, SlX.Slt H' bt T.cBath dx vs ∧ BathAt T H' bt a b z := fun e => by
      have hB' := hB.ex e
      have hB2 := hB'
      obtain ⟨dx, t, hsl, _⟩ := hB2
      exact ⟨dx, _, hsl, hB'⟩
    obtain ⟨dx0, vs0, hsl0, _⟩ := bat (Ex.refl H)
    refine ⟨_, rfl, bt, dx0, vs0, rfl, hsl0, bt, a, b, z, rfl, hB, _, rfl, bt, dx0, vs0, rfl, hsl0, bt, a, b, z, rfl, hB, _, rfl, a, b, v, _, rfl, hs, hd, hva, fun H1 e1 => ⟨_, rfl, iteF ?_⟩⟩
    obtain ⟨dx1, vs1, hsl1, hB1⟩ := bat e1
    refine ⟨_, rfl, bt, dx1, vs1, rfl, hsl1, bt, a, b, z, rfl, hB1, _, rfl, bt, dx1, vs1, rfl, hsl1, bt, a, b, z, rfl, hB1, _, rfl, a, b, v, r, s, rfl, hs.1, hs.2.2.1, hd.ex e1.t, ?_, fun v' H' e2 hv => k v' H' (e1.trans e2) hv⟩
    have := cnt_le hs r
    have := hva.1
    omega
end
end K7
/-! short. -/
namespace K7
open PySem L2 K7R
theorem s_forAny {K : PySem.W.Frag} {g : TG} {tb : TS} {D : Ends} {σ : L2.St} {H0 H : Hp} {j : Nat} {p : Addr} {us : List V} (hσ : σ[j]? = some (some (.ref p))) (hp : H0 p = some (.tup us) ∨ H0 p = some (.lst us)) (Pv : Nat → L2.St → Hp → Prop) (h0 : Pv 0 σ H)
    (hG : ∀ i σ' H', Pv i σ' H' → Ex H0 H') (hs : ∀ (i : Nat) x σ' H', us[i]? = some x → Pv i σ' H' → g x σ' H' fun σ2 H2 => tb { D with nx := Pv (i + 1), ct := Pv (i + 1), bk := D.nx } σ2 H2) (hd : ∀ σ' H', Pv us.length σ' H' → D.nx σ' H') :
    tFor (iAny K (tVar j)) g tb D σ H := by
  refine ⟨_, hσ, p, rfl, ?_⟩
  rcases hp with hp | hp
  · refine .inr ⟨⟨us, SqT.of (hG 0 σ H h0 _ _ hp)⟩, for_it walk_tup Pv h0 (fun i σ' H' _ q => SqT.of (hG i σ' H' q _ _ hp)) (fun i x σ' H1 H2 hi q y => ?_) hd⟩
    obtain ⟨rfl, hx⟩ := y
    exact hs i x σ' _ hx q
  · refine .inl ⟨⟨us, SqL.of (hG 0 σ H h0 _ _ hp)⟩, for_it walk_list Pv h0 (fun i σ' H' _ q => SqL.of (hG i σ' H' q _ _ hp)) (fun i x σ' H1 H2 hi q y => ?_) hd⟩
    obtain ⟨rfl, hx⟩ := y
    exact hs i x σ' _ hx q
theorem rel2_snoc_inv {α β : Type} [Inhabited α] [Inhabited β] {R : α → β → Prop} {xs : List α} {ys : List β} {y : β} (h : Rel2 R xs (ys ++ [y])) : ∃ xs' x, xs = xs' ++ [x] ∧ Rel2 R xs' ys ∧ R x y := by
  have hl : xs.length = ys.length + 1 := by have := h.1; rw [List.length_append] at this; exact this
  have hne : xs ≠ [] := fun e => by rw [e] at hl; simp at hl
  refine ⟨xs.dropLast, xs.getLast hne, (List.dropLast_concat_getLast hne).symm, ⟨by rw [List.length_dropLast, hl]; rfl, fun i a b ha hb => ?_⟩, ?_⟩
  · have hi : i < ys.length := (List.getElem?_eq_some_iff.mp hb).1
    refine h.2 i a b ?_ (by rw [List.getElem?_append_left hi]; exact hb)
    rw [List.getElem?_dropLast] at ha
    split at ha
    · exact ha
    · cases ha
  · refine h.2 ys.length _ y ?_ (by simp)
    rw [List.getLast_eq_getElem, List.getElem?_eq_getElem (by omega)]
    congr 2
    omega
def dKind : Deed → Str
  | .draw r _ => kindS r
  | .drop _ _ => "drop"
  | .paper _ => "paper"
theorem deed_head {H : Hp} {v : V} : ∀ {d : Deed}, DeedV H v d → ∃ p xs, v = .ref p ∧ H p = some (.tup (.str (dKind d) :: xs))
  | .draw _ _, ⟨a, _, h1, h2, _⟩ => ⟨a, _, h1, h2⟩
  | .drop _ _, ⟨a, h1, h2⟩ => ⟨a, _, h1, h2⟩
  | .paper _, ⟨a, _, h1, h2, _⟩ => ⟨a, _, h1, h2⟩
theorem kind_ne : ("rake" : Str) ≠ "comb" ∧ ("drop" : Str) ≠ "rake" ∧ ("drop" : Str) ≠ "comb" ∧ ("paper" : Str) ≠ "rake" ∧ ("paper" : Str) ≠ "comb" := by decide +kernel
theorem kindS_inj {r r' : Bool} (h : kindS r' = kindS r) : r' = r := by
  cases r <;> cases r' <;> first | rfl | exact absurd h kind_ne.1 | exact absurd h kind_ne.1.symm
theorem kind_top {r : Bool} {top : Deed} {rest : List Deed} (h : topNot r (top :: rest)) : dKind top ≠ kindS r := by
  cases top with
  | draw r' s => exact fun e => h (kindS_inj e)
  | drop _ _ => cases r; exact kind_ne.2.2.1; exact kind_ne.2.1
  | paper _ => cases r; exact kind_ne.2.2.2.2; exact kind_ne.2.2.2.1
theorem in_kinds (r : Bool) : inV (.str (kindS r)) [.str "rake", .str "comb"] = true := by cases r <;> decide +kernel
theorem eqv_ne {l : List PyData} (h : l ≠ []) : PyData.eqv (.list l) (.list []) = false := by
  cases l with
  | nil => exact absurd rfl h
  | cons _ _ => rfl
theorem posi_max {ns : List Int} {m : Int} (hm : m ∈ ns) (hmax : ∀ y ∈ ns, y ≤ m) : decide (0 < m) = posi ns := by
  unfold posi
  rw [Bool.eq_iff_iff, decide_eq_true_eq, List.any_eq_true]
  constructor
  · intro h
    exact ⟨m, hm, by simp [h]⟩
  · rintro ⟨x, hx, h⟩
    have := hmax x hx
    have : 0 < x := of_decide_eq_true h
    omega
section
variable {P : Program} {w : World} {K : PySem.W.Frag} {mg : Str → Option Value} {base : Heap}
def sp_short : Sp := fun vs H Q _ => ∃ (a b : Nat) (p : Addr) (us : List V) (ds : List Deed), vs = [.int (a : Int), .int (b : Int), .ref p] ∧ Sz a b ∧ (H p = some (.tup us) ∨ H p = some (.lst us)) ∧ DeedsV H us ds ∧ (∀ d ∈ ds, lenD a b d ∧ colOk d) ∧ ds.length ≤ 12 ∧
  ∀ v' H', Ex H H' → RecV H' v' (short a b ds) → Q v' H'
abbrev s_short : Stmt := top 36
theorem sc_short : FnScope ["width", "height", "recipe", "found", "deed", "last", "one", "other"] ["width", "height", "recipe"] (defScope s_short) := ⟨rfl, rfl, rfl, by decide +kernel, rfl, by decide +kernel, by decide +kernel⟩
theorem ok_short {f : Addr} {fd : FuncData} (F : Fun K "short" "short" s_short f fd) (T : Txt K mg) (k_plain : Kn P w K mg base "plain" 1 ["width", "height", "deed"] sp_plain) : FnOk P w K mg base CX0 2 f fd ["width", "height", "recipe"] sp_short := by
  refine F.ok sc_short (fun vs H Q E h => ?_) (fun cdv A outer s H vs Q E hr h => ?_)
  · obtain ⟨_, _, _, _, _, rfl, _⟩ := h
    rfl
  · obtain ⟨a, b, p, us, ds, rfl, hs, hp, hds, hok, hdl, k⟩ := h
    have hs' := hs
    obtain ⟨s1, s2, s3, s4, s5⟩ := hs'
    refine ⟨_, ((Evl.pss_cut (ps_set (i := 3) sc_short.nd rfl (by first | exact Or.inl rfl | exact Or.inr rfl) (pe_lst pa_nil))
      (pss_cons (ps_for PassesOwn.never rfl (pi_any (pv 2)) (pg_name (i := 4) sc_short.nd rfl (by first | exact Or.inl rfl | exact Or.inr rfl)) (pss_cons (ps_if (pt_cmpR op_notIn_seq (pe_ix ix_tup (pv 4) pe_int (fun _ _ => rfl)) (pe_tup (pa_cons (pe_gl (by rfl) T.g_RAKE) (pa_cons (pe_gl (by rfl) T.g_COMB) pa_nil))) (by rfl)) (pss_cons (ps_expr (pe_bm PySem.F.plainAttrs_list PySem.F.slot_list_append PySem.F.type_list_append mt_append (pv 3) (pa_cons (pv 4) pa_nil)))
      (pss_one ps_continue)) pss_nil)
      (pss_cons (ps_set (i := 5) sc_short.nd rfl (by first | exact Or.inl rfl | exact Or.inr rfl) (pv 4))
      (Evl.pss_cut (ps_if (PW.pt (pw_and (pt_cmpR (op_neD hr.units) (pv 3) (pe_lst pa_nil) (nomark _)) (pw_and1 (pt_cmpR op_eq (pe_ix ix_tup (pe_ix ix_list (pv 3) (pe_un un_neg pe_int) (fun _ _ => rfl)) pe_int (fun _ _ => rfl)) (pe_ix ix_tup (pv 4) pe_int (fun _ _ => rfl)) (nomark _))))) (pss_one (ps_set (i := 5) sc_short.nd rfl (by first | exact Or.inl rfl | exact Or.inr rfl) (pe_tup (pa_cons (pe_ix ix_tup (pv 4) pe_int (fun _ _ => rfl)) (pa_cons (pe_callTy call_tuple_of (by rfl) T.b_tuple (by decide +kernel) (pa_cons (pe_lc (own := [("one", 6), ("other", 7)]) (g := gTup K 2 (gCons (gName 6) (gCons (gName 7) gNil))) (tt := tYes) rfl sc_short.nd (RZ.pi_zipA (by rfl) T.b_zip (pa_cons (pe_ix ix_tup (pe_bm0 PySem.F.plainAttrs_list PySem.F.slot_list_pop PySem.F.type_list_pop mt_pop (pv 3)) pe_int (fun _ _ => rfl)) (pa_cons (pe_ix ix_tup (pv 4) pe_int (fun _ _ => rfl)) pa_nil))) (blkOk_by (own := [("one", 6), ("other", 7)]) (N := ["width", "height", "recipe", "found", "deed", "last", "one", "other"]) (sc := defScope s_short) (by decide +kernel)) (fun _ _ _ _ _ => (pg_tup rfl (pgs_cons (pg_name (i := 6) sc_short.nd rfl (Or.inl rfl)) (pgs_cons (pg_name (i := 7) sc_short.nd rfl (Or.inl rfl)) pgs_nil)))) (fun _ _ _ _ _ => pts_nil) (fun _ _ _ _ _ => (pe_op op_add (pv 6) (pv 7)))) pa_nil)) pa_nil))))) pss_nil)
      (pss_cons (ps_set (i := 5) sc_short.nd rfl (by first | exact Or.inl rfl | exact Or.inr rfl) (pe_kn k_plain (hr.mono (by decide)) (by rfl) (pa_cons (pv 0) (pa_cons (pv 1) (pa_cons (pv 5) pa_nil)))))
      (pss_one (ps_if (pt_cmpR op_gt (pe_callB (cr_maxT rfl) (by rfl) T.b_max (by decide +kernel) (pa_cons (pe_ix ix_tup (pv 5) pe_int (fun _ _ => rfl)) pa_nil)) pe_int (nomark _)) (pss_one (ps_expr (pe_bm PySem.F.plainAttrs_list PySem.F.slot_list_append PySem.F.type_list_append mt_append (pv 3) (pa_cons (pv 5) pa_nil)))) pss_nil)))))))
      (pss_one (ps_ret (pe_callTy call_tuple_of (by rfl) T.b_tuple (by decide +kernel) (pa_cons (pv 3) pa_nil))))))), ?_⟩
    let stk : Nat → List Deed := fun i => (ds.take i).foldl (step a b) []
    have stk_succ : ∀ {i : Nat} (h : i < ds.length), stk (i + 1) = step a b (stk i) ds[i] := fun h => by
      show (ds.take (_ + 1)).foldl _ _ = _
      rw [List.take_succ_eq_append_getElem h, List.foldl_append]
      rfl
    have stk_len : ∀ i, (stk i).length ≤ 12 := fun i => by
      have := foldl_len (w := a) (h := b) (ds.take i) []
      rw [List.length_take] at this
      simp only [List.length_nil] at this
      show ((ds.take i).foldl (step a b) []).length ≤ 12
      omega
    have stk_lenD : ∀ i, ∀ e ∈ stk i, lenD a b e := fun i e he => by
      have R : Red a b (stk i) := foldl_red s1 s3 _ trivial fun d hd => (hok d (List.mem_of_mem_take hd)).1
      have := red_all R e he
      cases e with
      | draw r s => exact this.1
      | drop _ _ => trivial
      | paper _ => trivial
    have stk_col : ∀ i, ∀ e ∈ stk i, colOk e := fun i e he => by
      rcases foldl_mem (w := a) (h := b) (ds.take i) (stk := []) he with q | q | q
      · cases e with
        | draw _ _ => trivial
        | drop _ _ => cases q
        | paper _ => trivial
      · cases q
      · exact (hok e (List.mem_of_mem_take q)).2
    let Mid0 : L2.St → Hp → Prop := fun σ H' => Ex H H' ∧ ∃ l, H l = none ∧ H' l = some (.lst []) ∧ σ = [some (.int (a : Int)), some (.int (b : Int)), some (.ref p), some (.ref l), none, none, none, none]
    refine ⟨Mid0, ⟨Nat.zero_le _, fun l hl0 => ⟨Ex.new hl0, l, hl0, upd_same, rfl⟩⟩, ?_⟩
    rintro σ0 H0 ⟨e0, l, hl0, hl, rfl⟩
    refine s_forAny (H0 := H) (us := us) rfl hp (fun i σ H' => Ex H H' ∧ (∃ fs, H' l = some (.lst fs) ∧ DeedsV H' fs (stk i).reverse) ∧ ∃ o4 o5, σ = [some (.int (a : Int)), some (.int (b : Int)), some (.ref p), some (.ref l), o4, o5, none, none])
      ⟨e0, ⟨[], hl, rfl, fun i x y h _ => by simp at h⟩, none, none, rfl⟩ (fun _ _ _ q => q.1) ?_ ?_
    · rintro i y σ H1 hy ⟨e1, ⟨fs, h1, hfs⟩, o4, o5, rfl⟩
      have hid : i < ds.length := by rw [← hds.1]; exact (List.getElem?_eq_some_iff.mp hy).1
      have hd0 : DeedV H y ds[i] := hds.2 i y _ hy (List.getElem?_eq_getElem hid)
      have hd := hd0.ex e1.t
      have hlenD := (hok _ (List.getElem_mem hid)).1
      have hsucc := stk_succ hid
      have hslen := stk_len i
      have fslen : fs.length ≤ 12 := by have := hfs.1; rw [List.length_reverse] at this; omega
      -- what is no draw is laid on the stack
      have other : ∀ (d : Deed), ds[i] = d → isDraw d = false → DeedV H1 y d → ∀ (t : Addr) (xs : List V), H1 t = none →
          (tSeq (tDrop (tBM K "list" rAppend (tVar 3) (tCons (tVar 4) tNil))) tCont)
            { nx := fun _ _ => False, rt := Q, ct := fun σ H' => Ex H H' ∧ (∃ fs, H' l = some (.lst fs) ∧ DeedsV H' fs (stk (i + 1)).reverse) ∧ ∃ o4 o5, σ = [some (.int (a : Int)), some (.int (b : Int)), some (.ref p), some (.ref l), o4, o5, none, none] }
            [some (.int (a : Int)), some (.int (b : Int)), some (.ref p), some (.ref l), some y, o5, none, none] (upd H1 t (.tup xs)) := by
        intro d ed hnd hdv t xs ht
        have e2 : Ex H1 (upd H1 t (.tup xs)) := Ex.new ht
        have h2 := e2 _ _ h1
        refine ⟨_, rfl, .inl ⟨rfl, _, SqL.of h2⟩, _, rfl, l, fs, _, rfl, rfl, h2, szl (by omega), ?_⟩
        refine ⟨Ex.mut (e1.trans e2) hl0, ⟨_, upd_same, ?_⟩, _, _, rfl⟩
        have et : ExT H1 (upd (upd H1 t (.tup xs)) l (.lst (fs ++ [y]))) := e2.t.trans (ExT.upd (not_tup_lst h2))
        have es : (stk (i + 1)).reverse = (stk i).reverse ++ [d] := by
          rw [hsucc, ed]
          cases d with
          | draw _ _ => cases hnd
          | drop _ _ => exact List.reverse_cons
          | paper _ => exact List.reverse_cons
        rw [es]
        exact (hfs.ex et).snoc (hdv.ex et)
      cases hdd : ds[i] with
      | drop c x =>
        rw [hdd] at hd
        have hd2 := hd
        obtain ⟨p', rfl, hp'⟩ := hd2
        refine ⟨_, rfl, p', _, _, _, rfl, rfl, SqT.of hp', rfl, (by show 2 ≤ sizeLine; decide), fun t ht => ?_⟩
        refine ⟨t, _, rfl, .inr (SqT.of upd_same), rfl, rfl, _, rfl, itP (by decide +kernel) ?_⟩
        exact other _ hdd rfl hd t _ ht
      | paper cs =>
        rw [hdd] at hd
        have hd2 := hd
        obtain ⟨p', q', rfl, hp', hq'⟩ := hd2
        refine ⟨_, rfl, p', _, _, _, rfl, rfl, SqT.of hp', rfl, (by show 2 ≤ sizeLine; decide), fun t ht => ?_⟩
        refine ⟨t, _, rfl, .inr (SqT.of upd_same), rfl, rfl, _, rfl, itP (by decide +kernel) ?_⟩
        exact other _ hdd rfl hd t _ ht
      | draw r s =>
        rw [hdd] at hd hlenD hsucc
        have hls : s.length = cnt a b r := hlenD
        have hc5 := cnt_le hs r
        have hc0 := cnt_pos hs r
        obtain ⟨p', q', rfl, hp', hq'⟩ := hd
        refine ⟨_, rfl, p', _, _, _, rfl, rfl, SqT.of hp', rfl, (by show 2 ≤ sizeLine; decide), fun t ht => ?_⟩
        refine ⟨t, _, rfl, .inr (SqT.of upd_same), rfl, rfl, _, rfl, itN (by rw [if_pos rfl, in_kinds]; decide) ?_⟩
        have e2 : Ex H1 (upd H1 t (.tup [.str "rake", .str "comb"])) := Ex.new ht
        have hfs2 := hfs.ex e2.t
        have h2 := e2 _ _ h1
        have hp2 := e2 _ _ hp'
        have hq2 := e2 _ _ hq'
        have e12 := e1.trans e2
        generalize upd H1 t (.tup [.str "rake", .str "comb"]) = H2 at e2 hfs2 h2 hp2 hq2 e12 ⊢
        -- last = deed, then the joining
        let Mid : L2.St → Hp → Prop := fun σ H' => ∃ (base : List Deed) (fsb : List V) (lv : V) (ts : List Int), Ex H H' ∧ H' l = some (.lst fsb) ∧ DeedsV H' fsb base.reverse ∧ DeedV H' lv (.draw r ts) ∧ ts.length = cnt a b r ∧ base.length ≤ 12 ∧ push a b base r ts = stk (i + 1) ∧
          σ = [some (.int (a : Int)), some (.int (b : Int)), some (.ref p), some (.ref l), some (.ref p'), some lv, none, none]
        refine ⟨_, rfl, Mid, ?_, ?_⟩
        · -- found != [] and found[-1][0] == deed[0]
          have colf : ∀ d ∈ (stk i).reverse.map dD, Wf 2 d := fun d hd => by
            obtain ⟨e, he, rfl⟩ := List.mem_map.mp hd
            exact wf_deed (stk_col i e (List.mem_reverse.mp he))
          refine ⟨_, rfl, Nat.zero_le _, fun q hq => ?_⟩
          have e3 : Ex H2 (upd H2 q (.lst [])) := Ex.new hq
          have h3 := e3 _ _ h2
          have hp3 := e3 _ _ hp2
          have hq3 := e3 _ _ hq2
          have hfs3 := hfs2.ex e3.t
          have e13 := e12.trans e3
          refine ⟨.list ((stk i).reverse.map dD), .list [], .lst (SqL.of h3) (dpAll_rel (R := DeedV _) (fun v x q => dp_deed q) hfs3.1 hfs3.2), .lst (SqL.of upd_same) .nil, (wf_lst colf).shaped (by decide), rfl, _, rfl, ?_⟩
          generalize upd H2 q (.lst []) = H3 at e3 h3 hp3 hq3 hfs3 e13 ⊢
          cases hstk : stk i with
          | nil =>
            rw [hstk] at hsucc hfs3
            refine itN (by decide) (itN (by decide) ?_)
            exact ⟨[], fs, .ref p', s, e13, h3, hfs3, ⟨p', q', rfl, hp3, hq3⟩, hls, by simp, hsucc.symm, rfl⟩
          | cons top rest =>
            rw [hstk] at hsucc hfs3 hslen
            have hne : (List.map dD (top :: rest).reverse) ≠ [] := by simp
            refine itP (by rw [eqv_ne hne]; rfl) ?_
            rw [List.reverse_cons] at hfs3
            obtain ⟨fs', yt, rfl, hfr, hyt⟩ := rel2_snoc_inv hfs3
            obtain ⟨pt, xs, rfl, hpt⟩ := deed_head hyt
            refine ⟨_, rfl, _, rfl, l, _, _, .ref pt, rfl, rfl, SqL.of h3, atI_last _ _, pt, _, _, .str (dKind top), rfl, rfl, SqT.of hpt, atI_nat (j := 0) rfl, _, rfl, p', _, _, _, rfl, rfl, SqT.of hp3, rfl, rfl, _, rfl, ?_⟩
            rcases top_cases r (top :: rest) with htn | ⟨s', rest', heq⟩
            · refine itN (by simp [kind_top htn]) ?_
              refine ⟨top :: rest, _, .ref p', s, e13, h3, ?_, ⟨p', q', rfl, hp3, hq3⟩, hls, by simpa using hslen, ?_, rfl⟩
              · rw [List.reverse_cons]; exact hfs3
              · rw [hsucc]; exact (step_top htn s).symm
            · cases heq
              have hl' : s'.length = cnt a b r := stk_lenD i (.draw r s') (by rw [hstk]; exact List.mem_cons_self)
              refine itP (by simp [dKind]) ?_
              obtain ⟨pt2, qt, epp, hpt2, hqt⟩ := hyt
              cases epp
              refine ⟨_, rfl, p', _, _, _, rfl, rfl, SqT.of hp3, rfl, ?_⟩
              refine ⟨_, rfl, .inl ⟨rfl, _, SqL.of h3⟩, l, _, .ref pt, rfl, rfl, h3, by simp, ?_⟩
              have edl : (fs' ++ [V.ref pt]).dropLast = fs' := by simp
              rw [edl]
              have et4 : ExT H3 (upd H3 l (.lst fs')) := ExT.upd (not_tup_lst h3)
              have e14 : Ex H (upd H3 l (.lst fs')) := Ex.mut e13 hl0
              have hpt4 := et4 _ _ hpt2
              have hqt4 := et4 _ _ hqt
              have hp4 := et4 _ _ hp3
              have hq4 := et4 _ _ hq3
              have hfr4 := DeedsV.ex et4 hfr
              have h4 : (upd H3 l (.lst fs')) l = some (.lst fs') := upd_same
              generalize upd H3 l (.lst fs') = H4 at et4 e14 hpt4 hqt4 hp4 hq4 hfr4 h4 ⊢
              refine ⟨pt, _, _, _, rfl, rfl, SqT.of hpt4, rfl, _, rfl, p', _, _, _, rfl, rfl, SqT.of hp4, rfl, ?_⟩
              refine ⟨qt, q', _, _, rfl, .inr ⟨SqT.of hqt4, SqT.of hq4, fun D hD => ?_⟩⟩
              have hal : (addS s' s).length = cnt a b r := by rw [addS_len, hl', hls, Nat.min_self]
              refine lc_it (walk_zipT rfl) (fun j H' => Ex H4 H' ∧ H' D = some (.lst (((addS s' s).take j).map V.int))) ⟨Ex.new hD, upd_same⟩ (fun j H' _ p => ⟨SqT.of (p.1 _ _ hqt4), SqT.of (p.1 _ _ hq4)⟩) ?_ ?_
              · rintro j vv H5 H6 hj ⟨e5, h5⟩ ⟨TT, x1, x2, rfl, hT, rfl, hx1, hx2⟩
                obtain ⟨y1, hy1, rfl⟩ := map_at hx1
                obtain ⟨y2, hy2, rfl⟩ := map_at hx2
                have hsum : (addS s' s)[j]? = some (y1 + y2) := by
                  unfold addS
                  rw [List.getElem?_zipWith, hy1, hy2]
                refine ⟨TT, _, rfl, SqT.of upd_same, rfl, _, _, rfl, _, _, rfl, rfl, rfl, ?_⟩
                refine ⟨_, rfl, _, rfl, _, _, rfl, rfl, _, Ex.new hT _ _ h5, szl (by simp; omega), Ex.mut (Ex.new' e5 hT) hD, ?_⟩
                rw [upd_same, take_snoc hsum]
              · rintro H5 ⟨e5, h5⟩
                have en : min (s'.map V.int).length (s.map V.int).length = (addS s' s).length := by rw [List.length_map, List.length_map, hal, hl', hls, Nat.min_self]
                rw [en] at h5
                have h5' := lst_take h5
                refine ⟨D, _, rfl, .inl ⟨SqL.of h5', fun tt htt => ?_⟩⟩
                have e6 : Ex H4 (upd H5 tt (.tup ((addS s' s).map V.int))) := Ex.new' e5 htt
                refine ⟨(by show 2 ≤ sizeLine; decide), fun zz hzz => ?_⟩
                have e7 : Ex H4 (upd (upd H5 tt (.tup ((addS s' s).map V.int))) zz (.tup [.str (kindS r), .ref tt])) := Ex.new' e6 hzz
                refine ⟨rest, fs', .ref zz, addS s' s, e14.trans e7, e7 _ _ h4, hfr4.ex e7.t, ⟨zz, tt, rfl, upd_same, Ex.new hzz _ _ upd_same⟩, hal, ?_, ?_, rfl⟩
                · simp only [List.length_cons] at hslen; omega
                · rw [hsucc, step_same]
        · -- last = plain(..); if max(last[1]) > 0: found.append(last)
          rintro σ3 H3 ⟨base, fsb, lv, ts, e3, h3, hfb, hlv, hts, hbl, hpush, rfl⟩
          have hbfl : fsb.length ≤ 12 := by have := hfb.1; rw [List.length_reverse] at this; omega
          refine ⟨_, rfl, _, rfl, _, rfl, a, b, lv, r, ts, rfl, s1, s3, hlv, by omega, fun v' H4 e4 hv' => ?_⟩
          obtain ⟨pp, qq, rfl, hpp, hqq⟩ := hv'
          have hn0 : 0 < (plainS (modu a b r) ts).length := by rw [plainS_len, hts]; exact hc0
          have h4 := e4 _ _ h3
          have hfb4 := hfb.ex e4.t
          refine ⟨_, rfl, pp, _, _, _, rfl, rfl, SqT.of hpp, rfl, qq, _, rfl, SqT.of hqq, hn0, fun m hm hmax => ?_⟩
          refine ⟨_, _, rfl, rfl, _, rfl, ?_⟩
          have epos := posi_max hm hmax
          by_cases hpos : posi (plainS (modu a b r) ts) = true
          · refine itP (epos.trans hpos) ?_
            refine ⟨_, rfl, .inl ⟨rfl, _, SqL.of h4⟩, _, rfl, l, fsb, _, rfl, rfl, h4, szl (by omega), ?_⟩
            have et : ExT H4 (upd H4 l (.lst (fsb ++ [.ref pp]))) := ExT.upd (not_tup_lst h4)
            refine ⟨Ex.mut (e3.trans e4) hl0, ⟨_, upd_same, ?_⟩, _, _, rfl⟩
            have es : stk (i + 1) = .draw r (plainS (modu a b r) ts) :: base := by rw [← hpush]; exact if_pos hpos
            rw [es, List.reverse_cons]
            exact (hfb4.ex et).snoc (DeedV.ex (d := .draw r (plainS (modu a b r) ts)) et ⟨pp, qq, rfl, hpp, hqq⟩)
          · refine itN (fun z => hpos (epos.symm.trans z)) ?_
            have es : stk (i + 1) = base := by rw [← hpush]; exact if_neg hpos
            refine ⟨e3.trans e4, ⟨fsb, h4, ?_⟩, _, _, rfl⟩
            rw [es]
            exact hfb4
    · rintro σ H1 ⟨e1, ⟨fs, h1, hfs⟩, o4, o5, rfl⟩
      refine ⟨_, rfl, l, fs, rfl, .inl ⟨SqL.of h1, fun t ht => ?_⟩⟩
      refine k _ _ (Ex.new' e1 ht) ⟨t, fs, rfl, upd_same, ?_⟩
      have es : stk us.length = shortR a b ds := by
        show (ds.take us.length).foldl (step a b) [] = ds.foldl (step a b) []
        rw [hds.1, List.take_length]
      rw [es] at hfs
      exact hfs.ex (Ex.new ht).t
end
end K7
/-! shortened, undoing. -/
namespace K7
open PySem L2 K7R
theorem oppD_draw {a b : Nat} {d : Deed} (h : isDraw d = true) : ∃ r s, d = .draw r s := by
  cases d with
  | draw r s => exact ⟨r, s, rfl⟩
  | drop _ _ => cases h
  | paper _ => cases h
section
variable {P : Program} {w : World} {K : PySem.W.Frag} {mg : Str → Option Value} {base : Heap}
theorem BathAt.slt {T : Txt K mg} {H : Hp} {bt : Addr} {a b : Nat} {z : List Nat} (h : BathAt T H bt a b z) : ∃ dx vs, SlX.Slt H bt T.cBath dx vs := by
  obtain ⟨dx, t, hsl, _⟩ := h
  exact ⟨dx, _, hsl⟩
def sp_shortened (T : Txt K mg) : Sp := fun vs H Q _ => ∃ (bt : Addr) (v : V) (a b : Nat) (z : List Nat) (ds : List Deed), vs = [.ref bt, v] ∧ BathAt T H bt a b z ∧ Sz a b ∧ RecV H v ds ∧ (∀ d ∈ ds, Va a b d) ∧ ds.length ≤ 12 ∧
  ∀ v' H', Ex H H' → RecV H' v' (short a b ds) → Q v' H'
abbrev s_shortened : Stmt := top 37
theorem sc_shortened : FnScope ["bath", "recipe"] ["bath", "recipe"] (defScope s_shortened) := ⟨rfl, rfl, rfl, by decide +kernel, rfl, by decide +kernel, by decide +kernel⟩
theorem ok_shortened {f : Addr} {fd : FuncData} (F : Fun K "shortened" "shortened" s_shortened f fd) (T : Txt K mg) (k_width : Kp P w K mg base T.cBath "width" 1 (sp_width T)) (k_height : Kp P w K mg base T.cBath "height" 1 (sp_height T))
    (k_check_recipe : Kn P w K mg base "check_recipe" 5 ["width", "height", "recipe"] sp_check_recipe) (k_short : Kn P w K mg base "short" 2 ["width", "height", "recipe"] sp_short) : FnOk P w K mg base CX0 6 f fd ["bath", "recipe"] (sp_shortened T) := by
  refine F.ok sc_shortened (fun vs H Q E h => ?_) (fun cdv A outer s H vs Q E hr h => ?_)
  · obtain ⟨_, _, _, _, _, _, rfl, _⟩ := h
    rfl
  · obtain ⟨bt, v, a, b, z, ds, rfl, hB, hs, hrec, hva, hdl, k⟩ := h
    refine ⟨_, ((pss_cons (ps_expr (pe_kn k_check_recipe (hr.mono (by decide)) (by rfl) (pa_cons (pe_kp k_width T.sc (hr.mono (by decide)) (pv 0)) (pa_cons (pe_kp k_height T.sc (hr.mono (by decide)) (pv 0)) (pa_cons (pv 1) pa_nil)))))
      (pss_one (ps_ret (pe_kn k_short (hr.mono (by decide)) (by rfl) (pa_cons (pe_kp k_width T.sc (hr.mono (by decide)) (pv 0)) (pa_cons (pe_kp k_height T.sc (hr.mono (by decide)) (pv 0)) (pa_cons (pv 1) pa_nil)))))))), ?_⟩
    obtain ⟨dx0, vs0, hsl0⟩ := hB.slt
    refine ⟨_, rfl, bt, dx0, vs0, rfl, hsl0, bt, a, b, z, rfl, hB, _, rfl, bt, dx0, vs0, rfl, hsl0, bt, a, b, z, rfl, hB, _, rfl, a, b, v, ds, rfl, hs, hrec, hva, hdl, fun H1 e1 => ?_⟩
    have hB1 := hB.ex e1
    obtain ⟨dx1, vs1, hsl1⟩ := hB1.slt
    obtain ⟨p, us, rfl, hp, hds⟩ := hrec
    exact ⟨_, rfl, bt, dx1, vs1, rfl, hsl1, bt, a, b, z, rfl, hB1, _, rfl, bt, dx1, vs1, rfl, hsl1, bt, a, b, z, rfl, hB1, _, rfl, a, b, p, us, ds, rfl, hs, .inl (e1 _ _ hp), hds.ex (Ex.t e1), fun d hd => ⟨(hva d hd).len, (hva d hd).col⟩, hdl, fun v' H' e2 hv => k v' H' (e1.trans e2) hv⟩

def sp_undoing (T : Txt K mg) : Sp := fun vs H Q _ => ∃ (bt : Addr) (v : V) (a b : Nat) (z : List Nat) (ds : List Deed), vs = [.ref bt, v] ∧ BathAt T H bt a b z ∧ Sz a b ∧ RecV H v ds ∧ (∀ d ∈ ds, Va a b d) ∧ ds.length ≤ 12 ∧
  (ds.all isDraw = false → ∀ H', Ex H H' → Q .non H') ∧ (ds.all isDraw = true → ∀ v' H', Ex H H' → RecV H' v' (short a b (ds.reverse.map (oppD a b))) → Q v' H')
theorem in_kinds2 (d : Deed) : inV (.str (dKind d)) [.str "rake", .str "comb"] = isDraw d := by
  cases d with
  | draw r s => exact in_kinds r
  | drop _ _ => exact (by decide +kernel : inV (.str "drop") [.str "rake", .str "comb"] = false)
  | paper _ => exact (by decide +kernel : inV (.str "paper") [.str "rake", .str "comb"] = false)
abbrev s_undoing : Stmt := top 38
theorem sc_undoing : FnScope ["bath", "recipe", "deed", "rows", "turn"] ["bath", "recipe"] (defScope s_undoing) := ⟨rfl, rfl, rfl, by decide +kernel, rfl, by decide +kernel, by decide +kernel⟩
theorem ok_undoing {f : Addr} {fd : FuncData} (F : Fun K "undoing" "undoing" s_undoing f fd) (T : Txt K mg) (k_width : Kp P w K mg base T.cBath "width" 1 (sp_width T)) (k_height : Kp P w K mg base T.cBath "height" 1 (sp_height T))
    (k_check_recipe : Kn P w K mg base "check_recipe" 5 ["width", "height", "recipe"] sp_check_recipe) (k_turned_back : Kn P w K mg base "turned_back" 2 ["width", "height", "deed"] sp_turned) (k_short : Kn P w K mg base "short" 2 ["width", "height", "recipe"] sp_short) :
    FnOk P w K mg base CX0 6 f fd ["bath", "recipe"] (sp_undoing T) := by
  refine F.ok sc_undoing (fun vs H Q E h => ?_) (fun cdv A outer s H vs Q E hr h => ?_)
  · obtain ⟨_, _, _, _, _, _, rfl, _⟩ := h
    rfl
  · obtain ⟨bt, v, a, b, z, ds, rfl, hB, hs, hrec, hva, hdl, kN, k⟩ := h
    refine ⟨_, ((pss_cons (ps_expr (pe_kn k_check_recipe (hr.mono (by decide)) (by rfl) (pa_cons (pe_kp k_width T.sc (hr.mono (by decide)) (pv 0)) (pa_cons (pe_kp k_height T.sc (hr.mono (by decide)) (pv 0)) (pa_cons (pv 1) pa_nil)))))
      (pss_cons (ps_if (pt_not (pt_val (pe_callB (cr_all rfl) (by rfl) T.b_all (by decide +kernel) (pa_cons (pe_lc (own := [("deed", 2)]) (g := gName 2) (tt := tYes) rfl sc_undoing.nd (pi_tup (pv 1)) (blkOk_by (own := [("deed", 2)]) (N := ["bath", "recipe", "deed", "rows", "turn"]) (sc := defScope s_undoing) (by decide +kernel)) (fun _ _ _ _ _ => (pg_name (i := 2) sc_undoing.nd rfl (Or.inl rfl))) (fun _ _ _ _ _ => pts_nil) (fun _ _ _ _ _ => (pe_cmpR (op_in_seqK (K := K)) (pe_ix (ix_tupK (K := K)) (pv 2) pe_int (fun _ _ => rfl)) (pe_tup (pa_cons (pe_gl (by rfl) T.g_RAKE) (pa_cons (pe_gl (by rfl) T.g_COMB) pa_nil))) (by rfl)))) pa_nil)))) (pss_one (ps_ret pe_non)) pss_nil)
      (pss_cons (ps_setLc (i := 3) (own := [("turn", 4)]) (g := gName 4) (tt := tYes) rfl sc_undoing.nd rfl rfl (sw_true rfl rfl rfl (by decide +kernel)) (pi_range1 (by rfl) T.b_range (pa_cons (pe_callB call_len (by rfl) T.b_len (by decide +kernel) (pa_cons (pv 1) pa_nil)) pa_nil)) (blkOk_by (own := [("turn", 4)]) (N := ["bath", "recipe", "deed", "rows", "turn"]) (sc := defScope s_undoing) (by decide +kernel)) (fun _ _ _ _ _ => (pg_name (i := 4) sc_undoing.nd rfl (Or.inl rfl))) (fun _ _ _ _ _ => pts_nil) (fun _ _ _ _ _ => (pe_kn k_turned_back (hr.mono (by decide)) (by rfl) (pa_cons (pe_kp k_width T.sc (hr.mono (by decide)) (pv 0)) (pa_cons (pe_kp k_height T.sc (hr.mono (by decide)) (pv 0)) (pa_cons (pe_ix (ix_tupK (K := K)) (pv 1) (pe_op op_sub (pe_op op_sub (pe_callB (call_lenK (K := K)) (by rfl) T.b_len (by decide +kernel) (pa_cons (pv 1) pa_nil)) pe_int) (pv 4)) (fun _ _ => rfl)) pa_nil))))))
      (pss_one (ps_ret (pe_kn k_short (hr.mono (by decide)) (by rfl) (pa_cons (pe_kp k_width T.sc (hr.mono (by decide)) (pv 0)) (pa_cons (pe_kp k_height T.sc (hr.mono (by decide)) (pv 0)) (pa_cons (pv 3) pa_nil)))))))))), ?_⟩
    obtain ⟨dx0, vs0, hsl0⟩ := hB.slt
    refine ⟨_, rfl, bt, dx0, vs0, rfl, hsl0, bt, a, b, z, rfl, hB, _, rfl, bt, dx0, vs0, rfl, hsl0, bt, a, b, z, rfl, hB, _, rfl, a, b, v, ds, rfl, hs, hrec, hva, hdl, fun H1 e1 => ?_⟩
    obtain ⟨p, us, rfl, hp, hds⟩ := hrec
    have hp1 := e1 _ _ hp
    -- all([deed[0] in (RAKE, COMB) for deed in recipe])
    refine ⟨_, rfl, p, rfl, ⟨_, SqT.of hp1⟩, fun D hD => ?_⟩
    refine lc_it walk_tup (fun i H' => Ex H1 H' ∧ H' D = some (.lst ((ds.take i).map fun d => V.bl (isDraw d)))) ⟨Ex.new hD, upd_same⟩ (fun i H' _ q => SqT.of (q.1 _ _ hp1)) ?_ ?_
    · rintro i x H2 H3 hi ⟨e2, h2⟩ ⟨rfl, hx⟩
      have hid : i < ds.length := by rw [← hds.1]; exact hi
      have hdi : DeedV H x ds[i] := hds.2 i x _ hx (List.getElem?_eq_getElem hid)
      obtain ⟨pd, xs, rfl, hpd⟩ := deed_head (hdi.ex (Ex.t (e1.trans e2)))
      refine ⟨rfl, _, rfl, pd, _, _, .str (dKind ds[i]), rfl, rfl, SqT.of hpd, atI_nat (j := 0) rfl, (by show 2 ≤ sizeLine; decide), fun t ht => ?_⟩
      refine ⟨t, _, rfl, .inr (SqT.of upd_same), rfl, rfl, _, Ex.new ht _ _ h2, szl (by simp; omega), Ex.mut (Ex.new' e2 ht) hD, ?_⟩
      rw [upd_same, take_snoc (List.getElem?_eq_getElem hid)]
      show some (HO.lst (_ ++ [V.bl (inV (.str (dKind ds[i])) [.str "rake", .str "comb"])])) = _
      rw [in_kinds2]
    · rintro H2 ⟨e2, h2⟩
      rw [hds.1] at h2
      have h2' := lst_take h2
      have e12 := e1.trans e2
      have em : (ds.map fun d => V.bl (isDraw d)) = (ds.map isDraw).map V.bl := by rw [List.map_map]; rfl
      rw [em] at h2'
      have ea : (ds.map isDraw).all id = ds.all isDraw := by rw [List.all_map]; rfl
      refine ⟨D, _, rfl, SqL.of h2', _, rfl, ?_⟩
      rw [ea]
      by_cases hall : ds.all isDraw = true
      · rw [hall]
        refine iteF ?_
        -- rows
        refine ⟨_, rfl, _, _, rfl, .inr ⟨us, SqT.of (e12 _ _ hp), rfl⟩, _, rfl, by omega, by have := hds.1; omega, fun D2 hD2 => ?_⟩
        have en : ((us.length : Nat) : Int).toNat = ds.length := by rw [Int.toNat_natCast]; exact hds.1
        rw [en]
        refine lc_it (walk_range (lo := 0)) (fun i H' => Ex H2 H' ∧ ∃ rs, H' D2 = some (.lst rs) ∧ DeedsV H' rs ((ds.reverse.take i).map (oppD a b))) ⟨Ex.new hD2, [], upd_same, rfl, fun i x y h _ => by simp at h⟩ (fun _ _ _ _ => trivial) ?_ ?_
        · rintro i x H3 H4 hi ⟨e3, rs, h3, hrs⟩ ⟨rfl, rfl⟩
          have e13 := e12.trans e3
          have hB3 := hB.ex e13
          obtain ⟨dx3, vs3, hsl3⟩ := hB3.slt
          have hj : ds.length - 1 - i < ds.length := by omega
          have hju : ds.length - 1 - i < us.length := by rw [hds.1]; exact hj
          have hdj : DeedV H us[ds.length - 1 - i] ds[ds.length - 1 - i] := hds.2 _ _ _ (List.getElem?_eq_getElem hju) (List.getElem?_eq_getElem hj)
          have hdraw : isDraw ds[ds.length - 1 - i] = true := List.all_eq_true.mp hall _ (List.getElem_mem hj)
          have hvj := hva _ (List.getElem_mem hj)
          have hrev : ds.reverse[i]? = some ds[ds.length - 1 - i] := by rw [List.getElem?_reverse hi]; exact List.getElem?_eq_getElem hj
          obtain ⟨r, ss, hdd⟩ := oppD_draw (a := a) (b := b) hdraw
          rw [hdd] at hdj hvj hrev
          have hl5 := cnt_le hs r
          have hl6 := hvj.1
          refine ⟨rfl, ?_⟩
          refine ⟨_, rfl, bt, dx3, vs3, rfl, hsl3, bt, a, b, z, rfl, hB3, _, rfl, bt, dx3, vs3, rfl, hsl3, bt, a, b, z, rfl, hB3, _, rfl, _, rfl, _, us.length, rfl, .inr ⟨us, SqT.of (e13 _ _ hp), rfl⟩, _, _, rfl, rfl, _, rfl, _, _, rfl, rfl, p, us, _, us[ds.length - 1 - i], rfl, rfl, SqT.of (e13 _ _ hp), ?_, ?_⟩
          · have e0 : ((us.length : Nat) : Int) - 1 - (0 + (i : Int)) = ((ds.length - 1 - i : Nat) : Int) := by have := hds.1; omega
            show atI us (((us.length : Nat) : Int) - 1 - (0 + (i : Int))) = _
            rw [e0]
            exact atI_nat (List.getElem?_eq_getElem hju)
          · refine ⟨a, b, _, r, ss, rfl, hs.1, hs.2.2.1, hdj.ex (Ex.t e13), by omega, fun v' H5 e5 hv' => ?_⟩
            have h5 := e5 _ _ h3
            have hrl : rs.length ≤ 12 := by have := hrs.1; simp at this; omega
            refine ⟨rs, h5, szl (by omega), Ex.mut (e3.trans e5) hD2, rs ++ [v'], upd_same, ?_⟩
            have et : ExT H5 (upd H5 D2 (.lst (rs ++ [v']))) := ExT.upd (not_tup_lst h5)
            have es : (ds.reverse.take (i + 1)).map (oppD a b) = (ds.reverse.take i).map (oppD a b) ++ [oppD a b (.draw r ss)] := by
              obtain ⟨h1, e1⟩ := List.getElem?_eq_some_iff.mp hrev
              rw [List.take_succ_eq_append_getElem h1, List.map_append, e1]
              rfl
            rw [es]
            exact ((hrs.ex e5.t).ex et).snoc (DeedV.ex (d := oppD a b (.draw r ss)) et hv')
        · rintro H3 ⟨e3, rs, h3, hrs⟩
          have er : (ds.reverse.take ds.length) = ds.reverse := List.take_of_length_le (by simp)
          rw [er] at hrs
          have e13 := e12.trans e3
          have hB3 := hB.ex e13
          obtain ⟨dx3, vs3, hsl3⟩ := hB3.slt
          refine ⟨_, rfl, bt, dx3, vs3, rfl, hsl3, bt, a, b, z, rfl, hB3, _, rfl, bt, dx3, vs3, rfl, hsl3, bt, a, b, z, rfl, hB3, _, rfl, a, b, D2, rs, _, rfl, hs, .inr h3, hrs, fun d hd => ?_, by simp; omega, fun v' H4 e4 hv => k hall v' H4 (e13.trans e4) hv⟩
          obtain ⟨e, he, rfl⟩ := List.mem_map.mp hd
          have hv := hva e (List.mem_reverse.mp he)
          cases e with
          | draw r ss => exact ⟨by show (plainS _ (negS ss)).length = _; rw [plainS_len, negS_len]; exact hv.1, trivial⟩
          | drop c x => exact ⟨trivial, hv.col⟩
          | paper cs => exact ⟨trivial, trivial⟩
      · have hf : ds.all isDraw = false := by simpa using hall
        rw [hf]
        exact iteT (kN hf _ e12)
end
end K7
/-! origins_of. -/
namespace K7
open PySem L2 K7R
/-- the value is the source -/
def srcP : Src → List V
  | .cell k => [.str "cell", .int (k : Int)]
  | .drop i => [.str "drop", .int (i : Int)]
  | .paper i => [.str "paper", .int (i : Int)]
def IsSrc (H : Hp) (v : V) (s : Src) : Prop := ∃ p, v = .ref p ∧ H p = some (.tup (srcP s))
theorem IsSrc.ex {H H' : Hp} {v : V} {s : Src} (e : ExT H H') (h : IsSrc H v s) : IsSrc H' v s := by
  obtain ⟨p, h1, h2⟩ := h
  exact ⟨p, h1, e _ _ h2⟩
theorem srcs_ex {H H' : Hp} {vs : List V} {ss : List Src} (e : ExT H H') (h : Rel2 (IsSrc H) vs ss) : Rel2 (IsSrc H') vs ss := h.mono fun _ _ q => q.ex e
theorem srcss_ex {H H' : Hp} {vs : List (List V)} {ss : List (List Src)} (e : ExT H H') (h : Rel2 (Rel2 (IsSrc H)) vs ss) : Rel2 (Rel2 (IsSrc H')) vs ss := h.mono fun _ _ q => srcs_ex e q
theorem runS_snoc {a b : Nat} {d : Deed} : ∀ (ds : List Deed) (i : Nat) (st : List Src × List (List Src)), runS a b (ds ++ [d]) i st = doD a b d (srcOf d (i + ds.length)) (runS a b ds i st)
  | [], i, st => rfl
  | e :: ds, i, st => by
    show runS a b (ds ++ [d]) (i + 1) _ = _
    rw [runS_snoc ds (i + 1)]
    have e1 : i + 1 + ds.length = i + (e :: ds).length := by simp; omega
    rw [e1]
    rfl
theorem runS_take {a b : Nat} {ds : List Deed} {i : Nat} (h : i < ds.length) (st : List Src × List (List Src)) : runS a b (ds.take (i + 1)) 0 st = doD a b ds[i] (srcOf ds[i] i) (runS a b (ds.take i) 0 st) := by
  rw [List.take_succ_eq_append_getElem h, runS_snoc]
  have e : 0 + (ds.take i).length = i := by rw [List.length_take]; omega
  rw [e]
theorem runS_len {a b : Nat} : ∀ (ds : List Deed) (i : Nat) {st : List Src × List (List Src)}, st.1.length = a * b → (runS a b ds i st).1.length = a * b
  | [], _, _, h => h
  | d :: ds, i, _, h => runS_len ds (i + 1) (doD_len h)
theorem runS_papers {a b : Nat} : ∀ (ds : List Deed) (i : Nat) (st : List Src × List (List Src)), (runS a b ds i st).2.length ≤ st.2.length + ds.length
  | [], _, st => Nat.le_refl _
  | d :: ds, i, st => by
    have h1 := runS_papers (a := a) (b := b) ds (i + 1) (doD a b d (srcOf d i) st)
    have h2 := doD_papers (a := a) (b := b) (d := d) (f := srcOf d i) (st := st)
    show (runS a b ds (i + 1) (doD a b d (srcOf d i) st)).2.length ≤ st.2.length + (ds.length + 1)
    omega
theorem runS_plen {a b : Nat} : ∀ (ds : List Deed) (i : Nat) (st : List Src × List (List Src)), (∀ cs, .paper cs ∈ ds → cs.length ≤ 12) → (∀ q ∈ st.2, q.length ≤ 12) → ∀ q ∈ (runS a b ds i st).2, q.length ≤ 12
  | [], _, _, _, h => h
  | d :: ds, i, st, hd, h => runS_plen ds _ _ (fun cs hc => hd cs (List.mem_cons_of_mem _ hc)) (doD_plen (fun cs e => hd cs (e ▸ List.mem_cons_self)) h)
section
variable {P : Program} {w : World} {K : PySem.W.Frag} {mg : Str → Option Value} {base : Heap}
theorem TrayAt.ex' {T : Txt K mg} {H0 H H' : Hp} {t : Addr} {a b : Nat} {us : List V} {qs : List (List V)} (e : Ex H H') (h : TrayAt T H0 H t a b us qs) : TrayAt T H0 H' t a b us qs := by
  obtain ⟨e0, nt, dx, st, l, p, fs, rs, ht, FS, hst, hl, hp, np, nlp, rl, hrs⟩ := h
  exact ⟨e0.trans e, nt, dx, st, l, p, fs, rs, e _ _ ht, FS, e _ _ hst, e _ _ hl, e _ _ hp, np, nlp, rl, fun i r q h1 h2 => ⟨(hrs i r q h1 h2).1, e _ _ (hrs i r q h1 h2).2⟩⟩
def sp_origins : Sp := fun vs H Q _ => ∃ (a b : Nat) (v : V) (ds : List Deed), vs = [.int (a : Int), .int (b : Int), v] ∧ Sz a b ∧ RecV H v ds ∧ (∀ d ∈ ds, Va a b d) ∧ ds.length ≤ 12 ∧
  ∀ r tp lp us rs H', Ex H H' → H' r = some (.tup [.ref tp, .ref lp]) → H' tp = some (.tup us) → Rel2 (IsSrc H') us (runS a b ds 0 (cells0 a b, [])).1 → H' lp = some (.lst (rs.map V.ref)) →
    Rel2 (fun (r : Addr) q => ∃ us, H' r = some (.tup us) ∧ Rel2 (IsSrc H') us q) rs (runS a b ds 0 (cells0 a b, [])).2 → Q (.ref r) H'
abbrev s_origins_of : Stmt := top 41
theorem sc_origins_of : FnScope ["width", "height", "recipe", "tray", "cell", "index", "deed", "row"] ["width", "height", "recipe"] (defScope s_origins_of) := ⟨rfl, rfl, rfl, by decide +kernel, rfl, by decide +kernel, by decide +kernel⟩
theorem ok_origins_of {f : Addr} {fd : FuncData} (F : Fun K "origins_of" "origins_of" s_origins_of f fd) (T : Txt K mg)
    (k_Tray : Kc P w K mg base T.cTray "Tray" 1 ["self", "width", "height", "things"] (sp_tray_init T)) (k_do : Km P w K mg base T.cTray "do" 2 ["self", "deed", "fresh"] (sp_do T)) :
    FnOk P w K mg base CX0 3 f fd ["width", "height", "recipe"] sp_origins := by
  refine F.ok sc_origins_of (fun vs H Q E h => ?_) (fun cdv A outer s H vs Q E hr h => ?_)
  · obtain ⟨_, _, _, _, rfl, _⟩ := h
    rfl
  · obtain ⟨a, b, v, ds, rfl, hs, hrec, hva, hdl, k⟩ := h
    have hs' := hs
    obtain ⟨s1, s2, s3, s4, s5⟩ := hs'
    refine ⟨_, ((pss_cons (ps_set (i := 3) sc_origins_of.nd rfl (by first | exact Or.inl rfl | exact Or.inr rfl) (pe_mk k_Tray (hr.mono (by decide)) (by rfl) (pa_cons (pv 0) (pa_cons (pv 1) (pa_cons (pe_lc (own := [("cell", 4)]) (g := gName 4) (tt := tYes) rfl sc_origins_of.nd (pi_range1 (by rfl) T.b_range (pa_cons (pe_op op_mul (pv 0) (pv 1)) pa_nil)) (blkOk_by (own := [("cell", 4)]) (N := ["width", "height", "recipe", "tray", "cell", "index", "deed", "row"]) (sc := defScope s_origins_of) (by decide +kernel)) (fun _ _ _ _ _ => (pg_name (i := 4) sc_origins_of.nd rfl (Or.inl rfl))) (fun _ _ _ _ _ => pts_nil) (fun _ _ _ _ _ => (pe_tup (pa_cons (pe_gl (by rfl) T.g_CELL) (pa_cons (pv 4) pa_nil))))) pa_nil)))))
      (pss_cons (ps_for PassesOwn.never rfl (pi_enumT (by rfl) T.b_enumerate (pa_cons (pv 2) pa_nil)) (pg_tup rfl (pgs_cons (pg_name (i := 5) sc_origins_of.nd rfl (by first | exact Or.inl rfl | exact Or.inr rfl)) (pgs_cons (pg_name (i := 6) sc_origins_of.nd rfl (by first | exact Or.inl rfl | exact Or.inr rfl)) pgs_nil))) (pss_one (ps_expr (pe_km k_do T.clTray (hr.mono (by decide)) (pv 3) (pa_cons (pv 6) (pa_cons (pe_tup (pa_cons (pe_ifExp (pt_cmpR op_eq (pe_ix ix_tup (pv 6) pe_int (fun _ _ => rfl)) (pe_gl (by rfl) T.g_DROP) (nomark _)) (pe_gl (by rfl) T.g_DROP) (pe_gl (by rfl) T.g_PAPER)) (pa_cons (pv 5) pa_nil))) pa_nil))))))
      (pss_one (ps_ret (pe_tup (pa_cons (pe_callTy call_tuple_of (by rfl) T.b_tuple (by decide +kernel) (pa_cons (pe_fld (pv 3) rfl) pa_nil)) (pa_cons (pe_lc (own := [("row", 7)]) (g := gName 7) (tt := tYes) rfl sc_origins_of.nd (pi_list (pe_fld (pv 3) rfl)) (blkOk_by (own := [("row", 7)]) (N := ["width", "height", "recipe", "tray", "cell", "index", "deed", "row"]) (sc := defScope s_origins_of) (by decide +kernel)) (fun _ _ _ _ _ => (pg_name (i := 7) sc_origins_of.nd rfl (Or.inl rfl))) (fun _ _ _ _ _ => pts_nil) (fun _ _ _ _ _ => (pe_callTy (call_tuple_ofK (K := K)) (by rfl) T.b_tuple (by decide +kernel) (pa_cons (pv 7) pa_nil)))) pa_nil)))))))), ?_⟩
    refine ⟨_, rfl, _, rfl, _, rfl, _, rfl, _, _, rfl, rfl, .inl ⟨by omega, by omega⟩, _, rfl, by rw [mul_int_nat]; omega, by rw [mul_int_nat]; omega, fun D hD => ?_⟩
    have en : ((a : Int) * (b : Int)).toNat = a * b := by rw [mul_int_nat]; rfl
    rw [en]
    refine lc_it (walk_range (lo := 0)) (fun i H' => Ex H H' ∧ ∃ us, H' D = some (.lst us) ∧ Rel2 (IsSrc H') us ((cells0 a b).take i)) ⟨Ex.new hD, [], upd_same, rfl, fun i x y h _ => by simp at h⟩ (fun _ _ _ _ => trivial) ?_ ?_
    · rintro i x H2 H3 hi ⟨e2, us, h2, hus⟩ ⟨rfl, rfl⟩
      refine ⟨rfl, _, rfl, (by show 2 ≤ sizeLine; decide), fun t ht => ?_⟩
      have hci : (cells0 a b)[i]? = some (.cell i) := by
        unfold cells0
        rw [List.getElem?_map, List.getElem?_range hi]
        rfl
      have hul : us.length ≤ 12 := by have := hus.1; rw [List.length_take] at this; omega
      have h3 := Ex.new ht _ _ h2 (o := .tup [V.str "cell", V.int (0 + (i : Int))])
      refine ⟨us, h3, szl (by omega), Ex.mut (Ex.new' e2 ht) hD, us ++ [.ref t], upd_same, ?_⟩
      obtain ⟨hc1, hc2⟩ := List.getElem?_eq_some_iff.mp hci
      rw [List.take_succ_eq_append_getElem hc1, hc2]
      have et : ExT H3 (upd (upd H3 t (.tup [V.str "cell", V.int (0 + (i : Int))])) D (.lst (us ++ [.ref t]))) := (Ex.t (Ex.new ht)).trans (ExT.upd (not_tup_lst h3))
      refine (srcs_ex et hus).snoc ⟨t, rfl, ?_⟩
      have tD : t ≠ D := (ne_of_none h2 ht).symm
      rw [upd_ne tD, upd_same, Int.zero_add]
      rfl
    · rintro H1 ⟨e1, us0, h1, hus0⟩
      have hcl : (cells0 a b).length = a * b := by simp [cells0]
      rw [List.take_of_length_le (Nat.le_of_eq hcl)] at hus0
      intro x dx hx hdx hne
      have e2 : Ex H1 (upd (upd H1 dx (.own x)) x (.ins T.cTray dx [])) := (Ex.new hdx).trans (Ex.new (by rw [upd_ne hne.symm]; exact hx))
      refine ⟨H1, x, dx, a, b, .ref D, us0, rfl, e2, hx, upd_same, .inl ⟨D, rfl, h1⟩, by have := hus0.1; omega, fun H2 TA et => ⟨rfl, ?_⟩⟩
      obtain ⟨p, us, rfl, hp, hds⟩ := hrec
      -- the loop over the deeds
      refine ⟨_, rfl, p, us, rfl, SqT.of (TA.old _ _ (e1 _ _ hp)), ?_⟩
      refine for_it walk_enumT (fun i σ H' => ∃ (us' : List V) (qs : List (List V)) (o1 o2 : Option V), TrayAt T H1 H' x a b us' qs ∧ Rel2 (IsSrc H') us' (runS a b (ds.take i) 0 (cells0 a b, [])).1 ∧ Rel2 (Rel2 (IsSrc H')) qs (runS a b (ds.take i) 0 (cells0 a b, [])).2 ∧
          σ = [some (.int (a : Int)), some (.int (b : Int)), some (.ref p), some (.ref x), none, o1, o2, none])
        ⟨_, _, none, none, TA, srcs_ex (Ex.t TA.old) hus0, ⟨rfl, fun i v c h1 _ => by simp at h1⟩, rfl⟩ (fun i σ H' _ q => by obtain ⟨_, _, _, _, TA', _⟩ := q; exact SqT.of (TA'.old _ _ (e1 _ _ hp))) ?_ ?_
      · rintro i y σ H3 H4 hi ⟨us', qs, o1, o2, TA', r1, r2, rfl⟩ ⟨t, x1, x2, rfl, ht, rfl, hx1, hy⟩
        cases hx1
        have hid : i < ds.length := by rw [← hds.1]; exact hi
        have hd0 : DeedV H x2 ds[i] := hds.2 i x2 _ hy (List.getElem?_eq_getElem hid)
        have e3 : Ex H H3 := e1.trans TA'.old
        have e4 : Ex H3 (upd H3 t (.tup [V.int (i : Nat), x2])) := Ex.new ht
        have hd := hd0.ex (Ex.t (e3.trans e4))
        have hv := hva _ (List.getElem_mem hid)
        refine ⟨t, _, rfl, SqT.of upd_same, rfl, _, _, rfl, _, _, rfl, rfl, ?_⟩
        have TA4 := TA'.ex' e4
        have r14 := srcs_ex (Ex.t e4) r1
        have r24 := srcss_ex (Ex.t e4) r2
        generalize upd H3 t (.tup [V.int (i : Nat), x2]) = H4 at e4 TA4 r14 r24 hd ⊢
        have TA2 := TA4
        obtain ⟨_, nt, dx2, st, l, pp, fs, rs, ht4, FS, _⟩ := TA2
        have ul : us'.length = a * b := by rw [r1.1]; exact runS_len _ _ hcl
        have ql : qs.length ≤ 12 := by
          rw [r2.1]
          have := runS_papers (a := a) (b := b) (ds.take i) 0 (cells0 a b, [])
          rw [List.length_take] at this
          simp only [List.length_nil] at this
          omega
        have back : ∀ q H5, Ex H4 H5 → H5 q = some (.tup (srcP (srcOf ds[i] i))) → sp_do T [.ref x, x2, .ref q] H5 (fun _ H' => ∃ (us' : List V) (qs : List (List V)) (o1 o2 : Option V), TrayAt T H1 H' x a b us' qs ∧ Rel2 (IsSrc H') us' (runS a b (ds.take (i + 1)) 0 (cells0 a b, [])).1 ∧ Rel2 (Rel2 (IsSrc H')) qs (runS a b (ds.take (i + 1)) 0 (cells0 a b, [])).2 ∧
            [some (V.int (a : Int)), some (.int (b : Int)), some (.ref p), some (.ref x), none, some (.int (i : Nat)), some x2, none] = [some (.int (a : Int)), some (.int (b : Int)), some (.ref p), some (.ref x), none, o1, o2, none]) E0 := by
          intro q H5 e5 hq
          refine ⟨H1, x, a, b, us', qs, x2, .ref q, ds[i], rfl, TA4.ex' e5, hs, hd.ex (Ex.t e5), hv, ul, ql, fun H' TA3 et => ?_⟩
          obtain ⟨g1, g2⟩ := doD_rel s1 s3 hv.inD (R := IsSrc H') (fx := .ref q) (fy := srcOf ds[i] i) ⟨q, rfl, et _ _ hq⟩ (s := (us', qs)) (t := runS a b (ds.take i) 0 (cells0 a b, [])) ul (srcs_ex ((Ex.t e5).trans et) r14) (srcss_ex ((Ex.t e5).trans et) r24)
          rw [runS_take hid]
          exact ⟨_, _, _, _, TA3, g1, g2, rfl⟩
        cases hdd : ds[i] with
        | draw r s =>
          rw [hdd] at hd back
          obtain ⟨p', q', rfl, hp', hq'⟩ := hd
          refine ⟨_, rfl, x, dx2, fs, rfl, ht4, FS.nodo, _, rfl, _, rfl, p', _, _, _, rfl, rfl, SqT.of hp', rfl, rfl, _, rfl, itN (by cases r <;> decide +kernel) ?_⟩
          refine ⟨_, rfl, (by show 2 ≤ sizeLine; decide), fun q hq => ?_⟩
          exact back q _ (Ex.new hq) upd_same
        | drop c cx =>
          rw [hdd] at hd back
          obtain ⟨p', rfl, hp'⟩ := hd
          refine ⟨_, rfl, x, dx2, fs, rfl, ht4, FS.nodo, _, rfl, _, rfl, p', _, _, _, rfl, rfl, SqT.of hp', rfl, rfl, _, rfl, itP (by decide +kernel) ?_⟩
          refine ⟨_, rfl, (by show 2 ≤ sizeLine; decide), fun q hq => ?_⟩
          exact back q _ (Ex.new hq) upd_same
        | paper cs =>
          rw [hdd] at hd back
          obtain ⟨p', q', rfl, hp', hq'⟩ := hd
          refine ⟨_, rfl, x, dx2, fs, rfl, ht4, FS.nodo, _, rfl, _, rfl, p', _, _, _, rfl, rfl, SqT.of hp', rfl, rfl, _, rfl, itN (by decide +kernel) ?_⟩
          refine ⟨_, rfl, (by show 2 ≤ sizeLine; decide), fun q hq => ?_⟩
          exact back q _ (Ex.new hq) upd_same
      · rintro σ H3 ⟨us', qs, o1, o2, TA', r1, r2, rfl⟩
        rw [hds.1, List.take_length] at r1 r2
        have hqn : (runS a b ds 0 (cells0 a b, [])).2.length ≤ 12 := by
          have := runS_papers (a := a) (b := b) ds 0 (cells0 a b, [])
          simp only [List.length_nil] at this
          omega
        have hqp : ∀ q ∈ (runS a b ds 0 (cells0 a b, [])).2, q.length ≤ 12 := runS_plen ds _ _ (fun cs hc => (hva _ hc).paper_len hs) (fun q h => by cases h)
        generalize hst : runS a b ds 0 (cells0 a b, []) = stE at *
        obtain ⟨old, nt, dx2, st, l, pp, fs, rs, ht, FS, hst', hl, hpp, npp, nlp, rl, hrs⟩ := TA'
        have e3 : Ex H H3 := e1.trans old
        refine ⟨_, rfl, x, T.cTray, dx2, fs, _, rfl, ht, T.clTray, T.nThings, FS.things, l, _, rfl, .inl ⟨SqL.of hl, fun tp htp => ?_⟩⟩
        have e4 : Ex H3 (upd H3 tp (.tup us')) := Ex.new htp
        have htp4 : (upd H3 tp (.tup us')) tp = some (.tup us') := upd_same
        generalize upd H3 tp (.tup us') = H4 at e4 htp4 ⊢
        refine ⟨_, rfl, x, T.cTray, dx2, fs, _, rfl, e4 _ _ ht, T.clTray, T.nPapers, FS.papers, pp, rfl, ⟨_, SqL.of (e4 _ _ hpp)⟩, fun D2 hD2 => ?_⟩
        refine lc_it walk_list (fun i H' => Ex H4 H' ∧ ∃ rs2, H' D2 = some (.lst (rs2.map V.ref)) ∧ Rel2 (fun (r : Addr) q => ∃ us, H' r = some (.tup us) ∧ Rel2 (IsSrc H') us q) rs2 (stE.2.take i)) ⟨Ex.new hD2, [], upd_same, rfl, fun i x y h _ => by simp at h⟩ (fun i H' _ p => SqL.of (p.1 _ _ (e4 _ _ hpp))) ?_ ?_
        · rintro i y H5 H6 hi ⟨e6, rs2, h6, hr2⟩ ⟨rfl, hy⟩
          obtain ⟨r, hr', rfl⟩ := map_at hy
          have hi1 : i < rs.length := (List.getElem?_eq_some_iff.mp hr').1
          have hi2 : i < qs.length := rl ▸ hi1
          have hi3 : i < stE.2.length := r2.1 ▸ hi2
          obtain ⟨_, hq⟩ := hrs i r _ hr' (List.getElem?_eq_getElem hi2)
          have rq : Rel2 (IsSrc H3) qs[i] stE.2[i] := r2.2 i _ _ (List.getElem?_eq_getElem hi2) (List.getElem?_eq_getElem hi3)
          have hq' := e6 _ _ (e4 _ _ hq)
          refine ⟨rfl, _, rfl, r, _, rfl, .inl ⟨SqL.of hq', fun q hqn' => ?_⟩⟩
          have h7 := Ex.new hqn' _ _ h6 (o := .tup qs[i])
          have hrl : rs2.length ≤ 12 := by have := hr2.1; rw [List.length_take] at this; omega
          refine ⟨rs2.map V.ref, h7, szl (by rw [List.length_map]; omega), Ex.mut (Ex.new' e6 hqn') hD2, rs2 ++ [q], (by rw [upd_same, List.map_append]; rfl), ?_⟩
          have qD : q ≠ D2 := (ne_of_none h6 hqn').symm
          have et : ExT H6 (upd (upd H6 q (.tup qs[i])) D2 (.lst (rs2.map V.ref ++ [V.ref q]))) := (Ex.t (Ex.new hqn')).trans (ExT.upd (not_tup_lst h7))
          rw [List.take_succ_eq_append_getElem hi3]
          refine Rel2.snoc (hr2.mono fun r q hh => ?_) ⟨qs[i], ?_, srcs_ex ((Ex.t (e4.trans e6)).trans et) rq⟩
          · obtain ⟨us, h1, h2⟩ := hh
            exact ⟨us, et _ _ h1, srcs_ex et h2⟩
          · show upd (upd H6 q (.tup qs[i])) D2 _ q = _
            rw [upd_ne qD, upd_same]
        · rintro H5 ⟨e6, rs2, h6, hr2⟩
          have eL : (rs.map V.ref).length = stE.2.length := by rw [List.length_map, rl, r2.1]
          rw [eL, List.take_length] at hr2
          refine ⟨(by show 2 ≤ sizeLine; decide), fun r hr' => ?_⟩
          have e7 : Ex H5 (upd H5 r (.tup [.ref tp, .ref D2])) := Ex.new hr'
          have e37 : Ex H3 (upd H5 r (.tup [.ref tp, .ref D2])) := e4.trans (e6.trans e7)
          refine k r tp D2 us' rs2 _ (e3.trans e37) upd_same (e7 _ _ (e6 _ _ htp4)) (srcs_ex (Ex.t e37) r1) (e7 _ _ h6) (hr2.mono fun r q hh => ?_)
          obtain ⟨us, h1, h2⟩ := hh
          exact ⟨us, e7 _ _ h1, srcs_ex (Ex.t e7) h2⟩
end
end K7
/-! shown, outcome, check_two, are_alike, alike. -/
namespace K7
open PySem L2 K7R
/-- the value is the thing -/
def ThingV (H : Hp) (v : V) : Thing → Prop
  | .txt c => v = .str (sg c)
  | .cel k => ∃ p, v = .ref p ∧ H p = some (.tup [.str "cell", .int (k : Int)])
theorem ThingV.ex {H H' : Hp} {v : V} (e : ExT H H') : ∀ {t : Thing}, ThingV H v t → ThingV H' v t
  | .txt _, h => h
  | .cel _, ⟨p, h1, h2⟩ => ⟨p, h1, e _ _ h2⟩
theorem things_ex {H H' : Hp} {vs : List V} {ts : List Thing} (e : ExT H H') (h : Rel2 (ThingV H) vs ts) : Rel2 (ThingV H') vs ts := h.mono fun _ _ q => ThingV.ex e q
def okS (ds : List Deed) : Src → Prop
  | .drop i => ∃ c x, ds[i]? = some (.drop c x)
  | _ => True
theorem okS_of {all : List Deed} {i : Nat} {d : Deed} (e : all[i]? = some d) : okS all (srcOf d i) := by
  cases d with
  | drop c x => exact ⟨c, x, e⟩
  | draw _ _ => trivial
  | paper _ => trivial
theorem runS_okR {a b : Nat} (ha : 0 < a) (hb : 0 < b) {all : List Deed} : ∀ (rec pre : List Deed), all = pre ++ rec → (∀ d ∈ rec, inD a b d) → ∀ {s : List Src × List (List Src)}, s.1.length = a * b →
    Rel2 (fun x y => okS all x ∧ x = y) s.1 s.1 → Rel2 (Rel2 (fun x y => okS all x ∧ x = y)) s.2 s.2 →
    Rel2 (fun x y => okS all x ∧ x = y) (runS a b rec pre.length s).1 (runS a b rec pre.length s).1 ∧ Rel2 (Rel2 (fun x y => okS all x ∧ x = y)) (runS a b rec pre.length s).2 (runS a b rec pre.length s).2
  | [], _, _, _, _, _, h1, h2 => ⟨h1, h2⟩
  | d :: rec, pre, ea, hr, s, hl, h1, h2 => by
    have e : all[pre.length]? = some d := by rw [ea]; simp
    obtain ⟨g1, g2⟩ := doD_rel ha hb (hr d List.mem_cons_self) (R := fun x y => okS all x ∧ x = y) ⟨okS_of e, rfl⟩ hl h1 h2
    have q := runS_okR ha hb rec (pre ++ [d]) (by rw [ea]; simp) (fun e he => hr e (List.mem_cons_of_mem _ he)) (doD_len hl) g1 g2
    rw [List.length_append, List.length_singleton] at q
    exact q
theorem rel_mem {α : Type} {R : α → α → Prop} {xs : List α} (h : Rel2 R xs xs) : ∀ x ∈ xs, R x x := by
  intro x hx
  obtain ⟨i, hi, rfl⟩ := List.mem_iff_getElem.mp hx
  exact h.2 i _ _ (List.getElem?_eq_getElem hi) (List.getElem?_eq_getElem hi)
theorem runS_ok {a b : Nat} (hs : Sz a b) {ds : List Deed} (hd : ∀ d ∈ ds, inD a b d) : (∀ s ∈ (runS a b ds 0 (cells0 a b, [])).1, okS ds s) ∧ ∀ q ∈ (runS a b ds 0 (cells0 a b, [])).2, ∀ s ∈ q, okS ds s := by
  obtain ⟨g1, g2⟩ := runS_okR hs.1 hs.2.2.1 (all := ds) ds [] rfl hd (s := (cells0 a b, [])) (by simp [cells0])
    ⟨rfl, fun i x y h1 h2 => by
      rw [h1] at h2
      cases h2
      have hm := List.mem_of_getElem? h1
      obtain ⟨k, _, rfl⟩ := List.mem_map.mp hm
      exact ⟨trivial, rfl⟩⟩ ⟨rfl, fun i x y h _ => by simp at h⟩
  exact ⟨fun s h => (rel_mem g1 s h).1, fun q hq s h => (rel_mem (rel_mem g2 q hq) s h).1⟩

def thD : Thing → PyData
  | .txt c => .str (sg c)
  | .cel k => .tuple [.str "cell", .int (k : Int)]
def rowD (ts : List Thing) : PyData := .list (ts.map thD)
def outD (rows : List (List Thing)) : PyData := .list (rows.map rowD)
def tOk : Thing → Prop
  | .txt c => c < 1000
  | .cel _ => True
theorem shown_ok {ds : List Deed} (hd : ∀ d ∈ ds, colOk d) (s : Src) : tOk (shownM ds s) := by
  cases s with
  | cell k => trivial
  | paper i => show 46 < 1000; decide
  | drop i =>
    show (match ds[i]? with | some d => colN d | none => 46) < 1000
    cases e : ds[i]? with
    | none => show 46 < 1000; decide
    | some d =>
      have h := hd d (List.mem_of_getElem? e)
      cases d with
      | drop c x => exact h
      | draw _ _ => show 46 < 1000; decide
      | paper _ => show 46 < 1000; decide
theorem wf_thing {t : Thing} (h : tOk t) : Wf 1 (thD t) := by
  cases t with
  | txt c => exact (wf_sg h).mono (by decide)
  | cel k =>
    refine wf_tup fun d hd => ?_
    rcases List.mem_cons.mp hd with e | hd
    · rw [e]; exact wf_str (by decide +kernel)
    · rw [List.mem_singleton.mp hd]; exact wf_int _
theorem wf_out {rows : List (List Thing)} (h : ∀ q ∈ rows, ∀ t ∈ q, tOk t) : Wf 3 (outD rows) := wf_lst fun e he => by
  obtain ⟨q, hq, rfl⟩ := List.mem_map.mp he
  refine wf_lst fun e he => ?_
  obtain ⟨t, ht, rfl⟩ := List.mem_map.mp he
  exact wf_thing (h q hq t ht)
theorem out_ok {a b : Nat} (hs : Sz a b) {ds : List Deed} (hv : ∀ d ∈ ds, Va a b d) : ∀ q ∈ outM a b ds, ∀ t ∈ q, tOk t := by
  rw [← out_src hs.1 hs.2.2.1 fun d hd => (hv d hd).inD]
  have hc : ∀ d ∈ ds, colOk d := fun d hd => (hv d hd).col
  intro q hq t ht
  rcases List.mem_cons.mp hq with e | hq
  · rw [e] at ht
    obtain ⟨s, _, rfl⟩ := List.mem_map.mp ht
    exact shown_ok hc s
  · obtain ⟨r, _, rfl⟩ := List.mem_map.mp hq
    obtain ⟨s, _, rfl⟩ := List.mem_map.mp ht
    exact shown_ok hc s
section
variable {P : Program} {w : World} {K : PySem.W.Frag} {mg : Str → Option Value} {base : Heap}
theorem dp_thing {H : Hp} {v : V} : ∀ {t : Thing}, ThingV H v t → Dp K H v (thD t)
  | .txt c, h => by
    rw [show v = V.str (sg c) from h]
    exact .str _
  | .cel k, ⟨p, h1, h2⟩ => by subst h1; exact .tup (SqT.of h2) (.cons (.str _) (.cons (.int _) .nil))
theorem take_succ_map {α β : Type} {f : α → β} {l : List α} {i : Nat} {x : α} (h : l[i]? = some x) : (l.take (i + 1)).map f = (l.take i).map f ++ [f x] := by
  obtain ⟨h1, rfl⟩ := List.getElem?_eq_some_iff.mp h
  rw [List.take_succ_eq_append_getElem h1, List.map_append]
  rfl
/-- the value is what a recipe tells -/
def OutV (H : Hp) (v : V) (rows : List (List Thing)) : Prop := ∃ r rs, v = .ref r ∧ H r = some (.lst (rs.map V.ref)) ∧ Rel2 (fun (r : Addr) q => ∃ us, H r = some (.lst us) ∧ Rel2 (ThingV H) us q) rs rows
theorem OutV.ex {H H' : Hp} {v : V} {rows : List (List Thing)} (e : Ex H H') (h : OutV H v rows) : OutV H' v rows := by
  obtain ⟨r, rs, h1, h2, h3⟩ := h
  refine ⟨r, rs, h1, e _ _ h2, h3.mono fun r q hh => ?_⟩
  obtain ⟨us, g1, g2⟩ := hh
  exact ⟨us, e _ _ g1, things_ex (Ex.t e) g2⟩
theorem dp_out {H : Hp} {v : V} {rows : List (List Thing)} (h : OutV H v rows) : Dp K H v (outD rows) := by
  obtain ⟨r, rs, rfl, h2, h3⟩ := h
  refine .lst (SqL.of h2) (dpAll_rel (R := fun v q => ∃ r, v = V.ref r ∧ ∃ us, H r = some (.lst us) ∧ Rel2 (ThingV H) us q) (fun v q hq => ?_) (by rw [List.length_map]; exact h3.1) fun i x y hx hy => ?_)
  · obtain ⟨r, rfl, us, g1, g2⟩ := hq
    exact .lst (SqL.of g1) (dpAll_rel (R := ThingV H) (fun v x q => dp_thing q) g2.1 g2.2)
  · obtain ⟨r, hr, rfl⟩ := map_at hx
    exact ⟨r, rfl, h3.2 i r y hr hy⟩
def sp_shown : Sp := fun vs H Q _ => ∃ (v rv : V) (s : Src) (ds : List Deed), vs = [v, rv, .non] ∧ IsSrc H v s ∧ RecV H rv ds ∧ okS ds s ∧ ds.length ≤ 12 ∧ ∀ u, ThingV H u (shownM ds s) → Q u H
abbrev s_shown : Stmt := top 42
theorem sc_shown : FnScope ["source", "recipe", "cells"] ["source", "recipe", "cells"] (defScope s_shown) := ⟨rfl, rfl, rfl, by decide +kernel, rfl, by decide +kernel, by decide +kernel⟩
theorem ok_shown {f : Addr} {fd : FuncData} (F : Fun K "shown" "shown" s_shown f fd) (T : Txt K mg) : FnOk P w K mg base CX0 1 f fd ["source", "recipe", "cells"] sp_shown := by
  refine F.ok sc_shown (fun vs H Q E h => ?_) (fun cdv A outer s H vs Q E hr h => ?_)
  · obtain ⟨_, _, _, _, rfl, _⟩ := h
    rfl
  · obtain ⟨v, rv, s, ds, rfl, ⟨p, rfl, hp⟩, ⟨p2, us, rfl, hp2, hds⟩, hok, hdl, k⟩ := h
    refine ⟨_, ((pss_cons (ps_if (pt_cmpR op_eq (pe_ix ix_tup (pv 0) pe_int (fun _ _ => rfl)) (pe_gl (by rfl) T.g_DROP) (nomark _)) (pss_one (ps_ret (pe_ix ix_tup (pe_ix ix_tup (pv 1) (pe_ix ix_tup (pv 0) pe_int (fun _ _ => rfl)) (fun _ _ => rfl)) pe_int (fun _ _ => rfl)))) pss_nil)
      (pss_cons (ps_if (pt_cmpR op_eq (pe_ix ix_tup (pv 0) pe_int (fun _ _ => rfl)) (pe_gl (by rfl) T.g_PAPER) (nomark _)) (pss_one (ps_ret (pe_gl (by rfl) T.g_NOTHING))) pss_nil)
      (pss_one (ps_ret (pe_ifExp (pt_cmpR op_isN (pv 2) pe_non (nomark _)) (pv 0) (pe_ix ix_tup (pv 2) (pe_ix ix_tup (pv 0) pe_int (fun _ _ => rfl)) (fun _ _ => rfl)))))))), ?_⟩
    cases s with
    | cell n =>
      refine ⟨_, rfl, p, _, _, _, rfl, rfl, SqT.of hp, rfl, rfl, _, rfl, itN (by decide +kernel) ?_⟩
      refine ⟨_, rfl, p, _, _, _, rfl, rfl, SqT.of hp, rfl, rfl, _, rfl, itN (by decide +kernel) ?_⟩
      refine ⟨_, rfl, rfl, _, rfl, itP (by decide +kernel) ?_⟩
      exact ⟨_, rfl, k _ ⟨p, rfl, hp⟩⟩
    | drop n =>
      obtain ⟨c, x, hx⟩ := hok
      obtain ⟨hn, hx'⟩ := List.getElem?_eq_some_iff.mp hx
      have hnu : n < us.length := by rw [hds.1]; exact hn
      obtain ⟨p3, e3, hp3⟩ := hds.2 n _ _ (List.getElem?_eq_getElem hnu) hx
      refine ⟨_, rfl, p, _, _, _, rfl, rfl, SqT.of hp, rfl, rfl, _, rfl, itP (by decide +kernel) ?_⟩
      refine ⟨_, rfl, _, rfl, p, _, _, _, rfl, rfl, SqT.of hp, rfl, p2, us, _, _, rfl, rfl, SqT.of hp2, atI_nat (List.getElem?_eq_getElem hnu), p3, _, _, _, e3, rfl, SqT.of hp3, rfl, k _ ?_⟩
      show V.str (sg x) = V.str (sg (match ds[n]? with | some d => colN d | none => 46))
      rw [hx]
      rfl
    | paper n =>
      refine ⟨_, rfl, p, _, _, _, rfl, rfl, SqT.of hp, rfl, rfl, _, rfl, itN (by decide +kernel) ?_⟩
      refine ⟨_, rfl, p, _, _, _, rfl, rfl, SqT.of hp, rfl, rfl, _, rfl, itP (by decide +kernel) ?_⟩
      exact k _ (by show V.str _ = V.str _; decide +kernel)
def sp_outcome : Sp := fun vs H Q _ => ∃ (a b : Nat) (v : V) (ds : List Deed), vs = [.int (a : Int), .int (b : Int), v, .non] ∧ Sz a b ∧ RecV H v ds ∧ (∀ d ∈ ds, Va a b d) ∧ ds.length ≤ 12 ∧
  ∀ r H', Ex H H' → OutV H' r (outM a b ds) → Q r H'
abbrev s_outcome : Stmt := top 43
theorem sc_outcome : FnScope ["width", "height", "recipe", "cells", "ends", "papers", "rows", "source", "paper"] ["width", "height", "recipe", "cells"] (defScope s_outcome) := ⟨rfl, rfl, rfl, by decide +kernel, rfl, by decide +kernel, by decide +kernel⟩
def scIn : Scope := { kind := .function, names := [(".0", .local), ("paper", .local), ("cells", .free), ("recipe", .free)], isGenerator := false, isCoroutine := false }
theorem ok_outcome {f : Addr} {fd : FuncData} (F : Fun K "outcome" "outcome" s_outcome f fd) (T : Txt K mg) (k_origins_of : Kn P w K mg base "origins_of" 3 ["width", "height", "recipe"] sp_origins) (k_shown : Kn P w K mg base "shown" 1 ["source", "recipe", "cells"] sp_shown) :
    FnOk P w K mg base CX0 4 f fd ["width", "height", "recipe", "cells"] sp_outcome := by
  refine F.ok sc_outcome (fun vs H Q E h => ?_) (fun cdv A outer s H vs Q E hr h => ?_)
  · obtain ⟨_, _, _, _, rfl, _⟩ := h
    rfl
  · obtain ⟨a, b, v, ds, rfl, hs, hrec, hva, hdl, k⟩ := h
    refine ⟨_, ((pss_cons (ps_asg (pe_kn k_origins_of (hr.mono (by decide)) (by rfl) (pa_cons (pv 0) (pa_cons (pv 1) (pa_cons (pv 2) pa_nil)))) (pg_tup rfl (pgs_cons (pg_name (i := 4) sc_outcome.nd rfl (by first | exact Or.inl rfl | exact Or.inr rfl)) (pgs_cons (pg_name (i := 5) sc_outcome.nd rfl (by first | exact Or.inl rfl | exact Or.inr rfl)) pgs_nil))))
      (pss_cons (ps_set (i := 6) sc_outcome.nd rfl (by first | exact Or.inl rfl | exact Or.inr rfl) (pe_lst (pa_cons (pe_lc (own := [("source", 7)]) (g := gName 7) (tt := tYes) rfl sc_outcome.nd (pi_tup (pv 4)) (blkOk_by (own := [("source", 7)]) (N := ["width", "height", "recipe", "cells", "ends", "papers", "rows", "source", "paper"]) (sc := defScope s_outcome) (by decide +kernel)) (fun _ _ _ _ _ => (pg_name (i := 7) sc_outcome.nd rfl (Or.inl rfl))) (fun _ _ _ _ _ => pts_nil) (fun _ _ _ _ _ => (pe_kn k_shown (hr.mono (by decide)) (by rfl) (pa_cons (pv 7) (pa_cons (pv 2) (pa_cons (pv 3) pa_nil)))))) pa_nil)))
      (pss_cons (ps_expr (pe_bm PySem.F.plainAttrs_list PySem.F.slot_list_extend PySem.F.type_list_extend mt_extend (pv 6) (pa_cons (pe_lc (own := [("paper", 8)]) (g := gName 8) (tt := tYes) rfl sc_outcome.nd (pi_list (pv 5)) (blkOk_by (own := [("paper", 8)]) (N := ["width", "height", "recipe", "cells", "ends", "papers", "rows", "source", "paper"]) (sc := defScope s_outcome) (by decide +kernel)) (fun _ _ _ _ _ => (pg_name (i := 8) sc_outcome.nd rfl (Or.inl rfl))) (fun _ _ _ _ _ => pts_nil) (fun _ _ _ _ _ => (pe_lc (own := [("source", 7)]) (g := gName 7) (tt := tYes) rfl sc_outcome.nd (pi_tupK (K := K) (pv 8)) (blkOk_in (own := [("source", 7)]) (N := ["width", "height", "recipe", "cells", "ends", "papers", "rows", "source", "paper"]) (sc := scIn) (by decide +kernel)) (fun _ _ _ _ _ => (pg_name (i := 7) sc_outcome.nd rfl (Or.inl rfl))) (fun _ _ _ _ _ => pts_nil) (fun _ _ _ _ _ => (pe_kn k_shown (hr.mono (by decide)) (by rfl) (pa_cons (pv 7) (pa_cons (pv 2) (pa_cons (pv 3) pa_nil)))))))) pa_nil)))
      (pss_one (ps_ret (pv 6))))))), ?_⟩
    refine ⟨_, rfl, _, rfl, _, rfl, a, b, v, ds, rfl, hs, hrec, hva, hdl, fun r tp lp us rs H1 e1 hr1 htp hus hlp hrs => ?_⟩
    have hin : ∀ d ∈ ds, inD a b d := fun d hd => (hva d hd).inD
    obtain ⟨ok1, ok2⟩ := runS_ok hs hin
    have eout := out_src hs.1 hs.2.2.1 hin
    have hl1 : (runS a b ds 0 (cells0 a b, [])).1.length = a * b := runS_len _ _ (by simp [cells0])
    have hqn : (runS a b ds 0 (cells0 a b, [])).2.length ≤ 12 := by
      have := runS_papers (a := a) (b := b) ds 0 (cells0 a b, [])
      simp only [List.length_nil] at this
      omega
    have hqp : ∀ q ∈ (runS a b ds 0 (cells0 a b, [])).2, q.length ≤ 12 := runS_plen ds _ _ (fun cs hc => (hva _ hc).paper_len hs) (fun q h => by cases h)
    have hz := hs.2.2.2.2
    generalize hst : runS a b ds 0 (cells0 a b, []) = stE at *
    have hrec1 := hrec.ex (Ex.t e1)
    refine ⟨r, _, rfl, SqT.of hr1, rfl, _, _, rfl, _, _, rfl, rfl, ?_⟩
    -- rows = [[..]]
    refine ⟨_, rfl, tp, rfl, ⟨_, SqT.of htp⟩, fun D hD => ?_⟩
    refine lc_it walk_tup (fun i H' => Ex H1 H' ∧ ∃ zs, H' D = some (.lst zs) ∧ Rel2 (ThingV H') zs ((stE.1.take i).map (shownM ds))) ⟨Ex.new hD, [], upd_same, rfl, fun i x y h _ => by simp at h⟩ (fun i H' _ q => SqT.of (q.1 _ _ htp)) ?_ ?_
    · rintro i x H2 H3 hi ⟨e2, zs, h2, hzs⟩ ⟨rfl, hx⟩
      have hi2 : i < stE.1.length := by rw [← hus.1]; exact hi
      have rx := hus.2 i _ _ hx (List.getElem?_eq_getElem hi2)
      refine ⟨rfl, _, rfl, _, rfl, _, rfl, x, v, stE.1[i], ds, rfl, rx.ex (Ex.t e2), hrec1.ex (Ex.t e2), ok1 _ (List.getElem_mem hi2), hdl, fun u hu => ?_⟩
      have hzl : zs.length ≤ 12 := by have := hzs.1; rw [List.length_map, List.length_take] at this; omega
      refine ⟨zs, h2, szl (by omega), Ex.mut e2 hD, zs ++ [u], upd_same, ?_⟩
      have et : ExT H3 (upd H3 D (.lst (zs ++ [u]))) := ExT.upd (not_tup_lst h2)
      rw [take_succ_map (List.getElem?_eq_getElem hi2)]
      exact (things_ex et hzs).snoc (ThingV.ex et hu)
    · rintro H2 ⟨e2, zs, h2, hzs⟩
      rw [hus.1, List.take_length] at hzs
      refine ⟨(by show 1 ≤ sizeLine; decide), fun R hR => ?_⟩
      have e3 : Ex H2 (upd H2 R (.lst [.ref D])) := Ex.new hR
      have hR3 : (upd H2 R (.lst [V.ref D])) R = some (.lst [.ref D]) := upd_same
      have nR : H R = none := fresh_back (e1.trans e2) hR
      have nR1 : H1 R = none := fresh_back e2 hR
      have hD3 := e3 _ _ h2
      have nRD : R ≠ D := (ne_of_none h2 hR).symm
      have hzs3 := things_ex (Ex.t e3) hzs
      have e13 : Ex H1 (upd H2 R (.lst [V.ref D])) := Ex.new' e2 hR
      generalize upd H2 R (.lst [V.ref D]) = H3 at e3 hR3 hD3 hzs3 e13 ⊢
      -- rows.extend(..)
      refine ⟨_, rfl, .inl ⟨rfl, _, SqL.of hR3⟩, _, rfl, lp, rfl, ⟨_, SqL.of (e13 _ _ hlp)⟩, fun D2 hD2 => ?_⟩
      refine lc_it walk_list (fun i H' => Ex H3 H' ∧ ∃ rs2, H' D2 = some (.lst (rs2.map V.ref)) ∧ (∀ r ∈ rs2, r ≠ R ∧ r ≠ D2) ∧ Rel2 (fun (r : Addr) q => ∃ us, H' r = some (.lst us) ∧ Rel2 (ThingV H') us q) rs2 ((stE.2.take i).map (·.map (shownM ds)))) ⟨Ex.new hD2, [], upd_same, (fun _ h => nomatch h), rfl, fun i x y h _ => by simp at h⟩ (fun i H' _ p => SqL.of (p.1 _ _ (e13 _ _ hlp))) ?_ ?_
      · rintro i y H5 H6 hi ⟨e6, rs2, h6, hn2, hr2⟩ ⟨rfl, hy⟩
        obtain ⟨r', hr', rfl⟩ := map_at hy
        have hi1 : i < rs.length := (List.getElem?_eq_some_iff.mp hr').1
        have hi3 : i < stE.2.length := hrs.1 ▸ hi1
        obtain ⟨ws, hw1, hws⟩ := hrs.2 i r' _ hr' (List.getElem?_eq_getElem hi3)
        have hw6 := e6 _ _ (e13 _ _ hw1)
        have hwl := hqp _ (List.getElem_mem hi3)
        have okq := ok2 _ (List.getElem_mem hi3)
        refine ⟨rfl, _, rfl, r', rfl, ⟨_, SqT.of hw6⟩, fun D3 hD3' => ?_⟩
        have hw1' := e13 _ _ hw1
        refine lc_it walk_tup (fun j H' => Ex H6 H' ∧ ∃ zs, H' D3 = some (.lst zs) ∧ Rel2 (ThingV H') zs ((stE.2[i].take j).map (shownM ds))) ⟨Ex.new hD3', [], upd_same, rfl, fun i x y h _ => by simp at h⟩ (fun j H' _ q => SqT.of (q.1 _ _ hw6)) ?_ ?_
        · rintro j x H7 H8 hj ⟨e8, zs', h8, hzs'⟩ ⟨rfl, hx⟩
          have hj2 : j < stE.2[i].length := by rw [← hws.1]; exact hj
          have rx := hws.2 j _ _ hx (List.getElem?_eq_getElem hj2)
          have e18 : Ex H1 H8 := e13.trans (e6.trans e8)
          refine ⟨rfl, _, rfl, _, rfl, _, rfl, x, v, stE.2[i][j], ds, rfl, rx.ex (Ex.t e18), hrec1.ex (Ex.t e18), okq _ (List.getElem_mem hj2), hdl, fun u hu => ?_⟩
          have hzl : zs'.length ≤ 12 := by have := hzs'.1; rw [List.length_map, List.length_take] at this; omega
          refine ⟨zs', h8, szl (by omega), Ex.mut e8 hD3', zs' ++ [u], upd_same, ?_⟩
          have et : ExT H8 (upd H8 D3 (.lst (zs' ++ [u]))) := ExT.upd (not_tup_lst h8)
          rw [take_succ_map (List.getElem?_eq_getElem hj2)]
          exact (things_ex et hzs').snoc (ThingV.ex et hu)
        · rintro H8 ⟨e8, zs', h8, hzs'⟩
          rw [hws.1, List.take_length] at hzs'
          have h6' := e8 _ _ h6
          have hrl : rs2.length ≤ 12 := by have := hr2.1; rw [List.length_map, List.length_take] at this; omega
          have nDD : D3 ≠ D2 := (ne_of_none h6 hD3').symm
          refine ⟨rs2.map V.ref, h6', szl (by rw [List.length_map]; omega), Ex.mut (e6.trans e8) hD2, rs2 ++ [D3], (by rw [upd_same, List.map_append]; rfl), ?_, ?_⟩
          · intro q hq
            rcases List.mem_append.mp hq with z | z
            · exact hn2 q z
            · rw [List.mem_singleton.mp z]
              exact ⟨(ne_of_none (e6 _ _ hR3) hD3').symm, nDD⟩
          · have et : ExT H8 (upd H8 D2 (.lst (rs2.map V.ref ++ [V.ref D3]))) := ExT.upd (not_tup_lst h6')
            rw [take_succ_map (List.getElem?_eq_getElem hi3)]
            refine Rel2.snoc ⟨hr2.1, fun i' q1 q2 g1 g2 => ?_⟩ ⟨zs', ?_, things_ex et hzs'⟩
            · obtain ⟨us', f1, f2⟩ := hr2.2 i' q1 q2 g1 g2
              have nq : q1 ≠ D2 := (hn2 q1 (List.mem_of_getElem? g1)).2
              exact ⟨us', by rw [upd_ne nq]; exact e8 _ _ f1, things_ex ((Ex.t e8).trans et) f2⟩
            · show upd H8 D2 _ D3 = _
              rw [upd_ne nDD]
              exact h8
      · rintro H5 ⟨e6, rs2, h6, hn2, hr2⟩
        rw [List.length_map, hrs.1, List.take_length] at hr2
        have hR5 := e6 _ _ hR3
        have hrl : rs2.length ≤ 12 := by have := hr2.1; rw [List.length_map] at this; omega
        refine ⟨R, D2, [.ref D], rs2.map V.ref, rfl, rfl, hR5, h6, sz (by rw [List.length_map]; simp; omega), ?_⟩
        have et : ExT H5 (upd H5 R (.lst ([.ref D] ++ rs2.map V.ref))) := ExT.upd (not_tup_lst hR5)
        refine ⟨_, rfl, k _ _ (Ex.mut (e1.trans (e13.trans e6)) nR) ⟨R, D :: rs2, rfl, upd_same, ?_⟩⟩
        rw [← eout]
        refine ⟨by simp [hr2.1], fun i x y hx hy => ?_⟩
        cases i with
        | zero =>
          cases hx
          cases hy
          exact ⟨zs, by rw [upd_ne nRD.symm]; exact e6 _ _ hD3, things_ex ((Ex.t e6).trans et) hzs3⟩
        | succ i =>
          have hx' : rs2[i]? = some x := hx
          obtain ⟨us', f1, f2⟩ := hr2.2 i x y hx' hy
          exact ⟨us', by rw [upd_ne (hn2 x (List.mem_of_getElem? hx')).1]; exact f1, things_ex et f2⟩
end
end K7
/-! check_two, are_alike, alike. -/
namespace K7
open PySem L2 K7R
section
variable {P : Program} {w : World} {K : PySem.W.Frag} {mg : Str → Option Value} {base : Heap}
def sp_check_two : Sp := fun vs H Q _ => ∃ (a b : Nat) (v u : V) (ds es : List Deed), vs = [.int (a : Int), .int (b : Int), v, u] ∧ Sz a b ∧ RecV H v ds ∧ RecV H u es ∧ (∀ d ∈ ds, Va a b d) ∧ (∀ d ∈ es, Va a b d) ∧ ds.length ≤ 12 ∧ es.length ≤ 12 ∧ ∀ H', Ex H H' → Q .non H'
abbrev s_check_two : Stmt := top 44
theorem sc_check_two : FnScope ["width", "height", "one", "other"] ["width", "height", "one", "other"] (defScope s_check_two) := ⟨rfl, rfl, rfl, by decide +kernel, rfl, by decide +kernel, by decide +kernel⟩
theorem ok_check_two {f : Addr} {fd : FuncData} (F : Fun K "check_two" "check_two" s_check_two f fd) (T : Txt K mg) (k_check_size : Kn P w K mg base "check_size" 3 ["width", "height"] sp_check_size)
    (k_check_recipe : Kn P w K mg base "check_recipe" 5 ["width", "height", "recipe"] sp_check_recipe) : FnOk P w K mg base CX0 6 f fd ["width", "height", "one", "other"] sp_check_two := by
  refine F.ok sc_check_two (fun vs H Q E h => ?_) (fun cdv A outer s H vs Q E hr h => ?_)
  · obtain ⟨_, _, _, _, _, _, rfl, _⟩ := h
    rfl
  · obtain ⟨a, b, v, u, ds, es, rfl, hs, hv, hu, va, ua, vl, ul, k⟩ := h
    refine ⟨_, ((pss_cons (ps_expr (pe_kn k_check_size (hr.mono (by decide)) (by rfl) (pa_cons (pv 0) (pa_cons (pv 1) pa_nil))))
      (pss_cons (ps_expr (pe_kn k_check_recipe (hr.mono (by decide)) (by rfl) (pa_cons (pv 0) (pa_cons (pv 1) (pa_cons (pv 2) pa_nil)))))
      (pss_one (ps_expr (pe_kn k_check_recipe (hr.mono (by decide)) (by rfl) (pa_cons (pv 0) (pa_cons (pv 1) (pa_cons (pv 3) pa_nil))))))))), ?_⟩
    refine ⟨_, rfl, _, rfl, a, b, rfl, hs, ?_⟩
    refine ⟨_, rfl, _, rfl, _, rfl, a, b, v, ds, rfl, hs, hv, va, vl, fun H1 e1 => ?_⟩
    exact ⟨_, rfl, _, rfl, _, rfl, a, b, u, es, rfl, hs, hu.ex (Ex.t e1), ua, ul, fun H2 e2 => k _ (e1.trans e2)⟩
def sp_alike : Sp := fun vs H Q _ => ∃ (a b : Nat) (v u : V) (ds es : List Deed), vs = [.int (a : Int), .int (b : Int), v, u] ∧ Sz a b ∧ RecV H v ds ∧ RecV H u es ∧ (∀ d ∈ ds, Va a b d) ∧ (∀ d ∈ es, Va a b d) ∧ ds.length ≤ 12 ∧ es.length ≤ 12 ∧
  ∀ H', Ex H H' → Q (.bl (PyData.eqv (outD (outM a b ds)) (outD (outM a b es)))) H'
abbrev s_are_alike : Stmt := top 45
theorem sc_are_alike : FnScope ["width", "height", "one", "other"] ["width", "height", "one", "other"] (defScope s_are_alike) := ⟨rfl, rfl, rfl, by decide +kernel, rfl, by decide +kernel, by decide +kernel⟩
theorem ok_are_alike {f : Addr} {fd : FuncData} (F : Fun K "are_alike" "are_alike" s_are_alike f fd) (T : Txt K mg) (k_outcome : Kn P w K mg base "outcome" 4 ["width", "height", "recipe", "cells"] sp_outcome) :
    FnOk P w K mg base CX0 5 f fd ["width", "height", "one", "other"] sp_alike := by
  refine F.ok sc_are_alike (fun vs H Q E h => ?_) (fun cdv A outer s H vs Q E hr h => ?_)
  · obtain ⟨_, _, _, _, _, _, rfl, _⟩ := h
    rfl
  · obtain ⟨a, b, v, u, ds, es, rfl, hs, hv, hu, va, ua, vl, ul, k⟩ := h
    refine ⟨_, ((pss_one (ps_ret (pe_cmpR (op_eqD hr.units) (pe_kn k_outcome (hr.mono (by decide)) (by rfl) (pa_cons (pv 0) (pa_cons (pv 1) (pa_cons (pv 2) (pa_cons pe_non pa_nil))))) (pe_kn k_outcome (hr.mono (by decide)) (by rfl) (pa_cons (pv 0) (pa_cons (pv 1) (pa_cons (pv 3) (pa_cons pe_non pa_nil))))) (nomark _))))), ?_⟩
    refine ⟨_, rfl, _, rfl, _, rfl, a, b, v, ds, rfl, hs, hv, va, vl, fun r1 H1 e1 h1 => ?_⟩
    refine ⟨_, rfl, _, rfl, _, rfl, a, b, u, es, rfl, hs, hu.ex (Ex.t e1), ua, ul, fun r2 H2 e2 h2 => ?_⟩
    exact ⟨_, _, dp_out (h1.ex e2), dp_out h2, (wf_out (out_ok hs va)).shaped (by decide), (wf_out (out_ok hs ua)).shaped (by decide), k _ (e1.trans e2)⟩
abbrev s_alike : Stmt := top 46
theorem sc_alike : FnScope ["width", "height", "one", "other"] ["width", "height", "one", "other"] (defScope s_alike) := ⟨rfl, rfl, rfl, by decide +kernel, rfl, by decide +kernel, by decide +kernel⟩
theorem ok_alike {f : Addr} {fd : FuncData} (F : Fun K "alike" "alike" s_alike f fd) (T : Txt K mg) (k_check_two : Kn P w K mg base "check_two" 6 ["width", "height", "one", "other"] sp_check_two)
    (k_are_alike : Kn P w K mg base "are_alike" 5 ["width", "height", "one", "other"] sp_alike) : FnOk P w K mg base CX0 7 f fd ["width", "height", "one", "other"] sp_alike := by
  refine F.ok sc_alike (fun vs H Q E h => ?_) (fun cdv A outer s H vs Q E hr h => ?_)
  · obtain ⟨_, _, _, _, _, _, rfl, _⟩ := h
    rfl
  · obtain ⟨a, b, v, u, ds, es, rfl, hs, hv, hu, va, ua, vl, ul, k⟩ := h
    refine ⟨_, ((pss_cons (ps_expr (pe_kn k_check_two (hr.mono (by decide)) (by rfl) (pa_cons (pv 0) (pa_cons (pv 1) (pa_cons (pv 2) (pa_cons (pv 3) pa_nil))))))
      (pss_one (ps_ret (pe_kn k_are_alike (hr.mono (by decide)) (by rfl) (pa_cons (pv 0) (pa_cons (pv 1) (pa_cons (pv 2) (pa_cons (pv 3) pa_nil))))))))), ?_⟩
    refine ⟨_, rfl, _, rfl, _, rfl, _, rfl, a, b, v, u, ds, es, rfl, hs, hv, hu, va, ua, vl, ul, fun H1 e1 => ?_⟩
    exact ⟨_, rfl, _, rfl, _, rfl, _, rfl, a, b, v, u, ds, es, rfl, hs, hv.ex (Ex.t e1), hu.ex (Ex.t e1), va, ua, vl, ul, fun H2 e2 => k _ (e1.trans e2)⟩
end
end K7
/-! The law's own drawing of values from the script: the row [script, i, j, k] is written, all else stays. -/
namespace K7
open PySem L2 K7R
/-- all but the object at r stay -/
def ExR (r : Addr) (H H' : Hp) : Prop := ∀ b u, b ≠ r → H b = some u → H' b = some u
theorem ExR.refl (r : Addr) (H : Hp) : ExR r H H := fun _ _ _ h => h
theorem ExR.trans {r : Addr} {H H1 H2 : Hp} (a : ExR r H H1) (b : ExR r H1 H2) : ExR r H H2 := fun c u n h => b c u n (a c u n h)
theorem ExR.of {r : Addr} {H H' : Hp} (e : Ex H H') : ExR r H H' := fun b u _ h => e b u h
theorem ExR.upd (r : Addr) (H : Hp) (o : HO) : ExR r H (L2.upd H r o) := fun b u n h => by rw [upd_ne n]; exact h
theorem ExR.new {r p : Addr} {H H1 : Hp} {o : HO} (e : ExR r H H1) (h : H1 p = none) : ExR r H (L2.upd H1 p o) := e.trans (.of (Ex.new h))
/-- an object that H does not know may change -/
theorem ExR.mut {r p : Addr} {H H1 : Hp} {o : HO} (e : ExR r H H1) (h : H p = none) : ExR r H (L2.upd H1 p o) := fun a u n ha => by
  rw [upd_ne (ne_of_none ha h)]
  exact e a u n ha
theorem ExR.t {r : Addr} {H H' : Hp} {us : List V} (e : ExR r H H') (h : H r = some (.lst us)) : ExT H H' := fun a xs ha => e a _ (fun z => by rw [z, h] at ha; cases ha) ha
theorem ExR.free {r p : Addr} {H H' : Hp} (e : ExR r H H') (n : p ≠ r) (h : H' p = none) : H p = none := by
  cases h1 : H p with
  | none => rfl
  | some o =>
    rw [e p o n h1] at h
    cases h
/-- the row of the law stands at r, its script at a -/
def Row (K : PySem.W.Frag) (H : Hp) (r a : Addr) (ns : List Int) : Prop := (∃ (i : Nat) (j k : Int), H r = some (.lst [.ref a, .int (i : Int), .int j, .int k])) ∧ SqL K H a (ns.map V.int)
section
variable {K : PySem.W.Frag} {mg : Str → Option Value} {r a : Addr} {ns : List Int}
theorem Row.at {H : Hp} (h : Row K H r a ns) : ∃ us, H r = some (.lst us) := by
  obtain ⟨⟨i, j, k, h⟩, _⟩ := h
  exact ⟨_, h⟩
theorem Row.ne {H : Hp} {p : Addr} (h : Row K H r a ns) (n : H p = none) : p ≠ r := by
  obtain ⟨us, h⟩ := h.at
  exact (ne_of_none h n).symm
theorem Row.t {H H' : Hp} (h : Row K H r a ns) (e : ExR r H H') : ExT H H' := by
  obtain ⟨us, h⟩ := h.at
  exact e.t h
theorem sql_r {H H' : Hp} {r a q : Addr} {ns : List Int} {us : List V} (hr : H r = some (.lst (.ref q :: us))) (e : ExR r H H') (h : SqL K H a (ns.map V.int)) : SqL K H' a (ns.map V.int) := by
  rcases h with (h | ⟨o, h⟩) | h
  · have n : a ≠ r := fun z => by
      subst z
      rw [hr] at h
      have h' := Option.some.inj h
      cases ns with
      | nil => cases h'
      | cons x xs => cases h'
    exact .inl (.inl (e _ _ n h))
  · have n : a ≠ r := fun z => by
      subst z
      rw [hr] at h
      cases h
    exact .inl (.inr ⟨o, e _ _ n h⟩)
  · exact .inr h
theorem Row.ex {H H' : Hp} (h : Row K H r a ns) (e : Ex H H') : Row K H' r a ns := by
  obtain ⟨⟨i, j, k, h1⟩, h2⟩ := h
  exact ⟨⟨i, j, k, e _ _ h1⟩, sql_r h1 (.of e) h2⟩
/-- an object was written that an earlier heap did not know -/
theorem Row.mut {H0 H : Hp} {p : Addr} {o : HO} (h0 : Row K H0 r a ns) (np : H0 p = none) (h : Row K H r a ns) : Row K (L2.upd H p o) r a ns := by
  obtain ⟨⟨i, j, k, h1⟩, h2⟩ := h
  refine ⟨⟨i, j, k, by rw [upd_ne (h0.ne np).symm]; exact h1⟩, ?_⟩
  rcases h0.2 with g | g
  · have na : a ≠ p := fun z => by
      subst z
      rcases g with g | ⟨o, g⟩ <;> (rw [np] at g; cases g)
    rcases h2 with (h | ⟨o, h⟩) | h
    · exact .inl (.inl (by rw [upd_ne na]; exact h))
    · exact .inl (.inr ⟨o, by rw [upd_ne na]; exact h⟩)
    · exact .inr h
  · exact .inr g
theorem BathAt.exR {T : Txt K mg} {H H' : Hp} {x : Addr} {a b : Nat} {z : List Nat} {us : List V} (hr : H r = some (.lst us)) (e : ExR r H H') (h : BathAt T H x a b z) : BathAt T H' x a b z := by
  obtain ⟨dx, t, hs, ht⟩ := h
  have nt : t ≠ r := fun q => by rw [q, hr] at ht; cases ht
  refine ⟨dx, t, ?_, e _ _ nt ht⟩
  rcases hs with ⟨h1, h2⟩ | ⟨h1, h2⟩
  · cases h2
  · refine .inr ⟨e _ _ (fun q => ?_) h1, e _ _ (fun q => ?_) h2⟩
    · rw [q, hr] at h1; cases h1
    · rw [q, hr] at h2; cases h2
end
section
variable {P : Program} {w : World} {K : PySem.W.Frag} {mg : Str → Option Value} {base : Heap}
def sp_taken (K : PySem.W.Frag) : Sp := fun vs H Q _ => ∃ (r a : Addr) (ns : List Int) (m : Nat), vs = [.ref r, .int (m : Int)] ∧ Row K H r a ns ∧ 0 < m ∧ m < 1073741824 ∧ ∀ (n : Nat) H', n < m → ExR r H H' → Row K H' r a ns → Q (.int (n : Int)) H'
abbrev s__law_taken : Stmt := top 48
theorem sc__law_taken : FnScope ["_law_row", "_law_many", "_law_found", "_law_cell"] ["_law_row", "_law_many"] (defScope s__law_taken) := ⟨rfl, rfl, rfl, by decide +kernel, rfl, by decide +kernel, by decide +kernel⟩
theorem ok_taken {f : Addr} {fd : FuncData} (F : Fun K "_law_taken" "_law_taken" s__law_taken f fd) (T : Txt K mg) : FnOk P w K mg base CX0 1 f fd ["_law_row", "_law_many"] (sp_taken K) := by
  refine F.ok sc__law_taken (fun vs H Q E h => ?_) (fun cdv A outer s H vs Q E hr h => ?_)
  · obtain ⟨_, _, _, _, rfl, _⟩ := h
    rfl
  · obtain ⟨r, a, ns, m, rfl, ⟨⟨i, j, k, h0⟩, hS⟩, hm, hm2, kk⟩ := h
    have hm' : (0 : Int) < (m : Int) := by omega
    have hm2' : (m : Int) < 1073741824 := by omega
    have fin : ∀ (z : Int) (i' : Nat) (j' k' : Int) H', ExR r H H' → H' r = some (.lst [.ref a, .int (i' : Int), .int j', .int k']) → Q (.int (z % (m : Int))) H' := by
      intro z i' j' k' H' e hr'
      have h1 := Int.emod_nonneg z (show (m : Int) ≠ 0 by omega)
      have h2 := Int.emod_lt_of_pos z hm'
      have h3 : ((z % (m : Int)).toNat : Int) = z % (m : Int) := Int.toNat_of_nonneg h1
      rw [← h3]
      exact kk _ H' (by omega) e ⟨⟨i', j', k', hr'⟩, sql_r h0 e hS⟩
    refine ⟨_, ((pss_cons (ps_if (pt_cmpR op_gt (pe_ix ix_list (pv 0) pe_int (fun _ _ => rfl)) pe_int (nomark _)) (pss_cons (ps_set (i := 2) sc__law_taken.nd rfl (by first | exact Or.inl rfl | exact Or.inr rfl) (pe_op op_mod (pe_callTy call_int1 (by rfl) T.b_int (by decide +kernel) (pa_cons (pe_ix ix_list (pv 0) pe_int (fun _ _ => rfl)) pa_nil)) (pv 1)))
      (pss_cons (ps_asg (pe_op op_fdiv (pe_ix ix_list (pv 0) pe_int (fun _ _ => rfl)) (pv 1)) (pg_sub (pv 0) pe_int set_list))
      (pss_one (ps_ret (pv 2))))) pss_nil)
      (pss_cons (ps_asg (pe_op op_add (pe_ix ix_list (pv 0) pe_int (fun _ _ => rfl)) pe_int) (pg_sub (pv 0) pe_int set_list))
      (pss_cons (ps_if (pt_cmpR op_gt (pe_ix ix_list (pv 0) pe_int (fun _ _ => rfl)) (pe_callB call_len (by rfl) T.b_len (by decide +kernel) (pa_cons (pe_ix ix_list (pv 0) pe_int (fun _ _ => rfl)) pa_nil)) (nomark _)) (pss_cons (ps_asg (pe_op op_mod (pe_callTy call_int1 (by rfl) T.b_int (by decide +kernel) (pa_cons (pe_op op_add (pe_op op_mul (pe_ix ix_list (pv 0) pe_int (fun _ _ => rfl)) pe_int) pe_int) pa_nil)) pe_int) (pg_sub (pv 0) pe_int set_list))
      (pss_one (ps_ret (pe_op op_mod (pe_callTy call_int1 (by rfl) T.b_int (by decide +kernel) (pa_cons (pe_op op_fdiv (pe_ix ix_list (pv 0) pe_int (fun _ _ => rfl)) pe_int) pa_nil)) (pv 1))))) pss_nil)
      (pss_cons (ps_set (i := 3) sc__law_taken.nd rfl (by first | exact Or.inl rfl | exact Or.inr rfl) (pe_ix ix_list (pe_ix ix_list (pv 0) pe_int (fun _ _ => rfl)) (pe_op op_sub (pe_ix ix_list (pv 0) pe_int (fun _ _ => rfl)) pe_int) (fun _ _ => rfl)))
      (pss_cons (ps_asg (pe_op op_mod (pe_callTy call_int1 (by rfl) T.b_int (by decide +kernel) (pa_cons (pe_op op_add (pe_op op_add (pe_op op_mul (pe_ix ix_list (pv 0) pe_int (fun _ _ => rfl)) pe_int) (pv 3)) pe_int) pa_nil)) pe_int) (pg_sub (pv 0) pe_int set_list))
      (pss_cons (ps_asg (pe_ifExp (pt_cmpR op_ge (pv 3) (pe_op op_pow pe_int pe_int) (nomark _)) (pe_op op_fdiv (pv 3) (pv 1)) pe_int) (pg_sub (pv 0) pe_int set_list))
      (pss_one (ps_ret (pe_op op_mod (pe_callTy call_int1 (by rfl) T.b_int (by decide +kernel) (pa_cons (pv 3) pa_nil)) (pv 1))))))))))), ?_⟩
    refine ⟨_, rfl, r, _, _, _, rfl, rfl, SqL.of h0, rfl, _, _, rfl, rfl, _, rfl, ?_⟩
    by_cases hk : k > 0
    · refine itP (decide_eq_true hk) ?_
      refine ⟨_, rfl, r, _, _, _, rfl, rfl, SqL.of h0, rfl, .inl ⟨_, rfl, _, rfl, _, _, rfl, rfl, hm', ?_⟩⟩
      refine ⟨_, rfl, r, _, _, _, rfl, rfl, SqL.of h0, rfl, _, rfl, _, _, rfl, rfl, ⟨hm', hm2'⟩, ?_⟩
      refine ⟨_, rfl, r, _, _, _, rfl, rfl, h0, rfl, _, rfl, fin _ i j (k / m) _ (ExR.upd r H _) upd_same⟩
    · refine itN (fun z => hk (of_decide_eq_true z)) ?_
      -- row[1] = row[1] + 1
      refine ⟨_, rfl, r, _, _, _, rfl, rfl, SqL.of h0, rfl, _, _, rfl, rfl, _, rfl, r, _, _, _, rfl, rfl, h0, rfl, ?_⟩
      generalize hH1 : upd H r _ = H1
      have e1 : ExR r H H1 := hH1 ▸ ExR.upd r H _
      have h1 : H1 r = some (.lst [.ref a, .int ((i + 1 : Nat) : Int), .int j, .int k]) := by rw [← hH1]; exact upd_same
      have hS1 := sql_r h0 e1 hS
      -- if row[1] > len(row[0])
      refine ⟨_, rfl, r, _, _, _, rfl, rfl, SqL.of h1, rfl, _, rfl, r, _, _, _, rfl, rfl, SqL.of h1, rfl, _, _, rfl, .inl ⟨_, hS1, rfl⟩, _, _, rfl, rfl, _, rfl, ?_⟩
      by_cases hl : ns.length < i + 1
      · refine itP (decide_eq_true (by rw [List.length_map]; show ((ns.length : Nat) : Int) < _; omega)) ?_
        refine ⟨_, rfl, r, _, _, _, rfl, rfl, SqL.of h1, rfl, _, _, rfl, rfl, .inr ⟨by omega, by omega⟩, _, _, rfl, rfl, .inl ⟨_, rfl, _, _, rfl, rfl, (by decide : (0 : Int) < 2147483647), _, rfl, r, _, _, _, rfl, rfl, h1, rfl, ?_⟩⟩
        generalize hH2 : upd H1 r _ = H2
        have e2 : ExR r H H2 := hH2 ▸ e1.trans (ExR.upd r H1 _)
        have h2 : H2 r = some (.lst [.ref a, .int ((i + 1 : Nat) : Int), .int ((j * 48271 + 11) % 2147483647), .int k]) := by rw [← hH2]; exact upd_same
        refine ⟨_, rfl, r, _, _, _, rfl, rfl, SqL.of h2, rfl, _, _, rfl, rfl, ⟨by decide, by decide⟩, .inl ⟨_, rfl, _, rfl, _, _, rfl, rfl, hm', ?_⟩⟩
        exact fin _ _ _ _ H2 e2 h2
      · refine itN (fun z => hl (by have := of_decide_eq_true z; rw [List.length_map] at this; omega)) ?_
        have hi : i < (ns.map V.int).length := by rw [List.length_map]; omega
        have hi' : i < ns.length := by omega
        have hx : (ns.map V.int)[i]? = some (V.int ns[i]) := by rw [List.getElem?_map, List.getElem?_eq_getElem hi']; rfl
        have ei : ((i + 1 : Nat) : Int) - 1 = (i : Int) := by omega
        refine ⟨_, rfl, r, _, _, _, rfl, rfl, SqL.of h1, rfl, _, rfl, r, _, _, _, rfl, rfl, SqL.of h1, rfl, _, _, rfl, rfl, a, _, _, V.int ns[i], rfl, rfl, hS1, ?_, ?_⟩
        · show atI (ns.map V.int) (((i + 1 : Nat) : Int) - 1) = _
          rw [ei]
          exact atI_nat hx
        generalize ns[i] = x
        -- row[2] = ..
        refine ⟨_, rfl, r, _, _, _, rfl, rfl, SqL.of h1, rfl, _, _, rfl, rfl, .inr ⟨by omega, by omega⟩, _, rfl, _, _, rfl, rfl, _, _, rfl, rfl, .inl ⟨_, rfl, _, _, rfl, rfl, (by decide : (0 : Int) < 2147483647), _, rfl, r, _, _, _, rfl, rfl, h1, rfl, ?_⟩⟩
        generalize hH2 : upd H1 r _ = H2
        have e2 : ExR r H H2 := hH2 ▸ e1.trans (ExR.upd r H1 _)
        have h2 : H2 r = some (.lst [.ref a, .int ((i + 1 : Nat) : Int), .int ((j * 48271 + x + 11) % 2147483647), .int k]) := by rw [← hH2]; exact upd_same
        -- row[3] = ..
        have last : ∀ y H3, ExR r H H3 → H3 r = some (.lst [.ref a, .int ((i + 1 : Nat) : Int), .int ((j * 48271 + x + 11) % 2147483647), .int y]) → Q (.int (x % (m : Int))) H3 := fun y H3 e h => fin _ _ _ _ H3 e h
        refine ⟨_, rfl, _, _, rfl, rfl, (by refine ⟨by decide, by decide, by decide⟩), _, _, rfl, rfl, _, rfl, ?_⟩
        by_cases hy : x ≥ (10 : Int) ^ (18 : Int).toNat
        · refine itP (decide_eq_true hy) ?_
          refine ⟨_, rfl, _, rfl, _, _, rfl, rfl, ⟨hm', hm2'⟩, _, rfl, r, _, _, _, rfl, rfl, h2, rfl, ?_⟩
          refine ⟨_, rfl, .inl ⟨_, rfl, _, rfl, _, _, rfl, rfl, hm', ?_⟩⟩
          exact last (x / m) _ (e2.trans (ExR.upd r H2 _)) upd_same
        · refine itN (fun z => hy (of_decide_eq_true z)) ?_
          refine ⟨_, rfl, r, _, _, _, rfl, rfl, h2, rfl, ?_⟩
          refine ⟨_, rfl, .inl ⟨_, rfl, _, rfl, _, _, rfl, rfl, hm', ?_⟩⟩
          exact last 0 _ (e2.trans (ExR.upd r H2 _)) upd_same
end
end K7
/-! _law_pick, _law_sides, _law_scheme, _law_bath. -/
namespace K7
open PySem L2 K7R
section
variable {P : Program} {w : World} {K : PySem.W.Frag} {mg : Str → Option Value} {base : Heap}
def sp_pick (K : PySem.W.Frag) : Sp := fun vs H Q _ => ∃ (r a : Addr) (ns : List Int) (v : V), vs = [.ref r, v] ∧ Row K H r a ns ∧
  ((∃ p xs, v = .ref p ∧ p ≠ r ∧ H p = some (.lst xs) ∧ 0 < xs.length ∧ xs.length ≤ 1000 ∧ ∀ x H', x ∈ xs → ExR r H H' → Row K H' r a ns → Q x H') ∨
   (∃ z : List Nat, v = .str ⟨z.toArray⟩ ∧ 0 < z.length ∧ z.length ≤ 1000 ∧ ∀ c H', c ∈ z → ExR r H H' → Row K H' r a ns → Q (.str (sg c)) H'))
abbrev s__law_pick : Stmt := top 49
theorem sc__law_pick : FnScope ["_law_row", "_law_some"] ["_law_row", "_law_some"] (defScope s__law_pick) := ⟨rfl, rfl, rfl, by decide +kernel, rfl, by decide +kernel, by decide +kernel⟩
theorem ok_pick {f : Addr} {fd : FuncData} (F : Fun K "_law_pick" "_law_pick" s__law_pick f fd) (T : Txt K mg) (k__law_taken : Kn P w K mg base "_law_taken" 1 ["_law_row", "_law_many"] (sp_taken K)) :
    FnOk P w K mg base CX0 2 f fd ["_law_row", "_law_some"] (sp_pick K) := by
  refine F.ok sc__law_pick (fun vs H Q E h => ?_) (fun cdv A outer s H vs Q E hr h => ?_)
  · obtain ⟨_, _, _, _, rfl, _⟩ := h
    rfl
  · obtain ⟨r, a, ns, v, rfl, hrow, h⟩ := h
    refine ⟨_, ((pss_one (ps_ret (pe_ix ix_seq (pv 1) (pe_kn k__law_taken (hr.mono (by decide)) (by rfl) (pa_cons (pv 0) (pa_cons (pe_callB call_len (by rfl) T.b_len (by decide +kernel) (pa_cons (pv 1) pa_nil)) pa_nil))) (fun _ _ => rfl))))), ?_⟩
    rcases h with ⟨p, xs, rfl, hne, hp, h1, h2, k⟩ | ⟨z, rfl, h1, h2, k⟩
    · refine ⟨_, rfl, _, rfl, _, rfl, _, xs.length, rfl, .inl ⟨_, SqL.of hp, rfl⟩, r, a, ns, xs.length, rfl, hrow, h1, by omega, fun n H' hn e hr' => ?_⟩
      exact .inl ⟨p, xs, _, xs[n], rfl, rfl, SqL.of (e _ _ hne hp), atI_nat (List.getElem?_eq_getElem hn), k _ H' (List.getElem_mem hn) e hr'⟩
    · refine ⟨_, rfl, _, rfl, _, rfl, _, z.length, rfl, ⟨?_, ?_⟩, r, a, ns, z.length, rfl, hrow, h1, by omega, fun n H' hn e hr' => ?_⟩
      · exact sz (by show z.toArray.size ≤ _; rw [List.size_toArray]; omega)
      · show z.length = z.toArray.size
        rw [List.size_toArray]
      · exact .inr (.inr ⟨_, _, z[n], rfl, rfl, sz (by show z.toArray.size ≤ _; rw [List.size_toArray]; omega), atI_nat (by show z[n]? = _; exact List.getElem?_eq_getElem hn), k _ H' (List.getElem_mem hn) e hr'⟩)
/-- one of the small ints -/
theorem five {i : Nat} {x : V} (h : ([V.int 1, .int 2, .int 3, .int 4, .int 5] : List V)[i]? = some x) : i < 5 ∧ x = .int ((i + 1 : Nat) : Int) := by
  have hi : i < 5 := by
    have := (List.getElem?_eq_some_iff.mp h).1
    simpa using this
  refine ⟨hi, ?_⟩
  match i, hi, h with
  | 0, _, h => cases h; rfl
  | 1, _, h => cases h; rfl
  | 2, _, h => cases h; rfl
  | 3, _, h => cases h; rfl
  | 4, _, h => cases h; rfl
/-- a pair of sides -/
def Side (H : Hp) (v : V) : Prop := ∃ (q : Addr) (a b : Nat), v = .ref q ∧ H q = some (.tup [.int (a : Int), .int (b : Int)]) ∧ 0 < a ∧ a ≤ 5 ∧ 0 < b ∧ b ≤ 5 ∧ a * b ≤ 9
theorem Side.ex {H H' : Hp} {v : V} (e : ExT H H') (h : Side H v) : Side H' v := by
  obtain ⟨q, a, b, h1, h2, h3⟩ := h
  exact ⟨q, a, b, h1, e _ _ h2, h3⟩
def Sides (H : Hp) (p : Addr) (n : Nat) : Prop := ∃ ps, H p = some (.lst ps) ∧ (∀ v ∈ ps, Side H v) ∧ ps.length ≤ n ∧ (0 < n → ps ≠ [])
def sp_sides : Sp := fun vs H Q _ => vs = [.int 9] ∧ ∀ p H', H p = none → Ex H H' → Sides H' p 25 → Q (.ref p) H'
abbrev s__law_sides : Stmt := top 50
theorem sc__law_sides : FnScope ["_law_cells", "_law_found", "_law_w", "_law_h"] ["_law_cells"] (defScope s__law_sides) := ⟨rfl, rfl, rfl, by decide +kernel, rfl, by decide +kernel, by decide +kernel⟩
theorem ok_sides {f : Addr} {fd : FuncData} (F : Fun K "_law_sides" "_law_sides" s__law_sides f fd) (T : Txt K mg) : FnOk P w K mg base CX0 1 f fd ["_law_cells"] sp_sides := by
  refine F.ok sc__law_sides (fun vs H Q E h => ?_) (fun cdv A outer s H vs Q E hr h => ?_)
  · obtain ⟨rfl, _⟩ := h
    rfl
  · obtain ⟨rfl, k⟩ := h
    refine ⟨_, ((pss_cons (ps_set (i := 1) sc__law_sides.nd rfl (by first | exact Or.inl rfl | exact Or.inr rfl) (pe_lst pa_nil))
      (pss_cons (ps_for PassesOwn.never rfl (pi_tup (pe_tup (pa_cons pe_int (pa_cons pe_int (pa_cons pe_int (pa_cons pe_int (pa_cons pe_int pa_nil))))))) (pg_name (i := 2) sc__law_sides.nd rfl (by first | exact Or.inl rfl | exact Or.inr rfl)) (pss_one (ps_set (i := 1) sc__law_sides.nd rfl (by first | exact Or.inl rfl | exact Or.inr rfl) (pe_op op_cat (pv 1) (pe_lc (own := [("_law_h", 3)]) (g := gName 3)  rfl sc__law_sides.nd (pi_tup (pe_tup (pa_cons pe_int (pa_cons pe_int (pa_cons pe_int (pa_cons pe_int (pa_cons pe_int pa_nil))))))) (blkOk_by (own := [("_law_h", 3)]) (N := ["_law_cells", "_law_found", "_law_w", "_law_h"]) (sc := defScope s__law_sides) (by decide +kernel)) (fun _ _ _ _ _ => (pg_name (i := 3) sc__law_sides.nd rfl (Or.inl rfl))) (fun _ _ _ _ _ => pts_one (pt_cmpR op_le (pe_op op_mul (pv 2) (pv 3)) (pv 0) (nomark _))) (fun _ _ _ _ _ => (pe_tup (pa_cons (pv 2) (pa_cons (pv 3) pa_nil)))))))))
      (pss_one (ps_ret (pv 1)))))), ?_⟩
    refine ⟨Nat.zero_le _, fun p0 hp0 => ?_⟩
    refine ⟨(by show 5 ≤ sizeLine; decide), fun t ht => ?_⟩
    have e1 : Ex H (upd (upd H p0 (.lst [])) t (.tup [.int 1, .int 2, .int 3, .int 4, .int 5])) := Ex.new' (Ex.new hp0) ht
    have h01 : (upd (upd H p0 (.lst [])) t (.tup [V.int 1, .int 2, .int 3, .int 4, .int 5])) p0 = some (.lst []) := Ex.new ht _ _ upd_same
    have ht1 : (upd (upd H p0 (.lst [])) t (.tup [V.int 1, .int 2, .int 3, .int 4, .int 5])) t = some (.tup [.int 1, .int 2, .int 3, .int 4, .int 5]) := upd_same
    show ∃ p, _
    generalize upd (upd H p0 (.lst [])) t (.tup [V.int 1, .int 2, .int 3, .int 4, .int 5]) = H1 at e1 h01 ht1 ⊢
    refine ⟨t, rfl, ⟨_, SqT.of ht1⟩, ?_⟩
    refine for_it (walk_tup (xs := [V.int 1, .int 2, .int 3, .int 4, .int 5])) (fun i σ H' => Ex H1 H' ∧ Ex H H' ∧ ∃ p o, σ = [some (.int 9), some (.ref p), o, none] ∧ H p = none ∧ Sides H' p (5 * i)) ⟨Ex.refl _, e1, p0, none, rfl, hp0, [], h01, (fun _ h => nomatch h), Nat.zero_le _, fun h => absurd h (by decide)⟩ (fun i σ H' _ q => SqT.of (q.1 _ _ ht1)) ?_ ?_
    · rintro i x σ H2 H3 hi ⟨e2, e2', p, o, rfl, hpn, ps, hps, hsd, hpl, hpe⟩ ⟨rfl, hx⟩
      obtain ⟨hi5, rfl⟩ := five hx
      have ha : 0 < i + 1 ∧ i + 1 ≤ 5 := ⟨by omega, by omega⟩
      generalize ew : i + 1 = wd at ha ⊢
      refine ⟨_, rfl, (by show 5 ≤ sizeLine; decide), fun t2 ht2 => ?_⟩
      have e3 := Ex.new ht2 (o := .tup [.int 1, .int 2, .int 3, .int 4, .int 5])
      have ht3 : (upd H3 t2 (.tup [V.int 1, .int 2, .int 3, .int 4, .int 5])) t2 = some (.tup [.int 1, .int 2, .int 3, .int 4, .int 5]) := upd_same
      show ∃ p, _
      generalize upd H3 t2 (.tup [V.int 1, .int 2, .int 3, .int 4, .int 5]) = H4 at e3 ht3 ⊢
      refine ⟨t2, rfl, ⟨_, SqT.of ht3⟩, fun D hD => ?_⟩
      refine lc_it (walk_tup (xs := [V.int 1, .int 2, .int 3, .int 4, .int 5])) (fun j H' => Ex H4 H' ∧ Sides H' D j) ⟨Ex.new hD, [], upd_same, (fun _ h => nomatch h), Nat.zero_le _, fun h => absurd h (by decide)⟩ (fun j H' _ q => SqT.of (q.1 _ _ ht3)) ?_ ?_
      · rintro j y H5 H6 hj ⟨e5, zs, hz, hzs, hzl, hze⟩ ⟨rfl, hy⟩
        obtain ⟨hj5, rfl⟩ := five hy
        refine ⟨rfl, _, rfl, _, rfl, _, _, rfl, rfl, .inl ⟨by omega, by omega⟩, _, rfl, _, _, rfl, rfl, _, rfl, ?_⟩
        by_cases hle : (wd : Int) * ((j + 1 : Nat) : Int) ≤ 9
        · refine itP (decide_eq_true hle) ?_
          rw [mul_int_nat] at hle
          refine ⟨_, rfl, _, rfl, (by show 2 ≤ sizeLine; decide), fun q hq => ?_⟩
          have hz' := Ex.new hq _ _ hz (o := .tup [.int (wd : Int), .int ((j + 1 : Nat) : Int)])
          have nqD : q ≠ D := (ne_of_none hz hq).symm
          refine ⟨zs, hz', szl (by omega), Ex.mut (Ex.new' e5 hq) hD, zs ++ [.ref q], upd_same, fun v hv => ?_, by simp; omega, fun _ z => by simp at z⟩
          have et : ExT H6 (upd (upd H6 q (.tup [V.int (wd : Int), .int ((j + 1 : Nat) : Int)])) D (.lst (zs ++ [.ref q]))) := (Ex.t (Ex.new hq)).trans (ExT.upd (not_tup_lst hz'))
          rcases List.mem_append.mp hv with hv | hv
          · exact (hzs v hv).ex et
          · rw [List.mem_singleton.mp hv]
            exact ⟨q, wd, j + 1, rfl, by rw [upd_ne nqD, upd_same], ha.1, ha.2, by omega, by omega, by omega⟩
        · refine itN (fun z => hle (of_decide_eq_true z)) ?_
          refine ⟨e5, zs, hz, hzs, by omega, fun _ => ?_⟩
          by_cases hj0 : 0 < j
          · exact hze hj0
          · exfalso
            have : j = 0 := by omega
            subst this
            apply hle
            omega
      · rintro H5 ⟨e5, zs, hz, hzs, hzl, hze⟩
        have hps5 := e5 _ _ (e3 _ _ hps)
        have hzl' : zs.length ≤ 5 := hzl
        refine ⟨p, D, ps, zs, rfl, rfl, hps5, hz, sz (by omega), fun p2 hp2 => ?_⟩
        have e6 : Ex H5 (upd H5 p2 (.lst (ps ++ zs))) := Ex.new hp2
        have e36 := Ex.t (e3.trans (e5.trans e6))
        refine ⟨e2.trans (e3.trans (e5.trans e6)), e2'.trans (e3.trans (e5.trans e6)), p2, _, rfl, fresh_back (e2'.trans (e3.trans e5)) hp2, ps ++ zs, upd_same, fun v hv => ?_, by simp; omega, fun _ z => ?_⟩
        · rcases List.mem_append.mp hv with hv | hv
          · exact (hsd v hv).ex e36
          · exact (hzs v hv).ex (Ex.t e6)
        · exact hze (by decide) (List.append_eq_nil_iff.mp z).2
    · rintro σ H2 ⟨e2, e2', p, o, rfl, hpn, hs⟩
      exact ⟨_, rfl, k p H2 hpn e2' hs⟩
end
end K7
/-! _law_scheme, _law_bath. -/
namespace K7
open PySem L2 K7R
/-- the value is the scheme -/
def SchV (H : Hp) (v : V) (a b : Nat) (z : List Nat) : Prop := ∃ t, v = .ref t ∧ H t = some (.tup [.int (a : Int), .int (b : Int), .str ⟨z.toArray⟩])
theorem SchV.ex {H H' : Hp} {v : V} {a b : Nat} {z : List Nat} (e : ExT H H') (h : SchV H v a b z) : SchV H' v a b z := by
  obtain ⟨t, h1, h2⟩ := h
  exact ⟨t, h1, e _ _ h2⟩
/-- the kinds of signs -/
def kindsL : List Str := ["abc.", "ab.", "a.", "abcdefgh"]
def kindsN : List (List Nat) := [[97, 98, 99, 46], [97, 98, 46], [97, 46], [97, 98, 99, 100, 101, 102, 103, 104]]
theorem kinds_eq : kindsL = kindsN.map fun z => ⟨z.toArray⟩ := by decide +kernel
theorem kinds_sig : ∀ z ∈ kindsN, 0 < z.length ∧ z.length ≤ 8 ∧ ∀ c ∈ z, (97 ≤ c ∧ c ≤ 122) ∨ c = 46 := by decide +kernel
section
variable {P : Program} {w : World} {K : PySem.W.Frag} {mg : Str → Option Value} {base : Heap}
def sp_scheme (K : PySem.W.Frag) : Sp := fun vs H Q _ => ∃ (r a : Addr) (ns : List Int), vs = [.ref r, .int 9] ∧ Row K H r a ns ∧
  ∀ v wd ht z H', ExR r H H' → Row K H' r a ns → SchV H' v wd ht z → Sz wd ht → wd * ht ≤ 9 → z.length = wd * ht → (∀ c ∈ z, Sig c) → Q v H'
abbrev s__law_scheme : Stmt := top 51
theorem sc__law_scheme : FnScope ["_law_row", "_law_cells", "_law_some", "_law_w", "_law_h", "_law_part", "_law_kinds", "_law_cell"] ["_law_row", "_law_cells"] (defScope s__law_scheme) := ⟨rfl, rfl, rfl, by decide +kernel, rfl, by decide +kernel, by decide +kernel⟩
theorem ok_scheme {f : Addr} {fd : FuncData} (F : Fun K "_law_scheme" "_law_scheme" s__law_scheme f fd) (T : Txt K mg) (k__law_sides : Kn P w K mg base "_law_sides" 1 ["_law_cells"] sp_sides)
    (k__law_pick : Kn P w K mg base "_law_pick" 2 ["_law_row", "_law_some"] (sp_pick K)) : FnOk P w K mg base CX0 3 f fd ["_law_row", "_law_cells"] (sp_scheme K) := by
  refine F.ok sc__law_scheme (fun vs H Q E h => ?_) (fun cdv A outer s H vs Q E hr h => ?_)
  · obtain ⟨_, _, _, rfl, _⟩ := h
    rfl
  · obtain ⟨r, a, ns, rfl, hrow, k⟩ := h
    refine ⟨_, ((pss_cons (ps_set (i := 2) sc__law_scheme.nd rfl (by first | exact Or.inl rfl | exact Or.inr rfl) (pe_kn k__law_sides (hr.mono (by decide)) (by rfl) (pa_cons (pv 1) pa_nil)))
      (pss_cons (ps_asg (pe_kn k__law_pick (hr.mono (by decide)) (by rfl) (pa_cons (pv 0) (pa_cons (pe_op op_cat (pv 2) (pe_lc (own := [("_law_part", 5)]) (g := gName 5)  rfl sc__law_scheme.nd (pi_list (pv 2)) (blkOk_by (own := [("_law_part", 5)]) (N := ["_law_row", "_law_cells", "_law_some", "_law_w", "_law_h", "_law_part", "_law_kinds", "_law_cell"]) (sc := defScope s__law_scheme) (by decide +kernel)) (fun _ _ _ _ _ => (pg_name (i := 5) sc__law_scheme.nd rfl (Or.inl rfl))) (fun _ _ _ _ _ => pts_one (pt_cmpR op_gt (pe_op op_mul (pe_ix (ix_tupK (K := K)) (pv 5) pe_int (fun _ _ => rfl)) (pe_ix (ix_tupK (K := K)) (pv 5) pe_int (fun _ _ => rfl))) pe_int (nomark _))) (fun _ _ _ _ _ => (pv 5)))) pa_nil))) (pg_tup rfl (pgs_cons (pg_name (i := 3) sc__law_scheme.nd rfl (by first | exact Or.inl rfl | exact Or.inr rfl)) (pgs_cons (pg_name (i := 4) sc__law_scheme.nd rfl (by first | exact Or.inl rfl | exact Or.inr rfl)) pgs_nil))))
      (pss_cons (ps_set (i := 6) sc__law_scheme.nd rfl (by first | exact Or.inl rfl | exact Or.inr rfl) (pe_kn k__law_pick (hr.mono (by decide)) (by rfl) (pa_cons (pv 0) (pa_cons (pe_lst (pa_cons pe_str (pa_cons pe_str (pa_cons pe_str (pa_cons pe_str pa_nil))))) pa_nil))))
      (pss_one (ps_ret (pe_tup (pa_cons (pv 3) (pa_cons (pv 4) (pa_cons (pe_join pe_str (pe_lc (own := [("_law_cell", 7)]) (g := gName 7) (tt := tYes) rfl sc__law_scheme.nd (pi_range1 (by rfl) T.b_range (pa_cons (pe_op op_mul (pv 3) (pv 4)) pa_nil)) (blkOk_by (own := [("_law_cell", 7)]) (N := ["_law_row", "_law_cells", "_law_some", "_law_w", "_law_h", "_law_part", "_law_kinds", "_law_cell"]) (sc := defScope s__law_scheme) (by decide +kernel)) (fun _ _ _ _ _ => (pg_name (i := 7) sc__law_scheme.nd rfl (Or.inl rfl))) (fun _ _ _ _ _ => pts_nil) (fun _ _ _ _ _ => (pe_kn k__law_pick (hr.mono (by decide)) (by rfl) (pa_cons (pv 0) (pa_cons (pv 6) pa_nil)))))) pa_nil)))))))))), ?_⟩
    refine ⟨_, rfl, rfl, fun p H1 hp e1 ⟨ps, hps, hsd, hpl, hpe⟩ => ?_⟩
    have hrow1 := hrow.ex e1
    -- some + [part for part in some if ..]
    refine ⟨_, rfl, _, rfl, _, rfl, p, rfl, ⟨_, SqL.of hps⟩, fun D hD => ?_⟩
    refine lc_it walk_list (fun j H' => Ex H1 H' ∧ ∃ zs, H' D = some (.lst zs) ∧ (∀ v ∈ zs, v ∈ ps) ∧ zs.length ≤ j) ⟨Ex.new hD, [], upd_same, (fun _ h => nomatch h), Nat.zero_le _⟩ (fun j H' _ q => SqL.of (q.1 _ _ hps)) ?_ ?_
    · rintro j y H2 H3 hj ⟨e2, zs, hz, hzs, hzl⟩ ⟨rfl, hy⟩
      have hym := List.mem_of_getElem? hy
      obtain ⟨q, wd, ht, rfl, hq, _⟩ := hsd y hym
      have hq3 := e2 _ _ hq
      refine ⟨rfl, _, rfl, q, _, _, _, rfl, rfl, SqT.of hq3, rfl, _, rfl, q, _, _, _, rfl, rfl, SqT.of hq3, rfl, _, _, rfl, rfl, .inl ⟨by omega, by omega⟩, _, _, rfl, rfl, _, rfl, ?_⟩
      refine iteS ?_ ?_
      · refine ⟨_, rfl, zs, hz, szl (by omega), Ex.mut e2 hD, zs ++ [.ref q], upd_same, fun v hv => ?_, by simp; omega⟩
        rcases List.mem_append.mp hv with hv | hv
        · exact hzs v hv
        · rw [List.mem_singleton.mp hv]; exact hym
      · exact ⟨e2, zs, hz, hzs, by omega⟩
    · rintro H2 ⟨e2, zs, hz, hzs, hzl⟩
      refine ⟨p, D, ps, zs, rfl, rfl, e2 _ _ hps, hz, sz (by omega), fun p2 hp2 => ?_⟩
      have e3 : Ex H1 (upd H2 p2 (.lst (ps ++ zs))) := Ex.new' e2 hp2
      have h3 : (upd H2 p2 (.lst (ps ++ zs))) p2 = some (.lst (ps ++ zs)) := upd_same
      have hrow3 := hrow1.ex e3
      have n3 : p2 ≠ r := hrow1.ne (fresh_back e2 hp2)
      generalize upd H2 p2 (.lst (ps ++ zs)) = H3 at e3 h3 hrow3 ⊢
      have pl : 0 < ps.length := List.length_pos_iff.mpr (hpe (by decide))
      refine ⟨r, a, ns, .ref p2, rfl, hrow3, .inl ⟨p2, ps ++ zs, rfl, n3, h3, by simp; omega, by simp; omega, fun x H4 hx e4 hrow4 => ?_⟩⟩
      have hxm : x ∈ ps := by
        rcases List.mem_append.mp hx with hx | hx
        · exact hx
        · exact hzs x hx
      obtain ⟨q, wd, ht, rfl, hq, h1, h2, h3', h4, h5⟩ := hsd x hxm
      have hq4 := (hrow3.t e4) _ _ (e3 _ _ hq)
      have e14 : ExR r H H4 := (ExR.of (e1.trans e3)).trans e4
      refine ⟨q, _, rfl, SqT.of hq4, rfl, _, _, rfl, _, _, rfl, rfl, ?_⟩
      -- kinds
      refine ⟨_, rfl, (by show 4 ≤ sizeLine; decide), fun p5 hp5 => ?_⟩
      generalize hH5 : upd H4 p5 _ = H5
      have e5 : Ex H4 H5 := hH5 ▸ Ex.new hp5
      have h5' : H5 p5 = some (.lst (kindsL.map V.str)) := by rw [← hH5]; exact upd_same
      have hrow5 := hrow4.ex e5
      have n5 := hrow4.ne hp5
      refine ⟨r, a, ns, .ref p5, rfl, hrow5, .inl ⟨p5, _, rfl, n5, h5', by decide, by decide, fun x H6 hx e6 hrow6 => ?_⟩⟩
      have e16 : ExR r H H6 := e14.trans ((ExR.of e5).trans e6)
      rw [kinds_eq] at hx
      obtain ⟨x', hx', rfl⟩ := List.mem_map.mp hx
      obtain ⟨kz, hkz, rfl⟩ := List.mem_map.mp hx'
      obtain ⟨hk1, hk2, hk3⟩ := kinds_sig kz hkz
      -- the text
      refine ⟨_, rfl, _, rfl, ⟨_, rfl⟩, _, rfl, _, rfl, _, _, rfl, rfl, .inl ⟨by omega, by omega⟩, _, rfl, by rw [mul_int_nat]; omega, by rw [mul_int_nat]; omega, fun D2 hD2 => ?_⟩
      have en : ((wd : Int) * (ht : Int)).toNat = wd * ht := by rw [mul_int_nat]; rfl
      rw [en]
      have nD2 := hrow6.ne hD2
      refine lc_it (walk_range (lo := 0)) (fun j H' => ExR r H6 H' ∧ Row K H' r a ns ∧ ∃ cs : List Nat, H' D2 = some (.lst ((cs.map sg).map V.str)) ∧ cs.length = j ∧ ∀ c ∈ cs, Sig c) ⟨ExR.of (Ex.new hD2), hrow6.ex (Ex.new hD2), [], upd_same, rfl, fun _ h => nomatch h⟩ (fun _ _ _ _ => trivial) ?_ ?_
      · rintro j y H7 H8 hj ⟨e7, hrow7, cs, hcs, hcl, hsig⟩ ⟨rfl, rfl⟩
        refine ⟨rfl, _, rfl, _, rfl, r, a, ns, _, rfl, hrow7, .inr ⟨kz, rfl, hk1, by omega, fun c H9 hc e9 hrow9 => ?_⟩⟩
        refine ⟨_, e9 _ _ nD2 hcs, szl (by simp; omega), ExR.mut (e7.trans e9) hD2, Row.mut hrow6 hD2 hrow9, cs ++ [c], ?_, by simp [hcl], fun c' hc' => ?_⟩
        · rw [upd_same, List.map_append, List.map_append]
          rfl
        · rcases List.mem_append.mp hc' with hc' | hc'
          · exact hsig c' hc'
          · rw [List.mem_singleton.mp hc']; exact hk3 c hc
      · rintro H7 ⟨e7, hrow7, cs, hcs, hcl, hsig⟩
        refine ⟨_, D2, _, rfl, rfl, .inl (SqL.of hcs), join_size _ (by omega), ?_⟩
        rw [join_signs]
        refine ⟨(by show 3 ≤ sizeLine; decide), fun t ht' => ?_⟩
        exact k (.ref t) wd ht cs _ ((e16.trans e7).new ht') (hrow7.ex (Ex.new ht')) ⟨t, rfl, upd_same⟩ ⟨h1, h2, h3', h4, by omega⟩ h5 hcl hsig
def sp_bath (T : Txt K mg) : Sp := fun vs H Q _ => ∃ (v : V) (a b : Nat) (z : List Nat), vs = [v] ∧ SchV H v a b z ∧ Sz a b ∧ z.length = a * b ∧ (∀ c ∈ z, Sig c) ∧ ∀ x H', Ex H H' → BathAt T H' x a b z → Q (.ref x) H'
abbrev s__law_bath : Stmt := top 52
theorem sc__law_bath : FnScope ["_law_s"] ["_law_s"] (defScope s__law_bath) := ⟨rfl, rfl, rfl, by decide +kernel, rfl, by decide +kernel, by decide +kernel⟩
theorem ok_bath {f : Addr} {fd : FuncData} (F : Fun K "_law_bath" "_law_bath" s__law_bath f fd) (T : Txt K mg) (k_Bath : Kc P w K mg base T.cBath "Bath" 3 ["self", "width", "height", "cells"] (sp_bath_init T)) :
    FnOk P w K mg base CX0 5 f fd ["_law_s"] (sp_bath T) := by
  refine F.ok sc__law_bath (fun vs H Q E h => ?_) (fun cdv A outer s H vs Q E hr h => ?_)
  · obtain ⟨_, _, _, _, rfl, _⟩ := h
    rfl
  · obtain ⟨v, a, b, z, rfl, ⟨t, rfl, ht⟩, hs, hz, hsg, k⟩ := h
    refine ⟨_, ((pss_one (ps_ret (pe_mk k_Bath (hr.mono (by decide)) (by rfl) (pa_cons (pe_ix ix_tup (pv 0) pe_int (fun _ _ => rfl)) (pa_cons (pe_ix ix_tup (pv 0) pe_int (fun _ _ => rfl)) (pa_cons (pe_ix ix_tup (pv 0) pe_int (fun _ _ => rfl)) pa_nil))))))), ?_⟩
    refine ⟨_, rfl, t, _, _, _, rfl, rfl, SqT.of ht, rfl, _, rfl, t, _, _, _, rfl, rfl, SqT.of ht, rfl, _, rfl, t, _, _, _, rfl, rfl, SqT.of ht, rfl, fun x dx hx hdx hne => ?_⟩
    have e1 : Ex H (upd (upd H dx (.own x)) x (.ins T.cBath dx [])) := (Ex.new hdx).trans (Ex.new (by rw [upd_ne hne.symm]; exact hx))
    exact ⟨H, x, dx, a, b, z, rfl, e1, hx, hdx, hne, upd_same, by rw [upd_ne hne, upd_same], hs, hz, hsg, fun H2 e2 hB => ⟨rfl, k x H2 e2 hB⟩⟩
end
end K7
/-! _law_draw, _law_dropped, _law_laid, _law_deed. -/
namespace K7
open PySem L2 K7R
section
variable {P : Program} {w : World} {K : PySem.W.Frag} {mg : Str → Option Value} {base : Heap}
/-- one more deed is drawn from the row -/
def sp_gen (K : PySem.W.Frag) : Sp := fun vs H Q _ => ∃ (r a : Addr) (ns : List Int) (v : V) (wd ht : Nat) (z : List Nat), vs = [.ref r, v] ∧ Row K H r a ns ∧ SchV H v wd ht z ∧ Sz wd ht ∧
  ∀ u d H', ExR r H H' → Row K H' r a ns → DeedV H' u d → Va wd ht d → Q u H'
abbrev s__law_draw : Stmt := top 53
theorem sc__law_draw : FnScope ["_law_row", "_law_s", "_law_kind", "_law_far", "_law_k"] ["_law_row", "_law_s"] (defScope s__law_draw) := ⟨rfl, rfl, rfl, by decide +kernel, rfl, by decide +kernel, by decide +kernel⟩
theorem ok_gdraw {f : Addr} {fd : FuncData} (F : Fun K "_law_draw" "_law_draw" s__law_draw f fd) (T : Txt K mg) (k__law_taken : Kn P w K mg base "_law_taken" 1 ["_law_row", "_law_many"] (sp_taken K))
    (k__law_pick : Kn P w K mg base "_law_pick" 2 ["_law_row", "_law_some"] (sp_pick K)) : FnOk P w K mg base CX0 3 f fd ["_law_row", "_law_s"] (sp_gen K) := by
  refine F.ok sc__law_draw (fun vs H Q E h => ?_) (fun cdv A outer s H vs Q E hr h => ?_)
  · obtain ⟨_, _, _, _, _, _, _, rfl, _⟩ := h
    rfl
  · obtain ⟨r, a, ns, v, wd, ht, z, rfl, hrow, hv, hs, k⟩ := h
    refine ⟨_, ((pss_cons (ps_set (i := 2) sc__law_draw.nd rfl (by first | exact Or.inl rfl | exact Or.inr rfl) (pe_kn k__law_pick (hr.mono (by decide)) (by rfl) (pa_cons (pv 0) (pa_cons (pe_lst (pa_cons pe_str (pa_cons pe_str pa_nil))) pa_nil))))
      (pss_cons (ps_set (i := 3) sc__law_draw.nd rfl (by first | exact Or.inl rfl | exact Or.inr rfl) (pe_kn k__law_pick (hr.mono (by decide)) (by rfl) (pa_cons (pv 0) (pa_cons (pe_lst (pa_cons pe_int (pa_cons pe_int (pa_cons pe_int pa_nil)))) pa_nil))))
      (pss_one (ps_ret (pe_tup (pa_cons (pv 2) (pa_cons (pe_callTy call_tuple_of (by rfl) T.b_tuple (by decide +kernel) (pa_cons (pe_lc (own := [("_law_k", 4)]) (g := gName 4) (tt := tYes) rfl sc__law_draw.nd (pi_range1 (by rfl) T.b_range (pa_cons (pe_ifExp (pt_cmpR op_eq (pv 2) pe_str (nomark _)) (pe_ix ix_tup (pv 1) pe_int (fun _ _ => rfl)) (pe_ix ix_tup (pv 1) pe_int (fun _ _ => rfl))) pa_nil)) (blkOk_by (own := [("_law_k", 4)]) (N := ["_law_row", "_law_s", "_law_kind", "_law_far", "_law_k"]) (sc := defScope s__law_draw) (by decide +kernel)) (fun _ _ _ _ _ => (pg_name (i := 4) sc__law_draw.nd rfl (Or.inl rfl))) (fun _ _ _ _ _ => pts_nil) (fun _ _ _ _ _ => (pe_op op_sub (pe_kn k__law_taken (hr.mono (by decide)) (by rfl) (pa_cons (pv 0) (pa_cons (pe_op op_add (pe_op op_mul pe_int (pv 3)) pe_int) pa_nil))) (pv 3)))) pa_nil)) pa_nil)))))))), ?_⟩
    refine ⟨_, rfl, (by show 2 ≤ sizeLine; decide), fun p1 hp1 => ?_⟩
    generalize hH1 : upd H p1 _ = H1
    have e1 : Ex H H1 := hH1 ▸ Ex.new hp1
    have h1 : H1 p1 = some (.lst [.str "rake", .str "comb"]) := by rw [← hH1]; exact upd_same
    refine ⟨r, a, ns, .ref p1, rfl, hrow.ex e1, .inl ⟨p1, _, rfl, hrow.ne hp1, h1, by decide, by decide, fun x H2 hx e2 hrow2 => ?_⟩⟩
    obtain ⟨rr, rfl⟩ : ∃ rr, x = .str (kindS rr) := by
      rcases List.mem_cons.mp hx with e | hx
      · exact ⟨true, e⟩
      · exact ⟨false, List.mem_singleton.mp hx⟩
    have e02 : ExR r H H2 := (ExR.of e1).trans e2
    refine ⟨_, rfl, (by show 3 ≤ sizeLine; decide), fun p3 hp3 => ?_⟩
    generalize hH3 : upd H2 p3 _ = H3
    have e3 : Ex H2 H3 := hH3 ▸ Ex.new hp3
    have h3 : H3 p3 = some (.lst [.int 1, .int 2, .int 9]) := by rw [← hH3]; exact upd_same
    refine ⟨r, a, ns, .ref p3, rfl, hrow2.ex e3, .inl ⟨p3, _, rfl, hrow2.ne hp3, h3, by decide, by decide, fun x H4 hx e4 hrow4 => ?_⟩⟩
    obtain ⟨far, hfar, rfl⟩ : ∃ far : Nat, far ≤ 9 ∧ x = .int (far : Int) := by
      rcases List.mem_cons.mp hx with e | hx
      · exact ⟨1, by decide, e⟩
      · rcases List.mem_cons.mp hx with e | hx
        · exact ⟨2, by decide, e⟩
        · exact ⟨9, by decide, List.mem_singleton.mp hx⟩
    have e04 : ExR r H H4 := e02.trans ((ExR.of e3).trans e4)
    obtain ⟨t, rfl, ht4⟩ := hv.ex (hrow.t e04)
    obtain ⟨s1, s2, s3, s4, s5⟩ := hs
    -- the strides
    cases hrr : rr
    all_goals refine ⟨_, rfl, _, rfl, rfl, _, rfl, ?_⟩
    all_goals first | refine itN (by decide +kernel) ?_ | refine itP (by decide +kernel) ?_
    all_goals
      refine ⟨_, rfl, t, _, _, _, rfl, rfl, SqT.of ht4, rfl, _, rfl, by omega, by omega, fun D hD => ?_⟩
      have nD := hrow4.ne hD
      rw [Int.toNat_natCast]
      refine lc_it (walk_range (lo := 0)) (fun j H' => ExR r H4 H' ∧ Row K H' r a ns ∧ ∃ us : List Int, H' D = some (.lst (us.map V.int)) ∧ us.length = j ∧ ∀ x ∈ us, -9 ≤ x ∧ x ≤ 9) ⟨ExR.of (Ex.new hD), hrow4.ex (Ex.new hD), [], upd_same, rfl, fun _ h => nomatch h⟩ (fun _ _ _ _ => trivial) ?_ ?_
      · rintro j y H7 H8 hj ⟨e7, hrow7, us, hus, hul, huv⟩ ⟨rfl, rfl⟩
        refine ⟨rfl, _, rfl, _, rfl, _, _, rfl, rfl, .inl ⟨by decide, by decide⟩, _, _, rfl, rfl, r, a, ns, 2 * far + 1, rfl, hrow7, by omega, by omega, fun n H9 hn e9 hrow9 => ?_⟩
        refine ⟨_, rfl, _, _, rfl, rfl, _, e9 _ _ nD hus, szl (by simp; omega), ExR.mut (e7.trans e9) hD, Row.mut hrow4 hD hrow9, us ++ [(n : Int) - far], ?_, by simp [hul], fun x hx => ?_⟩
        · rw [upd_same, List.map_append]
          rfl
        · rcases List.mem_append.mp hx with hx | hx
          · exact huv x hx
          · rw [List.mem_singleton.mp hx]
            omega
      · rintro H7 ⟨e7, hrow7, us, hus, hul, huv⟩
        refine ⟨D, _, rfl, .inl ⟨SqL.of hus, fun l hl => ?_⟩⟩
        refine ⟨(by show 2 ≤ sizeLine; decide), fun t2 ht2 => ?_⟩
        have e8 : Ex H7 (upd H7 l (.tup (us.map V.int))) := Ex.new hl
        generalize hH9 : upd _ t2 _ = H9
        have e9 : Ex (upd H7 l (.tup (us.map V.int))) H9 := hH9 ▸ Ex.new ht2
        refine k (.ref t2) (.draw rr us) _ ((e04.trans e7).trans ((ExR.of e8).trans (ExR.of e9))) ((hrow7.ex e8).ex e9) ⟨t2, l, rfl, by rw [← hH9, hrr]; exact upd_same, e9 _ _ upd_same⟩ ⟨by rw [hrr]; exact hul, huv⟩
abbrev s__law_dropped : Stmt := top 54
theorem sc__law_dropped : FnScope ["_law_row", "_law_s"] ["_law_row", "_law_s"] (defScope s__law_dropped) := ⟨rfl, rfl, rfl, by decide +kernel, rfl, by decide +kernel, by decide +kernel⟩
theorem ok_gdrop {f : Addr} {fd : FuncData} (F : Fun K "_law_dropped" "_law_dropped" s__law_dropped f fd) (T : Txt K mg) (k__law_taken : Kn P w K mg base "_law_taken" 1 ["_law_row", "_law_many"] (sp_taken K))
    (k__law_pick : Kn P w K mg base "_law_pick" 2 ["_law_row", "_law_some"] (sp_pick K)) : FnOk P w K mg base CX0 3 f fd ["_law_row", "_law_s"] (sp_gen K) := by
  refine F.ok sc__law_dropped (fun vs H Q E h => ?_) (fun cdv A outer s H vs Q E hr h => ?_)
  · obtain ⟨_, _, _, _, _, _, _, rfl, _⟩ := h
    rfl
  · obtain ⟨r, a, ns, v, wd, ht, z, rfl, hrow, ⟨t, rfl, ht0⟩, hs, k⟩ := h
    refine ⟨_, ((pss_one (ps_ret (pe_tup (pa_cons pe_str (pa_cons (pe_kn k__law_taken (hr.mono (by decide)) (by rfl) (pa_cons (pv 0) (pa_cons (pe_op op_mul (pe_ix ix_tup (pv 1) pe_int (fun _ _ => rfl)) (pe_ix ix_tup (pv 1) pe_int (fun _ _ => rfl))) pa_nil))) (pa_cons (pe_kn k__law_pick (hr.mono (by decide)) (by rfl) (pa_cons (pv 0) (pa_cons pe_str pa_nil))) pa_nil))))))), ?_⟩
    obtain ⟨s1, s2, s3, s4, s5⟩ := hs
    have hpos : 0 < wd * ht := Nat.mul_pos s1 s3
    refine ⟨_, rfl, _, rfl, t, _, _, _, rfl, rfl, SqT.of ht0, rfl, _, rfl, t, _, _, _, rfl, rfl, SqT.of ht0, rfl, _, _, rfl, rfl, .inl ⟨by omega, by omega⟩, r, a, ns, wd * ht, by show [V.ref r, V.int ((wd : Int) * (ht : Int))] = _; rw [mul_int_nat], hrow, hpos, by omega, fun c H1 hc e1 hrow1 => ?_⟩
    have es : ("abz" : Str) = ⟨[97, 98, 122].toArray⟩ := by decide +kernel
    refine ⟨_, rfl, r, a, ns, _, rfl, hrow1, .inr ⟨[97, 98, 122], congrArg V.str es, by decide, by decide, fun x H2 hx e2 hrow2 => ?_⟩⟩
    refine ⟨(by show 3 ≤ sizeLine; decide), fun q hq => ?_⟩
    have hx' : 97 ≤ x ∧ x ≤ 122 := by
      rcases List.mem_cons.mp hx with e | hx
      · omega
      · rcases List.mem_cons.mp hx with e | hx
        · omega
        · have := List.mem_singleton.mp hx; omega
    exact k (.ref q) (.drop c x) _ ((e1.trans e2).trans (ExR.of (Ex.new hq))) (hrow2.ex (Ex.new hq)) ⟨q, rfl, upd_same⟩ ⟨hc, hx'.1, hx'.2⟩
theorem natV_add1 (cs : List Nat) (c : Nat) : natV (cs ++ [c]) = natV cs ++ [.int (c : Int)] := by unfold natV; rw [List.map_append]; rfl
theorem eqv_nats_nil (cs : List Nat) : PyData.eqv (.list (cs.map fun c : Nat => .int (c : Int))) (.list []) = decide (cs = []) := by
  cases cs with
  | nil => rfl
  | cons c cs => rfl
abbrev s__law_laid : Stmt := top 55
theorem sc__law_laid : FnScope ["_law_row", "_law_s", "_law_cells", "_law_k"] ["_law_row", "_law_s"] (defScope s__law_laid) := ⟨rfl, rfl, rfl, by decide +kernel, rfl, by decide +kernel, by decide +kernel⟩
theorem ok_glaid {f : Addr} {fd : FuncData} (F : Fun K "_law_laid" "_law_laid" s__law_laid f fd) (T : Txt K mg) (k__law_taken : Kn P w K mg base "_law_taken" 1 ["_law_row", "_law_many"] (sp_taken K)) :
    FnOk P w K mg base CX0 2 f fd ["_law_row", "_law_s"] (sp_gen K) := by
  refine F.ok sc__law_laid (fun vs H Q E h => ?_) (fun cdv A outer s H vs Q E hr h => ?_)
  · obtain ⟨_, _, _, _, _, _, _, rfl, _⟩ := h
    rfl
  · obtain ⟨r, a, ns, v, wd, ht, z, rfl, hrow, ⟨t, rfl, ht0⟩, hs, k⟩ := h
    refine ⟨_, ((pss_cons (ps_setLc (i := 2) (own := [("_law_k", 3)]) (g := gName 3)  rfl sc__law_laid.nd rfl rfl (sw_true rfl rfl rfl (by decide +kernel)) (pi_range1 (by rfl) T.b_range (pa_cons (pe_op op_mul (pe_ix ix_tup (pv 1) pe_int (fun _ _ => rfl)) (pe_ix ix_tup (pv 1) pe_int (fun _ _ => rfl))) pa_nil)) (blkOk_by (own := [("_law_k", 3)]) (N := ["_law_row", "_law_s", "_law_cells", "_law_k"]) (sc := defScope s__law_laid) (by decide +kernel)) (fun _ _ _ _ _ => (pg_name (i := 3) sc__law_laid.nd rfl (Or.inl rfl))) (fun _ _ _ _ _ => pts_one (pt_cmpR op_eq (pe_kn k__law_taken (hr.mono (by decide)) (by rfl) (pa_cons (pv 0) (pa_cons pe_int pa_nil))) pe_int (nomark _))) (fun _ _ _ _ _ => (pv 3)))
      (pss_one (ps_ret (pe_tup (pa_cons pe_str (pa_cons (pe_ifExp (pt_cmpR (op_neD hr.units) (pv 2) (pe_lst pa_nil) (nomark _)) (pe_callTy call_tuple_of (by rfl) T.b_tuple (by decide +kernel) (pa_cons (pv 2) pa_nil)) (pe_tup (pa_cons (pe_kn k__law_taken (hr.mono (by decide)) (by rfl) (pa_cons (pv 0) (pa_cons (pe_op op_mul (pe_ix ix_tup (pv 1) pe_int (fun _ _ => rfl)) (pe_ix ix_tup (pv 1) pe_int (fun _ _ => rfl))) pa_nil))) pa_nil))) pa_nil))))))), ?_⟩
    obtain ⟨s1, s2, s3, s4, s5⟩ := hs
    have hpos : 0 < wd * ht := Nat.mul_pos s1 s3
    refine ⟨_, rfl, t, _, _, _, rfl, rfl, SqT.of ht0, rfl, _, rfl, t, _, _, _, rfl, rfl, SqT.of ht0, rfl, _, _, rfl, rfl, .inl ⟨by omega, by omega⟩, _, rfl, by rw [mul_int_nat]; omega, by rw [mul_int_nat]; omega, fun D hD => ?_⟩
    have en : ((wd : Int) * (ht : Int)).toNat = wd * ht := by rw [mul_int_nat]; rfl
    rw [en]
    have nD := hrow.ne hD
    refine lc_it (walk_range (lo := 0)) (fun j H' => ExR r H H' ∧ Row K H' r a ns ∧ ∃ cs : List Nat, H' D = some (.lst (natV cs)) ∧ cs.length ≤ j ∧ cs.Pairwise (· < ·) ∧ ∀ c ∈ cs, c < j) ⟨ExR.of (Ex.new hD), hrow.ex (Ex.new hD), [], upd_same, Nat.le_refl _, List.Pairwise.nil, fun _ h => nomatch h⟩ (fun _ _ _ _ => trivial) ?_ ?_
    · rintro j y H7 H8 hj ⟨e7, hrow7, cs, hcs, hcl, hcp, hcb⟩ ⟨rfl, rfl⟩
      refine ⟨rfl, _, rfl, r, a, ns, 3, rfl, hrow7, by decide, by decide, fun n H9 hn e9 hrow9 => ?_⟩
      have h9 := e9 _ _ nD hcs
      refine ⟨rfl, _, rfl, iteS ?_ ?_⟩
      · refine ⟨_, rfl, _, h9, szl (by unfold natV; simp; omega), ExR.mut (e7.trans e9) hD, Row.mut hrow hD hrow9, cs ++ [j], ?_, by simp; omega, ?_, fun c hc => ?_⟩
        · rw [upd_same, natV_add1]
          show some (HO.lst (natV cs ++ [V.int (0 + (j : Int))])) = _
          rw [Int.zero_add]
        · rw [List.pairwise_append]
          refine ⟨hcp, List.pairwise_singleton _ _, fun x hx y hy => ?_⟩
          rw [List.mem_singleton.mp hy]
          exact hcb x hx
        · rcases List.mem_append.mp hc with hc | hc
          · have := hcb c hc; omega
          · rw [List.mem_singleton.mp hc]; omega
      · exact ⟨e7.trans e9, hrow9, cs, h9, by omega, hcp, fun c hc => by have := hcb c hc; omega⟩
    · rintro H7 ⟨e7, hrow7, cs, hcs, hcl, hcp, hcb⟩
      refine ⟨_, rfl, Nat.zero_le _, fun p hp => ?_⟩
      have e8 : Ex H7 (upd H7 p (.lst [])) := Ex.new hp
      have hrow8 := hrow7.ex e8
      have h8 := e8 _ _ hcs
      have hp8 : (upd H7 p (.lst [])) p = some (.lst []) := upd_same
      have e08 := e7.trans (ExR.of e8)
      have ht8 := (hrow.t e08) _ _ ht0
      generalize upd H7 p (.lst []) = H8 at e8 hrow8 h8 hp8 e08 ht8 ⊢
      refine ⟨.list (cs.map fun c : Nat => .int (c : Int)), .list [], .lst (SqL.of h8) (dpAll_map fun x _ => .int _), .lst (SqL.of hp8) .nil, ?_, rfl, _, rfl, ?_⟩
      · exact (wf_lst (n := 0) fun d hd => by
          obtain ⟨c, _, rfl⟩ := List.mem_map.mp hd
          exact wf_int _).shaped (by decide)
      rw [eqv_nats_nil]
      by_cases hc : cs = []
      · refine itN (by rw [decide_eq_true hc]; decide) ?_
        refine ⟨_, rfl, _, rfl, t, _, _, _, rfl, rfl, SqT.of ht8, rfl, _, rfl, t, _, _, _, rfl, rfl, SqT.of ht8, rfl, _, _, rfl, rfl, .inl ⟨by omega, by omega⟩, r, a, ns, wd * ht, by show [V.ref r, V.int ((wd : Int) * (ht : Int))] = _; rw [mul_int_nat], hrow8, hpos, by omega, fun c H9 hc9 e9 hrow9 => ?_⟩
        refine ⟨(by show 1 ≤ sizeLine; decide), fun q hq => ⟨(by show 2 ≤ sizeLine; decide), fun q2 hq2 => ?_⟩⟩
        have e10 : Ex H9 (upd H9 q (.tup (natV [c]))) := Ex.new hq
        refine k (.ref q2) (.paper [c]) _ ((e08.trans e9).trans (ExR.of (Ex.new' e10 hq2))) (hrow9.ex (Ex.new' e10 hq2)) ⟨q2, q, rfl, upd_same, Ex.new hq2 _ _ upd_same⟩ ⟨by simp, List.pairwise_singleton _ _, fun c' hc' => ?_⟩
        rw [List.mem_singleton.mp hc']; exact hc9
      · refine itP (by rw [decide_eq_false hc]; rfl) ?_
        refine ⟨_, rfl, D, _, rfl, .inl ⟨SqL.of h8, fun q hq => ⟨(by show 2 ≤ sizeLine; decide), fun q2 hq2 => ?_⟩⟩⟩
        have e10 : Ex H8 (upd H8 q (.tup (natV cs))) := Ex.new hq
        exact k (.ref q2) (.paper cs) _ (e08.trans (ExR.of (Ex.new' e10 hq2))) (hrow8.ex (Ex.new' e10 hq2)) ⟨q2, q, rfl, upd_same, Ex.new hq2 _ _ upd_same⟩ ⟨hc, hcp, hcb⟩
abbrev s__law_deed : Stmt := top 56
theorem sc__law_deed : FnScope ["_law_row", "_law_s", "_law_way"] ["_law_row", "_law_s"] (defScope s__law_deed) := ⟨rfl, rfl, rfl, by decide +kernel, rfl, by decide +kernel, by decide +kernel⟩
theorem ok_gdeed {f : Addr} {fd : FuncData} (F : Fun K "_law_deed" "_law_deed" s__law_deed f fd) (T : Txt K mg) (k__law_taken : Kn P w K mg base "_law_taken" 1 ["_law_row", "_law_many"] (sp_taken K))
    (k__law_draw : Kn P w K mg base "_law_draw" 3 ["_law_row", "_law_s"] (sp_gen K)) (k__law_dropped : Kn P w K mg base "_law_dropped" 3 ["_law_row", "_law_s"] (sp_gen K)) (k__law_laid : Kn P w K mg base "_law_laid" 2 ["_law_row", "_law_s"] (sp_gen K)) :
    FnOk P w K mg base CX0 4 f fd ["_law_row", "_law_s"] (sp_gen K) := by
  refine F.ok sc__law_deed (fun vs H Q E h => ?_) (fun cdv A outer s H vs Q E hr h => ?_)
  · obtain ⟨_, _, _, _, _, _, _, rfl, _⟩ := h
    rfl
  · obtain ⟨r, a, ns, v, wd, ht, z, rfl, hrow, hv, hs, k⟩ := h
    refine ⟨_, ((pss_cons (ps_set (i := 2) sc__law_deed.nd rfl (by first | exact Or.inl rfl | exact Or.inr rfl) (pe_kn k__law_taken (hr.mono (by decide)) (by rfl) (pa_cons (pv 0) (pa_cons pe_int pa_nil))))
      (pss_one (ps_ret (pe_ifExp (pt_cmpR op_lt (pv 2) pe_int (nomark _)) (pe_kn k__law_draw (hr.mono (by decide)) (by rfl) (pa_cons (pv 0) (pa_cons (pv 1) pa_nil))) (pe_ifExp (pt_cmpR op_lt (pv 2) pe_int (nomark _)) (pe_kn k__law_dropped (hr.mono (by decide)) (by rfl) (pa_cons (pv 0) (pa_cons (pv 1) pa_nil))) (pe_kn k__law_laid (hr.mono (by decide)) (by rfl) (pa_cons (pv 0) (pa_cons (pv 1) pa_nil))))))))), ?_⟩
    refine ⟨_, rfl, r, a, ns, 7, rfl, hrow, by decide, by decide, fun n H1 hn e1 hrow1 => ?_⟩
    have hv1 := hv.ex (hrow.t e1)
    refine ⟨_, rfl, _, _, rfl, rfl, _, rfl, iteS ?_ ?_⟩
    · exact ⟨_, rfl, _, rfl, r, a, ns, v, wd, ht, z, rfl, hrow1, hv1, hs, fun u d H2 e2 hrow2 hd hva => k u d H2 (e1.trans e2) hrow2 hd hva⟩
    · refine ⟨_, rfl, _, _, rfl, rfl, _, rfl, iteS ?_ ?_⟩
      · exact ⟨_, rfl, _, rfl, r, a, ns, v, wd, ht, z, rfl, hrow1, hv1, hs, fun u d H2 e2 hrow2 hd hva => k u d H2 (e1.trans e2) hrow2 hd hva⟩
      · exact ⟨_, rfl, _, rfl, r, a, ns, v, wd, ht, z, rfl, hrow1, hv1, hs, fun u d H2 e2 hrow2 hd hva => k u d H2 (e1.trans e2) hrow2 hd hva⟩
end
end K7
/-! _law_plain. -/
namespace K7
open PySem L2 K7R
section
variable {P : Program} {w : World} {K : PySem.W.Frag} {mg : Str → Option Value} {base : Heap}
def sp_lplain : Sp := fun vs H Q _ => ∃ (v u : V) (a b : Nat) (z : List Nat) (r : Bool) (s : List Int), vs = [v, u] ∧ SchV H v a b z ∧ 0 < a ∧ 0 < b ∧ DeedV H u (.draw r s) ∧ s.length ≤ 1000 ∧ ∀ v' H', Ex H H' → DeedV H' v' (.draw r (plainS (modu a b r) s)) → Q v' H'
abbrev s__law_plain : Stmt := top 57
theorem sc__law_plain : FnScope ["_law_s", "_law_deed_here", "_law_length", "_law_stride"] ["_law_s", "_law_deed_here"] (defScope s__law_plain) := ⟨rfl, rfl, rfl, by decide +kernel, rfl, by decide +kernel, by decide +kernel⟩
theorem ok_lplain {f : Addr} {fd : FuncData} (F : Fun K "_law_plain" "_law_plain" s__law_plain f fd) (T : Txt K mg) : FnOk P w K mg base CX0 1 f fd ["_law_s", "_law_deed_here"] sp_lplain := by
  refine F.ok sc__law_plain (fun vs H Q E h => ?_) (fun cdv A outer s H vs Q E hr h => ?_)
  · obtain ⟨_, _, _, _, _, _, _, rfl, _⟩ := h
    rfl
  · obtain ⟨v, u, a, b, z, r, s, rfl, ⟨t, rfl, ht⟩, ha, hb, ⟨p, q, rfl, hp, hq⟩, hl, k⟩ := h
    refine ⟨_, ((pss_cons (ps_set (i := 2) sc__law_plain.nd rfl (by first | exact Or.inl rfl | exact Or.inr rfl) (pe_ifExp (pt_cmpR op_eq (pe_ix ix_tup (pv 1) pe_int (fun _ _ => rfl)) pe_str (nomark _)) (pe_ix ix_tup (pv 0) pe_int (fun _ _ => rfl)) (pe_ix ix_tup (pv 0) pe_int (fun _ _ => rfl))))
      (pss_one (ps_ret (pe_tup (pa_cons (pe_ix ix_tup (pv 1) pe_int (fun _ _ => rfl)) (pa_cons (pe_callTy call_tuple_of (by rfl) T.b_tuple (by decide +kernel) (pa_cons (pe_lc (own := [("_law_stride", 3)]) (g := gName 3) (tt := tYes) rfl sc__law_plain.nd (pi_tup (pe_ix ix_tup (pv 1) pe_int (fun _ _ => rfl))) (blkOk_by (own := [("_law_stride", 3)]) (N := ["_law_s", "_law_deed_here", "_law_length", "_law_stride"]) (sc := defScope s__law_plain) (by decide +kernel)) (fun _ _ _ _ _ => (pg_name (i := 3) sc__law_plain.nd rfl (Or.inl rfl))) (fun _ _ _ _ _ => pts_nil) (fun _ _ _ _ _ => (pe_op op_mod (pv 3) (pv 2)))) pa_nil)) pa_nil))))))), ?_⟩
    refine ⟨_, rfl, p, _, _, _, rfl, rfl, SqT.of hp, rfl, rfl, _, rfl, ?_⟩
    have rest : ∀ m : Nat, m = modu a b r → 0 < m → (tRet (tTup (tCons (tOp (rIxT K) (tVar 1) (tC (.int 0))) (tCons (tCB (fun xs H Q => ∃ p ys, xs = [V.ref p] ∧ ((SqL K H p ys ∧ ∀ l, H l = none → Q (V.ref l) (upd H l (.tup ys))) ∨ (SqT K H p ys ∧ Q (V.ref p) H)))
        (tCons (tLc (iTup K (tOp (rIxT K) (tVar 1) (tC (.int 1)))) (gName 3) tYes (tOp (rI (fun _ j => 0 < j) fun i j => .int (i % j)) (tVar 3) (tVar 2)) [3]) tNil)) tNil))))
        { nx := fun _ H' => Q .non H', rt := Q } [some (.ref t), some (.ref p), some (.int (m : Int)), none] H := by
      intro m hm hm0
      refine ⟨_, rfl, p, _, _, _, rfl, rfl, SqT.of hp, rfl, _, rfl, p, _, _, _, rfl, rfl, SqT.of hp, rfl, q, rfl, ⟨_, SqT.of hq⟩, fun D hD => ?_⟩
      refine lc_it walk_tup (fun i H' => Ex H H' ∧ H' D = some (.lst ((s.take i).map fun x => V.int (x % (m : Int))))) ⟨Ex.new hD, upd_same⟩ (fun i H' _ p => SqT.of (p.1 _ _ hq)) ?_ ?_
      · rintro i x H2 H3 hi ⟨e2, h2⟩ ⟨rfl, hx⟩
        obtain ⟨y, hy, rfl⟩ := map_at hx
        refine ⟨rfl, _, rfl, _, rfl, _, _, rfl, rfl, (by omega), _, h2, szl (by simp; omega), e2.mut hD, ?_⟩
        rw [upd_same, take_snoc hy]
      · rintro H1 ⟨e1, h1⟩
        rw [List.length_map] at h1
        have h1' := lst_take h1
        refine ⟨D, _, rfl, .inl ⟨SqL.of h1', fun t ht => ?_⟩⟩
        have e2 : Ex H (upd H1 t (.tup (s.map fun x => V.int (x % (m : Int))))) := Ex.new' e1 ht
        refine ⟨(by show 2 ≤ sizeLine; decide), fun z hz => ?_⟩
        refine k _ _ (Ex.new' e2 hz) ⟨z, t, rfl, upd_same, Ex.new hz _ _ ?_⟩
        rw [upd_same]
        unfold plainS
        rw [List.map_map, ← hm]
        rfl
    cases r with
    | true => exact itP (by decide +kernel) ⟨_, rfl, t, _, _, _, rfl, rfl, SqT.of ht, rfl, rest a rfl ha⟩
    | false => exact itN (by decide +kernel) ⟨_, rfl, t, _, _, _, rfl, rfl, SqT.of ht, rfl, rest b rfl hb⟩
end
end K7
/-! _law_short. -/
namespace K7
open PySem L2 K7R
theorem ext3 {H H1 H2 : Hp} (a : Ex H H1) (b : Ex H1 H2) : Ex H H2 := fun c u h => b c u (a c u h)
theorem tLc_any {K : PySem.W.Frag} {g : TG} {tt : TT} {te : TE} {vs : List Nat} {σ : L2.St} {H : Hp} {Q : VK} {j : Nat} {p : Addr} {us : List V} (hσ : σ[j]? = some (some (.ref p))) (hp : H p = some (.tup us) ∨ H p = some (.lst us)) (Pv : Addr → Nat → Hp → Prop)
    (h0 : ∀ D, H D = none → Pv D 0 (upd H D (.lst []))) (hG : ∀ D i H', Pv D i H' → Ex H H')
    (hs : ∀ (D : Addr) (i : Nat) (x : V) (H' : Hp), H D = none → us[i]? = some x → Pv D i H' → g x (wipe σ vs) H' fun σ2 H2 => wipe σ2 vs = wipe σ vs ∧ tt σ2 H2 fun b H3 =>
      if b = true then te σ2 H3 fun y H4 => ∃ acc, H4 D = some (.lst acc) ∧ acc.length < sizeLine ∧ Pv D (i + 1) (upd H4 D (.lst (acc ++ [y]))) else Pv D (i + 1) H3)
    (hd : ∀ D H', H D = none → Pv D us.length H' → Q (.ref D) H') : tLc (iAny K (tVar j)) g tt te vs σ H Q := by
  refine ⟨_, hσ, p, rfl, ?_⟩
  rcases hp with hp | hp
  · refine .inr ⟨⟨us, SqT.of hp⟩, fun D hD => ?_⟩
    refine lc_it walk_tup (Pv D) (h0 D hD) (fun i H' _ q => SqT.of (hG D i H' q _ _ hp)) (fun i x H1 H2 hi q y => ?_) (fun H' q => hd D H' hD q)
    obtain ⟨rfl, hx⟩ := y
    exact hs D i x _ hD hx q
  · refine .inl ⟨⟨us, SqL.of hp⟩, fun D hD => ?_⟩
    refine lc_it walk_list (Pv D) (h0 D hD) (fun i H' _ q => SqL.of (hG D i H' q _ _ hp)) (fun i x H1 H2 hi q y => ?_) (fun H' q => hd D H' hD q)
    obtain ⟨rfl, hx⟩ := y
    exact hs D i x _ hD hx q
theorem Rel2.app {α β : Type} [Inhabited α] [Inhabited β] {R : α → β → Prop} {xs xs' : List α} {ys ys' : List β} (h : Rel2 R xs ys) (h' : Rel2 R xs' ys') : Rel2 R (xs ++ xs') (ys ++ ys') := by
  refine ⟨by simp [h.1, h'.1], fun i a b ha hb => ?_⟩
  by_cases hi : i < xs.length
  · rw [List.getElem?_append_left hi] at ha
    rw [List.getElem?_append_left (h.1 ▸ hi)] at hb
    exact h.2 i a b ha hb
  · rw [List.getElem?_append_right (by omega)] at ha
    rw [List.getElem?_append_right (by rw [← h.1]; omega), ← h.1] at hb
    exact h'.2 _ a b ha hb
theorem Rel2.tk {α β : Type} [Inhabited α] [Inhabited β] {R : α → β → Prop} {xs : List α} {ys : List β} (k : Nat) (h : Rel2 R xs ys) : Rel2 R (xs.take k) (ys.take k) := by
  refine ⟨by simp [h.1], fun i a b ha hb => ?_⟩
  rw [List.getElem?_take] at ha hb
  by_cases hi : i < k
  · rw [if_pos hi] at ha hb
    exact h.2 i a b ha hb
  · rw [if_neg hi] at ha
    cases ha
theorem Rel2.dp {α β : Type} [Inhabited α] [Inhabited β] {R : α → β → Prop} {xs : List α} {ys : List β} (k : Nat) (h : Rel2 R xs ys) : Rel2 R (xs.drop k) (ys.drop k) := by
  refine ⟨by simp [h.1], fun i a b ha hb => ?_⟩
  rw [List.getElem?_drop] at ha hb
  exact h.2 _ a b ha hb
theorem cutV_take (xs : List V) (k : Nat) : cutV xs none (some (k : Int)) = xs.take k := by
  unfold cutV
  rw [HT.sIx_none, HT.sIx_nat, List.drop_zero, Nat.sub_zero, List.take_eq_take_iff]
  omega
theorem cutV_drop (xs : List V) (k : Nat) : cutV xs (some (k : Int)) none = xs.drop k := by
  unfold cutV
  rw [HT.sIx_none, HT.sIx_nat]
  by_cases h : k ≤ xs.length
  · rw [Nat.min_eq_left h, List.take_of_length_le (by rw [List.length_drop]; exact Nat.le_refl _)]
  · rw [Nat.min_eq_right (by omega), List.drop_of_length_le (Nat.le_refl _), List.drop_of_length_le (by omega), List.take_nil]
theorem sameK_eq (x y : Deed) : sameK x y = (decide (dKind x = dKind y) && isDraw x) := by
  have k5 := kind_ne
  cases x with
  | draw r s =>
    cases y with
    | draw r' s' =>
      show (r == r') = (decide (kindS r = kindS r') && true)
      rw [Bool.and_true]
      cases r <;> cases r' <;> decide +kernel
    | drop _ _ =>
      show false = (decide (kindS r = "drop") && true)
      rw [Bool.and_true]
      cases r <;> decide +kernel
    | paper _ =>
      show false = (decide (kindS r = "paper") && true)
      rw [Bool.and_true]
      cases r <;> decide +kernel
  | drop _ _ => show false = (_ && false); rw [Bool.and_false]
  | paper _ => show false = (_ && false); rw [Bool.and_false]
theorem filter_take {α : Type} {f : α → Bool} {l : List α} {i : Nat} {x : α} (h : l[i]? = some x) : (l.take (i + 1)).filter f = (l.take i).filter f ++ if f x = true then [x] else [] := by
  obtain ⟨h1, rfl⟩ := List.getElem?_eq_some_iff.mp h
  rw [List.take_succ_eq_append_getElem h1, List.filter_append, List.filter_cons]
  rfl
theorem turns_succ {w h : Nat} : ∀ (n : Nat) (rows : List Deed), turns w h (n + 1) rows = turnD w h (turns w h n rows)
  | 0, rows => rfl
  | n + 1, rows => turns_succ n (turnD w h rows)
theorem turnD_pl {w h : Nat} (hw : 0 < w) (hh : 0 < h) {rows : List Deed} (hp : ∀ d ∈ rows, Pl w h d) : ∀ d ∈ turnD w h rows, Pl w h d := by
  have hf : ∀ d ∈ rows.filter keepD, Pl w h d := fun d hd => hp d (List.mem_filter.mp hd).1
  unfold turnD
  split
  · exact hf
  · rename_i k ks e
    exact pl_join hw hh (atL_mem (by rw [e]; exact List.mem_cons_self)) hf
theorem turnD_len {w h : Nat} {rows : List Deed} : (turnD w h rows).length ≤ rows.length := by
  have hf := List.length_filter_le keepD rows
  unfold turnD
  split
  · exact hf
  · rename_i k ks e
    have := len_join (w := w) (h := h) (atL_mem (rows := rows.filter keepD) (k := k) (by rw [e]; exact List.mem_cons_self))
    omega
theorem turns_pl {w h : Nat} (hw : 0 < w) (hh : 0 < h) {rows : List Deed} (hp : ∀ d ∈ rows, Pl w h d) : ∀ n, ∀ d ∈ turns w h n rows, Pl w h d
  | 0 => hp
  | n + 1 => by rw [turns_succ]; exact turnD_pl hw hh (turns_pl hw hh hp n)
theorem turns_len {w h : Nat} {rows : List Deed} : ∀ n, (turns w h n rows).length ≤ rows.length
  | 0 => Nat.le_refl _
  | n + 1 => by rw [turns_succ]; exact Nat.le_trans turnD_len (turns_len n)
section
variable {P : Program} {w : World} {K : PySem.W.Frag} {mg : Str → Option Value} {base : Heap}
def sp_lshort : Sp := fun vs H Q _ => ∃ (v : V) (p : Addr) (a b : Nat) (z : List Nat) (us : List V) (ds : List Deed), vs = [v, .ref p] ∧ SchV H v a b z ∧ Sz a b ∧ (H p = some (.tup us) ∨ H p = some (.lst us)) ∧ DeedsV H us ds ∧ (∀ d ∈ ds, lenD a b d) ∧ ds.length ≤ 12 ∧
  ∀ v' H', Ex H H' → RecV H' v' (lawShort a b ds) → Q v' H'
abbrev s__law_short : Stmt := top 58
theorem sc__law_short : FnScope ["_law_s", "_law_recipe", "_law_rows", "_law_deed_here", "_law_turn", "_law_at", "_law_k", "_law_one", "_law_other", "_law_both"] ["_law_s", "_law_recipe"] (defScope s__law_short) := ⟨rfl, rfl, rfl, by decide +kernel, rfl, by decide +kernel, by decide +kernel⟩
theorem ok_lshort {f : Addr} {fd : FuncData} (F : Fun K "_law_short" "_law_short" s__law_short f fd) (T : Txt K mg) (k__law_plain : Kn P w K mg base "_law_plain" 1 ["_law_s", "_law_deed_here"] sp_lplain) : FnOk P w K mg base CX0 2 f fd ["_law_s", "_law_recipe"] sp_lshort := by
  refine F.ok sc__law_short (fun vs H Q E h => ?_) (fun cdv A outer s H vs Q E hr h => ?_)
  · obtain ⟨_, _, _, _, _, _, _, rfl, _⟩ := h
    rfl
  · obtain ⟨v, p, a, b, z, us, ds, rfl, hv, hs, hp, hds, hok, hdl, k⟩ := h
    have hs' := hs
    obtain ⟨s1, s2, s3, s4, s5⟩ := hs'
    have hul : us.length = ds.length := hds.1
    refine ⟨_, ((Evl.pss_cut (ps_set (i := 2) sc__law_short.nd rfl (by first | exact Or.inl rfl | exact Or.inr rfl) (pe_lc (own := [("_law_deed_here", 3)]) (g := gName 3) (tt := tYes) rfl sc__law_short.nd (pi_any (pv 1)) (blkOk_by (own := [("_law_deed_here", 3)]) (N := ["_law_s", "_law_recipe", "_law_rows", "_law_deed_here", "_law_turn", "_law_at", "_law_k", "_law_one", "_law_other", "_law_both"]) (sc := defScope s__law_short) (by decide +kernel)) (fun _ _ _ _ _ => (pg_name (i := 3) sc__law_short.nd rfl (Or.inl rfl))) (fun _ _ _ _ _ => pts_nil) (fun _ _ _ _ _ => (pe_ifExp (pt_cmpR (op_in_seqK (K := K)) (pe_ix (ix_tupK (K := K)) (pv 3) pe_int (fun _ _ => rfl)) (pe_tup (pa_cons pe_str (pa_cons pe_str pa_nil))) (by rfl)) (pe_kn k__law_plain (hr.mono (by decide)) (by rfl) (pa_cons (pv 0) (pa_cons (pv 3) pa_nil))) (pv 3)))))
      (pss_cons (ps_for PassesOwn.never rfl (pi_range1 (by rfl) T.b_range (pa_cons (pe_op op_add (pe_op op_mul pe_int (pe_callB call_len (by rfl) T.b_len (by decide +kernel) (pa_cons (pv 1) pa_nil))) pe_int) pa_nil)) (pg_name (i := 4) sc__law_short.nd rfl (by first | exact Or.inl rfl | exact Or.inr rfl)) (pss_cons (ps_set (i := 2) sc__law_short.nd rfl (by first | exact Or.inl rfl | exact Or.inr rfl) (pe_lc (own := [("_law_deed_here", 3)]) (g := gName 3)  rfl sc__law_short.nd (pi_list (pv 2)) (blkOk_by (own := [("_law_deed_here", 3)]) (N := ["_law_s", "_law_recipe", "_law_rows", "_law_deed_here", "_law_turn", "_law_at", "_law_k", "_law_one", "_law_other", "_law_both"]) (sc := defScope s__law_short) (by decide +kernel)) (fun _ _ _ _ _ => (pg_name (i := 3) sc__law_short.nd rfl (Or.inl rfl))) (fun _ _ _ _ _ => pts_one (PW.pt (pw_or (pt_cmpR (op_notIn_seqK (K := K)) (pe_ix (ix_tupK (K := K)) (pv 3) pe_int (fun _ _ => rfl)) (pe_tup (pa_cons pe_str (pa_cons pe_str pa_nil))) (by rfl)) (pw_or1 (pt_cmpR op_gt (pe_callB (cr_maxTK (K := K) rfl) (by rfl) T.b_max (by decide +kernel) (pa_cons (pe_ix (ix_tupK (K := K)) (pv 3) pe_int (fun _ _ => rfl)) pa_nil)) pe_int (nomark _)))))) (fun _ _ _ _ _ => (pv 3))))
      (pss_cons (ps_setLc (i := 5) (own := [("_law_k", 6)]) (g := gName 6)  rfl sc__law_short.nd rfl rfl (sw_true rfl rfl rfl (by decide +kernel)) (pi_range1 (by rfl) T.b_range (pa_cons (pe_op op_sub (pe_callB call_len (by rfl) T.b_len (by decide +kernel) (pa_cons (pv 2) pa_nil)) pe_int) pa_nil)) (blkOk_by (own := [("_law_k", 6)]) (N := ["_law_s", "_law_recipe", "_law_rows", "_law_deed_here", "_law_turn", "_law_at", "_law_k", "_law_one", "_law_other", "_law_both"]) (sc := defScope s__law_short) (by decide +kernel)) (fun _ _ _ _ _ => (pg_name (i := 6) sc__law_short.nd rfl (Or.inl rfl))) (fun _ _ _ _ _ => pts_one (PW.pt (pw_and (pt_cmpR op_eq (pe_ix (ix_tupK (K := K)) (pe_ix (ix_listK (K := K)) (pv 2) (pv 6) (fun _ _ => rfl)) pe_int (fun _ _ => rfl)) (pe_ix (ix_tupK (K := K)) (pe_ix (ix_listK (K := K)) (pv 2) (pe_op op_add (pv 6) pe_int) (fun _ _ => rfl)) pe_int (fun _ _ => rfl)) (nomark _)) (pw_and1 (pt_cmpR (op_in_seqK (K := K)) (pe_ix (ix_tupK (K := K)) (pe_ix (ix_listK (K := K)) (pv 2) (pv 6) (fun _ _ => rfl)) pe_int (fun _ _ => rfl)) (pe_tup (pa_cons pe_str (pa_cons pe_str pa_nil))) (by rfl)))))) (fun _ _ _ _ _ => (pv 6)))
      (pss_one (ps_if (pt_cmpR (op_neD hr.units) (pv 5) (pe_lst pa_nil) (nomark _)) (pss_cons (ps_asg (pe_tup (pa_cons (pe_ix ix_list (pv 2) (pe_ix ix_list (pv 5) pe_int (fun _ _ => rfl)) (fun _ _ => rfl)) (pa_cons (pe_ix ix_list (pv 2) (pe_op op_add (pe_ix ix_list (pv 5) pe_int (fun _ _ => rfl)) pe_int) (fun _ _ => rfl)) pa_nil))) (pg_tup rfl (pgs_cons (pg_name (i := 7) sc__law_short.nd rfl (by first | exact Or.inl rfl | exact Or.inr rfl)) (pgs_cons (pg_name (i := 8) sc__law_short.nd rfl (by first | exact Or.inl rfl | exact Or.inr rfl)) pgs_nil))))
      (pss_cons (ps_set (i := 9) sc__law_short.nd rfl (by first | exact Or.inl rfl | exact Or.inr rfl) (pe_tup (pa_cons (pe_ix ix_tup (pv 7) pe_int (fun _ _ => rfl)) (pa_cons (pe_callTy call_tuple_of (by rfl) T.b_tuple (by decide +kernel) (pa_cons (pe_lc (own := [("_law_k", 6)]) (g := gName 6) (tt := tYes) rfl sc__law_short.nd (pi_range1 (by rfl) T.b_range (pa_cons (pe_callB call_len (by rfl) T.b_len (by decide +kernel) (pa_cons (pe_ix ix_tup (pv 7) pe_int (fun _ _ => rfl)) pa_nil)) pa_nil)) (blkOk_by (own := [("_law_k", 6)]) (N := ["_law_s", "_law_recipe", "_law_rows", "_law_deed_here", "_law_turn", "_law_at", "_law_k", "_law_one", "_law_other", "_law_both"]) (sc := defScope s__law_short) (by decide +kernel)) (fun _ _ _ _ _ => (pg_name (i := 6) sc__law_short.nd rfl (Or.inl rfl))) (fun _ _ _ _ _ => pts_nil) (fun _ _ _ _ _ => (pe_op op_add (pe_ix (ix_tupK (K := K)) (pe_ix (ix_tupK (K := K)) (pv 7) pe_int (fun _ _ => rfl)) (pv 6) (fun _ _ => rfl)) (pe_ix (ix_tupK (K := K)) (pe_ix (ix_tupK (K := K)) (pv 8) pe_int (fun _ _ => rfl)) (pv 6) (fun _ _ => rfl))))) pa_nil)) pa_nil))))
      (pss_one (ps_set (i := 2) sc__law_short.nd rfl (by first | exact Or.inl rfl | exact Or.inr rfl) (pe_op op_cat (pe_op op_cat (pe_slice sl_list (pv 2) po_none (po_some (pe_ix ix_list (pv 5) pe_int (fun _ _ => rfl)))) (pe_lst (pa_cons (pe_kn k__law_plain (hr.mono (by decide)) (by rfl) (pa_cons (pv 0) (pa_cons (pv 9) pa_nil))) pa_nil))) (pe_slice sl_list (pv 2) (po_some (pe_op op_add (pe_ix ix_list (pv 5) pe_int (fun _ _ => rfl)) pe_int)) po_none)))))) pss_nil)))))
      (pss_one (ps_ret (pe_callTy call_tuple_of (by rfl) T.b_tuple (by decide +kernel) (pa_cons (pv 2) pa_nil))))))), ?_⟩
    let Mid0 : L2.St → Hp → Prop := fun σ H' => Ex H H' ∧ ∃ l vs, H' l = some (.lst vs) ∧ DeedsV H' vs (ds.map (plainD a b)) ∧ σ = [some v, some (.ref p), some (.ref l), none, none, none, none, none, none, none]
    refine ⟨Mid0, ?_, ?_⟩
    · refine tLc_any (us := us) rfl hp (fun D i H' => Ex H H' ∧ ∃ vs, H' D = some (.lst vs) ∧ DeedsV H' vs ((ds.take i).map (plainD a b))) (fun D hD => ⟨Ex.new hD, [], upd_same, rfl, fun i x y h _ => by simp at h⟩) (fun D i H' q => q.1) ?_ ?_
      · rintro D i x H1 hD hx ⟨e1, ws, h1, hws⟩
        have hid : i < ds.length := by rw [← hul]; exact (List.getElem?_eq_some_iff.mp hx).1
        have hd := (hds.2 i x _ hx (List.getElem?_eq_getElem hid)).ex (Ex.t e1)
        have hwl : ws.length ≤ 12 := by have := hws.1; rw [List.length_map, List.length_take] at this; omega
        have fin : ∀ y H2, Ex H1 H2 → DeedV H2 y (plainD a b ds[i]) → ∃ acc, H2 D = some (.lst acc) ∧ acc.length < sizeLine ∧ Ex H (upd H2 D (.lst (acc ++ [y]))) ∧ ∃ vs, (upd H2 D (.lst (acc ++ [y]))) D = some (.lst vs) ∧ DeedsV (upd H2 D (.lst (acc ++ [y]))) vs ((ds.take (i + 1)).map (plainD a b)) := by
          intro y H2 e2 hy
          have h2 := e2 _ _ h1
          refine ⟨ws, h2, szl (by omega), Ex.mut (e1.trans e2) hD, ws ++ [y], upd_same, ?_⟩
          have et : ExT H2 (upd H2 D (.lst (ws ++ [y]))) := ExT.upd (not_tup_lst h2)
          rw [take_succ_map (List.getElem?_eq_getElem hid)]
          exact ((hws.ex (Ex.t e2)).ex et).snoc (hy.ex et)
        obtain ⟨pd, xs, rfl, hpd⟩ := deed_head hd
        refine ⟨rfl, ?_⟩
        refine ⟨_, rfl, pd, _, _, .str (dKind ds[i]), rfl, rfl, SqT.of hpd, atI_nat (j := 0) rfl, (by show 2 ≤ sizeLine; decide), fun t ht => ?_⟩
        have e2 : Ex H1 (upd H1 t (.tup [.str "rake", .str "comb"])) := Ex.new ht
        refine ⟨t, _, rfl, .inr (SqT.of upd_same), rfl, rfl, _, rfl, ?_⟩
        have ek := in_kinds2 ds[i]
        cases hdd : ds[i] with
        | draw r s =>
          rw [hdd] at ek hd fin
          refine itP (by rw [if_neg (by decide)]; exact ek) ?_
          exact ⟨_, rfl, _, rfl, v, .ref pd, a, b, z, r, s, rfl, hv.ex (Ex.t (e1.trans e2)), s1, s3, hd.ex (Ex.t e2), by have := hok _ (List.getElem_mem hid); rw [hdd] at this; have h5 := cnt_le hs r; have : s.length = cnt a b r := this; omega, fun v' H3 e3 hv' => fin v' H3 (e2.trans e3) hv'⟩
        | drop c cx =>
          rw [hdd] at ek hd fin
          refine itN (by rw [if_neg (by decide)]; exact fun q => by rw [ek] at q; cases q) ?_
          exact ⟨_, rfl, fin _ _ e2 (hd.ex (Ex.t e2))⟩
        | paper cs =>
          rw [hdd] at ek hd fin
          refine itN (by rw [if_neg (by decide)]; exact fun q => by rw [ek] at q; cases q) ?_
          exact ⟨_, rfl, fin _ _ e2 (hd.ex (Ex.t e2))⟩
      · rintro D H1 hD ⟨e1, ws, h1, hws⟩
        rw [hul, List.take_length] at hws
        exact ⟨e1, D, ws, h1, hws, rfl⟩
    · rintro σ0 H0 ⟨e0, l0, vs0, hl0, hvs0, rfl⟩
      have e0p : H0 p = some (.tup us) ∨ H0 p = some (.lst us) := by
        rcases hp with h | h
        · exact .inl (e0 _ _ h)
        · exact .inr (e0 _ _ h)
      have hlen : LenV K (.ref p) H0 ds.length := by
        rcases e0p with h | h
        · exact .inr ⟨us, SqT.of h, hul.symm⟩
        · exact .inl ⟨us, SqL.of h, hul.symm⟩
      refine ⟨_, rfl, _, ds.length, rfl, hlen, _, _, rfl, rfl, .inl ⟨by decide, by decide⟩, _, _, rfl, rfl, _, rfl, by omega, by omega, ?_⟩
      have en : (2 * (ds.length : Int) + 1).toNat = 2 * ds.length + 1 := by omega
      rw [en]
      have hpl0 : ∀ d ∈ ds.map (plainD a b), Pl a b d := fun d hd => by
        obtain ⟨e, he, rfl⟩ := List.mem_map.mp hd
        exact pl_plain s1 s3 (hok e he)
      refine for_it (walk_range (lo := 0)) (fun i σ H' => Ex H0 H' ∧ ∃ l vs o4 o5 o7 o8 o9, H' l = some (.lst vs) ∧ DeedsV H' vs (turns a b i (ds.map (plainD a b))) ∧ σ = [some v, some (.ref p), some (.ref l), none, o4, o5, none, o7, o8, o9])
        ⟨Ex.refl _, l0, vs0, none, none, none, none, none, hl0, hvs0, rfl⟩ (fun _ _ _ _ _ => trivial) ?_ ?_
      · rintro i x σ H1 H2 hi ⟨e1, l, ws, o4, o5, o7, o8, o9, h1, hws, rfl⟩ ⟨rfl, rfl⟩
        have hRp := turns_pl s1 s3 hpl0 i
        have hRl : (turns a b i (ds.map (plainD a b))).length ≤ 12 := Nat.le_trans (turns_len i) (by rw [List.length_map]; exact hdl)
        rw [turns_succ]
        generalize turns a b i (ds.map (plainD a b)) = R at hws hRp hRl ⊢
        -- what no longer turns the tray goes
        refine ⟨_, rfl, l, rfl, ⟨_, SqL.of h1⟩, fun D hD => ?_⟩
        refine lc_it walk_list (fun j H' => Ex H2 H' ∧ ∃ vs, H' D = some (.lst vs) ∧ DeedsV H' vs ((R.take j).filter keepD) ∧ vs.length ≤ j) ⟨Ex.new hD, [], upd_same, ⟨rfl, fun i x y h _ => by simp at h⟩, Nat.le_refl _⟩ (fun j H' _ q => SqL.of (q.1 _ _ h1)) ?_ ?_
        · rintro j x H3 H4 hj ⟨e3, vs, h3, hvs, hvl⟩ ⟨rfl, hx⟩
          have hjR : j < R.length := by rw [← hws.1]; exact hj
          have hd := (hws.2 j x _ hx (List.getElem?_eq_getElem hjR)).ex (Ex.t e3)
          have hpl := hRp _ (List.getElem_mem hjR)
          have hft := filter_take (f := keepD) (List.getElem?_eq_getElem hjR)
          have yes : ∀ H5, Ex H4 H5 → keepD R[j] = true → ∃ acc, H5 D = some (.lst acc) ∧ acc.length < sizeLine ∧ Ex H2 (upd H5 D (.lst (acc ++ [x]))) ∧ ∃ vs, (upd H5 D (.lst (acc ++ [x]))) D = some (.lst vs) ∧ DeedsV (upd H5 D (.lst (acc ++ [x]))) vs ((R.take (j + 1)).filter keepD) ∧ vs.length ≤ j + 1 := by
            intro H5 e5 hk
            have h5 := e5 _ _ h3
            refine ⟨vs, h5, szl (by omega), Ex.mut (e3.trans e5) hD, vs ++ [x], upd_same, ?_, by simp; omega⟩
            have et : ExT H5 (upd H5 D (.lst (vs ++ [x]))) := ExT.upd (not_tup_lst h5)
            rw [hft, if_pos hk]
            exact ((hvs.ex (Ex.t e5)).ex et).snoc ((hd.ex (Ex.t e5)).ex et)
          have no : ∀ H5, Ex H4 H5 → keepD R[j] = false → Ex H2 H5 ∧ ∃ vs, H5 D = some (.lst vs) ∧ DeedsV H5 vs ((R.take (j + 1)).filter keepD) ∧ vs.length ≤ j + 1 := by
            intro H5 e5 hk
            refine ⟨e3.trans e5, vs, e5 _ _ h3, ?_, by omega⟩
            rw [hft, if_neg (by rw [hk]; decide), List.append_nil]
            exact hvs.ex (Ex.t e5)
          obtain ⟨pd, xs, rfl, hpd⟩ := deed_head hd
          refine ⟨rfl, ?_⟩
          refine ⟨_, rfl, pd, _, _, .str (dKind R[j]), rfl, rfl, SqT.of hpd, atI_nat (j := 0) rfl, (by show 2 ≤ sizeLine; decide), fun t ht => ?_⟩
          have e5 : Ex H4 (upd H4 t (.tup [.str "rake", .str "comb"])) := Ex.new ht
          refine ⟨t, _, rfl, .inr (SqT.of upd_same), rfl, rfl, _, rfl, ?_⟩
          have ek := in_kinds2 R[j]
          cases hdd : R[j] with
          | draw r s =>
            rw [hdd] at ek hd yes no hpl
            refine itN (by rw [if_pos rfl]; exact fun q => by rw [ek] at q; cases q) ?_
            obtain ⟨pd', qd, hpe, hp', hq'⟩ := hd
            cases hpe
            have hsl : 0 < s.length := by rw [hpl.1]; exact cnt_pos hs r
            refine ⟨_, rfl, pd, _, _, _, rfl, rfl, SqT.of (e5 _ _ hp'), rfl, qd, s, rfl, SqT.of (e5 _ _ hq'), hsl, fun m hm hmax => ?_⟩
            have epm := posi_max hm hmax
            refine ⟨_, _, rfl, rfl, _, rfl, ?_⟩
            by_cases hpo : posi s = true
            · refine itP (by show decide (m > 0) = true; exact epm.trans hpo) ?_
              exact ⟨_, rfl, yes _ e5 hpo⟩
            · refine itN (by show ¬ decide (m > 0) = true; exact fun q => hpo (epm.symm.trans q)) ?_
              exact no _ e5 (by show posi s = false; simpa using hpo)
          | drop c cx =>
            rw [hdd] at ek yes
            refine itP (by rw [if_pos rfl, ek]; rfl) ?_
            exact itP rfl ⟨_, rfl, yes _ e5 rfl⟩
          | paper cs =>
            rw [hdd] at ek yes
            refine itP (by rw [if_pos rfl, ek]; rfl) ?_
            exact itP rfl ⟨_, rfl, yes _ e5 rfl⟩
        · rintro H3 ⟨e3, vs, h3, hvs, hvl⟩
          rw [hws.1, List.take_length] at hvs
          have hFp : ∀ d ∈ R.filter keepD, Pl a b d := fun d hd => hRp d (List.mem_filter.mp hd).1
          have hFl : (R.filter keepD).length ≤ 12 := Nat.le_trans (List.length_filter_le _ _) hRl
          have tnil : atL (R.filter keepD) = [] → turnD a b R = R.filter keepD := fun e => by unfold turnD; rw [e]
          have tcons : ∀ kk ks, atL (R.filter keepD) = kk :: ks → turnD a b R = joinAt a b (R.filter keepD) kk := fun kk ks e => by unfold turnD; rw [e]
          generalize R.filter keepD = F at hvs hFp hFl tnil tcons
          -- where two of a kind stand side by side
          refine ⟨_, rfl, _, F.length, rfl, .inl ⟨_, SqL.of h3, hvs.1.symm⟩, _, _, rfl, rfl, _, rfl, by omega, by omega, fun D2 hD2 => ?_⟩
          have en2 : ((F.length : Int) - 1).toNat = F.length - 1 := by omega
          rw [en2]
          refine lc_it (walk_range (lo := 0)) (fun j H' => Ex H3 H' ∧ H' D2 = some (.lst (natV ((List.range j).filter (sameAt F))))) ⟨Ex.new hD2, upd_same⟩ (fun _ _ _ _ => trivial) ?_ ?_
          · rintro j x H4 H5 hj ⟨e4, h4⟩ ⟨rfl, rfl⟩
            have hj1 : j < F.length := by omega
            have hj2 : j + 1 < F.length := by omega
            have hv1 : vs[j]? = some (vs.getD j default) := getD_at (by rw [hvs.1]; exact hj1)
            have hv2 : vs[j + 1]? = some (vs.getD (j + 1) default) := getD_at (by rw [hvs.1]; exact hj2)
            have hd1 := (hvs.2 j _ _ hv1 (List.getElem?_eq_getElem hj1)).ex (Ex.t e4)
            have hd2 := (hvs.2 (j + 1) _ _ hv2 (List.getElem?_eq_getElem hj2)).ex (Ex.t e4)
            obtain ⟨p1, xs1, ev1, hp1⟩ := deed_head hd1
            obtain ⟨p2, xs2, ev2, hp2⟩ := deed_head hd2
            rw [ev1] at hv1
            rw [ev2] at hv2
            have h4D := e4 _ _ h3
            have esame : sameAt F j = (decide (dKind F[j] = dKind F[j + 1]) && isDraw F[j]) := by
              unfold sameAt
              rw [List.getElem?_eq_getElem hj1, List.getElem?_eq_getElem hj2]
              exact sameK_eq _ _
            have ej : (0 + (j : Int)) = ((j : Nat) : Int) := by omega
            have ej1 : (0 + (j : Int)) + 1 = ((j + 1 : Nat) : Int) := by omega
            have at1 : atI vs (0 + (j : Int)) = some (.ref p1) := by rw [ej]; exact atI_nat hv1
            have at2 : atI vs ((0 + (j : Int)) + 1) = some (.ref p2) := by rw [ej1]; exact atI_nat hv2
            have efl : (List.range (j + 1)).filter (sameAt F) = (List.range j).filter (sameAt F) ++ if sameAt F j = true then [j] else [] := by
              rw [List.range_succ, List.filter_append, List.filter_cons]
              rfl
            have no : ∀ H6, Ex H5 H6 → sameAt F j = false → Ex H3 H6 ∧ H6 D2 = some (.lst (natV ((List.range (j + 1)).filter (sameAt F)))) := by
              intro H6 e6 hk
              refine ⟨e4.trans e6, ?_⟩
              rw [efl, if_neg (by rw [hk]; decide), List.append_nil]
              exact e6 _ _ h4
            refine ⟨rfl, ?_⟩
            refine ⟨_, rfl, _, rfl, D, _, _, _, rfl, rfl, SqL.of h4D, at1, p1, _, _, .str (dKind F[j]), rfl, rfl, SqT.of hp1, atI_nat (j := 0) rfl, _, rfl, _, rfl, _, _, rfl, rfl, D, _, _, _, rfl, rfl, SqL.of h4D, at2, p2, _, _, .str (dKind F[j + 1]), rfl, rfl, SqT.of hp2, atI_nat (j := 0) rfl, rfl, _, rfl, ?_⟩
            by_cases hk : dKind F[j] = dKind F[j + 1]
            · refine itP (by simp [hk]) ?_
              refine ⟨_, rfl, _, rfl, D, _, _, _, rfl, rfl, SqL.of h4D, at1, p1, _, _, .str (dKind F[j]), rfl, rfl, SqT.of hp1, atI_nat (j := 0) rfl, (by show 2 ≤ sizeLine; decide), fun t ht => ?_⟩
              have e6 : Ex H5 (upd H5 t (.tup [.str "rake", .str "comb"])) := Ex.new ht
              refine ⟨t, _, rfl, .inr (SqT.of upd_same), rfl, rfl, _, rfl, ?_⟩
              have ek := in_kinds2 F[j]
              by_cases hdr : isDraw F[j] = true
              · refine itP (by rw [if_neg (by decide)]; exact ek.trans hdr) ?_
                have hsm : sameAt F j = true := by rw [esame, decide_eq_true hk, hdr]; rfl
                refine ⟨_, rfl, _, e6 _ _ h4, szl ?_, Ex.mut (e4.trans e6) hD2, ?_⟩
                · have := List.length_filter_le (sameAt F) (List.range j)
                  rw [List.length_range] at this
                  unfold natV
                  rw [List.length_map]
                  omega
                · rw [upd_same, efl, if_pos hsm, natV_add1, ← ej]
              · refine itN (by rw [if_neg (by decide)]; exact fun q => hdr (ek.symm.trans q)) ?_
                refine no _ e6 ?_
                rw [esame, decide_eq_true hk]
                simpa using hdr
            · refine itN (by simp [hk]) ?_
              refine itN (by decide) ?_
              refine no _ (Ex.refl _) ?_
              rw [esame, decide_eq_false hk]
              rfl
          · rintro H4 ⟨e4, h4⟩
            have h4' : H4 D2 = some (.lst (natV (atL F))) := h4
            have hat : (atL F).length ≤ 12 := by
              have := List.length_filter_le (sameAt F) (List.range (F.length - 1))
              rw [List.length_range] at this
              show ((List.range (F.length - 1)).filter (sameAt F)).length ≤ 12
              omega
            have hatm : ∀ kk ∈ atL F, sameAt F kk = true := fun kk hk => atL_mem hk
            refine ⟨_, rfl, Nat.zero_le _, fun q hq => ?_⟩
            have e5 : Ex H4 (upd H4 q (.lst [])) := Ex.new hq
            have hq5 : (upd H4 q (.lst [])) q = some (.lst []) := upd_same
            have hAt := e5 _ _ h4'
            have hD5 := e5 _ _ (e4 _ _ h3)
            have e05 : Ex H0 (upd H4 q (.lst [])) := e1.trans (e3.trans (e4.trans e5))
            have hvs5 : DeedsV (upd H4 q (.lst [])) vs F := hvs.ex (Ex.t (e4.trans e5))
            generalize upd H4 q (.lst []) = H5 at e5 hq5 hAt hD5 e05 hvs5 ⊢
            refine ⟨.list ((atL F).map fun c : Nat => .int (c : Int)), .list [], .lst (SqL.of hAt) (dpAll_map fun x _ => .int _), .lst (SqL.of hq5) .nil, ?_, rfl, _, rfl, ?_⟩
            · exact (wf_lst (n := 0) fun d hd => by
                obtain ⟨c, _, rfl⟩ := List.mem_map.mp hd
                exact wf_int _).shaped (by decide)
            rw [eqv_nats_nil]
            cases hatl : atL F with
            | nil =>
              refine itN (by decide) ?_
              rw [tnil hatl]
              exact ⟨e05, D, vs, _, _, _, _, _, hD5, hvs5, rfl⟩
            | cons kk ks =>
              rw [hatl] at hAt hatm
              rw [tcons kk ks hatl]
              refine itP (by rw [decide_eq_false (by simp)]; rfl) ?_
              obtain ⟨r, sa, sb, ha, hb⟩ := sameAt_some (hatm kk List.mem_cons_self)
              obtain ⟨hk1, ha'⟩ := List.getElem?_eq_some_iff.mp ha
              obtain ⟨hk2, hb'⟩ := List.getElem?_eq_some_iff.mp hb
              have hpa := hFp _ (List.mem_of_getElem? ha)
              have hpb := hFp _ (List.mem_of_getElem? hb)
              have hva : vs[kk]? = some (vs.getD kk default) := getD_at (by rw [hvs.1]; exact hk1)
              have hvb : vs[kk + 1]? = some (vs.getD (kk + 1) default) := getD_at (by rw [hvs.1]; exact hk2)
              have hda := hvs5.2 kk _ _ hva ha
              have hdb := hvs5.2 (kk + 1) _ _ hvb hb
              obtain ⟨p1, q1, ev1, hp1, hq1⟩ := hda
              obtain ⟨p2, q2, ev2, hp2, hq2⟩ := hdb
              rw [ev1] at hva
              rw [ev2] at hvb
              -- one, other
              refine ⟨_, rfl, _, rfl, D2, _, _, .int (kk : Int), rfl, rfl, SqL.of hAt, atI_nat (j := 0) rfl, D, _, _, _, rfl, rfl, SqL.of hD5, atI_nat hva, _, rfl, _, rfl, D2, _, _, .int (kk : Int), rfl, rfl, SqL.of hAt, atI_nat (j := 0) rfl, _, _, rfl, rfl, D, _, _, _, rfl, rfl, SqL.of hD5, atI_nat (j := kk + 1) hvb, (by show 2 ≤ sizeLine; decide), fun t ht => ?_⟩
              refine ⟨t, _, rfl, SqT.of upd_same, rfl, _, _, rfl, _, _, rfl, rfl, ?_⟩
              have e6 : Ex H5 (upd H5 t (.tup [.ref p1, .ref p2])) := Ex.new ht
              have hAt6 := e6 _ _ hAt
              have hD6 := e6 _ _ hD5
              have e06 : Ex H0 (upd H5 t (.tup [.ref p1, .ref p2])) := Ex.new' e05 ht
              have hvs6 := hvs5.ex (Ex.t e6)
              have hp16 := e6 _ _ hp1
              have hq16 := e6 _ _ hq1
              have hp26 := e6 _ _ hp2
              have hq26 := e6 _ _ hq2
              generalize upd H5 t (.tup [.ref p1, .ref p2]) = H6 at e6 hAt6 hD6 e06 hvs6 hp16 hq16 hp26 hq26 ⊢
              -- both
              have la : sa.length = cnt a b r := hpa.1
              have lb : sb.length = cnt a b r := hpb.1
              have lc := cnt_le hs r
              refine ⟨_, rfl, p1, _, _, _, rfl, rfl, SqT.of hp16, rfl, _, rfl, p1, _, _, _, rfl, rfl, SqT.of hp16, rfl, _, _, rfl, .inr ⟨_, SqT.of hq16, rfl⟩, _, rfl, by omega, by rw [List.length_map]; omega, fun D3 hD3 => ?_⟩
              rw [Int.toNat_natCast, List.length_map]
              refine lc_it (walk_range (lo := 0)) (fun j H' => Ex H6 H' ∧ H' D3 = some (.lst (((addS sa sb).take j).map V.int))) ⟨Ex.new hD3, upd_same⟩ (fun _ _ _ _ => trivial) ?_ ?_
              · rintro j x H7 H8 hj ⟨e7, h7⟩ ⟨rfl, rfl⟩
                have hja : j < sa.length := hj
                have hjb : j < sb.length := by omega
                have ej : (0 + (j : Int)) = ((j : Nat) : Int) := by omega
                have ata : atI (sa.map V.int) (0 + (j : Int)) = some (.int sa[j]) := by rw [ej]; exact atI_nat (by rw [List.getElem?_map, List.getElem?_eq_getElem hja]; rfl)
                have atb : atI (sb.map V.int) (0 + (j : Int)) = some (.int sb[j]) := by rw [ej]; exact atI_nat (by rw [List.getElem?_map, List.getElem?_eq_getElem hjb]; rfl)
                have hadd : (addS sa sb)[j]? = some (sa[j] + sb[j]) := by
                  unfold addS
                  rw [List.getElem?_zipWith, List.getElem?_eq_getElem hja, List.getElem?_eq_getElem hjb]
                refine ⟨rfl, _, rfl, p1, _, _, _, rfl, rfl, SqT.of (e7 _ _ hp16), rfl, _, rfl, q1, _, _, _, rfl, rfl, SqT.of (e7 _ _ hq16), ata, _, rfl, p2, _, _, _, rfl, rfl, SqT.of (e7 _ _ hp26), rfl, _, rfl, q2, _, _, _, rfl, rfl, SqT.of (e7 _ _ hq26), atb, _, _, rfl, rfl, _, h7, szl (by simp; omega), Ex.mut e7 hD3, ?_⟩
                rw [upd_same, take_snoc hadd]
              · rintro H7 ⟨e7, h7⟩
                have lab : (addS sa sb).length = sa.length := by rw [addS_len, la, lb, Nat.min_self]
                rw [← lab] at h7
                have h7' := lst_take h7
                refine ⟨D3, _, rfl, .inl ⟨SqL.of h7', fun t7 ht7 => ⟨(by show 2 ≤ sizeLine; decide), fun u hu => ?_⟩⟩⟩
                have e8 : Ex H7 (upd H7 t7 (.tup ((addS sa sb).map V.int))) := Ex.new ht7
                have e9 : Ex H6 (upd (upd H7 t7 (.tup ((addS sa sb).map V.int))) u (.tup [.str (kindS r), .ref t7])) := Ex.new' (Ex.new' e7 ht7) hu
                have hboth : DeedV (upd (upd H7 t7 (.tup ((addS sa sb).map V.int))) u (.tup [.str (kindS r), .ref t7])) (.ref u) (.draw r (addS sa sb)) := ⟨u, t7, rfl, upd_same, Ex.new hu _ _ upd_same⟩
                have hAt9 := e9 _ _ hAt6
                have hD9 := e9 _ _ hD6
                have e09 : Ex H0 (upd (upd H7 t7 (.tup ((addS sa sb).map V.int))) u (.tup [.str (kindS r), .ref t7])) := e06.trans e9
                have hvs9 := hvs6.ex (Ex.t e9)
                generalize upd (upd H7 t7 (.tup ((addS sa sb).map V.int))) u (.tup [.str (kindS r), .ref t7]) = H9 at e9 hboth hAt9 hD9 e09 hvs9 ⊢
                -- rows
                refine ⟨_, rfl, _, rfl, D2, _, _, .int (kk : Int), rfl, rfl, SqL.of hAt9, atI_nat (j := 0) rfl, _, rfl, D, vs, rfl, SqL.of hD9, fun pA hpA => ?_⟩
                rw [cutV_take]
                have e10 : Ex H9 (upd H9 pA (.lst (vs.take kk))) := Ex.new hpA
                have hA10 : (upd H9 pA (.lst (vs.take kk))) pA = some (.lst (vs.take kk)) := upd_same
                generalize upd H9 pA (.lst (vs.take kk)) = H10 at e10 hA10 ⊢
                refine ⟨_, rfl, _, rfl, v, .ref u, a, b, z, r, addS sa sb, rfl, hv.ex (Ex.t (e0.trans (e09.trans e10))), s1, s3, hboth.ex (Ex.t e10), by omega, fun v' H11 e11 hv' => ?_⟩
                refine ⟨(by show 1 ≤ sizeLine; decide), fun pB hpB => ?_⟩
                have e12 : Ex H11 (upd H11 pB (.lst [v'])) := Ex.new hpB
                have hB12 : (upd H11 pB (.lst [v'])) pB = some (.lst [v']) := upd_same
                generalize upd H11 pB (.lst [v']) = H12 at e12 hB12 ⊢
                have vl : vs.length ≤ 12 := by rw [hvs9.1]; exact hFl
                refine ⟨pA, pB, _, _, rfl, rfl, e12 _ _ (e11 _ _ hA10), hB12, sz (by rw [List.length_take]; simp; omega), fun pC hpC => ?_⟩
                have e13 : Ex H12 (upd H12 pC (.lst (vs.take kk ++ [v']))) := Ex.new hpC
                have hC13 : (upd H12 pC (.lst (vs.take kk ++ [v']))) pC = some (.lst (vs.take kk ++ [v'])) := upd_same
                generalize upd H12 pC (.lst (vs.take kk ++ [v'])) = H13 at e13 hC13 ⊢
                have e913 : Ex H9 H13 := e10.trans (e11.trans (e12.trans e13))
                refine ⟨_, rfl, _, rfl, D2, _, _, .int (kk : Int), rfl, rfl, SqL.of (e913 _ _ hAt9), atI_nat (j := 0) rfl, _, _, rfl, rfl, _, rfl, D, vs, rfl, SqL.of (e913 _ _ hD9), fun pD hpD => ?_⟩
                have ecut : cutV vs (some ((kk : Int) + 2)) none = vs.drop (kk + 2) := cutV_drop vs (kk + 2)
                rw [ecut]
                have e14 : Ex H13 (upd H13 pD (.lst (vs.drop (kk + 2)))) := Ex.new hpD
                have hD14 : (upd H13 pD (.lst (vs.drop (kk + 2)))) pD = some (.lst (vs.drop (kk + 2))) := upd_same
                generalize upd H13 pD (.lst (vs.drop (kk + 2))) = H14 at e14 hD14 ⊢
                refine ⟨pC, pD, _, _, rfl, rfl, e14 _ _ hC13, hD14, sz (by rw [List.length_append, List.length_take, List.length_drop]; simp; omega), fun pE hpE => ?_⟩
                have e15 : Ex H14 (upd H14 pE (.lst (vs.take kk ++ [v'] ++ vs.drop (kk + 2)))) := Ex.new hpE
                have e915 := e913.trans (ext3 e14 e15)
                refine ⟨e09.trans e915, pE, vs.take kk ++ [v'] ++ vs.drop (kk + 2), _, _, _, _, _, upd_same, ?_, rfl⟩
                rw [joinAt_eq ha hb]
                have hvF := hvs9.ex (Ex.t e915)
                refine (Rel2.app (Rel2.app (hvF.tk kk) ⟨rfl, fun i x y h1 h2 => ?_⟩) (hvF.dp (kk + 2)))
                cases i with
                | zero =>
                  cases h1
                  cases h2
                  exact DeedV.ex (d := .draw r (plainS (modu a b r) (addS sa sb))) (Ex.t (e12.trans (e13.trans (ext3 e14 e15)))) hv'
                | succ i => cases h1
      · rintro σ H1 ⟨e1, l, ws, o4, o5, o7, o8, o9, h1, hws, rfl⟩
        refine ⟨_, rfl, l, ws, rfl, .inl ⟨SqL.of h1, fun q hq => ?_⟩⟩
        have e2 : Ex H1 (upd H1 q (.tup ws)) := Ex.new hq
        exact k _ _ (e0.trans (e1.trans e2)) ⟨q, ws, rfl, upd_same, hws.ex (Ex.t e2)⟩
end
end K7
/-! What the law still wants: short deeds are good deeds, joining and cutting of recipes, != of baths. -/
namespace K7
open PySem L2 K7R
theorem short_va {a b : Nat} (hs : Sz a b) {ds : List Deed} (hv : ∀ d ∈ ds, Va a b d) : ∀ d ∈ short a b ds, Va a b d := by
  intro d hd
  have R := short_mem_red hs.1 hs.2.2.1 (rec := ds) fun d hd => (hv d hd).len
  have ok := red_all R d (List.mem_reverse.mp hd)
  rcases short_mem hd with q | q
  · cases d with
    | draw r s =>
      refine ⟨ok.1, fun x hx => ?_⟩
      have h5 := modu_le hs r
      have := ok.2.1 x hx
      omega
    | drop _ _ => cases q
    | paper _ => cases q
  · exact hv d q
theorem plain_va {a b : Nat} (hs : Sz a b) {r : Bool} {s : List Int} (h : s.length = cnt a b r) : Va a b (.draw r (plainS (modu a b r) s)) := by
  refine ⟨by rw [plainS_len]; exact h, fun x hx => ?_⟩
  have h5 := modu_le hs r
  have := sm_plain (modu_pos hs.1 hs.2.2.1 r) s x hx
  omega
theorem opp_va {a b : Nat} (hs : Sz a b) {d : Deed} (hv : Va a b d) : Va a b (oppD a b d) := by
  cases d with
  | draw r s => exact plain_va hs (by rw [negS_len]; exact hv.1)
  | drop _ _ => exact hv
  | paper _ => exact hv
theorem run_papers {α : Type} [Inhabited α] {a b : Nat} {col : Deed → α} : ∀ (ds : List Deed) (st : List α × List (List α)), (∀ d ∈ ds, isDraw d = true) → (runD a b col ds st).2 = st.2
  | [], _, _ => rfl
  | d :: ds, st, h => by
    have h1 := run_papers (a := a) (b := b) (col := col) ds (doD a b d (col d) st) fun e he => h e (List.mem_cons_of_mem _ he)
    have hd := h d List.mem_cons_self
    show (runD a b col ds (doD a b d (col d) st)).2 = _
    rw [h1]
    cases d with
    | draw _ _ => rfl
    | drop _ _ => cases hd
    | paper _ => cases hd
/-- there and back -/
theorem run_back {α : Type} [Inhabited α] {a b : Nat} {col : Deed → α} (hs : Sz a b) {ds : List Deed} (hd : ∀ d ∈ ds, isDraw d = true ∧ lenD a b d) {z : List α} (hz : z.length = a * b) :
    (runD a b col (short a b (ds.reverse.map (oppD a b))) ((runD a b col ds (z, [])).1, [])).1 = z := by
  have e1 : ((runD a b col ds (z, [])).1, []) = runD a b col ds (z, []) := by
    have := run_papers (a := a) (b := b) (col := col) ds (z, []) fun d h => (hd d h).1
    exact Prod.ext rfl this.symm
  have hl : ∀ d ∈ ds.reverse.map (oppD a b), lenD a b d := by
    intro d h
    obtain ⟨e, he, rfl⟩ := List.mem_map.mp h
    have q := (hd e (List.mem_reverse.mp he)).2
    cases e with
    | draw r s => show (plainS _ (negS s)).length = _; rw [plainS_len, negS_len]; exact q
    | drop _ _ => trivial
    | paper _ => trivial
  rw [e1, run_short hs.1 hs.2.2.1 (runD_len ds hz) hl, ← runD_append, run_undo hs.1 hs.2.2.1 ds hd hz]
theorem run_back1 {α : Type} [Inhabited α] {a b : Nat} {col : Deed → α} (hs : Sz a b) {d : Deed} (h1 : isDraw d = true) (h2 : lenD a b d) {z : List α} (hz : z.length = a * b) :
    (runD a b col [oppD a b d] ((runD a b col [d] (z, [])).1, [])).1 = z := by
  have e1 : ((runD a b col [d] (z, [])).1, []) = runD a b col [d] (z, []) := by
    have := run_papers (a := a) (b := b) (col := col) [d] (z, []) fun e h => by rw [List.mem_singleton.mp h]; exact h1
    exact Prod.ext rfl this.symm
  have h := run_undo (col := col) hs.1 hs.2.2.1 [d] (fun e he => by rw [List.mem_singleton.mp he]; exact ⟨h1, h2⟩) (st := (z, [])) hz
  rw [e1, ← runD_append]
  have h' : runD a b col ([d] ++ [oppD a b d]) (z, []) = (z, []) := h
  rw [h']
theorem filter_lt {ds : List Deed} : decide ((ds.filter isDraw).length < ds.length) = !(ds.all isDraw) := by
  induction ds with
  | nil => rfl
  | cons d ds ih =>
    have hl := List.length_filter_le isDraw ds
    rw [List.filter_cons, List.all_cons]
    cases h : isDraw d with
    | true =>
      rw [if_pos rfl, Bool.true_and, ← ih]
      simp
    | false =>
      rw [if_neg (by decide), Bool.false_and]
      simp
      omega
section
variable {K : PySem.W.Frag} {H : Hp} {Q : VK}
theorem cat_rec {x y : V} {A B : List Deed} (hx : RecV H x A) (hy : RecV H y B) (hl : A.length + B.length ≤ 1000) (k : ∀ v H', Ex H H' → RecV H' v (A ++ B) → Q v H') : rCatA K x y H Q := by
  obtain ⟨a, xs, rfl, ha, hxs⟩ := hx
  obtain ⟨b, ys, rfl, hb, hys⟩ := hy
  have lx := hxs.1
  have ly := hys.1
  refine ⟨a, b, xs, ys, rfl, rfl, SqT.of ha, SqT.of hb, sz (by omega), fun e => ?_, fun _ e => ?_, fun _ _ p hp => ?_⟩
  · have eA : A = [] := List.length_eq_zero_iff.mp (by rw [← lx, e]; rfl)
    exact k _ H (Ex.refl H) ⟨b, ys, rfl, hb, by rw [eA]; exact hys⟩
  · have eB : B = [] := List.length_eq_zero_iff.mp (by rw [← ly, e]; rfl)
    exact k _ H (Ex.refl H) ⟨a, xs, rfl, ha, by rw [eB, List.append_nil]; exact hxs⟩
  · have e : Ex H (upd H p (.tup (xs ++ ys))) := Ex.new hp
    exact k _ _ e ⟨p, xs ++ ys, rfl, upd_same, Rel2.app (hxs.ex (Ex.t e)) (hys.ex (Ex.t e))⟩
theorem slice_rec {x : V} {A : List Deed} (n : Nat) (hx : RecV H x A) (k : ∀ v H', Ex H H' → RecV H' v (A.take n) → Q v H') : rSlA K x none (some (n : Int)) H Q := by
  obtain ⟨a, xs, rfl, ha, hxs⟩ := hx
  have lx := hxs.1
  refine ⟨a, xs, rfl, SqT.of ha, fun e => ?_, fun _ p hp => ?_⟩
  · have h := e.2
    rw [HT.sIx_nat] at h
    have : A.take n = A := List.take_of_length_le (by omega)
    exact k _ H (Ex.refl H) ⟨a, xs, rfl, ha, by rw [this]; exact hxs⟩
  · rw [cutV_take]
    have e : Ex H (upd H p (.tup (xs.take n))) := Ex.new hp
    exact k _ _ e ⟨p, _, rfl, upd_same, Rel2.tk n (hxs.ex (Ex.t e))⟩
end
/-- the own == of a class -/
def Ke (P : Program) (w : World) (K : PySem.W.Frag) (mg : Str → Option Value) (base : Heap) (C : Addr) (k : Nat) (R : Addr → Addr → Hp → Prop) : Prop :=
  ∃ f fd, FnOk P w K mg base CX0 k f fd ["self", "other"] (spEq R) ∧ PySem.W.findIn K (.ref C) "__eq__" = some (some (.ref f)) ∧ PySem.W.isFn K (.ref f) = true ∧ Binds K fd ["self", "other"] []
abbrev DDone (C : Addr) (R : Addr → Addr → Hp → Prop) : Eqv := fun x y H => DSlt C R x y H ∨ DList DFlat x y H
section
variable {X : Cx} {C : Addr} {R : Addr → Addr → Hp → Prop}
theorem op_neBath (h : Ke X.prog X.w X.K X.mg X.base C 3 R) (hm : PySem.W.mroIn X.K C (.type "object") = some true) (hne : PySem.W.findIn X.K (.ref C) "__ne__" = some (some (.builtin "object.__ne__"))) (hr : Room 4 X.A) :
    OpR X (compareOp .NotEq) (rNeG (DSlt C R)) := by
  obtain ⟨f, fd, F, hs, hf, hb⟩ := h
  exact op_neSlt (E := E0) F hm hne hs hf hb pass0 hr
theorem op_neDone (h : Ke X.prog X.w X.K X.mg X.base C 3 R) (mR : ∀ a b H H', Ext H H' → R a b H → R a b H') (hr : Room 4 X.A) : OpR X (compareOp .NotEq) (rNeG (DTup X.K (DDone C R))) := by
  obtain ⟨f, fd, F, hs, hf, hb⟩ := h
  exact op_neTup (n := 3) (Mon.or (mon_slt mR) (mon_list mon_flat)) (EqG.or (eqG_slt (E := E0) F hs hf hb pass0) ((eqG_list mon_flat eqG_flat).mono (by decide))) hr
end
theorem bathEq_mon {K : PySem.W.Frag} {mg : Str → Option Value} (T : Txt K mg) : ∀ a b H H', Ext H H' → BathEq T a b H → BathEq T a b H' := fun _ _ _ _ e ⟨a, b, z, h1, h2, h3⟩ => ⟨a, b, z, h1, h2.ex e, h3.ex e⟩
end K7
/-! The law. -/
namespace K7
open PySem L2 K7R
/-- the law's things stand -/
structure LawAt {K : PySem.W.Frag} {mg : Str → Option Value} (T : Txt K mg) (H : Hp) (sv : V) (bt p : Addr) (wd ht : Nat) (z : List Nat) (us : List V) (ds : List Deed) : Prop where
  sch : SchV H sv wd ht z
  bath : BathAt T H bt wd ht z
  rcp : H p = some (.tup us)
  dds : DeedsV H us ds
theorem LawAt.ex {K : PySem.W.Frag} {mg : Str → Option Value} {T : Txt K mg} {H H' : Hp} {sv : V} {bt p : Addr} {wd ht : Nat} {z : List Nat} {us : List V} {ds : List Deed} (e : Ex H H') (h : LawAt T H sv bt p wd ht z us ds) : LawAt T H' sv bt p wd ht z us ds :=
  ⟨h.sch.ex (Ex.t e), h.bath.ex e, e _ _ h.rcp, h.dds.ex (Ex.t e)⟩
theorem LawAt.recV {K : PySem.W.Frag} {mg : Str → Option Value} {T : Txt K mg} {H : Hp} {sv : V} {bt p : Addr} {wd ht : Nat} {z : List Nat} {us : List V} {ds : List Deed} (h : LawAt T H sv bt p wd ht z us ds) : RecV H (.ref p) ds := ⟨p, us, rfl, h.rcp, h.dds⟩
theorem prs_strs {α : Type} {f : α → Str} {H : Hp} (l : List α) : Prs DFlat (l.map fun q => V.str (f q)) (l.map fun q => V.str (f q)) H := by
  refine ⟨rfl, fun i x y hx hy => ?_⟩
  rw [hx] at hy
  cases hy
  obtain ⟨q, _, rfl⟩ := map_at hx
  refine ⟨rfl, rfl, ?_⟩
  show (f q == f q) = true
  exact beq_self_eq_true _
section
variable {P : Program} {w : World} {K : PySem.W.Frag} {mg : Str → Option Value} {base : Heap}
def sp_law (K : PySem.W.Frag) : Sp := fun vs H Q _ => ∃ (a : Addr) (ns : List Int), vs = [.ref a] ∧ SqL K H a (ns.map V.int) ∧ ∀ H', Q (.bl true) H'
abbrev s_law : Stmt := top 59
theorem sc_law : FnScope ["_law_script", "_law_row", "_law_s", "_law_one", "_law_recipe", "_law_k", "_law_found", "_law_draws", "_law_deed_here", "_law_back", "_law_turned", "_law_again"] ["_law_script"] (defScope s_law) := ⟨rfl, rfl, rfl, by decide +kernel, rfl, by decide +kernel, by decide +kernel⟩
theorem ok_law {f : Addr} {fd : FuncData} (F : Fun K "law" "law" s_law f fd) (T : Txt K mg) (h_mro : PySem.W.mroIn K T.cBath (.type "object") = some true)
    (k_eq : Ke P w K mg base T.cBath 3 (BathEq T))
    (k__law_taken : Kn P w K mg base "_law_taken" 1 ["_law_row", "_law_many"] (sp_taken K)) (k__law_scheme : Kn P w K mg base "_law_scheme" 3 ["_law_row", "_law_cells"] (sp_scheme K))
    (k__law_bath : Kn P w K mg base "_law_bath" 5 ["_law_s"] (sp_bath T)) (k__law_draw : Kn P w K mg base "_law_draw" 3 ["_law_row", "_law_s"] (sp_gen K)) (k__law_deed : Kn P w K mg base "_law_deed" 4 ["_law_row", "_law_s"] (sp_gen K))
    (k__law_plain : Kn P w K mg base "_law_plain" 1 ["_law_s", "_law_deed_here"] sp_lplain) (k__law_short : Kn P w K mg base "_law_short" 2 ["_law_s", "_law_recipe"] sp_lshort)
    (k_shortened : Kn P w K mg base "shortened" 6 ["bath", "recipe"] (sp_shortened T)) (k_done : Kn P w K mg base "done" 6 ["bath", "recipe"] (sp_done T)) (k_alike : Kn P w K mg base "alike" 7 ["width", "height", "one", "other"] sp_alike)
    (k_undoing : Kn P w K mg base "undoing" 6 ["bath", "recipe"] (sp_undoing T)) (k_opposite : Kn P w K mg base "opposite" 4 ["bath", "deed"] (sp_opposite T)) :
    FnOk P w K mg base CX0 8 f fd ["_law_script"] (sp_law K) := by
  refine F.ok sc_law (fun vs H Q E h => ?_) (fun cdv A outer s H vs Q E hr h => ?_)
  · obtain ⟨_, _, rfl, _⟩ := h
    rfl
  · obtain ⟨a, ns, rfl, hS, kQ⟩ := h
    refine ⟨_, ((pss_cons (ps_set (i := 1) sc_law.nd rfl (by first | exact Or.inl rfl | exact Or.inr rfl) (pe_lst (pa_cons (pv 0) (pa_cons pe_int (pa_cons pe_int (pa_cons pe_int pa_nil))))))
      (pss_cons (ps_set (i := 2) sc_law.nd rfl (by first | exact Or.inl rfl | exact Or.inr rfl) (pe_kn k__law_scheme (hr.mono (by decide)) (by rfl) (pa_cons (pv 1) (pa_cons pe_int pa_nil))))
      (pss_cons (ps_set (i := 3) sc_law.nd rfl (by first | exact Or.inl rfl | exact Or.inr rfl) (pe_kn k__law_bath (hr.mono (by decide)) (by rfl) (pa_cons (pv 2) pa_nil)))
      (pss_cons (ps_set (i := 4) sc_law.nd rfl (by first | exact Or.inl rfl | exact Or.inr rfl) (pe_lst pa_nil))
      (pss_cons (ps_for PassesOwn.never rfl (pi_range1 (by rfl) T.b_range (pa_cons (pe_kn k__law_taken (hr.mono (by decide)) (by rfl) (pa_cons (pv 1) (pa_cons pe_int pa_nil))) pa_nil)) (pg_name (i := 5) sc_law.nd rfl (by first | exact Or.inl rfl | exact Or.inr rfl)) (pss_one (ps_expr (pe_bm PySem.F.plainAttrs_list PySem.F.slot_list_append PySem.F.type_list_append mt_append (pv 4) (pa_cons (pe_ifExp (pt_cmpR op_eq (pe_kn k__law_taken (hr.mono (by decide)) (by rfl) (pa_cons (pv 1) (pa_cons pe_int pa_nil))) pe_int (nomark _)) (pe_kn k__law_deed (hr.mono (by decide)) (by rfl) (pa_cons (pv 1) (pa_cons (pv 2) pa_nil))) (pe_kn k__law_draw (hr.mono (by decide)) (by rfl) (pa_cons (pv 1) (pa_cons (pv 2) pa_nil)))) pa_nil)))))
      (Evl.pss_cut (ps_set (i := 4) sc_law.nd rfl (by first | exact Or.inl rfl | exact Or.inr rfl) (pe_callTy call_tuple_of (by rfl) T.b_tuple (by decide +kernel) (pa_cons (pv 4) pa_nil)))
      (pss_cons (ps_set (i := 6) sc_law.nd rfl (by first | exact Or.inl rfl | exact Or.inr rfl) (pe_kn k_shortened (hr.mono (by decide)) (by rfl) (pa_cons (pv 3) (pa_cons (pv 4) pa_nil))))
      (pss_cons (ps_if (pt_cmpR (op_neD hr.units) (pv 6) (pe_kn k__law_short (hr.mono (by decide)) (by rfl) (pa_cons (pv 2) (pa_cons (pv 4) pa_nil))) (nomark _)) (pss_one (ps_ret pe_bl)) pss_nil)
      (pss_cons (ps_if (pt_cmpR (op_neDone k_eq (bathEq_mon T) (hr.mono (by decide))) (pe_kn k_done (hr.mono (by decide)) (by rfl) (pa_cons (pv 3) (pa_cons (pv 6) pa_nil))) (pe_kn k_done (hr.mono (by decide)) (by rfl) (pa_cons (pv 3) (pa_cons (pv 4) pa_nil))) (nomark _)) (pss_one (ps_ret pe_bl)) pss_nil)
      (pss_cons (ps_if (pt_cmpR (op_neD hr.units) (pe_kn k_shortened (hr.mono (by decide)) (by rfl) (pa_cons (pv 3) (pa_cons (pv 6) pa_nil))) (pv 6) (nomark _)) (pss_one (ps_ret pe_bl)) pss_nil)
      (pss_cons (ps_if (pt_not (pt_val (pe_kn k_alike (hr.mono (by decide)) (by rfl) (pa_cons (pe_ix ix_tup (pv 2) pe_int (fun _ _ => rfl)) (pa_cons (pe_ix ix_tup (pv 2) pe_int (fun _ _ => rfl)) (pa_cons (pv 6) (pa_cons (pv 4) pa_nil))))))) (pss_one (ps_ret pe_bl)) pss_nil)
      (Evl.pss_cut (ps_set (i := 7) sc_law.nd rfl (by first | exact Or.inl rfl | exact Or.inr rfl) (pe_callTy call_tuple_of (by rfl) T.b_tuple (by decide +kernel) (pa_cons (pe_lc (own := [("_law_deed_here", 8)]) (g := gName 8)  rfl sc_law.nd (pi_tup (pv 4)) (blkOk_by (own := [("_law_deed_here", 8)]) (N := ["_law_script", "_law_row", "_law_s", "_law_one", "_law_recipe", "_law_k", "_law_found", "_law_draws", "_law_deed_here", "_law_back", "_law_turned", "_law_again"]) (sc := defScope s_law) (by decide +kernel)) (fun _ _ _ _ _ => (pg_name (i := 8) sc_law.nd rfl (Or.inl rfl))) (fun _ _ _ _ _ => pts_one (pt_cmpR (op_in_seqK (K := K)) (pe_ix (ix_tupK (K := K)) (pv 8) pe_int (fun _ _ => rfl)) (pe_tup (pa_cons pe_str (pa_cons pe_str pa_nil))) (by rfl))) (fun _ _ _ _ _ => (pv 8))) pa_nil)))
      (Evl.pss_cut (ps_set (i := 9) sc_law.nd rfl (by first | exact Or.inl rfl | exact Or.inr rfl) (pe_kn k_undoing (hr.mono (by decide)) (by rfl) (pa_cons (pv 3) (pa_cons (pv 4) pa_nil))))
      (Evl.pss_cut (ps_if (pt_cmpR op_ne (pe_cmpR op_isN (pv 9) pe_non (nomark _)) (pe_cmpR op_lt (pe_callB call_len (by rfl) T.b_len (by decide +kernel) (pa_cons (pv 7) pa_nil)) (pe_callB call_len (by rfl) T.b_len (by decide +kernel) (pa_cons (pv 4) pa_nil)) (nomark _)) (nomark _)) (pss_one (ps_ret pe_bl)) pss_nil)
      (Evl.pss_cut (ps_set (i := 9) sc_law.nd rfl (by first | exact Or.inl rfl | exact Or.inr rfl) (pe_kn k_undoing (hr.mono (by decide)) (by rfl) (pa_cons (pv 3) (pa_cons (pv 7) pa_nil))))
      (pss_cons (ps_if (pt_cmpR (op_neBath k_eq h_mro T.ne (hr.mono (by decide))) (pe_ix ix_tup (pe_kn k_done (hr.mono (by decide)) (by rfl) (pa_cons (pe_ix ix_tup (pe_kn k_done (hr.mono (by decide)) (by rfl) (pa_cons (pv 3) (pa_cons (pv 7) pa_nil))) pe_int (fun _ _ => rfl)) (pa_cons (pv 9) pa_nil))) pe_int (fun _ _ => rfl)) (pv 3) (nomark _)) (pss_one (ps_ret pe_bl)) pss_nil)
      (Evl.pss_cut (ps_if (PW.pt (pw_and (pt_not (pt_val (pe_kn k_alike (hr.mono (by decide)) (by rfl) (pa_cons (pe_ix ix_tup (pv 2) pe_int (fun _ _ => rfl)) (pa_cons (pe_ix ix_tup (pv 2) pe_int (fun _ _ => rfl)) (pa_cons (pe_slice sl_tupA (pe_op op_catA (pv 7) (pv 9)) po_none (po_some pe_int)) (pa_cons (pe_tup pa_nil) pa_nil))))))) (pw_and1 (pt_cmpR op_lt (pe_callB call_len (by rfl) T.b_len (by decide +kernel) (pa_cons (pv 7) pa_nil)) pe_int (nomark _))))) (pss_one (ps_ret pe_bl)) pss_nil)
      (Evl.pss_cut (ps_setLc (i := 10) (own := [("_law_k", 5)]) (g := gName 5) (tt := tYes) rfl sc_law.nd rfl rfl (sw_true rfl rfl rfl (by decide +kernel)) (pi_range1 (by rfl) T.b_range (pa_cons (pe_callB call_len (by rfl) T.b_len (by decide +kernel) (pa_cons (pv 7) pa_nil)) pa_nil)) (blkOk_by (own := [("_law_k", 5)]) (N := ["_law_script", "_law_row", "_law_s", "_law_one", "_law_recipe", "_law_k", "_law_found", "_law_draws", "_law_deed_here", "_law_back", "_law_turned", "_law_again"]) (sc := defScope s_law) (by decide +kernel)) (fun _ _ _ _ _ => (pg_name (i := 5) sc_law.nd rfl (Or.inl rfl))) (fun _ _ _ _ _ => pts_nil) (fun _ _ _ _ _ => (pe_kn k_opposite (hr.mono (by decide)) (by rfl) (pa_cons (pv 3) (pa_cons (pe_ix (ix_tupK (K := K)) (pv 7) (pe_op op_sub (pe_op op_sub (pe_callB (call_lenK (K := K)) (by rfl) T.b_len (by decide +kernel) (pa_cons (pv 7) pa_nil)) pe_int) (pv 5)) (fun _ _ => rfl)) pa_nil)))))
      (pss_cons (ps_for PassesOwn.never rfl (pi_tup (pv 7)) (pg_name (i := 8) sc_law.nd rfl (by first | exact Or.inl rfl | exact Or.inr rfl)) (pss_cons (ps_set (i := 11) sc_law.nd rfl (by first | exact Or.inl rfl | exact Or.inr rfl) (pe_kn k_opposite (hr.mono (by decide)) (by rfl) (pa_cons (pv 3) (pa_cons (pe_kn k_opposite (hr.mono (by decide)) (by rfl) (pa_cons (pv 3) (pa_cons (pv 8) pa_nil))) pa_nil))))
      (pss_cons (ps_if (pt_cmpR (op_neD hr.units) (pv 11) (pe_kn k__law_plain (hr.mono (by decide)) (by rfl) (pa_cons (pv 2) (pa_cons (pv 8) pa_nil))) (nomark _)) (pss_one (ps_ret pe_bl)) pss_nil)
      (pss_one (ps_if (pt_cmpR (op_neBath k_eq h_mro T.ne (hr.mono (by decide))) (pe_ix ix_tup (pe_kn k_done (hr.mono (by decide)) (by rfl) (pa_cons (pe_ix ix_tup (pe_kn k_done (hr.mono (by decide)) (by rfl) (pa_cons (pv 3) (pa_cons (pe_tup (pa_cons (pv 8) pa_nil)) pa_nil))) pe_int (fun _ _ => rfl)) (pa_cons (pe_tup (pa_cons (pe_kn k_opposite (hr.mono (by decide)) (by rfl) (pa_cons (pv 3) (pa_cons (pv 8) pa_nil))) pa_nil)) pa_nil))) pe_int (fun _ _ => rfl)) (pv 3) (nomark _)) (pss_one (ps_ret pe_bl)) pss_nil)))))
      (pss_one (ps_ret (pe_cmpR (op_eqD hr.units) (pv 9) (pe_kn k__law_short (hr.mono (by decide)) (by rfl) (pa_cons (pv 2) (pa_cons (pv 10) pa_nil))) (nomark _)))))))))))))))))))))))), ?_⟩
    -- the row
    refine ⟨_, rfl, (by show 4 ≤ sizeLine; decide), fun r hr0 => ?_⟩
    generalize hH1 : upd H r _ = H1
    have e1 : Ex H H1 := hH1 ▸ Ex.new hr0
    have hrow1 : Row K H1 r a ns := ⟨⟨0, 0, 0, by rw [← hH1]; exact upd_same⟩, SqL.ext hS e1⟩
    refine ⟨_, rfl, r, a, ns, rfl, hrow1, fun sv wd ht z H2 e2 hrow2 hsv hs hle hz hsg => ?_⟩
    refine ⟨_, rfl, sv, wd, ht, z, rfl, hsv, hs, hz, hsg, fun bt H3 e3 hB => ?_⟩
    have hrow3 := hrow2.ex e3
    have hsv3 := hsv.ex (Ex.t e3)
    refine ⟨Nat.zero_le _, fun rl hrl => ?_⟩
    have nrl := hrow3.ne hrl
    have e4 : Ex H3 (upd H3 rl (.lst [])) := Ex.new hrl
    have hrl4 : (upd H3 rl (.lst [])) rl = some (.lst []) := upd_same
    have hrow4 := hrow3.ex e4
    generalize upd H3 rl (.lst []) = H4 at e4 hrl4 hrow4 ⊢
    refine ⟨_, rfl, r, a, ns, 11, rfl, hrow4, by decide, by decide, fun n H5 hn e5 hrow5 => ?_⟩
    refine ⟨_, rfl, by omega, by omega, ?_⟩
    rw [Int.toNat_natCast]
    refine for_it (walk_range (lo := 0)) (fun i σ H' => ExR r H3 H' ∧ Row K H' r a ns ∧ ∃ us ds o5, H' rl = some (.lst us) ∧ DeedsV H' us ds ∧ ds.length = i ∧ (∀ d ∈ ds, Va wd ht d) ∧ σ = [some (.ref a), some (.ref r), some sv, some (.ref bt), some (.ref rl), o5, none, none, none, none, none, none])
      ⟨(ExR.of e4).trans e5, hrow5, [], [], none, e5 _ _ nrl hrl4, ⟨rfl, fun i x y h _ => by simp at h⟩, rfl, (fun _ h => nomatch h), rfl⟩ (fun _ _ _ _ _ => trivial) ?_ ?_
    · rintro i x σ H6 H7 hi ⟨e6, hrow6, us, ds, o5, h6, hus, hdl, hva, rfl⟩ ⟨rfl, rfl⟩
      have hul := hus.1
      have fin : ∀ u d H8, ExR r H7 H8 → Row K H8 r a ns → DeedV H8 u d → Va wd ht d → rAppend (.ref rl) [u] H8 (fun _ H' => ExR r H3 H' ∧ Row K H' r a ns ∧ ∃ us ds o5', H' rl = some (.lst us) ∧ DeedsV H' us ds ∧ ds.length = i + 1 ∧ (∀ d ∈ ds, Va wd ht d) ∧
          [some (V.ref a), some (.ref r), some sv, some (.ref bt), some (.ref rl), some (.int (0 + (i : Int))), none, none, none, none, none, none] = [some (.ref a), some (.ref r), some sv, some (.ref bt), some (.ref rl), o5', none, none, none, none, none, none]) := by
        intro u d H8 e8 hrow8 hd hdv
        have h8 := e8 _ _ nrl h6
        refine ⟨rl, us, u, rfl, rfl, h8, szl (by omega), ExR.mut (e6.trans e8) hrl, Row.mut hrow3 hrl hrow8, us ++ [u], ds ++ [d], _, upd_same, ?_, by simp [hdl], fun d' hd' => ?_, rfl⟩
        · have et : ExT H8 (upd H8 rl (.lst (us ++ [u]))) := ExT.upd (not_tup_lst h8)
          exact ((hus.ex (hrow6.t e8)).ex et).snoc (hd.ex et)
        · rcases List.mem_append.mp hd' with q | q
          · exact hva d' q
          · rw [List.mem_singleton.mp q]; exact hdv
      refine ⟨_, rfl, .inl ⟨rfl, _, SqL.of h6⟩, _, rfl, r, a, ns, 5, rfl, hrow6, by decide, by decide, fun m H8 hm e8 hrow8 => ⟨rfl, _, rfl, ?_⟩⟩
      have hsv8 := hsv3.ex (hrow3.t (e6.trans e8))
      refine iteS ?_ ?_
      · exact ⟨_, rfl, _, rfl, r, a, ns, sv, wd, ht, z, rfl, hrow8, hsv8, hs, fun u d H9 e9 hrow9 hd hdv => fin u d H9 (e8.trans e9) hrow9 hd hdv⟩
      · exact ⟨_, rfl, _, rfl, r, a, ns, sv, wd, ht, z, rfl, hrow8, hsv8, hs, fun u d H9 e9 hrow9 hd hdv => fin u d H9 (e8.trans e9) hrow9 hd hdv⟩
    · rintro σ H6 ⟨e6, hrow6, us, ds, o5, h6, hus, hdl, hva, rfl⟩
      have hul := hus.1
      obtain ⟨rus, hrus⟩ := hrow3.at
      refine ⟨fun σ' H' => ∃ p, LawAt T H' sv bt p wd ht z us ds ∧ σ' = [some (.ref a), some (.ref r), some sv, some (.ref bt), some (.ref p), o5, none, none, none, none, none, none], ?_, ?_⟩
      · refine ⟨_, rfl, rl, us, rfl, .inl ⟨SqL.of h6, fun p hp => ?_⟩⟩
        have e7 : Ex H6 (upd H6 p (.tup us)) := Ex.new hp
        exact ⟨p, ⟨(hsv3.ex (hrow3.t e6)).ex (Ex.t e7), (hB.exR hrus e6).ex e7, upd_same, hus.ex (Ex.t e7)⟩, rfl⟩
      · rintro σ' H7 ⟨p, L, rfl⟩
        have hdn : ds.length ≤ 10 := by omega
        clear hus h6 hrus hul hrow6 e6 hdl hrow5 e5 hrl4 hrow4 e4 hsv3 hrow3 hB e3 hsv hrow2 e2 hrow1 e1 hH1
        have s1 := hs.1
        have s3 := hs.2.2.1
        have hlen : ∀ d ∈ ds, lenD wd ht d := fun d h => (hva d h).len
        obtain ⟨m1, m2⟩ := law_short s1 s3 hlen
        have hvaS := short_va hs hva
        have hlS := short_len (w := wd) (h := ht) ds
        have wfS : Wf 3 (dRec (short wd ht ds)) := wf_rec fun d h => (hvaS d h).col
        have eout := out_short s1 s3 hlen
        have erun : runD wd ht colN (short wd ht ds) (z, []) = runD wd ht colN ds (z, []) := run_short s1 s3 hz hlen
        -- shortened, and the law's own joining
        refine ⟨_, rfl, _, rfl, bt, .ref p, wd, ht, z, ds, rfl, L.bath, hs, L.recV, hva, by omega, fun fv H8 e8 hf => ?_⟩
        have L8 := L.ex e8
        refine ⟨_, rfl, _, rfl, _, rfl, sv, p, wd, ht, z, us, ds, rfl, L8.sch, hs, .inl L8.rcp, L8.dds, hlen, by omega, fun lv H9 e9 hlv => ?_⟩
        rw [m1] at hlv
        have L9 := L8.ex e9
        have hf9 := hf.ex (Ex.t e9)
        refine ⟨dRec (short wd ht ds), dRec (short wd ht ds), dp_rec hf9, dp_rec hlv, wfS.shaped (by decide), wfS.shaped (by decide), _, rfl, itN (by rw [wfS.refl]; decide) ?_⟩
        -- done of both
        refine ⟨_, rfl, _, rfl, bt, fv, wd, ht, z, short wd ht ds, rfl, L9.bath, hs, hz, hsg, hf9, hvaS, by omega, fun r1 b1 l1 H10 e10 hr1 hb1 hsg1 hl1 => ?_⟩
        have L10 := L9.ex e10
        refine ⟨_, rfl, _, rfl, bt, .ref p, wd, ht, z, ds, rfl, L10.bath, hs, hz, hsg, L10.recV, hva, by omega, fun r2 b2 l2 H11 e11 hr2 hb2 hsg2 hl2 => ?_⟩
        rw [erun] at hb1 hsg1 hl1
        have hb1' := hb1.ex e11
        obtain ⟨dx1, vs1, hslt1⟩ := hb1'.slt
        obtain ⟨dx2, vs2, hslt2⟩ := hb2.slt
        refine ⟨⟨r1, r2, [.ref b1, .ref l1], [.ref b2, .ref l2], rfl, rfl, SqT.of (e11 _ _ hr1), SqT.of hr2,
          Prs.cons (.inl ⟨b1, b2, dx1, dx2, vs1, vs2, rfl, rfl, hslt1, hslt2, wd, ht, _, hsg1, hb1', hb2⟩) (Prs.cons (.inr ⟨l1, l2, _, _, rfl, rfl, e11 _ _ hl1, hl2, prs_strs _⟩) Prs.nil)⟩, fun H12 e12 => ⟨_, rfl, itN (by decide) ?_⟩⟩
        have L12 := (L10.ex e11).ex e12
        have hf12 := ((hf9.ex (Ex.t e10)).ex (Ex.t e11)).ex (Ex.t e12)
        -- shortened twice
        refine ⟨_, rfl, _, rfl, bt, fv, wd, ht, z, short wd ht ds, rfl, L12.bath, hs, hf12, hvaS, by omega, fun gv H13 e13 hg => ?_⟩
        rw [m2] at hg
        have L13 := L12.ex e13
        have hf13 := hf12.ex (Ex.t e13)
        refine ⟨_, rfl, dRec (short wd ht ds), dRec (short wd ht ds), dp_rec hg, dp_rec hf13, wfS.shaped (by decide), wfS.shaped (by decide), _, rfl, itN (by rw [wfS.refl]; decide) ?_⟩
        -- alike
        obtain ⟨t, et, htt⟩ := L13.sch
        refine ⟨_, rfl, t, _, _, _, et, rfl, SqT.of htt, rfl, _, rfl, t, _, _, _, et, rfl, SqT.of htt, rfl, _, rfl, _, rfl, wd, ht, fv, .ref p, short wd ht ds, ds, rfl, hs, hf13, L13.recV, hvaS, hva, by omega, by omega, fun H14 e14 => ?_⟩
        rw [eout, (wf_out (out_ok hs hva)).refl]
        refine ⟨_, rfl, iteF ?_⟩
        have L14 := L13.ex e14
        clear L13 L12 L10 L9 L8 L hf13 hf12 hf9 hf
        -- the draws
        have hE1 : ∀ d ∈ ds.filter isDraw, Va wd ht d := fun d h => hva d (List.mem_filter.mp h).1
        have hE2 : ∀ d ∈ ds.filter isDraw, isDraw d = true := fun d h => (List.mem_filter.mp h).2
        have hE3 : (ds.filter isDraw).length ≤ 10 := Nat.le_trans (List.length_filter_le _ _) hdn
        have hE4 := filter_lt (ds := ds)
        refine ⟨fun σ' H' => ∃ q ws, LawAt T H' sv bt p wd ht z us ds ∧ H' q = some (.tup ws) ∧ DeedsV H' ws (ds.filter isDraw) ∧ σ' = [some (.ref a), some (.ref r), some sv, some (.ref bt), some (.ref p), o5, some fv, some (.ref q), none, none, none, none], ?_, ?_⟩
        · refine ⟨_, rfl, p, rfl, ⟨_, SqT.of L14.rcp⟩, fun D hD => ?_⟩
          refine lc_it walk_tup (fun i H' => Ex H14 H' ∧ ∃ vs, H' D = some (.lst vs) ∧ DeedsV H' vs ((ds.take i).filter isDraw) ∧ vs.length ≤ i) ⟨Ex.new hD, [], upd_same, ⟨rfl, fun i x y h _ => by simp at h⟩, Nat.le_refl _⟩ (fun i H' _ q => SqT.of (q.1 _ _ L14.rcp)) ?_ ?_
          · rintro i x H2 H3 hi ⟨e2, vs, h2, hvs, hvl⟩ ⟨rfl, hx⟩
            have hid : i < ds.length := by rw [← L14.dds.1]; exact hi
            have hd := (L14.dds.2 i x _ hx (List.getElem?_eq_getElem hid)).ex (Ex.t e2)
            obtain ⟨pd, xs, rfl, hpd⟩ := deed_head hd
            have hft := filter_take (f := isDraw) (List.getElem?_eq_getElem hid)
            refine ⟨rfl, _, rfl, pd, _, _, .str (dKind ds[i]), rfl, rfl, SqT.of hpd, atI_nat (j := 0) rfl, (by show 2 ≤ sizeLine; decide), fun t ht => ?_⟩
            have e4 : Ex H3 (upd H3 t (.tup [.str "rake", .str "comb"])) := Ex.new ht
            refine ⟨t, _, rfl, .inr (SqT.of upd_same), rfl, rfl, _, rfl, ?_⟩
            have ek := in_kinds2 ds[i]
            by_cases hk : isDraw ds[i] = true
            · refine itP (by rw [if_neg (by decide)]; exact ek.trans hk) ?_
              have h4 := e4 _ _ h2
              refine ⟨_, rfl, vs, h4, szl (by omega), Ex.mut (Ex.new' e2 ht) hD, vs ++ [.ref pd], upd_same, ?_, by simp; omega⟩
              rw [hft, if_pos hk]
              have et := ExT.trans (Ex.t e4) (ExT.upd (o := .lst (vs ++ [V.ref pd])) (not_tup_lst h4))
              exact (hvs.ex et).snoc (hd.ex et)
            · refine itN (by rw [if_neg (by decide)]; exact fun q => hk (ek.symm.trans q)) ?_
              refine ⟨Ex.new' e2 ht, vs, e4 _ _ h2, ?_, by omega⟩
              rw [hft, if_neg hk, List.append_nil]
              exact hvs.ex (Ex.t e4)
          · rintro H2 ⟨e2, vs, h2, hvs, hvl⟩
            rw [L14.dds.1, List.take_length] at hvs
            refine ⟨D, _, rfl, .inl ⟨SqL.of h2, fun q hq => ?_⟩⟩
            have e3 : Ex H2 (upd H2 q (.tup vs)) := Ex.new hq
            exact ⟨q, vs, (L14.ex e2).ex e3, upd_same, hvs.ex (Ex.t e3), rfl⟩
        rintro σ1 H1 ⟨q, ws, L, hq, hws, rfl⟩
        clear L14
        -- undoing of the whole
        refine ⟨fun σ' H' => ∃ bv, LawAt T H' sv bt p wd ht z us ds ∧ H' q = some (.tup ws) ∧ DeedsV H' ws (ds.filter isDraw) ∧ decide (bv = .non) = !(ds.all isDraw) ∧ σ' = [some (.ref a), some (.ref r), some sv, some (.ref bt), some (.ref p), o5, some fv, some (.ref q), none, some bv, none, none], ?_, ?_⟩
        · refine ⟨_, rfl, _, rfl, bt, .ref p, wd, ht, z, ds, rfl, L.bath, hs, L.recV, hva, by omega, fun hn H2 e2 => ?_, fun hy bv H2 e2 hb => ?_⟩
          · exact ⟨.non, L.ex e2, e2 _ _ hq, hws.ex (Ex.t e2), by rw [hn]; rfl, rfl⟩
          · obtain ⟨pb, vb, rfl, _⟩ := hb
            exact ⟨.ref pb, L.ex e2, e2 _ _ hq, hws.ex (Ex.t e2), by rw [hy]; rfl, rfl⟩
        rintro σ2 H2 ⟨bv, L2, hq2, hws2, hbv, rfl⟩
        clear L hq hws
        refine ⟨fun σ' H' => LawAt T H' sv bt p wd ht z us ds ∧ H' q = some (.tup ws) ∧ DeedsV H' ws (ds.filter isDraw) ∧ σ' = [some (.ref a), some (.ref r), some sv, some (.ref bt), some (.ref p), o5, some fv, some (.ref q), none, some bv, none, none], ?_, ?_⟩
        · refine ⟨_, rfl, rfl, _, rfl, _, ws.length, rfl, .inr ⟨_, SqT.of hq2, rfl⟩, _, rfl, _, us.length, rfl, .inr ⟨_, SqT.of L2.rcp, rfl⟩, _, _, rfl, rfl, rfl, _, rfl, ?_⟩
          have el : decide ((ws.length : Int) < (us.length : Int)) = decide ((ds.filter isDraw).length < ds.length) := decide_eq_decide.mpr (by rw [hws2.1, L2.dds.1]; omega)
          refine itN ?_ ⟨L2, hq2, hws2, rfl⟩
          show ¬ (!decide (V.bl (decide (bv = V.non)) = V.bl (decide ((ws.length : Int) < (us.length : Int))))) = true
          rw [hbv, el, hE4]
          simp
        rintro σ3 H3 ⟨L3, hq3, hws3, rfl⟩
        clear L2 hq2 hws2 hbv
        -- undoing of the draws
        have hall : (ds.filter isDraw).all isDraw = true := List.all_eq_true.mpr hE2
        generalize ds.filter isDraw = E at hE1 hE2 hE3 hws3 hall
        refine ⟨fun σ' H' => ∃ bv, LawAt T H' sv bt p wd ht z us ds ∧ H' q = some (.tup ws) ∧ DeedsV H' ws E ∧ RecV H' bv (short wd ht (E.reverse.map (oppD wd ht))) ∧ σ' = [some (.ref a), some (.ref r), some sv, some (.ref bt), some (.ref p), o5, some fv, some (.ref q), none, some bv, none, none], ?_, ?_⟩
        · refine ⟨_, rfl, _, rfl, bt, .ref q, wd, ht, z, E, rfl, L3.bath, hs, ⟨q, ws, rfl, hq3, hws3⟩, hE1, by omega, (fun hn => by rw [hall] at hn; cases hn), fun _ bv H4 e4 hb => ?_⟩
          exact ⟨bv, L3.ex e4, e4 _ _ hq3, hws3.ex (Ex.t e4), hb, rfl⟩
        rintro σ4 H4 ⟨bv, L4, hq4, hws4, hbv, rfl⟩
        clear L3 hq3 hws3 hE4
        have hrevV : ∀ d ∈ E.reverse.map (oppD wd ht), Va wd ht d := fun d h => by
          obtain ⟨e, he, rfl⟩ := List.mem_map.mp h
          exact opp_va hs (hE1 e (List.mem_reverse.mp he))
        have hrevL : (E.reverse.map (oppD wd ht)).length = E.length := by rw [List.length_map, List.length_reverse]
        have hUV := short_va hs hrevV
        have hUL := short_len (w := wd) (h := ht) (E.reverse.map (oppD wd ht))
        rw [hrevL] at hUL
        have hEd : ∀ d ∈ E, isDraw d = true ∧ lenD wd ht d := fun d h => ⟨hE2 d h, (hE1 d h).len⟩
        have eback := run_back (col := colN) hs hEd hz
        have eundo := out_undo s1 s3 hEd
        have hlenR : ∀ d ∈ E.reverse.map (oppD wd ht), lenD wd ht d := fun d h => (hrevV d h).len
        obtain ⟨n1, _⟩ := law_short s1 s3 hlenR
        have wfU : Wf 3 (dRec (short wd ht (E.reverse.map (oppD wd ht)))) := wf_rec fun d h => (hUV d h).col
        have hRE : ∀ {H' : Hp}, Ex H4 H' → RecV H' (.ref q) E := fun e => ⟨q, ws, rfl, e _ _ hq4, hws4.ex (Ex.t e)⟩
        generalize hU : short wd ht (E.reverse.map (oppD wd ht)) = U at *
        -- there and back
        refine ⟨_, rfl, _, rfl, bt, .ref q, wd, ht, z, E, rfl, L4.bath, hs, hz, hsg, hRE (Ex.refl _), hE1, by omega, fun r1 b1 l1 H5 e5 hr1 hb1 hsg1 _ => ?_⟩
        refine ⟨r1, _, _, .ref b1, rfl, rfl, SqT.of hr1, rfl, _, rfl, b1, bv, wd, ht, _, U, rfl, hb1, hs, runD_len _ hz, hsg1, hbv.ex (Ex.t e5), hUV, by omega, fun r2 b2 l2 H6 e6 hr2 hb2 hsg2 _ => ?_⟩
        rw [eback] at hb2
        have L6 := (L4.ex e5).ex e6
        obtain ⟨dx1, vs1, hslt1⟩ := hb2.slt
        obtain ⟨dx2, vs2, hslt2⟩ := L6.bath.slt
        refine ⟨r2, _, _, .ref b2, rfl, rfl, SqT.of hr2, rfl, _, rfl, ⟨b2, bt, dx1, dx2, vs1, vs2, rfl, rfl, hslt1, hslt2, wd, ht, z, hsg, hb2, L6.bath⟩, fun H7 e7 => ⟨_, rfl, itN (by decide) ?_⟩⟩
        have e47 : Ex H4 H7 := e5.trans (e6.trans e7)
        have L7 := L4.ex e47
        have hb7 := hbv.ex (Ex.t e47)
        clear hb2 hr2 hr1 hb1 hslt1 hslt2 L6
        -- alike
        refine ⟨fun σ' H' => Ex H7 H' ∧ σ' = [some (.ref a), some (.ref r), some sv, some (.ref bt), some (.ref p), o5, some fv, some (.ref q), none, some bv, none, none], ?_, ?_⟩
        · obtain ⟨t, et, htt⟩ := L7.sch
          refine ⟨_, rfl, t, _, _, _, et, rfl, SqT.of htt, rfl, _, rfl, t, _, _, _, et, rfl, SqT.of htt, rfl, _, rfl, _, rfl, ?_⟩
          refine cat_rec (hRE e47) hb7 (by omega) fun cv H8 e8 hcv => ?_
          refine ⟨_, rfl, ?_⟩
          refine slice_rec 12 hcv fun tv H9 e9 htv => ?_
          refine ⟨Nat.zero_le _, fun t0 ht0 => ?_⟩
          have e10 : Ex H9 (upd H9 t0 (.tup [])) := Ex.new ht0
          refine ⟨wd, ht, tv, .ref t0, (E ++ U).take 12, [], rfl, hs, htv.ex (Ex.t e10), ⟨t0, [], rfl, upd_same, rfl, fun i x y h _ => by simp at h⟩, fun d h => ?_, (fun _ h => nomatch h), by rw [List.length_take]; omega, by simp, fun H11 e11 => ?_⟩
          · rcases List.mem_append.mp (List.mem_of_mem_take h) with h | h
            · exact hE1 d h
            · exact hUV d h
          have fin : Ex H7 H11 := e8.trans (e9.trans (ext3 e10 e11))
          refine ⟨_, rfl, ?_⟩
          by_cases h7 : E.length < 7
          · have ew : (E ++ U).take 12 = E ++ U := List.take_of_length_le (by rw [List.length_append]; omega)
            have hVE : ∀ d ∈ E ++ U, Va wd ht d := fun d h => by
              rcases List.mem_append.mp h with h | h
              · exact hE1 d h
              · exact hUV d h
            have eo : PyData.eqv (outD (outM wd ht ((E ++ U).take 12))) (outD (outM wd ht [])) = true := by
              rw [ew, eundo]
              exact (wf_out (out_ok (ds := []) hs (fun _ h => nomatch h))).refl
            refine itN (by rw [eo]; decide) (itN (by decide) ⟨fin, rfl⟩)
          · by_cases ho : PyData.eqv (outD (outM wd ht ((E ++ U).take 12))) (outD (outM wd ht [])) = true
            · exact itN (by rw [ho]; decide) (itN (by decide) ⟨fin, rfl⟩)
            · refine itP (by rw [Bool.not_eq_true] at ho; rw [ho]; rfl) ?_
              have hq11 := (e47.trans fin) _ _ hq4
              refine ⟨_, rfl, _, ws.length, rfl, .inr ⟨_, SqT.of hq11, rfl⟩, _, _, rfl, rfl, _, rfl, itN (fun hh => h7 ?_) ⟨fin, rfl⟩⟩
              have := of_decide_eq_true hh
              rw [hws4.1] at this
              omega
        rintro σ5 H8 ⟨e8, rfl⟩
        have e48 : Ex H4 H8 := e47.trans e8
        have L8 := L4.ex e48
        have hb8 := hb7.ex (Ex.t e8)
        have hq8 := e48 _ _ hq4
        have hws8 := hws4.ex (Ex.t e48)
        clear hb7 L7 L4 hbv e47 e48 hRE hq4 hws4 e8
        -- turned
        refine ⟨fun σ' H' => ∃ D ts, Ex H8 H' ∧ H' D = some (.lst ts) ∧ DeedsV H' ts (E.reverse.map (oppD wd ht)) ∧ σ' = [some (.ref a), some (.ref r), some sv, some (.ref bt), some (.ref p), o5, some fv, some (.ref q), none, some bv, some (.ref D), none], ?_, ?_⟩
        · have hwl := hws8.1
          refine ⟨_, rfl, _, ws.length, rfl, .inr ⟨_, SqT.of hq8, rfl⟩, _, rfl, by omega, by omega, fun D hD => ?_⟩
          rw [Int.toNat_natCast]
          refine lc_it (walk_range (lo := 0)) (fun i H' => Ex H8 H' ∧ ∃ ts, H' D = some (.lst ts) ∧ DeedsV H' ts ((E.reverse.take i).map (oppD wd ht))) ⟨Ex.new hD, [], upd_same, rfl, fun i x y h _ => by simp at h⟩ (fun _ _ _ _ => trivial) ?_ ?_
          · rintro i x H9 H10 hi ⟨e9, ts, h9, hts⟩ ⟨rfl, rfl⟩
            have hj : E.length - 1 - i < E.length := by omega
            have hju : E.length - 1 - i < ws.length := by omega
            have hdj : DeedV H8 ws[E.length - 1 - i] E[E.length - 1 - i] := hws8.2 _ _ _ (List.getElem?_eq_getElem hju) (List.getElem?_eq_getElem hj)
            have hdraw := hE2 _ (List.getElem_mem hj)
            have hvj := hE1 _ (List.getElem_mem hj)
            have hrev : E.reverse[i]? = some E[E.length - 1 - i] := by rw [List.getElem?_reverse (by omega)]; exact List.getElem?_eq_getElem hj
            obtain ⟨rr, ss, hdd⟩ := oppD_draw (a := wd) (b := ht) hdraw
            rw [hdd] at hdj hvj hrev
            refine ⟨rfl, _, rfl, _, rfl, _, rfl, _, ws.length, rfl, .inr ⟨_, SqT.of (e9 _ _ hq8), rfl⟩, _, _, rfl, rfl, _, rfl, _, _, rfl, rfl, q, ws, _, ws[E.length - 1 - i], rfl, rfl, SqT.of (e9 _ _ hq8), ?_, bt, ws[E.length - 1 - i], wd, ht, z, rr, ss, rfl, (L8.ex e9).bath, hs, hdj.ex (Ex.t e9), hvj, fun v' H11 e11 hv' => ?_⟩
            · have e0 : ((ws.length : Nat) : Int) - 1 - (0 + (i : Int)) = ((E.length - 1 - i : Nat) : Int) := by omega
              show atI ws (((ws.length : Nat) : Int) - 1 - (0 + (i : Int))) = _
              rw [e0]
              exact atI_nat (List.getElem?_eq_getElem hju)
            · have h11 := e11 _ _ h9
              have htl : ts.length ≤ 12 := by have := hts.1; simp at this; omega
              refine ⟨ts, h11, szl (by omega), Ex.mut (e9.trans e11) hD, ts ++ [v'], upd_same, ?_⟩
              have et : ExT H11 (upd H11 D (.lst (ts ++ [v']))) := ExT.upd (not_tup_lst h11)
              rw [take_succ_map hrev]
              exact ((hts.ex (Ex.t e11)).ex et).snoc (DeedV.ex (d := oppD wd ht (.draw rr ss)) et hv')
          · rintro H9 ⟨e9, ts, h9, hts⟩
            have er : E.reverse.take ws.length = E.reverse := List.take_of_length_le (by simp; omega)
            rw [er] at hts
            exact ⟨D, ts, e9, h9, hts, rfl⟩
        rintro σ6 H9 ⟨D, ts, e9, h9, hts, rfl⟩
        have L9 := L8.ex e9
        have hb9 := hb8.ex (Ex.t e9)
        have hq9 := e9 _ _ hq8
        have hws9 := hws8.ex (Ex.t e9)
        clear L8 hb8 hq8 hws8 e9
        -- each draw by itself
        refine ⟨_, rfl, q, rfl, ⟨_, SqT.of hq9⟩, ?_⟩
        refine for_it walk_tup (fun i σ H' => Ex H9 H' ∧ ∃ o8 o11, σ = [some (.ref a), some (.ref r), some sv, some (.ref bt), some (.ref p), o5, some fv, some (.ref q), o8, some bv, some (.ref D), o11]) ⟨Ex.refl _, none, none, rfl⟩ (fun i σ H' _ k => SqT.of (k.1 _ _ hq9)) ?_ ?_
        · rintro i x σ H10 H11 hi ⟨e10, o8, o11, rfl⟩ ⟨rfl, hx⟩
          have hid : i < E.length := by rw [← hws9.1]; exact hi
          have hd := (hws9.2 i x _ hx (List.getElem?_eq_getElem hid)).ex (Ex.t e10)
          have hdraw := hE2 _ (List.getElem_mem hid)
          have hvd := hE1 _ (List.getElem_mem hid)
          have hl1 := hvd.len
          have er1 := run_back1 (col := colN) hs hdraw hl1 hz
          obtain ⟨rr, ss, hdd⟩ := oppD_draw (a := wd) (b := ht) hdraw
          rw [hdd] at hd hvd er1
          have L11 := L9.ex e10
          have hss : ss.length ≤ 1000 := by have h5 := cnt_le hs rr; have : ss.length = cnt wd ht rr := hvd.1; omega
          have hop := opp_va hs hvd
          refine ⟨_, rfl, _, rfl, _, rfl, bt, x, wd, ht, z, rr, ss, rfl, L11.bath, hs, hd, hvd, fun v1 H12 e12 hv1 => ?_⟩
          have L12 := L11.ex e12
          refine ⟨bt, v1, wd, ht, z, rr, _, rfl, L12.bath, hs, hv1, hop, fun v2 H13 e13 hv2 => ?_⟩
          have L13 := L12.ex e13
          have hd13 := (hd.ex (Ex.t e12)).ex (Ex.t e13)
          refine ⟨_, rfl, _, rfl, _, rfl, sv, x, wd, ht, z, rr, ss, rfl, L13.sch, s1, s3, hd13, hss, fun v3 H14 e14 hv3 => ?_⟩
          have L14 := L13.ex e14
          have hd14 := hd13.ex (Ex.t e14)
          have eoo : (Deed.draw rr (plainS (modu wd ht rr) (negS (plainS (modu wd ht rr) (negS ss))))) = .draw rr (plainS (modu wd ht rr) ss) := opp_opp (w := wd) (h := ht) (.draw rr ss)
          rw [eoo] at hv2
          have wfd : Wf 2 (dD (.draw rr (plainS (modu wd ht rr) ss))) := wf_deed trivial
          refine ⟨_, _, dp_deed (hv2.ex (Ex.t e14)), dp_deed hv3, wfd.shaped (by decide), wfd.shaped (by decide), _, rfl, itN (by rw [wfd.refl]; decide) ?_⟩
          clear hv1 hv2 hv3 L13 L12 L11 hd13 hd
          refine ⟨_, rfl, _, rfl, (by show 1 ≤ sizeLine; decide), fun t1 ht1 => ?_⟩
          have e15 : Ex H14 (upd H14 t1 (.tup [x])) := Ex.new ht1
          have L15 := L14.ex e15
          have hd15 := hd14.ex (Ex.t e15)
          have one : ∀ {H' : Hp} {t : Addr} {u : V} {d : Deed}, H' t = some (.tup [u]) → DeedV H' u d → RecV H' (.ref t) [d] := fun h hd => ⟨_, _, rfl, h, rfl, fun i x y h1 h2 => by
            cases i with
            | zero => cases h1; cases h2; exact hd
            | succ i => cases h1⟩
          refine ⟨bt, .ref t1, wd, ht, z, [.draw rr ss], rfl, L15.bath, hs, hz, hsg, one upd_same hd15, fun d h => by rw [List.mem_singleton.mp h]; exact hvd, by simp, fun r1 b1 l1 H16 e16 hr1 hb1 hsg1 _ => ?_⟩
          have L16 := L15.ex e16
          have hd16 := hd15.ex (Ex.t e16)
          refine ⟨r1, _, _, .ref b1, rfl, rfl, SqT.of hr1, rfl, _, rfl, _, rfl, bt, x, wd, ht, z, rr, ss, rfl, L16.bath, hs, hd16, hvd, fun v4 H17 e17 hv4 => ?_⟩
          refine ⟨(by show 1 ≤ sizeLine; decide), fun t2 ht2 => ?_⟩
          have e18 : Ex H17 (upd H17 t2 (.tup [v4])) := Ex.new ht2
          have L18 := (L16.ex e17).ex e18
          refine ⟨b1, .ref t2, wd, ht, _, [oppD wd ht (.draw rr ss)], rfl, (hb1.ex e17).ex e18, hs, runD_len _ hz, hsg1, one upd_same (DeedV.ex (d := oppD wd ht (.draw rr ss)) (Ex.t e18) hv4), fun d h => by rw [List.mem_singleton.mp h]; exact hop, by simp, fun r2 b2 l2 H19 e19 hr2 hb2 hsg2 _ => ?_⟩
          rw [er1] at hb2
          have L19 := L18.ex e19
          obtain ⟨dx1, vs1, hslt1⟩ := hb2.slt
          obtain ⟨dx2, vs2, hslt2⟩ := L19.bath.slt
          refine ⟨r2, _, _, .ref b2, rfl, rfl, SqT.of hr2, rfl, _, rfl, ⟨b2, bt, dx1, dx2, vs1, vs2, rfl, rfl, hslt1, hslt2, wd, ht, z, hsg, hb2, L19.bath⟩, fun H20 e20 => ⟨_, rfl, itN (by decide) ?_⟩⟩
          exact ⟨e10.trans (e12.trans (e13.trans (e14.trans (ext3 e15 (e16.trans (e17.trans (ext3 e18 (e19.trans e20)))))))), _, _, rfl⟩
        · rintro σ H10 ⟨e10, o8, o11, rfl⟩
          have L10 := L9.ex e10
          refine ⟨_, rfl, _, rfl, _, rfl, sv, D, wd, ht, z, ts, E.reverse.map (oppD wd ht), rfl, L10.sch, hs, .inr (e10 _ _ h9), hts.ex (Ex.t e10), hlenR, by omega, fun lv H11 e11 hlv => ?_⟩
          rw [n1] at hlv
          refine ⟨dRec U, dRec U, dp_rec ((hb9.ex (Ex.t e10)).ex (Ex.t e11)), dp_rec hlv, wfU.shaped (by decide), wfU.shaped (by decide), ?_⟩
          rw [wfU.refl]
          exact kQ _
end
end K7
/-! What the top has written, the head. -/
namespace K7
open PySem L2 K7R
theorem kp_of {P : Program} {w : World} {K : PySem.W.Frag} {mg : Str → Option Value} {base : Heap} {C p g : Addr} {x : Str} {k : Nat} {ps : List Str} {sp : Sp} {fd : FuncData} {rs : List Value} (F : FnOk P w K mg base CX0 k g fd ps sp) (hb : Binds K fd ps [])
    (a : PySem.W.findIn K (.ref C) x = some (some (.ref p))) (b : PySem.W.specialIn K (.ref p) "__get__" = some (some (.builtin "property.__get__"))) (c : PySem.W.takesIn K (.ref p) = some true) (d : PySem.W.recIn K p "property" = some (.ref g :: rs)) :
    Kp P w K mg base C x k sp :=
  ⟨p, g, a, b, c, ⟨rs, d⟩, (F.raw hb .nil).imp fun vs H Q E h => by rw [List.append_nil]; exact h⟩
theorem all_mk {l : PySem.W.OpenLaw} {w : World} {K : PySem.W.Frag} {h : Heap} {mg : Str → Option Value} {fa CB CT SL f0 f1 f2 f3 f4 f5 f6 f7 f8 f9 f10 f11 f12 f13 f14 f15 f16 f17 f18 f19 f20 f21 f22 f23 f24 f25 f26 f27 f28 f29 f30 f31 f32 f33 f34 f35 f36 f37 f38 f39 f40 f41 f42 f43 : Addr} (X : K.In h) (G : h.Ns mainGlobals mg) (hfa : mg "law" = some (.ref fa))
    {od0 an0 od1 an1 od2 an2 od3 an3 od4 an4 od5 an5 od6 an6 od7 an7 od8 an8 od9 an9 od10 an10 od11 an11 od12 an12 od13 an13 od14 an14 od15 an15 od16 an16 od17 an17 od18 an18 od19 an19 od20 an20 od21 an21 od22 an22 od23 an23 od24 an24 od25 an25 od26 an26 od27 an27 od28 an28 od29 an29 od30 an30 od31 an31 od32 an32 od33 an33 od34 an34 od35 an35 od36 an36 od37 an37 od38 an38 od39 an39 od40 an40 od41 an41 od42 an42 od43 an43 : Option Addr} {sl0 sl1 sl2 sl3 sl4 sl5 sl6 sl7 sl8 sl9 sl10 sl11 sl12 sl13 sl14 sl15 sl16 sl17 sl18 sl19 sl20 sl21 sl22 sl23 sl24 sl25 sl26 sl27 sl28 sl29 sl30 sl31 sl32 sl33 sl34 sl35 sl36 sl37 sl38 sl39 sl40 sl41 sl42 sl43 : Array (Option Value)}
    {oc0 kV0 dc0 pm0 cd0 ct0 oc1 kV1 dc1 pm1 cd1 ct1 oc2 kV2 dc2 pm2 cd2 ct2 oc3 kV3 dc3 pm3 cd3 ct3 oc4 kV4 dc4 pm4 cd4 ct4 oc5 kV5 dc5 pm5 cd5 ct5 oc6 kV6 dc6 pm6 cd6 ct6 oc7 kV7 dc7 pm7 cd7 ct7 oc8 kV8 dc8 pm8 cd8 ct8 oc9 kV9 dc9 pm9 cd9 ct9 oc10 kV10 dc10 pm10 cd10 ct10 oc11 kV11 dc11 pm11 cd11 ct11 oc12 kV12 dc12 pm12 cd12 ct12 oc13 kV13 dc13 pm13 cd13 ct13 oc14 kV14 dc14 pm14 cd14 ct14 oc15 kV15 dc15 pm15 cd15 ct15 oc16 kV16 dc16 pm16 cd16 ct16 oc17 kV17 dc17 pm17 cd17 ct17 oc18 kV18 dc18 pm18 cd18 ct18 oc19 kV19 dc19 pm19 cd19 ct19 oc20 kV20 dc20 pm20 cd20 ct20 oc21 kV21 dc21 pm21 cd21 ct21 oc22 kV22 dc22 pm22 cd22 ct22 oc23 kV23 dc23 pm23 cd23 ct23 oc24 kV24 dc24 pm24 cd24 ct24 oc25 kV25 dc25 pm25 cd25 ct25 oc26 kV26 dc26 pm26 cd26 ct26 oc27 kV27 dc27 pm27 cd27 ct27 oc28 kV28 dc28 pm28 cd28 ct28 oc29 kV29 dc29 pm29 cd29 ct29 oc30 kV30 dc30 pm30 cd30 ct30 oc31 kV31 dc31 pm31 cd31 ct31 oc32 kV32 dc32 pm32 cd32 ct32 oc33 kV33 dc33 pm33 cd33 ct33 oc34 kV34 dc34 pm34 cd34 ct34 oc35 kV35 dc35 pm35 cd35 ct35 oc36 kV36 dc36 pm36 cd36 ct36 oc37 kV37 dc37 pm37 cd37 ct37 oc38 kV38 dc38 pm38 cd38 ct38 oc39 kV39 dc39 pm39 cd39 ct39 oc40 kV40 dc40 pm40 cd40 ct40 oc41 kV41 dc41 pm41 cd41 ct41 oc42 kV42 dc42 pm42 cd42 ct42 oc43 kV43 dc43 pm43 cd43 ct43 : Value}
    {q6 q7 q8 : Addr} {rs6 rs7 rs8 : List Value}
    {t_LETTERS t_NOTHING t_MAX_SIDE t_MAX_CELLS t_MAX_STRIDE t_MAX_DEEDS t_DROP t_RAKE t_COMB t_PAPER t_CELL : Tok} {w_LETTERS w_NOTHING w_DROP w_RAKE w_COMB w_PAPER w_CELL : Str}
    (aBath : PySem.W.nsIn K mainGlobals "Bath" = some (some (.ref CB)))
    (aTray : PySem.W.nsIn K mainGlobals "Tray" = some (some (.ref CT)))
    (a0 : PySem.W.nsIn K mainGlobals "is_number" = some (some (.ref f0)))
    (l0 : K.lookup f0 = some ⟨oc0, od0, .func (PySem.W.fnOf "is_number" "is_number" (defArgs s_is_number) (defBody s_is_number) (defScope s_is_number) .none kV0 dc0 pm0 an0 cd0 ct0), sl0⟩)
    (c0 : PySem.W.codeIn K cd0 "is_number" = true)
    (k0 : PySem.W.keepIn K (.ref f0) = true)
    (a1 : PySem.W.nsIn K mainGlobals "is_letter" = some (some (.ref f1)))
    (l1 : K.lookup f1 = some ⟨oc1, od1, .func (PySem.W.fnOf "is_letter" "is_letter" (defArgs s_is_letter) (defBody s_is_letter) (defScope s_is_letter) .none kV1 dc1 pm1 an1 cd1 ct1), sl1⟩)
    (c1 : PySem.W.codeIn K cd1 "is_letter" = true)
    (k1 : PySem.W.keepIn K (.ref f1) = true)
    (a2 : PySem.W.nsIn K mainGlobals "are_signs" = some (some (.ref f2)))
    (l2 : K.lookup f2 = some ⟨oc2, od2, .func (PySem.W.fnOf "are_signs" "are_signs" (defArgs s_are_signs) (defBody s_are_signs) (defScope s_are_signs) .none kV2 dc2 pm2 an2 cd2 ct2), sl2⟩)
    (c2 : PySem.W.codeIn K cd2 "are_signs" = true)
    (k2 : PySem.W.keepIn K (.ref f2) = true)
    (a3 : PySem.W.nsIn K mainGlobals "is_size" = some (some (.ref f3)))
    (l3 : K.lookup f3 = some ⟨oc3, od3, .func (PySem.W.fnOf "is_size" "is_size" (defArgs s_is_size) (defBody s_is_size) (defScope s_is_size) .none kV3 dc3 pm3 an3 cd3 ct3), sl3⟩)
    (c3 : PySem.W.codeIn K cd3 "is_size" = true)
    (k3 : PySem.W.keepIn K (.ref f3) = true)
    (a4 : PySem.W.nsIn K mainGlobals "check_size" = some (some (.ref f4)))
    (l4 : K.lookup f4 = some ⟨oc4, od4, .func (PySem.W.fnOf "check_size" "check_size" (defArgs s_check_size) (defBody s_check_size) (defScope s_check_size) .none kV4 dc4 pm4 an4 cd4 ct4), sl4⟩)
    (c4 : PySem.W.codeIn K cd4 "check_size" = true)
    (k4 : PySem.W.keepIn K (.ref f4) = true)
    (a5 : PySem.W.findIn K (.ref CB) "__init__" = some (some (.ref f5)))
    (i5 : PySem.W.isFn K (.ref f5) = true)
    (l5 : K.lookup f5 = some ⟨oc5, od5, .func (PySem.W.fnOf "__init__" "Bath.__init__" (defArgs s_Bath___init__) (defBody s_Bath___init__) (defScope s_Bath___init__) .none kV5 dc5 pm5 an5 cd5 ct5), sl5⟩)
    (c5 : PySem.W.codeIn K cd5 "Bath.__init__" = true)
    (k5 : PySem.W.keepIn K (.ref f5) = true)
    (a6 : PySem.W.findIn K (.ref CB) "width" = some (some (.ref q6)))
    (g6 : PySem.W.specialIn K (.ref q6) "__get__" = some (some (.builtin "property.__get__")))
    (t6 : PySem.W.takesIn K (.ref q6) = some true)
    (r6 : PySem.W.recIn K q6 "property" = some (.ref f6 :: rs6))
    (l6 : K.lookup f6 = some ⟨oc6, od6, .func (PySem.W.fnOf "width" "Bath.width" (defArgs s_Bath_width) (defBody s_Bath_width) (defScope s_Bath_width) .none kV6 dc6 pm6 an6 cd6 ct6), sl6⟩)
    (c6 : PySem.W.codeIn K cd6 "Bath.width" = true)
    (k6 : PySem.W.keepIn K (.ref f6) = true)
    (a7 : PySem.W.findIn K (.ref CB) "height" = some (some (.ref q7)))
    (g7 : PySem.W.specialIn K (.ref q7) "__get__" = some (some (.builtin "property.__get__")))
    (t7 : PySem.W.takesIn K (.ref q7) = some true)
    (r7 : PySem.W.recIn K q7 "property" = some (.ref f7 :: rs7))
    (l7 : K.lookup f7 = some ⟨oc7, od7, .func (PySem.W.fnOf "height" "Bath.height" (defArgs s_Bath_height) (defBody s_Bath_height) (defScope s_Bath_height) .none kV7 dc7 pm7 an7 cd7 ct7), sl7⟩)
    (c7 : PySem.W.codeIn K cd7 "Bath.height" = true)
    (k7 : PySem.W.keepIn K (.ref f7) = true)
    (a8 : PySem.W.findIn K (.ref CB) "cells" = some (some (.ref q8)))
    (g8 : PySem.W.specialIn K (.ref q8) "__get__" = some (some (.builtin "property.__get__")))
    (t8 : PySem.W.takesIn K (.ref q8) = some true)
    (r8 : PySem.W.recIn K q8 "property" = some (.ref f8 :: rs8))
    (l8 : K.lookup f8 = some ⟨oc8, od8, .func (PySem.W.fnOf "cells" "Bath.cells" (defArgs s_Bath_cells) (defBody s_Bath_cells) (defScope s_Bath_cells) .none kV8 dc8 pm8 an8 cd8 ct8), sl8⟩)
    (c8 : PySem.W.codeIn K cd8 "Bath.cells" = true)
    (k8 : PySem.W.keepIn K (.ref f8) = true)
    (a9 : PySem.W.findIn K (.ref CB) "__eq__" = some (some (.ref f9)))
    (i9 : PySem.W.isFn K (.ref f9) = true)
    (l9 : K.lookup f9 = some ⟨oc9, od9, .func (PySem.W.fnOf "__eq__" "Bath.__eq__" (defArgs s_Bath___eq__) (defBody s_Bath___eq__) (defScope s_Bath___eq__) .none kV9 dc9 pm9 an9 cd9 ct9), sl9⟩)
    (c9 : PySem.W.codeIn K cd9 "Bath.__eq__" = true)
    (k9 : PySem.W.keepIn K (.ref f9) = true)
    (a10 : PySem.W.nsIn K mainGlobals "are_strides" = some (some (.ref f10)))
    (l10 : K.lookup f10 = some ⟨oc10, od10, .func (PySem.W.fnOf "are_strides" "are_strides" (defArgs s_are_strides) (defBody s_are_strides) (defScope s_are_strides) .none kV10 dc10 pm10 an10 cd10 ct10), sl10⟩)
    (c10 : PySem.W.codeIn K cd10 "are_strides" = true)
    (k10 : PySem.W.keepIn K (.ref f10) = true)
    (a11 : PySem.W.nsIn K mainGlobals "are_cells" = some (some (.ref f11)))
    (l11 : K.lookup f11 = some ⟨oc11, od11, .func (PySem.W.fnOf "are_cells" "are_cells" (defArgs s_are_cells) (defBody s_are_cells) (defScope s_are_cells) .none kV11 dc11 pm11 an11 cd11 ct11), sl11⟩)
    (c11 : PySem.W.codeIn K cd11 "are_cells" = true)
    (k11 : PySem.W.keepIn K (.ref f11) = true)
    (a12 : PySem.W.nsIn K mainGlobals "is_draw" = some (some (.ref f12)))
    (l12 : K.lookup f12 = some ⟨oc12, od12, .func (PySem.W.fnOf "is_draw" "is_draw" (defArgs s_is_draw) (defBody s_is_draw) (defScope s_is_draw) .none kV12 dc12 pm12 an12 cd12 ct12), sl12⟩)
    (c12 : PySem.W.codeIn K cd12 "is_draw" = true)
    (k12 : PySem.W.keepIn K (.ref f12) = true)
    (a13 : PySem.W.nsIn K mainGlobals "is_deed" = some (some (.ref f13)))
    (l13 : K.lookup f13 = some ⟨oc13, od13, .func (PySem.W.fnOf "is_deed" "is_deed" (defArgs s_is_deed) (defBody s_is_deed) (defScope s_is_deed) .none kV13 dc13 pm13 an13 cd13 ct13), sl13⟩)
    (c13 : PySem.W.codeIn K cd13 "is_deed" = true)
    (k13 : PySem.W.keepIn K (.ref f13) = true)
    (a14 : PySem.W.nsIn K mainGlobals "check_recipe" = some (some (.ref f14)))
    (l14 : K.lookup f14 = some ⟨oc14, od14, .func (PySem.W.fnOf "check_recipe" "check_recipe" (defArgs s_check_recipe) (defBody s_check_recipe) (defScope s_check_recipe) .none kV14 dc14 pm14 an14 cd14 ct14), sl14⟩)
    (c14 : PySem.W.codeIn K cd14 "check_recipe" = true)
    (k14 : PySem.W.keepIn K (.ref f14) = true)
    (a15 : PySem.W.nsIn K mainGlobals "drawn" = some (some (.ref f15)))
    (l15 : K.lookup f15 = some ⟨oc15, od15, .func (PySem.W.fnOf "drawn" "drawn" (defArgs s_drawn) (defBody s_drawn) (defScope s_drawn) .none kV15 dc15 pm15 an15 cd15 ct15), sl15⟩)
    (c15 : PySem.W.codeIn K cd15 "drawn" = true)
    (k15 : PySem.W.keepIn K (.ref f15) = true)
    (a16 : PySem.W.nsIn K mainGlobals "pushed" = some (some (.ref f16)))
    (l16 : K.lookup f16 = some ⟨oc16, od16, .func (PySem.W.fnOf "pushed" "pushed" (defArgs s_pushed) (defBody s_pushed) (defScope s_pushed) .none kV16 dc16 pm16 an16 cd16 ct16), sl16⟩)
    (c16 : PySem.W.codeIn K cd16 "pushed" = true)
    (k16 : PySem.W.keepIn K (.ref f16) = true)
    (a17 : PySem.W.findIn K (.ref CT) "__init__" = some (some (.ref f17)))
    (i17 : PySem.W.isFn K (.ref f17) = true)
    (l17 : K.lookup f17 = some ⟨oc17, od17, .func (PySem.W.fnOf "__init__" "Tray.__init__" (defArgs s_Tray___init__) (defBody s_Tray___init__) (defScope s_Tray___init__) .none kV17 dc17 pm17 an17 cd17 ct17), sl17⟩)
    (c17 : PySem.W.codeIn K cd17 "Tray.__init__" = true)
    (k17 : PySem.W.keepIn K (.ref f17) = true)
    (a18 : PySem.W.findIn K (.ref CT) "do" = some (some (.ref f18)))
    (i18 : PySem.W.isFn K (.ref f18) = true)
    (l18 : K.lookup f18 = some ⟨oc18, od18, .func (PySem.W.fnOf "do" "Tray.do" (defArgs s_Tray_do) (defBody s_Tray_do) (defScope s_Tray_do) .none kV18 dc18 pm18 an18 cd18 ct18), sl18⟩)
    (c18 : PySem.W.codeIn K cd18 "Tray.do" = true)
    (k18 : PySem.W.keepIn K (.ref f18) = true)
    (a19 : PySem.W.nsIn K mainGlobals "done" = some (some (.ref f19)))
    (l19 : K.lookup f19 = some ⟨oc19, od19, .func (PySem.W.fnOf "done" "done" (defArgs s_done) (defBody s_done) (defScope s_done) .none kV19 dc19 pm19 an19 cd19 ct19), sl19⟩)
    (c19 : PySem.W.codeIn K cd19 "done" = true)
    (k19 : PySem.W.keepIn K (.ref f19) = true)
    (a20 : PySem.W.nsIn K mainGlobals "plain" = some (some (.ref f20)))
    (l20 : K.lookup f20 = some ⟨oc20, od20, .func (PySem.W.fnOf "plain" "plain" (defArgs s_plain) (defBody s_plain) (defScope s_plain) .none kV20 dc20 pm20 an20 cd20 ct20), sl20⟩)
    (c20 : PySem.W.codeIn K cd20 "plain" = true)
    (k20 : PySem.W.keepIn K (.ref f20) = true)
    (a21 : PySem.W.nsIn K mainGlobals "turned_back" = some (some (.ref f21)))
    (l21 : K.lookup f21 = some ⟨oc21, od21, .func (PySem.W.fnOf "turned_back" "turned_back" (defArgs s_turned_back) (defBody s_turned_back) (defScope s_turned_back) .none kV21 dc21 pm21 an21 cd21 ct21), sl21⟩)
    (c21 : PySem.W.codeIn K cd21 "turned_back" = true)
    (k21 : PySem.W.keepIn K (.ref f21) = true)
    (a22 : PySem.W.nsIn K mainGlobals "opposite" = some (some (.ref f22)))
    (l22 : K.lookup f22 = some ⟨oc22, od22, .func (PySem.W.fnOf "opposite" "opposite" (defArgs s_opposite) (defBody s_opposite) (defScope s_opposite) .none kV22 dc22 pm22 an22 cd22 ct22), sl22⟩)
    (c22 : PySem.W.codeIn K cd22 "opposite" = true)
    (k22 : PySem.W.keepIn K (.ref f22) = true)
    (a23 : PySem.W.nsIn K mainGlobals "short" = some (some (.ref f23)))
    (l23 : K.lookup f23 = some ⟨oc23, od23, .func (PySem.W.fnOf "short" "short" (defArgs s_short) (defBody s_short) (defScope s_short) .none kV23 dc23 pm23 an23 cd23 ct23), sl23⟩)
    (c23 : PySem.W.codeIn K cd23 "short" = true)
    (k23 : PySem.W.keepIn K (.ref f23) = true)
    (a24 : PySem.W.nsIn K mainGlobals "shortened" = some (some (.ref f24)))
    (l24 : K.lookup f24 = some ⟨oc24, od24, .func (PySem.W.fnOf "shortened" "shortened" (defArgs s_shortened) (defBody s_shortened) (defScope s_shortened) .none kV24 dc24 pm24 an24 cd24 ct24), sl24⟩)
    (c24 : PySem.W.codeIn K cd24 "shortened" = true)
    (k24 : PySem.W.keepIn K (.ref f24) = true)
    (a25 : PySem.W.nsIn K mainGlobals "undoing" = some (some (.ref f25)))
    (l25 : K.lookup f25 = some ⟨oc25, od25, .func (PySem.W.fnOf "undoing" "undoing" (defArgs s_undoing) (defBody s_undoing) (defScope s_undoing) .none kV25 dc25 pm25 an25 cd25 ct25), sl25⟩)
    (c25 : PySem.W.codeIn K cd25 "undoing" = true)
    (k25 : PySem.W.keepIn K (.ref f25) = true)
    (a26 : PySem.W.nsIn K mainGlobals "origins_of" = some (some (.ref f26)))
    (l26 : K.lookup f26 = some ⟨oc26, od26, .func (PySem.W.fnOf "origins_of" "origins_of" (defArgs s_origins_of) (defBody s_origins_of) (defScope s_origins_of) .none kV26 dc26 pm26 an26 cd26 ct26), sl26⟩)
    (c26 : PySem.W.codeIn K cd26 "origins_of" = true)
    (k26 : PySem.W.keepIn K (.ref f26) = true)
    (a27 : PySem.W.nsIn K mainGlobals "shown" = some (some (.ref f27)))
    (l27 : K.lookup f27 = some ⟨oc27, od27, .func (PySem.W.fnOf "shown" "shown" (defArgs s_shown) (defBody s_shown) (defScope s_shown) .none kV27 dc27 pm27 an27 cd27 ct27), sl27⟩)
    (c27 : PySem.W.codeIn K cd27 "shown" = true)
    (k27 : PySem.W.keepIn K (.ref f27) = true)
    (a28 : PySem.W.nsIn K mainGlobals "outcome" = some (some (.ref f28)))
    (l28 : K.lookup f28 = some ⟨oc28, od28, .func (PySem.W.fnOf "outcome" "outcome" (defArgs s_outcome) (defBody s_outcome) (defScope s_outcome) .none kV28 dc28 pm28 an28 cd28 ct28), sl28⟩)
    (c28 : PySem.W.codeIn K cd28 "outcome" = true)
    (k28 : PySem.W.keepIn K (.ref f28) = true)
    (a29 : PySem.W.nsIn K mainGlobals "check_two" = some (some (.ref f29)))
    (l29 : K.lookup f29 = some ⟨oc29, od29, .func (PySem.W.fnOf "check_two" "check_two" (defArgs s_check_two) (defBody s_check_two) (defScope s_check_two) .none kV29 dc29 pm29 an29 cd29 ct29), sl29⟩)
    (c29 : PySem.W.codeIn K cd29 "check_two" = true)
    (k29 : PySem.W.keepIn K (.ref f29) = true)
    (a30 : PySem.W.nsIn K mainGlobals "are_alike" = some (some (.ref f30)))
    (l30 : K.lookup f30 = some ⟨oc30, od30, .func (PySem.W.fnOf "are_alike" "are_alike" (defArgs s_are_alike) (defBody s_are_alike) (defScope s_are_alike) .none kV30 dc30 pm30 an30 cd30 ct30), sl30⟩)
    (c30 : PySem.W.codeIn K cd30 "are_alike" = true)
    (k30 : PySem.W.keepIn K (.ref f30) = true)
    (a31 : PySem.W.nsIn K mainGlobals "alike" = some (some (.ref f31)))
    (l31 : K.lookup f31 = some ⟨oc31, od31, .func (PySem.W.fnOf "alike" "alike" (defArgs s_alike) (defBody s_alike) (defScope s_alike) .none kV31 dc31 pm31 an31 cd31 ct31), sl31⟩)
    (c31 : PySem.W.codeIn K cd31 "alike" = true)
    (k31 : PySem.W.keepIn K (.ref f31) = true)
    (a32 : PySem.W.nsIn K mainGlobals "_law_taken" = some (some (.ref f32)))
    (l32 : K.lookup f32 = some ⟨oc32, od32, .func (PySem.W.fnOf "_law_taken" "_law_taken" (defArgs s__law_taken) (defBody s__law_taken) (defScope s__law_taken) .none kV32 dc32 pm32 an32 cd32 ct32), sl32⟩)
    (c32 : PySem.W.codeIn K cd32 "_law_taken" = true)
    (k32 : PySem.W.keepIn K (.ref f32) = true)
    (a33 : PySem.W.nsIn K mainGlobals "_law_pick" = some (some (.ref f33)))
    (l33 : K.lookup f33 = some ⟨oc33, od33, .func (PySem.W.fnOf "_law_pick" "_law_pick" (defArgs s__law_pick) (defBody s__law_pick) (defScope s__law_pick) .none kV33 dc33 pm33 an33 cd33 ct33), sl33⟩)
    (c33 : PySem.W.codeIn K cd33 "_law_pick" = true)
    (k33 : PySem.W.keepIn K (.ref f33) = true)
    (a34 : PySem.W.nsIn K mainGlobals "_law_sides" = some (some (.ref f34)))
    (l34 : K.lookup f34 = some ⟨oc34, od34, .func (PySem.W.fnOf "_law_sides" "_law_sides" (defArgs s__law_sides) (defBody s__law_sides) (defScope s__law_sides) .none kV34 dc34 pm34 an34 cd34 ct34), sl34⟩)
    (c34 : PySem.W.codeIn K cd34 "_law_sides" = true)
    (k34 : PySem.W.keepIn K (.ref f34) = true)
    (a35 : PySem.W.nsIn K mainGlobals "_law_scheme" = some (some (.ref f35)))
    (l35 : K.lookup f35 = some ⟨oc35, od35, .func (PySem.W.fnOf "_law_scheme" "_law_scheme" (defArgs s__law_scheme) (defBody s__law_scheme) (defScope s__law_scheme) .none kV35 dc35 pm35 an35 cd35 ct35), sl35⟩)
    (c35 : PySem.W.codeIn K cd35 "_law_scheme" = true)
    (k35 : PySem.W.keepIn K (.ref f35) = true)
    (a36 : PySem.W.nsIn K mainGlobals "_law_bath" = some (some (.ref f36)))
    (l36 : K.lookup f36 = some ⟨oc36, od36, .func (PySem.W.fnOf "_law_bath" "_law_bath" (defArgs s__law_bath) (defBody s__law_bath) (defScope s__law_bath) .none kV36 dc36 pm36 an36 cd36 ct36), sl36⟩)
    (c36 : PySem.W.codeIn K cd36 "_law_bath" = true)
    (k36 : PySem.W.keepIn K (.ref f36) = true)
    (a37 : PySem.W.nsIn K mainGlobals "_law_draw" = some (some (.ref f37)))
    (l37 : K.lookup f37 = some ⟨oc37, od37, .func (PySem.W.fnOf "_law_draw" "_law_draw" (defArgs s__law_draw) (defBody s__law_draw) (defScope s__law_draw) .none kV37 dc37 pm37 an37 cd37 ct37), sl37⟩)
    (c37 : PySem.W.codeIn K cd37 "_law_draw" = true)
    (k37 : PySem.W.keepIn K (.ref f37) = true)
    (a38 : PySem.W.nsIn K mainGlobals "_law_dropped" = some (some (.ref f38)))
    (l38 : K.lookup f38 = some ⟨oc38, od38, .func (PySem.W.fnOf "_law_dropped" "_law_dropped" (defArgs s__law_dropped) (defBody s__law_dropped) (defScope s__law_dropped) .none kV38 dc38 pm38 an38 cd38 ct38), sl38⟩)
    (c38 : PySem.W.codeIn K cd38 "_law_dropped" = true)
    (k38 : PySem.W.keepIn K (.ref f38) = true)
    (a39 : PySem.W.nsIn K mainGlobals "_law_laid" = some (some (.ref f39)))
    (l39 : K.lookup f39 = some ⟨oc39, od39, .func (PySem.W.fnOf "_law_laid" "_law_laid" (defArgs s__law_laid) (defBody s__law_laid) (defScope s__law_laid) .none kV39 dc39 pm39 an39 cd39 ct39), sl39⟩)
    (c39 : PySem.W.codeIn K cd39 "_law_laid" = true)
    (k39 : PySem.W.keepIn K (.ref f39) = true)
    (a40 : PySem.W.nsIn K mainGlobals "_law_deed" = some (some (.ref f40)))
    (l40 : K.lookup f40 = some ⟨oc40, od40, .func (PySem.W.fnOf "_law_deed" "_law_deed" (defArgs s__law_deed) (defBody s__law_deed) (defScope s__law_deed) .none kV40 dc40 pm40 an40 cd40 ct40), sl40⟩)
    (c40 : PySem.W.codeIn K cd40 "_law_deed" = true)
    (k40 : PySem.W.keepIn K (.ref f40) = true)
    (a41 : PySem.W.nsIn K mainGlobals "_law_plain" = some (some (.ref f41)))
    (l41 : K.lookup f41 = some ⟨oc41, od41, .func (PySem.W.fnOf "_law_plain" "_law_plain" (defArgs s__law_plain) (defBody s__law_plain) (defScope s__law_plain) .none kV41 dc41 pm41 an41 cd41 ct41), sl41⟩)
    (c41 : PySem.W.codeIn K cd41 "_law_plain" = true)
    (k41 : PySem.W.keepIn K (.ref f41) = true)
    (a42 : PySem.W.nsIn K mainGlobals "_law_short" = some (some (.ref f42)))
    (l42 : K.lookup f42 = some ⟨oc42, od42, .func (PySem.W.fnOf "_law_short" "_law_short" (defArgs s__law_short) (defBody s__law_short) (defScope s__law_short) .none kV42 dc42 pm42 an42 cd42 ct42), sl42⟩)
    (c42 : PySem.W.codeIn K cd42 "_law_short" = true)
    (k42 : PySem.W.keepIn K (.ref f42) = true)
    (a43 : PySem.W.nsIn K mainGlobals "law" = some (some (.ref f43)))
    (l43 : K.lookup f43 = some ⟨oc43, od43, .func (PySem.W.fnOf "law" "law" (defArgs s_law) (defBody s_law) (defScope s_law) .none kV43 dc43 pm43 an43 cd43 ct43), sl43⟩)
    (c43 : PySem.W.codeIn K cd43 "law" = true)
    (k43 : PySem.W.keepIn K (.ref f43) = true)
    (z_isinstance : PySem.W.nsIn K mainGlobals "isinstance" = some none)
    (z_int : PySem.W.nsIn K mainGlobals "int" = some none)
    (z_bool : PySem.W.nsIn K mainGlobals "bool" = some none)
    (z_str : PySem.W.nsIn K mainGlobals "str" = some none)
    (z_tuple : PySem.W.nsIn K mainGlobals "tuple" = some none)
    (z_list : PySem.W.nsIn K mainGlobals "list" = some none)
    (z_len : PySem.W.nsIn K mainGlobals "len" = some none)
    (z_all : PySem.W.nsIn K mainGlobals "all" = some none)
    (z_zip : PySem.W.nsIn K mainGlobals "zip" = some none)
    (z_enumerate : PySem.W.nsIn K mainGlobals "enumerate" = some none)
    (z_range : PySem.W.nsIn K mainGlobals "range" = some none)
    (z_max : PySem.W.nsIn K mainGlobals "max" = some none)
    (v_LETTERS : PySem.W.nsIn K mainGlobals "LETTERS" = some (some (.str w_LETTERS t_LETTERS)))
    (e_LETTERS : w_LETTERS = "abcdefghijklmnopqrstuvwxyz")
    (v_NOTHING : PySem.W.nsIn K mainGlobals "NOTHING" = some (some (.str w_NOTHING t_NOTHING)))
    (e_NOTHING : w_NOTHING = ".")
    (v_MAX_SIDE : PySem.W.nsIn K mainGlobals "MAX_SIDE" = some (some (.int 5 t_MAX_SIDE)))
    (v_MAX_CELLS : PySem.W.nsIn K mainGlobals "MAX_CELLS" = some (some (.int 12 t_MAX_CELLS)))
    (v_MAX_STRIDE : PySem.W.nsIn K mainGlobals "MAX_STRIDE" = some (some (.int 9 t_MAX_STRIDE)))
    (v_MAX_DEEDS : PySem.W.nsIn K mainGlobals "MAX_DEEDS" = some (some (.int 12 t_MAX_DEEDS)))
    (v_DROP : PySem.W.nsIn K mainGlobals "DROP" = some (some (.str w_DROP t_DROP)))
    (e_DROP : w_DROP = "drop")
    (v_RAKE : PySem.W.nsIn K mainGlobals "RAKE" = some (some (.str w_RAKE t_RAKE)))
    (e_RAKE : w_RAKE = "rake")
    (v_COMB : PySem.W.nsIn K mainGlobals "COMB" = some (some (.str w_COMB t_COMB)))
    (e_COMB : w_COMB = "comb")
    (v_PAPER : PySem.W.nsIn K mainGlobals "PAPER" = some (some (.str w_PAPER t_PAPER)))
    (e_PAPER : w_PAPER = "paper")
    (v_CELL : PySem.W.nsIn K mainGlobals "CELL" = some (some (.str w_CELL t_CELL)))
    (e_CELL : w_CELL = "cell")
    (pgB : PySem.W.plainGet K CB Str.empty = true)
    (icB : PySem.W.isClsIn K CB = true)
    (poB : PySem.W.plainOver K CB = true)
    (saB : PySem.W.findIn K (.ref CB) "__setattr__" = some (some (.builtin "object.__setattr__")))
    (slA : PySem.W.findIn K (.ref CB) "parts" = some (some (.ref SL)))
    (slG : PySem.W.specialIn K (.ref SL) "__get__" = some (some (.builtin "member_descriptor.__get__")))
    (slT : PySem.W.takesIn K (.ref SL) = some true)
    (slY : PySem.W.typeIn K (.ref SL) = some (.type "member_descriptor"))
    (slI : PySem.W.slotIn K SL CB = some 0)
    (siA : PySem.W.findIn K (.ref CB) "__class__" = some (some (.builtin "object.__class__")))
    (siN : PySem.W.specialIn K (.builtin "object.__class__") "__get__" = some (some (.builtin "getset_descriptor.__get__")))
    (siT : PySem.W.takesIn K (.builtin "object.__class__") = some true)
    (siM : PySem.W.mroIn K CB (.type "object") = some true)
    (neB : PySem.W.findIn K (.ref CB) "__ne__" = some (some (.builtin "object.__ne__")))
    (mkB : PySem.W.makesIn K CB = true)
    (kcB : PySem.W.keepIn K (.ref CB) = true)
    (pgT : PySem.W.plainGet K CT Str.empty = true)
    (hdT : PySem.W.hasDictIn K CT = true)
    (poT : PySem.W.plainOver K CT = true)
    (saT : PySem.W.findIn K (.ref CT) "__setattr__" = some (some (.builtin "object.__setattr__")))
    (nSize : PySem.W.findIn K (.ref CT) "size" = some none)
    (nThings : PySem.W.findIn K (.ref CT) "things" = some none)
    (nPapers : PySem.W.findIn K (.ref CT) "papers" = some none)
    (mkT : PySem.W.makesIn K CT = true)
    (kcT : PySem.W.keepIn K (.ref CT) = true)
    : ∃ fd : FuncData, (∀ (s : Shared) (v : Value), BindsTo s fd ⟨[v], []⟩ [("_law_script", v)]) ∧ ∀ base : Heap, K.In base → base.Ns mainGlobals mg → FnOk l.prog w K mg base CX0 8 fa fd ["_law_script"] (sp_law K) := by
  have e := hfa.symm.trans (PySem.W.mg_of X G a43)
  cases e
  let T : Txt K mg := { cBath := CB, cTray := CT, slot := SL, b_isinstance := PySem.W.mg_none_of X G z_isinstance, b_int := PySem.W.mg_none_of X G z_int, b_bool := PySem.W.mg_none_of X G z_bool, b_str := PySem.W.mg_none_of X G z_str, b_tuple := PySem.W.mg_none_of X G z_tuple, b_list := PySem.W.mg_none_of X G z_list, b_len := PySem.W.mg_none_of X G z_len, b_all := PySem.W.mg_none_of X G z_all, b_zip := PySem.W.mg_none_of X G z_zip, b_enumerate := PySem.W.mg_none_of X G z_enumerate, b_range := PySem.W.mg_none_of X G z_range, b_max := PySem.W.mg_none_of X G z_max, g_LETTERS := ⟨_, PySem.W.mg_of X G v_LETTERS, _, by rw [e_LETTERS]⟩, g_NOTHING := ⟨_, PySem.W.mg_of X G v_NOTHING, _, by rw [e_NOTHING]⟩, g_MAX_SIDE := ⟨_, PySem.W.mg_of X G v_MAX_SIDE, _, rfl⟩, g_MAX_CELLS := ⟨_, PySem.W.mg_of X G v_MAX_CELLS, _, rfl⟩, g_MAX_STRIDE := ⟨_, PySem.W.mg_of X G v_MAX_STRIDE, _, rfl⟩, g_MAX_DEEDS := ⟨_, PySem.W.mg_of X G v_MAX_DEEDS, _, rfl⟩, g_DROP := ⟨_, PySem.W.mg_of X G v_DROP, _, by rw [e_DROP]⟩, g_RAKE := ⟨_, PySem.W.mg_of X G v_RAKE, _, by rw [e_RAKE]⟩, g_COMB := ⟨_, PySem.W.mg_of X G v_COMB, _, by rw [e_COMB]⟩, g_PAPER := ⟨_, PySem.W.mg_of X G v_PAPER, _, by rw [e_PAPER]⟩, g_CELL := ⟨_, PySem.W.mg_of X G v_CELL, _, by rw [e_CELL]⟩, g_Bath := PySem.W.mg_of X G aBath, sc := ⟨pgB, icB, poB, saB⟩, sl1 := ⟨slA, slG, slT, slY, slI, by decide⟩, si := ⟨siA, siN, siT, siM⟩, kit := if_pos (beq_self_eq_true _), ne := neB, clTray := ⟨pgT, hdT, poT, saT⟩, nSize := nSize, nThings := nThings, nPapers := nPapers }
  refine ⟨PySem.W.fnOf "law" "law" (defArgs s_law) (defBody s_law) (defScope s_law) .none kV43 dc43 pm43 an43 cd43 ct43, fun s v => .of_eq rfl, fun base _ _ => ?_⟩
  have F0 := fun_mk (st := s_is_number) l0 c0 k0
  have B0 := F0.binds (ps := ["value", "smallest", "largest"]) fun _ _ _ _ _ _ us hl => match us, hl with | [_, _, _], _ => rfl
  have k_is_number : Kn l.prog w K mg base "is_number" 1 ["value", "smallest", "largest"] sp_is_number := ⟨_, _, ok_is_number F0 T , PySem.W.mg_of X G a0, k0, B0⟩
  have F1 := fun_mk (st := s_is_letter) l1 c1 k1
  have B1 := F1.binds (ps := ["value"]) fun _ _ _ _ _ _ us hl => match us, hl with | [_], _ => rfl
  have k_is_letter : Kn l.prog w K mg base "is_letter" 1 ["value"] sp_is_letter := ⟨_, _, ok_is_letter F1 T , PySem.W.mg_of X G a1, k1, B1⟩
  have F2 := fun_mk (st := s_are_signs) l2 c2 k2
  have B2 := F2.binds (ps := ["size", "value"]) fun _ _ _ _ _ _ us hl => match us, hl with | [_, _], _ => rfl
  have k_are_signs : Kn l.prog w K mg base "are_signs" 1 ["size", "value"] sp_are_signs := ⟨_, _, ok_are_signs F2 T , PySem.W.mg_of X G a2, k2, B2⟩
  have F3 := fun_mk (st := s_is_size) l3 c3 k3
  have B3 := F3.binds (ps := ["width", "height"]) fun _ _ _ _ _ _ us hl => match us, hl with | [_, _], _ => rfl
  have k_is_size : Kn l.prog w K mg base "is_size" 2 ["width", "height"] sp_is_size := ⟨_, _, ok_is_size F3 T k_is_number, PySem.W.mg_of X G a3, k3, B3⟩
  have F4 := fun_mk (st := s_check_size) l4 c4 k4
  have B4 := F4.binds (ps := ["width", "height"]) fun _ _ _ _ _ _ us hl => match us, hl with | [_, _], _ => rfl
  have k_check_size : Kn l.prog w K mg base "check_size" 3 ["width", "height"] sp_check_size := ⟨_, _, ok_check_size F4 T k_is_size, PySem.W.mg_of X G a4, k4, B4⟩
  have F5 := fun_mk (st := s_Bath___init__) l5 c5 k5
  have B5 := F5.binds (ps := ["self", "width", "height", "cells"]) fun _ _ _ _ _ _ us hl => match us, hl with | [_, _, _, _], _ => rfl
  have k_Bath : Kc l.prog w K mg base T.cBath "Bath" 3 ["self", "width", "height", "cells"] (sp_bath_init T) := ⟨_, _, ok_bath_init F5 T k_is_number k_is_size k_are_signs, ⟨mkB, a5, i5, kcB⟩, PySem.W.mg_of X G aBath, B5⟩
  have F6 := fun_mk (st := s_Bath_width) l6 c6 k6
  have B6 := F6.binds (ps := ["self"]) fun _ _ _ _ _ _ us hl => match us, hl with | [_], _ => rfl
  have k_width : Kp l.prog w K mg base T.cBath "width" 1 (sp_width T) := kp_of (ok_width F6 T ) B6 a6 g6 t6 r6
  have F7 := fun_mk (st := s_Bath_height) l7 c7 k7
  have B7 := F7.binds (ps := ["self"]) fun _ _ _ _ _ _ us hl => match us, hl with | [_], _ => rfl
  have k_height : Kp l.prog w K mg base T.cBath "height" 1 (sp_height T) := kp_of (ok_height F7 T ) B7 a7 g7 t7 r7
  have F8 := fun_mk (st := s_Bath_cells) l8 c8 k8
  have B8 := F8.binds (ps := ["self"]) fun _ _ _ _ _ _ us hl => match us, hl with | [_], _ => rfl
  have k_cells : Kp l.prog w K mg base T.cBath "cells" 1 (sp_cells T) := kp_of (ok_cells F8 T ) B8 a8 g8 t8 r8
  have F9 := fun_mk (st := s_Bath___eq__) l9 c9 k9
  have B9 := F9.binds (ps := ["self", "other"]) fun _ _ _ _ _ _ us hl => match us, hl with | [_, _], _ => rfl
  have k_eq : Ke l.prog w K mg base T.cBath 3 (BathEq T) := ⟨_, _, ok_bath_eq F9 T k_width k_height k_cells, a9, i9, B9⟩
  have F10 := fun_mk (st := s_are_strides) l10 c10 k10
  have B10 := F10.binds (ps := ["value", "count"]) fun _ _ _ _ _ _ us hl => match us, hl with | [_, _], _ => rfl
  have k_are_strides : Kn l.prog w K mg base "are_strides" 2 ["value", "count"] sp_are_strides := ⟨_, _, ok_are_strides F10 T k_is_number, PySem.W.mg_of X G a10, k10, B10⟩
  have F11 := fun_mk (st := s_are_cells) l11 c11 k11
  have B11 := F11.binds (ps := ["size", "value"]) fun _ _ _ _ _ _ us hl => match us, hl with | [_, _], _ => rfl
  have k_are_cells : Kn l.prog w K mg base "are_cells" 2 ["size", "value"] sp_are_cells := ⟨_, _, ok_are_cells F11 T k_is_number, PySem.W.mg_of X G a11, k11, B11⟩
  have F12 := fun_mk (st := s_is_draw) l12 c12 k12
  have B12 := F12.binds (ps := ["width", "height", "value"]) fun _ _ _ _ _ _ us hl => match us, hl with | [_, _, _], _ => rfl
  have k_is_draw : Kn l.prog w K mg base "is_draw" 3 ["width", "height", "value"] sp_is_draw := ⟨_, _, ok_is_draw F12 T k_are_strides, PySem.W.mg_of X G a12, k12, B12⟩
  have F13 := fun_mk (st := s_is_deed) l13 c13 k13
  have B13 := F13.binds (ps := ["width", "height", "value"]) fun _ _ _ _ _ _ us hl => match us, hl with | [_, _, _], _ => rfl
  have k_is_deed : Kn l.prog w K mg base "is_deed" 4 ["width", "height", "value"] sp_is_deed := ⟨_, _, ok_is_deed F13 T k_is_draw k_is_number k_is_letter k_are_cells, PySem.W.mg_of X G a13, k13, B13⟩
  have F14 := fun_mk (st := s_check_recipe) l14 c14 k14
  have B14 := F14.binds (ps := ["width", "height", "recipe"]) fun _ _ _ _ _ _ us hl => match us, hl with | [_, _, _], _ => rfl
  have k_check_recipe : Kn l.prog w K mg base "check_recipe" 5 ["width", "height", "recipe"] sp_check_recipe := ⟨_, _, ok_check_recipe F14 T k_is_deed, PySem.W.mg_of X G a14, k14, B14⟩
  have F15 := fun_mk (st := s_drawn) l15 c15 k15
  have B15 := F15.binds (ps := ["width", "height", "deed"]) fun _ _ _ _ _ _ us hl => match us, hl with | [_, _, _], _ => rfl
  have k_drawn : Kn l.prog w K mg base "drawn" 1 ["width", "height", "deed"] sp_drawn := ⟨_, _, ok_drawn F15 T , PySem.W.mg_of X G a15, k15, B15⟩
  have F16 := fun_mk (st := s_pushed) l16 c16 k16
  have B16 := F16.binds (ps := ["width", "height", "cell"]) fun _ _ _ _ _ _ us hl => match us, hl with | [_, _, _], _ => rfl
  have k_pushed : Kn l.prog w K mg base "pushed" 1 ["width", "height", "cell"] sp_pushed := ⟨_, _, ok_pushed F16 T , PySem.W.mg_of X G a16, k16, B16⟩
  have F17 := fun_mk (st := s_Tray___init__) l17 c17 k17
  have B17 := F17.binds (ps := ["self", "width", "height", "things"]) fun _ _ _ _ _ _ us hl => match us, hl with | [_, _, _, _], _ => rfl
  have k_Tray : Kc l.prog w K mg base T.cTray "Tray" 1 ["self", "width", "height", "things"] (sp_tray_init T) := ⟨_, _, ok_tray_init F17 T , ⟨mkT, a17, i17, kcT⟩, PySem.W.mg_of X G aTray, B17⟩
  have F18 := fun_mk (st := s_Tray_do) l18 c18 k18
  have B18 := F18.binds (ps := ["self", "deed", "fresh"]) fun _ _ _ _ _ _ us hl => match us, hl with | [_, _, _], _ => rfl
  have k_do : Km l.prog w K mg base T.cTray "do" 2 ["self", "deed", "fresh"] (sp_do T) := ⟨_, _, ok_do F18 T k_pushed k_drawn, ⟨a18, i18, k18⟩, B18⟩
  have F19 := fun_mk (st := s_done) l19 c19 k19
  have B19 := F19.binds (ps := ["bath", "recipe"]) fun _ _ _ _ _ _ us hl => match us, hl with | [_, _], _ => rfl
  have k_done : Kn l.prog w K mg base "done" 6 ["bath", "recipe"] (sp_done T) := ⟨_, _, ok_done F19 T k_check_recipe k_width k_height k_cells k_Tray k_do k_Bath, PySem.W.mg_of X G a19, k19, B19⟩
  have F20 := fun_mk (st := s_plain) l20 c20 k20
  have B20 := F20.binds (ps := ["width", "height", "deed"]) fun _ _ _ _ _ _ us hl => match us, hl with | [_, _, _], _ => rfl
  have k_plain : Kn l.prog w K mg base "plain" 1 ["width", "height", "deed"] sp_plain := ⟨_, _, ok_plain F20 T , PySem.W.mg_of X G a20, k20, B20⟩
  have F21 := fun_mk (st := s_turned_back) l21 c21 k21
  have B21 := F21.binds (ps := ["width", "height", "deed"]) fun _ _ _ _ _ _ us hl => match us, hl with | [_, _, _], _ => rfl
  have k_turned_back : Kn l.prog w K mg base "turned_back" 2 ["width", "height", "deed"] sp_turned := ⟨_, _, ok_turned F21 T k_plain, PySem.W.mg_of X G a21, k21, B21⟩
  have F22 := fun_mk (st := s_opposite) l22 c22 k22
  have B22 := F22.binds (ps := ["bath", "deed"]) fun _ _ _ _ _ _ us hl => match us, hl with | [_, _], _ => rfl
  have k_opposite : Kn l.prog w K mg base "opposite" 4 ["bath", "deed"] (sp_opposite T) := ⟨_, _, ok_opposite F22 T k_width k_height k_is_draw k_turned_back, PySem.W.mg_of X G a22, k22, B22⟩
  have F23 := fun_mk (st := s_short) l23 c23 k23
  have B23 := F23.binds (ps := ["width", "height", "recipe"]) fun _ _ _ _ _ _ us hl => match us, hl with | [_, _, _], _ => rfl
  have k_short : Kn l.prog w K mg base "short" 2 ["width", "height", "recipe"] sp_short := ⟨_, _, ok_short F23 T k_plain, PySem.W.mg_of X G a23, k23, B23⟩
  have F24 := fun_mk (st := s_shortened) l24 c24 k24
  have B24 := F24.binds (ps := ["bath", "recipe"]) fun _ _ _ _ _ _ us hl => match us, hl with | [_, _], _ => rfl
  have k_shortened : Kn l.prog w K mg base "shortened" 6 ["bath", "recipe"] (sp_shortened T) := ⟨_, _, ok_shortened F24 T k_width k_height k_check_recipe k_short, PySem.W.mg_of X G a24, k24, B24⟩
  have F25 := fun_mk (st := s_undoing) l25 c25 k25
  have B25 := F25.binds (ps := ["bath", "recipe"]) fun _ _ _ _ _ _ us hl => match us, hl with | [_, _], _ => rfl
  have k_undoing : Kn l.prog w K mg base "undoing" 6 ["bath", "recipe"] (sp_undoing T) := ⟨_, _, ok_undoing F25 T k_width k_height k_check_recipe k_turned_back k_short, PySem.W.mg_of X G a25, k25, B25⟩
  have F26 := fun_mk (st := s_origins_of) l26 c26 k26
  have B26 := F26.binds (ps := ["width", "height", "recipe"]) fun _ _ _ _ _ _ us hl => match us, hl with | [_, _, _], _ => rfl
  have k_origins_of : Kn l.prog w K mg base "origins_of" 3 ["width", "height", "recipe"] sp_origins := ⟨_, _, ok_origins_of F26 T k_Tray k_do, PySem.W.mg_of X G a26, k26, B26⟩
  have F27 := fun_mk (st := s_shown) l27 c27 k27
  have B27 := F27.binds (ps := ["source", "recipe", "cells"]) fun _ _ _ _ _ _ us hl => match us, hl with | [_, _, _], _ => rfl
  have k_shown : Kn l.prog w K mg base "shown" 1 ["source", "recipe", "cells"] sp_shown := ⟨_, _, ok_shown F27 T , PySem.W.mg_of X G a27, k27, B27⟩
  have F28 := fun_mk (st := s_outcome) l28 c28 k28
  have B28 := F28.binds (ps := ["width", "height", "recipe", "cells"]) fun _ _ _ _ _ _ us hl => match us, hl with | [_, _, _, _], _ => rfl
  have k_outcome : Kn l.prog w K mg base "outcome" 4 ["width", "height", "recipe", "cells"] sp_outcome := ⟨_, _, ok_outcome F28 T k_origins_of k_shown, PySem.W.mg_of X G a28, k28, B28⟩
  have F29 := fun_mk (st := s_check_two) l29 c29 k29
  have B29 := F29.binds (ps := ["width", "height", "one", "other"]) fun _ _ _ _ _ _ us hl => match us, hl with | [_, _, _, _], _ => rfl
  have k_check_two : Kn l.prog w K mg base "check_two" 6 ["width", "height", "one", "other"] sp_check_two := ⟨_, _, ok_check_two F29 T k_check_size k_check_recipe, PySem.W.mg_of X G a29, k29, B29⟩
  have F30 := fun_mk (st := s_are_alike) l30 c30 k30
  have B30 := F30.binds (ps := ["width", "height", "one", "other"]) fun _ _ _ _ _ _ us hl => match us, hl with | [_, _, _, _], _ => rfl
  have k_are_alike : Kn l.prog w K mg base "are_alike" 5 ["width", "height", "one", "other"] sp_alike := ⟨_, _, ok_are_alike F30 T k_outcome, PySem.W.mg_of X G a30, k30, B30⟩
  have F31 := fun_mk (st := s_alike) l31 c31 k31
  have B31 := F31.binds (ps := ["width", "height", "one", "other"]) fun _ _ _ _ _ _ us hl => match us, hl with | [_, _, _, _], _ => rfl
  have k_alike : Kn l.prog w K mg base "alike" 7 ["width", "height", "one", "other"] sp_alike := ⟨_, _, ok_alike F31 T k_check_two k_are_alike, PySem.W.mg_of X G a31, k31, B31⟩
  have F32 := fun_mk (st := s__law_taken) l32 c32 k32
  have B32 := F32.binds (ps := ["_law_row", "_law_many"]) fun _ _ _ _ _ _ us hl => match us, hl with | [_, _], _ => rfl
  have k__law_taken : Kn l.prog w K mg base "_law_taken" 1 ["_law_row", "_law_many"] (sp_taken K) := ⟨_, _, ok_taken F32 T , PySem.W.mg_of X G a32, k32, B32⟩
  have F33 := fun_mk (st := s__law_pick) l33 c33 k33
  have B33 := F33.binds (ps := ["_law_row", "_law_some"]) fun _ _ _ _ _ _ us hl => match us, hl with | [_, _], _ => rfl
  have k__law_pick : Kn l.prog w K mg base "_law_pick" 2 ["_law_row", "_law_some"] (sp_pick K) := ⟨_, _, ok_pick F33 T k__law_taken, PySem.W.mg_of X G a33, k33, B33⟩
  have F34 := fun_mk (st := s__law_sides) l34 c34 k34
  have B34 := F34.binds (ps := ["_law_cells"]) fun _ _ _ _ _ _ us hl => match us, hl with | [_], _ => rfl
  have k__law_sides : Kn l.prog w K mg base "_law_sides" 1 ["_law_cells"] sp_sides := ⟨_, _, ok_sides F34 T , PySem.W.mg_of X G a34, k34, B34⟩
  have F35 := fun_mk (st := s__law_scheme) l35 c35 k35
  have B35 := F35.binds (ps := ["_law_row", "_law_cells"]) fun _ _ _ _ _ _ us hl => match us, hl with | [_, _], _ => rfl
  have k__law_scheme : Kn l.prog w K mg base "_law_scheme" 3 ["_law_row", "_law_cells"] (sp_scheme K) := ⟨_, _, ok_scheme F35 T k__law_sides k__law_pick, PySem.W.mg_of X G a35, k35, B35⟩
  have F36 := fun_mk (st := s__law_bath) l36 c36 k36
  have B36 := F36.binds (ps := ["_law_s"]) fun _ _ _ _ _ _ us hl => match us, hl with | [_], _ => rfl
  have k__law_bath : Kn l.prog w K mg base "_law_bath" 5 ["_law_s"] (sp_bath T) := ⟨_, _, ok_bath F36 T k_Bath, PySem.W.mg_of X G a36, k36, B36⟩
  have F37 := fun_mk (st := s__law_draw) l37 c37 k37
  have B37 := F37.binds (ps := ["_law_row", "_law_s"]) fun _ _ _ _ _ _ us hl => match us, hl with | [_, _], _ => rfl
  have k__law_draw : Kn l.prog w K mg base "_law_draw" 3 ["_law_row", "_law_s"] (sp_gen K) := ⟨_, _, ok_gdraw F37 T k__law_taken k__law_pick, PySem.W.mg_of X G a37, k37, B37⟩
  have F38 := fun_mk (st := s__law_dropped) l38 c38 k38
  have B38 := F38.binds (ps := ["_law_row", "_law_s"]) fun _ _ _ _ _ _ us hl => match us, hl with | [_, _], _ => rfl
  have k__law_dropped : Kn l.prog w K mg base "_law_dropped" 3 ["_law_row", "_law_s"] (sp_gen K) := ⟨_, _, ok_gdrop F38 T k__law_taken k__law_pick, PySem.W.mg_of X G a38, k38, B38⟩
  have F39 := fun_mk (st := s__law_laid) l39 c39 k39
  have B39 := F39.binds (ps := ["_law_row", "_law_s"]) fun _ _ _ _ _ _ us hl => match us, hl with | [_, _], _ => rfl
  have k__law_laid : Kn l.prog w K mg base "_law_laid" 2 ["_law_row", "_law_s"] (sp_gen K) := ⟨_, _, ok_glaid F39 T k__law_taken, PySem.W.mg_of X G a39, k39, B39⟩
  have F40 := fun_mk (st := s__law_deed) l40 c40 k40
  have B40 := F40.binds (ps := ["_law_row", "_law_s"]) fun _ _ _ _ _ _ us hl => match us, hl with | [_, _], _ => rfl
  have k__law_deed : Kn l.prog w K mg base "_law_deed" 4 ["_law_row", "_law_s"] (sp_gen K) := ⟨_, _, ok_gdeed F40 T k__law_taken k__law_draw k__law_dropped k__law_laid, PySem.W.mg_of X G a40, k40, B40⟩
  have F41 := fun_mk (st := s__law_plain) l41 c41 k41
  have B41 := F41.binds (ps := ["_law_s", "_law_deed_here"]) fun _ _ _ _ _ _ us hl => match us, hl with | [_, _], _ => rfl
  have k__law_plain : Kn l.prog w K mg base "_law_plain" 1 ["_law_s", "_law_deed_here"] sp_lplain := ⟨_, _, ok_lplain F41 T , PySem.W.mg_of X G a41, k41, B41⟩
  have F42 := fun_mk (st := s__law_short) l42 c42 k42
  have B42 := F42.binds (ps := ["_law_s", "_law_recipe"]) fun _ _ _ _ _ _ us hl => match us, hl with | [_, _], _ => rfl
  have k__law_short : Kn l.prog w K mg base "_law_short" 2 ["_law_s", "_law_recipe"] sp_lshort := ⟨_, _, ok_lshort F42 T k__law_plain, PySem.W.mg_of X G a42, k42, B42⟩
  exact ok_law (fun_mk (st := s_law) l43 c43 k43) T siM k_eq k__law_taken k__law_scheme k__law_bath k__law_draw k__law_deed k__law_plain k__law_short k_shortened k_done k_alike k_undoing k_opposite
theorem walk {l : PySem.W.OpenLaw} {q : Program} {loose : List Str} {XP : (Str → Option Value) → Heap → Prop} {YP : World → Heap → Prop} {d : DefRec} {K : Params → PySem.W.Frag} (hn : l.most = some 63) (hdf : d.params.defaults = [])
    (hY : ∀ (w : World) (h : Heap), YP w h → (K w.params).In h)
    (F : ∀ (w : World) (mg : Str → Option Value) (fa : Addr) (h : Heap), (K w.params).In h → h.Ns mainGlobals mg → mg d.name = some (.ref fa) →
      ∃ fd : FuncData, (∀ (s : Shared) (u : Value), BindsTo s fd ⟨[u], []⟩ [("_law_script", u)]) ∧ ∀ base : Heap, (K w.params).In base → base.Ns mainGlobals mg → FnOk l.prog w (K w.params) mg base CX0 8 fa fd ["_law_script"] (sp_law (K w.params))) :
    PySem.W.WalkO q loose XP YP l.row.toRowW d [] (fun f vs => PySem.call f vs) :=
  L2.walk_of (n := 63) (k := 8) (x := "_law_script") (CX := fun _ => CX0) (sp := fun w => sp_law (K w.params)) hn (by decide) hdf ⟨rfl, by decide, by decide⟩ hY F (fun _ _ a ns _ _ hS => ⟨a, ns, rfl, hS, fun _ => rfl⟩) fun _ _ _ _ _ z => z
end K7
open PySem PySem.W PyProof.Rows in
set_option maxRecDepth 100000 in
set_option maxHeartbeats 0 in
theorem PySem.Challenge.cw_rakedpapers_k07_whole_opposites_and_shor_holds : PySem.Challenge.rw_rakedpapers_k07_whole_opposites_and_shor.Holds := by
  w_on; o_law; k_head; (case hw => w_witness2)
  k_fill
  refine K7.walk (l := PySem.Challenge.rw_rakedpapers_k07_whole_opposites_and_shor) rfl rfl (fun w h Y => PySem.W.kIn_of Y) ?F
  case F =>
    intro w mg fa h KX G hmg
    refine' K7.all_mk KX G hmg ?aBath ?aTray ?a0 ?l0 ?c0 ?k0 ?a1 ?l1 ?c1 ?k1 ?a2 ?l2 ?c2 ?k2 ?a3 ?l3 ?c3 ?k3 ?a4 ?l4 ?c4 ?k4 ?a5 ?i5 ?l5 ?c5 ?k5 ?a6 ?g6 ?t6 ?r6 ?l6 ?c6 ?k6 ?a7 ?g7 ?t7 ?r7 ?l7 ?c7 ?k7 ?a8 ?g8 ?t8 ?r8 ?l8 ?c8 ?k8 ?a9 ?i9 ?l9 ?c9 ?k9 ?a10 ?l10 ?c10 ?k10 ?a11 ?l11 ?c11 ?k11 ?a12 ?l12 ?c12 ?k12 ?a13 ?l13 ?c13 ?k13 ?a14 ?l14 ?c14 ?k14 ?a15 ?l15 ?c15 ?k15 ?a16 ?l16 ?c16 ?k16 ?a17 ?i17 ?l17 ?c17 ?k17 ?a18 ?i18 ?l18 ?c18 ?k18 ?a19 ?l19 ?c19 ?k19 ?a20 ?l20 ?c20 ?k20 ?a21 ?l21 ?c21 ?k21 ?a22 ?l22 ?c22 ?k22 ?a23 ?l23 ?c23 ?k23 ?a24 ?l24 ?c24 ?k24 ?a25 ?l25 ?c25 ?k25 ?a26 ?l26 ?c26 ?k26 ?a27 ?l27 ?c27 ?k27 ?a28 ?l28 ?c28 ?k28 ?a29 ?l29 ?c29 ?k29 ?a30 ?l30 ?c30 ?k30 ?a31 ?l31 ?c31 ?k31 ?a32 ?l32 ?c32 ?k32 ?a33 ?l33 ?c33 ?k33 ?a34 ?l34 ?c34 ?k34 ?a35 ?l35 ?c35 ?k35 ?a36 ?l36 ?c36 ?k36 ?a37 ?l37 ?c37 ?k37 ?a38 ?l38 ?c38 ?k38 ?a39 ?l39 ?c39 ?k39 ?a40 ?l40 ?c40 ?k40 ?a41 ?l41 ?c41 ?k41 ?a42 ?l42 ?c42 ?k42 ?a43 ?l43 ?c43 ?k43 ?z_isinstance ?z_int ?z_bool ?z_str ?z_tuple ?z_list ?z_len ?z_all ?z_zip ?z_enumerate ?z_range ?z_max ?v_LETTERS ?e_LETTERS ?v_NOTHING ?e_NOTHING ?v_MAX_SIDE ?v_MAX_CELLS ?v_MAX_STRIDE ?v_MAX_DEEDS ?v_DROP ?e_DROP ?v_RAKE ?e_RAKE ?v_COMB ?e_COMB ?v_PAPER ?e_PAPER ?v_CELL ?e_CELL ?pgB ?icB ?poB ?saB ?slA ?slG ?slT ?slY ?slI ?siA ?siN ?siT ?siM ?neB ?mkB ?kcB ?pgT ?hdT ?poT ?saT ?nSize ?nThings ?nPapers ?mkT ?kcT
    (case aBath => k_is)
    (case aTray => k_is)
    (case a0 => k_is)
    (case l0 => k_is)
    (case c0 => k_is)
    (case k0 => k_is)
    (case a1 => k_is)
    (case l1 => k_is)
    (case c1 => k_is)
    (case k1 => k_is)
    (case a2 => k_is)
    (case l2 => k_is)
    (case c2 => k_is)
    (case k2 => k_is)
    (case a3 => k_is)
    (case l3 => k_is)
    (case c3 => k_is)
    (case k3 => k_is)
    (case a4 => k_is)
    (case l4 => k_is)
    (case c4 => k_is)
    (case k4 => k_is)
    (case a5 => k_is)
    (case i5 => k_is)
    (case l5 => k_is)
    (case c5 => k_is)
    (case k5 => k_is)
    (case a6 => k_is)
    (case g6 => k_is)
    (case t6 => k_is)
    (case r6 => k_is)
    (case l6 => k_is)
    (case c6 => k_is)
    (case k6 => k_is)
    (case a7 => k_is)
    (case g7 => k_is)
    (case t7 => k_is)
    (case r7 => k_is)
    (case l7 => k_is)
    (case c7 => k_is)
    (case k7 => k_is)
    (case a8 => k_is)
    (case g8 => k_is)
    (case t8 => k_is)
    (case r8 => k_is)
    (case l8 => k_is)
    (case c8 => k_is)
    (case k8 => k_is)
    (case a9 => k_is)
    (case i9 => k_is)
    (case l9 => k_is)
    (case c9 => k_is)
    (case k9 => k_is)
    (case a10 => k_is)
    (case l10 => k_is)
    (case c10 => k_is)
    (case k10 => k_is)
    (case a11 => k_is)
    (case l11 => k_is)
    (case c11 => k_is)
    (case k11 => k_is)
    (case a12 => k_is)
    (case l12 => k_is)
    (case c12 => k_is)
    (case k12 => k_is)
    (case a13 => k_is)
    (case l13 => k_is)
    (case c13 => k_is)
    (case k13 => k_is)
    (case a14 => k_is)
    (case l14 => k_is)
    (case c14 => k_is)
    (case k14 => k_is)
    (case a15 => k_is)
    (case l15 => k_is)
    (case c15 => k_is)
    (case k15 => k_is)
    (case a16 => k_is)
    (case l16 => k_is)
    (case c16 => k_is)
    (case k16 => k_is)
    (case a17 => k_is)
    (case i17 => k_is)
    (case l17 => k_is)
    (case c17 => k_is)
    (case k17 => k_is)
    (case a18 => k_is)
    (case i18 => k_is)
    (case l18 => k_is)
    (case c18 => k_is)
    (case k18 => k_is)
    (case a19 => k_is)
    (case l19 => k_is)
    (case c19 => k_is)
    (case k19 => k_is)
    (case a20 => k_is)
    (case l20 => k_is)
    (case c20 => k_is)
    (case k20 => k_is)
    (case a21 => k_is)
    (case l21 => k_is)
    (case c21 => k_is)
    (case k21 => k_is)
    (case a22 => k_is)
    (case l22 => k_is)
    (case c22 => k_is)
    (case k22 => k_is)
    (case a23 => k_is)
    (case l23 => k_is)
    (case c23 => k_is)
    (case k23 => k_is)
    (case a24 => k_is)
    (case l24 => k_is)
    (case c24 => k_is)
    (case k24 => k_is)
    (case a25 => k_is)
    (case l25 => k_is)
    (case c25 => k_is)
    (case k25 => k_is)
    (case a26 => k_is)
    (case l26 => k_is)
    (case c26 => k_is)
    (case k26 => k_is)
    (case a27 => k_is)
    (case l27 => k_is)
    (case c27 => k_is)
    (case k27 => k_is)
    (case a28 => k_is)
    (case l28 => k_is)
    (case c28 => k_is)
    (case k28 => k_is)
    (case a29 => k_is)
    (case l29 => k_is)
    (case c29 => k_is)
    (case k29 => k_is)
    (case a30 => k_is)
    (case l30 => k_is)
    (case c30 => k_is)
    (case k30 => k_is)
    (case a31 => k_is)
    (case l31 => k_is)
    (case c31 => k_is)
    (case k31 => k_is)
    (case a32 => k_is)
    (case l32 => k_is)
    (case c32 => k_is)
    (case k32 => k_is)
    (case a33 => k_is)
    (case l33 => k_is)
    (case c33 => k_is)
    (case k33 => k_is)
    (case a34 => k_is)
    (case l34 => k_is)
    (case c34 => k_is)
    (case k34 => k_is)
    (case a35 => k_is)
    (case l35 => k_is)
    (case c35 => k_is)
    (case k35 => k_is)
    (case a36 => k_is)
    (case l36 => k_is)
    (case c36 => k_is)
    (case k36 => k_is)
    (case a37 => k_is)
    (case l37 => k_is)
    (case c37 => k_is)
    (case k37 => k_is)
    (case a38 => k_is)
    (case l38 => k_is)
    (case c38 => k_is)
    (case k38 => k_is)
    (case a39 => k_is)
    (case l39 => k_is)
    (case c39 => k_is)
    (case k39 => k_is)
    (case a40 => k_is)
    (case l40 => k_is)
    (case c40 => k_is)
    (case k40 => k_is)
    (case a41 => k_is)
    (case l41 => k_is)
    (case c41 => k_is)
    (case k41 => k_is)
    (case a42 => k_is)
    (case l42 => k_is)
    (case c42 => k_is)
    (case k42 => k_is)
    (case a43 => k_is)
    (case l43 => k_is)
    (case c43 => k_is)
    (case k43 => k_is)
    (case z_isinstance => k_is)
    (case z_int => k_is)
    (case z_bool => k_is)
    (case z_str => k_is)
    (case z_tuple => k_is)
    (case z_list => k_is)
    (case z_len => k_is)
    (case z_all => k_is)
    (case z_zip => k_is)
    (case z_enumerate => k_is)
    (case z_range => k_is)
    (case z_max => k_is)
    (case v_LETTERS => k_is)
    (case e_LETTERS => decide +kernel)
    (case v_NOTHING => k_is)
    (case e_NOTHING => decide +kernel)
    (case v_MAX_SIDE => k_is)
    (case v_MAX_CELLS => k_is)
    (case v_MAX_STRIDE => k_is)
    (case v_MAX_DEEDS => k_is)
    (case v_DROP => k_is)
    (case e_DROP => decide +kernel)
    (case v_RAKE => k_is)
    (case e_RAKE => decide +kernel)
    (case v_COMB => k_is)
    (case e_COMB => decide +kernel)
    (case v_PAPER => k_is)
    (case e_PAPER => decide +kernel)
    (case v_CELL => k_is)
    (case e_CELL => decide +kernel)
    (case pgB => k_is)
    (case icB => k_is)
    (case poB => k_is)
    (case saB => k_is)
    (case slA => k_is)
    (case slG => k_is)
    (case slT => k_is)
    (case slY => k_is)
    (case slI => k_is)
    (case siA => k_is)
    (case siN => k_is)
    (case siT => k_is)
    (case siM => k_is)
    (case neB => k_is)
    (case mkB => k_is)
    (case kcB => k_is)
    (case pgT => k_is)
    (case hdT => k_is)
    (case poT => k_is)
    (case saT => k_is)
    (case nSize => k_is)
    (case nThings => k_is)
    (case nPapers => k_is)
    (case mkT => k_is)
    (case kcT => k_is)
