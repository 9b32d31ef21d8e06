import PyProof.Rows.All
import Wide.All
import OpenK.AllK
import Wide.FinOn
import HandS.ForMost
import HandS.Walk
import HandS.Zip
import HandS.TupAny
import HandS.TupMul
import HandS.IsInst
import HandS.TupSets
import HandS.WideBits
import HandS.SortInts
import KE.GoesMore
import KE.KRevSl
import PySem.Challenge.RW_everyring_k18_whole_what_can_be_reached
import HandS.Style
section
/-! The program's functions as plain functions of lists and whole numbers. -/
namespace Rg
/-- 0, 1, .., n - 1 -/
def ir (n : Nat) : List Int := (List.range n).map fun (i : Nat) => (i : Int)
/-- n - 1, .., 0 -/
def irD (n : Nat) : List Int := (List.range n).map fun (i : Nat) => (n : Int) - 1 - (i : Int)
def en {α : Type} : Nat → List α → List (Int × α)
  | _, [] => []
  | k, x :: r => ((k : Int), x) :: en (k + 1) r
def getZ (l : List Int) (i : Int) : Int := l.getD i.toNat 0
def setZ (l : List Int) (i : Int) (v : Int) : List Int := l.set i.toNat v
def zeros (n : Int) : List Int := List.replicate n.toNat 0
/-! ### rows -/
abbrev Row := List Int
abbrev Rule := List (Int × Int)
abbrev Panel := Int × List Rule
abbrev Pic := List (Int × Int)
abbrev Push := List (Int × Int × Int)
abbrev Basis := List (Int × Row × Row)
def Pr (p : Int) : Prop := p = 2 ∨ p = 3 ∨ p = 5
/-- colours, not too many -/
def Rw (p : Int) (r : Row) : Prop := (∀ x ∈ r, 0 ≤ x ∧ x < p) ∧ r.length ≤ 1000
def trim : Row → Row
  | [] => []
  | a :: r => if trim r = [] ∧ a = 0 then [] else a :: trim r
def invs (p c : Int) : List Int := ((ir p.toNat).filter fun o => decide (o * c % p = 1)).map fun o => o
def inv (p c : Int) : Int := (invs p c).headD 0
def scal (p : Int) (r : Row) (c : Int) : Row := trim (r.map fun x => x * c % p)
def lst (r : Row) : Int := r.getLastD 0
def mon (p : Int) (r : Row) : Row := scal p r (inv p (lst r))
def mx (a b : Int) : Int := if b > a then b else a
def padZ (r : Row) (n : Int) : Row := r ++ zeros (n - r.length)
def addP (p : Int) (a b : Row) : Row := trim (((padZ a (mx a.length b.length)).zip (padZ b (mx a.length b.length))).map fun q => (q.1 + q.2) % p)
def mulIn (p k h : Int) (f : Row) (q : Int × Int) : Row := setZ f (k + q.1) ((getZ f (k + q.1) + h * q.2) % p)
def mulOut (p : Int) (b : Row) (f : Row) (q : Int × Int) : Row := (en 0 b).foldl (mulIn p q.1 q.2) f
def mulP (p : Int) (a b : Row) : Row := trim ((en 0 a).foldl (mulOut p b) (zeros ((a.length : Int) + b.length)))
def divIn (p k c : Int) (r : Row) (q : Int × Int) : Row := setZ r (k + q.1) ((getZ r (k + q.1) - c * q.2) % p)
def divC (p over : Int) (b : Row) (r : Row) (k : Int) : Int := getZ r (k + b.length - 1) * over % p
def divOut (p over : Int) (b : Row) (s : Row × Row) (k : Int) : Row × Row := (setZ s.1 k (divC p over b s.2 k), (en 0 b).foldl (divIn p k (divC p over b s.2 k)) s.2)
def divN (a b : Row) : Int := mx 0 ((a.length : Int) - b.length + 1)
def divS (p : Int) (a b : Row) : Row × Row := (irD (divN a b).toNat).foldl (divOut p (inv p (lst b)) b) (zeros (divN a b), a)
def divP (p : Int) (a b : Row) : Row × Row := (trim (divS p a b).1, trim (divS p a b).2)
def remP (p : Int) (a b : Row) : Row := (divP p a b).2
def gcdGo (p : Int) : Nat → Row → Row → Row
  | 0, a, _ => a
  | n + 1, a, b => if b = [] then a else gcdGo p n b (remP p a b)
def gcdE (p : Int) (a b : Row) : Row := gcdGo p (b.length + 1) a b
def gcd2 (p : Int) (a b : Row) : Row := if gcdE p a b = [] then [] else mon p (gcdE p a b)
def gcdAll (p : Int) (rows : List Row) : Row := rows.foldl (gcd2 p) []
def powGo (p : Int) (m : Row) : Nat → Nat → Row → Row → Row
  | 0, _, f, _ => f
  | k + 1, n, f, s => if n = 0 then f else powGo p m k (n / 2) (if n % 2 = 1 then remP p (mulP p f s) m else f) (remP p (mulP p s s) m)
def powX (p : Int) (n : Nat) (m : Row) : Row := powGo p m n n (remP p [1] m) (remP p [0, 1] m)
def leastOf (r : Rule) : Int := (r.headD (0, 0)).1
def mostOf (r : Rule) : Int := (r.getLastD (0, 0)).1
def ruleIn (l : Int) (f : Row) (q : Int × Int) : Row := setZ f (q.1 - l) q.2
def ruleRow (r : Rule) : Row := r.foldl (ruleIn (leastOf r)) (zeros (mostOf r - leastOf r + 1))
def core (p : Int) (r : Rule) : Row := mon p (ruleRow r)
/-! ### rings -/
def gener (P : Panel) : Row := gcdAll P.1 (P.2.map (core P.1))
def divOn (P : Panel) (n : Nat) : Row := gcdAll P.1 [gener P, remP P.1 (addP P.1 (powX P.1 n (gener P)) [P.1 - 1]) (gener P)]
def restIn (p : Int) (d : Row) (f : Row) (q : Int × Int) : Row := addP p f (scal p (powX p q.1.toNat d) q.2)
def restOf (p : Int) (pic : Pic) (d : Row) : Row := pic.foldl (restIn p d) []
def pressIn (p place times : Int) (f : Row) (q : Int × Int) : Row := setZ f ((place + q.1) % (f.length : Int)) ((getZ f ((place + q.1) % (f.length : Int)) + q.2 * times) % p)
def behind (p : Int) (ring : Row) (b : Rule) (place times : Int) : Row := b.foldl (pressIn p place times) ring
def colours (size : Int) (pic : Pic) : Row := pic.foldl (fun f q => setZ f q.1 q.2) (zeros size)
def picOf (ring : Row) : Pic := ((en 0 ring).filter fun q => !decide (q.2 = 0)).map fun q => (q.1, q.2)
def less (p : Int) (a b : Row) (t : Int) : Row := (a.zip b).map fun q => (q.1 - t * q.2) % p
def lessIn (p : Int) (s : Row × Row) (b : Int × Row × Row) : Row × Row := if getZ s.1 b.1 = 0 then s else (less p s.1 b.2.1 (getZ s.1 b.1), less p s.2 b.2.2 (getZ s.1 b.1))
def lessBy (p : Int) (bs : Basis) (s : Row × Row) : Row × Row := bs.foldl (lessIn p) s
def litOf (ring : Row) : List Int := ((en 0 ring).filter fun q => !decide (q.2 = 0)).map fun q => q.1
def startAt (n k : Int) : Row := setZ (zeros n) k 1
def button (P : Panel) (k : Int) : Rule := P.2.getD k.toNat []
def baseRow (P : Panel) (size : Int) (bs : Basis) (k : Int) : Row × Row :=
  lessBy P.1 bs (behind P.1 (zeros size) (button P (k / size)) (k % size) 1, startAt ((P.2.length : Int) * size) k)
def baseIn (P : Panel) (size : Int) (bs : Basis) (k : Int) : Basis :=
  if litOf (baseRow P size bs k).1 = [] then bs else
    bs ++ [(getZ (litOf (baseRow P size bs k).1) 0,
      less P.1 (zeros size) (baseRow P size bs k).1 (-(inv P.1 (getZ (baseRow P size bs k).1 (getZ (litOf (baseRow P size bs k).1) 0)))),
      less P.1 (zeros ((baseRow P size bs k).2.length : Int)) (baseRow P size bs k).2 (-(inv P.1 (getZ (baseRow P size bs k).1 (getZ (litOf (baseRow P size bs k).1) 0)))))]
def basisOf (P : Panel) (size : Int) : Basis := (ir ((P.2.length : Int) * size).toNat).foldl (baseIn P size) []
def foundS (P : Panel) (size : Int) (pic : Pic) : Row × Row := lessBy P.1 (basisOf P size) (colours size pic, zeros ((P.2.length : Int) * size))
def presses (P : Panel) (size : Int) (pic : Pic) : Push := ((en 0 (foundS P size pic).2).filter fun q => !decide (q.2 = 0)).map fun q => (q.1 / size, q.1 % size, (-q.2) % P.1)
def lampIn (P : Panel) (f : Row) (q : Int × Int × Int) : Row := behind P.1 f (button P q.1) q.2.1 q.2.2
def lampRow (P : Panel) (size : Int) (ps : Push) : Row := ps.foldl (lampIn P) (zeros size)
def lampsOf (P : Panel) (size : Int) (ps : Push) : Pic := picOf (lampRow P size ps)
def reach (P : Panel) (size : Nat) (pic : Pic) : Bool := decide (restOf P.1 pic (divOn P size) = [])
def lossOf (P : Panel) (size : Nat) : Int := ((divOn P size).length : Int) - 1
end Rg
namespace Rg
/-- rules as the law makes them -/
def RuleV (p : Int) (r : Rule) : Prop := (∀ q ∈ r, -4 ≤ q.1 ∧ q.1 ≤ 4 ∧ 1 ≤ q.2 ∧ q.2 ≤ p - 1) ∧ (∀ q ∈ r.zip (r.drop 1), q.1.1 < q.2.1) ∧ r.length ≤ 1000 ∧ r ≠ []
def PanelV (P : Panel) : Prop := Pr P.1 ∧ (∀ r ∈ P.2, RuleV P.1 r) ∧ P.2 ≠ [] ∧ P.2.length ≤ 10
def PicV (p : Int) (n : Int) (s : Pic) : Prop := (∀ q ∈ s, 0 ≤ q.1 ∧ q.1 ≤ n - 1 ∧ 1 ≤ q.2 ∧ q.2 ≤ p - 1) ∧ (∀ q ∈ s.zip (s.drop 1), q.1.1 < q.2.1) ∧ s.length ≤ 1000
/-- the order of Python's tuples of two -/
def lt2 (a b : Int × Int) : Bool := decide (a.1 < b.1) || (decide (a.1 = b.1) && decide (a.2 < b.2))
def PushV (P : Panel) (n : Int) (ps : Push) : Prop := (∀ q ∈ ps, 0 ≤ q.1 ∧ q.1 ≤ (P.2.length : Int) - 1 ∧ 0 ≤ q.2.1 ∧ q.2.1 ≤ n - 1 ∧ 1 ≤ q.2.2 ∧ q.2.2 ≤ P.1 - 1) ∧ (∀ z ∈ ps.zip (ps.drop 1), lt2 (z.1.1, z.1.2.1) (z.2.1, z.2.2.1) = true) ∧ ps.length ≤ 1000
end Rg
end
section
set_option linter.all false
/-! Bounds of the plain functions' values. -/
namespace Rg
theorem Pr.pos {p : Int} (h : Pr p) : 0 < p := by rcases h with h | h | h <;> omega
theorem Pr.le {p : Int} (h : Pr p) : p ≤ 5 := by rcases h with h | h | h <;> omega
theorem Pr.two {p : Int} (h : Pr p) : 2 ≤ p := by rcases h with h | h | h <;> omega
/-! trim -/
theorem trim_cons (a : Int) (r : Row) : trim (a :: r) = if trim r = [] ∧ a = 0 then [] else a :: trim r := rfl
theorem trim_snoc0 : ∀ l : Row, trim (l ++ [0]) = trim l
  | [] => by simp [trim]
  | a :: r => by
    show (if trim (r ++ [0]) = [] ∧ a = 0 then [] else a :: trim (r ++ [0])) = _
    rw [trim_snoc0 r]
    rfl
theorem trim_snoc {c : Int} (hc : c ≠ 0) : ∀ l : Row, trim (l ++ [c]) = l ++ [c]
  | [] => by simp [trim, hc]
  | a :: r => by
    show (if trim (r ++ [c]) = [] ∧ a = 0 then [] else a :: trim (r ++ [c])) = _
    rw [trim_snoc hc r, if_neg (by simp)]
    rfl
theorem trim_take0 {r : Row} {m : Nat} (hm : m < r.length) (h : getZ r (m : Int) = 0) : trim (r.take (m + 1)) = trim (r.take m) := by
  have e : r[m]? = some 0 := by
    unfold getZ at h
    rw [Int.toNat_natCast, List.getD_eq_getElem?_getD] at h
    rw [List.getElem?_eq_getElem hm] at h ⊢
    simpa using h
  rw [List.take_add_one, e]
  exact trim_snoc0 _
theorem trim_take1 {r : Row} {m : Nat} (hm : m < r.length) (h : getZ r (m : Int) ≠ 0) : trim (r.take (m + 1)) = r.take (m + 1) := by
  have e : r[m]? = some (getZ r (m : Int)) := by
    unfold getZ
    rw [Int.toNat_natCast, List.getD_eq_getElem?_getD, List.getElem?_eq_getElem hm]
    rfl
  rw [List.take_add_one, e]
  exact trim_snoc h _
theorem trim_len : ∀ r : Row, (trim r).length ≤ r.length
  | [] => Nat.le_refl _
  | a :: r => by
    rw [trim_cons]
    split
    · exact Nat.zero_le _
    · have := trim_len r
      simp only [List.length_cons]
      omega
theorem trim_mem {x : Int} : ∀ {r : Row}, x ∈ trim r → x ∈ r
  | [], h => h
  | a :: r, h => by
    rw [trim_cons] at h
    split at h
    · cases h
    · rcases List.mem_cons.mp h with h | h
      · exact h ▸ List.mem_cons_self
      · exact List.mem_cons_of_mem _ (trim_mem h)
theorem trim_trim : ∀ r : Row, trim (trim r) = trim r
  | [] => rfl
  | a :: r => by
    rw [trim_cons]
    split
    · rfl
    · rename_i h
      rw [trim_cons, trim_trim r, if_neg h]
/-- the last one of a trimmed row is not 0 -/
theorem lst_cons (a : Int) {r : Row} (h : r ≠ []) : lst (a :: r) = lst r := by
  cases r with
  | nil => exact absurd rfl h
  | cons b t => unfold lst; rw [List.getLastD_cons, List.getLastD_cons, List.getLastD_cons]
theorem lst_trim : ∀ {r : Row}, trim r = r → r ≠ [] → lst r ≠ 0
  | [], _, h => absurd rfl h
  | a :: r, h, _ => by
    rw [trim_cons] at h
    split at h
    · cases h
    · rename_i hn
      have hr : trim r = r := List.cons.inj h |>.2
      by_cases e : r = []
      · subst e
        intro z
        apply hn
        exact ⟨rfl, z⟩
      · rw [lst_cons a e]
        exact lst_trim hr e
theorem lst_mem : ∀ {r : Row}, r ≠ [] → lst r ∈ r
  | [], h => absurd rfl h
  | a :: r, _ => by
    by_cases e : r = []
    · subst e; exact List.mem_cons_self
    · rw [lst_cons a e]; exact List.mem_cons_of_mem _ (lst_mem e)
theorem Rw.trim {p : Int} {r : Row} (h : Rw p r) : Rw p (trim r) := ⟨fun x hx => h.1 x (trim_mem hx), Nat.le_trans (trim_len r) h.2⟩
/-! inverse -/
theorem inv_all {p c : Int} (hp : Pr p) (h1 : 0 < c) (h2 : c < p) : invs p c ≠ [] ∧ inv p c * c % p = 1 ∧ 0 < inv p c ∧ inv p c < p := by
  rcases hp with h | h | h <;> subst h
  · have : c = 1 := by omega
    subst this; decide
  · have : c = 1 ∨ c = 2 := by omega
    rcases this with h | h <;> subst h <;> decide
  · have : c = 1 ∨ c = 2 ∨ c = 3 ∨ c = 4 := by omega
    rcases this with h | h | h | h <;> subst h <;> decide
/-! scaled, monic -/
theorem rw_map {α : Type} {p : Int} (hp : 0 < p) (f : α → Int) (l : List α) (hl : l.length ≤ 1000) : Rw p (l.map fun x => f x % p) := by
  refine ⟨fun x hx => ?_, by rw [List.length_map]; exact hl⟩
  obtain ⟨y, _, rfl⟩ := List.mem_map.mp hx
  exact ⟨Int.emod_nonneg _ (by omega), Int.emod_lt_of_pos _ hp⟩
theorem rw_scal {p : Int} (hp : 0 < p) {r : Row} (hl : r.length ≤ 1000) (c : Int) : Rw p (scal p r c) := (rw_map hp (fun x => x * c) r hl).trim
theorem scal_len (p : Int) (r : Row) (c : Int) : (scal p r c).length ≤ r.length := by
  have := trim_len (r.map fun x => x * c % p)
  rw [List.length_map] at this
  exact this
/-! lists by places -/
theorem getZ_nat (l : List Int) (i : Nat) : getZ l (i : Int) = l.getD i 0 := by unfold getZ; rw [Int.toNat_natCast]
theorem setZ_len (l : List Int) (i v : Int) : (setZ l i v).length = l.length := by unfold setZ; rw [List.length_set]
theorem zeros_len (n : Int) : (zeros n).length = n.toNat := by unfold zeros; rw [List.length_replicate]
theorem zeros_rw {p : Int} (hp : 0 < p) {n : Int} (h : n ≤ 1000) : Rw p (zeros n) := ⟨fun x hx => by
  have := List.eq_of_mem_replicate hx
  omega, by rw [zeros_len]; omega⟩
theorem setZ_mem {l : List Int} {i v x : Int} (h : x ∈ setZ l i v) : x ∈ l ∨ x = v := by
  unfold setZ at h
  exact List.mem_or_eq_of_mem_set h
theorem setZ_rw {p : Int} {l : Row} (h : Rw p l) {i v : Int} (h1 : 0 ≤ v) (h2 : v < p) : Rw p (setZ l i v) := ⟨fun x hx => by
  rcases setZ_mem hx with h' | h'
  · exact h.1 x h'
  · omega, by rw [setZ_len]; exact h.2⟩
theorem getZ_rw {p : Int} (hp : 0 < p) {l : Row} (h : Rw p l) (i : Int) : 0 ≤ getZ l i ∧ getZ l i < p := by
  unfold getZ
  rw [List.getD_eq_getElem?_getD]
  cases e : l[i.toNat]? with
  | none => simp; exact hp
  | some y => exact h.1 y (List.mem_of_getElem? e)
theorem modp {p : Int} (hp : 0 < p) (a : Int) : 0 ≤ a % p ∧ a % p < p := ⟨Int.emod_nonneg _ (by omega), Int.emod_lt_of_pos _ hp⟩
/-- a fold keeps what each step keeps -/
theorem fold_keeps {α β : Type} {f : β → α → β} (I : β → Prop) : ∀ (l : List α) (s : β), I s → (∀ s d, d ∈ l → I s → I (f s d)) → I (l.foldl f s)
  | [], _, h, _ => h
  | d :: l, s, h, hs => fold_keeps I l (f s d) (hs s d List.mem_cons_self h) fun s e he => hs s e (List.mem_cons_of_mem _ he)
theorem fold_two {α β γ : Type} {f : β → α → β} {g : γ → α → γ} (I : β → γ → Prop) : ∀ (l : List α) (s : β) (t : γ), I s t → (∀ s t d, d ∈ l → I s t → I (f s d) (g t d)) → I (l.foldl f s) (l.foldl g t)
  | [], _, _, h, _ => h
  | d :: l, s, t, h, hs => fold_two I l (f s d) (g t d) (hs s t d List.mem_cons_self h) fun s t e he => hs s t e (List.mem_cons_of_mem _ he)
/-! added, timesed, divided -/
theorem mx_nat (a b : Nat) : mx (a : Int) (b : Int) = ((max a b : Nat) : Int) := by unfold mx; split <;> omega
theorem padZ_len (r : Row) (n : Nat) (h : r.length ≤ n) : (padZ r (n : Int)).length = n := by
  unfold padZ
  rw [List.length_append, zeros_len]
  omega
theorem addP_raw_len (a b : Row) : ((padZ a (mx a.length b.length)).zip (padZ b (mx a.length b.length))).length = max a.length b.length := by
  rw [mx_nat, List.length_zip, padZ_len _ _ (Nat.le_max_left _ _), padZ_len _ _ (Nat.le_max_right _ _), Nat.min_self]
theorem rw_add {p : Int} (hp : 0 < p) {a b : Row} (ha : a.length ≤ 1000) (hb : b.length ≤ 1000) : Rw p (addP p a b) := by
  refine (rw_map hp (fun q : Int × Int => q.1 + q.2) _ ?_).trim
  rw [addP_raw_len]
  omega
theorem mulIn_len (p k h : Int) (f : Row) (q : Int × Int) : (mulIn p k h f q).length = f.length := setZ_len _ _ _
theorem mulIn_rw {p : Int} (hp : 0 < p) {k h : Int} {f : Row} (hf : Rw p f) (q : Int × Int) : Rw p (mulIn p k h f q) := setZ_rw hf (modp hp _).1 (modp hp _).2
theorem mulOut_rw {p : Int} (hp : 0 < p) {b f : Row} (hf : Rw p f) (q : Int × Int) : Rw p (mulOut p b f q) := fold_keeps (Rw p) _ _ hf fun s d _ h => mulIn_rw hp h d
theorem mulOut_len (p : Int) (b f : Row) (q : Int × Int) : (mulOut p b f q).length = f.length := fold_keeps (fun s : Row => s.length = f.length) _ _ rfl fun s d _ h => by rw [mulIn_len]; exact h
theorem rw_mul {p : Int} (hp : 0 < p) {a b : Row} (h : a.length + b.length ≤ 1000) : Rw p (mulP p a b) :=
  (fold_keeps (Rw p) _ _ (zeros_rw hp (by omega)) fun s d _ h => mulOut_rw hp h d : Rw p ((en 0 a).foldl (mulOut p b) (zeros ((a.length : Int) + b.length)))).trim
theorem mul_len {p : Int} (a b : Row) : (mulP p a b).length ≤ a.length + b.length := by
  refine Nat.le_trans (trim_len _) (Nat.le_of_eq ?_)
  have := fold_keeps (f := mulOut p b) (fun s : Row => s.length = a.length + b.length) (en 0 a) (zeros ((a.length : Int) + b.length)) (by rw [zeros_len]; omega) fun s d _ h => by rw [mulOut_len]; exact h
  exact this
theorem divIn_len (p k c : Int) (r : Row) (q : Int × Int) : (divIn p k c r q).length = r.length := setZ_len _ _ _
theorem divFold_len (p k c : Int) (b r : Row) (j : Nat) : ((en j b).foldl (divIn p k c) r).length = r.length := fold_keeps (fun s : Row => s.length = r.length) _ _ rfl fun s d _ h => by rw [divIn_len]; exact h
theorem divFold_rw {p : Int} (hp : 0 < p) {k c : Int} {b r : Row} (h : Rw p r) (j : Nat) : Rw p ((en j b).foldl (divIn p k c) r) := fold_keeps (Rw p) _ _ h fun s d _ h => setZ_rw h (modp hp _).1 (modp hp _).2
theorem divS_keeps {p : Int} (hp : 0 < p) {a b : Row} (ha : Rw p a) : (divS p a b).1.length = (divN a b).toNat ∧ Rw p (divS p a b).2 ∧ (divS p a b).2.length = a.length :=
  fold_keeps (fun s : Row × Row => s.1.length = (divN a b).toNat ∧ Rw p s.2 ∧ s.2.length = a.length) _ _ ⟨zeros_len _, ha, rfl⟩ fun s d _ h => ⟨by show (setZ _ _ _).length = _; rw [setZ_len]; exact h.1, divFold_rw hp h.2.1 0, by rw [← h.2.2]; exact divFold_len _ _ _ _ _ _⟩
theorem rw_rem {p : Int} (hp : 0 < p) {a b : Row} (ha : Rw p a) : Rw p (remP p a b) := (divS_keeps hp ha).2.1.trim
theorem rem_trim (p : Int) (a b : Row) : trim (remP p a b) = remP p a b := trim_trim _
end Rg
end
section
set_option linter.all false
/-! Coefficients modulo p, ideals, division. -/
namespace Rg
/-- congruent modulo p -/
def Cg (p a b : Int) : Prop := ∃ t, a = b + p * t
section
variable {p a b c d e : Int}
theorem Cg.refl (p a : Int) : Cg p a a := ⟨0, by grind⟩
theorem Cg.of (h : a = b) : Cg p a b := h ▸ Cg.refl p a
theorem Cg.symm (h : Cg p a b) : Cg p b a := let ⟨t, h⟩ := h; ⟨-t, by grind⟩
theorem Cg.trans (h : Cg p a b) (g : Cg p b c) : Cg p a c := let ⟨t, h⟩ := h; let ⟨u, g⟩ := g; ⟨t + u, by grind⟩
theorem Cg.add (h : Cg p a b) (g : Cg p c d) : Cg p (a + c) (b + d) := let ⟨t, h⟩ := h; let ⟨u, g⟩ := g; ⟨t + u, by grind⟩
theorem Cg.sub (h : Cg p a b) (g : Cg p c d) : Cg p (a - c) (b - d) := let ⟨t, h⟩ := h; let ⟨u, g⟩ := g; ⟨t - u, by grind⟩
theorem Cg.neg (h : Cg p a b) : Cg p (-a) (-b) := let ⟨t, h⟩ := h; ⟨-t, by grind⟩
theorem Cg.mul (h : Cg p a b) (g : Cg p c d) : Cg p (a * c) (b * d) := let ⟨t, h⟩ := h; let ⟨u, g⟩ := g; ⟨b * u + t * d + p * t * u, by grind⟩
theorem Cg.mod (p a : Int) : Cg p (a % p) a := ⟨-(a / p), by have := Int.emod_add_mul_ediv a p; grind⟩
theorem Cg.eq (h : Cg p a b) (h1 : 0 ≤ a) (h2 : a < p) (h3 : 0 ≤ b) (h4 : b < p) : a = b := by
  obtain ⟨t, h⟩ := h
  have e : a % p = b % p := by rw [h, Int.add_mul_emod_self_left]
  rwa [Int.emod_eq_of_lt h1 h2, Int.emod_eq_of_lt h3 h4] at e
theorem Cg.of_mod (h : a % p = b % p) : Cg p a b := ⟨a / p - b / p, by
  have h1 := Int.emod_add_mul_ediv a p
  have h2 := Int.emod_add_mul_ediv b p
  grind⟩
theorem Cg.zero (h : a % p = 0) : Cg p a 0 := Cg.of_mod (by rw [h, Int.zero_emod])
theorem Cg.mod0 (h : Cg p a 0) : a % p = 0 := by obtain ⟨t, h⟩ := h; rw [h, Int.zero_add, Int.mul_emod_right]
end
/-! ### coefficients -/
abbrev F := Nat → Int
def co (l : Row) : F := fun i => l.getD i 0
theorem co_nil (i : Nat) : co [] i = 0 := rfl
theorem co_out {l : Row} {i : Nat} (h : l.length ≤ i) : co l i = 0 := by unfold co; rw [List.getD_eq_getElem?_getD, List.getElem?_eq_none h]; rfl
theorem co_cons0 (a : Int) (l : Row) : co (a :: l) 0 = a := rfl
theorem co_cons (a : Int) (l : Row) (i : Nat) : co (a :: l) (i + 1) = co l i := rfl
theorem getZ_co (l : Row) (i : Nat) : getZ l (i : Int) = co l i := getZ_nat l i
theorem co_get {l : Row} {i : Nat} {x : Int} (h : l[i]? = some x) : co l i = x := by unfold co; rw [List.getD_eq_getElem?_getD, h]; rfl
theorem co_mem {l : Row} {i : Nat} (h : i < l.length) : co l i ∈ l := by
  rw [co_get (List.getElem?_eq_getElem h)]
  exact List.getElem_mem h
theorem co_setZ (l : Row) (j : Nat) (v : Int) (i : Nat) : co (setZ l (j : Int) v) i = if i = j ∧ j < l.length then v else co l i := by
  unfold co setZ
  rw [Int.toNat_natCast, List.getD_eq_getElem?_getD, List.getD_eq_getElem?_getD]
  by_cases h : i = j
  · subst h
    by_cases h2 : i < l.length
    · rw [List.getElem?_set_self h2, if_pos ⟨rfl, h2⟩]; rfl
    · rw [if_neg fun q => h2 q.2, List.getElem?_eq_none (by rw [List.length_set]; omega), List.getElem?_eq_none (by omega)]
  · rw [List.getElem?_set_ne (fun q => h q.symm), if_neg fun q => h q.1]
theorem co_map {α : Type} (f : α → Int) (l : List α) (i : Nat) : co (l.map f) i = (l[i]?.map f).getD 0 := by
  unfold co
  rw [List.getD_eq_getElem?_getD, List.getElem?_map]
theorem co_zeros (n : Int) (i : Nat) : co (zeros n) i = 0 := by
  unfold co zeros
  rw [List.getD_eq_getElem?_getD, List.getElem?_replicate]
  split <;> rfl
theorem co_trim : ∀ (l : Row) (i : Nat), co (trim l) i = co l i
  | [], _ => rfl
  | a :: r, i => by
    rw [trim_cons]
    split
    · rename_i h
      cases i with
      | zero => rw [co_cons0, h.2]; rfl
      | succ i =>
        rw [co_cons, ← co_trim r i, h.1]
        rfl
    · cases i with
      | zero => rfl
      | succ i => rw [co_cons, co_cons, co_trim r i]
theorem co_rw {p : Int} (hp : 0 < p) {l : Row} (h : Rw p l) (i : Nat) : 0 ≤ co l i ∧ co l i < p := by
  rw [← getZ_co]
  exact getZ_rw hp h _
/-- a trimmed row whose coefficients are 0 from m on is not longer than m -/
theorem trim_short : ∀ {l : Row} {m : Nat}, (∀ i, m ≤ i → co l i = 0) → (trim l).length ≤ m
  | [], m, _ => Nat.zero_le _
  | a :: r, 0, h => by
    have h1 := trim_short (l := r) (m := 0) fun i _ => h (i + 1) (Nat.zero_le _)
    have h2 : trim r = [] := List.eq_nil_of_length_eq_zero (Nat.le_zero.mp h1)
    rw [trim_cons, if_pos ⟨h2, h 0 (Nat.le_refl _)⟩]
    exact Nat.le_refl _
  | a :: r, m + 1, h => by
    have h1 := trim_short (l := r) (m := m) fun i hi => h (i + 1) (Nat.succ_le_succ hi)
    rw [trim_cons]
    split
    · exact Nat.zero_le _
    · rw [List.length_cons]; omega
theorem co_lst {r : Row} (h : r ≠ []) : co r (r.length - 1) = lst r := by
  have hl : 0 < r.length := List.length_pos_iff.mpr h
  unfold co lst
  rw [List.getD_eq_getElem?_getD, List.getLastD_eq_getLast?, List.getLast?_eq_getElem?]
/-! ### shifts, ideals -/
def sh (f : F) : F := fun n => match n with
  | 0 => 0
  | n + 1 => f n
def shk (k : Nat) (f : F) : F := fun n => if n < k then 0 else f (n - k)
theorem shk_zero (f : F) : shk 0 f = f := by funext n; unfold shk; rw [if_neg (Nat.not_lt_zero _)]; rfl
theorem shk_succ (k : Nat) (f : F) : shk (k + 1) f = sh (shk k f) := by
  funext n
  cases n with
  | zero => unfold shk sh; rw [if_pos (Nat.succ_pos _)]
  | succ n =>
    show (if n + 1 < k + 1 then 0 else f (n + 1 - (k + 1))) = if n < k then 0 else f (n - k)
    rw [Nat.add_sub_add_right]
    by_cases h : n < k
    · rw [if_pos h, if_pos (Nat.succ_lt_succ h)]
    · rw [if_neg h, if_neg (fun q => h (Nat.lt_of_succ_lt_succ q))]
inductive In (p : Int) (S : F → Prop) : F → Prop
  | gen {f : F} : S f → In p S f
  | zero : In p S (fun _ => 0)
  | add {f g : F} : In p S f → In p S g → In p S (fun n => f n + g n)
  | smul (c : Int) {f : F} : In p S f → In p S (fun n => c * f n)
  | sh {f : F} : In p S f → In p S (sh f)
  | cg {f g : F} : In p S f → (∀ n, Cg p (f n) (g n)) → In p S g
section
variable {p : Int} {S T : F → Prop} {f g : F}
theorem In.eq (h : In p S f) (e : ∀ n, f n = g n) : In p S g := h.cg fun n => Cg.of (e n)
theorem In.sub (h : In p S f) (k : In p S g) : In p S (fun n => f n - g n) := (h.add (k.smul (-1))).eq fun n => by grind
theorem In.shk (k : Nat) (h : In p S f) : In p S (shk k f) := by
  induction k with
  | zero => rw [shk_zero]; exact h
  | succ k ih => rw [shk_succ]; exact ih.sh
theorem In.mono (h : In p S f) (hs : ∀ g, S g → In p T g) : In p T f := by
  induction h with
  | gen h => exact hs _ h
  | zero => exact .zero
  | add _ _ h1 h2 => exact h1.add h2
  | smul c _ h => exact h.smul c
  | sh _ h => exact h.sh
  | cg _ e h => exact h.cg e
/-- the one from the other -/
theorem In.of_sub (h : In p S (fun n => f n - g n)) (k : In p S g) : In p S f := (h.add k).eq fun n => by grind
theorem In.of_sub' (h : In p S (fun n => f n - g n)) (k : In p S f) : In p S g := (k.sub h).eq fun n => by grind
end
/-- made by rows -/
def Gs (rows : List Row) : F → Prop := fun f => ∃ r ∈ rows, f = co r
/-! ### division -/
theorem divFold_co (p c : Int) (k : Nat) : ∀ (b : Row) (j : Nat) (r : Row), k + j + b.length ≤ r.length → ∀ i, co ((en j b).foldl (divIn p (k : Int) c) r) i = if k + j ≤ i ∧ i < k + j + b.length then (co r i - c * co b (i - (k + j))) % p else co r i
  | [], j, r, _, i => by
    rw [if_neg (by rw [List.length_nil]; omega)]
    rfl
  | x :: b, j, r, h, i => by
    rw [List.length_cons] at h
    show co ((en (j + 1) b).foldl (divIn p (k : Int) c) (divIn p (k : Int) c r ((j : Int), x))) i = _
    have hs : ∀ i, co (divIn p (k : Int) c r ((j : Int), x)) i = if i = k + j then (co r i - c * x) % p else co r i := fun i => by
      have e : divIn p (k : Int) c r ((j : Int), x) = setZ r ((k + j : Nat) : Int) ((getZ r ((k + j : Nat) : Int) - c * x) % p) := by
        unfold divIn
        rw [show ((k + j : Nat) : Int) = (k : Int) + (j : Int) by omega]
      rw [e, co_setZ, getZ_co]
      by_cases hi : i = k + j
      · subst hi
        rw [if_pos ⟨rfl, by omega⟩, if_pos rfl]
      · rw [if_neg fun q => hi q.1, if_neg hi]
    have hl : (divIn p (k : Int) c r ((j : Int), x)).length = r.length := divIn_len _ _ _ _ _
    rw [divFold_co p c k b (j + 1) _ (by rw [hl]; omega) i, hs, List.length_cons]
    by_cases h1 : i = k + j
    · subst h1
      rw [if_neg (by omega), if_pos rfl, if_pos ⟨by omega, by omega⟩, Nat.sub_self]
      rfl
    · rw [if_neg h1]
      by_cases h2 : k + (j + 1) ≤ i ∧ i < k + (j + 1) + b.length
      · rw [if_pos h2, if_pos ⟨by omega, by omega⟩, show i - (k + j) = (i - (k + (j + 1))) + 1 by omega, co_cons]
      · rw [if_neg h2, if_neg (by omega)]
theorem divFold_cg (p c : Int) (k : Nat) (b r : Row) (h : k + b.length ≤ r.length) (i : Nat) : Cg p (co ((en 0 b).foldl (divIn p (k : Int) c) r) i) (co r i - c * shk k (co b) i) := by
  rw [divFold_co p c k b 0 r (by omega) i]
  unfold shk
  by_cases h1 : k + 0 ≤ i ∧ i < k + 0 + b.length
  · rw [if_pos h1, if_neg (by omega), show i - (k + 0) = i - k by omega]
    exact Cg.mod _ _
  · rw [if_neg h1]
    by_cases h2 : i < k
    · rw [if_pos h2]; exact Cg.of (by grind)
    · rw [if_neg h2, co_out (l := b) (by omega)]; exact Cg.of (by grind)
/-- the division's rest, from the step that is at hand down -/
theorem divS_go {p : Int} (hp : Pr p) {b : Row} (hne : b ≠ []) (hb : Rw p b) (hl : lst b ≠ 0) (n0 : Nat) : ∀ (n : Nat) (s : Row × Row), n ≤ n0 → n0 + b.length ≤ s.2.length + 1 → (∀ i, n + b.length - 1 ≤ i → co s.2 i = 0) →
    let t := ((List.range n).map fun (i : Nat) => (n : Int) - 1 - (i : Int)).foldl (divOut p (inv p (lst b)) b) s
    (∀ i, b.length - 1 ≤ i → co t.2 i = 0) ∧ In p (Gs [b]) (fun i => co s.2 i - co t.2 i)
  | 0, s, _, _, hz => ⟨fun i hi => hz i (by omega), In.zero.eq fun i => by simp⟩
  | n + 1, s, hn, hlen, hz => by
    have hp0 := hp.pos
    have hbl : 0 < b.length := List.length_pos_iff.mpr hne
    have hm := hb.1 _ (lst_mem hne)
    have hi := inv_all (c := lst b) hp (by omega) hm.2
    have e : ((List.range (n + 1)).map fun (i : Nat) => ((n + 1 : Nat) : Int) - 1 - (i : Int)) = (n : Int) :: (List.range n).map fun (i : Nat) => (n : Int) - 1 - (i : Int) := by
      rw [List.range_succ_eq_map, List.map_cons, List.map_map]
      congr 1
      · show ((n + 1 : Nat) : Int) - 1 - ((0 : Nat) : Int) = (n : Int)
        omega
      · apply List.map_congr_left
        intro i _
        show ((n + 1 : Nat) : Int) - 1 - ((i + 1 : Nat) : Int) = (n : Int) - 1 - (i : Int)
        omega
    rw [e, List.foldl_cons]
    have h2 : (divOut p (inv p (lst b)) b s (n : Int)).2 = (en 0 b).foldl (divIn p (n : Int) (divC p (inv p (lst b)) b s.2 (n : Int))) s.2 := rfl
    have hle : n + b.length ≤ s.2.length := by omega
    have hl2 : (divOut p (inv p (lst b)) b s (n : Int)).2.length = s.2.length := by rw [h2, divFold_len]
    have key : divC p (inv p (lst b)) b s.2 (n : Int) = co s.2 (n + b.length - 1) * inv p (lst b) % p := by
      unfold divC
      rw [show (n : Int) + b.length - 1 = ((n + b.length - 1 : Nat) : Int) by omega, getZ_co]
    have ih := divS_go hp hne hb hl n0 n (divOut p (inv p (lst b)) b s (n : Int)) (by omega) (by rw [hl2]; exact hlen) (fun i h => by
      rw [h2, divFold_co p _ n b 0 s.2 (by omega) i]
      by_cases h3 : n + 0 ≤ i ∧ i < n + 0 + b.length
      · have hi2 : i = n + b.length - 1 := by omega
        rw [if_pos h3, key, hi2, show n + b.length - 1 - (n + 0) = b.length - 1 by omega, co_lst hne]
        apply Cg.mod0
        obtain ⟨t, ht⟩ := Cg.mod p (co s.2 (n + b.length - 1) * inv p (lst b))
        obtain ⟨u, hu⟩ : Cg p (inv p (lst b) * lst b) 1 := (Cg.mod p _).symm.trans (Cg.of hi.2.1)
        exact ⟨-(co s.2 (n + b.length - 1) * u) - t * lst b, by rw [ht]; grind⟩
      · rw [if_neg h3]
        exact hz i (by omega))
    refine ⟨ih.1, ?_⟩
    have hstep : In p (Gs [b]) (fun i => co s.2 i - co (divOut p (inv p (lst b)) b s (n : Int)).2 i) := by
      refine (((In.gen (p := p) (S := Gs [b]) ⟨b, List.mem_singleton.mpr rfl, rfl⟩).shk n).smul (divC p (inv p (lst b)) b s.2 (n : Int))).cg fun i => ?_
      rw [h2]
      have := divFold_cg p (divC p (inv p (lst b)) b s.2 (n : Int)) n b s.2 hle i
      obtain ⟨t, ht⟩ := this
      exact ⟨t, by rw [ht]; grind⟩
    exact (hstep.add ih.2).eq fun i => by grind
theorem div_spec {p : Int} (hp : Pr p) {a b : Row} (hne : b ≠ []) (hb : Rw p b) (hl : lst b ≠ 0) : (remP p a b).length < b.length ∧ In p (Gs [b]) (fun i => co a i - co (remP p a b) i) := by
  have hbl : 0 < b.length := List.length_pos_iff.mpr hne
  have hN : divN a b = if (a.length : Int) - b.length + 1 > 0 then (a.length : Int) - b.length + 1 else 0 := rfl
  by_cases h0 : (a.length : Int) - b.length + 1 > 0
  · rw [if_pos h0] at hN
    have h := divS_go hp hne hb hl (divN a b).toNat (divN a b).toNat (zeros (divN a b), a) (Nat.le_refl _) (by show _ ≤ a.length + 1; omega) (fun i hi => co_out (by show a.length ≤ i; omega))
    refine ⟨Nat.lt_of_le_of_lt (trim_short (m := b.length - 1) h.1) (by omega), h.2.eq fun i => ?_⟩
    show co a i - co (divS p a b).2 i = co a i - co (trim (divS p a b).2) i
    rw [co_trim]
  · rw [if_neg h0] at hN
    have e : divS p a b = (zeros (divN a b), a) := by
      unfold divS
      rw [hN]
      rfl
    have er : remP p a b = trim a := by unfold remP divP; rw [e]
    rw [er]
    exact ⟨Nat.lt_of_le_of_lt (trim_len a) (by omega), In.zero.eq fun i => by rw [co_trim]; grind⟩
theorem rem_len {p : Int} (hp : Pr p) {a b : Row} (hne : b ≠ []) (hb : Rw p b) (hl : lst b ≠ 0) : (remP p a b).length < b.length := (div_spec hp hne hb hl).1
end Rg
end
section
set_option linter.all false
/-! Rules as rows; greatest common divisors' bounds. -/
namespace Rg
/-- trimmed colours -/
def Tr (p : Int) (r : Row) : Prop := Rw p r ∧ trim r = r
theorem Tr.nil (p : Int) : Tr p [] := ⟨⟨fun _ h => (nomatch h), Nat.zero_le _⟩, rfl⟩
theorem Tr.lst {p : Int} {r : Row} (h : Tr p r) (hn : r ≠ []) : Rg.lst r ≠ 0 := lst_trim h.2 hn
theorem tr_rem {p : Int} (hp : Pr p) {a : Row} (ha : Rw p a) (b : Row) : Tr p (remP p a b) := ⟨rw_rem hp.pos ha, rem_trim _ _ _⟩
theorem tr_scal {p : Int} (hp : Pr p) {r : Row} (h : r.length ≤ 1000) (c : Int) : Tr p (scal p r c) := ⟨rw_scal hp.pos h c, trim_trim _⟩
theorem tr_mon {p : Int} (hp : Pr p) {r : Row} (h : r.length ≤ 1000) : Tr p (mon p r) := tr_scal hp h _
theorem tr_add {p : Int} (hp : Pr p) {a b : Row} (ha : a.length ≤ 1000) (hb : b.length ≤ 1000) : Tr p (addP p a b) := ⟨rw_add hp.pos ha hb, trim_trim _⟩
theorem mon_len (p : Int) (r : Row) : (mon p r).length ≤ r.length := scal_len _ _ _
theorem gcdGo_tr {p : Int} (hp : Pr p) : ∀ (n : Nat) (a b : Row), Tr p a → Tr p b → Tr p (gcdGo p n a b) ∧ (gcdGo p n a b).length ≤ max a.length b.length
  | 0, a, b, ha, _ => ⟨ha, Nat.le_max_left _ _⟩
  | n + 1, a, b, ha, hb => by
    show Tr p (if b = [] then a else gcdGo p n b (remP p a b)) ∧ (if b = [] then a else gcdGo p n b (remP p a b)).length ≤ _
    by_cases h : b = []
    · rw [if_pos h]; exact ⟨ha, Nat.le_max_left _ _⟩
    · rw [if_neg h]
      have ih := gcdGo_tr hp n b (remP p a b) hb (tr_rem hp ha.1 b)
      have := rem_len (a := a) hp h hb.1 (hb.lst h)
      exact ⟨ih.1, by omega⟩
theorem gcdE_tr {p : Int} (hp : Pr p) {a b : Row} (ha : Tr p a) (hb : Tr p b) : Tr p (gcdE p a b) ∧ (gcdE p a b).length ≤ max a.length b.length := gcdGo_tr hp _ a b ha hb
theorem gcd2_tr {p : Int} (hp : Pr p) {a b : Row} (ha : Tr p a) (hb : Tr p b) : Tr p (gcd2 p a b) ∧ (gcd2 p a b).length ≤ max a.length b.length := by
  have h := gcdE_tr hp ha hb
  unfold gcd2
  split
  · exact ⟨Tr.nil p, Nat.zero_le _⟩
  · exact ⟨tr_mon hp h.1.1.2, Nat.le_trans (mon_len _ _) h.2⟩
theorem gcdAll_tr {p : Int} (hp : Pr p) {rows : List Row} (h : ∀ r ∈ rows, Tr p r) {m : Nat} (hm : ∀ r ∈ rows, r.length ≤ m) : Tr p (gcdAll p rows) ∧ (gcdAll p rows).length ≤ m :=
  fold_keeps (fun s : Row => Tr p s ∧ s.length ≤ m) rows [] ⟨Tr.nil p, Nat.zero_le _⟩ fun s d hd hs => by
    have := gcd2_tr hp hs.1 (h d hd)
    exact ⟨this.1, by have := hm d hd; omega⟩
theorem powGo_tr {p : Int} (hp : Pr p) {m : Row} (hm : Tr p m) (hn : m ≠ []) (hl : m.length ≤ 400) : ∀ (k n : Nat) (f s : Row), Rw p f → f.length < m.length → trim f = f → Rw p s → s.length < m.length → Tr p (powGo p m k n f s) ∧ (powGo p m k n f s).length < m.length
  | 0, n, f, s, h1, h2, h3, _, _ => ⟨⟨h1, h3⟩, h2⟩
  | k + 1, n, f, s, h1, h2, h3, h4, h5 => by
    show Tr p (if n = 0 then f else powGo p m k (n / 2) (if n % 2 = 1 then remP p (mulP p f s) m else f) (remP p (mulP p s s) m)) ∧ (if n = 0 then f else powGo p m k (n / 2) (if n % 2 = 1 then remP p (mulP p f s) m else f) (remP p (mulP p s s) m)).length < _
    by_cases h : n = 0
    · rw [if_pos h]; exact ⟨⟨h1, h3⟩, h2⟩
    · rw [if_neg h]
      have g1 : Rw p (mulP p f s) := rw_mul hp.pos (by omega)
      have g2 : Rw p (mulP p s s) := rw_mul hp.pos (by omega)
      have q2 := tr_rem hp g2 m
      have l2 := rem_len (a := mulP p s s) hp hn hm.1 (hm.lst hn)
      by_cases ho : n % 2 = 1
      · rw [if_pos ho]
        have q1 := tr_rem hp g1 m
        have l1 := rem_len (a := mulP p f s) hp hn hm.1 (hm.lst hn)
        exact powGo_tr hp hm hn hl k (n / 2) _ _ q1.1 l1 q1.2 q2.1 l2
      · rw [if_neg ho]
        exact powGo_tr hp hm hn hl k (n / 2) _ _ h1 h2 h3 q2.1 l2
theorem powGo_zero (p : Int) (m : Row) (k : Nat) (f s : Row) : powGo p m k 0 f s = f := by
  cases k with
  | zero => rfl
  | succ k => show (if (0 : Nat) = 0 then f else _) = f; rw [if_pos rfl]
theorem rw_one {p : Int} (hp : Pr p) : Rw p [1] := ⟨fun x hx => by have := hp.two; have := List.mem_singleton.mp hx; omega, by decide⟩
theorem rw_x {p : Int} (hp : Pr p) : Rw p [0, 1] := ⟨fun x hx => by
  have := hp.two
  rcases List.mem_cons.mp hx with h | h
  · omega
  · have := List.mem_singleton.mp h; omega, by show 2 ≤ 1000; omega⟩
theorem powX_tr {p : Int} (hp : Pr p) {m : Row} (hm : Tr p m) (hn : m ≠ []) (hl : m.length ≤ 400) (n : Nat) : Tr p (powX p n m) ∧ (powX p n m).length < m.length := by
  have q1 := tr_rem hp (rw_one hp) m
  have q2 := tr_rem hp (rw_x hp) m
  exact powGo_tr hp hm hn hl n n _ _ q1.1 (rem_len hp hn hm.1 (hm.lst hn)) q1.2 q2.1 (rem_len hp hn hm.1 (hm.lst hn))
/-! ### rules -/
theorem asc_head : ∀ {q : Int × Int} {r : Rule}, (∀ z ∈ (q :: r).zip ((q :: r).drop 1), z.1.1 < z.2.1) → ∀ z ∈ r, q.1 < z.1
  | q, [], _, z, hz => nomatch hz
  | q, x :: r, h, z, hz => by
    have h0 : q.1 < x.1 := h (q, x) List.mem_cons_self
    rcases List.mem_cons.mp hz with rfl | hz
    · exact h0
    · have := asc_head (q := x) (r := r) (fun z hz => h z (List.mem_cons_of_mem _ hz)) z hz
      omega
theorem asc_tail {q : Int × Int} {r : Rule} (h : ∀ z ∈ (q :: r).zip ((q :: r).drop 1), z.1.1 < z.2.1) : ∀ z ∈ r.zip (r.drop 1), z.1.1 < z.2.1 := by
  cases r with
  | nil => intro z hz; simp at hz
  | cons x t => exact fun z hz => h z (List.mem_cons_of_mem _ hz)
theorem asc_last : ∀ {r : Rule}, r ≠ [] → (∀ z ∈ r.zip (r.drop 1), z.1.1 < z.2.1) → ∀ z ∈ r, z.1 ≤ mostOf r
  | [], hn, _, _, _ => absurd rfl hn
  | q :: r, _, h, z, hz => by
    have e : r ≠ [] → mostOf (q :: r) = mostOf r := fun e => by
      cases r with
      | nil => exact absurd rfl e
      | cons x t => rfl
    by_cases er : r = []
    · subst er
      have := List.mem_singleton.mp hz
      subst this
      exact Int.le_refl _
    · rw [e er]
      rcases List.mem_cons.mp hz with rfl | hz
      · obtain ⟨y, t, rfl⟩ : ∃ y t, r = y :: t := by cases r with
          | nil => exact absurd rfl er
          | cons y t => exact ⟨y, t, rfl⟩
        have h1 := asc_head h y List.mem_cons_self
        have h2 := asc_last (r := y :: t) (by simp) (asc_tail h) y List.mem_cons_self
        omega
      · exact asc_last er (asc_tail h) z hz
theorem asc_least {r : Rule} (h : ∀ z ∈ r.zip (r.drop 1), z.1.1 < z.2.1) (z : Int × Int) (hz : z ∈ r) : leastOf r ≤ z.1 := by
  cases r with
  | nil => cases hz
  | cons q t =>
    rcases List.mem_cons.mp hz with rfl | hz
    · exact Int.le_refl _
    · exact Int.le_of_lt (asc_head h z hz)
theorem most_mem {r : Rule} (h : r ≠ []) : ∃ a, (mostOf r, a) ∈ r ∧ r.getLastD (0, 0) = (mostOf r, a) := by
  refine ⟨(r.getLastD (0, 0)).2, ?_, rfl⟩
  have : r.getLastD (0, 0) ∈ r := by
    rw [List.getLastD_eq_getLast?, List.getLast?_eq_getLast h]
    exact List.getLast_mem h
  exact this
theorem ruleIn_len (l : Int) (f : Row) (q : Int × Int) : (ruleIn l f q).length = f.length := setZ_len _ _ _
theorem ruleFold_len (l : Int) (r : Rule) (f : Row) : (r.foldl (ruleIn l) f).length = f.length := fold_keeps (fun s : Row => s.length = f.length) _ _ rfl fun s d _ h => by rw [ruleIn_len]; exact h
theorem ruleRow_len {p : Int} {r : Rule} (h : RuleV p r) : ((ruleRow r).length : Int) = mostOf r - leastOf r + 1 ∧ leastOf r ≤ mostOf r ∧ -4 ≤ leastOf r ∧ mostOf r ≤ 4 := by
  obtain ⟨h1, h2, h3, h4⟩ := h
  obtain ⟨a, ha, _⟩ := most_mem h4
  have hl := asc_least h2 _ ha
  have hm := h1 _ ha
  have hL : -4 ≤ leastOf r := by
    cases r with
    | nil => exact absurd rfl h4
    | cons q t => exact (h1 q List.mem_cons_self).1
  unfold ruleRow
  rw [ruleFold_len, zeros_len]
  simp only at hl hm
  omega
theorem ruleRow_rw {p : Int} (hp : 0 < p) {r : Rule} (h : RuleV p r) : Rw p (ruleRow r) := by
  have hl := ruleRow_len h
  refine fold_keeps (Rw p) _ _ (zeros_rw hp (by omega)) fun s d hd hs => setZ_rw hs ?_ ?_
  · have := h.1 d hd; omega
  · have := h.1 d hd; omega
theorem ruleRow_lst {p : Int} {r : Rule} (h : RuleV p r) : ruleRow r ≠ [] ∧ ∃ a, (mostOf r, a) ∈ r ∧ lst (ruleRow r) = a := by
  have hl := ruleRow_len h
  have hne : ruleRow r ≠ [] := fun e => by rw [e] at hl; simp at hl; omega
  obtain ⟨a, ha, hg⟩ := most_mem h.2.2.2
  refine ⟨hne, a, ha, ?_⟩
  rw [← co_lst hne]
  have e1 : (ruleRow r).length - 1 = (mostOf r - leastOf r).toNat := by omega
  rw [e1]
  have e2 : r = r.dropLast ++ [(mostOf r, a)] := by
    have := List.dropLast_concat_getLast h.2.2.2
    rw [List.getLastD_eq_getLast?, List.getLast?_eq_getLast h.2.2.2] at hg
    rw [← show r.getLast h.2.2.2 = (mostOf r, a) from hg]
    exact this.symm
  have e3 : ruleRow r = setZ (r.dropLast.foldl (ruleIn (leastOf r)) (zeros (mostOf r - leastOf r + 1))) (((mostOf r - leastOf r).toNat : Nat) : Int) a := by
    have e4 : r.foldl (ruleIn (leastOf r)) (zeros (mostOf r - leastOf r + 1)) = (r.dropLast ++ [(mostOf r, a)]).foldl (ruleIn (leastOf r)) (zeros (mostOf r - leastOf r + 1)) := congrArg (fun l : Rule => l.foldl (ruleIn (leastOf r)) (zeros (mostOf r - leastOf r + 1))) e2
    unfold ruleRow
    rw [e4, List.foldl_append]
    show setZ _ (mostOf r - leastOf r) a = _
    rw [show (((mostOf r - leastOf r).toNat : Nat) : Int) = mostOf r - leastOf r by omega]
  rw [e3, co_setZ, if_pos ⟨rfl, by rw [ruleFold_len, zeros_len]; omega⟩]
theorem core_ok {p : Int} (hp : Pr p) {r : Rule} (h : RuleV p r) : Rw p (ruleRow r) ∧ ruleRow r ≠ [] ∧ lst (ruleRow r) ≠ 0 := by
  obtain ⟨hn, a, ha, hl⟩ := ruleRow_lst h
  exact ⟨ruleRow_rw hp.pos h, hn, by have := h.1 _ ha; simp only at this; omega⟩
theorem core_tr {p : Int} (hp : Pr p) {r : Rule} (h : RuleV p r) : Tr p (core p r) ∧ (core p r).length ≤ 9 := by
  have h1 := core_ok hp h
  have hl := ruleRow_len h
  exact ⟨tr_mon hp h1.1.2, Nat.le_trans (mon_len _ _) (by omega)⟩
end Rg
end
section
set_option linter.all false
/-! The generator is there; rings' lengths. -/
namespace Rg
theorem mon_eq {p : Int} (hp : Pr p) {r : Row} (hr : Rw p r) (hn : r ≠ []) (hl : lst r ≠ 0) : mon p r = r.map (fun x => x * inv p (lst r) % p) ∧ lst (mon p r) = 1 := by
  have hm := hr.1 _ (lst_mem hn)
  have hi := inv_all (c := lst r) hp (by omega) hm.2
  have e : r = r.dropLast ++ [lst r] := by
    have h1 := List.dropLast_concat_getLast hn
    have h2 : lst r = r.getLast hn := by unfold lst; rw [List.getLastD_eq_getLast?, List.getLast?_eq_getLast hn]; rfl
    rw [h2]; exact h1.symm
  have h1 : lst r * inv p (lst r) % p = 1 := by rw [Int.mul_comm]; exact hi.2.1
  have h2 : r.map (fun x => x * inv p (lst r) % p) = r.dropLast.map (fun x => x * inv p (lst r) % p) ++ [1] := by
    have := congrArg (List.map fun x => x * inv p (lst r) % p) e
    rw [List.map_append, List.map_singleton, h1] at this
    exact this
  have h3 : mon p r = r.map (fun x => x * inv p (lst r) % p) := by
    unfold mon scal
    rw [h2, trim_snoc (by decide)]
  refine ⟨h3, ?_⟩
  rw [h3, h2]
  unfold lst
  rw [List.getLastD_eq_getLast?, List.getLast?_append]
  rfl
theorem mon_ne {p : Int} (hp : Pr p) {r : Row} (hr : Rw p r) (hn : r ≠ []) (hl : lst r ≠ 0) : mon p r ≠ [] := by
  rw [(mon_eq hp hr hn hl).1]
  simpa using hn
theorem gcdGo_ne {p : Int} (hp : Pr p) : ∀ (n : Nat) (a b : Row), Tr p a → Tr p b → (a ≠ [] ∨ b ≠ []) → b.length < n → gcdGo p n a b ≠ []
  | 0, _, _, _, _, _, h => absurd h (Nat.not_lt_zero _)
  | n + 1, a, b, ha, hb, h, hn => by
    show (if b = [] then a else gcdGo p n b (remP p a b)) ≠ []
    by_cases h0 : b = []
    · rw [if_pos h0]
      rcases h with h | h
      · exact h
      · exact absurd h0 h
    · rw [if_neg h0]
      have hl := rem_len (a := a) hp h0 hb.1 (hb.lst h0)
      exact gcdGo_ne hp n b (remP p a b) hb (tr_rem hp ha.1 b) (.inl h0) (by omega)
theorem gcd2_ne {p : Int} (hp : Pr p) {a b : Row} (ha : Tr p a) (hb : Tr p b) (h : a ≠ [] ∨ b ≠ []) : gcd2 p a b ≠ [] := by
  have h1 : gcdE p a b ≠ [] := gcdGo_ne hp (b.length + 1) a b ha hb h (Nat.lt_succ_self _)
  have h2 := (gcdE_tr hp ha hb).1
  unfold gcd2
  rw [if_neg h1]
  exact mon_ne hp h2.1 h1 (h2.lst h1)
theorem gcdAll_ne {p : Int} (hp : Pr p) {rows : List Row} (h : ∀ r ∈ rows, Tr p r) (hn : ∃ r ∈ rows, r ≠ []) : gcdAll p rows ≠ [] := by
  have go : ∀ (rows : List Row) (s : Row), Tr p s → (∀ r ∈ rows, Tr p r) → (s ≠ [] ∨ ∃ r ∈ rows, r ≠ []) → rows.foldl (gcd2 p) s ≠ [] := by
    intro rows
    induction rows with
    | nil =>
      intro s _ _ h
      rcases h with h | ⟨r, hr, _⟩
      · exact h
      · cases hr
    | cons r rows ih =>
      intro s hs ht h
      have t := (gcd2_tr hp hs (ht r List.mem_cons_self)).1
      refine ih (gcd2 p s r) t (fun x hx => ht x (List.mem_cons_of_mem _ hx)) ?_
      rcases h with h | ⟨x, hx, h⟩
      · exact .inl (gcd2_ne hp hs (ht r List.mem_cons_self) (.inl h))
      · rcases List.mem_cons.mp hx with rfl | hx
        · exact .inl (gcd2_ne hp hs (ht x List.mem_cons_self) (.inr h))
        · exact .inr ⟨x, hx, h⟩
  exact go rows [] (Tr.nil p) h (.inr hn)
theorem add_len (p : Int) (a b : Row) : (addP p a b).length ≤ max a.length b.length := by
  refine Nat.le_trans (trim_len _) (Nat.le_of_eq ?_)
  rw [List.length_map, addP_raw_len]
theorem cores_tr {P : Panel} (h : PanelV P) : ∀ r ∈ P.2.map (core P.1), Tr P.1 r ∧ r.length ≤ 9 ∧ r ≠ [] := by
  intro r hr
  obtain ⟨b, hb, rfl⟩ := List.mem_map.mp hr
  have h1 := core_ok h.1 (h.2.1 b hb)
  exact ⟨(core_tr h.1 (h.2.1 b hb)).1, (core_tr h.1 (h.2.1 b hb)).2, mon_ne h.1 h1.1 h1.2.1 h1.2.2⟩
theorem gener_ok {P : Panel} (h : PanelV P) : Tr P.1 (gener P) ∧ gener P ≠ [] ∧ (gener P).length ≤ 9 := by
  have hc := cores_tr h
  have h1 := gcdAll_tr h.1 (fun r hr => (hc r hr).1) (m := 9) fun r hr => (hc r hr).2.1
  refine ⟨h1.1, gcdAll_ne h.1 (fun r hr => (hc r hr).1) ?_, h1.2⟩
  obtain ⟨b, hb⟩ := List.exists_mem_of_ne_nil _ h.2.2.1
  exact ⟨core P.1 b, List.mem_map.mpr ⟨b, hb, rfl⟩, (hc _ (List.mem_map.mpr ⟨b, hb, rfl⟩)).2.2⟩
theorem rw_m1 {p : Int} (hp : Pr p) : Rw p [p - 1] := ⟨fun x hx => by have := hp.two; have := List.mem_singleton.mp hx; omega, by show 1 ≤ 1000; omega⟩
theorem divRest_ok {P : Panel} (h : PanelV P) (n : Nat) : Rw P.1 (addP P.1 (powX P.1 n (gener P)) [P.1 - 1]) ∧ (addP P.1 (powX P.1 n (gener P)) [P.1 - 1]).length ≤ 9 := by
  have hg := gener_ok h
  have h1 := powX_tr h.1 hg.1 hg.2.1 (by omega) n
  have h2 := add_len P.1 (powX P.1 n (gener P)) [P.1 - 1]
  have h3 := List.length_pos_iff.mpr hg.2.1
  exact ⟨rw_add h.1.pos h1.1.1.2 (by show 1 ≤ 1000; omega), by rw [List.length_singleton] at h2; omega⟩
theorem divRows_tr {P : Panel} (h : PanelV P) (n : Nat) : ∀ r ∈ [gener P, remP P.1 (addP P.1 (powX P.1 n (gener P)) [P.1 - 1]) (gener P)], Tr P.1 r ∧ r.length ≤ 9 := by
  have hg := gener_ok h
  have h1 := divRest_ok h n
  intro r hr
  rcases List.mem_cons.mp hr with rfl | hr
  · exact ⟨hg.1, hg.2.2⟩
  · have hr := List.mem_singleton.mp hr
    subst hr
    exact ⟨tr_rem h.1 h1.1 _, Nat.le_of_lt (Nat.lt_of_lt_of_le (rem_len h.1 hg.2.1 hg.1.1 (hg.1.lst hg.2.1)) hg.2.2)⟩
theorem divOn_ok {P : Panel} (h : PanelV P) (n : Nat) : Tr P.1 (divOn P n) ∧ divOn P n ≠ [] ∧ (divOn P n).length ≤ 9 := by
  have hr := divRows_tr h n
  have h1 := gcdAll_tr h.1 (fun r hr' => (hr r hr').1) (m := 9) fun r hr' => (hr r hr').2
  exact ⟨h1.1, gcdAll_ne h.1 (fun r hr' => (hr r hr').1) ⟨gener P, List.mem_cons_self, (gener_ok h).2.1⟩, h1.2⟩
theorem restIn_tr {p : Int} (hp : Pr p) {d f : Row} (hd : Tr p d) (hn : d ≠ []) (hl : d.length ≤ 400) (hf : Tr p f) (hfl : f.length ≤ d.length) (q : Int × Int) : Tr p (restIn p d f q) ∧ (restIn p d f q).length ≤ d.length := by
  have h1 := powX_tr hp hd hn hl q.1.toNat
  have h2 := scal_len p (powX p q.1.toNat d) q.2
  have h3 := add_len p f (scal p (powX p q.1.toNat d) q.2)
  exact ⟨tr_add hp hf.1.2 (by omega), by unfold restIn; omega⟩
/-! rings -/
theorem pressIn_len (p a t : Int) (f : Row) (q : Int × Int) : (pressIn p a t f q).length = f.length := setZ_len _ _ _
theorem behind_len (p : Int) (ring : Row) (b : Rule) (a t : Int) : (behind p ring b a t).length = ring.length := fold_keeps (fun s : Row => s.length = ring.length) _ _ rfl fun s d _ h => by rw [pressIn_len]; exact h
theorem behind_rw {p : Int} (hp : 0 < p) {ring : Row} (h : Rw p ring) (b : Rule) (a t : Int) : Rw p (behind p ring b a t) := fold_keeps (Rw p) _ _ h fun s d _ h => setZ_rw h (modp hp _).1 (modp hp _).2
theorem less_len (p : Int) (a b : Row) (t : Int) : (less p a b t).length = min a.length b.length := by unfold less; rw [List.length_map, List.length_zip]
theorem less_rw {p : Int} (hp : 0 < p) {a b : Row} (h : a.length ≤ 1000) (t : Int) : Rw p (less p a b t) := rw_map hp (fun q : Int × Int => q.1 - t * q.2) _ (by rw [List.length_zip]; omega)
/-- a basis over rings of n lamps, mixes of m presses -/
def BasisV (p : Int) (n m : Nat) (bs : Basis) : Prop := ∀ b ∈ bs, 0 ≤ b.1 ∧ b.1 < n ∧ Rw p b.2.1 ∧ b.2.1.length = n ∧ Rw p b.2.2 ∧ b.2.2.length = m
def StV (p : Int) (n m : Nat) (s : Row × Row) : Prop := Rw p s.1 ∧ s.1.length = n ∧ Rw p s.2 ∧ s.2.length = m
theorem lessIn_v {p : Int} (hp : 0 < p) {n m : Nat} {s : Row × Row} {b : Int × Row × Row} (hs : StV p n m s) (hb : b.2.1.length = n ∧ b.2.2.length = m) : StV p n m (lessIn p s b) := by
  obtain ⟨s1, s2, s3, s4⟩ := hs
  unfold lessIn
  split
  · exact ⟨s1, s2, s3, s4⟩
  · exact ⟨less_rw hp s1.2 _, by rw [less_len]; omega, less_rw hp s3.2 _, by rw [less_len]; omega⟩
theorem lessBy_v {p : Int} (hp : 0 < p) {n m : Nat} {bs : Basis} (hb : BasisV p n m bs) {s : Row × Row} (hs : StV p n m s) : StV p n m (lessBy p bs s) :=
  fold_keeps (StV p n m) _ _ hs fun s d hd h => lessIn_v hp h ⟨(hb d hd).2.2.2.1, (hb d hd).2.2.2.2.2⟩
theorem start_v {p : Int} (hp : Pr p) {m : Nat} (hm : m ≤ 1000) (k : Int) : Rw p (startAt (m : Int) k) ∧ (startAt (m : Int) k).length = m := by
  have := hp.two
  exact ⟨setZ_rw (zeros_rw hp.pos (by omega)) (by omega) (by omega), by unfold startAt; rw [setZ_len, zeros_len]; omega⟩
theorem lit_mem {r : Row} {x : Int} (h : x ∈ litOf r) : 0 ≤ x ∧ x < r.length ∧ getZ r x ≠ 0 := by
  obtain ⟨⟨k, c⟩, hq, rfl⟩ := List.mem_map.mp h
  obtain ⟨h1, h2⟩ := List.mem_filter.mp hq
  have hen : ∀ (j : Nat) (l : Row), (k, c) ∈ en j l → ∃ i : Nat, i < l.length ∧ l[i]? = some c ∧ k = ((j + i : Nat) : Int) := by
    intro j l
    induction l generalizing j with
    | nil => intro h; cases h
    | cons a t ih =>
      intro h
      rcases List.mem_cons.mp h with h | h
      · cases h; exact ⟨0, by simp, rfl, rfl⟩
      · obtain ⟨i, h1, h2, h3⟩ := ih (j + 1) h
        exact ⟨i + 1, by simpa using h1, by simpa using h2, by omega⟩
  obtain ⟨i, hi, hg, hk⟩ := hen 0 r h1
  simp only at hk h2 ⊢
  have hc : getZ r ((i : Nat) : Int) = c := by rw [getZ_co, co_get hg]
  have h2 : c ≠ 0 := by simpa using h2
  rw [hk, show ((0 + i : Nat) : Int) = (i : Int) by omega, hc]
  exact ⟨by omega, by omega, h2⟩
theorem lit_head {r : Row} (h : litOf r ≠ []) : getZ (litOf r) 0 ∈ litOf r := by
  cases e : litOf r with
  | nil => exact absurd e h
  | cons a t => exact List.mem_cons_self
theorem baseRow_v {P : Panel} (h : PanelV P) {n : Nat} (hn : n ≤ 60) (h1 : 0 < n) {bs : Basis} (hb : BasisV P.1 n (P.2.length * n) bs) (k : Int) : StV P.1 n (P.2.length * n) (baseRow P n bs k) := by
  have hm : P.2.length * n ≤ 1000 := Nat.le_trans (Nat.mul_le_mul h.2.2.2 hn) (by decide)
  have hs := start_v h.1 hm k
  refine lessBy_v h.1.pos hb ⟨behind_rw h.1.pos (zeros_rw h.1.pos (by omega)) _ _ _, by rw [behind_len, zeros_len]; omega, ?_, ?_⟩
  · rw [← Int.natCast_mul]; exact hs.1
  · rw [← Int.natCast_mul]; exact hs.2
theorem baseIn_v {P : Panel} (h : PanelV P) {n : Nat} (hn : n ≤ 60) (h1 : 0 < n) {bs : Basis} (hb : BasisV P.1 n (P.2.length * n) bs) (k : Int) : BasisV P.1 n (P.2.length * n) (baseIn P n bs k) := by
  have hv := baseRow_v h hn h1 hb k
  unfold baseIn
  split
  · exact hb
  · rename_i hl
    intro b hbm
    rcases List.mem_append.mp hbm with hbm | hbm
    · exact hb b hbm
    · have hbm := List.mem_singleton.mp hbm
      subst hbm
      have hm := lit_mem (lit_head hl)
      have hL : P.2.length * n ≤ 1000 := Nat.le_trans (Nat.mul_le_mul h.2.2.2 hn) (by decide)
      obtain ⟨v1, v2, v3, v4⟩ := hv
      refine ⟨hm.1, by omega, less_rw h.1.pos (by rw [zeros_len]; omega) _, ?_, less_rw h.1.pos (by rw [zeros_len]; omega) _, ?_⟩
      · show (less _ _ _ _).length = n
        rw [less_len, zeros_len]; omega
      · show (less _ _ _ _).length = _
        rw [less_len, zeros_len]; omega
theorem basisOf_v {P : Panel} (h : PanelV P) {n : Nat} (hn : n ≤ 60) (h1 : 0 < n) : BasisV P.1 n (P.2.length * n) (basisOf P n) :=
  fold_keeps (BasisV P.1 n (P.2.length * n)) _ _ (fun _ hb => nomatch hb) fun s d _ hs => baseIn_v h hn h1 hs d
end Rg
end
section
set_option linter.all false
/-! The law's own functions as plain functions, and what they make. -/
namespace Rg
/-! ### draws -/
def sd (c k : Int) : Int := (c * 48271 + 7919 * k * k + 30011) % 1000000007
def sd1 (c k : Int) : Int := (sd c k * sd c k + 60493 * k) % 2147483629
def sd2 (c k : Int) : Int := (sd1 c k * sd1 c k + sd c k) % 2147483587
def sd3 (c k : Int) : Int := (sd2 c k * sd2 c k + sd1 c k) % 2147483563
def draw (c k L : Int) : Int := if decide ((10 : Int) ^ (18 : Int).toNat ≤ c) && decide (0 < c / 2 ^ (14 * k).toNat) then c / 2 ^ (14 * k).toNat % 16384 % L else sd3 c k / 64 % L
theorem draw_ge (c k : Int) {L : Int} (h : 0 < L) : 0 ≤ draw c k L ∧ draw c k L < L := by
  unfold draw
  split
  · exact modp h _
  · exact modp h _
def cellD (ns : List Int) (k : Int) : Int := if k < ns.length then getZ ns k else 0
def baseD (c : Int) : Int := getZ [2, 3, 5] (draw c 0 3)
theorem base_pr (c : Int) : Pr (baseD c) := by
  have h := draw_ge c 0 (L := 3) (by decide)
  unfold baseD
  have : draw c 0 3 = 0 ∨ draw c 0 3 = 1 ∨ draw c 0 3 = 2 := by omega
  rcases this with e | e | e <;> rw [e]
  · exact .inl rfl
  · exact .inr (.inl rfl)
  · exact .inr (.inr rfl)
/-! ### tables -/
section
variable {κ : Type} [DecidableEq κ]
def lookA (l : List (κ × Int)) (k : κ) : Option Int := (l.find? fun q => decide (q.1 = k)).map (·.2)
def getA (l : List (κ × Int)) (k : κ) : Int := (lookA l k).getD 0
def putA (l : List (κ × Int)) (k : κ) (v : Int) : List (κ × Int) := if (l.any fun q => decide (q.1 = k)) = true then l.map (fun q => if q.1 = k then (q.1, v) else q) else l ++ [(k, v)]
theorem lookA_pos {p : κ × Int} {r : List (κ × Int)} {k : κ} (e : p.1 = k) : lookA (p :: r) k = some p.2 := by simp [lookA, List.find?_cons, e]
theorem lookA_neg {p : κ × Int} {r : List (κ × Int)} {k : κ} (e : ¬ p.1 = k) : lookA (p :: r) k = lookA r k := by simp [lookA, List.find?_cons, e]
theorem lookA_any (k : κ) : ∀ l : List (κ × Int), (l.any fun q => decide (q.1 = k)) = (lookA l k).isSome
  | [] => rfl
  | p :: r => by
    rw [List.any_cons]
    by_cases e : p.1 = k
    · simp only [lookA_pos e, decide_eq_true e, Bool.true_or, Option.isSome_some]
    · rw [lookA_neg e, decide_eq_false e, Bool.false_or]; exact lookA_any k r
theorem lookA_map (k j : κ) (y : Int) : ∀ l : List (κ × Int), lookA (l.map fun q => if q.1 = k then (q.1, y) else q) j = (lookA l j).map fun x => if j = k then y else x
  | [] => rfl
  | p :: r => by
    have ih := lookA_map k j y r
    rw [List.map_cons]
    by_cases h : p.1 = k
    · rw [if_pos h]
      by_cases e : p.1 = j
      · rw [lookA_pos (p := (p.1, y)) e, lookA_pos e, Option.map_some, if_pos (e.symm.trans h)]
      · rw [lookA_neg (p := (p.1, y)) e, lookA_neg e, ih]
    · rw [if_neg h]
      by_cases e : p.1 = j
      · rw [lookA_pos (p := p) e, lookA_pos e, Option.map_some, if_neg (fun z => h (e.trans z))]
      · rw [lookA_neg (p := p) e, lookA_neg e, ih]
theorem lookA_snoc (k j : κ) (y : Int) : ∀ l : List (κ × Int), lookA l k = none → lookA (l ++ [(k, y)]) j = if j = k then some y else lookA l j
  | [], _ => by
    by_cases e : k = j
    · rw [if_pos e.symm]; exact lookA_pos (p := (k, y)) e
    · rw [if_neg (fun z => e z.symm)]; exact lookA_neg (p := (k, y)) e
  | p :: r, hn => by
    rw [List.cons_append]
    have hk : ¬ p.1 = k := fun z => by rw [lookA_pos z] at hn; cases hn
    rw [lookA_neg hk] at hn
    have ih := lookA_snoc k j y r hn
    by_cases e : p.1 = j
    · rw [lookA_pos e, lookA_pos e, if_neg (fun z => hk (e.trans z))]
    · rw [lookA_neg e, lookA_neg e, ih]
theorem lookA_put (l : List (κ × Int)) (k j : κ) (y : Int) : lookA (putA l k y) j = if j = k then some y else lookA l j := by
  unfold putA
  by_cases a : (l.any fun q => decide (q.1 = k)) = true
  · rw [if_pos a, lookA_map]
    rw [lookA_any] at a
    by_cases e : j = k
    · obtain ⟨x, hx⟩ := Option.isSome_iff_exists.mp a
      rw [if_pos e, e, hx, Option.map_some, if_pos rfl]
    · rw [if_neg e]
      cases lookA l j with
      | none => rfl
      | some x => rw [Option.map_some, if_neg e]
  · rw [if_neg a]
    refine lookA_snoc k j y l ?_
    rw [lookA_any] at a
    cases q : lookA l k with
    | none => rfl
    | some x => rw [q] at a; exact (a rfl).elim
theorem getA_put (l : List (κ × Int)) (k j : κ) (y : Int) : getA (putA l k y) j = if j = k then y else getA l j := by
  unfold getA
  rw [lookA_put]
  split <;> rfl
theorem put_keys (l : List (κ × Int)) (k : κ) (y : Int) : (putA l k y).map (·.1) = if k ∈ l.map (·.1) then l.map (·.1) else l.map (·.1) ++ [k] := by
  unfold putA
  have e : (l.any fun q => decide (q.1 = k)) = true ↔ k ∈ l.map (·.1) := by
    rw [List.any_eq_true, List.mem_map]
    constructor
    · rintro ⟨q, h1, h2⟩; exact ⟨q, h1, of_decide_eq_true h2⟩
    · rintro ⟨q, h1, h2⟩; exact ⟨q, h1, decide_eq_true h2⟩
  by_cases h : k ∈ l.map (·.1)
  · rw [if_pos h, if_pos (e.mpr h), List.map_map]
    apply List.map_congr_left
    intro q _
    show (if q.1 = k then (q.1, y) else q).1 = q.1
    split <;> rfl
  · rw [if_neg h, if_neg fun z => h (e.mp z), List.map_append]
    rfl
theorem put_nodup {l : List (κ × Int)} (h : (l.map (·.1)).Nodup) (k : κ) (y : Int) : ((putA l k y).map (·.1)).Nodup := by
  rw [put_keys]
  split
  · exact h
  · rename_i hk
    rw [List.nodup_append]
    refine ⟨h, by simp, fun a ha b hb e => ?_⟩
    have := List.mem_singleton.mp hb
    exact hk (by rw [← this, ← e]; exact ha)
theorem put_mem {l : List (κ × Int)} {k : κ} {y : Int} {q : κ × Int} (h : q ∈ putA l k y) : q = (k, y) ∨ q ∈ l := by
  unfold putA at h
  split at h
  · obtain ⟨z, hz, rfl⟩ := List.mem_map.mp h
    by_cases e : z.1 = k
    · rw [if_pos e]; left; rw [← e]
    · rw [if_neg e]; exact .inr hz
  · rcases List.mem_append.mp h with h | h
    · exact .inr h
    · exact .inl (List.mem_singleton.mp h)
theorem put_len (l : List (κ × Int)) (k : κ) (y : Int) : (putA l k y).length ≤ l.length + 1 := by
  unfold putA
  split
  · rw [List.length_map]; omega
  · rw [List.length_append]; exact Nat.le_refl _
theorem look_mem {l : List (κ × Int)} {k : κ} {x : Int} (h : lookA l k = some x) : (k, x) ∈ l := by
  unfold lookA at h
  cases e : l.find? (fun q => decide (q.1 = k)) with
  | none => rw [e] at h; cases h
  | some q =>
    rw [e] at h
    have h1 := List.mem_of_find?_eq_some e
    have h2 := List.find?_some e
    have h3 : q.2 = x := by simpa using h
    have h4 : q.1 = k := of_decide_eq_true h2
    rw [← h3, ← h4]
    exact h1
theorem mem_look {l : List (κ × Int)} {k : κ} (h : k ∈ l.map (·.1)) : ∃ x, lookA l k = some x := by
  have : (lookA l k).isSome = true := by
    rw [← lookA_any, List.any_eq_true]
    obtain ⟨q, h1, h2⟩ := List.mem_map.mp h
    exact ⟨q, h1, decide_eq_true h2⟩
  exact Option.isSome_iff_exists.mp this
end
/-! ### sorted -/
def sortI (l : List Int) : List Int := l.mergeSort fun a b => decide (a ≤ b)
theorem sortI_perm (l : List Int) : (sortI l).Perm l := List.mergeSort_perm _ _
theorem sortI_le (l : List Int) : (sortI l).Pairwise (· ≤ ·) :=
  (List.pairwise_mergeSort (fun a b c h1 h2 => by simp only [decide_eq_true_eq] at *; omega) (fun a b => by simp only [Bool.or_eq_true, decide_eq_true_eq]; omega) l).imp fun {a b} h => of_decide_eq_true h
theorem sortI_is {l m : List Int} (h : m.Perm l) (h1 : m.Pairwise (· ≤ ·)) : m = sortI l := (h.trans (sortI_perm l).symm).eq_of_pairwise (fun a b _ _ x y => by omega) h1 (sortI_le l)
theorem sortI_lt {l : List Int} (h : l.Nodup) : (sortI l).Pairwise (· < ·) := by
  have h1 : (sortI l).Nodup := (sortI_perm l).nodup_iff.mpr h
  refine List.Pairwise.imp (R := fun a b => a ≤ b ∧ a ≠ b) (fun {a b} h => by omega) ?_
  exact List.pairwise_and_iff.mpr ⟨sortI_le l, h1⟩
def cd (q : Int × Int) : Int := q.1 * 64 + q.2
def sortP (l : List (Int × Int)) : List (Int × Int) := l.mergeSort fun a b => decide (cd a ≤ cd b)
theorem sortP_perm (l : List (Int × Int)) : (sortP l).Perm l := List.mergeSort_perm _ _
theorem sortP_le (l : List (Int × Int)) : (sortP l).Pairwise (fun a b => cd a ≤ cd b) :=
  (List.pairwise_mergeSort (fun a b c h1 h2 => by simp only [decide_eq_true_eq] at *; omega) (fun a b => by simp only [Bool.or_eq_true, decide_eq_true_eq]; omega) l).imp fun {a b} h => of_decide_eq_true h
theorem cd_inj {a b : Int × Int} (h : cd a = cd b) (h1 : 0 ≤ a.2 ∧ a.2 < 64) (h2 : 0 ≤ b.2 ∧ b.2 < 64) : a = b := by
  unfold cd at h
  refine Prod.ext ?_ ?_ <;> omega
theorem sortP_is {l m : List (Int × Int)} (hb : ∀ q ∈ l, 0 ≤ q.2 ∧ q.2 < 64) (h : m.Perm l) (h1 : m.Pairwise (fun a b => cd a ≤ cd b)) : m = sortP l :=
  (h.trans (sortP_perm l).symm).eq_of_pairwise (fun a b ha hb' x y => cd_inj (by omega) (hb a (h.mem_iff.mp ha)) (hb b ((sortP_perm l).mem_iff.mp hb'))) h1 (sortP_le l)
/-! ### ascending -/
theorem asc_zip {α : Type} {R : α → α → Prop} : ∀ {l : List α}, l.Pairwise R → ∀ z ∈ l.zip (l.drop 1), R z.1 z.2
  | [], _, z, hz => by simp at hz
  | [a], _, z, hz => by simp at hz
  | a :: b :: t, h, z, hz => by
    rcases List.mem_cons.mp hz with rfl | hz
    · exact (List.pairwise_cons.mp h).1 b List.mem_cons_self
    · exact asc_zip (List.pairwise_cons.mp h).2 z hz
/-! ### rules, panels -/
def offs : List Int := [-4, -3, -2, -1, 0, 1, 2, 3, 4]
def ruleAt (c k j : Int) : Int := getZ offs (draw c (k + 2 * j + 1) 9)
def ruleIn1 (c k p : Int) (l : List (Int × Int)) (j : Int) : List (Int × Int) := putA l (ruleAt c k j) (1 + draw c (k + 2 * j + 2) (p - 1))
def ruleDict (c k p top : Int) : List (Int × Int) := (ir (1 + draw c k top).toNat).foldl (ruleIn1 c k p) []
def ruleOf (l : List (Int × Int)) : Rule := (offs.filter fun a => (lookA l a).isSome).map fun a => (a, getA l a)
def ruleD (c k p top : Int) : Rule := ruleOf (ruleDict c k p top)
theorem offs_mem {x : Int} (h : x ∈ offs) : -4 ≤ x ∧ x ≤ 4 := by
  simp only [offs, List.mem_cons, List.not_mem_nil, or_false] at h
  omega
theorem ruleAt_mem (c k j : Int) : ruleAt c k j ∈ offs := by
  have h := draw_ge c (k + 2 * j + 1) (L := 9) (by decide)
  unfold ruleAt getZ
  rw [List.getD_eq_getElem?_getD]
  have hl : (draw c (k + 2 * j + 1) 9).toNat < offs.length := by show _ < 9; omega
  rw [List.getElem?_eq_getElem hl]
  exact List.getElem_mem hl
def RDict (p : Int) (l : List (Int × Int)) : Prop := ∀ q ∈ l, q.1 ∈ offs ∧ 1 ≤ q.2 ∧ q.2 ≤ p - 1
theorem ruleIn1_ok {p : Int} (hp : Pr p) (c k : Int) {l : List (Int × Int)} (h : RDict p l) (j : Int) : RDict p (ruleIn1 c k p l j) ∧ ruleIn1 c k p l j ≠ [] ∧ (ruleIn1 c k p l j).length ≤ l.length + 1 := by
  have hd := draw_ge c (k + 2 * j + 2) (L := p - 1) (by have := hp.two; omega)
  refine ⟨fun q hq => ?_, fun e => ?_, put_len _ _ _⟩
  · rcases put_mem hq with rfl | hq
    · exact ⟨ruleAt_mem c k j, by show 1 ≤ 1 + draw _ _ _; omega, by show 1 + draw _ _ _ ≤ p - 1; omega⟩
    · exact h q hq
  · have := lookA_put l (ruleAt c k j) (ruleAt c k j) (1 + draw c (k + 2 * j + 2) (p - 1))
    have e' : putA l (ruleAt c k j) (1 + draw c (k + 2 * j + 2) (p - 1)) = [] := e
    rw [e', if_pos rfl] at this
    cases this
theorem ruleDict_ok {p : Int} (hp : Pr p) (c k : Int) {top : Int} (ht : 1 ≤ top) : RDict p (ruleDict c k p top) ∧ ruleDict c k p top ≠ [] := by
  have hd := draw_ge c k (L := top) (by omega)
  unfold ruleDict
  obtain ⟨m, hm⟩ : ∃ m, (1 + draw c k top).toNat = m + 1 := ⟨(draw c k top).toNat, by omega⟩
  rw [hm]
  have e : ir (m + 1) = 0 :: (List.range m).map fun i => ((i + 1 : Nat) : Int) := by
    unfold ir
    rw [List.range_succ_eq_map, List.map_cons, List.map_map]
    rfl
  rw [e, List.foldl_cons]
  have h0 := ruleIn1_ok hp c k (l := []) (fun _ h => nomatch h) 0
  exact fold_keeps (fun l => RDict p l ∧ l ≠ []) _ _ ⟨h0.1, h0.2.1⟩ fun s d _ hs => ⟨(ruleIn1_ok hp c k hs.1 d).1, (ruleIn1_ok hp c k hs.1 d).2.1⟩
theorem ruleOf_ok {p : Int} {l : List (Int × Int)} (h : RDict p l) (hn : l ≠ []) : RuleV p (ruleOf l) := by
  refine ⟨fun q hq => ?_, ?_, ?_, ?_⟩
  · obtain ⟨a, ha, rfl⟩ := List.mem_map.mp hq
    obtain ⟨h1, h2⟩ := List.mem_filter.mp ha
    have ho := offs_mem h1
    obtain ⟨x, hx⟩ := Option.isSome_iff_exists.mp h2
    have := (h _ (look_mem hx)).2
    have e : getA l a = x := by unfold getA; rw [hx]; rfl
    simp only [e] at *
    exact ⟨ho.1, ho.2, this.1, this.2⟩
  · refine asc_zip (R := fun a b : Int × Int => a.1 < b.1) ?_
    unfold ruleOf
    rw [List.pairwise_map]
    exact List.Pairwise.filter _ (show List.Pairwise (fun a b : Int => a < b) offs by unfold offs; decide)
  · unfold ruleOf
    rw [List.length_map]
    exact Nat.le_trans (List.length_filter_le _ _) (by show 9 ≤ 1000; omega)
  · obtain ⟨q, hq⟩ := List.exists_mem_of_ne_nil _ hn
    intro e
    have hm : q.1 ∈ offs.filter fun a => (lookA l a).isSome := by
      refine List.mem_filter.mpr ⟨(h q hq).1, ?_⟩
      obtain ⟨x, hx⟩ := mem_look (l := l) (k := q.1) (List.mem_map.mpr ⟨q, hq, rfl⟩)
      rw [hx]; rfl
    have : (q.1, getA l q.1) ∈ ruleOf l := List.mem_map.mpr ⟨q.1, hm, rfl⟩
    rw [e] at this
    cases this
theorem ruleD_ok {p : Int} (hp : Pr p) (c k : Int) {top : Int} (ht : 1 ≤ top) : RuleV p (ruleD c k p top) := ruleOf_ok (ruleDict_ok hp c k ht).1 (ruleDict_ok hp c k ht).2
def pairsD (c : Int) : Int := getZ [4, 9] (draw c 399 2)
theorem pairs_ge (c : Int) : 4 ≤ pairsD c ∧ pairsD c ≤ 9 := by
  have h := draw_ge c 399 (L := 2) (by decide)
  unfold pairsD
  have : draw c 399 2 = 0 ∨ draw c 399 2 = 1 := by omega
  rcases this with e | e <;> rw [e] <;> decide
def packD (c p top : Int) : Panel := (p, (ir (1 + draw c 1 top).toNat).map fun k => ruleD c (400 + 20 * k) p (pairsD c))
theorem packD_ok {p : Int} (hp : Pr p) (c : Int) {top : Int} (h1 : 1 ≤ top) (h2 : top ≤ 5) : PanelV (packD c p top) ∧ (packD c p top).2.length ≤ 5 := by
  have hd := draw_ge c 1 (L := top) (by omega)
  have hl : (packD c p top).2.length = (1 + draw c 1 top).toNat := by
    show (List.map _ _).length = _
    rw [List.length_map, ir_len']
  refine ⟨⟨hp, fun r hr => ?_, fun e => ?_, by omega⟩, by omega⟩
  · obtain ⟨k, _, rfl⟩ := List.mem_map.mp hr
    exact ruleD_ok hp _ _ (by have := pairs_ge c; omega)
  · rw [e] at hl
    simp at hl
    omega
where ir_len' {n : Nat} : (ir n).length = n := by unfold ir; rw [List.length_map, List.length_range]
/-! ### pictures, presses -/
def shapePlace (c k w j : Int) : Int := draw c (k + 2 * j + 1) 16384 * (w / 16384 + 1) + draw c (k + 2 * j + 2) 7
def shapeIn (c k p w : Int) (l : List (Int × Int)) (j : Int) : List (Int × Int) := putA l (shapePlace c k w j % w) (1 + draw c (k + 2 * j + 2) (p - 1))
def shapeDict (c k p w top : Int) : List (Int × Int) := (ir (draw c k (top + 1)).toNat).foldl (shapeIn c k p w) []
def dpic (l : List (Int × Int)) : Pic := (sortI (l.map (·.1))).map fun k => (k, getA l k)
def shapeD (c k p w top : Int) : Pic := dpic (shapeDict c k p w top)
def DictV (lo p w : Int) (l : List (Int × Int)) : Prop := (l.map (·.1)).Nodup ∧ ∀ q ∈ l, 0 ≤ q.1 ∧ q.1 < w ∧ lo ≤ q.2 ∧ q.2 < p
theorem dict_put {lo p w : Int} {l : List (Int × Int)} (h : DictV lo p w l) {k v : Int} (h1 : 0 ≤ k) (h2 : k < w) (h3 : lo ≤ v) (h4 : v < p) : DictV lo p w (putA l k v) := ⟨put_nodup h.1 k v, fun q hq => by
  rcases put_mem hq with rfl | hq
  · exact ⟨h1, h2, h3, h4⟩
  · exact h.2 q hq⟩
theorem dict_get {lo p w : Int} {l : List (Int × Int)} (h : DictV lo p w l) {k : Int} (hk : k ∈ l.map (·.1)) : 0 ≤ k ∧ k < w ∧ lo ≤ getA l k ∧ getA l k < p := by
  obtain ⟨x, hx⟩ := mem_look hk
  have := h.2 _ (look_mem hx)
  have e : getA l k = x := by unfold getA; rw [hx]; rfl
  rw [e]
  exact this
theorem pic_asc {l : List Int} (h : l.Pairwise (· < ·)) (f : Int → Int) : ∀ z ∈ (l.map fun k => (k, f k)).zip ((l.map fun k => (k, f k)).drop 1), z.1.1 < z.2.1 := by
  refine asc_zip (R := fun a b : Int × Int => a.1 < b.1) ?_
  rw [List.pairwise_map]
  exact h
theorem sortI_len (l : List Int) : (sortI l).length = l.length := (sortI_perm l).length_eq
theorem dpic_ok {p w : Int} {l : List (Int × Int)} (h : DictV 1 p w l) (hl : l.length ≤ 1000) : PicV p w (dpic l) := by
  refine ⟨fun q hq => ?_, pic_asc (sortI_lt h.1) _, by unfold dpic; rw [List.length_map, sortI_len, List.length_map]; exact hl⟩
  obtain ⟨k, hk, rfl⟩ := List.mem_map.mp hq
  have := dict_get h ((sortI_perm _).mem_iff.mp hk)
  exact ⟨this.1, by show k ≤ w - 1; omega, this.2.2.1, by show getA l k ≤ p - 1; omega⟩
theorem shapeIn_ok {p w : Int} (hp : Pr p) (hw : 1 ≤ w) (c k : Int) {l : List (Int × Int)} (h : DictV 1 p w l) (j : Int) : DictV 1 p w (shapeIn c k p w l j) := by
  have hd := draw_ge c (k + 2 * j + 2) (L := p - 1) (by have := hp.two; omega)
  have hm := modp (p := w) (by omega) (shapePlace c k w j)
  exact dict_put h hm.1 hm.2 (by omega) (by omega)
theorem fold_len {α β : Type} {f : List β → α → List β} (hf : ∀ s d, (f s d).length ≤ s.length + 1) : ∀ (l : List α) (s : List β), (l.foldl f s).length ≤ s.length + l.length
  | [], s => Nat.le_refl _
  | d :: l, s => by
    have h1 := fold_len hf l (f s d)
    have h2 := hf s d
    rw [List.foldl_cons, List.length_cons]
    omega
theorem shapeDict_ok {p w : Int} (hp : Pr p) (hw : 1 ≤ w) (c k : Int) {top : Int} (h0 : 0 ≤ top) (h1 : top ≤ 900) : DictV 1 p w (shapeDict c k p w top) ∧ (shapeDict c k p w top).length ≤ 1000 := by
  have hd := draw_ge c k (L := top + 1) (by omega)
  refine ⟨fold_keeps (DictV 1 p w) _ _ ⟨List.nodup_nil, fun _ h => nomatch h⟩ fun s d _ h => shapeIn_ok hp hw c k h d, ?_⟩
  have := fold_len (f := shapeIn c k p w) (fun s d => put_len _ _ _) (ir (draw c k (top + 1)).toNat) []
  unfold ir at this
  rw [List.length_map, List.length_range] at this
  simp only [List.length_nil] at this
  unfold shapeDict ir
  omega
theorem shapeD_ok {p w : Int} (hp : Pr p) (hw : 1 ≤ w) (c k : Int) {top : Int} (h0 : 0 ≤ top) (h1 : top ≤ 900) : PicV p w (shapeD c k p w top) := dpic_ok (shapeDict_ok hp hw c k h0 h1).1 (shapeDict_ok hp hw c k h0 h1).2
def pushPlace (c k w j : Int) : Int := draw c (k + 3 * j + 1) 16384 * (w / 16384 + 1) + draw c (k + 3 * j + 3) 5
def pushAt (c k : Int) (P : Panel) (w j : Int) : Int × Int := (draw c (k + 3 * j + 2) P.2.length, pushPlace c k w j % w)
def pushIn (c k : Int) (P : Panel) (w : Int) (l : List ((Int × Int) × Int)) (j : Int) : List ((Int × Int) × Int) := putA l (pushAt c k P w j) (1 + draw c (k + 3 * j + 3) (P.1 - 1))
def pushDict (c k : Int) (P : Panel) (w top : Int) : List ((Int × Int) × Int) := (ir (draw c k (top + 1)).toNat).foldl (pushIn c k P w) []
def dpush (l : List ((Int × Int) × Int)) : Push := (sortP (l.map (·.1))).map fun a => (a.1, a.2, getA l a)
def pushD (c k : Int) (P : Panel) (w top : Int) : Push := dpush (pushDict c k P w top)
def PDict (P : Panel) (w : Int) (l : List ((Int × Int) × Int)) : Prop := (l.map (·.1)).Nodup ∧ ∀ q ∈ l, 0 ≤ q.1.1 ∧ q.1.1 ≤ (P.2.length : Int) - 1 ∧ 0 ≤ q.1.2 ∧ q.1.2 ≤ w - 1 ∧ 1 ≤ q.2 ∧ q.2 ≤ P.1 - 1
theorem pushIn_ok {P : Panel} (h : PanelV P) {w : Int} (hw : 1 ≤ w) (c k : Int) {l : List ((Int × Int) × Int)} (hl : PDict P w l) (j : Int) : PDict P w (pushIn c k P w l j) := by
  have hd := draw_ge c (k + 3 * j + 3) (L := P.1 - 1) (by have := h.1.two; omega)
  have hb : 0 < P.2.length := List.length_pos_iff.mpr h.2.2.1
  have hi := draw_ge c (k + 3 * j + 2) (L := (P.2.length : Int)) (by omega)
  have hm := modp (p := w) (by omega) (pushPlace c k w j)
  refine ⟨put_nodup hl.1 _ _, fun q hq => ?_⟩
  rcases put_mem hq with rfl | hq
  · exact ⟨hi.1, by show draw _ _ _ ≤ _; omega, hm.1, by show pushPlace _ _ _ _ % w ≤ _; omega, by show 1 ≤ 1 + draw _ _ _; omega, by show 1 + draw _ _ _ ≤ _; omega⟩
  · exact hl.2 q hq
theorem pushDict_ok {P : Panel} (h : PanelV P) {w : Int} (hw : 1 ≤ w) (c k : Int) {top : Int} (h0 : 0 ≤ top) (h1 : top ≤ 60) : PDict P w (pushDict c k P w top) ∧ (pushDict c k P w top).length ≤ top.toNat := by
  have hd := draw_ge c k (L := top + 1) (by omega)
  refine ⟨fold_keeps (PDict P w) _ _ ⟨List.nodup_nil, fun _ h => nomatch h⟩ fun s d _ hs => pushIn_ok h hw c k hs d, ?_⟩
  have := fold_len (f := pushIn c k P w) (fun s d => put_len _ _ _) (ir (draw c k (top + 1)).toNat) []
  unfold ir at this
  rw [List.length_map, List.length_range] at this
  simp only [List.length_nil] at this
  unfold pushDict ir
  omega
theorem dpush_ok {P : Panel} {w : Int} (hw : w ≤ 60) {l : List ((Int × Int) × Int)} (h : PDict P w l) (hl : l.length ≤ 1000) : PushV P w (dpush l) := by
  have hk : ∀ a ∈ sortP (l.map (·.1)), ∃ q ∈ l, q.1 = a := fun a ha => List.mem_map.mp ((sortP_perm _).mem_iff.mp ha)
  refine ⟨fun q hq => ?_, ?_, ?_⟩
  · obtain ⟨a, ha, rfl⟩ := List.mem_map.mp hq
    have ha' := (sortP_perm _).mem_iff.mp ha
    obtain ⟨x, hx⟩ := mem_look ha'
    have := h.2 _ (look_mem hx)
    have e : getA l a = x := by unfold getA; rw [hx]; rfl
    simp only [e] at *
    exact this
  · have h1 : (sortP (l.map (·.1))).Nodup := (sortP_perm _).nodup_iff.mpr h.1
    have h2 : (sortP (l.map (·.1))).Pairwise (fun a b => lt2 a b = true) := by
      refine List.Pairwise.imp_of_mem (R := fun a b => cd a ≤ cd b ∧ a ≠ b) (fun {a b} ha hb hab => ?_) (List.pairwise_and_iff.mpr ⟨sortP_le _, h1⟩)
      obtain ⟨qa, hqa, rfl⟩ := hk a ha
      obtain ⟨qb, hqb, rfl⟩ := hk b hb
      have b1 := h.2 qa hqa
      have b2 := h.2 qb hqb
      have hne : ¬ (qa.1.1 = qb.1.1 ∧ qa.1.2 = qb.1.2) := fun z => hab.2 (Prod.ext z.1 z.2)
      have hc := hab.1
      unfold cd at hc
      unfold lt2
      rw [Bool.or_eq_true, Bool.and_eq_true, decide_eq_true_eq, decide_eq_true_eq, decide_eq_true_eq]
      omega
    refine asc_zip (R := fun a b : Int × Int × Int => lt2 (a.1, a.2.1) (b.1, b.2.1) = true) ?_
    unfold dpush
    rw [List.pairwise_map]
    exact h2
  · unfold dpush
    rw [List.length_map, (sortP_perm _).length_eq, List.length_map]
    exact hl
theorem pushD_ok {P : Panel} (h : PanelV P) {w : Int} (hw : 1 ≤ w) (hw2 : w ≤ 60) (c k : Int) {top : Int} (h0 : 0 ≤ top) (h1 : top ≤ 60) : PushV P w (pushD c k P w top) := by
  have := pushDict_ok h hw c k h0 h1
  exact dpush_ok hw2 this.1 (by omega)
/-! ### sums, lit lamps -/
def litIn (P : Panel) (w : Int) (a t : Int) (l : List (Int × Int)) (q : Int × Int) : List (Int × Int) := putA l ((a + q.1) % w) ((getA l ((a + q.1) % w) + q.2 * t) % P.1)
def litOut (P : Panel) (w : Int) (l : List (Int × Int)) (q : Int × Int × Int) : List (Int × Int) := (button P q.1).foldl (litIn P w q.2.1 q.2.2) l
def litDict (P : Panel) (w : Int) (ps : Push) : List (Int × Int) := ps.foldl (litOut P w) []
def nzPic (ks : List Int) (l : List (Int × Int)) : Pic := (ks.filter fun k => !decide (getA l k = 0)).map fun k => (k, getA l k)
def litD (P : Panel) (w : Int) (ps : Push) : Pic := nzPic (sortI ((litDict P w ps).map (·.1))) (litDict P w ps)
def plusIn (p w t b : Int) (l : List (Int × Int)) (q : Int × Int) : List (Int × Int) := putA l ((q.1 + b) % w) ((getA l ((q.1 + b) % w) + q.2 * t) % p)
def dictOf (s : Pic) : List (Int × Int) := s.foldl (fun l q => putA l q.1 q.2) []
def plusDict (p w : Int) (one other : Pic) (t b : Int) : List (Int × Int) := other.foldl (plusIn p w t b) (dictOf one)
def plusD (p w : Int) (one other : Pic) (t b : Int) : Pic := nzPic (ir w.toNat) (plusDict p w one other t b)
theorem nz_ok {p w : Int} {ks : List Int} {l : List (Int × Int)} (h : DictV 0 p w l) (hk : ks.Pairwise (· < ·)) (hw : ∀ k ∈ ks, 0 ≤ k ∧ k < w) (hl : ks.length ≤ 1000) : PicV p w (nzPic ks l) := by
  refine ⟨fun q hq => ?_, pic_asc (hk.filter _) _, by unfold nzPic; rw [List.length_map]; exact Nat.le_trans (List.length_filter_le _ _) hl⟩
  obtain ⟨k, hkm, rfl⟩ := List.mem_map.mp hq
  obtain ⟨h1, h2⟩ := List.mem_filter.mp hkm
  have h2 : getA l k ≠ 0 := by simpa using h2
  have hb := hw k h1
  refine ⟨hb.1, by show k ≤ w - 1; omega, ?_, ?_⟩
  all_goals
    by_cases hm : k ∈ l.map (·.1)
    · have := dict_get h hm
      show _ ≤ _
      omega
    · exfalso
      apply h2
      unfold getA
      cases e : lookA l k with
      | none => rfl
      | some x => exact absurd (List.mem_map.mpr ⟨_, look_mem e, rfl⟩) hm
theorem dict_mono {lo p w : Int} {l : List (Int × Int)} (h : DictV lo p w l) (h0 : 0 ≤ lo) : DictV 0 p w l := ⟨h.1, fun q hq => by have := h.2 q hq; omega⟩
theorem litDict_ok {P : Panel} (h : PanelV P) {w : Int} (hw : 1 ≤ w) (ps : Push) : DictV 0 P.1 w (litDict P w ps) := by
  refine fold_keeps (DictV 0 P.1 w) _ _ ⟨List.nodup_nil, fun _ h => nomatch h⟩ fun s d _ hs => fold_keeps (DictV 0 P.1 w) _ _ hs fun s q _ hs => ?_
  have hm := modp (p := w) (by omega) (d.2.1 + q.1)
  have hv := modp h.1.pos (getA s ((d.2.1 + q.1) % w) + q.2 * d.2.2)
  exact dict_put hs hm.1 hm.2 hv.1 hv.2
theorem dictOf_ok {p w : Int} {s : Pic} (h : PicV p w s) : DictV 1 p w (dictOf s) :=
  fold_keeps (DictV 1 p w) _ _ ⟨List.nodup_nil, fun _ h => nomatch h⟩ fun l q hq hl => by
    have := h.1 q hq
    exact dict_put hl this.1 (by omega) this.2.2.1 (by omega)
theorem plusDict_ok {p w : Int} (hp : Pr p) (hw : 1 ≤ w) {one : Pic} (h : PicV p w one) (other : Pic) (t b : Int) : DictV 0 p w (plusDict p w one other t b) :=
  fold_keeps (DictV 0 p w) _ _ (dict_mono (dictOf_ok h) (by decide)) fun l q _ hl => by
    have hm := modp (p := w) (by omega) (q.1 + b)
    have hv := modp hp.pos (getA l ((q.1 + b) % w) + q.2 * t)
    exact dict_put hl hm.1 hm.2 hv.1 hv.2
theorem ir_lt (n : Nat) : (ir n).Pairwise (· < ·) := by
  unfold ir
  rw [List.pairwise_map]
  exact List.Pairwise.imp (fun h => by omega) List.pairwise_lt_range
theorem ir_mem {n : Nat} {k : Int} (h : k ∈ ir n) : 0 ≤ k ∧ k < n := by
  obtain ⟨i, hi, rfl⟩ := List.mem_map.mp h
  have := List.mem_range.mp hi
  omega
theorem plusD_ok {p w : Int} (hp : Pr p) (hw : 1 ≤ w) (hw2 : w ≤ 1000) {one : Pic} (h : PicV p w one) (other : Pic) (t b : Int) : PicV p w (plusD p w one other t b) :=
  nz_ok (plusDict_ok hp hw h other t b) (ir_lt _) (fun k hk => by have := ir_mem hk; omega) (by unfold ir; rw [List.length_map, List.length_range]; omega)
theorem lt_len {w : Int} : ∀ {l : List Int} {lo : Int}, l.Pairwise (· < ·) → (∀ k ∈ l, lo ≤ k ∧ k < w) → l.length ≤ (w - lo).toNat
  | [], _, _, _ => Nat.zero_le _
  | a :: t, lo, h, hk => by
    have h1 := List.pairwise_cons.mp h
    have h2 := lt_len (l := t) (lo := a + 1) h1.2 fun k hkm => ⟨by have := h1.1 k hkm; omega, (hk k (List.mem_cons_of_mem _ hkm)).2⟩
    have h3 := hk a List.mem_cons_self
    rw [List.length_cons]
    omega
theorem keys_small {w : Int} {ks : List Int} (hn : ks.Nodup) (hk : ∀ k ∈ ks, 0 ≤ k ∧ k < w) : ks.length ≤ w.toNat := by
  have := lt_len (w := w) (lo := 0) (sortI_lt hn) fun k h => hk k ((sortI_perm _).mem_iff.mp h)
  rw [sortI_len] at this
  omega
theorem litD_ok {P : Panel} (h : PanelV P) {w : Int} (hw : 1 ≤ w) (hw2 : w ≤ 1000) (ps : Push) : PicV P.1 w (litD P w ps) := by
  have hd := litDict_ok h hw ps
  have hk : ∀ k ∈ (litDict P w ps).map (·.1), 0 ≤ k ∧ k < w := fun k hk => by
    obtain ⟨q, hq, rfl⟩ := List.mem_map.mp hk
    have := hd.2 q hq
    exact ⟨this.1, this.2.1⟩
  refine nz_ok hd (sortI_lt hd.1) (fun k hk' => hk k ((sortI_perm _).mem_iff.mp hk')) ?_
  rw [sortI_len]
  have := keys_small hd.1 hk
  omega
end Rg
end
section
set_option linter.all false
/-! The other panels, the wound ring, the law's facts. -/
namespace Rg
def head (P : Panel) : Rule := P.2.headD []
def lowD (P : Panel) : Int := -4 - leastOf (head P)
def highD (P : Panel) : Int := 4 - mostOf (head P)
def timesD (c : Int) (P : Panel) : Int := 1 + draw c 210 (P.1 - 1)
def byD (c : Int) (P : Panel) : Int := lowD P + draw c 211 (highD P - lowD P + 1)
def moved (P : Panel) (t b : Int) : Rule := (head P).map fun q => (q.1 + b, q.2 * t % P.1)
def others (P : Panel) (t b : Int) : List Panel := [(P.1, [moved P t b] ++ P.2.drop 1), (P.1, P.2.reverse), (P.1, P.2 ++ [moved P t b])] ++ [(P.1, [P.2.getLastD []] ++ P.2)]
def othersD (c : Int) (P : Panel) : List Panel := others P (timesD c P) (byD c P)
theorem head_mem {P : Panel} (h : PanelV P) : P.2[0]? = some (head P) ∧ head P ∈ P.2 := by
  have hn := h.2.2.1
  unfold head
  cases e : P.2 with
  | nil => exact absurd e hn
  | cons a t => exact ⟨rfl, List.mem_cons_self⟩
theorem last_mem {P : Panel} (h : PanelV P) : P.2.getLast? = some (P.2.getLastD []) ∧ P.2.getLastD [] ∈ P.2 := by
  have hn := h.2.2.1
  have e : P.2.getLast? = some (P.2.getLastD []) := by rw [List.getLastD_eq_getLast?, List.getLast?_eq_getLast hn]; rfl
  exact ⟨e, List.mem_of_getLast? e⟩
theorem least_bd {p : Int} {r : Rule} (h : RuleV p r) : ∀ q ∈ r, leastOf r ≤ q.1 ∧ q.1 ≤ mostOf r := fun q hq => ⟨asc_least h.2.1 q hq, asc_last h.2.2.2 h.2.1 q hq⟩
theorem least_in {p : Int} {r : Rule} (h : RuleV p r) : (-4 ≤ leastOf r ∧ leastOf r ≤ 4) ∧ -4 ≤ mostOf r ∧ mostOf r ≤ 4 := by
  have hn := h.2.2.2
  constructor
  · cases e : r with
    | nil => exact absurd e hn
    | cons a t => have := h.1 a (by rw [e]; exact List.mem_cons_self); exact ⟨this.1, this.2.1⟩
  · have e : r.getLast? = some (r.getLastD (0, 0)) := by rw [List.getLastD_eq_getLast?, List.getLast?_eq_getLast hn]; rfl
    have := h.1 _ (List.mem_of_getLast? e)
    exact ⟨this.1, this.2.1⟩
theorem low_high {P : Panel} (h : PanelV P) : 0 ≤ highD P - lowD P := by
  have := least_in (h.2.1 _ (head_mem h).2)
  unfold highD lowD
  omega
theorem by_in (c : Int) {P : Panel} (h : PanelV P) : lowD P ≤ byD c P ∧ byD c P ≤ highD P := by
  have h1 := low_high h
  have := draw_ge c 211 (L := highD P - lowD P + 1) (by omega)
  unfold byD
  omega
theorem times_in (c : Int) {P : Panel} (h : PanelV P) : 1 ≤ timesD c P ∧ timesD c P ≤ P.1 - 1 := by
  have := draw_ge c 210 (L := P.1 - 1) (by have := h.1.two; omega)
  unfold timesD
  omega
theorem prod_nz {p a b : Int} (hp : Pr p) (a1 : 1 ≤ a) (a2 : a ≤ p - 1) (b1 : 1 ≤ b) (b2 : b ≤ p - 1) : 1 ≤ a * b % p ∧ a * b % p ≤ p - 1 := by
  rcases hp with h | h | h <;> subst h
  · have : a = 1 := by omega
    have : b = 1 := by omega
    subst a b; decide
  · have h1 : a = 1 ∨ a = 2 := by omega
    have h2 : b = 1 ∨ b = 2 := by omega
    rcases h1 with h1 | h1 <;> rcases h2 with h2 | h2 <;> subst a b <;> decide
  · have h1 : a = 1 ∨ a = 2 ∨ a = 3 ∨ a = 4 := by omega
    have h2 : b = 1 ∨ b = 2 ∨ b = 3 ∨ b = 4 := by omega
    rcases h1 with h1 | h1 | h1 | h1 <;> rcases h2 with h2 | h2 | h2 | h2 <;> subst a b <;> decide
theorem zip_shift (b : Int) (g : Int × Int → Int) : ∀ (r : Rule), (∀ q ∈ r.zip (r.drop 1), q.1.1 < q.2.1) → ∀ q ∈ (r.map fun q => (q.1 + b, g q)).zip ((r.map fun q => (q.1 + b, g q)).drop 1), q.1.1 < q.2.1
  | [], _, q, hq => by simp at hq
  | [a], _, q, hq => by simp at hq
  | a :: c :: t, h, q, hq => by
    rcases List.mem_cons.mp hq with rfl | hq
    · have : a.1 < c.1 := h (a, c) List.mem_cons_self
      show a.1 + b < c.1 + b
      omega
    · exact zip_shift b g (c :: t) (fun q hq => h q (List.mem_cons_of_mem _ hq)) q hq
theorem moved_ok {P : Panel} (h : PanelV P) {t b : Int} (ht : 1 ≤ t ∧ t ≤ P.1 - 1) (hb : lowD P ≤ b ∧ b ≤ highD P) : RuleV P.1 (moved P t b) := by
  have hr := h.2.1 _ (head_mem h).2
  refine ⟨fun q hq => ?_, zip_shift b (fun q => q.2 * t % P.1) _ hr.2.1, by unfold moved; rw [List.length_map]; exact hr.2.2.1, fun e => hr.2.2.2 (List.map_eq_nil_iff.mp e)⟩
  obtain ⟨z, hz, rfl⟩ := List.mem_map.mp hq
  have h1 := hr.1 z hz
  have h2 := least_bd hr z hz
  have h3 := prod_nz h.1 h1.2.2.1 h1.2.2.2 ht.1 ht.2
  unfold lowD highD at hb
  exact ⟨by show -4 ≤ z.1 + b; omega, by show z.1 + b ≤ 4; omega, h3.1, h3.2⟩
theorem others_ok {P : Panel} (h : PanelV P) (hl : P.2.length ≤ 9) {t b : Int} (ht : 1 ≤ t ∧ t ≤ P.1 - 1) (hb : lowD P ≤ b ∧ b ≤ highD P) : ∀ Q ∈ others P t b, PanelV Q ∧ Q.1 = P.1 := by
  have hm := moved_ok h ht hb
  intro Q hQ
  unfold others at hQ
  simp only [List.cons_append, List.nil_append, List.mem_cons, List.not_mem_nil, or_false] at hQ
  have hla := last_mem h
  rcases hQ with rfl | rfl | rfl | rfl
  · refine ⟨⟨h.1, fun r hr => ?_, by simp, ?_⟩, rfl⟩
    · rcases List.mem_cons.mp hr with rfl | hr
      · exact hm
      · exact h.2.1 r (List.mem_of_mem_drop hr)
    · show (_ :: P.2.drop 1).length ≤ 10
      rw [List.length_cons, List.length_drop]
      omega
  · exact ⟨⟨h.1, fun r hr => h.2.1 r (List.mem_reverse.mp hr), fun z => h.2.2.1 (List.reverse_eq_nil_iff.mp z), by show P.2.reverse.length ≤ 10; rw [List.length_reverse]; omega⟩, rfl⟩
  · refine ⟨⟨h.1, fun r hr => ?_, fun z => by simp at z, ?_⟩, rfl⟩
    · rcases List.mem_append.mp hr with hr | hr
      · exact h.2.1 r hr
      · rw [List.mem_singleton.mp hr]; exact hm
    · show (P.2 ++ [_]).length ≤ 10
      rw [List.length_append, List.length_singleton]
      omega
  · refine ⟨⟨h.1, fun r hr => ?_, by simp, ?_⟩, rfl⟩
    · rcases List.mem_cons.mp hr with rfl | hr
      · exact h.2.1 _ hla.2
      · exact h.2.1 r hr
    · show (_ :: P.2).length ≤ 10
      rw [List.length_cons]
      omega
/-! wound -/
def timesW (c : Int) : Int := 2 + draw c 212 2
def nearIn (p w : Int) (l : List (Int × Int)) (q : Int × Int) : List (Int × Int) := putA l (q.1 % w) ((getA l (q.1 % w) + q.2) % p)
def nearDict (p w : Int) (far : Pic) : List (Int × Int) := far.foldl (nearIn p w) []
def nearD (p w : Int) (far : Pic) : Pic := nzPic (ir w.toNat) (nearDict p w far)
def smallD (c : Int) (P : Panel) (w : Int) : Pic := nearD P.1 w (litD P (w * timesW c) (pushD c 140 P (w * timesW c) 5))
theorem timesW_in (c : Int) : 2 ≤ timesW c ∧ timesW c ≤ 3 := by
  have := draw_ge c 212 (L := 2) (by decide)
  unfold timesW
  omega
theorem nearDict_ok {p w : Int} (hp : Pr p) (hw : 1 ≤ w) (far : Pic) : DictV 0 p w (nearDict p w far) :=
  fold_keeps (DictV 0 p w) _ _ ⟨List.nodup_nil, fun _ h => nomatch h⟩ fun l q _ hl => by
    have hm := modp (p := w) (by omega) q.1
    have hv := modp hp.pos (getA l (q.1 % w) + q.2)
    exact dict_put hl hm.1 hm.2 hv.1 hv.2
theorem nearD_ok {p w : Int} (hp : Pr p) (hw : 1 ≤ w) (hw2 : w ≤ 1000) (far : Pic) : PicV p w (nearD p w far) :=
  nz_ok (nearDict_ok hp hw far) (ir_lt _) (fun k hk => by have := ir_mem hk; omega) (by unfold ir; rw [List.length_map, List.length_range]; omega)
/-! the law's facts -/
def packR (c : Int) : Panel := packD c (baseD c) 2
def wideR (c : Int) : Int := 1 + draw c 60 12
def oneR (c : Int) : Pic := lampsOf (packR c) (wideR c) (pushD c 90 (packR c) (wideR c) 6)
def otherR (c : Int) : Pic := lampsOf (packR c) (wideR c) (pushD c 110 (packR c) (wideR c) 6)
def drawnR (c : Int) : Pic := shapeD c 70 (baseD c) (wideR c) 5
def timesR (c : Int) : Int := draw c 213 (baseD c)
def byR (c : Int) : Int := draw c 214 99
def sumR0 (c : Int) : Pic := plusD (baseD c) (wideR c) (oneR c) (otherR c) (timesR c) (byR c)
def sumR1 (c : Int) : Pic := plusD (baseD c) (wideR c) (drawnR c) (otherR c) (timesR c) (byR c)
def widerR (c : Int) : Panel := (baseD c, (packR c).2 ++ [ruleD c 220 (baseD c) 9])
def backR (c : Int) : Push := (presses (packR c) (wideR c) (oneR c)).map fun q => (q.1, q.2.1, baseD c - q.2.2)
structure Good (c : Int) : Prop where
  one : PicV (baseD c) (wideR c) (oneR c)
  other : PicV (baseD c) (wideR c) (otherR c)
  g1 : reach (packR c) (wideR c).toNat (sumR0 c) = true
  g2 : reach (packR c) (wideR c).toNat (sumR1 c) = reach (packR c) (wideR c).toNat (drawnR c)
  g3 : lossOf (widerR c) (wideR c).toNat ≤ lossOf (packR c) (wideR c).toNat
  g4 : reach (widerR c) (wideR c).toNat (sumR0 c) = true
  g5 : reach (packR c) (wideR c).toNat (drawnR c) = true → reach (widerR c) (wideR c).toNat (drawnR c) = true
  g6 : ∀ Q ∈ othersD c (packR c), lossOf Q (wideR c).toNat = lossOf (packR c) (wideR c).toNat ∧ reach Q (wideR c).toNat (drawnR c) = reach (packR c) (wideR c).toNat (drawnR c) ∧ reach Q (wideR c).toNat (oneR c) = true
  g7 : ∀ x ∈ (foundS (packR c) (wideR c) (oneR c)).1, x = 0
  g8 : PushV (packR c) (wideR c) (backR c)
  back : PicV (baseD c) (wideR c) (lampsOf (packR c) (wideR c) (backR c))
  g9 : plusD (baseD c) (wideR c) (lampsOf (packR c) (wideR c) (backR c)) (oneR c) 1 0 = []
  g10 : lossOf (packR c) (wideR c).toNat ≤ lossOf (packR c) (wideR c * timesW c).toNat
  g11 : reach (packR c) (wideR c).toNat (smallD c (packR c) (wideR c)) = true
theorem packR_ok (c : Int) : PanelV (packR c) ∧ (packR c).2.length ≤ 5 := packD_ok (base_pr c) c (by decide) (by decide)
theorem wideR_in (c : Int) : 1 ≤ wideR c ∧ wideR c ≤ 12 := by
  have := draw_ge c 60 (L := 12) (by decide)
  unfold wideR
  omega
theorem widerR_ok (c : Int) : PanelV (widerR c) := by
  have h := packR_ok c
  refine ⟨base_pr c, fun r hr => ?_, fun z => by simp [widerR] at z, ?_⟩
  · rcases List.mem_append.mp hr with hr | hr
    · exact h.1.2.1 r hr
    · rw [List.mem_singleton.mp hr]
      exact ruleD_ok (base_pr c) c 220 (by decide)
  · show ((packR c).2 ++ [_]).length ≤ 10
    rw [List.length_append, List.length_singleton]
    omega
end Rg
end
section
set_option linter.all false
/-! Products, powers, greatest common divisors: the divisor's ideal. -/
namespace Rg
def mono (k : Nat) : F := fun i => if i = k then 1 else 0
theorem shk_mono (s k : Nat) (i : Nat) : shk s (mono k) i = mono (k + s) i := by
  unfold shk mono
  by_cases h : i < s
  · rw [if_pos h, if_neg (by omega)]
  · rw [if_neg h]
    by_cases h2 : i - s = k
    · rw [if_pos h2, if_pos (by omega)]
    · rw [if_neg h2, if_neg (by omega)]
section
variable {p : Int} {S T : F → Prop} {f g : F}
theorem In.lin {a b : F} (h : In p S f) (e : ∀ i, Cg p (f i) (g i)) : In p S g := h.cg e
theorem in_shift (h : In p S (fun i => mono a i - mono b i)) (s : Nat) : In p S (fun i => mono (a + s) i - mono (b + s) i) := (h.shk s).eq fun i => by
  rw [← shk_mono, ← shk_mono]
  unfold Rg.shk
  split <;> grind
end
def mulL : Row → F → F
  | [], _ => fun _ => 0
  | x :: a, f => fun i => x * f i + sh (mulL a f) i
theorem in_mulL {p : Int} {S : F → Prop} {f : F} (h : In p S f) : ∀ a, In p S (mulL a f)
  | [] => .zero
  | x :: a => (h.smul x).add (in_mulL h a).sh
theorem sh_sub (f g : F) (i : Nat) : sh (fun n => f n - g n) i = sh f i - sh g i := by cases i <;> simp [sh]
theorem sh_congr {f g : F} (h : ∀ i, f i = g i) (i : Nat) : sh f i = sh g i := by cases i <;> simp [sh, h]
theorem sh_cg {p : Int} {f g : F} (h : ∀ i, Cg p (f i) (g i)) (i : Nat) : Cg p (sh f i) (sh g i) := by
  cases i with
  | zero => exact Cg.refl p 0
  | succ i => exact h i
theorem shk_cg {p : Int} {f g : F} (h : ∀ i, Cg p (f i) (g i)) (k i : Nat) : Cg p (shk k f i) (shk k g i) := by
  unfold shk
  split
  · exact Cg.refl p 0
  · exact h _
theorem mulL_sub (f g : F) : ∀ (a : Row) (i : Nat), mulL a (fun n => f n - g n) i = mulL a f i - mulL a g i
  | [], i => rfl
  | x :: a, i => by
    show x * (f i - g i) + sh (mulL a fun n => f n - g n) i = (x * f i + sh (mulL a f) i) - (x * g i + sh (mulL a g) i)
    rw [sh_congr (mulL_sub f g a), sh_sub]
    grind
theorem mulL_mono (l : Nat) : ∀ (a : Row) (i : Nat), mulL a (mono l) i = shk l (co a) i
  | [], i => by
    show (0 : Int) = shk l (co []) i
    unfold shk
    split <;> rfl
  | x :: a, 0 => by
    show x * mono l 0 + 0 = shk l (co (x :: a)) 0
    unfold shk mono
    by_cases h : l = 0
    · subst h; rw [if_pos rfl, if_neg (by omega)]; show x * 1 + 0 = x; grind
    · rw [if_neg (by omega), if_pos (by omega)]; grind
  | x :: a, i + 1 => by
    show x * mono l (i + 1) + mulL a (mono l) i = shk l (co (x :: a)) (i + 1)
    rw [mulL_mono l a i]
    unfold shk mono
    by_cases h1 : i + 1 < l
    · rw [if_neg (by omega), if_pos (by omega), if_pos h1]; grind
    · by_cases h2 : i + 1 = l
      · rw [if_pos h2, if_pos (by omega), if_neg h1, show i + 1 - l = 0 by omega]; show x * 1 + 0 = x; grind
      · rw [if_neg h2, if_neg (by omega), if_neg h1, show i + 1 - l = (i - l) + 1 by omega, co_cons]; grind
theorem mulOut_cg {p : Int} (b f : Row) (j : Nat) (x : Int) (h : j + b.length ≤ f.length) (i : Nat) : Cg p (co (mulOut p b f ((j : Int), x)) i) (co f i + x * shk j (co b) i) := by
  have e : mulIn p (j : Int) x = divIn p (j : Int) (-x) := by
    funext r q
    unfold mulIn divIn
    rw [show getZ r ((j : Int) + q.1) + x * q.2 = getZ r ((j : Int) + q.1) - -x * q.2 by grind]
  have := divFold_cg p (-x) j b f h i
  unfold mulOut
  rw [e]
  exact this.trans (Cg.of (by grind))
theorem shk_mulL (j : Nat) (x : Int) (f g : F) (i : Nat) : shk j (fun i => x * f i + sh g i) i = x * shk j f i + shk (j + 1) g i := by
  unfold shk
  by_cases h : i < j
  · rw [if_pos h, if_pos h, if_pos (by omega)]; grind
  · rw [if_neg h, if_neg h]
    by_cases h2 : i = j
    · rw [if_pos (by omega), h2, Nat.sub_self]; rfl
    · rw [if_neg (by omega), show i - j = (i - (j + 1)) + 1 by omega]; rfl
theorem mulFold_cg {p : Int} (b : Row) : ∀ (a : Row) (j : Nat) (f : Row), j + a.length + b.length ≤ f.length → ∀ i, Cg p (co ((en j a).foldl (mulOut p b) f) i) (co f i + shk j (mulL a (co b)) i)
  | [], j, f, _, i => Cg.of (by
    show co f i = co f i + shk j (fun _ => 0) i
    unfold shk
    split <;> grind)
  | x :: a, j, f, h, i => by
    rw [List.length_cons] at h
    have h1 := mulFold_cg (p := p) b a (j + 1) (mulOut p b f ((j : Int), x)) (by rw [mulOut_len]; omega) i
    have h2 := mulOut_cg (p := p) b f j x (by omega) i
    show Cg p (co ((en (j + 1) a).foldl (mulOut p b) (mulOut p b f ((j : Int), x))) i) (co f i + shk j (fun i => x * co b i + sh (mulL a (co b)) i) i)
    rw [shk_mulL]
    exact h1.trans ((h2.add (Cg.refl p _)).trans (Cg.of (by grind)))
theorem mulP_cg {p : Int} (a b : Row) (i : Nat) : Cg p (co (mulP p a b) i) (mulL a (co b) i) := by
  unfold mulP
  rw [co_trim]
  have := mulFold_cg (p := p) b a 0 (zeros ((a.length : Int) + b.length)) (by rw [zeros_len]; omega) i
  rw [co_zeros, shk_zero] at this
  exact this.trans (Cg.of (by grind))
/-! coefficients of map, sums -/
theorem co_mod {p c : Int} (r : Row) (i : Nat) : co (r.map fun x => x * c % p) i = co r i * c % p := by
  rw [co_map]
  unfold co
  rw [List.getD_eq_getElem?_getD]
  cases r[i]? with
  | none => show (0 : Int) = 0 * c % p; rw [Int.zero_mul, Int.zero_emod]
  | some x => rfl
theorem scal_cg {p c : Int} (r : Row) (i : Nat) : Cg p (co (scal p r c) i) (co r i * c) := by
  unfold scal
  rw [co_trim, co_mod]
  exact Cg.mod _ _
theorem co_pad (r : Row) (n : Int) (i : Nat) : co (padZ r n) i = co r i := by
  unfold padZ
  by_cases h : i < r.length
  · unfold co
    rw [List.getD_eq_getElem?_getD, List.getD_eq_getElem?_getD, List.getElem?_append_left h]
  · rw [co_out (l := r) (by omega)]
    unfold co
    rw [List.getD_eq_getElem?_getD, List.getElem?_append_right (by omega)]
    unfold zeros
    rw [List.getElem?_replicate]
    split <;> rfl
theorem co_zip {a b : Row} (h : a.length = b.length) (f : Int × Int → Int) (i : Nat) : co ((a.zip b).map f) i = if i < a.length then f (co a i, co b i) else 0 := by
  rw [co_map]
  by_cases hi : i < a.length
  · have : (a.zip b)[i]? = some (co a i, co b i) := List.getElem?_zip_eq_some.mpr ⟨by rw [co_get (List.getElem?_eq_getElem hi)]; exact List.getElem?_eq_getElem hi, by show b[i]? = some (co b i); rw [co_get (List.getElem?_eq_getElem (h ▸ hi))]; exact List.getElem?_eq_getElem (h ▸ hi)⟩
    rw [this, if_pos hi]
    rfl
  · rw [List.getElem?_eq_none (by rw [List.length_zip]; omega), if_neg hi]
    rfl
theorem addP_cg {p : Int} (a b : Row) (i : Nat) : Cg p (co (addP p a b) i) (co a i + co b i) := by
  unfold addP
  have ha := padZ_len a (max a.length b.length) (Nat.le_max_left _ _)
  have hb := padZ_len b (max a.length b.length) (Nat.le_max_right _ _)
  rw [co_trim, mx_nat, co_zip (by rw [ha, hb]), co_pad, co_pad, ha]
  split
  · exact Cg.mod _ _
  · rw [co_out (l := a) (by omega), co_out (l := b) (by omega)]; exact Cg.refl p 0
/-! powers -/
theorem pow_step {p : Int} {S : F → Prop} {f s : Row} {a b : Nat} (hf : In p S (fun i => co f i - mono a i)) (hs : In p S (fun i => co s i - mono b i)) : In p S (fun i => co (mulP p f s) i - mono (a + b) i) := by
  have h1 : In p S (fun i => mulL f (co s) i - shk b (co f) i) := (in_mulL hs f).eq fun i => by rw [mulL_sub, mulL_mono]
  have h2 : In p S (fun i => shk b (co f) i - mono (a + b) i) := (hf.shk b).eq fun i => by
    rw [← shk_mono]
    unfold Rg.shk
    split <;> grind
  exact (h1.add h2).cg fun i => (((mulP_cg f s i).symm.sub (Cg.refl p (mono (a + b) i))).symm.trans (Cg.of (by grind))).symm
theorem rem_step {p : Int} (hp : Pr p) {m f : Row} {a : Nat} (hm : Tr p m) (hn : m ≠ []) (hf : In p (Gs [m]) (fun i => co f i - mono a i)) : In p (Gs [m]) (fun i => co (remP p f m) i - mono a i) :=
  (hf.sub (div_spec (a := f) hp hn hm.1 (hm.lst hn)).2).eq fun i => by grind
theorem powGo_In {p : Int} (hp : Pr p) {m : Row} (hm : Tr p m) (hn : m ≠ []) : ∀ (k n : Nat) (f s : Row) (a b : Nat), n ≤ k → In p (Gs [m]) (fun i => co f i - mono a i) → In p (Gs [m]) (fun i => co s i - mono b i) → In p (Gs [m]) (fun i => co (powGo p m k n f s) i - mono (a + b * n) i)
  | 0, n, f, s, a, b, h, hf, _ => by
    have : n = 0 := Nat.le_zero.mp h
    subst this
    exact hf
  | k + 1, n, f, s, a, b, h, hf, hs => by
    show In p (Gs [m]) (fun i => co (if n = 0 then f else powGo p m k (n / 2) (if n % 2 = 1 then remP p (mulP p f s) m else f) (remP p (mulP p s s) m)) i - mono (a + b * n) i)
    by_cases h0 : n = 0
    · subst h0
      rw [if_pos rfl]
      exact hf
    · rw [if_neg h0]
      have hs2 := rem_step hp hm hn (pow_step hs hs)
      by_cases ho : n % 2 = 1
      · rw [if_pos ho]
        have := powGo_In hp hm hn k (n / 2) _ _ _ _ (by omega) (rem_step hp hm hn (pow_step hf hs)) hs2
        have e : a + b + (b + b) * (n / 2) = a + b * n := by
          have : n = 1 + 2 * (n / 2) := by omega
          conv => rhs; rw [this]
          grind
        rwa [e] at this
      · rw [if_neg ho]
        have := powGo_In hp hm hn k (n / 2) _ _ _ _ (by omega) hf hs2
        have e : a + (b + b) * (n / 2) = a + b * n := by
          have : n = 2 * (n / 2) := by omega
          conv => rhs; rw [this]
          grind
        rwa [e] at this
theorem co_one (i : Nat) : co [1] i = mono 0 i := by cases i <;> rfl
theorem co_x (i : Nat) : co [0, 1] i = mono 1 i := by
  cases i with
  | zero => rfl
  | succ i => cases i <;> rfl
theorem powX_In {p : Int} (hp : Pr p) {m : Row} (hm : Tr p m) (hn : m ≠ []) (n : Nat) : In p (Gs [m]) (fun i => co (powX p n m) i - mono n i) := by
  have h1 : In p (Gs [m]) (fun i => co [1] i - mono 0 i) := In.zero.eq fun i => by rw [co_one]; grind
  have h2 : In p (Gs [m]) (fun i => co [0, 1] i - mono 1 i) := In.zero.eq fun i => by rw [co_x]; grind
  have := powGo_In hp hm hn n n _ _ _ _ (Nat.le_refl _) (rem_step hp hm hn h1) (rem_step hp hm hn h2)
  rwa [Nat.zero_add, Nat.one_mul] at this
/-! greatest common divisors -/
theorem in_gs {p : Int} {rows : List Row} {r : Row} (h : r ∈ rows) : In p (Gs rows) (co r) := .gen ⟨r, h, rfl⟩
theorem In.gs {p : Int} {rows : List Row} {T : F → Prop} {f : F} (h : In p (Gs rows) f) (hs : ∀ r ∈ rows, In p T (co r)) : In p T f := h.mono fun g ⟨r, hr, e⟩ => e ▸ hs r hr
theorem mon_In {p : Int} (hp : Pr p) {r : Row} (hr : Rw p r) (hn : r ≠ []) (hl : lst r ≠ 0) : In p (Gs [mon p r]) (co r) ∧ In p (Gs [r]) (co (mon p r)) := by
  have hm := hr.1 _ (lst_mem hn)
  have hi := inv_all (c := lst r) hp (by omega) hm.2
  have hc : ∀ i, Cg p (co (mon p r) i) (co r i * inv p (lst r)) := fun i => scal_cg r i
  refine ⟨((in_gs (List.mem_singleton.mpr rfl)).smul (lst r)).cg fun i => ?_, ((in_gs (List.mem_singleton.mpr rfl)).smul (inv p (lst r))).cg fun i => ?_⟩
  · have h1 : Cg p (inv p (lst r) * lst r) 1 := (Cg.mod p _).symm.trans (Cg.of hi.2.1)
    have h2 := (Cg.refl p (lst r)).mul (hc i)
    have h3 := (Cg.refl p (co r i)).mul h1
    exact h2.trans ((Cg.of (by grind)).trans (h3.trans (Cg.of (by grind))))
  · exact (Cg.of (by grind)).trans (hc i).symm
theorem gcdGo_In {p : Int} (hp : Pr p) : ∀ (n : Nat) (a b : Row), Tr p a → Tr p b → In p (Gs [a, b]) (co (gcdGo p n a b)) ∧ (b.length < n → In p (Gs [gcdGo p n a b]) (co a) ∧ In p (Gs [gcdGo p n a b]) (co b))
  | 0, a, b, _, _ => ⟨in_gs List.mem_cons_self, fun h => absurd h (Nat.not_lt_zero _)⟩
  | n + 1, a, b, ha, hb => by
    show In p (Gs [a, b]) (co (if b = [] then a else gcdGo p n b (remP p a b))) ∧ (b.length < n + 1 → In p (Gs [if b = [] then a else gcdGo p n b (remP p a b)]) (co a) ∧ In p (Gs [if b = [] then a else gcdGo p n b (remP p a b)]) (co b))
    by_cases h : b = []
    · rw [if_pos h]
      exact ⟨in_gs List.mem_cons_self, fun _ => ⟨in_gs List.mem_cons_self, by rw [h]; exact In.zero⟩⟩
    · rw [if_neg h]
      have ih := gcdGo_In hp n b (remP p a b) hb (tr_rem hp ha.1 b)
      have hd := (div_spec (a := a) hp h hb.1 (hb.lst h)).2
      have hl := rem_len (a := a) hp h hb.1 (hb.lst h)
      refine ⟨ih.1.gs fun r hr => ?_, fun hn => ?_⟩
      · rcases List.mem_cons.mp hr with rfl | hr
        · exact in_gs (List.mem_cons_of_mem _ List.mem_cons_self)
        · rw [List.mem_singleton.mp hr]
          exact In.of_sub' (hd.gs fun r hr => by rw [List.mem_singleton.mp hr]; exact in_gs (List.mem_cons_of_mem _ List.mem_cons_self)) (in_gs List.mem_cons_self)
      · have ih2 := ih.2 (by omega)
        refine ⟨In.of_sub (hd.gs fun r hr => by rw [List.mem_singleton.mp hr]; exact ih2.1) ih2.2, ih2.1⟩
theorem gcd2_In {p : Int} (hp : Pr p) {a b : Row} (ha : Tr p a) (hb : Tr p b) : In p (Gs [a, b]) (co (gcd2 p a b)) ∧ In p (Gs [gcd2 p a b]) (co a) ∧ In p (Gs [gcd2 p a b]) (co b) := by
  have h := gcdGo_In hp (b.length + 1) a b ha hb
  have h2 := h.2 (Nat.lt_succ_self _)
  have ht := (gcdE_tr hp ha hb).1
  unfold gcd2
  by_cases e : gcdE p a b = []
  · rw [if_pos e]
    have e' : gcdGo p (b.length + 1) a b = [] := e
    rw [e'] at h h2
    exact ⟨h.1, h2⟩
  · rw [if_neg e]
    have hm := mon_In hp ht.1 e (ht.lst e)
    refine ⟨hm.2.gs fun r hr => by rw [List.mem_singleton.mp hr]; exact h.1, h2.1.gs fun r hr => by rw [List.mem_singleton.mp hr]; exact hm.1, h2.2.gs fun r hr => by rw [List.mem_singleton.mp hr]; exact hm.1⟩
theorem gcdFold_In {p : Int} (hp : Pr p) : ∀ (rows : List Row) (s : Row), Tr p s → (∀ r ∈ rows, Tr p r) → In p (Gs (s :: rows)) (co (rows.foldl (gcd2 p) s)) ∧ ∀ r ∈ s :: rows, In p (Gs [rows.foldl (gcd2 p) s]) (co r)
  | [], s, _, _ => ⟨in_gs List.mem_cons_self, fun r hr => by rw [List.mem_singleton.mp hr]; exact in_gs List.mem_cons_self⟩
  | d :: rows, s, hs, h => by
    have h1 := gcd2_In hp hs (h d List.mem_cons_self)
    have ih := gcdFold_In hp rows (gcd2 p s d) (gcd2_tr hp hs (h d List.mem_cons_self)).1 fun r hr => h r (List.mem_cons_of_mem _ hr)
    have hg := ih.2 _ List.mem_cons_self
    have up : ∀ x, In p (Gs [gcd2 p s d]) (co x) → In p (Gs [rows.foldl (gcd2 p) (gcd2 p s d)]) (co x) := fun x hx => hx.gs fun r hr => by rw [List.mem_singleton.mp hr]; exact hg
    refine ⟨ih.1.gs fun r hr => ?_, fun r hr => ?_⟩
    · rcases List.mem_cons.mp hr with rfl | hr
      · exact h1.1.gs fun r hr => by
          rcases List.mem_cons.mp hr with rfl | hr
          · exact in_gs List.mem_cons_self
          · rw [List.mem_singleton.mp hr]; exact in_gs (List.mem_cons_of_mem _ List.mem_cons_self)
      · exact in_gs (List.mem_cons_of_mem _ (List.mem_cons_of_mem _ hr))
    · rcases List.mem_cons.mp hr with rfl | hr
      · exact up _ h1.2.1
      · rcases List.mem_cons.mp hr with rfl | hr
        · exact up _ h1.2.2
        · exact ih.2 r (List.mem_cons_of_mem _ hr)
theorem gcdAll_In {p : Int} (hp : Pr p) {rows : List Row} (h : ∀ r ∈ rows, Tr p r) : In p (Gs rows) (co (gcdAll p rows)) ∧ ∀ r ∈ rows, In p (Gs [gcdAll p rows]) (co r) := by
  have := gcdFold_In hp rows [] (Tr.nil p) h
  refine ⟨this.1.gs fun r hr => ?_, fun r hr => this.2 r (List.mem_cons_of_mem _ hr)⟩
  rcases List.mem_cons.mp hr with rfl | hr
  · exact In.zero
  · exact in_gs hr
/-! the ideal of the panel on the ring -/
def SJ (P : Panel) (n : Nat) : F → Prop := fun f => (∃ r ∈ P.2, f = co (ruleRow r)) ∨ f = fun i => mono n i - mono 0 i
theorem gener_In {P : Panel} (h : PanelV P) : (∀ S, (∀ r ∈ P.2, In P.1 S (co (ruleRow r))) → In P.1 S (co (gener P))) ∧ ∀ r ∈ P.2, In P.1 (Gs [gener P]) (co (ruleRow r)) := by
  have hc := cores_tr h
  have h1 := gcdAll_In h.1 fun r hr => (hc r hr).1
  refine ⟨fun S hS => h1.1.gs fun r hr => ?_, fun r hr => ?_⟩
  · obtain ⟨b, hb, rfl⟩ := List.mem_map.mp hr
    have ho := core_ok h.1 (h.2.1 b hb)
    exact (mon_In h.1 ho.1 ho.2.1 ho.2.2).2.gs fun r hr => by rw [List.mem_singleton.mp hr]; exact hS b hb
  · have ho := core_ok h.1 (h.2.1 r hr)
    exact (mon_In h.1 ho.1 ho.2.1 ho.2.2).1.gs fun x hx => by rw [List.mem_singleton.mp hx]; exact h1.2 _ (List.mem_map.mpr ⟨r, hr, rfl⟩)
theorem divOn_In {P : Panel} (h : PanelV P) (n : Nat) : In P.1 (SJ P n) (co (divOn P n)) ∧ ∀ f, SJ P n f → In P.1 (Gs [divOn P n]) f := by
  have hg := gener_ok h
  have hgI := gener_In h
  have hr := divRows_tr h n
  have hR := divRest_ok h n
  have h1 := gcdAll_In h.1 fun r hr' => (hr r hr').1
  have hd := (div_spec (a := addP P.1 (powX P.1 n (gener P)) [P.1 - 1]) h.1 hg.2.1 hg.1.1 (hg.1.lst hg.2.1)).2
  have hx := powX_In h.1 hg.1 hg.2.1 n
  -- the row before its rest is taken, over the generator: x^n - 1
  have hrow : In P.1 (Gs [gener P]) (fun i => co (addP P.1 (powX P.1 n (gener P)) [P.1 - 1]) i - (mono n i - mono 0 i)) := hx.cg fun i => by
    have e : Cg P.1 (co [P.1 - 1] i) (-(mono 0 i)) := by
      cases i with
      | zero => exact ⟨1, by show P.1 - 1 = -1 + P.1 * 1; grind⟩
      | succ i => exact Cg.refl P.1 0
    have h2 := (addP_cg (p := P.1) (powX P.1 n (gener P)) [P.1 - 1] i).trans ((Cg.refl P.1 _).add e)
    exact ((h2.sub (Cg.refl P.1 (mono n i - mono 0 i))).trans (Cg.of (by grind))).symm
  have hrest := (hrow.sub hd).eq (g := fun i => co (remP P.1 (addP P.1 (powX P.1 n (gener P)) [P.1 - 1]) (gener P)) i - (mono n i - mono 0 i)) fun i => by grind
  have gJ : In P.1 (SJ P n) (co (gener P)) := hgI.1 _ fun r hr => .gen (.inl ⟨r, hr, rfl⟩)
  refine ⟨h1.1.gs fun r hr' => ?_, fun f hf => ?_⟩
  · rcases List.mem_cons.mp hr' with rfl | hr'
    · exact gJ
    · rw [List.mem_singleton.mp hr']
      exact In.of_sub (hrest.gs fun x hx => by rw [List.mem_singleton.mp hx]; exact gJ) (.gen (.inr rfl))
  · have hg2 : In P.1 (Gs [divOn P n]) (co (gener P)) := h1.2 _ List.mem_cons_self
    rcases hf with ⟨r, hr', rfl⟩ | rfl
    · exact (hgI.2 r hr').gs fun x hx => by rw [List.mem_singleton.mp hx]; exact hg2
    · exact In.of_sub' (hrest.gs fun x hx => by rw [List.mem_singleton.mp hx]; exact hg2) (h1.2 _ (List.mem_cons_of_mem _ List.mem_cons_self))
/-! uniqueness -/
theorem mulL_pad (f : F) : ∀ (a b : Row), ∃ c, ∀ i, mulL c f i = mulL a f i + mulL b f i
  | [], b => ⟨b, fun i => by show _ = 0 + _; grind⟩
  | x :: a, [] => ⟨x :: a, fun i => by show _ = _ + 0; grind⟩
  | x :: a, y :: b => by
    obtain ⟨c, hc⟩ := mulL_pad f a b
    refine ⟨(x + y) :: c, fun i => ?_⟩
    show (x + y) * f i + sh (mulL c f) i = (x * f i + sh (mulL a f) i) + (y * f i + sh (mulL b f) i)
    have : sh (mulL c f) i = sh (mulL a f) i + sh (mulL b f) i := by cases i <;> simp [sh, hc]
    rw [this]
    grind
theorem mulL_smul (f : F) (c : Int) : ∀ (a : Row) (i : Nat), mulL (a.map fun x => c * x) f i = c * mulL a f i
  | [], i => by show (0 : Int) = c * 0; grind
  | x :: a, i => by
    show c * x * f i + sh (mulL (a.map fun x => c * x) f) i = c * (x * f i + sh (mulL a f) i)
    have : sh (mulL (a.map fun x => c * x) f) i = c * sh (mulL a f) i := by cases i <;> simp [sh, mulL_smul f c a]
    rw [this]
    grind
theorem in_mult {p : Int} {d : Row} {f : F} (h : In p (Gs [d]) f) : ∃ q, ∀ i, Cg p (f i) (mulL q (co d) i) := by
  induction h with
  | gen h =>
    obtain ⟨r, hr, rfl⟩ := h
    rw [List.mem_singleton.mp hr]
    exact ⟨[1], fun i => Cg.of (by
      show co d i = 1 * co d i + sh (fun _ => 0) i
      have : sh (fun _ => 0) i = 0 := by cases i <;> rfl
      rw [this]
      grind)⟩
  | zero => exact ⟨[], fun i => Cg.refl p 0⟩
  | add _ _ h1 h2 =>
    obtain ⟨a, ha⟩ := h1
    obtain ⟨b, hb⟩ := h2
    obtain ⟨c, hc⟩ := mulL_pad (co d) a b
    exact ⟨c, fun i => by rw [hc]; exact (ha i).add (hb i)⟩
  | smul c _ h =>
    obtain ⟨a, ha⟩ := h
    exact ⟨a.map fun x => c * x, fun i => by rw [mulL_smul]; exact (Cg.refl p c).mul (ha i)⟩
  | sh _ h =>
    obtain ⟨a, ha⟩ := h
    exact ⟨0 :: a, fun i => (sh_cg ha i).trans (Cg.of (by show _ = 0 * co d i + sh (mulL a (co d)) i; grind))⟩
  | cg _ e h =>
    obtain ⟨a, ha⟩ := h
    exact ⟨a, fun i => (e i).symm.trans (ha i)⟩
theorem unit_zero {p c x : Int} (hp : Pr p) (h0 : 0 ≤ c) (h1 : c < p) (hc : c ≠ 0) (h : Cg p (x * c) 0) : Cg p x 0 := by
  have hi := inv_all (c := c) hp (by omega) h1
  have h1 : Cg p (inv p c * c) 1 := (Cg.mod p _).symm.trans (Cg.of hi.2.1)
  have h2 := (Cg.refl p x).mul h1
  have h3 := h.mul (Cg.refl p (inv p c))
  exact (Cg.of (by grind)).trans (h2.symm.trans ((Cg.of (by grind)).trans (h3.trans (Cg.of (by grind)))))
theorem mulL_zero {p : Int} (hp : Pr p) {d : Row} (hd : Tr p d) (hn : d ≠ []) : ∀ q : Row, (∀ i, d.length - 1 ≤ i → Cg p (mulL q (co d) i) 0) → ∀ i, Cg p (mulL q (co d) i) 0
  | [], _, i => Cg.refl p 0
  | x :: q, h, i => by
    have hl : 0 < d.length := List.length_pos_iff.mpr hn
    have hz : ∀ i, Cg p (mulL q (co d) i) 0 := mulL_zero hp hd hn q fun i hi => by
      have := h (i + 1) (by omega)
      have e : mulL (x :: q) (co d) (i + 1) = x * co d (i + 1) + mulL q (co d) i := rfl
      rw [e, co_out (l := d) (by omega)] at this
      exact (Cg.of (by grind)).trans this
    have hs : ∀ i, Cg p (sh (mulL q (co d)) i) 0 := fun i => (sh_cg (g := fun _ => 0) hz i).trans (Cg.of (by cases i <;> rfl))
    have hx : Cg p x 0 := by
      have := h (d.length - 1) (Nat.le_refl _)
      have e : mulL (x :: q) (co d) (d.length - 1) = x * co d (d.length - 1) + sh (mulL q (co d)) (d.length - 1) := rfl
      rw [e, co_lst hn] at this
      have hm := hd.1.1 _ (lst_mem hn)
      exact unit_zero hp hm.1 hm.2 (hd.lst hn) (((Cg.of (by grind)).trans (this.sub (hs (d.length - 1)))).trans (Cg.of (by grind)))
    show Cg p (x * co d i + sh (mulL q (co d)) i) 0
    exact ((hx.mul (Cg.refl p (co d i))).add (hs i)).trans (Cg.of (by grind))
theorem rw_zero {p : Int} (hp : 0 < p) {r : Row} (hr : Rw p r) (h : ∀ i, Cg p (co r i) 0) : ∀ i, co r i = 0 := fun i => by
  have := co_rw hp hr i
  exact (h i).eq this.1 this.2 (Int.le_refl 0) hp
theorem tr_nil {p : Int} (hp : Pr p) {r : Row} (hr : Tr p r) (h : ∀ i, Cg p (co r i) 0) : r = [] := by
  have := trim_short (l := r) (m := 0) fun i _ => rw_zero hp.pos hr.1 h i
  rw [hr.2] at this
  exact List.eq_nil_of_length_eq_zero (Nat.le_zero.mp this)
theorem short_nil {p : Int} (hp : Pr p) {d r : Row} (hd : Tr p d) (hn : d ≠ []) (hr : Tr p r) (hl : r.length < d.length) (h : In p (Gs [d]) (co r)) : r = [] := by
  obtain ⟨q, hq⟩ := in_mult h
  have hz := mulL_zero hp hd hn q fun i hi => (hq i).symm.trans (Cg.of (co_out (l := r) (by omega)))
  exact tr_nil hp hr fun i => (hq i).trans (hz i)
theorem len_le {P Q : Panel} (hP : PanelV P) (hQ : PanelV Q) (e : P.1 = Q.1) {n m : Nat} (h : ∀ f, SJ P n f → In Q.1 (SJ Q m) f) : (divOn Q m).length ≤ (divOn P n).length := by
  have hp := divOn_ok hP n
  have hq := divOn_ok hQ m
  have h1 : In Q.1 (Gs [divOn Q m]) (co (divOn P n)) := by
    have := (divOn_In hP n).1
    rw [e] at this
    exact (this.mono h).mono (divOn_In hQ m).2
  apply Nat.le_of_not_lt
  intro hl
  exact hp.2.1 (short_nil hQ.1 hq.1 hq.2.1 (e ▸ hp.1) hl h1)
theorem loss_le {P Q : Panel} (hP : PanelV P) (hQ : PanelV Q) (e : P.1 = Q.1) {n m : Nat} (h : ∀ f, SJ P n f → In Q.1 (SJ Q m) f) : lossOf Q m ≤ lossOf P n := by
  have := len_le hP hQ e h
  unfold lossOf
  omega
end Rg
end
section
set_option linter.all false
/-! Pictures as sums of powers: what can be reached. -/
namespace Rg
def sm (g : Int → Nat) : List (Int × Int) → F
  | [] => fun _ => 0
  | q :: l => fun i => q.2 * mono (g q.1) i + sm g l i
def pf (pic : Pic) : F := sm Int.toNat pic
theorem sm_cons (g : Int → Nat) (q : Int × Int) (l : List (Int × Int)) (i : Nat) : sm g (q :: l) i = q.2 * mono (g q.1) i + sm g l i := rfl
theorem sm_shk {g h : Int → Nat} {s : Nat} : ∀ {l : List (Int × Int)}, (∀ q ∈ l, h q.1 = g q.1 + s) → ∀ i, sm h l i = shk s (sm g l) i
  | [], _, i => by
    show (0 : Int) = shk s (fun _ => 0) i
    unfold shk
    split <;> rfl
  | q :: l, e, i => by
    rw [sm_cons, sm_shk (g := g) (s := s) (fun q hq => e q (List.mem_cons_of_mem _ hq)) i, e q List.mem_cons_self, ← shk_mono]
    unfold shk
    by_cases hi : i < s
    · rw [if_pos hi, if_pos hi, if_pos hi]; grind
    · rw [if_neg hi, if_neg hi, if_neg hi]; rfl
theorem sm_congr {g h : Int → Nat} : ∀ {l : List (Int × Int)}, (∀ q ∈ l, h q.1 = g q.1) → ∀ i, sm h l i = sm g l i
  | [], _, i => rfl
  | q :: l, e, i => by rw [sm_cons, sm_cons, sm_congr (g := g) (fun q hq => e q (List.mem_cons_of_mem _ hq)) i, e q List.mem_cons_self]
theorem sm_In {p : Int} {S : F → Prop} {g h : Int → Nat} : ∀ {l : List (Int × Int)}, (∀ q ∈ l, In p S (fun i => mono (g q.1) i - mono (h q.1) i)) → In p S (fun i => sm g l i - sm h l i)
  | [], _ => In.zero.eq fun i => by show (0 : Int) = 0 - 0; rfl
  | q :: l, e => (((e q List.mem_cons_self).smul q.2).add (sm_In fun q hq => e q (List.mem_cons_of_mem _ hq))).eq fun i => by rw [sm_cons, sm_cons]; grind
/-! the ring -/
theorem turn_In {P : Panel} {n : Nat} (m : Nat) : ∀ q : Nat, In P.1 (SJ P n) (fun i => mono (m + n * q) i - mono m i)
  | 0 => In.zero.eq fun i => by rw [Nat.mul_zero, Nat.add_zero]; grind
  | q + 1 => by
    have h1 := in_shift (a := n) (b := 0) (In.gen (p := P.1) (S := SJ P n) (.inr rfl)) (m + n * q)
    have e : n + (m + n * q) = m + n * (q + 1) := by grind
    rw [e, Nat.zero_add] at h1
    exact (h1.add (turn_In m q)).eq fun i => by grind
theorem mod_In {P : Panel} {n a b : Nat} (h : a % n = b % n) : In P.1 (SJ P n) (fun i => mono a i - mono b i) := by
  have h1 := turn_In (P := P) (n := n) (a % n) (a / n)
  have h2 := turn_In (P := P) (n := n) (b % n) (b / n)
  rw [Nat.mod_add_div] at h1 h2
  rw [← h] at h2
  exact (h1.sub h2).eq fun i => by grind
theorem modI_In {P : Panel} {n : Nat} (hn : 1 ≤ n) {x y : Int} (hy : 0 ≤ y) (h : x % (n : Int) = y % (n : Int)) : In P.1 (SJ P n) (fun i => mono (x % (n : Int)).toNat i - mono y.toNat i) := by
  refine mod_In ?_
  have h1 := Int.emod_nonneg x (b := (n : Int)) (by omega)
  have h2 := Int.emod_lt_of_pos x (b := (n : Int)) (by omega)
  have e1 : ((x % (n : Int)).toNat : Int) = x % n := Int.toNat_of_nonneg h1
  have e2 : ((y.toNat % n : Nat) : Int) = y % (n : Int) := by rw [Int.natCast_emod, Int.toNat_of_nonneg hy]
  rw [Nat.mod_eq_of_lt (by omega)]
  omega
/-! rows of rules -/
theorem ruleFold_co (l : Int) : ∀ (r : Rule) (f : Row), (∀ z ∈ r.zip (r.drop 1), z.1.1 < z.2.1) → (∀ q ∈ r, l ≤ q.1 ∧ (q.1 - l).toNat < f.length ∧ co f (q.1 - l).toNat = 0) → ∀ i, co (r.foldl (ruleIn l) f) i = co f i + sm (fun o => (o - l).toNat) r i
  | [], f, _, _, i => by show co f i = co f i + 0; grind
  | q :: r, f, ha, h, i => by
    have hq := h q List.mem_cons_self
    have e : ruleIn l f q = setZ f (((q.1 - l).toNat : Nat) : Int) q.2 := by
      unfold ruleIn
      rw [Int.toNat_of_nonneg (by omega)]
    have hc : ∀ i, co (ruleIn l f q) i = co f i + q.2 * mono (q.1 - l).toNat i := fun i => by
      rw [e, co_setZ]
      unfold mono
      by_cases hi : i = (q.1 - l).toNat
      · rw [if_pos ⟨hi, hq.2.1⟩, if_pos hi, hi, hq.2.2]; grind
      · rw [if_neg (fun z => hi z.1), if_neg hi]; grind
    rw [List.foldl_cons, ruleFold_co l r (ruleIn l f q) (asc_tail ha) (fun z hz => ?_) i, hc, sm_cons]
    · grind
    · have hz' := h z (List.mem_cons_of_mem _ hz)
      have hlt := asc_head ha z hz
      refine ⟨hz'.1, by rw [ruleIn_len]; exact hz'.2.1, ?_⟩
      rw [hc, hz'.2.2]
      unfold mono
      rw [if_neg (by omega)]
      grind
theorem ruleRow_co {p : Int} {r : Rule} (h : RuleV p r) (i : Nat) : co (ruleRow r) i = sm (fun o => (o - leastOf r).toNat) r i := by
  have hl := ruleRow_len h
  unfold ruleRow at hl ⊢
  rw [ruleFold_len] at hl
  rw [ruleFold_co (leastOf r) r _ h.2.1 (fun q hq => ?_) i, co_zeros]
  · grind
  · have h1 := asc_least h.2.1 q hq
    have h2 := asc_last h.2.2.2 h.2.1 q hq
    exact ⟨h1, by omega, co_zeros _ _⟩
/-! presses -/
theorem press_cg {p : Int} (f : Row) (a t : Int) (q : Int × Int) (hn : 1 ≤ f.length) (i : Nat) : Cg p (co (pressIn p a t f q) i) (co f i + t * (q.2 * mono ((a + q.1) % (f.length : Int)).toNat i)) := by
  have h1 := Int.emod_nonneg (a + q.1) (b := (f.length : Int)) (by omega)
  have h2 := Int.emod_lt_of_pos (a + q.1) (b := (f.length : Int)) (by omega)
  unfold pressIn
  have e : (a + q.1) % (f.length : Int) = ((((a + q.1) % (f.length : Int)).toNat : Nat) : Int) := (Int.toNat_of_nonneg h1).symm
  generalize ((a + q.1) % (f.length : Int)).toNat = k at e
  rw [e] at h2 ⊢
  rw [co_setZ, getZ_co]
  unfold mono
  by_cases hi : i = k
  · subst hi
    rw [if_pos ⟨rfl, by omega⟩, if_pos rfl]
    exact (Cg.mod _ _).trans (Cg.of (by grind))
  · rw [if_neg (fun z => hi z.1), if_neg hi]
    exact Cg.of (by grind)
theorem behind_cg {p : Int} {n : Nat} (hn : 1 ≤ n) (a t : Int) : ∀ (b : Rule) (f : Row), f.length = n → ∀ i, Cg p (co (behind p f b a t) i) (co f i + t * sm (fun o => ((a + o) % (n : Int)).toNat) b i)
  | [], f, _, i => Cg.of (by show co f i = co f i + t * 0; grind)
  | q :: b, f, hf, i => by
    have h1 := behind_cg (p := p) hn a t b (pressIn p a t f q) (by rw [pressIn_len]; exact hf) i
    have h2 := press_cg (p := p) f a t q (by omega) i
    rw [hf] at h2
    show Cg p (co (behind p (pressIn p a t f q) b a t) i) _
    rw [sm_cons]
    exact h1.trans ((h2.add (Cg.refl p _)).trans (Cg.of (by grind)))
theorem press_In {P : Panel} (h : PanelV P) {n : Nat} (hn : 1 ≤ n) {b : Rule} (hb : b ∈ P.2) {a : Int} (ha : 0 ≤ a) : In P.1 (SJ P n) (sm (fun o => ((a + o) % (n : Int)).toNat) b) := by
  have hv := h.2.1 b hb
  have hl := ruleRow_len hv
  have h1 : In P.1 (SJ P n) (fun i => sm (fun o => ((a + o) % (n : Int)).toNat) b i - sm (fun o => (a + o + n * 4).toNat) b i) := sm_In fun q hq => by
    have hq := hv.1 q hq
    exact modI_In hn (by omega) (by rw [Int.add_mul_emod_self_left])
  have h2 : In P.1 (SJ P n) (sm (fun o => (a + o + n * 4).toNat) b) := ((In.gen (p := P.1) (S := SJ P n) (.inl ⟨b, hb, rfl⟩)).shk (a + leastOf b + n * 4).toNat).eq fun i => by
    rw [sm_shk (g := fun o => (o - leastOf b).toNat) (s := (a + leastOf b + n * 4).toNat) (fun q hq => by have := asc_least hv.2.1 q hq; omega) i]
    unfold shk
    split
    · rfl
    · exact ruleRow_co hv _
  exact In.of_sub h1 h2
/-! pictures -/
theorem en_sm : ∀ (l : Row) (j : Nat) (i : Nat), sm Int.toNat (((en j l).filter fun q => !decide (q.2 = 0)).map fun q => (q.1, q.2)) i = shk j (co l) i
  | [], j, i => by
    show (0 : Int) = shk j (co []) i
    unfold shk
    split <;> rfl
  | x :: l, j, i => by
    have e : ∀ i, co (x :: l) i = x * mono 0 i + sh (co l) i := fun i => by
      cases i with
      | zero => show x = x * 1 + 0; grind
      | succ i => show co l i = x * 0 + co l i; grind
    have e2 : shk j (co (x :: l)) i = x * mono j i + shk (j + 1) (co l) i := by
      have := shk_mulL j x (mono 0) (co l) i
      rw [shk_mono, Nat.zero_add] at this
      rw [← this]
      unfold shk
      split
      · rfl
      · exact e _
    show sm Int.toNat ((((((j : Int), x) :: en (j + 1) l).filter fun q => !decide (q.2 = 0))).map fun q => (q.1, q.2)) i = _
    rw [e2, ← en_sm l (j + 1) i]
    by_cases hx : x = 0
    · rw [List.filter_cons_of_neg (by simp [hx]), hx]; grind
    · rw [List.filter_cons_of_pos (by simp [hx]), List.map_cons, sm_cons, Int.toNat_natCast]
theorem pf_picOf (ring : Row) (i : Nat) : pf (picOf ring) i = co ring i := by
  have := en_sm ring 0 i
  rwa [shk_zero] at this
theorem en_lt : ∀ (l : Row) (j : Nat), (en j l).Pairwise fun a b => a.1 < b.1
  | [], _ => .nil
  | x :: l, j => by
    refine .cons (fun q hq => ?_) (en_lt l (j + 1))
    obtain ⟨i, _, _, h⟩ := en_of (j + 1) l q hq
    show (j : Int) < q.1
    omega
where en_of : ∀ (j : Nat) (l : Row) (q : Int × Int), q ∈ en j l → ∃ i : Nat, i < l.length ∧ l[i]? = some q.2 ∧ q.1 = ((j + i : Nat) : Int)
  | _, [], _, h => nomatch h
  | j, a :: t, q, h => by
    rcases List.mem_cons.mp h with rfl | h
    · exact ⟨0, by simp, rfl, rfl⟩
    · obtain ⟨i, h1, h2, h3⟩ := en_of (j + 1) t q h
      exact ⟨i + 1, by simpa using h1, by simpa using h2, by omega⟩
theorem en_ln : ∀ (l : Row) (j : Nat), (en j l).length = l.length
  | [], _ => rfl
  | x :: l, j => by show (en (j + 1) l).length + 1 = l.length + 1; rw [en_ln l (j + 1)]
theorem picOf_v {p : Int} {n : Int} {ring : Row} (h : Rw p ring) (hl : (ring.length : Int) = n) : PicV p n (picOf ring) := by
  refine ⟨fun q hq => ?_, ?_, ?_⟩
  · obtain ⟨z, hz, rfl⟩ := List.mem_map.mp hq
    obtain ⟨h1, h2⟩ := List.mem_filter.mp hz
    obtain ⟨i, g1, g2, g3⟩ := en_lt.en_of 0 ring z h1
    have h3 : z.2 ≠ 0 := by simpa using h2
    have h4 := h.1 z.2 (List.mem_of_getElem? g2)
    refine ⟨by show 0 ≤ z.1; omega, by show z.1 ≤ n - 1; omega, by show 1 ≤ z.2; omega, by show z.2 ≤ p - 1; omega⟩
  · refine asc_zip (R := fun a b : Int × Int => a.1 < b.1) ?_
    unfold picOf
    rw [List.pairwise_map]
    exact (en_lt ring 0).filter _
  · unfold picOf
    rw [List.length_map]
    refine Nat.le_trans (List.length_filter_le _ _) ?_
    rw [en_ln]
    exact h.2
theorem lampRow_v {P : Panel} (h : PanelV P) {n : Nat} (hn : n ≤ 1000) (ps : Push) : Rw P.1 (lampRow P n ps) ∧ (lampRow P n ps).length = n :=
  fold_keeps (fun f : Row => Rw P.1 f ∧ f.length = n) _ _ ⟨zeros_rw h.1.pos (by omega), by rw [zeros_len]; omega⟩ fun s d _ hs => ⟨behind_rw h.1.pos hs.1 _ _ _, by unfold lampIn; rw [behind_len]; exact hs.2⟩
theorem lampsOf_v {P : Panel} (h : PanelV P) {n : Nat} (hn : n ≤ 1000) (ps : Push) : PicV P.1 n (lampsOf P n ps) := picOf_v (lampRow_v h hn ps).1 (by rw [(lampRow_v h hn ps).2])
theorem lamp_In {P : Panel} (h : PanelV P) {n : Nat} (hn : 1 ≤ n) (hn2 : n ≤ 1000) {ps : Push} (hps : PushV P n ps) : In P.1 (SJ P n) (pf (lampsOf P n ps)) := by
  have key : (lampRow P n ps).length = n ∧ In P.1 (SJ P n) (co (lampRow P n ps)) := by
    refine fold_keeps (fun f : Row => f.length = n ∧ In P.1 (SJ P n) (co f)) _ _ ⟨by rw [zeros_len]; omega, In.zero.eq fun i => (co_zeros _ _).symm⟩ fun s d hd hs => ?_
    have hx := hps.1 d hd
    have hb : button P d.1 ∈ P.2 := by
      have : P.2[d.1.toNat]? = some (button P d.1) := by
        unfold button
        rw [List.getD_eq_getElem?_getD, List.getElem?_eq_getElem (by omega)]
        rfl
      exact List.mem_of_getElem? this
    refine ⟨by unfold lampIn; rw [behind_len]; exact hs.1, (hs.2.add ((press_In h hn hb hx.2.2.1).smul d.2.2)).cg fun i => (behind_cg hn d.2.1 d.2.2 (button P d.1) s hs.1 i).symm⟩
  exact key.2.eq fun i => (pf_picOf _ i).symm
/-! what can be reached -/
theorem rest_In {p : Int} (hp : Pr p) {d : Row} (hd : Tr p d) (hn : d ≠ []) : ∀ (pic : Pic) (s : Row), In p (Gs [d]) (fun i => co (pic.foldl (restIn p d) s) i - (co s i + pf pic i))
  | [], s => In.zero.eq fun i => by show (0 : Int) = co s i - (co s i + 0); grind
  | q :: pic, s => by
    have ih := rest_In hp hd hn pic (restIn p d s q)
    have h1 := (powX_In hp hd hn q.1.toNat).smul q.2
    refine (ih.add h1).cg fun i => ?_
    have h2 : Cg p (co (restIn p d s q) i) (co s i + co (powX p q.1.toNat d) i * q.2) := (addP_cg _ _ i).trans ((Cg.refl p _).add (scal_cg _ i))
    have h3 := (Cg.refl p (co (pic.foldl (restIn p d) (restIn p d s q)) i)).sub (h2.add (Cg.refl p (pf pic i)))
    have e : co (pic.foldl (restIn p d) (restIn p d s q)) i - (co s i + co (powX p q.1.toNat d) i * q.2 + pf pic i) + q.2 * (co (powX p q.1.toNat d) i - mono q.1.toNat i) = co (pic.foldl (restIn p d) (restIn p d s q)) i - (co s i + (q.2 * mono q.1.toNat i + pf pic i)) := by grind
    exact (h3.add (Cg.refl p _)).trans (Cg.of e)
theorem rest_short {p : Int} (hp : Pr p) {d : Row} (hd : Tr p d) (hn : d ≠ []) (hl : d.length ≤ 400) (pic : Pic) : Tr p (restOf p pic d) ∧ (restOf p pic d).length < d.length :=
  fold_keeps (fun f : Row => Tr p f ∧ f.length < d.length) _ _ ⟨Tr.nil p, List.length_pos_iff.mpr hn⟩ fun s q _ hs => by
    have h1 := powX_tr hp hd hn hl q.1.toNat
    have h2 := scal_len p (powX p q.1.toNat d) q.2
    have h3 := add_len p s (scal p (powX p q.1.toNat d) q.2)
    exact ⟨tr_add hp hs.1.1.2 (by omega), by unfold restIn; omega⟩
theorem reach_iff {P : Panel} (h : PanelV P) {n : Nat} {pic : Pic} : reach P n pic = true ↔ In P.1 (SJ P n) (pf pic) := by
  have hd := divOn_ok h n
  have hI := divOn_In h n
  have hr := rest_In h.1 hd.1 hd.2.1 pic []
  have hs := rest_short h.1 hd.1 hd.2.1 (by omega) pic
  have hr' : In P.1 (Gs [divOn P n]) (fun i => co (restOf P.1 pic (divOn P n)) i - pf pic i) := hr.eq fun i => by rw [co_nil]; show _ - (0 + _) = co (restOf P.1 pic (divOn P n)) i - _; rw [Int.zero_add]; rfl
  unfold reach
  rw [decide_eq_true_eq]
  constructor
  · intro e
    rw [e] at hr'
    have h2 : In P.1 (Gs [divOn P n]) (pf pic) := (hr'.smul (-1)).eq fun i => by rw [co_nil]; grind
    exact h2.gs fun r hr => by rw [List.mem_singleton.mp hr]; exact hI.1
  · intro hm
    exact short_nil h.1 hd.1 hd.2.1 hs.1 hs.2 (In.of_sub hr' (hm.mono hI.2))
/-! tables -/
def dv (w : Nat) (l : List (Int × Int)) : F := fun i => if i < w then getA l (i : Int) else 0
theorem dv_put {p : Int} {w : Nat} (l : List (Int × Int)) {k : Int} (c : Int) (h0 : 0 ≤ k) (h1 : k < w) (i : Nat) : Cg p (dv w (putA l k ((getA l k + c) % p)) i) (dv w l i + c * mono k.toNat i) := by
  unfold dv
  rw [getA_put]
  unfold mono
  by_cases hi : i = k.toNat
  · have e : (i : Int) = k := by omega
    rw [if_pos (show i < w by omega), if_pos e, if_pos (show i < w by omega), if_pos hi, e]
    exact (Cg.mod _ _).trans (Cg.of (by grind))
  · rw [if_neg (show ¬ (i : Int) = k by omega), if_neg hi]
    exact Cg.of (by grind)
theorem nz_sm (l : List (Int × Int)) : ∀ (ks : List Int), ks.Nodup → (∀ k ∈ ks, 0 ≤ k) → ∀ i : Nat, pf (nzPic ks l) i = if (i : Int) ∈ ks then getA l (i : Int) else 0
  | [], _, _, i => by rw [if_neg (by simp)]; rfl
  | k :: ks, hn, h0, i => by
    have hk0 := h0 k List.mem_cons_self
    obtain ⟨hk, hn'⟩ := List.nodup_cons.mp hn
    have ih := nz_sm l ks hn' (fun k hk => h0 k (List.mem_cons_of_mem _ hk)) i
    have e : pf (nzPic (k :: ks) l) i = getA l k * mono k.toNat i + pf (nzPic ks l) i := by
      unfold nzPic pf
      by_cases hz : getA l k = 0
      · rw [List.filter_cons_of_neg (by simp [hz]), hz]; grind
      · rw [List.filter_cons_of_pos (by simp [hz]), List.map_cons, sm_cons]
    rw [e, ih]
    unfold mono
    by_cases hi : i = k.toNat
    · have e : (i : Int) = k := by omega
      rw [if_pos hi, e, if_neg hk, if_pos List.mem_cons_self]; grind
    · have e : ¬ (i : Int) = k := by omega
      rw [if_neg hi]
      by_cases hm : (i : Int) ∈ ks
      · rw [if_pos hm, if_pos (List.mem_cons_of_mem _ hm)]; grind
      · rw [if_neg hm, if_neg (fun z => (List.mem_cons.mp z).elim e hm)]; grind
theorem ir_in {n : Nat} {k : Int} : k ∈ ir n ↔ 0 ≤ k ∧ k < n := by
  constructor
  · exact ir_mem
  · intro h
    exact List.mem_map.mpr ⟨k.toNat, List.mem_range.mpr (by omega), by omega⟩
theorem lt_nodup {l : List Int} (h : l.Pairwise (· < ·)) : l.Nodup := List.Pairwise.imp (fun {a b} h => by omega) h
theorem nz_ir (l : List (Int × Int)) (w : Nat) (i : Nat) : pf (nzPic (ir w) l) i = dv w l i := by
  rw [nz_sm l (ir w) (lt_nodup (ir_lt w)) (fun k hk => (ir_mem hk).1)]
  unfold dv
  by_cases h : i < w
  · rw [if_pos h, if_pos (ir_in.mpr (by omega))]
  · rw [if_neg h, if_neg (fun z => by have := ir_in.mp z; omega)]
theorem dictOf_dv {w : Nat} : ∀ (s : Pic) (l : List (Int × Int)), (∀ z ∈ s.zip (s.drop 1), z.1.1 < z.2.1) → (∀ q ∈ s, 0 ≤ q.1 ∧ q.1 < w ∧ getA l q.1 = 0) → ∀ i, dv w (s.foldl (fun l q => putA l q.1 q.2) l) i = dv w l i + pf s i
  | [], l, _, _, i => by show dv w l i = dv w l i + 0; grind
  | q :: s, l, ha, h, i => by
    have hq := h q List.mem_cons_self
    have hc : dv w (putA l q.1 q.2) i = dv w l i + q.2 * mono q.1.toNat i := by
      unfold dv mono
      rw [getA_put]
      by_cases hi : i = q.1.toNat
      · have e : (i : Int) = q.1 := by omega
        rw [if_pos (show i < w by omega), if_pos e, if_pos (show i < w by omega), if_pos hi, e, hq.2.2]; grind
      · rw [if_neg (show ¬ (i : Int) = q.1 by omega), if_neg hi]; grind
    show dv w (s.foldl (fun l q => putA l q.1 q.2) (putA l q.1 q.2)) i = dv w l i + (q.2 * mono q.1.toNat i + pf s i)
    rw [dictOf_dv s _ (asc_tail ha) (fun z hz => ?_) i, hc]
    · grind
    · have hz' := h z (List.mem_cons_of_mem _ hz)
      have hlt := asc_head ha z hz
      exact ⟨hz'.1, hz'.2.1, by rw [getA_put, if_neg (by omega)]; exact hz'.2.2⟩
theorem plusFold_dv {p : Int} {w : Nat} (hw : 1 ≤ w) (t b : Int) : ∀ (s : Pic) (l : List (Int × Int)) (i : Nat), Cg p (dv w (s.foldl (plusIn p w t b) l) i) (dv w l i + t * sm (fun o => ((o + b) % (w : Int)).toNat) s i)
  | [], l, i => Cg.of (by show dv w l i = dv w l i + t * 0; grind)
  | q :: s, l, i => by
    have h1 := Int.emod_nonneg (q.1 + b) (b := (w : Int)) (by omega)
    have h2 := Int.emod_lt_of_pos (q.1 + b) (b := (w : Int)) (by omega)
    have ih := plusFold_dv (p := p) hw t b s (plusIn p w t b l q) i
    have h3 := dv_put (p := p) l (q.2 * t) h1 h2 i
    rw [List.foldl_cons, sm_cons]
    exact ih.trans ((h3.add (Cg.refl p _)).trans (Cg.of (by grind)))
theorem plus_cg {p : Int} {w : Nat} (hw : 1 ≤ w) {one other : Pic} (h1 : PicV p w one) (t b : Int) (i : Nat) : Cg p (dv w (plusDict p w one other t b) i) (pf one i + t * sm (fun o => ((o + b) % (w : Int)).toNat) other i) := by
  have h2 : dv w (dictOf one) i = pf one i := by
    have := dictOf_dv (w := w) one [] h1.2.1 (fun q hq => by have := h1.1 q hq; exact ⟨this.1, by omega, rfl⟩) i
    have e : dv w [] i = 0 := by unfold dv; split <;> rfl
    rw [e, Int.zero_add] at this
    exact this
  have := plusFold_dv (p := p) hw t b other (dictOf one) i
  rwa [h2] at this
theorem pf_plus {p : Int} {w : Nat} (hw : 1 ≤ w) {one other : Pic} (h1 : PicV p w one) (t b : Int) (i : Nat) : Cg p (pf (plusD p w one other t b) i) (pf one i + t * sm (fun o => ((o + b) % (w : Int)).toNat) other i) := by
  have e : pf (plusD p w one other t b) i = dv w (plusDict p w one other t b) i := nz_ir _ w i
  rw [e]
  exact plus_cg hw h1 t b i
/-- one + other turned, times t: they differ by what other reaches -/
theorem plus_In {P : Panel} {w : Nat} (hw : 1 ≤ w) {one other : Pic} (h1 : PicV P.1 w one) (h2 : PicV P.1 w other) (ho : In P.1 (SJ P w) (pf other)) (t : Int) {b : Int} (hb : 0 ≤ b) : In P.1 (SJ P w) (fun i => pf (plusD P.1 w one other t b) i - pf one i) := by
  have h3 : In P.1 (SJ P w) (fun i => sm (fun o => ((o + b) % (w : Int)).toNat) other i - sm (fun o => (o + b).toNat) other i) := sm_In fun q hq => by
    have := h2.1 q hq
    exact modI_In hw (by omega) rfl
  have h4 : In P.1 (SJ P w) (sm (fun o => (o + b).toNat) other) := (ho.shk b.toNat).eq fun i => (sm_shk (g := Int.toNat) (s := b.toNat) (fun q hq => by have := h2.1 q hq; omega) i).symm
  exact ((In.of_sub h3 h4).smul t).cg fun i => (((pf_plus hw h1 t b i).sub (Cg.refl P.1 (pf one i))).trans (Cg.of (by grind))).symm
/-! lit lamps, wound rings -/
theorem lit_In {P : Panel} (h : PanelV P) {n : Nat} (hn : 1 ≤ n) {ps : Push} (hps : PushV P n ps) : In P.1 (SJ P n) (pf (litD P n ps)) := by
  have hin : ∀ (a t : Int) (b : Rule) (l : List (Int × Int)) (i : Nat), Cg P.1 (dv n (b.foldl (litIn P n a t) l) i) (dv n l i + t * sm (fun o => ((a + o) % (n : Int)).toNat) b i) := by
    intro a t b
    induction b with
    | nil => intro l i; exact Cg.of (by show dv n l i = dv n l i + t * 0; grind)
    | cons q b ih =>
      intro l i
      have h1 := Int.emod_nonneg (a + q.1) (b := (n : Int)) (by omega)
      have h2 := Int.emod_lt_of_pos (a + q.1) (b := (n : Int)) (by omega)
      have h3 := dv_put (p := P.1) l (q.2 * t) h1 h2 i
      rw [List.foldl_cons, sm_cons]
      exact (ih (litIn P n a t l q) i).trans ((h3.add (Cg.refl P.1 _)).trans (Cg.of (by grind)))
  have key : In P.1 (SJ P n) (dv n (litDict P n ps)) := by
    refine fold_keeps (fun l => In P.1 (SJ P n) (dv n l)) _ _ (In.zero.eq fun i => by unfold dv; split <;> rfl) fun s d hd hs => ?_
    have hx := hps.1 d hd
    have hb : button P d.1 ∈ P.2 := by
      have : P.2[d.1.toNat]? = some (button P d.1) := by
        unfold button
        rw [List.getD_eq_getElem?_getD, List.getElem?_eq_getElem (by omega)]
        rfl
      exact List.mem_of_getElem? this
    exact (hs.add ((press_In h hn hb hx.2.2.1).smul d.2.2)).cg fun i => (hin d.2.1 d.2.2 (button P d.1) s i).symm
  refine key.eq fun i => ?_
  have hd := litDict_ok h (w := (n : Int)) (by omega) ps
  have hk : ∀ k ∈ sortI ((litDict P n ps).map (·.1)), 0 ≤ k ∧ k < n := fun k hk => by
    obtain ⟨q, hq, rfl⟩ := List.mem_map.mp ((sortI_perm _).mem_iff.mp hk)
    have := hd.2 q hq
    exact ⟨this.1, this.2.1⟩
  have e : pf (litD P n ps) i = if (i : Int) ∈ sortI ((litDict P n ps).map (·.1)) then getA (litDict P n ps) (i : Int) else 0 := nz_sm _ _ ((sortI_perm _).nodup_iff.mpr hd.1) (fun k h => (hk k h).1) i
  rw [e]
  unfold dv
  by_cases hm : (i : Int) ∈ sortI ((litDict P n ps).map (·.1))
  · have := hk _ hm
    rw [if_pos hm, if_pos (by omega)]
  · rw [if_neg hm]
    split
    · unfold getA
      cases e : lookA (litDict P n ps) (i : Int) with
      | none => rfl
      | some x => exact absurd ((sortI_perm _).mem_iff.mpr (List.mem_map.mpr ⟨_, look_mem e, rfl⟩)) hm
    · rfl
theorem near_In {P : Panel} {w : Nat} (hw : 1 ≤ w) {far : Pic} (h0 : ∀ q ∈ far, 0 ≤ q.1) (hf : In P.1 (SJ P w) (pf far)) : In P.1 (SJ P w) (pf (nearD P.1 w far)) := by
  have hin : ∀ (s : Pic) (l : List (Int × Int)) (i : Nat), Cg P.1 (dv w (s.foldl (nearIn P.1 w) l) i) (dv w l i + sm (fun o => (o % (w : Int)).toNat) s i) := by
    intro s
    induction s with
    | nil => intro l i; exact Cg.of (by show dv w l i = dv w l i + 0; grind)
    | cons q s ih =>
      intro l i
      have h1 := Int.emod_nonneg q.1 (b := (w : Int)) (by omega)
      have h2 := Int.emod_lt_of_pos q.1 (b := (w : Int)) (by omega)
      have h3 := dv_put (p := P.1) l q.2 h1 h2 i
      rw [List.foldl_cons, sm_cons]
      exact (ih (nearIn P.1 w l q) i).trans ((h3.add (Cg.refl P.1 _)).trans (Cg.of (by grind)))
  have h1 : In P.1 (SJ P w) (fun i => sm (fun o => (o % (w : Int)).toNat) far i - pf far i) := sm_In fun q hq => modI_In hw (h0 q hq) rfl
  refine (In.of_sub h1 hf).cg fun i => ?_
  have e : pf (nearD P.1 w far) i = dv w (nearDict P.1 w far) i := nz_ir _ w i
  have e0 : dv w [] i = 0 := by unfold dv; split <;> rfl
  have h2 := hin far [] i
  rw [e0, Int.zero_add] at h2
  rw [e]
  exact h2.symm
theorem wound_sub {P : Panel} {w t : Nat} : ∀ f, SJ P (w * t) f → In P.1 (SJ P w) f := fun f hf => by
  rcases hf with hf | rfl
  · exact .gen (.inl hf)
  · have := turn_In (P := P) (n := w) 0 t
    rwa [Nat.zero_add] at this
/-! the other panels -/
theorem moved_co {P : Panel} (h : PanelV P) {t b : Int} (ht : 1 ≤ t ∧ t ≤ P.1 - 1) (hb : lowD P ≤ b ∧ b ≤ highD P) (i : Nat) : Cg P.1 (co (ruleRow (moved P t b)) i) (t * co (ruleRow (head P)) i) := by
  have hr := h.2.1 _ (head_mem h).2
  rw [ruleRow_co (moved_ok h ht hb), ruleRow_co hr]
  have e : leastOf (moved P t b) = leastOf (head P) + b := by
    unfold moved
    cases e : head P with
    | nil => exact absurd e hr.2.2.2
    | cons a r => rfl
  rw [e]
  have go : ∀ r : Rule, Cg P.1 (sm (fun o => (o - (leastOf (head P) + b)).toNat) (r.map fun q => (q.1 + b, q.2 * t % P.1)) i) (t * sm (fun o => (o - leastOf (head P)).toNat) r i) := by
    intro r
    induction r with
    | nil => exact Cg.of (by show (0 : Int) = t * 0; grind)
    | cons q r ih =>
      rw [List.map_cons, sm_cons, sm_cons]
      show Cg P.1 (q.2 * t % P.1 * mono (q.1 + b - (leastOf (head P) + b)).toNat i + _) _
      rw [show q.1 + b - (leastOf (head P) + b) = q.1 - leastOf (head P) by omega]
      exact (((Cg.mod P.1 (q.2 * t)).mul (Cg.refl P.1 _)).add ih).trans (Cg.of (by grind))
  exact go (head P)
theorem moved_In {P : Panel} (h : PanelV P) {t b : Int} (ht : 1 ≤ t ∧ t ≤ P.1 - 1) (hb : lowD P ≤ b ∧ b ≤ highD P) : (∀ S, In P.1 S (co (ruleRow (head P))) → In P.1 S (co (ruleRow (moved P t b)))) ∧ ∀ S, In P.1 S (co (ruleRow (moved P t b))) → In P.1 S (co (ruleRow (head P))) := by
  have hc := moved_co h ht hb
  have hi := inv_all (c := t) h.1 (by omega) (by omega)
  have h1 : Cg P.1 (inv P.1 t * t) 1 := (Cg.mod P.1 _).symm.trans (Cg.of hi.2.1)
  refine ⟨fun S hS => (hS.smul t).cg fun i => (hc i).symm, fun S hS => (hS.smul (inv P.1 t)).cg fun i => ?_⟩
  exact ((Cg.refl P.1 (inv P.1 t)).mul (hc i)).trans ((Cg.of (by grind)).trans ((h1.mul (Cg.refl P.1 (co (ruleRow (head P)) i))).trans (Cg.of (by grind))))
theorem others_In {P : Panel} (h : PanelV P) {t b : Int} (ht : 1 ≤ t ∧ t ≤ P.1 - 1) (hb : lowD P ≤ b ∧ b ≤ highD P) (n : Nat) : ∀ Q ∈ others P t b, (∀ f, SJ Q n f → In P.1 (SJ P n) f) ∧ ∀ f, SJ P n f → In P.1 (SJ Q n) f := by
  have hm := moved_In h ht hb
  have hh := (head_mem h).2
  have hla := (last_mem h).2
  have e0 : P.2 = head P :: P.2.drop 1 := by
    have := (head_mem h).1
    cases e : P.2 with
    | nil => exact absurd e h.2.2.1
    | cons a r =>
      rw [e] at this
      have : a = head P := Option.some.inj this
      rw [this]
      rfl
  have inP : ∀ r ∈ P.2, In P.1 (SJ P n) (co (ruleRow r)) := fun r hr => .gen (.inl ⟨r, hr, rfl⟩)
  have mk : ∀ Q : Panel, (∀ r ∈ Q.2, r ∈ P.2 ∨ r = moved P t b) → (∀ r ∈ P.2, r ∈ Q.2 ∨ (r = head P ∧ moved P t b ∈ Q.2)) → (∀ f, SJ Q n f → In P.1 (SJ P n) f) ∧ ∀ f, SJ P n f → In P.1 (SJ Q n) f := by
    intro Q h1 h2
    refine ⟨fun f hf => ?_, fun f hf => ?_⟩
    · rcases hf with ⟨r, hr, rfl⟩ | rfl
      · rcases h1 r hr with hr | rfl
        · exact inP r hr
        · exact hm.1 _ (inP _ hh)
      · exact .gen (.inr rfl)
    · rcases hf with ⟨r, hr, rfl⟩ | rfl
      · rcases h2 r hr with hr2 | ⟨e2, hr2⟩
        · exact .gen (.inl ⟨r, hr2, rfl⟩)
        · rw [e2]; exact hm.2 _ (.gen (.inl ⟨_, hr2, rfl⟩))
      · exact .gen (.inr rfl)
  intro Q hQ
  unfold others at hQ
  simp only [List.cons_append, List.nil_append, List.mem_cons, List.not_mem_nil, or_false] at hQ
  rcases hQ with rfl | rfl | rfl | rfl
  · refine mk _ (fun r hr => ?_) fun r hr => ?_
    · rcases List.mem_cons.mp hr with rfl | hr
      · exact .inr rfl
      · exact .inl (List.mem_of_mem_drop hr)
    · rw [e0] at hr
      rcases List.mem_cons.mp hr with rfl | hr
      · exact .inr ⟨rfl, List.mem_cons_self⟩
      · exact .inl (List.mem_cons_of_mem _ hr)
  · exact mk _ (fun r hr => .inl (List.mem_reverse.mp hr)) fun r hr => .inl (List.mem_reverse.mpr hr)
  · refine mk _ (fun r hr => ?_) fun r hr => .inl (List.mem_append_left _ hr)
    rcases List.mem_append.mp hr with hr | hr
    · exact .inl hr
    · exact .inr (List.mem_singleton.mp hr)
  · refine mk _ (fun r hr => ?_) fun r hr => .inl (List.mem_cons_of_mem _ hr)
    rcases List.mem_cons.mp hr with rfl | hr
    · exact .inl hla
    · exact .inl hr
theorem reach_sub {P Q : Panel} (hP : PanelV P) (hQ : PanelV Q) (e : P.1 = Q.1) {n : Nat} {pic : Pic} (h : ∀ f, SJ P n f → In Q.1 (SJ Q n) f) (hr : reach P n pic = true) : reach Q n pic = true := by
  have := (reach_iff hP).mp hr
  rw [e] at this
  exact (reach_iff hQ).mpr (this.mono h)
theorem reach_eq {P Q : Panel} (hP : PanelV P) (hQ : PanelV Q) (e : P.1 = Q.1) {n : Nat} {pic : Pic} (h1 : ∀ f, SJ P n f → In Q.1 (SJ Q n) f) (h2 : ∀ f, SJ Q n f → In P.1 (SJ P n) f) : reach Q n pic = reach P n pic := by
  rw [Bool.eq_iff_iff]
  exact ⟨fun h => reach_sub hQ hP e.symm h2 h, fun h => reach_sub hP hQ e h1 h⟩
end Rg
end
section
set_option linter.all false
/-! Presses for a picture: the basis made by Gauss' steps. -/
namespace Rg
inductive Ln (p : Int) (S : F → Prop) : F → Prop
  | gen {f : F} : S f → Ln p S f
  | zero : Ln p S (fun _ => 0)
  | add {f g : F} : Ln p S f → Ln p S g → Ln p S (fun n => f n + g n)
  | smul (c : Int) {f : F} : Ln p S f → Ln p S (fun n => c * f n)
  | cg {f g : F} : Ln p S f → (∀ n, Cg p (f n) (g n)) → Ln p S g
section
variable {p : Int} {S T : F → Prop} {f g : F}
theorem ln_eq (h : Ln p S f) (e : ∀ n, f n = g n) : Ln p S g := h.cg fun n => Cg.of (e n)
theorem ln_sub (h : Ln p S f) (k : Ln p S g) : Ln p S (fun n => f n - g n) := ln_eq (h.add (k.smul (-1))) fun n => by grind
theorem ln_bind (h : Ln p S f) (hs : ∀ g, S g → Ln p T g) : Ln p T f := by
  induction h with
  | gen h => exact hs _ h
  | zero => exact .zero
  | add _ _ h1 h2 => exact h1.add h2
  | smul c _ h => exact h.smul c
  | cg _ e h => exact h.cg e
/-- where all that makes it vanishes, it vanishes -/
theorem ln_at {k : Nat} (h : Ln p S f) (hs : ∀ g, S g → Cg p (g k) 0) : Cg p (f k) 0 := by
  induction h with
  | gen h => exact hs _ h
  | zero => exact Cg.refl p 0
  | add _ _ h1 h2 => exact (h1.add h2).trans (Cg.of (by grind))
  | smul c _ h => exact ((Cg.refl p c).mul h).trans (Cg.of (by grind))
  | cg _ e h => exact (e k).symm.trans h
end
/-! mixes -/
def phi (pr : Nat → F) : Nat → Row → F
  | _, [] => fun _ => 0
  | j, x :: m => fun i => x * pr j i + phi pr (j + 1) m i
theorem phi_cons (pr : Nat → F) (j : Nat) (x : Int) (m : Row) (i : Nat) : phi pr j (x :: m) i = x * pr j i + phi pr (j + 1) m i := rfl
theorem phi_less {p : Int} (pr : Nat → F) (t : Int) : ∀ (a b : Row) (j : Nat), a.length = b.length → ∀ i, Cg p (phi pr j (less p a b t) i) (phi pr j a i - t * phi pr j b i)
  | [], [], j, _, i => Cg.of (by show (0 : Int) = 0 - t * 0; grind)
  | [], _ :: _, _, h, _ => by simp at h
  | _ :: _, [], _, h, _ => by simp at h
  | x :: a, y :: b, j, h, i => by
    have ih := phi_less (p := p) pr t a b (j + 1) (by simpa using h) i
    have e : less p (x :: a) (y :: b) t = (x - t * y) % p :: less p a b t := rfl
    rw [e, phi_cons, phi_cons, phi_cons]
    exact (((Cg.mod p (x - t * y)).mul (Cg.refl p (pr j i))).add ih).trans (Cg.of (by grind))
theorem phi_rep (pr : Nat → F) : ∀ (k j i : Nat), phi pr j (List.replicate k 0) i = 0
  | 0, _, _ => rfl
  | k + 1, j, i => by rw [List.replicate_succ, phi_cons, phi_rep pr k (j + 1) i]; grind
theorem phi_set (pr : Nat → F) : ∀ (L k j i : Nat), k < L → phi pr j ((List.replicate L 0).set k 1) i = pr (j + k) i
  | 0, k, _, _, h => absurd h (Nat.not_lt_zero _)
  | L + 1, 0, j, i, _ => by rw [List.replicate_succ, List.set_cons_zero, phi_cons, phi_rep]; show 1 * pr j i + 0 = pr j i; grind
  | L + 1, k + 1, j, i, h => by rw [List.replicate_succ, List.set_cons_succ, phi_cons, phi_set pr L k (j + 1) i (by omega), show j + 1 + k = j + (k + 1) by omega]; grind
theorem less_cg {p : Int} {a b : Row} (h : a.length = b.length) (t : Int) (i : Nat) : Cg p (co (less p a b t) i) (co a i - t * co b i) := by
  unfold less
  rw [co_zip h]
  split
  · exact Cg.mod p _
  · rw [co_out (l := a) (by omega), co_out (l := b) (by omega)]; exact Cg.of (by grind)
/-! the basis -/
def BR (bs : Basis) : F → Prop := fun f => ∃ b ∈ bs, f = co b.2.1
def Ech (p : Int) (pr : Nat → F) (bs : Basis) : Prop := (∀ b ∈ bs, (∀ i, Cg p (co b.2.1 i) (phi pr 0 b.2.2 i)) ∧ Cg p (co b.2.1 b.1.toNat) 1) ∧ bs.Pairwise fun a b => Cg p (co b.2.1 a.1.toNat) 0
theorem lessIn_cg {p : Int} (pr : Nat → F) {n m : Nat} {s : Row × Row} {b : Int × Row × Row} (hs : StV p n m s) (hb : b.2.1.length = n ∧ b.2.2.length = m) (i : Nat) :
    Cg p (co (lessIn p s b).1 i) (co s.1 i - getZ s.1 b.1 * co b.2.1 i) ∧ Cg p (phi pr 0 (lessIn p s b).2 i) (phi pr 0 s.2 i - getZ s.1 b.1 * phi pr 0 b.2.2 i) := by
  obtain ⟨_, s2, _, s4⟩ := hs
  unfold lessIn
  split
  · rename_i h
    rw [h]
    exact ⟨Cg.of (by grind), Cg.of (by grind)⟩
  · exact ⟨less_cg (by omega) _ i, phi_less pr _ _ _ 0 (by omega) i⟩
theorem al1 (a t c d e : Int) : a - t * c - (d - t * e) = a - d - (t * c - t * e) := by grind
theorem al2 (a b : Int) : a - (b - b) = a := by grind
theorem lessBy_R {p : Int} (hp : Pr p) (pr : Nat → F) {n m : Nat} : ∀ (bs : Basis), BasisV p n m bs → Ech p pr bs → ∀ s, StV p n m s →
    (∀ i, Cg p (co (lessBy p bs s).1 i - phi pr 0 (lessBy p bs s).2 i) (co s.1 i - phi pr 0 s.2 i)) ∧ Ln p (BR bs) (fun i => co s.1 i - co (lessBy p bs s).1 i) ∧ (∀ b ∈ bs, Cg p (co (lessBy p bs s).1 b.1.toNat) 0) ∧
    (∀ k, (∀ b ∈ bs, Cg p (co b.2.1 k) 0) → Cg p (co (lessBy p bs s).1 k) (co s.1 k))
  | [], _, _, s, _ => ⟨fun i => Cg.refl p _, ln_eq .zero fun i => by show (0 : Int) = co s.1 i - co s.1 i; grind, (fun b hb => (nomatch hb)), fun k _ => Cg.refl p _⟩
  | b :: bs, hB, hE, s, hs => by
    have hb := hB b List.mem_cons_self
    have hb2 : b.2.1.length = n ∧ b.2.2.length = m := ⟨hb.2.2.2.1, hb.2.2.2.2.2⟩
    have hB' : BasisV p n m bs := fun x hx => hB x (List.mem_cons_of_mem _ hx)
    obtain ⟨hpw1, hpw2⟩ := List.pairwise_cons.mp hE.2
    have hE' : Ech p pr bs := ⟨fun x hx => hE.1 x (List.mem_cons_of_mem _ hx), hpw2⟩
    have hEb := hE.1 b List.mem_cons_self
    have hs' : StV p n m (lessIn p s b) := lessIn_v hp.pos hs hb2
    have hc := fun i => lessIn_cg (p := p) pr hs hb2 i
    obtain ⟨r1, r2, r3, r4⟩ := lessBy_R hp pr bs hB' hE' (lessIn p s b) hs'
    have e : lessBy p (b :: bs) s = lessBy p bs (lessIn p s b) := rfl
    rw [e]
    refine ⟨fun i => (r1 i).trans ?_, ?_, fun x hx => ?_, fun k hk => ?_⟩
    · have h1 := (hc i).1.sub (hc i).2
      have h2 := (Cg.refl p (getZ s.1 b.1)).mul (hEb.1 i)
      have h3 := (Cg.refl p (co s.1 i - phi pr 0 s.2 i)).sub (h2.sub (Cg.refl p (getZ s.1 b.1 * phi pr 0 b.2.2 i)))
      exact h1.trans ((Cg.of (al1 _ _ _ _ _)).trans (h3.trans (Cg.of (al2 _ _))))
    · have h1 : Ln p (BR (b :: bs)) (fun i => getZ s.1 b.1 * co b.2.1 i) := (Ln.gen ⟨b, List.mem_cons_self, rfl⟩).smul _
      have h2 : Ln p (BR (b :: bs)) (fun i => co (lessIn p s b).1 i - co (lessBy p bs (lessIn p s b)).1 i) := ln_bind r2 fun g ⟨x, hx, hg⟩ => .gen ⟨x, List.mem_cons_of_mem _ hx, hg⟩
      exact (h1.add h2).cg fun i => (((Cg.refl p (getZ s.1 b.1 * co b.2.1 i)).add ((hc i).1.sub (Cg.refl p (co (lessBy p bs (lessIn p s b)).1 i))))).trans (Cg.of (by grind))
    · rcases List.mem_cons.mp hx with rfl | hx
      · have h1 := r4 x.1.toNat fun y hy => hpw1 y hy
        have h2 := (hc x.1.toNat).1
        have e1 : getZ s.1 x.1 = co s.1 x.1.toNat := by
          have := getZ_co s.1 x.1.toNat
          rwa [Int.toNat_of_nonneg hb.1] at this
        rw [e1] at h2
        have h3 := (Cg.refl p (co s.1 x.1.toNat)).mul hEb.2
        exact h1.trans (h2.trans (((Cg.refl p (co s.1 x.1.toNat)).sub h3).trans (Cg.of (by grind))))
      · exact r3 x hx
    · have h1 := r4 k fun y hy => hk y (List.mem_cons_of_mem _ hy)
      have h2 := (Cg.refl p (getZ s.1 b.1)).mul (hk b List.mem_cons_self)
      exact h1.trans ((hc k).1.trans (((Cg.refl p (co s.1 k)).sub h2).trans (Cg.of (by grind))))
theorem ln_split {p : Int} {b : Int × Row × Row} {bs : Basis} {f : F} (h : Ln p (BR (b :: bs)) f) : ∃ c g, Ln p (BR bs) g ∧ ∀ i, Cg p (f i) (c * co b.2.1 i + g i) := by
  induction h with
  | gen h =>
    obtain ⟨x, hx, rfl⟩ := h
    rcases List.mem_cons.mp hx with rfl | hx
    · exact ⟨1, fun _ => 0, .zero, fun i => Cg.of (by grind)⟩
    · exact ⟨0, co x.2.1, .gen ⟨x, hx, rfl⟩, fun i => Cg.of (by grind)⟩
  | zero => exact ⟨0, fun _ => 0, .zero, fun i => Cg.of (by grind)⟩
  | add _ _ h1 h2 =>
    obtain ⟨c, g, hg, e⟩ := h1
    obtain ⟨c', g', hg', e'⟩ := h2
    exact ⟨c + c', _, hg.add hg', fun i => ((e i).add (e' i)).trans (Cg.of (by grind))⟩
  | smul t _ h =>
    obtain ⟨c, g, hg, e⟩ := h
    exact ⟨t * c, _, hg.smul t, fun i => ((Cg.refl p t).mul (e i)).trans (Cg.of (by grind))⟩
  | cg _ e h =>
    obtain ⟨c, g, hg, e'⟩ := h
    exact ⟨c, g, hg, fun i => (e i).symm.trans (e' i)⟩
theorem ln_zero {p : Int} {pr : Nat → F} : ∀ (bs : Basis), Ech p pr bs → ∀ f, Ln p (BR bs) f → (∀ b ∈ bs, Cg p (f b.1.toNat) 0) → ∀ i, Cg p (f i) 0
  | [], _, f, h, _, i => ln_at h fun g ⟨b, hb, _⟩ => nomatch hb
  | b :: bs, hE, f, h, hv, i => by
    obtain ⟨hpw1, hpw2⟩ := List.pairwise_cons.mp hE.2
    have hEb := hE.1 b List.mem_cons_self
    obtain ⟨c, g, hg, e⟩ := ln_split h
    have h1 : Cg p (g b.1.toNat) 0 := ln_at hg fun g' ⟨x, hx, ex⟩ => ex ▸ hpw1 x hx
    have hc : Cg p c 0 := by
      have h2 := ((hv b List.mem_cons_self).symm.trans (e b.1.toNat)).symm
      have h3 := ((Cg.refl p c).mul hEb.2).add h1
      exact (Cg.of (by grind)).trans (h3.symm.trans h2)
    have hfg : ∀ i, Cg p (f i) (g i) := fun i => (e i).trans (((hc.mul (Cg.refl p (co b.2.1 i))).add (Cg.refl p (g i))).trans (Cg.of (by grind)))
    exact (hfg i).trans (ln_zero bs ⟨fun x hx => hE.1 x (List.mem_cons_of_mem _ hx), hpw2⟩ g hg (fun x hx => (hfg _).symm.trans (hv x (List.mem_cons_of_mem _ hx))) i)
theorem lit_nil {r : Row} (h : litOf r = []) (i : Nat) : co r i = 0 := by
  by_cases hi : i < r.length
  · apply Classical.byContradiction
    intro hc
    have go : ∀ (l : Row) (j i : Nat), i < l.length → (((j + i : Nat) : Int), co l i) ∈ en j l := by
      intro l
      induction l with
      | nil => intro j i h; exact absurd h (Nat.not_lt_zero _)
      | cons a t ih =>
        intro j i h
        cases i with
        | zero => exact List.mem_cons_self
        | succ i =>
          have := ih (j + 1) i (by simpa using h)
          rw [show j + 1 + i = j + (i + 1) by omega] at this
          exact List.mem_cons_of_mem _ this
    have hm := go r 0 i hi
    have : (((0 + i : Nat) : Int)) ∈ litOf r := List.mem_map.mpr ⟨_, List.mem_filter.mpr ⟨hm, by simpa using hc⟩, rfl⟩
    rw [h] at this
    cases this
  · exact co_out (by omega)
/-! the panel's presses -/
def prs (P : Panel) (n : Nat) (k : Nat) : F := sm (fun o => (((k : Int) % (n : Int) + o) % (n : Int)).toNat) (button P ((k : Int) / (n : Int)))
theorem baseIn_E {P : Panel} (h : PanelV P) {n : Nat} (hn : n ≤ 60) (h1 : 0 < n) {bs : Basis} (hB : BasisV P.1 n (P.2.length * n) bs) (hE : Ech P.1 (prs P n) bs) {k : Nat} (hk : k < P.2.length * n) :
    Ech P.1 (prs P n) (baseIn P n bs k) ∧ (∀ f, BR bs f → BR (baseIn P n bs k) f) ∧ Ln P.1 (BR (baseIn P n bs k)) (prs P n k) := by
  have hp := h.1
  have hL : P.2.length * n ≤ 1000 := Nat.le_trans (Nat.mul_le_mul h.2.2.2 hn) (by decide)
  have hcast : ((P.2.length : Int) * (n : Int)) = ((P.2.length * n : Nat) : Int) := by rw [Int.natCast_mul]
  have hst := start_v hp hL (k : Int)
  have hs : StV P.1 n (P.2.length * n) (behind P.1 (zeros n) (button P ((k : Int) / (n : Int))) ((k : Int) % (n : Int)) 1, startAt ((P.2.length : Int) * n) k) :=
    ⟨behind_rw hp.pos (zeros_rw hp.pos (by omega)) _ _ _, by rw [behind_len, zeros_len]; omega, by rw [hcast]; exact hst.1, by rw [hcast]; exact hst.2⟩
  obtain ⟨r1, r2, r3, r4⟩ := lessBy_R hp (prs P n) bs hB hE _ hs
  have hv := baseRow_v h hn h1 hB (k : Int)
  have e : baseRow P n bs k = lessBy P.1 bs (behind P.1 (zeros n) (button P ((k : Int) / (n : Int))) ((k : Int) % (n : Int)) 1, startAt ((P.2.length : Int) * n) k) := rfl
  rw [← e] at r1 r2 r3 r4
  have c1 : ∀ i, Cg P.1 (co (behind P.1 (zeros n) (button P ((k : Int) / (n : Int))) ((k : Int) % (n : Int)) 1) i) (prs P n k i) := fun i => by
    have := behind_cg (p := P.1) (n := n) h1 ((k : Int) % (n : Int)) 1 (button P ((k : Int) / (n : Int))) (zeros n) (by rw [zeros_len]; omega) i
    rw [co_zeros] at this
    exact this.trans (Cg.of (by show 0 + 1 * prs P n k i = prs P n k i; grind))
  have c2 : ∀ i, phi (prs P n) 0 (startAt ((P.2.length : Int) * n) k) i = prs P n k i := fun i => by
    have := phi_set (prs P n) (P.2.length * n) k 0 i hk
    rw [Nat.zero_add] at this
    rw [hcast]
    exact this
  have hrow : ∀ i, Cg P.1 (co (baseRow P n bs k).1 i) (phi (prs P n) 0 (baseRow P n bs k).2 i) := fun i => by
    have h2 := (r1 i).trans ((c1 i).sub (Cg.of (c2 i)))
    exact (Cg.of (by grind)).trans ((h2.add (Cg.refl P.1 (phi (prs P n) 0 (baseRow P n bs k).2 i))).trans (Cg.of (by grind)))
  by_cases hl : litOf (baseRow P n bs k).1 = []
  · have e2 : baseIn P n bs k = bs := by unfold baseIn; rw [if_pos hl]
    rw [e2]
    refine ⟨hE, fun f hf => hf, r2.cg fun i => ?_⟩
    rw [lit_nil hl i]
    exact (Cg.of (by grind)).trans (c1 i)
  · have hm := lit_mem (lit_head hl)
    obtain ⟨v1, v2, v3, v4⟩ := hv
    generalize hat : getZ (litOf (baseRow P n bs k).1) 0 = a at hm
    have ha := getZ_rw hp.pos v1 a
    have hi := inv_all (c := getZ (baseRow P n bs k).1 a) hp (by omega) ha.2
    have e2 : baseIn P n bs k = bs ++ [(a, less P.1 (zeros n) (baseRow P n bs k).1 (-(inv P.1 (getZ (baseRow P n bs k).1 a))), less P.1 (zeros ((baseRow P n bs k).2.length : Int)) (baseRow P n bs k).2 (-(inv P.1 (getZ (baseRow P n bs k).1 a))))] := by
      unfold baseIn
      rw [if_neg hl, hat]
    have eat : getZ (baseRow P n bs k).1 a = co (baseRow P n bs k).1 a.toNat := by
      have := getZ_co (baseRow P n bs k).1 a.toNat
      rwa [Int.toNat_of_nonneg hm.1] at this
    generalize getZ (baseRow P n bs k).1 a = t at hi e2 eat
    have n1 : ∀ i, Cg P.1 (co (less P.1 (zeros n) (baseRow P n bs k).1 (-(inv P.1 t))) i) (inv P.1 t * co (baseRow P n bs k).1 i) := fun i => by
      have := less_cg (p := P.1) (a := zeros n) (b := (baseRow P n bs k).1) (by rw [zeros_len]; omega) (-(inv P.1 t)) i
      rw [co_zeros] at this
      exact this.trans (Cg.of (by grind))
    have n2 : ∀ i, Cg P.1 (phi (prs P n) 0 (less P.1 (zeros ((baseRow P n bs k).2.length : Int)) (baseRow P n bs k).2 (-(inv P.1 t))) i) (inv P.1 t * phi (prs P n) 0 (baseRow P n bs k).2 i) := fun i => by
      have := phi_less (p := P.1) (prs P n) (-(inv P.1 t)) (zeros ((baseRow P n bs k).2.length : Int)) (baseRow P n bs k).2 0 (by rw [zeros_len]; omega) i
      have z : phi (prs P n) 0 (zeros ((baseRow P n bs k).2.length : Int)) i = 0 := phi_rep _ _ _ _
      rw [z] at this
      exact this.trans (Cg.of (by grind))
    have hinv : Cg P.1 (inv P.1 t * t) 1 := (Cg.mod P.1 _).symm.trans (Cg.of hi.2.1)
    rw [e2]
    refine ⟨⟨fun b hb => ?_, List.pairwise_append.mpr ⟨hE.2, List.pairwise_singleton _ _, fun x hx y hy => ?_⟩⟩, fun f ⟨b, hb, hf⟩ => ⟨b, List.mem_append_left _ hb, hf⟩, ?_⟩
    · rcases List.mem_append.mp hb with hb | hb
      · exact hE.1 b hb
      · have hb := List.mem_singleton.mp hb
        subst hb
        refine ⟨fun i => (n1 i).trans (((Cg.refl P.1 _).mul (hrow i)).trans (n2 i).symm), ?_⟩
        have := n1 a.toNat
        rw [← eat] at this
        exact this.trans hinv
    · have hy := List.mem_singleton.mp hy
      subst hy
      exact (n1 x.1.toNat).trans (((Cg.refl P.1 _).mul (r3 x hx)).trans (Cg.of (by grind)))
    · have g1 : Ln P.1 (BR (bs ++ [(a, less P.1 (zeros n) (baseRow P n bs k).1 (-(inv P.1 t)), less P.1 (zeros ((baseRow P n bs k).2.length : Int)) (baseRow P n bs k).2 (-(inv P.1 t)))])) (co (baseRow P n bs k).1) := by
        refine ((Ln.gen (p := P.1) ⟨_, List.mem_append_right _ (List.mem_singleton.mpr rfl), rfl⟩).smul t).cg fun i => ?_
        have h3 := (Cg.refl P.1 t).mul (n1 i)
        have h4 := hinv.mul (Cg.refl P.1 (co (baseRow P n bs k).1 i))
        exact h3.trans ((Cg.of (by grind)).trans (h4.trans (Cg.of (by grind))))
      have g2 := ln_bind (T := BR (bs ++ [(a, less P.1 (zeros n) (baseRow P n bs k).1 (-(inv P.1 t)), less P.1 (zeros ((baseRow P n bs k).2.length : Int)) (baseRow P n bs k).2 (-(inv P.1 t)))])) r2 fun g ⟨b, hb, hg⟩ => .gen ⟨b, List.mem_append_left _ hb, hg⟩
      exact (g2.add g1).cg fun i => (Cg.of (by grind)).trans (c1 i)
theorem basis_E {P : Panel} (h : PanelV P) {n : Nat} (hn : n ≤ 60) (h1 : 0 < n) : Ech P.1 (prs P n) (basisOf P n) ∧ ∀ k, k < P.2.length * n → Ln P.1 (BR (basisOf P n)) (prs P n k) := by
  have go : ∀ (ks : List Nat) (bs : Basis) (dn : Nat → Prop), (∀ k ∈ ks, k < P.2.length * n) → BasisV P.1 n (P.2.length * n) bs → Ech P.1 (prs P n) bs → (∀ k, dn k → Ln P.1 (BR bs) (prs P n k)) →
      Ech P.1 (prs P n) ((ks.map fun (i : Nat) => (i : Int)).foldl (baseIn P n) bs) ∧ ∀ k, (dn k ∨ k ∈ ks) → Ln P.1 (BR ((ks.map fun (i : Nat) => (i : Int)).foldl (baseIn P n) bs)) (prs P n k) := by
    intro ks
    induction ks with
    | nil =>
      intro bs dn _ _ hE hd
      exact ⟨hE, fun k hk => hk.elim (hd k) fun z => nomatch z⟩
    | cons k ks ih =>
      intro bs dn hk hB hE hd
      obtain ⟨g1, g2, g3⟩ := baseIn_E h hn h1 hB hE (hk k List.mem_cons_self)
      have := ih (baseIn P n bs k) (fun j => dn j ∨ j = k) (fun j hj => hk j (List.mem_cons_of_mem _ hj)) (baseIn_v h hn h1 hB k) g1 fun j hj => by
        rcases hj with hj | rfl
        · exact ln_bind (hd j hj) fun g hg => .gen (g2 g hg)
        · exact g3
      refine ⟨this.1, fun j hj => this.2 j ?_⟩
      rcases hj with hj | hj
      · exact .inl (.inl hj)
      · rcases List.mem_cons.mp hj with hj | hj
        · exact .inl (.inr hj)
        · exact .inr hj
  have := go (List.range (P.2.length * n)) [] (fun _ => False) (fun k hk => List.mem_range.mp hk) (fun _ hb => (nomatch hb)) ⟨(fun _ hb => (nomatch hb)), List.Pairwise.nil⟩ fun _ hk => hk.elim
  have e : basisOf P n = ((List.range (P.2.length * n)).map fun (i : Nat) => (i : Int)).foldl (baseIn P n) [] := by
    unfold basisOf ir
    rw [show ((P.2.length : Int) * (n : Int)).toNat = P.2.length * n by rw [← Int.natCast_mul, Int.toNat_natCast]]
  rw [e]
  exact ⟨this.1, fun k hk => this.2 k (.inr (List.mem_range.mpr hk))⟩
theorem colours_co {p : Int} {n : Nat} {pic : Pic} (h : PicV p n pic) (i : Nat) : co (colours n pic) i = pf pic i := by
  have := ruleFold_co 0 pic (zeros n) h.2.1 (fun q hq => by
    have := h.1 q hq
    refine ⟨this.1, by rw [zeros_len]; omega, co_zeros _ _⟩) i
  have e : ∀ (l : Pic) (f : Row), l.foldl (fun f q => setZ f q.1 q.2) f = l.foldl (ruleIn 0) f := by
    intro l
    induction l with
    | nil => intro f; rfl
    | cons q l ih =>
      intro f
      rw [List.foldl_cons, List.foldl_cons, ih]
      unfold ruleIn
      rw [Int.sub_zero]
  unfold colours
  rw [e, this, co_zeros, Int.zero_add]
  unfold pf
  exact sm_congr (fun q _ => by show (q.1 - 0).toNat = q.1.toNat; rw [Int.sub_zero]) i
theorem colours_v {p : Int} (hp : Pr p) {n : Nat} (hn : n ≤ 1000) {pic : Pic} (h : PicV p n pic) : Rw p (colours n pic) ∧ (colours n pic).length = n :=
  fold_keeps (fun f : Row => Rw p f ∧ f.length = n) _ _ ⟨zeros_rw hp.pos (by omega), by rw [zeros_len]; omega⟩ fun s q hq hs => by
    have := h.1 q hq
    exact ⟨setZ_rw hs.1 (by omega) (by omega), by rw [setZ_len]; exact hs.2⟩
theorem div_idx {k n a : Nat} (hn : 1 ≤ n) (ha : a < n) : (((k * n + a : Nat) : Int) / (n : Int)) = k ∧ (((k * n + a : Nat) : Int) % (n : Int)) = a := by
  have h1 : (k * n + a) / n = k := by rw [Nat.mul_comm, Nat.mul_add_div (by omega), Nat.div_eq_of_lt ha, Nat.add_zero]
  have h2 : (k * n + a) % n = a := by rw [Nat.mul_comm, Nat.mul_add_mod, Nat.mod_eq_of_lt ha]
  constructor
  · rw [← Int.natCast_ediv, h1]
  · rw [← Int.natCast_emod, h2]
theorem lamp_Ln {P : Panel} {n : Nat} (hn : 1 ≤ n) {ps : Push} (hps : PushV P n ps) : Ln P.1 (fun f => ∃ k, k < P.2.length * n ∧ f = prs P n k) (pf (lampsOf P n ps)) := by
  have key : (lampRow P n ps).length = n ∧ Ln P.1 (fun f => ∃ k, k < P.2.length * n ∧ f = prs P n k) (co (lampRow P n ps)) := by
    refine fold_keeps (fun f : Row => f.length = n ∧ Ln P.1 (fun f => ∃ k, k < P.2.length * n ∧ f = prs P n k) (co f)) _ _ ⟨by rw [zeros_len]; omega, ln_eq .zero fun i => (co_zeros _ _).symm⟩ fun s d hd hs => ?_
    have hx := hps.1 d hd
    obtain ⟨k, hk⟩ : ∃ k : Nat, d.1 = k := ⟨d.1.toNat, by omega⟩
    obtain ⟨a, ha⟩ : ∃ a : Nat, d.2.1 = a := ⟨d.2.1.toNat, by omega⟩
    have hdv := div_idx (k := k) (n := n) (a := a) hn (by omega)
    have e : prs P n (k * n + a) = sm (fun o => ((d.2.1 + o) % (n : Int)).toNat) (button P d.1) := by
      unfold prs
      rw [hdv.1, hdv.2, hk, ha]
    have hlt : k * n + a < P.2.length * n := by
      have h2 : (k + 1) * n ≤ P.2.length * n := Nat.mul_le_mul_right n (by omega)
      have h3 : (k + 1) * n = k * n + n := by grind
      omega
    refine ⟨by unfold lampIn; rw [behind_len]; exact hs.1, (hs.2.add ((Ln.gen (p := P.1) ⟨_, hlt, e.symm⟩).smul d.2.2)).cg fun i => (behind_cg hn d.2.1 d.2.2 (button P d.1) s hs.1 i).symm⟩
  exact ln_eq key.2 fun i => (pf_picOf _ i).symm
theorem found_R {P : Panel} (h : PanelV P) {n : Nat} (hn : n ≤ 60) (h1 : 0 < n) {pic : Pic} (hpic : PicV P.1 n pic) (hL : Ln P.1 (fun f => ∃ k, k < P.2.length * n ∧ f = prs P n k) (pf pic)) :
    (∀ x ∈ (foundS P n pic).1, x = 0) ∧ Rw P.1 (foundS P n pic).2 ∧ (foundS P n pic).2.length = P.2.length * n ∧ ∀ i, Cg P.1 (phi (prs P n) 0 (foundS P n pic).2 i) (-(pf pic i)) := by
  have hp := h.1
  have hB := basisOf_v h hn h1
  have hE := basis_E h hn h1
  have hLn : P.2.length * n ≤ 1000 := Nat.le_trans (Nat.mul_le_mul h.2.2.2 hn) (by decide)
  have hcast : ((P.2.length : Int) * (n : Int)) = ((P.2.length * n : Nat) : Int) := by rw [Int.natCast_mul]
  have hcv := colours_v hp (by omega) hpic
  have hs : StV P.1 n (P.2.length * n) (colours n pic, zeros ((P.2.length : Int) * n)) := ⟨hcv.1, hcv.2, by rw [hcast]; exact zeros_rw hp.pos (by omega), by rw [hcast, zeros_len]; omega⟩
  obtain ⟨r1, r2, r3, r4⟩ := lessBy_R hp (prs P n) _ hB hE.1 _ hs
  have hv := lessBy_v hp.pos hB hs
  have e : foundS P n pic = lessBy P.1 (basisOf P n) (colours n pic, zeros ((P.2.length : Int) * n)) := rfl
  rw [← e] at r1 r2 r3 r4 hv
  have hc : Ln P.1 (BR (basisOf P n)) (co (colours n pic)) := ln_eq (ln_bind hL fun g ⟨k, hk, hg⟩ => hg ▸ hE.2 k hk) fun i => (colours_co hpic i).symm
  have hz : ∀ i, Cg P.1 (co (foundS P n pic).1 i) 0 := ln_zero _ hE.1 _ (ln_eq (ln_sub hc r2) fun i => by show co (colours n pic) i - (co (colours n pic) i - co (foundS P n pic).1 i) = _; grind) r3
  refine ⟨fun x hx => ?_, hv.2.2.1, hv.2.2.2, fun i => ?_⟩
  · obtain ⟨i, hi, rfl⟩ := List.getElem_of_mem hx
    have := rw_zero hp.pos hv.1 hz i
    rw [co_get (List.getElem?_eq_getElem hi)] at this
    exact this
  · have h2 := r1 i
    have z : phi (prs P n) 0 (zeros ((P.2.length : Int) * n)) i = 0 := phi_rep _ _ _ _
    have h3 : Cg P.1 (co (foundS P n pic).1 i - phi (prs P n) 0 (foundS P n pic).2 i) (pf pic i) := h2.trans (Cg.of (by show co (colours n pic) i - phi (prs P n) 0 (zeros ((P.2.length : Int) * n)) i = pf pic i; rw [z, colours_co hpic]; grind))
    have h4 := (hz i).sub h3
    exact (Cg.of (by grind)).trans (h4.trans (Cg.of (by grind)))
def backOf (P : Panel) (n : Nat) (pic : Pic) : Push := (presses P n pic).map fun q => (q.1, q.2.1, P.1 - q.2.2)
theorem neg_mod {p x : Int} (hp : Pr p) (h1 : 1 ≤ x) (h2 : x < p) : p - (-x) % p = x := by
  rcases hp with rfl | rfl | rfl <;> omega
theorem back_v {P : Panel} (h : PanelV P) {n : Nat} (hn : n ≤ 60) (h1 : 0 < n) {pic : Pic} (hr : Rw P.1 (foundS P n pic).2) (hl : (foundS P n pic).2.length = P.2.length * n) : PushV P n (backOf P n pic) := by
  have hp := h.1
  refine ⟨fun q hq => ?_, ?_, ?_⟩
  · obtain ⟨z, hz, rfl⟩ := List.mem_map.mp hq
    obtain ⟨y, hy, rfl⟩ := List.mem_map.mp hz
    obtain ⟨g1, g2⟩ := List.mem_filter.mp hy
    obtain ⟨i, k1, k2, k3⟩ := en_lt.en_of 0 _ y g1
    have hne : y.2 ≠ 0 := by simpa using g2
    have hb := hr.1 y.2 (List.mem_of_getElem? k2)
    have hm := neg_mod hp (x := y.2) (by omega) hb.2
    have d1 : 0 ≤ y.1 / (n : Int) := Int.ediv_nonneg (by omega) (by omega)
    have d2 : y.1 / (n : Int) < P.2.length := Int.ediv_lt_of_lt_mul (by omega) (by rw [← Int.natCast_mul]; omega)
    have d3 := Int.emod_nonneg y.1 (b := (n : Int)) (by omega)
    have d4 := Int.emod_lt_of_pos y.1 (b := (n : Int)) (by omega)
    exact ⟨d1, by show y.1 / (n : Int) ≤ _; omega, d3, by show y.1 % (n : Int) ≤ _; omega, by show 1 ≤ P.1 - (-y.2) % P.1; omega, by show P.1 - (-y.2) % P.1 ≤ _; omega⟩
  · refine asc_zip (R := fun a b : Int × Int × Int => lt2 (a.1, a.2.1) (b.1, b.2.1) = true) ?_
    unfold backOf presses
    rw [List.pairwise_map, List.pairwise_map]
    refine List.Pairwise.imp_of_mem (fun {a b} ha hb hab => ?_) ((en_lt (foundS P n pic).2 0).filter _)
    have e1 := Int.mul_ediv_add_emod a.1 (n : Int)
    have e2 := Int.mul_ediv_add_emod b.1 (n : Int)
    have hle : a.1 / (n : Int) ≤ b.1 / (n : Int) := Int.ediv_le_ediv (by omega) (by omega)
    show lt2 (a.1 / (n : Int), a.1 % (n : Int)) (b.1 / (n : Int), b.1 % (n : Int)) = true
    unfold lt2
    rw [Bool.or_eq_true, Bool.and_eq_true, decide_eq_true_eq, decide_eq_true_eq, decide_eq_true_eq]
    by_cases hq : a.1 / (n : Int) < b.1 / (n : Int)
    · exact .inl hq
    · have hq2 : a.1 / (n : Int) = b.1 / (n : Int) := by omega
      refine .inr ⟨hq2, ?_⟩
      rw [hq2] at e1
      show a.1 % (n : Int) < b.1 % (n : Int)
      omega
  · unfold backOf presses
    rw [List.length_map, List.length_map]
    refine Nat.le_trans (List.length_filter_le _ _) ?_
    rw [en_ln]
    exact hr.2
theorem back_co {P : Panel} (h : PanelV P) {n : Nat} (h1 : 1 ≤ n) : ∀ (mix : Row) (j : Nat) (f : Row), (∀ x ∈ mix, 0 ≤ x ∧ x < P.1) → f.length = n → ∀ i, Cg P.1 (co (((((en j mix).filter fun q => !decide (q.2 = 0)).map fun q => (q.1 / (n : Int), q.1 % (n : Int), (-q.2) % P.1)).map fun q => (q.1, q.2.1, P.1 - q.2.2)).foldl (lampIn P) f) i) (co f i + phi (prs P n) j mix i)
  | [], j, f, _, _, i => Cg.of (by show co f i = co f i + 0; grind)
  | x :: mix, j, f, hx, hf, i => by
    have hx0 := hx x List.mem_cons_self
    have hx' : ∀ y ∈ mix, 0 ≤ y ∧ y < P.1 := fun y hy => hx y (List.mem_cons_of_mem _ hy)
    have e : en j (x :: mix) = ((j : Int), x) :: en (j + 1) mix := rfl
    rw [e, phi_cons]
    by_cases hz : x = 0
    · rw [List.filter_cons_of_neg (by simp [hz])]
      exact (back_co h h1 mix (j + 1) f hx' hf i).trans (Cg.of (by rw [hz]; grind))
    · rw [List.filter_cons_of_pos (by simp [hz]), List.map_cons, List.map_cons, List.foldl_cons]
      have hm := neg_mod h.1 (x := x) (by omega) hx0.2
      have e2 : lampIn P f ((j : Int) / (n : Int), (j : Int) % (n : Int), P.1 - (-x) % P.1) = behind P.1 f (button P ((j : Int) / (n : Int))) ((j : Int) % (n : Int)) x := by
        unfold lampIn
        simp only [hm]
      show Cg P.1 (co (List.foldl (lampIn P) (lampIn P f ((j : Int) / (n : Int), (j : Int) % (n : Int), P.1 - (-x) % P.1)) _) i) _
      rw [e2]
      have ih := back_co h h1 mix (j + 1) (behind P.1 f (button P ((j : Int) / (n : Int))) ((j : Int) % (n : Int)) x) hx' (by rw [behind_len]; exact hf) i
      have h2 := behind_cg (p := P.1) h1 ((j : Int) % (n : Int)) x (button P ((j : Int) / (n : Int))) f hf i
      exact ih.trans ((h2.add (Cg.refl P.1 _)).trans (Cg.of (by show co f i + x * prs P n j i + phi (prs P n) (j + 1) mix i = co f i + (x * prs P n j i + phi (prs P n) (j + 1) mix i); grind)))
theorem back_zero {P : Panel} (h : PanelV P) {n : Nat} (hn : n ≤ 60) (h1 : 0 < n) {pic : Pic} (hpic : PicV P.1 n pic) (hr : Rw P.1 (foundS P n pic).2) (hphi : ∀ i, Cg P.1 (phi (prs P n) 0 (foundS P n pic).2 i) (-(pf pic i))) : plusD P.1 n (lampsOf P n (backOf P n pic)) pic 1 0 = [] := by
  have hp := h.1
  have hv : PicV P.1 n (lampsOf P n (backOf P n pic)) := lampsOf_v h (by omega) _
  have c1 : ∀ i, Cg P.1 (pf (lampsOf P n (backOf P n pic)) i) (-(pf pic i)) := fun i => by
    have h2 := back_co h h1 (foundS P n pic).2 0 (zeros n) hr.1 (by rw [zeros_len]; omega) i
    rw [co_zeros] at h2
    have e : pf (lampsOf P n (backOf P n pic)) i = co (lampRow P n (backOf P n pic)) i := pf_picOf _ i
    rw [e]
    exact h2.trans ((Cg.of (by grind)).trans (hphi i))
  have c2 : ∀ i, sm (fun o => ((o + 0) % (n : Int)).toNat) pic i = pf pic i := fun i => sm_congr (fun q hq => by
    have := hpic.1 q hq
    rw [Int.add_zero, Int.emod_eq_of_lt (by omega) (by omega)]) i
  have hz : ∀ i, Cg P.1 (dv n (plusDict P.1 n (lampsOf P n (backOf P n pic)) pic 1 0) i) 0 := fun i => by
    have h2 := plus_cg (p := P.1) (w := n) h1 hv (other := pic) 1 0 i
    rw [c2] at h2
    exact h2.trans (((c1 i).add (Cg.refl P.1 (1 * pf pic i))).trans (Cg.of (by grind)))
  have hd := plusDict_ok hp (w := (n : Int)) (by omega) hv pic 1 0
  have hget : ∀ k ∈ ir n, getA (plusDict P.1 n (lampsOf P n (backOf P n pic)) pic 1 0) k = 0 := fun k hk => by
    have hk := ir_in.mp hk
    have h2 := hz k.toNat
    unfold dv at h2
    rw [if_pos (by omega), Int.toNat_of_nonneg hk.1] at h2
    by_cases hm : k ∈ (plusDict P.1 n (lampsOf P n (backOf P n pic)) pic 1 0).map (·.1)
    · have := dict_get hd hm
      exact h2.eq this.2.2.1 this.2.2.2 (Int.le_refl 0) hp.pos
    · unfold getA
      cases e : lookA (plusDict P.1 n (lampsOf P n (backOf P n pic)) pic 1 0) k with
      | none => rfl
      | some x => exact absurd (List.mem_map.mpr ⟨_, look_mem e, rfl⟩) hm
  unfold plusD nzPic
  rw [Int.toNat_natCast, List.filter_eq_nil_iff.mpr fun k hk => by rw [hget k hk]; decide]
  rfl
/-! the law's facts -/
theorem good (c : Int) : Good c := by
  have hV := (packR_ok c).1
  have hb5 := (packR_ok c).2
  have hW := wideR_in c
  obtain ⟨n, hn⟩ : ∃ n : Nat, wideR c = (n : Int) := ⟨(wideR c).toNat, by omega⟩
  have hn1 : 1 ≤ n := by omega
  have hn2 : n ≤ 12 := by omega
  have eB : baseD c = (packR c).1 := rfl
  have hB := base_pr c
  have ht := times_in c hV
  have hby := by_in c hV
  have hwV := widerR_ok c
  have hpu1 : PushV (packR c) n (pushD c 90 (packR c) n 6) := pushD_ok hV (by omega) (by omega) c 90 (by decide) (by decide)
  have hpu2 : PushV (packR c) n (pushD c 110 (packR c) n 6) := pushD_ok hV (by omega) (by omega) c 110 (by decide) (by decide)
  have e1 : oneR c = lampsOf (packR c) n (pushD c 90 (packR c) n 6) := by unfold oneR; rw [hn]
  have e2 : otherR c = lampsOf (packR c) n (pushD c 110 (packR c) n 6) := by unfold otherR; rw [hn]
  have e3 : drawnR c = shapeD c 70 (baseD c) n 5 := by unfold drawnR; rw [hn]
  have e4 : sumR0 c = plusD (packR c).1 n (oneR c) (otherR c) (timesR c) (byR c) := by unfold sumR0; rw [hn]; rfl
  have e5 : sumR1 c = plusD (packR c).1 n (drawnR c) (otherR c) (timesR c) (byR c) := by unfold sumR1; rw [hn]; rfl
  have e6 : backR c = backOf (packR c) n (oneR c) := by unfold backR; rw [hn]; rfl
  have v1 : PicV (packR c).1 n (oneR c) := by rw [e1]; exact lampsOf_v hV (by omega) _
  have v2 : PicV (packR c).1 n (otherR c) := by rw [e2]; exact lampsOf_v hV (by omega) _
  have v3 : PicV (packR c).1 n (drawnR c) := by rw [e3]; exact shapeD_ok hB (by omega) c 70 (by decide) (by decide)
  have i1 : In (packR c).1 (SJ (packR c) n) (pf (oneR c)) := by rw [e1]; exact lamp_In hV hn1 (by omega) hpu1
  have i2 : In (packR c).1 (SJ (packR c) n) (pf (otherR c)) := by rw [e2]; exact lamp_In hV hn1 (by omega) hpu2
  have hbr : 0 ≤ byR c := (draw_ge c 214 (L := 99) (by decide)).1
  have p1 := plus_In hn1 v1 v2 i2 (timesR c) hbr
  have p2 := plus_In hn1 v3 v2 i2 (timesR c) hbr
  rw [← e4] at p1
  rw [← e5] at p2
  have g1 : reach (packR c) n (sumR0 c) = true := (reach_iff hV).mpr (In.of_sub p1 i1)
  have eW : (packR c).1 = (widerR c).1 := rfl
  have hsub : ∀ f, SJ (packR c) n f → In (widerR c).1 (SJ (widerR c) n) f := fun f hf => by
    rcases hf with ⟨r, hr, rfl⟩ | rfl
    · exact .gen (.inl ⟨r, List.mem_append_left _ hr, rfl⟩)
    · exact .gen (.inr rfl)
  have hL1 : Ln (packR c).1 (fun f => ∃ k, k < (packR c).2.length * n ∧ f = prs (packR c) n k) (pf (oneR c)) := by rw [e1]; exact lamp_Ln hn1 hpu1
  have hF := found_R hV (by omega) hn1 v1 hL1
  have hoV := others_ok hV (by omega) ht hby
  have hoI := others_In hV ht hby n
  have hwt := timesW_in c
  obtain ⟨t, hwn⟩ : ∃ t : Nat, timesW c = (t : Int) := ⟨(timesW c).toNat, by omega⟩
  have hnt : n * t ≤ 60 ∧ 1 ≤ n * t := by
    have h3 : n * t ≤ 12 * 3 := Nat.mul_le_mul hn2 (by omega)
    have h4 : 1 * 1 ≤ n * t := Nat.mul_le_mul hn1 (by omega)
    omega
  have e7 : wideR c * timesW c = ((n * t : Nat) : Int) := by rw [hn, hwn, Int.natCast_mul]
  have hpu3 : PushV (packR c) (n * t : Nat) (pushD c 140 (packR c) (n * t : Nat) 5) := pushD_ok hV (by omega) (by omega) c 140 (by decide) (by decide)
  have hli := litD_ok hV (w := ((n * t : Nat) : Int)) (by omega) (by omega) (pushD c 140 (packR c) (n * t : Nat) 5)
  have hbk := back_v hV (by omega) hn1 hF.2.1 hF.2.2.1
  refine ⟨?_, ?_, ?_, ?_, ?_, ?_, ?_, ?_, ?_, ?_, ?_, ?_, ?_, ?_⟩
  · rw [hn]; exact v1
  · rw [hn]; exact v2
  · rw [hn, Int.toNat_natCast]; exact g1
  · rw [hn, Int.toNat_natCast, Bool.eq_iff_iff]
    exact ⟨fun hr => (reach_iff hV).mpr (In.of_sub' p2 ((reach_iff hV).mp hr)), fun hr => (reach_iff hV).mpr (In.of_sub p2 ((reach_iff hV).mp hr))⟩
  · rw [hn, Int.toNat_natCast]; exact loss_le hV hwV eW hsub
  · rw [hn, Int.toNat_natCast]; exact reach_sub hV hwV eW hsub g1
  · rw [hn, Int.toNat_natCast]; exact reach_sub hV hwV eW hsub
  · intro Q hQ
    obtain ⟨oV, oE⟩ := hoV Q hQ
    obtain ⟨oA, oB⟩ := hoI Q hQ
    have oB' : ∀ f, SJ (packR c) n f → In Q.1 (SJ Q n) f := by rw [oE]; exact oB
    rw [hn, Int.toNat_natCast]
    refine ⟨Int.le_antisymm (loss_le hV oV oE.symm oB') (loss_le oV hV oE oA), reach_eq hV oV oE.symm oB' oA, ?_⟩
    rw [reach_eq hV oV oE.symm oB' oA]
    exact (reach_iff hV).mpr i1
  · rw [hn]; exact hF.1
  · rw [hn, e6]; exact hbk
  · rw [hn, e6]; exact lampsOf_v hV (by omega) _
  · rw [hn, e6, eB]; exact back_zero hV (by omega) hn1 v1 hF.2.1 hF.2.2.2
  · rw [e7, hn, Int.toNat_natCast, Int.toNat_natCast]; exact loss_le hV hV rfl wound_sub
  · rw [hn, Int.toNat_natCast]
    have e8 : smallD c (packR c) (n : Int) = nearD (packR c).1 n (litD (packR c) (n * t : Nat) (pushD c 140 (packR c) (n * t : Nat) 5)) := by
      unfold smallD
      rw [hwn, ← Int.natCast_mul]
    rw [e8]
    exact (reach_iff hV).mpr (near_In hn1 (fun q hq => (hli.1 q hq).1) ((lit_In hV hnt.2 hpu3).mono wound_sub))
end Rg
end
section
set_option Elab.async false
set_option linter.all false
set_option maxRecDepth 100000
/-! Data told by what it stands for (Rep), and what an expression's reading gives (Ev). -/
namespace Rg
open PySem PySem.Spec PyProof.Rows L2

/-! ### heaps -/
def Tk (H H' : Hp) : Prop := ∀ a xs, Rd H a (.tup xs) → Rd H' a (.tup xs)
theorem Tk.refl (H : Hp) : Tk H H := fun _ _ h => h
theorem Tk.trans {H H1 H2 : Hp} (a : Tk H H1) (b : Tk H1 H2) : Tk H H2 := fun x o h => b x o (a x o h)
theorem Tk.of {H H' : Hp} (e : Same H H') : Tk H H' := fun a xs h => by
  rcases h with h | ⟨o, h⟩
  · exact .inl (e _ _ h)
  · exact .inr ⟨o, e _ _ h⟩
theorem Tk.upd {H H' : Hp} {p : Addr} {o : HO} (t : Tk H H') (h : ∀ xs, ¬ Rd H p (.tup xs)) : Tk H (upd H' p o) := fun a xs r => by
  have hne : a ≠ p := fun e => h xs (e ▸ r)
  rcases t a xs r with q | ⟨ob, q⟩
  · exact .inl (by rw [upd_ne hne]; exact q)
  · exact .inr ⟨ob, by rw [upd_ne hne]; exact q⟩
theorem noT_none {H : Hp} {p : Addr} (h : H p = none) (xs : List V) : ¬ Rd H p (.tup xs) := fun r => by
  rcases r with q | ⟨o, q⟩ <;> rw [h] at q <;> cases q
theorem noT_lst {H : Hp} {p : Addr} {ys : List V} (h : H p = some (.lst ys)) (xs : List V) : ¬ Rd H p (.tup xs) := fun r => by
  rcases r with q | ⟨o, q⟩ <;> rw [h] at q <;> cases q
theorem noT_dK {H : Hp} {p : Addr} {kvs : List (Key × V)} (h : H p = some (.dK kvs)) (xs : List V) : ¬ Rd H p (.tup xs) := fun r => by
  rcases r with q | ⟨o, q⟩ <;> rw [h] at q <;> cases q
theorem noT_dT {H : Hp} {p : Addr} {kvs : List (List Key × V)} (h : H p = some (.dT kvs)) (xs : List V) : ¬ Rd H p (.tup xs) := fun r => by
  rcases r with q | ⟨o, q⟩ <;> rw [h] at q <;> cases q
theorem same_new {H : Hp} {p : Addr} {o : HO} (h : H p = none) : Same H (upd H p o) := fun a u e => by
  rw [upd_ne (ne_of_none e h)]; exact e
/-- a place that the first does not know is written -/
theorem same_mut {H H' : Hp} {p : Addr} {o : HO} (e : Same H H') (h : H p = none) : Same H (upd H' p o) := fun a u ha => by
  rw [upd_ne (ne_of_none ha h)]; exact e a u ha
theorem same_free {H H' : Hp} {l : Addr} (e : Same H H') (h : H' l = none) : H l = none := e.free h
theorem sqT_tk {K : PySem.W.Frag} {H H' : Hp} {a : Addr} {xs : List V} (t : Tk H H') (h : SqT K H a xs) : SqT K H' a xs := by
  rcases h with h | h
  · exact .inl (t _ _ h)
  · exact .inr h

/-! ### paired lists -/
theorem _root_.PySem.Paired.rgM {α β : Type} {F G : α → β → Prop} : ∀ {l₁ : List α} {l₂ : List β}, Paired F l₁ l₂ → (∀ a b, F a b → G a b) → Paired G l₁ l₂
  | _, _, .nil, _ => .nil
  | _, _, .cons r t, f => .cons (f _ _ r) (t.rgM f)
section
variable {α β γ : Type} {F : α → β → Prop}
theorem pd_get : ∀ {xs : List α} {ys : List β} {i : Nat} {y : β}, Paired F xs ys → ys[i]? = some y → ∃ x, xs[i]? = some x ∧ F x y
  | _, _, _, _, .nil, h => by simp at h
  | _, _, 0, _, .cons r _, h => by simp at h; subst h; exact ⟨_, rfl, r⟩
  | _, _, i + 1, _, .cons _ t, h => by
    obtain ⟨x, h1, h2⟩ := pd_get (i := i) t (by simpa using h)
    exact ⟨x, by simpa using h1, h2⟩
theorem pd_get' : ∀ {xs : List α} {ys : List β} {i : Nat} {x : α}, Paired F xs ys → xs[i]? = some x → ∃ y, ys[i]? = some y ∧ F x y
  | _, _, _, _, .nil, h => by simp at h
  | _, _, 0, _, .cons r _, h => by simp at h; subst h; exact ⟨_, rfl, r⟩
  | _, _, i + 1, _, .cons _ t, h => by
    obtain ⟨x, h1, h2⟩ := pd_get' (i := i) t (by simpa using h)
    exact ⟨x, by simpa using h1, h2⟩
theorem pd_app : ∀ {xs xs' : List α} {ys ys' : List β}, Paired F xs ys → Paired F xs' ys' → Paired F (xs ++ xs') (ys ++ ys')
  | _, _, _, _, .nil, s => s
  | _, _, _, _, .cons r t, s => .cons r (pd_app t s)
theorem pd_take : ∀ {xs : List α} {ys : List β} (n : Nat), Paired F xs ys → Paired F (xs.take n) (ys.take n)
  | _, _, 0, _ => by simp; exact .nil
  | _, _, _ + 1, .nil => .nil
  | _, _, n + 1, .cons r t => .cons r (pd_take n t)
theorem pd_drop : ∀ {xs : List α} {ys : List β} (n : Nat), Paired F xs ys → Paired F (xs.drop n) (ys.drop n)
  | _, _, 0, h => h
  | _, _, _ + 1, .nil => .nil
  | _, _, n + 1, .cons r t => pd_drop n t
theorem pd_rev : ∀ {xs : List α} {ys : List β}, Paired F xs ys → Paired F xs.reverse ys.reverse
  | _, _, .nil => .nil
  | _, _, .cons r t => by
    rw [List.reverse_cons, List.reverse_cons]
    exact pd_app (pd_rev t) (.cons r .nil)
theorem pd_set : ∀ {xs : List α} {ys : List β} (i : Nat) {x : α} {y : β}, Paired F xs ys → F x y → Paired F (xs.set i x) (ys.set i y)
  | _, _, _, _, _, .nil, _ => .nil
  | _, _, 0, _, _, .cons _ t, h => .cons h t
  | _, _, i + 1, _, _, .cons r t, h => .cons r (pd_set i t h)
theorem pd_rep {x : α} {y : β} (h : F x y) : ∀ n, Paired F (List.replicate n x) (List.replicate n y)
  | 0 => .nil
  | n + 1 => .cons h (pd_rep h n)
theorem pd_map {G : α → γ → Prop} {f : β → γ} (h : ∀ a b, F a b → G a (f b)) : ∀ {xs : List α} {ys : List β}, Paired F xs ys → Paired G xs (ys.map f)
  | _, _, .nil => .nil
  | _, _, .cons r t => .cons (h _ _ r) (pd_map h t)
theorem pd_atI {xs : List α} {ys : List β} {i : Int} {y : β} (p : Paired F xs ys) (h : atI ys i = some y) : ∃ x, atI xs i = some x ∧ F x y := by
  unfold atI at h ⊢
  rw [p.length]
  cases e : ixN ys.length i with
  | none => rw [e] at h; cases h
  | some j => rw [e] at h; exact pd_get p h
end

/-! ### what a value stands for -/
abbrev Rep (α : Type) := Hp → V → α → Prop
class Tm {α : Type} (R : Rep α) : Prop where
  tk : ∀ {H H' : Hp} {v : V} {d : α}, Tk H H' → R H v d → R H' v d
class Sm {α : Type} (R : Rep α) : Prop where
  sm : ∀ {H H' : Hp} {v : V} {d : α}, Same H H' → R H v d → R H' v d
instance (priority := low) Tm.sm {α : Type} (R : Rep α) [Tm R] : Sm R := ⟨fun e h => Tm.tk (Tk.of e) h⟩
def RI : Rep Int := fun _ v n => v = .int n
def RB : Rep Bool := fun _ v b => v = .bl b
def RN : Rep Unit := fun _ v _ => v = .non
section
variable {α β γ : Type}
def RT (K : PySem.W.Frag) (R : Rep α) : Rep (List α) := fun H v ds => ∃ a xs, v = .ref a ∧ SqT K H a xs ∧ Paired (R H) xs ds
def RL (K : PySem.W.Frag) (R : Rep α) : Rep (List α) := fun H v ds => ∃ a xs, v = .ref a ∧ SqL K H a xs ∧ Paired (R H) xs ds
def RM (R : Rep α) : Rep (List α) := fun H v ds => ∃ a xs, v = .ref a ∧ H a = some (.lst xs) ∧ Paired (R H) xs ds
def RP (K : PySem.W.Frag) (R : Rep α) (S : Rep β) : Rep (α × β) := fun H v d => ∃ a x y, v = .ref a ∧ SqT K H a [x, y] ∧ R H x d.1 ∧ S H y d.2
def RQ (K : PySem.W.Frag) (R : Rep α) (S : Rep β) (T : Rep γ) : Rep (α × β × γ) := fun H v d => ∃ a x y z, v = .ref a ∧ SqT K H a [x, y, z] ∧ R H x d.1 ∧ S H y d.2.1 ∧ T H z d.2.2
instance : Tm RI := ⟨fun _ h => h⟩
instance : Tm RB := ⟨fun _ h => h⟩
instance : Tm RN := ⟨fun _ h => h⟩
instance {K : PySem.W.Frag} {R : Rep α} [Tm R] : Tm (RT K R) := ⟨fun t ⟨a, xs, e, h, p⟩ => ⟨a, xs, e, sqT_tk t h, p.rgM fun _ _ r => Tm.tk t r⟩⟩
instance {K : PySem.W.Frag} {R : Rep α} {S : Rep β} [Tm R] [Tm S] : Tm (RP K R S) := ⟨fun t ⟨a, x, y, e, h, p, q⟩ => ⟨a, x, y, e, sqT_tk t h, Tm.tk t p, Tm.tk t q⟩⟩
instance {K : PySem.W.Frag} {R : Rep α} {S : Rep β} {T : Rep γ} [Tm R] [Tm S] [Tm T] : Tm (RQ K R S T) := ⟨fun t ⟨a, x, y, z, e, h, p, q, r⟩ => ⟨a, x, y, z, e, sqT_tk t h, Tm.tk t p, Tm.tk t q, Tm.tk t r⟩⟩
instance {K : PySem.W.Frag} {R : Rep α} [Sm R] : Sm (RL K R) := ⟨fun t ⟨a, xs, e, h, p⟩ => ⟨a, xs, e, t.seq h, p.rgM fun _ _ r => Sm.sm t r⟩⟩
instance {R : Rep α} [Sm R] : Sm (RM R) := ⟨fun t ⟨a, xs, e, h, p⟩ => ⟨a, xs, e, t _ _ h, p.rgM fun _ _ r => Sm.sm t r⟩⟩
instance {K : PySem.W.Frag} {R : Rep α} [Sm R] : Sm (RT K R) := ⟨fun t ⟨a, xs, e, h, p⟩ => ⟨a, xs, e, sqT_tk (Tk.of t) h, p.rgM fun _ _ r => Sm.sm t r⟩⟩
theorem RM.l {K : PySem.W.Frag} {R : Rep α} {H : Hp} {v : V} {ds : List α} (h : RM R H v ds) : RL K R H v ds := let ⟨a, xs, e, q, p⟩ := h; ⟨a, xs, e, .inl (.inl q), p⟩
theorem pd_ri {H : Hp} : ∀ {xs : List V} {ns : List Int}, Paired (RI H) xs ns → xs = ns.map V.int
  | _, _, .nil => rfl
  | _, _, .cons r t => by rw [List.map_cons, ← pd_ri t, show _ = V.int _ from r]
theorem ri_pd {H : Hp} : ∀ (ns : List Int), Paired (RI H) (ns.map V.int) ns
  | [] => .nil
  | _ :: r => .cons rfl (ri_pd r)
theorem pd_rb {H : Hp} : ∀ {xs : List V} {ns : List Bool}, Paired (RB H) xs ns → xs = ns.map V.bl
  | _, _, .nil => rfl
  | _, _, .cons r t => by rw [List.map_cons, ← pd_rb t, show _ = V.bl _ from r]
end

/-! ### what a reading gives -/
section
variable {α β γ δ : Type}
def Ev (te : TE) (σ : L2.St) (H : Hp) (R : Rep α) (d : α) : Prop := ∀ H1, Same H H1 → ∀ Q : VK, (∀ v H2, Same H1 H2 → R H2 v d → Q v H2) → te σ H1 Q
/-- a new list -/
def EvN (te : TE) (σ : L2.St) (H : Hp) (R : Rep α) (ds : List α) : Prop := ∀ H1, Same H H1 → ∀ Q : VK, (∀ p xs H2, H1 p = none → Same H1 H2 → H2 p = some (.lst xs) → Paired (R H2) xs ds → Q (.ref p) H2) → te σ H1 Q
def EvT (tt : TT) (σ : L2.St) (H : Hp) (b : Bool) : Prop := ∀ H1, Same H H1 → ∀ Q : Bool → Hp → Prop, (∀ H2, Same H1 H2 → Q b H2) → tt σ H1 Q
abbrev ARep (α : Type) := Hp → List V → α → Prop
def A0 : ARep Unit := fun _ vs _ => vs = []
def AC (R : Rep α) (A : ARep β) : ARep (α × β) := fun H vs d => ∃ v ws, vs = v :: ws ∧ R H v d.1 ∧ A H ws d.2
class Am (A : ARep α) : Prop where
  am : ∀ {H H' : Hp} {vs : List V} {d : α}, Same H H' → A H vs d → A H' vs d
instance : Am A0 := ⟨fun _ h => h⟩
instance {R : Rep α} {A : ARep β} [Sm R] [Am A] : Am (AC R A) := ⟨fun e ⟨v, ws, h, p, q⟩ => ⟨v, ws, h, Sm.sm e p, Am.am e q⟩⟩
def EvA (ta : TA) (σ : L2.St) (H : Hp) (A : ARep α) (d : α) : Prop := ∀ H1, Same H H1 → ∀ Q : List V → Hp → Prop, (∀ vs H2, Same H1 H2 → A H2 vs d → Q vs H2) → ta σ H1 Q
/-- arguments of one kind -/
def EvAs (ta : TA) (σ : L2.St) (H : Hp) (R : Rep α) (ds : List α) : Prop := ∀ H1, Same H H1 → ∀ Q : List V → Hp → Prop, (∀ vs H2, Same H1 H2 → Paired (R H2) vs ds → Q vs H2) → ta σ H1 Q
end

section
variable {α β γ δ : Type} {K : PySem.W.Frag} {σ : L2.St} {H H' : Hp} {ta tb te tx : TE} {t u : TT} {R : Rep α} {S : Rep β} {T : Rep γ}
theorem Ev.mono {d : α} (e : Same H H') (h : Ev te σ H R d) : Ev te σ H' R d := fun H1 a Q q => h H1 (e.trans a) Q q
theorem EvN.mono {d : List α} (e : Same H H') (h : EvN te σ H R d) : EvN te σ H' R d := fun H1 a Q q => h H1 (e.trans a) Q q
theorem EvT.mono {b : Bool} (e : Same H H') (h : EvT t σ H b) : EvT t σ H' b := fun H1 a Q q => h H1 (e.trans a) Q q
theorem Ev.is {d d' : α} (h : Ev te σ H R d) (e : d = d') : Ev te σ H R d' := e ▸ h
theorem EvN.is {d d' : List α} (h : EvN te σ H R d) (e : d = d') : EvN te σ H R d' := e ▸ h
theorem EvT.is {b b' : Bool} (h : EvT t σ H b) (e : b = b') : EvT t σ H b' := e ▸ h
theorem EvN.m {ds : List α} (h : EvN te σ H R ds) : Ev te σ H (RM R) ds := fun H1 e Q q => h H1 e Q fun p xs H2 _ e2 hp pd => q _ H2 e2 ⟨p, xs, rfl, hp, pd⟩
theorem Ev.ml {ds : List α} (h : Ev te σ H (RM R) ds) : Ev te σ H (RL K R) ds := fun H1 e Q q => h H1 e Q fun v H2 e2 r => q v H2 e2 r.l
theorem EvN.l {ds : List α} (h : EvN te σ H R ds) : Ev te σ H (RL K R) ds := h.m.ml
theorem ev_var {i : Nat} {v : V} {d : α} [Sm R] (h : σ[i]? = some (some v)) (r : R H v d) : Ev (tVar i) σ H R d := fun H1 e _ q => ⟨v, h, q v H1 (Same.refl H1) (Sm.sm e r)⟩
theorem ev_int {n : Int} : Ev (tC (.int n)) σ H RI n := fun H1 _ _ q => q _ H1 (Same.refl H1) rfl
theorem ev_bl {b : Bool} : Ev (tC (.bl b)) σ H RB b := fun H1 _ _ q => q _ H1 (Same.refl H1) rfl
theorem ev_non : Ev (tC .non) σ H RN () := fun H1 _ _ q => q _ H1 (Same.refl H1) rfl
theorem ev_i2 {g : Int → Int → V} {a b : Int} {d : α} (ha : Ev ta σ H RI a) (hb : Ev tb σ H RI b) (hr : ∀ H, R H (g a b) d) : Ev (tOp (rI0 g) ta tb) σ H R d := fun H1 e Q q =>
  ha H1 e _ fun x H2 e2 r2 => hb H2 (e.trans e2) _ fun y H3 e3 r3 => ⟨a, b, r2, r3, q _ H3 (e2.trans e3) (hr H3)⟩
theorem ev_ic {C : Int → Int → Prop} {g : Int → Int → V} {a b : Int} {d : α} (ha : Ev ta σ H RI a) (hb : Ev tb σ H RI b) (hc : C a b) (hr : ∀ H, R H (g a b) d) : Ev (tOp (rI C g) ta tb) σ H R d := fun H1 e Q q =>
  ha H1 e _ fun x H2 e2 r2 => hb H2 (e.trans e2) _ fun y H3 e3 r3 => ⟨a, b, r2, r3, hc, q _ H3 (e2.trans e3) (hr H3)⟩
section
variable {a b : Int}
theorem ev_add (ha : Ev ta σ H RI a) (hb : Ev tb σ H RI b) : Ev (tOp (rI0 fun i j => .int (i + j)) ta tb) σ H RI (a + b) := ev_i2 ha hb fun _ => rfl
theorem ev_sub (ha : Ev ta σ H RI a) (hb : Ev tb σ H RI b) : Ev (tOp (rI0 fun i j => .int (i - j)) ta tb) σ H RI (a - b) := ev_i2 ha hb fun _ => rfl
theorem ev_mul (ha : Ev ta σ H RI a) (hb : Ev tb σ H RI b) (hc : CMul a b) : Ev (tOp (rI CMul fun i j => .int (i * j)) ta tb) σ H RI (a * b) := ev_ic ha hb hc fun _ => rfl
theorem ev_mod (ha : Ev ta σ H RI a) (hb : Ev tb σ H RI b) (hc : 0 < b) : Ev (tOp (rI (fun _ j => 0 < j) fun i j => .int (i % j)) ta tb) σ H RI (a % b) := ev_ic ha hb hc fun _ => rfl
theorem ev_fdiv (ha : Ev ta σ H RI a) (hb : Ev tb σ H RI b) (hc : CDiv a b) : Ev (tOp (rI CDiv fun i j => .int (i / j)) ta tb) σ H RI (a / b) := ev_ic ha hb hc fun _ => rfl
theorem ev_pow (ha : Ev ta σ H RI a) (hb : Ev tb σ H RI b) (hc : CPow a b) : Ev (tOp (rI CPow fun i j => .int (i ^ j.toNat)) ta tb) σ H RI (a ^ b.toNat) := ev_ic ha hb hc fun _ => rfl
theorem ev_shr (ha : Ev ta σ H RI a) (hb : Ev tb σ H RI b) (hc : 0 ≤ b) : Ev (tOp (rI (fun _ j => 0 ≤ j) fun i j => .int (i / 2 ^ j.toNat)) ta tb) σ H RI (a / 2 ^ b.toNat) := ev_ic ha hb hc fun _ => rfl
theorem ev_lt (ha : Ev ta σ H RI a) (hb : Ev tb σ H RI b) : Ev (tOp (rI0 fun i j => .bl (decide (i < j))) ta tb) σ H RB (decide (a < b)) := ev_i2 ha hb fun _ => rfl
theorem ev_le (ha : Ev ta σ H RI a) (hb : Ev tb σ H RI b) : Ev (tOp (rI0 fun i j => .bl (decide (i ≤ j))) ta tb) σ H RB (decide (a ≤ b)) := ev_i2 ha hb fun _ => rfl
theorem ev_gt (ha : Ev ta σ H RI a) (hb : Ev tb σ H RI b) : Ev (tOp (rI0 fun i j => .bl (decide (j < i))) ta tb) σ H RB (decide (b < a)) := ev_i2 ha hb fun _ => rfl
theorem ev_ge (ha : Ev ta σ H RI a) (hb : Ev tb σ H RI b) : Ev (tOp (rI0 fun i j => .bl (decide (j ≤ i))) ta tb) σ H RB (decide (b ≤ a)) := ev_i2 ha hb fun _ => rfl
theorem dec_int : decide (V.int a = V.int b) = decide (a = b) := decide_eq_decide.mpr ⟨V.int.inj, congrArg V.int⟩
theorem dec_bl {a b : Bool} : decide (V.bl a = V.bl b) = decide (a = b) := decide_eq_decide.mpr ⟨V.bl.inj, congrArg V.bl⟩
theorem ev_eq (ha : Ev ta σ H RI a) (hb : Ev tb σ H RI b) : Ev (tOp rEq ta tb) σ H RB (decide (a = b)) := fun H1 e Q q =>
  ha H1 e _ fun x H2 e2 r2 => hb H2 (e.trans e2) _ fun y H3 e3 r3 => by
    cases r2; cases r3
    exact ⟨rfl, q _ H3 (e2.trans e3) (by rw [dec_int]; rfl)⟩
theorem ev_ne (ha : Ev ta σ H RI a) (hb : Ev tb σ H RI b) : Ev (tOp rNe ta tb) σ H RB (!decide (a = b)) := fun H1 e Q q =>
  ha H1 e _ fun x H2 e2 r2 => hb H2 (e.trans e2) _ fun y H3 e3 r3 => by
    cases r2; cases r3
    exact ⟨rfl, q _ H3 (e2.trans e3) (by rw [dec_int]; rfl)⟩
theorem ev_neB {a b : Bool} (ha : Ev ta σ H RB a) (hb : Ev tb σ H RB b) : Ev (tOp rNe ta tb) σ H RB (!decide (a = b)) := fun H1 e Q q =>
  ha H1 e _ fun x H2 e2 r2 => hb H2 (e.trans e2) _ fun y H3 e3 r3 => by
    cases r2; cases r3
    exact ⟨rfl, q _ H3 (e2.trans e3) (by rw [dec_bl]; rfl)⟩
theorem ev_neg (ha : Ev ta σ H RI a) : Ev (tUn (rU fun i => .int (-i)) ta) σ H RI (-a) := fun H1 e Q q => ha H1 e _ fun x H2 e2 r2 => ⟨a, r2, q _ H2 e2 rfl⟩
/-- low <= value <= high -/
theorem ev_chain {g g' : Int → Int → Bool} {tc : TE} {c : Int} (ha : Ev ta σ H RI a) (hb : Ev tb σ H RI b) (hc : g a b = true → Ev tc σ H RI c) :
    Ev (tChain (rI0 fun i j => .bl (g i j)) (rI0 fun i j => .bl (g' i j)) ta tb tc) σ H RB (g a b && g' b c) := fun H1 e Q q =>
  ha H1 e _ fun x H2 e2 r2 => hb H2 (e.trans e2) _ fun y H3 e3 r3 => ⟨a, b, r2, r3, g a b, rfl, by
    cases hg : g a b with
    | true =>
      refine (hc hg) H3 ((e.trans e2).trans e3) _ fun z H4 e4 r4 => ?_
      exact ⟨b, c, r3, r4, q _ H4 ((e2.trans e3).trans e4) (by rw [hg]; rfl)⟩
    | false => exact q _ H3 (e2.trans e3) (by rw [hg]; rfl)⟩
end
/-! tests -/
theorem et_test {b : Bool} (h : Ev te σ H RB b) : EvT (tTest te) σ H b := fun H1 e _ q => h H1 e _ fun v H2 e2 r => ⟨b, r, q H2 e2⟩
theorem et_B {b : Bool} (h : Ev te σ H RB b) : EvT (tB te) σ H b := fun H1 e _ q => h H1 e _ fun v H2 e2 r => ⟨b, r, q H2 e2⟩
theorem et_and {a b : Bool} (h1 : EvT t σ H a) (h2 : a = true → EvT u σ H b) : EvT (tAnd t u) σ H (a && b) := fun H1 e Q q => h1 H1 e _ fun H2 e2 => by
  cases a with
  | true => exact h2 rfl H2 (e.trans e2) Q fun H3 e3 => q H3 (e2.trans e3)
  | false => exact q H2 e2
theorem et_or {a b : Bool} (h1 : EvT t σ H a) (h2 : a = false → EvT u σ H b) : EvT (tOr t u) σ H (a || b) := fun H1 e Q q => h1 H1 e _ fun H2 e2 => by
  cases a with
  | true => exact q H2 e2
  | false => exact h2 rfl H2 (e.trans e2) Q fun H3 e3 => q H3 (e2.trans e3)
theorem et_not {a : Bool} (h1 : EvT t σ H a) : EvT (tNot t) σ H (!a) := fun H1 e _ q => h1 H1 e _ fun H2 e2 => q H2 e2
theorem et_yes : EvT tYes σ H true := fun H1 _ _ q => q H1 (Same.refl H1)
theorem ev_andV {a b : Bool} (h1 : Ev ta σ H RB a) (h2 : a = true → Ev tb σ H RB b) : Ev (tAndV ta tb) σ H RB (a && b) := fun H1 e Q q => h1 H1 e _ fun v H2 e2 r => ⟨a, r, by
  cases a with
  | true => exact h2 rfl H2 (e.trans e2) Q fun v H3 e3 => q v H3 (e2.trans e3)
  | false => exact q _ H2 e2 rfl⟩
theorem ev_orV {a b : Bool} (h1 : Ev ta σ H RB a) (h2 : a = false → Ev tb σ H RB b) : Ev (tOrV ta tb) σ H RB (a || b) := fun H1 e Q q => h1 H1 e _ fun v H2 e2 r => ⟨a, r, by
  cases a with
  | true => exact q _ H2 e2 rfl
  | false => exact h2 rfl H2 (e.trans e2) Q fun v H3 e3 => q v H3 (e2.trans e3)⟩
theorem ev_notV {a : Bool} (h1 : Ev ta σ H RB a) : Ev (tNotV ta) σ H RB (!a) := fun H1 e _ q => h1 H1 e _ fun v H2 e2 r => ⟨a, r, q _ H2 e2 rfl⟩
theorem ev_if {b : Bool} {d : α} (h : EvT t σ H b) (h1 : b = true → Ev ta σ H R d) (h2 : b = false → Ev tb σ H R d) : Ev (tIf t ta tb) σ H R d := fun H1 e Q q => h H1 e _ fun H2 e2 => by
  cases b with
  | true => exact h1 rfl H2 (e.trans e2) Q fun v H3 e3 => q v H3 (e2.trans e3)
  | false => exact h2 rfl H2 (e.trans e2) Q fun v H3 e3 => q v H3 (e2.trans e3)
/-! arguments -/
theorem ea_nil : EvA tNil σ H A0 () := fun H1 _ _ q => q _ H1 (Same.refl H1) rfl
theorem ea_cons {tr : TA} {A : ARep β} {d : α} {ds : β} [Sm R] (h : Ev ta σ H R d) (hr : EvA tr σ H A ds) : EvA (tCons ta tr) σ H (AC R A) (d, ds) := fun H1 e _ q =>
  h H1 e _ fun v H2 e2 r => hr H2 (e.trans e2) _ fun vs H3 e3 rs => q (v :: vs) H3 (e2.trans e3) ⟨v, vs, rfl, Sm.sm e3 r, rs⟩
theorem es_nil : EvAs tNil σ H R [] := fun H1 _ _ q => q _ H1 (Same.refl H1) .nil
theorem es_cons {tr : TA} {d : α} {ds : List α} [Sm R] (h : Ev ta σ H R d) (hr : EvAs tr σ H R ds) : EvAs (tCons ta tr) σ H R (d :: ds) := fun H1 e _ q =>
  h H1 e _ fun v H2 e2 r => hr H2 (e.trans e2) _ fun vs H3 e3 rs => q (v :: vs) H3 (e2.trans e3) (.cons (Sm.sm e3 r) rs)
/-! displays -/
theorem en_lst {ta : TA} {ds : List α} [Sm R] (h : EvAs ta σ H R ds) (hl : ds.length ≤ 100000) : EvN (tLst ta) σ H R ds := fun H1 e _ q =>
  h H1 e _ fun vs H2 e2 r => ⟨by rw [r.length]; exact Nat.le_trans hl (by decide), fun p hp => q p vs _ (same_free e2 hp) (e2.trans (same_new hp)) upd_same (r.rgM fun _ _ z => Sm.sm (same_new hp) z)⟩
theorem ev_tup {ta : TA} {ds : List α} [Sm R] (h : EvAs ta σ H R ds) (hl : ds.length ≤ 100000) : Ev (tTup ta) σ H (RT K R) ds := fun H1 e _ q =>
  h H1 e _ fun vs H2 e2 r => ⟨by rw [r.length]; exact Nat.le_trans hl (by decide), fun p hp => q _ _ (e2.trans (same_new hp)) ⟨p, vs, rfl, SqT.of upd_same, r.rgM fun _ _ z => Sm.sm (same_new hp) z⟩⟩
theorem ev_tup2 {ta tb : TE} {a : α} {b : β} [Sm R] [Sm S] (ha : Ev ta σ H R a) (hb : Ev tb σ H S b) : Ev (tTup (tCons ta (tCons tb tNil))) σ H (RP K R S) (a, b) := fun H1 e _ q =>
  ha H1 e _ fun v H2 e2 r2 => hb H2 (e.trans e2) _ fun w H3 e3 r3 => ⟨by show 2 ≤ sizeLine; decide, fun p hp => q _ _ ((e2.trans e3).trans (same_new hp)) ⟨p, v, w, rfl, SqT.of upd_same, Sm.sm (e3.trans (same_new hp)) r2, Sm.sm (same_new hp) r3⟩⟩
theorem ev_tup3 {ta tb tc : TE} {a : α} {b : β} {c : γ} [Sm R] [Sm S] [Sm T] (ha : Ev ta σ H R a) (hb : Ev tb σ H S b) (hc : Ev tc σ H T c) : Ev (tTup (tCons ta (tCons tb (tCons tc tNil)))) σ H (RQ K R S T) (a, b, c) := fun H1 e _ q =>
  ha H1 e _ fun v H2 e2 r2 => hb H2 (e.trans e2) _ fun w H3 e3 r3 => hc H3 ((e.trans e2).trans e3) _ fun z H4 e4 r4 => ⟨by show 3 ≤ sizeLine; decide, fun p hp =>
    q _ _ (((e2.trans e3).trans e4).trans (same_new hp)) ⟨p, v, w, z, rfl, SqT.of upd_same, Sm.sm ((e3.trans e4).trans (same_new hp)) r2, Sm.sm (e4.trans (same_new hp)) r3, Sm.sm (same_new hp) r4⟩⟩
/-! subscripts -/
theorem ev_ixT {ds : List α} {i : Int} {d : α} [Sm R] (ha : Ev ta σ H (RT K R) ds) (hb : Ev tb σ H RI i) (hx : atI ds i = some d) : Ev (tOp (rIxT K) ta tb) σ H R d := fun H1 e Q q =>
  ha H1 e _ fun x H2 e2 r2 => hb H2 (e.trans e2) _ fun y H3 e3 r3 => by
    obtain ⟨a, xs, rfl, hq, pd⟩ := (Sm.sm e3 r2 : RT K R H3 x ds)
    obtain ⟨v, hv, rv⟩ := pd_atI pd hx
    exact ⟨a, xs, i, v, rfl, r3, hq, hv, q v H3 (e2.trans e3) rv⟩
theorem ev_ixL {ds : List α} {i : Int} {d : α} [Sm R] (ha : Ev ta σ H (RL K R) ds) (hb : Ev tb σ H RI i) (hx : atI ds i = some d) : Ev (tOp (rIxL K) ta tb) σ H R d := fun H1 e Q q =>
  ha H1 e _ fun x H2 e2 r2 => hb H2 (e.trans e2) _ fun y H3 e3 r3 => by
    obtain ⟨a, xs, rfl, hq, pd⟩ := (Sm.sm e3 r2 : RL K R H3 x ds)
    obtain ⟨v, hv, rv⟩ := pd_atI pd hx
    exact ⟨a, xs, i, v, rfl, r3, hq, hv, q v H3 (e2.trans e3) rv⟩
theorem ev_p0 {d : α × β} (ha : Ev ta σ H (RP K R S) d) : Ev (tOp (rIxT K) ta (tC (.int 0))) σ H R d.1 := fun H1 e Q q =>
  ha H1 e _ fun x H2 e2 ⟨a, v, w, ex, hq, r1, r2⟩ => ⟨a, [v, w], 0, v, ex, rfl, hq, rfl, q v H2 e2 r1⟩
theorem ev_p1 {d : α × β} (ha : Ev ta σ H (RP K R S) d) : Ev (tOp (rIxT K) ta (tC (.int 1))) σ H S d.2 := fun H1 e Q q =>
  ha H1 e _ fun x H2 e2 ⟨a, v, w, ex, hq, r1, r2⟩ => ⟨a, [v, w], 1, w, ex, rfl, hq, rfl, q w H2 e2 r2⟩
theorem ev_q0 {d : α × β × γ} (ha : Ev ta σ H (RQ K R S T) d) : Ev (tOp (rIxT K) ta (tC (.int 0))) σ H R d.1 := fun H1 e Q q =>
  ha H1 e _ fun x H2 e2 ⟨a, v, w, z, ex, hq, r1, r2, r3⟩ => ⟨a, [v, w, z], 0, v, ex, rfl, hq, rfl, q v H2 e2 r1⟩
theorem ev_q1 {d : α × β × γ} (ha : Ev ta σ H (RQ K R S T) d) : Ev (tOp (rIxT K) ta (tC (.int 1))) σ H S d.2.1 := fun H1 e Q q =>
  ha H1 e _ fun x H2 e2 ⟨a, v, w, z, ex, hq, r1, r2, r3⟩ => ⟨a, [v, w, z], 1, w, ex, rfl, hq, rfl, q w H2 e2 r2⟩
theorem ev_q2 {d : α × β × γ} (ha : Ev ta σ H (RQ K R S T) d) : Ev (tOp (rIxT K) ta (tC (.int 2))) σ H T d.2.2 := fun H1 e Q q =>
  ha H1 e _ fun x H2 e2 ⟨a, v, w, z, ex, hq, r1, r2, r3⟩ => ⟨a, [v, w, z], 2, z, ex, rfl, hq, rfl, q z H2 e2 r3⟩
/-! built-ins -/
theorem ev_lenT {ds : List α} (h : Ev ta σ H (RT K R) ds) : Ev (tCB (fun xs H Q => ∃ p ys, xs = [.ref p] ∧ (SqL K H p ys ∨ SqT K H p ys) ∧ Q (.int ys.length) H) (tCons ta tNil)) σ H RI (ds.length : Int) := fun H1 e Q q =>
  h H1 e _ fun x H2 e2 ⟨a, xs, ex, hq, pd⟩ => ⟨a, xs, by rw [ex], .inr hq, q _ H2 e2 (by rw [pd.length]; rfl)⟩
theorem ev_lenL {ds : List α} (h : Ev ta σ H (RL K R) ds) : Ev (tCB (fun xs H Q => ∃ p ys, xs = [.ref p] ∧ (SqL K H p ys ∨ SqT K H p ys) ∧ Q (.int ys.length) H) (tCons ta tNil)) σ H RI (ds.length : Int) := fun H1 e Q q =>
  h H1 e _ fun x H2 e2 ⟨a, xs, ex, hq, pd⟩ => ⟨a, xs, by rw [ex], .inl hq, q _ H2 e2 (by rw [pd.length]; rfl)⟩
theorem ev_lenP {d : α × β} (h : Ev ta σ H (RP K R S) d) : Ev (tCB (fun xs H Q => ∃ p ys, xs = [.ref p] ∧ (SqL K H p ys ∨ SqT K H p ys) ∧ Q (.int ys.length) H) (tCons ta tNil)) σ H RI 2 := fun H1 e Q q =>
  h H1 e _ fun x H2 e2 ⟨a, v, w, ex, hq, _⟩ => ⟨a, [v, w], by rw [ex], .inr hq, q _ H2 e2 rfl⟩
theorem ev_lenQ {d : α × β × γ} (h : Ev ta σ H (RQ K R S T) d) : Ev (tCB (fun xs H Q => ∃ p ys, xs = [.ref p] ∧ (SqL K H p ys ∨ SqT K H p ys) ∧ Q (.int ys.length) H) (tCons ta tNil)) σ H RI 3 := fun H1 e Q q =>
  h H1 e _ fun x H2 e2 ⟨a, v, w, z, ex, hq, _⟩ => ⟨a, [v, w, z], by rw [ex], .inr hq, q _ H2 e2 rfl⟩
theorem ev_max2 {a b : Int} (ha : Ev ta σ H RI a) (hb : Ev tb σ H RI b) : Ev (tCB (fun xs H Q => ∃ i j, xs = [.int i, .int j] ∧ Q (.int (if j > i then j else i)) H) (tCons ta (tCons tb tNil))) σ H RI (if b > a then b else a) := fun H1 e Q q =>
  ha H1 e _ fun x H2 e2 r2 => hb H2 (e.trans e2) _ fun y H3 e3 r3 => ⟨a, b, by rw [show x = .int a from r2, show y = .int b from r3], q _ H3 (e2.trans e3) rfl⟩
theorem ev_min2 {a b : Int} (ha : Ev ta σ H RI a) (hb : Ev tb σ H RI b) : Ev (tCB (fun xs H Q => ∃ i j, xs = [.int i, .int j] ∧ Q (.int (if j < i then j else i)) H) (tCons ta (tCons tb tNil))) σ H RI (if b < a then b else a) := fun H1 e Q q =>
  ha H1 e _ fun x H2 e2 r2 => hb H2 (e.trans e2) _ fun y H3 e3 r3 => ⟨a, b, by rw [show x = .int a from r2, show y = .int b from r3], q _ H3 (e2.trans e3) rfl⟩
theorem ev_int1 {a : Int} (ha : Ev ta σ H RI a) : Ev (tCB (fun xs H Q => (∃ i, xs = [.int i] ∧ Q (.int i) H) ∨ ∃ k, xs = [.bl k] ∧ Q (.int (if k then 1 else 0)) H) (tCons ta tNil)) σ H RI a := fun H1 e Q q =>
  ha H1 e _ fun x H2 e2 r2 => .inl ⟨a, by rw [show x = .int a from r2], q _ H2 e2 rfl⟩
theorem en_listT {ds : List α} [Sm R] (h : Ev ta σ H (RT K R) ds) : EvN (tCB (fun xs H Q => ∃ p ys, xs = [.ref p] ∧ (SqL K H p ys ∨ SqT K H p ys) ∧ ∀ l, H l = none → Q (.ref l) (upd H l (.lst ys))) (tCons ta tNil)) σ H R ds := fun H1 e Q q =>
  h H1 e _ fun x H2 e2 ⟨a, xs, ex, hq, pd⟩ => ⟨a, xs, by rw [ex], .inr hq, fun l hl => q l xs _ (same_free e2 hl) (e2.trans (same_new hl)) upd_same (pd.rgM fun _ _ z => Sm.sm (same_new hl) z)⟩
theorem en_listL {ds : List α} [Sm R] (h : Ev ta σ H (RL K R) ds) : EvN (tCB (fun xs H Q => ∃ p ys, xs = [.ref p] ∧ (SqL K H p ys ∨ SqT K H p ys) ∧ ∀ l, H l = none → Q (.ref l) (upd H l (.lst ys))) (tCons ta tNil)) σ H R ds := fun H1 e Q q =>
  h H1 e _ fun x H2 e2 ⟨a, xs, ex, hq, pd⟩ => ⟨a, xs, by rw [ex], .inl hq, fun l hl => q l xs _ (same_free e2 hl) (e2.trans (same_new hl)) upd_same (pd.rgM fun _ _ z => Sm.sm (same_new hl) z)⟩
theorem ev_tupL {ds : List α} [Sm R] (h : Ev ta σ H (RL K R) ds) : Ev (tCB (fun xs H Q => ∃ p ys, xs = [.ref p] ∧ ((SqL K H p ys ∧ ∀ l, H l = none → Q (.ref l) (upd H l (.tup ys))) ∨ (SqT K H p ys ∧ Q (.ref p) H))) (tCons ta tNil)) σ H (RT K R) ds := fun H1 e Q q =>
  h H1 e _ fun x H2 e2 ⟨a, xs, ex, hq, pd⟩ => ⟨a, xs, by rw [ex], .inl ⟨hq, fun l hl => q _ _ (e2.trans (same_new hl)) ⟨l, xs, rfl, SqT.of upd_same, pd.rgM fun _ _ z => Sm.sm (same_new hl) z⟩⟩⟩
theorem ev_all {bs : List Bool} (h : Ev ta σ H (RL K RB) bs) : Ev (tCB (rAll K) (tCons ta tNil)) σ H RB (bs.all id) := fun H1 e Q q =>
  h H1 e _ fun x H2 e2 ⟨a, xs, ex, hq, pd⟩ => ⟨a, bs, by rw [ex], by rw [← pd_rb pd]; exact hq, q _ H2 e2 rfl⟩
theorem ev_any {bs : List Bool} (h : Ev ta σ H (RL K RB) bs) : Ev (tCB (rAny K) (tCons ta tNil)) σ H RB (bs.any id) := fun H1 e Q q =>
  h H1 e _ fun x H2 e2 ⟨a, xs, ex, hq, pd⟩ => ⟨a, bs, by rw [ex], by rw [← pd_rb pd]; exact hq, q _ H2 e2 rfl⟩
/-! isinstance -/
theorem ev_isi {d : α} {n s : String} {b : Bool} (ha : Ev ta σ H R d) (ht : ∀ H v, R H v d → TyX K H v (.type s)) (hk : kitB s n = some b) : Ev (tCB (rIsi K) (tCons ta (tCons (tC (.ty n)) tNil))) σ H RB b := fun H1 e Q q =>
  ha H1 e _ fun x H2 e2 r2 => ⟨x, .ty n, .type s, .type n, b, rfl, .ty n, ht H2 x r2, kit_ty hk, q _ H2 e2 rfl⟩
theorem ty_int {n : Int} (H : Hp) (v : V) (r : RI H v n) : TyX K H v (.type "int") := by cases r; exact .base (.int n)
theorem ty_sqT {H : Hp} {a : Addr} {xs : List V} (h : SqT K H a xs) : TyX K H (.ref a) (.type "tuple") := by
  rcases h with (h | ⟨o, h⟩) | ⟨o, _, _, h, hc, _⟩
  · exact .base (.tup h)
  · exact .fTuple h
  · exact .kTuple h hc
theorem ty_T {ds : List α} (H : Hp) (v : V) (r : RT K R H v ds) : TyX K H v (.type "tuple") := let ⟨a, xs, e, h, _⟩ := r; e ▸ ty_sqT h
theorem ty_P {d : α × β} (H : Hp) (v : V) (r : RP K R S H v d) : TyX K H v (.type "tuple") := let ⟨a, x, y, e, h, _⟩ := r; e ▸ ty_sqT h
theorem ty_Q {d : α × β × γ} (H : Hp) (v : V) (r : RQ K R S T H v d) : TyX K H v (.type "tuple") := let ⟨a, x, y, z, e, h, _⟩ := r; e ▸ ty_sqT h
theorem ev_isInt {n : Int} (ha : Ev ta σ H RI n) : Ev (tCB (rIsi K) (tCons ta (tCons (tC (.ty "int")) tNil))) σ H RB true := ev_isi ha ty_int (by decide +kernel)
theorem ev_isBool {n : Int} (ha : Ev ta σ H RI n) : Ev (tCB (rIsi K) (tCons ta (tCons (tC (.ty "bool")) tNil))) σ H RB false := ev_isi ha ty_int (by decide +kernel)
theorem ev_isTupT {ds : List α} (ha : Ev ta σ H (RT K R) ds) : Ev (tCB (rIsi K) (tCons ta (tCons (tC (.ty "tuple")) tNil))) σ H RB true := ev_isi ha ty_T (by decide +kernel)
theorem ev_isTupP {d : α × β} (ha : Ev ta σ H (RP K R S) d) : Ev (tCB (rIsi K) (tCons ta (tCons (tC (.ty "tuple")) tNil))) σ H RB true := ev_isi ha ty_P (by decide +kernel)
theorem ev_isTupQ {d : α × β × γ} (ha : Ev ta σ H (RQ K R S T) d) : Ev (tCB (rIsi K) (tCons ta (tCons (tC (.ty "tuple")) tNil))) σ H RB true := ev_isi ha ty_Q (by decide +kernel)
/-! lists: +, times, slices -/
theorem en_cat {ds es : List α} [Sm R] (ha : Ev ta σ H (RM R) ds) (hb : Ev tb σ H (RM R) es) (hl : ds.length + es.length ≤ 100000) : EvN (tOp rCat ta tb) σ H R (ds ++ es) := fun H1 e Q q =>
  ha H1 e _ fun x H2 e2 r2 => hb H2 (e.trans e2) _ fun y H3 e3 r3 => by
    obtain ⟨a, xs, rfl, hx, px⟩ := (Sm.sm e3 r2 : RM R H3 x ds)
    obtain ⟨b, ys, rfl, hy, py⟩ := r3
    exact ⟨a, b, xs, ys, rfl, rfl, hx, hy, by rw [px.length, py.length]; exact Nat.le_trans hl (by decide), fun p hp => q p _ _ (same_free (e2.trans e3) hp) ((e2.trans e3).trans (same_new hp)) upd_same (pd_app (px.rgM fun _ _ z => Sm.sm (same_new hp) z) (py.rgM fun _ _ z => Sm.sm (same_new hp) z))⟩
theorem flat_rep {x : α} : ∀ n, (List.replicate n [x]).flatten = List.replicate n x
  | 0 => rfl
  | n + 1 => by rw [List.replicate_succ, List.flatten_cons, flat_rep n]; rfl
theorem en_rep {d : α} {k : Int} [Sm R] (ha : EvN ta σ H R [d]) (hb : Ev tb σ H RI k) (hk : k ≤ 100000) (hk0 : -100000 ≤ k) : EvN (tOp rRep ta tb) σ H R (List.replicate k.toNat d) := fun H1 e Q q =>
  ha H1 e _ fun l xs H2 hl e2 hx px => hb H2 (e.trans e2) _ fun y H3 e3 r3 => by
    cases px with
    | cons r0 r1 =>
      cases r1
      refine ⟨l, k, _, rfl, r3, e3 _ _ hx, by omega, by omega, ?_, fun p hp => q p _ _ (same_free (e2.trans e3) hp) ((e2.trans e3).trans (same_new hp)) upd_same ?_⟩
      · show 1 * k.toNat ≤ sizeLine
        exact Nat.le_trans (show 1 * k.toNat ≤ 100000 by omega) (by decide)
      · rw [flat_rep]
        exact pd_rep (Sm.sm (e3.trans (same_new hp)) r0) _
theorem cut_take (xs : List V) (n : Nat) : cutV xs none (some (n : Int)) = xs.take n := by
  unfold cutV
  rw [HT.sIx_none, HT.sIx_nat]
  show (xs.drop 0).take (min n xs.length - 0) = _
  rw [List.drop_zero, Nat.sub_zero]
  exact (List.take_eq_take_min).symm
theorem cut_drop1 (xs : List V) : cutV xs (some 1) none = xs.drop 1 := by
  unfold cutV
  rw [show HT.sIx xs.length 0 (some 1) = min 1 xs.length from HT.sIx_nat xs.length 0 1, HT.sIx_none]
  cases xs with
  | nil => rfl
  | cons x r =>
    rw [show min 1 (x :: r).length = 1 by rw [List.length_cons]; omega]
    show (List.take ((x :: r).length - 1) r) = r
    rw [List.length_cons, Nat.add_sub_cancel]
    exact List.take_length
theorem en_sliceTo {ds : List α} {n : Nat} [Sm R] (ha : Ev ta σ H (RL K R) ds) (hb : Ev tb σ H RI (n : Int)) : EvN (tSl (rSlL K) ta tNoPart (tPart tb)) σ H R (ds.take n) := fun H1 e Q q =>
  ha H1 e _ fun x H2 e2 r2 => hb H2 (e.trans e2) _ fun y H3 e3 r3 => by
    obtain ⟨a, xs, rfl, hx, px⟩ := (Sm.sm e3 r2 : RL K R H3 x ds)
    refine ⟨(n : Int), r3, a, xs, rfl, hx, fun p hp => q p _ _ (same_free (e2.trans e3) hp) ((e2.trans e3).trans (same_new hp)) upd_same ?_⟩
    rw [cut_take]
    exact pd_take n (px.rgM fun _ _ z => Sm.sm (same_new hp) z)
/-- t[1:] -/
theorem ev_tail {ds : List α} [Sm R] (ha : Ev ta σ H (RT K R) ds) : Ev (tSl (rSlA K) ta (tPart (tC (.int 1))) tNoPart) σ H (RT K R) (ds.drop 1) := fun H1 e Q q =>
  ha H1 e _ fun x H2 e2 ⟨a, xs, ex, hx, px⟩ => ⟨1, rfl, a, xs, ex, hx, fun h => by
      refine q _ H2 e2 ⟨a, xs, rfl, hx, ?_⟩
      have h1 := h.1
      rw [show HT.sIx xs.length 0 (some 1) = min 1 xs.length from HT.sIx_nat xs.length 0 1] at h1
      cases px with
      | nil => exact .nil
      | cons _ _ => rw [List.length_cons] at h1; omega, fun _ p hp => by
      refine q _ _ (e2.trans (same_new hp)) ⟨p, _, rfl, SqT.of upd_same, ?_⟩
      rw [cut_drop1]
      exact pd_drop 1 (px.rgM fun _ _ z => Sm.sm (same_new hp) z)⟩
/-- t + u -/
theorem ev_catT {ds es : List α} [Sm R] (ha : Ev ta σ H (RT K R) ds) (hb : Ev tb σ H (RT K R) es) (hl : ds.length + es.length ≤ 100000) : Ev (tOp (rCatA K) ta tb) σ H (RT K R) (ds ++ es) := fun H1 e Q q =>
  ha H1 e _ fun x H2 e2 r2 => hb H2 (e.trans e2) _ fun y H3 e3 r3 => by
    obtain ⟨a, xs, rfl, hx, px⟩ := (Sm.sm e3 r2 : RT K R H3 x ds)
    obtain ⟨b, ys, rfl, hy, py⟩ := r3
    refine ⟨a, b, xs, ys, rfl, rfl, hx, hy, by rw [px.length, py.length]; exact Nat.le_trans hl (by decide), fun h0 => ?_, fun _ h1 => ?_, fun _ _ p hp => ?_⟩
    · subst h0
      cases px
      exact q _ H3 (e2.trans e3) ⟨b, ys, rfl, hy, py⟩
    · subst h1
      cases py
      rw [List.append_nil] at q
      exact q _ H3 (e2.trans e3) ⟨a, xs, rfl, hx, px⟩
    · exact q _ _ ((e2.trans e3).trans (same_new hp)) ⟨p, _, rfl, SqT.of upd_same, pd_app (px.rgM fun _ _ z => Sm.sm (same_new hp) z) (py.rgM fun _ _ z => Sm.sm (same_new hp) z)⟩
/-- (a, b) + (c,) -/
theorem ev_cat21 {d : α × β} {c : γ} [Sm R] [Sm S] [Sm T] (ha : Ev ta σ H (RP K R S) d) (hb : Ev tb σ H (RT K T) [c]) : Ev (tOp (rCatA K) ta tb) σ H (RQ K R S T) (d.1, d.2, c) := fun H1 e Q q =>
  ha H1 e _ fun x H2 e2 ⟨a, v, w, ex, hx, r1, r2⟩ => hb H2 (e.trans e2) _ fun y H3 e3 ⟨b, ys, ey, hy, py⟩ => by
    cases py with
    | cons r0 rr =>
      cases rr
      refine ⟨a, b, [v, w], _, ex, ey, sqT_tk (Tk.of e3) hx, hy, by show 3 ≤ sizeLine; decide, fun h0 => (nomatch h0), fun _ h1 => (nomatch h1), fun _ _ p hp => ?_⟩
      exact q _ _ ((e2.trans e3).trans (same_new hp)) ⟨p, v, w, _, rfl, SqT.of upd_same, Sm.sm (e3.trans (same_new hp)) r1, Sm.sm (e3.trans (same_new hp)) r2, Sm.sm (same_new hp) r0⟩
end
end Rg
end
section
set_option Elab.async false
set_option linter.all false
set_option maxRecDepth 100000
/-! Walks, comprehensions, loops, statements, calls over Rep. -/
namespace Rg
open PySem PySem.Spec PyProof.Rows L2 RZ

theorem ir_len (n : Nat) : (ir n).length = n := by unfold ir; rw [List.length_map, List.length_range]
theorem irD_len (n : Nat) : (irD n).length = n := by unfold irD; rw [List.length_map, List.length_range]
theorem ir_get {n i : Nat} (h : i < n) : (ir n)[i]? = some (i : Int) := by unfold ir; rw [List.getElem?_map, List.getElem?_range h]; rfl
theorem irD_get {n i : Nat} (h : i < n) : (irD n)[i]? = some ((n : Int) - 1 - (i : Int)) := by unfold irD; rw [List.getElem?_map, List.getElem?_range h]; rfl
theorem en_len {α : Type} : ∀ (k : Nat) (l : List α), (en k l).length = l.length
  | _, [] => rfl
  | k, _ :: r => by unfold en; rw [List.length_cons, List.length_cons, en_len]
theorem en_get {α : Type} : ∀ (k : Nat) (l : List α) (i : Nat), (en k l)[i]? = l[i]?.map fun x => (((k + i : Nat) : Int), x)
  | _, [], _ => rfl
  | k, x :: r, 0 => rfl
  | k, x :: r, i + 1 => by
    show (en (k + 1) r)[i]? = (r[i]?).map _
    rw [en_get (k + 1) r i, show k + 1 + i = k + (i + 1) by omega]
theorem mem_ir {n : Nat} {d : Int} (h : d ∈ ir n) : 0 ≤ d ∧ d < n := by
  obtain ⟨i, hi, rfl⟩ := List.mem_map.mp h
  have := List.mem_range.mp hi
  omega
theorem mem_irD {n : Nat} {d : Int} (h : d ∈ irD n) : 0 ≤ d ∧ d < n := by
  obtain ⟨i, hi, rfl⟩ := List.mem_map.mp h
  have := List.mem_range.mp hi
  omega
theorem mem_en {α : Type} {l : List α} {d : Int × α} {k : Nat} (h : d ∈ en k l) : ∃ i : Nat, i < l.length ∧ l[i]? = some d.2 ∧ d.1 = ((k + i : Nat) : Int) := by
  obtain ⟨i, hi⟩ := List.getElem?_of_mem h
  rw [en_get] at hi
  cases e : l[i]? with
  | none => rw [e] at hi; cases hi
  | some x =>
    rw [e] at hi
    cases hi
    exact ⟨i, (List.getElem?_eq_some_iff.mp e).1, e, rfl⟩

section
variable {α β γ δ : Type} {K : PySem.W.Frag} {σ : L2.St} {H H' : Hp} {ta tb te tx tl tr : TE} {t tt : TT} {R : Rep α} {S : Rep β} {T : Rep γ}

/-! ### walks -/
def WalkR (J : It) (G : Hp → Prop) (R : Rep α) (ds : List α) : Prop := Walk J ds.length G (fun i H x H' => Same H H' ∧ ∃ d, ds[i]? = some d ∧ R H' x d)
def Src (wi : TI) (σ : L2.St) (H : Hp) (G : Hp → Hp → Prop) (R : Rep α) (ds : List α) : Prop := ∀ H1, Same H H1 → ∀ F : It → Hp → Prop, (∀ J H2, Same H1 H2 → WalkR J (G H2) R ds → F J H2) → wi σ H1 F
theorem Src.same {wi : TI} {ds : List α} (h : Src wi σ H Tk R ds) : Src wi σ H Same R ds := fun H1 e F f => h H1 e F fun J H2 e2 w => f J H2 e2 (w.mono (fun _ q => Tk.of q) fun _ _ _ _ _ _ y => y)
theorem Src.mono {wi : TI} {G : Hp → Hp → Prop} {ds : List α} (e : Same H H') (h : Src wi σ H G R ds) : Src wi σ H' G R ds := fun H1 a F f => h H1 (e.trans a) F f
theorem src_tup {ds : List α} [Tm R] (h : Ev tl σ H (RT K R) ds) : Src (iTup K tl) σ H Tk R ds := fun H1 e F f => h H1 e _ fun x H2 e2 ⟨a, xs, ex, hq, pd⟩ =>
  ⟨a, ex, ⟨xs, hq⟩, f _ H2 e2 (by
    show Walk _ _ _ _
    rw [← pd.length]
    refine walk_tup.mono (fun H3 q => sqT_tk q hq) fun i H3 x H4 hi q y => ?_
    obtain ⟨rfl, hx⟩ := y
    obtain ⟨d, hd, r⟩ := pd_get' pd hx
    exact ⟨Same.refl _, d, hd, Tm.tk q r⟩)⟩
theorem src_list {ds : List α} [Sm R] (h : Ev tl σ H (RL K R) ds) : Src (iList K tl) σ H Same R ds := fun H1 e F f => h H1 e _ fun x H2 e2 ⟨a, xs, ex, hq, pd⟩ =>
  ⟨a, ex, ⟨xs, hq⟩, f _ H2 e2 (by
    show Walk _ _ _ _
    rw [← pd.length]
    refine walk_list.mono (fun H3 q => q.seq hq) fun i H3 x H4 hi q y => ?_
    obtain ⟨rfl, hx⟩ := y
    obtain ⟨d, hd, r⟩ := pd_get' pd hx
    exact ⟨Same.refl _, d, hd, Sm.sm q r⟩)⟩
theorem src_r1 {n : Int} (h : Ev ta σ H RI n) (hn : n ≤ 100000) (hn0 : -100000 ≤ n) : Src (iRng1 (tCons ta tNil)) σ H Tk RI (ir n.toNat) := fun H1 e F f => h H1 e _ fun x H2 e2 r => by
  cases r
  refine ⟨n, rfl, by omega, by omega, f _ H2 e2 ?_⟩
  show Walk _ _ _ _
  rw [ir_len]
  refine walk_range.mono (fun _ _ => trivial) fun i H3 x H4 hi q y => ?_
  obtain ⟨rfl, rfl⟩ := y
  refine ⟨Same.refl _, (i : Int), ir_get hi, ?_⟩
  show V.int (0 + (i : Int)) = .int i
  rw [Int.zero_add]
theorem src_r3 {n : Nat} (ha : Ev ta σ H RI ((n : Int) - 1)) (hb : Ev tb σ H RI (-1)) (hc : Ev tr σ H RI (-1)) (hn : n ≤ 100000) : Src (iRng3 (tCons ta (tCons tb (tCons tr tNil)))) σ H Tk RI (irD n) := fun H1 e F f =>
  ha H1 e _ fun x H2 e2 r2 => hb H2 (e.trans e2) _ fun y H3 e3 r3 => hc H3 ((e.trans e2).trans e3) _ fun z H4 e4 r4 => by
    cases r2; cases r3; cases r4
    refine ⟨(n : Int) - 1, -1, -1, n, rfl, ?_, f _ H4 ((e2.trans e3).trans e4) ?_⟩
    · have z := RgC.neg (i := (n : Int) - 1) (j := -1) (by omega) (by omega) (by omega) (by omega)
      rwa [show ((n : Int) - 1 - -1).toNat = n by omega] at z
    · show Walk _ _ _ _
      rw [irD_len]
      refine walk_rangeC.mono (fun _ _ => trivial) fun i H3 x H4 hi q y => ?_
      obtain ⟨rfl, rfl⟩ := y
      refine ⟨Same.refl _, _, irD_get hi, ?_⟩
      show V.int ((n : Int) - 1 + (i : Int) * (-1)) = .int ((n : Int) - 1 - (i : Int))
      congr 1
      omega
theorem walk_zipT {a b : Addr} {xs ys : List V} {n : Nat} (hn : n = min xs.length ys.length) : Walk (ItzT K a b) n (fun H => SqT K H a xs ∧ SqT K H b ys) (YPair (fun i => xs[i]?) (fun i => ys[i]?)) := by
  subst hn
  refine ⟨fun i _ hi q => ?_, fun _ q => ⟨xs, ys, q.1, q.2, by omega⟩, fun i H v H' _ q y => ?_⟩
  · have h1 : i < xs.length := by omega
    have h2 : i < ys.length := by omega
    exact ⟨xs, ys, xs[i], ys[i], q.1, q.2, by simp [h1], by simp [h2]⟩
  · obtain ⟨T, x, z, h1, h2, h3, h4, h5⟩ := y
    exact ⟨T, x, z, h1, h2, h3, h4 xs q.1, h5 ys q.2⟩
theorem zip_get {as : List α} {bs : List β} {i : Nat} {a : α} {b : β} (ha : as[i]? = some a) (hb : bs[i]? = some b) : (as.zip bs)[i]? = some (a, b) := by
  rw [List.getElem?_zip_eq_some]
  exact ⟨ha, hb⟩
theorem src_zipT {as : List α} {bs : List β} [Tm R] [Tm S] (ha : Ev ta σ H (RT K R) as) (hb : Ev tb σ H (RT K S) bs) : Src (iZipA K (tCons ta (tCons tb tNil))) σ H Tk (RP K R S) (as.zip bs) := fun H1 e F f =>
  ha H1 e _ fun x H2 e2 r2 => hb H2 (e.trans e2) _ fun y H3 e3 ⟨b, ys, ey, hy, py⟩ => by
    obtain ⟨a, xs, ex, hx, px⟩ := (Sm.sm e3 r2 : RT K R H3 x as)
    refine ⟨a, b, xs, ys, by rw [ex, ey], .inr ⟨hx, hy, f _ H3 (e2.trans e3) ?_⟩⟩
    show Walk _ _ _ _
    refine (walk_zipT (K := K) (a := a) (b := b) (xs := xs) (ys := ys) (n := (as.zip bs).length) (by rw [List.length_zip, px.length, py.length])).mono (fun H4 q => ⟨sqT_tk q hx, sqT_tk q hy⟩) fun i H4 v H5 hi q y => ?_
    obtain ⟨T, x, z, rfl, hT, rfl, h1, h2⟩ := y
    obtain ⟨d1, hd1, r1⟩ := pd_get' px h1
    obtain ⟨d2, hd2, r2⟩ := pd_get' py h2
    have q2 := q.trans (Tk.of (same_new (o := .tup [x, z]) hT))
    exact ⟨same_new hT, (d1, d2), zip_get hd1 hd2, T, x, z, rfl, SqT.of upd_same, Tm.tk q2 r1, Tm.tk q2 r2⟩
theorem src_zipL {as : List α} {bs : List β} [Sm R] [Sm S] (ha : Ev ta σ H (RL K R) as) (hb : Ev tb σ H (RL K S) bs) : Src (iZipA K (tCons ta (tCons tb tNil))) σ H Same (RP K R S) (as.zip bs) := fun H1 e F f =>
  ha H1 e _ fun x H2 e2 r2 => hb H2 (e.trans e2) _ fun y H3 e3 ⟨b, ys, ey, hy, py⟩ => by
    obtain ⟨a, xs, ex, hx, px⟩ := (Sm.sm e3 r2 : RL K R H3 x as)
    refine ⟨a, b, xs, ys, by rw [ex, ey], .inl ⟨hx, hy, f _ H3 (e2.trans e3) ?_⟩⟩
    show Walk _ _ _ _
    refine (walk_zip (K := K) (a := a) (b := b) (xs := xs) (ys := ys) (n := (as.zip bs).length) (by rw [List.length_zip, px.length, py.length])).mono (fun H4 q => ⟨q.seq hx, q.seq hy⟩) fun i H4 v H5 hi q y => ?_
    obtain ⟨T, x, z, rfl, hT, rfl, h1, h2⟩ := y
    obtain ⟨d1, hd1, r1⟩ := pd_get' px h1
    obtain ⟨d2, hd2, r2⟩ := pd_get' py h2
    have q2 := q.trans (same_new (o := .tup [x, z]) hT)
    exact ⟨same_new hT, (d1, d2), zip_get hd1 hd2, T, x, z, rfl, SqT.of upd_same, Sm.sm q2 r1, Sm.sm q2 r2⟩

/-! ### targets -/
theorem g2 {i j : Nat} {x : V} {d : α × β} {Q : L2.St → Hp → Prop} (r : RP K R S H x d) (k : ∀ v w, R H v d.1 → S H w d.2 → Q ((σ.set i (some v)).set j (some w)) H) : gTup K 2 (gCons (gName i) (gCons (gName j) gNil)) x σ H Q := by
  obtain ⟨a, v, w, ex, hq, r1, r2⟩ := r
  exact ⟨a, [v, w], ex, hq, rfl, v, [w], rfl, w, [], rfl, rfl, k v w r1 r2⟩
theorem g3 {i j l : Nat} {x : V} {d : α × β × γ} {Q : L2.St → Hp → Prop} (r : RQ K R S T H x d) (k : ∀ v w z, R H v d.1 → S H w d.2.1 → T H z d.2.2 → Q (((σ.set i (some v)).set j (some w)).set l (some z)) H) :
    gTup K 3 (gCons (gName i) (gCons (gName j) (gCons (gName l) gNil))) x σ H Q := by
  obtain ⟨a, v, w, z, ex, hq, r1, r2, r3⟩ := r
  exact ⟨a, [v, w, z], ex, hq, rfl, v, [w, z], rfl, w, [z], rfl, z, [], rfl, rfl, k v w z r1 r2 r3⟩

/-! ### comprehensions -/
theorem en_lc {wi : TI} {g : TG} {vs : List Nat} {ds : List α} (f : α → Bool) (m : α → β) [Tm S] (hs : Src wi σ H Same R ds) (hl : ds.length ≤ 100000)
    (B : V → α → Hp → L2.St → Prop) (hb : ∀ x d H' (Q : L2.St → Hp → Prop), R H' x d → (∀ σ2, B x d H' σ2 → Q σ2 H') → g x (wipe σ vs) H' Q)
    (hstep : ∀ d x H' σ2, d ∈ ds → Same H H' → B x d H' σ2 → wipe σ2 vs = wipe σ vs ∧ EvT tt σ2 H' (f d) ∧ (f d = true → Ev te σ2 H' S (m d))) :
    EvN (tLc wi g tt te vs) σ H S ((ds.filter f).map m) := fun H1 e Q q => hs H1 e _ fun J H2 e2 w D hD => by
  refine lc_it (Qd := fun H3 => Q (.ref D) H3) w (fun i H3 => Same H2 H3 ∧ ∃ xs, H3 D = some (.lst xs) ∧ Paired (S H3) xs (((ds.take i).filter f).map m)) ⟨same_new hD, [], upd_same, by rw [List.take_zero]; exact .nil⟩ (fun i H3 hi p => p.1) ?_ ?_
  · rintro i x H3 H4 hi ⟨p1, acc, p2, p3⟩ ⟨e4, d, hd, r⟩
    refine hb x d H4 _ r fun σ2 hB => ?_
    obtain ⟨s1, s2, s3⟩ := hstep d x H4 σ2 (List.mem_of_getElem? hd) (((e.trans e2).trans p1).trans e4) hB
    refine ⟨s1, s2 H4 (Same.refl _) _ fun H5 e5 => ?_⟩
    have ht : ds.take (i + 1) = ds.take i ++ [d] := by rw [List.take_add_one, hd]; rfl
    cases hf : f d with
    | true =>
      refine s3 hf H5 e5 _ fun y H6 e6 r6 => ?_
      have hD6 : H6 D = some (.lst acc) := e6 _ _ (e5 _ _ (e4 _ _ p2))
      have al : acc.length ≤ 100000 := by
        rw [p3.length, List.length_map]
        have := List.length_filter_le f (ds.take i)
        rw [List.length_take] at this
        omega
      have e36 := (e4.trans e5).trans e6
      refine ⟨acc, hD6, Nat.lt_of_le_of_lt al (by decide), same_mut (p1.trans e36) hD, _, upd_same, ?_⟩
      have tk : Tk H6 (upd H6 D (.lst (acc ++ [y]))) := (Tk.refl H6).upd (noT_lst hD6)
      rw [ht, List.filter_append, List.map_append, List.filter_cons, if_pos hf]
      exact pd_app (p3.rgM fun _ _ z => Tm.tk tk (Sm.sm e36 z)) (.cons (Tm.tk tk r6) .nil)
    | false =>
      refine ⟨p1.trans (e4.trans e5), acc, e5 _ _ (e4 _ _ p2), ?_⟩
      rw [ht, List.filter_append, List.map_append, List.filter_cons, if_neg (by rw [hf]; decide)]
      show Paired _ _ (_ ++ [])
      rw [List.append_nil]
      exact p3.rgM fun _ _ z => Sm.sm (e4.trans e5) z
  · rintro H3 ⟨p1, acc, p2, p3⟩
    rw [List.take_length] at p3
    exact q D acc H3 (same_free e2 hD) (e2.trans p1) p2 p3
/-- the target is a name -/
theorem en_lc1 {wi : TI} {j : Nat} {vs : List Nat} {ds : List α} (f : α → Bool) (m : α → β) [Tm S] (hs : Src wi σ H Same R ds) (hl : ds.length ≤ 100000)
    (hstep : ∀ d v H', d ∈ ds → Same H H' → R H' v d → wipe ((wipe σ vs).set j (some v)) vs = wipe σ vs ∧ EvT tt ((wipe σ vs).set j (some v)) H' (f d) ∧ (f d = true → Ev te ((wipe σ vs).set j (some v)) H' S (m d))) :
    EvN (tLc wi (gName j) tt te vs) σ H S ((ds.filter f).map m) :=
  en_lc f m hs hl (fun x d H' σ2 => R H' x d ∧ σ2 = (wipe σ vs).set j (some x)) (fun x d H' Q r k => k _ ⟨r, rfl⟩) fun d x H' σ2 hd e ⟨r, es⟩ => by subst es; exact hstep d x H' hd e r
theorem en_lm1 {wi : TI} {j : Nat} {vs : List Nat} {ds : List α} (m : α → β) [Tm S] (hs : Src wi σ H Same R ds) (hl : ds.length ≤ 100000)
    (hstep : ∀ d v H', d ∈ ds → Same H H' → R H' v d → wipe ((wipe σ vs).set j (some v)) vs = wipe σ vs ∧ Ev te ((wipe σ vs).set j (some v)) H' S (m d)) :
    EvN (tLc wi (gName j) tYes te vs) σ H S (ds.map m) := by
  have h := en_lc1 (tt := tYes) (te := te) (j := j) (vs := vs) (fun _ => true) m hs hl fun d v H' hd e r => ⟨(hstep d v H' hd e r).1, et_yes, fun _ => (hstep d v H' hd e r).2⟩
  rwa [List.filter_eq_self.mpr fun _ _ => rfl] at h
theorem en_lc2 {wi : TI} {i j : Nat} {vs : List Nat} {ds : List (α × β)} (f : α × β → Bool) (m : α × β → γ) [Tm T] (hs : Src wi σ H Same (RP K R S) ds) (hl : ds.length ≤ 100000)
    (hstep : ∀ a b v w H', (a, b) ∈ ds → Same H H' → R H' v a → S H' w b → wipe (((wipe σ vs).set i (some v)).set j (some w)) vs = wipe σ vs ∧ EvT tt (((wipe σ vs).set i (some v)).set j (some w)) H' (f (a, b)) ∧ (f (a, b) = true → Ev te (((wipe σ vs).set i (some v)).set j (some w)) H' T (m (a, b)))) :
    EvN (tLc wi (gTup K 2 (gCons (gName i) (gCons (gName j) gNil))) tt te vs) σ H T ((ds.filter f).map m) :=
  en_lc f m hs hl (fun x d H' σ2 => ∃ v w, R H' v d.1 ∧ S H' w d.2 ∧ σ2 = ((wipe σ vs).set i (some v)).set j (some w)) (fun x d H' Q r k => g2 r fun v w r1 r2 => k _ ⟨v, w, r1, r2, rfl⟩)
    fun d x H' σ2 hd e ⟨v, w, r1, r2, es⟩ => by subst es; exact hstep d.1 d.2 v w H' hd e r1 r2
theorem en_lm2 {wi : TI} {i j : Nat} {vs : List Nat} {ds : List (α × β)} (m : α × β → γ) [Tm T] (hs : Src wi σ H Same (RP K R S) ds) (hl : ds.length ≤ 100000)
    (hstep : ∀ a b v w H', (a, b) ∈ ds → Same H H' → R H' v a → S H' w b → wipe (((wipe σ vs).set i (some v)).set j (some w)) vs = wipe σ vs ∧ Ev te (((wipe σ vs).set i (some v)).set j (some w)) H' T (m (a, b))) :
    EvN (tLc wi (gTup K 2 (gCons (gName i) (gCons (gName j) gNil))) tYes te vs) σ H T (ds.map m) := by
  have h := en_lc2 (tt := tYes) (te := te) (i := i) (j := j) (vs := vs) (fun _ => true) m hs hl fun a b v w H' hd e r1 r2 => ⟨(hstep a b v w H' hd e r1 r2).1, et_yes, fun _ => (hstep a b v w H' hd e r1 r2).2⟩
  rwa [List.filter_eq_self.mpr fun _ _ => rfl] at h
theorem en_lm3 {δ : Type} {U : Rep δ} {wi : TI} {i j l : Nat} {vs : List Nat} {ds : List (α × β × γ)} (m : α × β × γ → δ) [Tm U] (hs : Src wi σ H Same (RQ K R S T) ds) (hl : ds.length ≤ 100000)
    (hstep : ∀ a b c v w z H', (a, b, c) ∈ ds → Same H H' → R H' v a → S H' w b → T H' z c → wipe ((((wipe σ vs).set i (some v)).set j (some w)).set l (some z)) vs = wipe σ vs ∧ Ev te ((((wipe σ vs).set i (some v)).set j (some w)).set l (some z)) H' U (m (a, b, c))) :
    EvN (tLc wi (gTup K 3 (gCons (gName i) (gCons (gName j) (gCons (gName l) gNil)))) tYes te vs) σ H U (ds.map m) := by
  have h := en_lc (tt := tYes) (te := te) (g := gTup K 3 (gCons (gName i) (gCons (gName j) (gCons (gName l) gNil)))) (vs := vs) (fun _ => true) m hs hl
    (fun x d H' σ2 => ∃ v w z, R H' v d.1 ∧ S H' w d.2.1 ∧ T H' z d.2.2 ∧ σ2 = (((wipe σ vs).set i (some v)).set j (some w)).set l (some z)) (fun x d H' Q r k => g3 r fun v w z r1 r2 r3 => k _ ⟨v, w, z, r1, r2, r3, rfl⟩)
    fun d x H' σ2 hd e ⟨v, w, z, r1, r2, r3, es⟩ => by
      subst es
      have q := hstep d.1 d.2.1 d.2.2 v w z H' hd e r1 r2 r3
      exact ⟨q.1, et_yes, fun _ => q.2⟩
  rwa [List.filter_eq_self.mpr fun _ _ => rfl] at h

/-! ### statements -/
variable {D : Ends} {tu tw tz : TS}
theorem s_set {i : Nat} {d : α} (h : Ev te σ H R d) (k : ∀ v H1, Same H H1 → R H1 v d → tz D (σ.set i (some v)) H1) : tSeq (tAsg te (gName i)) tz D σ H := h H (Same.refl H) _ fun v H1 e r => k v H1 e r
theorem s_setN {i : Nat} {ds : List α} (h : EvN te σ H R ds) (k : ∀ p xs H1, H p = none → Same H H1 → H1 p = some (.lst xs) → Paired (R H1) xs ds → tz D (σ.set i (some (.ref p))) H1) : tSeq (tAsg te (gName i)) tz D σ H :=
  h H (Same.refl H) _ fun p xs H1 hp e hx px => k p xs H1 hp e hx px
/-- the last statement of a block -/
theorem e_set {i : Nat} {d : α} (h : Ev te σ H R d) (k : ∀ v H1, Same H H1 → R H1 v d → D.nx (σ.set i (some v)) H1) : tAsg te (gName i) D σ H := h H (Same.refl H) _ fun v H1 e r => k v H1 e r
theorem s_ret {d : α} (h : Ev te σ H R d) (k : ∀ v H1, Same H H1 → R H1 v d → D.rt v H1) : tRet te D σ H := h H (Same.refl H) _ k
theorem s_drop {d : α} (h : Ev te σ H R d) (k : ∀ H1, Same H H1 → tz D σ H1) : tSeq (tDrop te) tz D σ H := h H (Same.refl H) _ fun v H1 e r => k H1 e
theorem e_if {b : Bool} (h : EvT t σ H b) (h1 : b = true → ∀ H1, Same H H1 → tu D σ H1) (h2 : b = false → ∀ H1, Same H H1 → tw D σ H1) : tIfS t tu tw D σ H := h H (Same.refl H) _ fun H1 e => by
  cases b with
  | true => exact h1 rfl H1 e
  | false => exact h2 rfl H1 e
theorem s_if {b : Bool} (h : EvT t σ H b) (h1 : b = true → ∀ H1, Same H H1 → tu { D with nx := tz D } σ H1) (h2 : b = false → ∀ H1, Same H H1 → tw { D with nx := tz D } σ H1) : tSeq (tIfS t tu tw) tz D σ H := e_if (D := { D with nx := tz D }) h h1 h2
/-- an if that is not taken -/
theorem s_no (h : EvT t σ H false) (k : ∀ H1, Same H H1 → tz D σ H1) : tSeq (tIfS t tu tNext) tz D σ H := s_if h (fun q => nomatch q) fun _ H1 e => k H1 e
theorem e_no (h : EvT t σ H false) (k : ∀ H1, Same H H1 → D.nx σ H1) : tIfS t tu tNext D σ H := e_if h (fun q => nomatch q) fun _ H1 e => k H1 e
theorem s_par {i j : Nat} {a : α} {b : β} [Sm R] (ha : Ev ta σ H R a) (hb : Ev tb σ H S b) (k : ∀ v w H1, Same H H1 → R H1 v a → S H1 w b → tz D ((σ.set i (some v)).set j (some w)) H1) : tSeq (tPar i j (tCons ta (tCons tb tNil))) tz D σ H :=
  ha H (Same.refl H) _ fun v H1 e1 r1 => hb H1 e1 _ fun w H2 e2 r2 => ⟨v, w, rfl, k v w H2 (e1.trans e2) (Sm.sm e2 r1) r2⟩
theorem e_par {i j : Nat} {a : α} {b : β} [Sm R] (ha : Ev ta σ H R a) (hb : Ev tb σ H S b) (k : ∀ v w H1, Same H H1 → R H1 v a → S H1 w b → D.nx ((σ.set i (some v)).set j (some w)) H1) : tPar i j (tCons ta (tCons tb tNil)) D σ H :=
  ha H (Same.refl H) _ fun v H1 e1 r1 => hb H1 e1 _ fun w H2 e2 r2 => ⟨v, w, rfl, k v w H2 (e1.trans e2) (Sm.sm e2 r1) r2⟩
theorem s_unp2 {i j : Nat} {d : α × β} (h : Ev te σ H (RP K R S) d) (k : ∀ v w H1, Same H H1 → R H1 v d.1 → S H1 w d.2 → tz D ((σ.set i (some v)).set j (some w)) H1) : tSeq (tAsg te (gTup K 2 (gCons (gName i) (gCons (gName j) gNil)))) tz D σ H :=
  h H (Same.refl H) _ fun x H1 e r => g2 r fun v w r1 r2 => k v w H1 e r1 r2
/-- xs[i] = v -/
theorem e_put {i : Nat} {l : Addr} {xs : List V} {j : Int} {d : α} [Sm R] (hl : H l = some (.lst xs)) (h : Ev te σ H R d) (ho : σ[i]? = some (some (.ref l))) (hi : Ev tb σ H RI j) (hj0 : 0 ≤ j) (hj : j < xs.length)
    (k : ∀ v H1, Same H H1 → R H1 v d → D.nx σ (upd H1 l (.lst (xs.set j.toNat v)))) : tAsg te (gSub (tVar i) tb rSetL) D σ H := h H (Same.refl H) _ fun v H1 e r =>
  ⟨_, ho, hi H1 e _ fun y H2 e2 r2 => ⟨l, xs, j, j.toNat, rfl, r2, e2 _ _ (e _ _ hl), by unfold ixN; rw [if_pos hj0, if_pos hj], k v H2 (e.trans e2) (Sm.sm e2 r)⟩⟩
theorem s_put {i : Nat} {l : Addr} {xs : List V} {j : Int} {d : α} [Sm R] (hl : H l = some (.lst xs)) (h : Ev te σ H R d) (ho : σ[i]? = some (some (.ref l))) (hi : Ev tb σ H RI j) (hj0 : 0 ≤ j) (hj : j < xs.length)
    (k : ∀ v H1, Same H H1 → R H1 v d → tz D σ (upd H1 l (.lst (xs.set j.toNat v)))) : tSeq (tAsg te (gSub (tVar i) tb rSetL)) tz D σ H := e_put (D := { D with nx := tz D }) hl h ho hi hj0 hj k
/-- xs.append(v) -/
theorem e_app {i : Nat} {l : Addr} {xs : List V} {d : α} [Sm R] (hl : H l = some (.lst xs)) (h : Ev te σ H R d) (ho : σ[i]? = some (some (.ref l))) (hz : xs.length ≤ 100000)
    (k : ∀ v H1, Same H H1 → R H1 v d → D.nx σ (upd H1 l (.lst (xs ++ [v])))) : tDrop (tBM K "list" rAppend (tVar i) (tCons te tNil)) D σ H :=
  ⟨_, ho, .inl ⟨rfl, _, .inl (.inl hl)⟩, h H (Same.refl H) _ fun v H1 e r => ⟨l, xs, v, rfl, rfl, e _ _ hl, Nat.lt_of_le_of_lt hz (by decide), k v H1 e r⟩⟩
/-! loops -/
theorem s_for {wi : TI} {g : TG} {G : Hp → Hp → Prop} {ds : List α} (hs : Src wi σ H G R ds) (hG : ∀ H, G H H)
    (k : ∀ H1, Same H H1 → ∃ I : Nat → L2.St → Hp → Prop, I 0 σ H1 ∧ (∀ i d x σ' H' H'', ds[i]? = some d → G H1 H' → I i σ' H' → Same H' H'' → R H'' x d →
        g x σ' H'' fun σ2 H2 => tu { D with nx := fun σ3 H3 => G H1 H3 ∧ I (i + 1) σ3 H3, ct := fun σ3 H3 => G H1 H3 ∧ I (i + 1) σ3 H3, bk := tz D } σ2 H2) ∧ (∀ σ' H', G H1 H' → I ds.length σ' H' → tz D σ' H')) :
    tSeq (tFor wi g tu) tz D σ H := hs H (Same.refl H) _ fun J H1 e w => by
  obtain ⟨I, h0, hst, hd⟩ := k H1 e
  refine for_it (D := { D with nx := tz D }) w (fun i σ' H' => G H1 H' ∧ I i σ' H') ⟨hG H1, h0⟩ (fun i σ' H' _ p => p.1) (fun i x σ' H' H'' hi p y => ?_) fun σ' H' p => hd σ' H' p.1 p.2
  obtain ⟨ey, d, hd', r⟩ := y
  exact hst i d x σ' H' H'' hd' p.1 p.2 ey r
/-- by a fold -/
theorem s_fold {wi : TI} {g : TG} {G : Hp → Hp → Prop} {ds : List α} (f : β → α → β) (s0 : β) (hs : Src wi σ H G R ds) (hG : ∀ H, G H H)
    (k : ∀ H1, Same H H1 → ∃ I : β → L2.St → Hp → Prop, I s0 σ H1 ∧ (∀ s d x σ' H' H'', d ∈ ds → G H1 H' → I s σ' H' → Same H' H'' → R H'' x d →
        g x σ' H'' fun σ2 H2 => tu { D with nx := fun σ3 H3 => G H1 H3 ∧ I (f s d) σ3 H3, ct := fun σ3 H3 => G H1 H3 ∧ I (f s d) σ3 H3, bk := tz D } σ2 H2) ∧ (∀ σ' H', G H1 H' → I (ds.foldl f s0) σ' H' → tz D σ' H')) :
    tSeq (tFor wi g tu) tz D σ H := s_for hs hG fun H1 e => by
  obtain ⟨I, h0, hst, hd⟩ := k H1 e
  refine ⟨fun i σ' H' => I ((ds.take i).foldl f s0) σ' H', (show I ((ds.take 0).foldl f s0) σ H1 by rw [List.take_zero]; exact h0), fun i d x σ' H' H'' hi hg p ey r => ?_, fun σ' H' hg p => ?_⟩
  · have ht : (ds.take (i + 1)).foldl f s0 = f ((ds.take i).foldl f s0) d := by rw [List.take_add_one, hi, List.foldl_append]; rfl
    show g x σ' H'' fun σ2 H2 => tu { D with nx := fun σ3 H3 => G H1 H3 ∧ I ((ds.take (i + 1)).foldl f s0) σ3 H3, ct := fun σ3 H3 => G H1 H3 ∧ I ((ds.take (i + 1)).foldl f s0) σ3 H3, bk := tz D } σ2 H2
    rw [ht]
    exact hst _ d x σ' H' H'' (List.mem_of_getElem? hi) hg p ey r
  · have p : I ((ds.take ds.length).foldl f s0) σ' H' := p
    rw [List.take_length] at p
    exact hd σ' H' hg p
/-- the same at a block's end -/
theorem e_fold {wi : TI} {g : TG} {G : Hp → Hp → Prop} {ds : List α} (f : β → α → β) (s0 : β) (hs : Src wi σ H G R ds) (hG : ∀ H, G H H)
    (k : ∀ H1, Same H H1 → ∃ I : β → L2.St → Hp → Prop, I s0 σ H1 ∧ (∀ s d x σ' H' H'', d ∈ ds → G H1 H' → I s σ' H' → Same H' H'' → R H'' x d →
        g x σ' H'' fun σ2 H2 => tu { D with nx := fun σ3 H3 => G H1 H3 ∧ I (f s d) σ3 H3, ct := fun σ3 H3 => G H1 H3 ∧ I (f s d) σ3 H3, bk := D.nx } σ2 H2) ∧ (∀ σ' H', G H1 H' → I (ds.foldl f s0) σ' H' → D.nx σ' H')) :
    tFor wi g tu D σ H := s_fold (tz := tNext) f s0 hs hG k

/-! ### promises -/
class AL {α : Type} (A : ARep α) (n : outParam Nat) : Prop where
  len : ∀ {H : Hp} {vs : List V} {d : α}, A H vs d → vs.length = n
instance : AL A0 0 := ⟨fun h => by rw [show _ = [] from h]; rfl⟩
instance {A : ARep β} {n : Nat} [AL A n] : AL (AC R A) (n + 1) := ⟨fun ⟨v, ws, h, _, q⟩ => by rw [h, List.length_cons, AL.len (A := A) q]⟩
def spF {α β : Type} (A : ARep α) (S : Rep β) (pre : α → Prop) (f : α → β) : Sp := fun vs H Q _ => ∃ d, A H vs d ∧ pre d ∧ ∀ v H', Same H H' → S H' v (f d) → Q v H'
theorem ev_call {A : ARep α} {pre : α → Prop} {f : α → β} {E : XK} {ta : TA} {d : α} (ha : EvA ta σ H A d) (hp : pre d) : Ev (tCall (spF A S pre f) [] E ta) σ H S (f d) := fun H1 e Q q => ha H1 e _ fun vs H2 e2 r =>
  ⟨d, by rw [List.append_nil]; exact r, hp, fun v H3 e3 r3 => q v H3 (e2.trans e3) r3⟩
end
section
variable {P : Program} {w : World} {K : PySem.W.Frag} {mg : Str → Option Value} {base : Heap}
theorem fnF {α β : Type} {A : ARep α} {S : Rep β} {pre : α → Prop} {g : α → β} {n : Nat} [AL A n] {x qual : Str} {st : Stmt} {f : Addr} {fd : FuncData} {N ps : List Str} {k : Nat} (F : Fun K x qual st f fd) (Sc : FnScope N ps (defScope st)) (hn : n = ps.length)
    (hbody : ∀ (cdv : Value) (Ar : Around) (outer : List Env) (s : Shared) (H : Hp) (vs : List V) (Q : VK) (d : α), Room k (Ar.deeper (envOfC qual (defScope st) s.heap.objs.size f cdv)) → A H vs d → pre d → (∀ v H', Same H H' → S H' v (g d) → Q v H') →
      ∃ t, PSs (cxOf CX0 P w K mg base N qual (defScope st) f cdv Ar outer s H E0).nox (defBody st) t ∧ t { nx := fun _ H' => Q .non H', rt := Q } (start N vs) H) : FnOk P w K mg base CX0 (k + 1) f fd ps (spF A S pre g) := by
  refine F.ok Sc (fun vs H Q E h => ?_) (fun cdv Ar outer s H vs Q E hr h => ?_)
  · obtain ⟨d, h, _⟩ := h
    rw [AL.len (A := A) h, hn]
  · obtain ⟨d, h, hp, q⟩ := h
    obtain ⟨t, h1, h2⟩ := hbody cdv Ar outer s H vs Q d hr h hp q
    exact ⟨t, h1, h2⟩
end
end Rg
end
section
set_option Elab.async false
set_option linter.all false
set_option maxRecDepth 100000
/-! Three rules that the layer lacks: enumerate over a tuple, a tuple once, a tuple backwards. -/
namespace HT
open PySem PySem.Spec PyProof.Rows L2
section
variable {prog : Program} {w : World} {A : Around} {E : Value → Shared → Prop} {s : Shared}
theorem getItem_tuple_rev {t sl : Addr} {items : Array Value} {vs : Value} {Q : Value → Shared → Prop} (ht : IsTup s.heap t items) (hs : s.heap.IsSliceOf sl .none .none vs) (ps : IsPart vs (some (-1)))
    (h : Q (.ref s.heap.objs.size) { s with heap := s.heap.push { cls := .type "tuple", data := .seq items.toList.reverse.toArray } }) (hsz : items.size ≤ sizeLine) : wpAny (model prog w) A (getItem (.ref t) (.ref sl)) Q E s := by
  have htake : sizeOk (.seq items.toList.reverse.toArray) := by
    show items.toList.reverse.toArray.size ≤ sizeLine
    rw [List.size_toArray, List.length_reverse, Array.length_toList]
    exact hsz
  obtain ⟨os, hos, hcs, hds⟩ := id hs
  have hTs : s.TypeIs (.ref sl) "slice" := ⟨os, hos, hcs⟩
  unfold getItem
  try with_reducible refine wpAny_holding ?_
  first | refine wpAny_bind (wpAny_pure ?_) | skip
  refine wpAny_bind (wpAny_sequenceKey ht.typeIs (by decide) ?_)
  refine wpAny_bind (wpAny_callSpecial?_slot (name := Str.ofString "__getitem__") ht.typeIs PyProof.Rows.slot_tuple_getitem
    (wpAny_call_entry PyProof.Rows.slot_tuple_getitem ht.typeIs entry_tuple_getitem ?_ (args_tuple_getitem _ _)))
  show wpAny _ _ (Builtin.Tuple.tupleItemsOf (.ref t) >>= _) _ _ s
  refine wpAny_bind (tupleItemsOf_ ht ?_)
  refine wpAny_bind (wpAny_typeOf hTs ?_)
  rw [if_pos (by decide)]
  have app : ∀ {A : Around} {E : Value → Shared → Prop} {Q : Int × Int × Nat → Shared → Prop}, Q ((items.size : Int) - 1, -1, items.size) s → wpAny (model prog w) A (Builtin.Slice.sliceApplied (.ref sl) (pure (items.size : Int))) Q E s := fun {A E Q} h => by
    unfold Builtin.Slice.sliceApplied Builtin.Slice.sliceFields
    refine wpAny_bind (wpAny_bind (wpAny_field hos hds (x := .none) rfl (wpAny_bind (wpAny_field hos hds (x := .none) rfl (wpAny_bind (wpAny_field hos hds (x := vs) rfl (wpAny_pure ?_)))))))
    refine wpAny_bind (slicePart_ ps ?_)
    show wpAny _ _ (if ((-1 : Int) == 0) = true then _ else _) _ _ s
    rw [if_neg (by decide)]
    refine wpAny_bind (slicePart_none (wpAny_bind (slicePart_none (wpAny_bind (wpAny_pure ?_)))))
    show wpAny _ _ (match Builtin.Slice.sliceAdjust none none (-1) (items.size : Int) with | (lo, hi) => pure (lo, (-1 : Int), Builtin.Slice.slicePlaces lo hi (-1))) _ _ s
    have e1 : Builtin.Slice.sliceAdjust none none (-1) (items.size : Int) = ((items.size : Int) - 1, -1) := rfl
    rw [e1]
    have e2 : Builtin.Slice.slicePlaces ((items.size : Int) - 1) (-1) (-1) = items.size := by
      unfold Builtin.Slice.slicePlaces
      rw [if_neg (by decide)]
      by_cases h0 : (items.size : Int) - 1 > -1
      · rw [if_pos h0, show (-(-1) : Int) = 1 from rfl, Int.ediv_one]
        omega
      · rw [if_neg h0]
        omega
    show wpAny _ _ (pure ((items.size : Int) - 1, (-1 : Int), Builtin.Slice.slicePlaces ((items.size : Int) - 1) (-1) (-1))) _ _ s
    rw [e2]
    exact wpAny_pure h
  refine wpAny_bind (app ?_)
  have hno : ¬ ((((items.size : Int) - 1) == 0 && (-1 : Int) == 1 && items.size == items.size) = true) := by
    intro q
    rw [Bool.and_eq_true, Bool.and_eq_true] at q
    exact absurd q.1.2 (by decide)
  show wpAny _ _ (if (((items.size : Int) - 1) == 0 && (-1 : Int) == 1 && items.size == items.size) = true then _ else _) _ _ s
  have pk : ((List.range items.size).filterMap fun (k : Nat) => items[((items.size : Int) - 1 + (k : Int) * (-1)).toNat]?) = items.toList.reverse := by
    have e : (fun (k : Nat) => items[((items.size : Int) - 1 + (k : Int) * (-1)).toNat]?) = (fun k : Nat => items[items.size - 1 - k]?) := by
      funext k
      congr 1
      omega
    have e3 : (fun k : Nat => items[items.size - 1 - k]?) = (items[·]?) ∘ (fun k : Nat => items.size - 1 - k) := rfl
    rw [e, e3, ← List.filterMap_map, PySem.W.krv_range, List.filterMap_reverse, PySem.W.krv_all]
  rw [if_neg hno, pk]
  first
    | exact wpAny_bind (m := Builtin.Tuple.tupleExact _) (wpAny_newObj_type (wpAny_pure ⟨_, rfl, wpAny_pure h⟩) htake)
    | exact wpAny_bind (m := Builtin.Tuple.tupleExact _) (wpAny_newObj_type (wpAny_bind (wpAny_pure (wpAny_pure ⟨_, rfl, wpAny_pure h⟩))) htake)
    | exact wpAny_bind (wpAny_bind (m := Builtin.Tuple.tupleExact _) (wpAny_newObj_type (wpAny_pure (wpAny_pure ⟨_, rfl, wpAny_pure h⟩)) htake))
    | exact wpAny_bind (wpAny_bind (m := Builtin.Tuple.tupleExact _) (wpAny_newObj_type (wpAny_pure ⟨_, rfl, wpAny_pure h⟩) htake))
end
end HT
namespace Rg
open PySem PySem.Spec PyProof.Rows L2 RZ
section
variable {X : Cx}
/-- t[::-1] -/
def tRevT (K : PySem.W.Frag) (te : TE) : TE := fun σ H Q => te σ H fun x H1 => ∃ a xs, x = .ref a ∧ SqT K H1 a xs ∧ ∀ p, H1 p = none → Q (.ref p) (upd H1 p (.tup xs.reverse))
theorem pe_revT {e : Expr} {te : TE} {k : Nat} {p1 p2 p3 pos : Pos} (he : PE X e te) : PE X (.Subscript e (.Slice none none (some (.UnaryOp .USub (.Constant (.int 1) k p1) p2)) p3) pos) (tRevT X.K te) := by
  refine ⟨fun pins s σ H Q I h => ?_⟩
  refine Subscript_ (thn (he.run pins s σ H _ I h) fun v s1 ⟨x, H1, I1, r1, q1⟩ => ?_)
  obtain ⟨a, xs, ex, hx, q⟩ := q1
  subst ex
  cases r1
  have hst : PO X (some (.UnaryOp .USub (.Constant (.int 1) k p1) p2)) (tPart (tUn (rU fun i => .int (-i)) (tC (.int 1)))) := po_some (pe_un un_neg pe_int)
  refine wpAny_Slice (thn (po_none.run pins s1 σ H1 (fun o H2 => o = none ∧ H2 = H1) I1 ⟨rfl, rfl⟩) fun vl s2 ⟨l, H2, I2, pl, el, e2⟩ => ?_)
  subst el e2
  refine thn (po_none.run pins s2 σ H2 (fun o H3 => o = none ∧ H3 = H2) I2 ⟨rfl, rfl⟩) fun vu s3 ⟨u, H3, I3, pu, eu, e3⟩ => ?_
  subst eu e3
  refine thn (hst.run pins s3 σ H3 (fun o H4 => o = some (-1) ∧ H4 = H3) I3 ⟨1, rfl, -1, rfl, rfl, rfl⟩) fun vs s4 ⟨o, H4, I4, ps, eo, e4⟩ => ?_
  subst eo e4
  cases pl
  cases pu
  have I5 : Inv X pins σ H4 { s4 with heap := s4.heap.push { cls := .type "slice", data := .fields #[.none, .none, vs] } } := I4.kept (t' := s4.toks) fun b ob q => Heap.get?_push_of_some _ q
  obtain ⟨its, r, ht, hz⟩ := I5.tuple hx
  have hlen := r.length
  show wpAny (model X.prog X.w) X.A (subscriptTail e (.Slice none none (some (.UnaryOp .USub (.Constant (.int 1) k p1) p2)) p3) (.ref a) (.ref s4.heap.objs.size)) (EP X pins σ Q) X.xe { s4 with heap := s4.heap.push { cls := .type "slice", data := .fields #[.none, .none, vs] } }
  refine tail_any (ops := [.ref a, .ref s4.heap.objs.size]) ht.typeIs PyProof.Rows.slot_tuple_getitem.lookup ?_ (by with_unfolding_all rfl)
  refine HT.getItem_tuple_rev ht (Heap.IsSliceOf.new _ .none .none vs) ps ?_ (by rw [List.size_toArray]; omega)
  refine ⟨.ref _, _, I5.laid (t' := s4.toks) (o := .tup xs.reverse) (fun b ob q => Heap.get?_push_of_some _ q) (Nat.le_refl _) ?_, rfl, q _ (I5.hok.fresh (Nat.le_refl _))⟩
  exact ⟨by rw [List.length_reverse]; exact hz, _, r.reverse, IsTup.new _ _⟩
theorem ev_rev {α : Type} {K : PySem.W.Frag} {σ : L2.St} {H : Hp} {te : TE} {R : Rep α} {ds : List α} [Sm R] (h : Ev te σ H (RT K R) ds) : Ev (tRevT K te) σ H (RT K R) ds.reverse := fun H1 e Q q =>
  h H1 e _ fun x H2 e2 ⟨a, xs, ex, hx, px⟩ => ⟨a, xs, ex, hx, fun p hp => q _ _ (e2.trans (same_new hp)) ⟨p, _, rfl, SqT.of upd_same, pd_rev (px.rgM fun _ _ z => Sm.sm (same_new hp) z)⟩⟩

/-! t * k, 1 ≤ k -/
theorem tuple_mul1 (l : Addr) (items : Array Value) (n : Nat) (dd : Option Addr) (sl : Array (Option Value)) (u : Tok) :
    Meets (Builtin.«tuple.__mul__» ⟨[.ref l, .int 1 u], []⟩) (fun _ R s => s.heap.get? l = some { cls := .type "tuple", dict := dd, data := .seq items n, slots := sl } ∧ R (.ok (.ret (Value.ref l))) s) :=
  .of_wp fun prog w A R s h => by
    obtain ⟨hp, g, d, tk, os⟩ := s
    obtain ⟨hl, h⟩ := h
    have f1 := AutoSeq1.idx_int
    have c0 : (decide ((1 : Int) < -(2 ^ 63)) || decide ((1 : Int) ≥ 2 ^ 63)) = false := by decide
    have c1 : (items.isEmpty || (1 : Int) == 1) = true := by simp
    wp_walk using wpAny_loadPart' hl
    repeat (first
      | (refine wpAny_ite_false (decide_eq_false (by rw [c0]; exact Bool.false_ne_true)) ?_; wp_walk using wpAny_loadPart' hl)
      | (refine wpAny_ite_true (decide_eq_true (by rw [c1])) ?_; wp_walk using wpAny_loadPart' hl))
    exact ⟨_, rfl, h⟩
def rRep1 (K : PySem.W.Frag) : R2 := fun x y H Q => ∃ l k xs, x = .ref l ∧ y = .int k ∧ SqT K H l xs ∧ xs ≠ [] ∧ 1 ≤ k ∧ k ≤ 1000 ∧ xs.length ≤ 1000 ∧ (k = 1 → Q (.ref l) H) ∧ (k ≠ 1 → ∀ p, H p = none → Q (.ref p) (upd H p (.tup (List.replicate k.toNat xs).flatten)))
theorem op_rep1 : OpR X (binaryOp .Mult) (rRep1 X.K) := by
  intro pins s σ H x y v u Q I rx ry h
  obtain ⟨l, k, xs, rfl, rfl, hT, hne, h1, h2, hz, q1, q2⟩ := h
  by_cases hk : k = 1
  · subst hk
    cases rx
    obtain ⟨t, rfl⟩ := ry
    obtain ⟨its, r, ⟨⟨cls, dd, data, sl⟩, ho, hc, n, hd⟩, hs⟩ := I.tuple hT
    simp only at hc hd
    subst hc hd
    exact wpAny_binaryOp_repeat_ref (T := "tuple") (U := "int") (by decide) ⟨_, ho, rfl⟩ (fun s' => typeIs_int s' 1 t) noFill_tuple_mul F.fills_int_mul F.slot_int_rmul repeat_tuple F.slot_int_index.lookup
      (call_meets F.slot_int_rmul (typeIs_int s 1 t) F.entry_int_rmul (F.args_int_rmul_2 _ _) (int_rmul_tuple 1 t l its.toArray n dd sl)
        ⟨ho, rfl, ⟨_, ho, rfl⟩, call_meets F.slot_tuple_mul ⟨_, ho, rfl⟩ F.entry_tuple_mul (F.args_tuple_mul_2 _ _) (tuple_mul1 l its.toArray n dd sl t) ⟨ho, ⟨.ref l, H, I, rfl, q1 rfl⟩⟩⟩)
  · exact op_repT pins s σ H _ _ v u Q I rx ry ⟨l, k, xs, rfl, rfl, hT, hne, by omega, h2, hz, q2 hk⟩
theorem ev_rep1 {α : Type} {K : PySem.W.Frag} {σ : L2.St} {H : Hp} {ta tb : TE} {R : Rep α} {d : α} {k : Int} [Sm R] (ha : Ev ta σ H (RT K R) [d]) (hb : Ev tb σ H RI k) (h1 : 1 ≤ k) (h2 : k ≤ 1000) : Ev (tOp (rRep1 K) ta tb) σ H (RT K R) (List.replicate k.toNat d) := fun H1 e Q q =>
  ha H1 e _ fun x H2 e2 r2 => hb H2 (e.trans e2) _ fun y H3 e3 r3 => by
    obtain ⟨a, xs, rfl, hx, px⟩ := (Sm.sm e3 r2 : RT K R H3 x [d])
    cases px with
    | cons r0 r1 =>
      cases r1
      refine ⟨a, k, _, rfl, r3, hx, by simp, h1, h2, by simp, fun e1 => ?_, fun _ p hp => ?_⟩
      · subst e1
        exact q _ H3 (e2.trans e3) ⟨a, _, rfl, hx, .cons r0 .nil⟩
      · refine q _ _ ((e2.trans e3).trans (same_new hp)) ⟨p, _, rfl, SqT.of upd_same, ?_⟩
        rw [flat_rep]
        exact pd_rep (Sm.sm (same_new hp) r0) _

/-! enumerate(tuple) -/
theorem meets_enumerate_new1 {v : Value} {o : Obj} {H : Heap → Prop} (B : Begins v o H) :
    Meets (Builtin.«enumerate.__new__» ⟨[.type "enumerate", v], []⟩) (fun _ R s => H s.heap ∧
      R (.ok (.ret (.ref (s.heap.push o).objs.size))) { s with heap := (s.heap.push o).push { cls := .type "enumerate", data := .fields #[.none, .bool false, .ref s.heap.objs.size, rawInt 0, .none, .none] } }) :=
  .of_wp fun prog w A R s h => by
    obtain ⟨hp, g, d, tk, os⟩ := s; obtain ⟨h1, h⟩ := h
    have hsub := sub_enumerate
    have q1 : ∀ {A' : Around} {E : Value → Shared → Prop} {Q : Value → Shared → Prop}, Q (.ref hp.objs.size) ⟨hp.push o, g, d, tk, os⟩ → wpAny (model prog w) A' (pyIter v) Q E ⟨hp, g, d, tk, os⟩ :=
      fun q => B.iter prog w _ _ ⟨hp, g, d, tk, os⟩ _ h1 q
    wp_walk using q1
    refine wpAny_stack_any fun st => wpAny_pure ?_
    split
    · rename_i c _ _ _ _ _
      cases (c == Value.type "enumerate")
      · wp_walk using q1
        exact ⟨_, rfl, h⟩
      · wp_walk using q1
        exact ⟨_, rfl, h⟩
    · wp_walk using q1
      exact ⟨_, rfl, h⟩
theorem call_enumerate_tup {prog : Program} {w : World} {A : Around} {E : Value → Shared → Prop} {s : Shared} {t : Addr} {items : Array Value} {Q : Value → Shared → Prop} (hT : s.heap.IsTuple t items)
    (h : ∀ h', IsEnum h' (s.heap.objs.size + 1) s.heap.objs.size 0 .none → h'.IsTupleIter s.heap.objs.size t 0 → h'.objs.size = s.heap.objs.size + 2 →
      (∀ b o, s.heap.get? b = some o → h'.get? b = some o) → Q (.ref (s.heap.objs.size + 1)) { s with heap := h' }) :
    wpAny (model prog w) A (call (.type "enumerate") [.ref t]) Q E s := by
  have B := begins_tuple t items
  refine callType_new F.called_enumerate (by decide) (F.typeCall_enumerate_1 _) (F.newCall_enumerate_1 _) (fun obj => F.args_object_init_2 obj _) F.entry_enumerate_new
    (meets_enumerate_new1 B) ⟨hT, ?_⟩
  have hz : (s.heap.push { cls := .type "tuple_iterator", data := .fields #[.ref t, .int 0 0] }).objs.size = s.heap.objs.size + 1 := Heap.size_push ..
  show _ ∧ _
  rw [hz]
  have he : IsEnum ((s.heap.push { cls := .type "tuple_iterator", data := .fields #[.ref t, .int 0 0] }).push
      { cls := .type "enumerate", data := .fields #[.none, .bool false, .ref s.heap.objs.size, rawInt 0, .none, .none] }) (s.heap.objs.size + 1) s.heap.objs.size 0 .none := by
    have := Heap.get?_push_size (s.heap.push { cls := .type "tuple_iterator", data := .fields #[.ref t, .int 0 0] })
      (o := { cls := .type "enumerate", data := .fields #[.none, .bool false, .ref s.heap.objs.size, rawInt 0, .none, .none] }) rfl
    rw [hz] at this; exact this
  refine ⟨⟨_, he, rfl⟩, h _ he ⟨_, Heap.get?_push_of_some _ (Heap.get?_push_size _ rfl), rfl, rfl⟩ (by rw [Heap.size_push, hz]) fun b o x => Heap.get?_push_of_some _ (Heap.get?_push_of_some _ x)⟩
theorem wpAny_pyNext_enum_endTup {prog : Program} {w : World} {A : Around} {E : Value → Shared → Prop} {s : Shared} {e it l : Addr} {i : Nat} {j : Int} {items : Array Value} {old : Value} {Q : Option Value → Shared → Prop} (hh : A.in1.handled = none)
    (he : IsEnum s.heap e it j old) (hit : s.heap.IsTupleIter it l i) (hl : s.heap.IsTuple l items) (hx : items[i]? = none)
    (hQ : ∀ h', Heap.ExtBut it s.heap h' → Q none { s with heap := h' }) : wpAny (model prog w) A (pyNext (.ref e)) Q E s := by
  have hT : s.TypeIs (.ref e) "enumerate" := ⟨_, he, rfl⟩
  unfold pyNext
  refine wpAny_bind (wpAny_attempt (wpAny_callSpecial?_slot (name := Str.ofString "__next__") hT F.slot_enumerate_next
    (wpAny_call_entry F.slot_enumerate_next hT F.entry_enumerate_next ?_ (F.args_enumerate_next_1 _))))
  show wpAny _ _ (field (.ref e) 2 >>= _) _ _ _
  refine wpAny_bind (wpAny_field he rfl (x := .ref it) rfl ?_)
  refine wpAny_bind (wpAny_nextOf_tuple_end hh hit hl hx fun h' x he' hx' => ?_)
  obtain ⟨o, ho, hc⟩ := hx'
  refine wpAny_bind (wpAny_isInstance (T := "StopIteration") (b := true) ⟨o, ho, hc⟩ isSubtype_stop ?_)
  exact wpAny_pure (hQ _ he')
def IteT (K : PySem.W.Frag) (a : Addr) : It :=
  ⟨fun i H => ∃ (xs : List V) (x : V), SqT K H a xs ∧ xs[i]? = some x, fun i H v H' => ∃ T x, v = .ref T ∧ H T = none ∧ H' = upd H T (.tup [.int (i : Nat), x]) ∧ ∀ xs, SqT K H a xs → xs[i]? = some x, fun i H => ∃ xs : List V, SqT K H a xs ∧ xs.length ≤ i⟩
theorem turn_enumT {P : Program} {w : World} {K : PySem.W.Frag} {elts : List Expr} {kk : Nat} {tpos : Pos} (a e it : Addr) (hai : a ≠ it) (hae : a ≠ e) :
    Turn P w K (.Tuple elts kk tpos) (IteT K a) [e, it] e (fun i h => (∃ old, IsEnum h e it ((i : Nat) : Int) old) ∧ h.IsTupleIter it a i ∧ e ≠ it) where
  mem := by simp
  obj := fun i h st b hb => by
    obtain ⟨⟨old, he⟩, ⟨o, ho, hc, hd⟩, _⟩ := st
    have e' : b = e ∨ b = it := by simpa using hb
    rcases e' with z | z
    · rw [z]; exact ⟨_, he, fun v q => nomatch q⟩
    · rw [z]; exact ⟨o, ho, fun v q => by rw [hd] at q; cases q⟩
  keep := fun i h h' st k => let ⟨⟨old, he⟩, hi, hne⟩ := st; ⟨⟨old, k e (by simp) _ he⟩, hi.at fun o q => k it (by simp) o q, hne⟩
  item := by
    intro X hP hw hK hc i pins s σ H E I hf st hg
    subst hP hw hK
    obtain ⟨⟨old, he⟩, hit, hne⟩ := st
    obtain ⟨xs, x, hq, hx⟩ := hg
    obtain ⟨its, rv, p, hz⟩ := I.tuple hq
    obtain ⟨u, hu, ru⟩ := rv.get hx
    have hel : e < s.heap.objs.size := Heap.lt_size he
    have hil : it < s.heap.objs.size := by obtain ⟨_, q, _⟩ := hit; exact Heap.lt_size q
    have hh : X.A.in1.handled = none := I.ok.hd hc
    have hilt : i < its.toArray.size := by
      have := (List.getElem?_eq_some_iff.mp hx).1
      rw [List.size_toArray, ← rv.length]; exact this
    refine wpAny_pyNext_enum_itemD (Draws.tuple hh it a hai its.toArray) he ⟨hit, p⟩ hilt hne (by simp [hne, Ne.symm hae]) fun y h' tk hy ho hit' hT hsz hk => ?_
    have hyu : y = u := by
      have hy' : its.toArray[i]? = some y := hy
      rw [show its.toArray[i]? = some u by simpa using hu] at hy'
      exact (Option.some.inj hy').symm
    subst hyu
    refine ⟨_, rfl, wpAny_letOwnedTupleGo_enum (s := { s with heap := h', toks := tk + 1 }) ho fun h'' he' sb => ?_⟩
    have hT2 : h''.get? s.heap.objs.size = some { cls := .type "tuple", data := .seq #[.int i tk, y] } := (sb.2 _ (Nat.ne_of_gt hel)).trans hT
    have new : ObjOk X.prog X.w (upd H s.heap.objs.size (.tup [.int (i : Nat), x])) h'' s.heap.objs.size (.tup [.int (i : Nat), x]) :=
      ⟨by show 2 ≤ sizeLine; decide, [.int i tk, y], .cons ⟨_, rfl⟩ (.cons ru .nil), ⟨_, hT2, rfl, _, rfl⟩⟩
    have I1 : Inv X pins σ (upd H s.heap.objs.size (.tup [.int (i : Nat), x])) { s with heap := h'', toks := tk + 1 } :=
      I.turnedNew (ch := [e, it]) (fun b ob hb q => (sb.2 b (fun z => hb (by simp [z]))).trans (hk b ob (fun z => hb (by simp [z])) (fun z => hb (by simp [z])) q)) hf (Nat.le_refl _) new
    refine ⟨.ref s.heap.objs.size, _, I1, rfl, ⟨_, x, rfl, I.hok.fresh (Nat.le_refl _), rfl, fun ys hy => by rw [I.tuple_inj hy hq]; exact hx⟩, ⟨⟨y, ?_⟩, hit'.1.at fun o q => (sb.2 it (Ne.symm hne)).trans q, hne⟩, fun b hb => ?_⟩
    · have e1 : ((i + 1 : Nat) : Int) = (i : Int) + 1 := by omega
      rw [e1]; exact he'
    · have hb' : b < s.heap.objs.size := by
        have e' : b = e ∨ b = it := by simpa using hb
        rcases e' with z | z
        · rw [z]; exact hel
        · rw [z]; exact hil
      rw [upd_ne (Nat.ne_of_lt hb')]
      exact (hf b hb).1
  done := by
    intro X hP hw hK hc i pins s σ H E I hf st hg
    subst hP hw hK
    obtain ⟨⟨old, he⟩, hit, hne⟩ := st
    obtain ⟨xs, hq, hx⟩ := hg
    obtain ⟨its, rv, p, hz⟩ := I.tuple hq
    obtain ⟨f0, f1, f2, f3, f4, f5⟩ := hf it (by simp)
    have hl := rv.length
    have hh : X.A.in1.handled = none := I.ok.hd hc
    exact wpAny_pyNext_enum_endTup hh he hit p (by simp; omega) fun h' eb => ⟨rfl, I.turned (t' := s.toks) (fun b o hb q => eb b o hb q) f0 f1 f3 f4 f5⟩
  self := fun A i s Q E st h => let ⟨⟨_, he⟩, _⟩ := st; wpAny_pyIter_enum he h
def iEnumT (K : PySem.W.Frag) (ta : TA) : TI := fun σ H R => ta σ H fun vs H1 => ∃ a xs, vs = [.ref a] ∧ SqT K H1 a xs ∧ R (IteT K a) H1
theorem pi_enumT {X : Cx} {e : Expr} {ta : TA} {p pos tpos : Pos} {elts : List Expr} {kk : Nat} (hg : Gl X "enumerate") (hm : X.mg "enumerate" = none) (ha : PA X [e] ta) (hs : starEach [e] X.env = [(false, eval e X.env)] := by rfl) :
    PI X (.Tuple elts kk tpos) (.Call (.Name "enumerate" p) [e] [] pos) (iEnumT X.K ta) := by
  refine ⟨fun pins s σ H R I h => ?_⟩
  refine Call_ (ld_blt I hg hm boot_enumerate (PyProof.Rows.callWith_type1 (thn (ha.run pos pins s σ H _ I h) fun us s1 ⟨vs, H1, I1, r1, q1⟩ => ?_) hs rfl))
  obtain ⟨a, xs, ex, hq, q⟩ := q1
  subst ex
  cases r1 with
  | cons r rr =>
    cases rr
    cases r
    obtain ⟨its, rv, p', hz⟩ := I1.tuple hq
    have hal : a < s1.heap.objs.size := by obtain ⟨o, ho, _⟩ := p'; exact Heap.lt_size ho
    refine call_enumerate_tup (show s1.heap.IsTuple a its.toArray from p') fun h' he hit hsz hk => wpAny_pyIter_enum he ?_
    have I2 : Inv X pins σ H1 { s1 with heap := h' } := I1.kept (t' := s1.toks) hk
    refine ⟨s1.heap.objs.size + 1, [s1.heap.objs.size + 1, s1.heap.objs.size], _, _, H1, rfl, I2, turn_enumT a (s1.heap.objs.size + 1) s1.heap.objs.size (Nat.ne_of_lt hal) (Nat.ne_of_lt (Nat.lt_succ_of_lt hal)), ⟨⟨.none, he⟩, hit, Nat.succ_ne_self _⟩, fun b hb => ?_, q⟩
    have e' : b = s1.heap.objs.size + 1 ∨ b = s1.heap.objs.size := by simpa using hb
    have hle : s1.heap.objs.size ≤ b := by
      rcases e' with z | z
      · rw [z]; exact Nat.le_add_right _ _
      · rw [z]; exact Nat.le_refl _
    exact I1.fpOk hle (I1.hok.fresh hle)
theorem walk_enumT {K : PySem.W.Frag} {a : Addr} {xs : List V} : Walk (IteT K a) xs.length (fun H => SqT K H a xs) (YPair (fun i => some (.int (i : Nat))) (fun i => xs[i]?)) := by
  refine ⟨fun i _ hi q => ⟨xs, xs[i], q, by simp [hi]⟩, fun _ q => ⟨xs, q, Nat.le_refl _⟩, fun i H v H' _ q y => ?_⟩
  obtain ⟨T, x, h1, h2, h3, h4⟩ := y
  exact ⟨T, .int (i : Nat), x, h1, h2, h3, rfl, h4 xs q⟩
theorem src_enT {α : Type} {K : PySem.W.Frag} {σ : L2.St} {H : Hp} {ta : TE} {R : Rep α} {ds : List α} [Tm R] (h : Ev ta σ H (RT K R) ds) : Src (iEnumT K (tCons ta tNil)) σ H Tk (RP K RI R) (en 0 ds) := fun H1 e F f => h H1 e _ fun x H2 e2 ⟨a, xs, ex, hq, pd⟩ =>
  ⟨a, xs, by rw [ex], hq, f _ H2 e2 (by
    show Walk _ _ _ _
    rw [en_len, ← pd.length]
    refine walk_enumT.mono (fun H3 q => sqT_tk q hq) fun i H3 v H4 hi q y => ?_
    obtain ⟨T, z, x, rfl, hT, rfl, hz, hx⟩ := y
    obtain ⟨d, hd, r⟩ := pd_get' pd hx
    cases hz
    refine ⟨same_new hT, ((i : Int), d), ?_, T, _, x, rfl, SqT.of upd_same, rfl, Tm.tk (q.trans (Tk.of (same_new hT))) r⟩
    rw [en_get, hd, Option.map_some, Nat.zero_add])⟩
end
end Rg
end
section
set_option Elab.async false
set_option linter.all false
set_option maxRecDepth 100000
/-! The text by places, what the top has left (Top). Written by wip/mk3.py. -/
namespace Rg
open PySem PySem.Spec PyProof.Rows L2 RZ
def topS (i : Nat) : Stmt := PySem.Challenge.pw_everyring_k18_whole_what_can_be_reached.main.body.getD i (.Pass ⟨0, 0, 0, 0⟩)
def adr (mg : Str → Option Value) (x : Str) : Addr := match mg x with
  | some (.ref a) => a
  | _ => 0
def fdat (K : PySem.W.Frag) (mg : Str → Option Value) (x : Str) : FuncData := match K.lookup (adr mg x) with
  | some ⟨_, _, .func fd, _⟩ => fd
  | _ => PySem.W.fnOf x x (defArgs (topS 0)) (defBody (topS 0)) (defScope (topS 0)) .none .none .none .none none .none .none
structure DefAt (K : PySem.W.Frag) (mg : Str → Option Value) (x : Str) (st : Stmt) : Prop where
  F : Fun K x x st (adr mg x) (fdat K mg x)
  g : mg x = some (.ref (adr mg x))
theorem pe_def {X : Cx} {k : Nat} {ps : List Str} {sp : Sp} {x : Str} {st : Stmt} {p pos : Pos} {e : Expr} {es : List Expr} {t : TA} (D : DefAt X.K X.mg x st)
    (G : FnOk X.prog X.w X.K X.mg X.base CX0 k (adr X.mg x) (fdat X.K X.mg x) ps sp) (hb : Binds X.K (fdat X.K X.mg x) ps []) (hr : Room k X.A) (hg : Gl X x)
    (ha : PA X (e :: es) t) (hdb : (x == ("__debug__" : Str)) = false := by decide) (he : starEach (e :: es) X.env = (false, eval e X.env) :: starEach es X.env := by rfl) (hpl : (backTo pos (starEach es X.env)).any (·.1) = false := by rfl) :
    PE X (.Call (.Name x p) (e :: es) [] pos) (tCall sp [] E0 t) := pe_call G hr hg D.g D.F.kp hb .nil pass0 ha hdb he hpl
abbrev s_is_number : Stmt := topS 8
abbrev N_is_number : List Str := ["value"]
theorem sc_is_number : FnScope N_is_number ["value"] (defScope s_is_number) := ⟨rfl, rfl, rfl, by decide +kernel, rfl, by decide +kernel, by decide +kernel⟩
abbrev s_is_whole : Stmt := topS 9
abbrev N_is_whole : List Str := ["value", "low", "high"]
theorem sc_is_whole : FnScope N_is_whole ["value", "low", "high"] (defScope s_is_whole) := ⟨rfl, rfl, rfl, by decide +kernel, rfl, by decide +kernel, by decide +kernel⟩
abbrev s_is_prime : Stmt := topS 10
abbrev N_is_prime : List Str := ["value"]
theorem sc_is_prime : FnScope N_is_prime ["value"] (defScope s_is_prime) := ⟨rfl, rfl, rfl, by decide +kernel, rfl, by decide +kernel, by decide +kernel⟩
abbrev s_is_pair : Stmt := topS 11
abbrev N_is_pair : List Str := ["prime", "value"]
theorem sc_is_pair : FnScope N_is_pair ["prime", "value"] (defScope s_is_pair) := ⟨rfl, rfl, rfl, by decide +kernel, rfl, by decide +kernel, by decide +kernel⟩
abbrev s_fits_rule : Stmt := topS 12
abbrev N_fits_rule : List Str := ["prime", "value", "here", "there", "part"]
theorem sc_fits_rule : FnScope N_fits_rule ["prime", "value"] (defScope s_fits_rule) := ⟨rfl, rfl, rfl, by decide +kernel, rfl, by decide +kernel, by decide +kernel⟩
abbrev s_trimmed : Stmt := topS 13
abbrev N_trimmed : List Str := ["row", "length"]
theorem sc_trimmed : FnScope N_trimmed ["row"] (defScope s_trimmed) := ⟨rfl, rfl, rfl, by decide +kernel, rfl, by decide +kernel, by decide +kernel⟩
abbrev s_inverse : Stmt := topS 14
abbrev N_inverse : List Str := ["prime", "colour", "other"]
theorem sc_inverse : FnScope N_inverse ["prime", "colour"] (defScope s_inverse) := ⟨rfl, rfl, rfl, by decide +kernel, rfl, by decide +kernel, by decide +kernel⟩
abbrev s_scaled : Stmt := topS 15
abbrev N_scaled : List Str := ["prime", "row", "colour", "part"]
theorem sc_scaled : FnScope N_scaled ["prime", "row", "colour"] (defScope s_scaled) := ⟨rfl, rfl, rfl, by decide +kernel, rfl, by decide +kernel, by decide +kernel⟩
abbrev s_monic : Stmt := topS 16
abbrev N_monic : List Str := ["prime", "row"]
theorem sc_monic : FnScope N_monic ["prime", "row"] (defScope s_monic) := ⟨rfl, rfl, rfl, by decide +kernel, rfl, by decide +kernel, by decide +kernel⟩
abbrev s_added : Stmt := topS 17
abbrev N_added : List Str := ["prime", "one", "other", "longer", "first", "second", "here", "there"]
theorem sc_added : FnScope N_added ["prime", "one", "other"] (defScope s_added) := ⟨rfl, rfl, rfl, by decide +kernel, rfl, by decide +kernel, by decide +kernel⟩
abbrev s_timesed : Stmt := topS 18
abbrev N_timesed : List Str := ["prime", "one", "other", "found", "at", "here", "beside", "there"]
theorem sc_timesed : FnScope N_timesed ["prime", "one", "other"] (defScope s_timesed) := ⟨rfl, rfl, rfl, by decide +kernel, rfl, by decide +kernel, by decide +kernel⟩
abbrev s_divided : Stmt := topS 19
abbrev N_divided : List Str := ["prime", "one", "other", "rest", "over", "found", "at", "beside", "part"]
theorem sc_divided : FnScope N_divided ["prime", "one", "other"] (defScope s_divided) := ⟨rfl, rfl, rfl, by decide +kernel, rfl, by decide +kernel, by decide +kernel⟩
abbrev s_common_of_two : Stmt := topS 20
abbrev N_common_of_two : List Str := ["prime", "one", "other"]
theorem sc_common_of_two : FnScope N_common_of_two ["prime", "one", "other"] (defScope s_common_of_two) := ⟨rfl, rfl, rfl, by decide +kernel, rfl, by decide +kernel, by decide +kernel⟩
abbrev s_gcd_of : Stmt := topS 21
abbrev N_gcd_of : List Str := ["prime", "rows", "found", "row"]
theorem sc_gcd_of : FnScope N_gcd_of ["prime", "rows"] (defScope s_gcd_of) := ⟨rfl, rfl, rfl, by decide +kernel, rfl, by decide +kernel, by decide +kernel⟩
abbrev s_power_of_x : Stmt := topS 22
abbrev N_power_of_x : List Str := ["prime", "many", "modulus", "found", "square", "left"]
theorem sc_power_of_x : FnScope N_power_of_x ["prime", "many", "modulus"] (defScope s_power_of_x) := ⟨rfl, rfl, rfl, by decide +kernel, rfl, by decide +kernel, by decide +kernel⟩
abbrev s_of_rule : Stmt := topS 23
abbrev N_of_rule : List Str := ["rule", "least", "found", "offset", "amount"]
theorem sc_of_rule : FnScope N_of_rule ["rule"] (defScope s_of_rule) := ⟨rfl, rfl, rfl, by decide +kernel, rfl, by decide +kernel, by decide +kernel⟩
abbrev s_core_of : Stmt := topS 24
abbrev N_core_of : List Str := ["prime", "rule"]
theorem sc_core_of : FnScope N_core_of ["prime", "rule"] (defScope s_core_of) := ⟨rfl, rfl, rfl, by decide +kernel, rfl, by decide +kernel, by decide +kernel⟩
abbrev s_fits_panel : Stmt := topS 26
abbrev N_fits_panel : List Str := ["value", "button"]
theorem sc_fits_panel : FnScope N_fits_panel ["value"] (defScope s_fits_panel) := ⟨rfl, rfl, rfl, by decide +kernel, rfl, by decide +kernel, by decide +kernel⟩
abbrev s_is_lamp : Stmt := topS 27
abbrev N_is_lamp : List Str := ["prime", "size", "value"]
theorem sc_is_lamp : FnScope N_is_lamp ["prime", "size", "value"] (defScope s_is_lamp) := ⟨rfl, rfl, rfl, by decide +kernel, rfl, by decide +kernel, by decide +kernel⟩
abbrev s_fits_picture : Stmt := topS 28
abbrev N_fits_picture : List Str := ["prime", "size", "value", "here", "there", "lamp"]
theorem sc_fits_picture : FnScope N_fits_picture ["prime", "size", "value"] (defScope s_fits_picture) := ⟨rfl, rfl, rfl, by decide +kernel, rfl, by decide +kernel, by decide +kernel⟩
abbrev s_is_press : Stmt := topS 29
abbrev N_is_press : List Str := ["panel", "size", "value"]
theorem sc_is_press : FnScope N_is_press ["panel", "size", "value"] (defScope s_is_press) := ⟨rfl, rfl, rfl, by decide +kernel, rfl, by decide +kernel, by decide +kernel⟩
abbrev s_fits_presses : Stmt := topS 30
abbrev N_fits_presses : List Str := ["panel", "size", "value", "here", "there", "press"]
theorem sc_fits_presses : FnScope N_fits_presses ["panel", "size", "value"] (defScope s_fits_presses) := ⟨rfl, rfl, rfl, by decide +kernel, rfl, by decide +kernel, by decide +kernel⟩
abbrev s_need_panel : Stmt := topS 31
abbrev N_need_panel : List Str := ["panel"]
theorem sc_need_panel : FnScope N_need_panel ["panel"] (defScope s_need_panel) := ⟨rfl, rfl, rfl, by decide +kernel, rfl, by decide +kernel, by decide +kernel⟩
abbrev s_need_size : Stmt := topS 32
abbrev N_need_size : List Str := ["size"]
theorem sc_need_size : FnScope N_need_size ["size"] (defScope s_need_size) := ⟨rfl, rfl, rfl, by decide +kernel, rfl, by decide +kernel, by decide +kernel⟩
abbrev s_need_picture : Stmt := topS 33
abbrev N_need_picture : List Str := ["prime", "size", "picture"]
theorem sc_need_picture : FnScope N_need_picture ["prime", "size", "picture"] (defScope s_need_picture) := ⟨rfl, rfl, rfl, by decide +kernel, rfl, by decide +kernel, by decide +kernel⟩
abbrev s_generator_of : Stmt := topS 34
abbrev N_generator_of : List Str := ["panel", "button"]
theorem sc_generator_of : FnScope N_generator_of ["panel"] (defScope s_generator_of) := ⟨rfl, rfl, rfl, by decide +kernel, rfl, by decide +kernel, by decide +kernel⟩
abbrev s_divisor_on : Stmt := topS 35
abbrev N_divisor_on : List Str := ["panel", "size", "whole", "rest"]
theorem sc_divisor_on : FnScope N_divisor_on ["panel", "size"] (defScope s_divisor_on) := ⟨rfl, rfl, rfl, by decide +kernel, rfl, by decide +kernel, by decide +kernel⟩
abbrev s_rest_of : Stmt := topS 36
abbrev N_rest_of : List Str := ["prime", "picture", "divisor", "found", "place", "colour"]
theorem sc_rest_of : FnScope N_rest_of ["prime", "picture", "divisor"] (defScope s_rest_of) := ⟨rfl, rfl, rfl, by decide +kernel, rfl, by decide +kernel, by decide +kernel⟩
abbrev s_behind_press : Stmt := topS 37
abbrev N_behind_press : List Str := ["prime", "ring", "button", "place", "times", "found", "offset", "amount", "at"]
theorem sc_behind_press : FnScope N_behind_press ["prime", "ring", "button", "place", "times"] (defScope s_behind_press) := ⟨rfl, rfl, rfl, by decide +kernel, rfl, by decide +kernel, by decide +kernel⟩
abbrev s_colours_of : Stmt := topS 38
abbrev N_colours_of : List Str := ["size", "picture", "found", "place", "colour"]
theorem sc_colours_of : FnScope N_colours_of ["size", "picture"] (defScope s_colours_of) := ⟨rfl, rfl, rfl, by decide +kernel, rfl, by decide +kernel, by decide +kernel⟩
abbrev s_picture_of : Stmt := topS 39
abbrev N_picture_of : List Str := ["ring", "place", "colour"]
theorem sc_picture_of : FnScope N_picture_of ["ring"] (defScope s_picture_of) := ⟨rfl, rfl, rfl, by decide +kernel, rfl, by decide +kernel, by decide +kernel⟩
abbrev s_lessened : Stmt := topS 40
abbrev N_lessened : List Str := ["prime", "one", "other", "times", "here", "there"]
theorem sc_lessened : FnScope N_lessened ["prime", "one", "other", "times"] (defScope s_lessened) := ⟨rfl, rfl, rfl, by decide +kernel, rfl, by decide +kernel, by decide +kernel⟩
abbrev s_lessened_by : Stmt := topS 41
abbrev N_lessened_by : List Str := ["prime", "basis", "ring", "mix", "at", "row", "used", "times"]
theorem sc_lessened_by : FnScope N_lessened_by ["prime", "basis", "ring", "mix"] (defScope s_lessened_by) := ⟨rfl, rfl, rfl, by decide +kernel, rfl, by decide +kernel, by decide +kernel⟩
abbrev s_basis_of : Stmt := topS 42
abbrev N_basis_of : List Str := ["panel", "size", "prime", "buttons", "found", "at", "start", "ring", "mix", "lit", "over", "bare", "place", "colour"]
theorem sc_basis_of : FnScope N_basis_of ["panel", "size"] (defScope s_basis_of) := ⟨rfl, rfl, rfl, by decide +kernel, rfl, by decide +kernel, by decide +kernel⟩
abbrev s_found_presses : Stmt := topS 43
abbrev N_found_presses : List Str := ["panel", "size", "picture", "prime", "buttons", "rest", "mix", "colour", "at", "times"]
theorem sc_found_presses : FnScope N_found_presses ["panel", "size", "picture"] (defScope s_found_presses) := ⟨rfl, rfl, rfl, by decide +kernel, rfl, by decide +kernel, by decide +kernel⟩
abbrev s_lamps : Stmt := topS 44
abbrev N_lamps : List Str := ["panel", "size", "presses", "found", "index", "place", "times"]
theorem sc_lamps : FnScope N_lamps ["panel", "size", "presses"] (defScope s_lamps) := ⟨rfl, rfl, rfl, by decide +kernel, rfl, by decide +kernel, by decide +kernel⟩
abbrev s_can_reach : Stmt := topS 45
abbrev N_can_reach : List Str := ["panel", "size", "picture"]
theorem sc_can_reach : FnScope N_can_reach ["panel", "size", "picture"] (defScope s_can_reach) := ⟨rfl, rfl, rfl, by decide +kernel, rfl, by decide +kernel, by decide +kernel⟩
abbrev s_presses_for : Stmt := topS 46
abbrev N_presses_for : List Str := ["panel", "size", "picture"]
theorem sc_presses_for : FnScope N_presses_for ["panel", "size", "picture"] (defScope s_presses_for) := ⟨rfl, rfl, rfl, by decide +kernel, rfl, by decide +kernel, by decide +kernel⟩
abbrev s_loss : Stmt := topS 47
abbrev N_loss : List Str := ["panel", "size"]
theorem sc_loss : FnScope N_loss ["panel", "size"] (defScope s_loss) := ⟨rfl, rfl, rfl, by decide +kernel, rfl, by decide +kernel, by decide +kernel⟩
abbrev s_law_cell : Stmt := topS 49
abbrev N_law_cell : List Str := ["_law_script", "_law_k"]
theorem sc_law_cell : FnScope N_law_cell ["_law_script", "_law_k"] (defScope s_law_cell) := ⟨rfl, rfl, rfl, by decide +kernel, rfl, by decide +kernel, by decide +kernel⟩
abbrev s_law_draw : Stmt := topS 50
abbrev N_law_draw : List Str := ["_law_cell_here", "_law_k", "_law_limit", "_law_seed", "_law_first", "_law_second", "_law_third"]
theorem sc_law_draw : FnScope N_law_draw ["_law_cell_here", "_law_k", "_law_limit"] (defScope s_law_draw) := ⟨rfl, rfl, rfl, by decide +kernel, rfl, by decide +kernel, by decide +kernel⟩
abbrev s_law_base : Stmt := topS 51
abbrev N_law_base : List Str := ["_law_cell_here"]
theorem sc_law_base : FnScope N_law_base ["_law_cell_here"] (defScope s_law_base) := ⟨rfl, rfl, rfl, by decide +kernel, rfl, by decide +kernel, by decide +kernel⟩
abbrev s_law_rule : Stmt := topS 52
abbrev N_law_rule : List Str := ["_law_cell_here", "_law_k", "_law_base_here", "_law_top", "_law_offsets", "_law_found", "_law_j", "_law_at"]
theorem sc_law_rule : FnScope N_law_rule ["_law_cell_here", "_law_k", "_law_base_here", "_law_top"] (defScope s_law_rule) := ⟨rfl, rfl, rfl, by decide +kernel, rfl, by decide +kernel, by decide +kernel⟩
abbrev s_law_pack : Stmt := topS 53
abbrev N_law_pack : List Str := ["_law_cell_here", "_law_base_here", "_law_top", "_law_many", "_law_pairs", "_law_k"]
theorem sc_law_pack : FnScope N_law_pack ["_law_cell_here", "_law_base_here", "_law_top"] (defScope s_law_pack) := ⟨rfl, rfl, rfl, by decide +kernel, rfl, by decide +kernel, by decide +kernel⟩
abbrev s_law_shape : Stmt := topS 54
abbrev N_law_shape : List Str := ["_law_cell_here", "_law_k", "_law_base_here", "_law_wide", "_law_top", "_law_found", "_law_j", "_law_place"]
theorem sc_law_shape : FnScope N_law_shape ["_law_cell_here", "_law_k", "_law_base_here", "_law_wide", "_law_top"] (defScope s_law_shape) := ⟨rfl, rfl, rfl, by decide +kernel, rfl, by decide +kernel, by decide +kernel⟩
abbrev s_law_push : Stmt := topS 55
abbrev N_law_push : List Str := ["_law_cell_here", "_law_k", "_law_pack_here", "_law_wide", "_law_top", "_law_found", "_law_j", "_law_place", "_law_at"]
theorem sc_law_push : FnScope N_law_push ["_law_cell_here", "_law_k", "_law_pack_here", "_law_wide", "_law_top"] (defScope s_law_push) := ⟨rfl, rfl, rfl, by decide +kernel, rfl, by decide +kernel, by decide +kernel⟩
abbrev s_law_lit : Stmt := topS 56
abbrev N_law_lit : List Str := ["_law_pack_here", "_law_wide", "_law_push_here", "_law_found", "_law_index", "_law_place", "_law_many", "_law_offset", "_law_amount", "_law_at"]
theorem sc_law_lit : FnScope N_law_lit ["_law_pack_here", "_law_wide", "_law_push_here"] (defScope s_law_lit) := ⟨rfl, rfl, rfl, by decide +kernel, rfl, by decide +kernel, by decide +kernel⟩
abbrev s_law_plus : Stmt := topS 59
abbrev N_law_plus : List Str := ["_law_base_here", "_law_wide", "_law_one", "_law_other", "_law_times", "_law_by", "_law_held", "_law_place", "_law_colour", "_law_at"]
theorem sc_law_plus : FnScope N_law_plus ["_law_base_here", "_law_wide", "_law_one", "_law_other", "_law_times", "_law_by"] (defScope s_law_plus) := ⟨rfl, rfl, rfl, by decide +kernel, rfl, by decide +kernel, by decide +kernel⟩
abbrev s_law_others : Stmt := topS 60
abbrev N_law_others : List Str := ["_law_cell_here", "_law_pack_here", "_law_base_here", "_law_buttons", "_law_low", "_law_high", "_law_times", "_law_by", "_law_moved", "_law_found", "_law_at", "_law_amount"]
theorem sc_law_others : FnScope N_law_others ["_law_cell_here", "_law_pack_here"] (defScope s_law_others) := ⟨rfl, rfl, rfl, by decide +kernel, rfl, by decide +kernel, by decide +kernel⟩
abbrev s_law_wound : Stmt := topS 61
abbrev N_law_wound : List Str := ["_law_pack_here", "_law_wide", "_law_cell_here", "_law_times", "_law_push_here", "_law_far", "_law_near", "_law_place", "_law_colour", "_law_small"]
theorem sc_law_wound : FnScope N_law_wound ["_law_pack_here", "_law_wide", "_law_cell_here"] (defScope s_law_wound) := ⟨rfl, rfl, rfl, by decide +kernel, rfl, by decide +kernel, by decide +kernel⟩
abbrev s_law_right : Stmt := topS 62
abbrev N_law_right : List Str := ["_law_cell_here", "_law_base_here", "_law_pack_here", "_law_wide", "_law_one", "_law_other", "_law_drawn", "_law_times", "_law_by", "_law_sums", "_law_wider", "_law_same_one", "_law_told", "_law_back", "_law_index", "_law_place", "_law_many"]
theorem sc_law_right : FnScope N_law_right ["_law_cell_here"] (defScope s_law_right) := ⟨rfl, rfl, rfl, by decide +kernel, rfl, by decide +kernel, by decide +kernel⟩
abbrev s_law : Stmt := topS 63
abbrev N_law : List Str := ["_law_script", "_law_k"]
theorem sc_law : FnScope N_law ["_law_script"] (defScope s_law) := ⟨rfl, rfl, rfl, by decide +kernel, rfl, by decide +kernel, by decide +kernel⟩
structure Top (K : PySem.W.Frag) (mg : Str → Option Value) : Prop where
  d_is_number : DefAt K mg "is_number" s_is_number
  d_is_whole : DefAt K mg "is_whole" s_is_whole
  d_is_prime : DefAt K mg "is_prime" s_is_prime
  d_is_pair : DefAt K mg "is_pair" s_is_pair
  d_fits_rule : DefAt K mg "fits_rule" s_fits_rule
  d_trimmed : DefAt K mg "trimmed" s_trimmed
  d_inverse : DefAt K mg "inverse" s_inverse
  d_scaled : DefAt K mg "scaled" s_scaled
  d_monic : DefAt K mg "monic" s_monic
  d_added : DefAt K mg "added" s_added
  d_timesed : DefAt K mg "timesed" s_timesed
  d_divided : DefAt K mg "divided" s_divided
  d_common_of_two : DefAt K mg "common_of_two" s_common_of_two
  d_gcd_of : DefAt K mg "gcd_of" s_gcd_of
  d_power_of_x : DefAt K mg "power_of_x" s_power_of_x
  d_of_rule : DefAt K mg "of_rule" s_of_rule
  d_core_of : DefAt K mg "core_of" s_core_of
  d_fits_panel : DefAt K mg "fits_panel" s_fits_panel
  d_is_lamp : DefAt K mg "is_lamp" s_is_lamp
  d_fits_picture : DefAt K mg "fits_picture" s_fits_picture
  d_is_press : DefAt K mg "is_press" s_is_press
  d_fits_presses : DefAt K mg "fits_presses" s_fits_presses
  d_need_panel : DefAt K mg "need_panel" s_need_panel
  d_need_size : DefAt K mg "need_size" s_need_size
  d_need_picture : DefAt K mg "need_picture" s_need_picture
  d_generator_of : DefAt K mg "generator_of" s_generator_of
  d_divisor_on : DefAt K mg "divisor_on" s_divisor_on
  d_rest_of : DefAt K mg "rest_of" s_rest_of
  d_behind_press : DefAt K mg "behind_press" s_behind_press
  d_colours_of : DefAt K mg "colours_of" s_colours_of
  d_picture_of : DefAt K mg "picture_of" s_picture_of
  d_lessened : DefAt K mg "lessened" s_lessened
  d_lessened_by : DefAt K mg "lessened_by" s_lessened_by
  d_basis_of : DefAt K mg "basis_of" s_basis_of
  d_found_presses : DefAt K mg "found_presses" s_found_presses
  d_lamps : DefAt K mg "lamps" s_lamps
  d_can_reach : DefAt K mg "can_reach" s_can_reach
  d_presses_for : DefAt K mg "presses_for" s_presses_for
  d_loss : DefAt K mg "loss" s_loss
  d_law_cell : DefAt K mg "_law_cell" s_law_cell
  d_law_draw : DefAt K mg "_law_draw" s_law_draw
  d_law_base : DefAt K mg "_law_base" s_law_base
  d_law_rule : DefAt K mg "_law_rule" s_law_rule
  d_law_pack : DefAt K mg "_law_pack" s_law_pack
  d_law_shape : DefAt K mg "_law_shape" s_law_shape
  d_law_push : DefAt K mg "_law_push" s_law_push
  d_law_lit : DefAt K mg "_law_lit" s_law_lit
  d_law_plus : DefAt K mg "_law_plus" s_law_plus
  d_law_others : DefAt K mg "_law_others" s_law_others
  d_law_wound : DefAt K mg "_law_wound" s_law_wound
  d_law_right : DefAt K mg "_law_right" s_law_right
  d_law : DefAt K mg "law" s_law
  n_all : mg "all" = none
  n_any : mg "any" = none
  n_bool : mg "bool" = none
  n_dict : mg "dict" = none
  n_enumerate : mg "enumerate" = none
  n_int : mg "int" = none
  n_isinstance : mg "isinstance" = none
  n_len : mg "len" = none
  n_list : mg "list" = none
  n_max : mg "max" = none
  n_min : mg "min" = none
  n_range : mg "range" = none
  n_set : mg "set" = none
  n_sorted : mg "sorted" = none
  n_sum : mg "sum" = none
  n_tuple : mg "tuple" = none
  n_zip : mg "zip" = none
  a_PRIMES : ∃ a o, mg "PRIMES" = some (.ref a) ∧ K.lookup a = some o ∧ o.cls = .type "tuple" ∧ ∃ t1 t2 t3 n, o.data = .seq #[.int 2 t1, .int 3 t2, .int 5 t3] n
section
variable {K : PySem.W.Frag} {mg : Str → Option Value}
theorem b_is_number (T : Top K mg) : Binds K (fdat K mg "is_number") ["value"] [] := T.d_is_number.F.binds fun _ _ _ _ _ _ us hl => match us, hl with | [_], _ => rfl
theorem b_is_whole (T : Top K mg) : Binds K (fdat K mg "is_whole") ["value", "low", "high"] [] := T.d_is_whole.F.binds fun _ _ _ _ _ _ us hl => match us, hl with | [_, _, _], _ => rfl
theorem b_is_prime (T : Top K mg) : Binds K (fdat K mg "is_prime") ["value"] [] := T.d_is_prime.F.binds fun _ _ _ _ _ _ us hl => match us, hl with | [_], _ => rfl
theorem b_is_pair (T : Top K mg) : Binds K (fdat K mg "is_pair") ["prime", "value"] [] := T.d_is_pair.F.binds fun _ _ _ _ _ _ us hl => match us, hl with | [_, _], _ => rfl
theorem b_fits_rule (T : Top K mg) : Binds K (fdat K mg "fits_rule") ["prime", "value"] [] := T.d_fits_rule.F.binds fun _ _ _ _ _ _ us hl => match us, hl with | [_, _], _ => rfl
theorem b_trimmed (T : Top K mg) : Binds K (fdat K mg "trimmed") ["row"] [] := T.d_trimmed.F.binds fun _ _ _ _ _ _ us hl => match us, hl with | [_], _ => rfl
theorem b_inverse (T : Top K mg) : Binds K (fdat K mg "inverse") ["prime", "colour"] [] := T.d_inverse.F.binds fun _ _ _ _ _ _ us hl => match us, hl with | [_, _], _ => rfl
theorem b_scaled (T : Top K mg) : Binds K (fdat K mg "scaled") ["prime", "row", "colour"] [] := T.d_scaled.F.binds fun _ _ _ _ _ _ us hl => match us, hl with | [_, _, _], _ => rfl
theorem b_monic (T : Top K mg) : Binds K (fdat K mg "monic") ["prime", "row"] [] := T.d_monic.F.binds fun _ _ _ _ _ _ us hl => match us, hl with | [_, _], _ => rfl
theorem b_added (T : Top K mg) : Binds K (fdat K mg "added") ["prime", "one", "other"] [] := T.d_added.F.binds fun _ _ _ _ _ _ us hl => match us, hl with | [_, _, _], _ => rfl
theorem b_timesed (T : Top K mg) : Binds K (fdat K mg "timesed") ["prime", "one", "other"] [] := T.d_timesed.F.binds fun _ _ _ _ _ _ us hl => match us, hl with | [_, _, _], _ => rfl
theorem b_divided (T : Top K mg) : Binds K (fdat K mg "divided") ["prime", "one", "other"] [] := T.d_divided.F.binds fun _ _ _ _ _ _ us hl => match us, hl with | [_, _, _], _ => rfl
theorem b_common_of_two (T : Top K mg) : Binds K (fdat K mg "common_of_two") ["prime", "one", "other"] [] := T.d_common_of_two.F.binds fun _ _ _ _ _ _ us hl => match us, hl with | [_, _, _], _ => rfl
theorem b_gcd_of (T : Top K mg) : Binds K (fdat K mg "gcd_of") ["prime", "rows"] [] := T.d_gcd_of.F.binds fun _ _ _ _ _ _ us hl => match us, hl with | [_, _], _ => rfl
theorem b_power_of_x (T : Top K mg) : Binds K (fdat K mg "power_of_x") ["prime", "many", "modulus"] [] := T.d_power_of_x.F.binds fun _ _ _ _ _ _ us hl => match us, hl with | [_, _, _], _ => rfl
theorem b_of_rule (T : Top K mg) : Binds K (fdat K mg "of_rule") ["rule"] [] := T.d_of_rule.F.binds fun _ _ _ _ _ _ us hl => match us, hl with | [_], _ => rfl
theorem b_core_of (T : Top K mg) : Binds K (fdat K mg "core_of") ["prime", "rule"] [] := T.d_core_of.F.binds fun _ _ _ _ _ _ us hl => match us, hl with | [_, _], _ => rfl
theorem b_fits_panel (T : Top K mg) : Binds K (fdat K mg "fits_panel") ["value"] [] := T.d_fits_panel.F.binds fun _ _ _ _ _ _ us hl => match us, hl with | [_], _ => rfl
theorem b_is_lamp (T : Top K mg) : Binds K (fdat K mg "is_lamp") ["prime", "size", "value"] [] := T.d_is_lamp.F.binds fun _ _ _ _ _ _ us hl => match us, hl with | [_, _, _], _ => rfl
theorem b_fits_picture (T : Top K mg) : Binds K (fdat K mg "fits_picture") ["prime", "size", "value"] [] := T.d_fits_picture.F.binds fun _ _ _ _ _ _ us hl => match us, hl with | [_, _, _], _ => rfl
theorem b_is_press (T : Top K mg) : Binds K (fdat K mg "is_press") ["panel", "size", "value"] [] := T.d_is_press.F.binds fun _ _ _ _ _ _ us hl => match us, hl with | [_, _, _], _ => rfl
theorem b_fits_presses (T : Top K mg) : Binds K (fdat K mg "fits_presses") ["panel", "size", "value"] [] := T.d_fits_presses.F.binds fun _ _ _ _ _ _ us hl => match us, hl with | [_, _, _], _ => rfl
theorem b_need_panel (T : Top K mg) : Binds K (fdat K mg "need_panel") ["panel"] [] := T.d_need_panel.F.binds fun _ _ _ _ _ _ us hl => match us, hl with | [_], _ => rfl
theorem b_need_size (T : Top K mg) : Binds K (fdat K mg "need_size") ["size"] [] := T.d_need_size.F.binds fun _ _ _ _ _ _ us hl => match us, hl with | [_], _ => rfl
theorem b_need_picture (T : Top K mg) : Binds K (fdat K mg "need_picture") ["prime", "size", "picture"] [] := T.d_need_picture.F.binds fun _ _ _ _ _ _ us hl => match us, hl with | [_, _, _], _ => rfl
theorem b_generator_of (T : Top K mg) : Binds K (fdat K mg "generator_of") ["panel"] [] := T.d_generator_of.F.binds fun _ _ _ _ _ _ us hl => match us, hl with | [_], _ => rfl
theorem b_divisor_on (T : Top K mg) : Binds K (fdat K mg "divisor_on") ["panel", "size"] [] := T.d_divisor_on.F.binds fun _ _ _ _ _ _ us hl => match us, hl with | [_, _], _ => rfl
theorem b_rest_of (T : Top K mg) : Binds K (fdat K mg "rest_of") ["prime", "picture", "divisor"] [] := T.d_rest_of.F.binds fun _ _ _ _ _ _ us hl => match us, hl with | [_, _, _], _ => rfl
theorem b_behind_press (T : Top K mg) : Binds K (fdat K mg "behind_press") ["prime", "ring", "button", "place", "times"] [] := T.d_behind_press.F.binds fun _ _ _ _ _ _ us hl => match us, hl with | [_, _, _, _, _], _ => rfl
theorem b_colours_of (T : Top K mg) : Binds K (fdat K mg "colours_of") ["size", "picture"] [] := T.d_colours_of.F.binds fun _ _ _ _ _ _ us hl => match us, hl with | [_, _], _ => rfl
theorem b_picture_of (T : Top K mg) : Binds K (fdat K mg "picture_of") ["ring"] [] := T.d_picture_of.F.binds fun _ _ _ _ _ _ us hl => match us, hl with | [_], _ => rfl
theorem b_lessened (T : Top K mg) : Binds K (fdat K mg "lessened") ["prime", "one", "other", "times"] [] := T.d_lessened.F.binds fun _ _ _ _ _ _ us hl => match us, hl with | [_, _, _, _], _ => rfl
theorem b_lessened_by (T : Top K mg) : Binds K (fdat K mg "lessened_by") ["prime", "basis", "ring", "mix"] [] := T.d_lessened_by.F.binds fun _ _ _ _ _ _ us hl => match us, hl with | [_, _, _, _], _ => rfl
theorem b_basis_of (T : Top K mg) : Binds K (fdat K mg "basis_of") ["panel", "size"] [] := T.d_basis_of.F.binds fun _ _ _ _ _ _ us hl => match us, hl with | [_, _], _ => rfl
theorem b_found_presses (T : Top K mg) : Binds K (fdat K mg "found_presses") ["panel", "size", "picture"] [] := T.d_found_presses.F.binds fun _ _ _ _ _ _ us hl => match us, hl with | [_, _, _], _ => rfl
theorem b_lamps (T : Top K mg) : Binds K (fdat K mg "lamps") ["panel", "size", "presses"] [] := T.d_lamps.F.binds fun _ _ _ _ _ _ us hl => match us, hl with | [_, _, _], _ => rfl
theorem b_can_reach (T : Top K mg) : Binds K (fdat K mg "can_reach") ["panel", "size", "picture"] [] := T.d_can_reach.F.binds fun _ _ _ _ _ _ us hl => match us, hl with | [_, _, _], _ => rfl
theorem b_presses_for (T : Top K mg) : Binds K (fdat K mg "presses_for") ["panel", "size", "picture"] [] := T.d_presses_for.F.binds fun _ _ _ _ _ _ us hl => match us, hl with | [_, _, _], _ => rfl
theorem b_loss (T : Top K mg) : Binds K (fdat K mg "loss") ["panel", "size"] [] := T.d_loss.F.binds fun _ _ _ _ _ _ us hl => match us, hl with | [_, _], _ => rfl
theorem b_law_cell (T : Top K mg) : Binds K (fdat K mg "_law_cell") ["_law_script", "_law_k"] [] := T.d_law_cell.F.binds fun _ _ _ _ _ _ us hl => match us, hl with | [_, _], _ => rfl
theorem b_law_draw (T : Top K mg) : Binds K (fdat K mg "_law_draw") ["_law_cell_here", "_law_k", "_law_limit"] [] := T.d_law_draw.F.binds fun _ _ _ _ _ _ us hl => match us, hl with | [_, _, _], _ => rfl
theorem b_law_base (T : Top K mg) : Binds K (fdat K mg "_law_base") ["_law_cell_here"] [] := T.d_law_base.F.binds fun _ _ _ _ _ _ us hl => match us, hl with | [_], _ => rfl
theorem b_law_rule (T : Top K mg) : Binds K (fdat K mg "_law_rule") ["_law_cell_here", "_law_k", "_law_base_here", "_law_top"] [] := T.d_law_rule.F.binds fun _ _ _ _ _ _ us hl => match us, hl with | [_, _, _, _], _ => rfl
theorem b_law_pack (T : Top K mg) : Binds K (fdat K mg "_law_pack") ["_law_cell_here", "_law_base_here", "_law_top"] [] := T.d_law_pack.F.binds fun _ _ _ _ _ _ us hl => match us, hl with | [_, _, _], _ => rfl
theorem b_law_shape (T : Top K mg) : Binds K (fdat K mg "_law_shape") ["_law_cell_here", "_law_k", "_law_base_here", "_law_wide", "_law_top"] [] := T.d_law_shape.F.binds fun _ _ _ _ _ _ us hl => match us, hl with | [_, _, _, _, _], _ => rfl
theorem b_law_push (T : Top K mg) : Binds K (fdat K mg "_law_push") ["_law_cell_here", "_law_k", "_law_pack_here", "_law_wide", "_law_top"] [] := T.d_law_push.F.binds fun _ _ _ _ _ _ us hl => match us, hl with | [_, _, _, _, _], _ => rfl
theorem b_law_lit (T : Top K mg) : Binds K (fdat K mg "_law_lit") ["_law_pack_here", "_law_wide", "_law_push_here"] [] := T.d_law_lit.F.binds fun _ _ _ _ _ _ us hl => match us, hl with | [_, _, _], _ => rfl
theorem b_law_plus (T : Top K mg) : Binds K (fdat K mg "_law_plus") ["_law_base_here", "_law_wide", "_law_one", "_law_other", "_law_times", "_law_by"] [] := T.d_law_plus.F.binds fun _ _ _ _ _ _ us hl => match us, hl with | [_, _, _, _, _, _], _ => rfl
theorem b_law_others (T : Top K mg) : Binds K (fdat K mg "_law_others") ["_law_cell_here", "_law_pack_here"] [] := T.d_law_others.F.binds fun _ _ _ _ _ _ us hl => match us, hl with | [_, _], _ => rfl
theorem b_law_wound (T : Top K mg) : Binds K (fdat K mg "_law_wound") ["_law_pack_here", "_law_wide", "_law_cell_here"] [] := T.d_law_wound.F.binds fun _ _ _ _ _ _ us hl => match us, hl with | [_, _, _], _ => rfl
theorem b_law_right (T : Top K mg) : Binds K (fdat K mg "_law_right") ["_law_cell_here"] [] := T.d_law_right.F.binds fun _ _ _ _ _ _ us hl => match us, hl with | [_], _ => rfl
theorem b_law (T : Top K mg) : Binds K (fdat K mg "law") ["_law_script"] [] := T.d_law.F.binds fun _ _ _ _ _ _ us hl => match us, hl with | [_], _ => rfl
end
end Rg
end
section
set_option Elab.async false
set_option linter.all false
set_option maxRecDepth 100000
/-! While loops, == of data, dicts over Rep. -/
namespace Rg
open PySem PySem.Spec PyProof.Rows L2 RZ
section
variable {α β γ δ : Type} {K : PySem.W.Frag} {σ : L2.St} {H H' : Hp} {ta tb te tx tl tr : TE} {t tt : TT} {R : Rep α} {S : Rep β} {T : Rep γ} {D : Ends} {tu tw tz : TS}
theorem s_retE {d d' : α} (h : Ev te σ H R d) (k : ∀ v H1, Same H H1 → R H1 v d' → D.rt v H1) (e : d = d') : tRet te D σ H := s_ret h fun v H1 a r => k v H1 a (e ▸ r)
theorem s_setE {i : Nat} {d d' : α} (h : Ev te σ H R d) (e : d = d') (k : ∀ v H1, Same H H1 → R H1 v d' → tz D (σ.set i (some v)) H1) : tSeq (tAsg te (gName i)) tz D σ H := s_set h fun v H1 a r => k v H1 a (e ▸ r)
theorem s_while (W : Nat → L2.St → Hp → Prop) (m0 : Nat) (h0 : W m0 σ H)
    (hs : ∀ m σ' H', W m σ' H' → ∃ b, EvT t σ' H' b ∧ (b = true → ∀ H1, Same H' H1 → tu { D with nx := fun σ2 H2 => ∃ m', m' < m ∧ W m' σ2 H2, ct := fun σ2 H2 => ∃ m', m' < m ∧ W m' σ2 H2, bk := tz D } σ' H1) ∧ (b = false → ∀ H1, Same H' H1 → tz D σ' H1)) :
    tSeq (tWhile t tu) tz D σ H := ⟨W, ⟨m0, h0⟩, fun m σ' H' w => by
  obtain ⟨b, hb, h1, h2⟩ := hs m σ' H' w
  refine hb H' (Same.refl _) _ fun H1 e => ?_
  cases b with
  | true => exact ⟨_, fun _ _ n => n, h1 rfl H1 e⟩
  | false => exact h2 rfl H1 e⟩
/-! == with the empty tuple, the empty list -/
class Dt (K : PySem.W.Frag) {α : Type} (R : Rep α) (n : outParam Nat) : Prop where
  dt : ∀ {H : Hp} {v : V} {d : α}, R H v d → ∃ e, Dp K H v e ∧ e.canLay0 = true ∧ e.depth ≤ n
theorem dt_all {n : Nat} [Dt K R n] {xs : List V} {ds : List α} (h : Paired (R H) xs ds) : ∃ es, DpAll K H xs es ∧ PyData.canLayAll0 es = true ∧ PyData.depthAll es ≤ n ∧ es.length = ds.length := by
  induction h with
  | nil => exact ⟨[], .nil, rfl, Nat.zero_le _, rfl⟩
  | cons r _ ih =>
    obtain ⟨e, h1, h2, h3⟩ := Dt.dt (K := K) (R := R) r
    obtain ⟨es, g1, g2, g3, g4⟩ := ih
    exact ⟨e :: es, .cons h1 g1, by simp [PyData.canLayAll0, h2, g2], by simp only [PyData.depthAll]; omega, by rw [List.length_cons, List.length_cons, g4]⟩
instance : Dt K RI 0 := ⟨fun {H v d} h => by cases h; exact ⟨.int d, .int d, rfl, Nat.le_refl _⟩⟩
instance : Dt K RB 0 := ⟨fun {H v d} h => by cases h; exact ⟨.bool d, .bl d, rfl, Nat.le_refl _⟩⟩
instance {n : Nat} [Dt K R n] : Dt K (RT K R) (n + 1) := ⟨fun ⟨a, xs, e, h, p⟩ => by
  subst e
  obtain ⟨es, g1, g2, g3, _⟩ := dt_all (K := K) p
  exact ⟨.tuple es, .tup h g1, by simpa [PyData.canLay0] using g2, by simp only [PyData.depth]; omega⟩⟩
instance {n m : Nat} [Dt K R n] [Dt K S m] : Dt K (RP K R S) (max n m + 1) := ⟨fun ⟨a, x, y, e, h, p, q⟩ => by
  subst e
  obtain ⟨e1, g1, g2, g3⟩ := Dt.dt (K := K) (R := R) p
  obtain ⟨e2, h1, h2, h3⟩ := Dt.dt (K := K) (R := S) q
  exact ⟨.tuple [e1, e2], .tup h (.cons g1 (.cons h1 .nil)), by simp [PyData.canLay0, PyData.canLayAll0, g2, h2], by simp only [PyData.depth, PyData.depthAll]; omega⟩⟩
theorem eqv_nilT (es : List PyData) : PyData.eqv (.tuple es) (.tuple []) = es.isEmpty := by cases es <;> simp [PyData.eqv, PyData.eqvAll]
theorem eqv_nilL (es : List PyData) : PyData.eqv (.list es) (.list []) = es.isEmpty := by cases es <;> simp [PyData.eqv, PyData.eqvAll]
theorem empty_len {xs : List α} {ys : List β} (h : xs.length = ys.length) : xs.isEmpty = ys.isEmpty := by cases xs <;> cases ys <;> simp_all
theorem shaped_of {e : PyData} {n : Nat} (h1 : e.canLay0 = true) (h2 : e.depth ≤ n) (hn : n ≤ 64) : SeqAt.shaped e = true := by
  unfold SeqAt.shaped
  rw [h1, decide_eq_true (Nat.le_trans h2 hn)]
  rfl
theorem ev_neNilT {n : Nat} [Dt K R n] [Tm R] {ds : List α} (ha : Ev ta σ H (RT K R) ds) (hn : n + 1 ≤ 64 := by decide) : Ev (tOp (rNeD K) ta (tTup tNil)) σ H RB (!ds.isEmpty) := fun H1 e Q q =>
  ha H1 e _ fun x H2 e2 r => ⟨Nat.zero_le _, fun p hp => by
    obtain ⟨a, xs, rfl, hx, px⟩ := (Sm.sm (same_new (o := .tup []) hp) r : RT K R _ x ds)
    obtain ⟨es, g1, g2, g3, g4⟩ := dt_all (K := K) px
    refine ⟨.tuple es, .tuple [], .tup hx g1, .tup (SqT.of upd_same) .nil, shaped_of (by simpa [PyData.canLay0] using g2) (by simp only [PyData.depth]; exact Nat.succ_le_succ g3) hn, by decide, ?_⟩
    exact q _ _ (e2.trans (same_new hp)) (by rw [eqv_nilT, empty_len g4]; rfl)⟩
theorem ev_eqNilT {n : Nat} [Dt K R n] [Tm R] {ds : List α} (ha : Ev ta σ H (RT K R) ds) (hn : n + 1 ≤ 64 := by decide) : Ev (tOp (rEqD K) ta (tTup tNil)) σ H RB ds.isEmpty := fun H1 e Q q =>
  ha H1 e _ fun x H2 e2 r => ⟨Nat.zero_le _, fun p hp => by
    obtain ⟨a, xs, rfl, hx, px⟩ := (Sm.sm (same_new (o := .tup []) hp) r : RT K R _ x ds)
    obtain ⟨es, g1, g2, g3, g4⟩ := dt_all (K := K) px
    refine ⟨.tuple es, .tuple [], .tup hx g1, .tup (SqT.of upd_same) .nil, shaped_of (by simpa [PyData.canLay0] using g2) (by simp only [PyData.depth]; exact Nat.succ_le_succ g3) hn, by decide, ?_⟩
    exact q _ _ (e2.trans (same_new hp)) (by rw [eqv_nilT, empty_len g4]; rfl)⟩
theorem ev_neNilL {n : Nat} [Dt K R n] [Tm R] {ds : List α} (ha : Ev ta σ H (RL K R) ds) (hn : n + 1 ≤ 64 := by decide) : Ev (tOp (rNeD K) ta (tLst tNil)) σ H RB (!ds.isEmpty) := fun H1 e Q q =>
  ha H1 e _ fun x H2 e2 r => ⟨Nat.zero_le _, fun p hp => by
    obtain ⟨a, xs, rfl, hx, px⟩ := (Sm.sm (same_new (o := .lst []) hp) r : RL K R _ x ds)
    obtain ⟨es, g1, g2, g3, g4⟩ := dt_all (K := K) px
    refine ⟨.list es, .list [], .lst hx g1, .lst (SqL.of upd_same) .nil, shaped_of (by simpa [PyData.canLay0] using g2) (by simp only [PyData.depth]; exact Nat.succ_le_succ g3) hn, by decide, ?_⟩
    exact q _ _ (e2.trans (same_new hp)) (by rw [eqv_nilL, empty_len g4]; rfl)⟩
/-! places of lists -/
theorem atI_getZ {l : List Int} {i : Int} (h0 : 0 ≤ i) (h1 : i < l.length) : atI l i = some (getZ l i) := by
  have h : l[i.toNat]? = some (getZ l i) := by
    unfold getZ
    rw [List.getD_eq_getElem?_getD, List.getElem?_eq_getElem (by omega)]
    rfl
  have := atI_nat h
  rwa [Int.toNat_of_nonneg h0] at this
theorem atI_m1 {α : Type} {l : List α} {x : α} (h : l.getLast? = some x) : atI l (-1) = some x := by
  have hne : l ≠ [] := by rintro rfl; simp at h
  have e := List.dropLast_concat_getLast hne
  rw [← e]
  rw [List.getLast?_eq_getLast hne] at h
  rw [Option.some.inj h]
  exact atI_last _ _
theorem lst_get {r : Row} (h : r ≠ []) : r.getLast? = some (lst r) := by
  rw [List.getLast?_eq_getLast h]
  unfold lst
  rw [List.getLastD_eq_getLast?, List.getLast?_eq_getLast h]
  rfl
theorem atI_lst {r : Row} (h : r ≠ []) : atI r (-1) = some (lst r) := atI_m1 (lst_get h)
theorem atI_0 {α : Type} {l : List α} {x : α} (h : l[0]? = some x) : atI l 0 = some x := atI_nat (j := 0) h
theorem cmul_l {a b : Int} (h0 : -100 ≤ a) (h1 : a ≤ 100) : CMul a b := .inl ⟨by omega, by omega⟩
theorem cmul_r {a b : Int} (h0 : -100 ≤ b) (h1 : b ≤ 100) : CMul a b := .inr ⟨by omega, by omega⟩
/-- a list's place read, xs tracked -/
theorem ev_getM {i : Nat} {l : Addr} {ns : List Int} {j : Int} (hl : H l = some (.lst (ns.map V.int))) (ho : σ[i]? = some (some (.ref l))) (hb : Ev tb σ H RI j) (h0 : 0 ≤ j) (h1 : j < ns.length) : Ev (tOp (rIxL K) (tVar i) tb) σ H RI (getZ ns j) :=
  ev_ixL (R := RI) (ev_var (R := RL K RI) ho ⟨l, _, rfl, SqL.of hl, ri_pd ns⟩) hb (atI_getZ h0 h1)
theorem map_set (ns : List Int) (j v : Int) : (ns.map V.int).set j.toNat (.int v) = (setZ ns j v).map V.int := by unfold setZ; rw [List.map_set]
/-- xs[j] = an int -/
theorem e_putI {i : Nat} {l : Addr} {ns : List Int} {j v : Int} (hl : H l = some (.lst (ns.map V.int))) (h : Ev te σ H RI v) (ho : σ[i]? = some (some (.ref l))) (hi : Ev tb σ H RI j) (hj0 : 0 ≤ j) (hj : j < ns.length)
    (k : ∀ H1, Same H H1 → D.nx σ (upd H1 l (.lst ((setZ ns j v).map V.int)))) : tAsg te (gSub (tVar i) tb rSetL) D σ H := e_put hl h ho hi hj0 (by rw [List.length_map]; exact hj) fun u H1 e r => by
  cases r
  rw [map_set]
  exact k H1 e
theorem s_putI {i : Nat} {l : Addr} {ns : List Int} {j v : Int} (hl : H l = some (.lst (ns.map V.int))) (h : Ev te σ H RI v) (ho : σ[i]? = some (some (.ref l))) (hi : Ev tb σ H RI j) (hj0 : 0 ≤ j) (hj : j < ns.length)
    (k : ∀ H1, Same H H1 → tz D σ (upd H1 l (.lst ((setZ ns j v).map V.int)))) : tSeq (tAsg te (gSub (tVar i) tb rSetL)) tz D σ H := e_putI (D := { D with nx := tz D }) hl h ho hi hj0 hj k
/-- [0] * n -/
theorem en_zeros {n : Int} (hb : Ev tb σ H RI n) (hn : n ≤ 100000) (h0 : -100000 ≤ n) : EvN (tOp rRep (tLst (tCons (tC (.int 0)) tNil)) tb) σ H RI (zeros n) := en_rep (en_lst (es_cons ev_int es_nil) (by decide)) hb hn h0
/-- a new list of ints kept by its ints -/
theorem s_setZ {i : Nat} {ns : List Int} (h : EvN te σ H RI ns) (k : ∀ p H1, H p = none → Same H H1 → H1 p = some (.lst (ns.map V.int)) → tz D (σ.set i (some (.ref p))) H1) : tSeq (tAsg te (gName i)) tz D σ H :=
  s_setN h fun p xs H1 hp e hx px => k p H1 hp e (by rw [hx, pd_ri px])
theorem rl_int {l : Addr} {ns : List Int} (h : H l = some (.lst (ns.map V.int))) : RL K RI H (.ref l) ns := ⟨l, _, rfl, SqL.of h, ri_pd ns⟩
theorem rm_int {l : Addr} {ns : List Int} (h : H l = some (.lst (ns.map V.int))) : RM RI H (.ref l) ns := ⟨l, _, rfl, h, ri_pd ns⟩
end
abbrev rLenK (K : PySem.W.Frag) : List V → Hp → VK → Prop := fun xs H Q => ∃ p ys, xs = [.ref p] ∧ (SqL K H p ys ∨ SqT K H p ys) ∧ Q (.int ys.length) H
theorem call_lenK {X : Cx} : CallR X (.builtin "len") (rLenK X.K) := call_len_seq
abbrev RRow (K : PySem.W.Frag) : Rep Row := RT K RI
abbrev RPair (K : PySem.W.Frag) : Rep (Int × Int) := RP K RI RI
abbrev RPic (K : PySem.W.Frag) : Rep (List (Int × Int)) := RT K (RPair K)
abbrev RTrip (K : PySem.W.Frag) : Rep (Int × Int × Int) := RQ K RI RI RI
abbrev RPanel (K : PySem.W.Frag) : Rep Panel := RP K RI (RT K (RPic K))
abbrev RPush (K : PySem.W.Frag) : Rep Push := RT K (RTrip K)
abbrev RBasis (K : PySem.W.Frag) : Rep Basis := RL K (RQ K RI (RRow K) (RRow K))
end Rg
end
section
set_option Elab.async false
set_option linter.all false
set_option maxRecDepth 100000
set_option maxHeartbeats 4000000
open PySem PySem.Spec PyProof.Rows L2 RZ Rg
local macro_rules | `(tactic| walk_at "ev1") => `(tactic| first
  | exact ev_isTupT (ev_p1 (ev_var rfl (by assumption)))
  | exact ev_lenT (ev_p1 (ev_var rfl (by assumption)))
  | exact ev_lenT (ev_p0 (ev_var rfl (by assumption)))
  | exact ev_isInt (ev_p0 (ev_var rfl (by assumption)))
  | exact ev_isInt (ev_var rfl rfl)
  | exact ev_isBool (ev_var rfl rfl)
  | exact ev_isTupT (ev_var rfl (by assumption))
  | exact ev_isTupP (ev_var rfl (by assumption))
  | exact ev_isTupQ (ev_var rfl (by assumption))
  | exact ev_lenT (ev_var rfl (by assumption))
  | exact ev_lenP (ev_var rfl (by assumption))
  | exact ev_lenQ (ev_var rfl (by assumption))
  | exact ev_int
  | exact ev_bl
  | exact ev_var rfl rfl
  | exact ev_var rfl (by assumption)
  | exact ea_nil
  | apply ea_cons
  | apply ev_call
  | apply ev_add
  | apply ev_sub
  | apply ev_mul
  | apply ev_mod
  | apply ev_fdiv
  | apply ev_lt
  | apply ev_le
  | apply ev_gt
  | apply ev_ge
  | apply ev_eq
  | apply ev_ne
  | apply ev_neg
  | apply ev_p0
  | apply ev_p1
  | apply ev_q0
  | apply ev_q1
  | apply ev_q2
  | apply ev_int1
  | apply ev_notV
  | apply ev_andV
  | apply ev_orV
  | apply et_test
  | apply et_B
  | apply et_and
  | apply et_or
  | apply et_not
  | exact True.intro
  | (with_reducible intro _)
  | (show (_ : Int) < _; assumption))
local macro_rules | `(tactic| walk_at "ev") => `(tactic| repeat' (walk_at "ev1"))

namespace Rg
section
variable {P : Program} {w : World} {K : PySem.W.Frag} {mg : Str → Option Value} {base : Heap}
theorem ok_is_number (T : Top K mg) : FnOk P w K mg base CX0 1 (adr mg "is_number") (fdat K mg "is_number") ["value"] (spF (AC RI A0) RB (fun _ => True) fun _ => true) := by
  refine fnF T.d_is_number.F sc_is_number rfl fun cdv Ar outer s H vs Q d hr hA hp q => ?_
  obtain ⟨d, _⟩ := d
  obtain ⟨_, _, rfl, rfl, rfl⟩ := hA
  refine ⟨_, (pss_one (ps_ret (pe_and (pe_callB call_isi (by rfl) T.n_isinstance (by decide +kernel) (pa_cons (pv 0) (pa_cons (pe_bltn (v := .ty "int") (by rfl) T.n_int (by decide +kernel) rfl) pa_nil))) (pe_one (pe_not (pe_callB call_isi (by rfl) T.n_isinstance (by decide +kernel) (pa_cons (pv 0) (pa_cons (pe_bltn (v := .ty "bool") (by rfl) T.n_bool (by decide +kernel) rfl) pa_nil)))))))), ?_⟩
  apply s_retE (R := RB)
  · walk_at "ev"
  · exact q
  · rfl
theorem ok_is_whole (T : Top K mg) : FnOk P w K mg base CX0 2 (adr mg "is_whole") (fdat K mg "is_whole") ["value", "low", "high"] (spF (AC RI (AC RI (AC RI A0))) RB (fun _ => True) fun d => decide (d.2.1 ≤ d.1) && decide (d.1 ≤ d.2.2.1)) := by
  refine fnF T.d_is_whole.F sc_is_whole rfl fun cdv Ar outer s H vs Q d hr hA hp q => ?_
  obtain ⟨d, lo, hi, _⟩ := d
  obtain ⟨_, _, rfl, rfl, _, _, rfl, rfl, _, _, rfl, rfl, rfl⟩ := hA
  refine ⟨_, (pss_one (ps_ret (pe_and (pe_def T.d_is_number (ok_is_number T) (b_is_number T) (hr.mono (by decide)) (by rfl) (pa_cons (pv 0) pa_nil)) (pe_one (pe_chain op_le op_le (pv 1) (pv 0) (pv 2)))))), ?_⟩
  refine s_retE (R := RB) (ev_andV (a := true) (b := decide (lo ≤ d) && decide (d ≤ hi)) (by walk_at "ev") fun _ => ?_) q ?_
  · exact ev_chain (g := fun i j => decide (i ≤ j)) (g' := fun i j => decide (i ≤ j)) (ev_var rfl rfl) (ev_var rfl rfl) (fun _ => ev_var rfl rfl)
  · rfl
theorem ok_is_prime (T : Top K mg) : FnOk P w K mg base CX0 2 (adr mg "is_prime") (fdat K mg "is_prime") ["value"] (spF (AC RI A0) RB (fun d => Pr d.1) fun _ => true) := by
  refine fnF T.d_is_prime.F sc_is_prime rfl fun cdv Ar outer s H vs Q d hr hA hp q => ?_
  obtain ⟨d, _⟩ := d
  obtain ⟨_, _, rfl, rfl, rfl⟩ := hA
  obtain ⟨a, o, hg, hk, hc, t1, t2, t3, n, hd⟩ := T.a_PRIMES
  refine ⟨_, pss_one (ps_ret (pe_and (pe_def T.d_is_number (ok_is_number T) (b_is_number T) (hr.mono (by decide)) (by rfl) (pa_cons (pv 0) pa_nil)) (pe_one (pe_cmpR op_in_seq (pv 0) (pe_glob (v := .ref a) (by rfl) hg rfl) (by rfl))))), ?_⟩
  refine s_retE (R := RB) (ev_andV (a := true) (b := true) (by walk_at "ev") fun _ => ?_) q rfl
  intro H1 e1 Q1 q1
  refine ⟨.int d, rfl, a, [.int 2, .int 3, .int 5], rfl, .inr (.inr ⟨o, _, n, hk, hc, hd, by show 3 ≤ sizeLine; decide, .cons ⟨_, rfl⟩ (.cons ⟨_, rfl⟩ (.cons ⟨_, rfl⟩ .nil))⟩), rfl, rfl, ?_⟩
  rcases hp with hp | hp | hp
  all_goals
    have hp : d = _ := hp
    subst hp
    exact q1 _ H1 (Same.refl H1) rfl
theorem ok_is_pair (T : Top K mg) : FnOk P w K mg base CX0 3 (adr mg "is_pair") (fdat K mg "is_pair") ["prime", "value"] (spF (AC RI (AC (RPair K) A0)) RB (fun _ => True) fun d => decide (1 ≤ d.2.1.2) && decide (d.2.1.2 ≤ d.1 - 1)) := by
  refine fnF T.d_is_pair.F sc_is_pair rfl fun cdv Ar outer s H vs Q d hr hA hp q => ?_
  obtain ⟨p, ⟨x, y⟩, _⟩ := d
  obtain ⟨_, _, rfl, rfl, v, _, rfl, hv, rfl⟩ := hA
  refine ⟨_, (pss_one (ps_ret (pe_and (pe_callB call_isi (by rfl) T.n_isinstance (by decide +kernel) (pa_cons (pv 1) (pa_cons (pe_bltn (v := .ty "tuple") (by rfl) T.n_tuple (by decide +kernel) rfl) pa_nil))) (pe_and (pe_cmpR op_eq (pe_callB (r := rLenK K) call_lenK (by rfl) T.n_len (by decide +kernel) (pa_cons (pv 1) pa_nil)) pe_int (nomark _)) (pe_and (pe_def T.d_is_number (ok_is_number T) (b_is_number T) (hr.mono (by decide)) (by rfl) (pa_cons (pe_ix (r := rIxT K) ix_tup (pv 1) pe_int (fun _ _ => rfl)) pa_nil)) (pe_one (pe_def T.d_is_whole (ok_is_whole T) (b_is_whole T) (hr.mono (by decide)) (by rfl) (pa_cons (pe_ix (r := rIxT K) ix_tup (pv 1) pe_int (fun _ _ => rfl)) (pa_cons pe_int (pa_cons (pe_op op_sub (pv 0) pe_int) pa_nil)))))))))), ?_⟩
  apply s_retE (R := RB)
  · walk_at "ev"
  · exact q
  · simp
end
end Rg
end
section
set_option Elab.async false
set_option linter.all false
set_option maxRecDepth 100000
set_option maxHeartbeats 4000000
open PySem PySem.Spec PyProof.Rows L2 RZ Rg
local macro_rules | `(tactic| walk_at "ev1") => `(tactic| first
  | exact ev_isTupT (ev_p1 (ev_var rfl (by assumption)))
  | exact ev_lenT (ev_p1 (ev_var rfl (by assumption)))
  | exact ev_lenT (ev_p0 (ev_var rfl (by assumption)))
  | exact ev_isInt (ev_p0 (ev_var rfl (by assumption)))
  | exact ev_isInt (ev_var rfl rfl)
  | exact ev_isBool (ev_var rfl rfl)
  | exact ev_isTupT (ev_var rfl (by assumption))
  | exact ev_isTupP (ev_var rfl (by assumption))
  | exact ev_isTupQ (ev_var rfl (by assumption))
  | exact ev_lenT (ev_var rfl (by assumption))
  | exact ev_lenP (ev_var rfl (by assumption))
  | exact ev_lenQ (ev_var rfl (by assumption))
  | exact ev_int
  | exact ev_bl
  | exact ev_var rfl rfl
  | exact ev_var rfl (by assumption)
  | exact ea_nil
  | apply ea_cons
  | apply ev_call
  | apply ev_add
  | apply ev_sub
  | apply ev_mul
  | apply ev_mod
  | apply ev_fdiv
  | apply ev_lt
  | apply ev_le
  | apply ev_gt
  | apply ev_ge
  | apply ev_eq
  | apply ev_ne
  | apply ev_neg
  | apply ev_p0
  | apply ev_p1
  | apply ev_q0
  | apply ev_q1
  | apply ev_q2
  | apply ev_int1
  | apply ev_notV
  | apply ev_andV
  | apply ev_orV
  | apply et_test
  | apply et_B
  | apply et_and
  | apply et_or
  | apply et_not
  | exact True.intro
  | (with_reducible intro _)
  | (show (_ : Int) < _; assumption))
local macro_rules | `(tactic| walk_at "ev") => `(tactic| repeat' (walk_at "ev1"))

namespace Rg
section
variable {P : Program} {w : World} {K : PySem.W.Frag} {mg : Str → Option Value} {base : Heap}
theorem all_map {α : Type} {f : α → Bool} : ∀ {l : List α}, (∀ x ∈ l, f x = true) → (l.map f).all id = true := fun {l} h => by
  rw [List.all_eq_true]
  intro y hy
  obtain ⟨x, hx, rfl⟩ := List.mem_map.mp hy
  exact h x hx
theorem ok_fits_rule (T : Top K mg) : FnOk P w K mg base CX0 4 (adr mg "fits_rule") (fdat K mg "fits_rule") ["prime", "value"] (spF (AC RI (AC (RPic K) A0)) RB (fun d => RuleV d.1 d.2.1) fun _ => true) := by
  refine fnF T.d_fits_rule.F sc_fits_rule rfl fun cdv Ar outer s H vs Q d hr hA hp q => ?_
  obtain ⟨p, r, _⟩ := d
  obtain ⟨_, _, rfl, rfl, v, _, rfl, hv, rfl⟩ := hA
  have hv : RPic K H v r := hv
  obtain ⟨h1, h2, h3, _⟩ : RuleV p r := hp
  refine ⟨_, (pss_cons (ps_if (PW.pt (pw_or (pt_not (pt_val (pe_callB call_isi (by rfl) T.n_isinstance (by decide +kernel) (pa_cons (pv 1) (pa_cons (pe_bltn (v := .ty "tuple") (by rfl) T.n_tuple (by decide +kernel) rfl) pa_nil))))) (pw_or1 (pt_not (pt_val (pe_callB (cr_all rfl) (by rfl) T.n_all (by decide +kernel) (pa_cons (pe_lc (own := [("part", 4)]) (g := (gName 4)) rfl sc_fits_rule.nd (pi_tup (pv 1)) (blkOk_by (N := N_fits_rule) (sc := defScope s_fits_rule) (by decide +kernel)) (fun _ _ _ _ _ => (pg_name (i := 4) sc_fits_rule.nd rfl (.inl rfl))) (fun _ _ _ _ _ => pts_nil) (fun _ _ _ _ _ => (pe_def T.d_is_pair (ok_is_pair T) (b_is_pair T) (hr.mono (by decide)) (by rfl) (pa_cons (pv 0) (pa_cons (pv 4) pa_nil))))) pa_nil)))))))
      (pss_one (ps_ret pe_bl))
      pss_nil)
    (pss_one (ps_ret (pe_callB (cr_all rfl) (by rfl) T.n_all (by decide +kernel) (pa_cons (pe_lc (own := [("here", 2), ("there", 3)]) (g := (gTup K 2 (gCons (gName 2) (gCons (gName 3) gNil)))) rfl sc_fits_rule.nd (pi_zipA (by rfl) T.n_zip (pa_cons (pv 1) (pa_cons (pe_slice sl_tupA (pv 1) (po_some pe_int) po_none) pa_nil))) (blkOk_by (N := N_fits_rule) (sc := defScope s_fits_rule) (by decide +kernel)) (fun _ _ _ _ _ => (pg_tup rfl (pgs_cons (pg_name (i := 2) sc_fits_rule.nd rfl (.inl rfl)) (pgs_cons (pg_name (i := 3) sc_fits_rule.nd rfl (.inl rfl)) pgs_nil)))) (fun _ _ _ _ _ => pts_nil) (fun _ _ _ _ _ => (pe_cmpR op_lt (pe_ix (r := rIxT K) ix_tup (pv 2) pe_int (fun _ _ => rfl)) (pe_ix (r := rIxT K) ix_tup (pv 3) pe_int (fun _ _ => rfl)) (nomark _)))) pa_nil))))), ?_⟩
  refine s_no ?_ fun H1 e1 => ?_
  · refine (et_or (a := false) (b := false) ((et_not (et_B (ev_isTupT (ev_var (R := RPic K) rfl hv)))).is rfl) fun _ => (et_not (et_B ((ev_all (en_lm1 (S := RB) (fun d : Int × Int => decide (1 ≤ d.2) && decide (d.2 ≤ p - 1)) (src_tup (ev_var (R := RPic K) rfl hv)).same (by omega) fun d u H' hd e ru => ⟨rfl, ?_⟩).l).is (all_map fun x hx => ?_)))).is rfl).is rfl
    · apply Ev.is
      · walk_at "ev"
      · rfl
    · have := h1 x hx
      rw [decide_eq_true (by omega), decide_eq_true (by omega)]
      rfl
  · have hv := Sm.sm e1 hv
    refine s_ret ((ev_all (en_lm2 (T := RB) (fun d : (Int × Int) × (Int × Int) => decide (d.1.1 < d.2.1)) (src_zipT (ev_var (R := RPic K) rfl hv) (ev_tail (ev_var (R := RPic K) rfl hv))).same (by rw [List.length_zip]; omega) fun a b u u' H' hd e ru ru' => ⟨rfl, ?_⟩).l).is (all_map fun x hx => decide_eq_true (h2 x hx))) fun v H2 e2 rv => q v H2 (e1.trans e2) rv
    walk_at "ev"
theorem ok_trimmed (T : Top K mg) : FnOk P w K mg base CX0 1 (adr mg "trimmed") (fdat K mg "trimmed") ["row"] (spF (AC (RL K RI) A0) (RRow K) (fun d => d.1.length ≤ 3000) fun d => trim d.1) := by
  refine fnF T.d_trimmed.F sc_trimmed rfl fun cdv Ar outer s H vs Q d hr hA hp q => ?_
  obtain ⟨r, _⟩ := d
  obtain ⟨v, _, rfl, hv, rfl⟩ := hA
  have hv : RL K RI H v r := hv
  have hp : r.length ≤ 3000 := hp
  refine ⟨_, (pss_cons (ps_set (i := 1) sc_trimmed.nd rfl (.inl rfl) (pe_callB (r := rLenK K) call_lenK (by rfl) T.n_len (by decide +kernel) (pa_cons (pv 0) pa_nil)))
    (pss_cons (ps_while PassesOwn.never (PW.pt (pw_and (pt_cmpR op_gt (pv 1) pe_int (nomark _)) (pw_and1 (pt_cmpR op_eq (pe_ix (r := rIxL K) ix_list (pv 0) (pe_op op_sub (pv 1) pe_int) (fun _ _ => rfl)) pe_int (nomark _)))))
      (pss_one (ps_set (i := 1) sc_trimmed.nd rfl (.inl rfl) (pe_op op_sub (pv 1) pe_int))))
    (pss_one (ps_ret (pe_callTy call_tuple_of (by rfl) T.n_tuple (by decide +kernel) (pa_cons (pe_slice sl_list (pv 0) po_none (po_some (pv 1))) pa_nil)))))), ?_⟩
  refine s_set (ev_lenL (ev_var (R := RL K RI) rfl hv)) fun u H1 e1 ru => ?_
  cases ru
  refine s_while (fun m σ' H' => σ' = [some v, some (.int (m : Int))] ∧ Same H H' ∧ m ≤ r.length ∧ trim r = trim (r.take m)) r.length ⟨rfl, e1, Nat.le_refl _, by rw [List.take_length]⟩ ?_
  rintro m σ' H' ⟨rfl, e2, hm, ht⟩
  have hv := Sm.sm e2 hv
  refine ⟨decide (0 < (m : Int)) && decide (getZ r ((m : Int) - 1) = 0), et_and (by walk_at "ev") fun h0 => ?_, fun hb H3 e3 => ?_, fun hb H3 e3 => ?_⟩
  · have h0 := of_decide_eq_true h0
    refine et_test (ev_eq (ev_ixL (ev_var (R := RL K RI) rfl hv) (by walk_at "ev") (atI_getZ (by omega) (by omega))) ev_int)
  · simp only [Bool.and_eq_true, decide_eq_true_eq] at hb
    refine e_set (by walk_at "ev") fun u H4 e4 ru => ?_
    cases ru
    refine ⟨m - 1, by omega, ?_, e2.trans (e3.trans e4), by omega, ?_⟩
    · show [some v, some (V.int ((m : Int) - 1))] = [some v, some (V.int ((m - 1 : Nat) : Int))]
      rw [show ((m - 1 : Nat) : Int) = (m : Int) - 1 by omega]
    · rw [ht]
      have := trim_take0 (r := r) (m := m - 1) (by omega) (by rw [show ((m - 1 : Nat) : Int) = (m : Int) - 1 by omega]; exact hb.2)
      rwa [show m - 1 + 1 = m by omega] at this
  · have hv := Sm.sm e3 hv
    refine s_retE (ev_tupL (en_sliceTo (n := m) (ev_var (R := RL K RI) rfl hv) (ev_var rfl rfl)).l) (fun u H4 e4 ru => q u H4 (e2.trans (e3.trans e4)) ru) ?_
    show r.take m = trim r
    rw [ht]
    by_cases h0 : m = 0
    · subst h0; rfl
    · have hz : getZ r ((m : Int) - 1) ≠ 0 := fun z => by
        rw [decide_eq_true (by omega), decide_eq_true z] at hb
        exact nomatch hb
      have := trim_take1 (r := r) (m := m - 1) (by omega) (by rw [show ((m - 1 : Nat) : Int) = (m : Int) - 1 by omega]; exact hz)
      rw [show m - 1 + 1 = m by omega] at this
      exact this.symm
theorem ok_inverse (T : Top K mg) : FnOk P w K mg base CX0 1 (adr mg "inverse") (fdat K mg "inverse") ["prime", "colour"] (spF (AC RI (AC RI A0)) RI (fun d => Pr d.1 ∧ 0 < d.2.1 ∧ d.2.1 < d.1) fun d => inv d.1 d.2.1) := by
  refine fnF T.d_inverse.F sc_inverse rfl fun cdv Ar outer s H vs Q d hr hA hp q => ?_
  obtain ⟨p, c, _⟩ := d
  obtain ⟨_, _, rfl, rfl, _, _, rfl, rfl, rfl⟩ := hA
  obtain ⟨hP, h1, h2⟩ : Pr p ∧ 0 < c ∧ c < p := hp
  have p5 := hP.le
  have p0 := hP.pos
  refine ⟨_, (pss_one (ps_ret (pe_ix (r := rIxL K) ix_list (pe_lc (own := [("other", 2)]) (g := (gName 2)) rfl sc_inverse.nd (pi_range1 (by rfl) T.n_range (pa_cons (pv 0) pa_nil)) (blkOk_by (N := N_inverse) (sc := defScope s_inverse) (by decide +kernel)) (fun _ _ _ _ _ => (pg_name (i := 2) sc_inverse.nd rfl (.inl rfl))) (fun _ _ _ _ _ => pts_one (pt_cmpR op_eq (pe_op op_mod (pe_op op_mul (pv 2) (pv 1)) (pv 0)) pe_int (nomark _))) (fun _ _ _ _ _ => (pv 2))) pe_int (fun _ _ => rfl)))), ?_⟩
  refine s_ret (ev_ixL (ds := invs p c) (en_lc1 (S := RI) (fun o => decide (o * c % p = 1)) (fun o => o) (src_r1 (ev_var rfl rfl) (by omega) (by omega)).same (by rw [ir_len]; omega) fun d u H' hd e ru => ?_).l ev_int (atI_0 ?_)) q
  · cases ru
    have := mem_ir hd
    refine ⟨rfl, ?_, fun _ => by walk_at "ev"⟩
    walk_at "ev"
    exact cmul_l (by omega) (by omega)
  · have := (inv_all hP h1 h2).1
    unfold inv
    cases e : invs p c with
    | nil => exact absurd e this
    | cons a t => rfl
theorem ok_scaled (T : Top K mg) : FnOk P w K mg base CX0 2 (adr mg "scaled") (fdat K mg "scaled") ["prime", "row", "colour"] (spF (AC RI (AC (RRow K) (AC RI A0))) (RRow K) (fun d => Pr d.1 ∧ d.2.1.length ≤ 1000 ∧ 0 ≤ d.2.2.1 ∧ d.2.2.1 < d.1) fun d => scal d.1 d.2.1 d.2.2.1) := by
  refine fnF T.d_scaled.F sc_scaled rfl fun cdv Ar outer s H vs Q d hr hA hp q => ?_
  obtain ⟨p, r, c, _⟩ := d
  obtain ⟨_, _, rfl, rfl, v, _, rfl, hv, _, _, rfl, rfl, rfl⟩ := hA
  have hv : RRow K H v r := hv
  obtain ⟨hP, hl, h1, h2⟩ : Pr p ∧ r.length ≤ 1000 ∧ 0 ≤ c ∧ c < p := hp
  have p5 := hP.le
  have p0 := hP.pos
  refine ⟨_, (pss_one (ps_ret (pe_def T.d_trimmed (ok_trimmed T) (b_trimmed T) (hr.mono (by decide)) (by rfl) (pa_cons (pe_lc (own := [("part", 3)]) (g := (gName 3)) rfl sc_scaled.nd (pi_tup (pv 1)) (blkOk_by (N := N_scaled) (sc := defScope s_scaled) (by decide +kernel)) (fun _ _ _ _ _ => (pg_name (i := 3) sc_scaled.nd rfl (.inl rfl))) (fun _ _ _ _ _ => pts_nil) (fun _ _ _ _ _ => (pe_op op_mod (pe_op op_mul (pv 3) (pv 2)) (pv 0)))) pa_nil)))), ?_⟩
  refine s_ret (ev_call (ea_cons (en_lm1 (S := RI) (fun x => x * c % p) (src_tup (ev_var (R := RRow K) rfl hv)).same (by omega) fun d u H' hd e ru => ⟨rfl, ?_⟩).l ea_nil) ?_) q
  · cases ru
    walk_at "ev"
    exact cmul_r (by omega) (by omega)
  · show (List.map _ r).length ≤ 3000
    rw [List.length_map]
    omega
theorem ok_monic (T : Top K mg) : FnOk P w K mg base CX0 3 (adr mg "monic") (fdat K mg "monic") ["prime", "row"] (spF (AC RI (AC (RRow K) A0)) (RRow K) (fun d => Pr d.1 ∧ Rw d.1 d.2.1 ∧ d.2.1 ≠ [] ∧ lst d.2.1 ≠ 0) fun d => mon d.1 d.2.1) := by
  refine fnF T.d_monic.F sc_monic rfl fun cdv Ar outer s H vs Q d hr hA hp q => ?_
  obtain ⟨p, r, _⟩ := d
  obtain ⟨_, _, rfl, rfl, v, _, rfl, hv, rfl⟩ := hA
  have hv : RRow K H v r := hv
  obtain ⟨hP, hR, hn, hl⟩ : Pr p ∧ Rw p r ∧ r ≠ [] ∧ lst r ≠ 0 := hp
  have hm := hR.1 _ (lst_mem hn)
  have hi := inv_all (c := lst r) hP (by omega) hm.2
  refine ⟨_, (pss_one (ps_ret (pe_def T.d_scaled (ok_scaled T) (b_scaled T) (hr.mono (by decide)) (by rfl) (pa_cons (pv 0) (pa_cons (pv 1) (pa_cons (pe_def T.d_inverse (ok_inverse T) (b_inverse T) (hr.mono (by decide)) (by rfl) (pa_cons (pv 0) (pa_cons (pe_ix (r := rIxT K) ix_tup (pv 1) (pe_un un_neg pe_int) (fun _ _ => rfl)) pa_nil))) pa_nil)))))), ?_⟩
  refine s_ret (ev_call (ea_cons (ev_var rfl rfl) (ea_cons (ev_var (R := RRow K) rfl hv) (ea_cons (ev_call (ea_cons (ev_var rfl rfl) (ea_cons (ev_ixT (ev_var (R := RRow K) rfl hv) (ev_neg ev_int) (atI_lst hn)) ea_nil)) ⟨hP, (by show 0 < lst r; omega), hm.2⟩) ea_nil))) ?_) q
  exact ⟨hP, hR.2, by show 0 ≤ inv p (lst r); omega, hi.2.2.2⟩
end
end Rg
end
section
set_option Elab.async false
set_option linter.all false
set_option maxRecDepth 100000
set_option maxHeartbeats 4000000
open PySem PySem.Spec PyProof.Rows L2 RZ Rg
local macro_rules | `(tactic| walk_at "ev1") => `(tactic| first
  | exact ev_isTupT (ev_p1 (ev_var rfl (by assumption)))
  | exact ev_lenT (ev_p1 (ev_var rfl (by assumption)))
  | exact ev_lenT (ev_p0 (ev_var rfl (by assumption)))
  | exact ev_isInt (ev_p0 (ev_var rfl (by assumption)))
  | exact ev_isInt (ev_var rfl rfl)
  | exact ev_isBool (ev_var rfl rfl)
  | exact ev_isTupT (ev_var rfl (by assumption))
  | exact ev_isTupP (ev_var rfl (by assumption))
  | exact ev_isTupQ (ev_var rfl (by assumption))
  | exact ev_lenT (ev_var rfl (by assumption))
  | exact ev_lenP (ev_var rfl (by assumption))
  | exact ev_lenQ (ev_var rfl (by assumption))
  | exact ev_int
  | exact ev_bl
  | exact ev_var rfl rfl
  | exact ev_var rfl (by assumption)
  | exact ea_nil
  | apply ea_cons
  | apply ev_call
  | apply ev_add
  | apply ev_sub
  | apply ev_mul
  | apply ev_mod
  | apply ev_fdiv
  | apply ev_lt
  | apply ev_le
  | apply ev_gt
  | apply ev_ge
  | apply ev_eq
  | apply ev_ne
  | apply ev_neg
  | apply ev_p0
  | apply ev_p1
  | apply ev_q0
  | apply ev_q1
  | apply ev_q2
  | apply ev_int1
  | apply ev_notV
  | apply ev_andV
  | apply ev_orV
  | apply et_test
  | apply et_B
  | apply et_and
  | apply et_or
  | apply et_not
  | exact True.intro
  | (with_reducible intro _)
  | (show (_ : Int) < _; assumption))
local macro_rules | `(tactic| walk_at "ev") => `(tactic| repeat' (walk_at "ev1"))

namespace Rg
section
variable {P : Program} {w : World} {K : PySem.W.Frag} {mg : Str → Option Value} {base : Heap}
theorem ok_added (T : Top K mg) : FnOk P w K mg base CX0 2 (adr mg "added") (fdat K mg "added") ["prime", "one", "other"] (spF (AC RI (AC (RRow K) (AC (RRow K) A0))) (RRow K) (fun d => Pr d.1 ∧ d.2.1.length ≤ 1000 ∧ d.2.2.1.length ≤ 1000) fun d => addP d.1 d.2.1 d.2.2.1) := by
  refine fnF T.d_added.F sc_added rfl fun cdv Ar outer s H vs Q d hr hA hp q => ?_
  obtain ⟨p, a, b, _⟩ := d
  obtain ⟨_, _, rfl, rfl, v, _, rfl, hv, u, _, rfl, hu, rfl⟩ := hA
  have hv : RRow K H v a := hv
  have hu : RRow K H u b := hu
  obtain ⟨hP, ha, hb⟩ : Pr p ∧ a.length ≤ 1000 ∧ b.length ≤ 1000 := hp
  have p0 := hP.pos
  have hL := mx_nat a.length b.length
  refine ⟨_, (pss_cons (ps_set (i := 3) sc_added.nd rfl (.inl rfl) (pe_callB (call_max2 rfl) (by rfl) T.n_max (by decide +kernel) (pa_cons (pe_callB (r := rLenK K) call_lenK (by rfl) T.n_len (by decide +kernel) (pa_cons (pv 1) pa_nil)) (pa_cons (pe_callB (r := rLenK K) call_lenK (by rfl) T.n_len (by decide +kernel) (pa_cons (pv 2) pa_nil)) pa_nil))))
    (pss_cons (ps_set (i := 4) sc_added.nd rfl (.inl rfl) (pe_op op_cat (pe_callTy call_list_of (by rfl) T.n_list (by decide +kernel) (pa_cons (pv 1) pa_nil)) (pe_op op_rep (pe_lst (pa_cons pe_int pa_nil)) (pe_op op_sub (pv 3) (pe_callB (r := rLenK K) call_lenK (by rfl) T.n_len (by decide +kernel) (pa_cons (pv 1) pa_nil))))))
    (pss_cons (ps_set (i := 5) sc_added.nd rfl (.inl rfl) (pe_op op_cat (pe_callTy call_list_of (by rfl) T.n_list (by decide +kernel) (pa_cons (pv 2) pa_nil)) (pe_op op_rep (pe_lst (pa_cons pe_int pa_nil)) (pe_op op_sub (pv 3) (pe_callB (r := rLenK K) call_lenK (by rfl) T.n_len (by decide +kernel) (pa_cons (pv 2) pa_nil))))))
    (pss_one (ps_ret (pe_def T.d_trimmed (ok_trimmed T) (b_trimmed T) (hr.mono (by decide)) (by rfl) (pa_cons (pe_lc (own := [("here", 6), ("there", 7)]) (g := (gTup K 2 (gCons (gName 6) (gCons (gName 7) gNil)))) rfl sc_added.nd (pi_zipA (by rfl) T.n_zip (pa_cons (pv 4) (pa_cons (pv 5) pa_nil))) (blkOk_by (N := N_added) (sc := defScope s_added) (by decide +kernel)) (fun _ _ _ _ _ => (pg_tup rfl (pgs_cons (pg_name (i := 6) sc_added.nd rfl (.inl rfl)) (pgs_cons (pg_name (i := 7) sc_added.nd rfl (.inl rfl)) pgs_nil)))) (fun _ _ _ _ _ => pts_nil) (fun _ _ _ _ _ => (pe_op op_mod (pe_op op_add (pv 6) (pv 7)) (pv 0)))) pa_nil))))))), ?_⟩
  refine s_setE (d' := mx a.length b.length) (ev_max2 (ev_lenT (ev_var (R := RRow K) rfl hv)) (ev_lenT (ev_var (R := RRow K) rfl hu))) rfl fun _ H1 e1 r1 => ?_
  cases r1
  have hv1 := Sm.sm e1 hv
  have hu1 := Sm.sm e1 hu
  refine s_setN (ds := padZ a (mx a.length b.length)) (en_cat (en_listT (ev_var (R := RRow K) rfl hv1)).m (en_zeros (ev_sub (ev_var rfl rfl) (ev_lenT (ev_var (R := RRow K) rfl hv1))) (by omega) (by omega)).m (by rw [zeros_len]; omega)) fun l1 xs1 H2 n1 e2 hl1 pl1 => ?_
  have hv2 := Sm.sm e2 hv1
  have hu2 := Sm.sm e2 hu1
  have k1 : RL K RI H2 (.ref l1) (padZ a (mx a.length b.length)) := ⟨l1, xs1, rfl, SqL.of hl1, pl1⟩
  refine s_setN (ds := padZ b (mx a.length b.length)) (en_cat (en_listT (ev_var (R := RRow K) rfl hu2)).m (en_zeros (ev_sub (ev_var rfl rfl) (ev_lenT (ev_var (R := RRow K) rfl hu2))) (by omega) (by omega)).m (by rw [zeros_len]; omega)) fun l2 xs2 H3 n2 e3 hl2 pl2 => ?_
  have k2 : RL K RI H3 (.ref l2) (padZ b (mx a.length b.length)) := ⟨l2, xs2, rfl, SqL.of hl2, pl2⟩
  have k1 := Sm.sm e3 k1
  have hz := addP_raw_len a b
  refine s_ret (ev_call (ea_cons (en_lm2 (T := RI) (fun q => (q.1 + q.2) % p) (src_zipL (ev_var (R := RL K RI) rfl k1) (ev_var (R := RL K RI) rfl k2)) (by rw [hz]; omega) fun x y ux uy H' hd e rx ry => ⟨rfl, ?_⟩).l ea_nil) ?_) fun x H4 e4 rx => q x H4 (e1.trans (e2.trans (e3.trans e4))) rx
  · cases rx
    cases ry
    walk_at "ev"
  · show (List.map _ _).length ≤ 3000
    rw [List.length_map, hz]
    omega
theorem ok_timesed (T : Top K mg) : FnOk P w K mg base CX0 2 (adr mg "timesed") (fdat K mg "timesed") ["prime", "one", "other"] (spF (AC RI (AC (RRow K) (AC (RRow K) A0))) (RRow K) (fun d => Pr d.1 ∧ Rw d.1 d.2.1 ∧ d.2.2.1.length ≤ 1000) fun d => mulP d.1 d.2.1 d.2.2.1) := by
  refine fnF T.d_timesed.F sc_timesed rfl fun cdv Ar outer s H vs Q d hr hA hp q => ?_
  obtain ⟨p, a, b, _⟩ := d
  obtain ⟨_, _, rfl, rfl, v, _, rfl, hv, u, _, rfl, hu, rfl⟩ := hA
  have hv : RRow K H v a := hv
  have hu : RRow K H u b := hu
  obtain ⟨hP, ha, hb⟩ : Pr p ∧ Rw p a ∧ b.length ≤ 1000 := hp
  have ha2 := ha.2
  have p0 := hP.pos
  have p5 := hP.le
  refine ⟨_, (pss_cons (ps_set (i := 3) sc_timesed.nd rfl (.inl rfl) (pe_op op_rep (pe_lst (pa_cons pe_int pa_nil)) (pe_op op_add (pe_callB (r := rLenK K) call_lenK (by rfl) T.n_len (by decide +kernel) (pa_cons (pv 1) pa_nil)) (pe_callB (r := rLenK K) call_lenK (by rfl) T.n_len (by decide +kernel) (pa_cons (pv 2) pa_nil)))))
    (pss_cons (ps_for PassesOwn.never rfl (pi_enumT (by rfl) T.n_enumerate (pa_cons (pv 1) pa_nil)) (pg_tup rfl (pgs_cons (pg_name (i := 4) sc_timesed.nd rfl (.inl rfl)) (pgs_cons (pg_name (i := 5) sc_timesed.nd rfl (.inl rfl)) pgs_nil)))
      (pss_one (ps_for PassesOwn.never rfl (pi_enumT (by rfl) T.n_enumerate (pa_cons (pv 2) pa_nil)) (pg_tup rfl (pgs_cons (pg_name (i := 6) sc_timesed.nd rfl (.inl rfl)) (pgs_cons (pg_name (i := 7) sc_timesed.nd rfl (.inl rfl)) pgs_nil)))
        (pss_one (ps_asg (pe_op op_mod (pe_op op_add (pe_ix (r := rIxL K) ix_list (pv 3) (pe_op op_add (pv 4) (pv 6)) (fun _ _ => rfl)) (pe_op op_mul (pv 5) (pv 7))) (pv 0)) (pg_sub (pv 3) (pe_op op_add (pv 4) (pv 6)) set_list))))))
    (pss_one (ps_ret (pe_def T.d_trimmed (ok_trimmed T) (b_trimmed T) (hr.mono (by decide)) (by rfl) (pa_cons (pv 3) pa_nil)))))), ?_⟩
  refine s_setZ (en_zeros (ev_add (ev_lenT (ev_var (R := RRow K) rfl hv)) (ev_lenT (ev_var (R := RRow K) rfl hu))) (by omega) (by omega)) fun l H1 nl e1 hl => ?_
  refine s_fold (mulOut p b) (zeros ((a.length : Int) + b.length)) (src_enT (ev_var (R := RRow K) rfl (Sm.sm e1 hv))) Tk.refl fun H2 e2 => ⟨fun f σ' H' => ∃ y4 y5 y6 y7, σ' = [some (.int p), some v, some u, some (.ref l), y4, y5, y6, y7] ∧ Same H H' ∧ H' l = some (.lst (f.map V.int)) ∧ f.length = a.length + b.length, ⟨_, _, _, _, rfl, e1.trans e2, e2 _ _ hl, by rw [zeros_len]; omega⟩, ?_, ?_⟩
  · rintro f ⟨k, c⟩ x σ' H3 H4 hd g3 ⟨y4, y5, y6, y7, rfl, s3, l3, n3⟩ e4 rx
    obtain ⟨ik, hik, hgk, ek⟩ := mem_en hd
    have ek : k = ((0 + ik : Nat) : Int) := ek
    have hc := ha.1 c (List.mem_of_getElem? hgk)
    refine g2 rx fun _ _ r1 r2 => ?_
    cases r1
    cases r2
    refine e_fold (mulIn p k c) f (src_enT (ev_var (R := RRow K) rfl (Sm.sm (s3.trans e4) hu))) Tk.refl fun H5 e5 => ⟨fun f σ' H' => ∃ y6 y7, σ' = [some (.int p), some v, some u, some (.ref l), some (.int k), some (.int c), y6, y7] ∧ Same H H' ∧ H' l = some (.lst (f.map V.int)) ∧ f.length = a.length + b.length, ⟨_, _, rfl, (s3.trans e4).trans e5, e5 _ _ (e4 _ _ l3), n3⟩, ?_, ?_⟩
    · rintro f ⟨j, g⟩ x σ' H6 H7 hd g6 ⟨y6, y7, rfl, s6, l6, n6⟩ e7 rx
      obtain ⟨ij, hij, hgj, ej⟩ := mem_en hd
      have ej : j = ((0 + ij : Nat) : Int) := ej
      refine g2 rx fun _ _ r1 r2 => ?_
      cases r1
      cases r2
      have hl7 := e7 _ _ l6
      refine e_putI (ns := f) (j := k + j) (v := (getZ f (k + j) + c * g) % p) hl7 (ev_mod (ev_add (ev_getM hl7 rfl (ev_add (ev_var rfl rfl) (ev_var rfl rfl)) (by omega) (by omega)) (ev_mul (ev_var rfl rfl) (ev_var rfl rfl) (cmul_l (by omega) (by omega)))) (ev_var rfl rfl) p0) rfl (ev_add (ev_var rfl rfl) (ev_var rfl rfl)) (by omega) (by omega) fun H8 e8 => ?_
      have hl5 : H5 l = some (.lst _) := e5 _ _ (e4 _ _ l3)
      exact ⟨(g6.trans (Tk.of (e7.trans e8))).upd (noT_lst hl5), _, _, rfl, same_mut ((s6.trans e7).trans e8) nl, upd_same, by rw [mulIn_len]; exact n6⟩
    · rintro σ' H6 g6 ⟨y6, y7, rfl, s6, l6, n6⟩
      exact ⟨g3.trans ((Tk.of (e4.trans e5)).trans g6), _, _, _, _, rfl, s6, l6, n6⟩
  · rintro σ' H3 g3 ⟨y4, y5, y6, y7, rfl, s3, l3, n3⟩
    refine s_ret (ev_call (ea_cons (ev_var (R := RL K RI) rfl (rl_int l3)) ea_nil) ?_) fun x H4 e4 rx => q x H4 (s3.trans e4) rx
    show List.length _ ≤ 3000
    rw [n3]
    omega
theorem ok_divided (T : Top K mg) : FnOk P w K mg base CX0 2 (adr mg "divided") (fdat K mg "divided") ["prime", "one", "other"] (spF (AC RI (AC (RRow K) (AC (RRow K) A0))) (RP K (RRow K) (RRow K)) (fun d => Pr d.1 ∧ Rw d.1 d.2.1 ∧ Rw d.1 d.2.2.1 ∧ d.2.2.1 ≠ [] ∧ lst d.2.2.1 ≠ 0) fun d => divP d.1 d.2.1 d.2.2.1) := by
  refine fnF T.d_divided.F sc_divided rfl fun cdv Ar outer s H vs Q d hr hA hp q => ?_
  obtain ⟨p, a, b, _⟩ := d
  obtain ⟨_, _, rfl, rfl, v, _, rfl, hv, u, _, rfl, hu, rfl⟩ := hA
  have hv : RRow K H v a := hv
  have hu : RRow K H u b := hu
  obtain ⟨hP, ha, hb, hne, hlb⟩ : Pr p ∧ Rw p a ∧ Rw p b ∧ b ≠ [] ∧ lst b ≠ 0 := hp
  have ha2 := ha.2
  have hb2 := hb.2
  have p0 := hP.pos
  have p5 := hP.le
  have hbl : 0 < b.length := List.length_pos_iff.mpr hne
  have hm := hb.1 _ (lst_mem hne)
  have hi := inv_all (c := lst b) hP (by omega) hm.2
  have hN : divN a b = mx 0 ((a.length : Int) - b.length + 1) := rfl
  have hN2 : 0 ≤ divN a b ∧ divN a b ≤ 1001 ∧ ((a.length : Int) - b.length + 1 ≤ divN a b) ∧ (0 < divN a b → divN a b = (a.length : Int) - b.length + 1) := by
    unfold divN mx
    split <;> omega
  refine ⟨_, (pss_cons (ps_set (i := 3) sc_divided.nd rfl (.inl rfl) (pe_callTy call_list_of (by rfl) T.n_list (by decide +kernel) (pa_cons (pv 1) pa_nil)))
    (pss_cons (ps_set (i := 4) sc_divided.nd rfl (.inl rfl) (pe_def T.d_inverse (ok_inverse T) (b_inverse T) (hr.mono (by decide)) (by rfl) (pa_cons (pv 0) (pa_cons (pe_ix (r := rIxT K) ix_tup (pv 2) (pe_un un_neg pe_int) (fun _ _ => rfl)) pa_nil))))
    (pss_cons (ps_set (i := 5) sc_divided.nd rfl (.inl rfl) (pe_op op_rep (pe_lst (pa_cons pe_int pa_nil)) (pe_callB (call_max2 rfl) (by rfl) T.n_max (by decide +kernel) (pa_cons pe_int (pa_cons (pe_op op_add (pe_op op_sub (pe_callB (r := rLenK K) call_lenK (by rfl) T.n_len (by decide +kernel) (pa_cons (pv 1) pa_nil)) (pe_callB (r := rLenK K) call_lenK (by rfl) T.n_len (by decide +kernel) (pa_cons (pv 2) pa_nil))) pe_int) pa_nil)))))
    (pss_cons (ps_for PassesOwn.never rfl (pi_range3 (by rfl) T.n_range (pa_cons (pe_op op_sub (pe_callB (r := rLenK K) call_lenK (by rfl) T.n_len (by decide +kernel) (pa_cons (pv 5) pa_nil)) pe_int) (pa_cons (pe_un un_neg pe_int) (pa_cons (pe_un un_neg pe_int) pa_nil)))) (pg_name (i := 6) sc_divided.nd rfl (.inl rfl))
      (pss_cons (ps_asg (pe_op op_mod (pe_op op_mul (pe_ix (r := rIxL K) ix_list (pv 3) (pe_op op_sub (pe_op op_add (pv 6) (pe_callB (r := rLenK K) call_lenK (by rfl) T.n_len (by decide +kernel) (pa_cons (pv 2) pa_nil))) pe_int) (fun _ _ => rfl)) (pv 4)) (pv 0)) (pg_sub (pv 5) (pv 6) set_list))
      (pss_one (ps_for PassesOwn.never rfl (pi_enumT (by rfl) T.n_enumerate (pa_cons (pv 2) pa_nil)) (pg_tup rfl (pgs_cons (pg_name (i := 7) sc_divided.nd rfl (.inl rfl)) (pgs_cons (pg_name (i := 8) sc_divided.nd rfl (.inl rfl)) pgs_nil)))
        (pss_one (ps_asg (pe_op op_mod (pe_op op_sub (pe_ix (r := rIxL K) ix_list (pv 3) (pe_op op_add (pv 6) (pv 7)) (fun _ _ => rfl)) (pe_op op_mul (pe_ix (r := rIxL K) ix_list (pv 5) (pv 6) (fun _ _ => rfl)) (pv 8))) (pv 0)) (pg_sub (pv 3) (pe_op op_add (pv 6) (pv 7)) set_list)))))))
    (pss_one (ps_ret (pe_tup (pa_cons (pe_def T.d_trimmed (ok_trimmed T) (b_trimmed T) (hr.mono (by decide)) (by rfl) (pa_cons (pv 5) pa_nil)) (pa_cons (pe_def T.d_trimmed (ok_trimmed T) (b_trimmed T) (hr.mono (by decide)) (by rfl) (pa_cons (pv 3) pa_nil)) pa_nil))))))))), ?_⟩
  refine s_setZ (en_listT (ev_var (R := RRow K) rfl hv)) fun l1 H1 n1 e1 hl1 => ?_
  refine s_setE (d' := inv p (lst b)) (ev_call (ea_cons (ev_var rfl rfl) (ea_cons (ev_ixT (ev_var (R := RRow K) rfl (Sm.sm e1 hu)) (ev_neg ev_int) (atI_lst hne)) ea_nil)) ⟨hP, (by show 0 < lst b; omega), hm.2⟩) rfl fun _ H2 e2 r2 => ?_
  cases r2
  have e02 := e1.trans e2
  have hl2 := e2 _ _ hl1
  refine s_setZ (ns := zeros (divN a b)) (en_zeros (ev_max2 ev_int (ev_add (ev_sub (ev_lenT (ev_var (R := RRow K) rfl (Sm.sm e02 hv))) (ev_lenT (ev_var (R := RRow K) rfl (Sm.sm e02 hu)))) ev_int)) (by show divN a b ≤ _; omega) (by show _ ≤ divN a b; omega)) fun l3 H3 n3 e3 hl3 => ?_
  have e03 := e02.trans e3
  have hl33 := e3 _ _ hl2
  have hne13 : l1 ≠ l3 := fun z => by rw [z, n3] at hl2; cases hl2
  have z1 : H l1 = none := n1
  have z3 : H l3 = none := same_free e02 n3
  refine s_fold (divOut p (inv p (lst b)) b) (zeros (divN a b), a) (src_r3 (n := (divN a b).toNat) (Ev.is (ev_sub (ev_lenL (ev_var (R := RL K RI) rfl (rl_int hl3))) ev_int) (by rw [zeros_len])) (ev_neg ev_int) (ev_neg ev_int) (by omega)) Tk.refl fun H4 e4 => ⟨fun s σ' H' => ∃ y6 y7 y8, σ' = [some (.int p), some v, some u, some (.ref l1), some (.int (inv p (lst b))), some (.ref l3), y6, y7, y8] ∧ Same H H' ∧ H' l3 = some (.lst (s.1.map V.int)) ∧ H' l1 = some (.lst (s.2.map V.int)) ∧ s.1.length = (divN a b).toNat ∧ s.2.length = a.length,
    ⟨_, _, _, rfl, e03.trans e4, e4 _ _ hl3, e4 _ _ hl33, zeros_len _, rfl⟩, ?_, ?_⟩
  · rintro ⟨f, r⟩ k x σ' H5 H6 hd g5 ⟨y6, y7, y8, rfl, s5, l5, m5, n5, o5⟩ e6 rx
    cases rx
    have hk := mem_irD hd
    have n5 : f.length = (divN a b).toNat := n5
    have o5 : r.length = a.length := o5
    have l6 := e6 _ _ l5
    have m6 := e6 _ _ m5
    have s6 := s5.trans e6
    refine s_putI (ns := f) (j := k) (v := divC p (inv p (lst b)) b r k) l6 (ev_mod (ev_mul (ev_getM (ns := r) (j := k + b.length - 1) m6 rfl (ev_sub (ev_add (ev_var rfl rfl) (ev_lenT (ev_var (R := RRow K) rfl (Sm.sm s6 hu)))) ev_int) (by omega) (by omega)) (ev_var rfl rfl) (cmul_r (by omega) (by omega))) (ev_var rfl rfl) p0) rfl (ev_var rfl rfl) hk.1 (by omega) fun H7 e7 => ?_
    have hC := modp p0 (getZ r (k + b.length - 1) * inv p (lst b))
    have s8 : Same H (upd H7 l3 (.lst ((setZ f k (divC p (inv p (lst b)) b r k)).map V.int))) := same_mut (s6.trans e7) z3
    have l8 : (upd H7 l3 (.lst ((setZ f k (divC p (inv p (lst b)) b r k)).map V.int))) l3 = some (.lst ((setZ f k (divC p (inv p (lst b)) b r k)).map V.int)) := upd_same
    have m8 : (upd H7 l3 (.lst ((setZ f k (divC p (inv p (lst b)) b r k)).map V.int))) l1 = some (.lst (r.map V.int)) := by rw [upd_ne hne13]; exact e7 _ _ m6
    have t8 : Tk H4 (upd H7 l3 (.lst ((setZ f k (divC p (inv p (lst b)) b r k)).map V.int))) := (g5.trans (Tk.of (e6.trans e7))).upd (noT_lst (e4 _ _ hl3))
    revert s8 l8 m8 t8
    generalize upd H7 l3 (.lst ((setZ f k (divC p (inv p (lst b)) b r k)).map V.int)) = H8
    intro s8 l8 m8 t8
    refine e_fold (divIn p k (divC p (inv p (lst b)) b r k)) r (src_enT (ev_var (R := RRow K) rfl (Sm.sm s8 hu))) Tk.refl fun H9 e9 => ⟨fun r2 σ' H' => ∃ y7 y8, σ' = [some (.int p), some v, some u, some (.ref l1), some (.int (inv p (lst b))), some (.ref l3), some (.int k), y7, y8] ∧ Same H H' ∧ H' l3 = some (.lst ((setZ f k (divC p (inv p (lst b)) b r k)).map V.int)) ∧ H' l1 = some (.lst (r2.map V.int)) ∧ r2.length = a.length,
      ⟨_, _, rfl, s8.trans e9, e9 _ _ l8, e9 _ _ m8, o5⟩, ?_, ?_⟩
    · rintro r2 ⟨j, g⟩ x σ' H10 H11 hd g10 ⟨y7, y8, rfl, s10, l10, m10, n10⟩ e11 rx
      obtain ⟨ij, hij, hgj, ej⟩ := mem_en hd
      have ej : j = ((0 + ij : Nat) : Int) := ej
      refine g2 rx fun _ _ r1 r2 => ?_
      cases r1
      cases r2
      have l11 := e11 _ _ l10
      have m11 := e11 _ _ m10
      refine e_putI (ns := r2) (j := k + j) (v := (getZ r2 (k + j) - divC p (inv p (lst b)) b r k * g) % p) m11 (ev_mod (ev_sub (ev_getM m11 rfl (ev_add (ev_var rfl rfl) (ev_var rfl rfl)) (by omega) (by omega)) (ev_mul (Ev.is (ev_getM l11 rfl (ev_var rfl rfl) hk.1 (by rw [setZ_len]; omega)) ?_) (ev_var rfl rfl) (cmul_l ?_ ?_))) (ev_var rfl rfl) p0) rfl (ev_add (ev_var rfl rfl) (ev_var rfl rfl)) (by omega) (by omega) fun H12 e12 => ?_
      · unfold getZ setZ
        rw [List.getD_eq_getElem?_getD, List.getElem?_set_self (by omega)]
        rfl
      · show -100 ≤ getZ r (k + b.length - 1) * inv p (lst b) % p
        omega
      · show getZ r (k + b.length - 1) * inv p (lst b) % p ≤ 100
        omega
      · exact ⟨(g10.trans (Tk.of (e11.trans e12))).upd (noT_lst (e9 _ _ m8)), _, _, rfl, same_mut ((s10.trans e11).trans e12) z1, by rw [upd_ne hne13.symm]; exact e12 _ _ l11, upd_same, by show (setZ _ _ _).length = _; rw [setZ_len]; exact n10⟩
    · rintro σ' H10 g10 ⟨y7, y8, rfl, s10, l10, m10, n10⟩
      exact ⟨t8.trans ((Tk.of e9).trans g10), _, _, _, rfl, s10, l10, m10, by show (setZ _ _ _).length = _; rw [setZ_len]; exact n5, n10⟩
  · rintro σ' H5 g5 ⟨y6, y7, y8, rfl, s5, l5, m5, n5, o5⟩
    refine s_ret (ev_tup2 (ev_call (ea_cons (ev_var (R := RL K RI) rfl (rl_int l5)) ea_nil) ?_) (ev_call (ea_cons (ev_var (R := RL K RI) rfl (rl_int m5)) ea_nil) ?_)) fun x H6 e6 rx => q x H6 (s5.trans e6) rx
    · show List.length _ ≤ 3000
      rw [n5]
      omega
    · show List.length _ ≤ 3000
      rw [o5]
      omega
end
end Rg
end
section
set_option Elab.async false
set_option linter.all false
set_option maxRecDepth 100000
set_option maxHeartbeats 4000000
open PySem PySem.Spec PyProof.Rows L2 RZ Rg
local macro_rules | `(tactic| walk_at "ev1") => `(tactic| first
  | exact ev_isTupT (ev_p1 (ev_var rfl (by assumption)))
  | exact ev_lenT (ev_p1 (ev_var rfl (by assumption)))
  | exact ev_lenT (ev_p0 (ev_var rfl (by assumption)))
  | exact ev_isInt (ev_p0 (ev_var rfl (by assumption)))
  | exact ev_isInt (ev_var rfl rfl)
  | exact ev_isBool (ev_var rfl rfl)
  | exact ev_isTupT (ev_var rfl (by assumption))
  | exact ev_isTupP (ev_var rfl (by assumption))
  | exact ev_isTupQ (ev_var rfl (by assumption))
  | exact ev_lenT (ev_var rfl (by assumption))
  | exact ev_lenP (ev_var rfl (by assumption))
  | exact ev_lenQ (ev_var rfl (by assumption))
  | exact ev_int
  | exact ev_bl
  | exact ev_var rfl rfl
  | exact ev_var rfl (by assumption)
  | exact ea_nil
  | apply ea_cons
  | apply ev_call
  | apply ev_add
  | apply ev_sub
  | apply ev_mul
  | apply ev_mod
  | apply ev_fdiv
  | apply ev_lt
  | apply ev_le
  | apply ev_gt
  | apply ev_ge
  | apply ev_eq
  | apply ev_ne
  | apply ev_neg
  | apply ev_p0
  | apply ev_p1
  | apply ev_q0
  | apply ev_q1
  | apply ev_q2
  | apply ev_int1
  | apply ev_notV
  | apply ev_andV
  | apply ev_orV
  | apply et_test
  | apply et_B
  | apply et_and
  | apply et_or
  | apply et_not
  | exact True.intro
  | (with_reducible intro _)
  | (show (_ : Int) < _; assumption))
local macro_rules | `(tactic| walk_at "ev") => `(tactic| repeat' (walk_at "ev1"))

namespace Rg
section
variable {P : Program} {w : World} {K : PySem.W.Frag} {mg : Str → Option Value} {base : Heap}
section
variable {α β γ δ : Type} {σ : L2.St} {H H' : Hp} {ta tb te tx tl tr : TE} {t tt : TT} {R : Rep α} {S : Rep β} {D : Ends} {tu tw tz : TS}
theorem ev_odd {n : Nat} (ha : Ev ta σ H RI (n : Int)) : Ev (tOp (fun x y H Q => ∃ n : Nat, x = .int (n : Int) ∧ y = .int 1 ∧ Q (.int ((n % 2 : Nat) : Int)) H) ta (tC (.int 1))) σ H RI ((n % 2 : Nat) : Int) := fun H1 e Q q => ha H1 e _ fun x H2 e2 r2 => ⟨n, r2, rfl, q _ H2 e2 rfl⟩
theorem ev_half {n : Nat} (ha : Ev ta σ H RI (n : Int)) : Ev (tOp (fun x y H Q => ∃ n : Nat, x = .int (n : Int) ∧ y = .int 1 ∧ Q (.int ((n / 2 : Nat) : Int)) H) ta (tC (.int 1))) σ H RI ((n / 2 : Nat) : Int) := fun H1 e Q q => ha H1 e _ fun x H2 e2 r2 => ⟨n, r2, rfl, q _ H2 e2 rfl⟩
/-- if t: x = e, by the value of x behind it -/
theorem s_ifSet {i : Nat} {b : Bool} {d : α} {v0 : V} [Sm R] (h : EvT t σ H b) (h1 : b = true → Ev te σ H R d) (h2 : b = false → R H v0 d) (hv : σ[i]? = some (some v0)) (k : ∀ v H1, Same H H1 → R H1 v d → tz D (σ.set i (some v)) H1) : tSeq (tIfS t (tAsg te (gName i)) tNext) tz D σ H :=
  s_if h (fun hb H1 e1 => e_set ((h1 hb).mono e1) fun v H2 e2 r => k v H2 (e1.trans e2) r) fun hb H1 e1 => by
    have e : σ.set i (some v0) = σ := by
      obtain ⟨hi, hg⟩ := List.getElem?_eq_some_iff.mp hv
      rw [← hg]
      exact List.set_getElem_self hi
    have := k v0 H1 e1 (Sm.sm e1 (h2 hb))
    rwa [e] at this
end
theorem ok_common_of_two (T : Top K mg) : FnOk P w K mg base CX0 4 (adr mg "common_of_two") (fdat K mg "common_of_two") ["prime", "one", "other"] (spF (AC RI (AC (RRow K) (AC (RRow K) A0))) (RRow K) (fun d => Pr d.1 ∧ Tr d.1 d.2.1 ∧ Tr d.1 d.2.2.1) fun d => gcd2 d.1 d.2.1 d.2.2.1) := by
  refine fnF T.d_common_of_two.F sc_common_of_two rfl fun cdv Ar outer s H vs Q d hr hA hp q => ?_
  obtain ⟨p, a, b, _⟩ := d
  obtain ⟨_, _, rfl, rfl, v, _, rfl, hv, u, _, rfl, hu, rfl⟩ := hA
  have hv : RRow K H v a := hv
  have hu : RRow K H u b := hu
  obtain ⟨hP, ha, hb⟩ : Pr p ∧ Tr p a ∧ Tr p b := hp
  refine ⟨_, (pss_cons (ps_while PassesOwn.never (pt_cmpR (op_neD hr.units) (pv 2) (pe_tup pa_nil) (nomark _))
      (pss_one (ps_par (i := 1) (j := 2) rfl sc_common_of_two.nd rfl rfl (by decide) rfl rfl (pa_cons (pv 2) (pa_cons (pe_ix (r := rIxT K) ix_tup (pe_def T.d_divided (ok_divided T) (b_divided T) (hr.mono (by decide)) (by rfl) (pa_cons (pv 0) (pa_cons (pv 1) (pa_cons (pv 2) pa_nil)))) pe_int (fun _ _ => rfl)) pa_nil)) (by rfl))))
    (pss_one (ps_ret (pe_ifExp (pt_cmpR (op_neD hr.units) (pv 1) (pe_tup pa_nil) (nomark _)) (pe_def T.d_monic (ok_monic T) (b_monic T) (hr.mono (by decide)) (by rfl) (pa_cons (pv 0) (pa_cons (pv 1) pa_nil))) (pe_tup pa_nil))))), ?_⟩
  refine s_while (fun m σ' H' => ∃ x y vx vy, σ' = [some (.int p), some vx, some vy] ∧ Same H H' ∧ RRow K H' vx x ∧ RRow K H' vy y ∧ Tr p x ∧ Tr p y ∧ y.length ≤ m ∧ gcdGo p (m + 1) x y = gcdE p a b) b.length ⟨a, b, v, u, rfl, Same.refl H, hv, hu, ha, hb, Nat.le_refl _, rfl⟩ ?_
  rintro m σ' H' ⟨x, y, vx, vy, rfl, e1, hx, hy, tx, ty, hm, hg⟩
  refine ⟨!y.isEmpty, et_test (ev_neNilT (R := RI) (ev_var (R := RRow K) rfl hy)), fun hb2 H2 e2 => ?_, fun hb2 H2 e2 => ?_⟩
  · have hy0 : y ≠ [] := fun z => by rw [z] at hb2; exact nomatch hb2
    have hx2 := Sm.sm e2 hx
    have hy2 := Sm.sm e2 hy
    refine e_par (ev_var (R := RRow K) rfl hy2) (ev_p1 (ev_call (ea_cons (ev_var rfl rfl) (ea_cons (ev_var (R := RRow K) rfl hx2) (ea_cons (ev_var (R := RRow K) rfl hy2) ea_nil))) ⟨hP, tx.1, ty.1, hy0, ty.lst hy0⟩)) fun w1 w2 H3 e3 r1 r2 => ?_
    have hlen := rem_len (a := x) hP hy0 ty.1 (ty.lst hy0)
    refine ⟨m - 1, by have := List.length_pos_iff.mpr hy0; omega, y, remP p x y, w1, w2, rfl, e1.trans (e2.trans e3), r1, r2, ty, tr_rem hP tx.1 y, by omega, ?_⟩
    rw [← hg]
    have hm0 : m = (m - 1) + 1 := by have := List.length_pos_iff.mpr hy0; omega
    rw [← hm0]
    show gcdGo p m y (remP p x y) = if y = [] then x else gcdGo p m y (remP p x y)
    rw [if_neg hy0]
  · have hy0 : y = [] := by
      cases y with
      | nil => rfl
      | cons _ _ => exact nomatch hb2
    subst hy0
    have hxe : gcdE p a b = x := by
      rw [← hg]
      show (if ([] : Row) = [] then x else _) = x
      rw [if_pos rfl]
    have hx2 := Sm.sm e2 hx
    refine s_ret (ev_if (b := !x.isEmpty) (d := gcd2 p a b) (et_test (ev_neNilT (R := RI) (ev_var (R := RRow K) rfl hx2))) (fun h => ?_) fun h => ?_) fun z H3 e3 rz => q z H3 (e1.trans (e2.trans e3)) rz
    · have hx0 : x ≠ [] := fun z => by rw [z] at h; exact nomatch h
      refine Ev.is (ev_call (ea_cons (ev_var rfl rfl) (ea_cons (ev_var (R := RRow K) rfl hx2) ea_nil)) ⟨hP, tx.1, hx0, tx.lst hx0⟩) ?_
      show mon p x = gcd2 p a b
      unfold gcd2
      rw [hxe, if_neg hx0]
    · have hx0 : x = [] := by
        cases x with
        | nil => rfl
        | cons _ _ => exact nomatch h
      refine Ev.is (ev_tup (R := RI) es_nil (by decide)) ?_
      show [] = gcd2 p a b
      unfold gcd2
      rw [hxe, if_pos hx0]
theorem ok_gcd_of (T : Top K mg) : FnOk P w K mg base CX0 5 (adr mg "gcd_of") (fdat K mg "gcd_of") ["prime", "rows"] (spF (AC RI (AC (RL K (RRow K)) A0)) (RRow K) (fun d => Pr d.1 ∧ (∀ r ∈ d.2.1, Tr d.1 r)) fun d => gcdAll d.1 d.2.1) := by
  refine fnF T.d_gcd_of.F sc_gcd_of rfl fun cdv Ar outer s H vs Q d hr hA hp q => ?_
  obtain ⟨p, rs, _⟩ := d
  obtain ⟨_, _, rfl, rfl, v, _, rfl, hv, rfl⟩ := hA
  have hv : RL K (RRow K) H v rs := hv
  obtain ⟨hP, ht⟩ : Pr p ∧ ∀ r ∈ rs, Tr p r := hp
  refine ⟨_, (pss_cons (ps_set (i := 2) sc_gcd_of.nd rfl (.inl rfl) (pe_tup pa_nil))
    (pss_cons (ps_for PassesOwn.never rfl (pi_list (pv 1)) (pg_name (i := 3) sc_gcd_of.nd rfl (.inl rfl))
      (pss_one (ps_set (i := 2) sc_gcd_of.nd rfl (.inl rfl) (pe_def T.d_common_of_two (ok_common_of_two T) (b_common_of_two T) (hr.mono (by decide)) (by rfl) (pa_cons (pv 0) (pa_cons (pv 2) (pa_cons (pv 3) pa_nil)))))))
    (pss_one (ps_ret (pv 2))))), ?_⟩
  refine s_set (R := RRow K) (ev_tup (R := RI) es_nil (by decide)) fun u H1 e1 ru => ?_
  refine s_fold (gcd2 p) [] (src_list (ev_var (R := RL K (RRow K)) rfl (Sm.sm e1 hv))) Same.refl fun H2 e2 => ⟨fun f σ' H' => ∃ y2 y3, σ' = [some (.int p), some v, some y2, y3] ∧ Same H H' ∧ RRow K H' y2 f ∧ Tr p f, ⟨u, _, rfl, e1.trans e2, Sm.sm e2 ru, Tr.nil p⟩, ?_, ?_⟩
  · rintro f r x σ' H3 H4 hd g3 ⟨y2, y3, rfl, s3, hf, tf⟩ e4 rx
    refine e_set (ev_call (ea_cons (ev_var rfl rfl) (ea_cons (ev_var (R := RRow K) rfl (Sm.sm e4 hf)) (ea_cons (ev_var (R := RRow K) rfl rx) ea_nil))) ⟨hP, tf, ht r hd⟩) fun z H5 e5 rz => ?_
    exact ⟨g3.trans (e4.trans e5), z, _, rfl, s3.trans (e4.trans e5), rz, (gcd2_tr hP tf (ht r hd)).1⟩
  · rintro σ' H3 g3 ⟨y2, y3, rfl, s3, hf, tf⟩
    exact s_ret (ev_var (R := RRow K) rfl hf) fun z H4 e4 rz => q z H4 (s3.trans e4) rz
theorem ok_power_of_x (T : Top K mg) : FnOk P w K mg base CX0 3 (adr mg "power_of_x") (fdat K mg "power_of_x") ["prime", "many", "modulus"] (spF (AC RI (AC RI (AC (RRow K) A0))) (RRow K) (fun d => Pr d.1 ∧ 0 ≤ d.2.1 ∧ Tr d.1 d.2.2.1 ∧ d.2.2.1 ≠ [] ∧ d.2.2.1.length ≤ 400) fun d => powX d.1 d.2.1.toNat d.2.2.1) := by
  refine fnF T.d_power_of_x.F sc_power_of_x rfl fun cdv Ar outer s H vs Q d hr hA hp q => ?_
  obtain ⟨p, n, m, _⟩ := d
  obtain ⟨_, _, rfl, rfl, _, _, rfl, rfl, u, _, rfl, hu, rfl⟩ := hA
  have hu : RRow K H u m := hu
  obtain ⟨hP, hn, hm, hm0, hml⟩ : Pr p ∧ 0 ≤ n ∧ Tr p m ∧ m ≠ [] ∧ m.length ≤ 400 := hp
  have hmd : ∀ a, Rw p a → Pr p ∧ Rw p a ∧ Rw p m ∧ m ≠ [] ∧ lst m ≠ 0 := fun a ha => ⟨hP, ha, hm.1, hm0, hm.lst hm0⟩
  have q1 := tr_rem hP (rw_one hP) m
  have q2 := tr_rem hP (rw_x hP) m
  have rl : ∀ a, (remP p a m).length < m.length := fun a => rem_len hP hm0 hm.1 (hm.lst hm0)
  refine ⟨_, (pss_cons (ps_set (i := 3) sc_power_of_x.nd rfl (.inl rfl) (pe_ix (r := rIxT K) ix_tup (pe_def T.d_divided (ok_divided T) (b_divided T) (hr.mono (by decide)) (by rfl) (pa_cons (pv 0) (pa_cons (pe_tup (pa_cons pe_int pa_nil)) (pa_cons (pv 2) pa_nil)))) pe_int (fun _ _ => rfl)))
    (pss_cons (ps_set (i := 4) sc_power_of_x.nd rfl (.inl rfl) (pe_ix (r := rIxT K) ix_tup (pe_def T.d_divided (ok_divided T) (b_divided T) (hr.mono (by decide)) (by rfl) (pa_cons (pv 0) (pa_cons (pe_tup (pa_cons pe_int (pa_cons pe_int pa_nil))) (pa_cons (pv 2) pa_nil)))) pe_int (fun _ _ => rfl)))
    (pss_cons (ps_set (i := 5) sc_power_of_x.nd rfl (.inl rfl) (pv 1))
    (pss_cons (ps_while PassesOwn.never (pt_cmpR op_gt (pv 5) pe_int (nomark _))
      (pss_cons (ps_if (pt_cmpR op_eq (pe_op op_odd (pv 5) pe_int) pe_int (nomark _))
        (pss_one (ps_set (i := 3) sc_power_of_x.nd rfl (.inl rfl) (pe_ix (r := rIxT K) ix_tup (pe_def T.d_divided (ok_divided T) (b_divided T) (hr.mono (by decide)) (by rfl) (pa_cons (pv 0) (pa_cons (pe_def T.d_timesed (ok_timesed T) (b_timesed T) (hr.mono (by decide)) (by rfl) (pa_cons (pv 0) (pa_cons (pv 3) (pa_cons (pv 4) pa_nil)))) (pa_cons (pv 2) pa_nil)))) pe_int (fun _ _ => rfl))))
        pss_nil)
      (pss_cons (ps_set (i := 4) sc_power_of_x.nd rfl (.inl rfl) (pe_ix (r := rIxT K) ix_tup (pe_def T.d_divided (ok_divided T) (b_divided T) (hr.mono (by decide)) (by rfl) (pa_cons (pv 0) (pa_cons (pe_def T.d_timesed (ok_timesed T) (b_timesed T) (hr.mono (by decide)) (by rfl) (pa_cons (pv 0) (pa_cons (pv 4) (pa_cons (pv 4) pa_nil)))) (pa_cons (pv 2) pa_nil)))) pe_int (fun _ _ => rfl)))
      (pss_one (ps_set (i := 5) sc_power_of_x.nd rfl (.inl rfl) (pe_op op_halfN (pv 5) pe_int))))))
    (pss_one (ps_ret (pv 3))))))), ?_⟩
  refine s_setE (d' := remP p [1] m) (ev_p1 (ev_call (ea_cons (ev_var rfl rfl) (ea_cons (ev_tup (es_cons ev_int es_nil) (by decide)) (ea_cons (ev_var (R := RRow K) rfl hu) ea_nil))) (hmd _ (rw_one hP)))) rfl fun vf H1 e1 rf => ?_
  refine s_setE (d' := remP p [0, 1] m) (ev_p1 (ev_call (ea_cons (ev_var rfl rfl) (ea_cons (ev_tup (es_cons ev_int (es_cons ev_int es_nil)) (by decide)) (ea_cons (ev_var (R := RRow K) rfl (Sm.sm e1 hu)) ea_nil))) (hmd _ (rw_x hP)))) rfl fun vs H2 e2 rs => ?_
  have e02 := e1.trans e2
  refine s_set (ev_var (R := RI) rfl rfl) fun _ H3 e3 rl3 => ?_
  cases rl3
  have e03 := e02.trans e3
  refine s_while (fun k σ' H' => ∃ (left : Nat) (f s : Row) (vf vs : V), σ' = [some (.int p), some (.int n), some u, some vf, some vs, some (.int (left : Int))] ∧ Same H H' ∧ RRow K H' vf f ∧ RRow K H' vs s ∧ Tr p f ∧ f.length < m.length ∧ Tr p s ∧ s.length < m.length ∧ left ≤ k ∧ powGo p m k left f s = powX p n.toNat m) n.toNat
    ⟨n.toNat, _, _, vf, vs, by rw [Int.toNat_of_nonneg hn]; rfl, e03, Sm.sm (e2.trans e3) rf, Sm.sm e3 rs, q1, rl _, q2, rl _, Nat.le_refl _, rfl⟩ ?_
  rintro k σ' H4 ⟨left, f, s', vf, vs, rfl, e4, hf, hs, tf, lf, ts, ls, hk, hg⟩
  refine ⟨decide (0 < (left : Int)), by walk_at "ev", fun hb H5 e5 => ?_, fun hb H5 e5 => ?_⟩
  · have h0 : (0 : Int) < (left : Int) := of_decide_eq_true hb
    have hf := Sm.sm e5 hf
    have hs := Sm.sm e5 hs
    have hu5 := Sm.sm (e4.trans e5) hu
    have g1 : Rw p (mulP p f s') := rw_mul hP.pos (by omega)
    have g2 : Rw p (mulP p s' s') := rw_mul hP.pos (by omega)
    refine s_ifSet (R := RRow K) (b := decide (((left % 2 : Nat) : Int) = 1)) (d := if left % 2 = 1 then remP p (mulP p f s') m else f) (v0 := vf) (et_test (ev_eq (ev_odd (ev_var rfl rfl)) ev_int)) (fun h => ?_) (fun h => ?_) rfl fun vf2 H6 e6 rf2 => ?_
    · have h := of_decide_eq_true h
      rw [if_pos (by omega)]
      exact Ev.is (ev_p1 (ev_call (ea_cons (ev_var rfl rfl) (ea_cons (ev_call (ea_cons (ev_var rfl rfl) (ea_cons (ev_var (R := RRow K) rfl hf) (ea_cons (ev_var (R := RRow K) rfl hs) ea_nil))) ⟨hP, tf.1, ts.1.2⟩) (ea_cons (ev_var (R := RRow K) rfl hu5) ea_nil))) (hmd _ g1))) rfl
    · have h := of_decide_eq_false h
      rw [if_neg (by omega)]
      exact hf
    · have hs6 := Sm.sm e6 hs
      have hu6 := Sm.sm e6 hu5
      refine s_setE (d' := remP p (mulP p s' s') m) (ev_p1 (ev_call (ea_cons (ev_var rfl rfl) (ea_cons (ev_call (ea_cons (ev_var rfl rfl) (ea_cons (ev_var (R := RRow K) rfl hs6) (ea_cons (ev_var (R := RRow K) rfl hs6) ea_nil))) ⟨hP, ts.1, ts.1.2⟩) (ea_cons (ev_var (R := RRow K) rfl hu6) ea_nil))) (hmd _ g2))) rfl fun vs2 H7 e7 rs2 => ?_
      refine e_set (ev_half (n := left) (ev_var rfl rfl)) fun _ H8 e8 r8 => ?_
      cases r8
      obtain ⟨k', rfl⟩ : ∃ k', k = k' + 1 := ⟨k - 1, by omega⟩
      have tf2 : Tr p (if left % 2 = 1 then remP p (mulP p f s') m else f) ∧ (if left % 2 = 1 then remP p (mulP p f s') m else f).length < m.length := by
        split
        · exact ⟨tr_rem hP g1 m, rl _⟩
        · exact ⟨tf, lf⟩
      refine ⟨k', Nat.lt_succ_self _, left / 2, _, _, vf2, vs2, rfl, e4.trans (e5.trans (e6.trans (e7.trans e8))), Sm.sm (e7.trans e8) rf2, Sm.sm e8 rs2, tf2.1, tf2.2, tr_rem hP g2 m, rl _, by omega, ?_⟩
      rw [← hg]
      show _ = if left = 0 then f else powGo p m k' (left / 2) (if left % 2 = 1 then remP p (mulP p f s') m else f) (remP p (mulP p s' s') m)
      rw [if_neg (show ¬ left = 0 by omega)]
  · have h0 : ¬ (0 : Int) < (left : Int) := of_decide_eq_false hb
    have hl0 : left = 0 := by omega
    subst hl0
    rw [powGo_zero] at hg
    refine s_retE (ev_var (R := RRow K) rfl (Sm.sm e5 hf)) (fun z H6 e6 rz => q z H6 (e4.trans (e5.trans e6)) rz) hg
theorem ok_of_rule (T : Top K mg) : FnOk P w K mg base CX0 1 (adr mg "of_rule") (fdat K mg "of_rule") ["rule"] (spF (AC (RPic K) A0) (RP K RI (RRow K)) (fun d => ∃ p, RuleV p d.1) fun d => (leastOf d.1, ruleRow d.1)) := by
  refine fnF T.d_of_rule.F sc_of_rule rfl fun cdv Ar outer s H vs Q d hr hA hp q => ?_
  obtain ⟨r, _⟩ := d
  obtain ⟨v, _, rfl, hv, rfl⟩ := hA
  have hv : RPic K H v r := hv
  obtain ⟨p, hR⟩ : ∃ p, RuleV p r := hp
  have hl := ruleRow_len hR
  obtain ⟨h1, h2, h3, h4⟩ := hR
  have g0 : atI r 0 = some (r.headD (0, 0)) := by
    cases r with
    | nil => exact absurd rfl h4
    | cons x t => exact atI_0 rfl
  have gl : atI r (-1) = some (r.getLastD (0, 0)) := atI_m1 (by rw [List.getLastD_eq_getLast?, List.getLast?_eq_getLast h4]; rfl)
  refine ⟨_, (pss_cons (ps_set (i := 1) sc_of_rule.nd rfl (.inl rfl) (pe_ix (r := rIxT K) ix_tup (pe_ix (r := rIxT K) ix_tup (pv 0) pe_int (fun _ _ => rfl)) pe_int (fun _ _ => rfl)))
    (pss_cons (ps_set (i := 2) sc_of_rule.nd rfl (.inl rfl) (pe_op op_rep (pe_lst (pa_cons pe_int pa_nil)) (pe_op op_add (pe_op op_sub (pe_ix (r := rIxT K) ix_tup (pe_ix (r := rIxT K) ix_tup (pv 0) (pe_un un_neg pe_int) (fun _ _ => rfl)) pe_int (fun _ _ => rfl)) (pv 1)) pe_int)))
    (pss_cons (ps_for PassesOwn.never rfl (pi_tup (pv 0)) (pg_tup rfl (pgs_cons (pg_name (i := 3) sc_of_rule.nd rfl (.inl rfl)) (pgs_cons (pg_name (i := 4) sc_of_rule.nd rfl (.inl rfl)) pgs_nil)))
      (pss_one (ps_asg (pv 4) (pg_sub (pv 2) (pe_op op_sub (pv 3) (pv 1)) set_list))))
    (pss_one (ps_ret (pe_tup (pa_cons (pv 1) (pa_cons (pe_callTy call_tuple_of (by rfl) T.n_tuple (by decide +kernel) (pa_cons (pv 2) pa_nil)) pa_nil)))))))), ?_⟩
  refine s_setE (d' := leastOf r) (ev_p0 (ev_ixT (R := RPair K) (ev_var (R := RPic K) rfl hv) ev_int g0)) rfl fun _ H1 e1 r1 => ?_
  cases r1
  refine s_setZ (ns := zeros (mostOf r - leastOf r + 1)) (en_zeros (ev_add (ev_sub (ev_p0 (ev_ixT (R := RPair K) (ev_var (R := RPic K) rfl (Sm.sm e1 hv)) (ev_neg ev_int) gl)) (ev_var rfl rfl)) ev_int) (by show mostOf r - leastOf r + 1 ≤ _; omega) (by show _ ≤ mostOf r - leastOf r + 1; omega)) fun l H2 n2 e2 hl2 => ?_
  have z2 : H l = none := same_free e1 n2
  refine s_fold (ruleIn (leastOf r)) (zeros (mostOf r - leastOf r + 1)) (src_tup (ev_var (R := RPic K) rfl (Sm.sm (e1.trans e2) hv))) Tk.refl fun H3 e3 => ⟨fun f σ' H' => ∃ y3 y4, σ' = [some v, some (.int (leastOf r)), some (.ref l), y3, y4] ∧ Same H H' ∧ H' l = some (.lst (f.map V.int)) ∧ f.length = (mostOf r - leastOf r + 1).toNat, ⟨_, _, rfl, (e1.trans e2).trans e3, e3 _ _ hl2, zeros_len _⟩, ?_, ?_⟩
  · rintro f ⟨o, a⟩ x σ' H4 H5 hd g4 ⟨y3, y4, rfl, s4, l4, n4⟩ e5 rx
    have b1 := asc_least h2 _ hd
    have b2 := asc_last h4 h2 _ hd
    simp only at b1 b2
    refine g2 rx fun _ _ r1 r2 => ?_
    cases r1
    cases r2
    refine e_putI (ns := f) (j := o - leastOf r) (v := a) (e5 _ _ l4) (ev_var rfl rfl) rfl (ev_sub (ev_var rfl rfl) (ev_var rfl rfl)) (by omega) (by omega) fun H6 e6 => ?_
    exact ⟨(g4.trans (Tk.of (e5.trans e6))).upd (noT_lst (e3 _ _ hl2)), _, _, rfl, same_mut ((s4.trans e5).trans e6) z2, upd_same, by rw [ruleIn_len]; exact n4⟩
  · rintro σ' H4 g4 ⟨y3, y4, rfl, s4, l4, n4⟩
    exact s_ret (ev_tup2 (ev_var rfl rfl) (ev_tupL (ev_var (R := RL K RI) rfl (rl_int l4)))) fun z H5 e5 rz => q z H5 (s4.trans e5) rz
theorem ok_core_of (T : Top K mg) : FnOk P w K mg base CX0 4 (adr mg "core_of") (fdat K mg "core_of") ["prime", "rule"] (spF (AC RI (AC (RPic K) A0)) (RRow K) (fun d => Pr d.1 ∧ RuleV d.1 d.2.1) fun d => core d.1 d.2.1) := by
  refine fnF T.d_core_of.F sc_core_of rfl fun cdv Ar outer s H vs Q d hr hA hp q => ?_
  obtain ⟨p, r, _⟩ := d
  obtain ⟨_, _, rfl, rfl, v, _, rfl, hv, rfl⟩ := hA
  have hv : RPic K H v r := hv
  obtain ⟨hP, hR⟩ : Pr p ∧ RuleV p r := hp
  refine ⟨_, (pss_one (ps_ret (pe_def T.d_monic (ok_monic T) (b_monic T) (hr.mono (by decide)) (by rfl) (pa_cons (pv 0) (pa_cons (pe_ix (r := rIxT K) ix_tup (pe_def T.d_of_rule (ok_of_rule T) (b_of_rule T) (hr.mono (by decide)) (by rfl) (pa_cons (pv 1) pa_nil)) pe_int (fun _ _ => rfl)) pa_nil))))), ?_⟩
  exact s_ret (ev_call (ea_cons (ev_var rfl rfl) (ea_cons (ev_p1 (ev_call (ea_cons (ev_var (R := RPic K) rfl hv) ea_nil) ⟨p, hR⟩)) ea_nil)) ⟨hP, (core_ok hP hR).1, (core_ok hP hR).2.1, (core_ok hP hR).2.2⟩) q
end
end Rg
end
section
set_option Elab.async false
set_option linter.all false
set_option maxRecDepth 100000
set_option maxHeartbeats 4000000
open PySem PySem.Spec PyProof.Rows L2 RZ Rg
local macro_rules | `(tactic| walk_at "ev1") => `(tactic| first
  | exact ev_isTupT (ev_p1 (ev_var rfl (by assumption)))
  | exact ev_lenT (ev_p1 (ev_var rfl (by assumption)))
  | exact ev_lenT (ev_p0 (ev_var rfl (by assumption)))
  | exact ev_isInt (ev_p0 (ev_var rfl (by assumption)))
  | exact ev_isInt (ev_var rfl rfl)
  | exact ev_isBool (ev_var rfl rfl)
  | exact ev_isTupT (ev_var rfl (by assumption))
  | exact ev_isTupP (ev_var rfl (by assumption))
  | exact ev_isTupQ (ev_var rfl (by assumption))
  | exact ev_lenT (ev_var rfl (by assumption))
  | exact ev_lenP (ev_var rfl (by assumption))
  | exact ev_lenQ (ev_var rfl (by assumption))
  | exact ev_int
  | exact ev_bl
  | exact ev_var rfl rfl
  | exact ev_var rfl (by assumption)
  | exact ea_nil
  | exact ev_p0 (ev_var rfl (by assumption))
  | exact ev_p1 (ev_var rfl (by assumption))
  | exact ev_q0 (ev_var rfl (by assumption))
  | exact ev_q1 (ev_var rfl (by assumption))
  | exact ev_q2 (ev_var rfl (by assumption))
  | apply ea_cons
  | apply ev_call
  | apply ev_add
  | apply ev_sub
  | apply ev_mul
  | apply ev_mod
  | apply ev_fdiv
  | apply ev_lt
  | apply ev_le
  | apply ev_gt
  | apply ev_ge
  | apply ev_eq
  | apply ev_ne
  | apply ev_neg
  | apply ev_p0
  | apply ev_p1
  | apply ev_q0
  | apply ev_q1
  | apply ev_q2
  | apply ev_int1
  | apply ev_notV
  | apply ev_andV
  | apply ev_orV
  | apply et_test
  | apply et_B
  | apply et_and
  | apply et_or
  | apply et_not
  | exact True.intro
  | (with_reducible intro _)
  | (show (_ : Int) < _; assumption))
local macro_rules | `(tactic| walk_at "ev") => `(tactic| repeat' (walk_at "ev1"))

namespace Rg
section
variable {P : Program} {w : World} {K : PySem.W.Frag} {mg : Str → Option Value} {base : Heap}
theorem lex2 (a b : Int × Int) : HT.lexLt [a.1, a.2] [b.1, b.2] = lt2 a b := by
  unfold HT.lexLt lt2
  by_cases h : a.1 = b.1
  · rw [h]
    by_cases h2 : a.2 = b.2
    · rw [h2]; simp [HT.lexLt]
    · simp [HT.lexLt, h2]
  · simp [HT.lexLt, h]
theorem ev_ltP {σ : L2.St} {H : Hp} {ta tb : TE} {a b : Int × Int} (ha : Ev ta σ H (RPair K) a) (hb : Ev tb σ H (RPair K) b) : Ev (tOp (rLtT K) ta tb) σ H RB (lt2 a b) := fun H1 e Q q =>
  ha H1 e _ fun x H2 e2 r2 => hb H2 (e.trans e2) _ fun y H3 e3 ⟨b', v, w, ey, hy, rv, rw'⟩ => by
    obtain ⟨a', v', w', ex, hx, rv', rw2⟩ := (Sm.sm e3 r2 : RPair K H3 x a)
    cases rv; cases rw'; cases rv'; cases rw2
    refine ⟨a', b', [a.1, a.2], [b.1, b.2], ex, ey, hx, hy, q _ H3 (e2.trans e3) ?_⟩
    rw [lex2]
    rfl
theorem ok_fits_panel (T : Top K mg) : FnOk P w K mg base CX0 5 (adr mg "fits_panel") (fdat K mg "fits_panel") ["value"] (spF (AC (RPanel K) A0) RB (fun d => PanelV d.1) fun _ => true) := by
  refine fnF T.d_fits_panel.F sc_fits_panel rfl fun cdv Ar outer s H vs Q d hr hA hp q => ?_
  obtain ⟨⟨p, bs⟩, _⟩ := d
  obtain ⟨v, _, rfl, hv, rfl⟩ := hA
  have hv : RPanel K H v (p, bs) := hv
  obtain ⟨hP, hR, hn, hl⟩ : Pr p ∧ (∀ r ∈ bs, RuleV p r) ∧ bs ≠ [] ∧ bs.length ≤ 10 := hp
  have hbl : 0 < bs.length := List.length_pos_iff.mpr hn
  refine ⟨_, (pss_cons (ps_if (PW.pt (pw_or (pt_not (pt_val (pe_callB call_isi (by rfl) T.n_isinstance (by decide +kernel) (pa_cons (pv 0) (pa_cons (pe_bltn (v := .ty "tuple") (by rfl) T.n_tuple (by decide +kernel) rfl) pa_nil))))) (pw_or (pt_cmpR op_ne (pe_callB (r := rLenK K) call_lenK (by rfl) T.n_len (by decide +kernel) (pa_cons (pv 0) pa_nil)) pe_int (nomark _)) (pw_or1 (pt_not (pt_val (pe_def T.d_is_prime (ok_is_prime T) (b_is_prime T) (hr.mono (by decide)) (by rfl) (pa_cons (pe_ix (r := rIxT K) ix_tup (pv 0) pe_int (fun _ _ => rfl)) pa_nil))))))))
      (pss_one (ps_ret pe_bl))
      pss_nil)
    (pss_cons (ps_if (PW.pt (pw_or (pt_not (pt_val (pe_callB call_isi (by rfl) T.n_isinstance (by decide +kernel) (pa_cons (pe_ix (r := rIxT K) ix_tup (pv 0) pe_int (fun _ _ => rfl)) (pa_cons (pe_bltn (v := .ty "tuple") (by rfl) T.n_tuple (by decide +kernel) rfl) pa_nil))))) (pw_or1 (pt_cmpR op_eq (pe_callB (r := rLenK K) call_lenK (by rfl) T.n_len (by decide +kernel) (pa_cons (pe_ix (r := rIxT K) ix_tup (pv 0) pe_int (fun _ _ => rfl)) pa_nil)) pe_int (nomark _)))))
      (pss_one (ps_ret pe_bl))
      pss_nil)
    (pss_one (ps_ret (pe_callB (cr_all rfl) (by rfl) T.n_all (by decide +kernel) (pa_cons (pe_lc (own := [("button", 1)]) (g := (gName 1)) rfl sc_fits_panel.nd (pi_tup (pe_ix (r := rIxT K) ix_tup (pv 0) pe_int (fun _ _ => rfl))) (blkOk_by (N := N_fits_panel) (sc := defScope s_fits_panel) (by decide +kernel)) (fun _ _ _ _ _ => (pg_name (i := 1) sc_fits_panel.nd rfl (.inl rfl))) (fun _ _ _ _ _ => pts_nil) (fun _ _ _ _ _ => (pe_and (pe_def T.d_fits_rule (ok_fits_rule T) (b_fits_rule T) (hr.mono (by decide)) (by rfl) (pa_cons (pe_ix (r := rIxT K) ix_tup (pv 0) pe_int (fun _ _ => rfl)) (pa_cons (pv 1) pa_nil))) (pe_one (pe_cmpR op_gt (pe_callB (r := rLenK K) call_lenK (by rfl) T.n_len (by decide +kernel) (pa_cons (pv 1) pa_nil)) pe_int (nomark _)))))) pa_nil)))))), ?_⟩
  refine s_no ?_ fun H1 e1 => ?_
  · apply EvT.is
    · walk_at "ev"
      exact hP
    · rfl
  · have hv := Sm.sm e1 hv
    refine s_no ?_ fun H2 e2 => ?_
    · apply EvT.is
      · walk_at "ev"
      · show (!true || decide ((bs.length : Int) = 0)) = false
        rw [decide_eq_false (by omega)]
        rfl
    · have hv := Sm.sm e2 hv
      refine s_ret ((ev_all (en_lm1 (S := RB) (fun d : Rule => true && decide (0 < (d.length : Int))) (src_tup (R := RPic K) (ev_p1 (ev_var (R := RPanel K) rfl hv))).same (by show bs.length ≤ _; omega) fun d u H' hd e ru => ⟨rfl, ?_⟩).l).is (all_map fun x hx => ?_)) fun v H3 e3 rv => q v H3 (e1.trans (e2.trans e3)) rv
      · have hv := Sm.sm e hv
        apply Ev.is
        · walk_at "ev"
          exact hR d hd
        · rfl
      · have := List.length_pos_iff.mpr (hR x hx).2.2.2
        rw [decide_eq_true (by omega)]
        rfl
theorem ok_is_lamp (T : Top K mg) : FnOk P w K mg base CX0 3 (adr mg "is_lamp") (fdat K mg "is_lamp") ["prime", "size", "value"] (spF (AC RI (AC RI (AC (RPair K) A0))) RB (fun d => 0 ≤ d.2.2.1.1 ∧ d.2.2.1.1 ≤ d.2.1 - 1 ∧ 1 ≤ d.2.2.1.2 ∧ d.2.2.1.2 ≤ d.1 - 1) fun _ => true) := by
  refine fnF T.d_is_lamp.F sc_is_lamp rfl fun cdv Ar outer s H vs Q d hr hA hp q => ?_
  obtain ⟨p, n, ⟨x, c⟩, _⟩ := d
  obtain ⟨_, _, rfl, rfl, _, _, rfl, rfl, v, _, rfl, hv, rfl⟩ := hA
  have hv : RPair K H v (x, c) := hv
  obtain ⟨h1, h2, h3, h4⟩ : 0 ≤ x ∧ x ≤ n - 1 ∧ 1 ≤ c ∧ c ≤ p - 1 := hp
  refine ⟨_, (pss_cons (ps_if (PW.pt (pw_or (pt_not (pt_val (pe_callB call_isi (by rfl) T.n_isinstance (by decide +kernel) (pa_cons (pv 2) (pa_cons (pe_bltn (v := .ty "tuple") (by rfl) T.n_tuple (by decide +kernel) rfl) pa_nil))))) (pw_or1 (pt_cmpR op_ne (pe_callB (r := rLenK K) call_lenK (by rfl) T.n_len (by decide +kernel) (pa_cons (pv 2) pa_nil)) pe_int (nomark _)))))
      (pss_one (ps_ret pe_bl))
      pss_nil)
    (pss_one (ps_ret (pe_and (pe_def T.d_is_whole (ok_is_whole T) (b_is_whole T) (hr.mono (by decide)) (by rfl) (pa_cons (pe_ix (r := rIxT K) ix_tup (pv 2) pe_int (fun _ _ => rfl)) (pa_cons pe_int (pa_cons (pe_op op_sub (pv 1) pe_int) pa_nil)))) (pe_one (pe_def T.d_is_whole (ok_is_whole T) (b_is_whole T) (hr.mono (by decide)) (by rfl) (pa_cons (pe_ix (r := rIxT K) ix_tup (pv 2) pe_int (fun _ _ => rfl)) (pa_cons pe_int (pa_cons (pe_op op_sub (pv 0) pe_int) pa_nil))))))))), ?_⟩
  refine s_no ?_ fun H1 e1 => ?_
  · apply EvT.is
    · walk_at "ev"
    · rfl
  · have hv := Sm.sm e1 hv
    apply s_retE (R := RB)
    · walk_at "ev"
    · exact fun v H2 e2 r => q v H2 (e1.trans e2) r
    · show ((decide (0 ≤ x) && decide (x ≤ n - 1)) && (decide (1 ≤ c) && decide (c ≤ p - 1))) = true
      rw [decide_eq_true h1, decide_eq_true h2, decide_eq_true h3, decide_eq_true h4]
      rfl
theorem ok_fits_picture (T : Top K mg) : FnOk P w K mg base CX0 4 (adr mg "fits_picture") (fdat K mg "fits_picture") ["prime", "size", "value"] (spF (AC RI (AC RI (AC (RPic K) A0))) RB (fun d => PicV d.1 d.2.1 d.2.2.1) fun _ => true) := by
  refine fnF T.d_fits_picture.F sc_fits_picture rfl fun cdv Ar outer s H vs Q d hr hA hp q => ?_
  obtain ⟨p, n, r, _⟩ := d
  obtain ⟨_, _, rfl, rfl, _, _, rfl, rfl, v, _, rfl, hv, rfl⟩ := hA
  have hv : RPic K H v r := hv
  obtain ⟨h1, h2, h3⟩ : PicV p n r := hp
  refine ⟨_, (pss_cons (ps_if (PW.pt (pw_or (pt_not (pt_val (pe_callB call_isi (by rfl) T.n_isinstance (by decide +kernel) (pa_cons (pv 2) (pa_cons (pe_bltn (v := .ty "tuple") (by rfl) T.n_tuple (by decide +kernel) rfl) pa_nil))))) (pw_or1 (pt_not (pt_val (pe_callB (cr_all rfl) (by rfl) T.n_all (by decide +kernel) (pa_cons (pe_lc (own := [("lamp", 5)]) (g := (gName 5)) rfl sc_fits_picture.nd (pi_tup (pv 2)) (blkOk_by (N := N_fits_picture) (sc := defScope s_fits_picture) (by decide +kernel)) (fun _ _ _ _ _ => (pg_name (i := 5) sc_fits_picture.nd rfl (.inl rfl))) (fun _ _ _ _ _ => pts_nil) (fun _ _ _ _ _ => (pe_def T.d_is_lamp (ok_is_lamp T) (b_is_lamp T) (hr.mono (by decide)) (by rfl) (pa_cons (pv 0) (pa_cons (pv 1) (pa_cons (pv 5) pa_nil)))))) pa_nil)))))))
      (pss_one (ps_ret pe_bl))
      pss_nil)
    (pss_one (ps_ret (pe_callB (cr_all rfl) (by rfl) T.n_all (by decide +kernel) (pa_cons (pe_lc (own := [("here", 3), ("there", 4)]) (g := (gTup K 2 (gCons (gName 3) (gCons (gName 4) gNil)))) rfl sc_fits_picture.nd (pi_zipA (by rfl) T.n_zip (pa_cons (pv 2) (pa_cons (pe_slice sl_tupA (pv 2) (po_some pe_int) po_none) pa_nil))) (blkOk_by (N := N_fits_picture) (sc := defScope s_fits_picture) (by decide +kernel)) (fun _ _ _ _ _ => (pg_tup rfl (pgs_cons (pg_name (i := 3) sc_fits_picture.nd rfl (.inl rfl)) (pgs_cons (pg_name (i := 4) sc_fits_picture.nd rfl (.inl rfl)) pgs_nil)))) (fun _ _ _ _ _ => pts_nil) (fun _ _ _ _ _ => (pe_cmpR op_lt (pe_ix (r := rIxT K) ix_tup (pv 3) pe_int (fun _ _ => rfl)) (pe_ix (r := rIxT K) ix_tup (pv 4) pe_int (fun _ _ => rfl)) (nomark _)))) pa_nil))))), ?_⟩
  refine s_no ?_ fun H1 e1 => ?_
  · refine (et_or (a := false) (b := false) ((et_not (et_B (ev_isTupT (ev_var (R := RPic K) rfl hv)))).is rfl) fun _ => (et_not (et_B ((ev_all (en_lm1 (S := RB) (fun d : Int × Int => true) (src_tup (ev_var (R := RPic K) rfl hv)).same (by omega) fun d u H' hd e ru => ⟨rfl, ?_⟩).l).is (all_map fun x hx => rfl)))).is rfl).is rfl
    walk_at "ev"
    exact h1 d hd
  · have hv := Sm.sm e1 hv
    refine s_ret ((ev_all (en_lm2 (T := RB) (fun d : (Int × Int) × (Int × Int) => decide (d.1.1 < d.2.1)) (src_zipT (ev_var (R := RPic K) rfl hv) (ev_tail (ev_var (R := RPic K) rfl hv))).same (by rw [List.length_zip]; omega) fun a b u u' H' hd e ru ru' => ⟨rfl, ?_⟩).l).is (all_map fun x hx => decide_eq_true (h2 x hx))) fun v H2 e2 rv => q v H2 (e1.trans e2) rv
    walk_at "ev"
theorem ok_is_press (T : Top K mg) : FnOk P w K mg base CX0 3 (adr mg "is_press") (fdat K mg "is_press") ["panel", "size", "value"] (spF (AC (RPanel K) (AC RI (AC (RTrip K) A0))) RB (fun d => 0 ≤ d.2.2.1.1 ∧ d.2.2.1.1 ≤ (d.1.2.length : Int) - 1 ∧ 0 ≤ d.2.2.1.2.1 ∧ d.2.2.1.2.1 ≤ d.2.1 - 1 ∧ 1 ≤ d.2.2.1.2.2 ∧ d.2.2.1.2.2 ≤ d.1.1 - 1) fun _ => true) := by
  refine fnF T.d_is_press.F sc_is_press rfl fun cdv Ar outer s H vs Q d hr hA hp q => ?_
  obtain ⟨⟨p, bs⟩, n, ⟨k, x, c⟩, _⟩ := d
  obtain ⟨u, _, rfl, hu, _, _, rfl, rfl, v, _, rfl, hv, rfl⟩ := hA
  have hu : RPanel K H u (p, bs) := hu
  have hv : RTrip K H v (k, x, c) := hv
  obtain ⟨g1, g2, h1, h2, h3, h4⟩ : 0 ≤ k ∧ k ≤ (bs.length : Int) - 1 ∧ 0 ≤ x ∧ x ≤ n - 1 ∧ 1 ≤ c ∧ c ≤ p - 1 := hp
  refine ⟨_, (pss_cons (ps_if (PW.pt (pw_or (pt_not (pt_val (pe_callB call_isi (by rfl) T.n_isinstance (by decide +kernel) (pa_cons (pv 2) (pa_cons (pe_bltn (v := .ty "tuple") (by rfl) T.n_tuple (by decide +kernel) rfl) pa_nil))))) (pw_or (pt_cmpR op_ne (pe_callB (r := rLenK K) call_lenK (by rfl) T.n_len (by decide +kernel) (pa_cons (pv 2) pa_nil)) pe_int (nomark _)) (pw_or1 (pt_not (pt_val (pe_def T.d_is_whole (ok_is_whole T) (b_is_whole T) (hr.mono (by decide)) (by rfl) (pa_cons (pe_ix (r := rIxT K) ix_tup (pv 2) pe_int (fun _ _ => rfl)) (pa_cons pe_int (pa_cons (pe_op op_sub (pe_callB (r := rLenK K) call_lenK (by rfl) T.n_len (by decide +kernel) (pa_cons (pe_ix (r := rIxT K) ix_tup (pv 0) pe_int (fun _ _ => rfl)) pa_nil)) pe_int) pa_nil))))))))))
      (pss_one (ps_ret pe_bl))
      pss_nil)
    (pss_one (ps_ret (pe_and (pe_def T.d_is_whole (ok_is_whole T) (b_is_whole T) (hr.mono (by decide)) (by rfl) (pa_cons (pe_ix (r := rIxT K) ix_tup (pv 2) pe_int (fun _ _ => rfl)) (pa_cons pe_int (pa_cons (pe_op op_sub (pv 1) pe_int) pa_nil)))) (pe_one (pe_def T.d_is_whole (ok_is_whole T) (b_is_whole T) (hr.mono (by decide)) (by rfl) (pa_cons (pe_ix (r := rIxT K) ix_tup (pv 2) pe_int (fun _ _ => rfl)) (pa_cons pe_int (pa_cons (pe_op op_sub (pe_ix (r := rIxT K) ix_tup (pv 0) pe_int (fun _ _ => rfl)) pe_int) pa_nil))))))))), ?_⟩
  refine s_no ?_ fun H1 e1 => ?_
  · apply EvT.is
    · walk_at "ev"
    · show (!true || (!decide ((3 : Int) = 3) || !(decide (0 ≤ k) && decide (k ≤ (bs.length : Int) - 1)))) = false
      rw [decide_eq_true g1, decide_eq_true g2]
      rfl
  · have hu := Sm.sm e1 hu
    have hv := Sm.sm e1 hv
    apply s_retE (R := RB)
    · walk_at "ev"
    · exact fun v H2 e2 r => q v H2 (e1.trans e2) r
    · show ((decide (0 ≤ x) && decide (x ≤ n - 1)) && (decide (1 ≤ c) && decide (c ≤ p - 1))) = true
      rw [decide_eq_true h1, decide_eq_true h2, decide_eq_true h3, decide_eq_true h4]
      rfl
theorem ok_fits_presses (T : Top K mg) : FnOk P w K mg base CX0 4 (adr mg "fits_presses") (fdat K mg "fits_presses") ["panel", "size", "value"] (spF (AC (RPanel K) (AC RI (AC (RPush K) A0))) RB (fun d => PushV d.1 d.2.1 d.2.2.1) fun _ => true) := by
  refine fnF T.d_fits_presses.F sc_fits_presses rfl fun cdv Ar outer s H vs Q d hr hA hp q => ?_
  obtain ⟨Pn, n, r, _⟩ := d
  obtain ⟨u, _, rfl, hu, _, _, rfl, rfl, v, _, rfl, hv, rfl⟩ := hA
  have hu : RPanel K H u Pn := hu
  have hv : RPush K H v r := hv
  obtain ⟨h1, h2, h3⟩ : PushV Pn n r := hp
  refine ⟨_, (pss_cons (ps_if (PW.pt (pw_or (pt_not (pt_val (pe_callB call_isi (by rfl) T.n_isinstance (by decide +kernel) (pa_cons (pv 2) (pa_cons (pe_bltn (v := .ty "tuple") (by rfl) T.n_tuple (by decide +kernel) rfl) pa_nil))))) (pw_or1 (pt_not (pt_val (pe_callB (cr_all rfl) (by rfl) T.n_all (by decide +kernel) (pa_cons (pe_lc (own := [("press", 5)]) (g := (gName 5)) rfl sc_fits_presses.nd (pi_tup (pv 2)) (blkOk_by (N := N_fits_presses) (sc := defScope s_fits_presses) (by decide +kernel)) (fun _ _ _ _ _ => (pg_name (i := 5) sc_fits_presses.nd rfl (.inl rfl))) (fun _ _ _ _ _ => pts_nil) (fun _ _ _ _ _ => (pe_def T.d_is_press (ok_is_press T) (b_is_press T) (hr.mono (by decide)) (by rfl) (pa_cons (pv 0) (pa_cons (pv 1) (pa_cons (pv 5) pa_nil)))))) pa_nil)))))))
      (pss_one (ps_ret pe_bl))
      pss_nil)
    (pss_one (ps_ret (pe_callB (cr_all rfl) (by rfl) T.n_all (by decide +kernel) (pa_cons (pe_lc (own := [("here", 3), ("there", 4)]) (g := (gTup K 2 (gCons (gName 3) (gCons (gName 4) gNil)))) rfl sc_fits_presses.nd (pi_zipA (by rfl) T.n_zip (pa_cons (pv 2) (pa_cons (pe_slice sl_tupA (pv 2) (po_some pe_int) po_none) pa_nil))) (blkOk_by (N := N_fits_presses) (sc := defScope s_fits_presses) (by decide +kernel)) (fun _ _ _ _ _ => (pg_tup rfl (pgs_cons (pg_name (i := 3) sc_fits_presses.nd rfl (.inl rfl)) (pgs_cons (pg_name (i := 4) sc_fits_presses.nd rfl (.inl rfl)) pgs_nil)))) (fun _ _ _ _ _ => pts_nil) (fun _ _ _ _ _ => (pe_cmpR (r := rLtT K) (op_ltT hr.units0) (pe_tup (pa_cons (pe_ix (r := rIxT K) ix_tup (pv 3) pe_int (fun _ _ => rfl)) (pa_cons (pe_ix (r := rIxT K) ix_tup (pv 3) pe_int (fun _ _ => rfl)) pa_nil))) (pe_tup (pa_cons (pe_ix (r := rIxT K) ix_tup (pv 4) pe_int (fun _ _ => rfl)) (pa_cons (pe_ix (r := rIxT K) ix_tup (pv 4) pe_int (fun _ _ => rfl)) pa_nil))) (nomark _)))) pa_nil))))), ?_⟩
  refine s_no ?_ fun H1 e1 => ?_
  · refine (et_or (a := false) (b := false) ((et_not (et_B (ev_isTupT (ev_var (R := RPush K) rfl hv)))).is rfl) fun _ => (et_not (et_B ((ev_all (en_lm1 (S := RB) (fun d : Int × Int × Int => true) (src_tup (ev_var (R := RPush K) rfl hv)).same (by omega) fun d u H' hd e ru => ⟨rfl, ?_⟩).l).is (all_map fun x hx => rfl)))).is rfl).is rfl
    have hu := Sm.sm e hu
    walk_at "ev"
    exact h1 d hd
  · have hv := Sm.sm e1 hv
    refine s_ret ((ev_all (en_lm2 (T := RB) (fun d : (Int × Int × Int) × (Int × Int × Int) => lt2 (d.1.1, d.1.2.1) (d.2.1, d.2.2.1)) (src_zipT (ev_var (R := RPush K) rfl hv) (ev_tail (ev_var (R := RPush K) rfl hv))).same (by rw [List.length_zip]; omega) fun a b u u' H' hd e ru ru' => ⟨rfl, ?_⟩).l).is (all_map fun x hx => h2 x hx)) fun v H2 e2 rv => q v H2 (e1.trans e2) rv
    exact ev_ltP (ev_tup2 (ev_q0 (ev_var (R := RTrip K) rfl ru)) (ev_q1 (ev_var (R := RTrip K) rfl ru))) (ev_tup2 (ev_q0 (ev_var (R := RTrip K) rfl ru')) (ev_q1 (ev_var (R := RTrip K) rfl ru')))
theorem ok_need_panel (T : Top K mg) : FnOk P w K mg base CX0 6 (adr mg "need_panel") (fdat K mg "need_panel") ["panel"] (spF (AC (RPanel K) A0) RN (fun d => PanelV d.1) fun _ => ()) := by
  refine fnF T.d_need_panel.F sc_need_panel rfl fun cdv Ar outer s H vs Q d hr hA hp q => ?_
  obtain ⟨Pn, _⟩ := d
  obtain ⟨v, _, rfl, hv, rfl⟩ := hA
  have hv : RPanel K H v Pn := hv
  refine ⟨_, (pss_one (ps_if (pt_not (pt_val (pe_def T.d_fits_panel (ok_fits_panel T) (b_fits_panel T) (hr.mono (by decide)) (by rfl) (pa_cons (pv 0) pa_nil))))
      (pss_one ps_never)
      pss_nil)), ?_⟩
  refine e_no ?_ fun H1 e1 => q _ H1 e1 rfl
  exact (et_not (et_B (ev_call (ea_cons (ev_var (R := RPanel K) rfl hv) ea_nil) hp))).is rfl
theorem ok_need_size (T : Top K mg) : FnOk P w K mg base CX0 2 (adr mg "need_size") (fdat K mg "need_size") ["size"] (spF (AC RI A0) RN (fun d => 1 ≤ d.1) fun _ => ()) := by
  refine fnF T.d_need_size.F sc_need_size rfl fun cdv Ar outer s H vs Q d hr hA hp q => ?_
  obtain ⟨n, _⟩ := d
  obtain ⟨_, _, rfl, rfl, rfl⟩ := hA
  have hp : 1 ≤ n := hp
  refine ⟨_, (pss_one (ps_if (PW.pt (pw_or (pt_not (pt_val (pe_def T.d_is_number (ok_is_number T) (b_is_number T) (hr.mono (by decide)) (by rfl) (pa_cons (pv 0) pa_nil)))) (pw_or1 (pt_cmpR op_lt (pv 0) pe_int (nomark _)))))
      (pss_one ps_never)
      pss_nil)), ?_⟩
  refine e_no ?_ fun H1 e1 => q _ H1 e1 rfl
  apply EvT.is
  · walk_at "ev"
  · show (!true || decide (n < 1)) = false
    rw [decide_eq_false (by omega)]
    rfl
theorem ok_need_picture (T : Top K mg) : FnOk P w K mg base CX0 5 (adr mg "need_picture") (fdat K mg "need_picture") ["prime", "size", "picture"] (spF (AC RI (AC RI (AC (RPic K) A0))) RN (fun d => PicV d.1 d.2.1 d.2.2.1) fun _ => ()) := by
  refine fnF T.d_need_picture.F sc_need_picture rfl fun cdv Ar outer s H vs Q d hr hA hp q => ?_
  obtain ⟨p, n, r, _⟩ := d
  obtain ⟨_, _, rfl, rfl, _, _, rfl, rfl, v, _, rfl, hv, rfl⟩ := hA
  have hv : RPic K H v r := hv
  refine ⟨_, (pss_one (ps_if (pt_not (pt_val (pe_def T.d_fits_picture (ok_fits_picture T) (b_fits_picture T) (hr.mono (by decide)) (by rfl) (pa_cons (pv 0) (pa_cons (pv 1) (pa_cons (pv 2) pa_nil))))))
      (pss_one ps_never)
      pss_nil)), ?_⟩
  refine e_no ?_ fun H1 e1 => q _ H1 e1 rfl
  exact (et_not (et_B (ev_call (ea_cons (ev_var rfl rfl) (ea_cons (ev_var rfl rfl) (ea_cons (ev_var (R := RPic K) rfl hv) ea_nil))) hp))).is rfl
end
end Rg
end
section
set_option Elab.async false
set_option linter.all false
set_option maxRecDepth 100000
set_option maxHeartbeats 4000000
open PySem PySem.Spec PyProof.Rows L2 RZ Rg
local macro_rules | `(tactic| walk_at "ev1") => `(tactic| first
  | exact ev_isTupT (ev_p1 (ev_var rfl (by assumption)))
  | exact ev_lenT (ev_p1 (ev_var rfl (by assumption)))
  | exact ev_lenT (ev_p0 (ev_var rfl (by assumption)))
  | exact ev_isInt (ev_p0 (ev_var rfl (by assumption)))
  | exact ev_isInt (ev_var rfl rfl)
  | exact ev_isBool (ev_var rfl rfl)
  | exact ev_isTupT (ev_var rfl (by assumption))
  | exact ev_isTupP (ev_var rfl (by assumption))
  | exact ev_isTupQ (ev_var rfl (by assumption))
  | exact ev_lenT (ev_var rfl (by assumption))
  | exact ev_lenP (ev_var rfl (by assumption))
  | exact ev_lenQ (ev_var rfl (by assumption))
  | exact ev_int
  | exact ev_bl
  | exact ev_var rfl rfl
  | exact ev_var rfl (by assumption)
  | exact ea_nil
  | exact ev_p0 (ev_var rfl (by assumption))
  | exact ev_p1 (ev_var rfl (by assumption))
  | exact ev_q0 (ev_var rfl (by assumption))
  | exact ev_q1 (ev_var rfl (by assumption))
  | exact ev_q2 (ev_var rfl (by assumption))
  | apply ea_cons
  | apply ev_call
  | apply ev_add
  | apply ev_sub
  | apply ev_mul
  | apply ev_mod
  | apply ev_fdiv
  | apply ev_lt
  | apply ev_le
  | apply ev_gt
  | apply ev_ge
  | apply ev_eq
  | apply ev_ne
  | apply ev_neg
  | apply ev_p0
  | apply ev_p1
  | apply ev_q0
  | apply ev_q1
  | apply ev_q2
  | apply ev_int1
  | apply ev_notV
  | apply ev_andV
  | apply ev_orV
  | apply et_test
  | apply et_B
  | apply et_and
  | apply et_or
  | apply et_not
  | exact True.intro
  | (with_reducible intro _)
  | (show (_ : Int) < _; assumption))
local macro_rules | `(tactic| walk_at "ev") => `(tactic| repeat' (walk_at "ev1"))

namespace Rg
/-- a row as a tuple or a list -/
def RS (K : PySem.W.Frag) : Rep Row := fun H v d => RT K RI H v d ∨ RL K RI H v d
instance {K : PySem.W.Frag} : Sm (RS K) := ⟨fun e h => h.elim (fun h => .inl (Sm.sm e h)) fun h => .inr (Sm.sm e h)⟩
section
variable {P : Program} {w : World} {K : PySem.W.Frag} {mg : Str → Option Value} {base : Heap}
theorem en_listS {σ : L2.St} {H : Hp} {ta : TE} {ds : Row} (h : Ev ta σ H (RS K) ds) : EvN (tCB (fun xs H Q => ∃ p ys, xs = [.ref p] ∧ (SqL K H p ys ∨ SqT K H p ys) ∧ ∀ l, H l = none → Q (.ref l) (upd H l (.lst ys))) (tCons ta tNil)) σ H RI ds := fun H1 e Q q =>
  h H1 e _ fun x H2 e2 r => by
    rcases r with ⟨a, xs, ex, hq, pd⟩ | ⟨a, xs, ex, hq, pd⟩
    · exact ⟨a, xs, by rw [ex], .inr hq, fun l hl => q l xs _ (same_free e2 hl) (e2.trans (same_new hl)) upd_same pd⟩
    · exact ⟨a, xs, by rw [ex], .inl hq, fun l hl => q l xs _ (same_free e2 hl) (e2.trans (same_new hl)) upd_same pd⟩
theorem Ev.s {σ : L2.St} {H : Hp} {ta : TE} {ds : Row} (h : Ev ta σ H (RT K RI) ds) : Ev ta σ H (RS K) ds := fun H1 e Q q => h H1 e Q fun v H2 e2 r => q v H2 e2 (.inl r)
theorem EvN.s {σ : L2.St} {H : Hp} {ta : TE} {ds : Row} (h : EvN ta σ H RI ds) : Ev ta σ H (RS K) ds := fun H1 e Q q => h.l (K := K) H1 e Q fun v H2 e2 r => q v H2 e2 (.inr r)
theorem ok_generator_of (T : Top K mg) : FnOk P w K mg base CX0 6 (adr mg "generator_of") (fdat K mg "generator_of") ["panel"] (spF (AC (RPanel K) A0) (RRow K) (fun d => PanelV d.1) fun d => gener d.1) := by
  refine fnF T.d_generator_of.F sc_generator_of rfl fun cdv Ar outer s H vs Q d hr hA hp q => ?_
  obtain ⟨Pn, _⟩ := d
  obtain ⟨v, _, rfl, hv, rfl⟩ := hA
  have hv : RPanel K H v Pn := hv
  have hp : PanelV Pn := hp
  refine ⟨_, (pss_one (ps_ret (pe_def T.d_gcd_of (ok_gcd_of T) (b_gcd_of T) (hr.mono (by decide)) (by rfl) (pa_cons (pe_ix (r := rIxT K) ix_tup (pv 0) pe_int (fun _ _ => rfl)) (pa_cons (pe_lc (own := [("button", 1)]) (g := (gName 1)) rfl sc_generator_of.nd (pi_tup (pe_ix (r := rIxT K) ix_tup (pv 0) pe_int (fun _ _ => rfl))) (blkOk_by (N := N_generator_of) (sc := defScope s_generator_of) (by decide +kernel)) (fun _ _ _ _ _ => (pg_name (i := 1) sc_generator_of.nd rfl (.inl rfl))) (fun _ _ _ _ _ => pts_nil) (fun _ _ _ _ _ => (pe_def T.d_core_of (ok_core_of T) (b_core_of T) (hr.mono (by decide)) (by rfl) (pa_cons (pe_ix (r := rIxT K) ix_tup (pv 0) pe_int (fun _ _ => rfl)) (pa_cons (pv 1) pa_nil))))) pa_nil))))), ?_⟩
  have hl := hp.2.2.2
  refine s_retE (d := gcdAll Pn.1 (Pn.2.map (core Pn.1))) (ev_call (f := fun d : Int × List Row × Unit => gcdAll d.1 d.2.1) (d := (Pn.1, Pn.2.map (core Pn.1), ())) (ea_cons (ev_p0 (ev_var (R := RPanel K) rfl hv)) (ea_cons (en_lm1 (S := RRow K) (core Pn.1) (src_tup (R := RPic K) (ev_p1 (ev_var (R := RPanel K) rfl hv))).same (by omega) fun d u H' hd e ru => ⟨rfl, ?_⟩).l ea_nil)) ⟨hp.1, fun r hr => (cores_tr hp r hr).1⟩) q rfl
  have hv := Sm.sm e hv
  exact Ev.is (ev_call (ea_cons (ev_p0 (ev_var (R := RPanel K) rfl hv)) (ea_cons (ev_var (R := RPic K) rfl ru) ea_nil)) ⟨hp.1, hp.2.1 d hd⟩) rfl
theorem ok_divisor_on (T : Top K mg) : FnOk P w K mg base CX0 7 (adr mg "divisor_on") (fdat K mg "divisor_on") ["panel", "size"] (spF (AC (RPanel K) (AC RI A0)) (RRow K) (fun d => PanelV d.1 ∧ 0 ≤ d.2.1) fun d => divOn d.1 d.2.1.toNat) := by
  refine fnF T.d_divisor_on.F sc_divisor_on rfl fun cdv Ar outer s H vs Q d hr hA hp q => ?_
  obtain ⟨Pn, n, _⟩ := d
  obtain ⟨v, _, rfl, hv, _, _, rfl, rfl, rfl⟩ := hA
  have hv : RPanel K H v Pn := hv
  obtain ⟨hp, hn⟩ : PanelV Pn ∧ 0 ≤ n := hp
  have hg := gener_ok hp
  have ho := powX_tr hp.1 hg.1 hg.2.1 (by omega) n.toNat
  have hR := divRest_ok hp n.toNat
  refine ⟨_, (pss_cons (ps_set (i := 2) sc_divisor_on.nd rfl (.inl rfl) (pe_def T.d_generator_of (ok_generator_of T) (b_generator_of T) (hr.mono (by decide)) (by rfl) (pa_cons (pv 0) pa_nil)))
    (pss_cons (ps_set (i := 3) sc_divisor_on.nd rfl (.inl rfl) (pe_def T.d_added (ok_added T) (b_added T) (hr.mono (by decide)) (by rfl) (pa_cons (pe_ix (r := rIxT K) ix_tup (pv 0) pe_int (fun _ _ => rfl)) (pa_cons (pe_def T.d_power_of_x (ok_power_of_x T) (b_power_of_x T) (hr.mono (by decide)) (by rfl) (pa_cons (pe_ix (r := rIxT K) ix_tup (pv 0) pe_int (fun _ _ => rfl)) (pa_cons (pv 1) (pa_cons (pv 2) pa_nil)))) (pa_cons (pe_tup (pa_cons (pe_op op_sub (pe_ix (r := rIxT K) ix_tup (pv 0) pe_int (fun _ _ => rfl)) pe_int) pa_nil)) pa_nil)))))
    (pss_one (ps_ret (pe_def T.d_gcd_of (ok_gcd_of T) (b_gcd_of T) (hr.mono (by decide)) (by rfl) (pa_cons (pe_ix (r := rIxT K) ix_tup (pv 0) pe_int (fun _ _ => rfl)) (pa_cons (pe_lst (pa_cons (pv 2) (pa_cons (pe_ix (r := rIxT K) ix_tup (pe_def T.d_divided (ok_divided T) (b_divided T) (hr.mono (by decide)) (by rfl) (pa_cons (pe_ix (r := rIxT K) ix_tup (pv 0) pe_int (fun _ _ => rfl)) (pa_cons (pv 3) (pa_cons (pv 2) pa_nil)))) pe_int (fun _ _ => rfl)) pa_nil))) pa_nil))))))), ?_⟩
  refine s_setE (d' := gener Pn) (ev_call (ea_cons (ev_var (R := RPanel K) rfl hv) ea_nil) hp) rfl fun u H1 e1 ru => ?_
  have hv1 := Sm.sm e1 hv
  refine s_setE (d' := addP Pn.1 (powX Pn.1 n.toNat (gener Pn)) [Pn.1 - 1]) (ev_call (ea_cons (ev_p0 (ev_var (R := RPanel K) rfl hv1)) (ea_cons (ev_call (ea_cons (ev_p0 (ev_var (R := RPanel K) rfl hv1)) (ea_cons (ev_var rfl rfl) (ea_cons (ev_var (R := RRow K) rfl ru) ea_nil))) ⟨hp.1, hn, hg.1, hg.2.1, by show (gener Pn).length ≤ 400; omega⟩) (ea_cons (ev_tup (es_cons (ev_sub (ev_p0 (ev_var (R := RPanel K) rfl hv1)) ev_int) es_nil) (by show 1 ≤ 100000; omega)) ea_nil))) ⟨hp.1, ho.1.1.2, by show 1 ≤ 1000; omega⟩) rfl fun u2 H2 e2 ru2 => ?_
  have hv2 := Sm.sm e2 hv1
  have hu2 := Sm.sm e2 ru
  refine s_ret (ev_call (ea_cons (ev_p0 (ev_var (R := RPanel K) rfl hv2)) (ea_cons (en_lst (R := RRow K) (es_cons (ev_var (R := RRow K) rfl hu2) (es_cons (d := remP Pn.1 (addP Pn.1 (powX Pn.1 n.toNat (gener Pn)) [Pn.1 - 1]) (gener Pn)) (Ev.is (ev_p1 (ev_call (ea_cons (ev_p0 (ev_var (R := RPanel K) rfl hv2)) (ea_cons (ev_var (R := RRow K) rfl ru2) (ea_cons (ev_var (R := RRow K) rfl hu2) ea_nil))) ⟨hp.1, hR.1, hg.1.1, hg.2.1, hg.1.lst hg.2.1⟩)) rfl) es_nil)) (by show 2 ≤ 100000; omega)).l ea_nil)) ⟨hp.1, fun r hr => (divRows_tr hp n.toNat r hr).1⟩) fun z H3 e3 rz => q z H3 (e1.trans (e2.trans e3)) rz
theorem ok_rest_of (T : Top K mg) : FnOk P w K mg base CX0 4 (adr mg "rest_of") (fdat K mg "rest_of") ["prime", "picture", "divisor"] (spF (AC RI (AC (RPic K) (AC (RRow K) A0))) (RRow K) (fun d => Pr d.1 ∧ (∃ n, PicV d.1 n d.2.1) ∧ Tr d.1 d.2.2.1 ∧ d.2.2.1 ≠ [] ∧ d.2.2.1.length ≤ 400) fun d => restOf d.1 d.2.1 d.2.2.1) := by
  refine fnF T.d_rest_of.F sc_rest_of rfl fun cdv Ar outer s H vs Q d hr hA hp q => ?_
  obtain ⟨p, pic, dv, _⟩ := d
  obtain ⟨_, _, rfl, rfl, v, _, rfl, hv, u, _, rfl, hu, rfl⟩ := hA
  have hv : RPic K H v pic := hv
  have hu : RRow K H u dv := hu
  obtain ⟨hP, ⟨n, hpic⟩, hd, hdn, hdl⟩ : Pr p ∧ (∃ n, PicV p n pic) ∧ Tr p dv ∧ dv ≠ [] ∧ dv.length ≤ 400 := hp
  refine ⟨_, (pss_cons (ps_set (i := 3) sc_rest_of.nd rfl (.inl rfl) (pe_tup pa_nil))
    (pss_cons (ps_for PassesOwn.never rfl (pi_tup (pv 1)) (pg_tup rfl (pgs_cons (pg_name (i := 4) sc_rest_of.nd rfl (.inl rfl)) (pgs_cons (pg_name (i := 5) sc_rest_of.nd rfl (.inl rfl)) pgs_nil)))
      (pss_one (ps_set (i := 3) sc_rest_of.nd rfl (.inl rfl) (pe_def T.d_added (ok_added T) (b_added T) (hr.mono (by decide)) (by rfl) (pa_cons (pv 0) (pa_cons (pv 3) (pa_cons (pe_def T.d_scaled (ok_scaled T) (b_scaled T) (hr.mono (by decide)) (by rfl) (pa_cons (pv 0) (pa_cons (pe_def T.d_power_of_x (ok_power_of_x T) (b_power_of_x T) (hr.mono (by decide)) (by rfl) (pa_cons (pv 0) (pa_cons (pv 4) (pa_cons (pv 2) pa_nil)))) (pa_cons (pv 5) pa_nil)))) pa_nil)))))))
    (pss_one (ps_ret (pv 3))))), ?_⟩
  refine s_set (R := RRow K) (ev_tup (R := RI) es_nil (by decide)) fun u1 H1 e1 ru1 => ?_
  refine s_fold (restIn p dv) [] (src_tup (ev_var (R := RPic K) rfl (Sm.sm e1 hv))).same Same.refl fun H2 e2 => ⟨fun f σ' H' => ∃ y3 y4 y5, σ' = [some (.int p), some v, some u, some y3, y4, y5] ∧ Same H H' ∧ RRow K H' y3 f ∧ Tr p f ∧ f.length ≤ dv.length, ⟨u1, _, _, rfl, e1.trans e2, Sm.sm e2 ru1, Tr.nil p, Nat.zero_le _⟩, ?_, ?_⟩
  · rintro f ⟨x, c⟩ z σ' H3 H4 hdm g3 ⟨y3, y4, y5, rfl, s3, hf, tf, lf⟩ e4 rx
    have hx := hpic.1 _ hdm
    simp only at hx
    refine g2 rx fun _ _ r1 r2 => ?_
    cases r1
    cases r2
    have hf4 := Sm.sm e4 hf
    have hu4 := Sm.sm (s3.trans e4) hu
    have ho := powX_tr hP hd hdn hdl x.toNat
    refine e_set (ev_call (ea_cons (ev_var rfl rfl) (ea_cons (ev_var (R := RRow K) rfl hf4) (ea_cons (ev_call (ea_cons (ev_var rfl rfl) (ea_cons (ev_call (ea_cons (ev_var rfl rfl) (ea_cons (ev_var rfl rfl) (ea_cons (ev_var (R := RRow K) rfl hu4) ea_nil))) ⟨hP, hx.1, hd, hdn, hdl⟩) (ea_cons (ev_var rfl rfl) ea_nil))) ⟨hP, ho.1.1.2, (by show 0 ≤ c; omega), (by show c < p; omega)⟩) ea_nil))) ⟨hP, tf.1.2, (by show (scal p (powX p x.toNat dv) c).length ≤ 1000; have := scal_len p (powX p x.toNat dv) c; omega)⟩) fun z2 H5 e5 rz => ?_
    have ht := restIn_tr hP hd hdn hdl tf lf (x, c)
    exact ⟨g3.trans (e4.trans e5), z2, _, _, rfl, s3.trans (e4.trans e5), rz, ht.1, ht.2⟩
  · rintro σ' H3 g3 ⟨y3, y4, y5, rfl, s3, hf, tf, lf⟩
    exact s_ret (ev_var (R := RRow K) rfl hf) fun z H4 e4 rz => q z H4 (s3.trans e4) rz
theorem ok_behind_press (T : Top K mg) : FnOk P w K mg base CX0 1 (adr mg "behind_press") (fdat K mg "behind_press") ["prime", "ring", "button", "place", "times"] (spF (AC RI (AC (RS K) (AC (RPic K) (AC RI (AC RI A0))))) (RRow K) (fun d => Pr d.1 ∧ d.2.1 ≠ [] ∧ d.2.1.length ≤ 1000 ∧ RuleV d.1 d.2.2.1) fun d => behind d.1 d.2.1 d.2.2.1 d.2.2.2.1 d.2.2.2.2.1) := by
  refine fnF T.d_behind_press.F sc_behind_press rfl fun cdv Ar outer s H vs Q d hr hA hp q => ?_
  obtain ⟨p, ring, b, place, times, _⟩ := d
  obtain ⟨_, _, rfl, rfl, v, _, rfl, hv, u, _, rfl, hu, _, _, rfl, rfl, _, _, rfl, rfl, rfl⟩ := hA
  have hv : RS K H v ring := hv
  have hu : RPic K H u b := hu
  obtain ⟨hP, hn, hl, hb⟩ : Pr p ∧ ring ≠ [] ∧ ring.length ≤ 1000 ∧ RuleV p b := hp
  have p0 := hP.pos
  have p5 := hP.le
  have hl0 := List.length_pos_iff.mpr hn
  refine ⟨_, (pss_cons (ps_set (i := 5) sc_behind_press.nd rfl (.inl rfl) (pe_callTy call_list_of (by rfl) T.n_list (by decide +kernel) (pa_cons (pv 1) pa_nil)))
    (pss_cons (ps_for PassesOwn.never rfl (pi_tup (pv 2)) (pg_tup rfl (pgs_cons (pg_name (i := 6) sc_behind_press.nd rfl (.inl rfl)) (pgs_cons (pg_name (i := 7) sc_behind_press.nd rfl (.inl rfl)) pgs_nil)))
      (pss_cons (ps_set (i := 8) sc_behind_press.nd rfl (.inl rfl) (pe_op op_mod (pe_op op_add (pv 3) (pv 6)) (pe_callB (r := rLenK K) call_lenK (by rfl) T.n_len (by decide +kernel) (pa_cons (pv 5) pa_nil))))
      (pss_one (ps_asg (pe_op op_mod (pe_op op_add (pe_ix (r := rIxL K) ix_list (pv 5) (pv 8) (fun _ _ => rfl)) (pe_op op_mul (pv 7) (pv 4))) (pv 0)) (pg_sub (pv 5) (pv 8) set_list)))))
    (pss_one (ps_ret (pe_callTy call_tuple_of (by rfl) T.n_tuple (by decide +kernel) (pa_cons (pv 5) pa_nil)))))), ?_⟩
  refine s_setZ (en_listS (ev_var (R := RS K) rfl hv)) fun l H1 n1 e1 hl1 => ?_
  refine s_fold (pressIn p place times) ring (src_tup (ev_var (R := RPic K) rfl (Sm.sm e1 hu))) Tk.refl fun H2 e2 => ⟨fun f σ' H' => ∃ y6 y7 y8, σ' = [some (.int p), some v, some u, some (.int place), some (.int times), some (.ref l), y6, y7, y8] ∧ Same H H' ∧ H' l = some (.lst (f.map V.int)) ∧ f.length = ring.length, ⟨_, _, _, rfl, e1.trans e2, e2 _ _ hl1, rfl⟩, ?_, ?_⟩
  · rintro f ⟨o, a⟩ x σ' H3 H4 hd g3 ⟨y6, y7, y8, rfl, s3, l3, n3⟩ e4 rx
    have hx := hb.1 _ hd
    simp only at hx
    refine g2 rx fun _ _ r1 r2 => ?_
    cases r1
    cases r2
    have l4 := e4 _ _ l3
    have hat := modp (p := (f.length : Int)) (by omega) (place + o)
    refine s_setE (d' := (place + o) % (f.length : Int)) (ev_mod (ev_add (ev_var rfl rfl) (ev_var rfl rfl)) (ev_lenL (ev_var (R := RL K RI) rfl (rl_int l4))) (by omega)) rfl fun _ H5 e5 r5 => ?_
    cases r5
    have l5 := e5 _ _ l4
    refine e_putI (ns := f) (j := (place + o) % (f.length : Int)) (v := (getZ f ((place + o) % (f.length : Int)) + a * times) % p) l5 (ev_mod (ev_add (ev_getM l5 rfl (ev_var rfl rfl) hat.1 hat.2) (ev_mul (ev_var rfl rfl) (ev_var rfl rfl) (cmul_l (by omega) (by omega)))) (ev_var rfl rfl) p0) rfl (ev_var rfl rfl) hat.1 hat.2 fun H6 e6 => ?_
    exact ⟨(g3.trans (Tk.of (e4.trans (e5.trans e6)))).upd (noT_lst (e2 _ _ hl1)), _, _, _, rfl, same_mut (s3.trans (e4.trans (e5.trans e6))) n1, upd_same, by rw [pressIn_len]; exact n3⟩
  · rintro σ' H3 g3 ⟨y6, y7, y8, rfl, s3, l3, n3⟩
    exact s_ret (ev_tupL (ev_var (R := RL K RI) rfl (rl_int l3))) fun z H4 e4 rz => q z H4 (s3.trans e4) rz
theorem ok_colours_of (T : Top K mg) : FnOk P w K mg base CX0 1 (adr mg "colours_of") (fdat K mg "colours_of") ["size", "picture"] (spF (AC RI (AC (RPic K) A0)) (RRow K) (fun d => 0 ≤ d.1 ∧ d.1 ≤ 1000 ∧ ∃ p, PicV p d.1 d.2.1) fun d => colours d.1 d.2.1) := by
  refine fnF T.d_colours_of.F sc_colours_of rfl fun cdv Ar outer s H vs Q d hr hA hp q => ?_
  obtain ⟨n, pic, _⟩ := d
  obtain ⟨_, _, rfl, rfl, v, _, rfl, hv, rfl⟩ := hA
  have hv : RPic K H v pic := hv
  obtain ⟨hn0, hn, p, hpic⟩ : 0 ≤ n ∧ n ≤ 1000 ∧ ∃ p, PicV p n pic := hp
  refine ⟨_, (pss_cons (ps_set (i := 2) sc_colours_of.nd rfl (.inl rfl) (pe_op op_rep (pe_lst (pa_cons pe_int pa_nil)) (pv 0)))
    (pss_cons (ps_for PassesOwn.never rfl (pi_tup (pv 1)) (pg_tup rfl (pgs_cons (pg_name (i := 3) sc_colours_of.nd rfl (.inl rfl)) (pgs_cons (pg_name (i := 4) sc_colours_of.nd rfl (.inl rfl)) pgs_nil)))
      (pss_one (ps_asg (pv 4) (pg_sub (pv 2) (pv 3) set_list))))
    (pss_one (ps_ret (pe_callTy call_tuple_of (by rfl) T.n_tuple (by decide +kernel) (pa_cons (pv 2) pa_nil)))))), ?_⟩
  refine s_setZ (en_zeros (ev_var rfl rfl) (by show n ≤ _; omega) (by show _ ≤ n; omega)) fun l H1 n1 e1 hl1 => ?_
  refine s_fold (fun f (q : Int × Int) => setZ f q.1 q.2) (zeros n) (src_tup (ev_var (R := RPic K) rfl (Sm.sm e1 hv))) Tk.refl fun H2 e2 => ⟨fun f σ' H' => ∃ y3 y4, σ' = [some (.int n), some v, some (.ref l), y3, y4] ∧ Same H H' ∧ H' l = some (.lst (f.map V.int)) ∧ f.length = n.toNat, ⟨_, _, rfl, e1.trans e2, e2 _ _ hl1, zeros_len _⟩, ?_, ?_⟩
  · rintro f ⟨o, a⟩ x σ' H3 H4 hd g3 ⟨y3, y4, rfl, s3, l3, n3⟩ e4 rx
    have hx := hpic.1 _ hd
    simp only at hx
    refine g2 rx fun _ _ r1 r2 => ?_
    cases r1
    cases r2
    refine e_putI (ns := f) (j := o) (v := a) (e4 _ _ l3) (ev_var rfl rfl) rfl (ev_var rfl rfl) hx.1 (by omega) fun H6 e6 => ?_
    exact ⟨(g3.trans (Tk.of (e4.trans e6))).upd (noT_lst (e2 _ _ hl1)), _, _, rfl, same_mut (s3.trans (e4.trans e6)) n1, upd_same, by rw [setZ_len]; exact n3⟩
  · rintro σ' H3 g3 ⟨y3, y4, rfl, s3, l3, n3⟩
    exact s_ret (ev_tupL (ev_var (R := RL K RI) rfl (rl_int l3))) fun z H4 e4 rz => q z H4 (s3.trans e4) rz
theorem ok_picture_of (T : Top K mg) : FnOk P w K mg base CX0 1 (adr mg "picture_of") (fdat K mg "picture_of") ["ring"] (spF (AC (RRow K) A0) (RPic K) (fun d => d.1.length ≤ 1000) fun d => picOf d.1) := by
  refine fnF T.d_picture_of.F sc_picture_of rfl fun cdv Ar outer s H vs Q d hr hA hp q => ?_
  obtain ⟨r, _⟩ := d
  obtain ⟨v, _, rfl, hv, rfl⟩ := hA
  have hv : RRow K H v r := hv
  have hp : r.length ≤ 1000 := hp
  refine ⟨_, (pss_one (ps_ret (pe_callTy call_tuple_of (by rfl) T.n_tuple (by decide +kernel) (pa_cons (pe_lc (own := [("place", 1), ("colour", 2)]) (g := (gTup K 2 (gCons (gName 1) (gCons (gName 2) gNil)))) rfl sc_picture_of.nd (pi_enumT (by rfl) T.n_enumerate (pa_cons (pv 0) pa_nil)) (blkOk_by (N := N_picture_of) (sc := defScope s_picture_of) (by decide +kernel)) (fun _ _ _ _ _ => (pg_tup rfl (pgs_cons (pg_name (i := 1) sc_picture_of.nd rfl (.inl rfl)) (pgs_cons (pg_name (i := 2) sc_picture_of.nd rfl (.inl rfl)) pgs_nil)))) (fun _ _ _ _ _ => pts_one (pt_cmpR op_ne (pv 2) pe_int (nomark _))) (fun _ _ _ _ _ => (pe_tup (pa_cons (pv 1) (pa_cons (pv 2) pa_nil))))) pa_nil)))), ?_⟩
  refine s_ret (ev_tupL (en_lc2 (T := RPair K) (fun q => !decide (q.2 = 0)) (fun q => (q.1, q.2)) (src_enT (ev_var (R := RRow K) rfl hv)).same (by rw [en_len]; omega) fun a b u u' H' hd e ru ru' => ?_).l) q
  cases ru
  cases ru'
  exact ⟨rfl, et_test (ev_ne (ev_var rfl rfl) ev_int), fun _ => ev_tup2 (ev_var rfl rfl) (ev_var rfl rfl)⟩
theorem ok_lessened (T : Top K mg) : FnOk P w K mg base CX0 1 (adr mg "lessened") (fdat K mg "lessened") ["prime", "one", "other", "times"] (spF (AC RI (AC (RRow K) (AC (RRow K) (AC RI A0)))) (RRow K) (fun d => Pr d.1 ∧ d.2.1.length ≤ 1000 ∧ -100 ≤ d.2.2.2.1 ∧ d.2.2.2.1 ≤ 100) fun d => less d.1 d.2.1 d.2.2.1 d.2.2.2.1) := by
  refine fnF T.d_lessened.F sc_lessened rfl fun cdv Ar outer s H vs Q d hr hA hp q => ?_
  obtain ⟨p, a, b, t, _⟩ := d
  obtain ⟨_, _, rfl, rfl, v, _, rfl, hv, u, _, rfl, hu, _, _, rfl, rfl, rfl⟩ := hA
  have hv : RRow K H v a := hv
  have hu : RRow K H u b := hu
  obtain ⟨hP, hl, ht0, ht1⟩ : Pr p ∧ a.length ≤ 1000 ∧ -100 ≤ t ∧ t ≤ 100 := hp
  have p0 := hP.pos
  refine ⟨_, (pss_one (ps_ret (pe_callTy call_tuple_of (by rfl) T.n_tuple (by decide +kernel) (pa_cons (pe_lc (own := [("here", 4), ("there", 5)]) (g := (gTup K 2 (gCons (gName 4) (gCons (gName 5) gNil)))) rfl sc_lessened.nd (pi_zipA (by rfl) T.n_zip (pa_cons (pv 1) (pa_cons (pv 2) pa_nil))) (blkOk_by (N := N_lessened) (sc := defScope s_lessened) (by decide +kernel)) (fun _ _ _ _ _ => (pg_tup rfl (pgs_cons (pg_name (i := 4) sc_lessened.nd rfl (.inl rfl)) (pgs_cons (pg_name (i := 5) sc_lessened.nd rfl (.inl rfl)) pgs_nil)))) (fun _ _ _ _ _ => pts_nil) (fun _ _ _ _ _ => (pe_op op_mod (pe_op op_sub (pv 4) (pe_op op_mul (pv 3) (pv 5))) (pv 0)))) pa_nil)))), ?_⟩
  refine s_ret (ev_tupL (en_lm2 (T := RI) (fun q => (q.1 - t * q.2) % p) (src_zipT (ev_var (R := RRow K) rfl hv) (ev_var (R := RRow K) rfl hu)).same (by rw [List.length_zip]; omega) fun x y ux uy H' hd e rx ry => ⟨rfl, ?_⟩).l) q
  cases rx
  cases ry
  exact ev_mod (ev_sub (ev_var rfl rfl) (ev_mul (ev_var rfl rfl) (ev_var rfl rfl) (cmul_l ht0 ht1))) (ev_var rfl rfl) p0
theorem ok_lessened_by (T : Top K mg) : FnOk P w K mg base CX0 2 (adr mg "lessened_by") (fdat K mg "lessened_by") ["prime", "basis", "ring", "mix"] (spF (AC RI (AC (RBasis K) (AC (RRow K) (AC (RRow K) A0)))) (RP K (RRow K) (RRow K)) (fun d => Pr d.1 ∧ ∃ n m, BasisV d.1 n m d.2.1 ∧ StV d.1 n m (d.2.2.1, d.2.2.2.1)) fun d => lessBy d.1 d.2.1 (d.2.2.1, d.2.2.2.1)) := by
  refine fnF T.d_lessened_by.F sc_lessened_by rfl fun cdv Ar outer s H vs Q d hr hA hp q => ?_
  obtain ⟨p, bs, r0, m0, _⟩ := d
  obtain ⟨_, _, rfl, rfl, v, _, rfl, hv, u, _, rfl, hu, z, _, rfl, hz, rfl⟩ := hA
  have hv : RBasis K H v bs := hv
  have hu : RRow K H u r0 := hu
  have hz : RRow K H z m0 := hz
  obtain ⟨hP, n, m, hB, hS⟩ : Pr p ∧ ∃ n m, BasisV p n m bs ∧ StV p n m (r0, m0) := hp
  have p0 := hP.pos
  have p5 := hP.le
  refine ⟨_, (pss_cons (ps_for PassesOwn.never rfl (pi_list (pv 1)) (pg_tup rfl (pgs_cons (pg_name (i := 4) sc_lessened_by.nd rfl (.inl rfl)) (pgs_cons (pg_name (i := 5) sc_lessened_by.nd rfl (.inl rfl)) (pgs_cons (pg_name (i := 6) sc_lessened_by.nd rfl (.inl rfl)) pgs_nil))))
      (pss_cons (ps_set (i := 7) sc_lessened_by.nd rfl (.inl rfl) (pe_ix (r := rIxT K) ix_tup (pv 2) (pv 4) (fun _ _ => rfl)))
      (pss_one (ps_if (pt_cmpR op_ne (pv 7) pe_int (nomark _))
        (pss_cons (ps_set (i := 2) sc_lessened_by.nd rfl (.inl rfl) (pe_def T.d_lessened (ok_lessened T) (b_lessened T) (hr.mono (by decide)) (by rfl) (pa_cons (pv 0) (pa_cons (pv 2) (pa_cons (pv 5) (pa_cons (pv 7) pa_nil))))))
        (pss_one (ps_set (i := 3) sc_lessened_by.nd rfl (.inl rfl) (pe_def T.d_lessened (ok_lessened T) (b_lessened T) (hr.mono (by decide)) (by rfl) (pa_cons (pv 0) (pa_cons (pv 3) (pa_cons (pv 6) (pa_cons (pv 7) pa_nil))))))))
        pss_nil))))
    (pss_one (ps_ret (pe_tup (pa_cons (pv 2) (pa_cons (pv 3) pa_nil)))))), ?_⟩
  refine s_fold (lessIn p) (r0, m0) (src_list (ev_var (R := RBasis K) rfl hv)) Same.refl fun H1 e1 => ⟨fun s σ' H' => ∃ y2 y3 y4 y5 y6 y7, σ' = [some (.int p), some v, some y2, some y3, y4, y5, y6, y7] ∧ Same H H' ∧ RRow K H' y2 s.1 ∧ RRow K H' y3 s.2 ∧ StV p n m s, ⟨u, z, _, _, _, _, rfl, e1, Sm.sm e1 hu, Sm.sm e1 hz, hS⟩, ?_, ?_⟩
  · rintro ⟨r, mx⟩ ⟨k, row, used⟩ x σ' H2 H3 hd g2' ⟨y2, y3, y4, y5, y6, y7, rfl, s2, hr2, hm2, hs2⟩ e3 rx
    obtain ⟨b1, b2, b3, b4, b5, b6⟩ := hB _ hd
    simp only at b1 b2 b3 b4 b5 b6
    have hs2' := hs2
    obtain ⟨c1, c2, c3, c4⟩ := hs2
    simp only at c1 c2 c3 c4
    have hv2 := lessIn_v p0 (b := (k, row, used)) hs2' ⟨b4, b6⟩
    have hr2 : RRow K H2 y2 r := hr2
    have hm2 : RRow K H2 y3 mx := hm2
    refine g3 rx fun _ vr vu r1 r2 r3 => ?_
    cases r1
    have hr3 := Sm.sm e3 hr2
    have hm3 := Sm.sm e3 hm2
    have hg := getZ_rw p0 c1 k
    refine s_setE (d' := getZ r k) (ev_ixT (R := RI) (ev_var (R := RRow K) rfl hr3) (ev_var rfl rfl) (atI_getZ b1 (by omega))) rfl fun _ H4 e4 r4 => ?_
    cases r4
    have hr4 := Sm.sm e4 hr3
    have hm4 := Sm.sm e4 hm3
    have hvr := Sm.sm e4 r2
    have hvu := Sm.sm e4 r3
    refine e_if (b := !decide (getZ r k = 0)) (et_test (ev_ne (ev_var rfl rfl) ev_int)) (fun hb H5 e5 => ?_) fun hb H5 e5 => ?_
    · have hne : getZ r k ≠ 0 := by simpa using hb
      have el : lessIn p (r, mx) (k, row, used) = (less p r row (getZ r k), less p mx used (getZ r k)) := by
        show (if getZ r k = 0 then _ else _) = _
        rw [if_neg hne]
      refine s_set (R := RRow K) (ev_call (ea_cons (ev_var rfl rfl) (ea_cons (ev_var (R := RRow K) rfl (Sm.sm e5 hr4)) (ea_cons (ev_var (R := RRow K) rfl (Sm.sm e5 hvr)) (ea_cons (ev_var rfl rfl) ea_nil)))) ⟨hP, c1.2, (by show -100 ≤ getZ r k; omega), (by show getZ r k ≤ 100; omega)⟩) fun w1 H6 e6 q1 => ?_
      refine e_set (R := RRow K) (ev_call (ea_cons (ev_var rfl rfl) (ea_cons (ev_var (R := RRow K) rfl (Sm.sm (e5.trans e6) hm4)) (ea_cons (ev_var (R := RRow K) rfl (Sm.sm (e5.trans e6) hvu)) (ea_cons (ev_var rfl rfl) ea_nil)))) ⟨hP, c3.2, (by show -100 ≤ getZ r k; omega), (by show getZ r k ≤ 100; omega)⟩) fun w2 H7 e7 q2 => ?_
      rw [el] at hv2 ⊢
      exact ⟨g2'.trans (e3.trans (e4.trans (e5.trans (e6.trans e7)))), w1, w2, _, _, _, _, rfl, s2.trans (e3.trans (e4.trans (e5.trans (e6.trans e7)))), Sm.sm e7 q1, q2, hv2⟩
    · have he : getZ r k = 0 := by simpa using hb
      have el : lessIn p (r, mx) (k, row, used) = (r, mx) := by
        show (if getZ r k = 0 then _ else _) = _
        rw [if_pos he]
      rw [el]
      exact ⟨g2'.trans (e3.trans (e4.trans e5)), y2, y3, _, _, _, _, rfl, s2.trans (e3.trans (e4.trans e5)), Sm.sm e5 hr4, Sm.sm e5 hm4, hs2'⟩
  · rintro σ' H2 g2' ⟨y2, y3, y4, y5, y6, y7, rfl, s2, hr2, hm2, hs2⟩
    exact s_ret (ev_tup2 (ev_var (R := RRow K) rfl hr2) (ev_var (R := RRow K) rfl hm2)) fun z H4 e4 rz => q z H4 (s2.trans e4) rz
end
end Rg
end
section
set_option Elab.async false
set_option linter.all false
set_option maxRecDepth 100000
set_option maxHeartbeats 4000000
open PySem PySem.Spec PyProof.Rows L2 RZ Rg
local macro_rules | `(tactic| walk_at "ev1") => `(tactic| first
  | exact ev_isTupT (ev_p1 (ev_var rfl (by assumption)))
  | exact ev_lenT (ev_p1 (ev_var rfl (by assumption)))
  | exact ev_lenT (ev_p0 (ev_var rfl (by assumption)))
  | exact ev_isInt (ev_p0 (ev_var rfl (by assumption)))
  | exact ev_isInt (ev_var rfl rfl)
  | exact ev_isBool (ev_var rfl rfl)
  | exact ev_isTupT (ev_var rfl (by assumption))
  | exact ev_isTupP (ev_var rfl (by assumption))
  | exact ev_isTupQ (ev_var rfl (by assumption))
  | exact ev_lenT (ev_var rfl (by assumption))
  | exact ev_lenP (ev_var rfl (by assumption))
  | exact ev_lenQ (ev_var rfl (by assumption))
  | exact ev_int
  | exact ev_bl
  | exact ev_var rfl rfl
  | exact ev_var rfl (by assumption)
  | exact ea_nil
  | exact ev_p0 (ev_var rfl (by assumption))
  | exact ev_p1 (ev_var rfl (by assumption))
  | exact ev_q0 (ev_var rfl (by assumption))
  | exact ev_q1 (ev_var rfl (by assumption))
  | exact ev_q2 (ev_var rfl (by assumption))
  | apply ea_cons
  | apply ev_call
  | apply ev_add
  | apply ev_sub
  | apply ev_mul
  | apply ev_mod
  | apply ev_fdiv
  | apply ev_lt
  | apply ev_le
  | apply ev_gt
  | apply ev_ge
  | apply ev_eq
  | apply ev_ne
  | apply ev_neg
  | apply ev_p0
  | apply ev_p1
  | apply ev_q0
  | apply ev_q1
  | apply ev_q2
  | apply ev_int1
  | apply ev_notV
  | apply ev_andV
  | apply ev_orV
  | apply et_test
  | apply et_B
  | apply et_and
  | apply et_or
  | apply et_not
  | exact True.intro
  | (with_reducible intro _)
  | (show (_ : Int) < _; assumption))
local macro_rules | `(tactic| walk_at "ev") => `(tactic| repeat' (walk_at "ev1"))

namespace Rg
section
variable {P : Program} {w : World} {K : PySem.W.Frag} {mg : Str → Option Value} {base : Heap}
theorem button_at {Pn : Panel} {k : Int} (h0 : 0 ≤ k) (h1 : k < Pn.2.length) : atI Pn.2 k = some (button Pn k) ∧ button Pn k ∈ Pn.2 := by
  have h : Pn.2[k.toNat]? = some (button Pn k) := by
    unfold button
    rw [List.getD_eq_getElem?_getD, List.getElem?_eq_getElem (by omega)]
    rfl
  refine ⟨?_, List.mem_of_getElem? h⟩
  have := atI_nat h
  rwa [Int.toNat_of_nonneg h0] at this
theorem ok_basis_of (T : Top K mg) : FnOk P w K mg base CX0 3 (adr mg "basis_of") (fdat K mg "basis_of") ["panel", "size"] (spF (AC (RPanel K) (AC RI A0)) (RBasis K) (fun d => PanelV d.1 ∧ 1 ≤ d.2.1 ∧ d.2.1 ≤ 60) fun d => basisOf d.1 d.2.1) := by
  refine fnF T.d_basis_of.F sc_basis_of rfl fun cdv Ar outer s H vs Q d hr hA hp q => ?_
  obtain ⟨Pn, n, _⟩ := d
  obtain ⟨v, _, rfl, hv, _, _, rfl, rfl, rfl⟩ := hA
  have hv : RPanel K H v Pn := hv
  obtain ⟨hp, hn1, hn2⟩ : PanelV Pn ∧ 1 ≤ n ∧ n ≤ 60 := hp
  obtain ⟨n', rfl⟩ : ∃ n' : Nat, n = (n' : Int) := ⟨n.toNat, by omega⟩
  have hP := hp.1
  have p0 := hP.pos
  have p5 := hP.le
  have hbl : 0 < Pn.2.length := List.length_pos_iff.mpr hp.2.2.1
  have hb10 := hp.2.2.2
  have hL : Pn.2.length * n' ≤ 600 := Nat.le_trans (Nat.mul_le_mul hb10 (show n' ≤ 60 by omega)) (by decide)
  have hcast : ((Pn.2.length : Int) * (n' : Int)) = ((Pn.2.length * n' : Nat) : Int) := (Int.natCast_mul _ _).symm
  refine ⟨_, (pss_cons (ps_asg (pv 0) (pg_tup rfl (pgs_cons (pg_name (i := 2) sc_basis_of.nd rfl (.inr rfl)) (pgs_cons (pg_name (i := 3) sc_basis_of.nd rfl (.inl rfl)) pgs_nil))))
    (pss_cons (ps_set (i := 4) sc_basis_of.nd rfl (.inl rfl) (pe_lst pa_nil))
    (pss_cons (ps_for PassesOwn.never rfl (pi_range1 (by rfl) T.n_range (pa_cons (pe_op op_mul (pe_callB (r := rLenK K) call_lenK (by rfl) T.n_len (by decide +kernel) (pa_cons (pv 3) pa_nil)) (pv 1)) pa_nil)) (pg_name (i := 5) sc_basis_of.nd rfl (.inl rfl))
      (pss_cons (ps_set (i := 6) sc_basis_of.nd rfl (.inl rfl) (pe_op op_rep (pe_lst (pa_cons pe_int pa_nil)) (pe_op op_mul (pe_callB (r := rLenK K) call_lenK (by rfl) T.n_len (by decide +kernel) (pa_cons (pv 3) pa_nil)) (pv 1))))
      (pss_cons (ps_asg pe_int (pg_sub (pv 6) (pv 5) set_list))
      (pss_cons (ps_set (i := 7) sc_basis_of.nd rfl (.inr rfl) (pe_def T.d_behind_press (ok_behind_press T) (b_behind_press T) (hr.mono (by decide)) (by rfl) (pa_cons (pv 2) (pa_cons (pe_op op_rep (pe_lst (pa_cons pe_int pa_nil)) (pv 1)) (pa_cons (pe_ix (r := rIxT K) ix_tup (pv 3) (pe_op op_fdiv (pv 5) (pv 1)) (fun _ _ => rfl)) (pa_cons (pe_op op_mod (pv 5) (pv 1)) (pa_cons pe_int pa_nil)))))))
      (pss_cons (ps_asg (pe_def T.d_lessened_by (ok_lessened_by T) (b_lessened_by T) (hr.mono (by decide)) (by rfl) (pa_cons (pv 2) (pa_cons (pv 4) (pa_cons (pv 7) (pa_cons (pe_callTy call_tuple_of (by rfl) T.n_tuple (by decide +kernel) (pa_cons (pv 6) pa_nil)) pa_nil))))) (pg_tup rfl (pgs_cons (pg_name (i := 7) sc_basis_of.nd rfl (.inr rfl)) (pgs_cons (pg_name (i := 8) sc_basis_of.nd rfl (.inl rfl)) pgs_nil))))
      (pss_cons (ps_set (i := 9) sc_basis_of.nd rfl (.inr rfl) (pe_lc (own := [("place", 12), ("colour", 13)]) (g := (gTup K 2 (gCons (gName 12) (gCons (gName 13) gNil)))) rfl sc_basis_of.nd (pi_enumT (by rfl) T.n_enumerate (pa_cons (pv 7) pa_nil)) (blkOk_by (N := N_basis_of) (sc := defScope s_basis_of) (by decide +kernel)) (fun _ _ _ _ _ => (pg_tup rfl (pgs_cons (pg_name (i := 12) sc_basis_of.nd rfl (.inl rfl)) (pgs_cons (pg_name (i := 13) sc_basis_of.nd rfl (.inl rfl)) pgs_nil)))) (fun _ _ _ _ _ => pts_one (pt_cmpR op_ne (pv 13) pe_int (nomark _))) (fun _ _ _ _ _ => (pv 12))))
      (pss_one (ps_if (pt_cmpR (op_neD hr.units) (pv 9) (pe_lst pa_nil) (nomark _))
        (pss_cons (ps_set (i := 10) sc_basis_of.nd rfl (.inl rfl) (pe_ix (r := rIxL K) ix_list (pe_lc (own := [("colour", 13)]) (g := (gName 13)) rfl sc_basis_of.nd (pi_range1 (by rfl) T.n_range (pa_cons (pv 2) pa_nil)) (blkOk_by (N := N_basis_of) (sc := defScope s_basis_of) (by decide +kernel)) (fun _ _ _ _ _ => (pg_name (i := 13) sc_basis_of.nd rfl (.inl rfl))) (fun _ _ _ _ _ => pts_one (pt_cmpR op_eq (pe_op op_mod (pe_op op_mul (pv 13) (pe_ix (r := rIxT K) ix_tup (pv 7) (pe_ix (r := rIxL K) ix_list (pv 9) pe_int (fun _ _ => rfl)) (fun _ _ => rfl))) (pv 2)) pe_int (nomark _))) (fun _ _ _ _ _ => (pv 13))) pe_int (fun _ _ => rfl)))
        (pss_cons (ps_set (i := 11) sc_basis_of.nd rfl (.inl rfl) (pe_op op_rep1 (pe_tup (pa_cons pe_int pa_nil)) (pe_callB (r := rLenK K) call_lenK (by rfl) T.n_len (by decide +kernel) (pa_cons (pv 8) pa_nil))))
        (pss_one (ps_expr (pe_bm PySem.F.plainAttrs_list PySem.F.slot_list_append PySem.F.type_list_append mt_append (pv 4) (pa_cons (pe_tup (pa_cons (pe_ix (r := rIxL K) ix_list (pv 9) pe_int (fun _ _ => rfl)) (pa_cons (pe_def T.d_lessened (ok_lessened T) (b_lessened T) (hr.mono (by decide)) (by rfl) (pa_cons (pv 2) (pa_cons (pe_op op_rep1 (pe_tup (pa_cons pe_int pa_nil)) (pv 1)) (pa_cons (pv 7) (pa_cons (pe_un un_neg (pv 10)) pa_nil))))) (pa_cons (pe_def T.d_lessened (ok_lessened T) (b_lessened T) (hr.mono (by decide)) (by rfl) (pa_cons (pv 2) (pa_cons (pv 11) (pa_cons (pv 8) (pa_cons (pe_un un_neg (pv 10)) pa_nil))))) pa_nil)))) pa_nil))))))
        pss_nil))))))))
    (pss_one (ps_ret (pv 4)))))), ?_⟩
  refine s_unp2 (ev_var (R := RPanel K) rfl hv) fun _ wb H1 e1 r1 hb => ?_
  cases r1
  refine s_setN (R := RQ K RI (RRow K) (RRow K)) (en_lst es_nil (by decide)) fun l xs H2 n2 e2 hl2 pl2 => ?_
  cases pl2
  have e02 := e1.trans e2
  have z2 : H l = none := same_free e1 n2
  have hb2 := Sm.sm e2 hb
  refine s_for (src_r1 (n := (Pn.2.length : Int) * (n' : Int)) (ev_mul (ev_lenT (ev_var (R := RT K (RPic K)) rfl hb2)) (ev_var rfl rfl) (cmul_l (by omega) (by omega))) (by rw [hcast]; omega) (by rw [hcast]; omega)) Tk.refl fun H3 e3 => ⟨fun i σ' H' => ∃ bs y5 y6 y7 y8 y9 y10 y11 y12 y13, bs = ((ir ((Pn.2.length : Int) * (n' : Int)).toNat).take i).foldl (baseIn Pn n') [] ∧ σ' = [some v, some (.int (n' : Int)), some (.int Pn.1), some wb, some (.ref l), y5, y6, y7, y8, y9, y10, y11, y12, y13] ∧ Same H H' ∧ (∃ xs, H' l = some (.lst xs) ∧ Paired (RQ K RI (RRow K) (RRow K) H') xs bs) ∧ BasisV Pn.1 n' (Pn.2.length * n') bs ∧ bs.length ≤ i ∧ RT K (RPic K) H' wb Pn.2,
    ⟨[], _, _, _, _, _, _, _, _, _, rfl, rfl, e02.trans e3, ⟨_, e3 _ _ hl2, .nil⟩, (fun _ h => nomatch h), Nat.zero_le _, Sm.sm e3 hb2⟩, ?_, ?_⟩
  · rintro i k x σ' H4 H5 hd g4 ⟨bs, y5, y6, y7, y8, y9, y10, y11, y12, y13, hbs, rfl, s4, ⟨xs, l4, p4⟩, hB, hlen, hb4⟩ e5 rx
    cases rx
    have hk := mem_ir (List.mem_of_getElem? hd)
    rw [hcast, Int.toNat_natCast] at hk
    have hi : i < Pn.2.length * n' := by
      have := (List.getElem?_eq_some_iff.mp hd).1
      rw [ir_len, hcast, Int.toNat_natCast] at this
      exact this
    have hnext : ((ir ((Pn.2.length : Int) * (n' : Int)).toNat).take (i + 1)).foldl (baseIn Pn n') [] = baseIn Pn n' bs k := by
      rw [List.take_add_one, hd, List.foldl_append, ← hbs]
      rfl
    have s5 := s4.trans e5
    have hb5 := Sm.sm e5 hb4
    have l5 := e5 _ _ l4
    have p5' := p4.rgM fun _ _ r => Sm.sm (R := RQ K RI (RRow K) (RRow K)) e5 r
    have bR := baseRow_v hp (by omega) (by omega) hB k
    have hdiv : 0 ≤ k / (n' : Int) ∧ k / (n' : Int) < Pn.2.length := ⟨Int.ediv_nonneg hk.1 (by omega), Int.ediv_lt_of_lt_mul (by omega) (by have := hk.2; rw [← hcast] at this; exact this)⟩
    have hbt := button_at (Pn := Pn) hdiv.1 hdiv.2
    refine s_setZ (ns := zeros ((Pn.2.length : Int) * (n' : Int))) (en_zeros (ev_mul (ev_lenT (ev_var (R := RT K (RPic K)) rfl hb5)) (ev_var rfl rfl) (cmul_l (by omega) (by omega))) (by rw [hcast]; omega) (by rw [hcast]; omega)) fun l2 H6 n6 e6 hl6 => ?_
    have hne : l ≠ l2 := fun z => by rw [z, n6] at l5; cases l5
    have z6 : H l2 = none := same_free s5 n6
    refine s_putI (ns := zeros ((Pn.2.length : Int) * (n' : Int))) (j := k) (v := 1) hl6 ev_int rfl (ev_var rfl rfl) hk.1 (by rw [hcast, zeros_len]; omega) fun H7 e7 => ?_
    have s8 : Same H (upd H7 l2 (.lst ((startAt ((Pn.2.length : Int) * (n' : Int)) k).map V.int))) := same_mut (s5.trans (e6.trans e7)) z6
    have t8 : Tk H5 (upd H7 l2 (.lst ((startAt ((Pn.2.length : Int) * (n' : Int)) k).map V.int))) := (Tk.of (e6.trans e7)).upd (noT_none n6)
    have l8 : (upd H7 l2 (.lst ((startAt ((Pn.2.length : Int) * (n' : Int)) k).map V.int))) l = some (.lst xs) := by rw [upd_ne hne]; exact (e6.trans e7) _ _ l5
    have m8 : (upd H7 l2 (.lst ((startAt ((Pn.2.length : Int) * (n' : Int)) k).map V.int))) l2 = some (.lst ((startAt ((Pn.2.length : Int) * (n' : Int)) k).map V.int)) := upd_same
    show _
    revert s8 t8 l8 m8
    unfold startAt
    generalize upd H7 l2 (.lst ((setZ (zeros ((Pn.2.length : Int) * (n' : Int))) k 1).map V.int)) = H8
    intro s8 t8 l8 m8
    have hb8 := Tm.tk t8 hb5
    have p8 := p5'.rgM fun _ _ r => Tm.tk (R := RQ K RI (RRow K) (RRow K)) t8 r
    refine s_setE (R := RRow K) (d' := behind Pn.1 (zeros (n' : Int)) (button Pn (k / n')) (k % n') 1) (ev_call (ea_cons (ev_var rfl rfl) (ea_cons (en_zeros (ev_var rfl rfl) (by omega) (by omega)).s (ea_cons (ev_ixT (R := RPic K) (ev_var (R := RT K (RPic K)) rfl hb8) (ev_fdiv (ev_var rfl rfl) (ev_var rfl rfl) ⟨by omega, by omega⟩) hbt.1) (ea_cons (ev_mod (ev_var rfl rfl) (ev_var rfl rfl) (by omega)) (ea_cons ev_int ea_nil))))) ⟨hP, fun z => by have z : zeros (n' : Int) = [] := z; have z2 := zeros_len (n' : Int); rw [z] at z2; simp at z2; omega, by show (zeros (n' : Int)).length ≤ 1000; rw [zeros_len]; omega, hp.2.1 _ hbt.2⟩) rfl fun wr H9 e9 r9 => ?_
    have l9 := e9 _ _ l8
    have m9 := e9 _ _ m8
    have p9 := p8.rgM fun _ _ r => Sm.sm (R := RQ K RI (RRow K) (RRow K)) e9 r
    refine s_unp2 (d := baseRow Pn n' bs k) (R := RRow K) (S := RRow K) (Ev.is (ev_call (ea_cons (ev_var rfl rfl) (ea_cons (ev_var (R := RBasis K) rfl ⟨l, xs, rfl, SqL.of l9, p9⟩) (ea_cons (ev_var (R := RRow K) rfl r9) (ea_cons (ev_tupL (ev_var (R := RL K RI) rfl (rl_int m9))) ea_nil)))) ⟨hP, n', Pn.2.length * n', hB, behind_rw p0 (zeros_rw p0 (by omega)) _ _ _, by show (behind _ _ _ _ _).length = _; rw [behind_len, zeros_len]; omega, by have := (start_v hP (m := Pn.2.length * n') (by omega) k).1; rw [← hcast] at this; exact this, by have := (start_v hP (m := Pn.2.length * n') (by omega) k).2; rw [← hcast] at this; exact this⟩) rfl) fun vr vm H10 e10 q1 q2 => ?_
    have s10 := s8.trans (e9.trans e10)
    have l10 := e10 _ _ l9
    have p10 := p9.rgM fun _ _ r => Sm.sm (R := RQ K RI (RRow K) (RRow K)) e10 r
    obtain ⟨v1, v2, v3, v4⟩ := bR
    refine s_setN (R := RI) (ds := litOf (baseRow Pn n' bs k).1) (en_lc2 (T := RI) (fun q => !decide (q.2 = 0)) (fun q => q.1) (src_enT (ev_var (R := RRow K) rfl q1)).same (by rw [en_len, v2]; omega) fun a b u u' H' hd e ru ru' => ?_) fun l3 xs3 H11 n11 e11 hl11 pl11 => ?_
    · cases ru
      cases ru'
      exact ⟨rfl, et_test (ev_ne (ev_var rfl rfl) ev_int), fun _ => ev_var rfl rfl⟩
    have q1' := Sm.sm e11 q1
    have q2' := Sm.sm e11 q2
    have s11 := s10.trans e11
    have l11 := e11 _ _ l10
    have p11 := p10.rgM fun _ _ r => Sm.sm (R := RQ K RI (RRow K) (RRow K)) e11 r
    have t11 : Tk H3 H11 := g4.trans ((Tk.of e5).trans (t8.trans (Tk.of (e9.trans (e10.trans e11)))))
    have hb11 := Tm.tk (t8.trans (Tk.of (e9.trans (e10.trans e11)))) hb5
    have k11 : RL K RI H11 (.ref l3) (litOf (baseRow Pn n' bs k).1) := ⟨l3, xs3, rfl, SqL.of hl11, pl11⟩
    have hBn := baseIn_v hp (by omega) (by omega) hB k
    refine e_if (b := !(litOf (baseRow Pn n' bs k).1).isEmpty) (et_test (ev_neNilL (R := RI) (ev_var (R := RL K RI) rfl k11))) (fun hbb H12 e12 => ?_) fun hbb H12 e12 => ?_
    · have hl0 : litOf (baseRow Pn n' bs k).1 ≠ [] := fun z => by rw [z] at hbb; exact nomatch hbb
      have hm := lit_mem (lit_head hl0)
      have hlen0 : 0 < (litOf (baseRow Pn n' bs k).1).length := List.length_pos_iff.mpr hl0
      have hat : atI (litOf (baseRow Pn n' bs k).1) 0 = some (getZ (litOf (baseRow Pn n' bs k).1) 0) := atI_getZ (by omega) (by omega)
      have hat2 : atI (baseRow Pn n' bs k).1 (getZ (litOf (baseRow Pn n' bs k).1) 0) = some (getZ (baseRow Pn n' bs k).1 (getZ (litOf (baseRow Pn n' bs k).1) 0)) := atI_getZ hm.1 hm.2.1
      have hgz := getZ_rw p0 v1 (getZ (litOf (baseRow Pn n' bs k).1) 0)
      have hin := inv_all (c := getZ (baseRow Pn n' bs k).1 (getZ (litOf (baseRow Pn n' bs k).1) 0)) hP (by omega) hgz.2
      have q12 := Sm.sm e12 q1'
      have k12 := Sm.sm e12 k11
      refine s_setE (R := RI) (d' := inv Pn.1 (getZ (baseRow Pn n' bs k).1 (getZ (litOf (baseRow Pn n' bs k).1) 0))) (ev_ixL (ds := invs Pn.1 (getZ (baseRow Pn n' bs k).1 (getZ (litOf (baseRow Pn n' bs k).1) 0))) (en_lc1 (S := RI) (fun o => decide (o * getZ (baseRow Pn n' bs k).1 (getZ (litOf (baseRow Pn n' bs k).1) 0) % Pn.1 = 1)) (fun o => o) (src_r1 (ev_var rfl rfl) (by omega) (by omega)).same (by rw [ir_len]; omega) fun d u H' hd e ru => ?_).l ev_int (atI_0 (by
          unfold inv
          cases e : invs Pn.1 (getZ (baseRow Pn n' bs k).1 (getZ (litOf (baseRow Pn n' bs k).1) 0)) with
          | nil => exact absurd e hin.1
          | cons a t => rfl))) rfl fun _ H13 e13 r13 => ?_
      · cases ru
        have := mem_ir hd
        refine ⟨rfl, et_test (ev_eq (ev_mod (ev_mul (ev_var rfl rfl) (ev_ixT (R := RI) (ev_var (R := RRow K) rfl (Sm.sm e q12)) (ev_ixL (R := RI) (ev_var (R := RL K RI) rfl (Sm.sm e k12)) ev_int hat) hat2) (cmul_l (by omega) (by omega))) (ev_var rfl rfl) p0) ev_int), fun _ => ev_var rfl rfl⟩
      cases r13
      have e1113 := e12.trans e13
      refine s_set (R := RRow K) (d := zeros ((baseRow Pn n' bs k).2.length : Int)) (ev_rep1 (d := (0 : Int)) (k := ((baseRow Pn n' bs k).2.length : Int)) (ev_tup (es_cons ev_int es_nil) (by decide)) (ev_lenT (ev_var (R := RRow K) rfl (Sm.sm e1113 q2'))) (by rw [v4]; omega) (by rw [v4]; omega)) fun wz H14 e14 r14 => ?_
      have e1114 := e1113.trans e14
      have q14 := Sm.sm e1114 q1'
      have m14 := Sm.sm e1114 q2'
      have k14 := Sm.sm e1114 k11
      have l14 := e1114 _ _ l11
      refine e_app (R := RQ K RI (RRow K) (RRow K)) (d := (getZ (litOf (baseRow Pn n' bs k).1) 0,
          less Pn.1 (zeros (n' : Int)) (baseRow Pn n' bs k).1 (-(inv Pn.1 (getZ (baseRow Pn n' bs k).1 (getZ (litOf (baseRow Pn n' bs k).1) 0)))),
          less Pn.1 (zeros ((baseRow Pn n' bs k).2.length : Int)) (baseRow Pn n' bs k).2 (-(inv Pn.1 (getZ (baseRow Pn n' bs k).1 (getZ (litOf (baseRow Pn n' bs k).1) 0)))))) l14 (ev_tup3 (ev_ixL (R := RI) (ev_var (R := RL K RI) rfl k14) ev_int hat)
        (Ev.is (ev_call (ea_cons (ev_var rfl rfl) (ea_cons (ev_rep1 (d := (0 : Int)) (k := (n' : Int)) (ev_tup (es_cons ev_int es_nil) (by decide)) (ev_var rfl rfl) (by omega) (by omega)) (ea_cons (ev_var (R := RRow K) rfl q14) (ea_cons (ev_neg (ev_var rfl rfl)) ea_nil)))) ⟨hP, by show (List.replicate (n' : Int).toNat (0 : Int)).length ≤ 1000; rw [List.length_replicate]; omega, by show -100 ≤ -(inv _ _); omega, by show -(inv _ _) ≤ 100; omega⟩) rfl)
        (Ev.is (ev_call (ea_cons (ev_var rfl rfl) (ea_cons (ev_var (R := RRow K) rfl r14) (ea_cons (ev_var (R := RRow K) rfl m14) (ea_cons (ev_neg (ev_var rfl rfl)) ea_nil)))) ⟨hP, by show (zeros _).length ≤ 1000; rw [zeros_len]; omega, by show -100 ≤ -(inv _ _); omega, by show -(inv _ _) ≤ 100; omega⟩) rfl)) rfl (by rw [p11.length]; omega) fun wq H15 e15 r15 => ?_
      have e1115 := e1114.trans e15
      have el : baseIn Pn n' bs k = bs ++ [(getZ (litOf (baseRow Pn n' bs k).1) 0,
          less Pn.1 (zeros (n' : Int)) (baseRow Pn n' bs k).1 (-(inv Pn.1 (getZ (baseRow Pn n' bs k).1 (getZ (litOf (baseRow Pn n' bs k).1) 0)))),
          less Pn.1 (zeros ((baseRow Pn n' bs k).2.length : Int)) (baseRow Pn n' bs k).2 (-(inv Pn.1 (getZ (baseRow Pn n' bs k).1 (getZ (litOf (baseRow Pn n' bs k).1) 0)))))] := by
        unfold baseIn
        rw [if_neg hl0]
      have hl3 : H3 l = some (.lst []) := e3 _ _ hl2
      have tq : Tk H15 (upd H15 l (.lst (xs ++ [wq]))) := (Tk.refl H15).upd (noT_lst (e15 _ _ l14))
      refine ⟨(t11.trans (Tk.of e1115)).upd (noT_lst hl3), baseIn Pn n' bs k, _, _, _, _, _, _, _, _, _, hnext.symm, rfl, same_mut (s11.trans e1115) z2, ⟨_, upd_same, ?_⟩, hBn, ?_, Tm.tk ((Tk.of e1115).trans tq) hb11⟩
      · rw [el]
        exact pd_app (p11.rgM fun _ _ r => Tm.tk (R := RQ K RI (RRow K) (RRow K)) ((Tk.of e1115).trans tq) r) (.cons (Tm.tk (R := RQ K RI (RRow K) (RRow K)) tq r15) .nil)
      · rw [el, List.length_append, List.length_singleton]
        omega
    · have hl0 : litOf (baseRow Pn n' bs k).1 = [] := by
        cases e : litOf (baseRow Pn n' bs k).1 with
        | nil => rfl
        | cons a t => rw [e] at hbb; exact nomatch hbb
      have el : baseIn Pn n' bs k = bs := by
        unfold baseIn
        rw [if_pos hl0]
      exact ⟨t11.trans (Tk.of e12), bs, _, _, _, _, _, _, _, _, _, by rw [hnext, el], rfl, s11.trans e12, ⟨xs, e12 _ _ l11, p11.rgM fun _ _ r => Sm.sm (R := RQ K RI (RRow K) (RRow K)) e12 r⟩, hB, by omega, Sm.sm e12 hb11⟩
  · rintro σ' H4 g4 ⟨bs, y5, y6, y7, y8, y9, y10, y11, y12, y13, hbs, rfl, s4, ⟨xs, l4, p4⟩, hB, _, hb4⟩
    have hbs2 : bs = basisOf Pn n' := by
      rw [hbs, List.take_length]
      rfl
    rw [hbs2] at p4
    exact s_ret (ev_var (R := RBasis K) rfl ⟨l, xs, rfl, SqL.of l4, p4⟩) fun z H5 e5 rz => q z H5 (s4.trans e5) rz
theorem ok_found_presses (T : Top K mg) : FnOk P w K mg base CX0 4 (adr mg "found_presses") (fdat K mg "found_presses") ["panel", "size", "picture"] (spF (AC (RPanel K) (AC RI (AC (RPic K) A0))) (RPush K) (fun d => PanelV d.1 ∧ 1 ≤ d.2.1 ∧ d.2.1 ≤ 60 ∧ PicV d.1.1 d.2.1 d.2.2.1 ∧ ∀ x ∈ (foundS d.1 d.2.1 d.2.2.1).1, x = 0) fun d => presses d.1 d.2.1 d.2.2.1) := by
  refine fnF T.d_found_presses.F sc_found_presses rfl fun cdv Ar outer s H vs Q d hr hA hp q => ?_
  obtain ⟨Pn, n, pic, _⟩ := d
  obtain ⟨v, _, rfl, hv, _, _, rfl, rfl, u, _, rfl, hu, rfl⟩ := hA
  have hv : RPanel K H v Pn := hv
  have hu : RPic K H u pic := hu
  obtain ⟨hp, hn1, hn2, hpic, hz⟩ : PanelV Pn ∧ 1 ≤ n ∧ n ≤ 60 ∧ PicV Pn.1 n pic ∧ ∀ x ∈ (foundS Pn n pic).1, x = 0 := hp
  obtain ⟨n', rfl⟩ : ∃ n' : Nat, n = (n' : Int) := ⟨n.toNat, by omega⟩
  have hP := hp.1
  have p0 := hP.pos
  have p5 := hP.le
  have hbl : 0 < Pn.2.length := List.length_pos_iff.mpr hp.2.2.1
  have hb10 := hp.2.2.2
  have hL : Pn.2.length * n' ≤ 600 := Nat.le_trans (Nat.mul_le_mul hb10 (show n' ≤ 60 by omega)) (by decide)
  have hL1 : 0 < Pn.2.length * n' := Nat.mul_pos hbl (by omega)
  have hcast : ((Pn.2.length : Int) * (n' : Int)) = ((Pn.2.length * n' : Nat) : Int) := (Int.natCast_mul _ _).symm
  have hcl : (colours (n' : Int) pic).length = n' := by
    have := fold_keeps (f := fun (f : Row) (q : Int × Int) => setZ f q.1 q.2) (fun s : Row => s.length = n') pic (zeros (n' : Int)) (by rw [zeros_len]; omega) fun s d _ h => by rw [setZ_len]; exact h
    exact this
  have hcr : Rw Pn.1 (colours (n' : Int) pic) := by
    refine fold_keeps (Rw Pn.1) pic _ (zeros_rw p0 (by omega)) fun s d hd h => ?_
    have := hpic.1 d hd
    exact setZ_rw h (by omega) (by omega)
  have hst : StV Pn.1 n' (Pn.2.length * n') (colours (n' : Int) pic, zeros ((Pn.2.length : Int) * (n' : Int))) := ⟨hcr, hcl, by rw [hcast]; exact zeros_rw p0 (by omega), by show (zeros _).length = _; rw [hcast, zeros_len]; omega⟩
  have hfv : StV Pn.1 n' (Pn.2.length * n') (foundS Pn (n' : Int) pic) := lessBy_v p0 (basisOf_v hp (by omega) (by omega)) hst
  refine ⟨_, (pss_cons (ps_asg (pv 0) (pg_tup rfl (pgs_cons (pg_name (i := 3) sc_found_presses.nd rfl (.inr rfl)) (pgs_cons (pg_name (i := 4) sc_found_presses.nd rfl (.inl rfl)) pgs_nil))))
    (pss_cons (ps_asg (pe_def T.d_lessened_by (ok_lessened_by T) (b_lessened_by T) (hr.mono (by decide)) (by rfl) (pa_cons (pv 3) (pa_cons (pe_def T.d_basis_of (ok_basis_of T) (b_basis_of T) (hr.mono (by decide)) (by rfl) (pa_cons (pv 0) (pa_cons (pv 1) pa_nil))) (pa_cons (pe_def T.d_colours_of (ok_colours_of T) (b_colours_of T) (hr.mono (by decide)) (by rfl) (pa_cons (pv 1) (pa_cons (pv 2) pa_nil))) (pa_cons (pe_op op_rep1 (pe_tup (pa_cons pe_int pa_nil)) (pe_op op_mul (pe_callB (r := rLenK K) call_lenK (by rfl) T.n_len (by decide +kernel) (pa_cons (pv 4) pa_nil)) (pv 1))) pa_nil))))) (pg_tup rfl (pgs_cons (pg_name (i := 5) sc_found_presses.nd rfl (.inl rfl)) (pgs_cons (pg_name (i := 6) sc_found_presses.nd rfl (.inl rfl)) pgs_nil))))
    (pss_cons (ps_if (pt_val (pe_callB (cr_any rfl) (by rfl) T.n_any (by decide +kernel) (pa_cons (pe_lc (own := [("colour", 7)]) (g := (gName 7)) rfl sc_found_presses.nd (pi_tup (pv 5)) (blkOk_by (N := N_found_presses) (sc := defScope s_found_presses) (by decide +kernel)) (fun _ _ _ _ _ => (pg_name (i := 7) sc_found_presses.nd rfl (.inl rfl))) (fun _ _ _ _ _ => pts_nil) (fun _ _ _ _ _ => (pe_cmpR op_ne (pv 7) pe_int (nomark _)))) pa_nil)))
      (pss_one (ps_ret pe_non))
      pss_nil)
    (pss_one (ps_ret (pe_callTy call_tuple_of (by rfl) T.n_tuple (by decide +kernel) (pa_cons (pe_lc (own := [("at", 8), ("times", 9)]) (g := (gTup K 2 (gCons (gName 8) (gCons (gName 9) gNil)))) rfl sc_found_presses.nd (pi_enumT (by rfl) T.n_enumerate (pa_cons (pv 6) pa_nil)) (blkOk_by (N := N_found_presses) (sc := defScope s_found_presses) (by decide +kernel)) (fun _ _ _ _ _ => (pg_tup rfl (pgs_cons (pg_name (i := 8) sc_found_presses.nd rfl (.inl rfl)) (pgs_cons (pg_name (i := 9) sc_found_presses.nd rfl (.inl rfl)) pgs_nil)))) (fun _ _ _ _ _ => pts_one (pt_cmpR op_ne (pv 9) pe_int (nomark _))) (fun _ _ _ _ _ => (pe_tup (pa_cons (pe_op op_fdiv (pv 8) (pv 1)) (pa_cons (pe_op op_mod (pv 8) (pv 1)) (pa_cons (pe_op op_mod (pe_un un_neg (pv 9)) (pv 3)) pa_nil)))))) pa_nil))))))), ?_⟩
  refine s_unp2 (ev_var (R := RPanel K) rfl hv) fun _ wb H1 e1 r1 hb => ?_
  cases r1
  have hv1 := Sm.sm e1 hv
  have hu1 := Sm.sm e1 hu
  refine s_unp2 (d := foundS Pn (n' : Int) pic) (R := RRow K) (S := RRow K) (Ev.is (ev_call (ea_cons (ev_var rfl rfl) (ea_cons (ev_call (ea_cons (ev_var (R := RPanel K) rfl hv1) (ea_cons (ev_var rfl rfl) ea_nil)) ⟨hp, hn1, hn2⟩) (ea_cons (ev_call (ea_cons (ev_var rfl rfl) (ea_cons (ev_var (R := RPic K) rfl hu1) ea_nil)) ⟨by show (0 : Int) ≤ (n' : Int); omega, by show (n' : Int) ≤ 1000; omega, _, hpic⟩) (ea_cons (ev_rep1 (d := (0 : Int)) (k := (Pn.2.length : Int) * (n' : Int)) (ev_tup (es_cons ev_int es_nil) (by decide)) (ev_mul (ev_lenT (ev_var (R := RT K (RPic K)) rfl hb)) (ev_var rfl rfl) (cmul_l (by omega) (by omega))) (by rw [hcast]; omega) (by rw [hcast]; omega)) ea_nil)))) ⟨hP, _, _, basisOf_v hp (by omega) (by omega), hst⟩) rfl) fun wr wm H2 e2 r2 m2 => ?_
  have e02 := e1.trans e2
  refine s_no ?_ fun H3 e3 => ?_
  · refine (et_B ((ev_any (en_lm1 (S := RB) (fun c : Int => !decide (c = 0)) (src_tup (ev_var (R := RRow K) rfl r2)).same (by rw [hfv.2.1]; omega) fun d u H' hd e ru => ⟨rfl, ?_⟩).l).is ?_)).is rfl
    · cases ru
      exact ev_ne (ev_var rfl rfl) ev_int
    · rw [List.any_eq_false]
      intro y hy
      obtain ⟨x, hx, rfl⟩ := List.mem_map.mp hy
      rw [hz x hx]
      decide
  · have m3 := Sm.sm e3 m2
    refine s_ret (ev_tupL (en_lc2 (T := RTrip K) (fun q => !decide (q.2 = 0)) (fun q => (q.1 / (n' : Int), q.1 % (n' : Int), (-q.2) % Pn.1)) (src_enT (ev_var (R := RRow K) rfl m3)).same (by rw [en_len, hfv.2.2.2]; omega) fun a b u u' H' hd e ru ru' => ?_).l) fun z H4 e4 rz => q z H4 (e02.trans (e3.trans e4)) rz
    cases ru
    cases ru'
    exact ⟨rfl, et_test (ev_ne (ev_var rfl rfl) ev_int), fun _ => ev_tup3 (ev_fdiv (ev_var rfl rfl) (ev_var rfl rfl) ⟨by omega, by omega⟩) (ev_mod (ev_var rfl rfl) (ev_var rfl rfl) (by omega)) (ev_mod (ev_neg (ev_var rfl rfl)) (ev_var rfl rfl) p0)⟩
theorem ok_lamps (T : Top K mg) : FnOk P w K mg base CX0 7 (adr mg "lamps") (fdat K mg "lamps") ["panel", "size", "presses"] (spF (AC (RPanel K) (AC RI (AC (RPush K) A0))) (RPic K) (fun d => PanelV d.1 ∧ 1 ≤ d.2.1 ∧ d.2.1 ≤ 60 ∧ PushV d.1 d.2.1 d.2.2.1) fun d => lampsOf d.1 d.2.1 d.2.2.1) := by
  refine fnF T.d_lamps.F sc_lamps rfl fun cdv Ar outer s H vs Q d hr hA hp q => ?_
  obtain ⟨Pn, n, ps, _⟩ := d
  obtain ⟨v, _, rfl, hv, _, _, rfl, rfl, u, _, rfl, hu, rfl⟩ := hA
  have hv : RPanel K H v Pn := hv
  have hu : RPush K H u ps := hu
  obtain ⟨hp, hn1, hn2, hps⟩ : PanelV Pn ∧ 1 ≤ n ∧ n ≤ 60 ∧ PushV Pn n ps := hp
  have hP := hp.1
  refine ⟨_, (pss_cons (ps_expr (pe_def T.d_need_panel (ok_need_panel T) (b_need_panel T) (hr.mono (by decide)) (by rfl) (pa_cons (pv 0) pa_nil)))
    (pss_cons (ps_expr (pe_def T.d_need_size (ok_need_size T) (b_need_size T) (hr.mono (by decide)) (by rfl) (pa_cons (pv 1) pa_nil)))
    (pss_cons (ps_if (pt_not (pt_val (pe_def T.d_fits_presses (ok_fits_presses T) (b_fits_presses T) (hr.mono (by decide)) (by rfl) (pa_cons (pv 0) (pa_cons (pv 1) (pa_cons (pv 2) pa_nil))))))
      (pss_one ps_never)
      pss_nil)
    (pss_cons (ps_set (i := 3) sc_lamps.nd rfl (.inl rfl) (pe_op op_rep1 (pe_tup (pa_cons pe_int pa_nil)) (pv 1)))
    (pss_cons (ps_for PassesOwn.never rfl (pi_tup (pv 2)) (pg_tup rfl (pgs_cons (pg_name (i := 4) sc_lamps.nd rfl (.inl rfl)) (pgs_cons (pg_name (i := 5) sc_lamps.nd rfl (.inl rfl)) (pgs_cons (pg_name (i := 6) sc_lamps.nd rfl (.inl rfl)) pgs_nil))))
      (pss_one (ps_set (i := 3) sc_lamps.nd rfl (.inl rfl) (pe_def T.d_behind_press (ok_behind_press T) (b_behind_press T) (hr.mono (by decide)) (by rfl) (pa_cons (pe_ix (r := rIxT K) ix_tup (pv 0) pe_int (fun _ _ => rfl)) (pa_cons (pv 3) (pa_cons (pe_ix (r := rIxT K) ix_tup (pe_ix (r := rIxT K) ix_tup (pv 0) pe_int (fun _ _ => rfl)) (pv 4) (fun _ _ => rfl)) (pa_cons (pv 5) (pa_cons (pv 6) pa_nil)))))))))
    (pss_one (ps_ret (pe_def T.d_picture_of (ok_picture_of T) (b_picture_of T) (hr.mono (by decide)) (by rfl) (pa_cons (pv 3) pa_nil))))))))), ?_⟩
  refine s_drop (ev_call (ea_cons (ev_var (R := RPanel K) rfl hv) ea_nil) hp) fun H1 e1 => ?_
  refine s_drop (ev_call (ea_cons (ev_var rfl rfl) ea_nil) hn1) fun H2 e2 => ?_
  have e02 := e1.trans e2
  refine s_no ((et_not (et_B (ev_call (ea_cons (ev_var (R := RPanel K) rfl (Sm.sm e02 hv)) (ea_cons (ev_var rfl rfl) (ea_cons (ev_var (R := RPush K) rfl (Sm.sm e02 hu)) ea_nil))) hps))).is rfl) fun H3 e3 => ?_
  have e03 := e02.trans e3
  refine s_set (R := RRow K) (d := zeros n) (ev_rep1 (d := (0 : Int)) (k := n) (ev_tup (es_cons ev_int es_nil) (by decide)) (ev_var rfl rfl) hn1 (by omega)) fun u4 H4 e4 r4 => ?_
  have e04 := e03.trans e4
  refine s_fold (lampIn Pn) (zeros n) (src_tup (ev_var (R := RPush K) rfl (Sm.sm e04 hu))).same Same.refl fun H5 e5 => ⟨fun f σ' H' => ∃ y3 y4 y5 y6, σ' = [some v, some (.int n), some u, some y3, y4, y5, y6] ∧ Same H H' ∧ RRow K H' y3 f ∧ f.length = n.toNat, ⟨u4, _, _, _, rfl, e04.trans e5, Sm.sm e5 r4, zeros_len _⟩, ?_, ?_⟩
  · rintro f ⟨k, a, t⟩ x σ' H6 H7 hd g6 ⟨y3, y4, y5, y6, rfl, s6, r6, n6⟩ e7 rx
    have hx := hps.1 _ hd
    simp only at hx
    have hbt := button_at (Pn := Pn) (k := k) hx.1 (by omega)
    refine g3 rx fun _ _ _ r1 r2 r3 => ?_
    cases r1
    cases r2
    cases r3
    have hv7 := Sm.sm (s6.trans e7) hv
    refine e_set (ev_call (ea_cons (ev_p0 (ev_var (R := RPanel K) rfl hv7)) (ea_cons (ev_var (R := RRow K) rfl (Sm.sm e7 r6)).s (ea_cons (ev_ixT (R := RPic K) (ev_p1 (ev_var (R := RPanel K) rfl hv7)) (ev_var rfl rfl) hbt.1) (ea_cons (ev_var rfl rfl) (ea_cons (ev_var rfl rfl) ea_nil))))) ⟨hP, fun z => by have z : f = [] := z; rw [z] at n6; simp at n6; omega, by show f.length ≤ 1000; omega, hp.2.1 _ hbt.2⟩) fun z H8 e8 rz => ?_
    exact ⟨g6.trans (e7.trans e8), z, _, _, _, rfl, s6.trans (e7.trans e8), rz, by show (behind _ _ _ _ _).length = _; rw [behind_len]; exact n6⟩
  · rintro σ' H6 g6 ⟨y3, y4, y5, y6, rfl, s6, r6, n6⟩
    exact s_ret (ev_call (ea_cons (ev_var (R := RRow K) rfl r6) ea_nil) (by show List.length _ ≤ 1000; rw [n6]; omega)) fun z H7 e7 rz => q z H7 (s6.trans e7) rz
theorem ok_can_reach (T : Top K mg) : FnOk P w K mg base CX0 8 (adr mg "can_reach") (fdat K mg "can_reach") ["panel", "size", "picture"] (spF (AC (RPanel K) (AC RI (AC (RPic K) A0))) RB (fun d => PanelV d.1 ∧ 1 ≤ d.2.1 ∧ PicV d.1.1 d.2.1 d.2.2.1) fun d => reach d.1 d.2.1.toNat d.2.2.1) := by
  refine fnF T.d_can_reach.F sc_can_reach rfl fun cdv Ar outer s H vs Q d hr hA hp q => ?_
  obtain ⟨Pn, n, pic, _⟩ := d
  obtain ⟨v, _, rfl, hv, _, _, rfl, rfl, u, _, rfl, hu, rfl⟩ := hA
  have hv : RPanel K H v Pn := hv
  have hu : RPic K H u pic := hu
  obtain ⟨hp, hn1, hpic⟩ : PanelV Pn ∧ 1 ≤ n ∧ PicV Pn.1 n pic := hp
  have ho := divOn_ok hp n.toNat
  refine ⟨_, (pss_cons (ps_expr (pe_def T.d_need_panel (ok_need_panel T) (b_need_panel T) (hr.mono (by decide)) (by rfl) (pa_cons (pv 0) pa_nil)))
    (pss_cons (ps_expr (pe_def T.d_need_size (ok_need_size T) (b_need_size T) (hr.mono (by decide)) (by rfl) (pa_cons (pv 1) pa_nil)))
    (pss_cons (ps_expr (pe_def T.d_need_picture (ok_need_picture T) (b_need_picture T) (hr.mono (by decide)) (by rfl) (pa_cons (pe_ix (r := rIxT K) ix_tup (pv 0) pe_int (fun _ _ => rfl)) (pa_cons (pv 1) (pa_cons (pv 2) pa_nil)))))
    (pss_one (ps_ret (pe_cmpR (op_eqD hr.units) (pe_def T.d_rest_of (ok_rest_of T) (b_rest_of T) (hr.mono (by decide)) (by rfl) (pa_cons (pe_ix (r := rIxT K) ix_tup (pv 0) pe_int (fun _ _ => rfl)) (pa_cons (pv 2) (pa_cons (pe_def T.d_divisor_on (ok_divisor_on T) (b_divisor_on T) (hr.mono (by decide)) (by rfl) (pa_cons (pv 0) (pa_cons (pv 1) pa_nil))) pa_nil)))) (pe_tup pa_nil) (nomark _))))))), ?_⟩
  refine s_drop (ev_call (ea_cons (ev_var (R := RPanel K) rfl hv) ea_nil) hp) fun H1 e1 => ?_
  refine s_drop (ev_call (ea_cons (ev_var rfl rfl) ea_nil) hn1) fun H2 e2 => ?_
  have e02 := e1.trans e2
  refine s_drop (ev_call (ea_cons (ev_p0 (ev_var (R := RPanel K) rfl (Sm.sm e02 hv))) (ea_cons (ev_var rfl rfl) (ea_cons (ev_var (R := RPic K) rfl (Sm.sm e02 hu)) ea_nil))) hpic) fun H3 e3 => ?_
  have e03 := e02.trans e3
  have hv3 := Sm.sm e03 hv
  have hu3 := Sm.sm e03 hu
  refine s_retE (d := (restOf Pn.1 pic (divOn Pn n.toNat)).isEmpty) (ev_eqNilT (R := RI) (Ev.is (ev_call (ea_cons (ev_p0 (ev_var (R := RPanel K) rfl hv3)) (ea_cons (ev_var (R := RPic K) rfl hu3) (ea_cons (Ev.is (d' := divOn Pn n.toNat) (ev_call (ea_cons (ev_var (R := RPanel K) rfl hv3) (ea_cons (ev_var rfl rfl) ea_nil)) ⟨hp, by show 0 ≤ n; omega⟩) rfl) ea_nil))) ⟨hp.1, ⟨n, hpic⟩, ho.1, ho.2.1, by show (divOn Pn n.toNat).length ≤ 400; omega⟩) rfl)) (fun z H4 e4 rz => q z H4 (e03.trans e4) rz) ?_
  show (restOf Pn.1 pic (divOn Pn n.toNat)).isEmpty = decide (restOf Pn.1 pic (divOn Pn n.toNat) = [])
  cases restOf Pn.1 pic (divOn Pn n.toNat) <;> simp
theorem ok_presses_for (T : Top K mg) : FnOk P w K mg base CX0 7 (adr mg "presses_for") (fdat K mg "presses_for") ["panel", "size", "picture"] (spF (AC (RPanel K) (AC RI (AC (RPic K) A0))) (RPush K) (fun d => PanelV d.1 ∧ 1 ≤ d.2.1 ∧ d.2.1 ≤ 60 ∧ PicV d.1.1 d.2.1 d.2.2.1 ∧ ∀ x ∈ (foundS d.1 d.2.1 d.2.2.1).1, x = 0) fun d => presses d.1 d.2.1 d.2.2.1) := by
  refine fnF T.d_presses_for.F sc_presses_for rfl fun cdv Ar outer s H vs Q d hr hA hp q => ?_
  obtain ⟨Pn, n, pic, _⟩ := d
  obtain ⟨v, _, rfl, hv, _, _, rfl, rfl, u, _, rfl, hu, rfl⟩ := hA
  have hv : RPanel K H v Pn := hv
  have hu : RPic K H u pic := hu
  have hp' := hp
  obtain ⟨hp, hn1, hn2, hpic, hz⟩ : PanelV Pn ∧ 1 ≤ n ∧ n ≤ 60 ∧ PicV Pn.1 n pic ∧ ∀ x ∈ (foundS Pn n pic).1, x = 0 := hp
  refine ⟨_, (pss_cons (ps_expr (pe_def T.d_need_panel (ok_need_panel T) (b_need_panel T) (hr.mono (by decide)) (by rfl) (pa_cons (pv 0) pa_nil)))
    (pss_cons (ps_expr (pe_def T.d_need_size (ok_need_size T) (b_need_size T) (hr.mono (by decide)) (by rfl) (pa_cons (pv 1) pa_nil)))
    (pss_cons (ps_expr (pe_def T.d_need_picture (ok_need_picture T) (b_need_picture T) (hr.mono (by decide)) (by rfl) (pa_cons (pe_ix (r := rIxT K) ix_tup (pv 0) pe_int (fun _ _ => rfl)) (pa_cons (pv 1) (pa_cons (pv 2) pa_nil)))))
    (pss_one (ps_ret (pe_def T.d_found_presses (ok_found_presses T) (b_found_presses T) (hr.mono (by decide)) (by rfl) (pa_cons (pv 0) (pa_cons (pv 1) (pa_cons (pv 2) pa_nil))))))))), ?_⟩
  refine s_drop (ev_call (ea_cons (ev_var (R := RPanel K) rfl hv) ea_nil) hp) fun H1 e1 => ?_
  refine s_drop (ev_call (ea_cons (ev_var rfl rfl) ea_nil) hn1) fun H2 e2 => ?_
  have e02 := e1.trans e2
  refine s_drop (ev_call (ea_cons (ev_p0 (ev_var (R := RPanel K) rfl (Sm.sm e02 hv))) (ea_cons (ev_var rfl rfl) (ea_cons (ev_var (R := RPic K) rfl (Sm.sm e02 hu)) ea_nil))) hpic) fun H3 e3 => ?_
  have e03 := e02.trans e3
  exact s_ret (ev_call (ea_cons (ev_var (R := RPanel K) rfl (Sm.sm e03 hv)) (ea_cons (ev_var rfl rfl) (ea_cons (ev_var (R := RPic K) rfl (Sm.sm e03 hu)) ea_nil))) hp') fun z H4 e4 rz => q z H4 (e03.trans e4) rz
theorem ok_loss (T : Top K mg) : FnOk P w K mg base CX0 8 (adr mg "loss") (fdat K mg "loss") ["panel", "size"] (spF (AC (RPanel K) (AC RI A0)) RI (fun d => PanelV d.1 ∧ 1 ≤ d.2.1) fun d => lossOf d.1 d.2.1.toNat) := by
  refine fnF T.d_loss.F sc_loss rfl fun cdv Ar outer s H vs Q d hr hA hp q => ?_
  obtain ⟨Pn, n, _⟩ := d
  obtain ⟨v, _, rfl, hv, _, _, rfl, rfl, rfl⟩ := hA
  have hv : RPanel K H v Pn := hv
  obtain ⟨hp, hn1⟩ : PanelV Pn ∧ 1 ≤ n := hp
  refine ⟨_, (pss_cons (ps_expr (pe_def T.d_need_panel (ok_need_panel T) (b_need_panel T) (hr.mono (by decide)) (by rfl) (pa_cons (pv 0) pa_nil)))
    (pss_cons (ps_expr (pe_def T.d_need_size (ok_need_size T) (b_need_size T) (hr.mono (by decide)) (by rfl) (pa_cons (pv 1) pa_nil)))
    (pss_one (ps_ret (pe_op op_sub (pe_callB (r := rLenK K) call_lenK (by rfl) T.n_len (by decide +kernel) (pa_cons (pe_def T.d_divisor_on (ok_divisor_on T) (b_divisor_on T) (hr.mono (by decide)) (by rfl) (pa_cons (pv 0) (pa_cons (pv 1) pa_nil))) pa_nil)) pe_int))))), ?_⟩
  refine s_drop (ev_call (ea_cons (ev_var (R := RPanel K) rfl hv) ea_nil) hp) fun H1 e1 => ?_
  refine s_drop (ev_call (ea_cons (ev_var rfl rfl) ea_nil) hn1) fun H2 e2 => ?_
  have e02 := e1.trans e2
  exact s_ret (ev_sub (ev_lenT (Ev.is (d' := divOn Pn n.toNat) (ev_call (ea_cons (ev_var (R := RPanel K) rfl (Sm.sm e02 hv)) (ea_cons (ev_var rfl rfl) ea_nil)) ⟨hp, by show 0 ≤ n; omega⟩) rfl)) ev_int) fun z H4 e4 rz => q z H4 (e02.trans e4) rz
end
end Rg
end
section
set_option Elab.async false
set_option linter.all false
set_option maxRecDepth 100000
set_option maxHeartbeats 4000000
open PySem PySem.Spec PyProof.Rows L2 RZ Rg
local macro_rules | `(tactic| walk_at "ev1") => `(tactic| first
  | exact ev_isTupT (ev_p1 (ev_var rfl (by assumption)))
  | exact ev_lenT (ev_p1 (ev_var rfl (by assumption)))
  | exact ev_lenT (ev_p0 (ev_var rfl (by assumption)))
  | exact ev_isInt (ev_p0 (ev_var rfl (by assumption)))
  | exact ev_isInt (ev_var rfl rfl)
  | exact ev_isBool (ev_var rfl rfl)
  | exact ev_isTupT (ev_var rfl (by assumption))
  | exact ev_isTupP (ev_var rfl (by assumption))
  | exact ev_isTupQ (ev_var rfl (by assumption))
  | exact ev_lenT (ev_var rfl (by assumption))
  | exact ev_lenP (ev_var rfl (by assumption))
  | exact ev_lenQ (ev_var rfl (by assumption))
  | exact ev_int
  | exact ev_bl
  | exact ev_var rfl rfl
  | exact ev_var rfl (by assumption)
  | exact ea_nil
  | exact ev_p0 (ev_var rfl (by assumption))
  | exact ev_p1 (ev_var rfl (by assumption))
  | exact ev_q0 (ev_var rfl (by assumption))
  | exact ev_q1 (ev_var rfl (by assumption))
  | exact ev_q2 (ev_var rfl (by assumption))
  | apply ea_cons
  | apply ev_call
  | apply ev_add
  | apply ev_sub
  | apply ev_mul
  | apply ev_mod
  | apply ev_fdiv
  | apply ev_lt
  | apply ev_le
  | apply ev_gt
  | apply ev_ge
  | apply ev_eq
  | apply ev_ne
  | apply ev_neg
  | apply ev_p0
  | apply ev_p1
  | apply ev_q0
  | apply ev_q1
  | apply ev_q2
  | apply ev_int1
  | apply ev_notV
  | apply ev_andV
  | apply ev_orV
  | apply et_test
  | apply et_B
  | apply et_and
  | apply et_or
  | apply et_not
  | exact True.intro
  | (with_reducible intro _)
  | (show (_ : Int) < _; assumption))
local macro_rules | `(tactic| walk_at "ev") => `(tactic| repeat' (walk_at "ev1"))

namespace Rg
/-! Dicts over Rep, sorted keys. -/
theorem s_tm_of {α : Type} {R : Rep α} [Tm R] {H H' : Hp} {v : V} {d : α} (t : Tk H H') (h : R H v d) : R H' v d := Tm.tk t h
section
variable {κ : Type} [DecidableEq κ]
def tre (e : κ → κ') (q : κ × Int) : κ' × V := (e q.1, V.int q.2)
variable {κ' : Type} [DecidableEq κ'] {e : κ → κ'}
theorem valV_tre (he : ∀ a b, e a = e b → a = b) (k : κ) : ∀ l : List (κ × Int), valV (l.map (tre e)) (e k) = (lookA l k).map V.int
  | [] => rfl
  | q :: l => by
    rw [List.map_cons]
    by_cases h : q.1 = k
    · rw [valV_pos (p := tre e q) (by show e q.1 = e k; rw [h]), lookA_pos h]; rfl
    · rw [valV_neg (p := tre e q) (fun z => h (he _ _ z)), lookA_neg h]; exact valV_tre he k l
theorem put_tre (he : ∀ a b, e a = e b → a = b) (l : List (κ × Int)) (k : κ) (v : Int) : putK (l.map (tre e)) (e k) (V.int v) = (putA l k v).map (tre e) := by
  unfold putK putA
  have h1 : ((l.map (tre e)).any fun kv => decide (kv.1 = e k)) = l.any fun q => decide (q.1 = k) := by
    rw [List.any_map]
    congr 1
    funext q
    show decide (e q.1 = e k) = decide (q.1 = k)
    exact decide_eq_decide.mpr ⟨he _ _, fun z => by rw [z]⟩
  rw [h1]
  split
  · rw [List.map_map, List.map_map]
    apply List.map_congr_left
    intro q _
    show (if e q.1 = e k then (e q.1, V.int v) else tre e q) = tre e (if q.1 = k then (q.1, v) else q)
    by_cases h : q.1 = k
    · rw [if_pos h, if_pos (by rw [h])]; rfl
    · rw [if_neg h, if_neg (fun z => h (he _ _ z))]
  · rw [List.map_append]; rfl
end
abbrev tr : Int × Int → Key × V := tre (Sum.inl : Int → Key)
abbrev trT : (Int × Int) × Int → List Key × V := tre (fun a : Int × Int => ([Sum.inl a.1, Sum.inl a.2] : List Key))
theorem inl_inj (a b : Int) (h : (Sum.inl a : Key) = Sum.inl b) : a = b := Sum.inl.inj h
theorem pr_inj (a b : Int × Int) (h : ([Sum.inl a.1, Sum.inl a.2] : List Key) = [Sum.inl b.1, Sum.inl b.2]) : a = b := by
  injection h with h1 h2
  injection h2 with h2 _
  exact Prod.ext (Sum.inl.inj h1) (Sum.inl.inj h2)
section
variable {α β γ δ : Type} {K : PySem.W.Frag} {σ : L2.St} {H H' : Hp} {ta tb te tx tl ty tv : TE} {t tt : TT} {R : Rep α} {S : Rep β} {D : Ends} {tu tw tz : TS} {i : Nat} {d : Addr} {l : List (Int × Int)} {k v : Int}
/-- a new dict of ints -/
def EvD (te : TE) (σ : L2.St) (H : Hp) (l : List (Int × Int)) : Prop := ∀ H1, Same H H1 → ∀ Q : VK, (∀ p H2, H1 p = none → Same H1 H2 → H2 p = some (.dK (l.map tr)) → Q (.ref p) H2) → te σ H1 Q
theorem evd_new : EvD tDNewK σ H [] := fun H1 e Q q => fun p hp => q p _ hp (same_new hp) upd_same
theorem s_setD (h : EvD te σ H l) (k : ∀ p H1, H p = none → Same H H1 → H1 p = some (.dK (l.map tr)) → tz D (σ.set i (some (.ref p))) H1) : tSeq (tAsg te (gName i)) tz D σ H := h H (Same.refl H) _ k
theorem s_setDT (k : ∀ p, H p = none → tz D (σ.set i (some (.ref p))) (upd H p (.dT []))) : tSeq (tAsg tDNewT (gName i)) tz D σ H := fun p hp => k p hp
/-- d[k] = v -/
theorem e_dput (hd : H d = some (.dK (l.map tr))) (h : Ev tv σ H RI v) (ho : σ[i]? = some (some (.ref d))) (hk : Ev ty σ H RI k) (hl : l.length ≤ 100000) (c : ∀ H1, Same H H1 → D.nx σ (upd H1 d (.dK ((putA l k v).map tr)))) : sDPut (tVar i) ty tv D σ H :=
  h H (Same.refl H) _ fun x H1 e1 r1 => ⟨_, ho, hk H1 e1 _ fun y H2 e2 r2 => by
    cases r1
    cases r2
    have hz := DPut.k (k := Sum.inl k) (v := V.int v) (e2 _ _ (e1 _ _ hd)) (by rw [List.length_map]; exact Nat.lt_of_le_of_lt hl (by decide))
    rw [put_tre inl_inj] at hz
    exact ⟨d, _, rfl, hz, c H2 (e1.trans e2)⟩⟩
theorem s_dput (hd : H d = some (.dK (l.map tr))) (h : Ev tv σ H RI v) (ho : σ[i]? = some (some (.ref d))) (hk : Ev ty σ H RI k) (hl : l.length ≤ 100000) (c : ∀ H1, Same H H1 → tz D σ (upd H1 d (.dK ((putA l k v).map tr)))) : tSeq (sDPut (tVar i) ty tv) tz D σ H := e_dput (D := { D with nx := tz D }) hd h ho hk hl c
theorem ev_dget (hd : H d = some (.dK (l.map tr))) (ho : σ[i]? = some (some (.ref d))) (hk : Ev ty σ H RI k) (hm : k ∈ l.map (·.1)) : Ev (tDGet (tVar i) ty) σ H RI (getA l k) := fun H1 e Q q =>
  ⟨_, ho, hk H1 e _ fun y H2 e2 r2 => by
    cases r2
    obtain ⟨x, hx⟩ := mem_look hm
    have hz := DGet.k (k := Sum.inl k) (e2 _ _ (e _ _ hd))
    rw [valV_tre inl_inj, hx] at hz
    refine ⟨d, _, rfl, hz, q _ H2 e2 ?_⟩
    unfold getA
    rw [hx]
    rfl⟩
theorem ev_dget0 (hd : H d = some (.dK (l.map tr))) (ho : σ[i]? = some (some (.ref d))) (hk : Ev ty σ H RI k) : Ev (tDGet2 (tVar i) ty (tC (.int 0))) σ H RI (getA l k) := fun H1 e Q q =>
  ⟨_, ho, d, rfl, .inl ⟨_, .inl (e _ _ hd)⟩, hk H1 e _ fun y H2 e2 r2 => by
    cases r2
    have hz := DGet.k (k := Sum.inl k) (e2 _ _ (e _ _ hd))
    rw [valV_tre inl_inj] at hz
    refine ⟨_, hz, q _ H2 e2 ?_⟩
    unfold getA
    cases lookA l k <;> rfl⟩
theorem et_din (hd : H d = some (.dK (l.map tr))) (ho : σ[i]? = some (some (.ref d))) (hk : Ev ty σ H RI k) : EvT (tB (tDIn ty (tVar i))) σ H (lookA l k).isSome := fun H1 e Q q =>
  hk H1 e _ fun y H2 e2 r2 => ⟨_, ho, by
    cases r2
    have hz := DGet.k (k := Sum.inl k) (e2 _ _ (e _ _ hd))
    rw [valV_tre inl_inj] at hz
    refine ⟨d, _, rfl, hz, _, rfl, ?_⟩
    have : ((lookA l k).map V.int).isSome = (lookA l k).isSome := by cases lookA l k <;> rfl
    rw [this]
    exact q H2 e2⟩
/-- [f(k) for k in d], ints -/
theorem en_keys {j : Nat} {vs : List Nat} {te : TE} (hd : H d = some (.dK (l.map tr))) (ho : σ[i]? = some (some (.ref d))) (hl : l.length ≤ 100000)
    (hstep : ∀ k H', wipe ((wipe σ vs).set j (some (.int k))) vs = wipe σ vs ∧ Ev te ((wipe σ vs).set j (some (.int k))) H' RI k) : EvN (tLockE (tLc (iKeys (tVar i)) (gName j) tYes te vs)) σ H RI (l.map (·.1)) := fun H1 e Q q => by
  refine ⟨d, _, e _ _ hd, trivial, fun od => ?_⟩
  refine ⟨_, ho, d, od, rfl, .inl ⟨_, upd_same, ?_⟩⟩
  intro Dn hDn
  have hDd : Dn ≠ d := fun z => by rw [z, upd_same] at hDn; cases hDn
  refine lc_it (Qd := fun H3 => H3 d = some (.frz od (.dK (l.map tr))) ∧ Q (.ref Dn) (upd H3 d (.dK (l.map tr)))) (walk_keys (d := d) (o := od) (kvs := l.map tr)) (fun i H3 => Same (upd H1 d (.frz od (.dK (l.map tr)))) H3 ∧ H3 Dn = some (.lst (((l.map (·.1)).take i).map V.int))) ⟨same_new hDn, by rw [upd_same, List.take_zero]; rfl⟩ (fun i H3 hi p => p.1 _ _ upd_same) ?_ ?_
  · rintro i x H3 H4 hi ⟨p1, p2⟩ ⟨rfl, kk, v, hkv, rfl⟩
    rw [List.getElem?_map] at hkv
    cases hg : l[i]? with
    | none => rw [hg] at hkv; cases hkv
    | some z =>
      rw [hg] at hkv
      cases hkv
      obtain ⟨h1, h2⟩ := hstep z.1 H4
      refine ⟨h1, ?_⟩
      refine h2 H4 (Same.refl _) _ fun y H5 e5 r5 => ?_
      cases r5
      refine ⟨_, e5 _ _ p2, ?_, same_mut (p1.trans e5) hDn, ?_⟩
      · rw [List.length_map, List.length_take, List.length_map]
        exact Nat.lt_of_le_of_lt (Nat.le_trans (Nat.min_le_right _ _) hl) (by decide)
      · rw [upd_same, List.take_add_one, List.getElem?_map, hg, List.map_append]
        rfl
  · rintro H3 ⟨p1, p2⟩
    have hfz := p1 _ _ (upd_same (H := H1) (a := d) (o := .frz od (.dK (l.map tr))))
    refine ⟨hfz, ?_⟩
    rw [List.length_map, ← List.length_map (f := (·.1)) (as := l), List.take_length] at p2
    refine q Dn _ _ ?_ (fun b o hb => ?_) (by rw [upd_ne hDd]; exact p2) (ri_pd _)
    · rw [← hDn, upd_ne hDd]
    · by_cases hbd : b = d
      · subst hbd
        rw [upd_same, ← e _ _ hd]
        exact hb
      · rw [upd_ne hbd]
        exact p1 b o (by rw [upd_ne hbd]; exact hb)
/-- sorted(ints) -/
theorem en_sortI {ns : List Int} (h : Ev ta σ H (RL K RI) ns) : EvN (tCB (rSortedI K) (tCons ta tNil)) σ H RI (sortI ns) := fun H1 e Q q => h H1 e _ fun x H2 e2 ⟨a, xs, ex, hq, pd⟩ =>
  ⟨a, ns, by rw [ex], by rw [← pd_ri pd]; exact hq, fun ns' p hp hs hn => by
    rw [sortI_is hp hs] at *
    exact q p _ _ (same_free e2 hn) (e2.trans (same_new hn)) upd_same (ri_pd _)⟩
/-- dict(pairs) -/
theorem pd_refs {K : PySem.W.Frag} {H : Hp} : ∀ {xs : List V} {ds : List (Int × Int)}, Paired (RPair K H) xs ds → ∃ ps : List Addr, xs = ps.map V.ref ∧ Paired (fun p kv => SqT K H p [kV kv.1, kv.2]) ps (ds.map tr)
  | _, _, .nil => ⟨[], rfl, .nil⟩
  | _, _, .cons ⟨a, x, y, e, h, r1, r2⟩ t => by
    obtain ⟨ps, e2, h2⟩ := pd_refs t
    cases r1
    cases r2
    exact ⟨a :: ps, by rw [e, e2]; rfl, .cons h h2⟩
theorem merge_tre (ds acc : List (Int × Int)) : mergeK (acc.map tr) (ds.map tr) = (ds.foldl (fun l q => putA l q.1 q.2) acc).map tr := by
  induction ds generalizing acc with
  | nil => rfl
  | cons q ds ih =>
    show mergeK (putK (acc.map tr) (tr q).1 (tr q).2) (ds.map tr) = _
    rw [show (tr q).1 = Sum.inl q.1 from rfl, show (tr q).2 = V.int q.2 from rfl, put_tre inl_inj, ih]
    rfl
theorem evd_dict {ds : List (Int × Int)} (h : Ev ta σ H (RL K (RPair K)) ds) : EvD (tCB (fun xs H Q => ∃ (a : Addr) (ps : List Addr) (kvs : List (Key × V)), xs = [.ref a] ∧ SqL K H a (ps.map V.ref) ∧ Paired (fun p kv => SqT K H p [kV kv.1, kv.2]) ps kvs ∧
    ∀ p, H p = none → Q (.ref p) (upd H p (.dK (mergeK [] kvs)))) (tCons ta tNil)) σ H (dictOf ds) := fun H1 e Q q => h H1 e _ fun x H2 e2 ⟨a, xs, ex, hq, pd⟩ => by
  obtain ⟨ps, rfl, hp⟩ := pd_refs pd
  refine ⟨a, ps, _, by rw [ex], hq, hp, fun p hn => ?_⟩
  have hm : mergeK [] (ds.map tr) = (dictOf ds).map tr := merge_tre ds []
  rw [hm]
  exact q p _ (same_free e2 hn) (e2.trans (same_new hn)) upd_same
/-! dicts with tuple keys -/
theorem e_dputT {l : List ((Int × Int) × Int)} {k : Int × Int} (hd : H d = some (.dT (l.map trT))) (h : Ev tv σ H RI v) (ho : σ[i]? = some (some (.ref d))) (hk : ∀ H1, Same H H1 → ∀ Q : VK, (∀ b H2, Same H1 H2 → H2 b = some (.tup [.int k.1, .int k.2]) → Q (.ref b) H2) → ty σ H1 Q) (hl : l.length ≤ 100000) (c : ∀ H1, Same H H1 → D.nx σ (upd H1 d (.dT ((putA l k v).map trT)))) : sDPut (tVar i) ty tv D σ H :=
  h H (Same.refl H) _ fun x H1 e1 r1 => ⟨_, ho, hk H1 e1 _ fun b H2 e2 hb => by
    cases r1
    have hz := DPut.t (k := [Sum.inl k.1, Sum.inl k.2]) (v := V.int v) (e2 _ _ (e1 _ _ hd)) hb (by rw [List.length_map]; exact Nat.lt_of_le_of_lt hl (by decide))
    rw [put_tre (e := fun a : Int × Int => ([Sum.inl a.1, Sum.inl a.2] : List Key)) pr_inj] at hz
    exact ⟨d, _, rfl, hz, c H2 (e1.trans e2)⟩⟩
/-- the key as it stands, a tracked tuple -/
def RK : Rep (Int × Int) := fun H v q => ∃ b, v = .ref b ∧ H b = some (.tup [.int q.1, .int q.2])
instance : Sm RK := ⟨fun e ⟨b, h1, h2⟩ => ⟨b, h1, e _ _ h2⟩⟩
theorem RK.p {v : V} {q : Int × Int} (h : RK H v q) : RPair K H v q := let ⟨b, h1, h2⟩ := h; ⟨b, _, _, h1, SqT.of h2, rfl, rfl⟩
theorem ev_dgetT {l : List ((Int × Int) × Int)} {q : Int × Int} {w : V} {j : Nat} (hd : H d = some (.dT (l.map trT))) (ho : σ[i]? = some (some (.ref d))) (hj : σ[j]? = some (some w)) (hw : RK H w q) (hm : q ∈ l.map (·.1)) : Ev (tDGet (tVar i) (tVar j)) σ H RI (getA l q) := fun H1 e Q qq =>
  ⟨_, ho, _, hj, by
    obtain ⟨b, rfl, hb⟩ := hw
    obtain ⟨x, hx⟩ := mem_look hm
    have hz := DGet.t (k := [Sum.inl q.1, Sum.inl q.2]) (e _ _ hd) (e _ _ hb)
    rw [valV_tre (e := fun a : Int × Int => ([Sum.inl a.1, Sum.inl a.2] : List Key)) pr_inj, hx] at hz
    refine ⟨d, _, rfl, hz, qq _ H1 (Same.refl _) ?_⟩
    unfold getA
    rw [hx]
    rfl⟩
/-- [k for k in d], keys that are tuples -/
theorem en_keysT {j : Nat} {vs : List Nat} {l : List ((Int × Int) × Int)} (hd : H d = some (.dT (l.map trT))) (ho : σ[i]? = some (some (.ref d))) (hl : l.length ≤ 100000)
    (hstep : ∀ w : V, wipe ((wipe σ vs).set j (some w)) vs = wipe σ vs ∧ ((wipe σ vs).set j (some w))[j]? = some (some w)) : EvN (tLockE (tLc (iKeys (tVar i)) (gName j) tYes (tVar j) vs)) σ H RK (l.map (·.1)) := fun H1 e Q q => by
  refine ⟨d, _, e _ _ hd, trivial, fun od => ?_⟩
  refine ⟨_, ho, d, od, rfl, .inr ⟨_, upd_same, ?_⟩⟩
  intro Dn hDn
  have hDd : Dn ≠ d := fun z => by rw [z, upd_same] at hDn; cases hDn
  refine lc_it (Qd := fun H3 => H3 d = some (.frz od (.dT (l.map trT))) ∧ Q (.ref Dn) (upd H3 d (.dT (l.map trT)))) (walk_keysT (d := d) (o := od) (kvs := l.map trT)) (fun i H3 => Same (upd H1 d (.frz od (.dT (l.map trT)))) H3 ∧ ∃ xs, H3 Dn = some (.lst xs) ∧ Paired (RK H3) xs ((l.map (·.1)).take i)) ⟨same_new hDn, [], upd_same, by rw [List.take_zero]; exact .nil⟩ (fun i H3 hi p => p.1 _ _ upd_same) ?_ ?_
  · rintro i x H3 H4 hi ⟨p1, xs, p2, p3⟩ ⟨rfl, kk, v, qa, hkv, rfl, hqa⟩
    rw [List.getElem?_map] at hkv
    cases hg : l[i]? with
    | none => rw [hg] at hkv; cases hkv
    | some z =>
      rw [hg] at hkv
      cases hkv
      obtain ⟨h1, h2⟩ := hstep (.ref qa)
      refine ⟨h1, ?_⟩
      have tk : ∀ b ys, H4 b = some (.tup ys) → (upd H4 Dn (.lst (xs ++ [.ref qa]))) b = some (.tup ys) := fun b ys hb => by
        rw [upd_ne (ne_of hb p2 (by intro z; cases z))]
        exact hb
      refine ⟨_, h2, xs, p2, ?_, same_mut p1 hDn, _, upd_same, ?_⟩
      · rw [p3.length, List.length_take, List.length_map]
        exact Nat.lt_of_le_of_lt (Nat.le_trans (Nat.min_le_right _ _) hl) (by decide)
      · rw [List.take_add_one, List.getElem?_map, hg]
        exact pd_app (p3.rgM fun _ _ ⟨b, g1, g2⟩ => ⟨b, g1, tk _ _ g2⟩) (.cons ⟨qa, rfl, tk _ _ hqa⟩ .nil)
  · rintro H3 ⟨p1, xs, p2, p3⟩
    have hfz := p1 _ _ (upd_same (H := H1) (a := d) (o := .frz od (.dT (l.map trT))))
    refine ⟨hfz, ?_⟩
    rw [List.length_map, ← List.length_map (f := (·.1)) (as := l), List.take_length] at p3
    refine q Dn xs _ ?_ (fun b o hb => ?_) (by rw [upd_ne hDd]; exact p2) (p3.rgM fun _ _ ⟨b, g1, g2⟩ => ⟨b, g1, ?_⟩)
    · rw [← hDn, upd_ne hDd]
    · by_cases hbd : b = d
      · subst hbd
        rw [upd_same, ← e _ _ hd]
        exact hb
      · rw [upd_ne hbd]
        exact p1 b o (by rw [upd_ne hbd]; exact hb)
    · rw [upd_ne (ne_of g2 hfz (by intro z; cases z))]
      exact g2
/-- sorted(set(keys)) -/
theorem pd_rk {H : Hp} : ∀ {xs : List V} {ds : List (Int × Int)}, Paired (RK H) xs ds → ∃ ks : List (Addr × List Int), xs = ks.map (fun p => V.ref p.1) ∧ ks.map (·.2) = ds.map (fun q => [q.1, q.2]) ∧ ∀ p ∈ ks, H p.1 = some (.tup (p.2.map V.int))
  | _, _, .nil => ⟨[], rfl, rfl, fun _ h => nomatch h⟩
  | _, _, .cons (b := q) ⟨b, e, h⟩ t => by
    obtain ⟨ks, e2, h2, h3⟩ := pd_rk t
    refine ⟨(b, [q.1, q.2]) :: ks, by rw [e, e2]; rfl, by rw [List.map_cons, h2]; rfl, fun p hp => ?_⟩
    rcases List.mem_cons.mp hp with rfl | hp
    · exact h
    · exact h3 p hp
theorem en_sortSet {P : Program} {w : World} {ds : List (Int × Int)} (h : EvN ta σ H RK ds) (hn : ds.Nodup) (hl : ds.length < 64) (hb : ∀ q ∈ ds, 0 ≤ q.1 ∧ q.1 < 64 ∧ 0 ≤ q.2 ∧ q.2 < 64) :
    EvN (tCB (rSortedT K P w) (tCons (tCB (rSetOfT K P w) (tCons ta tNil)) tNil)) σ H RK (sortP ds) := fun H1 e Q q => h H1 e _ fun l xs H2 hl1 e2 hx px => by
  obtain ⟨ks, rfl, hk2, hk3⟩ := pd_rk px
  have hkl : ks.length < 64 := by
    have := congrArg List.length hk2
    rw [List.length_map, List.length_map] at this
    omega
  refine ⟨l, ks, rfl, SqL.of hx, fun p hp => SqT.of (hk3 p hp), hkl, fun a L ha hL1 hL2 => ?_⟩
  have two : ∀ p ∈ ks, ∃ q ∈ ds, p.2 = [q.1, q.2] := fun p hp => by
    have : p.2 ∈ ks.map (·.2) := List.mem_map.mpr ⟨p, hp, rfl⟩
    rw [hk2] at this
    obtain ⟨q, hq, e⟩ := List.mem_map.mp this
    exact ⟨q, hq, e.symm⟩
  have up : ∀ p ∈ ks, (upd H2 a (SetTO P w a L)) p.1 = some (.tup (p.2.map V.int)) := fun p hp => by
    rw [upd_ne (ne_of_none (hk3 p hp) ha)]
    exact hk3 p hp
  refine ⟨a, L, 2, 64, rfl, upd_same, fun p hp => SqT.of (up p (hL1 p hp)), by decide, fun p hp => ?_, fun L' p' hperm hnd hlen hpw hp' => ?_⟩
  · obtain ⟨q, hq, e⟩ := two p (hL1 p hp)
    have := hb q hq
    rw [e]
    exact ⟨rfl, fun m hm => by
      rcases List.mem_cons.mp hm with rfl | hm
      · exact ⟨this.1, this.2.1⟩
      · have := List.mem_singleton.mp hm
        subst this
        omega⟩
  · -- the sorted list's pairs
    have hL' : ∀ p ∈ L', p ∈ ks := fun p hp => hL1 p (hperm.mem_iff.mp hp)
    have key : L'.map (fun p => (getZ p.2 0, getZ p.2 1)) = sortP ds := by
      refine sortP_is (fun q hq => by have := hb q hq; omega) ?_ ?_
      · refine (List.perm_ext_iff_of_nodup ?_ hn).mpr fun q => ?_
        · have hnd' : (L'.map (·.2)).Nodup := hnd
          rw [List.nodup_iff_pairwise_ne, List.pairwise_map] at hnd' ⊢
          refine List.Pairwise.imp_of_mem (fun {x y} hx hy hne e => hne ?_) hnd'
          obtain ⟨q1, _, e1⟩ := two x (hL' x hx)
          obtain ⟨q2, _, e2⟩ := two y (hL' y hy)
          rw [e1, e2] at e ⊢
          have a1 : q1.1 = q2.1 := congrArg Prod.fst e
          have a2 : q1.2 = q2.2 := congrArg Prod.snd e
          rw [a1, a2]
        · constructor
          · intro hq
            obtain ⟨p, hp, rfl⟩ := List.mem_map.mp hq
            obtain ⟨q1, h1, e1⟩ := two p (hL' p hp)
            rw [e1]
            exact h1
          · intro hq
            have : [q.1, q.2] ∈ ks.map (·.2) := by rw [hk2]; exact List.mem_map.mpr ⟨q, hq, rfl⟩
            obtain ⟨p, hp, ep⟩ := List.mem_map.mp this
            obtain ⟨p2, hp2, e2'⟩ := List.mem_map.mp (hL2 p hp)
            refine List.mem_map.mpr ⟨p2, hperm.mem_iff.mpr hp2, ?_⟩
            rw [e2', ep]
            rfl
      · rw [List.pairwise_map]
        refine List.Pairwise.imp_of_mem (fun {x y} hx hy hxy => ?_) hpw
        obtain ⟨q1, _, e1⟩ := two x (hL' x hx)
        obtain ⟨q2, _, e2⟩ := two y (hL' y hy)
        rw [e1, e2, code_pair, code_pair] at hxy
        rw [e1, e2]
        exact hxy
    have s3 : Same H2 (upd H2 a (SetTO P w a L)) := same_new ha
    have pdl : ∀ (M : List (Addr × List Int)), (∀ p ∈ M, p ∈ ks) → Paired (RK (upd (upd H2 a (SetTO P w a L)) p' (.lst (L'.map fun q => V.ref q.1)))) (M.map fun q => V.ref q.1) (M.map fun p => (getZ p.2 0, getZ p.2 1)) := by
      intro M
      induction M with
      | nil => intro _; exact .nil
      | cons p M ih =>
        intro hM
        have hpk := hM p List.mem_cons_self
        refine .cons ⟨p.1, rfl, ?_⟩ (ih fun x hx => hM x (List.mem_cons_of_mem _ hx))
        rw [upd_ne (ne_of_none (up p hpk) hp'), up p hpk]
        obtain ⟨q1, _, e1⟩ := two p hpk
        show some (HO.tup (p.2.map V.int)) = some (HO.tup [V.int (getZ p.2 0), V.int (getZ p.2 1)])
        rw [e1]
        rfl
    have := pdl L' hL'
    rw [key] at this
    exact q p' _ _ (same_free (e2.trans s3) hp') ((e2.trans s3).trans (same_new hp')) upd_same this
/-- a + (c,), the key as it stands -/
theorem ev_catK {q : Int × Int} {c : Int} {w : V} {j : Nat} (hj : σ[j]? = some (some w)) (hw : RK H w q) (hb : Ev tb σ H (RT K RI) [c]) : Ev (tOp (rCatA K) (tVar j) tb) σ H (RTrip K) (q.1, q.2, c) := ev_cat21 (R := RI) (S := RI) (T := RI) (d := q) (ev_var (R := RPair K) hj hw.p) hb
end
end Rg
end
section
set_option Elab.async false
set_option linter.all false
set_option maxRecDepth 100000
set_option maxHeartbeats 4000000
open PySem PySem.Spec PyProof.Rows L2 RZ Rg
local macro_rules | `(tactic| walk_at "ev1") => `(tactic| first
  | exact ev_isTupT (ev_p1 (ev_var rfl (by assumption)))
  | exact ev_lenT (ev_p1 (ev_var rfl (by assumption)))
  | exact ev_lenT (ev_p0 (ev_var rfl (by assumption)))
  | exact ev_isInt (ev_p0 (ev_var rfl (by assumption)))
  | exact ev_isInt (ev_var rfl rfl)
  | exact ev_isBool (ev_var rfl rfl)
  | exact ev_isTupT (ev_var rfl (by assumption))
  | exact ev_isTupP (ev_var rfl (by assumption))
  | exact ev_isTupQ (ev_var rfl (by assumption))
  | exact ev_lenT (ev_var rfl (by assumption))
  | exact ev_lenP (ev_var rfl (by assumption))
  | exact ev_lenQ (ev_var rfl (by assumption))
  | exact ev_int
  | exact ev_bl
  | exact ev_var rfl rfl
  | exact ev_var rfl (by assumption)
  | exact ea_nil
  | exact ev_p0 (ev_var rfl (by assumption))
  | exact ev_p1 (ev_var rfl (by assumption))
  | exact ev_q0 (ev_var rfl (by assumption))
  | exact ev_q1 (ev_var rfl (by assumption))
  | exact ev_q2 (ev_var rfl (by assumption))
  | apply ea_cons
  | apply ev_call
  | apply ev_add
  | apply ev_sub
  | apply ev_mul
  | apply ev_mod
  | apply ev_fdiv
  | apply ev_lt
  | apply ev_le
  | apply ev_gt
  | apply ev_ge
  | apply ev_eq
  | apply ev_ne
  | apply ev_neg
  | apply ev_p0
  | apply ev_p1
  | apply ev_q0
  | apply ev_q1
  | apply ev_q2
  | apply ev_int1
  | apply ev_notV
  | apply ev_andV
  | apply ev_orV
  | apply et_test
  | apply et_B
  | apply et_and
  | apply et_or
  | apply et_not
  | exact True.intro
  | (with_reducible intro _)
  | (show (_ : Int) < _; assumption))
local macro_rules | `(tactic| walk_at "ev") => `(tactic| repeat' (walk_at "ev1"))

namespace Rg
section
variable {P : Program} {w : World} {K : PySem.W.Frag} {mg : Str → Option Value} {base : Heap}
theorem nx_of {D : Ends} {σ : L2.St} {H : Hp} (h : D.nx σ H) : tNext D σ H := h
theorem ok_law_cell (T : Top K mg) : FnOk P w K mg base CX0 1 (adr mg "_law_cell") (fdat K mg "_law_cell") ["_law_script", "_law_k"] (spF (AC (RL K RI) (AC RI A0)) RI (fun d => 0 ≤ d.2.1) fun d => cellD d.1 d.2.1) := by
  refine fnF T.d_law_cell.F sc_law_cell rfl fun cdv Ar outer s H vs Q d hr hA hp q => ?_
  obtain ⟨ns, k, _⟩ := d
  obtain ⟨v, _, rfl, hv, _, _, rfl, rfl, rfl⟩ := hA
  have hv : RL K RI H v ns := hv
  have hp : 0 ≤ k := hp
  refine ⟨_, (pss_cons (ps_if (pt_cmpR op_lt (pv 1) (pe_callB (r := rLenK K) call_lenK (by rfl) T.n_len (by decide +kernel) (pa_cons (pv 0) pa_nil)) (nomark _))
      (pss_one (ps_ret (pe_ix (r := rIxL K) ix_list (pv 0) (pv 1) (fun _ _ => rfl))))
      pss_nil)
    (pss_one (ps_ret pe_int))), ?_⟩
  refine s_if (b := decide (k < (ns.length : Int))) (et_test (ev_lt (ev_var rfl rfl) (ev_lenL (ev_var (R := RL K RI) rfl hv)))) (fun hb H1 e1 => ?_) fun hb H1 e1 => ?_
  · have hb : k < (ns.length : Int) := of_decide_eq_true hb
    apply s_retE (R := RI) (d := getZ ns k)
    · exact ev_ixL (R := RI) (ev_var (R := RL K RI) rfl (Sm.sm e1 hv)) (ev_var rfl rfl) (atI_getZ hp hb)
    · exact fun z H2 e2 rz => q z H2 (e1.trans e2) rz
    show getZ ns k = if k < (ns.length : Int) then getZ ns k else 0
    rw [if_pos hb]
  · have hb : ¬ k < (ns.length : Int) := of_decide_eq_false hb
    have e : (0 : Int) = cellD ns k := by
      show (0 : Int) = if k < (ns.length : Int) then getZ ns k else 0
      rw [if_neg hb]
    show Q (V.int 0) H1
    exact q _ H1 e1 (show V.int 0 = V.int (cellD ns k) by rw [← e])
theorem ok_law_draw (T : Top K mg) : FnOk P w K mg base CX0 1 (adr mg "_law_draw") (fdat K mg "_law_draw") ["_law_cell_here", "_law_k", "_law_limit"] (spF (AC RI (AC RI (AC RI A0))) RI (fun d => 0 ≤ d.2.1 ∧ d.2.1 ≤ 100000 ∧ 0 < d.2.2.1) fun d => draw d.1 d.2.1 d.2.2.1) := by
  refine fnF T.d_law_draw.F sc_law_draw rfl fun cdv Ar outer s H vs Q d hr hA hp q => ?_
  obtain ⟨c, k, L, _⟩ := d
  obtain ⟨_, _, rfl, rfl, _, _, rfl, rfl, _, _, rfl, rfl, rfl⟩ := hA
  obtain ⟨hk0, hk1, hL⟩ : 0 ≤ k ∧ k ≤ 100000 ∧ 0 < L := hp
  refine ⟨_, (pss_cons (ps_if (PW.pt (pw_and (pt_cmpR op_ge (pv 0) (pe_op op_pow pe_int pe_int) (nomark _)) (pw_and1 (pt_cmpR op_gt (pe_op op_shr (pv 0) (pe_op op_mul pe_int (pv 1))) pe_int (nomark _)))))
      (pss_one (ps_ret (pe_op op_mod (pe_op op_mod (pe_callTy call_int1 (by rfl) T.n_int (by decide +kernel) (pa_cons (pe_op op_shr (pv 0) (pe_op op_mul pe_int (pv 1))) pa_nil)) pe_int) (pv 2))))
      pss_nil)
    (pss_cons (ps_set (i := 3) sc_law_draw.nd rfl (.inl rfl) (pe_op op_mod (pe_callTy call_int1 (by rfl) T.n_int (by decide +kernel) (pa_cons (pe_op op_add (pe_op op_add (pe_op op_mul (pv 0) pe_int) (pe_op op_mul (pe_op op_mul pe_int (pv 1)) (pv 1))) pe_int) pa_nil)) pe_int))
    (pss_cons (ps_set (i := 4) sc_law_draw.nd rfl (.inl rfl) (pe_op op_mod (pe_callTy call_int1 (by rfl) T.n_int (by decide +kernel) (pa_cons (pe_op op_add (pe_op op_mul (pv 3) (pv 3)) (pe_op op_mul pe_int (pv 1))) pa_nil)) pe_int))
    (pss_cons (ps_set (i := 5) sc_law_draw.nd rfl (.inl rfl) (pe_op op_mod (pe_callTy call_int1 (by rfl) T.n_int (by decide +kernel) (pa_cons (pe_op op_add (pe_op op_mul (pv 4) (pv 4)) (pv 3)) pa_nil)) pe_int))
    (pss_cons (ps_set (i := 6) sc_law_draw.nd rfl (.inl rfl) (pe_op op_mod (pe_callTy call_int1 (by rfl) T.n_int (by decide +kernel) (pa_cons (pe_op op_add (pe_op op_mul (pv 5) (pv 5)) (pv 4)) pa_nil)) pe_int))
    (pss_one (ps_ret (pe_op op_mod (pe_callTy call_int1 (by rfl) T.n_int (by decide +kernel) (pa_cons (pe_op op_fdiv (pv 6) pe_int) pa_nil)) (pv 2))))))))), ?_⟩
  refine s_if (b := decide ((10 : Int) ^ (18 : Int).toNat ≤ c) && decide (0 < c / 2 ^ (14 * k).toNat)) (et_and (et_test (ev_ge (ev_var rfl rfl) (ev_pow ev_int ev_int ⟨by decide, by decide, by decide⟩))) fun _ => et_test (ev_gt (ev_shr (ev_var rfl rfl) (ev_mul ev_int (ev_var rfl rfl) (.inl ⟨by decide, by decide⟩)) (show 0 ≤ 14 * k by omega)) ev_int)) (fun hb H1 e1 => ?_) fun hb H1 e1 => ?_
  · refine s_retE (ev_mod (ev_mod (ev_int1 (ev_shr (ev_var rfl rfl) (ev_mul ev_int (ev_var rfl rfl) (.inl ⟨by decide, by decide⟩)) (show 0 ≤ 14 * k by omega))) ev_int (by decide)) (ev_var rfl rfl) hL) (fun z H2 e2 rz => q z H2 (e1.trans e2) rz) ?_
    show _ = if _ then _ else _
    rw [if_pos hb]
  · have b0 : 0 ≤ sd c k ∧ sd c k < 1000000007 := modp (by decide) _
    have b1 : 0 ≤ sd1 c k ∧ sd1 c k < 2147483629 := modp (by decide) _
    have b2 : 0 ≤ sd2 c k ∧ sd2 c k < 2147483587 := modp (by decide) _
    refine s_setE (d' := sd c k) (ev_mod (ev_int1 (ev_add (ev_add (ev_mul (ev_var rfl rfl) ev_int (.inr ⟨by decide, by decide⟩)) (ev_mul (ev_mul ev_int (ev_var rfl rfl) (.inl ⟨by decide, by decide⟩)) (ev_var rfl rfl) (.inr ⟨by omega, by omega⟩))) ev_int)) ev_int (by decide)) rfl fun _ H2 e2 r2 => ?_
    cases r2
    refine s_setE (d' := sd1 c k) (ev_mod (ev_int1 (ev_add (ev_mul (ev_var rfl rfl) (ev_var rfl rfl) (.inl ⟨by omega, by omega⟩)) (ev_mul ev_int (ev_var rfl rfl) (.inl ⟨by decide, by decide⟩)))) ev_int (by decide)) rfl fun _ H3 e3 r3 => ?_
    cases r3
    refine s_setE (d' := sd2 c k) (ev_mod (ev_int1 (ev_add (ev_mul (ev_var rfl rfl) (ev_var rfl rfl) (.inl ⟨by omega, by omega⟩)) (ev_var rfl rfl))) ev_int (by decide)) rfl fun _ H4 e4 r4 => ?_
    cases r4
    refine s_setE (d' := sd3 c k) (ev_mod (ev_int1 (ev_add (ev_mul (ev_var rfl rfl) (ev_var rfl rfl) (.inl ⟨by omega, by omega⟩)) (ev_var rfl rfl))) ev_int (by decide)) rfl fun _ H5 e5 r5 => ?_
    cases r5
    refine s_retE (ev_mod (ev_int1 (ev_fdiv (ev_var rfl rfl) ev_int ⟨by decide, by decide⟩)) (ev_var rfl rfl) hL) (fun z H6 e6 rz => q z H6 (e1.trans (e2.trans (e3.trans (e4.trans (e5.trans e6))))) rz) ?_
    show _ = if _ then _ else _
    rw [if_neg (by rw [hb]; decide)]
theorem ev_draw {σ : L2.St} {H : Hp} {tc tk tL : TE} {c k L : Int} (hc : Ev tc σ H RI c) (hk : Ev tk σ H RI k) (hL : Ev tL σ H RI L) (h0 : 0 ≤ k) (h1 : k ≤ 100000) (h2 : 0 < L) :
    Ev (tCall (spF (AC RI (AC RI (AC RI A0))) RI (fun d => 0 ≤ d.2.1 ∧ d.2.1 ≤ 100000 ∧ 0 < d.2.2.1) fun d => draw d.1 d.2.1 d.2.2.1) [] E0 (tCons tc (tCons tk (tCons tL tNil)))) σ H RI (draw c k L) := Ev.is (ev_call (ea_cons hc (ea_cons hk (ea_cons hL ea_nil))) ⟨h0, h1, h2⟩) rfl
theorem ok_law_base (T : Top K mg) : FnOk P w K mg base CX0 2 (adr mg "_law_base") (fdat K mg "_law_base") ["_law_cell_here"] (spF (AC RI A0) RI (fun _ => True) fun d => baseD d.1) := by
  refine fnF T.d_law_base.F sc_law_base rfl fun cdv Ar outer s H vs Q d hr hA hp q => ?_
  obtain ⟨c, _⟩ := d
  obtain ⟨_, _, rfl, rfl, rfl⟩ := hA
  have hd := draw_ge c 0 (L := 3) (by decide)
  refine ⟨_, (pss_one (ps_ret (pe_ix (r := rIxL K) ix_list (pe_lst (pa_cons pe_int (pa_cons pe_int (pa_cons pe_int pa_nil)))) (pe_def T.d_law_draw (ok_law_draw T) (b_law_draw T) (hr.mono (by decide)) (by rfl) (pa_cons (pv 0) (pa_cons pe_int (pa_cons pe_int pa_nil)))) (fun _ _ => rfl)))), ?_⟩
  exact s_retE (ev_ixL (R := RI) (ds := [2, 3, 5]) (en_lst (R := RI) (es_cons ev_int (es_cons ev_int (es_cons ev_int es_nil))) (by decide)).l (ev_draw (c := c) (ev_var rfl rfl) ev_int ev_int (by decide) (by decide) (by decide)) (atI_getZ hd.1 (by show _ < (3 : Int); omega))) q rfl
theorem ok_law_rule (T : Top K mg) : FnOk P w K mg base CX0 2 (adr mg "_law_rule") (fdat K mg "_law_rule") ["_law_cell_here", "_law_k", "_law_base_here", "_law_top"] (spF (AC RI (AC RI (AC RI (AC RI A0)))) (RPic K) (fun d => 0 ≤ d.2.1 ∧ d.2.1 ≤ 5000 ∧ Pr d.2.2.1 ∧ 1 ≤ d.2.2.2.1 ∧ d.2.2.2.1 ≤ 100) fun d => ruleD d.1 d.2.1 d.2.2.1 d.2.2.2.1) := by
  refine fnF T.d_law_rule.F sc_law_rule rfl fun cdv Ar outer s H vs Q d hr hA hp q => ?_
  obtain ⟨c, k, p, top, _⟩ := d
  obtain ⟨_, _, rfl, rfl, _, _, rfl, rfl, _, _, rfl, rfl, _, _, rfl, rfl, rfl⟩ := hA
  obtain ⟨hk0, hk1, hP, ht0, ht1⟩ : 0 ≤ k ∧ k ≤ 5000 ∧ Pr p ∧ 1 ≤ top ∧ top ≤ 100 := hp
  have p2 := hP.two
  have hd := draw_ge c k (L := top) (by omega)
  refine ⟨_, (pss_cons (ps_set (i := 4) sc_law_rule.nd rfl (.inl rfl) (pe_lst (pa_cons (pe_un un_neg pe_int) (pa_cons (pe_un un_neg pe_int) (pa_cons (pe_un un_neg pe_int) (pa_cons (pe_un un_neg pe_int) (pa_cons pe_int (pa_cons pe_int (pa_cons pe_int (pa_cons pe_int (pa_cons pe_int pa_nil)))))))))))
    (pss_cons (ps_set (i := 5) sc_law_rule.nd rfl (.inr rfl) pe_dnewK)
    (pss_cons (ps_for PassesOwn.never rfl (pi_range1 (by rfl) T.n_range (pa_cons (pe_op op_add pe_int (pe_def T.d_law_draw (ok_law_draw T) (b_law_draw T) (hr.mono (by decide)) (by rfl) (pa_cons (pv 0) (pa_cons (pv 1) (pa_cons (pv 3) pa_nil))))) pa_nil)) (pg_name (i := 6) sc_law_rule.nd rfl (.inl rfl))
      (pss_cons (ps_set (i := 7) sc_law_rule.nd rfl (.inl rfl) (pe_ix (r := rIxL K) ix_list (pv 4) (pe_def T.d_law_draw (ok_law_draw T) (b_law_draw T) (hr.mono (by decide)) (by rfl) (pa_cons (pv 0) (pa_cons (pe_op op_add (pe_op op_add (pv 1) (pe_op op_mul pe_int (pv 6))) pe_int) (pa_cons pe_int pa_nil)))) (fun _ _ => rfl)))
      (pss_one (ps_dput (hu_of hr) (pv 5) (pv 7) (pe_op op_add pe_int (pe_def T.d_law_draw (ok_law_draw T) (b_law_draw T) (hr.mono (by decide)) (by rfl) (pa_cons (pv 0) (pa_cons (pe_op op_add (pe_op op_add (pv 1) (pe_op op_mul pe_int (pv 6))) pe_int) (pa_cons (pe_op op_sub (pv 2) pe_int) pa_nil))))) rfl))))
    (pss_one (ps_ret (pe_callTy call_tuple_of (by rfl) T.n_tuple (by decide +kernel) (pa_cons (pe_lc (own := [("_law_at", 7)]) (g := (gName 7)) rfl sc_law_rule.nd (pi_list (pv 4)) (blkOk_by (N := N_law_rule) (sc := defScope s_law_rule) (by decide +kernel)) (fun _ _ _ _ _ => (pg_name (i := 7) sc_law_rule.nd rfl (.inl rfl))) (fun _ _ _ _ _ => pts_one (pt_cmp (pc_din (hu_of hr) (pv 7) (pv 5)))) (fun _ _ _ _ _ => (pe_tup (pa_cons (pv 7) (pa_cons (pe_dget (hu_of hr) (pv 5) (pv 7) (fun _ _ => rfl)) pa_nil))))) pa_nil))))))), ?_⟩
  refine s_setZ (ns := offs) (en_lst (R := RI) (es_cons (ev_neg ev_int) (es_cons (ev_neg ev_int) (es_cons (ev_neg ev_int) (es_cons (ev_neg ev_int) (es_cons ev_int (es_cons ev_int (es_cons ev_int (es_cons ev_int (es_cons ev_int es_nil))))))))) (by decide)) fun lo H1 n1 e1 hlo => ?_
  refine s_setD evd_new fun dd H2 n2 e2 hdd => ?_
  have z2 : H dd = none := same_free e1 n2
  have hlo2 := e2 _ _ hlo
  refine s_for (src_r1 (n := 1 + draw c k top) (ev_add ev_int (ev_draw (ev_var rfl rfl) (ev_var rfl rfl) (ev_var rfl rfl) hk0 (by omega) (by omega))) (by omega) (by omega)) Tk.refl fun H3 e3 => ⟨fun i σ' H' => ∃ l y6 y7, l = ((ir (1 + draw c k top).toNat).take i).foldl (ruleIn1 c k p) [] ∧ σ' = [some (.int c), some (.int k), some (.int p), some (.int top), some (.ref lo), some (.ref dd), y6, y7] ∧ Same H H' ∧ H' lo = some (.lst (offs.map V.int)) ∧ H' dd = some (.dK (l.map tr)) ∧ l.length ≤ i,
    ⟨[], _, _, rfl, rfl, (e1.trans e2).trans e3, e3 _ _ hlo2, e3 _ _ hdd, Nat.zero_le _⟩, ?_, ?_⟩
  · rintro i j x σ' H4 H5 hj g4 ⟨l, y6, y7, hl, rfl, s4, o4, d4, n4⟩ e5 rx
    cases rx
    have hjm := mem_ir (List.mem_of_getElem? hj)
    have hi : i < 1000 := by
      have := (List.getElem?_eq_some_iff.mp hj).1
      rw [ir_len] at this
      omega
    have hne : lo ≠ dd := fun z => by rw [z, d4] at o4; cases o4
    have hd9 := draw_ge c (k + 2 * j + 1) (L := 9) (by decide)
    refine s_setE (R := RI) (d' := ruleAt c k j) (ev_ixL (R := RI) (ds := offs) (ev_var (R := RL K RI) rfl (rl_int (e5 _ _ o4))) (ev_draw (ev_var rfl rfl) (ev_add (ev_add (ev_var rfl rfl) (ev_mul ev_int (ev_var rfl rfl) (.inl ⟨by decide, by decide⟩))) ev_int) ev_int (by omega) (by omega) (by decide)) (atI_getZ hd9.1 (by show _ < (9 : Int); omega))) rfl fun _ H6 e6 r6 => ?_
    cases r6
    have d6 := e6 _ _ (e5 _ _ d4)
    refine e_dput (l := l) (k := ruleAt c k j) (v := 1 + draw c (k + 2 * j + 2) (p - 1)) d6 (ev_add ev_int (ev_draw (ev_var rfl rfl) (ev_add (ev_add (ev_var rfl rfl) (ev_mul ev_int (ev_var rfl rfl) (.inl ⟨by decide, by decide⟩))) ev_int) (ev_sub (ev_var rfl rfl) ev_int) (by omega) (by omega) (by omega))) rfl (ev_var rfl rfl) (by omega) fun H7 e7 => ?_
    have e57 := e5.trans (e6.trans e7)
    refine ⟨(g4.trans (Tk.of e57)).upd (noT_dK (e3 _ _ hdd)), ruleIn1 c k p l j, _, _, ?_, rfl, same_mut (s4.trans e57) z2, by rw [upd_ne hne]; exact e57 _ _ o4, upd_same, Nat.le_trans (put_len _ _ _) (by omega)⟩
    rw [List.take_add_one, hj, List.foldl_append, ← hl]
    rfl
  · rintro σ' H4 g4 ⟨l, y6, y7, hl, rfl, s4, o4, d4, n4⟩
    have hl2 : l = ruleDict c k p top := by
      rw [hl, List.take_length]
      rfl
    refine s_retE (d := ruleOf l) (ev_tupL (en_lc1 (S := RPair K) (fun a => (lookA l a).isSome) (fun a => (a, getA l a)) (src_list (ev_var (R := RL K RI) rfl (rl_int o4))) (by show 9 ≤ 100000; omega) fun a u H' ha e ru => ?_).l) (fun z H5 e5 rz => q z H5 (s4.trans e5) rz) (by rw [hl2]; rfl)
    cases ru
    refine ⟨rfl, et_din (e _ _ d4) rfl (ev_var rfl rfl), fun hs => ev_tup2 (ev_var rfl rfl) (ev_dget (e _ _ d4) rfl (ev_var rfl rfl) ?_)⟩
    obtain ⟨x, hx⟩ := Option.isSome_iff_exists.mp hs
    exact List.mem_map.mpr ⟨_, look_mem hx, rfl⟩
theorem ok_law_pack (T : Top K mg) : FnOk P w K mg base CX0 3 (adr mg "_law_pack") (fdat K mg "_law_pack") ["_law_cell_here", "_law_base_here", "_law_top"] (spF (AC RI (AC RI (AC RI A0))) (RPanel K) (fun d => Pr d.2.1 ∧ 1 ≤ d.2.2.1 ∧ d.2.2.1 ≤ 5) fun d => packD d.1 d.2.1 d.2.2.1) := by
  refine fnF T.d_law_pack.F sc_law_pack rfl fun cdv Ar outer s H vs Q d hr hA hp q => ?_
  obtain ⟨c, p, top, _⟩ := d
  obtain ⟨_, _, rfl, rfl, _, _, rfl, rfl, _, _, rfl, rfl, rfl⟩ := hA
  obtain ⟨hP, ht0, ht1⟩ : Pr p ∧ 1 ≤ top ∧ top ≤ 5 := hp
  have hd := draw_ge c 1 (L := top) (by omega)
  have hd2 := draw_ge c 399 (L := 2) (by decide)
  have hpr := pairs_ge c
  refine ⟨_, (pss_cons (ps_set (i := 3) sc_law_pack.nd rfl (.inl rfl) (pe_op op_add pe_int (pe_def T.d_law_draw (ok_law_draw T) (b_law_draw T) (hr.mono (by decide)) (by rfl) (pa_cons (pv 0) (pa_cons pe_int (pa_cons (pv 2) pa_nil))))))
    (pss_cons (ps_set (i := 4) sc_law_pack.nd rfl (.inr rfl) (pe_ix (r := rIxL K) ix_list (pe_lst (pa_cons pe_int (pa_cons pe_int pa_nil))) (pe_def T.d_law_draw (ok_law_draw T) (b_law_draw T) (hr.mono (by decide)) (by rfl) (pa_cons (pv 0) (pa_cons pe_int (pa_cons pe_int pa_nil)))) (fun _ _ => rfl)))
    (pss_one (ps_ret (pe_tup (pa_cons (pv 1) (pa_cons (pe_callTy call_tuple_of (by rfl) T.n_tuple (by decide +kernel) (pa_cons (pe_lc (own := [("_law_k", 5)]) (g := (gName 5)) rfl sc_law_pack.nd (pi_range1 (by rfl) T.n_range (pa_cons (pv 3) pa_nil)) (blkOk_by (N := N_law_pack) (sc := defScope s_law_pack) (by decide +kernel)) (fun _ _ _ _ _ => (pg_name (i := 5) sc_law_pack.nd rfl (.inl rfl))) (fun _ _ _ _ _ => pts_nil) (fun _ _ _ _ _ => (pe_def T.d_law_rule (ok_law_rule T) (b_law_rule T) (hr.mono (by decide)) (by rfl) (pa_cons (pv 0) (pa_cons (pe_op op_add pe_int (pe_op op_mul pe_int (pv 5))) (pa_cons (pv 1) (pa_cons (pv 4) pa_nil))))))) pa_nil)) pa_nil))))))), ?_⟩
  refine s_setE (R := RI) (d' := 1 + draw c 1 top) (ev_add ev_int (ev_draw (c := c) (L := top) (ev_var rfl rfl) ev_int (ev_var rfl rfl) (by decide) (by decide) (by omega))) rfl fun _ H1 e1 r1 => ?_
  cases r1
  refine s_setE (R := RI) (d' := pairsD c) (ev_ixL (R := RI) (ds := [4, 9]) (en_lst (R := RI) (es_cons ev_int (es_cons ev_int es_nil)) (by decide)).l (ev_draw (c := c) (ev_var rfl rfl) ev_int ev_int (by decide) (by decide) (by decide)) (atI_getZ hd2.1 (by show _ < (2 : Int); omega))) rfl fun _ H2 e2 r2 => ?_
  cases r2
  refine s_retE (d := packD c p top) (ev_tup2 (R := RI) (S := RT K (RPic K)) (a := p) (b := (packD c p top).2) (ev_var rfl rfl) (ev_tupL (en_lm1 (S := RPic K) (fun k => ruleD c (400 + 20 * k) p (pairsD c)) (src_r1 (ev_var rfl rfl) (by omega) (by omega)).same (by rw [ir_len]; omega) fun k u H' hk e ru => ⟨rfl, ?_⟩).l)) (fun z H3 e3 rz => q z H3 (e1.trans (e2.trans e3)) rz) rfl
  cases ru
  have hkm := mem_ir hk
  exact Ev.is (ev_call (ea_cons (ev_var rfl rfl) (ea_cons (ev_add ev_int (ev_mul ev_int (ev_var rfl rfl) (.inl ⟨by decide, by decide⟩))) (ea_cons (ev_var rfl rfl) (ea_cons (ev_var rfl rfl) ea_nil)))) ⟨by show 0 ≤ 400 + 20 * k; omega, by show 400 + 20 * k ≤ 5000; omega, hP, by show 1 ≤ pairsD c; omega, by show pairsD c ≤ 100; omega⟩) rfl
end
end Rg
end
section
set_option Elab.async false
set_option linter.all false
set_option maxRecDepth 100000
set_option maxHeartbeats 4000000
open PySem PySem.Spec PyProof.Rows L2 RZ Rg
local macro_rules | `(tactic| walk_at "ev1") => `(tactic| first
  | exact ev_isTupT (ev_p1 (ev_var rfl (by assumption)))
  | exact ev_lenT (ev_p1 (ev_var rfl (by assumption)))
  | exact ev_lenT (ev_p0 (ev_var rfl (by assumption)))
  | exact ev_isInt (ev_p0 (ev_var rfl (by assumption)))
  | exact ev_isInt (ev_var rfl rfl)
  | exact ev_isBool (ev_var rfl rfl)
  | exact ev_isTupT (ev_var rfl (by assumption))
  | exact ev_isTupP (ev_var rfl (by assumption))
  | exact ev_isTupQ (ev_var rfl (by assumption))
  | exact ev_lenT (ev_var rfl (by assumption))
  | exact ev_lenP (ev_var rfl (by assumption))
  | exact ev_lenQ (ev_var rfl (by assumption))
  | exact ev_int
  | exact ev_bl
  | exact ev_var rfl rfl
  | exact ev_var rfl (by assumption)
  | exact ea_nil
  | exact ev_p0 (ev_var rfl (by assumption))
  | exact ev_p1 (ev_var rfl (by assumption))
  | exact ev_q0 (ev_var rfl (by assumption))
  | exact ev_q1 (ev_var rfl (by assumption))
  | exact ev_q2 (ev_var rfl (by assumption))
  | apply ea_cons
  | apply ev_call
  | apply ev_add
  | apply ev_sub
  | apply ev_mul
  | apply ev_mod
  | apply ev_fdiv
  | apply ev_lt
  | apply ev_le
  | apply ev_gt
  | apply ev_ge
  | apply ev_eq
  | apply ev_ne
  | apply ev_neg
  | apply ev_p0
  | apply ev_p1
  | apply ev_q0
  | apply ev_q1
  | apply ev_q2
  | apply ev_int1
  | apply ev_notV
  | apply ev_andV
  | apply ev_orV
  | apply et_test
  | apply et_B
  | apply et_and
  | apply et_or
  | apply et_not
  | exact True.intro
  | (with_reducible intro _)
  | (show (_ : Int) < _; assumption))
local macro_rules | `(tactic| walk_at "ev") => `(tactic| repeat' (walk_at "ev1"))

namespace Rg
section
variable {P : Program} {w : World} {K : PySem.W.Frag} {mg : Str → Option Value} {base : Heap}
theorem key_ne {l : List (Int × Int)} {k : Int} (h : getA l k ≠ 0) : k ∈ l.map (·.1) := by
  unfold getA at h
  cases e : lookA l k with
  | none => rw [e] at h; exact absurd rfl h
  | some x => exact List.mem_map.mpr ⟨_, look_mem e, rfl⟩
theorem key_mem {l : List (Int × Int)} {k : Int} (h : k ∈ sortI (l.map (·.1))) : k ∈ l.map (·.1) := (sortI_perm _).mem_iff.mp h
theorem dv_len {lo p w : Int} {l : List (Int × Int)} (h : DictV lo p w l) : l.length ≤ w.toNat := by
  have := keys_small (w := w) h.1 fun k hk => by
    obtain ⟨q, hq, rfl⟩ := List.mem_map.mp hk
    have := h.2 q hq
    exact ⟨this.1, this.2.1⟩
  rwa [List.length_map] at this
theorem ok_law_shape (T : Top K mg) : FnOk P w K mg base CX0 2 (adr mg "_law_shape") (fdat K mg "_law_shape") ["_law_cell_here", "_law_k", "_law_base_here", "_law_wide", "_law_top"] (spF (AC RI (AC RI (AC RI (AC RI (AC RI A0))))) (RPic K) (fun d => 0 ≤ d.2.1 ∧ d.2.1 ≤ 5000 ∧ Pr d.2.2.1 ∧ 1 ≤ d.2.2.2.1 ∧ d.2.2.2.1 ≤ 1000 ∧ 0 ≤ d.2.2.2.2.1 ∧ d.2.2.2.2.1 ≤ 900) fun d => shapeD d.1 d.2.1 d.2.2.1 d.2.2.2.1 d.2.2.2.2.1) := by
  refine fnF T.d_law_shape.F sc_law_shape rfl fun cdv Ar outer s H vs Q d hr hA hp q => ?_
  obtain ⟨c, k, p, w, top, _⟩ := d
  obtain ⟨_, _, rfl, rfl, _, _, rfl, rfl, _, _, rfl, rfl, _, _, rfl, rfl, _, _, rfl, rfl, rfl⟩ := hA
  obtain ⟨hk0, hk1, hP, hw0, hw1, ht0, ht1⟩ : 0 ≤ k ∧ k ≤ 5000 ∧ Pr p ∧ 1 ≤ w ∧ w ≤ 1000 ∧ 0 ≤ top ∧ top ≤ 900 := hp
  have p2 := hP.two
  have hd := draw_ge c k (L := top + 1) (by omega)
  refine ⟨_, (pss_cons (ps_set (i := 5) sc_law_shape.nd rfl (.inr rfl) pe_dnewK)
    (pss_cons (ps_for PassesOwn.never rfl (pi_range1 (by rfl) T.n_range (pa_cons (pe_def T.d_law_draw (ok_law_draw T) (b_law_draw T) (hr.mono (by decide)) (by rfl) (pa_cons (pv 0) (pa_cons (pv 1) (pa_cons (pe_op op_add (pv 4) pe_int) pa_nil)))) pa_nil)) (pg_name (i := 6) sc_law_shape.nd rfl (.inl rfl))
      (pss_cons (ps_set (i := 7) sc_law_shape.nd rfl (.inl rfl) (pe_op op_add (pe_op op_mul (pe_def T.d_law_draw (ok_law_draw T) (b_law_draw T) (hr.mono (by decide)) (by rfl) (pa_cons (pv 0) (pa_cons (pe_op op_add (pe_op op_add (pv 1) (pe_op op_mul pe_int (pv 6))) pe_int) (pa_cons pe_int pa_nil)))) (pe_op op_add (pe_op op_fdiv (pv 3) pe_int) pe_int)) (pe_def T.d_law_draw (ok_law_draw T) (b_law_draw T) (hr.mono (by decide)) (by rfl) (pa_cons (pv 0) (pa_cons (pe_op op_add (pe_op op_add (pv 1) (pe_op op_mul pe_int (pv 6))) pe_int) (pa_cons pe_int pa_nil))))))
      (pss_one (ps_dput (hu_of hr) (pv 5) (pe_op op_mod (pe_callTy call_int1 (by rfl) T.n_int (by decide +kernel) (pa_cons (pv 7) pa_nil)) (pv 3)) (pe_op op_add pe_int (pe_def T.d_law_draw (ok_law_draw T) (b_law_draw T) (hr.mono (by decide)) (by rfl) (pa_cons (pv 0) (pa_cons (pe_op op_add (pe_op op_add (pv 1) (pe_op op_mul pe_int (pv 6))) pe_int) (pa_cons (pe_op op_sub (pv 2) pe_int) pa_nil))))) rfl))))
    (pss_one (ps_ret (pe_callTy call_tuple_of (by rfl) T.n_tuple (by decide +kernel) (pa_cons (pe_lc (own := [("_law_place", 7)]) (g := (gName 7)) rfl sc_law_shape.nd (pi_list (pe_callB cr_sortedI (by rfl) T.n_sorted (by decide +kernel) (pa_cons (pe_lock (pe_lc (own := [("_law_place", 7)]) (g := (gName 7)) rfl sc_law_shape.nd (pi_keys (pv 5)) (blkOk_by (N := N_law_shape) (sc := defScope s_law_shape) (by decide +kernel)) (fun _ _ _ _ _ => (pg_name (i := 7) sc_law_shape.nd rfl (.inl rfl))) (fun _ _ _ _ _ => pts_nil) (fun _ _ _ _ _ => (pe_callTy call_int1 (by rfl) T.n_int (by decide +kernel) (pa_cons (pv 7) pa_nil))))) pa_nil))) (blkOk_by (N := N_law_shape) (sc := defScope s_law_shape) (by decide +kernel)) (fun _ _ _ _ _ => (pg_name (i := 7) sc_law_shape.nd rfl (.inl rfl))) (fun _ _ _ _ _ => pts_nil) (fun _ _ _ _ _ => (pe_tup (pa_cons (pv 7) (pa_cons (pe_dget (hu_of hr) (pv 5) (pv 7) (fun _ _ => rfl)) pa_nil))))) pa_nil)))))), ?_⟩
  refine s_setD evd_new fun dd H2 n2 e2 hdd => ?_
  refine s_for (src_r1 (n := draw c k (top + 1)) (ev_draw (ev_var rfl rfl) (ev_var rfl rfl) (ev_add (ev_var rfl rfl) ev_int) hk0 (by omega) (by omega)) (by omega) (by omega)) Tk.refl fun H3 e3 => ⟨fun i σ' H' => ∃ l y6 y7, l = ((ir (draw c k (top + 1)).toNat).take i).foldl (shapeIn c k p w) [] ∧ σ' = [some (.int c), some (.int k), some (.int p), some (.int w), some (.int top), some (.ref dd), y6, y7] ∧ Same H H' ∧ H' dd = some (.dK (l.map tr)) ∧ l.length ≤ i,
    ⟨[], _, _, rfl, rfl, e2.trans e3, e3 _ _ hdd, Nat.zero_le _⟩, ?_, ?_⟩
  · rintro i j x σ' H4 H5 hj g4 ⟨l, y6, y7, hl, rfl, s4, d4, n4⟩ e5 rx
    cases rx
    have hjm := mem_ir (List.mem_of_getElem? hj)
    have hi : i < 1000 := by
      have := (List.getElem?_eq_some_iff.mp hj).1
      rw [ir_len] at this
      omega
    have hw16 : w / 16384 = 0 := Int.ediv_eq_zero_of_lt (by omega) (by omega)
    refine s_setE (R := RI) (d' := shapePlace c k w j) (ev_add (ev_mul (ev_draw (ev_var rfl rfl) (ev_add (ev_add (ev_var rfl rfl) (ev_mul ev_int (ev_var rfl rfl) (.inl ⟨by decide, by decide⟩))) ev_int) ev_int (by omega) (by omega) (by decide)) (ev_add (ev_fdiv (ev_var rfl rfl) ev_int ⟨by decide, by decide⟩) ev_int) (cmul_r (by rw [hw16]; decide) (by rw [hw16]; decide))) (ev_draw (ev_var rfl rfl) (ev_add (ev_add (ev_var rfl rfl) (ev_mul ev_int (ev_var rfl rfl) (.inl ⟨by decide, by decide⟩))) ev_int) ev_int (by omega) (by omega) (by decide))) rfl fun _ H6 e6 r6 => ?_
    cases r6
    have d6 := e6 _ _ (e5 _ _ d4)
    refine e_dput (l := l) (k := shapePlace c k w j % w) (v := 1 + draw c (k + 2 * j + 2) (p - 1)) d6 (ev_add ev_int (ev_draw (ev_var rfl rfl) (ev_add (ev_add (ev_var rfl rfl) (ev_mul ev_int (ev_var rfl rfl) (.inl ⟨by decide, by decide⟩))) ev_int) (ev_sub (ev_var rfl rfl) ev_int) (by omega) (by omega) (by omega))) rfl (ev_mod (ev_int1 (ev_var rfl rfl)) (ev_var rfl rfl) (by omega)) (by omega) fun H7 e7 => ?_
    have e57 := e5.trans (e6.trans e7)
    refine ⟨(g4.trans (Tk.of e57)).upd (noT_dK (e3 _ _ hdd)), shapeIn c k p w l j, _, _, ?_, rfl, same_mut (s4.trans e57) n2, upd_same, Nat.le_trans (put_len _ _ _) (by omega)⟩
    rw [List.take_add_one, hj, List.foldl_append, ← hl]
    rfl
  · rintro σ' H4 g4 ⟨l, y6, y7, hl, rfl, s4, d4, n4⟩
    have hl2 : l = shapeDict c k p w top := by
      rw [hl, List.take_length]
      rfl
    rw [ir_len] at n4
    refine s_retE (d := dpic l) (ev_tupL (en_lm1 (S := RPair K) (fun a => (a, getA l a)) (src_list (en_sortI (en_keys d4 rfl (by omega) fun k H' => ⟨rfl, ev_int1 (ev_var rfl rfl)⟩).l).l) (by rw [sortI_len, List.length_map]; omega) fun a u H' ha e ru => ?_).l) (fun z H5 e5 rz => q z H5 (s4.trans e5) rz) (by rw [hl2]; rfl)
    cases ru
    exact ⟨rfl, ev_tup2 (ev_var rfl rfl) (ev_dget (e _ _ d4) rfl (ev_var rfl rfl) (key_mem ha))⟩
/-- a key tuple -/
theorem ev_key {σ : L2.St} {H : Hp} {ta tb : TE} {a b : Int} (ha : Ev ta σ H RI a) (hb : Ev tb σ H RI b) : Ev (tTup (tCons ta (tCons tb tNil))) σ H RK (a, b) := fun H1 e _ q =>
  ha H1 e _ fun v H2 e2 r2 => hb H2 (e.trans e2) _ fun w H3 e3 r3 => ⟨by show 2 ≤ sizeLine; decide, fun p hp => by
    cases r2
    cases r3
    exact q _ _ ((e2.trans e3).trans (same_new hp)) ⟨p, rfl, upd_same⟩⟩
theorem key_var {σ : L2.St} {H : Hp} {j : Nat} {v : V} {k : Int × Int} (ho : σ[j]? = some (some v)) (hv : RK H v k) : ∀ H1, Same H H1 → ∀ Q : VK, (∀ b H2, Same H1 H2 → H2 b = some (.tup [.int k.1, .int k.2]) → Q (.ref b) H2) → tVar j σ H1 Q := fun H1 e Q q => by
  obtain ⟨b, rfl, hb⟩ := hv
  exact ⟨_, ho, q b H1 (Same.refl _) (e _ _ hb)⟩
theorem ok_law_push (T : Top K mg) : FnOk P w K mg base CX0 2 (adr mg "_law_push") (fdat K mg "_law_push") ["_law_cell_here", "_law_k", "_law_pack_here", "_law_wide", "_law_top"] (spF (AC RI (AC RI (AC (RPanel K) (AC RI (AC RI A0))))) (RPush K) (fun d => 0 ≤ d.2.1 ∧ d.2.1 ≤ 5000 ∧ PanelV d.2.2.1 ∧ 1 ≤ d.2.2.2.1 ∧ d.2.2.2.1 ≤ 60 ∧ 0 ≤ d.2.2.2.2.1 ∧ d.2.2.2.2.1 ≤ 60) fun d => pushD d.1 d.2.1 d.2.2.1 d.2.2.2.1 d.2.2.2.2.1) := by
  refine fnF T.d_law_push.F sc_law_push rfl fun cdv Ar outer s H vs Q d hr hA hp q => ?_
  obtain ⟨c, k, Pn, w, top, _⟩ := d
  obtain ⟨_, _, rfl, rfl, _, _, rfl, rfl, v, _, rfl, hv, _, _, rfl, rfl, _, _, rfl, rfl, rfl⟩ := hA
  have hv : RPanel K H v Pn := hv
  obtain ⟨hk0, hk1, hV, hw0, hw1, ht0, ht1⟩ : 0 ≤ k ∧ k ≤ 5000 ∧ PanelV Pn ∧ 1 ≤ w ∧ w ≤ 60 ∧ 0 ≤ top ∧ top ≤ 60 := hp
  have hP := hV.1
  have p2 := hP.two
  have hb0 := List.length_pos_iff.mpr hV.2.2.1
  have hb1 := hV.2.2.2
  have hd := draw_ge c k (L := top + 1) (by omega)
  refine ⟨_, (pss_cons (ps_set (i := 5) sc_law_push.nd rfl (.inr rfl) pe_dnewT)
    (pss_cons (ps_for PassesOwn.never rfl (pi_range1 (by rfl) T.n_range (pa_cons (pe_def T.d_law_draw (ok_law_draw T) (b_law_draw T) (hr.mono (by decide)) (by rfl) (pa_cons (pv 0) (pa_cons (pv 1) (pa_cons (pe_op op_add (pv 4) pe_int) pa_nil)))) pa_nil)) (pg_name (i := 6) sc_law_push.nd rfl (.inl rfl))
      (pss_cons (ps_set (i := 7) sc_law_push.nd rfl (.inl rfl) (pe_op op_add (pe_op op_mul (pe_def T.d_law_draw (ok_law_draw T) (b_law_draw T) (hr.mono (by decide)) (by rfl) (pa_cons (pv 0) (pa_cons (pe_op op_add (pe_op op_add (pv 1) (pe_op op_mul pe_int (pv 6))) pe_int) (pa_cons pe_int pa_nil)))) (pe_op op_add (pe_op op_fdiv (pv 3) pe_int) pe_int)) (pe_def T.d_law_draw (ok_law_draw T) (b_law_draw T) (hr.mono (by decide)) (by rfl) (pa_cons (pv 0) (pa_cons (pe_op op_add (pe_op op_add (pv 1) (pe_op op_mul pe_int (pv 6))) pe_int) (pa_cons pe_int pa_nil))))))
      (pss_cons (ps_set (i := 8) sc_law_push.nd rfl (.inl rfl) (pe_tup (pa_cons (pe_def T.d_law_draw (ok_law_draw T) (b_law_draw T) (hr.mono (by decide)) (by rfl) (pa_cons (pv 0) (pa_cons (pe_op op_add (pe_op op_add (pv 1) (pe_op op_mul pe_int (pv 6))) pe_int) (pa_cons (pe_callB (r := rLenK K) call_lenK (by rfl) T.n_len (by decide +kernel) (pa_cons (pe_ix (r := rIxT K) ix_tup (pv 2) pe_int (fun _ _ => rfl)) pa_nil)) pa_nil)))) (pa_cons (pe_op op_mod (pe_callTy call_int1 (by rfl) T.n_int (by decide +kernel) (pa_cons (pv 7) pa_nil)) (pv 3)) pa_nil))))
      (pss_one (ps_dput (hu_of hr) (pv 5) (pv 8) (pe_op op_add pe_int (pe_def T.d_law_draw (ok_law_draw T) (b_law_draw T) (hr.mono (by decide)) (by rfl) (pa_cons (pv 0) (pa_cons (pe_op op_add (pe_op op_add (pv 1) (pe_op op_mul pe_int (pv 6))) pe_int) (pa_cons (pe_op op_sub (pe_ix (r := rIxT K) ix_tup (pv 2) pe_int (fun _ _ => rfl)) pe_int) pa_nil))))) rfl)))))
    (pss_one (ps_ret (pe_callTy call_tuple_of (by rfl) T.n_tuple (by decide +kernel) (pa_cons (pe_lc (own := [("_law_at", 8)]) (g := (gName 8)) rfl sc_law_push.nd (pi_list (pe_callB (cr_sortedT rfl) (by rfl) T.n_sorted (by decide +kernel) (pa_cons (pe_callTy (cr_setOfT rfl hr.units) (by rfl) T.n_set (by decide +kernel) (pa_cons (pe_lock (pe_lc (own := [("_law_at", 8)]) (g := (gName 8)) rfl sc_law_push.nd (pi_keys (pv 5)) (blkOk_by (N := N_law_push) (sc := defScope s_law_push) (by decide +kernel)) (fun _ _ _ _ _ => (pg_name (i := 8) sc_law_push.nd rfl (.inl rfl))) (fun _ _ _ _ _ => pts_nil) (fun _ _ _ _ _ => (pv 8)))) pa_nil)) pa_nil))) (blkOk_by (N := N_law_push) (sc := defScope s_law_push) (by decide +kernel)) (fun _ _ _ _ _ => (pg_name (i := 8) sc_law_push.nd rfl (.inl rfl))) (fun _ _ _ _ _ => pts_nil) (fun _ _ _ _ _ => (pe_op (r := rCatA K) op_catA (pv 8) (pe_tup (pa_cons (pe_dget (hu_of hr) (pv 5) (pv 8) (fun _ _ => rfl)) pa_nil))))) pa_nil)))))), ?_⟩
  refine s_setDT fun dd n2 => ?_
  have hdd : (upd H dd (.dT [])) dd = some (.dT []) := upd_same
  have e2 : Same H (upd H dd (.dT [])) := same_new n2
  refine s_for (src_r1 (n := draw c k (top + 1)) (ev_draw (ev_var rfl rfl) (ev_var rfl rfl) (ev_add (ev_var rfl rfl) ev_int) hk0 (by omega) (by omega)) (by omega) (by omega)) Tk.refl fun H3 e3 => ⟨fun i σ' H' => ∃ l y6 y7 y8, l = ((ir (draw c k (top + 1)).toNat).take i).foldl (pushIn c k Pn w) [] ∧ σ' = [some (.int c), some (.int k), some v, some (.int w), some (.int top), some (.ref dd), y6, y7, y8] ∧ Same H H' ∧ H' dd = some (.dT (l.map trT)) ∧ l.length ≤ i,
    ⟨[], _, _, _, rfl, rfl, e2.trans e3, e3 _ _ hdd, Nat.zero_le _⟩, ?_, ?_⟩
  · rintro i j x σ' H4 H5 hj g4 ⟨l, y6, y7, y8, hl, rfl, s4, d4, n4⟩ e5 rx
    cases rx
    have hjm := mem_ir (List.mem_of_getElem? hj)
    have hi : i < 1000 := by
      have := (List.getElem?_eq_some_iff.mp hj).1
      rw [ir_len] at this
      omega
    have hw16 : w / 16384 = 0 := Int.ediv_eq_zero_of_lt (by omega) (by omega)
    have hv5 := Sm.sm (s4.trans e5) hv
    refine s_setE (R := RI) (d' := pushPlace c k w j) (ev_add (ev_mul (ev_draw (ev_var rfl rfl) (ev_add (ev_add (ev_var rfl rfl) (ev_mul ev_int (ev_var rfl rfl) (.inl ⟨by decide, by decide⟩))) ev_int) ev_int (by omega) (by omega) (by decide)) (ev_add (ev_fdiv (ev_var rfl rfl) ev_int ⟨by decide, by decide⟩) ev_int) (cmul_r (by rw [hw16]; decide) (by rw [hw16]; decide))) (ev_draw (ev_var rfl rfl) (ev_add (ev_add (ev_var rfl rfl) (ev_mul ev_int (ev_var rfl rfl) (.inl ⟨by decide, by decide⟩))) ev_int) ev_int (by omega) (by omega) (by decide))) rfl fun _ H6 e6 r6 => ?_
    cases r6
    have hv6 := Sm.sm e6 hv5
    refine s_setE (R := RK) (d' := pushAt c k Pn w j) (ev_key (ev_draw (ev_var rfl rfl) (ev_add (ev_add (ev_var rfl rfl) (ev_mul ev_int (ev_var rfl rfl) (.inl ⟨by decide, by decide⟩))) ev_int) (ev_lenT (ev_p1 (ev_var (R := RPanel K) rfl hv6))) (by omega) (by omega) (by omega)) (ev_mod (ev_int1 (ev_var rfl rfl)) (ev_var rfl rfl) (by omega))) rfl fun u H7 e7 r7 => ?_
    have hv7 := Sm.sm e7 hv6
    have d7 := e7 _ _ (e6 _ _ (e5 _ _ d4))
    refine e_dputT (l := l) (k := pushAt c k Pn w j) (v := 1 + draw c (k + 3 * j + 3) (Pn.1 - 1)) d7 (ev_add ev_int (ev_draw (ev_var rfl rfl) (ev_add (ev_add (ev_var rfl rfl) (ev_mul ev_int (ev_var rfl rfl) (.inl ⟨by decide, by decide⟩))) ev_int) (ev_sub (ev_p0 (ev_var (R := RPanel K) rfl hv7)) ev_int) (by omega) (by omega) (by omega))) rfl (key_var rfl r7) (by omega) fun H8 e8 => ?_
    have e58 := e5.trans (e6.trans (e7.trans e8))
    refine ⟨(g4.trans (Tk.of e58)).upd (noT_dT (e3 _ _ hdd)), pushIn c k Pn w l j, _, _, _, ?_, rfl, same_mut (s4.trans e58) n2, upd_same, Nat.le_trans (put_len _ _ _) (by omega)⟩
    rw [List.take_add_one, hj, List.foldl_append, ← hl]
    rfl
  · rintro σ' H4 g4 ⟨l, y6, y7, y8, hl, rfl, s4, d4, n4⟩
    have hl2 : l = pushDict c k Pn w top := by
      rw [hl, List.take_length]
      rfl
    have hok := pushDict_ok hV hw0 c k ht0 ht1
    rw [← hl2] at hok
    have hlen : (l.map (·.1)).length ≤ 60 := by rw [List.length_map]; omega
    have hbd : ∀ q ∈ l.map (·.1), 0 ≤ q.1 ∧ q.1 < 64 ∧ 0 ≤ q.2 ∧ q.2 < 64 := fun q hq => by
      obtain ⟨z, hz, rfl⟩ := List.mem_map.mp hq
      have := hok.1.2 z hz
      omega
    refine s_retE (d := dpush l) (ev_tupL (en_lm1 (R := RK) (S := RTrip K) (fun a => (a.1, a.2, getA l a)) (src_list (en_sortSet (en_keysT d4 rfl (by rw [List.length_map] at hlen; omega) fun z => ⟨rfl, rfl⟩) hok.1.1 (by omega) hbd).l) (by rw [(sortP_perm _).length_eq]; omega) fun a u H' ha e ru => ?_).l) (fun z H5 e5 rz => q z H5 (s4.trans e5) rz) (by rw [hl2]; rfl)
    exact ⟨rfl, ev_catK rfl ru (ev_tup (es_cons (ev_dgetT (e _ _ d4) rfl rfl ru ((sortP_perm _).mem_iff.mp ha)) es_nil) (by show 1 ≤ 100000; omega))⟩
end
end Rg
end
section
set_option Elab.async false
set_option linter.all false
set_option maxRecDepth 100000
set_option maxHeartbeats 4000000
open PySem PySem.Spec PyProof.Rows L2 RZ Rg
local macro_rules | `(tactic| walk_at "ev1") => `(tactic| first
  | exact ev_isTupT (ev_p1 (ev_var rfl (by assumption)))
  | exact ev_lenT (ev_p1 (ev_var rfl (by assumption)))
  | exact ev_lenT (ev_p0 (ev_var rfl (by assumption)))
  | exact ev_isInt (ev_p0 (ev_var rfl (by assumption)))
  | exact ev_isInt (ev_var rfl rfl)
  | exact ev_isBool (ev_var rfl rfl)
  | exact ev_isTupT (ev_var rfl (by assumption))
  | exact ev_isTupP (ev_var rfl (by assumption))
  | exact ev_isTupQ (ev_var rfl (by assumption))
  | exact ev_lenT (ev_var rfl (by assumption))
  | exact ev_lenP (ev_var rfl (by assumption))
  | exact ev_lenQ (ev_var rfl (by assumption))
  | exact ev_int
  | exact ev_bl
  | exact ev_var rfl rfl
  | exact ev_var rfl (by assumption)
  | exact ea_nil
  | exact ev_p0 (ev_var rfl (by assumption))
  | exact ev_p1 (ev_var rfl (by assumption))
  | exact ev_q0 (ev_var rfl (by assumption))
  | exact ev_q1 (ev_var rfl (by assumption))
  | exact ev_q2 (ev_var rfl (by assumption))
  | apply ea_cons
  | apply ev_call
  | apply ev_add
  | apply ev_sub
  | apply ev_mul
  | apply ev_mod
  | apply ev_fdiv
  | apply ev_lt
  | apply ev_le
  | apply ev_gt
  | apply ev_ge
  | apply ev_eq
  | apply ev_ne
  | apply ev_neg
  | apply ev_p0
  | apply ev_p1
  | apply ev_q0
  | apply ev_q1
  | apply ev_q2
  | apply ev_int1
  | apply ev_notV
  | apply ev_andV
  | apply ev_orV
  | apply et_test
  | apply et_B
  | apply et_and
  | apply et_or
  | apply et_not
  | exact True.intro
  | (with_reducible intro _)
  | (show (_ : Int) < _; assumption))
local macro_rules | `(tactic| walk_at "ev") => `(tactic| repeat' (walk_at "ev1"))

namespace Rg
section
variable {P : Program} {w : World} {K : PySem.W.Frag} {mg : Str → Option Value} {base : Heap}
theorem ok_law_lit (T : Top K mg) : FnOk P w K mg base CX0 1 (adr mg "_law_lit") (fdat K mg "_law_lit") ["_law_pack_here", "_law_wide", "_law_push_here"] (spF (AC (RPanel K) (AC RI (AC (RPush K) A0))) (RPic K) (fun d => PanelV d.1 ∧ 1 ≤ d.2.1 ∧ d.2.1 ≤ 60 ∧ PushV d.1 d.2.1 d.2.2.1) fun d => litD d.1 d.2.1 d.2.2.1) := by
  refine fnF T.d_law_lit.F sc_law_lit rfl fun cdv Ar outer s H vs Q d hr hA hp q => ?_
  obtain ⟨Pn, w, ps, _⟩ := d
  obtain ⟨v, _, rfl, hv, _, _, rfl, rfl, u, _, rfl, hu, rfl⟩ := hA
  have hv : RPanel K H v Pn := hv
  have hu : RPush K H u ps := hu
  obtain ⟨hV, hw0, hw1, hps⟩ : PanelV Pn ∧ 1 ≤ w ∧ w ≤ 60 ∧ PushV Pn w ps := hp
  have hP := hV.1
  have p5 := hP.le
  have p0 := hP.pos
  refine ⟨_, (pss_cons (ps_set (i := 3) sc_law_lit.nd rfl (.inr rfl) pe_dnewK)
    (pss_cons (ps_for PassesOwn.never rfl (pi_tup (pv 2)) (pg_tup rfl (pgs_cons (pg_name (i := 4) sc_law_lit.nd rfl (.inl rfl)) (pgs_cons (pg_name (i := 5) sc_law_lit.nd rfl (.inl rfl)) (pgs_cons (pg_name (i := 6) sc_law_lit.nd rfl (.inl rfl)) pgs_nil))))
      (pss_one (ps_for PassesOwn.never rfl (pi_tup (pe_ix (r := rIxT K) ix_tup (pe_ix (r := rIxT K) ix_tup (pv 0) pe_int (fun _ _ => rfl)) (pv 4) (fun _ _ => rfl))) (pg_tup rfl (pgs_cons (pg_name (i := 7) sc_law_lit.nd rfl (.inl rfl)) (pgs_cons (pg_name (i := 8) sc_law_lit.nd rfl (.inl rfl)) pgs_nil)))
        (pss_cons (ps_set (i := 9) sc_law_lit.nd rfl (.inl rfl) (pe_op op_mod (pe_callTy call_int1 (by rfl) T.n_int (by decide +kernel) (pa_cons (pe_op op_add (pv 5) (pv 7)) pa_nil)) (pv 1)))
        (pss_one (ps_dput (hu_of hr) (pv 3) (pv 9) (pe_op op_mod (pe_callTy call_int1 (by rfl) T.n_int (by decide +kernel) (pa_cons (pe_op op_add (pe_dget2 (hu_of hr) (pv 3) (pv 9) pe_int ⟨rfl, rfl, rfl, rfl⟩) (pe_op op_mul (pv 8) (pv 6))) pa_nil)) (pe_ix (r := rIxT K) ix_tup (pv 0) pe_int (fun _ _ => rfl))) rfl))))))
    (pss_one (ps_ret (pe_callTy call_tuple_of (by rfl) T.n_tuple (by decide +kernel) (pa_cons (pe_lc (own := [("_law_at", 9)]) (g := (gName 9)) rfl sc_law_lit.nd (pi_list (pe_callB cr_sortedI (by rfl) T.n_sorted (by decide +kernel) (pa_cons (pe_lock (pe_lc (own := [("_law_at", 9)]) (g := (gName 9)) rfl sc_law_lit.nd (pi_keys (pv 3)) (blkOk_by (N := N_law_lit) (sc := defScope s_law_lit) (by decide +kernel)) (fun _ _ _ _ _ => (pg_name (i := 9) sc_law_lit.nd rfl (.inl rfl))) (fun _ _ _ _ _ => pts_nil) (fun _ _ _ _ _ => (pe_callTy call_int1 (by rfl) T.n_int (by decide +kernel) (pa_cons (pv 9) pa_nil))))) pa_nil))) (blkOk_by (N := N_law_lit) (sc := defScope s_law_lit) (by decide +kernel)) (fun _ _ _ _ _ => (pg_name (i := 9) sc_law_lit.nd rfl (.inl rfl))) (fun _ _ _ _ _ => pts_one (pt_cmpR op_ne (pe_dget (hu_of hr) (pv 3) (pv 9) (fun _ _ => rfl)) pe_int (nomark _))) (fun _ _ _ _ _ => (pe_tup (pa_cons (pv 9) (pa_cons (pe_dget (hu_of hr) (pv 3) (pv 9) (fun _ _ => rfl)) pa_nil))))) pa_nil)))))), ?_⟩
  refine s_setD evd_new fun dd H2 n2 e2 hdd => ?_
  refine s_fold (litOut Pn w) [] (src_tup (ev_var (R := RPush K) rfl (Sm.sm e2 hu))) Tk.refl fun H3 e3 => ⟨fun l σ' H' => ∃ y4 y5 y6 y7 y8 y9, σ' = [some v, some (.int w), some u, some (.ref dd), y4, y5, y6, y7, y8, y9] ∧ Same H H' ∧ H' dd = some (.dK (l.map tr)) ∧ DictV 0 Pn.1 w l,
    ⟨_, _, _, _, _, _, rfl, e2.trans e3, e3 _ _ hdd, List.nodup_nil, fun _ h => nomatch h⟩, ?_, ?_⟩
  · rintro l ⟨k, a, t⟩ x σ' H4 H5 hd g4 ⟨y4, y5, y6, y7, y8, y9, rfl, s4, d4, v4⟩ e5 rx
    have hx := hps.1 _ hd
    simp only at hx
    have hbt := button_at (Pn := Pn) (k := k) hx.1 (by omega)
    have hrl := (hV.2.1 _ hbt.2).1
    refine g3 rx fun _ _ _ r1 r2 r3 => ?_
    cases r1
    cases r2
    cases r3
    have hv5 := Sm.sm (s4.trans e5) hv
    refine e_fold (litIn Pn w a t) l (src_tup (ev_ixT (R := RPic K) (ev_p1 (ev_var (R := RPanel K) rfl hv5)) (ev_var rfl rfl) hbt.1)) Tk.refl fun H6 e6 => ⟨fun l σ' H' => ∃ y7 y8 y9, σ' = [some v, some (.int w), some u, some (.ref dd), some (.int k), some (.int a), some (.int t), y7, y8, y9] ∧ Same H H' ∧ H' dd = some (.dK (l.map tr)) ∧ DictV 0 Pn.1 w l,
      ⟨_, _, _, rfl, s4.trans (e5.trans e6), e6 _ _ (e5 _ _ d4), v4⟩, ?_, ?_⟩
    · rintro l ⟨o, m⟩ x σ' H7 H8 hd8 g7 ⟨y7, y8, y9, rfl, s7, d7, v7⟩ e8 rx
      have ho := hrl _ hd8
      simp only at ho
      refine g2 rx fun _ _ r1 r2 => ?_
      cases r1
      cases r2
      have hv8 := Sm.sm (s7.trans e8) hv
      have hm := modp (p := w) (by omega) (a + o)
      have hc := modp p0 (getA l ((a + o) % w) + m * t)
      have hlen := dv_len v7
      refine s_setE (R := RI) (d' := (a + o) % w) (ev_mod (ev_int1 (ev_add (ev_var rfl rfl) (ev_var rfl rfl))) (ev_var rfl rfl) (by omega)) rfl fun _ H9 e9 r9 => ?_
      cases r9
      have d9 := e9 _ _ (e8 _ _ d7)
      have hv9 := Sm.sm e9 hv8
      refine e_dput (l := l) (k := (a + o) % w) (v := (getA l ((a + o) % w) + m * t) % Pn.1) d9 (ev_mod (ev_int1 (ev_add (ev_dget0 d9 rfl (ev_var rfl rfl)) (ev_mul (ev_var rfl rfl) (ev_var rfl rfl) (cmul_l (by omega) (by omega))))) (ev_p0 (ev_var (R := RPanel K) rfl hv9)) p0) rfl (ev_var rfl rfl) (by omega) fun H10 e10 => ?_
      have e810 := e8.trans (e9.trans e10)
      exact ⟨(g7.trans (Tk.of e810)).upd (noT_dK (e6 _ _ (e5 _ _ d4))), _, _, _, rfl, same_mut (s7.trans e810) n2, upd_same, dict_put v7 hm.1 hm.2 hc.1 hc.2⟩
    · rintro σ' H7 g7 ⟨y7, y8, y9, rfl, s7, d7, v7⟩
      exact ⟨g4.trans ((Tk.of (e5.trans e6)).trans g7), _, _, _, _, _, _, rfl, s7, d7, v7⟩
  · rintro σ' H4 g4 ⟨y4, y5, y6, y7, y8, y9, rfl, s4, d4, v4⟩
    have hlen := dv_len v4
    refine s_retE (d := nzPic (sortI ((litDict Pn w ps).map (·.1))) (litDict Pn w ps)) (ev_tupL (en_lc1 (S := RPair K) (fun a => !decide (getA (litDict Pn w ps) a = 0)) (fun a => (a, getA (litDict Pn w ps) a)) (src_list (en_sortI (en_keys d4 rfl (Nat.le_trans hlen (by omega)) fun k H' => ⟨rfl, ev_int1 (ev_var rfl rfl)⟩).l).l) (by rw [sortI_len, List.length_map]; exact Nat.le_trans hlen (by omega)) fun a u H' ha e ru => ?_).l) (fun z H5 e5 rz => q z H5 (s4.trans e5) rz) rfl
    cases ru
    exact ⟨rfl, et_test (ev_ne (ev_dget (e _ _ d4) rfl (ev_var rfl rfl) (key_mem ha)) ev_int), fun _ => ev_tup2 (ev_var rfl rfl) (ev_dget (e _ _ d4) rfl (ev_var rfl rfl) (key_mem ha))⟩
theorem ok_law_plus (T : Top K mg) : FnOk P w K mg base CX0 1 (adr mg "_law_plus") (fdat K mg "_law_plus") ["_law_base_here", "_law_wide", "_law_one", "_law_other", "_law_times", "_law_by"] (spF (AC RI (AC RI (AC (RPic K) (AC (RPic K) (AC RI (AC RI A0)))))) (RPic K) (fun d => Pr d.1 ∧ 1 ≤ d.2.1 ∧ d.2.1 ≤ 1000 ∧ PicV d.1 d.2.1 d.2.2.1 ∧ PicV d.1 d.2.1 d.2.2.2.1) fun d => plusD d.1 d.2.1 d.2.2.1 d.2.2.2.1 d.2.2.2.2.1 d.2.2.2.2.2.1) := by
  refine fnF T.d_law_plus.F sc_law_plus rfl fun cdv Ar outer s H vs Q d hr hA hp q => ?_
  obtain ⟨p, w, one, other, t, b, _⟩ := d
  obtain ⟨_, _, rfl, rfl, _, _, rfl, rfl, v, _, rfl, hv, u, _, rfl, hu, _, _, rfl, rfl, _, _, rfl, rfl, rfl⟩ := hA
  have hv : RPic K H v one := hv
  have hu : RPic K H u other := hu
  obtain ⟨hP, hw0, hw1, ho, hq⟩ : Pr p ∧ 1 ≤ w ∧ w ≤ 1000 ∧ PicV p w one ∧ PicV p w other := hp
  have p5 := hP.le
  have p0 := hP.pos
  have hol := ho.2.2
  refine ⟨_, (pss_cons (ps_set (i := 6) sc_law_plus.nd rfl (.inr rfl) (pe_callTy (call_dictP rfl) (by rfl) T.n_dict (by decide +kernel) (pa_cons (pe_lc (own := [("_law_place", 7), ("_law_colour", 8)]) (g := (gTup K 2 (gCons (gName 7) (gCons (gName 8) gNil)))) rfl sc_law_plus.nd (pi_tup (pv 2)) (blkOk_by (N := N_law_plus) (sc := defScope s_law_plus) (by decide +kernel)) (fun _ _ _ _ _ => (pg_tup rfl (pgs_cons (pg_name (i := 7) sc_law_plus.nd rfl (.inl rfl)) (pgs_cons (pg_name (i := 8) sc_law_plus.nd rfl (.inl rfl)) pgs_nil)))) (fun _ _ _ _ _ => pts_nil) (fun _ _ _ _ _ => (pe_tup (pa_cons (pv 7) (pa_cons (pv 8) pa_nil))))) pa_nil)))
    (pss_cons (ps_for PassesOwn.never rfl (pi_tup (pv 3)) (pg_tup rfl (pgs_cons (pg_name (i := 7) sc_law_plus.nd rfl (.inl rfl)) (pgs_cons (pg_name (i := 8) sc_law_plus.nd rfl (.inl rfl)) pgs_nil)))
      (pss_cons (ps_set (i := 9) sc_law_plus.nd rfl (.inl rfl) (pe_op op_mod (pe_callTy call_int1 (by rfl) T.n_int (by decide +kernel) (pa_cons (pe_op op_add (pv 7) (pv 5)) pa_nil)) (pv 1)))
      (pss_one (ps_dput (hu_of hr) (pv 6) (pv 9) (pe_op op_mod (pe_callTy call_int1 (by rfl) T.n_int (by decide +kernel) (pa_cons (pe_op op_add (pe_dget2 (hu_of hr) (pv 6) (pv 9) pe_int ⟨rfl, rfl, rfl, rfl⟩) (pe_op op_mul (pv 8) (pv 4))) pa_nil)) (pv 0)) rfl))))
    (pss_one (ps_ret (pe_callTy call_tuple_of (by rfl) T.n_tuple (by decide +kernel) (pa_cons (pe_lc (own := [("_law_place", 7)]) (g := (gName 7)) rfl sc_law_plus.nd (pi_range1 (by rfl) T.n_range (pa_cons (pv 1) pa_nil)) (blkOk_by (N := N_law_plus) (sc := defScope s_law_plus) (by decide +kernel)) (fun _ _ _ _ _ => (pg_name (i := 7) sc_law_plus.nd rfl (.inl rfl))) (fun _ _ _ _ _ => pts_one (pt_cmpR op_ne (pe_dget2 (hu_of hr) (pv 6) (pv 7) pe_int ⟨rfl, rfl, rfl, rfl⟩) pe_int (nomark _))) (fun _ _ _ _ _ => (pe_tup (pa_cons (pv 7) (pa_cons (pe_dget (hu_of hr) (pv 6) (pv 7) (fun _ _ => rfl)) pa_nil))))) pa_nil)))))), ?_⟩
  refine s_setD (l := dictOf one) (evd_dict (ds := one) ?_) fun dd H2 n2 e2 hdd => ?_
  · have := en_lm2 (K := K) (R := RI) (S := RI) (T := RPair K) (te := tTup (tCons (tVar 7) (tCons (tVar 8) tNil))) (i := 7) (j := 8) (vs := [7, 8]) (fun a => a) (src_tup (ev_var (i := 2) (σ := [some (V.int p), some (V.int w), some v, some u, some (V.int t), some (V.int b), none, none, none, none]) (R := RPic K) rfl hv)).same (by omega) fun a c v' w' H' hd e r1 r2 => ?_
    · rw [List.map_id'] at this
      exact this.l
    · cases r1
      cases r2
      exact ⟨rfl, ev_tup2 (ev_var rfl rfl) (ev_var rfl rfl)⟩
  refine s_fold (plusIn p w t b) (dictOf one) (src_tup (ev_var (R := RPic K) rfl (Sm.sm e2 hu))) Tk.refl fun H3 e3 => ⟨fun l σ' H' => ∃ y7 y8 y9, σ' = [some (.int p), some (.int w), some v, some u, some (.int t), some (.int b), some (.ref dd), y7, y8, y9] ∧ Same H H' ∧ H' dd = some (.dK (l.map tr)) ∧ DictV 0 p w l,
    ⟨_, _, _, rfl, e2.trans e3, e3 _ _ hdd, dict_mono (dictOf_ok ho) (by decide)⟩, ?_, ?_⟩
  · rintro l ⟨a, c⟩ x σ' H4 H5 hd g4 ⟨y7, y8, y9, rfl, s4, d4, v4⟩ e5 rx
    have hx := hq.1 _ hd
    simp only at hx
    refine g2 rx fun _ _ r1 r2 => ?_
    cases r1
    cases r2
    have hm := modp (p := w) (by omega) (a + b)
    have hc := modp p0 (getA l ((a + b) % w) + c * t)
    have hlen := dv_len v4
    refine s_setE (R := RI) (d' := (a + b) % w) (ev_mod (ev_int1 (ev_add (ev_var rfl rfl) (ev_var rfl rfl))) (ev_var rfl rfl) (by omega)) rfl fun _ H6 e6 r6 => ?_
    cases r6
    have d6 := e6 _ _ (e5 _ _ d4)
    refine e_dput (l := l) (k := (a + b) % w) (v := (getA l ((a + b) % w) + c * t) % p) d6 (ev_mod (ev_int1 (ev_add (ev_dget0 d6 rfl (ev_var rfl rfl)) (ev_mul (ev_var rfl rfl) (ev_var rfl rfl) (cmul_l (by omega) (by omega))))) (ev_var rfl rfl) p0) rfl (ev_var rfl rfl) (by omega) fun H7 e7 => ?_
    have e57 := e5.trans (e6.trans e7)
    exact ⟨(g4.trans (Tk.of e57)).upd (noT_dK (e3 _ _ hdd)), _, _, _, rfl, same_mut (s4.trans e57) n2, upd_same, dict_put v4 hm.1 hm.2 hc.1 hc.2⟩
  · rintro σ' H4 g4 ⟨y7, y8, y9, rfl, s4, d4, v4⟩
    refine s_retE (d := nzPic (ir w.toNat) (plusDict p w one other t b)) (ev_tupL (en_lc1 (S := RPair K) (fun a => !decide (getA (plusDict p w one other t b) a = 0)) (fun a => (a, getA (plusDict p w one other t b) a)) (src_r1 (ev_var rfl rfl) (by omega) (by omega)).same (by rw [ir_len]; omega) fun a u H' ha e ru => ?_).l) (fun z H5 e5 rz => q z H5 (s4.trans e5) rz) rfl
    cases ru
    exact ⟨rfl, et_test (ev_ne (ev_dget0 (e _ _ d4) rfl (ev_var rfl rfl)) ev_int), fun hf => ev_tup2 (ev_var rfl rfl) (ev_dget (e _ _ d4) rfl (ev_var rfl rfl) (key_ne (by simpa using hf)))⟩
end
end Rg
end
section
set_option Elab.async false
set_option linter.all false
set_option maxRecDepth 100000
set_option maxHeartbeats 4000000
open PySem PySem.Spec PyProof.Rows L2 RZ Rg
local macro_rules | `(tactic| walk_at "ev1") => `(tactic| first
  | exact ev_isTupT (ev_p1 (ev_var rfl (by assumption)))
  | exact ev_lenT (ev_p1 (ev_var rfl (by assumption)))
  | exact ev_lenT (ev_p0 (ev_var rfl (by assumption)))
  | exact ev_isInt (ev_p0 (ev_var rfl (by assumption)))
  | exact ev_isInt (ev_var rfl rfl)
  | exact ev_isBool (ev_var rfl rfl)
  | exact ev_isTupT (ev_var rfl (by assumption))
  | exact ev_isTupP (ev_var rfl (by assumption))
  | exact ev_isTupQ (ev_var rfl (by assumption))
  | exact ev_lenT (ev_var rfl (by assumption))
  | exact ev_lenP (ev_var rfl (by assumption))
  | exact ev_lenQ (ev_var rfl (by assumption))
  | exact ev_int
  | exact ev_bl
  | exact ev_var rfl rfl
  | exact ev_var rfl (by assumption)
  | exact ea_nil
  | exact ev_p0 (ev_var rfl (by assumption))
  | exact ev_p1 (ev_var rfl (by assumption))
  | exact ev_q0 (ev_var rfl (by assumption))
  | exact ev_q1 (ev_var rfl (by assumption))
  | exact ev_q2 (ev_var rfl (by assumption))
  | apply ea_cons
  | apply ev_call
  | apply ev_add
  | apply ev_sub
  | apply ev_mul
  | apply ev_mod
  | apply ev_fdiv
  | apply ev_lt
  | apply ev_le
  | apply ev_gt
  | apply ev_ge
  | apply ev_eq
  | apply ev_ne
  | apply ev_neg
  | apply ev_p0
  | apply ev_p1
  | apply ev_q0
  | apply ev_q1
  | apply ev_q2
  | apply ev_int1
  | apply ev_notV
  | apply ev_andV
  | apply ev_orV
  | apply et_test
  | apply et_B
  | apply et_and
  | apply et_or
  | apply et_not
  | exact True.intro
  | (with_reducible intro _)
  | (show (_ : Int) < _; assumption))
local macro_rules | `(tactic| walk_at "ev") => `(tactic| repeat' (walk_at "ev1"))

namespace Rg
section
variable {P : Program} {w : World} {K : PySem.W.Frag} {mg : Str → Option Value} {base : Heap}
theorem ok_law_others (T : Top K mg) : FnOk P w K mg base CX0 2 (adr mg "_law_others") (fdat K mg "_law_others") ["_law_cell_here", "_law_pack_here"] (spF (AC RI (AC (RPanel K) A0)) (RL K (RPanel K)) (fun d => PanelV d.2.1) fun d => othersD d.1 d.2.1) := by
  refine fnF T.d_law_others.F sc_law_others rfl fun cdv Ar outer s H vs Q d hr hA hp q => ?_
  obtain ⟨c, Pn, _⟩ := d
  obtain ⟨_, _, rfl, rfl, v, _, rfl, hv, rfl⟩ := hA
  have hv : RPanel K H v Pn := hv
  have hV : PanelV Pn := hp
  have hP := hV.1
  have p5 := hP.le
  have p2 := hP.two
  have hb1 := hV.2.2.2
  have hh := head_mem hV
  have hrv := hV.2.1 _ hh.2
  have hla := last_mem hV
  have hlh := low_high hV
  have hh0 : (head Pn)[0]? = some ((head Pn).headD (0, 0)) := by
    cases e : head Pn with
    | nil => exact absurd e hrv.2.2.2
    | cons a t => rfl
  have hhl : (head Pn).getLast? = some ((head Pn).getLastD (0, 0)) := by rw [List.getLastD_eq_getLast?, List.getLast?_eq_getLast hrv.2.2.2]; rfl
  refine ⟨_, (pss_cons (ps_asg (pv 1) (pg_tup rfl (pgs_cons (pg_name (i := 2) sc_law_others.nd rfl (.inr rfl)) (pgs_cons (pg_name (i := 3) sc_law_others.nd rfl (.inl rfl)) pgs_nil))))
    (pss_cons (ps_par (i := 4) (j := 5) rfl sc_law_others.nd rfl rfl (by decide) rfl rfl (pa_cons (pe_op op_sub (pe_un un_neg pe_int) (pe_ix (r := rIxT K) ix_tup (pe_ix (r := rIxT K) ix_tup (pe_ix (r := rIxT K) ix_tup (pv 3) pe_int (fun _ _ => rfl)) pe_int (fun _ _ => rfl)) pe_int (fun _ _ => rfl))) (pa_cons (pe_op op_sub pe_int (pe_ix (r := rIxT K) ix_tup (pe_ix (r := rIxT K) ix_tup (pe_ix (r := rIxT K) ix_tup (pv 3) pe_int (fun _ _ => rfl)) (pe_un un_neg pe_int) (fun _ _ => rfl)) pe_int (fun _ _ => rfl))) pa_nil)) (by rfl))
    (pss_cons (ps_asg (pe_tup (pa_cons (pe_op op_add pe_int (pe_def T.d_law_draw (ok_law_draw T) (b_law_draw T) (hr.mono (by decide)) (by rfl) (pa_cons (pv 0) (pa_cons pe_int (pa_cons (pe_op op_sub (pv 2) pe_int) pa_nil))))) (pa_cons (pe_op op_add (pv 4) (pe_def T.d_law_draw (ok_law_draw T) (b_law_draw T) (hr.mono (by decide)) (by rfl) (pa_cons (pv 0) (pa_cons pe_int (pa_cons (pe_op op_add (pe_op op_sub (pv 5) (pv 4)) pe_int) pa_nil))))) pa_nil))) (pg_tup rfl (pgs_cons (pg_name (i := 6) sc_law_others.nd rfl (.inr rfl)) (pgs_cons (pg_name (i := 7) sc_law_others.nd rfl (.inr rfl)) pgs_nil))))
    (pss_cons (ps_set (i := 8) sc_law_others.nd rfl (.inl rfl) (pe_callTy call_tuple_of (by rfl) T.n_tuple (by decide +kernel) (pa_cons (pe_lc (own := [("_law_at", 10), ("_law_amount", 11)]) (g := (gTup K 2 (gCons (gName 10) (gCons (gName 11) gNil)))) rfl sc_law_others.nd (pi_tup (pe_ix (r := rIxT K) ix_tup (pv 3) pe_int (fun _ _ => rfl))) (blkOk_by (N := N_law_others) (sc := defScope s_law_others) (by decide +kernel)) (fun _ _ _ _ _ => (pg_tup rfl (pgs_cons (pg_name (i := 10) sc_law_others.nd rfl (.inl rfl)) (pgs_cons (pg_name (i := 11) sc_law_others.nd rfl (.inl rfl)) pgs_nil)))) (fun _ _ _ _ _ => pts_nil) (fun _ _ _ _ _ => (pe_tup (pa_cons (pe_op op_add (pv 10) (pv 7)) (pa_cons (pe_op op_mod (pe_callTy call_int1 (by rfl) T.n_int (by decide +kernel) (pa_cons (pe_op op_mul (pv 11) (pv 6)) pa_nil)) (pv 2)) pa_nil))))) pa_nil)))
    (pss_cons (ps_set (i := 9) sc_law_others.nd rfl (.inl rfl) (pe_lst (pa_cons (pe_tup (pa_cons (pv 2) (pa_cons (pe_op (r := rCatA K) op_catA (pe_tup (pa_cons (pv 8) pa_nil)) (pe_slice sl_tupA (pv 3) (po_some pe_int) po_none)) pa_nil))) (pa_cons (pe_tup (pa_cons (pv 2) (pa_cons (pe_revT (pv 3)) pa_nil))) (pa_cons (pe_tup (pa_cons (pv 2) (pa_cons (pe_op (r := rCatA K) op_catA (pv 3) (pe_tup (pa_cons (pv 8) pa_nil))) pa_nil))) pa_nil)))))
    (pss_one (ps_ret (pe_op op_cat (pv 9) (pe_lst (pa_cons (pe_tup (pa_cons (pv 2) (pa_cons (pe_op (r := rCatA K) op_catA (pe_tup (pa_cons (pe_ix (r := rIxT K) ix_tup (pv 3) (pe_un un_neg pe_int) (fun _ _ => rfl)) pa_nil)) (pv 3)) pa_nil))) pa_nil)))))))))), ?_⟩
  refine s_unp2 (ev_var (R := RPanel K) rfl hv) fun u0 u H1 e1 ru0 ru => ?_
  cases ru0
  have ru : RT K (RPic K) H1 u Pn.2 := ru
  refine s_par (a := lowD Pn) (b := highD Pn) (R := RI) (S := RI) (Ev.is (ev_sub (ev_neg ev_int) (ev_p0 (ev_ixT (R := RPair K) (ev_ixT (R := RPic K) (ev_var (R := RT K (RPic K)) rfl ru) ev_int (atI_0 hh.1)) ev_int (atI_0 hh0)))) rfl) (Ev.is (ev_sub ev_int (ev_p0 (ev_ixT (R := RPair K) (ev_ixT (R := RPic K) (ev_var (R := RT K (RPic K)) rfl ru) ev_int (atI_0 hh.1)) (ev_neg ev_int) (atI_m1 hhl)))) rfl) fun _ _ H2 e2 r2 r3 => ?_
  cases r2
  cases r3
  refine s_unp2 (d := (timesD c Pn, byD c Pn)) (R := RI) (S := RI) (ev_tup2 (Ev.is (ev_add ev_int (ev_draw (ev_var rfl rfl) ev_int (ev_sub (ev_var rfl rfl) ev_int) (by decide) (by decide) (by omega))) rfl) (Ev.is (ev_add (ev_var rfl rfl) (ev_draw (ev_var rfl rfl) ev_int (ev_add (ev_sub (ev_var rfl rfl) (ev_var rfl rfl)) ev_int) (by decide) (by decide) (by omega))) rfl)) fun _ _ H3 e3 r4 r5 => ?_
  cases r4
  cases r5
  have e13 := e2.trans e3
  have ru3 := Sm.sm e13 ru
  have htm := times_in c hV
  refine s_setE (R := RPic K) (d' := moved Pn (timesD c Pn) (byD c Pn)) (ev_tupL (en_lm2 (S := RI) (T := RPair K) (fun q => (q.1 + byD c Pn, q.2 * timesD c Pn % Pn.1)) (src_tup (R := RPair K) (ev_ixT (R := RPic K) (ev_var (R := RT K (RPic K)) rfl ru3) ev_int (atI_0 hh.1))).same (Nat.le_trans hrv.2.2.1 (by omega)) fun a m x y H' hd e r6 r7 => ?_).l) rfl fun um H4 e4 rm => ?_
  · cases r6
    cases r7
    exact ⟨rfl, ev_tup2 (ev_add (ev_var rfl rfl) (ev_var rfl rfl)) (ev_mod (ev_int1 (ev_mul (ev_var rfl rfl) (ev_var rfl rfl) (cmul_r (by omega) (by omega)))) (ev_var rfl rfl) hP.pos)⟩
  have ru4 := Sm.sm e4 ru3
  refine s_setN (ds := [(Pn.1, [moved Pn (timesD c Pn) (byD c Pn)] ++ Pn.2.drop 1), (Pn.1, Pn.2.reverse), (Pn.1, Pn.2 ++ [moved Pn (timesD c Pn) (byD c Pn)])]) (R := RPanel K) (en_lst (es_cons (ev_tup2 (ev_var rfl rfl) (ev_catT (ev_tup (es_cons (ev_var (R := RPic K) rfl rm) es_nil) (by show 1 ≤ 100000; omega)) (ev_tail (ev_var (R := RT K (RPic K)) rfl ru4)) (by rw [List.length_singleton, List.length_drop]; omega))) (es_cons (ev_tup2 (ev_var rfl rfl) (ev_rev (ev_var (R := RT K (RPic K)) rfl ru4))) (es_cons (ev_tup2 (ev_var rfl rfl) (ev_catT (ev_var (R := RT K (RPic K)) rfl ru4) (ev_tup (es_cons (ev_var (R := RPic K) rfl rm) es_nil) (by show 1 ≤ 100000; omega)) (by rw [List.length_singleton]; omega))) es_nil))) (by show 3 ≤ 100000; omega)) fun l xs H5 n5 e5 hl5 px => ?_
  have ru5 := Sm.sm e5 ru4
  exact s_retE (R := RL K (RPanel K)) (d := othersD c Pn) (Ev.is (en_cat (ev_var (R := RM (RPanel K)) rfl ⟨l, xs, rfl, hl5, px⟩) (en_lst (R := RPanel K) (ds := [(Pn.1, [Pn.2.getLastD []] ++ Pn.2)]) (es_cons (ev_tup2 (ev_var rfl rfl) (ev_catT (ev_tup (es_cons (ev_ixT (R := RPic K) (ev_var (R := RT K (RPic K)) rfl ru5) (ev_neg ev_int) (atI_m1 hla.1)) es_nil) (by show 1 ≤ 100000; omega)) (ev_var (R := RT K (RPic K)) rfl ru5) (by rw [List.length_singleton]; omega))) es_nil) (by show 1 ≤ 100000; omega)).m (by show 3 + 1 ≤ 100000; omega)).l rfl) (fun z H6 e6 rz => q z H6 (e1.trans (e13.trans (e4.trans (e5.trans e6)))) rz) rfl
/-- a, d = (x, {}) -/
theorem s_unpD {α : Type} {R : Rep α} [Sm R] {σ : L2.St} {H : Hp} {D : Ends} {ta : TE} {tz : TS} {i j : Nat} {d : α} (h : Ev ta σ H R d) (k : ∀ v p H1, H p = none → Same H H1 → R H1 v d → H1 p = some (.dK ([].map tr)) → tz D ((σ.set i (some v)).set j (some (.ref p))) H1) : tSeq (tAsg (tTup (tCons ta (tCons tDNewK tNil))) (gTup K 2 (gCons (gName i) (gCons (gName j) gNil)))) tz D σ H :=
  h H (Same.refl H) _ fun v H1 e1 r1 => fun p hp => ⟨by show 2 ≤ sizeLine; decide, fun t ht => by
    have s1 : Same H1 (upd H1 p (.dK [])) := same_new hp
    have s2 : Same (upd H1 p (.dK [])) (upd (upd H1 p (.dK [])) t (.tup [v, .ref p])) := same_new ht
    exact ⟨t, [v, .ref p], rfl, SqT.of upd_same, rfl, v, [.ref p], rfl, .ref p, [], rfl, rfl, k v p _ (same_free e1 hp) (e1.trans (s1.trans s2)) (Sm.sm (s1.trans s2) r1) (s2 _ _ upd_same)⟩⟩
theorem ok_law_wound (T : Top K mg) : FnOk P w K mg base CX0 9 (adr mg "_law_wound") (fdat K mg "_law_wound") ["_law_pack_here", "_law_wide", "_law_cell_here"] (spF (AC (RPanel K) (AC RI (AC RI A0))) RB (fun d => PanelV d.1 ∧ 1 ≤ d.2.1 ∧ d.2.1 ≤ 20 ∧ lossOf d.1 d.2.1.toNat ≤ lossOf d.1 (d.2.1 * timesW d.2.2.1).toNat) fun d => reach d.1 d.2.1.toNat (smallD d.2.2.1 d.1 d.2.1)) := by
  refine fnF T.d_law_wound.F sc_law_wound rfl fun cdv Ar outer s H vs Q d hr hA hp q => ?_
  obtain ⟨Pn, w, c, _⟩ := d
  obtain ⟨v, _, rfl, hv, _, _, rfl, rfl, _, _, rfl, rfl, rfl⟩ := hA
  have hv : RPanel K H v Pn := hv
  obtain ⟨hV, hw0, hw1, hls⟩ : PanelV Pn ∧ 1 ≤ w ∧ w ≤ 20 ∧ lossOf Pn w.toNat ≤ lossOf Pn (w * timesW c).toNat := hp
  have hP := hV.1
  have p0 := hP.pos
  have p5 := hP.le
  have ht := timesW_in c
  have hm1 : 1 ≤ w * timesW c ∧ w * timesW c ≤ 60 := by
    have : timesW c = 2 ∨ timesW c = 3 := by omega
    rcases this with e | e <;> rw [e] <;> omega
  have hpu := pushD_ok hV hm1.1 hm1.2 c 140 (top := 5) (by decide) (by decide)
  have hli := litD_ok hV hm1.1 (by omega) (pushD c 140 Pn (w * timesW c) 5)
  refine ⟨_, (pss_cons (ps_set (i := 3) sc_law_wound.nd rfl (.inl rfl) (pe_op op_add pe_int (pe_def T.d_law_draw (ok_law_draw T) (b_law_draw T) (hr.mono (by decide)) (by rfl) (pa_cons (pv 2) (pa_cons pe_int (pa_cons pe_int pa_nil))))))
    (pss_cons (ps_if (pt_cmpR op_lt (pe_def T.d_loss (ok_loss T) (b_loss T) (hr.mono (by decide)) (by rfl) (pa_cons (pv 0) (pa_cons (pe_op op_mul (pv 1) (pv 3)) pa_nil))) (pe_def T.d_loss (ok_loss T) (b_loss T) (hr.mono (by decide)) (by rfl) (pa_cons (pv 0) (pa_cons (pv 1) pa_nil))) (nomark _))
      (pss_one (ps_ret pe_bl))
      pss_nil)
    (pss_cons (ps_set (i := 4) sc_law_wound.nd rfl (.inl rfl) (pe_def T.d_law_push (ok_law_push T) (b_law_push T) (hr.mono (by decide)) (by rfl) (pa_cons (pv 2) (pa_cons pe_int (pa_cons (pv 0) (pa_cons (pe_op op_mul (pv 1) (pv 3)) (pa_cons pe_int pa_nil)))))))
    (pss_cons (ps_asg (pe_tup (pa_cons (pe_def T.d_law_lit (ok_law_lit T) (b_law_lit T) (hr.mono (by decide)) (by rfl) (pa_cons (pv 0) (pa_cons (pe_op op_mul (pv 1) (pv 3)) (pa_cons (pv 4) pa_nil)))) (pa_cons pe_dnewK pa_nil))) (pg_tup rfl (pgs_cons (pg_name (i := 5) sc_law_wound.nd rfl (.inl rfl)) (pgs_cons (pg_name (i := 6) sc_law_wound.nd rfl (.inr rfl)) pgs_nil))))
    (pss_cons (ps_for PassesOwn.never rfl (pi_tup (pv 5)) (pg_tup rfl (pgs_cons (pg_name (i := 7) sc_law_wound.nd rfl (.inl rfl)) (pgs_cons (pg_name (i := 8) sc_law_wound.nd rfl (.inl rfl)) pgs_nil)))
      (pss_one (ps_dput (hu_of hr) (pv 6) (pe_op op_mod (pe_callTy call_int1 (by rfl) T.n_int (by decide +kernel) (pa_cons (pv 7) pa_nil)) (pv 1)) (pe_op op_mod (pe_callTy call_int1 (by rfl) T.n_int (by decide +kernel) (pa_cons (pe_op op_add (pe_dget2 (hu_of hr) (pv 6) (pe_op op_mod (pe_callTy call_int1 (by rfl) T.n_int (by decide +kernel) (pa_cons (pv 7) pa_nil)) (pv 1)) pe_int ⟨rfl, rfl, rfl, rfl⟩) (pv 8)) pa_nil)) (pe_ix (r := rIxT K) ix_tup (pv 0) pe_int (fun _ _ => rfl))) rfl)))
    (pss_cons (ps_set (i := 9) sc_law_wound.nd rfl (.inl rfl) (pe_callTy call_tuple_of (by rfl) T.n_tuple (by decide +kernel) (pa_cons (pe_lc (own := [("_law_place", 7)]) (g := (gName 7)) rfl sc_law_wound.nd (pi_range1 (by rfl) T.n_range (pa_cons (pv 1) pa_nil)) (blkOk_by (N := N_law_wound) (sc := defScope s_law_wound) (by decide +kernel)) (fun _ _ _ _ _ => (pg_name (i := 7) sc_law_wound.nd rfl (.inl rfl))) (fun _ _ _ _ _ => pts_one (pt_cmpR op_ne (pe_dget2 (hu_of hr) (pv 6) (pv 7) pe_int ⟨rfl, rfl, rfl, rfl⟩) pe_int (nomark _))) (fun _ _ _ _ _ => (pe_tup (pa_cons (pv 7) (pa_cons (pe_dget (hu_of hr) (pv 6) (pv 7) (fun _ _ => rfl)) pa_nil))))) pa_nil)))
    (pss_one (ps_ret (pe_def T.d_can_reach (ok_can_reach T) (b_can_reach T) (hr.mono (by decide)) (by rfl) (pa_cons (pv 0) (pa_cons (pv 1) (pa_cons (pv 9) pa_nil)))))))))))), ?_⟩
  refine s_setE (R := RI) (d' := timesW c) (ev_add ev_int (ev_draw (ev_var rfl rfl) ev_int ev_int (by decide) (by decide) (by decide))) rfl fun _ H1 e1 r1 => ?_
  cases r1
  have hv1 := Sm.sm e1 hv
  refine s_no (EvT.is (et_test (ev_lt (Ev.is (ev_call (ea_cons (ev_var (R := RPanel K) rfl hv1) (ea_cons (ev_mul (ev_var rfl rfl) (ev_var rfl rfl) (cmul_r (by omega) (by omega))) ea_nil)) ⟨hV, hm1.1⟩) rfl) (Ev.is (ev_call (ea_cons (ev_var (R := RPanel K) rfl hv1) (ea_cons (ev_var rfl rfl) ea_nil)) ⟨hV, hw0⟩) rfl))) (decide_eq_false (show ¬ lossOf Pn (w * timesW c).toNat < lossOf Pn w.toNat by omega))) fun H2 e2 => ?_
  have hv2 := Sm.sm e2 hv1
  refine s_setE (R := RPush K) (d' := pushD c 140 Pn (w * timesW c) 5) (Ev.is (ev_call (ea_cons (ev_var rfl rfl) (ea_cons ev_int (ea_cons (ev_var (R := RPanel K) rfl hv2) (ea_cons (ev_mul (ev_var rfl rfl) (ev_var rfl rfl) (cmul_r (by omega) (by omega))) (ea_cons ev_int ea_nil))))) ⟨by show (0 : Int) ≤ 140; decide, by show (140 : Int) ≤ 5000; decide, hV, hm1.1, hm1.2, by show (0 : Int) ≤ 5; decide, by show (5 : Int) ≤ 60; decide⟩) rfl) rfl fun u3 H3 e3 r3 => ?_
  have hv3 := Sm.sm e3 hv2
  refine s_unpD (R := RPic K) (d := litD Pn (w * timesW c) (pushD c 140 Pn (w * timesW c) 5)) (Ev.is (ev_call (ea_cons (ev_var (R := RPanel K) rfl hv3) (ea_cons (ev_mul (ev_var rfl rfl) (ev_var rfl rfl) (cmul_r (by omega) (by omega))) (ea_cons (ev_var (R := RPush K) rfl r3) ea_nil))) ⟨hV, hm1.1, hm1.2, hpu⟩) rfl) fun u4 dd H4 n4 e4 r4 hdd => ?_
  have e04 := e1.trans (e2.trans (e3.trans e4))
  have z4 : H dd = none := same_free (e1.trans (e2.trans e3)) n4
  refine s_fold (nearIn Pn.1 w) [] (src_tup (ev_var (R := RPic K) rfl r4)) Tk.refl fun H5 e5 => ⟨fun l σ' H' => ∃ y7 y8 y9, σ' = [some v, some (.int w), some (.int c), some (.int (timesW c)), some u3, some u4, some (.ref dd), y7, y8, y9] ∧ Same H H' ∧ H' dd = some (.dK (l.map tr)) ∧ DictV 0 Pn.1 w l,
    ⟨_, _, _, rfl, e04.trans e5, e5 _ _ hdd, List.nodup_nil, fun _ h => nomatch h⟩, ?_, ?_⟩
  · rintro l ⟨a, m⟩ x σ' H6 H7 hd g6 ⟨y7, y8, y9, rfl, s6, d6, v6⟩ e7 rx
    refine g2 rx fun _ _ r8 r9 => ?_
    cases r8
    cases r9
    have hm := modp (p := w) (by omega) a
    have hc := modp p0 (getA l (a % w) + m)
    have hlen := dv_len v6
    have d7 := e7 _ _ d6
    have hv7 := Sm.sm (s6.trans e7) hv
    refine e_dput (l := l) (k := a % w) (v := (getA l (a % w) + m) % Pn.1) d7 (ev_mod (ev_int1 (ev_add (ev_dget0 d7 rfl (ev_mod (ev_int1 (ev_var rfl rfl)) (ev_var rfl rfl) (by omega))) (ev_var rfl rfl))) (ev_p0 (ev_var (R := RPanel K) rfl hv7)) p0) rfl (ev_mod (ev_int1 (ev_var rfl rfl)) (ev_var rfl rfl) (by omega)) (by omega) fun H8 e8 => ?_
    have e78 := e7.trans e8
    exact ⟨(g6.trans (Tk.of e78)).upd (noT_dK (e5 _ _ hdd)), _, _, _, rfl, same_mut (s6.trans e78) z4, upd_same, dict_put v6 hm.1 hm.2 hc.1 hc.2⟩
  · rintro σ' H6 g6 ⟨y7, y8, y9, rfl, s6, d6, v6⟩
    have hsm := nearD_ok hP hw0 (by omega) (litD Pn (w * timesW c) (pushD c 140 Pn (w * timesW c) 5))
    refine s_setE (R := RPic K) (d' := smallD c Pn w) (ev_tupL (en_lc1 (S := RPair K) (fun a => !decide (getA (nearDict Pn.1 w (litD Pn (w * timesW c) (pushD c 140 Pn (w * timesW c) 5))) a = 0)) (fun a => (a, getA (nearDict Pn.1 w (litD Pn (w * timesW c) (pushD c 140 Pn (w * timesW c) 5))) a)) (src_r1 (ev_var rfl rfl) (by omega) (by omega)).same (by rw [ir_len]; omega) fun a u H' ha e ru => ?_).l) rfl fun u9 H9 e9 r9 => ?_
    · cases ru
      exact ⟨rfl, et_test (ev_ne (ev_dget0 (e _ _ d6) rfl (ev_var rfl rfl)) ev_int), fun hf => ev_tup2 (ev_var rfl rfl) (ev_dget (e _ _ d6) rfl (ev_var rfl rfl) (key_ne (by simpa using hf)))⟩
    have hv9 := Sm.sm (s6.trans e9) hv
    exact s_retE (Ev.is (ev_call (ea_cons (ev_var (R := RPanel K) rfl hv9) (ea_cons (ev_var rfl rfl) (ea_cons (ev_var (R := RPic K) rfl r9) ea_nil))) ⟨hV, hw0, hsm⟩) rfl) (fun z H10 e10 rz => q z H10 (s6.trans (e9.trans e10)) rz) rfl
end
end Rg
end
section
set_option Elab.async false
set_option linter.all false
set_option maxRecDepth 100000
set_option maxHeartbeats 4000000
open PySem PySem.Spec PyProof.Rows L2 RZ Rg
local macro_rules | `(tactic| walk_at "ev1") => `(tactic| first
  | exact ev_isTupT (ev_p1 (ev_var rfl (by assumption)))
  | exact ev_lenT (ev_p1 (ev_var rfl (by assumption)))
  | exact ev_lenT (ev_p0 (ev_var rfl (by assumption)))
  | exact ev_isInt (ev_p0 (ev_var rfl (by assumption)))
  | exact ev_isInt (ev_var rfl rfl)
  | exact ev_isBool (ev_var rfl rfl)
  | exact ev_isTupT (ev_var rfl (by assumption))
  | exact ev_isTupP (ev_var rfl (by assumption))
  | exact ev_isTupQ (ev_var rfl (by assumption))
  | exact ev_lenT (ev_var rfl (by assumption))
  | exact ev_lenP (ev_var rfl (by assumption))
  | exact ev_lenQ (ev_var rfl (by assumption))
  | exact ev_int
  | exact ev_bl
  | exact ev_var rfl rfl
  | exact ev_var rfl (by assumption)
  | exact ea_nil
  | exact ev_p0 (ev_var rfl (by assumption))
  | exact ev_p1 (ev_var rfl (by assumption))
  | exact ev_q0 (ev_var rfl (by assumption))
  | exact ev_q1 (ev_var rfl (by assumption))
  | exact ev_q2 (ev_var rfl (by assumption))
  | apply ea_cons
  | apply ev_call
  | apply ev_add
  | apply ev_sub
  | apply ev_mul
  | apply ev_mod
  | apply ev_fdiv
  | apply ev_lt
  | apply ev_le
  | apply ev_gt
  | apply ev_ge
  | apply ev_eq
  | apply ev_ne
  | apply ev_neg
  | apply ev_p0
  | apply ev_p1
  | apply ev_q0
  | apply ev_q1
  | apply ev_q2
  | apply ev_int1
  | apply ev_notV
  | apply ev_andV
  | apply ev_orV
  | apply et_test
  | apply et_B
  | apply et_and
  | apply et_or
  | apply et_not
  | exact True.intro
  | (with_reducible intro _)
  | (show (_ : Int) < _; assumption))
local macro_rules | `(tactic| walk_at "ev") => `(tactic| repeat' (walk_at "ev1"))

namespace Rg
section
variable {P : Program} {w : World} {K : PySem.W.Frag} {mg : Str → Option Value} {base : Heap} {σ : L2.St} {H : Hp} {ta tb tc td te tf tp tn tx : TE}
theorem ev_reach {Pn : Panel} {n : Int} {pic : Pic} (h1 : Ev tp σ H (RPanel K) Pn) (h2 : Ev tn σ H RI n) (h3 : Ev tx σ H (RPic K) pic) (v1 : PanelV Pn) (v2 : 1 ≤ n) (v3 : PicV Pn.1 n pic) :
    Ev (tCall (spF (AC (RPanel K) (AC RI (AC (RPic K) A0))) RB (fun d => PanelV d.1 ∧ 1 ≤ d.2.1 ∧ PicV d.1.1 d.2.1 d.2.2.1) fun d => reach d.1 d.2.1.toNat d.2.2.1) [] E0 (tCons tp (tCons tn (tCons tx tNil)))) σ H RB (reach Pn n.toNat pic) :=
  Ev.is (ev_call (ea_cons h1 (ea_cons h2 (ea_cons h3 ea_nil))) ⟨v1, v2, v3⟩) rfl
theorem ev_loss {Pn : Panel} {n : Int} (h1 : Ev tp σ H (RPanel K) Pn) (h2 : Ev tn σ H RI n) (v1 : PanelV Pn) (v2 : 1 ≤ n) :
    Ev (tCall (spF (AC (RPanel K) (AC RI A0)) RI (fun d => PanelV d.1 ∧ 1 ≤ d.2.1) fun d => lossOf d.1 d.2.1.toNat) [] E0 (tCons tp (tCons tn tNil))) σ H RI (lossOf Pn n.toNat) :=
  Ev.is (ev_call (ea_cons h1 (ea_cons h2 ea_nil)) ⟨v1, v2⟩) rfl
theorem ev_plus {p w : Int} {one other : Pic} {t b : Int} (h1 : Ev ta σ H RI p) (h2 : Ev tb σ H RI w) (h3 : Ev tc σ H (RPic K) one) (h4 : Ev td σ H (RPic K) other) (h5 : Ev te σ H RI t) (h6 : Ev tf σ H RI b) (v1 : Pr p) (v2 : 1 ≤ w) (v3 : w ≤ 1000) (v4 : PicV p w one) (v5 : PicV p w other) :
    Ev (tCall (spF (AC RI (AC RI (AC (RPic K) (AC (RPic K) (AC RI (AC RI A0)))))) (RPic K) (fun d => Pr d.1 ∧ 1 ≤ d.2.1 ∧ d.2.1 ≤ 1000 ∧ PicV d.1 d.2.1 d.2.2.1 ∧ PicV d.1 d.2.1 d.2.2.2.1) fun d => plusD d.1 d.2.1 d.2.2.1 d.2.2.2.1 d.2.2.2.2.1 d.2.2.2.2.2.1) [] E0 (tCons ta (tCons tb (tCons tc (tCons td (tCons te (tCons tf tNil))))))) σ H (RPic K) (plusD p w one other t b) :=
  Ev.is (ev_call (ea_cons h1 (ea_cons h2 (ea_cons h3 (ea_cons h4 (ea_cons h5 (ea_cons h6 ea_nil)))))) ⟨v1, v2, v3, v4, v5⟩) rfl
theorem ev_push {c k w top : Int} {Pn : Panel} (h1 : Ev ta σ H RI c) (h2 : Ev tb σ H RI k) (h3 : Ev tc σ H (RPanel K) Pn) (h4 : Ev td σ H RI w) (h5 : Ev te σ H RI top) (v : 0 ≤ k ∧ k ≤ 5000 ∧ PanelV Pn ∧ 1 ≤ w ∧ w ≤ 60 ∧ 0 ≤ top ∧ top ≤ 60) :
    Ev (tCall (spF (AC RI (AC RI (AC (RPanel K) (AC RI (AC RI A0))))) (RPush K) (fun d => 0 ≤ d.2.1 ∧ d.2.1 ≤ 5000 ∧ PanelV d.2.2.1 ∧ 1 ≤ d.2.2.2.1 ∧ d.2.2.2.1 ≤ 60 ∧ 0 ≤ d.2.2.2.2.1 ∧ d.2.2.2.2.1 ≤ 60) fun d => pushD d.1 d.2.1 d.2.2.1 d.2.2.2.1 d.2.2.2.2.1) [] E0 (tCons ta (tCons tb (tCons tc (tCons td (tCons te tNil)))))) σ H (RPush K) (pushD c k Pn w top) :=
  Ev.is (ev_call (ea_cons h1 (ea_cons h2 (ea_cons h3 (ea_cons h4 (ea_cons h5 ea_nil))))) v) rfl
theorem ev_lamps {Pn : Panel} {n : Int} {ps : Push} (h1 : Ev tp σ H (RPanel K) Pn) (h2 : Ev tn σ H RI n) (h3 : Ev tx σ H (RPush K) ps) (v1 : PanelV Pn) (v2 : 1 ≤ n) (v3 : n ≤ 60) (v4 : PushV Pn n ps) :
    Ev (tCall (spF (AC (RPanel K) (AC RI (AC (RPush K) A0))) (RPic K) (fun d => PanelV d.1 ∧ 1 ≤ d.2.1 ∧ d.2.1 ≤ 60 ∧ PushV d.1 d.2.1 d.2.2.1) fun d => lampsOf d.1 d.2.1 d.2.2.1) [] E0 (tCons tp (tCons tn (tCons tx tNil)))) σ H (RPic K) (lampsOf Pn n ps) :=
  Ev.is (ev_call (ea_cons h1 (ea_cons h2 (ea_cons h3 ea_nil))) ⟨v1, v2, v3, v4⟩) rfl
theorem s_par3 {α β γ : Type} {R : Rep α} {S : Rep β} {T : Rep γ} [Sm R] [Sm S] {D : Ends} {tz : TS} {i j l : Nat} {a : α} {b : β} {c : γ} (ha : Ev ta σ H R a) (hb : Ev tb σ H S b) (hc : Ev tc σ H T c) (k : ∀ v w z H1, Same H H1 → R H1 v a → S H1 w b → T H1 z c → tz D (((σ.set i (some v)).set j (some w)).set l (some z)) H1) : tSeq (tPar3 i j l (tCons ta (tCons tb (tCons tc tNil)))) tz D σ H :=
  ha H (Same.refl H) _ fun v H1 e1 r1 => hb H1 e1 _ fun w H2 e2 r2 => hc H2 (e1.trans e2) _ fun z H3 e3 r3 => ⟨v, w, z, rfl, k v w z H3 (e1.trans (e2.trans e3)) (Sm.sm (e2.trans e3) r1) (Sm.sm e3 r2) r3⟩
theorem s_setMix {D : Ends} {tz : TS} {i : Nat} {a : Int} {b c : Bool} (ha : Ev ta σ H RI a) (hb : Ev tb σ H RB b) (hc : Ev tc σ H RB c) (k : ∀ p H1, H p = none → Same H H1 → H1 p = some (.lst [.int a, .bl b, .bl c]) → tz D (σ.set i (some (.ref p))) H1) : tSeq (tAsg (tLst (tCons ta (tCons tb (tCons tc tNil)))) (gName i)) tz D σ H :=
  ha H (Same.refl H) _ fun v H1 e1 r1 => hb H1 e1 _ fun w H2 e2 r2 => hc H2 (e1.trans e2) _ fun z H3 e3 r3 => ⟨by show 3 ≤ sizeLine; decide, fun p hp => by
    cases r1
    cases r2
    cases r3
    exact k p _ (same_free (e1.trans (e2.trans e3)) hp) ((e1.trans (e2.trans e3)).trans (same_new hp)) upd_same⟩
theorem eqv_mix (a : Int) (b c : Bool) : PyData.eqv (.list [.int a, .bool b, .bool c]) (.list [.int a, .bool b, .bool c]) = true := by cases b <;> cases c <;> simp [PyData.eqv, PyData.eqvAll]
theorem ev_neMix {i : Nat} {l : Addr} {a : Int} {b c : Bool} (ho : σ[i]? = some (some (.ref l))) (hl : H l = some (.lst [.int a, .bl b, .bl c])) (ha : Ev ta σ H RI a) (hb : Ev tb σ H RB b) (hc : Ev tc σ H RB c) : Ev (tOp (rNeD K) (tVar i) (tLst (tCons ta (tCons tb (tCons tc tNil))))) σ H RB false := fun H0 e0 Q q =>
  ⟨_, ho, ha H0 e0 _ fun v H1 e1 r1 => hb H1 (e0.trans e1) _ fun w H2 e2 r2 => hc H2 (e0.trans (e1.trans e2)) _ fun z H3 e3 r3 => ⟨by show 3 ≤ sizeLine; decide, fun p hp => by
    cases r1
    cases r2
    cases r3
    have e03 := e1.trans (e2.trans e3)
    refine ⟨.list [.int a, .bool b, .bool c], .list [.int a, .bool b, .bool c], .lst (SqL.of (same_new hp _ _ (e03 _ _ (e0 _ _ hl)))) (.cons (.int a) (.cons (.bl b) (.cons (.bl c) .nil))), .lst (SqL.of upd_same) (.cons (.int a) (.cons (.bl b) (.cons (.bl c) .nil))), by cases b <;> cases c <;> rfl, by cases b <;> cases c <;> rfl, ?_⟩
    exact q _ _ (e03.trans (same_new hp)) (by rw [eqv_mix]; rfl)⟩⟩
theorem ok_law_right (T : Top K mg) : FnOk P w K mg base CX0 10 (adr mg "_law_right") (fdat K mg "_law_right") ["_law_cell_here"] (spF (AC RI A0) RB (fun d => Good d.1) fun _ => true) := by
  refine fnF T.d_law_right.F sc_law_right rfl fun cdv Ar outer s H vs Q d hr hA hp q => ?_
  obtain ⟨c, _⟩ := d
  obtain ⟨_, _, rfl, rfl, rfl⟩ := hA
  have G : Good c := hp
  have hV := (packR_ok c).1
  have hb5 := (packR_ok c).2
  have hW := wideR_in c
  have hB := base_pr c
  have hPR : (packR c).1 = baseD c := rfl
  have hwV := widerR_ok c
  have b2 := hB.two
  have b5 := hB.le
  have h60 : wideR c ≤ 60 := by omega
  have h1000 : wideR c ≤ 1000 := by omega
  have hdr : PicV (baseD c) (wideR c) (drawnR c) := shapeD_ok hB hW.1 c 70 (by decide) (by decide)
  have hs0 : PicV (baseD c) (wideR c) (sumR0 c) := plusD_ok hB hW.1 h1000 G.one _ _ _
  have hs1 : PicV (baseD c) (wideR c) (sumR1 c) := plusD_ok hB hW.1 h1000 hdr _ _ _
  have hpu1 : PushV (packR c) (wideR c) (pushD c 90 (packR c) (wideR c) 6) := pushD_ok hV hW.1 h60 c 90 (by decide) (by decide)
  have hpu2 : PushV (packR c) (wideR c) (pushD c 110 (packR c) (wideR c) 6) := pushD_ok hV hW.1 h60 c 110 (by decide) (by decide)
  have hoth := others_ok hV (by omega) (times_in c hV) (by_in c hV)
  refine ⟨_, (pss_cons (ps_set (i := 1) sc_law_right.nd rfl (.inr rfl) (pe_def T.d_law_base (ok_law_base T) (b_law_base T) (hr.mono (by decide)) (by rfl) (pa_cons (pv 0) pa_nil)))
    (pss_cons (ps_par (i := 2) (j := 3) rfl sc_law_right.nd rfl rfl (by decide) rfl rfl (pa_cons (pe_def T.d_law_pack (ok_law_pack T) (b_law_pack T) (hr.mono (by decide)) (by rfl) (pa_cons (pv 0) (pa_cons (pv 1) (pa_cons pe_int pa_nil)))) (pa_cons (pe_op op_add pe_int (pe_def T.d_law_draw (ok_law_draw T) (b_law_draw T) (hr.mono (by decide)) (by rfl) (pa_cons (pv 0) (pa_cons pe_int (pa_cons pe_int pa_nil))))) pa_nil)) (by rfl))
    (pss_cons (ps_set (i := 4) sc_law_right.nd rfl (.inl rfl) (pe_def T.d_lamps (ok_lamps T) (b_lamps T) (hr.mono (by decide)) (by rfl) (pa_cons (pv 2) (pa_cons (pv 3) (pa_cons (pe_def T.d_law_push (ok_law_push T) (b_law_push T) (hr.mono (by decide)) (by rfl) (pa_cons (pv 0) (pa_cons pe_int (pa_cons (pv 2) (pa_cons (pv 3) (pa_cons pe_int pa_nil)))))) pa_nil)))))
    (pss_cons (ps_set (i := 5) sc_law_right.nd rfl (.inl rfl) (pe_def T.d_lamps (ok_lamps T) (b_lamps T) (hr.mono (by decide)) (by rfl) (pa_cons (pv 2) (pa_cons (pv 3) (pa_cons (pe_def T.d_law_push (ok_law_push T) (b_law_push T) (hr.mono (by decide)) (by rfl) (pa_cons (pv 0) (pa_cons pe_int (pa_cons (pv 2) (pa_cons (pv 3) (pa_cons pe_int pa_nil)))))) pa_nil)))))
    (pss_cons (ps_par3 (i := 6) (j := 7) (l := 8) rfl sc_law_right.nd rfl rfl rfl (by decide) (by decide) (by decide) rfl rfl rfl (pa_cons (pe_def T.d_law_shape (ok_law_shape T) (b_law_shape T) (hr.mono (by decide)) (by rfl) (pa_cons (pv 0) (pa_cons pe_int (pa_cons (pv 1) (pa_cons (pv 3) (pa_cons pe_int pa_nil)))))) (pa_cons (pe_def T.d_law_draw (ok_law_draw T) (b_law_draw T) (hr.mono (by decide)) (by rfl) (pa_cons (pv 0) (pa_cons pe_int (pa_cons (pv 1) pa_nil)))) (pa_cons (pe_def T.d_law_draw (ok_law_draw T) (b_law_draw T) (hr.mono (by decide)) (by rfl) (pa_cons (pv 0) (pa_cons pe_int (pa_cons pe_int pa_nil)))) pa_nil))) (by rfl))
    (pss_cons (ps_set (i := 9) sc_law_right.nd rfl (.inl rfl) (pe_lst (pa_cons (pe_def T.d_law_plus (ok_law_plus T) (b_law_plus T) (hr.mono (by decide)) (by rfl) (pa_cons (pv 1) (pa_cons (pv 3) (pa_cons (pv 4) (pa_cons (pv 5) (pa_cons (pv 7) (pa_cons (pv 8) pa_nil))))))) (pa_cons (pe_def T.d_law_plus (ok_law_plus T) (b_law_plus T) (hr.mono (by decide)) (by rfl) (pa_cons (pv 1) (pa_cons (pv 3) (pa_cons (pv 6) (pa_cons (pv 5) (pa_cons (pv 7) (pa_cons (pv 8) pa_nil))))))) pa_nil))))
    (pss_cons (ps_if (PW.pt (pw_or (pt_not (pt_val (pe_def T.d_can_reach (ok_can_reach T) (b_can_reach T) (hr.mono (by decide)) (by rfl) (pa_cons (pv 2) (pa_cons (pv 3) (pa_cons (pe_ix (r := rIxL K) ix_list (pv 9) pe_int (fun _ _ => rfl)) pa_nil)))))) (pw_or1 (pt_cmpR op_ne (pe_def T.d_can_reach (ok_can_reach T) (b_can_reach T) (hr.mono (by decide)) (by rfl) (pa_cons (pv 2) (pa_cons (pv 3) (pa_cons (pe_ix (r := rIxL K) ix_list (pv 9) pe_int (fun _ _ => rfl)) pa_nil)))) (pe_def T.d_can_reach (ok_can_reach T) (b_can_reach T) (hr.mono (by decide)) (by rfl) (pa_cons (pv 2) (pa_cons (pv 3) (pa_cons (pv 6) pa_nil)))) (nomark _)))))
      (pss_one (ps_ret pe_bl))
      pss_nil)
    (pss_cons (ps_set (i := 10) sc_law_right.nd rfl (.inl rfl) (pe_tup (pa_cons (pv 1) (pa_cons (pe_op (r := rCatA K) op_catA (pe_ix (r := rIxT K) ix_tup (pv 2) pe_int (fun _ _ => rfl)) (pe_tup (pa_cons (pe_def T.d_law_rule (ok_law_rule T) (b_law_rule T) (hr.mono (by decide)) (by rfl) (pa_cons (pv 0) (pa_cons pe_int (pa_cons (pv 1) (pa_cons pe_int pa_nil))))) pa_nil))) pa_nil))))
    (pss_cons (ps_if (PW.pt (pw_or (pt_cmpR op_gt (pe_def T.d_loss (ok_loss T) (b_loss T) (hr.mono (by decide)) (by rfl) (pa_cons (pv 10) (pa_cons (pv 3) pa_nil))) (pe_def T.d_loss (ok_loss T) (b_loss T) (hr.mono (by decide)) (by rfl) (pa_cons (pv 2) (pa_cons (pv 3) pa_nil))) (nomark _)) (pw_or1 (pt_not (pt_val (pe_def T.d_can_reach (ok_can_reach T) (b_can_reach T) (hr.mono (by decide)) (by rfl) (pa_cons (pv 10) (pa_cons (pv 3) (pa_cons (pe_ix (r := rIxL K) ix_list (pv 9) pe_int (fun _ _ => rfl)) pa_nil)))))))))
      (pss_one (ps_ret pe_bl))
      pss_nil)
    (pss_cons (ps_if (PW.pt (pw_and (pt_val (pe_def T.d_can_reach (ok_can_reach T) (b_can_reach T) (hr.mono (by decide)) (by rfl) (pa_cons (pv 2) (pa_cons (pv 3) (pa_cons (pv 6) pa_nil))))) (pw_and1 (pt_not (pt_val (pe_def T.d_can_reach (ok_can_reach T) (b_can_reach T) (hr.mono (by decide)) (by rfl) (pa_cons (pv 10) (pa_cons (pv 3) (pa_cons (pv 6) pa_nil)))))))))
      (pss_one (ps_ret pe_bl))
      pss_nil)
    (pss_cons (ps_for PassesOwn.never rfl (pi_list (pe_def T.d_law_others (ok_law_others T) (b_law_others T) (hr.mono (by decide)) (by rfl) (pa_cons (pv 0) (pa_cons (pv 2) pa_nil)))) (pg_name (i := 11) sc_law_right.nd rfl (.inl rfl))
      (pss_cons (ps_set (i := 12) sc_law_right.nd rfl (.inl rfl) (pe_lst (pa_cons (pe_def T.d_loss (ok_loss T) (b_loss T) (hr.mono (by decide)) (by rfl) (pa_cons (pv 11) (pa_cons (pv 3) pa_nil))) (pa_cons (pe_def T.d_can_reach (ok_can_reach T) (b_can_reach T) (hr.mono (by decide)) (by rfl) (pa_cons (pv 11) (pa_cons (pv 3) (pa_cons (pv 6) pa_nil)))) (pa_cons (pe_def T.d_can_reach (ok_can_reach T) (b_can_reach T) (hr.mono (by decide)) (by rfl) (pa_cons (pv 11) (pa_cons (pv 3) (pa_cons (pv 4) pa_nil)))) pa_nil)))))
      (pss_one (ps_if (pt_cmpR (op_neD hr.units) (pv 12) (pe_lst (pa_cons (pe_def T.d_loss (ok_loss T) (b_loss T) (hr.mono (by decide)) (by rfl) (pa_cons (pv 2) (pa_cons (pv 3) pa_nil))) (pa_cons (pe_def T.d_can_reach (ok_can_reach T) (b_can_reach T) (hr.mono (by decide)) (by rfl) (pa_cons (pv 2) (pa_cons (pv 3) (pa_cons (pv 6) pa_nil)))) (pa_cons pe_bl pa_nil)))) (nomark _))
        (pss_one (ps_ret pe_bl))
        pss_nil))))
    (pss_cons (ps_set (i := 13) sc_law_right.nd rfl (.inl rfl) (pe_callTy call_tuple_of (by rfl) T.n_tuple (by decide +kernel) (pa_cons (pe_lc (own := [("_law_index", 14), ("_law_place", 15), ("_law_many", 16)]) (g := (gTup K 3 (gCons (gName 14) (gCons (gName 15) (gCons (gName 16) gNil))))) rfl sc_law_right.nd (pi_tup (pe_def T.d_presses_for (ok_presses_for T) (b_presses_for T) (hr.mono (by decide)) (by rfl) (pa_cons (pv 2) (pa_cons (pv 3) (pa_cons (pv 4) pa_nil))))) (blkOk_by (N := N_law_right) (sc := defScope s_law_right) (by decide +kernel)) (fun _ _ _ _ _ => (pg_tup rfl (pgs_cons (pg_name (i := 14) sc_law_right.nd rfl (.inl rfl)) (pgs_cons (pg_name (i := 15) sc_law_right.nd rfl (.inl rfl)) (pgs_cons (pg_name (i := 16) sc_law_right.nd rfl (.inl rfl)) pgs_nil))))) (fun _ _ _ _ _ => pts_nil) (fun _ _ _ _ _ => (pe_tup (pa_cons (pv 14) (pa_cons (pv 15) (pa_cons (pe_op op_sub (pv 1) (pv 16)) pa_nil)))))) pa_nil)))
    (pss_cons (ps_if (pt_cmpR (op_neD hr.units) (pe_def T.d_law_plus (ok_law_plus T) (b_law_plus T) (hr.mono (by decide)) (by rfl) (pa_cons (pv 1) (pa_cons (pv 3) (pa_cons (pe_def T.d_lamps (ok_lamps T) (b_lamps T) (hr.mono (by decide)) (by rfl) (pa_cons (pv 2) (pa_cons (pv 3) (pa_cons (pv 13) pa_nil)))) (pa_cons (pv 4) (pa_cons pe_int (pa_cons pe_int pa_nil))))))) (pe_tup pa_nil) (nomark _))
      (pss_one (ps_ret pe_bl))
      pss_nil)
    (pss_one (ps_ret (pe_def T.d_law_wound (ok_law_wound T) (b_law_wound T) (hr.mono (by decide)) (by rfl) (pa_cons (pv 2) (pa_cons (pv 3) (pa_cons (pv 0) pa_nil))))))))))))))))))), ?_⟩
  refine s_setE (R := RI) (d' := baseD c) (Ev.is (ev_call (ea_cons (ev_var rfl rfl) ea_nil) True.intro) rfl) rfl fun _ H1 e1 r1 => ?_
  cases r1
  refine s_par (R := RPanel K) (S := RI) (a := packR c) (b := wideR c) (Ev.is (ev_call (ea_cons (ev_var rfl rfl) (ea_cons (ev_var rfl rfl) (ea_cons ev_int ea_nil))) ⟨hB, by show (1 : Int) ≤ 2; decide, by show (2 : Int) ≤ 5; decide⟩) rfl) (ev_add ev_int (ev_draw (ev_var rfl rfl) ev_int ev_int (by decide) (by decide) (by decide))) fun v _ H2 e2 rv r2 => ?_
  cases r2
  have e02 := e1.trans e2
  refine s_setE (R := RPic K) (d' := oneR c) (ev_lamps (ev_var (R := RPanel K) rfl rv) (ev_var rfl rfl) (ev_push (ev_var rfl rfl) ev_int (ev_var (R := RPanel K) rfl rv) (ev_var rfl rfl) ev_int ⟨by decide, by decide, hV, hW.1, h60, by decide, by decide⟩) hV hW.1 h60 hpu1) rfl fun u4 H3 e3 ro => ?_
  have e03 := e02.trans e3
  replace rv := Sm.sm e3 rv
  refine s_setE (R := RPic K) (d' := otherR c) (ev_lamps (ev_var (R := RPanel K) rfl rv) (ev_var rfl rfl) (ev_push (ev_var rfl rfl) ev_int (ev_var (R := RPanel K) rfl rv) (ev_var rfl rfl) ev_int ⟨by decide, by decide, hV, hW.1, h60, by decide, by decide⟩) hV hW.1 h60 hpu2) rfl fun u5 H4 e4 rt => ?_
  have e04 := e03.trans e4
  replace rv := Sm.sm e4 rv
  replace ro := Sm.sm e4 ro
  refine s_par3 (R := RPic K) (S := RI) (T := RI) (a := drawnR c) (b := timesR c) (c := byR c) (Ev.is (ev_call (ea_cons (ev_var rfl rfl) (ea_cons ev_int (ea_cons (ev_var rfl rfl) (ea_cons (ev_var rfl rfl) (ea_cons ev_int ea_nil))))) ⟨by show (0 : Int) ≤ 70; decide, by show (70 : Int) ≤ 5000; decide, hB, hW.1, h1000, by show (0 : Int) ≤ 5; decide, by show (5 : Int) ≤ 900; decide⟩) rfl) (ev_draw (ev_var rfl rfl) ev_int (ev_var rfl rfl) (by decide) (by decide) (by omega)) (ev_draw (ev_var rfl rfl) ev_int ev_int (by decide) (by decide) (by decide)) fun u6 _ _ H5 e5 rd r7 r8 => ?_
  cases r7
  cases r8
  have e05 := e04.trans e5
  replace rv := Sm.sm e5 rv
  replace ro := Sm.sm e5 ro
  replace rt := Sm.sm e5 rt
  refine s_setE (R := RL K (RPic K)) (d' := [sumR0 c, sumR1 c]) (en_lst (R := RPic K) (es_cons (ev_plus (ev_var rfl rfl) (ev_var rfl rfl) (ev_var (R := RPic K) rfl ro) (ev_var (R := RPic K) rfl rt) (ev_var rfl rfl) (ev_var rfl rfl) hB hW.1 h1000 G.one G.other) (es_cons (ev_plus (ev_var rfl rfl) (ev_var rfl rfl) (ev_var (R := RPic K) rfl rd) (ev_var (R := RPic K) rfl rt) (ev_var rfl rfl) (ev_var rfl rfl) hB hW.1 h1000 hdr G.other) es_nil)) (by show 2 ≤ 100000; omega)).l rfl fun u9 H6 e6 rs => ?_
  have e06 := e05.trans e6
  replace rv := Sm.sm e6 rv
  replace ro := Sm.sm e6 ro
  replace rt := Sm.sm e6 rt
  replace rd := Sm.sm e6 rd
  refine s_no (EvT.is (et_or (et_not (et_B (ev_reach (ev_var (R := RPanel K) rfl rv) (ev_var rfl rfl) (ev_ixL (R := RPic K) (ev_var (R := RL K (RPic K)) rfl rs) ev_int (atI_nat (j := 0) rfl)) hV hW.1 hs0))) fun _ => et_test (ev_neB (ev_reach (ev_var (R := RPanel K) rfl rv) (ev_var rfl rfl) (ev_ixL (R := RPic K) (ev_var (R := RL K (RPic K)) rfl rs) ev_int (atI_nat (j := 1) rfl)) hV hW.1 hs1) (ev_reach (ev_var (R := RPanel K) rfl rv) (ev_var rfl rfl) (ev_var (R := RPic K) rfl rd) hV hW.1 hdr))) ?_) fun H7 e7 => ?_
  · rw [G.g1, G.g2, decide_eq_true rfl]
    rfl
  have e07 := e06.trans e7
  replace rv := Sm.sm e7 rv
  replace ro := Sm.sm e7 ro
  replace rd := Sm.sm e7 rd
  replace rs := Sm.sm e7 rs
  refine s_setE (R := RPanel K) (d' := widerR c) (ev_tup2 (ev_var rfl rfl) (ev_catT (ev_p1 (ev_var (R := RPanel K) rfl rv)) (ev_tup (R := RPic K) (ds := [ruleD c 220 (baseD c) 9]) (es_cons (Ev.is (ev_call (ea_cons (ev_var rfl rfl) (ea_cons ev_int (ea_cons (ev_var rfl rfl) (ea_cons ev_int ea_nil)))) ⟨by show (0 : Int) ≤ 220; decide, by show (220 : Int) ≤ 5000; decide, hB, by show (1 : Int) ≤ 9; decide, by show (9 : Int) ≤ 100; decide⟩) rfl) es_nil) (by show 1 ≤ 100000; omega)) (by rw [List.length_singleton]; omega))) rfl fun u10 H8 e8 rx => ?_
  have e08 := e07.trans e8
  replace rv := Sm.sm e8 rv
  replace ro := Sm.sm e8 ro
  replace rd := Sm.sm e8 rd
  replace rs := Sm.sm e8 rs
  refine s_no (EvT.is (et_or (et_test (ev_gt (ev_loss (ev_var (R := RPanel K) rfl rx) (ev_var rfl rfl) hwV hW.1) (ev_loss (ev_var (R := RPanel K) rfl rv) (ev_var rfl rfl) hV hW.1))) fun _ => et_not (et_B (ev_reach (ev_var (R := RPanel K) rfl rx) (ev_var rfl rfl) (ev_ixL (R := RPic K) (ev_var (R := RL K (RPic K)) rfl rs) ev_int (atI_nat (j := 0) rfl)) hwV hW.1 hs0))) ?_) fun H9 e9 => ?_
  · have := G.g3
    rw [G.g4, decide_eq_false (by omega)]
    rfl
  have e09 := e08.trans e9
  replace rv := Sm.sm e9 rv
  replace ro := Sm.sm e9 ro
  replace rd := Sm.sm e9 rd
  replace rx := Sm.sm e9 rx
  refine s_no (EvT.is (et_and (et_B (ev_reach (ev_var (R := RPanel K) rfl rv) (ev_var rfl rfl) (ev_var (R := RPic K) rfl rd) hV hW.1 hdr)) fun _ => et_not (et_B (ev_reach (ev_var (R := RPanel K) rfl rx) (ev_var rfl rfl) (ev_var (R := RPic K) rfl rd) hwV hW.1 hdr))) ?_) fun H10 e10 => ?_
  · have := G.g5
    cases e : reach (packR c) (wideR c).toNat (drawnR c) with
    | false => rfl
    | true => rw [this e]; rfl
  have e010 := e09.trans e10
  replace rv := Sm.sm e10 rv
  replace ro := Sm.sm e10 ro
  replace rd := Sm.sm e10 rd
  refine s_fold (fun (s : Unit) _ => s) () (src_list (R := RPanel K) (ds := othersD c (packR c)) (Ev.is (ev_call (ea_cons (ev_var rfl rfl) (ea_cons (ev_var (R := RPanel K) rfl rv) ea_nil)) hV) rfl)) Same.refl fun H11 e11 => ⟨fun _ σ' H' => ∃ y11 y12, σ' = [some (.int c), some (.int (baseD c)), some v, some (.int (wideR c)), some u4, some u5, some u6, some (.int (timesR c)), some (.int (byR c)), some u9, some u10, y11, y12, none, none, none, none] ∧ Same H10 H', ⟨_, _, rfl, e11⟩, ?_, ?_⟩
  · rintro _ Qn x σ' H12 H13 hd g12 ⟨y11, y12, rfl, s12⟩ e13 rq
    have hQ := G.g6 _ hd
    obtain ⟨hQV, hQ1⟩ := hoth _ hd
    have hQ1 : Qn.1 = baseD c := hQ1
    have hd1 : PicV Qn.1 (wideR c) (drawnR c) := by rw [hQ1]; exact hdr
    have ho1 : PicV Qn.1 (wideR c) (oneR c) := by rw [hQ1]; exact G.one
    have s13 := s12.trans e13
    have rv13 := Sm.sm s13 rv
    have ro13 := Sm.sm s13 ro
    have rd13 := Sm.sm s13 rd
    refine s_setMix (i := 12) (ev_loss (ev_var (R := RPanel K) rfl rq) (ev_var rfl rfl) hQV hW.1) (ev_reach (ev_var (R := RPanel K) rfl rq) (ev_var rfl rfl) (ev_var (R := RPic K) rfl rd13) hQV hW.1 hd1) (ev_reach (ev_var (R := RPanel K) rfl rq) (ev_var rfl rfl) (ev_var (R := RPic K) rfl ro13) hQV hW.1 ho1) fun l H14 n14 e14 hl => ?_
    rw [hQ.1, hQ.2.1, hQ.2.2] at hl
    have rv14 := Sm.sm e14 rv13
    have rd14 := Sm.sm e14 rd13
    refine e_no (et_test (ev_neMix (K := K) rfl hl (ev_loss (ev_var (R := RPanel K) rfl rv14) (ev_var rfl rfl) hV hW.1) (ev_reach (ev_var (R := RPanel K) rfl rv14) (ev_var rfl rfl) (ev_var (R := RPic K) rfl rd14) hV hW.1 hdr) ev_bl)) fun H15 e15 => ?_
    exact ⟨g12.trans (e13.trans (e14.trans e15)), _, _, rfl, s13.trans (e14.trans e15)⟩
  rintro σ' H12 g12 ⟨y11, y12, rfl, s12⟩
  have e012 := e010.trans s12
  replace rv := Sm.sm s12 rv
  replace ro := Sm.sm s12 ro
  refine s_setE (R := RPush K) (d' := backR c) (ev_tupL (en_lm3 (R := RI) (S := RI) (T := RI) (U := RTrip K) (fun q => (q.1, q.2.1, baseD c - q.2.2)) (src_tup (R := RTrip K) (ds := presses (packR c) (wideR c) (oneR c)) (Ev.is (ev_call (ea_cons (ev_var (R := RPanel K) rfl rv) (ea_cons (ev_var rfl rfl) (ea_cons (ev_var (R := RPic K) rfl ro) ea_nil))) ⟨hV, hW.1, h60, G.one, G.g7⟩) rfl)).same ?_ fun a b m x y z H' hd e r1 r2 r3 => ?_).l) rfl fun u13 H13 e13 rb => ?_
  · have := G.g8.2.2
    have e : (backR c).length = (presses (packR c) (wideR c) (oneR c)).length := by unfold backR; rw [List.length_map]
    omega
  · cases r1
    cases r2
    cases r3
    exact ⟨rfl, ev_tup3 (ev_var rfl rfl) (ev_var rfl rfl) (ev_sub (ev_var rfl rfl) (ev_var rfl rfl))⟩
  have e013 := e012.trans e13
  replace rv := Sm.sm e13 rv
  replace ro := Sm.sm e13 ro
  refine s_no (EvT.is (et_test (ev_neNilT (ev_plus (ev_var rfl rfl) (ev_var rfl rfl) (ev_lamps (ev_var (R := RPanel K) rfl rv) (ev_var rfl rfl) (ev_var (R := RPush K) rfl rb) hV hW.1 h60 G.g8) (ev_var (R := RPic K) rfl ro) ev_int ev_int hB hW.1 h1000 G.back G.one))) ?_) fun H14 e14 => ?_
  · rw [G.g9]
    rfl
  have e014 := e013.trans e14
  replace rv := Sm.sm e14 rv
  exact s_retE (Ev.is (ev_call (ea_cons (ev_var (R := RPanel K) rfl rv) (ea_cons (ev_var rfl rfl) (ea_cons (ev_var rfl rfl) ea_nil))) ⟨hV, hW.1, by show wideR c ≤ 20; omega, G.g10⟩) rfl) (fun z H15 e15 rz => q z H15 (e014.trans e15) rz) G.g11
theorem ok_law (T : Top K mg) (hG : ∀ c, Good c) : FnOk P w K mg base CX0 11 (adr mg "law") (fdat K mg "law") ["_law_script"] (spF (AC (RL K RI) A0) RB (fun _ => True) fun _ => true) := by
  refine fnF T.d_law.F sc_law rfl fun cdv Ar outer s H vs Q d hr hA hp q => ?_
  obtain ⟨ns, _⟩ := d
  obtain ⟨v, _, rfl, hv, rfl⟩ := hA
  have hv : RL K RI H v ns := hv
  have hm : ∀ a : Int, (if (if a < 4 then a else 4) > 1 then (if a < 4 then a else 4) else 1) ≤ 4 ∧ 1 ≤ (if (if a < 4 then a else 4) > 1 then (if a < 4 then a else 4) else 1) := fun a => by
    repeat' split
    all_goals omega
  refine ⟨_, (pss_one (ps_ret (pe_callB (cr_all rfl) (by rfl) T.n_all (by decide +kernel) (pa_cons (pe_lc (own := [("_law_k", 1)]) (g := (gName 1)) rfl sc_law.nd (pi_range1 (by rfl) T.n_range (pa_cons (pe_callB (call_max2 rfl) (by rfl) T.n_max (by decide +kernel) (pa_cons pe_int (pa_cons (pe_callB (call_min2 rfl) (by rfl) T.n_min (by decide +kernel) (pa_cons pe_int (pa_cons (pe_callB (r := rLenK K) call_lenK (by rfl) T.n_len (by decide +kernel) (pa_cons (pv 0) pa_nil)) pa_nil))) pa_nil))) pa_nil)) (blkOk_by (N := N_law) (sc := defScope s_law) (by decide +kernel)) (fun _ _ _ _ _ => (pg_name (i := 1) sc_law.nd rfl (.inl rfl))) (fun _ _ _ _ _ => pts_nil) (fun _ _ _ _ _ => (pe_def T.d_law_right (ok_law_right T) (b_law_right T) (hr.mono (by decide)) (by rfl) (pa_cons (pe_def T.d_law_cell (ok_law_cell T) (b_law_cell T) (hr.mono (by decide)) (by rfl) (pa_cons (pv 0) (pa_cons (pv 1) pa_nil))) pa_nil)))) pa_nil)))), ?_⟩
  refine s_retE (ev_all (en_lm1 (S := RB) (fun _ => true) (src_r1 (ev_max2 ev_int (ev_min2 ev_int (ev_lenL (ev_var (R := RL K RI) rfl hv)))) (Int.le_trans (hm ns.length).1 (by omega)) (Int.le_trans (by omega) (hm ns.length).2)).same ?_ fun k u H' hd e ru => ?_).l) q ?_
  · rw [ir_len]
    have := hm ns.length
    omega
  · cases ru
    have hk := mem_ir hd
    exact ⟨rfl, Ev.is (ev_call (ea_cons (Ev.is (ev_call (ea_cons (ev_var (R := RL K RI) rfl (Sm.sm e hv)) (ea_cons (ev_var rfl rfl) ea_nil)) hk.1) rfl) ea_nil) (hG _)) rfl⟩
  · rw [List.all_eq_true]
    intro x hx
    obtain ⟨_, _, rfl⟩ := List.mem_map.mp hx
    rfl
end
end Rg
end
set_option Elab.async false
set_option linter.all false
set_option maxRecDepth 100000
namespace Rg
open PySem PySem.Spec PyProof.Rows L2 RZ
theorem def_mk {K : PySem.W.Frag} {h : Heap} {mg : Str → Option Value} {x : Str} {st : Stmt} {f : Addr} {oc : Value} {od an : Option Addr} {osl : Array (Option Value)} {kV doc pm cdv ct : Value} (X : K.In h) (G : h.Ns mainGlobals mg)
    (a : PySem.W.nsIn K mainGlobals x = some (some (.ref f))) (l : K.lookup f = some ⟨oc, od, .func (PySem.W.fnOf x x (defArgs st) (defBody st) (defScope st) .none kV doc pm an cdv ct), osl⟩)
    (c : PySem.W.codeIn K cdv x = true) (k : PySem.W.keepIn K (.ref f) = true) : DefAt K mg x st := by
  have g := PySem.W.mg_of X G a
  have e1 : adr mg x = f := by unfold adr; rw [g]
  have e2 : fdat K mg x = PySem.W.fnOf x x (defArgs st) (defBody st) (defScope st) .none kV doc pm an cdv ct := by unfold fdat; rw [e1, l]
  exact ⟨by rw [e2, e1]; exact fun_mk l c k, by rw [e1]; exact g⟩
theorem all_mk {l : PySem.W.OpenLaw} {w : World} {K : PySem.W.Frag} {h : Heap} {mg : Str → Option Value} {fa : Addr} (hG : ∀ c, Good c) (X : K.In h) (G : h.Ns mainGlobals mg) (hfa : mg "law" = some (.ref fa))
    {f0 : Addr} {od0 an0 : Option Addr} {sl0 : Array (Option Value)} {oc0 kV0 dc0 pm0 cd0 ct0 : Value}
    {f1 : Addr} {od1 an1 : Option Addr} {sl1 : Array (Option Value)} {oc1 kV1 dc1 pm1 cd1 ct1 : Value}
    {f2 : Addr} {od2 an2 : Option Addr} {sl2 : Array (Option Value)} {oc2 kV2 dc2 pm2 cd2 ct2 : Value}
    {f3 : Addr} {od3 an3 : Option Addr} {sl3 : Array (Option Value)} {oc3 kV3 dc3 pm3 cd3 ct3 : Value}
    {f4 : Addr} {od4 an4 : Option Addr} {sl4 : Array (Option Value)} {oc4 kV4 dc4 pm4 cd4 ct4 : Value}
    {f5 : Addr} {od5 an5 : Option Addr} {sl5 : Array (Option Value)} {oc5 kV5 dc5 pm5 cd5 ct5 : Value}
    {f6 : Addr} {od6 an6 : Option Addr} {sl6 : Array (Option Value)} {oc6 kV6 dc6 pm6 cd6 ct6 : Value}
    {f7 : Addr} {od7 an7 : Option Addr} {sl7 : Array (Option Value)} {oc7 kV7 dc7 pm7 cd7 ct7 : Value}
    {f8 : Addr} {od8 an8 : Option Addr} {sl8 : Array (Option Value)} {oc8 kV8 dc8 pm8 cd8 ct8 : Value}
    {f9 : Addr} {od9 an9 : Option Addr} {sl9 : Array (Option Value)} {oc9 kV9 dc9 pm9 cd9 ct9 : Value}
    {f10 : Addr} {od10 an10 : Option Addr} {sl10 : Array (Option Value)} {oc10 kV10 dc10 pm10 cd10 ct10 : Value}
    {f11 : Addr} {od11 an11 : Option Addr} {sl11 : Array (Option Value)} {oc11 kV11 dc11 pm11 cd11 ct11 : Value}
    {f12 : Addr} {od12 an12 : Option Addr} {sl12 : Array (Option Value)} {oc12 kV12 dc12 pm12 cd12 ct12 : Value}
    {f13 : Addr} {od13 an13 : Option Addr} {sl13 : Array (Option Value)} {oc13 kV13 dc13 pm13 cd13 ct13 : Value}
    {f14 : Addr} {od14 an14 : Option Addr} {sl14 : Array (Option Value)} {oc14 kV14 dc14 pm14 cd14 ct14 : Value}
    {f15 : Addr} {od15 an15 : Option Addr} {sl15 : Array (Option Value)} {oc15 kV15 dc15 pm15 cd15 ct15 : Value}
    {f16 : Addr} {od16 an16 : Option Addr} {sl16 : Array (Option Value)} {oc16 kV16 dc16 pm16 cd16 ct16 : Value}
    {f17 : Addr} {od17 an17 : Option Addr} {sl17 : Array (Option Value)} {oc17 kV17 dc17 pm17 cd17 ct17 : Value}
    {f18 : Addr} {od18 an18 : Option Addr} {sl18 : Array (Option Value)} {oc18 kV18 dc18 pm18 cd18 ct18 : Value}
    {f19 : Addr} {od19 an19 : Option Addr} {sl19 : Array (Option Value)} {oc19 kV19 dc19 pm19 cd19 ct19 : Value}
    {f20 : Addr} {od20 an20 : Option Addr} {sl20 : Array (Option Value)} {oc20 kV20 dc20 pm20 cd20 ct20 : Value}
    {f21 : Addr} {od21 an21 : Option Addr} {sl21 : Array (Option Value)} {oc21 kV21 dc21 pm21 cd21 ct21 : Value}
    {f22 : Addr} {od22 an22 : Option Addr} {sl22 : Array (Option Value)} {oc22 kV22 dc22 pm22 cd22 ct22 : Value}
    {f23 : Addr} {od23 an23 : Option Addr} {sl23 : Array (Option Value)} {oc23 kV23 dc23 pm23 cd23 ct23 : Value}
    {f24 : Addr} {od24 an24 : Option Addr} {sl24 : Array (Option Value)} {oc24 kV24 dc24 pm24 cd24 ct24 : Value}
    {f25 : Addr} {od25 an25 : Option Addr} {sl25 : Array (Option Value)} {oc25 kV25 dc25 pm25 cd25 ct25 : Value}
    {f26 : Addr} {od26 an26 : Option Addr} {sl26 : Array (Option Value)} {oc26 kV26 dc26 pm26 cd26 ct26 : Value}
    {f27 : Addr} {od27 an27 : Option Addr} {sl27 : Array (Option Value)} {oc27 kV27 dc27 pm27 cd27 ct27 : Value}
    {f28 : Addr} {od28 an28 : Option Addr} {sl28 : Array (Option Value)} {oc28 kV28 dc28 pm28 cd28 ct28 : Value}
    {f29 : Addr} {od29 an29 : Option Addr} {sl29 : Array (Option Value)} {oc29 kV29 dc29 pm29 cd29 ct29 : Value}
    {f30 : Addr} {od30 an30 : Option Addr} {sl30 : Array (Option Value)} {oc30 kV30 dc30 pm30 cd30 ct30 : Value}
    {f31 : Addr} {od31 an31 : Option Addr} {sl31 : Array (Option Value)} {oc31 kV31 dc31 pm31 cd31 ct31 : Value}
    {f32 : Addr} {od32 an32 : Option Addr} {sl32 : Array (Option Value)} {oc32 kV32 dc32 pm32 cd32 ct32 : Value}
    {f33 : Addr} {od33 an33 : Option Addr} {sl33 : Array (Option Value)} {oc33 kV33 dc33 pm33 cd33 ct33 : Value}
    {f34 : Addr} {od34 an34 : Option Addr} {sl34 : Array (Option Value)} {oc34 kV34 dc34 pm34 cd34 ct34 : Value}
    {f35 : Addr} {od35 an35 : Option Addr} {sl35 : Array (Option Value)} {oc35 kV35 dc35 pm35 cd35 ct35 : Value}
    {f36 : Addr} {od36 an36 : Option Addr} {sl36 : Array (Option Value)} {oc36 kV36 dc36 pm36 cd36 ct36 : Value}
    {f37 : Addr} {od37 an37 : Option Addr} {sl37 : Array (Option Value)} {oc37 kV37 dc37 pm37 cd37 ct37 : Value}
    {f38 : Addr} {od38 an38 : Option Addr} {sl38 : Array (Option Value)} {oc38 kV38 dc38 pm38 cd38 ct38 : Value}
    {f39 : Addr} {od39 an39 : Option Addr} {sl39 : Array (Option Value)} {oc39 kV39 dc39 pm39 cd39 ct39 : Value}
    {f40 : Addr} {od40 an40 : Option Addr} {sl40 : Array (Option Value)} {oc40 kV40 dc40 pm40 cd40 ct40 : Value}
    {f41 : Addr} {od41 an41 : Option Addr} {sl41 : Array (Option Value)} {oc41 kV41 dc41 pm41 cd41 ct41 : Value}
    {f42 : Addr} {od42 an42 : Option Addr} {sl42 : Array (Option Value)} {oc42 kV42 dc42 pm42 cd42 ct42 : Value}
    {f43 : Addr} {od43 an43 : Option Addr} {sl43 : Array (Option Value)} {oc43 kV43 dc43 pm43 cd43 ct43 : Value}
    {f44 : Addr} {od44 an44 : Option Addr} {sl44 : Array (Option Value)} {oc44 kV44 dc44 pm44 cd44 ct44 : Value}
    {f45 : Addr} {od45 an45 : Option Addr} {sl45 : Array (Option Value)} {oc45 kV45 dc45 pm45 cd45 ct45 : Value}
    {f46 : Addr} {od46 an46 : Option Addr} {sl46 : Array (Option Value)} {oc46 kV46 dc46 pm46 cd46 ct46 : Value}
    {f47 : Addr} {od47 an47 : Option Addr} {sl47 : Array (Option Value)} {oc47 kV47 dc47 pm47 cd47 ct47 : Value}
    {f48 : Addr} {od48 an48 : Option Addr} {sl48 : Array (Option Value)} {oc48 kV48 dc48 pm48 cd48 ct48 : Value}
    {f49 : Addr} {od49 an49 : Option Addr} {sl49 : Array (Option Value)} {oc49 kV49 dc49 pm49 cd49 ct49 : Value}
    {f50 : Addr} {od50 an50 : Option Addr} {sl50 : Array (Option Value)} {oc50 kV50 dc50 pm50 cd50 ct50 : Value}
    {f51 : Addr} {od51 an51 : Option Addr} {sl51 : Array (Option Value)} {oc51 kV51 dc51 pm51 cd51 ct51 : Value}
    {fp : Addr} {odp : Option Addr} {slp : Array (Option Value)} {t1 t2 t3 : Tok} {np : Tok}
    (a0 : PySem.W.nsIn K mainGlobals "is_number" = some (some (.ref f0))) (l0 : K.lookup f0 = some ⟨oc0, od0, .func (PySem.W.fnOf "is_number" "is_number" (defArgs s_is_number) (defBody s_is_number) (defScope s_is_number) .none kV0 dc0 pm0 an0 cd0 ct0), sl0⟩) (c0 : PySem.W.codeIn K cd0 "is_number" = true) (k0 : PySem.W.keepIn K (.ref f0) = true)
    (a1 : PySem.W.nsIn K mainGlobals "is_whole" = some (some (.ref f1))) (l1 : K.lookup f1 = some ⟨oc1, od1, .func (PySem.W.fnOf "is_whole" "is_whole" (defArgs s_is_whole) (defBody s_is_whole) (defScope s_is_whole) .none kV1 dc1 pm1 an1 cd1 ct1), sl1⟩) (c1 : PySem.W.codeIn K cd1 "is_whole" = true) (k1 : PySem.W.keepIn K (.ref f1) = true)
    (a2 : PySem.W.nsIn K mainGlobals "is_prime" = some (some (.ref f2))) (l2 : K.lookup f2 = some ⟨oc2, od2, .func (PySem.W.fnOf "is_prime" "is_prime" (defArgs s_is_prime) (defBody s_is_prime) (defScope s_is_prime) .none kV2 dc2 pm2 an2 cd2 ct2), sl2⟩) (c2 : PySem.W.codeIn K cd2 "is_prime" = true) (k2 : PySem.W.keepIn K (.ref f2) = true)
    (a3 : PySem.W.nsIn K mainGlobals "is_pair" = some (some (.ref f3))) (l3 : K.lookup f3 = some ⟨oc3, od3, .func (PySem.W.fnOf "is_pair" "is_pair" (defArgs s_is_pair) (defBody s_is_pair) (defScope s_is_pair) .none kV3 dc3 pm3 an3 cd3 ct3), sl3⟩) (c3 : PySem.W.codeIn K cd3 "is_pair" = true) (k3 : PySem.W.keepIn K (.ref f3) = true)
    (a4 : PySem.W.nsIn K mainGlobals "fits_rule" = some (some (.ref f4))) (l4 : K.lookup f4 = some ⟨oc4, od4, .func (PySem.W.fnOf "fits_rule" "fits_rule" (defArgs s_fits_rule) (defBody s_fits_rule) (defScope s_fits_rule) .none kV4 dc4 pm4 an4 cd4 ct4), sl4⟩) (c4 : PySem.W.codeIn K cd4 "fits_rule" = true) (k4 : PySem.W.keepIn K (.ref f4) = true)
    (a5 : PySem.W.nsIn K mainGlobals "trimmed" = some (some (.ref f5))) (l5 : K.lookup f5 = some ⟨oc5, od5, .func (PySem.W.fnOf "trimmed" "trimmed" (defArgs s_trimmed) (defBody s_trimmed) (defScope s_trimmed) .none kV5 dc5 pm5 an5 cd5 ct5), sl5⟩) (c5 : PySem.W.codeIn K cd5 "trimmed" = true) (k5 : PySem.W.keepIn K (.ref f5) = true)
    (a6 : PySem.W.nsIn K mainGlobals "inverse" = some (some (.ref f6))) (l6 : K.lookup f6 = some ⟨oc6, od6, .func (PySem.W.fnOf "inverse" "inverse" (defArgs s_inverse) (defBody s_inverse) (defScope s_inverse) .none kV6 dc6 pm6 an6 cd6 ct6), sl6⟩) (c6 : PySem.W.codeIn K cd6 "inverse" = true) (k6 : PySem.W.keepIn K (.ref f6) = true)
    (a7 : PySem.W.nsIn K mainGlobals "scaled" = some (some (.ref f7))) (l7 : K.lookup f7 = some ⟨oc7, od7, .func (PySem.W.fnOf "scaled" "scaled" (defArgs s_scaled) (defBody s_scaled) (defScope s_scaled) .none kV7 dc7 pm7 an7 cd7 ct7), sl7⟩) (c7 : PySem.W.codeIn K cd7 "scaled" = true) (k7 : PySem.W.keepIn K (.ref f7) = true)
    (a8 : PySem.W.nsIn K mainGlobals "monic" = some (some (.ref f8))) (l8 : K.lookup f8 = some ⟨oc8, od8, .func (PySem.W.fnOf "monic" "monic" (defArgs s_monic) (defBody s_monic) (defScope s_monic) .none kV8 dc8 pm8 an8 cd8 ct8), sl8⟩) (c8 : PySem.W.codeIn K cd8 "monic" = true) (k8 : PySem.W.keepIn K (.ref f8) = true)
    (a9 : PySem.W.nsIn K mainGlobals "added" = some (some (.ref f9))) (l9 : K.lookup f9 = some ⟨oc9, od9, .func (PySem.W.fnOf "added" "added" (defArgs s_added) (defBody s_added) (defScope s_added) .none kV9 dc9 pm9 an9 cd9 ct9), sl9⟩) (c9 : PySem.W.codeIn K cd9 "added" = true) (k9 : PySem.W.keepIn K (.ref f9) = true)
    (a10 : PySem.W.nsIn K mainGlobals "timesed" = some (some (.ref f10))) (l10 : K.lookup f10 = some ⟨oc10, od10, .func (PySem.W.fnOf "timesed" "timesed" (defArgs s_timesed) (defBody s_timesed) (defScope s_timesed) .none kV10 dc10 pm10 an10 cd10 ct10), sl10⟩) (c10 : PySem.W.codeIn K cd10 "timesed" = true) (k10 : PySem.W.keepIn K (.ref f10) = true)
    (a11 : PySem.W.nsIn K mainGlobals "divided" = some (some (.ref f11))) (l11 : K.lookup f11 = some ⟨oc11, od11, .func (PySem.W.fnOf "divided" "divided" (defArgs s_divided) (defBody s_divided) (defScope s_divided) .none kV11 dc11 pm11 an11 cd11 ct11), sl11⟩) (c11 : PySem.W.codeIn K cd11 "divided" = true) (k11 : PySem.W.keepIn K (.ref f11) = true)
    (a12 : PySem.W.nsIn K mainGlobals "common_of_two" = some (some (.ref f12))) (l12 : K.lookup f12 = some ⟨oc12, od12, .func (PySem.W.fnOf "common_of_two" "common_of_two" (defArgs s_common_of_two) (defBody s_common_of_two) (defScope s_common_of_two) .none kV12 dc12 pm12 an12 cd12 ct12), sl12⟩) (c12 : PySem.W.codeIn K cd12 "common_of_two" = true) (k12 : PySem.W.keepIn K (.ref f12) = true)
    (a13 : PySem.W.nsIn K mainGlobals "gcd_of" = some (some (.ref f13))) (l13 : K.lookup f13 = some ⟨oc13, od13, .func (PySem.W.fnOf "gcd_of" "gcd_of" (defArgs s_gcd_of) (defBody s_gcd_of) (defScope s_gcd_of) .none kV13 dc13 pm13 an13 cd13 ct13), sl13⟩) (c13 : PySem.W.codeIn K cd13 "gcd_of" = true) (k13 : PySem.W.keepIn K (.ref f13) = true)
    (a14 : PySem.W.nsIn K mainGlobals "power_of_x" = some (some (.ref f14))) (l14 : K.lookup f14 = some ⟨oc14, od14, .func (PySem.W.fnOf "power_of_x" "power_of_x" (defArgs s_power_of_x) (defBody s_power_of_x) (defScope s_power_of_x) .none kV14 dc14 pm14 an14 cd14 ct14), sl14⟩) (c14 : PySem.W.codeIn K cd14 "power_of_x" = true) (k14 : PySem.W.keepIn K (.ref f14) = true)
    (a15 : PySem.W.nsIn K mainGlobals "of_rule" = some (some (.ref f15))) (l15 : K.lookup f15 = some ⟨oc15, od15, .func (PySem.W.fnOf "of_rule" "of_rule" (defArgs s_of_rule) (defBody s_of_rule) (defScope s_of_rule) .none kV15 dc15 pm15 an15 cd15 ct15), sl15⟩) (c15 : PySem.W.codeIn K cd15 "of_rule" = true) (k15 : PySem.W.keepIn K (.ref f15) = true)
    (a16 : PySem.W.nsIn K mainGlobals "core_of" = some (some (.ref f16))) (l16 : K.lookup f16 = some ⟨oc16, od16, .func (PySem.W.fnOf "core_of" "core_of" (defArgs s_core_of) (defBody s_core_of) (defScope s_core_of) .none kV16 dc16 pm16 an16 cd16 ct16), sl16⟩) (c16 : PySem.W.codeIn K cd16 "core_of" = true) (k16 : PySem.W.keepIn K (.ref f16) = true)
    (a17 : PySem.W.nsIn K mainGlobals "fits_panel" = some (some (.ref f17))) (l17 : K.lookup f17 = some ⟨oc17, od17, .func (PySem.W.fnOf "fits_panel" "fits_panel" (defArgs s_fits_panel) (defBody s_fits_panel) (defScope s_fits_panel) .none kV17 dc17 pm17 an17 cd17 ct17), sl17⟩) (c17 : PySem.W.codeIn K cd17 "fits_panel" = true) (k17 : PySem.W.keepIn K (.ref f17) = true)
    (a18 : PySem.W.nsIn K mainGlobals "is_lamp" = some (some (.ref f18))) (l18 : K.lookup f18 = some ⟨oc18, od18, .func (PySem.W.fnOf "is_lamp" "is_lamp" (defArgs s_is_lamp) (defBody s_is_lamp) (defScope s_is_lamp) .none kV18 dc18 pm18 an18 cd18 ct18), sl18⟩) (c18 : PySem.W.codeIn K cd18 "is_lamp" = true) (k18 : PySem.W.keepIn K (.ref f18) = true)
    (a19 : PySem.W.nsIn K mainGlobals "fits_picture" = some (some (.ref f19))) (l19 : K.lookup f19 = some ⟨oc19, od19, .func (PySem.W.fnOf "fits_picture" "fits_picture" (defArgs s_fits_picture) (defBody s_fits_picture) (defScope s_fits_picture) .none kV19 dc19 pm19 an19 cd19 ct19), sl19⟩) (c19 : PySem.W.codeIn K cd19 "fits_picture" = true) (k19 : PySem.W.keepIn K (.ref f19) = true)
    (a20 : PySem.W.nsIn K mainGlobals "is_press" = some (some (.ref f20))) (l20 : K.lookup f20 = some ⟨oc20, od20, .func (PySem.W.fnOf "is_press" "is_press" (defArgs s_is_press) (defBody s_is_press) (defScope s_is_press) .none kV20 dc20 pm20 an20 cd20 ct20), sl20⟩) (c20 : PySem.W.codeIn K cd20 "is_press" = true) (k20 : PySem.W.keepIn K (.ref f20) = true)
    (a21 : PySem.W.nsIn K mainGlobals "fits_presses" = some (some (.ref f21))) (l21 : K.lookup f21 = some ⟨oc21, od21, .func (PySem.W.fnOf "fits_presses" "fits_presses" (defArgs s_fits_presses) (defBody s_fits_presses) (defScope s_fits_presses) .none kV21 dc21 pm21 an21 cd21 ct21), sl21⟩) (c21 : PySem.W.codeIn K cd21 "fits_presses" = true) (k21 : PySem.W.keepIn K (.ref f21) = true)
    (a22 : PySem.W.nsIn K mainGlobals "need_panel" = some (some (.ref f22))) (l22 : K.lookup f22 = some ⟨oc22, od22, .func (PySem.W.fnOf "need_panel" "need_panel" (defArgs s_need_panel) (defBody s_need_panel) (defScope s_need_panel) .none kV22 dc22 pm22 an22 cd22 ct22), sl22⟩) (c22 : PySem.W.codeIn K cd22 "need_panel" = true) (k22 : PySem.W.keepIn K (.ref f22) = true)
    (a23 : PySem.W.nsIn K mainGlobals "need_size" = some (some (.ref f23))) (l23 : K.lookup f23 = some ⟨oc23, od23, .func (PySem.W.fnOf "need_size" "need_size" (defArgs s_need_size) (defBody s_need_size) (defScope s_need_size) .none kV23 dc23 pm23 an23 cd23 ct23), sl23⟩) (c23 : PySem.W.codeIn K cd23 "need_size" = true) (k23 : PySem.W.keepIn K (.ref f23) = true)
    (a24 : PySem.W.nsIn K mainGlobals "need_picture" = some (some (.ref f24))) (l24 : K.lookup f24 = some ⟨oc24, od24, .func (PySem.W.fnOf "need_picture" "need_picture" (defArgs s_need_picture) (defBody s_need_picture) (defScope s_need_picture) .none kV24 dc24 pm24 an24 cd24 ct24), sl24⟩) (c24 : PySem.W.codeIn K cd24 "need_picture" = true) (k24 : PySem.W.keepIn K (.ref f24) = true)
    (a25 : PySem.W.nsIn K mainGlobals "generator_of" = some (some (.ref f25))) (l25 : K.lookup f25 = some ⟨oc25, od25, .func (PySem.W.fnOf "generator_of" "generator_of" (defArgs s_generator_of) (defBody s_generator_of) (defScope s_generator_of) .none kV25 dc25 pm25 an25 cd25 ct25), sl25⟩) (c25 : PySem.W.codeIn K cd25 "generator_of" = true) (k25 : PySem.W.keepIn K (.ref f25) = true)
    (a26 : PySem.W.nsIn K mainGlobals "divisor_on" = some (some (.ref f26))) (l26 : K.lookup f26 = some ⟨oc26, od26, .func (PySem.W.fnOf "divisor_on" "divisor_on" (defArgs s_divisor_on) (defBody s_divisor_on) (defScope s_divisor_on) .none kV26 dc26 pm26 an26 cd26 ct26), sl26⟩) (c26 : PySem.W.codeIn K cd26 "divisor_on" = true) (k26 : PySem.W.keepIn K (.ref f26) = true)
    (a27 : PySem.W.nsIn K mainGlobals "rest_of" = some (some (.ref f27))) (l27 : K.lookup f27 = some ⟨oc27, od27, .func (PySem.W.fnOf "rest_of" "rest_of" (defArgs s_rest_of) (defBody s_rest_of) (defScope s_rest_of) .none kV27 dc27 pm27 an27 cd27 ct27), sl27⟩) (c27 : PySem.W.codeIn K cd27 "rest_of" = true) (k27 : PySem.W.keepIn K (.ref f27) = true)
    (a28 : PySem.W.nsIn K mainGlobals "behind_press" = some (some (.ref f28))) (l28 : K.lookup f28 = some ⟨oc28, od28, .func (PySem.W.fnOf "behind_press" "behind_press" (defArgs s_behind_press) (defBody s_behind_press) (defScope s_behind_press) .none kV28 dc28 pm28 an28 cd28 ct28), sl28⟩) (c28 : PySem.W.codeIn K cd28 "behind_press" = true) (k28 : PySem.W.keepIn K (.ref f28) = true)
    (a29 : PySem.W.nsIn K mainGlobals "colours_of" = some (some (.ref f29))) (l29 : K.lookup f29 = some ⟨oc29, od29, .func (PySem.W.fnOf "colours_of" "colours_of" (defArgs s_colours_of) (defBody s_colours_of) (defScope s_colours_of) .none kV29 dc29 pm29 an29 cd29 ct29), sl29⟩) (c29 : PySem.W.codeIn K cd29 "colours_of" = true) (k29 : PySem.W.keepIn K (.ref f29) = true)
    (a30 : PySem.W.nsIn K mainGlobals "picture_of" = some (some (.ref f30))) (l30 : K.lookup f30 = some ⟨oc30, od30, .func (PySem.W.fnOf "picture_of" "picture_of" (defArgs s_picture_of) (defBody s_picture_of) (defScope s_picture_of) .none kV30 dc30 pm30 an30 cd30 ct30), sl30⟩) (c30 : PySem.W.codeIn K cd30 "picture_of" = true) (k30 : PySem.W.keepIn K (.ref f30) = true)
    (a31 : PySem.W.nsIn K mainGlobals "lessened" = some (some (.ref f31))) (l31 : K.lookup f31 = some ⟨oc31, od31, .func (PySem.W.fnOf "lessened" "lessened" (defArgs s_lessened) (defBody s_lessened) (defScope s_lessened) .none kV31 dc31 pm31 an31 cd31 ct31), sl31⟩) (c31 : PySem.W.codeIn K cd31 "lessened" = true) (k31 : PySem.W.keepIn K (.ref f31) = true)
    (a32 : PySem.W.nsIn K mainGlobals "lessened_by" = some (some (.ref f32))) (l32 : K.lookup f32 = some ⟨oc32, od32, .func (PySem.W.fnOf "lessened_by" "lessened_by" (defArgs s_lessened_by) (defBody s_lessened_by) (defScope s_lessened_by) .none kV32 dc32 pm32 an32 cd32 ct32), sl32⟩) (c32 : PySem.W.codeIn K cd32 "lessened_by" = true) (k32 : PySem.W.keepIn K (.ref f32) = true)
    (a33 : PySem.W.nsIn K mainGlobals "basis_of" = some (some (.ref f33))) (l33 : K.lookup f33 = some ⟨oc33, od33, .func (PySem.W.fnOf "basis_of" "basis_of" (defArgs s_basis_of) (defBody s_basis_of) (defScope s_basis_of) .none kV33 dc33 pm33 an33 cd33 ct33), sl33⟩) (c33 : PySem.W.codeIn K cd33 "basis_of" = true) (k33 : PySem.W.keepIn K (.ref f33) = true)
    (a34 : PySem.W.nsIn K mainGlobals "found_presses" = some (some (.ref f34))) (l34 : K.lookup f34 = some ⟨oc34, od34, .func (PySem.W.fnOf "found_presses" "found_presses" (defArgs s_found_presses) (defBody s_found_presses) (defScope s_found_presses) .none kV34 dc34 pm34 an34 cd34 ct34), sl34⟩) (c34 : PySem.W.codeIn K cd34 "found_presses" = true) (k34 : PySem.W.keepIn K (.ref f34) = true)
    (a35 : PySem.W.nsIn K mainGlobals "lamps" = some (some (.ref f35))) (l35 : K.lookup f35 = some ⟨oc35, od35, .func (PySem.W.fnOf "lamps" "lamps" (defArgs s_lamps) (defBody s_lamps) (defScope s_lamps) .none kV35 dc35 pm35 an35 cd35 ct35), sl35⟩) (c35 : PySem.W.codeIn K cd35 "lamps" = true) (k35 : PySem.W.keepIn K (.ref f35) = true)
    (a36 : PySem.W.nsIn K mainGlobals "can_reach" = some (some (.ref f36))) (l36 : K.lookup f36 = some ⟨oc36, od36, .func (PySem.W.fnOf "can_reach" "can_reach" (defArgs s_can_reach) (defBody s_can_reach) (defScope s_can_reach) .none kV36 dc36 pm36 an36 cd36 ct36), sl36⟩) (c36 : PySem.W.codeIn K cd36 "can_reach" = true) (k36 : PySem.W.keepIn K (.ref f36) = true)
    (a37 : PySem.W.nsIn K mainGlobals "presses_for" = some (some (.ref f37))) (l37 : K.lookup f37 = some ⟨oc37, od37, .func (PySem.W.fnOf "presses_for" "presses_for" (defArgs s_presses_for) (defBody s_presses_for) (defScope s_presses_for) .none kV37 dc37 pm37 an37 cd37 ct37), sl37⟩) (c37 : PySem.W.codeIn K cd37 "presses_for" = true) (k37 : PySem.W.keepIn K (.ref f37) = true)
    (a38 : PySem.W.nsIn K mainGlobals "loss" = some (some (.ref f38))) (l38 : K.lookup f38 = some ⟨oc38, od38, .func (PySem.W.fnOf "loss" "loss" (defArgs s_loss) (defBody s_loss) (defScope s_loss) .none kV38 dc38 pm38 an38 cd38 ct38), sl38⟩) (c38 : PySem.W.codeIn K cd38 "loss" = true) (k38 : PySem.W.keepIn K (.ref f38) = true)
    (a39 : PySem.W.nsIn K mainGlobals "_law_cell" = some (some (.ref f39))) (l39 : K.lookup f39 = some ⟨oc39, od39, .func (PySem.W.fnOf "_law_cell" "_law_cell" (defArgs s_law_cell) (defBody s_law_cell) (defScope s_law_cell) .none kV39 dc39 pm39 an39 cd39 ct39), sl39⟩) (c39 : PySem.W.codeIn K cd39 "_law_cell" = true) (k39 : PySem.W.keepIn K (.ref f39) = true)
    (a40 : PySem.W.nsIn K mainGlobals "_law_draw" = some (some (.ref f40))) (l40 : K.lookup f40 = some ⟨oc40, od40, .func (PySem.W.fnOf "_law_draw" "_law_draw" (defArgs s_law_draw) (defBody s_law_draw) (defScope s_law_draw) .none kV40 dc40 pm40 an40 cd40 ct40), sl40⟩) (c40 : PySem.W.codeIn K cd40 "_law_draw" = true) (k40 : PySem.W.keepIn K (.ref f40) = true)
    (a41 : PySem.W.nsIn K mainGlobals "_law_base" = some (some (.ref f41))) (l41 : K.lookup f41 = some ⟨oc41, od41, .func (PySem.W.fnOf "_law_base" "_law_base" (defArgs s_law_base) (defBody s_law_base) (defScope s_law_base) .none kV41 dc41 pm41 an41 cd41 ct41), sl41⟩) (c41 : PySem.W.codeIn K cd41 "_law_base" = true) (k41 : PySem.W.keepIn K (.ref f41) = true)
    (a42 : PySem.W.nsIn K mainGlobals "_law_rule" = some (some (.ref f42))) (l42 : K.lookup f42 = some ⟨oc42, od42, .func (PySem.W.fnOf "_law_rule" "_law_rule" (defArgs s_law_rule) (defBody s_law_rule) (defScope s_law_rule) .none kV42 dc42 pm42 an42 cd42 ct42), sl42⟩) (c42 : PySem.W.codeIn K cd42 "_law_rule" = true) (k42 : PySem.W.keepIn K (.ref f42) = true)
    (a43 : PySem.W.nsIn K mainGlobals "_law_pack" = some (some (.ref f43))) (l43 : K.lookup f43 = some ⟨oc43, od43, .func (PySem.W.fnOf "_law_pack" "_law_pack" (defArgs s_law_pack) (defBody s_law_pack) (defScope s_law_pack) .none kV43 dc43 pm43 an43 cd43 ct43), sl43⟩) (c43 : PySem.W.codeIn K cd43 "_law_pack" = true) (k43 : PySem.W.keepIn K (.ref f43) = true)
    (a44 : PySem.W.nsIn K mainGlobals "_law_shape" = some (some (.ref f44))) (l44 : K.lookup f44 = some ⟨oc44, od44, .func (PySem.W.fnOf "_law_shape" "_law_shape" (defArgs s_law_shape) (defBody s_law_shape) (defScope s_law_shape) .none kV44 dc44 pm44 an44 cd44 ct44), sl44⟩) (c44 : PySem.W.codeIn K cd44 "_law_shape" = true) (k44 : PySem.W.keepIn K (.ref f44) = true)
    (a45 : PySem.W.nsIn K mainGlobals "_law_push" = some (some (.ref f45))) (l45 : K.lookup f45 = some ⟨oc45, od45, .func (PySem.W.fnOf "_law_push" "_law_push" (defArgs s_law_push) (defBody s_law_push) (defScope s_law_push) .none kV45 dc45 pm45 an45 cd45 ct45), sl45⟩) (c45 : PySem.W.codeIn K cd45 "_law_push" = true) (k45 : PySem.W.keepIn K (.ref f45) = true)
    (a46 : PySem.W.nsIn K mainGlobals "_law_lit" = some (some (.ref f46))) (l46 : K.lookup f46 = some ⟨oc46, od46, .func (PySem.W.fnOf "_law_lit" "_law_lit" (defArgs s_law_lit) (defBody s_law_lit) (defScope s_law_lit) .none kV46 dc46 pm46 an46 cd46 ct46), sl46⟩) (c46 : PySem.W.codeIn K cd46 "_law_lit" = true) (k46 : PySem.W.keepIn K (.ref f46) = true)
    (a47 : PySem.W.nsIn K mainGlobals "_law_plus" = some (some (.ref f47))) (l47 : K.lookup f47 = some ⟨oc47, od47, .func (PySem.W.fnOf "_law_plus" "_law_plus" (defArgs s_law_plus) (defBody s_law_plus) (defScope s_law_plus) .none kV47 dc47 pm47 an47 cd47 ct47), sl47⟩) (c47 : PySem.W.codeIn K cd47 "_law_plus" = true) (k47 : PySem.W.keepIn K (.ref f47) = true)
    (a48 : PySem.W.nsIn K mainGlobals "_law_others" = some (some (.ref f48))) (l48 : K.lookup f48 = some ⟨oc48, od48, .func (PySem.W.fnOf "_law_others" "_law_others" (defArgs s_law_others) (defBody s_law_others) (defScope s_law_others) .none kV48 dc48 pm48 an48 cd48 ct48), sl48⟩) (c48 : PySem.W.codeIn K cd48 "_law_others" = true) (k48 : PySem.W.keepIn K (.ref f48) = true)
    (a49 : PySem.W.nsIn K mainGlobals "_law_wound" = some (some (.ref f49))) (l49 : K.lookup f49 = some ⟨oc49, od49, .func (PySem.W.fnOf "_law_wound" "_law_wound" (defArgs s_law_wound) (defBody s_law_wound) (defScope s_law_wound) .none kV49 dc49 pm49 an49 cd49 ct49), sl49⟩) (c49 : PySem.W.codeIn K cd49 "_law_wound" = true) (k49 : PySem.W.keepIn K (.ref f49) = true)
    (a50 : PySem.W.nsIn K mainGlobals "_law_right" = some (some (.ref f50))) (l50 : K.lookup f50 = some ⟨oc50, od50, .func (PySem.W.fnOf "_law_right" "_law_right" (defArgs s_law_right) (defBody s_law_right) (defScope s_law_right) .none kV50 dc50 pm50 an50 cd50 ct50), sl50⟩) (c50 : PySem.W.codeIn K cd50 "_law_right" = true) (k50 : PySem.W.keepIn K (.ref f50) = true)
    (a51 : PySem.W.nsIn K mainGlobals "law" = some (some (.ref f51))) (l51 : K.lookup f51 = some ⟨oc51, od51, .func (PySem.W.fnOf "law" "law" (defArgs s_law) (defBody s_law) (defScope s_law) .none kV51 dc51 pm51 an51 cd51 ct51), sl51⟩) (c51 : PySem.W.codeIn K cd51 "law" = true) (k51 : PySem.W.keepIn K (.ref f51) = true)
    (z_all : PySem.W.nsIn K mainGlobals "all" = some none)
    (z_any : PySem.W.nsIn K mainGlobals "any" = some none)
    (z_bool : PySem.W.nsIn K mainGlobals "bool" = some none)
    (z_dict : PySem.W.nsIn K mainGlobals "dict" = some none)
    (z_enumerate : PySem.W.nsIn K mainGlobals "enumerate" = some none)
    (z_int : PySem.W.nsIn K mainGlobals "int" = some none)
    (z_isinstance : PySem.W.nsIn K mainGlobals "isinstance" = some none)
    (z_len : PySem.W.nsIn K mainGlobals "len" = some none)
    (z_list : PySem.W.nsIn K mainGlobals "list" = some none)
    (z_max : PySem.W.nsIn K mainGlobals "max" = some none)
    (z_min : PySem.W.nsIn K mainGlobals "min" = some none)
    (z_range : PySem.W.nsIn K mainGlobals "range" = some none)
    (z_set : PySem.W.nsIn K mainGlobals "set" = some none)
    (z_sorted : PySem.W.nsIn K mainGlobals "sorted" = some none)
    (z_sum : PySem.W.nsIn K mainGlobals "sum" = some none)
    (z_tuple : PySem.W.nsIn K mainGlobals "tuple" = some none)
    (z_zip : PySem.W.nsIn K mainGlobals "zip" = some none)
    (ap : PySem.W.nsIn K mainGlobals "PRIMES" = some (some (.ref fp))) (lp : K.lookup fp = some ⟨.type "tuple", odp, .seq #[.int 2 t1, .int 3 t2, .int 5 t3] np, slp⟩) :
    ∃ fd : FuncData, (∀ (s : Shared) (v : Value), BindsTo s fd ⟨[v], []⟩ [("_law_script", v)]) ∧ ∀ base : Heap, K.In base → base.Ns mainGlobals mg → FnOk l.prog w K mg base CX0 11 fa fd ["_law_script"] (spF (AC (RL K RI) A0) RB (fun _ => True) fun _ => true) := by
  have T : Top K mg := ⟨def_mk X G a0 l0 c0 k0, def_mk X G a1 l1 c1 k1, def_mk X G a2 l2 c2 k2, def_mk X G a3 l3 c3 k3, def_mk X G a4 l4 c4 k4, def_mk X G a5 l5 c5 k5, def_mk X G a6 l6 c6 k6, def_mk X G a7 l7 c7 k7, def_mk X G a8 l8 c8 k8, def_mk X G a9 l9 c9 k9, def_mk X G a10 l10 c10 k10, def_mk X G a11 l11 c11 k11, def_mk X G a12 l12 c12 k12, def_mk X G a13 l13 c13 k13, def_mk X G a14 l14 c14 k14, def_mk X G a15 l15 c15 k15, def_mk X G a16 l16 c16 k16, def_mk X G a17 l17 c17 k17, def_mk X G a18 l18 c18 k18, def_mk X G a19 l19 c19 k19, def_mk X G a20 l20 c20 k20, def_mk X G a21 l21 c21 k21, def_mk X G a22 l22 c22 k22, def_mk X G a23 l23 c23 k23, def_mk X G a24 l24 c24 k24, def_mk X G a25 l25 c25 k25, def_mk X G a26 l26 c26 k26, def_mk X G a27 l27 c27 k27, def_mk X G a28 l28 c28 k28, def_mk X G a29 l29 c29 k29, def_mk X G a30 l30 c30 k30, def_mk X G a31 l31 c31 k31, def_mk X G a32 l32 c32 k32, def_mk X G a33 l33 c33 k33, def_mk X G a34 l34 c34 k34, def_mk X G a35 l35 c35 k35, def_mk X G a36 l36 c36 k36, def_mk X G a37 l37 c37 k37, def_mk X G a38 l38 c38 k38, def_mk X G a39 l39 c39 k39, def_mk X G a40 l40 c40 k40, def_mk X G a41 l41 c41 k41, def_mk X G a42 l42 c42 k42, def_mk X G a43 l43 c43 k43, def_mk X G a44 l44 c44 k44, def_mk X G a45 l45 c45 k45, def_mk X G a46 l46 c46 k46, def_mk X G a47 l47 c47 k47, def_mk X G a48 l48 c48 k48, def_mk X G a49 l49 c49 k49, def_mk X G a50 l50 c50 k50, def_mk X G a51 l51 c51 k51, PySem.W.mg_none_of X G z_all, PySem.W.mg_none_of X G z_any, PySem.W.mg_none_of X G z_bool, PySem.W.mg_none_of X G z_dict, PySem.W.mg_none_of X G z_enumerate, PySem.W.mg_none_of X G z_int, PySem.W.mg_none_of X G z_isinstance, PySem.W.mg_none_of X G z_len, PySem.W.mg_none_of X G z_list, PySem.W.mg_none_of X G z_max, PySem.W.mg_none_of X G z_min, PySem.W.mg_none_of X G z_range, PySem.W.mg_none_of X G z_set, PySem.W.mg_none_of X G z_sorted, PySem.W.mg_none_of X G z_sum, PySem.W.mg_none_of X G z_tuple, PySem.W.mg_none_of X G z_zip, ⟨fp, _, PySem.W.mg_of X G ap, lp, rfl, t1, t2, t3, np, rfl⟩⟩
  have e := hfa.symm.trans (PySem.W.mg_of X G a51)
  cases e
  have ea : adr mg "law" = fa := by unfold adr; rw [hfa]
  have ef : fdat K mg "law" = PySem.W.fnOf "law" "law" (defArgs s_law) (defBody s_law) (defScope s_law) .none kV51 dc51 pm51 an51 cd51 ct51 := by unfold fdat; rw [ea, l51]
  refine ⟨PySem.W.fnOf "law" "law" (defArgs s_law) (defBody s_law) (defScope s_law) .none kV51 dc51 pm51 an51 cd51 ct51, fun s v => .of_eq rfl, fun base _ _ => ?_⟩
  have := ok_law (P := l.prog) (w := w) (base := base) T hG
  rw [ea, ef] at this
  exact this
end Rg
open PySem PySem.W PyProof.Rows
set_option maxHeartbeats 0 in
theorem PySem.Challenge.cw_everyring_k18_whole_what_can_be_reached_holds : PySem.Challenge.rw_everyring_k18_whole_what_can_be_reached.Holds := by
  w_on; o_law; k_head; (case hw => w_witness2)
  k_fill
  refine L2.walk_of (l := PySem.Challenge.rw_everyring_k18_whole_what_can_be_reached) (n := 63) (k := 11) (x := "_law_script") (CX := fun _ => L2.CX0) (sp := fun w => Rg.spF (Rg.AC (Rg.RL _ Rg.RI) Rg.A0) Rg.RB (fun _ => True) fun _ => true) rfl (by decide) rfl ⟨rfl, by decide, by decide⟩ (fun w h Y => PySem.W.kIn_of Y) ?F (fun _ _ a ns hl _ hS => ⟨(ns, ()), ⟨.ref a, [], rfl, ⟨a, _, rfl, hS, Rg.ri_pd ns⟩, rfl⟩, True.intro, fun v H' _ r => r⟩) (fun _ _ _ _ _ h => h)
  case F =>
    intro w mg fa h KX G hmg
    refine' Rg.all_mk Rg.good KX G hmg ?a0 ?l0 ?c0 ?k0 ?a1 ?l1 ?c1 ?k1 ?a2 ?l2 ?c2 ?k2 ?a3 ?l3 ?c3 ?k3 ?a4 ?l4 ?c4 ?k4 ?a5 ?l5 ?c5 ?k5 ?a6 ?l6 ?c6 ?k6 ?a7 ?l7 ?c7 ?k7 ?a8 ?l8 ?c8 ?k8 ?a9 ?l9 ?c9 ?k9 ?a10 ?l10 ?c10 ?k10 ?a11 ?l11 ?c11 ?k11 ?a12 ?l12 ?c12 ?k12 ?a13 ?l13 ?c13 ?k13 ?a14 ?l14 ?c14 ?k14 ?a15 ?l15 ?c15 ?k15 ?a16 ?l16 ?c16 ?k16 ?a17 ?l17 ?c17 ?k17 ?a18 ?l18 ?c18 ?k18 ?a19 ?l19 ?c19 ?k19 ?a20 ?l20 ?c20 ?k20 ?a21 ?l21 ?c21 ?k21 ?a22 ?l22 ?c22 ?k22 ?a23 ?l23 ?c23 ?k23 ?a24 ?l24 ?c24 ?k24 ?a25 ?l25 ?c25 ?k25 ?a26 ?l26 ?c26 ?k26 ?a27 ?l27 ?c27 ?k27 ?a28 ?l28 ?c28 ?k28 ?a29 ?l29 ?c29 ?k29 ?a30 ?l30 ?c30 ?k30 ?a31 ?l31 ?c31 ?k31 ?a32 ?l32 ?c32 ?k32 ?a33 ?l33 ?c33 ?k33 ?a34 ?l34 ?c34 ?k34 ?a35 ?l35 ?c35 ?k35 ?a36 ?l36 ?c36 ?k36 ?a37 ?l37 ?c37 ?k37 ?a38 ?l38 ?c38 ?k38 ?a39 ?l39 ?c39 ?k39 ?a40 ?l40 ?c40 ?k40 ?a41 ?l41 ?c41 ?k41 ?a42 ?l42 ?c42 ?k42 ?a43 ?l43 ?c43 ?k43 ?a44 ?l44 ?c44 ?k44 ?a45 ?l45 ?c45 ?k45 ?a46 ?l46 ?c46 ?k46 ?a47 ?l47 ?c47 ?k47 ?a48 ?l48 ?c48 ?k48 ?a49 ?l49 ?c49 ?k49 ?a50 ?l50 ?c50 ?k50 ?a51 ?l51 ?c51 ?k51 ?z_all ?z_any ?z_bool ?z_dict ?z_enumerate ?z_int ?z_isinstance ?z_len ?z_list ?z_max ?z_min ?z_range ?z_set ?z_sorted ?z_sum ?z_tuple ?z_zip ?ap ?lp
    (case a0 => k_is); (case l0 => k_is); (case c0 => k_is); (case k0 => k_is); (case a1 => k_is); (case l1 => k_is); (case c1 => k_is); (case k1 => k_is); (case a2 => k_is); (case l2 => k_is); (case c2 => k_is); (case k2 => k_is); (case a3 => k_is); (case l3 => k_is); (case c3 => k_is); (case k3 => k_is); (case a4 => k_is); (case l4 => k_is); (case c4 => k_is); (case k4 => k_is); (case a5 => k_is); (case l5 => k_is); (case c5 => k_is); (case k5 => k_is); (case a6 => k_is); (case l6 => k_is); (case c6 => k_is); (case k6 => k_is); (case a7 => k_is); (case l7 => k_is); (case c7 => k_is); (case k7 => k_is); (case a8 => k_is); (case l8 => k_is); (case c8 => k_is); (case k8 => k_is); (case a9 => k_is); (case l9 => k_is); (case c9 => k_is); (case k9 => k_is); (case a10 => k_is); (case l10 => k_is); (case c10 => k_is); (case k10 => k_is); (case a11 => k_is); (case l11 => k_is); (case c11 => k_is); (case k11 => k_is); (case a12 => k_is); (case l12 => k_is); (case c12 => k_is); (case k12 => k_is); (case a13 => k_is); (case l13 => k_is); (case c13 => k_is); (case k13 => k_is); (case a14 => k_is); (case l14 => k_is); (case c14 => k_is); (case k14 => k_is); (case a15 => k_is); (case l15 => k_is); (case c15 => k_is); (case k15 => k_is); (case a16 => k_is); (case l16 => k_is); (case c16 => k_is); (case k16 => k_is); (case a17 => k_is); (case l17 => k_is); (case c17 => k_is); (case k17 => k_is); (case a18 => k_is); (case l18 => k_is); (case c18 => k_is); (case k18 => k_is); (case a19 => k_is); (case l19 => k_is); (case c19 => k_is); (case k19 => k_is); (case a20 => k_is); (case l20 => k_is); (case c20 => k_is); (case k20 => k_is); (case a21 => k_is); (case l21 => k_is); (case c21 => k_is); (case k21 => k_is); (case a22 => k_is); (case l22 => k_is); (case c22 => k_is); (case k22 => k_is); (case a23 => k_is); (case l23 => k_is); (case c23 => k_is); (case k23 => k_is); (case a24 => k_is); (case l24 => k_is); (case c24 => k_is); (case k24 => k_is); (case a25 => k_is); (case l25 => k_is); (case c25 => k_is); (case k25 => k_is); (case a26 => k_is); (case l26 => k_is); (case c26 => k_is); (case k26 => k_is); (case a27 => k_is); (case l27 => k_is); (case c27 => k_is); (case k27 => k_is); (case a28 => k_is); (case l28 => k_is); (case c28 => k_is); (case k28 => k_is); (case a29 => k_is); (case l29 => k_is); (case c29 => k_is); (case k29 => k_is); (case a30 => k_is); (case l30 => k_is); (case c30 => k_is); (case k30 => k_is); (case a31 => k_is); (case l31 => k_is); (case c31 => k_is); (case k31 => k_is); (case a32 => k_is); (case l32 => k_is); (case c32 => k_is); (case k32 => k_is); (case a33 => k_is); (case l33 => k_is); (case c33 => k_is); (case k33 => k_is); (case a34 => k_is); (case l34 => k_is); (case c34 => k_is); (case k34 => k_is); (case a35 => k_is); (case l35 => k_is); (case c35 => k_is); (case k35 => k_is); (case a36 => k_is); (case l36 => k_is); (case c36 => k_is); (case k36 => k_is); (case a37 => k_is); (case l37 => k_is); (case c37 => k_is); (case k37 => k_is); (case a38 => k_is); (case l38 => k_is); (case c38 => k_is); (case k38 => k_is); (case a39 => k_is); (case l39 => k_is); (case c39 => k_is); (case k39 => k_is); (case a40 => k_is); (case l40 => k_is); (case c40 => k_is); (case k40 => k_is); (case a41 => k_is); (case l41 => k_is); (case c41 => k_is); (case k41 => k_is); (case a42 => k_is); (case l42 => k_is); (case c42 => k_is); (case k42 => k_is); (case a43 => k_is); (case l43 => k_is); (case c43 => k_is); (case k43 => k_is); (case a44 => k_is); (case l44 => k_is); (case c44 => k_is); (case k44 => k_is); (case a45 => k_is); (case l45 => k_is); (case c45 => k_is); (case k45 => k_is); (case a46 => k_is); (case l46 => k_is); (case c46 => k_is); (case k46 => k_is); (case a47 => k_is); (case l47 => k_is); (case c47 => k_is); (case k47 => k_is); (case a48 => k_is); (case l48 => k_is); (case c48 => k_is); (case k48 => k_is); (case a49 => k_is); (case l49 => k_is); (case c49 => k_is); (case k49 => k_is); (case a50 => k_is); (case l50 => k_is); (case c50 => k_is); (case k50 => k_is); (case a51 => k_is); (case l51 => k_is); (case c51 => k_is); (case k51 => k_is); (case z_all => k_is); (case z_any => k_is); (case z_bool => k_is); (case z_dict => k_is); (case z_enumerate => k_is); (case z_int => k_is); (case z_isinstance => k_is); (case z_len => k_is); (case z_list => k_is); (case z_max => k_is); (case z_min => k_is); (case z_range => k_is); (case z_set => k_is); (case z_sorted => k_is); (case z_sum => k_is); (case z_tuple => k_is); (case z_zip => k_is); (case ap => k_is); (case lp => k_is)
