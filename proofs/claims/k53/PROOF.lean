import PyProof.Rows.All
import Wide.All
import OpenK.AllK
import Wide.FinOn
import HandS.ForMost
import HandS.Conv
import HandS.IsInst
import HandS.TupLe
import HandS.TupAny
import HandS.Wide
import HandS.Lambda
import HandS.EndTab
import KE.KTupSum
import KE.DataMinMax
import KE.GoesEnum
import KE.SortData
import KE.SortKeyHeap
import HandS.SortKw
import HandS.Codes
import KE.KNestM
import PySem.Challenge.RW_dividedseats_k53_whole_methods_that_keep
set_option Elab.async false
set_option linter.all false
set_option maxRecDepth 100000
set_option maxHeartbeats 4000000
/-! The mathematics: what each def computes, as plain functions; the check of all drawn methods. -/
namespace K53
/-- the divisor with the index i -/
def dv (f : List Int) (s : Int) (i : Nat) : Int := match f[i]? with
  | some x => x
  | none => f.getLastD 0 + s * ((i : Int) + 1 - (f.length : Int))
/-- pairs below a span, by their sum -/
def prs : Nat → List (Nat × Nat)
  | 2 => [(0,0),(0,1),(1,0),(1,1)]
  | 3 => [(0,0),(0,1),(1,0),(0,2),(1,1),(2,0),(1,2),(2,1),(2,2)]
  | 4 => [(0,0),(0,1),(1,0),(0,2),(1,1),(2,0),(0,3),(1,2),(2,1),(3,0),(1,3),(2,2),(3,1),(2,3),(3,2),(3,3)]
  | 5 => [(0,0),(0,1),(1,0),(0,2),(1,1),(2,0),(0,3),(1,2),(2,1),(3,0),(0,4),(1,3),(2,2),(3,1),(4,0),(1,4),(2,3),(3,2),(4,1),(2,4),(3,3),(4,2),(3,4),(4,3),(4,4)]
  | _ => []
/-- the last index with the same divisor, at most n further -/
def la (f : List Int) (s : Int) : Nat → Nat → Nat
  | 0, i => i
  | n + 1, i => if dv f s (i + 1) = dv f s i then la f s n (i + 1) else i
def laOk (f : List Int) (s : Int) : Nat → Nat → Bool
  | 0, _ => false
  | n + 1, i => if dv f s (i + 1) = dv f s i then laOk f s n (i + 1) else true
def lm (part whole : Int) : Int := (part + whole - 1).fdiv whole
abbrev Q5 := Int × Int × Int × Nat × Nat
def lowT (f : List Int) (s : Int) (a b : Nat) : Bool := decide (dv f s b * ((a : Int) + 1) < dv f s a * ((b : Int) + 1))
def lowAt (f : List Int) (s : Int) (a b : Nat) : Q5 :=
  let t := la f s 8 b
  let own := dv f s a
  let more := dv f s t
  let gap := own * ((t : Int) + 1) - more * ((a : Int) + 1)
  let sc := (a : Int) + (t : Int) + 3
  (sc * own - 1, lm (sc * own - 1) (sc * gap - (a : Int) - (t : Int) - 2), sc * more + 1, a, t + 1)
def low (f : List Int) (s : Int) : Option Q5 := ((prs (f.length + 1)).find? fun p => lowT f s p.1 p.2).map fun p => lowAt f s p.1 p.2
def high (f : List Int) (s : Int) : Q5 :=
  let i := la f s 8 1
  let v := 2 * dv f s i + 1
  let o := 2 * dv f s 0 - 1
  (v, lm v ((i : Int) * o), o, i + 1, 0)
/-- simplest((a, b), (c, d)) -/
def simp : Nat → Int → Int → Int → Int → Int × Int
  | 0, _, _, _, _ => (0, 0)
  | n + 1, a, b, c, d =>
    let w := a.fdiv b
    if (w + 1) * d < c then (w + 1, 1)
    else
      let p := if a = w * b then (d.fdiv (c - w * d) + 1, 1) else simp n d (c - w * d) b (a - w * b)
      (w * p.1 + p.2, p.1)
def sm (x : Int) : Bool := decide (0 < x) && decide (x < 100000)
def simpOk : Nat → Int → Int → Int → Int → Bool
  | 0, _, _, _, _ => false
  | n + 1, a, b, c, d =>
    let w := a.fdiv b
    decide (0 ≤ a) && decide (a < 100000) && sm b && sm c && sm d && decide (0 ≤ w) && decide (w < 100000) &&
    (if (w + 1) * d < c then true else sm (c - w * d) && (if a = w * b then true else simpOk n d (c - w * d) b (a - w * b)))
def btw (a b c d : Int) : Int × Int := if a * d < c * b then simp 9 a b c d else simp 9 c d a b
def btwOk (a b c d : Int) : Bool := sm a && sm b && sm c && sm d && (if a * d < c * b then simpOk 9 a b c d else simpOk 9 c d a b)
def fair (f : List Int) (s : Int) (v0 v1 : Int) (x y : Nat) : Bool :=
  (decide (x = 0) || decide (v1 * dv f s (x - 1) ≤ v0 * dv f s y)) && (decide (y = 0) || decide (v0 * dv f s (y - 1) ≤ v1 * dv f s x))
def nearT (f : List Int) (s : Int) (a b : Nat) : Bool := decide (dv f s b * (2 * (a : Int) + 1) < dv f s a * (2 * (b : Int) + 1))
abbrev Q4 := Int × Int × Nat × Nat
def divs (f : List Int) (s : Int) (v0 v1 : Int) (h : Nat) : List Nat := (List.range (h + 1)).filter fun o => fair f s v0 v1 o (h - o)
def nearAt (f : List Int) (s : Int) (a b : Nat) : Option Q4 :=
  let v := btw (2 * (a : Int) + 1) (2 * (b : Int) + 1) (dv f s a) (dv f s b)
  let h := a + b + 1
  ((divs f s v.1 v.2 h).head?).map fun o => (v.2, v.1, h - o, o)
def near (f : List Int) (s : Int) : Option (Option Q4) := ((prs (f.length + 1)).find? fun p => nearT f s p.1 p.2).map fun p => nearAt f s p.1 p.2
def okQ (f : List Int) (s : Int) (q : Q5) : Bool := match q with
  | (v, m, o, x, e) => sm v && sm m && sm o && decide (x ≤ 60) && decide (e ≤ 60) && fair f s v o x e
def okLow (f : List Int) (s : Int) (q : Q5) : Bool := okQ f s q && match q with
  | (v, m, o, x, e) => decide (((x : Int) + 1) * (v + m * o) ≤ v * ((x : Int) + m * (e : Int)))
def okHigh (f : List Int) (s : Int) (q : Q5) : Bool := okQ f s q && match q with
  | (v, m, o, x, e) => decide (1 ≤ x) && decide (v * ((x : Int) + m * (e : Int)) ≤ ((x : Int) - 1) * (v + m * o))
def okNear (f : List Int) (s : Int) (q : Q4) : Bool := match q with
  | (v, w, x, y) => sm v && sm w && decide (1 ≤ x) && decide (x ≤ 60) && decide (y ≤ 60) && fair f s v w x y &&
     decide (2 * v * ((x : Int) + y) < (2 * (x : Int) - 1) * (v + w)) && decide ((2 * (y : Int) + 1) * (v + w) < 2 * w * ((x : Int) + y))
def isN (f : List Int) (s : Int) : Bool := (List.range (f.length + 1)).all fun i => decide (dv f s i = ((i : Int) + 1) * dv f s 0)
def isR (f : List Int) (s : Int) : Bool := (List.range (f.length + 1)).all fun i => decide (dv f s i = (2 * (i : Int) + 1) * dv f s 0)
def isN30 (f : List Int) (s : Int) : Bool := (List.range 30).all fun i => decide (dv f s i = ((i : Int) + 1) * dv f s 0)
def isR30 (f : List Int) (s : Int) : Bool := (List.range 30).all fun i => decide (dv f s i = (2 * (i : Int) + 1) * dv f s 0)
/-- what below_evidence's turn leans on, at the pair (a, b) -/
def lowOk (f : List Int) (s : Int) (a b : Nat) : Bool :=
  laOk f s 8 b && (let t := la f s 8 b
  let own := dv f s a
  let more := dv f s t
  let gap := own * ((t : Int) + 1) - more * ((a : Int) + 1)
  let sc := (a : Int) + (t : Int) + 3
  decide (t ≤ 50) && sm (sc * gap - (a : Int) - (t : Int) - 2)) && okLow f s (lowAt f s a b)
def highOk (f : List Int) (s : Int) : Bool := laOk f s 8 1 && decide (la f s 8 1 ≤ 50) && sm ((la f s 8 1 : Int) * (2 * dv f s 0 - 1)) && okHigh f s (high f s)
def nearOk (f : List Int) (s : Int) (a b : Nat) : Bool :=
  btwOk (2 * (a : Int) + 1) (2 * (b : Int) + 1) (dv f s a) (dv f s b) &&
  (let v := btw (2 * (a : Int) + 1) (2 * (b : Int) + 1) (dv f s a) (dv f s b)
   sm v.1 && sm v.2) && (match nearAt f s a b with
    | none => false
    | some q => okNear f s q)
def okM (f : List Int) (s : Int) : Bool := decide (1 ≤ f.length) && decide (f.length ≤ 4) && f.all (fun x => decide (1 ≤ x) && decide (x ≤ 1000)) && decide (1 ≤ s) && decide (s ≤ 1000) &&
  (List.range (f.length - 1)).all fun i => decide (f.getD i 0 ≤ f.getD (i + 1) 0)
def chk (f : List Int) (s : Int) : Bool :=
  okM f s &&
  (match (prs (f.length + 1)).find? fun p => lowT f s p.1 p.2 with
   | none => isN f s && isN30 f s
   | some p => !isN f s && !isN30 f s && lowOk f s p.1 p.2) &&
  (match (prs (f.length + 1)).find? fun p => nearT f s p.1 p.2 with
   | none => isR f s && isR30 f s
   | some p => !isR f s && !isR30 f s && nearOk f s p.1 p.2) &&
  highOk f s && !(isN f s && isR f s)
def ii : Nat → Int → List Int
  | 0, _ => []
  | n + 1, a => a :: ii n (a + 1)
def all1 : Bool := (ii 4 1).all fun b => chk [b] b && chk [b] (2 * b) && chk [7 * b, 15 * b] (10 * b)
def all2 (s : Int) : Bool := (ii 6 1).all fun a => chk [a] s && (ii 5 0).all fun e => chk [a, a + e] s && (ii 5 0).all fun g => chk [a, a + e, a + e + g] s
def all3 (s : Int) : Bool := (ii 6 1).all fun a => (ii 5 0).all fun e => (ii 5 0).all fun g => (ii 5 0).all fun h => chk [a, a + e, a + e + g, a + e + g + h] s
end K53
/-! The check of all drawn methods, by the kernel. -/
namespace K53
theorem all1_ok : all1 = true := by decide +kernel
theorem all2_1 : all2 1 = true := by decide +kernel
theorem all2_2 : all2 2 = true := by decide +kernel
theorem all2_3 : all2 3 = true := by decide +kernel
theorem all2_4 : all2 4 = true := by decide +kernel
theorem all2_5 : all2 5 = true := by decide +kernel
theorem all2_6 : all2 6 = true := by decide +kernel
theorem all3_1 : all3 1 = true := by decide +kernel
theorem all3_2 : all3 2 = true := by decide +kernel
theorem all3_3 : all3 3 = true := by decide +kernel
theorem all3_4 : all3 4 = true := by decide +kernel
theorem all3_5 : all3 5 = true := by decide +kernel
theorem all3_6 : all3 6 = true := by decide +kernel
end K53
/-! What the check says of each drawn method. -/
namespace K53
theorem mem_ii : ∀ {n : Nat} {a x : Int}, a ≤ x → x < a + (n : Int) → x ∈ ii n a
  | 0, a, x, h1, h2 => by omega
  | n + 1, a, x, h1, h2 => by
    unfold ii
    by_cases e : x = a
    · rw [e]
      exact List.mem_cons_self
    · exact List.mem_cons_of_mem _ (mem_ii (by omega) (by omega))
theorem chk_b {b : Int} (h1 : 1 ≤ b) (h4 : b ≤ 4) : chk [b] b = true ∧ chk [b] (2 * b) = true ∧ chk [7 * b, 15 * b] (10 * b) = true := by
  have h := all1_ok
  unfold all1 at h
  rw [List.all_eq_true] at h
  have h2 := h b (mem_ii h1 (by omega))
  simp only [Bool.and_eq_true] at h2
  exact ⟨h2.1.1, h2.1.2, h2.2⟩
theorem a2 {s : Int} (h1 : 1 ≤ s) (h6 : s ≤ 6) : all2 s = true := by
  rcases (show s = 1 ∨ s = 2 ∨ s = 3 ∨ s = 4 ∨ s = 5 ∨ s = 6 by omega) with e | e | e | e | e | e
  · rw [e]; exact all2_1
  · rw [e]; exact all2_2
  · rw [e]; exact all2_3
  · rw [e]; exact all2_4
  · rw [e]; exact all2_5
  · rw [e]; exact all2_6
theorem a3 {s : Int} (h1 : 1 ≤ s) (h6 : s ≤ 6) : all3 s = true := by
  rcases (show s = 1 ∨ s = 2 ∨ s = 3 ∨ s = 4 ∨ s = 5 ∨ s = 6 by omega) with e | e | e | e | e | e
  · rw [e]; exact all3_1
  · rw [e]; exact all3_2
  · rw [e]; exact all3_3
  · rw [e]; exact all3_4
  · rw [e]; exact all3_5
  · rw [e]; exact all3_6
/-- the firsts as the law draws them, with the last one -/
inductive GenL : Nat → List Int → Int → Prop
  | one {a : Int} : 1 ≤ a → a ≤ 6 → GenL 0 [a] a
  | more {i : Nat} {g : List Int} {z e : Int} : GenL i g z → 0 ≤ e → e ≤ 4 → GenL (i + 1) (g ++ [z + e]) (z + e)
theorem GenL.last {i : Nat} {g : List Int} {z : Int} (h : GenL i g z) : ∃ g0, g = g0 ++ [z] := by
  cases h with
  | one h1 h2 => exact ⟨[], rfl⟩
  | more h1 h2 h3 => exact ⟨_, rfl⟩
theorem GenL.len : ∀ {i : Nat} {g : List Int} {z : Int}, GenL i g z → g.length = i + 1
  | _, _, _, .one _ _ => rfl
  | _, _, _, .more h _ _ => by rw [List.length_append, h.len]; rfl
theorem gen0 {g : List Int} {z : Int} (h : GenL 0 g z) : ∃ a, 1 ≤ a ∧ a ≤ 6 ∧ g = [a] ∧ z = a := by
  cases h with
  | one h1 h2 => exact ⟨_, h1, h2, rfl, rfl⟩
theorem genS {i : Nat} {g : List Int} {z : Int} (h : GenL (i + 1) g z) : ∃ g0 z0 e, GenL i g0 z0 ∧ 0 ≤ e ∧ e ≤ 4 ∧ g = g0 ++ [z0 + e] ∧ z = z0 + e := by
  cases h with
  | more h1 h2 h3 => exact ⟨_, _, _, h1, h2, h3, rfl, rfl⟩
theorem chk_gen {i : Nat} {g : List Int} {z s : Int} (hi : i ≤ 3) (h : GenL i g z) (s1 : 1 ≤ s) (s6 : s ≤ 6) : chk g s = true := by
  have h2 := a2 s1 s6
  have h3 := a3 s1 s6
  unfold all2 at h2
  unfold all3 at h3
  rw [List.all_eq_true] at h2 h3
  rcases (show i = 0 ∨ i = 1 ∨ i = 2 ∨ i = 3 by omega) with e | e | e | e
  · subst e
    obtain ⟨a, a1, a6, rfl, rfl⟩ := gen0 h
    have k := h2 _ (mem_ii a1 (by omega))
    rw [Bool.and_eq_true] at k
    exact k.1
  · subst e
    obtain ⟨g0, z0, x, hg, x0, x4, rfl, rfl⟩ := genS h
    obtain ⟨a, a1, a6, rfl, rfl⟩ := gen0 hg
    have k := h2 _ (mem_ii a1 (by omega))
    rw [Bool.and_eq_true, List.all_eq_true] at k
    have k2 := k.2 x (mem_ii x0 (by omega))
    rw [Bool.and_eq_true] at k2
    exact k2.1
  · subst e
    obtain ⟨g1, z1, y, hg1, y0, y4, rfl, rfl⟩ := genS h
    obtain ⟨g0, z0, x, hg, x0, x4, rfl, rfl⟩ := genS hg1
    obtain ⟨a, a1, a6, rfl, rfl⟩ := gen0 hg
    have k := h2 _ (mem_ii a1 (by omega))
    rw [Bool.and_eq_true, List.all_eq_true] at k
    have k2 := k.2 x (mem_ii x0 (by omega))
    rw [Bool.and_eq_true, List.all_eq_true] at k2
    exact k2.2 y (mem_ii y0 (by omega))
  · subst e
    obtain ⟨g2, z2, u, hg2, u0, u4, rfl, rfl⟩ := genS h
    obtain ⟨g1, z1, y, hg1, y0, y4, rfl, rfl⟩ := genS hg2
    obtain ⟨g0, z0, x, hg, x0, x4, rfl, rfl⟩ := genS hg1
    obtain ⟨a, a1, a6, rfl, rfl⟩ := gen0 hg
    have k := h3 _ (mem_ii a1 (by omega))
    rw [List.all_eq_true] at k
    have k2 := k x (mem_ii x0 (by omega))
    rw [List.all_eq_true] at k2
    have k3 := k2 y (mem_ii y0 (by omega))
    rw [List.all_eq_true] at k3
    exact k3 u (mem_ii u0 (by omega))
end K53
/-! The text by places, what the top has written, small lemmas. -/
namespace K53
open PySem PySem.Spec PyProof.Rows L2
def topS (i : Nat) : Stmt := PySem.Challenge.pw_dividedseats_k53_whole_methods_that_keep.main.body.getD i (.Pass ⟨0, 0, 0, 0⟩)
/-- the def stands, is known by its name, its arguments bind -/
def Has (K : PySem.W.Frag) (mg : Str → Option Value) (x : Str) (i : Nat) (ps : List Str) : Prop := ∃ f fd, Fun K x x (topS i) f fd ∧ Binds K fd ps [] ∧ mg x = some (.ref f)
/-- what the top has left, index_pairs apart -/
structure Txt (K : PySem.W.Frag) (mg : Str → Option Value) : Prop where
  whole : Has K mg "is_whole" 6 ["value", "low", "high"]
  meth : Has K mg "is_method" 7 ["value"]
  divAt : Has K mg "divisor_at" 8 ["method", "index"]
  divTo : Has K mg "divisors_to" 9 ["method", "many"]
  check : Has K mg "check_method" 10 ["method", "name"]
  count : Has K mg "is_count" 13 ["value"]
  counts : Has K mg "is_pair_of_counts" 14 ["value"]
  simp : Has K mg "simplest" 15 ["low", "high"]
  btw : Has K mg "votes_between" 16 ["one", "other"]
  fair : Has K mg "is_fair" 17 ["divisors", "votes", "own", "more"]
  divs : Has K mg "divisions" 18 ["method", "votes", "house"]
  below : Has K mg "is_below" 20 ["part", "whole", "own"]
  above : Has K mg "is_above" 21 ["part", "whole", "own"]
  trans : Has K mg "transfer_of" 22 ["votes", "seats"]
  ixs : Has K mg "indexes_of" 25 ["method"]
  never : Has K mg "is_never_below" 26 ["method"]
  isnear : Has K mg "is_near" 27 ["method"]
  goes : Has K mg "goes_below" 28 ["method"]
  always : Has K mg "is_always_near" 29 ["method"]
  last : Has K mg "last_alike" 30 ["method", "index"]
  least : Has K mg "least_many" 31 ["part", "whole"]
  lowE : Has K mg "below_evidence" 32 ["method"]
  highE : Has K mg "above_evidence" 33 ["method"]
  nearE : Has K mg "near_evidence" 34 ["method"]
  against : Has K mg "is_against" 35 ["method", "value"]
  quota : Has K mg "quota_against" 36 ["value"]
  accB : Has K mg "accepts_below" 37 ["method", "value"]
  accA : Has K mg "accepts_above" 38 ["method", "value"]
  accN : Has K mg "accepts_not_near" 39 ["method", "value"]
  lStream : Has K mg "_law_stream" 41 ["_law_script"]
  lNext : Has K mg "_law_next" 42 ["_law_stream_here", "_law_many"]
  lMeth : Has K mg "_law_method" 44 ["_law_stream_here"]
  lDivs : Has K mg "_law_divisors" 45 ["_law_method_here", "_law_many"]
  lFair : Has K mg "_law_is_fair" 47 ["_law_divisors_here", "_law_votes", "_law_seats"]
  lAgainst : Has K mg "_law_is_against" 49 ["_law_method_here", "_law_value", "_law_low"]
  lNotNear : Has K mg "_law_is_not_near" 50 ["_law_method_here", "_law_value"]
  mostF : ∃ t, mg "MOST_FIRSTS" = some (.int 6 t)
  mostD : ∃ t, mg "MOST_DIVISOR" = some (.int 1000 t)
  mostE : ∃ t, mg "MOST_EACH" = some (.int 100 t)
  isinstance : mg "isinstance" = none
  int : mg "int" = none
  bool : mg "bool" = none
  tuple : mg "tuple" = none
  len : mg "len" = none
  all : mg "all" = none
  any : mg "any" = none
  range : mg "range" = none
  sum : mg "sum" = none
  enumerate : mg "enumerate" = none
  list : mg "list" = none
  abs : mg "abs" = none
  min : mg "min" = none
  sorted : mg "sorted" = none
theorem tyT {K : PySem.W.Frag} {H : Hp} {a : Addr} {xs : List V} (h : SqT K H a xs) : TyX K H (.ref a) (.type "tuple") := by
  rcases h with (h | ⟨o, h⟩) | ⟨o, its, n, h1, h2, _⟩
  · exact .base (.tup h)
  · exact .fTuple h
  · exact .kTuple h1 h2
theorem k_int_int {K : PySem.W.Frag} : PySem.W.kitOne K (.type "int") (.type "int") = some true := kit_ty (by decide +kernel)
theorem k_int_bool {K : PySem.W.Frag} : PySem.W.kitOne K (.type "int") (.type "bool") = some false := kit_ty (by decide +kernel)
theorem k_bool_bool {K : PySem.W.Frag} : PySem.W.kitOne K (.type "bool") (.type "bool") = some true := kit_ty (by decide +kernel)
theorem k_tup_tup {K : PySem.W.Frag} : PySem.W.kitOne K (.type "tuple") (.type "tuple") = some true := kit_ty (by decide +kernel)
theorem b_isinstance : bootBuiltins "isinstance" = some (.builtin "isinstance") := by decide +kernel
theorem b_int : bootBuiltins "int" = some (.type "int") := by decide +kernel
theorem b_bool : bootBuiltins "bool" = some (.type "bool") := by decide +kernel
theorem b_tuple : bootBuiltins "tuple" = some (.type "tuple") := by decide +kernel
theorem b_list : bootBuiltins "list" = some (.type "list") := by decide +kernel
theorem b_all : bootBuiltins "all" = some (.builtin "all") := by decide +kernel
theorem b_any : bootBuiltins "any" = some (.builtin "any") := by decide +kernel
theorem b_sum : bootBuiltins "sum" = some (.builtin "sum") := by decide +kernel
theorem b_min : bootBuiltins "min" = some (.builtin "min") := by decide +kernel
theorem b_abs : bootBuiltins "abs" = some (.builtin "abs") := by decide +kernel
theorem b_len : bootBuiltins "len" = some (.builtin "len") := by decide +kernel
/-! ### heaps -/
theorem same_upd {H : Hp} {p : Addr} {o : HO} (h : H p = none) : Same H (upd H p o) := fun b x e => by
  rw [upd_ne (ne_of_none e h)]
  exact e
theorem same_updR {H H' : Hp} {p : Addr} {o : HO} (s : Same H H') (h : H p = none) : Same H (upd H' p o) := fun b x e => by
  rw [upd_ne (ne_of_none e h)]
  exact s _ _ e
theorem same_updR' {H H' : Hp} {p : Addr} {o : HO} (s : Same H H') (h : H' p = none) : Same H (upd H' p o) := s.trans (same_upd h)
theorem Same.tup {K : PySem.W.Frag} {H H' : Hp} {a : Addr} {xs : List V} (e : Same H H') (h : SqT K H a xs) : SqT K H' a xs := by
  rcases h with (h | ⟨o, h⟩) | h
  · exact .inl (.inl (e _ _ h))
  · exact .inl (.inr ⟨o, e _ _ h⟩)
  · exact .inr h
theorem sml {n : Nat} (h : n ≤ 100000) : n ≤ sizeLine := Nat.le_trans h (by decide)
theorem sml' {n : Nat} (h : n ≤ 100000) : n < sizeLine := Nat.lt_of_le_of_lt h (by decide)
theorem at0 {α : Type} {x : α} {r : List α} : atI (x :: r) 0 = some x := atI_nat (j := 0) rfl
theorem at1 {α : Type} {x y : α} {r : List α} : atI (x :: y :: r) 1 = some y := atI_nat (j := 1) rfl
theorem at3 {α : Type} {x y z u : α} {r : List α} : atI (x :: y :: z :: u :: r) 3 = some u := atI_nat (j := 3) rfl
theorem atN {xs : List V} {i : Nat} {v : V} (h : xs[i]? = some v) : atI xs (i : Int) = some v := atI_nat h
theorem bl_t {p : Prop} [Decidable p] (h : p) : V.bl (decide p) = V.bl true := congrArg V.bl (decide_eq_true h)
theorem bl_f {p : Prop} [Decidable p] (h : ¬ p) : V.bl (decide p) = V.bl false := congrArg V.bl (decide_eq_false h)
theorem tYesI {σ : L2.St} {H : Hp} {Q : Bool → Hp → Prop} (h : Q true H) : tYes σ H Q := h
/-! ### the method as it stands -/
def Meth (K : PySem.W.Frag) (H : Hp) (a : Addr) (f : List Int) (s : Int) : Prop := ∃ b, SqT K H a [.ref b, .int s] ∧ SqT K H b (f.map V.int)
theorem Meth.same {K : PySem.W.Frag} {H H' : Hp} {a : Addr} {f : List Int} {s : Int} (e : Same H H') (h : Meth K H a f s) : Meth K H' a f s := by
  obtain ⟨b, h1, h2⟩ := h
  exact ⟨b, Same.tup e h1, Same.tup e h2⟩
structure OkM (f : List Int) (s : Int) : Prop where
  n1 : 1 ≤ f.length
  n4 : f.length ≤ 4
  lo : ∀ x ∈ f, 1 ≤ x ∧ x ≤ 1000
  s1 : 1 ≤ s ∧ s ≤ 1000
  asc : ∀ (i : Nat) (x y : Int), f[i]? = some x → f[i + 1]? = some y → x ≤ y
theorem okM_of {f : List Int} {s : Int} (h : okM f s = true) : OkM f s := by
  unfold okM at h
  simp only [Bool.and_eq_true, decide_eq_true_eq, List.all_eq_true] at h
  obtain ⟨⟨⟨⟨⟨h1, h2⟩, h3⟩, h4⟩, h5⟩, h6⟩ := h
  refine ⟨h1, h2, h3, ⟨h4, h5⟩, fun i x y e1 e2 => ?_⟩
  have hl : i + 1 < f.length := (List.getElem?_eq_some_iff.mp e2).1
  have h7 := h6 i (List.mem_range.mpr (by omega))
  rw [List.getD_eq_getElem?_getD, List.getD_eq_getElem?_getD, e1, e2] at h7
  exact h7
theorem dv_in {f : List Int} {s : Int} {i : Nat} {x : Int} (h : f[i]? = some x) : dv f s i = x := by
  unfold dv
  rw [h]
theorem dv_out {f : List Int} {s : Int} {i : Nat} (h : f.length ≤ i) : dv f s i = f.getLastD 0 + s * ((i : Int) + 1 - (f.length : Int)) := by
  unfold dv
  rw [List.getElem?_eq_none h]
theorem OkM.last {f : List Int} {s : Int} (O : OkM f s) : ∃ g z, f = g ++ [z] ∧ f.getLastD 0 = z ∧ 1 ≤ z ∧ z ≤ 1000 := by
  have hne : f ≠ [] := fun e => by
    have h1 := O.n1
    rw [e] at h1
    exact absurd h1 (by decide)
  refine ⟨f.dropLast, f.getLast hne, (List.dropLast_concat_getLast hne).symm, ?_, ?_⟩
  · rw [List.getLastD_eq_getLast?, List.getLast?_eq_some_getLast hne]
    rfl
  · exact O.lo _ (List.getLast_mem hne)
theorem OkM.dv {f : List Int} {s : Int} (O : OkM f s) {i : Nat} (h : i ≤ 1000) : 1 ≤ dv f s i ∧ dv f s i ≤ 2000000 := by
  cases e : f[i]? with
  | some x =>
    rw [dv_in e]
    have := O.lo x (List.mem_of_getElem? e)
    omega
  | none =>
    have hl : f.length ≤ i := List.getElem?_eq_none_iff.mp e
    rw [dv_out hl]
    obtain ⟨g, z, _, e2, z1, z2⟩ := O.last
    rw [e2]
    have h1 := O.n1
    have s1 := O.s1
    have k0 : (0 : Int) ≤ (i : Int) + 1 - (f.length : Int) := by omega
    have k1 : (i : Int) + 1 - (f.length : Int) ≤ 1000 := by omega
    have m0 : 0 ≤ s * ((i : Int) + 1 - (f.length : Int)) := Int.mul_nonneg (by omega) k0
    have m1 : s * ((i : Int) + 1 - (f.length : Int)) ≤ 1000 * 1000 := Int.mul_le_mul s1.2 k1 k0 (by decide)
    omega
end K53
/-! Rules that the layer lacks: sum, min, enumerate of a tuple. -/
namespace K53
open PySem PySem.Spec PyProof.Rows L2
section
variable {X : Cx}
def rSumT (K : PySem.W.Frag) : List V → Hp → VK → Prop := fun vs H Q => ∃ (a : Addr) (x y : Int), vs = [V.ref a] ∧ SqT K H a [.int x, .int y] ∧ Q (.int (x + y)) H
theorem cr_sumT (hc : X.calm = true) : CallR X (.builtin "sum") (rSumT X.K) := by
  intro pins s σ H vs us Q I r h
  obtain ⟨a, x, y, rfl, hs, q⟩ := h
  obtain ⟨its, rv, ht, _⟩ := I.tuple hs
  rw [Vals.ref1 r]
  have hi : IntsAre its [x, y] := Vals.ints (ns := [x, y]) rv
  obtain ⟨ps, e⟩ := hi.allInts.items
  have hn : numsOf (intItems ps).toList = [x, y] := by
    rw [← e]
    exact hi.numsOf
  rw [nums_intItems] at hn
  rw [e] at ht
  refine PySem.W.ktm_sumG (I.ok.hd hc) (show s.heap.IsTuple a (intItems ps) from ht) fun h' tk t' hk => ?_
  refine ⟨.int (x + y), H, I.kept hk, ⟨t', ?_⟩, q⟩
  rw [preSum_eq, List.take_of_length_le (by simp), hn]
  show Value.int (x + (y + 0)) t' = _
  rw [Int.add_zero]
/-- min of a tuple of ints: one of them -/
def rMinT (K : PySem.W.Frag) : List V → Hp → VK → Prop := fun vs H Q => ∃ (a : Addr) (ns : List Int), vs = [V.ref a] ∧ SqT K H a (ns.map V.int) ∧ 0 < ns.length ∧ ∀ m, m ∈ ns → Q (.int m) H
theorem cr_minT (hc : X.calm = true) : CallR X (.builtin "min") (rMinT X.K) := by
  intro pins s σ H vs us Q I r h
  obtain ⟨a, ns, rfl, hs, hne, q⟩ := h
  obtain ⟨its, rv, ht, _⟩ := I.tuple hs
  rw [Vals.ref1 r]
  have hi : IntsAre its ns := rv.ints
  obtain ⟨ps, e⟩ := hi.allInts.items
  have hn : numsOf (intItems ps).toList = ns := by
    rw [← e]
    exact hi.numsOf
  rw [nums_intItems] at hn
  rw [e] at ht
  have hT : s.heap.IsTuple a (intItems ps) := ht
  have hlt : a < s.heap.objs.size := ht.lt
  have hsz : (intItems ps).size = ps.size := by simp [intItems]
  have hpos : 0 < ps.size := by
    rw [← hn] at hne
    simpa using hne
  have Wk := Walks.tuple (prog := X.prog) (w := X.w) (A := X.A.in1) (I.ok.hd hc) s.heap.objs.size a (Nat.ne_of_lt hlt) (intItems ps)
  refine call_min_walk (wpAny_pyIter_tuple hT ⟨s.heap.objs.size, _, _, _, _, _, _, rfl, Wk, ⟨⟨_, Heap.get?_push_size _ rfl, rfl, rfl⟩, hT.at fun o z => Heap.get?_push_of_some _ z⟩, fun b hb => ?_, by rw [hsz]; exact hpos, CmpOf.ints_lt (numAt ps) (fun _ _ => intItems_at), fun v h' tk hP hk => ?_⟩)
  · rcases List.mem_cons.mp hb with rfl | hb
    · exact Heap.lt_size (Heap.get?_push_size _ rfl)
    · rw [List.mem_singleton.mp hb]
      show a < (s.heap.push _).objs.size
      rw [Heap.size_push]
      exact Nat.lt_succ_of_lt hlt
  · obtain ⟨t, rfl⟩ := intItems_at hP
    have hin : argBest (fun i j => decide (numAt ps i < numAt ps j)) ((intItems ps).size - 1) < (intItems ps).size := (Array.getElem?_eq_some_iff.mp hP).1
    refine ⟨.int _, H, I.kept (t' := tk) fun b u z => hk b u (fun hm => ?_) (Heap.get?_push_of_some _ z), ⟨t, rfl⟩, q _ ?_⟩
    · have z2 := Heap.lt_size z
      rw [List.mem_singleton.mp hm] at z2
      exact absurd z2 (Nat.lt_irrefl _)
    · rw [numAt_eq, ← hn]
      exact PySem.getD_mem (by rw [List.length_map, Array.length_toList]; omega)
end
/-! ### enumerate(tuple) -/
theorem meets_enum_tup (t : Addr) (items : Array Value) (n : Nat) (dct : Option Addr) (sl : Array (Option Value)) :
    Meets (Builtin.«enumerate.__new__» ⟨[.type "enumerate", .ref t], []⟩) (fun _ R s =>
      s.heap.get? t = some { cls := .type "tuple", dict := dct, data := .seq items n, slots := sl } ∧
      R (.ok (.ret (.ref (s.heap.push { cls := .type "tuple_iterator", data := .fields #[.ref t, .int 0 0] }).objs.size)))
        { s with heap := (s.heap.push { cls := .type "tuple_iterator", data := .fields #[.ref t, .int 0 0] }).push { cls := .type "enumerate", data := .fields #[.none, .bool false, .ref s.heap.objs.size, rawInt 0, .none, .none] } }) := by
  refine .of_wp fun prog w A R s h => ?_
  obtain ⟨hp, g, d, tk, os⟩ := s
  obtain ⟨hl, h⟩ := h
  have hsub := sub_enumerate
  have hT : Heap.IsTuple (Shared.heap ⟨hp, g, d, tk, os⟩) t items := ⟨_, hl, rfl, n, rfl⟩
  wp_walk using AutoSeq1.wpAny_loadPart' hl
  refine wpAny_stack_any fun st => wpAny_pure ?_
  split
  · rename_i c _ _ _ _ _
    cases (c == Value.type "enumerate") <;>
      (wp_walk using AutoSeq1.wpAny_loadPart' hl, wpAny_pyIter_tuple hT
       exact ⟨_, rfl, h⟩)
  · wp_walk using AutoSeq1.wpAny_loadPart' hl, wpAny_pyIter_tuple hT
    exact ⟨_, rfl, h⟩
end K53
/-! for i, x in enumerate(t), t a tuple. -/
namespace K53
open PySem PySem.Spec PyProof.Rows L2
theorem call_enum_tup {prog : Program} {w : World} {A : Around} {E : Value → Shared → Prop} {s : Shared} {t : Addr} {items : Array Value} {Q : Value → Shared → Prop} (hT : s.heap.IsTuple t items)
    (h : ∀ h', IsEnum h' (s.heap.objs.size + 1) s.heap.objs.size 0 .none → h'.IsTupleIter s.heap.objs.size t 0 →
      (∀ b o, s.heap.get? b = some o → h'.get? b = some o) → Q (.ref (s.heap.objs.size + 1)) { s with heap := h' }) : wpAny (model prog w) A (call (.type "enumerate") [.ref t]) Q E s := by
  obtain ⟨o, ho, oc, n, od⟩ := hT
  obtain ⟨cls, dct, dat, sl⟩ := o
  obtain rfl : cls = .type "tuple" := oc
  obtain rfl : dat = .seq items n := od
  refine callType_new F.called_enumerate (by decide) (F.typeCall_enumerate_1 _) (F.newCall_enumerate_1 _) (fun obj => F.args_object_init_2 obj _) F.entry_enumerate_new (meets_enum_tup t items n dct sl) ⟨ho, ?_⟩
  have hz : (s.heap.push { cls := .type "tuple_iterator", data := .fields #[.ref t, .int 0 0] }).objs.size = s.heap.objs.size + 1 := by rw [Heap.size_push]
  show _ ∧ _
  rw [hz]
  have he : IsEnum ((s.heap.push { cls := .type "tuple_iterator", data := .fields #[.ref t, .int 0 0] }).push { cls := .type "enumerate", data := .fields #[.none, .bool false, .ref s.heap.objs.size, rawInt 0, .none, .none] })
      (s.heap.objs.size + 1) s.heap.objs.size 0 .none := by
    have q := Heap.get?_push_size (s.heap.push { cls := .type "tuple_iterator", data := .fields #[.ref t, .int 0 0] }) (o := { cls := .type "enumerate", data := .fields #[.none, .bool false, .ref s.heap.objs.size, rawInt 0, .none, .none] }) rfl
    rw [hz] at q
    exact q
  exact ⟨⟨_, he, rfl⟩, h _ he ⟨_, Heap.get?_push_of_some _ (Heap.get?_push_size _ rfl), rfl, rfl⟩ fun b u z => Heap.get?_push_of_some _ (Heap.get?_push_of_some _ z)⟩
/-- the tuple at a, each item in a new pair -/
def Itet (K : PySem.W.Frag) (a : Addr) : It :=
  ⟨fun i H => ∃ (xs : List V) (x : V), SqT K H a xs ∧ xs[i]? = some x,
   fun i H v H' => ∃ T x, v = .ref T ∧ H T = none ∧ H' = upd H T (.tup [.int (i : Nat), x]) ∧ ∀ ys, SqT K H a ys → ys[i]? = some x,
   fun i H => ∃ xs : List V, SqT K H a xs ∧ xs.length = i⟩
theorem turn_enumT {P : Program} {w : World} {K : PySem.W.Frag} {elts : List Expr} {kk : Nat} {tpos : Pos} (a e it : Addr) :
    Turn P w K (.Tuple elts kk tpos) (Itet K a) [e, it] e (fun i h => (∃ old, IsEnum h e it ((i : Nat) : Int) old) ∧ h.IsTupleIter it a i ∧ e ≠ it) := by
  refine ⟨by simp, fun i h now b inb => ?_, fun i h h' now k => ?_, ?_, ?_, fun A i s Q E now h => ?_⟩
  · obtain ⟨⟨old, ge⟩, ⟨o, ho, hc, hd⟩, _⟩ := now
    rcases List.mem_cons.mp inb with z | z
    · rw [z]
      exact ⟨_, ge, fun v q => nomatch q⟩
    · rw [List.mem_singleton.mp z]
      exact ⟨o, ho, fun v q => by rw [hd] at q; cases q⟩
  · obtain ⟨⟨old, ge⟩, hi, apart⟩ := now
    exact ⟨⟨old, k e (by simp) _ ge⟩, hi.at fun o q => k it (by simp) o q, apart⟩
  · intro X hP hw hK hc i pins s σ H E I fp4 now hg
    subst hP hw hK
    obtain ⟨⟨old, ge⟩, gi, apart⟩ := now
    obtain ⟨xs, x, gq, gx⟩ := hg
    obtain ⟨its, vv, p, gz⟩ := I.tuple gq
    obtain ⟨u, gu, gr⟩ := vv.get gx
    have hT : s.heap.IsTuple a its.toArray := p
    have ltE : e < s.heap.objs.size := Heap.lt_size ge
    have ltI : it < s.heap.objs.size := by
      obtain ⟨_, q, _⟩ := gi
      exact Heap.lt_size q
    have nae : a ≠ e := fun z => by
      obtain ⟨o, ho, hc', _⟩ := hT
      rw [z, ge] at ho
      cases ho
      exact absurd (Value.type.inj hc') (by decide)
    have nai : a ≠ it := fun z => by
      obtain ⟨o, ho, hc', _⟩ := hT
      obtain ⟨o2, ho2, hc2, _⟩ := gi
      rw [z, ho2] at ho
      cases ho
      rw [hc2] at hc'
      exact absurd (Value.type.inj hc') (by decide)
    have hlen : i < its.toArray.size := by
      rw [List.size_toArray]
      exact (List.getElem?_eq_some_iff.mp gu).1
    refine wpAny_pyNext_enum_itemC (Draws.tuple (A := X.A.in1) (I.ok.hd hc) it a nai its.toArray) ge ⟨gi, hT⟩ hlen apart (by simp [apart, nae.symm]) fun y h' tk hy ho gi2 hT' hsz hk => ?_
    have ey : y = u := by
      have hy' : its.toArray[i]? = some y := hy
      rw [List.getElem?_toArray, gu] at hy'
      exact (Option.some.inj hy').symm
    subst ey
    refine ⟨_, rfl, wpAny_letOwnedTupleGo_enum (s := { s with heap := h', toks := tk + 1 }) ho fun h'' ge2 sb => ?_⟩
    have hT2 : h''.get? s.heap.objs.size = some { cls := .type "tuple", data := .seq #[.int i tk, y] } := (sb.2 _ (Nat.ne_of_gt ltE)).trans hT'
    have mkd : ObjOk X.prog X.w (upd H s.heap.objs.size (.tup [.int (i : Nat), x])) h'' s.heap.objs.size (.tup [.int (i : Nat), x]) :=
      ⟨sml (show 2 ≤ 100000 by decide), [.int i tk, y], .cons ⟨_, rfl⟩ (.cons gr .nil), ⟨_, hT2, rfl, _, rfl⟩⟩
    have J1 : Inv X pins σ (upd H s.heap.objs.size (.tup [.int (i : Nat), x])) { s with heap := h'', toks := tk + 1 } :=
      I.turnedNew (ch := [e, it]) (fun b ob inb q => (sb.2 b fun z => inb (by simp [z])).trans (hk b ob (fun z => inb (by simp [z])) (fun z => inb (by simp [z])) q)) fp4 (Nat.le_refl _) mkd
    refine ⟨.ref s.heap.objs.size, _, J1, rfl, ⟨_, x, rfl, I.hok.fresh (Nat.le_refl _), rfl, fun ys hy2 => by rw [I.tuple_inj hy2 gq]; exact gx⟩, ⟨⟨y, ?_⟩, ?_, apart⟩, fun b inb => ?_⟩
    · rw [show ((i + 1 : Nat) : Int) = (i : Int) + 1 by omega]
      exact ge2
    · exact gi2.1.at fun o q => (sb.2 it apart.symm).trans q
    · have blt : b < s.heap.objs.size := by
        rcases List.mem_cons.mp inb with z | z
        · rw [z]
          exact ltE
        · rw [List.mem_singleton.mp z]
          exact ltI
      rw [upd_ne (Nat.ne_of_lt blt)]
      exact (fp4 b inb).1
  · intro X hP hw hK hc i pins s σ H E I fp4 now hg
    subst hP hw hK
    obtain ⟨⟨old, ge⟩, gi, apart⟩ := now
    obtain ⟨xs, gq, gx⟩ := hg
    obtain ⟨its, vv, p, gz⟩ := I.tuple gq
    obtain ⟨k0, k1, k2, k3, k4, k5⟩ := fp4 it (by simp)
    have hl := vv.length
    have hT : s.heap.IsTuple a its.toArray := p
    have nai : a ≠ it := fun z => by
      obtain ⟨o, ho, hc', _⟩ := hT
      obtain ⟨o2, ho2, hc2, _⟩ := gi
      rw [z, ho2] at ho
      cases ho
      rw [hc2] at hc'
      exact absurd (Value.type.inj hc') (by decide)
    have hn : its.toArray.size = i := by
      rw [List.size_toArray, ← hl]
      exact gx
    refine wpAny_pyNext_enum_endD (Draws.tuple (A := X.A.in1) (I.ok.hd hc) it a nai its.toArray) ge ⟨by rw [hn]; exact gi, hT⟩ fun h' eb => ?_
    exact ⟨rfl, I.turned (t' := s.toks) (fun b o inb q => eb b o inb q) k0 k1 k3 k4 k5⟩
  · obtain ⟨⟨_, ge⟩, _⟩ := now
    exact wpAny_pyIter_enum ge h
def iEnumT (K : PySem.W.Frag) (ta : TA) : TI := fun σ H R => ta σ H fun vs H1 => ∃ a xs, vs = [.ref a] ∧ SqT K H1 a xs ∧ R (Itet K a) H1
theorem pi_enumT {X : Cx} {e : Expr} {ta : TA} {p pos tpos : Pos} {elts : List Expr} {kk : Nat} (hg : Gl X "enumerate") (hm : X.mg "enumerate" = none) (ha : PA X [e] ta)
    (hs : starEach [e] X.env = [(false, eval e X.env)] := by rfl) : PI X (.Tuple elts kk tpos) (.Call (.Name "enumerate" p) [e] [] pos) (iEnumT X.K ta) := by
  refine ⟨fun pins s σ H R I h => ?_⟩
  refine Call_ (ld_blt I hg hm boot_enumerate (callWith_type1 (thn (ha.run pos pins s σ H _ I h) fun us s1 hh => ?_) hs rfl))
  obtain ⟨vs, H1, J1, r1, a, xs, ex, gq, q⟩ := hh
  subst ex
  rw [Vals.ref1 r1]
  obtain ⟨its, vv, p', gz⟩ := J1.tuple gq
  refine call_enum_tup (show s1.heap.IsTuple a its.toArray from p') fun h' ge gi hk => wpAny_pyIter_enum ge ?_
  have J2 : Inv X pins σ H1 { s1 with heap := h' } := J1.kept (t' := s1.toks) hk
  refine ⟨s1.heap.objs.size + 1, [s1.heap.objs.size + 1, s1.heap.objs.size], _, _, H1, rfl, J2, turn_enumT a (s1.heap.objs.size + 1) s1.heap.objs.size, ⟨⟨.none, ge⟩, gi, Nat.succ_ne_self _⟩, fun b inb => ?_, q⟩
  have ble : s1.heap.objs.size ≤ b := by
    rcases List.mem_cons.mp inb with z | z
    · rw [z]
      exact Nat.le_succ _
    · rw [List.mem_singleton.mp z]
      exact Nat.le_refl _
  exact J1.fpOk ble (J1.hok.fresh ble)
end K53
/-! sorted(pairs, key=lambda pair: (pair[0] + pair[1], pair[0])). -/
namespace K53
open PySem PySem.Spec PyProof.Rows L2
/-- the lambda's parts -/
def lamP (pp : Pos) : Arguments := { posonlyargs := [], args := [{ arg := "pair", annotation := none, pos := pp : Arg }], vararg := none, kwonlyargs := [], kw_defaults := [], kwarg := none, defaults := [] }
def lamSc : Scope := { kind := .function, names := [("pair", .local)], isGenerator := false, isCoroutine := false, more := [] }
section
variable {prog : Program} {w : World} {A : Around} {E : Value → Shared → Prop} {s : Shared} {t : Addr} {a b : Int} {ta tb : Tok}
theorem pair_at {env : Env} {m : Str → Option Value} {p1 p2 p3 : Pos} {j1 : Nat} {i : Nat} {z : Int} {tz : Tok} {Q : Value → Shared → Prop} (hk : env.scope.kind = .function) (hl : env.kindOf "pair" = some .local) (hn : s.heap.Ns env.locals m) (hv : m "pair" = some (.ref t))
    (ht : IsTup s.heap t #[.int a ta, .int b tb]) (hi : i < 2) (hz : (#[.int a ta, .int b tb] : Array Value)[i]? = some (.int z tz)) (h : Q (.int z tz) { s with toks := s.toks + 1 }) :
    wpAny (model prog w) A (eval (.Subscript (.Name "pair" p1) (.Constant (.int (i : Nat)) j1 p2) p3) env) Q E s := by
  refine Subscript_ (wpAny_Name (wpAny_loadName_local hk hl hn hv (wpAny_Constant_int ?_)) (by decide))
  have ht' : IsTup ({ s with toks := s.toks + 1 } : Shared).heap t #[.int a ta, .int b tb] := ht
  refine subscriptTail_builtinR (x := .int z tz) ht'.typeIs slot_tuple_getitem.lookup (getItem_tuple (j := i) ht' (by omega) (by omega) ?_ hz ⟨rfl, h⟩) rfl
  rcases (show i = 0 ∨ i = 1 by omega) with e | e
  · rw [e]
    rfl
  · rw [e]
    rfl
def lamB (p1 p2 p3 p4 p5 p6 p7 p8 p9 p10 p11 : Pos) (j1 j2 j3 k : Nat) : Expr :=
  .Tuple [.BinOp (.Subscript (.Name "pair" p1) (.Constant (.int 0) j1 p2) p3) .Add (.Subscript (.Name "pair" p4) (.Constant (.int 1) j2 p5) p6) p7, .Subscript (.Name "pair" p8) (.Constant (.int 0) j3 p9) p10] k p11
theorem lam_body {env : Env} {m : Str → Option Value} {p1 p2 p3 p4 p5 p6 p7 p8 p9 p10 p11 : Pos} {j1 j2 j3 k : Nat} {Q : Value → Shared → Prop} (hk : env.scope.kind = .function) (hl : env.kindOf "pair" = some .local) (hn : s.heap.Ns env.locals m) (hv : m "pair" = some (.ref t))
    (ht : IsTup s.heap t #[.int a ta, .int b tb]) (h : ∀ v h' tk, (∀ b o, s.heap.get? b = some o → h'.get? b = some o) → Reads h' v (.tuple [.int (a + b), .int a]) [] → Q v { s with heap := h', toks := tk }) :
    wpAny (model prog w) A (eval (lamB p1 p2 p3 p4 p5 p6 p7 p8 p9 p10 p11 j1 j2 j3 k) env) Q E s := by
  refine wpAny_Tuple_spliced ?_
  refine Calls.spliced_cons (wpAny_BinOp (pair_at (i := 0) hk hl hn hv ht (by decide) rfl (pair_at (i := 1) hk hl hn hv ht (by decide) rfl (PyProof.Rows.add_int ?_))))
  refine Calls.spliced_cons (pair_at (i := 0) hk hl hn hv ht (by decide) rfl (Calls.spliced_nil ⟨sml (show 2 ≤ 100000 by decide), ?_⟩))
  refine h _ _ _ (fun b o e => Heap.get?_push_of_some _ e) ?_
  refine Reads.tuple (as := []) (Heap.get?_push_size _ rfl) rfl rfl ?_
  exact ReadsAll.cons (as := []) (bs := []) (.int _ _) (ReadsAll.cons (as := []) (bs := []) (.int _ _) .nil)
theorem lam_turn {f c' : Addr} {q : Str} {pm ctv : Value} {pp p1 p2 p3 p4 p5 p6 p7 p8 p9 p10 p11 : Pos} {j1 j2 j3 k : Nat} (hroom : A.depth < recursionLimit) (lim : s.heap.NoLimit)
    (hf : s.heap.get? f = some (PySem.W.kla_obj "<lambda>" q (lamP pp) (lamB p1 p2 p3 p4 p5 p6 p7 p8 p9 p10 p11 j1 j2 j3 k) lamSc [] pm c' ctv)) (hc : s.heap.CodeRec (.ref c') q) (ht : IsTup s.heap t #[.int a ta, .int b tb]) :
    wpAny (model prog w) A (call (.ref f) [.ref t]) (PySem.W.KeyPure (.tuple [.int (a + b), .int a]) s) E s := by
  refine wpAny_call (PySem.W.kla_callFunE hroom hf rfl rfl rfl rfl hc ?_)
  rw [show bindArgs (PySem.W.kla_fn "<lambda>" q (lamP pp) (lamB p1 p2 p3 p4 p5 p6 p7 p8 p9 p10 p11 j1 j2 j3 k) lamSc [] pm (.ref c') ctv) ⟨[Value.ref t], []⟩ = pure [(("pair" : Str), Value.ref t)] from rfl]
  refine wpAny_pure (wpAny_newFunctionEnv (fun y hy => ?_) (fun y hy => ?_) (fun h1 hns hsb => ⟨lim.fresh _ hsb, ?_⟩) rfl)
  · rw [List.mem_singleton.mp hy]
    intro z
    cases z
  · rw [List.mem_singleton.mp hy]
    rfl
  · have kp : ∀ x o, s.heap.get? x = some o → h1.get? x = some o := fun x o e => hsb.extBut x o (Nat.ne_of_lt (Heap.lt_size e)) (Heap.get?_push_of_some _ e)
    refine PySem.W.kla_codeExpr (lam_body (t := t) (a := a) (b := b) (ta := ta) (tb := tb) rfl rfl hns rfl (ht.keeps kp) fun v h' tk kq rd => ?_)
    exact ⟨h', tk, rfl, fun x o e => kq x o (kp x o e), rd⟩
end
end K53
/-! the rule of sorted with that key. -/
namespace K53
open PySem PySem.Spec PyProof.Rows L2 LamX
abbrev Prs (H : Hp) : List Addr → List (Int × Int) → Prop := PySem.W.EachIs fun t p => H t = some (.tup [.int p.1, .int p.2])
def keyD (p : Int × Int) : PyData := .tuple [.int (p.1 + p.2), .int p.1]
theorem prs_vals {H : Hp} : ∀ {ts : List Addr} {ps : List (Int × Int)} {its : List Value}, Prs H ts ps → Vals (ts.map V.ref) its → PySem.W.EachIs (fun v p => ∃ t, v = Value.ref t ∧ H t = some (.tup [.int p.1, .int p.2])) its ps
  | [], [], its, _, r => by
    cases r
    exact .nil
  | t :: ts, p :: ps, its, e, r => by
    cases e with
    | cons h1 h2 =>
      cases r with
      | cons r1 r2 =>
        have r1' : _ = Value.ref t := r1
        exact .cons ⟨t, r1', h1⟩ (prs_vals h2 r2)
  | [], _ :: _, _, e, _ => by cases e
  | _ :: _, [], _, e, _ => by cases e
theorem vals_prs {H : Hp} : ∀ {its : List Value} {ps : List (Int × Int)}, PySem.W.EachIs (fun v p => ∃ t, v = Value.ref t ∧ H t = some (.tup [.int p.1, .int p.2])) its ps → ∃ ts, Prs H ts ps ∧ Vals (ts.map V.ref) its
  | [], [], _ => ⟨[], .nil, .nil⟩
  | v :: its, p :: ps, e => by
    cases e with
    | cons h1 h2 =>
      obtain ⟨t, e1, e2⟩ := h1
      obtain ⟨ts, a1, a2⟩ := vals_prs h2
      exact ⟨t :: ts, .cons e2 a1, .cons e1 a2⟩
  | [], _ :: _, e => by cases e
  | _ :: _, [], e => by cases e
theorem Prs.ext {H H' : Hp} {ts : List Addr} {ps : List (Int × Int)} (e : ExtN H H') (p : Prs H ts ps) : Prs H' ts ps := p.mono fun t q h => e _ _ h fun ps z => by cases z
theorem ExtN.seqL {K : PySem.W.Frag} {H H' : Hp} {a : Addr} {xs : List V} (e : ExtN H H') (h : SqL K H a xs) : SqL K H' a xs := by
  rcases h with (h | ⟨o, h⟩) | h
  · exact .inl (.inl (e _ _ h fun ps z => by cases z))
  · exact .inl (.inr ⟨o, e _ _ h fun ps z => by cases z⟩)
  · exact .inr h
theorem ExtN.seqT {K : PySem.W.Frag} {H H' : Hp} {a : Addr} {xs : List V} (e : ExtN H H') (h : SqT K H a xs) : SqT K H' a xs := by
  rcases h with (h | ⟨o, h⟩) | h
  · exact .inl (.inl (e _ _ h fun ps z => by cases z))
  · exact .inl (.inr ⟨o, e _ _ h fun ps z => by cases z⟩)
  · exact .inr h
def tSortL (K : PySem.W.Frag) (P : Addr) (q : Str) (t : TA) : TE := fun σ H Q => t σ H fun vs H1 => ∃ (a : Addr) (ps : List (Int × Int)) (ts : List Addr), vs = [.ref a] ∧ SqL K H1 a (ts.map V.ref) ∧ Prs H1 ts ps ∧ Tabs [(P, q)] H1 ∧
  ∀ H2 p ts', ExtN H1 H2 → Tabs [(P, q)] H2 → H2 p = none → Prs H2 ts' (ps.mergeSort (PySem.W.dataLe false keyD)) → Q (.ref p) (upd H2 p (.lst (ts'.map V.ref)))
theorem pe_sortLam {X : Cx} {e : Expr} {ta : TA} {c P : Addr} {k : Nat} {p pos lpos kpos pp p1 p2 p3 p4 p5 p6 p7 p8 p9 p10 p11 : Pos} {j1 j2 j3 kk : Nat} (hr : Room k X.A) (hg : Gl X "sorted") (hm : X.mg "sorted" = none) (ha : PA X [e] ta)
    (TB : TabB X.base X.mg c P) (hcode : X.env.code = .ref c) (he : backTo pos (starEach [e] X.env) = (false, eval e X.env) :: backTo pos (starEach [] X.env) := by rfl) (hpl : (backTo pos (starEach [e] X.env)).any (·.1) = false := by rfl) :
    PE X (.Call (.Name "sorted" p) [e] [⟨some "key", .Lambda (lamP pp) (lamB p1 p2 p3 p4 p5 p6 p7 p8 p9 p10 p11 j1 j2 j3 kk) lamSc lpos, kpos⟩] pos) (tSortL X.K P (X.env.qual ++ "<lambda>") ta) := by
  refine ⟨fun pins s σ H Q I h => ?_⟩
  refine wpAny_Call_Name_kw (ld_blt I hg hm boot_sorted ?_)
  refine PyProof.Rows.callWith_kw (thn (ha.run pos pins s σ H _ I h) fun us s1 hh => ?_) he hpl
  obtain ⟨vs, H1, I1, r1, a, ps, ts, ev, hS, hP, hT, q⟩ := hh
  subst ev
  rw [Vals.ref1 r1]
  refine wpAny_evalAll_cons (wpAny_bind (lam_make2 (T := [(P, X.env.qual ++ "<lambda>")]) I1 TB hcode (List.mem_singleton.mpr rfl) (fun y hy _ => by rw [List.mem_singleton.mp hy]) hT rfl (fun y hy e => ?_)
    fun f c' pm ctv H2 s2 I2 eN T2 hf hfn hfr hco => wpAny_bind (wpAny_standAt (wpAny_pure (wpAny_evalAll_nil ?_)))))
  · rw [List.mem_singleton.mp hy] at e
    cases e
  · have hS2 : SqL X.K H2 a (ts.map V.ref) := ExtN.seqL eN hS
    obtain ⟨its, rv, hl, hz⟩ := I2.list hS2
    have eI := prs_vals (Prs.ext eN hP) rv
    have hlen : ps.length ≤ sizeLine := by
      rw [List.length_map] at hz
      rw [← PySem.W.EachIs.length hP]
      exact hz
    refine PySem.W.sorted_key_data (b := false) keyD hl.isList eI (fun d hd d' hd' => ?_) (.inl fun d hd => ?_) hlen (fun x hx => ?_) (ksk_s1 _ _) (fun x => ksk_l1 _ _) (fun x => ksk_t1 f x) (fun v x hR hx h tk kp => ?_) fun out c2 h' tk kp hn hat hlo eo => ?_
    · obtain ⟨x, _, rfl⟩ := List.mem_map.mp hd
      obtain ⟨y, _, rfl⟩ := List.mem_map.mp hd'
      rfl
    · obtain ⟨x, _, rfl⟩ := List.mem_map.mp hd
      exact ⟨_, _, rfl⟩
    · have hun := hr.un
      have hd : (keyD x).depth ≤ 5 := by
        simp [keyD, PyData.depth, PyData.depthAll]
      omega
    · obtain ⟨t, rfl, ht⟩ := hR
      obtain ⟨_, its2, rt, pt⟩ := I2.hok t _ ht
      obtain ⟨u1, u2, e2, r2, r3⟩ := vals2 rt
      obtain ⟨t1, rfl⟩ := r2
      obtain ⟨t2, rfl⟩ := r3
      subst e2
      obtain ⟨⟨oc, vc, tc, g1, g2, g3⟩, _⟩ := I2.hok c' _ hco
      have hd := hr.dp
      refine lam_turn (s := { s2 with heap := h, toks := tk }) (t := t) (a := x.1) (b := x.2) (ta := t1) (tb := t2) (f := f) (show X.A.depth < recursionLimit by omega) (I2.nolimit.keeps kp) (kp _ _ hf) ⟨c', oc, vc, tc, rfl, kp _ _ g1, g2, g3⟩ (pt.keeps kp)
    · obtain ⟨ts', e1, e2⟩ := vals_prs eo
      have hn : H2 (s2.heap.objs.size + 1) = none := I2.hok.fresh (Nat.le_succ _)
      have hl2 : (ts'.map V.ref).length ≤ sizeLine := by
        rw [e2.length, hlo]
        exact hlen
      exact ⟨.ref _, upd H2 (s2.heap.objs.size + 1) (.lst (ts'.map V.ref)), I2.laid (t' := tk) kp (Nat.le_succ _) ⟨hl2, out, c2, e2, hat⟩, rfl, q H2 _ ts' eN T2 hn e1⟩
end K53
/-! index_pairs. -/
namespace K53
open PySem PySem.Spec PyProof.Rows L2 LamX
def prsI (n : Nat) : List (Int × Int) := (prs n).map fun (x : Nat × Nat) => ((x.1 : Int), (x.2 : Int))
def gridL (n i : Nat) : List (Int × Int) := (List.range i).flatMap fun (a : Nat) => (List.range n).map fun (b : Nat) => ((a : Int), (b : Int))
def leP (p q : Int × Int) : Bool := decide (p.1 + p.2 < q.1 + q.2 ∨ (p.1 + p.2 = q.1 + q.2 ∧ p.1 ≤ q.1))
theorem leP_eq : PySem.W.dataLe false keyD = leP := PySem.W.dataLe_ii (fun p : Int × Int => p.1 + p.2) (fun p => p.1)
theorem leP_total : PySem.W.TotalLe leP := by
  refine ⟨fun a b c h1 h2 => ?_, fun a b => ?_⟩
  · unfold leP at *
    simp only [decide_eq_true_eq] at *
    omega
  · unfold leP
    simp only [decide_eq_true_eq]
    omega
theorem leP_same (c a : Int × Int) : PySem.W.sameRank leP c a = (a == c) := by
  obtain ⟨a1, a2⟩ := a
  obtain ⟨c1, c2⟩ := c
  rw [Bool.eq_iff_iff]
  unfold PySem.W.sameRank leP
  simp only [Bool.and_eq_true, decide_eq_true_eq, beq_iff_eq, Prod.mk.injEq]
  omega
theorem sorted_of {m l : List (Int × Int)} (h1 : m.isPerm l = true) (h2 : m.Pairwise fun a b => leP a b = true) : l.mergeSort (PySem.W.dataLe false keyD) = m := by
  rw [leP_eq]
  refine (PySem.W.sort_unique leP_total h2 fun c => ?_).symm
  have e : PySem.W.sameRank leP c = fun x => x == c := funext fun a => leP_same c a
  rw [e, List.filter_beq, List.filter_beq, (List.isPerm_iff.mp h1).count_eq c]
theorem sorted_grid {n : Nat} (h2 : 2 ≤ n) (h5 : n ≤ 5) : (gridL n n).mergeSort (PySem.W.dataLe false keyD) = prsI n := by
  rcases (show n = 2 ∨ n = 3 ∨ n = 4 ∨ n = 5 by omega) with e | e | e | e
  all_goals
    subst e
    exact sorted_of (by decide +kernel) (by decide +kernel)
theorem grid_next (n i : Nat) : gridL n i ++ (List.range n).map (fun (b : Nat) => ((i : Int), (b : Int))) = gridL n (i + 1) := by
  unfold gridL
  rw [List.range_succ, List.flatMap_append, List.flatMap_singleton]
theorem grid_zero (n : Nat) : gridL n 0 = [] := rfl
theorem prs_snoc {H : Hp} {t : Addr} {p : Int × Int} (h : H t = some (.tup [.int p.1, .int p.2])) : ∀ {ts : List Addr} {ps : List (Int × Int)}, Prs H ts ps → Prs H (ts ++ [t]) (ps ++ [p])
  | [], [], _ => .cons h .nil
  | a :: ts, q :: ps, e => by
    cases e with
    | cons h1 h2 => exact .cons h1 (prs_snoc h h2)
  | [], _ :: _, e => by cases e
  | _ :: _, [], e => by cases e
theorem Prs.upd {H : Hp} {ts : List Addr} {ps : List (Int × Int)} {b : Addr} {o : HO} (p : Prs H ts ps) (h : ∀ xs, H b ≠ some (.tup xs)) : Prs (upd H b o) ts ps := p.mono fun t q e => by
  rw [upd_ne fun z => h _ (by rw [← z]; exact e)]
  exact e
/-! ### the def -/
abbrev sPairs : Stmt := topS 12
theorem scPairs : FnScope ["span", "pairs", "one", "two"] ["span"] (defScope sPairs) := ⟨rfl, rfl, rfl, by decide +kernel, rfl, by decide +kernel, by decide +kernel⟩
abbrev lamQ : Str := "index_pairs.<locals>.<lambda>"
def spPairs (P : Addr) : Sp := fun vs H Q _ => ∃ n : Nat, vs = [.int (n : Int)] ∧ 2 ≤ n ∧ n ≤ 5 ∧ Tabs [(P, lamQ)] H ∧
  ∀ H' p ts, ExtN H H' → Tabs [(P, lamQ)] H' → H' p = some (.lst (ts.map V.ref)) → Prs H' ts (prsI n) → Q (.ref p) H'
section
variable {P : Program} {w : World} {K : PySem.W.Frag} {mg : Str → Option Value} {base : Heap}
theorem ok_pairs {f : Addr} {oc kV dc pm ct : Value} {od an : Option Addr} {osl : Array (Option Value)} {c PT : Addr} (lk : K.lookup f = some ⟨oc, od, .func (PySem.W.fnOf "index_pairs" "index_pairs" (defArgs sPairs) (defBody sPairs) (defScope sPairs) .none kV dc pm an (.ref c) ct), osl⟩)
    (hcd : PySem.W.codeIn K (.ref c) "index_pairs" = true) (TB : TabB base mg c PT) (mr : mg "range" = none) (ms : mg "sorted" = none) :
    FnOk P w K mg base CX0 2 f (PySem.W.fnOf "index_pairs" "index_pairs" (defArgs sPairs) (defBody sPairs) (defScope sPairs) .none kV dc pm an (.ref c) ct) ["span"] (spPairs PT) := by
  refine fn_of lk hcd scPairs (fun vs H Q E h => ?_) (fun A outer s H vs Q E hr h => ?_)
  · obtain ⟨n, rfl, _⟩ := h
    rfl
  · obtain ⟨n, rfl, h2, h5, hT, q⟩ := h
    refine ⟨_, pss_cons (ps_setLc2 (i := 1) (own := [("one", 2), ("two", 3)]) (vs1 := [3]) (g := gName 2) (g1 := gName 3) (tt := tYes) (tt1 := tYes) rfl scPairs.nd rfl rfl (sw_true rfl rfl rfl (by decide +kernel))
        (pi_range1 (by rfl) mr (pa_cons (pv 0) pa_nil)) (blkOk_by (N := ["span", "pairs", "one", "two"]) (sc := defScope sPairs) (by decide +kernel)) (by decide)
        (fun _ _ _ _ _ => pg_name (i := 2) scPairs.nd rfl (Or.inl rfl)) (fun _ _ _ _ _ => pts_nil) (fun _ _ _ _ _ => pi_range1 (by rfl) mr (pa_cons (pv 0) pa_nil)) (fun _ _ _ _ _ => pg_name (i := 3) scPairs.nd rfl (Or.inl rfl)) (fun _ _ _ _ _ => pts_nil)
        (fun _ _ _ _ _ => pe_tup (pa_cons (pv 2) (pa_cons (pv 3) pa_nil))))
      (pss_one (ps_ret (pe_sortLam hr (by rfl) ms (pa_cons (pv 1) pa_nil) TB rfl))), ?_⟩
    -- pairs = [..]
    refine ⟨_, rfl, n, rfl, by omega, by omega, fun D nD => ?_⟩
    rw [Int.toNat_natCast]
    have keep : ∀ {H' : Hp} {ts : List Addr} {T : Addr} {x : Int × Int}, Same H H' → H' D = some (.lst (ts.map V.ref)) → H' T = none → ∀ l, Same H (upd (upd H' T (.tup [.int x.1, .int x.2])) D l) := fun {H' ts T x} s e nT l b o z => by
      rw [upd_ne (ne_of_none z nD), upd_ne (ne_of_none (s _ _ z) nT)]
      exact s _ _ z
    refine ⟨fun i m H' => m = n - i ∧ i ≤ n ∧ Same H H' ∧ ∃ ts, H' D = some (.lst (ts.map V.ref)) ∧ Prs H' ts (gridL n i) ∧ ts.length ≤ 5 * i, ⟨n, rfl, Nat.zero_le _, same_upd nD, [], upd_same, .nil, Nat.zero_le _⟩, fun i m H1 hW => ?_⟩
    obtain ⟨em, hi, s1, ts, e1, p1, l1⟩ := hW
    by_cases hlt : i < n
    · refine .inr ⟨hlt, fun H' => Same H H' ∧ ∃ ts, H' D = some (.lst (ts.map V.ref)) ∧ Prs H' ts (gridL n (i + 1)) ∧ ts.length ≤ 5 * (i + 1), fun H' hN => ⟨n - (i + 1), by omega, rfl, by omega, hN⟩, fun x H2 hy => ?_⟩
      obtain ⟨rfl, rfl⟩ := hy
      refine ⟨rfl, tYesI (iteT ?_)⟩
      refine ⟨_, rfl, n, rfl, by omega, by omega, ?_⟩
      rw [Int.toNat_natCast]
      refine ⟨fun j m H' => m = n - j ∧ j ≤ n ∧ Same H H' ∧ ∃ ts, H' D = some (.lst (ts.map V.ref)) ∧ Prs H' ts (gridL n i ++ (List.range j).map fun (b : Nat) => ((i : Int), (b : Int))) ∧ ts.length ≤ 5 * i + j,
        ⟨n, rfl, Nat.zero_le _, s1, ts, e1, by rw [List.range_zero, List.map_nil, List.append_nil]; exact p1, by omega⟩, fun j m H3 hW => ?_⟩
      obtain ⟨em, hj, s3, ts3, e3, p3, l3⟩ := hW
      by_cases hlt3 : j < n
      · refine .inr ⟨hlt3, fun H' => Same H H' ∧ ∃ ts, H' D = some (.lst (ts.map V.ref)) ∧ Prs H' ts (gridL n i ++ (List.range (j + 1)).map fun (b : Nat) => ((i : Int), (b : Int))) ∧ ts.length ≤ 5 * i + (j + 1),
          fun H' hN => ⟨n - (j + 1), by omega, rfl, by omega, hN⟩, fun x H4 hy => ?_⟩
        obtain ⟨rfl, rfl⟩ := hy
        refine ⟨rfl, tYesI (iteT ?_)⟩
        refine ⟨_, rfl, _, rfl, sml (show 2 ≤ 100000 by decide), fun T nT => ?_⟩
        have nTD : D ≠ T := ne_of_none e3 nT
        refine ⟨ts3.map V.ref, by rw [upd_ne nTD]; exact e3, sml' (by rw [List.length_map]; omega), ?_⟩
        refine ⟨keep (x := (((0 : Int) + (i : Int)), ((0 : Int) + (j : Int)))) s3 e3 nT _, ts3 ++ [T], ?_, ?_, by rw [List.length_append, List.length_singleton]; omega⟩
        · rw [upd_same, List.map_append]
          rfl
        · rw [List.range_succ, List.map_append, ← List.append_assoc]
          refine prs_snoc (p := ((i : Int), (j : Int))) ?_ ?_
          · rw [upd_ne nTD.symm, upd_same, Int.zero_add, Int.zero_add]
          · refine Prs.upd (Prs.upd p3 fun xs z => ?_) fun xs z => ?_
            · rw [nT] at z
              cases z
            · rw [upd_ne nTD, e3] at z
              cases z
      · have ej : j = n := by omega
        subst ej
        refine .inl ⟨Nat.le_refl _, s3, ts3, e3, ?_, by omega⟩
        rw [← grid_next]
        exact p3
    · have ei : i = n := by omega
      subst ei
      refine .inl ⟨Nat.le_refl _, ?_⟩
      -- return sorted(pairs, ..)
      refine ⟨_, rfl, D, gridL i i, ts, rfl, SqL.of e1, p1, fun p hp => (hT p hp).ext s1, fun H2 p ts2 eN T2 nH2 pr2 => ?_⟩
      rw [sorted_grid h2 h5] at pr2
      have sp : Same H2 (upd H2 p (.lst (ts2.map V.ref))) := same_upd nH2
      refine q _ p ts2 (ExtN.trans (ExtN.of s1) (ExtN.trans eN (ExtN.of sp))) (fun y hy => (T2 y hy).ext sp) upd_same (Prs.upd pr2 fun xs z => ?_)
      rw [nH2] at z
      cases z
end
end K53
/-! Small defs. -/
namespace K53
open PySem PySem.Spec PyProof.Rows L2
section
variable {P : Program} {w : World} {K : PySem.W.Frag} {mg : Str → Option Value} {base : Heap} {f : Addr} {fd : FuncData}
/-! is_whole -/
theorem sc6 : FnScope ["value", "low", "high"] ["value", "low", "high"] (defScope (topS 6)) := ⟨rfl, rfl, rfl, by decide +kernel, rfl, by decide +kernel, by decide +kernel⟩
def spWhole : Sp := fun vs H Q _ => ∃ x lo hi : Int, vs = [.int x, .int lo, .int hi] ∧ lo ≤ x ∧ x ≤ hi ∧ Q (.bl true) H
theorem ok_whole (F : Fun K "is_whole" "is_whole" (topS 6) f fd) (T : Txt K mg) : FnOk P w K mg base CX0 1 f fd ["value", "low", "high"] spWhole := by
  refine F.ok sc6 (fun vs H Q E h => ?_) (fun cdv A outer s H vs Q E hr h => ?_)
  · obtain ⟨x, lo, hi, rfl, _⟩ := h
    rfl
  · obtain ⟨x, lo, hi, rfl, h1, h2, q⟩ := h
    refine ⟨_, pss_one (ps_ret (pe_and (pe_callB call_isi (by rfl) T.isinstance b_isinstance (pa_cons (pv 0) (pa_cons (pe_bltn (v := .ty "int") (by rfl) T.int b_int rfl) pa_nil)))
      (pe_and (pe_not (pe_callB call_isi (by rfl) T.isinstance b_isinstance (pa_cons (pv 0) (pa_cons (pe_bltn (v := .ty "bool") (by rfl) T.bool b_bool rfl) pa_nil))))
        (pe_one (pe_chain op_le op_le (pv 1) (pv 0) (pv 2)))))), ?_⟩
    refine ⟨_, rfl, _, _, _, _, true, rfl, .ty "int", .base (.int _), k_int_int, true, rfl, iteT ?_⟩
    refine ⟨_, rfl, _, _, _, _, false, rfl, .ty "bool", .base (.int _), k_int_bool, false, rfl, true, rfl, iteT ?_⟩
    refine ⟨_, rfl, _, rfl, _, _, rfl, rfl, _, rfl, ?_⟩
    rw [decide_eq_true h1]
    refine iteT ⟨_, rfl, _, _, rfl, rfl, ?_⟩
    show Q (.bl (decide (x ≤ hi))) H
    rw [decide_eq_true h2]
    exact q
/-! is_count -/
theorem sc13 : FnScope ["value"] ["value"] (defScope (topS 13)) := ⟨rfl, rfl, rfl, by decide +kernel, rfl, by decide +kernel, by decide +kernel⟩
def spCount : Sp := fun vs H Q _ => ∃ x : Int, vs = [.int x] ∧ 1 ≤ x ∧ Q (.bl true) H
theorem ok_count (F : Fun K "is_count" "is_count" (topS 13) f fd) (T : Txt K mg) : FnOk P w K mg base CX0 1 f fd ["value"] spCount := by
  refine F.ok sc13 (fun vs H Q E h => ?_) (fun cdv A outer s H vs Q E hr h => ?_)
  · obtain ⟨x, rfl, _⟩ := h
    rfl
  · obtain ⟨x, rfl, h1, q⟩ := h
    refine ⟨_, pss_one (ps_ret (pe_and (pe_callB call_isi (by rfl) T.isinstance b_isinstance (pa_cons (pv 0) (pa_cons (pe_bltn (v := .ty "int") (by rfl) T.int b_int rfl) pa_nil)))
      (pe_and (pe_not (pe_callB call_isi (by rfl) T.isinstance b_isinstance (pa_cons (pv 0) (pa_cons (pe_bltn (v := .ty "bool") (by rfl) T.bool b_bool rfl) pa_nil))))
        (pe_one (pe_cmpR op_ge (pv 0) pe_int (nomark _)))))), ?_⟩
    refine ⟨_, rfl, _, _, _, _, true, rfl, .ty "int", .base (.int _), k_int_int, true, rfl, iteT ?_⟩
    refine ⟨_, rfl, _, _, _, _, false, rfl, .ty "bool", .base (.int _), k_int_bool, false, rfl, true, rfl, iteT ?_⟩
    refine ⟨_, rfl, _, _, rfl, rfl, ?_⟩
    show Q (.bl (decide (1 ≤ x))) H
    rw [decide_eq_true h1]
    exact q
/-! is_pair_of_counts -/
theorem sc14 : FnScope ["value"] ["value"] (defScope (topS 14)) := ⟨rfl, rfl, rfl, by decide +kernel, rfl, by decide +kernel, by decide +kernel⟩
def spCounts (K : PySem.W.Frag) : Sp := fun vs H Q _ => ∃ (a : Addr) (x y : Int), vs = [.ref a] ∧ SqT K H a [.int x, .int y] ∧ 1 ≤ x ∧ 1 ≤ y ∧ Q (.bl true) H
theorem ok_counts (F : Fun K "is_pair_of_counts" "is_pair_of_counts" (topS 14) f fd) (T : Txt K mg) : FnOk P w K mg base CX0 2 f fd ["value"] (spCounts K) := by
  obtain ⟨fC, dC, FC, bC, gC⟩ := T.count
  refine F.ok sc14 (fun vs H Q E h => ?_) (fun cdv A outer s H vs Q E hr h => ?_)
  · obtain ⟨a, x, y, rfl, _⟩ := h
    rfl
  · obtain ⟨a, x, y, rfl, hS, h1, h2, q⟩ := h
    refine ⟨_, pss_one (ps_ret (pe_and (pe_callB call_isi (by rfl) T.isinstance b_isinstance (pa_cons (pv 0) (pa_cons (pe_bltn (v := .ty "tuple") (by rfl) T.tuple b_tuple rfl) pa_nil)))
      (pe_and (pe_cmpR op_eq (pe_callB call_len_seq (by rfl) T.len b_len (pa_cons (pv 0) pa_nil)) pe_int (nomark _))
      (pe_and (pe_call (ok_count FC T) hr (by rfl) gC FC.kp bC .nil pass0 (pa_cons (pe_ix ix_tup (pv 0) pe_int (fun _ _ => rfl)) pa_nil))
        (pe_one (pe_call (ok_count FC T) hr (by rfl) gC FC.kp bC .nil pass0 (pa_cons (pe_ix ix_tup (pv 0) pe_int (fun _ _ => rfl)) pa_nil))))))), ?_⟩
    refine ⟨_, rfl, _, _, _, _, true, rfl, .ty "tuple", tyT hS, k_tup_tup, true, rfl, iteT ?_⟩
    refine ⟨_, rfl, a, _, rfl, .inr hS, rfl, true, rfl, iteT ?_⟩
    refine ⟨_, rfl, a, _, 0, _, rfl, rfl, hS, at0, x, rfl, h1, true, rfl, iteT ?_⟩
    exact ⟨_, rfl, a, _, 1, _, rfl, rfl, hS, at1, y, rfl, h2, q⟩
/-! divisor_at -/
theorem sc8 : FnScope ["method", "index", "firsts", "step"] ["method", "index"] (defScope (topS 8)) := ⟨rfl, rfl, rfl, by decide +kernel, rfl, by decide +kernel, by decide +kernel⟩
def spDivAt (K : PySem.W.Frag) : Sp := fun vs H Q _ => ∃ (a : Addr) (n : Nat) (g : List Int) (z : Int), vs = [.ref a, .int (n : Int)] ∧ Meth K H a g z ∧ OkM g z ∧ n ≤ 1000 ∧ Q (.int (dv g z n)) H
theorem ok_divAt (F : Fun K "divisor_at" "divisor_at" (topS 8) f fd) (T : Txt K mg) : FnOk P w K mg base CX0 1 f fd ["method", "index"] (spDivAt K) := by
  refine F.ok sc8 (fun vs H Q E h => ?_) (fun cdv A outer s H vs Q E hr h => ?_)
  · obtain ⟨a, n, g, z, rfl, _⟩ := h
    rfl
  · obtain ⟨a, n, g, z, rfl, ⟨b, h1, h2⟩, O, hn, q⟩ := h
    refine ⟨_, pss_cons (ps_asg (pv 0) (pg_tup (by rfl) (pgs_cons (pg_name (i := 2) sc8.nd rfl (.inl rfl)) (pgs_cons (pg_name (i := 3) sc8.nd rfl (.inl rfl)) pgs_nil))))
      (pss_cons (ps_if (pt_cmpR op_lt (pv 1) (pe_callB call_len_seq (by rfl) T.len b_len (pa_cons (pv 2) pa_nil)) (nomark _)) (pss_one (ps_ret (pe_ix ix_tup (pv 2) (pv 1) (fun _ _ => rfl)))) pss_nil)
      (pss_one (ps_ret (pe_op op_add (pe_ix ix_tup (pv 2) (pe_un un_neg pe_int) (fun _ _ => rfl))
        (pe_op op_mul (pv 3) (pe_op op_sub (pe_op op_add (pv 1) pe_int) (pe_callB call_len_seq (by rfl) T.len b_len (pa_cons (pv 2) pa_nil)))))))), ?_⟩
    refine ⟨_, rfl, a, _, rfl, h1, rfl, _, _, rfl, _, _, rfl, rfl, ?_⟩
    refine ⟨_, rfl, _, rfl, b, _, rfl, .inr h2, _, _, rfl, rfl, _, rfl, ite2 (fun e => ?_) (fun e => ?_)⟩
    · have hl : n < g.length := by
        have e1 := of_decide_eq_true e
        rw [List.length_map] at e1
        omega
      refine ⟨_, rfl, _, rfl, b, _, _, .int (dv g z n), rfl, rfl, h2, atN ?_, q⟩
      rw [List.getElem?_map, List.getElem?_eq_getElem hl, dv_in (List.getElem?_eq_getElem hl)]
      rfl
    · have hl : g.length ≤ n := by
        have e1 : ¬ ((n : Int) < ((g.map V.int).length : Int)) := fun y => e (decide_eq_true y)
        rw [List.length_map] at e1
        omega
      obtain ⟨g2, z2, eg, el, _⟩ := O.last
      refine ⟨_, rfl, 1, rfl, b, g.map V.int, -1, .int z2, rfl, rfl, h2, ?_, ?_⟩
      · rw [eg, List.map_append]
        exact atI_last _ _
      · have s1 := O.s1
        refine ⟨_, rfl, _, rfl, n, 1, rfl, rfl, _, rfl, b, _, rfl, .inr h2, _, _, rfl, rfl, _, _, rfl, rfl, .inl ⟨by omega, by omega⟩, _, _, rfl, rfl, ?_⟩
        rw [dv_out hl, el] at q
        rw [List.length_map]
        exact q
/-! divisors_to -/
theorem sc9 : FnScope ["method", "many", "index"] ["method", "many"] (defScope (topS 9)) := ⟨rfl, rfl, rfl, by decide +kernel, rfl, by decide +kernel, by decide +kernel⟩
def dvs (g : List Int) (z : Int) (n : Nat) : List V := (List.range n).map fun i => V.int (dv g z i)
theorem dvs_len (g : List Int) (z : Int) (n : Nat) : (dvs g z n).length = n := by
  unfold dvs
  rw [List.length_map, List.length_range]
theorem dvs_at {g : List Int} {z : Int} {n i : Nat} (h : i < n) : (dvs g z n)[i]? = some (.int (dv g z i)) := by
  unfold dvs
  rw [List.getElem?_map, List.getElem?_range h]
  rfl
theorem dvs_next (g : List Int) (z : Int) (n : Nat) : dvs g z n ++ [.int (dv g z n)] = dvs g z (n + 1) := by
  unfold dvs
  rw [List.range_succ, List.map_append]
  rfl
def spDivTo (K : PySem.W.Frag) : Sp := fun vs H Q _ => ∃ (a : Addr) (n : Nat) (g : List Int) (z : Int), vs = [.ref a, .int (n : Int)] ∧ Meth K H a g z ∧ OkM g z ∧ n ≤ 1000 ∧ ∀ H' p, Same H H' → H' p = some (.tup (dvs g z n)) → Q (.ref p) H'
theorem ok_divTo (F : Fun K "divisors_to" "divisors_to" (topS 9) f fd) (T : Txt K mg) : FnOk P w K mg base CX0 2 f fd ["method", "many"] (spDivTo K) := by
  obtain ⟨fC, dC, FC, bC, gC⟩ := T.divAt
  refine F.ok sc9 (fun vs H Q E h => ?_) (fun cdv A outer s H vs Q E hr h => ?_)
  · obtain ⟨a, n, g, z, rfl, _⟩ := h
    rfl
  · obtain ⟨a, n, g, z, rfl, M, O, hn, q⟩ := h
    refine ⟨_, pss_one (ps_ret (pe_callTy call_tuple_of (by rfl) T.tuple b_tuple (pa_cons (pe_lc (own := [("index", 2)]) (g := gName 2) (tt := tYes) rfl sc9.nd (pi_range1 (by rfl) T.range (pa_cons (pv 1) pa_nil))
      (blkOk_by (N := ["method", "many", "index"]) (sc := defScope (topS 9)) (by decide +kernel)) (fun _ _ _ _ _ => pg_name (i := 2) sc9.nd rfl (Or.inl rfl)) (fun _ _ _ _ _ => pts_nil)
      (fun _ _ _ _ _ => pe_call (ok_divAt FC T) hr (by rfl) gC FC.kp bC .nil pass0 (pa_cons (pv 0) (pa_cons (pv 2) pa_nil)))) pa_nil))), ?_⟩
    refine ⟨_, rfl, n, rfl, by omega, by omega, fun D nD => ?_⟩
    rw [Int.toNat_natCast]
    refine lc_range (lo := 0) (n := n) (fun i H' => Same H H' ∧ H' D = some (.lst (dvs g z i))) ⟨same_upd nD, upd_same⟩ (fun i H' hi hI => ?_) (fun H' hI => ?_)
    · obtain ⟨s1, e1⟩ := hI
      rw [Int.zero_add]
      refine ⟨rfl, tYesI (iteT ?_)⟩
      refine ⟨_, rfl, _, rfl, a, i, g, z, rfl, M.same s1, O, by omega, dvs g z i, e1, sml' (by rw [dvs_len]; omega), same_updR s1 nD, ?_⟩
      rw [upd_same, dvs_next]
    · obtain ⟨s1, e1⟩ := hI
      exact ⟨D, _, rfl, .inl ⟨SqL.of e1, fun l nl => q _ l (fun b o e => by rw [upd_ne (ne_of_none (s1 _ _ e) nl)]; exact s1 _ _ e) upd_same⟩⟩
/-! is_method -/
theorem sc7 : FnScope ["value", "one", "at"] ["value"] (defScope (topS 7)) := ⟨rfl, rfl, rfl, by decide +kernel, rfl, by decide +kernel, by decide +kernel⟩
def trues (n : Nat) : List V := (List.replicate n true).map V.bl
theorem trues_next (n : Nat) : trues n ++ [.bl true] = trues (n + 1) := by
  unfold trues
  rw [List.replicate_succ', List.map_append]
  rfl
theorem trues_len (n : Nat) : (trues n).length = n := by
  unfold trues
  rw [List.length_map, List.length_replicate]
theorem trues_all (n : Nat) : (List.replicate n true).all id = true := by
  rw [List.all_eq_true]
  intro x hx
  rw [(List.mem_replicate.mp hx).2]
  rfl
def spMeth (K : PySem.W.Frag) : Sp := fun vs H Q _ => ∃ (a : Addr) (g : List Int) (z : Int), vs = [.ref a] ∧ Meth K H a g z ∧ OkM g z ∧ ∀ H', Same H H' → Q (.bl true) H'
theorem ok_meth (F : Fun K "is_method" "is_method" (topS 7) f fd) (T : Txt K mg) : FnOk P w K mg base CX0 2 f fd ["value"] (spMeth K) := by
  obtain ⟨fC, dC, FC, bC, gC⟩ := T.whole
  obtain ⟨t1, mF⟩ := T.mostF
  obtain ⟨t2, mD⟩ := T.mostD
  refine F.ok sc7 (fun vs H Q E h => ?_) (fun cdv A outer s H vs Q E hr h => ?_)
  · obtain ⟨a, g, z, rfl, _⟩ := h
    rfl
  · obtain ⟨a, g, z, rfl, ⟨b, h1, h2⟩, O, q⟩ := h
    refine ⟨_, pss_cons (ps_if (PW.pt (pw_or (pt_not (pt_val (pe_callB call_isi (by rfl) T.isinstance b_isinstance (pa_cons (pv 0) (pa_cons (pe_bltn (v := .ty "tuple") (by rfl) T.tuple b_tuple rfl) pa_nil)))))
        (pw_or (pt_cmpR op_ne (pe_callB call_len_seq (by rfl) T.len b_len (pa_cons (pv 0) pa_nil)) pe_int (nomark _))
          (pw_or1 (pt_not (pt_val (pe_call (ok_whole FC T) hr (by rfl) gC FC.kp bC .nil pass0 (pa_cons (pe_ix ix_tup (pv 0) pe_int (fun _ _ => rfl)) (pa_cons pe_int (pa_cons (pe_glob (v := .int 1000) (by rfl) mD ⟨_, rfl⟩) pa_nil))))))))))
        (pss_one (ps_ret pe_bl)) pss_nil)
      (pss_cons (ps_if (PW.pt (pw_or (pt_not (pt_val (pe_callB call_isi (by rfl) T.isinstance b_isinstance (pa_cons (pe_ix ix_tup (pv 0) pe_int (fun _ _ => rfl)) (pa_cons (pe_bltn (v := .ty "tuple") (by rfl) T.tuple b_tuple rfl) pa_nil)))))
        (pw_or1 (pt_not (pt_chain op_le op_le pe_int (pe_callB call_len_seq (by rfl) T.len b_len (pa_cons (pe_ix ix_tup (pv 0) pe_int (fun _ _ => rfl)) pa_nil)) (pe_glob (v := .int 6) (by rfl) mF ⟨_, rfl⟩))))))
        (pss_one (ps_ret pe_bl)) pss_nil)
      (pss_cons (ps_if (pt_not (pt_val (pe_callB (cr_all rfl) (by rfl) T.all b_all (pa_cons (pe_lc (own := [("one", 1)]) (g := gName 1) (tt := tYes) rfl sc7.nd (pi_tup (pe_ix ix_tup (pv 0) pe_int (fun _ _ => rfl)))
        (blkOk_by (N := ["value", "one", "at"]) (sc := defScope (topS 7)) (by decide +kernel)) (fun _ _ _ _ _ => pg_name (i := 1) sc7.nd rfl (Or.inl rfl)) (fun _ _ _ _ _ => pts_nil)
        (fun _ _ _ _ _ => pe_call (ok_whole FC T) hr (by rfl) gC FC.kp bC .nil pass0 (pa_cons (pv 1) (pa_cons pe_int (pa_cons (pe_glob (v := .int 1000) (by rfl) mD ⟨_, rfl⟩) pa_nil))))) pa_nil))))
        (pss_one (ps_ret pe_bl)) pss_nil)
      (pss_one (ps_ret (pe_callB (cr_all rfl) (by rfl) T.all b_all (pa_cons (pe_lc (own := [("at", 2)]) (g := gName 2) (tt := tYes) rfl sc7.nd
        (pi_range1 (by rfl) T.range (pa_cons (pe_op op_sub (pe_callB call_len_seq (by rfl) T.len b_len (pa_cons (pe_ix ix_tup (pv 0) pe_int (fun _ _ => rfl)) pa_nil)) pe_int) pa_nil))
        (blkOk_by (N := ["value", "one", "at"]) (sc := defScope (topS 7)) (by decide +kernel)) (fun _ _ _ _ _ => pg_name (i := 2) sc7.nd rfl (Or.inl rfl)) (fun _ _ _ _ _ => pts_nil)
        (fun _ _ _ _ _ => pe_cmpR op_le (pe_ix (r := rIxT K) ix_tup (pe_ix (r := rIxT K) ix_tup (pv 0) pe_int (fun _ _ => rfl)) (pv 2) (fun _ _ => rfl)) (pe_ix (r := rIxT K) ix_tup (pe_ix (r := rIxT K) ix_tup (pv 0) pe_int (fun _ _ => rfl)) (pe_op op_add (pv 2) pe_int) (fun _ _ => rfl)) (nomark _))) pa_nil)))))), ?_⟩
    have n1 := O.n1
    have n4 := O.n4
    have gl : (g.map V.int).length = g.length := List.length_map ..
    -- first if
    refine ⟨_, rfl, _, _, _, _, true, rfl, .ty "tuple", tyT h1, k_tup_tup, true, rfl, iteF ?_⟩
    refine ⟨_, rfl, a, _, rfl, .inr h1, rfl, _, rfl, iteF ?_⟩
    refine ⟨_, rfl, a, _, 1, _, rfl, rfl, h1, at1, z, 1, 1000, rfl, O.s1.1, O.s1.2, true, rfl, iteF ?_⟩
    -- second if
    refine ⟨_, rfl, a, _, 0, _, rfl, rfl, h1, at0, _, _, _, _, true, rfl, .ty "tuple", tyT h2, k_tup_tup, true, rfl, iteF ?_⟩
    refine ⟨_, rfl, a, _, 0, _, rfl, rfl, h1, at0, b, _, rfl, .inr h2, _, _, rfl, rfl, true, ?_, iteT ⟨_, _, rfl, rfl, true, ?_, iteF ?_⟩⟩
    · exact bl_t (show (1 : Int) ≤ ((g.map V.int).length : Int) by omega)
    · exact bl_t (show ((g.map V.int).length : Int) ≤ 6 by omega)
    -- third if
    refine ⟨_, rfl, a, _, 0, _, rfl, rfl, h1, at0, b, rfl, ⟨_, h2⟩, fun D nD => ?_⟩
    refine lc_tup (K := K) (a := b) (xs := g.map V.int) (fun i H' => Same H H' ∧ H' D = some (.lst (trues i))) ⟨same_upd nD, upd_same⟩ (fun i H' _ hI => Same.tup hI.1 h2) (fun i x H' hx hI => ?_) (fun H1 hI => ?_)
    · obtain ⟨s1, e1⟩ := hI
      have hi : i < g.length := by
        have := (List.getElem?_eq_some_iff.mp hx).1
        omega
      rw [List.getElem?_map, List.getElem?_eq_getElem hi] at hx
      obtain rfl : V.int g[i] = x := Option.some.inj hx
      have hlo := O.lo _ (List.getElem_mem hi)
      refine ⟨rfl, tYesI (iteT ?_)⟩
      refine ⟨_, rfl, g[i], 1, 1000, rfl, hlo.1, hlo.2, trues i, e1, sml' (by rw [trues_len]; omega), same_updR s1 nD, ?_⟩
      rw [upd_same, trues_next]
    · obtain ⟨s1, e1⟩ := hI
      refine ⟨D, _, rfl, SqL.of e1, _, rfl, ?_⟩
      rw [trues_all]
      refine iteF ?_
      -- the last line
      refine ⟨_, rfl, a, _, 0, _, rfl, rfl, Same.tup s1 h1, at0, b, _, rfl, .inr (Same.tup s1 h2), _, _, rfl, rfl, _, rfl, by omega, by omega, fun D2 nD2 => ?_⟩
      rw [show (((g.map V.int).length : Int) - 1).toNat = g.length - 1 by omega]
      refine lc_range (lo := 0) (n := g.length - 1) (fun i H' => Same H1 H' ∧ H' D2 = some (.lst (trues i))) ⟨same_upd nD2, upd_same⟩ (fun i H' hi hI => ?_) (fun H2 hI => ?_)
      · obtain ⟨s2, e2⟩ := hI
        have s12 := s1.trans s2
        rw [Int.zero_add]
        refine ⟨rfl, tYesI (iteT ?_)⟩
        have g1 : (g.map V.int)[i]? = some (.int (g[i]'(by omega))) := by
          rw [List.getElem?_map, List.getElem?_eq_getElem (by omega)]
          rfl
        have g2 : (g.map V.int)[i + 1]? = some (.int (g[i + 1]'(by omega))) := by
          rw [List.getElem?_map, List.getElem?_eq_getElem (by omega)]
          rfl
        have as := O.asc i _ _ (List.getElem?_eq_getElem (show i < g.length by omega)) (List.getElem?_eq_getElem (show i + 1 < g.length by omega))
        refine ⟨_, rfl, a, _, 0, _, rfl, rfl, Same.tup s12 h1, at0, _, rfl, b, _, _, _, rfl, rfl, Same.tup s12 h2, atN g1, ?_⟩
        refine ⟨_, rfl, a, _, 0, _, rfl, rfl, Same.tup s12 h1, at0, _, rfl, _, 1, rfl, rfl, b, _, _, _, rfl, rfl, Same.tup s12 h2, at_of (by omega) g2, _, _, rfl, rfl, trues i, e2, sml' (by rw [trues_len]; omega), same_updR s2 nD2, ?_⟩
        rw [upd_same]
        dsimp only
        rw [bl_t as, trues_next]
      · obtain ⟨s2, e2⟩ := hI
        refine ⟨D2, _, rfl, SqL.of e2, ?_⟩
        show Q (.bl ((List.replicate (g.length - 1) true).all id)) H2
        rw [trues_all]
        exact q _ (s1.trans s2)
/-! check_method -/
theorem sc10 : FnScope ["method", "name"] ["method", "name"] (defScope (topS 10)) := ⟨rfl, rfl, rfl, by decide +kernel, rfl, by decide +kernel, by decide +kernel⟩
def spCheck (K : PySem.W.Frag) : Sp := fun vs H Q _ => ∃ (a : Addr) (x : V) (g : List Int) (z : Int), vs = [.ref a, x] ∧ Meth K H a g z ∧ OkM g z ∧ ∀ H', Same H H' → Q .non H'
theorem ok_check (F : Fun K "check_method" "check_method" (topS 10) f fd) (T : Txt K mg) : FnOk P w K mg base CX0 3 f fd ["method", "name"] (spCheck K) := by
  obtain ⟨fC, dC, FC, bC, gC⟩ := T.meth
  refine F.ok sc10 (fun vs H Q E h => ?_) (fun cdv A outer s H vs Q E hr h => ?_)
  · obtain ⟨a, x, g, z, rfl, _⟩ := h
    rfl
  · obtain ⟨a, x, g, z, rfl, M, O, q⟩ := h
    refine ⟨_, pss_one (ps_if (pt_not (pt_val (pe_call (ok_meth FC T) hr (by rfl) gC FC.kp bC .nil pass0 (pa_cons (pv 0) pa_nil)))) (pss_one ps_never) pss_nil), ?_⟩
    exact ⟨_, rfl, a, g, z, rfl, M, O, fun H' s1 => ⟨true, rfl, iteF (q H' s1)⟩⟩
end
end K53
/-! Fairness, quotas, the two properties. -/
namespace K53
open PySem PySem.Spec PyProof.Rows L2
theorem big {x : Int} (h1 : -1000000000 < x) (h2 : x < 1000000000) : -(2 ^ 64) < x ∧ x < 2 ^ 64 := ⟨by omega, by omega⟩
section
variable {P : Program} {w : World} {K : PySem.W.Frag} {mg : Str → Option Value} {base : Heap} {f : Addr} {fd : FuncData}
/-! is_fair -/
theorem sc17 : FnScope ["divisors", "votes", "own", "more"] ["divisors", "votes", "own", "more"] (defScope (topS 17)) := ⟨rfl, rfl, rfl, by decide +kernel, rfl, by decide +kernel, by decide +kernel⟩
def spFair (K : PySem.W.Frag) : Sp := fun vs H Q _ => ∃ (ds vt : Addr) (x y n : Nat) (v0 v1 : Int) (g : List Int) (z : Int), vs = [.ref ds, .ref vt, .int (x : Int), .int (y : Int)] ∧ SqT K H ds (dvs g z n) ∧ SqT K H vt [.int v0, .int v1] ∧ x < n ∧ y < n ∧
  (0 ≤ v0 ∧ v0 < 1000000) ∧ (0 ≤ v1 ∧ v1 < 1000000) ∧ Q (.bl (fair g z v0 v1 x y)) H
theorem ok_fair (F : Fun K "is_fair" "is_fair" (topS 17) f fd) (T : Txt K mg) : FnOk P w K mg base CX0 1 f fd ["divisors", "votes", "own", "more"] (spFair K) := by
  refine F.ok sc17 (fun vs H Q E h => ?_) (fun cdv A outer s H vs Q E hr h => ?_)
  · obtain ⟨ds, vt, x, y, n, v0, v1, g, z, rfl, _⟩ := h
    rfl
  · obtain ⟨ds, vt, x, y, n, v0, v1, g, z, rfl, hD, hV, hx, hy, b0, b1, q⟩ := h
    refine ⟨_, pss_cons (ps_if (PW.pt (pw_and (pt_cmpR op_gt (pv 2) pe_int (nomark _))
        (pw_and1 (pt_cmpR op_gt (pe_op op_mul (pe_ix ix_tup (pv 1) pe_int (fun _ _ => rfl)) (pe_ix ix_tup (pv 0) (pe_op op_sub (pv 2) pe_int) (fun _ _ => rfl)))
          (pe_op op_mul (pe_ix ix_tup (pv 1) pe_int (fun _ _ => rfl)) (pe_ix ix_tup (pv 0) (pv 3) (fun _ _ => rfl))) (nomark _))))) (pss_one (ps_ret pe_bl)) pss_nil)
      (pss_one (ps_ret (pe_or (pe_cmpR op_eq (pv 3) pe_int (nomark _)) (pe_one (pe_cmpR op_le (pe_op op_mul (pe_ix ix_tup (pv 1) pe_int (fun _ _ => rfl)) (pe_ix ix_tup (pv 0) (pe_op op_sub (pv 3) pe_int) (fun _ _ => rfl)))
          (pe_op op_mul (pe_ix ix_tup (pv 1) pe_int (fun _ _ => rfl)) (pe_ix ix_tup (pv 0) (pv 2) (fun _ _ => rfl))) (nomark _)))))), ?_⟩
    have c0 := big (x := v0) (by omega) (by omega)
    have c1 := big (x := v1) (by omega) (by omega)
    have keyA : ¬ x > 0 → fair g z v0 v1 x y = (decide (y = 0) || decide (v0 * dv g z (y - 1) ≤ v1 * dv g z x)) := fun e => by
      unfold fair
      rw [decide_eq_true (show x = 0 by omega), Bool.true_or, Bool.true_and]
    have keyB : ¬ (v0 * dv g z y < v1 * dv g z (x - 1)) → fair g z v0 v1 x y = (decide (y = 0) || decide (v0 * dv g z (y - 1) ≤ v1 * dv g z x)) := fun e => by
      unfold fair
      rw [decide_eq_true (show v1 * dv g z (x - 1) ≤ v0 * dv g z y by omega), Bool.or_true, Bool.true_and]
    refine ⟨_, rfl, _, _, rfl, rfl, _, rfl, ite2 (fun e1 => ?_) (fun e1 => ?a)⟩
    have ex : 0 < x := by
      have := of_decide_eq_true e1
      omega
    refine ⟨_, rfl, vt, _, 1, _, rfl, rfl, hV, at1, _, rfl, _, rfl, _, 1, rfl, rfl, ds, _, _, _, rfl, rfl, hD, at_of (j := x - 1) (by omega) (dvs_at (by omega)), _, _, rfl, rfl, .inl c1, ?_⟩
    refine ⟨_, rfl, vt, _, 0, _, rfl, rfl, hV, at0, _, rfl, _, rfl, ds, _, _, _, rfl, rfl, hD, atN (dvs_at hy), _, _, rfl, rfl, .inl c0, ?_⟩
    refine ⟨_, _, rfl, rfl, _, rfl, ite2 (fun e2 => ?_) (fun e2 => ?b)⟩
    have e3 := of_decide_eq_true e2
    have e4 : fair g z v0 v1 x y = false := by
      unfold fair
      rw [decide_eq_false (show ¬ x = 0 by omega), decide_eq_false (show ¬ v1 * dv g z (x - 1) ≤ v0 * dv g z y by omega)]
      rfl
    rw [e4] at q
    exact q
    all_goals
      have e : fair g z v0 v1 x y = (decide (y = 0) || decide (v0 * dv g z (y - 1) ≤ v1 * dv g z x)) := by
        first
          | exact keyB fun z => e2 (decide_eq_true z)
          | exact keyA fun z => e1 (decide_eq_true (show (0 : Int) < (x : Int) by omega))
      rw [e] at q
      refine ⟨_, rfl, rfl, _, rfl, ite2 (fun e1 => ?_) (fun e1 => ?_)⟩
      · have ey : y = 0 := by
          have := V.int.inj (of_decide_eq_true e1)
          omega
        rw [decide_eq_true ey, Bool.true_or] at q
        exact q
      · have ey : ¬ y = 0 := fun hz => e1 (decide_eq_true (by rw [hz]; rfl))
        rw [decide_eq_false ey, Bool.false_or] at q
        refine ⟨_, rfl, vt, _, 0, _, rfl, rfl, hV, at0, _, rfl, _, rfl, _, 1, rfl, rfl, ds, _, _, _, rfl, rfl, hD, at_of (j := y - 1) (by omega) (dvs_at (by omega)), _, _, rfl, rfl, .inl c0, ?_⟩
        refine ⟨_, rfl, vt, _, 1, _, rfl, rfl, hV, at1, _, rfl, _, rfl, ds, _, _, _, rfl, rfl, hD, atN (dvs_at hx), _, _, rfl, rfl, .inl c1, ?_⟩
        exact ⟨_, _, rfl, rfl, q⟩
/-! is_below, is_above -/
theorem sc20 : FnScope ["part", "whole", "own"] ["part", "whole", "own"] (defScope (topS 20)) := ⟨rfl, rfl, rfl, by decide +kernel, rfl, by decide +kernel, by decide +kernel⟩
def spBelow : Sp := fun vs H Q _ => ∃ p h o : Int, vs = [.int p, .int h, .int o] ∧ (0 ≤ o ∧ o ≤ 100) ∧ (o + 1) * h ≤ p ∧ Q (.bl true) H
theorem ok_below (F : Fun K "is_below" "is_below" (topS 20) f fd) : FnOk P w K mg base CX0 1 f fd ["part", "whole", "own"] spBelow := by
  refine F.ok sc20 (fun vs H Q E h => ?_) (fun cdv A outer s H vs Q E hr h => ?_)
  · obtain ⟨p, h, o, rfl, _⟩ := h
    rfl
  · obtain ⟨p, h, o, rfl, ho, hl, q⟩ := h
    refine ⟨_, pss_one (ps_ret (pe_cmpR op_ge (pv 0) (pe_op op_mul (pe_op op_add (pv 2) pe_int) (pv 1)) (nomark _))), ?_⟩
    refine ⟨_, rfl, _, rfl, o, 1, rfl, rfl, _, rfl, _, _, rfl, rfl, .inl ⟨by omega, by omega⟩, _, _, rfl, rfl, ?_⟩
    show Q (.bl (decide ((o + 1) * h ≤ p))) H
    rw [bl_t hl]
    exact q
theorem sc21 : FnScope ["part", "whole", "own"] ["part", "whole", "own"] (defScope (topS 21)) := ⟨rfl, rfl, rfl, by decide +kernel, rfl, by decide +kernel, by decide +kernel⟩
def spAbove : Sp := fun vs H Q _ => ∃ p h o : Int, vs = [.int p, .int h, .int o] ∧ (1 ≤ o ∧ o ≤ 100) ∧ p ≤ (o - 1) * h ∧ Q (.bl true) H
theorem ok_above (F : Fun K "is_above" "is_above" (topS 21) f fd) : FnOk P w K mg base CX0 1 f fd ["part", "whole", "own"] spAbove := by
  refine F.ok sc21 (fun vs H Q E h => ?_) (fun cdv A outer s H vs Q E hr h => ?_)
  · obtain ⟨p, h, o, rfl, _⟩ := h
    rfl
  · obtain ⟨p, h, o, rfl, ho, hl, q⟩ := h
    refine ⟨_, pss_one (ps_ret (pe_and (pe_cmpR op_ge (pv 2) pe_int (nomark _)) (pe_one (pe_cmpR op_le (pv 0) (pe_op op_mul (pe_op op_sub (pv 2) pe_int) (pv 1)) (nomark _))))), ?_⟩
    refine ⟨_, rfl, o, 1, rfl, rfl, true, bl_t ho.1, iteT ?_⟩
    refine ⟨_, rfl, _, rfl, o, 1, rfl, rfl, _, rfl, _, _, rfl, rfl, .inl ⟨by omega, by omega⟩, _, _, rfl, rfl, ?_⟩
    show Q (.bl (decide (p ≤ (o - 1) * h))) H
    rw [bl_t hl]
    exact q
/-! least_many -/
theorem sc31 : FnScope ["part", "whole"] ["part", "whole"] (defScope (topS 31)) := ⟨rfl, rfl, rfl, by decide +kernel, rfl, by decide +kernel, by decide +kernel⟩
def spLeast : Sp := fun vs H Q _ => ∃ p h : Int, vs = [.int p, .int h] ∧ 0 < h ∧ h < 100000 ∧ Q (.int (lm p h)) H
theorem ok_least (F : Fun K "least_many" "least_many" (topS 31) f fd) : FnOk P w K mg base CX0 1 f fd ["part", "whole"] spLeast := by
  refine F.ok sc31 (fun vs H Q E h => ?_) (fun cdv A outer s H vs Q E hr h => ?_)
  · obtain ⟨p, h, rfl, _⟩ := h
    rfl
  · obtain ⟨p, h, rfl, h0, h1, q⟩ := h
    refine ⟨_, pss_one (ps_ret (pe_op op_fdivN (pe_op op_sub (pe_op op_add (pv 0) (pv 1)) pe_int) (pv 1))), ?_⟩
    exact ⟨_, rfl, _, rfl, _, _, rfl, rfl, _, 1, rfl, rfl, _, rfl, _, _, rfl, rfl, ⟨by omega, by omega⟩, q⟩
/-! indexes_of -/
theorem sc25 : FnScope ["method"] ["method"] (defScope (topS 25)) := ⟨rfl, rfl, rfl, by decide +kernel, rfl, by decide +kernel, by decide +kernel⟩
def ixs (n : Nat) : List V := (List.range n).map fun (i : Nat) => V.int (i : Int)
def spIxs (K : PySem.W.Frag) : Sp := fun vs H Q _ => ∃ (a : Addr) (g : List Int) (z : Int), vs = [.ref a] ∧ Meth K H a g z ∧ OkM g z ∧ ∀ p, H p = none → Q (.ref p) (upd H p (.lst (ixs (g.length + 1))))
theorem ok_ixs (F : Fun K "indexes_of" "indexes_of" (topS 25) f fd) (T : Txt K mg) : FnOk P w K mg base CX0 1 f fd ["method"] (spIxs K) := by
  refine F.ok sc25 (fun vs H Q E h => ?_) (fun cdv A outer s H vs Q E hr h => ?_)
  · obtain ⟨a, g, z, rfl, _⟩ := h
    rfl
  · obtain ⟨a, g, z, rfl, ⟨b, h1, h2⟩, O, q⟩ := h
    refine ⟨_, pss_one (ps_ret (pe_listRg rfl (by rfl) T.list (prg_1 (by rfl) T.range (pe_op op_add (pe_callB call_len_seq (by rfl) T.len b_len (pa_cons (pe_ix ix_tup (pv 0) pe_int (fun _ _ => rfl)) pa_nil)) pe_int)))), ?_⟩
    have n4 := O.n4
    have gl : (g.map V.int).length = g.length := List.length_map ..
    refine ⟨_, rfl, a, _, 0, _, rfl, rfl, h1, at0, b, _, rfl, .inr h2, _, 1, rfl, rfl, _, rfl, .of_le (by omega) (by omega) (by omega) (by omega), fun p np => ?_⟩
    have e : rgV 0 (((g.map V.int).length : Int) + 1) = ixs (g.length + 1) := by
      unfold rgV ixs
      rw [show ((((g.map V.int).length : Int) + 1) - 0).toNat = g.length + 1 by omega]
      exact List.map_congr_left fun i _ => by rw [Int.zero_add]
    rw [e]
    exact q p np
end
end K53
/-! The two properties; divisions. -/
namespace K53
open PySem PySem.Spec PyProof.Rows L2
theorem dec_vi (a b : Int) : decide (V.int a = V.int b) = decide (a = b) := by
  rw [Bool.eq_iff_iff, decide_eq_true_eq, decide_eq_true_eq]
  exact ⟨V.int.inj, fun e => by rw [e]⟩
def bls (p : Nat → Bool) (n : Nat) : List V := ((List.range n).map p).map V.bl
theorem bls_next (p : Nat → Bool) (n : Nat) : bls p n ++ [.bl (p n)] = bls p (n + 1) := by
  unfold bls
  rw [List.range_succ, List.map_append, List.map_append]
  rfl
theorem bls_len (p : Nat → Bool) (n : Nat) : (bls p n).length = n := by
  unfold bls
  rw [List.length_map, List.length_map, List.length_range]
theorem bls_all (p : Nat → Bool) (n : Nat) : ((List.range n).map p).all id = (List.range n).all p := by
  rw [List.all_map]
  rfl
theorem bls_any (p : Nat → Bool) (n : Nat) : ((List.range n).map p).any id = (List.range n).any p := by
  rw [List.any_map]
  rfl
theorem ixs_at {n i : Nat} (h : i < n) : (ixs n)[i]? = some (.int (i : Int)) := by
  unfold ixs
  rw [List.getElem?_map, List.getElem?_range h]
  rfl
theorem ixs_len (n : Nat) : (ixs n).length = n := by
  unfold ixs
  rw [List.length_map, List.length_range]
section
variable {P : Program} {w : World} {K : PySem.W.Frag} {mg : Str → Option Value} {base : Heap} {f : Addr} {fd : FuncData}
def spBool (K : PySem.W.Frag) (r : List Int → Int → Bool) : Sp := fun vs H Q _ => ∃ (a : Addr) (g : List Int) (z : Int), vs = [.ref a] ∧ Meth K H a g z ∧ OkM g z ∧ ∀ H', Same H H' → Q (.bl (r g z)) H'
/-! is_never_below -/
theorem sc26 : FnScope ["method", "index"] ["method"] (defScope (topS 26)) := ⟨rfl, rfl, rfl, by decide +kernel, rfl, by decide +kernel, by decide +kernel⟩
theorem ok_never (F : Fun K "is_never_below" "is_never_below" (topS 26) f fd) (T : Txt K mg) : FnOk P w K mg base CX0 2 f fd ["method"] (spBool K isN) := by
  obtain ⟨fC, dC, FC, bC, gC⟩ := T.divAt
  obtain ⟨fI, dI, FI, bI, gI⟩ := T.ixs
  refine F.ok sc26 (fun vs H Q E h => ?_) (fun cdv A outer s H vs Q E hr h => ?_)
  · obtain ⟨a, g, z, rfl, _⟩ := h
    rfl
  · obtain ⟨a, g, z, rfl, M, O, q⟩ := h
    refine ⟨_, pss_one (ps_ret (pe_callB (cr_all rfl) (by rfl) T.all b_all (pa_cons (pe_lc (own := [("index", 1)]) (g := gName 1) (tt := tYes) rfl sc26.nd (pi_list (pe_call (ok_ixs FI T) hr (by rfl) gI FI.kp bI .nil pass0 (pa_cons (pv 0) pa_nil)))
      (blkOk_by (N := ["method", "index"]) (sc := defScope (topS 26)) (by decide +kernel)) (fun _ _ _ _ _ => pg_name (i := 1) sc26.nd rfl (Or.inl rfl)) (fun _ _ _ _ _ => pts_nil)
      (fun _ _ _ _ _ => pe_cmpR op_eq (pe_call (ok_divAt FC T) hr (by rfl) gC FC.kp bC .nil pass0 (pa_cons (pv 0) (pa_cons (pv 1) pa_nil)))
        (pe_op op_mul (pe_op op_add (pv 1) pe_int) (pe_call (ok_divAt FC T) hr (by rfl) gC FC.kp bC .nil pass0 (pa_cons (pv 0) (pa_cons pe_int pa_nil)))) (nomark _))) pa_nil))), ?_⟩
    have n4 := O.n4
    refine ⟨_, rfl, a, g, z, rfl, M, O, fun p np => ⟨p, rfl, ⟨_, SqL.of upd_same⟩, fun D nD => ?_⟩⟩
    have s0 : Same H (upd H p (.lst (ixs (g.length + 1)))) := same_upd np
    refine lc_list (K := K) (a := p) (xs := ixs (g.length + 1)) (fun i H' => Same (upd H p (.lst (ixs (g.length + 1)))) H' ∧ H' D = some (.lst (bls (fun i => decide (dv g z i = ((i : Int) + 1) * dv g z 0)) i))) ⟨same_upd nD, upd_same⟩
      (fun i H' _ hI => SqL.of (hI.1 _ _ upd_same)) (fun i x H' hx hI => ?_) (fun H' hI => ?_)
    · obtain ⟨s1, e1⟩ := hI
      have hi : i < g.length + 1 := by
        have := (List.getElem?_eq_some_iff.mp hx).1
        rw [ixs_len] at this
        exact this
      rw [ixs_at hi] at hx
      obtain rfl : V.int (i : Int) = x := Option.some.inj hx
      have M1 := M.same (s0.trans s1)
      refine ⟨rfl, tYesI (iteT ?_)⟩
      refine ⟨_, rfl, _, rfl, a, i, g, z, rfl, M1, O, by omega, ?_⟩
      refine ⟨_, rfl, _, 1, rfl, rfl, _, rfl, a, 0, g, z, rfl, M1, O, by omega, _, _, rfl, rfl, .inl ⟨by omega, by omega⟩, rfl, ?_⟩
      refine ⟨_, e1, sml' (by rw [bls_len]; omega), same_updR s1 nD, ?_⟩
      rw [upd_same, dec_vi, bls_next]
    · obtain ⟨s1, e1⟩ := hI
      rw [ixs_len] at e1
      refine ⟨D, _, rfl, SqL.of e1, ?_⟩
      rw [bls_all]
      exact q _ (s0.trans s1)
/-! is_near -/
theorem sc27 : FnScope ["method", "index"] ["method"] (defScope (topS 27)) := ⟨rfl, rfl, rfl, by decide +kernel, rfl, by decide +kernel, by decide +kernel⟩
theorem ok_isnear (F : Fun K "is_near" "is_near" (topS 27) f fd) (T : Txt K mg) : FnOk P w K mg base CX0 2 f fd ["method"] (spBool K isR) := by
  obtain ⟨fC, dC, FC, bC, gC⟩ := T.divAt
  obtain ⟨fI, dI, FI, bI, gI⟩ := T.ixs
  refine F.ok sc27 (fun vs H Q E h => ?_) (fun cdv A outer s H vs Q E hr h => ?_)
  · obtain ⟨a, g, z, rfl, _⟩ := h
    rfl
  · obtain ⟨a, g, z, rfl, M, O, q⟩ := h
    refine ⟨_, pss_one (ps_ret (pe_callB (cr_all rfl) (by rfl) T.all b_all (pa_cons (pe_lc (own := [("index", 1)]) (g := gName 1) (tt := tYes) rfl sc27.nd (pi_list (pe_call (ok_ixs FI T) hr (by rfl) gI FI.kp bI .nil pass0 (pa_cons (pv 0) pa_nil)))
      (blkOk_by (N := ["method", "index"]) (sc := defScope (topS 27)) (by decide +kernel)) (fun _ _ _ _ _ => pg_name (i := 1) sc27.nd rfl (Or.inl rfl)) (fun _ _ _ _ _ => pts_nil)
      (fun _ _ _ _ _ => pe_cmpR op_eq (pe_call (ok_divAt FC T) hr (by rfl) gC FC.kp bC .nil pass0 (pa_cons (pv 0) (pa_cons (pv 1) pa_nil)))
        (pe_op op_mul (pe_op op_add (pe_op op_mul pe_int (pv 1)) pe_int) (pe_call (ok_divAt FC T) hr (by rfl) gC FC.kp bC .nil pass0 (pa_cons (pv 0) (pa_cons pe_int pa_nil)))) (nomark _))) pa_nil))), ?_⟩
    have n4 := O.n4
    refine ⟨_, rfl, a, g, z, rfl, M, O, fun p np => ⟨p, rfl, ⟨_, SqL.of upd_same⟩, fun D nD => ?_⟩⟩
    have s0 : Same H (upd H p (.lst (ixs (g.length + 1)))) := same_upd np
    refine lc_list (K := K) (a := p) (xs := ixs (g.length + 1)) (fun i H' => Same (upd H p (.lst (ixs (g.length + 1)))) H' ∧ H' D = some (.lst (bls (fun i => decide (dv g z i = (2 * (i : Int) + 1) * dv g z 0)) i))) ⟨same_upd nD, upd_same⟩
      (fun i H' _ hI => SqL.of (hI.1 _ _ upd_same)) (fun i x H' hx hI => ?_) (fun H' hI => ?_)
    · obtain ⟨s1, e1⟩ := hI
      have hi : i < g.length + 1 := by
        have := (List.getElem?_eq_some_iff.mp hx).1
        rw [ixs_len] at this
        exact this
      rw [ixs_at hi] at hx
      obtain rfl : V.int (i : Int) = x := Option.some.inj hx
      have M1 := M.same (s0.trans s1)
      refine ⟨rfl, tYesI (iteT ?_)⟩
      refine ⟨_, rfl, _, rfl, a, i, g, z, rfl, M1, O, by omega, ?_⟩
      refine ⟨_, rfl, 2, _, rfl, rfl, .inl ⟨by decide, by decide⟩, _, 1, rfl, rfl, _, rfl, a, 0, g, z, rfl, M1, O, by omega, _, _, rfl, rfl, .inl ⟨by omega, by omega⟩, rfl, ?_⟩
      refine ⟨_, e1, sml' (by rw [bls_len]; omega), same_updR s1 nD, ?_⟩
      rw [upd_same, dec_vi, bls_next]
    · obtain ⟨s1, e1⟩ := hI
      rw [ixs_len] at e1
      refine ⟨D, _, rfl, SqL.of e1, ?_⟩
      rw [bls_all]
      exact q _ (s0.trans s1)
/-! goes_below, is_always_near -/
theorem sc28 : FnScope ["method"] ["method"] (defScope (topS 28)) := ⟨rfl, rfl, rfl, by decide +kernel, rfl, by decide +kernel, by decide +kernel⟩
theorem ok_goes (F : Fun K "goes_below" "goes_below" (topS 28) f fd) (T : Txt K mg) : FnOk P w K mg base CX0 4 f fd ["method"] (spBool K fun g z => !isN g z) := by
  obtain ⟨fC, dC, FC, bC, gC⟩ := T.check
  obtain ⟨fI, dI, FI, bI, gI⟩ := T.never
  refine F.ok sc28 (fun vs H Q E h => ?_) (fun cdv A outer s H vs Q E hr h => ?_)
  · obtain ⟨a, g, z, rfl, _⟩ := h
    rfl
  · obtain ⟨a, g, z, rfl, M, O, q⟩ := h
    refine ⟨_, pss_cons (ps_expr (pe_call (ok_check FC T) hr (by rfl) gC FC.kp bC .nil pass0 (pa_cons (pv 0) (pa_cons pe_str pa_nil))))
      (pss_one (ps_ret (pe_not (pe_call (ok_never FI T) (hr.mono (by decide)) (by rfl) gI FI.kp bI .nil pass0 (pa_cons (pv 0) pa_nil))))), ?_⟩
    exact ⟨_, rfl, a, _, g, z, rfl, M, O, fun H1 s1 => ⟨_, rfl, a, g, z, rfl, M.same s1, O, fun H2 s2 => ⟨_, rfl, q _ (s1.trans s2)⟩⟩⟩
theorem sc29 : FnScope ["method"] ["method"] (defScope (topS 29)) := ⟨rfl, rfl, rfl, by decide +kernel, rfl, by decide +kernel, by decide +kernel⟩
theorem ok_always (F : Fun K "is_always_near" "is_always_near" (topS 29) f fd) (T : Txt K mg) : FnOk P w K mg base CX0 4 f fd ["method"] (spBool K isR) := by
  obtain ⟨fC, dC, FC, bC, gC⟩ := T.check
  obtain ⟨fI, dI, FI, bI, gI⟩ := T.isnear
  refine F.ok sc29 (fun vs H Q E h => ?_) (fun cdv A outer s H vs Q E hr h => ?_)
  · obtain ⟨a, g, z, rfl, _⟩ := h
    rfl
  · obtain ⟨a, g, z, rfl, M, O, q⟩ := h
    refine ⟨_, pss_cons (ps_expr (pe_call (ok_check FC T) hr (by rfl) gC FC.kp bC .nil pass0 (pa_cons (pv 0) (pa_cons pe_str pa_nil))))
      (pss_one (ps_ret (pe_call (ok_isnear FI T) (hr.mono (by decide)) (by rfl) gI FI.kp bI .nil pass0 (pa_cons (pv 0) pa_nil)))), ?_⟩
    exact ⟨_, rfl, a, _, g, z, rfl, M, O, fun H1 s1 => ⟨_, rfl, a, g, z, rfl, M.same s1, O, fun H2 s2 => q _ (s1.trans s2)⟩⟩
/-! last_alike -/
theorem sc30 : FnScope ["method", "index"] ["method", "index"] (defScope (topS 30)) := ⟨rfl, rfl, rfl, by decide +kernel, rfl, by decide +kernel, by decide +kernel⟩
def spLast (K : PySem.W.Frag) : Sp := fun vs H Q _ => ∃ (a : Addr) (i : Nat) (g : List Int) (z : Int), vs = [.ref a, .int (i : Int)] ∧ Meth K H a g z ∧ OkM g z ∧ i ≤ 100 ∧ laOk g z 8 i = true ∧ Q (.int (la g z 8 i : Nat)) H
theorem ok_last (F : Fun K "last_alike" "last_alike" (topS 30) f fd) (T : Txt K mg) : FnOk P w K mg base CX0 2 f fd ["method", "index"] (spLast K) := by
  obtain ⟨fC, dC, FC, bC, gC⟩ := T.divAt
  refine F.ok sc30 (fun vs H Q E h => ?_) (fun cdv A outer s H vs Q E hr h => ?_)
  · obtain ⟨a, i, g, z, rfl, _⟩ := h
    rfl
  · obtain ⟨a, i, g, z, rfl, M, O, hi, hl, q⟩ := h
    refine ⟨_, pss_cons (ps_while PassesOwn.never (pt_cmpR op_eq (pe_call (ok_divAt FC T) hr (by rfl) gC FC.kp bC .nil pass0 (pa_cons (pv 0) (pa_cons (pe_op op_add (pv 1) pe_int) pa_nil)))
        (pe_call (ok_divAt FC T) hr (by rfl) gC FC.kp bC .nil pass0 (pa_cons (pv 0) (pa_cons (pv 1) pa_nil))) (nomark _))
        (pss_one (ps_set (i := 1) sc30.nd rfl (.inl rfl) (pe_op op_add (pv 1) pe_int))))
      (pss_one (ps_ret (pv 1))), ?_⟩
    refine ⟨fun m σ H' => ∃ j : Nat, σ = [some (.ref a), some (.int (j : Int))] ∧ H = H' ∧ laOk g z m j = true ∧ la g z m j = la g z 8 i ∧ j + m ≤ i + 8, ⟨8, i, rfl, rfl, hl, rfl, Nat.le_refl _⟩, fun m σ H' hW => ?_⟩
    obtain ⟨j, rfl, rfl, h1, h2, h3⟩ := hW
    cases m with
    | zero => cases h1
    | succ m =>
      refine ⟨_, rfl, _, rfl, _, 1, rfl, rfl, a, j + 1, g, z, rfl, M, O, by omega, _, rfl, _, rfl, a, j, g, z, rfl, M, O, by omega, rfl, _, rfl, ite2 (fun e => ?_) (fun e => ?_)⟩
      · rw [dec_vi] at e
        have e1 := of_decide_eq_true e
        unfold laOk at h1
        unfold la at h2
        rw [if_pos e1] at h1 h2
        refine ⟨fun σ' H' => ∃ j : Nat, σ' = [some (.ref a), some (.int (j : Int))] ∧ H = H' ∧ laOk g z m j = true ∧ la g z m j = la g z 8 i ∧ j + m ≤ i + 8, fun σ' H' hN => ⟨m, Nat.lt_succ_self _, hN⟩, ?_⟩
        exact ⟨_, rfl, _, 1, rfl, rfl, j + 1, rfl, rfl, h1, h2, by omega⟩
      · rw [dec_vi] at e
        have e1 : ¬ dv g z (j + 1) = dv g z j := fun y => e (decide_eq_true y)
        unfold la at h2
        rw [if_neg e1] at h2
        refine ⟨_, rfl, ?_⟩
        rw [h2]
        exact q
end
end K53
/-! divisions, transfers, the simplest ratio. -/
namespace K53
open PySem PySem.Spec PyProof.Rows L2
theorem sm_of {x : Int} (h : sm x = true) : 0 < x ∧ x < 100000 := by
  unfold sm at h
  rw [Bool.and_eq_true, decide_eq_true_eq, decide_eq_true_eq] at h
  exact h
section
variable {P : Program} {w : World} {K : PySem.W.Frag} {mg : Str → Option Value} {base : Heap} {f : Addr} {fd : FuncData}
/-! divisions -/
theorem sc18 : FnScope ["method", "votes", "house", "divisors", "own"] ["method", "votes", "house"] (defScope (topS 18)) := ⟨rfl, rfl, rfl, by decide +kernel, rfl, by decide +kernel, by decide +kernel⟩
def nats (l : List Nat) : List V := l.map fun (i : Nat) => V.int (i : Int)
def spDivs (K : PySem.W.Frag) : Sp := fun vs H Q _ => ∃ (a vt : Addr) (h : Nat) (v0 v1 : Int) (g : List Int) (z : Int), vs = [.ref a, .ref vt, .int (h : Int)] ∧ Meth K H a g z ∧ OkM g z ∧ SqT K H vt [.int v0, .int v1] ∧ h ≤ 100 ∧
  (0 ≤ v0 ∧ v0 < 1000000) ∧ (0 ≤ v1 ∧ v1 < 1000000) ∧ ∀ H' p, Same H H' → H' p = some (.lst (nats (divs g z v0 v1 h))) → Q (.ref p) H'
theorem ok_divs (F : Fun K "divisions" "divisions" (topS 18) f fd) (T : Txt K mg) : FnOk P w K mg base CX0 3 f fd ["method", "votes", "house"] (spDivs K) := by
  obtain ⟨fC, dC, FC, bC, gC⟩ := T.divTo
  obtain ⟨fI, dI, FI, bI, gI⟩ := T.fair
  refine F.ok sc18 (fun vs H Q E h => ?_) (fun cdv A outer s H vs Q E hr h => ?_)
  · obtain ⟨a, vt, h, v0, v1, g, z, rfl, _⟩ := h
    rfl
  · obtain ⟨a, vt, h, v0, v1, g, z, rfl, M, O, hV, hh, b0, b1, q⟩ := h
    refine ⟨_, pss_cons (ps_set (i := 3) sc18.nd rfl (.inr rfl) (pe_call (ok_divTo FC T) hr (by rfl) gC FC.kp bC .nil pass0 (pa_cons (pv 0) (pa_cons (pe_op op_add (pv 2) pe_int) pa_nil))))
      (pss_one (ps_ret (pe_lc (own := [("own", 4)]) (g := gName 4) rfl sc18.nd (pi_range1 (by rfl) T.range (pa_cons (pe_op op_add (pv 2) pe_int) pa_nil))
        (blkOk_by (N := ["method", "votes", "house", "divisors", "own"]) (sc := defScope (topS 18)) (by decide +kernel)) (fun _ _ _ _ _ => pg_name (i := 4) sc18.nd rfl (Or.inl rfl))
        (fun _ _ _ _ _ => pts_one (pt_val (pe_call (ok_fair FI T) (hr.mono (by decide)) (by rfl) gI FI.kp bI .nil pass0 (pa_cons (pv 3) (pa_cons (pv 1) (pa_cons (pv 4) (pa_cons (pe_op op_sub (pv 2) (pv 4)) pa_nil)))))))
        (fun _ _ _ _ _ => pv 4)))), ?_⟩
    refine ⟨_, rfl, _, rfl, h, 1, rfl, rfl, a, h + 1, g, z, rfl, M, O, by omega, fun H1 p s1 e1 => ?_⟩
    refine ⟨_, rfl, h, 1, rfl, rfl, _, rfl, by omega, by omega, fun D nD => ?_⟩
    rw [show ((h : Int) + 1).toNat = h + 1 by omega]
    refine lc_range (lo := 0) (n := h + 1) (fun i H' => Same H1 H' ∧ H' D = some (.lst (nats ((List.range i).filter fun o => fair g z v0 v1 o (h - o))))) ⟨same_upd nD, upd_same⟩ (fun i H' hi hI => ?_) (fun H' hI => ?_)
    · obtain ⟨s2, e2⟩ := hI
      rw [Int.zero_add]
      refine ⟨rfl, ?_⟩
      refine ⟨_, rfl, _, rfl, _, rfl, _, rfl, _, rfl, _, _, rfl, rfl, p, vt, i, h - i, h + 1, v0, v1, g, z, ?_, SqT.of (s2 _ _ e1), Same.tup (s1.trans s2) hV, hi, by omega, b0, b1, _, rfl, ?_⟩
      · rw [show ((h - i : Nat) : Int) = (h : Int) - (i : Int) by omega]
        rfl
      · rw [List.range_succ, List.filter_append]
        refine ite2 (fun e => ?_) (fun e => ?_)
        · refine ⟨_, rfl, _, e2, sml' ?_, same_updR s2 nD, ?_⟩
          · unfold nats
            rw [List.length_map]
            have := List.length_filter_le (fun o => fair g z v0 v1 o (h - o)) (List.range i)
            rw [List.length_range] at this
            omega
          · rw [upd_same, List.filter_cons_of_pos (p := fun o => fair g z v0 v1 o (h - o)) e, List.filter_nil]
            unfold nats
            rw [List.map_append]
            rfl
        · rw [List.filter_cons_of_neg (p := fun o => fair g z v0 v1 o (h - o)) e, List.filter_nil, List.append_nil]
          exact ⟨s2, e2⟩
    · exact q _ D (s1.trans hI.1) hI.2
/-! transfer_of -/
theorem sc22 : FnScope ["votes", "seats", "house", "total", "one", "own", "other", "more", "gives"] ["votes", "seats"] (defScope (topS 22)) := ⟨rfl, rfl, rfl, by decide +kernel, rfl, by decide +kernel, by decide +kernel⟩
def spTrans (K : PySem.W.Frag) : Sp := fun vs H Q _ => ∃ (vt st : Addr) (v0 v1 x y : Int), vs = [.ref vt, .ref st] ∧ SqT K H vt [.int v0, .int v1] ∧ SqT K H st [.int x, .int y] ∧ (0 ≤ v0 ∧ v0 < 100000) ∧ (0 ≤ v1 ∧ v1 < 100000) ∧ (1 ≤ x ∧ x ≤ 100) ∧ (0 ≤ y ∧ y ≤ 100) ∧
  2 * v0 * (x + y) < (2 * x - 1) * (v0 + v1) ∧ (2 * y + 1) * (v0 + v1) < 2 * v1 * (x + y) ∧ ∀ H' p, Same H H' → H' p = some (.tup [.int 0, .int 1]) → Q (.ref p) H'
theorem ok_trans (F : Fun K "transfer_of" "transfer_of" (topS 22) f fd) (T : Txt K mg) : FnOk P w K mg base CX0 1 f fd ["votes", "seats"] (spTrans K) := by
  refine F.ok sc22 (fun vs H Q E h => ?_) (fun cdv A outer s H vs Q E hr h => ?_)
  · obtain ⟨vt, st, v0, v1, x, y, rfl, _⟩ := h
    rfl
  · obtain ⟨vt, st, v0, v1, x, y, rfl, hV, hS, b0, b1, bx, by', c1, c2, q⟩ := h
    refine ⟨_, pss_cons (ps_par (i := 2) (j := 3) (by rfl) sc22.nd rfl rfl (by decide) rfl rfl (pa_cons (pe_callB (cr_sumT rfl) (by rfl) T.sum b_sum (pa_cons (pv 1) pa_nil)) (pa_cons (pe_callB (cr_sumT rfl) (by rfl) T.sum b_sum (pa_cons (pv 0) pa_nil)) pa_nil)) (by rfl))
      (pss_cons (ps_for PassesOwn.never rfl (pi_enumT (by rfl) T.enumerate (pa_cons (pv 1) pa_nil)) (pg_tup (by rfl) (pgs_cons (pg_name (i := 4) sc22.nd rfl (.inl rfl)) (pgs_cons (pg_name (i := 5) sc22.nd rfl (.inl rfl)) pgs_nil)))
        (pss_one (ps_for PassesOwn.never rfl (pi_enumT (by rfl) T.enumerate (pa_cons (pv 1) pa_nil)) (pg_tup (by rfl) (pgs_cons (pg_name (i := 6) sc22.nd rfl (.inl rfl)) (pgs_cons (pg_name (i := 7) sc22.nd rfl (.inl rfl)) pgs_nil)))
          (pss_cons (ps_set (i := 8) sc22.nd rfl (.inl rfl) (pe_and (pe_cmpR op_ge (pv 5) pe_int (nomark _)) (pe_one (pe_cmpR op_lt (pe_op op_mul (pe_op op_mul pe_int (pe_ix ix_tup (pv 0) (pv 4) (fun _ _ => rfl))) (pv 2))
              (pe_op op_mul (pe_op op_sub (pe_op op_mul pe_int (pv 5)) pe_int) (pv 3)) (nomark _)))))
          (pss_one (ps_if (PW.pt (pw_and (pt_cmpR op_ne (pv 4) (pv 6) (nomark _)) (pw_and (pt_val (pv 8)) (pw_and1 (pt_cmpR op_gt (pe_op op_mul (pe_op op_mul pe_int (pe_ix ix_tup (pv 0) (pv 6) (fun _ _ => rfl))) (pv 2))
              (pe_op op_mul (pe_op op_add (pe_op op_mul pe_int (pv 7)) pe_int) (pv 3)) (nomark _))))))
            (pss_one (ps_ret (pe_tup (pa_cons (pv 4) (pa_cons (pv 6) pa_nil))))) pss_nil))))))
      (pss_one (ps_ret pe_non))), ?_⟩
    refine ⟨_, rfl, st, x, y, rfl, hS, _, rfl, vt, v0, v1, rfl, hV, _, _, rfl, ?_⟩
    -- for one, own
    refine ⟨_, rfl, st, _, rfl, hS, fun i m σ H' => i = 0 ∧ σ = [some (.ref vt), some (.ref st), some (.int (x + y)), some (.int (v0 + v1)), none, none, none, none, none] ∧ Same H H', ⟨0, rfl, rfl, Same.refl _⟩, fun i m σ H1 hW => ?_⟩
    obtain ⟨rfl, rfl, s1⟩ := hW
    refine .inr ⟨⟨_, _, Same.tup s1 hS, rfl⟩, fun _ _ => False, fun _ _ z => z.elim, fun u H2 hy => ?_⟩
    obtain ⟨T1, x1, rfl, nT1, rfl, f1⟩ := hy
    have ex : x1 = .int x := (Option.some.inj (f1 _ (Same.tup s1 hS))).symm
    subst ex
    refine ⟨T1, _, rfl, SqT.of upd_same, rfl, _, _, rfl, _, _, rfl, rfl, ?_⟩
    have s2 : Same H (upd H1 T1 (.tup [.int ((0 : Nat) : Int), .int x])) := s1.trans (same_upd nT1)
    -- for other, more
    refine ⟨_, rfl, st, _, rfl, Same.tup s2 hS, fun j m σ H' => m = 2 - j ∧ j ≤ 1 ∧ (∃ y6 y7 y8, σ = [some (.ref vt), some (.ref st), some (.int (x + y)), some (.int (v0 + v1)), some (.int ((0 : Nat) : Int)), some (.int x), y6, y7, y8]) ∧ Same H H',
      ⟨2, rfl, by omega, ⟨none, none, none, rfl⟩, s2⟩, fun j m σ H3 hW => ?_⟩
    obtain ⟨em, hj, ⟨y6, y7, y8, rfl⟩, s3⟩ := hW
    have v0at : atI ([.int v0, .int v1] : List V) ((0 : Nat) : Int) = some (.int v0) := at0
    have k1 := big (x := 2) (by decide) (by decide)
    have k2 := big (x := 2 * v0) (by omega) (by omega)
    have k3 := big (x := 2 * x - 1) (by omega) (by omega)
    have k4 := big (x := 2 * v1) (by omega) (by omega)
    have k5 := big (x := 2 * y + 1) (by omega) (by omega)
    rcases (show j = 0 ∨ j = 1 by omega) with ej | ej
    · subst ej
      refine .inr ⟨⟨_, _, Same.tup s3 hS, rfl⟩, fun σ H' => (∃ y6 y7 y8, σ = [some (.ref vt), some (.ref st), some (.int (x + y)), some (.int (v0 + v1)), some (.int ((0 : Nat) : Int)), some (.int x), y6, y7, y8]) ∧ Same H H', fun σ' H' hN => ⟨1, by omega, rfl, by omega, hN⟩, fun u H4 hy => ?_⟩
      obtain ⟨T2, x2, rfl, nT2, rfl, f2⟩ := hy
      have ex : x2 = .int x := (Option.some.inj (f2 _ (Same.tup s3 hS))).symm
      subst ex
      refine ⟨T2, _, rfl, SqT.of upd_same, rfl, _, _, rfl, _, _, rfl, rfl, ?_⟩
      have s4 : Same H (upd H3 T2 (.tup [.int ((0 : Nat) : Int), .int x])) := s3.trans (same_upd nT2)
      refine ⟨_, rfl, x, 1, rfl, rfl, true, bl_t bx.1, iteT ?_⟩
      refine ⟨_, rfl, _, rfl, vt, _, _, _, rfl, rfl, Same.tup s4 hV, v0at, _, _, rfl, rfl, .inl k1, _, rfl, _, _, rfl, rfl, .inl k2, ?_⟩
      refine ⟨_, rfl, _, _, rfl, rfl, .inl k1, _, 1, rfl, rfl, _, rfl, _, _, rfl, rfl, .inl k3, _, _, rfl, rfl, ?_⟩
      -- if one != other
      refine ⟨_, rfl, _, rfl, rfl, _, rfl, ?_⟩
      refine iteNS rfl (iteF ?_)
      exact ⟨⟨_, _, _, rfl⟩, s4⟩
    · subst ej
      refine .inr ⟨⟨_, _, Same.tup s3 hS, rfl⟩, fun _ _ => False, fun _ _ z => z.elim, fun u H4 hy => ?_⟩
      obtain ⟨T2, x2, rfl, nT2, rfl, f2⟩ := hy
      have ex : x2 = .int y := (Option.some.inj (f2 _ (Same.tup s3 hS))).symm
      subst ex
      refine ⟨T2, _, rfl, SqT.of upd_same, rfl, _, _, rfl, _, _, rfl, rfl, ?_⟩
      have s4 : Same H (upd H3 T2 (.tup [.int ((1 : Nat) : Int), .int y])) := s3.trans (same_upd nT2)
      have v1at : atI ([.int v0, .int v1] : List V) ((1 : Nat) : Int) = some (.int v1) := at1
      refine ⟨_, rfl, x, 1, rfl, rfl, true, bl_t bx.1, iteT ?_⟩
      refine ⟨_, rfl, _, rfl, vt, _, _, _, rfl, rfl, Same.tup s4 hV, v0at, _, _, rfl, rfl, .inl k1, _, rfl, _, _, rfl, rfl, .inl k2, ?_⟩
      refine ⟨_, rfl, _, _, rfl, rfl, .inl k1, _, 1, rfl, rfl, _, rfl, _, _, rfl, rfl, .inl k3, _, _, rfl, rfl, ?_⟩
      -- if one != other and gives and ..
      refine ⟨_, rfl, _, rfl, rfl, _, rfl, ?_⟩
      refine iteT ?_
      refine ⟨_, rfl, _, bl_t c1, iteT ?_⟩
      refine ⟨_, rfl, _, rfl, vt, _, _, _, rfl, rfl, Same.tup s4 hV, v1at, _, _, rfl, rfl, .inl k1, _, rfl, _, _, rfl, rfl, .inl k4, ?_⟩
      refine ⟨_, rfl, _, _, rfl, rfl, .inl k1, _, 1, rfl, rfl, _, rfl, _, _, rfl, rfl, .inl k5, _, _, rfl, rfl, true, bl_t c2, iteT ?_⟩
      exact ⟨_, rfl, _, rfl, sml (show 2 ≤ 100000 by decide), fun p np => q _ p (s4.trans (same_upd np)) upd_same⟩
end
end K53
/-! The simplest ratio; the judges. -/
namespace K53
open PySem PySem.Spec PyProof.Rows L2
theorem simpOk_of {n : Nat} {a b c d : Int} (h : simpOk (n + 1) a b c d = true) : (0 ≤ a ∧ a < 100000) ∧ (0 < b ∧ b < 100000) ∧ (0 < c ∧ c < 100000) ∧ (0 < d ∧ d < 100000) ∧ (0 ≤ a.fdiv b ∧ a.fdiv b < 100000) ∧
    (¬ (a.fdiv b + 1) * d < c → (0 < c - a.fdiv b * d ∧ c - a.fdiv b * d < 100000) ∧ (¬ a = a.fdiv b * b → simpOk n d (c - a.fdiv b * d) b (a - a.fdiv b * b) = true)) := by
  unfold simpOk at h
  simp only [Bool.and_eq_true, decide_eq_true_eq] at h
  obtain ⟨⟨⟨⟨⟨⟨⟨h1, h2⟩, h3⟩, h4⟩, h5⟩, h6⟩, h7⟩, h8⟩ := h
  refine ⟨⟨h1, h2⟩, sm_of h3, sm_of h4, sm_of h5, ⟨h6, h7⟩, fun hn => ?_⟩
  rw [if_neg hn, Bool.and_eq_true] at h8
  refine ⟨sm_of h8.1, fun hm => ?_⟩
  have h9 := h8.2
  rw [if_neg hm] at h9
  exact h9
section
variable {P : Program} {w : World} {K : PySem.W.Frag} {mg : Str → Option Value} {base : Heap} {f : Addr} {fd : FuncData}
theorem sc15 : FnScope ["low", "high", "a", "b", "c", "d", "whole", "part"] ["low", "high"] (defScope (topS 15)) := ⟨rfl, rfl, rfl, by decide +kernel, rfl, by decide +kernel, by decide +kernel⟩
def spSimp (K : PySem.W.Frag) (n : Nat) : Sp := fun vs H Q _ => ∃ (p q : Addr) (a b c d : Int), vs = [.ref p, .ref q] ∧ SqT K H p [.int a, .int b] ∧ SqT K H q [.int c, .int d] ∧ simpOk n a b c d = true ∧
  ∀ H' t, Same H H' → H' t = some (.tup [.int (simp n a b c d).1, .int (simp n a b c d).2]) → Q (.ref t) H'
theorem ok_simp (F : Fun K "simplest" "simplest" (topS 15) f fd) (bF : Binds K fd ["low", "high"] []) (gF : mg "simplest" = some (.ref f)) : ∀ n, FnOk P w K mg base CX0 (n + 1) f fd ["low", "high"] (spSimp K n)
  | 0 => by
    refine F.ok sc15 (fun vs H Q E h => ?_) (fun cdv A outer s H vs Q E hr h => ?_)
    · obtain ⟨p, q, a, b, c, d, rfl, _⟩ := h
      rfl
    · obtain ⟨p, q, a, b, c, d, _, _, _, h, _⟩ := h
      cases h
  | n + 1 => by
    have IH := ok_simp F bF gF n
    refine F.ok sc15 (fun vs H Q E h => ?_) (fun cdv A outer s H vs Q E hr h => ?_)
    · obtain ⟨p, q, a, b, c, d, rfl, _⟩ := h
      rfl
    · obtain ⟨p, r, a, b, c, d, rfl, hp, hq, ok, q⟩ := h
      obtain ⟨ha, hb, hc, hd, hw, hrest⟩ := simpOk_of ok
      refine ⟨_, pss_cons (ps_asg (pv 0) (pg_tup (by rfl) (pgs_cons (pg_name (i := 2) sc15.nd rfl (.inl rfl)) (pgs_cons (pg_name (i := 3) sc15.nd rfl (.inl rfl)) pgs_nil))))
        (pss_cons (ps_asg (pv 1) (pg_tup (by rfl) (pgs_cons (pg_name (i := 4) sc15.nd rfl (.inl rfl)) (pgs_cons (pg_name (i := 5) sc15.nd rfl (.inl rfl)) pgs_nil))))
        (pss_cons (ps_set (i := 6) sc15.nd rfl (.inl rfl) (pe_op op_fdivN (pv 2) (pv 3)))
        (pss_cons (ps_if (pt_cmpR op_lt (pe_op op_mul (pe_op op_add (pv 6) pe_int) (pv 5)) (pv 4) (nomark _)) (pss_one (ps_ret (pe_tup (pa_cons (pe_op op_add (pv 6) pe_int) (pa_cons pe_int pa_nil))))) pss_nil)
        (pss_cons (ps_if (pt_cmpR op_eq (pv 2) (pe_op op_mul (pv 6) (pv 3)) (nomark _))
            (pss_one (ps_set (i := 7) sc15.nd rfl (.inl rfl) (pe_tup (pa_cons (pe_op op_add (pe_op op_fdivN (pv 5) (pe_op op_sub (pv 4) (pe_op op_mul (pv 6) (pv 5)))) pe_int) (pa_cons pe_int pa_nil)))))
            (pss_one (ps_set (i := 7) sc15.nd rfl (.inl rfl) (pe_call IH hr (by rfl) gF F.kp bF .nil pass0 (pa_cons (pe_tup (pa_cons (pv 5) (pa_cons (pe_op op_sub (pv 4) (pe_op op_mul (pv 6) (pv 5))) pa_nil)))
              (pa_cons (pe_tup (pa_cons (pv 3) (pa_cons (pe_op op_sub (pv 2) (pe_op op_mul (pv 6) (pv 3))) pa_nil))) pa_nil))))))
        (pss_one (ps_ret (pe_tup (pa_cons (pe_op op_add (pe_op op_mul (pv 6) (pe_ix ix_tup (pv 7) pe_int (fun _ _ => rfl))) (pe_ix ix_tup (pv 7) pe_int (fun _ _ => rfl))) (pa_cons (pe_ix ix_tup (pv 7) pe_int (fun _ _ => rfl)) pa_nil))))))))), ?_⟩
      refine ⟨_, rfl, p, _, rfl, hp, rfl, _, _, rfl, _, _, rfl, rfl, ?_⟩
      refine ⟨_, rfl, r, _, rfl, hq, rfl, _, _, rfl, _, _, rfl, rfl, ?_⟩
      refine ⟨_, rfl, _, rfl, a, b, rfl, rfl, ⟨by omega, by omega⟩, ?_⟩
      have kw1 := big (x := a.fdiv b + 1) (by omega) (by omega)
      have kw := big (x := a.fdiv b) (by omega) (by omega)
      refine ⟨_, rfl, _, 1, rfl, rfl, _, rfl, _, _, rfl, rfl, .inl kw1, _, rfl, _, _, rfl, rfl, _, rfl, ite2 (fun e => ?_) (fun e => ?_)⟩
      · have e1 := of_decide_eq_true e
        have es : simp (n + 1) a b c d = (a.fdiv b + 1, 1) := by
          unfold simp
          exact if_pos e1
        rw [es] at q
        exact ⟨_, rfl, _, 1, rfl, rfl, sml (show 2 ≤ 100000 by decide), fun t nt => q _ t (same_upd nt) upd_same⟩
      · have e1 : ¬ (a.fdiv b + 1) * d < c := fun y => e (decide_eq_true y)
        obtain ⟨hcw, hrec⟩ := hrest e1
        have fin : ∀ (H1 : Hp) (t : Addr) (u v : Int), Same H H1 → H1 t = some (.tup [.int u, .int v]) → (simp (n + 1) a b c d = (a.fdiv b * u + v, u)) → ∀ l, H1 l = none → Q (.ref l) (upd H1 l (.tup [.int (a.fdiv b * u + v), .int u])) := fun H1 t u v s1 _ es l nl => by
          rw [es] at q
          exact q _ l (same_updR' s1 nl) upd_same
        refine ⟨_, rfl, _, rfl, _, rfl, _, _, rfl, rfl, .inl kw, rfl, _, rfl, ite2 (fun e2 => ?_) (fun e2 => ?_)⟩
        · rw [dec_vi] at e2
          have e3 := of_decide_eq_true e2
          refine ⟨_, rfl, _, rfl, _, rfl, _, rfl, _, _, rfl, rfl, .inl kw, _, _, rfl, rfl, _, _, rfl, rfl, ⟨by omega, by omega⟩, _, 1, rfl, rfl, sml (show 2 ≤ 100000 by decide), fun t nt => ?_⟩
          refine ⟨_, rfl, _, rfl, t, _, 0, _, rfl, rfl, SqT.of upd_same, at0, _, _, rfl, rfl, .inl kw, _, rfl, t, _, 1, _, rfl, rfl, SqT.of upd_same, at1, _, _, rfl, rfl, _, rfl, t, _, 0, _, rfl, rfl, SqT.of upd_same, at0, sml (show 2 ≤ 100000 by decide), ?_⟩
          refine fin _ t _ _ (same_upd nt) upd_same ?_
          conv => lhs; unfold simp
          dsimp only
          rw [if_neg e1, if_pos e3]
        · rw [dec_vi] at e2
          have e3 : ¬ a = a.fdiv b * b := fun y => e2 (decide_eq_true y)
          refine ⟨_, rfl, _, rfl, _, rfl, _, rfl, _, _, rfl, rfl, .inl kw, _, _, rfl, rfl, sml (show 2 ≤ 100000 by decide), fun t1 n1 => ?_⟩
          refine ⟨_, rfl, _, rfl, _, rfl, _, rfl, _, _, rfl, rfl, .inl kw, _, _, rfl, rfl, sml (show 2 ≤ 100000 by decide), fun t2 n2 => ?_⟩
          have s2 := same_upd (o := .tup [.int b, .int (a - a.fdiv b * b)]) n2
          refine ⟨t1, t2, d, c - a.fdiv b * d, b, a - a.fdiv b * b, rfl, SqT.of (s2 _ _ upd_same), SqT.of upd_same, hrec e3, fun H3 t s3 e4 => ?_⟩
          refine ⟨_, rfl, _, rfl, t, _, 0, _, rfl, rfl, SqT.of e4, at0, _, _, rfl, rfl, .inl kw, _, rfl, t, _, 1, _, rfl, rfl, SqT.of e4, at1, _, _, rfl, rfl, _, rfl, t, _, 0, _, rfl, rfl, SqT.of e4, at0, sml (show 2 ≤ 100000 by decide), ?_⟩
          refine fin _ t _ _ (((same_upd n1).trans s2).trans s3) e4 ?_
          conv => lhs; unfold simp
          dsimp only
          rw [if_neg e1, if_neg e3]
/-! votes_between -/
theorem sc16 : FnScope ["one", "other"] ["one", "other"] (defScope (topS 16)) := ⟨rfl, rfl, rfl, by decide +kernel, rfl, by decide +kernel, by decide +kernel⟩
def spBtw (K : PySem.W.Frag) : Sp := fun vs H Q _ => ∃ (p q : Addr) (a b c d : Int), vs = [.ref p, .ref q] ∧ SqT K H p [.int a, .int b] ∧ SqT K H q [.int c, .int d] ∧ btwOk a b c d = true ∧
  ∀ H' t, Same H H' → H' t = some (.tup [.int (btw a b c d).1, .int (btw a b c d).2]) → Q (.ref t) H'
theorem ok_btw (F : Fun K "votes_between" "votes_between" (topS 16) f fd) (T : Txt K mg) : FnOk P w K mg base CX0 11 f fd ["one", "other"] (spBtw K) := by
  obtain ⟨fC, dC, FC, bC, gC⟩ := T.simp
  refine F.ok sc16 (fun vs H Q E h => ?_) (fun cdv A outer s H vs Q E hr h => ?_)
  · obtain ⟨p, q, a, b, c, d, rfl, _⟩ := h
    rfl
  · obtain ⟨p, r, a, b, c, d, rfl, hp, hq, ok, q⟩ := h
    unfold btwOk at ok
    simp only [Bool.and_eq_true] at ok
    obtain ⟨⟨⟨⟨h1, h2⟩, h3⟩, h4⟩, h5⟩ := ok
    have h1 := sm_of h1
    have h3 := sm_of h3
    refine ⟨_, pss_cons (ps_if (pt_cmpR op_lt (pe_op op_mul (pe_ix ix_tup (pv 0) pe_int (fun _ _ => rfl)) (pe_ix ix_tup (pv 1) pe_int (fun _ _ => rfl))) (pe_op op_mul (pe_ix ix_tup (pv 1) pe_int (fun _ _ => rfl)) (pe_ix ix_tup (pv 0) pe_int (fun _ _ => rfl))) (nomark _))
        (pss_one (ps_ret (pe_call (ok_simp FC bC gC 9) hr (by rfl) gC FC.kp bC .nil pass0 (pa_cons (pv 0) (pa_cons (pv 1) pa_nil))))) pss_nil)
      (pss_one (ps_ret (pe_call (ok_simp FC bC gC 9) hr (by rfl) gC FC.kp bC .nil pass0 (pa_cons (pv 1) (pa_cons (pv 0) pa_nil))))), ?_⟩
    refine ⟨_, rfl, p, _, 0, _, rfl, rfl, hp, at0, _, rfl, r, _, 1, _, rfl, rfl, hq, at1, _, _, rfl, rfl, .inl (big (by omega) (by omega)), ?_⟩
    refine ⟨_, rfl, r, _, 0, _, rfl, rfl, hq, at0, _, rfl, p, _, 1, _, rfl, rfl, hp, at1, _, _, rfl, rfl, .inl (big (by omega) (by omega)), ?_⟩
    refine ⟨_, _, rfl, rfl, _, rfl, ite2 (fun e => ?_) (fun e => ?_)⟩
    · have e1 := of_decide_eq_true e
      have eb : btw a b c d = simp 9 a b c d := if_pos e1
      rw [if_pos e1] at h5
      rw [eb] at q
      exact ⟨_, rfl, _, rfl, p, r, a, b, c, d, rfl, hp, hq, h5, q⟩
    · have e1 : ¬ a * d < c * b := fun y => e (decide_eq_true y)
      have eb : btw a b c d = simp 9 c d a b := if_neg e1
      rw [if_neg e1] at h5
      rw [eb] at q
      exact ⟨_, rfl, _, rfl, r, p, c, d, a, b, rfl, hq, hp, h5, q⟩
end
end K53
/-! The judges. -/
namespace K53
open PySem PySem.Spec PyProof.Rows L2
theorem cut3 (a b c d e : V) : cutV [a, b, c, d, e] none (some 3) = [a, b, c] := rfl
theorem cut3n : ¬ (HT.sIx 5 0 none = 0 ∧ HT.sIx 5 5 (some 3) = 5) := by decide
theorem okQ_of {g : List Int} {z v m o : Int} {x e : Nat} (h : okQ g z (v, m, o, x, e) = true) : (0 < v ∧ v < 100000) ∧ (0 < m ∧ m < 100000) ∧ (0 < o ∧ o < 100000) ∧ x ≤ 60 ∧ e ≤ 60 ∧ fair g z v o x e = true := by
  unfold okQ at h
  simp only [Bool.and_eq_true, decide_eq_true_eq] at h
  obtain ⟨⟨⟨⟨⟨h1, h2⟩, h3⟩, h4⟩, h5⟩, h6⟩ := h
  exact ⟨sm_of h1, sm_of h2, sm_of h3, h4, h5, h6⟩
theorem eqv01 : PyData.eqv (.tuple [.int 0, .int 1]) (.tuple [.int 0, .int 1]) = true := PySem.W.eqv_refl_alike _ (by decide)
section
variable {P : Program} {w : World} {K : PySem.W.Frag} {mg : Str → Option Value} {base : Heap} {f : Addr} {fd : FuncData}
/-! quota_against -/
theorem sc36 : FnScope ["value", "votes", "many", "other", "seats", "each"] ["value"] (defScope (topS 36)) := ⟨rfl, rfl, rfl, by decide +kernel, rfl, by decide +kernel, by decide +kernel⟩
def spQuota (K : PySem.W.Frag) : Sp := fun vs H Q _ => ∃ (t : Addr) (v m o x e : Int), vs = [.ref t] ∧ SqT K H t [.int v, .int m, .int o, .int x, .int e] ∧ (0 < v ∧ v < 100000) ∧ (0 < m ∧ m < 100000) ∧
  ∀ p, H p = none → Q (.ref p) (upd H p (.tup [.int (v * (x + m * e)), .int (v + m * o)]))
theorem ok_quota (F : Fun K "quota_against" "quota_against" (topS 36) f fd) : FnOk P w K mg base CX0 1 f fd ["value"] (spQuota K) := by
  refine F.ok sc36 (fun vs H Q E h => ?_) (fun cdv A outer s H vs Q E hr h => ?_)
  · obtain ⟨t, v, m, o, x, e, rfl, _⟩ := h
    rfl
  · obtain ⟨t, v, m, o, x, e, rfl, hS, b1, b2, q⟩ := h
    refine ⟨_, pss_cons (ps_asg (pv 0) (pg_tup (by rfl) (pgs_cons (pg_name (i := 1) sc36.nd rfl (.inl rfl)) (pgs_cons (pg_name (i := 2) sc36.nd rfl (.inl rfl)) (pgs_cons (pg_name (i := 3) sc36.nd rfl (.inl rfl))
        (pgs_cons (pg_name (i := 4) sc36.nd rfl (.inl rfl)) (pgs_cons (pg_name (i := 5) sc36.nd rfl (.inl rfl)) pgs_nil)))))))
      (pss_one (ps_ret (pe_tup (pa_cons (pe_op op_mul (pv 1) (pe_op op_add (pv 4) (pe_op op_mul (pv 2) (pv 5)))) (pa_cons (pe_op op_add (pv 1) (pe_op op_mul (pv 2) (pv 3))) pa_nil))))), ?_⟩
    have k1 := big (x := v) (by omega) (by omega)
    have k2 := big (x := m) (by omega) (by omega)
    refine ⟨_, rfl, t, _, rfl, hS, rfl, _, _, rfl, _, _, rfl, _, _, rfl, _, _, rfl, _, _, rfl, rfl, ?_⟩
    refine ⟨_, rfl, _, rfl, _, rfl, _, rfl, _, _, rfl, rfl, .inl k2, _, _, rfl, rfl, _, _, rfl, rfl, .inl k1, ?_⟩
    exact ⟨_, rfl, _, rfl, _, rfl, _, _, rfl, rfl, .inl k2, _, _, rfl, rfl, sml (show 2 ≤ 100000 by decide), fun p np => q p np⟩
/-! is_against -/
theorem sc35 : FnScope ["method", "value", "votes", "many", "other", "seats", "each", "one"] ["method", "value"] (defScope (topS 35)) := ⟨rfl, rfl, rfl, by decide +kernel, rfl, by decide +kernel, by decide +kernel⟩
def spAgainst (K : PySem.W.Frag) : Sp := fun vs H Q _ => ∃ (a t : Addr) (g : List Int) (z v m o : Int) (x e : Nat), vs = [.ref a, .ref t] ∧ Meth K H a g z ∧ OkM g z ∧ SqT K H t [.int v, .int m, .int o, .int (x : Int), .int (e : Int)] ∧ okQ g z (v, m, o, x, e) = true ∧
  ∀ H', Same H H' → Q (.bl true) H'
theorem ok_against (F : Fun K "is_against" "is_against" (topS 35) f fd) (T : Txt K mg) : FnOk P w K mg base CX0 3 f fd ["method", "value"] (spAgainst K) := by
  obtain ⟨fC, dC, FC, bC, gC⟩ := T.count
  obtain ⟨fW, dW, FW, bW, gW⟩ := T.whole
  obtain ⟨fD, dD, FD, bD, gD⟩ := T.divTo
  obtain ⟨fI, dI, FI, bI, gI⟩ := T.fair
  obtain ⟨t1, mE⟩ := T.mostE
  refine F.ok sc35 (fun vs H Q E h => ?_) (fun cdv A outer s H vs Q E hr h => ?_)
  · obtain ⟨a, t, g, z, v, m, o, x, e, rfl, _⟩ := h
    rfl
  · obtain ⟨a, t, g, z, v, m, o, x, e, rfl, M, O, hS, ok, q⟩ := h
    obtain ⟨bv, bm, bo, hx, he, hf⟩ := okQ_of ok
    have hr1 : Room 1 _ := hr.mono (by decide)
    refine ⟨_, pss_cons (ps_if (PW.pt (pw_or (pt_not (pt_val (pe_callB call_isi (by rfl) T.isinstance b_isinstance (pa_cons (pv 1) (pa_cons (pe_bltn (v := .ty "tuple") (by rfl) T.tuple b_tuple rfl) pa_nil)))))
        (pw_or (pt_cmpR op_ne (pe_callB call_len_seq (by rfl) T.len b_len (pa_cons (pv 1) pa_nil)) pe_int (nomark _))
          (pw_or1 (pt_not (pt_val (pe_callB (cr_all rfl) (by rfl) T.all b_all (pa_cons (pe_lc (own := [("one", 7)]) (g := gName 7) (tt := tYes) rfl sc35.nd (pi_tup (pe_slice sl_tup (pv 1) po_none (po_some pe_int)))
            (blkOk_by (N := ["method", "value", "votes", "many", "other", "seats", "each", "one"]) (sc := defScope (topS 35)) (by decide +kernel)) (fun _ _ _ _ _ => pg_name (i := 7) sc35.nd rfl (Or.inl rfl)) (fun _ _ _ _ _ => pts_nil)
            (fun _ _ _ _ _ => pe_call (ok_count FC T) hr1 (by rfl) gC FC.kp bC .nil pass0 (pa_cons (pv 7) pa_nil))) pa_nil))))))))
        (pss_one (ps_ret pe_bl)) pss_nil)
      (pss_cons (ps_asg (pv 1) (pg_tup (by rfl) (pgs_cons (pg_name (i := 2) sc35.nd rfl (.inl rfl)) (pgs_cons (pg_name (i := 3) sc35.nd rfl (.inl rfl)) (pgs_cons (pg_name (i := 4) sc35.nd rfl (.inl rfl))
        (pgs_cons (pg_name (i := 5) sc35.nd rfl (.inl rfl)) (pgs_cons (pg_name (i := 6) sc35.nd rfl (.inl rfl)) pgs_nil)))))))
      (pss_cons (ps_if (PW.pt (pw_or (pt_not (pt_val (pe_call (ok_whole FW T) hr1 (by rfl) gW FW.kp bW .nil pass0 (pa_cons (pv 5) (pa_cons pe_int (pa_cons (pe_glob (v := .int 100) (by rfl) mE ⟨_, rfl⟩) pa_nil))))))
        (pw_or1 (pt_not (pt_val (pe_call (ok_whole FW T) hr1 (by rfl) gW FW.kp bW .nil pass0 (pa_cons (pv 6) (pa_cons pe_int (pa_cons (pe_glob (v := .int 100) (by rfl) mE ⟨_, rfl⟩) pa_nil)))))))))
        (pss_one (ps_ret pe_bl)) pss_nil)
      (pss_one (ps_ret (pe_call (ok_fair FI T) hr1 (by rfl) gI FI.kp bI .nil pass0 (pa_cons (pe_call (ok_divTo FD T) hr (by rfl) gD FD.kp bD .nil pass0 (pa_cons (pv 0) (pa_cons (pe_op op_add (pe_glob (v := .int 100) (by rfl) mE ⟨_, rfl⟩) pe_int) pa_nil)))
        (pa_cons (pe_tup (pa_cons (pv 2) (pa_cons (pv 4) pa_nil))) (pa_cons (pv 5) (pa_cons (pv 6) pa_nil))))))))), ?_⟩
    refine ⟨_, rfl, _, _, _, _, true, rfl, .ty "tuple", tyT hS, k_tup_tup, true, rfl, iteF ?_⟩
    refine ⟨_, rfl, t, _, rfl, .inr hS, rfl, _, rfl, iteF ?_⟩
    refine ⟨_, rfl, 3, rfl, t, _, rfl, hS, cut3n, fun p np => ?_⟩
    rw [cut3]
    have s0 : Same H (upd H p (.tup [.int v, .int m, .int o])) := same_upd np
    refine ⟨p, rfl, ⟨_, SqT.of upd_same⟩, fun D nD => ?_⟩
    refine lc_tup (K := K) (a := p) (xs := [.int v, .int m, .int o]) (fun i H' => Same (upd H p (.tup [.int v, .int m, .int o])) H' ∧ H' D = some (.lst (trues i))) ⟨same_upd nD, upd_same⟩ (fun i H' _ hI => SqT.of (hI.1 _ _ upd_same)) (fun i y H' hy hI => ?_) (fun H1 hI => ?_)
    · obtain ⟨s1, e1⟩ := hI
      have hi : i < 3 := (List.getElem?_eq_some_iff.mp hy).1
      obtain ⟨u, rfl, hu⟩ : ∃ u, y = V.int u ∧ 1 ≤ u := by
        rcases (show i = 0 ∨ i = 1 ∨ i = 2 by omega) with ei | ei | ei
        · subst ei
          exact ⟨v, (Option.some.inj hy).symm, bv.1⟩
        · subst ei
          exact ⟨m, (Option.some.inj hy).symm, bm.1⟩
        · subst ei
          exact ⟨o, (Option.some.inj hy).symm, bo.1⟩
      refine ⟨rfl, tYesI (iteT ?_)⟩
      refine ⟨_, rfl, u, rfl, hu, trues i, e1, sml' (by rw [trues_len]; omega), same_updR s1 nD, ?_⟩
      rw [upd_same, trues_next]
    · obtain ⟨s1, e1⟩ := hI
      have s01 := s0.trans s1
      refine ⟨D, _, rfl, SqL.of e1, _, rfl, ?_⟩
      rw [trues_all]
      refine iteF ?_
      refine ⟨_, rfl, t, _, rfl, Same.tup s01 hS, rfl, _, _, rfl, _, _, rfl, _, _, rfl, _, _, rfl, _, _, rfl, rfl, ?_⟩
      refine ⟨_, rfl, _, 0, 100, rfl, by omega, by omega, true, rfl, iteF ?_⟩
      refine ⟨_, rfl, _, 0, 100, rfl, by omega, by omega, true, rfl, iteF ?_⟩
      refine ⟨_, rfl, _, _, rfl, rfl, a, 101, g, z, rfl, M.same s01, O, by omega, fun H2 ds s2 e2 => ?_⟩
      refine ⟨_, rfl, _, rfl, sml (show 2 ≤ 100000 by decide), fun vt nvt => ?_⟩
      have s3 := same_upd (o := .tup [.int v, .int o]) nvt
      refine ⟨_, rfl, _, rfl, ds, vt, x, e, 101, v, o, g, z, rfl, SqT.of (s3 _ _ e2), SqT.of upd_same, by omega, by omega, ⟨by omega, by omega⟩, ⟨by omega, by omega⟩, ?_⟩
      rw [hf]
      exact q _ ((s01.trans s2).trans s3)
end
end K53
/-! The three judges. -/
namespace K53
open PySem PySem.Spec PyProof.Rows L2
theorem okNear_of {g : List Int} {z v u : Int} {x y : Nat} (h : okNear g z (v, u, x, y) = true) : (0 < v ∧ v < 100000) ∧ (0 < u ∧ u < 100000) ∧ 1 ≤ x ∧ x ≤ 60 ∧ y ≤ 60 ∧ fair g z v u x y = true ∧
    2 * v * ((x : Int) + y) < (2 * (x : Int) - 1) * (v + u) ∧ (2 * (y : Int) + 1) * (v + u) < 2 * u * ((x : Int) + y) := by
  unfold okNear at h
  simp only [Bool.and_eq_true, decide_eq_true_eq] at h
  obtain ⟨⟨⟨⟨⟨⟨⟨h1, h2⟩, h3⟩, h4⟩, h5⟩, h6⟩, h7⟩, h8⟩ := h
  exact ⟨sm_of h1, sm_of h2, h3, h4, h5, h6, h7, h8⟩
theorem okLow_of {g : List Int} {z v m o : Int} {x e : Nat} (h : okLow g z (v, m, o, x, e) = true) : okQ g z (v, m, o, x, e) = true ∧ ((x : Int) + 1) * (v + m * o) ≤ v * ((x : Int) + m * (e : Int)) := by
  unfold okLow at h
  rw [Bool.and_eq_true] at h
  exact ⟨h.1, of_decide_eq_true h.2⟩
theorem okHigh_of {g : List Int} {z v m o : Int} {x e : Nat} (h : okHigh g z (v, m, o, x, e) = true) : okQ g z (v, m, o, x, e) = true ∧ 1 ≤ x ∧ v * ((x : Int) + m * (e : Int)) ≤ ((x : Int) - 1) * (v + m * o) := by
  unfold okHigh at h
  simp only [Bool.and_eq_true, decide_eq_true_eq] at h
  exact ⟨h.1, h.2.1, h.2.2⟩
section
variable {P : Program} {w : World} {K : PySem.W.Frag} {mg : Str → Option Value} {base : Heap} {f : Addr} {fd : FuncData}
def spAcc (K : PySem.W.Frag) (c : List Int → Int → Q5 → Bool) : Sp := fun vs H Q _ => ∃ (a t : Addr) (g : List Int) (z v m o : Int) (x e : Nat), vs = [.ref a, .ref t] ∧ Meth K H a g z ∧ OkM g z ∧ SqT K H t [.int v, .int m, .int o, .int (x : Int), .int (e : Int)] ∧ c g z (v, m, o, x, e) = true ∧
  ∀ H', Same H H' → Q (.bl true) H'
/-! accepts_below -/
theorem sc37 : FnScope ["method", "value", "part", "whole"] ["method", "value"] (defScope (topS 37)) := ⟨rfl, rfl, rfl, by decide +kernel, rfl, by decide +kernel, by decide +kernel⟩
theorem ok_accB (F : Fun K "accepts_below" "accepts_below" (topS 37) f fd) (T : Txt K mg) : FnOk P w K mg base CX0 4 f fd ["method", "value"] (spAcc K okLow) := by
  obtain ⟨fC, dC, FC, bC, gC⟩ := T.check
  obtain ⟨fA, dA, FA, bA, gA⟩ := T.against
  obtain ⟨fU, dU, FU, bU, gU⟩ := T.quota
  obtain ⟨fB, dB, FB, bB, gB⟩ := T.below
  refine F.ok sc37 (fun vs H Q E h => ?_) (fun cdv A outer s H vs Q E hr h => ?_)
  · obtain ⟨a, t, g, z, v, m, o, x, e, rfl, _⟩ := h
    rfl
  · obtain ⟨a, t, g, z, v, m, o, x, e, rfl, M, O, hS, ok, q⟩ := h
    obtain ⟨okq, hl⟩ := okLow_of ok
    obtain ⟨bv, bm, bo, hx, he, hf⟩ := okQ_of okq
    have hr1 : Room 1 _ := hr.mono (by decide)
    refine ⟨_, pss_cons (ps_expr (pe_call (ok_check FC T) hr (by rfl) gC FC.kp bC .nil pass0 (pa_cons (pv 0) (pa_cons pe_str pa_nil))))
      (pss_cons (ps_if (pt_not (pt_val (pe_call (ok_against FA T) hr (by rfl) gA FA.kp bA .nil pass0 (pa_cons (pv 0) (pa_cons (pv 1) pa_nil))))) (pss_one (ps_ret pe_bl)) pss_nil)
      (pss_cons (ps_asg (pe_call (ok_quota FU) hr1 (by rfl) gU FU.kp bU .nil pass0 (pa_cons (pv 1) pa_nil)) (pg_tup (by rfl) (pgs_cons (pg_name (i := 2) sc37.nd rfl (.inl rfl)) (pgs_cons (pg_name (i := 3) sc37.nd rfl (.inl rfl)) pgs_nil))))
      (pss_one (ps_ret (pe_call (ok_below FB) hr1 (by rfl) gB FB.kp bB .nil pass0 (pa_cons (pv 2) (pa_cons (pv 3) (pa_cons (pe_ix ix_tup (pv 1) pe_int (fun _ _ => rfl)) pa_nil)))))))), ?_⟩
    refine ⟨_, rfl, a, _, g, z, rfl, M, O, fun H1 s1 => ?_⟩
    refine ⟨_, rfl, _, rfl, a, t, g, z, v, m, o, x, e, rfl, M.same s1, O, Same.tup s1 hS, okq, fun H2 s2 => ⟨true, rfl, iteF ?_⟩⟩
    have s12 := s1.trans s2
    refine ⟨_, rfl, t, v, m, o, _, _, rfl, Same.tup s12 hS, bv, bm, fun p np => ?_⟩
    have s3 := same_upd (o := .tup [.int (v * ((x : Int) + m * (e : Int))), .int (v + m * o)]) np
    refine ⟨p, _, rfl, SqT.of upd_same, rfl, _, _, rfl, _, _, rfl, rfl, ?_⟩
    exact ⟨_, rfl, _, rfl, _, rfl, t, _, 3, _, rfl, rfl, Same.tup (s12.trans s3) hS, at3, _, _, _, rfl, ⟨by omega, by omega⟩, hl, q _ (s12.trans s3)⟩
/-! accepts_above -/
theorem sc38 : FnScope ["method", "value", "part", "whole"] ["method", "value"] (defScope (topS 38)) := ⟨rfl, rfl, rfl, by decide +kernel, rfl, by decide +kernel, by decide +kernel⟩
theorem ok_accA (F : Fun K "accepts_above" "accepts_above" (topS 38) f fd) (T : Txt K mg) : FnOk P w K mg base CX0 4 f fd ["method", "value"] (spAcc K okHigh) := by
  obtain ⟨fC, dC, FC, bC, gC⟩ := T.check
  obtain ⟨fA, dA, FA, bA, gA⟩ := T.against
  obtain ⟨fU, dU, FU, bU, gU⟩ := T.quota
  obtain ⟨fB, dB, FB, bB, gB⟩ := T.above
  refine F.ok sc38 (fun vs H Q E h => ?_) (fun cdv A outer s H vs Q E hr h => ?_)
  · obtain ⟨a, t, g, z, v, m, o, x, e, rfl, _⟩ := h
    rfl
  · obtain ⟨a, t, g, z, v, m, o, x, e, rfl, M, O, hS, ok, q⟩ := h
    obtain ⟨okq, hx1, hl⟩ := okHigh_of ok
    obtain ⟨bv, bm, bo, hx, he, hf⟩ := okQ_of okq
    have hr1 : Room 1 _ := hr.mono (by decide)
    refine ⟨_, pss_cons (ps_expr (pe_call (ok_check FC T) hr (by rfl) gC FC.kp bC .nil pass0 (pa_cons (pv 0) (pa_cons pe_str pa_nil))))
      (pss_cons (ps_if (pt_not (pt_val (pe_call (ok_against FA T) hr (by rfl) gA FA.kp bA .nil pass0 (pa_cons (pv 0) (pa_cons (pv 1) pa_nil))))) (pss_one (ps_ret pe_bl)) pss_nil)
      (pss_cons (ps_asg (pe_call (ok_quota FU) hr1 (by rfl) gU FU.kp bU .nil pass0 (pa_cons (pv 1) pa_nil)) (pg_tup (by rfl) (pgs_cons (pg_name (i := 2) sc38.nd rfl (.inl rfl)) (pgs_cons (pg_name (i := 3) sc38.nd rfl (.inl rfl)) pgs_nil))))
      (pss_one (ps_ret (pe_call (ok_above FB) hr1 (by rfl) gB FB.kp bB .nil pass0 (pa_cons (pv 2) (pa_cons (pv 3) (pa_cons (pe_ix ix_tup (pv 1) pe_int (fun _ _ => rfl)) pa_nil)))))))), ?_⟩
    refine ⟨_, rfl, a, _, g, z, rfl, M, O, fun H1 s1 => ?_⟩
    refine ⟨_, rfl, _, rfl, a, t, g, z, v, m, o, x, e, rfl, M.same s1, O, Same.tup s1 hS, okq, fun H2 s2 => ⟨true, rfl, iteF ?_⟩⟩
    have s12 := s1.trans s2
    refine ⟨_, rfl, t, v, m, o, _, _, rfl, Same.tup s12 hS, bv, bm, fun p np => ?_⟩
    have s3 := same_upd (o := .tup [.int (v * ((x : Int) + m * (e : Int))), .int (v + m * o)]) np
    refine ⟨p, _, rfl, SqT.of upd_same, rfl, _, _, rfl, _, _, rfl, rfl, ?_⟩
    exact ⟨_, rfl, _, rfl, _, rfl, t, _, 3, _, rfl, rfl, Same.tup (s12.trans s3) hS, at3, _, _, _, rfl, ⟨by omega, by omega⟩, hl, q _ (s12.trans s3)⟩
/-! accepts_not_near -/
theorem sc39 : FnScope ["method", "value", "one"] ["method", "value"] (defScope (topS 39)) := ⟨rfl, rfl, rfl, by decide +kernel, rfl, by decide +kernel, by decide +kernel⟩
/-- the value of not-near evidence as it stands -/
def Val4 (K : PySem.W.Frag) (H : Hp) (t : Addr) (v u : Int) (x y : Nat) : Prop := ∃ t1 t2, SqT K H t [.ref t1, .ref t2] ∧ SqT K H t1 [.int v, .int u] ∧ SqT K H t2 [.int (x : Int), .int (y : Int)]
def spAccN (K : PySem.W.Frag) : Sp := fun vs H Q _ => ∃ (a t : Addr) (g : List Int) (z v u : Int) (x y : Nat), vs = [.ref a, .ref t] ∧ Meth K H a g z ∧ OkM g z ∧ Val4 K H t v u x y ∧ okNear g z (v, u, x, y) = true ∧ ∀ H', Same H H' → Q (.bl true) H'
theorem ok_accN (F : Fun K "accepts_not_near" "accepts_not_near" (topS 39) f fd) (T : Txt K mg) : FnOk P w K mg base CX0 4 f fd ["method", "value"] (spAccN K) := by
  obtain ⟨fC, dC, FC, bC, gC⟩ := T.check
  obtain ⟨fP, dP, FP, bP, gP⟩ := T.counts
  obtain ⟨fW, dW, FW, bW, gW⟩ := T.whole
  obtain ⟨fD, dD, FD, bD, gD⟩ := T.divTo
  obtain ⟨fI, dI, FI, bI, gI⟩ := T.fair
  obtain ⟨fT, dT, FT, bT, gT⟩ := T.trans
  obtain ⟨tE, mE⟩ := T.mostE
  refine F.ok sc39 (fun vs H Q E h => ?_) (fun cdv A outer s H vs Q E hr h => ?_)
  · obtain ⟨a, t, g, z, v, u, x, y, rfl, _⟩ := h
    rfl
  · obtain ⟨a, t, g, z, v, u, x, y, rfl, M, O, ⟨t1, t2, hS, hS1, hS2⟩, ok, q⟩ := h
    obtain ⟨bv, bu, hx1, hx, hy, hf, c1, c2⟩ := okNear_of ok
    have hr1 : Room 1 _ := hr.mono (by decide)
    have hr2 : Room 2 _ := hr.mono (by decide)
    refine ⟨_, pss_cons (ps_expr (pe_call (ok_check FC T) hr (by rfl) gC FC.kp bC .nil pass0 (pa_cons (pv 0) (pa_cons pe_str pa_nil))))
      (pss_cons (ps_if (PW.pt (pw_or (pt_not (pt_val (pe_callB call_isi (by rfl) T.isinstance b_isinstance (pa_cons (pv 1) (pa_cons (pe_bltn (v := .ty "tuple") (by rfl) T.tuple b_tuple rfl) pa_nil)))))
        (pw_or (pt_cmpR op_ne (pe_callB call_len_seq (by rfl) T.len b_len (pa_cons (pv 1) pa_nil)) pe_int (nomark _))
          (pw_or1 (pt_not (pt_val (pe_call (ok_counts FP T) hr2 (by rfl) gP FP.kp bP .nil pass0 (pa_cons (pe_ix ix_tup (pv 1) pe_int (fun _ _ => rfl)) pa_nil)))))))) (pss_one (ps_ret pe_bl)) pss_nil)
      (pss_cons (ps_if (PW.pt (pw_or (pt_not (pt_val (pe_callB call_isi (by rfl) T.isinstance b_isinstance (pa_cons (pe_ix ix_tup (pv 1) pe_int (fun _ _ => rfl)) (pa_cons (pe_bltn (v := .ty "tuple") (by rfl) T.tuple b_tuple rfl) pa_nil)))))
        (pw_or1 (pt_cmpR op_ne (pe_callB call_len_seq (by rfl) T.len b_len (pa_cons (pe_ix ix_tup (pv 1) pe_int (fun _ _ => rfl)) pa_nil)) pe_int (nomark _))))) (pss_one (ps_ret pe_bl)) pss_nil)
      (pss_cons (ps_if (pt_not (pt_val (pe_callB (cr_all rfl) (by rfl) T.all b_all (pa_cons (pe_lc (own := [("one", 2)]) (g := gName 2) (tt := tYes) rfl sc39.nd (pi_tup (pe_ix ix_tup (pv 1) pe_int (fun _ _ => rfl)))
            (blkOk_by (N := ["method", "value", "one"]) (sc := defScope (topS 39)) (by decide +kernel)) (fun _ _ _ _ _ => pg_name (i := 2) sc39.nd rfl (Or.inl rfl)) (fun _ _ _ _ _ => pts_nil)
            (fun _ _ _ _ _ => pe_call (ok_whole FW T) hr1 (by rfl) gW FW.kp bW .nil pass0 (pa_cons (pv 2) (pa_cons pe_int (pa_cons (pe_glob (v := .int 100) (by rfl) mE ⟨_, rfl⟩) pa_nil))))) pa_nil)))) (pss_one (ps_ret pe_bl)) pss_nil)
      (pss_cons (ps_if (pt_not (pt_val (pe_call (ok_fair FI T) hr1 (by rfl) gI FI.kp bI .nil pass0 (pa_cons (pe_call (ok_divTo FD T) hr2 (by rfl) gD FD.kp bD .nil pass0 (pa_cons (pv 0) (pa_cons (pe_op op_add (pe_glob (v := .int 100) (by rfl) mE ⟨_, rfl⟩) pe_int) pa_nil)))
        (pa_cons (pe_ix ix_tup (pv 1) pe_int (fun _ _ => rfl)) (pa_cons (pe_ix ix_tup (pe_ix ix_tup (pv 1) pe_int (fun _ _ => rfl)) pe_int (fun _ _ => rfl)) (pa_cons (pe_ix ix_tup (pe_ix ix_tup (pv 1) pe_int (fun _ _ => rfl)) pe_int (fun _ _ => rfl)) pa_nil))))))) (pss_one (ps_ret pe_bl)) pss_nil)
      (pss_one (ps_ret (pe_cmpR (op_eqD hr.units) (pe_call (ok_trans FT T) hr1 (by rfl) gT FT.kp bT .nil pass0 (pa_cons (pe_ix ix_tup (pv 1) pe_int (fun _ _ => rfl)) (pa_cons (pe_ix ix_tup (pv 1) pe_int (fun _ _ => rfl)) pa_nil)))
        (pe_tup (pa_cons pe_int (pa_cons pe_int pa_nil))) (nomark _)))))))), ?_⟩
    refine ⟨_, rfl, a, _, g, z, rfl, M, O, fun H1 s1 => ?_⟩
    have hA := Same.tup s1 hS
    have hA1 := Same.tup s1 hS1
    have hA2 := Same.tup s1 hS2
    refine ⟨_, rfl, _, _, _, _, true, rfl, .ty "tuple", tyT hA, k_tup_tup, true, rfl, iteF ?_⟩
    refine ⟨_, rfl, t, _, rfl, .inr hA, rfl, _, rfl, iteF ?_⟩
    refine ⟨_, rfl, t, _, 0, _, rfl, rfl, hA, at0, t1, v, u, rfl, hA1, bv.1, bu.1, true, rfl, iteF ?_⟩
    refine ⟨_, rfl, t, _, 1, _, rfl, rfl, hA, at1, _, _, _, _, true, rfl, .ty "tuple", tyT hA2, k_tup_tup, true, rfl, iteF ?_⟩
    refine ⟨_, rfl, t, _, 1, _, rfl, rfl, hA, at1, t2, _, rfl, .inr hA2, rfl, _, rfl, iteF ?_⟩
    refine ⟨_, rfl, t, _, 1, _, rfl, rfl, hA, at1, t2, rfl, ⟨_, hA2⟩, fun D nD => ?_⟩
    refine lc_tup (K := K) (a := t2) (xs := [.int (x : Int), .int (y : Int)]) (fun i H' => Same H1 H' ∧ H' D = some (.lst (trues i))) ⟨same_upd nD, upd_same⟩ (fun i H' _ hI => Same.tup hI.1 hA2) (fun i y2 H' hy2 hI => ?_) (fun H2 hI => ?_)
    · obtain ⟨s2, e2⟩ := hI
      have hi : i < 2 := (List.getElem?_eq_some_iff.mp hy2).1
      obtain ⟨k, rfl, hk⟩ : ∃ k, y2 = V.int k ∧ 0 ≤ k ∧ k ≤ 100 := by
        rcases (show i = 0 ∨ i = 1 by omega) with ei | ei
        · subst ei
          exact ⟨x, (Option.some.inj hy2).symm, by omega, by omega⟩
        · subst ei
          exact ⟨y, (Option.some.inj hy2).symm, by omega, by omega⟩
      refine ⟨rfl, tYesI (iteT ?_)⟩
      refine ⟨_, rfl, k, 0, 100, rfl, hk.1, hk.2, trues i, e2, sml' (by rw [trues_len]; omega), same_updR s2 nD, ?_⟩
      rw [upd_same, trues_next]
    · obtain ⟨s2, e2⟩ := hI
      have s12 := s1.trans s2
      refine ⟨D, _, rfl, SqL.of e2, _, rfl, ?_⟩
      rw [trues_all]
      refine iteF ?_
      refine ⟨_, rfl, _, _, rfl, rfl, a, 101, g, z, rfl, M.same s12, O, by omega, fun H3 ds s3 e3 => ?_⟩
      have s13 := s12.trans s3
      have hB := Same.tup s13 hS
      have hB1 := Same.tup s13 hS1
      have hB2 := Same.tup s13 hS2
      refine ⟨_, rfl, t, _, 0, _, rfl, rfl, hB, at0, _, rfl, t, _, 1, _, rfl, rfl, hB, at1, t2, _, 0, _, rfl, rfl, hB2, at0, _, rfl, t, _, 1, _, rfl, rfl, hB, at1, t2, _, 1, _, rfl, rfl, hB2, at1, ?_⟩
      refine ⟨ds, t1, x, y, 101, v, u, g, z, rfl, SqT.of e3, hB1, by omega, by omega, ⟨by omega, by omega⟩, ⟨by omega, by omega⟩, true, by rw [hf], iteF ?_⟩
      refine ⟨_, rfl, t, _, 0, _, rfl, rfl, hB, at0, _, rfl, t, _, 1, _, rfl, rfl, hB, at1, t1, t2, v, u, x, y, rfl, hB1, hB2, ⟨by omega, by omega⟩, ⟨by omega, by omega⟩, ⟨by omega, by omega⟩, ⟨by omega, by omega⟩, c1, c2, fun H4 p s4 e4 => ?_⟩
      refine ⟨sml (show 2 ≤ 100000 by decide), fun p2 np2 => ?_⟩
      have s5 := same_upd (o := .tup [.int 0, .int 1]) np2
      refine ⟨.tuple [.int 0, .int 1], .tuple [.int 0, .int 1], .tup (SqT.of (s5 _ _ e4)) (.cons (.int _) (.cons (.int _) .nil)), .tup (SqT.of upd_same) (.cons (.int _) (.cons (.int _) .nil)), by decide, by decide, ?_⟩
      rw [eqv01]
      exact q _ ((s13.trans s4).trans s5)
end
end K53
/-! The evidence. -/
namespace K53
open PySem PySem.Spec PyProof.Rows L2 LamX
theorem prs_at {H : Hp} : ∀ {ts : List Addr} {ps : List (Int × Int)} {i : Nat} {t : Addr}, Prs H ts ps → ts[i]? = some t → ∃ p, ps[i]? = some p ∧ H t = some (.tup [.int p.1, .int p.2])
  | [], _, i, t, _, h => by simp at h
  | a :: ts, [], _, _, e, _ => by cases e
  | a :: ts, q :: ps, 0, t, e, h => by
    cases e with
    | cons h1 h2 =>
      obtain rfl : a = t := Option.some.inj h
      exact ⟨q, rfl, h1⟩
  | a :: ts, q :: ps, i + 1, t, e, h => by
    cases e with
    | cons h1 h2 => exact prs_at (ts := ts) (i := i) h2 h
theorem prs_len {H : Hp} {ts : List Addr} {ps : List (Int × Int)} (h : Prs H ts ps) : ts.length = ps.length := PySem.W.EachIs.length h
theorem prs_small {n : Nat} (h2 : 2 ≤ n) (h5 : n ≤ 5) : ∀ x ∈ prs n, x.1 ≤ 4 ∧ x.2 ≤ 4 := by
  rcases (show n = 2 ∨ n = 3 ∨ n = 4 ∨ n = 5 by omega) with e | e | e | e
  all_goals
    subst e
    decide
theorem find_at {α : Type} {p : α → Bool} : ∀ {l : List α} {i : Nat} {x : α}, (∀ k y, k < i → l[k]? = some y → p y = false) → l[i]? = some x → p x = true → l.find? p = some x
  | [], _, _, _, h, _ => by simp at h
  | a :: l, 0, x, _, h, hx => by
    obtain rfl : a = x := Option.some.inj h
    rw [List.find?_cons_of_pos hx]
  | a :: l, i + 1, x, hk, h, hx => by
    have h0 : p a = false := hk 0 a (Nat.succ_pos _) rfl
    rw [List.find?_cons_of_neg (by rw [h0]; exact Bool.false_ne_true)]
    exact find_at (fun k y hki hy => hk (k + 1) y (Nat.succ_lt_succ hki) hy) h hx
theorem find_no {α : Type} {p : α → Bool} {l : List α} (h : ∀ (k : Nat) y, l[k]? = some y → p y = false) : l.find? p = none := by
  rw [List.find?_eq_none]
  intro x hx
  obtain ⟨k, hk⟩ := List.getElem?_of_mem hx
  rw [h k x hk]
  exact Bool.false_ne_true
def lowF (g : List Int) (z : Int) : Option (Nat × Nat) := (prs (g.length + 1)).find? fun p => lowT g z p.1 p.2
def nearF (g : List Int) (z : Int) : Option (Nat × Nat) := (prs (g.length + 1)).find? fun p => nearT g z p.1 p.2
theorem lowOk_of {g : List Int} {z : Int} {a b : Nat} (h : lowOk g z a b = true) : laOk g z 8 b = true ∧ la g z 8 b ≤ 50 ∧
    (0 < ((a : Int) + (la g z 8 b : Int) + 3) * (dv g z a * ((la g z 8 b : Int) + 1) - dv g z (la g z 8 b) * ((a : Int) + 1)) - (a : Int) - (la g z 8 b : Int) - 2 ∧
      ((a : Int) + (la g z 8 b : Int) + 3) * (dv g z a * ((la g z 8 b : Int) + 1) - dv g z (la g z 8 b) * ((a : Int) + 1)) - (a : Int) - (la g z 8 b : Int) - 2 < 100000) ∧ okLow g z (lowAt g z a b) = true := by
  unfold lowOk at h
  simp only [Bool.and_eq_true, decide_eq_true_eq] at h
  obtain ⟨⟨h1, h2, h3⟩, h4⟩ := h
  exact ⟨h1, h2, sm_of h3, h4⟩
section
variable {P : Program} {w : World} {K : PySem.W.Frag} {mg : Str → Option Value} {base : Heap} {f : Addr} {fd : FuncData}
/-! below_evidence -/
theorem sc32 : FnScope ["method", "one", "two", "own", "more", "gap", "scale", "many"] ["method"] (defScope (topS 32)) := ⟨rfl, rfl, rfl, by decide +kernel, rfl, by decide +kernel, by decide +kernel⟩
def v5 (q : Q5) : List V := [.int q.1, .int q.2.1, .int q.2.2.1, .int (q.2.2.2.1 : Int), .int (q.2.2.2.2 : Int)]
def spLow (K : PySem.W.Frag) (PT : Addr) : Sp := fun vs H Q _ => ∃ (a : Addr) (g : List Int) (z : Int), vs = [.ref a] ∧ Meth K H a g z ∧ OkM g z ∧ Tabs [(PT, lamQ)] H ∧ (∀ p, lowF g z = some p → lowOk g z p.1 p.2 = true) ∧
  (lowF g z = none → ∀ H', ExtN H H' → Tabs [(PT, lamQ)] H' → Q .non H') ∧ (∀ p, lowF g z = some p → ∀ H' t, ExtN H H' → Tabs [(PT, lamQ)] H' → H' t = some (.tup (v5 (lowAt g z p.1 p.2))) → Q (.ref t) H')
theorem Meth.ext {K : PySem.W.Frag} {H H' : Hp} {a : Addr} {g : List Int} {z : Int} (e : ExtN H H') (h : Meth K H a g z) : Meth K H' a g z := by
  obtain ⟨b, h1, h2⟩ := h
  exact ⟨b, ExtN.seqT e h1, ExtN.seqT e h2⟩
theorem ok_lowE (F : Fun K "below_evidence" "below_evidence" (topS 32) f fd) (T : Txt K mg) {PT fP : Addr} {dP : FuncData} (GP : FnOk P w K mg base CX0 2 fP dP ["span"] (spPairs PT)) (kP : PySem.W.keepIn K (.ref fP) = true) (bP : Binds K dP ["span"] []) (gP : mg "index_pairs" = some (.ref fP)) :
    FnOk P w K mg base CX0 4 f fd ["method"] (spLow K PT) := by
  obtain ⟨fC, dC, FC, bC, gC⟩ := T.check
  obtain ⟨fD, dD, FD, bD, gD⟩ := T.divAt
  obtain ⟨fL, dL, FL, bL, gL⟩ := T.last
  obtain ⟨fM, dM, FM, bM, gM⟩ := T.least
  refine F.ok sc32 (fun vs H Q E h => ?_) (fun cdv A outer s H vs Q E hr h => ?_)
  · obtain ⟨a, g, z, rfl, _⟩ := h
    rfl
  · obtain ⟨a, g, z, rfl, M, O, hT, hok, q0, q1⟩ := h
    have hr1 : Room 1 _ := hr.mono (by decide)
    have hr2 : Room 2 _ := hr.mono (by decide)
    refine ⟨_, pss_cons (ps_expr (pe_call (ok_check FC T) hr (by rfl) gC FC.kp bC .nil pass0 (pa_cons (pv 0) (pa_cons pe_str pa_nil))))
      (pss_cons (ps_for PassesOwn.never rfl (pi_list (pe_call GP hr2 (by rfl) gP kP bP .nil pass0 (pa_cons (pe_op op_add (pe_callB call_len_seq (by rfl) T.len b_len (pa_cons (pe_ix ix_tup (pv 0) pe_int (fun _ _ => rfl)) pa_nil)) pe_int) pa_nil)))
          (pg_tup (by rfl) (pgs_cons (pg_name (i := 1) sc32.nd rfl (.inl rfl)) (pgs_cons (pg_name (i := 2) sc32.nd rfl (.inl rfl)) pgs_nil)))
        (pss_one (ps_if (pt_cmpR op_gt (pe_op op_mul (pe_call (ok_divAt FD T) hr1 (by rfl) gD FD.kp bD .nil pass0 (pa_cons (pv 0) (pa_cons (pv 1) pa_nil))) (pe_op op_add (pv 2) pe_int))
            (pe_op op_mul (pe_call (ok_divAt FD T) hr1 (by rfl) gD FD.kp bD .nil pass0 (pa_cons (pv 0) (pa_cons (pv 2) pa_nil))) (pe_op op_add (pv 1) pe_int)) (nomark _))
          (pss_cons (ps_set (i := 2) sc32.nd rfl (.inl rfl) (pe_call (ok_last FL T) hr2 (by rfl) gL FL.kp bL .nil pass0 (pa_cons (pv 0) (pa_cons (pv 2) pa_nil))))
          (pss_cons (ps_set (i := 3) sc32.nd rfl (.inl rfl) (pe_call (ok_divAt FD T) hr1 (by rfl) gD FD.kp bD .nil pass0 (pa_cons (pv 0) (pa_cons (pv 1) pa_nil))))
          (pss_cons (ps_set (i := 4) sc32.nd rfl (.inl rfl) (pe_call (ok_divAt FD T) hr1 (by rfl) gD FD.kp bD .nil pass0 (pa_cons (pv 0) (pa_cons (pv 2) pa_nil))))
          (pss_cons (ps_set (i := 5) sc32.nd rfl (.inl rfl) (pe_op op_sub (pe_op op_mul (pv 3) (pe_op op_add (pv 2) pe_int)) (pe_op op_mul (pv 4) (pe_op op_add (pv 1) pe_int))))
          (pss_cons (ps_set (i := 6) sc32.nd rfl (.inl rfl) (pe_op op_add (pe_op op_add (pv 1) (pv 2)) pe_int))
          (pss_cons (ps_set (i := 7) sc32.nd rfl (.inl rfl) (pe_call (ok_least FM) hr1 (by rfl) gM FM.kp bM .nil pass0 (pa_cons (pe_op op_sub (pe_op op_mul (pv 6) (pv 3)) pe_int)
            (pa_cons (pe_op op_sub (pe_op op_sub (pe_op op_sub (pe_op op_mul (pv 6) (pv 5)) (pv 1)) (pv 2)) pe_int) pa_nil))))
          (pss_one (ps_ret (pe_tup (pa_cons (pe_op op_sub (pe_op op_mul (pv 6) (pv 3)) pe_int) (pa_cons (pv 7) (pa_cons (pe_op op_add (pe_op op_mul (pv 6) (pv 4)) pe_int) (pa_cons (pv 1) (pa_cons (pe_op op_add (pv 2) pe_int) pa_nil))))))))))))))
          pss_nil)))
      (pss_one (ps_ret pe_non))), ?_⟩
    have n1 := O.n1
    have n4 := O.n4
    refine ⟨_, rfl, a, _, g, z, rfl, M, O, fun H1 s1 => ?_⟩
    obtain ⟨b, m1, m2⟩ := M.same s1
    have gl : (g.map V.int).length = g.length := List.length_map ..
    refine ⟨_, rfl, a, _, 0, _, rfl, rfl, m1, at0, b, _, rfl, .inr m2, _, 1, rfl, rfl, g.length + 1, ?_, by omega, by omega, fun y hy => (hT y hy).ext s1, fun H2 L ts e2 T2 eL pr => ?_⟩
    · rw [gl]
      rfl
    have eH : ExtN H H2 := (ExtN.of s1).trans e2
    have M2 := M.ext eH
    refine ⟨L, rfl, ⟨_, SqL.of eL⟩, ?_⟩
    refine for_list (K := K) (a := L) (xs := ts.map V.ref) (fun i σ H' => (∃ y1 y2, σ = [some (.ref a), y1, y2, none, none, none, none, none]) ∧ H2 = H' ∧ ∀ k p, k < i → (prs (g.length + 1))[k]? = some p → lowT g z p.1 p.2 = false)
      ⟨⟨none, none, rfl⟩, rfl, fun k p hk => absurd hk (Nat.not_lt_zero _)⟩ (fun i σ H' _ hI => by rw [← hI.2.1]; exact SqL.of eL) (fun i y σ H' hy hI => ?_) (fun σ H' hI => ?_)
    · obtain ⟨⟨y1, y2, rfl⟩, rfl, hno⟩ := hI
      rw [List.getElem?_map] at hy
      obtain ⟨t, ht, rfl⟩ : ∃ t, ts[i]? = some t ∧ V.ref t = y := by
        cases e : ts[i]? with
        | none =>
          rw [e] at hy
          cases hy
        | some t =>
          rw [e] at hy
          exact ⟨t, rfl, Option.some.inj hy⟩
      obtain ⟨pi, hpi, et⟩ := prs_at pr ht
      unfold prsI at hpi
      rw [List.getElem?_map] at hpi
      obtain ⟨⟨i1, i2⟩, hp, rfl⟩ : ∃ x : Nat × Nat, (prs (g.length + 1))[i]? = some x ∧ ((x.1 : Int), (x.2 : Int)) = pi := by
        cases e : (prs (g.length + 1))[i]? with
        | none =>
          rw [e] at hpi
          cases hpi
        | some x =>
          rw [e] at hpi
          exact ⟨x, rfl, Option.some.inj hpi⟩
      obtain ⟨c1, c2⟩ := prs_small (n := g.length + 1) (by omega) (by omega) _ (List.mem_of_getElem? hp)
      dsimp only at c1 c2 et
      refine ⟨t, _, rfl, SqT.of et, rfl, _, _, rfl, _, _, rfl, rfl, ?_⟩
      have d1 := O.dv (i := i1) (by omega)
      have d2 := O.dv (i := i2) (by omega)
      refine ⟨_, rfl, _, rfl, a, i1, g, z, rfl, M2, O, by omega, _, rfl, i2, 1, rfl, rfl, _, _, rfl, rfl, .inl (big (by omega) (by omega)), ?_⟩
      refine ⟨_, rfl, _, rfl, a, i2, g, z, rfl, M2, O, by omega, _, rfl, i1, 1, rfl, rfl, _, _, rfl, rfl, .inl (big (by omega) (by omega)), ?_⟩
      refine ⟨_, _, rfl, rfl, _, rfl, ite2 (fun e => ?_) (fun e => ?_)⟩
      · have hit : lowF g z = some (i1, i2) := find_at (fun k y hk hy => hno k y hk hy) hp e
        obtain ⟨l1, l2, l3, l4⟩ := lowOk_of (hok _ hit)
        dsimp only at l1 l2 l3 l4
        have d3 := O.dv (i := la g z 8 i2) (by omega)
        refine ⟨_, rfl, _, rfl, a, i2, g, z, rfl, M2, O, by omega, l1, ?_⟩
        refine ⟨_, rfl, _, rfl, a, i1, g, z, rfl, M2, O, by omega, ?_⟩
        refine ⟨_, rfl, _, rfl, a, la g z 8 i2, g, z, rfl, M2, O, by omega, ?_⟩
        refine ⟨_, rfl, _, rfl, _, 1, rfl, rfl, _, _, rfl, rfl, .inl (big (by omega) (by omega)), _, rfl, _, rfl, _, 1, rfl, rfl, _, _, rfl, rfl, .inl (big (by omega) (by omega)), _, _, rfl, rfl, ?_⟩
        refine ⟨_, rfl, _, rfl, _, _, rfl, rfl, _, 3, rfl, rfl, ?_⟩
        have ks := big (x := (i1 : Int) + (la g z 8 i2 : Int) + 3) (by omega) (by omega)
        refine ⟨_, rfl, _, rfl, _, _, rfl, rfl, .inl ks, _, 1, rfl, rfl, ?_⟩
        refine ⟨_, rfl, _, rfl, _, _, rfl, rfl, .inl ks, _, rfl, _, _, rfl, rfl, _, rfl, _, _, rfl, rfl, _, 2, rfl, rfl, _, _, rfl, l3.1, l3.2, ?_⟩
        refine ⟨_, rfl, _, rfl, _, _, rfl, rfl, .inl ks, _, 1, rfl, rfl, _, rfl, _, rfl, _, rfl, _, _, rfl, rfl, .inl ks, _, 1, rfl, rfl, _, rfl, _, rfl, _, 1, rfl, rfl, sml (show 5 ≤ 100000 by decide), fun p np => ?_⟩
        have s3 := fun o : HO => same_upd (o := o) np
        exact q1 _ hit _ p (eH.trans (ExtN.of (s3 _))) (fun y hy => (T2 y hy).ext (s3 _)) upd_same
      · refine ⟨⟨_, _, rfl⟩, rfl, fun k p hk hp2 => ?_⟩
        by_cases hki : k = i
        · subst hki
          rw [hp] at hp2
          obtain rfl : (i1, i2) = p := Option.some.inj hp2
          exact Bool.eq_false_iff.mpr e
        · exact hno k p (by omega) hp2
    · obtain ⟨⟨y1, y2, rfl⟩, rfl, hno⟩ := hI
      have hnone : lowF g z = none := find_no fun k y hy => hno k y (by
        rw [List.length_map, prs_len pr]
        unfold prsI
        rw [List.length_map]
        exact (List.getElem?_eq_some_iff.mp hy).1) hy
      exact q0 hnone _ eH T2
end
end K53
/-! The evidence, further. -/
namespace K53
open PySem PySem.Spec PyProof.Rows L2 LamX
theorem highOk_of {g : List Int} {z : Int} (h : highOk g z = true) : laOk g z 8 1 = true ∧ la g z 8 1 ≤ 50 ∧ (0 < (la g z 8 1 : Int) * (2 * dv g z 0 - 1) ∧ (la g z 8 1 : Int) * (2 * dv g z 0 - 1) < 100000) ∧ okHigh g z (high g z) = true := by
  unfold highOk at h
  simp only [Bool.and_eq_true, decide_eq_true_eq] at h
  obtain ⟨⟨⟨h1, h2⟩, h3⟩, h4⟩ := h
  exact ⟨h1, h2, sm_of h3, h4⟩
theorem divs_le {g : List Int} {z v0 v1 : Int} {h o : Nat} (e : (divs g z v0 v1 h).head? = some o) : o ≤ h := by
  have hm : o ∈ divs g z v0 v1 h := List.mem_of_head? e
  unfold divs at hm
  have := List.mem_range.mp (List.mem_filter.mp hm).1
  omega
theorem nearOk_of {g : List Int} {z : Int} {a b : Nat} (h : nearOk g z a b = true) : btwOk (2 * (a : Int) + 1) (2 * (b : Int) + 1) (dv g z a) (dv g z b) = true ∧
    ∃ (v : Int × Int) (o : Nat), v = btw (2 * (a : Int) + 1) (2 * (b : Int) + 1) (dv g z a) (dv g z b) ∧ (0 < v.1 ∧ v.1 < 100000) ∧ (0 < v.2 ∧ v.2 < 100000) ∧ (divs g z v.1 v.2 (a + b + 1)).head? = some o ∧
      nearAt g z a b = some (v.2, v.1, a + b + 1 - o, o) ∧ okNear g z (v.2, v.1, a + b + 1 - o, o) = true := by
  unfold nearOk at h
  simp only [Bool.and_eq_true] at h
  obtain ⟨⟨h1, h2, h3⟩, h4⟩ := h
  refine ⟨h1, btw (2 * (a : Int) + 1) (2 * (b : Int) + 1) (dv g z a) (dv g z b), ?_⟩
  cases e : (divs g z (btw (2 * (a : Int) + 1) (2 * (b : Int) + 1) (dv g z a) (dv g z b)).1 (btw (2 * (a : Int) + 1) (2 * (b : Int) + 1) (dv g z a) (dv g z b)).2 (a + b + 1)).head? with
  | none =>
    have en : nearAt g z a b = none := by
      unfold nearAt
      dsimp only
      rw [e]
      rfl
    rw [en] at h4
    cases h4
  | some o =>
    have en : nearAt g z a b = some ((btw (2 * (a : Int) + 1) (2 * (b : Int) + 1) (dv g z a) (dv g z b)).2, (btw (2 * (a : Int) + 1) (2 * (b : Int) + 1) (dv g z a) (dv g z b)).1, a + b + 1 - o, o) := by
      unfold nearAt
      dsimp only
      rw [e]
      rfl
    rw [en] at h4
    exact ⟨o, rfl, sm_of h2, sm_of h3, rfl, en, h4⟩
section
variable {P : Program} {w : World} {K : PySem.W.Frag} {mg : Str → Option Value} {base : Heap} {f : Addr} {fd : FuncData}
/-! above_evidence -/
theorem sc33 : FnScope ["method", "index", "votes", "other"] ["method"] (defScope (topS 33)) := ⟨rfl, rfl, rfl, by decide +kernel, rfl, by decide +kernel, by decide +kernel⟩
def spHigh (K : PySem.W.Frag) : Sp := fun vs H Q _ => ∃ (a : Addr) (g : List Int) (z : Int), vs = [.ref a] ∧ Meth K H a g z ∧ OkM g z ∧ highOk g z = true ∧ ∀ H' t, Same H H' → H' t = some (.tup (v5 (high g z))) → Q (.ref t) H'
theorem ok_highE (F : Fun K "above_evidence" "above_evidence" (topS 33) f fd) (T : Txt K mg) : FnOk P w K mg base CX0 4 f fd ["method"] (spHigh K) := by
  obtain ⟨fC, dC, FC, bC, gC⟩ := T.check
  obtain ⟨fD, dD, FD, bD, gD⟩ := T.divAt
  obtain ⟨fL, dL, FL, bL, gL⟩ := T.last
  obtain ⟨fM, dM, FM, bM, gM⟩ := T.least
  refine F.ok sc33 (fun vs H Q E h => ?_) (fun cdv A outer s H vs Q E hr h => ?_)
  · obtain ⟨a, g, z, rfl, _⟩ := h
    rfl
  · obtain ⟨a, g, z, rfl, M, O, hok, q⟩ := h
    obtain ⟨l1, l2, l3, _⟩ := highOk_of hok
    have hr1 : Room 1 _ := hr.mono (by decide)
    have hr2 : Room 2 _ := hr.mono (by decide)
    refine ⟨_, pss_cons (ps_expr (pe_call (ok_check FC T) hr (by rfl) gC FC.kp bC .nil pass0 (pa_cons (pv 0) (pa_cons pe_str pa_nil))))
      (pss_cons (ps_set (i := 1) sc33.nd rfl (.inl rfl) (pe_call (ok_last FL T) hr2 (by rfl) gL FL.kp bL .nil pass0 (pa_cons (pv 0) (pa_cons pe_int pa_nil))))
      (pss_cons (ps_set (i := 2) sc33.nd rfl (.inl rfl) (pe_op op_add (pe_op op_mul pe_int (pe_call (ok_divAt FD T) hr1 (by rfl) gD FD.kp bD .nil pass0 (pa_cons (pv 0) (pa_cons (pv 1) pa_nil)))) pe_int))
      (pss_cons (ps_set (i := 3) sc33.nd rfl (.inl rfl) (pe_op op_sub (pe_op op_mul pe_int (pe_call (ok_divAt FD T) hr1 (by rfl) gD FD.kp bD .nil pass0 (pa_cons (pv 0) (pa_cons pe_int pa_nil)))) pe_int))
      (pss_one (ps_ret (pe_tup (pa_cons (pv 2) (pa_cons (pe_call (ok_least FM) hr1 (by rfl) gM FM.kp bM .nil pass0 (pa_cons (pv 2) (pa_cons (pe_op op_mul (pv 1) (pv 3)) pa_nil)))
        (pa_cons (pv 3) (pa_cons (pe_op op_add (pv 1) pe_int) (pa_cons pe_int pa_nil))))))))))), ?_⟩
    have k2 := big (x := 2) (by decide) (by decide)
    have ki := big (x := (la g z 8 1 : Int)) (by omega) (by omega)
    refine ⟨_, rfl, a, _, g, z, rfl, M, O, fun H1 s1 => ?_⟩
    have M1 := M.same s1
    refine ⟨_, rfl, a, 1, g, z, rfl, M1, O, by omega, l1, ?_⟩
    refine ⟨_, rfl, _, rfl, a, la g z 8 1, g, z, rfl, M1, O, by omega, 2, _, rfl, rfl, .inl k2, _, 1, rfl, rfl, ?_⟩
    refine ⟨_, rfl, a, 0, g, z, rfl, M1, O, by omega, 2, _, rfl, rfl, .inl k2, _, 1, rfl, rfl, ?_⟩
    refine ⟨_, rfl, _, rfl, _, rfl, _, rfl, _, _, rfl, rfl, .inl ki, _, _, rfl, l3.1, l3.2, ?_⟩
    refine ⟨_, rfl, _, rfl, _, 1, rfl, rfl, sml (show 5 ≤ 100000 by decide), fun p np => ?_⟩
    exact q _ p (s1.trans (same_upd np)) upd_same
/-! near_evidence -/
theorem sc34 : FnScope ["method", "one", "two", "ratio", "votes", "house", "own"] ["method"] (defScope (topS 34)) := ⟨rfl, rfl, rfl, by decide +kernel, rfl, by decide +kernel, by decide +kernel⟩
def spNear (K : PySem.W.Frag) (PT : Addr) : Sp := fun vs H Q _ => ∃ (a : Addr) (g : List Int) (z : Int), vs = [.ref a] ∧ Meth K H a g z ∧ OkM g z ∧ Tabs [(PT, lamQ)] H ∧ (∀ p, nearF g z = some p → nearOk g z p.1 p.2 = true) ∧
  (nearF g z = none → ∀ H', ExtN H H' → Tabs [(PT, lamQ)] H' → Q .non H') ∧
  (∀ p v u x y, nearF g z = some p → nearAt g z p.1 p.2 = some (v, u, x, y) → okNear g z (v, u, x, y) = true → ∀ H' t, ExtN H H' → Tabs [(PT, lamQ)] H' → Val4 K H' t v u x y → Q (.ref t) H')
theorem ok_nearE (F : Fun K "near_evidence" "near_evidence" (topS 34) f fd) (T : Txt K mg) {PT fP : Addr} {dP : FuncData} (GP : FnOk P w K mg base CX0 2 fP dP ["span"] (spPairs PT)) (kP : PySem.W.keepIn K (.ref fP) = true) (bP : Binds K dP ["span"] []) (gP : mg "index_pairs" = some (.ref fP)) :
    FnOk P w K mg base CX0 12 f fd ["method"] (spNear K PT) := by
  obtain ⟨fC, dC, FC, bC, gC⟩ := T.check
  obtain ⟨fD, dD, FD, bD, gD⟩ := T.divAt
  obtain ⟨fB, dB, FB, bB, gB⟩ := T.btw
  obtain ⟨fV, dV, FV, bV, gV⟩ := T.divs
  refine F.ok sc34 (fun vs H Q E h => ?_) (fun cdv A outer s H vs Q E hr h => ?_)
  · obtain ⟨a, g, z, rfl, _⟩ := h
    rfl
  · obtain ⟨a, g, z, rfl, M, O, hT, hok, q0, q1⟩ := h
    have hr1 : Room 1 _ := hr.mono (by decide)
    have hr2 : Room 2 _ := hr.mono (by decide)
    have hr3 : Room 3 _ := hr.mono (by decide)
    refine ⟨_, pss_cons (ps_expr (pe_call (ok_check FC T) hr3 (by rfl) gC FC.kp bC .nil pass0 (pa_cons (pv 0) (pa_cons pe_str pa_nil))))
      (pss_cons (ps_for PassesOwn.never rfl (pi_list (pe_call GP hr2 (by rfl) gP kP bP .nil pass0 (pa_cons (pe_op op_add (pe_callB call_len_seq (by rfl) T.len b_len (pa_cons (pe_ix ix_tup (pv 0) pe_int (fun _ _ => rfl)) pa_nil)) pe_int) pa_nil)))
          (pg_tup (by rfl) (pgs_cons (pg_name (i := 1) sc34.nd rfl (.inl rfl)) (pgs_cons (pg_name (i := 2) sc34.nd rfl (.inl rfl)) pgs_nil)))
        (pss_one (ps_if (pt_cmpR op_gt (pe_op op_mul (pe_call (ok_divAt FD T) hr1 (by rfl) gD FD.kp bD .nil pass0 (pa_cons (pv 0) (pa_cons (pv 1) pa_nil))) (pe_op op_add (pe_op op_mul pe_int (pv 2)) pe_int))
            (pe_op op_mul (pe_call (ok_divAt FD T) hr1 (by rfl) gD FD.kp bD .nil pass0 (pa_cons (pv 0) (pa_cons (pv 2) pa_nil))) (pe_op op_add (pe_op op_mul pe_int (pv 1)) pe_int)) (nomark _))
          (pss_cons (ps_set (i := 3) sc34.nd rfl (.inl rfl) (pe_tup (pa_cons (pe_call (ok_divAt FD T) hr1 (by rfl) gD FD.kp bD .nil pass0 (pa_cons (pv 0) (pa_cons (pv 1) pa_nil))) (pa_cons (pe_call (ok_divAt FD T) hr1 (by rfl) gD FD.kp bD .nil pass0 (pa_cons (pv 0) (pa_cons (pv 2) pa_nil))) pa_nil))))
          (pss_cons (ps_set (i := 4) sc34.nd rfl (.inl rfl) (pe_call (ok_btw FB T) hr (by rfl) gB FB.kp bB .nil pass0 (pa_cons (pe_tup (pa_cons (pe_op op_add (pe_op op_mul pe_int (pv 1)) pe_int) (pa_cons (pe_op op_add (pe_op op_mul pe_int (pv 2)) pe_int) pa_nil))) (pa_cons (pv 3) pa_nil))))
          (pss_cons (ps_set (i := 5) sc34.nd rfl (.inl rfl) (pe_op op_add (pe_op op_add (pv 1) (pv 2)) pe_int))
          (pss_cons (ps_set (i := 6) sc34.nd rfl (.inl rfl) (pe_ix ix_list (pe_call (ok_divs FV T) hr3 (by rfl) gV FV.kp bV .nil pass0 (pa_cons (pv 0) (pa_cons (pv 4) (pa_cons (pv 5) pa_nil)))) pe_int (fun _ _ => rfl)))
          (pss_one (ps_ret (pe_tup (pa_cons (pe_tup (pa_cons (pe_ix ix_tup (pv 4) pe_int (fun _ _ => rfl)) (pa_cons (pe_ix ix_tup (pv 4) pe_int (fun _ _ => rfl)) pa_nil))) (pa_cons (pe_tup (pa_cons (pe_op op_sub (pv 5) (pv 6)) (pa_cons (pv 6) pa_nil))) pa_nil)))))))))
          pss_nil)))
      (pss_one (ps_ret pe_non))), ?_⟩
    have n1 := O.n1
    have n4 := O.n4
    refine ⟨_, rfl, a, _, g, z, rfl, M, O, fun H1 s1 => ?_⟩
    obtain ⟨b, m1, m2⟩ := M.same s1
    have gl : (g.map V.int).length = g.length := List.length_map ..
    refine ⟨_, rfl, a, _, 0, _, rfl, rfl, m1, at0, b, _, rfl, .inr m2, _, 1, rfl, rfl, g.length + 1, ?_, by omega, by omega, fun y hy => (hT y hy).ext s1, fun H2 L ts e2 T2 eL pr => ?_⟩
    · rw [gl]
      rfl
    have eH : ExtN H H2 := (ExtN.of s1).trans e2
    have M2 := M.ext eH
    have k2 := big (x := 2) (by decide) (by decide)
    refine ⟨L, rfl, ⟨_, SqL.of eL⟩, ?_⟩
    refine for_list (K := K) (a := L) (xs := ts.map V.ref) (fun i σ H' => (∃ y1 y2, σ = [some (.ref a), y1, y2, none, none, none, none]) ∧ H2 = H' ∧ ∀ k p, k < i → (prs (g.length + 1))[k]? = some p → nearT g z p.1 p.2 = false)
      ⟨⟨none, none, rfl⟩, rfl, fun k p hk => absurd hk (Nat.not_lt_zero _)⟩ (fun i σ H' _ hI => by rw [← hI.2.1]; exact SqL.of eL) (fun i y σ H' hy hI => ?_) (fun σ H' hI => ?_)
    · obtain ⟨⟨y1, y2, rfl⟩, rfl, hno⟩ := hI
      rw [List.getElem?_map] at hy
      obtain ⟨t, ht, rfl⟩ : ∃ t, ts[i]? = some t ∧ V.ref t = y := by
        cases e : ts[i]? with
        | none =>
          rw [e] at hy
          cases hy
        | some t =>
          rw [e] at hy
          exact ⟨t, rfl, Option.some.inj hy⟩
      obtain ⟨pi, hpi, et⟩ := prs_at pr ht
      unfold prsI at hpi
      rw [List.getElem?_map] at hpi
      obtain ⟨⟨i1, i2⟩, hp, rfl⟩ : ∃ x : Nat × Nat, (prs (g.length + 1))[i]? = some x ∧ ((x.1 : Int), (x.2 : Int)) = pi := by
        cases e : (prs (g.length + 1))[i]? with
        | none =>
          rw [e] at hpi
          cases hpi
        | some x =>
          rw [e] at hpi
          exact ⟨x, rfl, Option.some.inj hpi⟩
      obtain ⟨c1, c2⟩ := prs_small (n := g.length + 1) (by omega) (by omega) _ (List.mem_of_getElem? hp)
      dsimp only at c1 c2 et
      refine ⟨t, _, rfl, SqT.of et, rfl, _, _, rfl, _, _, rfl, rfl, ?_⟩
      have d1 := O.dv (i := i1) (by omega)
      have d2 := O.dv (i := i2) (by omega)
      refine ⟨_, rfl, _, rfl, a, i1, g, z, rfl, M2, O, by omega, _, rfl, 2, _, rfl, rfl, .inl k2, _, 1, rfl, rfl, _, _, rfl, rfl, .inl (big (by omega) (by omega)), ?_⟩
      refine ⟨_, rfl, _, rfl, a, i2, g, z, rfl, M2, O, by omega, _, rfl, 2, _, rfl, rfl, .inl k2, _, 1, rfl, rfl, _, _, rfl, rfl, .inl (big (by omega) (by omega)), ?_⟩
      refine ⟨_, _, rfl, rfl, _, rfl, ite2 (fun e => ?_) (fun e => ?_)⟩
      · have hit : nearF g z = some (i1, i2) := find_at (fun k y hk hy => hno k y hk hy) hp e
        obtain ⟨l1, v, o, ev, bv1, bv2, eo, en, on⟩ := nearOk_of (hok _ hit)
        dsimp only at l1 ev eo en on
        have ho := divs_le eo
        refine ⟨_, rfl, _, rfl, a, i1, g, z, rfl, M2, O, by omega, _, rfl, _, rfl, a, i2, g, z, rfl, M2, O, by omega, sml (show 2 ≤ 100000 by decide), fun rt nrt => ?_⟩
        have s3 := same_upd (o := .tup [.int (dv g z i1), .int (dv g z i2)]) nrt
        refine ⟨_, rfl, 2, _, rfl, rfl, .inl k2, _, 1, rfl, rfl, _, rfl, 2, _, rfl, rfl, .inl k2, _, 1, rfl, rfl, sml (show 2 ≤ 100000 by decide), fun ot not => ?_⟩
        have s4 := same_upd (o := .tup [.int (2 * (i1 : Int) + 1), .int (2 * (i2 : Int) + 1)]) not
        refine ⟨_, rfl, ot, rt, _, _, _, _, rfl, SqT.of upd_same, SqT.of (s4 _ _ upd_same), l1, fun H5 vt s5 e5 => ?_⟩
        rw [← ev] at e5
        refine ⟨_, rfl, _, rfl, _, _, rfl, rfl, _, 1, rfl, rfl, ?_⟩
        have s25 := (s3.trans s4).trans s5
        refine ⟨_, rfl, _, rfl, _, rfl, a, vt, i1 + i2 + 1, v.1, v.2, g, z, ?_, M2.same s25, O, SqT.of e5, by omega, ⟨by omega, by omega⟩, ⟨by omega, by omega⟩, fun H6 dl s6 e6 => ?_⟩
        · rw [show ((i1 + i2 + 1 : Nat) : Int) = (i1 : Int) + (i2 : Int) + 1 by omega]
          rfl
        refine ⟨dl, _, 0, .int (o : Int), rfl, rfl, SqL.of e6, ?_, ?_⟩
        · refine atI_nat (j := 0) ?_
          unfold nats
          rw [List.getElem?_map, ← List.head?_eq_getElem?, eo]
          rfl
        have e7 := s6 _ _ e5
        refine ⟨_, rfl, vt, _, 1, _, rfl, rfl, SqT.of e7, at1, _, rfl, vt, _, 0, _, rfl, rfl, SqT.of e7, at0, sml (show 2 ≤ 100000 by decide), fun q4 nq4 => ?_⟩
        refine ⟨_, rfl, _, rfl, _, _, rfl, rfl, _, rfl, sml (show 2 ≤ 100000 by decide), fun q5 nq5 => ?_⟩
        refine ⟨sml (show 2 ≤ 100000 by decide), fun q6 nq6 => ?_⟩
        have s8 := fun x : HO => same_upd (o := x) nq4
        have s9 := fun x : HO => same_upd (o := x) nq5
        have s10 := fun x : HO => same_upd (o := x) nq6
        have sAll : Same H2 _ := (s25.trans s6).trans (((s8 _).trans (s9 _)).trans (s10 (.tup [.ref q4, .ref q5])))
        refine q1 _ _ _ _ _ hit en on _ q6 (eH.trans (ExtN.of sAll)) (fun y hy => (T2 y hy).ext sAll) ⟨q4, q5, SqT.of upd_same, SqT.of (s10 _ _ _ (s9 _ _ _ upd_same)), SqT.of (s10 _ _ _ ?_)⟩
        rw [upd_same, show ((i1 + i2 + 1 - o : Nat) : Int) = (i1 : Int) + (i2 : Int) + 1 - (o : Int) by omega]
      · refine ⟨⟨_, _, rfl⟩, rfl, fun k p hk hp2 => ?_⟩
        by_cases hki : k = i
        · subst hki
          rw [hp] at hp2
          obtain rfl : (i1, i2) = p := Option.some.inj hp2
          exact Bool.eq_false_iff.mpr e
        · exact hno k p (by omega) hp2
    · obtain ⟨⟨y1, y2, rfl⟩, rfl, hno⟩ := hI
      have hnone : nearF g z = none := find_no fun k y hy => hno k y (by
        rw [List.length_map, prs_len pr]
        unfold prsI
        rw [List.length_map]
        exact (List.getElem?_eq_some_iff.mp hy).1) hy
      exact q0 hnone _ eH T2
end
end K53
/-! The law's own defs: the stream. -/
namespace K53
open PySem PySem.Spec PyProof.Rows L2
/-- the stream at a: the script's copy at l, at most k cells drawn -/
def Strm (H : Hp) (a l : Addr) (ns : List Int) (k : Nat) : Prop := l ≠ a ∧ H l = some (.lst (ns.map V.int)) ∧ ∃ (c : Int) (kk : Nat), H a = some (.lst [.ref l, .int c, .int (kk : Int)]) ∧ 0 ≤ c ∧ kk ≤ k
def But (a : Addr) (H H' : Hp) : Prop := ∀ b o, b ≠ a → H b = some o → H' b = some o
theorem But.trans {a : Addr} {H H1 H2 : Hp} (x : But a H H1) (y : But a H1 H2) : But a H H2 := fun b o h e => y b o h (x b o h e)
theorem But.upd {a : Addr} {H H' : Hp} {o : HO} (x : But a H H') : But a H (upd H' a o) := fun b u h e => by
  rw [upd_ne h]
  exact x b u h e
theorem But.refl (a : Addr) (H : Hp) : But a H H := fun _ _ _ e => e
section
variable {P : Program} {w : World} {K : PySem.W.Frag} {mg : Str → Option Value} {base : Heap} {f : Addr} {fd : FuncData}
/-! _law_stream -/
theorem sc41 : FnScope ["_law_script"] ["_law_script"] (defScope (topS 41)) := ⟨rfl, rfl, rfl, by decide +kernel, rfl, by decide +kernel, by decide +kernel⟩
def spStream (K : PySem.W.Frag) : Sp := fun vs H Q _ => ∃ (a : Addr) (ns : List Int), vs = [.ref a] ∧ SqL K H a (ns.map V.int) ∧ ∀ H' p l, Same H H' → H p = none → Strm H' p l ns 0 → Q (.ref p) H'
theorem ok_stream (F : Fun K "_law_stream" "_law_stream" (topS 41) f fd) (T : Txt K mg) : FnOk P w K mg base CX0 1 f fd ["_law_script"] (spStream K) := by
  refine F.ok sc41 (fun vs H Q E h => ?_) (fun cdv A outer s H vs Q E hr h => ?_)
  · obtain ⟨a, ns, rfl, _⟩ := h
    rfl
  · obtain ⟨a, ns, rfl, hS, q⟩ := h
    refine ⟨_, pss_one (ps_ret (pe_lst (pa_cons (pe_callTy call_list_of (by rfl) T.list b_list (pa_cons (pv 0) pa_nil)) (pa_cons pe_int (pa_cons pe_int pa_nil))))), ?_⟩
    refine ⟨_, rfl, a, _, rfl, .inl hS, fun l nl => ⟨sml (show 3 ≤ 100000 by decide), fun p np => ?_⟩⟩
    have nlp : l ≠ p := ne_of_none upd_same np
    have s1 := same_upd (o := .lst (ns.map V.int)) nl
    refine q _ p l (s1.trans (same_upd np)) (s1.free np) ⟨nlp, ?_, 0, 0, upd_same, Int.le_refl _, Nat.le_refl _⟩
    rw [upd_ne nlp, upd_same]
/-! _law_next -/
theorem sc42 : FnScope ["_law_stream_here", "_law_many", "_law_k", "_law_cell", "_law_digit"] ["_law_stream_here", "_law_many"] (defScope (topS 42)) := ⟨rfl, rfl, rfl, by decide +kernel, rfl, by decide +kernel, by decide +kernel⟩
def spNext : Sp := fun vs H Q _ => ∃ (a l : Addr) (ns : List Int) (k m : Nat), vs = [.ref a, .int (m : Int)] ∧ Strm H a l ns k ∧ k ≤ 100 ∧ 1 ≤ m ∧ m ≤ 100 ∧ ∀ H' (d : Nat), Strm H' a l ns (k + 1) → But a H H' → d < m → Q (.int (d : Int)) H'
theorem ok_next (F : Fun K "_law_next" "_law_next" (topS 42) f fd) (T : Txt K mg) : FnOk P w K mg base CX0 1 f fd ["_law_stream_here", "_law_many"] spNext := by
  refine F.ok sc42 (fun vs H Q E h => ?_) (fun cdv A outer s H vs Q E hr h => ?_)
  · obtain ⟨a, l, ns, k, m, rfl, _⟩ := h
    rfl
  · obtain ⟨a, l, ns, k, m, rfl, ⟨nla, hl, c, kk, ha, hc, hkk⟩, hk, hm1, hm, q⟩ := h
    refine ⟨_, C8.pss_cut (ps_if (pt_cmpR op_eq (pe_ix ix_list (pv 0) pe_int (fun _ _ => rfl)) pe_int (nomark _))
        (pss_cons (ps_set (i := 2) sc42.nd rfl (.inl rfl) (pe_ix ix_list (pv 0) pe_int (fun _ _ => rfl)))
        (pss_cons (ps_set (i := 3) sc42.nd rfl (.inl rfl) (pe_op op_add pe_int (pv 2)))
        (C8.pss_cut (ps_if (pt_cmpR op_lt (pv 2) (pe_callB call_len_seq (by rfl) T.len b_len (pa_cons (pe_ix ix_list (pv 0) pe_int (fun _ _ => rfl)) pa_nil)) (nomark _))
          (pss_one (ps_set (i := 3) sc42.nd rfl (.inl rfl) (pe_callB call_abs (by rfl) T.abs b_abs (pa_cons (pe_ix ix_list (pe_ix ix_list (pv 0) pe_int (fun _ _ => rfl)) (pv 2) (fun _ _ => rfl)) pa_nil)))) pss_nil)
        (C8.pss_cut (ps_if (pt_cmpR op_lt (pv 3) (pe_op op_pow pe_int pe_int) (nomark _))
          (pss_cons (ps_set (i := 3) sc42.nd rfl (.inl rfl) (pe_op op_mod (pe_callTy call_int1 (by rfl) T.int b_int (pa_cons (pe_op op_add (pe_op op_add (pe_op op_mul (pv 3) pe_int) (pe_op op_mul (pv 2) pe_int)) pe_int) pa_nil)) pe_int))
          (pss_one (ps_set (i := 3) sc42.nd rfl (.inl rfl) (pe_op op_add (pe_op op_mul (pe_op op_mod (pe_callTy call_int1 (by rfl) T.int b_int (pa_cons (pe_op op_add (pe_op op_mul (pv 3) pe_int) pe_int) pa_nil)) pe_int) pe_int) (pv 3))))) pss_nil)
        (pss_cons (ps_asg (pv 3) (pg_sub (pv 0) pe_int set_list))
        (pss_one (ps_asg (pe_op op_add (pv 2) pe_int) (pg_sub (pv 0) pe_int set_list)))))))) pss_nil)
      (pss_cons (ps_set (i := 4) sc42.nd rfl (.inl rfl) (pe_op op_mod (pe_callTy call_int1 (by rfl) T.int b_int (pa_cons (pe_ix ix_list (pv 0) pe_int (fun _ _ => rfl)) pa_nil)) (pv 1)))
      (pss_cons (ps_asg (pe_op op_fdivW (pe_ix ix_list (pv 0) pe_int (fun _ _ => rfl)) (pv 1)) (pg_sub (pv 0) pe_int set_list))
      (pss_one (ps_ret (pv 4))))), ?_⟩
    refine ⟨fun σ H' => ∃ y2 y3, σ = [some (.ref a), some (.int (m : Int)), y2, y3, none] ∧ But a H H' ∧ ∃ (c : Int) (kk : Nat), H' a = some (.lst [.ref l, .int c, .int (kk : Int)]) ∧ 0 ≤ c ∧ kk ≤ k + 1, ?_, fun σ H1 hM => ?_⟩
    · refine ⟨_, rfl, a, _, 1, _, rfl, rfl, SqL.of ha, at1, rfl, _, rfl, ite2 (fun e => ?_) (fun e => ?_)⟩
      · refine ⟨_, rfl, a, _, 2, _, rfl, rfl, SqL.of ha, atI_nat (j := 2) rfl, ?_⟩
        refine ⟨_, rfl, 7, _, rfl, rfl, ?_⟩
        refine ⟨fun σ H' => H = H' ∧ ∃ c1 : Int, σ = [some (.ref a), some (.int (m : Int)), some (.int (kk : Int)), some (.int c1), none] ∧ 0 ≤ c1, ?_, fun σ H1 hM => ?_⟩
        · refine ⟨_, rfl, _, rfl, a, _, 0, _, rfl, rfl, SqL.of ha, at0, l, _, rfl, .inl (SqL.of hl), _, _, rfl, rfl, _, rfl, ite2 (fun e2 => ?_) (fun e2 => ?_)⟩
          · have hlt := of_decide_eq_true e2
            rw [List.length_map] at hlt
            have hlt2 : kk < ns.length := by omega
            refine ⟨_, rfl, a, _, 0, _, rfl, rfl, SqL.of ha, at0, _, rfl, l, _, _, .int ns[kk], rfl, rfl, SqL.of hl, atN (by rw [List.getElem?_map, List.getElem?_eq_getElem hlt2]; rfl), _, rfl, ?_⟩
            refine ⟨rfl, _, rfl, ?_⟩
            split <;> omega
          · exact ⟨rfl, _, rfl, by omega⟩
        obtain ⟨rfl, c1, rfl, hc1⟩ := hM
        refine ⟨fun σ H' => H = H' ∧ ∃ c1 : Int, σ = [some (.ref a), some (.int (m : Int)), some (.int (kk : Int)), some (.int c1), none] ∧ 0 ≤ c1, ?_, fun σ H1 hM => ?_⟩
        · refine ⟨_, rfl, 10, 18, rfl, rfl, ⟨by decide, by decide, by decide⟩, _, _, rfl, rfl, _, rfl, ite2 (fun e2 => ?_) (fun e2 => ?_)⟩
          · have hlt : c1 < 10 ^ (18 : Int).toNat := of_decide_eq_true e2
            have hlt2 : c1 < 1000000000000000000 := hlt
            have p1 : 0 ≤ (c1 * 48271 + (kk : Int) * 69621 + 11) % 2147483647 := Int.emod_nonneg _ (by decide)
            have p2 : (c1 * 48271 + (kk : Int) * 69621 + 11) % 2147483647 < 2147483647 := Int.emod_lt_of_pos _ (by decide)
            refine ⟨_, rfl, c1, 48271, rfl, rfl, .inl ⟨by omega, by omega⟩, _, rfl, (kk : Int), 69621, rfl, rfl, .inl ⟨by omega, by omega⟩, _, _, rfl, rfl, _, 11, rfl, rfl, .inl ⟨_, rfl, _, 2147483647, rfl, rfl, (show (0 : Int) < 2147483647 by decide), ?_⟩⟩
            have p3 : 0 ≤ ((c1 * 48271 + (kk : Int) * 69621 + 11) % 2147483647 * 16807 + 13) % 2147483647 := Int.emod_nonneg _ (by decide)
            have p4 : ((c1 * 48271 + (kk : Int) * 69621 + 11) % 2147483647 * 16807 + 13) % 2147483647 < 2147483647 := Int.emod_lt_of_pos _ (by decide)
            refine ⟨_, rfl, _, 16807, rfl, rfl, .inl ⟨by omega, by omega⟩, _, 13, rfl, rfl, .inl ⟨_, rfl, _, 2147483647, rfl, rfl, (show (0 : Int) < 2147483647 by decide), _, 65537, rfl, rfl, .inl ⟨by omega, by omega⟩, _, rfl, _, _, rfl, rfl, ?_⟩⟩
            exact ⟨rfl, _, rfl, by omega⟩
          · exact ⟨rfl, _, rfl, hc1⟩
        obtain ⟨rfl, c2, rfl, hc2⟩ := hM
        refine ⟨_, rfl, _, rfl, a, _, 1, 1, rfl, rfl, ha, rfl, ?_⟩
        refine ⟨_, rfl, _, 1, rfl, rfl, _, rfl, a, _, 2, 2, rfl, rfl, upd_same, rfl, ?_⟩
        exact ⟨_, _, rfl, (But.refl a H).upd.upd, c2, kk + 1, upd_same, hc2, by omega⟩
      · exact ⟨none, none, rfl, But.refl a H, c, kk, ha, hc, by omega⟩
    · obtain ⟨y2, y3, rfl, bt, c1, k1, e1, hc1, hk1⟩ := hM
      refine ⟨_, rfl, a, _, 1, _, rfl, rfl, SqL.of e1, at1, .inl ⟨_, rfl, ?_⟩⟩
      refine ⟨_, rfl, _, _, rfl, rfl, (show (0 : Int) < (m : Int) by omega), ?_⟩
      refine ⟨_, rfl, a, _, 1, _, rfl, rfl, SqL.of e1, at1, _, rfl, _, _, rfl, rfl, wide_div (b := 7) (by omega) (by omega) (by decide) (by decide), ?_⟩
      refine ⟨_, rfl, a, _, 1, 1, rfl, rfl, e1, rfl, ?_⟩
      have d0 : 0 ≤ c1 % (m : Int) := Int.emod_nonneg _ (by omega)
      have d1 : c1 % (m : Int) < (m : Int) := Int.emod_lt_of_pos _ (by omega)
      refine ⟨_, rfl, ?_⟩
      have ed : c1 % (m : Int) = ((c1 % (m : Int)).toNat : Int) := by omega
      show Q (.int (c1 % (m : Int))) (upd H1 a (.lst [.ref l, .int (c1 / (m : Int)), .int (k1 : Int)]))
      rw [ed]
      refine q _ _ ⟨nla, ?_, c1 / (m : Int), k1, upd_same, Int.ediv_nonneg hc1 (by omega), hk1⟩ bt.upd (by omega)
      rw [upd_ne nla]
      exact bt _ _ nla hl
end
end K53
/-! The law's own defs: the method, the divisors. -/
namespace K53
open PySem PySem.Spec PyProof.Rows L2
theorem Strm.new {H : Hp} {a l t : Addr} {ns : List Int} {k : Nat} {o : HO} (h : Strm H a l ns k) (n : H t = none) : Strm (upd H t o) a l ns k := by
  obtain ⟨h1, h2, c, kk, h3, h4⟩ := h
  refine ⟨h1, ?_, c, kk, ?_, h4⟩
  · rw [upd_ne (ne_of_none h2 n)]
    exact h2
  · rw [upd_ne (ne_of_none h3 n)]
    exact h3
theorem Strm.other {H : Hp} {a l t : Addr} {ns : List Int} {k : Nat} {o : HO} (h : Strm H a l ns k) (n1 : t ≠ a) (n2 : t ≠ l) : Strm (upd H t o) a l ns k := by
  obtain ⟨h1, h2, c, kk, h3, h4⟩ := h
  refine ⟨h1, ?_, c, kk, ?_, h4⟩
  · rw [upd_ne n2.symm]
    exact h2
  · rw [upd_ne n1.symm]
    exact h3
theorem Strm.ne {H : Hp} {a l t : Addr} {ns : List Int} {k : Nat} (h : Strm H a l ns k) (n : H t = none) : t ≠ a := by
  obtain ⟨h1, h2, c, kk, h3, h4⟩ := h
  exact (ne_of_none h3 n).symm
theorem But.new {a t : Addr} {H H' : Hp} {o : HO} (x : But a H H') (n : H' t = none) : But a H (L2.upd H' t o) := fun b u h e => by
  have e2 := x b u h e
  rw [upd_ne (ne_of_none e2 n)]
  exact e2
section
variable {P : Program} {w : World} {K : PySem.W.Frag} {mg : Str → Option Value} {base : Heap} {f : Addr} {fd : FuncData}
/-! _law_method -/
theorem sc44 : FnScope ["_law_stream_here", "_law_pick", "_law_by", "_law_firsts", "_law_k"] ["_law_stream_here"] (defScope (topS 44)) := ⟨rfl, rfl, rfl, by decide +kernel, rfl, by decide +kernel, by decide +kernel⟩
def spMk (K : PySem.W.Frag) : Sp := fun vs H Q _ => ∃ (a l : Addr) (ns : List Int), vs = [.ref a] ∧ Strm H a l ns 0 ∧ ∀ H' p g z, But a H H' → Meth K H' p g z → chk g z = true → Q (.ref p) H'
theorem ok_mk (F : Fun K "_law_method" "_law_method" (topS 44) f fd) (T : Txt K mg) : FnOk P w K mg base CX0 2 f fd ["_law_stream_here"] (spMk K) := by
  obtain ⟨fN, dN, FN, bN, gN⟩ := T.lNext
  refine F.ok sc44 (fun vs H Q E h => ?_) (fun cdv A outer s H vs Q E hr h => ?_)
  · obtain ⟨a, l, ns, rfl, _⟩ := h
    rfl
  · obtain ⟨a, l, ns, rfl, S0, q⟩ := h
    refine ⟨_, pss_cons (ps_set (i := 1) sc44.nd rfl (.inl rfl) (pe_call (ok_next FN T) hr (by rfl) gN FN.kp bN .nil pass0 (pa_cons (pv 0) (pa_cons pe_int pa_nil))))
      (pss_cons (ps_set (i := 2) sc44.nd rfl (.inl rfl) (pe_op op_add pe_int (pe_call (ok_next FN T) hr (by rfl) gN FN.kp bN .nil pass0 (pa_cons (pv 0) (pa_cons pe_int pa_nil)))))
      (pss_cons (ps_if (pt_cmpR op_eq (pv 1) pe_int (nomark _)) (pss_one (ps_ret (pe_tup (pa_cons (pe_tup (pa_cons (pv 2) pa_nil)) (pa_cons (pv 2) pa_nil))))) pss_nil)
      (pss_cons (ps_if (pt_cmpR op_eq (pv 1) pe_int (nomark _)) (pss_one (ps_ret (pe_tup (pa_cons (pe_tup (pa_cons (pv 2) pa_nil)) (pa_cons (pe_op op_mul pe_int (pv 2)) pa_nil))))) pss_nil)
      (pss_cons (ps_if (pt_cmpR op_eq (pv 1) pe_int (nomark _)) (pss_one (ps_ret (pe_tup (pa_cons (pe_tup (pa_cons (pe_op op_mul pe_int (pv 2)) (pa_cons (pe_op op_mul pe_int (pv 2)) pa_nil))) (pa_cons (pe_op op_mul pe_int (pv 2)) pa_nil))))) pss_nil)
      (pss_cons (ps_set (i := 3) sc44.nd rfl (.inl rfl) (pe_lst (pa_cons (pe_op op_add pe_int (pe_call (ok_next FN T) hr (by rfl) gN FN.kp bN .nil pass0 (pa_cons (pv 0) (pa_cons pe_int pa_nil)))) pa_nil)))
      (pss_cons (ps_for PassesOwn.never rfl (pi_range1 (by rfl) T.range (pa_cons (pe_call (ok_next FN T) hr (by rfl) gN FN.kp bN .nil pass0 (pa_cons (pv 0) (pa_cons pe_int pa_nil))) pa_nil)) (pg_name (i := 4) sc44.nd rfl (.inl rfl))
        (pss_one (ps_expr (pe_bm PySem.F.plainAttrs_list PySem.F.slot_list_append PySem.F.type_list_append mt_append (pv 3) (pa_cons (pe_op op_add (pe_ix ix_list (pv 3) (pe_un un_neg pe_int) (fun _ _ => rfl)) (pe_call (ok_next FN T) hr (by rfl) gN FN.kp bN .nil pass0 (pa_cons (pv 0) (pa_cons pe_int pa_nil)))) pa_nil)))))
      (pss_one (ps_ret (pe_tup (pa_cons (pe_callTy call_tuple_of (by rfl) T.tuple b_tuple (pa_cons (pv 3) pa_nil)) (pa_cons (pe_op op_add pe_int (pe_call (ok_next FN T) hr (by rfl) gN FN.kp bN .nil pass0 (pa_cons (pv 0) (pa_cons pe_int pa_nil)))) pa_nil))))))))))), ?_⟩
    -- pick, by
    refine ⟨_, rfl, a, l, ns, 0, 6, rfl, S0, by omega, by omega, by omega, fun H1 d1 S1 B1 hd1 => ?_⟩
    refine ⟨_, rfl, a, l, ns, 1, 4, rfl, S1, by omega, by omega, by omega, fun H2 d2 S2 B2 hd2 => ?_⟩
    have B12 := B1.trans B2
    have kb := chk_b (b := 1 + (d2 : Int)) (by omega) (by omega)
    refine ⟨1, (d2 : Int), rfl, rfl, ?_⟩
    refine ⟨_, rfl, rfl, _, rfl, ite2 (fun e => ?_) (fun e0 => ?_)⟩
    · refine ⟨_, rfl, sml (show 1 ≤ 100000 by decide), fun t1 n1 => ⟨_, rfl, sml (show 2 ≤ 100000 by decide), fun t2 n2 => ?_⟩⟩
      have s2 := same_upd (o := .tup [.ref t1, .int (1 + (d2 : Int))]) n2
      exact q _ t2 [1 + (d2 : Int)] (1 + (d2 : Int)) ((B12.new n1).new n2) ⟨t1, SqT.of upd_same, SqT.of (s2 _ _ upd_same)⟩ kb.1
    refine ⟨_, rfl, rfl, _, rfl, ite2 (fun e => ?_) (fun e1 => ?_)⟩
    · refine ⟨_, rfl, sml (show 1 ≤ 100000 by decide), fun t1 n1 => ⟨_, rfl, 2, _, rfl, rfl, .inl ⟨by decide, by decide⟩, sml (show 2 ≤ 100000 by decide), fun t2 n2 => ?_⟩⟩
      have s2 := same_upd (o := .tup [.ref t1, .int (2 * (1 + (d2 : Int)))]) n2
      exact q _ t2 [1 + (d2 : Int)] (2 * (1 + (d2 : Int))) ((B12.new n1).new n2) ⟨t1, SqT.of upd_same, SqT.of (s2 _ _ upd_same)⟩ kb.2.1
    refine ⟨_, rfl, rfl, _, rfl, ite2 (fun e => ?_) (fun e2 => ?_)⟩
    · refine ⟨_, rfl, 7, _, rfl, rfl, .inl ⟨by decide, by decide⟩, _, rfl, 15, _, rfl, rfl, .inl ⟨by decide, by decide⟩, sml (show 2 ≤ 100000 by decide), fun t1 n1 => ⟨_, rfl, 10, _, rfl, rfl, .inl ⟨by decide, by decide⟩, sml (show 2 ≤ 100000 by decide), fun t2 n2 => ?_⟩⟩
      have s2 := same_upd (o := .tup [.ref t1, .int (10 * (1 + (d2 : Int)))]) n2
      exact q _ t2 [7 * (1 + (d2 : Int)), 15 * (1 + (d2 : Int))] (10 * (1 + (d2 : Int))) ((B12.new n1).new n2) ⟨t1, SqT.of upd_same, SqT.of (s2 _ _ upd_same)⟩ kb.2.2
    -- firsts
    refine ⟨_, rfl, a, l, ns, 2, 6, rfl, S2, by omega, by omega, by omega, fun H3 d3 S3 B3 hd3 => ?_⟩
    refine ⟨1, (d3 : Int), rfl, rfl, sml (show 1 ≤ 100000 by decide), fun L nL => ?_⟩
    have B13 := B12.trans B3
    have nLa : L ≠ a := S3.ne nL
    have nHL : H L = none := by
      cases e : H L with
      | none => rfl
      | some o =>
        rw [B13 L o nLa e] at nL
        cases nL
    refine ⟨_, rfl, a, l, ns, 3, 4, rfl, S3.new nL, by omega, by omega, by omega, fun H4 d4 S4 B4 hd4 => ?_⟩
    refine ⟨d4, rfl, by omega, by omega, ?_⟩
    rw [Int.toNat_natCast]
    refine for_range (lo := 0) (n := d4) (fun i σ H' => (∃ y, σ = [some (.ref a), some (.int (d1 : Int)), some (.int (1 + (d2 : Int))), some (.ref L), y]) ∧ But a H H' ∧ Strm H' a l ns (4 + i) ∧ ∃ g z, GenL i g z ∧ H' L = some (.lst (g.map V.int)))
      ⟨⟨none, rfl⟩, (B13.new nL).trans B4, S4, [1 + (d3 : Int)], 1 + (d3 : Int), .one (by omega) (by omega), B4 _ _ nLa upd_same⟩ (fun i σ H' hi hI => ?_) (fun σ H' hI => ?_)
    · obtain ⟨⟨y, rfl⟩, B5, S5, g, z, G, eL⟩ := hI
      obtain ⟨g0, eg⟩ := G.last
      refine ⟨.ref L, rfl, .inl ⟨rfl, _, SqL.of eL⟩, ?_⟩
      refine ⟨_, rfl, 1, rfl, L, _, -1, .int z, rfl, rfl, SqL.of eL, ?_, ?_⟩
      · rw [eg, List.map_append]
        exact atI_last _ _
      refine ⟨_, rfl, a, l, ns, 4 + i, 5, rfl, S5, by omega, by omega, by omega, fun H6 d6 S6 B6 hd6 => ?_⟩
      have e6 := B6 _ _ nLa eL
      refine ⟨z, (d6 : Int), rfl, rfl, L, _, _, rfl, rfl, e6, ?_, ?_⟩
      · have := G.len
        exact sml' (by rw [List.length_map]; omega)
      · refine ⟨⟨_, rfl⟩, ?_, ?_, g ++ [z + (d6 : Int)], z + (d6 : Int), .more G (by omega) (by omega), ?_⟩
        · intro b o hb e
          have e2 := B6 b o hb (B5 b o hb e)
          rw [upd_ne fun hz => by rw [hz, nHL] at e; cases e]
          exact e2
        · exact S6.other nLa fun hz => by
            have hl := S0.2.1
            rw [← hz, nHL] at hl
            cases hl
        · rw [upd_same, List.map_append]
          rfl
    · obtain ⟨⟨y, rfl⟩, B5, S5, g, z, G, eL⟩ := hI
      refine ⟨_, rfl, L, _, rfl, .inl ⟨SqL.of eL, fun t1 n1 => ?_⟩⟩
      refine ⟨_, rfl, a, l, ns, 4 + d4, 6, rfl, S5.new n1, by omega, by omega, by omega, fun H6 d6 S6 B6 hd6 => ?_⟩
      refine ⟨1, (d6 : Int), rfl, rfl, sml (show 2 ≤ 100000 by decide), fun t2 n2 => ?_⟩
      have s2 := same_upd (o := .tup [.ref t1, .int (1 + (d6 : Int))]) n2
      refine q _ t2 g (1 + (d6 : Int)) (((B5.new n1).trans B6).new n2) ⟨t1, SqT.of upd_same, SqT.of (s2 _ _ (B6 _ _ (S5.ne n1) upd_same))⟩ (chk_gen (by omega) G (by omega) (by omega))
end
end K53
/-! The law's own judges. -/
namespace K53
open PySem PySem.Spec PyProof.Rows L2
theorem dvs_firsts (g : List Int) (z : Int) : g.map V.int = dvs g z g.length := by
  unfold dvs
  refine List.ext_getElem? fun i => ?_
  rw [List.getElem?_map, List.getElem?_map]
  by_cases h : i < g.length
  · rw [List.getElem?_eq_getElem h, List.getElem?_range h]
    show some (V.int g[i]) = some (V.int (dv g z i))
    rw [dv_in (List.getElem?_eq_getElem h)]
  · rw [List.getElem?_eq_none (by omega), List.getElem?_eq_none (by rw [List.length_range]; omega)]
    rfl
theorem dv_step {g : List Int} {z : Int} (O : OkM g z) {n : Nat} (h : g.length ≤ n) : dv g z n = dv g z (n - 1) + z := by
  have n1 := O.n1
  rw [dv_out h]
  by_cases e : n = g.length
  · obtain ⟨g0, y, eg, el, _⟩ := O.last
    have hl : g0.length + 1 = g.length := by rw [eg, List.length_append]; rfl
    have hi : g[n - 1]? = some y := by
      rw [show n - 1 = g0.length by omega, eg]
      exact List.getElem?_concat_length
    rw [dv_in hi, el, e, show ((g.length : Int) + 1 - (g.length : Int)) = 1 by omega, Int.mul_one]
  · rw [dv_out (show g.length ≤ n - 1 by omega), show ((n : Int) + 1 - (g.length : Int)) = (((n - 1 : Nat) : Int) + 1 - (g.length : Int)) + 1 by omega, Int.mul_add, Int.mul_one]
    omega
theorem dvs_last {g : List Int} {z : Int} {n : Nat} (h : 0 < n) : atI (dvs g z n) (-1) = some (.int (dv g z (n - 1))) := by
  obtain ⟨m, rfl⟩ : ∃ m, n = m + 1 := ⟨n - 1, by omega⟩
  rw [← dvs_next]
  exact atI_last _ _
theorem dvs_cut {g : List Int} {z : Int} {m n : Nat} (h : n ≤ m) : cutV (dvs g z m) none (some (n : Int)) = dvs g z n := by
  unfold cutV
  rw [dvs_len, HT.sIx_none, HT.sIx_nat]
  rw [show min n m - 0 = n by omega]
  unfold dvs
  rw [List.drop_zero, ← List.map_take, List.take_range, show min n m = n by omega]
section
variable {P : Program} {w : World} {K : PySem.W.Frag} {mg : Str → Option Value} {base : Heap} {f : Addr} {fd : FuncData}
/-! _law_divisors -/
theorem sc45 : FnScope ["_law_method_here", "_law_many", "_law_found", "_law_k"] ["_law_method_here", "_law_many"] (defScope (topS 45)) := ⟨rfl, rfl, rfl, by decide +kernel, rfl, by decide +kernel, by decide +kernel⟩
def spLDivs (K : PySem.W.Frag) : Sp := fun vs H Q _ => ∃ (a : Addr) (n : Nat) (g : List Int) (z : Int), vs = [.ref a, .int (n : Int)] ∧ Meth K H a g z ∧ OkM g z ∧ n ≤ 500 ∧ ∀ H' p, Same H H' → H' p = some (.lst (dvs g z n)) → Q (.ref p) H'
theorem ok_lDivs (F : Fun K "_law_divisors" "_law_divisors" (topS 45) f fd) (T : Txt K mg) : FnOk P w K mg base CX0 1 f fd ["_law_method_here", "_law_many"] (spLDivs K) := by
  refine F.ok sc45 (fun vs H Q E h => ?_) (fun cdv A outer s H vs Q E hr h => ?_)
  · obtain ⟨a, n, g, z, rfl, _⟩ := h
    rfl
  · obtain ⟨a, n, g, z, rfl, ⟨b, h1, h2⟩, O, hn, q⟩ := h
    refine ⟨_, pss_cons (ps_set (i := 2) sc45.nd rfl (.inl rfl) (pe_callTy call_list_of (by rfl) T.list b_list (pa_cons (pe_ix ix_tup (pv 0) pe_int (fun _ _ => rfl)) pa_nil)))
      (pss_cons (ps_for PassesOwn.never rfl (pi_range1 (by rfl) T.range (pa_cons (pv 1) pa_nil)) (pg_name (i := 3) sc45.nd rfl (.inl rfl))
        (pss_one (ps_expr (pe_bm PySem.F.plainAttrs_list PySem.F.slot_list_append PySem.F.type_list_append mt_append (pv 2) (pa_cons (pe_op op_add (pe_ix ix_list (pv 2) (pe_un un_neg pe_int) (fun _ _ => rfl)) (pe_ix ix_tup (pv 0) pe_int (fun _ _ => rfl))) pa_nil)))))
      (pss_one (ps_ret (pe_slice sl_list (pv 2) po_none (po_some (pv 1)))))), ?_⟩
    have n1 := O.n1
    have n4 := O.n4
    refine ⟨_, rfl, a, _, 0, _, rfl, rfl, h1, at0, b, _, rfl, .inr h2, fun L nL => ?_⟩
    refine ⟨_, rfl, n, rfl, by omega, by omega, ?_⟩
    rw [Int.toNat_natCast]
    refine for_range (lo := 0) (n := n) (fun i σ H' => (∃ y, σ = [some (.ref a), some (.int (n : Int)), some (.ref L), y]) ∧ Same H H' ∧ H' L = some (.lst (dvs g z (g.length + i))))
      ⟨⟨none, rfl⟩, same_upd nL, by rw [upd_same, dvs_firsts g z]; rfl⟩ (fun i σ H' hi hI => ?_) (fun σ H' hI => ?_)
    · obtain ⟨⟨y, rfl⟩, s1, e1⟩ := hI
      refine ⟨.ref L, rfl, .inl ⟨rfl, _, SqL.of e1⟩, ?_⟩
      refine ⟨_, rfl, 1, rfl, L, _, -1, _, rfl, rfl, SqL.of e1, dvs_last (by omega), ?_⟩
      refine ⟨_, rfl, a, _, 1, _, rfl, rfl, Same.tup s1 h1, at1, _, _, rfl, rfl, L, _, _, rfl, rfl, e1, sml' (by rw [dvs_len]; omega), ?_⟩
      refine ⟨⟨_, rfl⟩, same_updR s1 nL, ?_⟩
      rw [upd_same, ← Nat.add_assoc, ← dvs_next, dv_step O (show g.length ≤ g.length + i by omega)]
    · obtain ⟨⟨y, rfl⟩, s1, e1⟩ := hI
      refine ⟨_, rfl, _, rfl, n, rfl, L, _, rfl, SqL.of e1, fun p np => q _ p (s1.trans (same_upd np)) ?_⟩
      rw [upd_same, dvs_cut (by omega)]
/-! _law_is_fair -/
theorem sc47 : FnScope ["_law_divisors_here", "_law_votes", "_law_seats", "_law_one", "_law_other"] ["_law_divisors_here", "_law_votes", "_law_seats"] (defScope (topS 47)) := ⟨rfl, rfl, rfl, by decide +kernel, rfl, by decide +kernel, by decide +kernel⟩
def two {α : Type} (x y : α) (i : Nat) : α := if i = 0 then x else y
theorem at_two {x y : V} {i : Nat} (h : i < 2) : ([x, y] : List V)[i]? = some (two x y i) := by
  rcases (show i = 0 ∨ i = 1 by omega) with e | e
  · rw [e]
    rfl
  · rw [e]
    rfl
theorem two_int (x y : Int) (i : Nat) : two (V.int x) (V.int y) i = V.int (two x y i) := by
  unfold two
  split <;> rfl
theorem two_nat (x y : Nat) (i : Nat) : two (V.int (x : Int)) (V.int (y : Int)) i = V.int ((two x y i : Nat) : Int) := by
  unfold two
  split <;> rfl
theorem fair_two {g : List Int} {z v0 v1 : Int} {x y : Nat} (h : fair g z v0 v1 x y = true) {i j : Nat} (hi : i < 2) (hj : j < 2) (hij : ¬ i = j) (h0 : 0 < two x y i) :
    ¬ two v0 v1 i * dv g z (two x y j) < two v0 v1 j * dv g z (two x y i - 1) := by
  unfold fair at h
  simp only [Bool.and_eq_true, Bool.or_eq_true, decide_eq_true_eq] at h
  obtain ⟨a, b⟩ := h
  rcases (show (i = 0 ∧ j = 1) ∨ (i = 1 ∧ j = 0) by omega) with ⟨rfl, rfl⟩ | ⟨rfl, rfl⟩
  · have h0 : 0 < x := h0
    show ¬ v0 * dv g z y < v1 * dv g z (x - 1)
    omega
  · have h0 : 0 < y := h0
    show ¬ v1 * dv g z x < v0 * dv g z (y - 1)
    omega
def spLFair (K : PySem.W.Frag) : Sp := fun vs H Q _ => ∃ (ds vt st : Addr) (n : Nat) (v0 v1 : Int) (x y : Nat) (g : List Int) (z : Int), vs = [.ref ds, .ref vt, .ref st] ∧ SqL K H ds (dvs g z n) ∧ SqT K H vt [.int v0, .int v1] ∧ SqT K H st [.int (x : Int), .int (y : Int)] ∧ x < n ∧ y < n ∧
  (0 ≤ v0 ∧ v0 < 1000000) ∧ (0 ≤ v1 ∧ v1 < 1000000) ∧ fair g z v0 v1 x y = true ∧ Q (.bl true) H
theorem ok_lFair (F : Fun K "_law_is_fair" "_law_is_fair" (topS 47) f fd) (T : Txt K mg) : FnOk P w K mg base CX0 1 f fd ["_law_divisors_here", "_law_votes", "_law_seats"] (spLFair K) := by
  refine F.ok sc47 (fun vs H Q E h => ?_) (fun cdv A outer s H vs Q E hr h => ?_)
  · obtain ⟨ds, vt, st, n, v0, v1, x, y, g, z, rfl, _⟩ := h
    rfl
  · obtain ⟨ds, vt, st, n, v0, v1, x, y, g, z, rfl, hD, hV, hS, hx, hy, b0, b1, hf, q⟩ := h
    refine ⟨_, pss_cons (ps_for PassesOwn.never rfl (pi_range1 (by rfl) T.range (pa_cons (pe_callB call_len_seq (by rfl) T.len b_len (pa_cons (pv 1) pa_nil)) pa_nil)) (pg_name (i := 3) sc47.nd rfl (.inl rfl))
        (pss_one (ps_for PassesOwn.never rfl (pi_range1 (by rfl) T.range (pa_cons (pe_callB call_len_seq (by rfl) T.len b_len (pa_cons (pv 1) pa_nil)) pa_nil)) (pg_name (i := 4) sc47.nd rfl (.inl rfl))
          (pss_one (ps_if (PW.pt (pw_and (pt_cmpR op_ne (pv 3) (pv 4) (nomark _)) (pw_and (pt_cmpR op_gt (pe_ix ix_tup (pv 2) (pv 3) (fun _ _ => rfl)) pe_int (nomark _))
            (pw_and1 (pt_cmpR op_gt (pe_op op_mul (pe_ix ix_tup (pv 1) (pv 4) (fun _ _ => rfl)) (pe_ix ix_list (pv 0) (pe_op op_sub (pe_ix ix_tup (pv 2) (pv 3) (fun _ _ => rfl)) pe_int) (fun _ _ => rfl)))
              (pe_op op_mul (pe_ix ix_tup (pv 1) (pv 3) (fun _ _ => rfl)) (pe_ix ix_list (pv 0) (pe_ix ix_tup (pv 2) (pv 4) (fun _ _ => rfl)) (fun _ _ => rfl))) (nomark _)))))) (pss_one (ps_ret pe_bl)) pss_nil)))))
      (pss_one (ps_ret pe_bl)), ?_⟩
    refine ⟨_, rfl, vt, _, rfl, .inr hV, 2, rfl, by decide, by decide, ?_⟩
    refine for_range (lo := 0) (n := 2) (fun i σ H' => (∃ y3 y4, σ = [some (.ref ds), some (.ref vt), some (.ref st), y3, y4]) ∧ H = H') ⟨⟨none, none, rfl⟩, rfl⟩ (fun i σ H' hi hI => ?_) (fun σ H' hI => ?_)
    · obtain ⟨⟨y3, y4, rfl⟩, rfl⟩ := hI
      rw [Int.zero_add]
      refine ⟨_, rfl, vt, _, rfl, .inr hV, 2, rfl, by decide, by decide, ?_⟩
      refine for_range (lo := 0) (n := 2) (fun j σ H' => (∃ y4, σ = [some (.ref ds), some (.ref vt), some (.ref st), some (.int (i : Int)), y4]) ∧ H = H') ⟨⟨y4, rfl⟩, rfl⟩ (fun j σ H' hj hI => ?_) (fun σ H' hI => ?_)
      · obtain ⟨⟨y4, rfl⟩, rfl⟩ := hI
        rw [Int.zero_add]
        have nx : (∃ y4, ([some (.ref ds), some (.ref vt), some (.ref st), some (.int (i : Int)), some (.int (j : Int))] : L2.St) = [some (.ref ds), some (.ref vt), some (.ref st), some (.int (i : Int)), y4]) ∧ H = H := ⟨⟨_, rfl⟩, rfl⟩
        refine ⟨_, rfl, _, rfl, rfl, _, rfl, ?_⟩
        by_cases hij : i = j
        · subst hij
          refine iteNS rfl (iteF ?_)
          exact nx
        · have hne : ¬ V.int (i : Int) = V.int (j : Int) := fun z => hij (by have := V.int.inj z; omega)
          rw [decide_eq_false hne]
          refine iteT ?_
          have si := (at_two (x := V.int (x : Int)) (y := V.int (y : Int)) hi).trans (congrArg some (two_nat x y i))
          have sj := (at_two (x := V.int (x : Int)) (y := V.int (y : Int)) hj).trans (congrArg some (two_nat x y j))
          have vi := (at_two (x := V.int v0) (y := V.int v1) hi).trans (congrArg some (two_int v0 v1 i))
          have vj := (at_two (x := V.int v0) (y := V.int v1) hj).trans (congrArg some (two_int v0 v1 j))
          refine ⟨_, rfl, _, rfl, st, _, _, _, rfl, rfl, hS, atN si, _, _, rfl, rfl, _, rfl, ite2 (fun e => ?_) (fun e => ?_)⟩
          · have h0 : 0 < two x y i := by
              have := of_decide_eq_true e
              omega
            have lo : two x y i < n := by
              unfold two
              split <;> omega
            have lj : two x y j < n := by
              unfold two
              split <;> omega
            have ci : 0 ≤ two v0 v1 i ∧ two v0 v1 i < 1000000 := by
              unfold two
              split <;> omega
            have cj : 0 ≤ two v0 v1 j ∧ two v0 v1 j < 1000000 := by
              unfold two
              split <;> omega
            refine ⟨_, rfl, _, rfl, vt, _, _, _, rfl, rfl, hV, atN vj, _, rfl, _, rfl, _, rfl, st, _, _, _, rfl, rfl, hS, atN si, _, 1, rfl, rfl, ds, _, _, _, rfl, rfl, hD, at_of (j := two x y i - 1) (by omega) (dvs_at (by omega)), _, _, rfl, rfl, .inl (big (by omega) (by omega)), ?_⟩
            refine ⟨_, rfl, _, rfl, vt, _, _, _, rfl, rfl, hV, atN vi, _, rfl, _, rfl, _, rfl, st, _, _, _, rfl, rfl, hS, atN sj, ds, _, _, _, rfl, rfl, hD, atN (dvs_at lj), _, _, rfl, rfl, .inl (big (by omega) (by omega)), ?_⟩
            refine ⟨_, _, rfl, rfl, false, ?_, iteF nx⟩
            exact bl_f (fair_two hf hi hj hij h0)
          · exact nx
      · obtain ⟨⟨y4, rfl⟩, rfl⟩ := hI
        exact ⟨⟨_, _, rfl⟩, rfl⟩
    · obtain ⟨_, rfl⟩ := hI
      exact q
end
end K53
/-! The law's own judges, further. -/
namespace K53
open PySem PySem.Spec PyProof.Rows L2
section
variable {P : Program} {w : World} {K : PySem.W.Frag} {mg : Str → Option Value} {base : Heap} {f : Addr} {fd : FuncData}
/-! _law_is_against -/
theorem sc49 : FnScope ["_law_method_here", "_law_value", "_law_low", "_law_votes", "_law_many", "_law_other", "_law_seats", "_law_each", "_law_divisors_here", "_law_part", "_law_whole"] ["_law_method_here", "_law_value", "_law_low"] (defScope (topS 49)) :=
  ⟨rfl, rfl, rfl, by decide +kernel, rfl, by decide +kernel, by decide +kernel⟩
def spLAg (K : PySem.W.Frag) : Sp := fun vs H Q _ => ∃ (a t : Addr) (lw : Bool) (g : List Int) (z v m o : Int) (x e : Nat), vs = [.ref a, .ref t, .bl lw] ∧ Meth K H a g z ∧ OkM g z ∧ SqT K H t [.int v, .int m, .int o, .int (x : Int), .int (e : Int)] ∧
  (lw = true → okLow g z (v, m, o, x, e) = true) ∧ (lw = false → okHigh g z (v, m, o, x, e) = true) ∧ ∀ H', Same H H' → Q (.bl true) H'
theorem ok_lAg (F : Fun K "_law_is_against" "_law_is_against" (topS 49) f fd) (T : Txt K mg) : FnOk P w K mg base CX0 2 f fd ["_law_method_here", "_law_value", "_law_low"] (spLAg K) := by
  obtain ⟨fD, dD, FD, bD, gD⟩ := T.lDivs
  obtain ⟨fI, dI, FI, bI, gI⟩ := T.lFair
  refine F.ok sc49 (fun vs H Q E h => ?_) (fun cdv A outer s H vs Q E hr h => ?_)
  · obtain ⟨a, t, lw, g, z, v, m, o, x, e, rfl, _⟩ := h
    rfl
  · obtain ⟨a, t, lw, g, z, v, m, o, x, e, rfl, M, O, hS, okl, okh, q⟩ := h
    have okq : okQ g z (v, m, o, x, e) = true := by
      cases lw with
      | true => exact (okLow_of (okl rfl)).1
      | false => exact (okHigh_of (okh rfl)).1
    obtain ⟨bv, bm, bo, hx, he, hf⟩ := okQ_of okq
    refine ⟨_, pss_cons (ps_asg (pv 1) (pg_tup (by rfl) (pgs_cons (pg_name (i := 3) sc49.nd rfl (.inl rfl)) (pgs_cons (pg_name (i := 4) sc49.nd rfl (.inl rfl)) (pgs_cons (pg_name (i := 5) sc49.nd rfl (.inl rfl))
        (pgs_cons (pg_name (i := 6) sc49.nd rfl (.inl rfl)) (pgs_cons (pg_name (i := 7) sc49.nd rfl (.inl rfl)) pgs_nil)))))))
      (pss_cons (ps_set (i := 8) sc49.nd rfl (.inl rfl) (pe_call (ok_lDivs FD T) hr (by rfl) gD FD.kp bD .nil pass0 (pa_cons (pv 0) (pa_cons pe_int pa_nil))))
      (pss_cons (ps_if (PW.pt (pw_or (pt_cmpR op_lt (pe_callB (cr_minT rfl) (by rfl) T.min b_min (pa_cons (pe_slice sl_tup (pv 1) po_none (po_some pe_int)) pa_nil)) pe_int (nomark _))
        (pw_or1 (pt_not (pt_val (pe_call (ok_lFair FI T) hr (by rfl) gI FI.kp bI .nil pass0 (pa_cons (pv 8) (pa_cons (pe_tup (pa_cons (pv 3) (pa_cons (pv 5) pa_nil))) (pa_cons (pe_tup (pa_cons (pv 6) (pa_cons (pv 7) pa_nil))) pa_nil)))))))))
        (pss_one (ps_ret pe_bl)) pss_nil)
      (pss_cons (ps_set (i := 9) sc49.nd rfl (.inl rfl) (pe_op op_mul (pv 3) (pe_op op_add (pv 6) (pe_op op_mul (pv 4) (pv 7)))))
      (pss_cons (ps_set (i := 10) sc49.nd rfl (.inl rfl) (pe_op op_add (pv 3) (pe_op op_mul (pv 4) (pv 5))))
      (pss_cons (ps_if (pt_val (pv 2)) (pss_one (ps_ret (pe_cmpR op_ge (pv 9) (pe_op op_mul (pe_op op_add (pv 6) pe_int) (pv 10)) (nomark _)))) pss_nil)
      (pss_one (ps_ret (pe_and (pe_cmpR op_gt (pv 6) pe_int (nomark _)) (pe_one (pe_cmpR op_le (pv 9) (pe_op op_mul (pe_op op_sub (pv 6) pe_int) (pv 10)) (nomark _))))))))))), ?_⟩
    refine ⟨_, rfl, t, _, rfl, hS, rfl, _, _, rfl, _, _, rfl, _, _, rfl, _, _, rfl, _, _, rfl, rfl, ?_⟩
    refine ⟨_, rfl, a, 102, g, z, rfl, M, O, by omega, fun H1 ds s1 e1 => ?_⟩
    refine ⟨_, rfl, 3, rfl, t, _, rfl, Same.tup s1 hS, cut3n, fun p np => ?_⟩
    rw [cut3]
    have s2 := same_upd (o := .tup [.int v, .int m, .int o]) np
    refine ⟨p, [v, m, o], rfl, SqT.of upd_same, Nat.succ_pos _, fun mn hmn => ?_⟩
    have hmn1 : 1 ≤ mn := by
      rcases List.mem_cons.mp hmn with h | h
      · omega
      · rcases List.mem_cons.mp h with h | h
        · omega
        · have := List.mem_singleton.mp h
          omega
    refine ⟨mn, 1, rfl, rfl, false, bl_f (by omega), iteF ?_⟩
    refine ⟨_, rfl, _, rfl, _, rfl, sml (show 2 ≤ 100000 by decide), fun vt nvt => ?_⟩
    have s3 := same_upd (o := .tup [.int v, .int o]) nvt
    refine ⟨_, rfl, _, rfl, sml (show 2 ≤ 100000 by decide), fun st nst => ?_⟩
    have s4 := same_upd (o := .tup [.int (x : Int), .int (e : Int)]) nst
    refine ⟨ds, vt, st, 102, v, o, x, e, g, z, rfl, SqL.of (s4 _ _ (s3 _ _ (s2 _ _ e1))), SqT.of (s4 _ _ upd_same), SqT.of upd_same, by omega, by omega, ⟨by omega, by omega⟩, ⟨by omega, by omega⟩, hf, true, rfl, iteF ?_⟩
    have sAll := ((s1.trans s2).trans s3).trans s4
    have kv := big (x := v) (by omega) (by omega)
    have km := big (x := m) (by omega) (by omega)
    refine ⟨_, rfl, _, rfl, _, rfl, _, rfl, _, _, rfl, rfl, .inl km, _, _, rfl, rfl, _, _, rfl, rfl, .inl kv, ?_⟩
    refine ⟨_, rfl, _, rfl, _, rfl, _, _, rfl, rfl, .inl km, _, _, rfl, rfl, ?_⟩
    refine ⟨_, rfl, lw, rfl, ?_⟩
    cases lw with
    | true =>
      refine iteT ?_
      have hl := (okLow_of (okl rfl)).2
      refine ⟨_, rfl, _, rfl, _, 1, rfl, rfl, _, rfl, _, _, rfl, rfl, .inl ⟨by omega, by omega⟩, _, _, rfl, rfl, ?_⟩
      show Q (.bl (decide (((x : Int) + 1) * (v + m * o) ≤ v * ((x : Int) + m * (e : Int))))) _
      rw [bl_t hl]
      exact q _ sAll
    | false =>
      refine iteF ?_
      obtain ⟨_, hx1, hl⟩ := okHigh_of (okh rfl)
      refine ⟨_, rfl, _, 0, rfl, rfl, true, bl_t (by omega), iteT ?_⟩
      refine ⟨_, rfl, _, rfl, _, 1, rfl, rfl, _, rfl, _, _, rfl, rfl, .inl ⟨by omega, by omega⟩, _, _, rfl, rfl, ?_⟩
      show Q (.bl (decide (v * ((x : Int) + m * (e : Int)) ≤ ((x : Int) - 1) * (v + m * o)))) _
      rw [bl_t hl]
      exact q _ sAll
/-! _law_is_not_near -/
theorem sc50 : FnScope ["_law_method_here", "_law_value", "_law_votes", "_law_seats", "_law_house", "_law_total"] ["_law_method_here", "_law_value"] (defScope (topS 50)) := ⟨rfl, rfl, rfl, by decide +kernel, rfl, by decide +kernel, by decide +kernel⟩
theorem ok_lNN (F : Fun K "_law_is_not_near" "_law_is_not_near" (topS 50) f fd) (T : Txt K mg) : FnOk P w K mg base CX0 2 f fd ["_law_method_here", "_law_value"] (spAccN K) := by
  obtain ⟨fD, dD, FD, bD, gD⟩ := T.lDivs
  obtain ⟨fI, dI, FI, bI, gI⟩ := T.lFair
  refine F.ok sc50 (fun vs H Q E h => ?_) (fun cdv A outer s H vs Q E hr h => ?_)
  · obtain ⟨a, t, g, z, v, u, x, y, rfl, _⟩ := h
    rfl
  · obtain ⟨a, t, g, z, v, u, x, y, rfl, M, O, ⟨t1, t2, hS, hS1, hS2⟩, ok, q⟩ := h
    obtain ⟨bv, bu, hx1, hx, hy, hf, c1, c2⟩ := okNear_of ok
    refine ⟨_, pss_cons (ps_asg (pv 1) (pg_tup (by rfl) (pgs_cons (pg_name (i := 2) sc50.nd rfl (.inl rfl)) (pgs_cons (pg_name (i := 3) sc50.nd rfl (.inl rfl)) pgs_nil))))
      (pss_cons (ps_set (i := 4) sc50.nd rfl (.inl rfl) (pe_callB (cr_sumT rfl) (by rfl) T.sum b_sum (pa_cons (pv 3) pa_nil)))
      (pss_cons (ps_set (i := 5) sc50.nd rfl (.inl rfl) (pe_callB (cr_sumT rfl) (by rfl) T.sum b_sum (pa_cons (pv 2) pa_nil)))
      (pss_cons (ps_if (PW.pt (pw_or (pt_cmpR op_lt (pe_callB (cr_minT rfl) (by rfl) T.min b_min (pa_cons (pv 2) pa_nil)) pe_int (nomark _))
        (pw_or (pt_not (pt_val (pe_call (ok_lFair FI T) hr (by rfl) gI FI.kp bI .nil pass0 (pa_cons (pe_call (ok_lDivs FD T) hr (by rfl) gD FD.kp bD .nil pass0 (pa_cons (pv 0) (pa_cons pe_int pa_nil))) (pa_cons (pv 2) (pa_cons (pv 3) pa_nil))))))
          (pw_or1 (pt_cmpR op_eq (pe_ix ix_tup (pv 3) pe_int (fun _ _ => rfl)) pe_int (nomark _))))))
        (pss_one (ps_ret pe_bl)) pss_nil)
      (pss_one (ps_ret (pe_and (pe_cmpR op_lt (pe_op op_mul (pe_op op_mul pe_int (pe_ix ix_tup (pv 2) pe_int (fun _ _ => rfl))) (pv 4)) (pe_op op_mul (pe_op op_sub (pe_op op_mul pe_int (pe_ix ix_tup (pv 3) pe_int (fun _ _ => rfl))) pe_int) (pv 5)) (nomark _))
        (pe_one (pe_cmpR op_gt (pe_op op_mul (pe_op op_mul pe_int (pe_ix ix_tup (pv 2) pe_int (fun _ _ => rfl))) (pv 4)) (pe_op op_mul (pe_op op_add (pe_op op_mul pe_int (pe_ix ix_tup (pv 3) pe_int (fun _ _ => rfl))) pe_int) (pv 5)) (nomark _))))))))), ?_⟩
    refine ⟨_, rfl, t, _, rfl, hS, rfl, _, _, rfl, _, _, rfl, rfl, ?_⟩
    refine ⟨_, rfl, t2, _, _, rfl, hS2, ?_⟩
    refine ⟨_, rfl, t1, _, _, rfl, hS1, ?_⟩
    refine ⟨_, rfl, t1, [v, u], rfl, hS1, Nat.succ_pos _, fun mn hmn => ?_⟩
    have hmn1 : 1 ≤ mn := by
      rcases List.mem_cons.mp hmn with h | h
      · omega
      · have := List.mem_singleton.mp h
        omega
    refine ⟨mn, 1, rfl, rfl, false, bl_f (by omega), iteF ?_⟩
    refine ⟨_, rfl, a, 102, g, z, rfl, M, O, by omega, fun H1 ds s1 e1 => ?_⟩
    have hA1 := Same.tup s1 hS1
    have hA2 := Same.tup s1 hS2
    refine ⟨_, rfl, _, rfl, ds, t1, t2, 102, v, u, x, y, g, z, rfl, SqL.of e1, hA1, hA2, by omega, by omega, ⟨by omega, by omega⟩, ⟨by omega, by omega⟩, hf, true, rfl, iteF ?_⟩
    have hx0 : ¬ V.int (x : Int) = V.int 0 := fun z => by
      have := V.int.inj z
      omega
    refine ⟨_, rfl, t2, _, 0, _, rfl, rfl, hA2, at0, rfl, false, bl_f hx0, iteF ?_⟩
    have k2 := big (x := 2) (by decide) (by decide)
    refine ⟨_, rfl, t1, _, 0, _, rfl, rfl, hA1, at0, _, _, rfl, rfl, .inl k2, _, rfl, _, _, rfl, rfl, .inl (big (by omega) (by omega)), ?_⟩
    refine ⟨_, rfl, t2, _, 0, _, rfl, rfl, hA2, at0, _, _, rfl, rfl, .inl k2, _, 1, rfl, rfl, _, rfl, _, _, rfl, rfl, .inl (big (by omega) (by omega)), _, _, rfl, rfl, true, bl_t c1, iteT ?_⟩
    refine ⟨_, rfl, t1, _, 1, _, rfl, rfl, hA1, at1, _, _, rfl, rfl, .inl k2, _, rfl, _, _, rfl, rfl, .inl (big (by omega) (by omega)), ?_⟩
    refine ⟨_, rfl, t2, _, 1, _, rfl, rfl, hA2, at1, _, _, rfl, rfl, .inl k2, _, 1, rfl, rfl, _, rfl, _, _, rfl, rfl, .inl (big (by omega) (by omega)), _, _, rfl, rfl, ?_⟩
    show Q (.bl (decide ((2 * (y : Int) + 1) * (v + u) < 2 * u * ((x : Int) + (y : Int))))) _
    rw [bl_t c2]
    exact q _ s1
end
end K53
/-! The law. -/
namespace K53
open PySem PySem.Spec PyProof.Rows L2 LamX
structure Chk (g : List Int) (z : Int) : Prop where
  O : OkM g z
  n30 : isN30 g z = isN g z
  r30 : isR30 g z = isR g z
  nb : ¬ (isN g z = true ∧ isR g z = true)
  low0 : lowF g z = none → isN g z = true
  low1 : ∀ p, lowF g z = some p → isN g z = false ∧ lowOk g z p.1 p.2 = true
  near0 : nearF g z = none → isR g z = true
  near1 : ∀ p, nearF g z = some p → isR g z = false ∧ nearOk g z p.1 p.2 = true
  high : highOk g z = true
theorem chk_of {g : List Int} {z : Int} (h : chk g z = true) : Chk g z := by
  unfold chk at h
  simp only [Bool.and_eq_true] at h
  obtain ⟨⟨⟨⟨h1, h2⟩, h3⟩, h4⟩, h5⟩ := h
  have nb : ¬ (isN g z = true ∧ isR g z = true) := fun ⟨a, b⟩ => by
    rw [a, b] at h5
    cases h5
  have hl : (lowF g z = none ∧ isN g z = true ∧ isN30 g z = true) ∨ ∃ p, lowF g z = some p ∧ isN g z = false ∧ isN30 g z = false ∧ lowOk g z p.1 p.2 = true := by
    unfold lowF
    cases e : (prs (g.length + 1)).find? fun p => lowT g z p.1 p.2 with
    | none =>
      rw [e] at h2
      simp only [Bool.and_eq_true] at h2
      exact .inl ⟨rfl, h2.1, h2.2⟩
    | some p =>
      rw [e] at h2
      simp only [Bool.and_eq_true, Bool.not_eq_true'] at h2
      exact .inr ⟨p, rfl, h2.1.1, h2.1.2, h2.2⟩
  have hn : (nearF g z = none ∧ isR g z = true ∧ isR30 g z = true) ∨ ∃ p, nearF g z = some p ∧ isR g z = false ∧ isR30 g z = false ∧ nearOk g z p.1 p.2 = true := by
    unfold nearF
    cases e : (prs (g.length + 1)).find? fun p => nearT g z p.1 p.2 with
    | none =>
      rw [e] at h3
      simp only [Bool.and_eq_true] at h3
      exact .inl ⟨rfl, h3.1, h3.2⟩
    | some p =>
      rw [e] at h3
      simp only [Bool.and_eq_true, Bool.not_eq_true'] at h3
      exact .inr ⟨p, rfl, h3.1.1, h3.1.2, h3.2⟩
  refine ⟨okM_of h1, ?_, ?_, nb, fun e => ?_, fun p e => ?_, fun e => ?_, fun p e => ?_, h4⟩
  · rcases hl with ⟨_, a, b⟩ | ⟨p, _, a, b, _⟩
    · rw [a, b]
    · rw [a, b]
  · rcases hn with ⟨_, a, b⟩ | ⟨p, _, a, b, _⟩
    · rw [a, b]
    · rw [a, b]
  · rcases hl with ⟨_, a, b⟩ | ⟨p, e2, _⟩
    · exact a
    · rw [e] at e2
      cases e2
  · rcases hl with ⟨e2, _⟩ | ⟨p2, e2, a, _, b⟩
    · rw [e] at e2
      cases e2
    · rw [e] at e2
      obtain rfl := Option.some.inj e2
      exact ⟨a, b⟩
  · rcases hn with ⟨_, a, b⟩ | ⟨p, e2, _⟩
    · exact a
    · rw [e] at e2
      cases e2
  · rcases hn with ⟨e2, _⟩ | ⟨p2, e2, a, _, b⟩
    · rw [e] at e2
      cases e2
    · rw [e] at e2
      obtain rfl := Option.some.inj e2
      exact ⟨a, b⟩
theorem any_not (p : Nat → Bool) (n : Nat) : (List.range n).any (fun i => !p i) = !(List.range n).all p := by
  rw [List.not_all_eq_any_not]
theorem eqv_two (a b : Bool) : PyData.eqv (.list [.bool a, .bool b]) (.list [.bool a, .bool b]) = true := PySem.W.eqv_refl_alike _ (by cases a <;> cases b <;> decide)
theorem shaped_two (a b : Bool) : SeqAt.shaped (.list [.bool a, .bool b]) = true := by
  cases a <;> cases b <;> decide
section
variable {P : Program} {w : World} {K : PySem.W.Frag} {mg : Str → Option Value} {base : Heap} {f : Addr} {fd : FuncData}
abbrev lawN : List Str := ["_law_script", "_law_stream_here", "_law_method_here", "_law_d", "_law_below", "_law_near", "_law_told", "_law_low", "_law_high", "_law_apart", "_law_k", "_law_one"]
theorem sc51 : FnScope lawN ["_law_script"] (defScope (topS 51)) := ⟨rfl, rfl, rfl, by decide +kernel, rfl, by decide +kernel, by decide +kernel⟩
def spLaw (K : PySem.W.Frag) (PT : Addr) : Sp := fun vs H Q _ => ∃ (a : Addr) (ns : List Int), vs = [.ref a] ∧ SqL K H a (ns.map V.int) ∧ Tabs [(PT, lamQ)] H ∧ ∀ H', Q (.bl true) H'
/-- what stands in _law_low, in _law_apart -/
def LowV (g : List Int) (z : Int) (H : Hp) (v : V) : Prop := (lowF g z = none ∧ v = .non) ∨ ∃ p t, lowF g z = some p ∧ v = .ref t ∧ H t = some (.tup (v5 (lowAt g z p.1 p.2)))
def NearV (K : PySem.W.Frag) (g : List Int) (z : Int) (H : Hp) (v : V) : Prop := (nearF g z = none ∧ v = .non) ∨ ∃ p t a b x y, nearF g z = some p ∧ v = .ref t ∧ okNear g z (a, b, x, y) = true ∧ Val4 K H t a b x y
theorem ok_law (F : Fun K "law" "law" (topS 51) f fd) (T : Txt K mg) {PT fP : Addr} {dP : FuncData} (GP : FnOk P w K mg base CX0 2 fP dP ["span"] (spPairs PT)) (kP : PySem.W.keepIn K (.ref fP) = true) (bP : Binds K dP ["span"] []) (gP : mg "index_pairs" = some (.ref fP)) :
    FnOk P w K mg base CX0 13 f fd ["_law_script"] (spLaw K PT) := by
  obtain ⟨fSt, dSt, FSt, bSt, gSt⟩ := T.lStream
  obtain ⟨fMk, dMk, FMk, bMk, gMk⟩ := T.lMeth
  obtain ⟨fDv, dDv, FDv, bDv, gDv⟩ := T.lDivs
  obtain ⟨fGo, dGo, FGo, bGo, gGo⟩ := T.goes
  obtain ⟨fAl, dAl, FAl, bAl, gAl⟩ := T.always
  obtain ⟨fLo, dLo, FLo, bLo, gLo⟩ := T.lowE
  obtain ⟨fHi, dHi, FHi, bHi, gHi⟩ := T.highE
  obtain ⟨fNe, dNe, FNe, bNe, gNe⟩ := T.nearE
  obtain ⟨fAg, dAg, FAg, bAg, gAg⟩ := T.lAgainst
  obtain ⟨fNN, dNN, FNN, bNN, gNN⟩ := T.lNotNear
  obtain ⟨fAB, dAB, FAB, bAB, gAB⟩ := T.accB
  obtain ⟨fAA, dAA, FAA, bAA, gAA⟩ := T.accA
  obtain ⟨fAN, dAN, FAN, bAN, gAN⟩ := T.accN
  refine F.ok sc51 (fun vs H Q E h => ?_) (fun cdv A outer s H vs Q E hr h => ?_)
  · obtain ⟨a, ns, rfl, _⟩ := h
    rfl
  · obtain ⟨a, ns, rfl, hS, hT, q⟩ := h
    have r1 : Room 1 _ := hr.mono (by decide)
    have r2 : Room 2 _ := hr.mono (by decide)
    have r4 : Room 4 _ := hr.mono (by decide)
    refine ⟨_, pss_cons (ps_set (i := 1) sc51.nd rfl (.inl rfl) (pe_call (ok_stream FSt T) r1 (by rfl) gSt FSt.kp bSt .nil pass0 (pa_cons (pv 0) pa_nil)))
      (pss_cons (ps_set (i := 2) sc51.nd rfl (.inl rfl) (pe_call (ok_mk FMk T) r2 (by rfl) gMk FMk.kp bMk .nil pass0 (pa_cons (pv 1) pa_nil)))
      (pss_cons (ps_set (i := 3) sc51.nd rfl (.inr rfl) (pe_call (ok_lDivs FDv T) r1 (by rfl) gDv FDv.kp bDv .nil pass0 (pa_cons (pv 2) (pa_cons pe_int pa_nil))))
      (pss_cons (ps_set (i := 4) sc51.nd rfl (.inl rfl) (pe_callB (cr_any rfl) (by rfl) T.any b_any (pa_cons (pe_lc (own := [("_law_k", 10)]) (g := gName 10) (tt := tYes) rfl sc51.nd (pi_range1 (by rfl) T.range (pa_cons pe_int pa_nil))
        (blkOk_by (N := lawN) (sc := defScope (topS 51)) (by decide +kernel)) (fun _ _ _ _ _ => pg_name (i := 10) sc51.nd rfl (Or.inl rfl)) (fun _ _ _ _ _ => pts_nil)
        (fun _ _ _ _ _ => pe_cmpR op_ne (pe_ix (r := rIxL K) ix_list (pv 3) (pv 10) (fun _ _ => rfl)) (pe_op op_mul (pe_op op_add (pv 10) pe_int) (pe_ix (r := rIxL K) ix_list (pv 3) pe_int (fun _ _ => rfl))) (nomark _))) pa_nil)))
      (pss_cons (ps_set (i := 5) sc51.nd rfl (.inl rfl) (pe_callB (cr_all rfl) (by rfl) T.all b_all (pa_cons (pe_lc (own := [("_law_k", 10)]) (g := gName 10) (tt := tYes) rfl sc51.nd (pi_range1 (by rfl) T.range (pa_cons pe_int pa_nil))
        (blkOk_by (N := lawN) (sc := defScope (topS 51)) (by decide +kernel)) (fun _ _ _ _ _ => pg_name (i := 10) sc51.nd rfl (Or.inl rfl)) (fun _ _ _ _ _ => pts_nil)
        (fun _ _ _ _ _ => pe_cmpR op_eq (pe_ix (r := rIxL K) ix_list (pv 3) (pv 10) (fun _ _ => rfl)) (pe_op op_mul (pe_op op_add (pe_op op_mul pe_int (pv 10)) pe_int) (pe_ix (r := rIxL K) ix_list (pv 3) pe_int (fun _ _ => rfl))) (nomark _))) pa_nil)))
      (pss_cons (ps_set (i := 6) sc51.nd rfl (.inl rfl) (pe_lst (pa_cons (pe_call (ok_goes FGo T) r4 (by rfl) gGo FGo.kp bGo .nil pass0 (pa_cons (pv 2) pa_nil)) (pa_cons (pe_call (ok_always FAl T) r4 (by rfl) gAl FAl.kp bAl .nil pass0 (pa_cons (pv 2) pa_nil)) pa_nil))))
      (C8.pss_cut (ps_if (PW.pt (pw_or (pt_cmpR (op_neD hr.units) (pv 6) (pe_lst (pa_cons (pv 4) (pa_cons (pv 5) pa_nil))) (nomark _))
        (pw_or (pt_not (pt_val (pe_callB (cr_all rfl) (by rfl) T.all b_all (pa_cons (pe_lc (own := [("_law_one", 11)]) (g := gName 11) (tt := tYes) rfl sc51.nd (pi_list (pv 6))
            (blkOk_by (N := lawN) (sc := defScope (topS 51)) (by decide +kernel)) (fun _ _ _ _ _ => pg_name (i := 11) sc51.nd rfl (Or.inl rfl)) (fun _ _ _ _ _ => pts_nil)
            (fun _ _ _ _ _ => pe_callB (r := rIsi K) call_isi (by rfl) T.isinstance b_isinstance (pa_cons (pv 11) (pa_cons (pe_bltn (v := .ty "bool") (by rfl) T.bool b_bool rfl) pa_nil)))) pa_nil))))
          (pw_or1 (PW.pt (pw_and (pt_val (pv 5)) (pw_and1 (pt_not (pt_val (pv 4)))))))))) (pss_one (ps_ret pe_bl)) pss_nil)
      (C8.pss_cut (ps_set (i := 7) sc51.nd rfl (.inl rfl) (pe_call (ok_lowE FLo T GP kP bP gP) r4 (by rfl) gLo FLo.kp bLo .nil pass0 (pa_cons (pv 2) pa_nil)))
      (pss_cons (ps_set (i := 8) sc51.nd rfl (.inl rfl) (pe_call (ok_highE FHi T) r4 (by rfl) gHi FHi.kp bHi .nil pass0 (pa_cons (pv 2) pa_nil)))
      (C8.pss_cut (ps_set (i := 9) sc51.nd rfl (.inl rfl) (pe_call (ok_nearE FNe T GP kP bP gP) hr (by rfl) gNe FNe.kp bNe .nil pass0 (pa_cons (pv 2) pa_nil)))
      (C8.pss_cut (ps_if (PW.pt (pw_or (pt_cmpR op_ne (pe_cmp (pc_isN (pv 7)) rfl) (pe_not (pv 4)) (nomark _)) (pw_or1 (pt_cmpR op_ne (pe_cmp (pc_isN (pv 9)) rfl) (pv 5) (nomark _))))) (pss_one (ps_ret pe_bl)) pss_nil)
      (C8.pss_cut (ps_if (PW.pt (pw_and (pt_cmpR op_notN (pv 7) pe_non (nomark _)) (pw_and1 (PW.pt (pw_or (pt_not (pt_val (pe_call (ok_lAg FAg T) r2 (by rfl) gAg FAg.kp bAg .nil pass0 (pa_cons (pv 2) (pa_cons (pv 7) (pa_cons pe_bl pa_nil))))))
          (pw_or1 (pt_cmpR op_isnot_bl (pe_call (ok_accB FAB T) r4 (by rfl) gAB FAB.kp bAB .nil pass0 (pa_cons (pv 2) (pa_cons (pv 7) pa_nil))) pe_bl (nomark _)))))))) (pss_one (ps_ret pe_bl)) pss_nil)
      (C8.pss_cut (ps_if (PW.pt (pw_and (pt_cmpR op_notN (pv 9) pe_non (nomark _)) (pw_and1 (PW.pt (pw_or (pt_not (pt_val (pe_call (ok_lNN FNN T) r2 (by rfl) gNN FNN.kp bNN .nil pass0 (pa_cons (pv 2) (pa_cons (pv 9) pa_nil)))))
          (pw_or1 (pt_cmpR op_isnot_bl (pe_call (ok_accN FAN T) r4 (by rfl) gAN FAN.kp bAN .nil pass0 (pa_cons (pv 2) (pa_cons (pv 9) pa_nil))) pe_bl (nomark _)))))))) (pss_one (ps_ret pe_bl)) pss_nil)
      (pss_one (ps_ret (pe_and (pe_call (ok_lAg FAg T) r2 (by rfl) gAg FAg.kp bAg .nil pass0 (pa_cons (pv 2) (pa_cons (pv 8) (pa_cons pe_bl pa_nil))))
        (pe_one (pe_cmpR op_is_bl (pe_call (ok_accA FAA T) r4 (by rfl) gAA FAA.kp bAA .nil pass0 (pa_cons (pv 2) (pa_cons (pv 8) pa_nil))) pe_bl (nomark _)))))))))))))))))), ?_⟩
    -- stream, method
    refine ⟨_, rfl, a, ns, rfl, hS, fun H1 sa l s1 na S1 => ?_⟩
    refine ⟨_, rfl, sa, l, ns, rfl, S1, fun H2 p g z B2 M C0 => ?_⟩
    have C := chk_of C0
    have O := C.O
    have s2 : Same H H2 := fun b o e => B2 b o (ne_of_none e na) (s1 b o e)
    -- d
    refine ⟨_, rfl, p, 30, g, z, rfl, M, O, by omega, fun H3 D s3 e3 => ?_⟩
    -- below
    refine ⟨30, rfl, by decide, by decide, fun A1 nA1 => ?_⟩
    refine lc_range (lo := 0) (n := 30) (fun i H' => Same H3 H' ∧ H' A1 = some (.lst (bls (fun i => !decide (dv g z i = ((i : Int) + 1) * dv g z 0)) i))) ⟨same_upd nA1, upd_same⟩ (fun i H' hi hI => ?_) (fun H4 hI => ?_)
    · obtain ⟨sI, eI⟩ := hI
      rw [Int.zero_add]
      have eD := sI _ _ e3
      refine ⟨rfl, tYesI (iteT ?_)⟩
      refine ⟨_, rfl, _, rfl, D, _, _, _, rfl, rfl, SqL.of eD, atN (dvs_at hi), ?_⟩
      refine ⟨_, rfl, _, 1, rfl, rfl, _, rfl, D, _, 0, _, rfl, rfl, SqL.of eD, atI_nat (j := 0) (dvs_at (by omega)), _, _, rfl, rfl, .inl (big (by omega) (by omega)), rfl, ?_⟩
      refine ⟨_, eI, sml' (by rw [bls_len]; omega), same_updR sI nA1, ?_⟩
      rw [upd_same, dec_vi, bls_next (fun i => !decide (dv g z i = ((i : Int) + 1) * dv g z 0)) i]
    obtain ⟨s4, e4⟩ := hI
    refine ⟨A1, _, rfl, SqL.of e4, ?_⟩
    rw [bls_any, any_not]
    have eb : (!(List.range 30).all fun i => decide (dv g z i = ((i : Int) + 1) * dv g z 0)) = !isN g z := congrArg (fun b => !b) C.n30
    rw [eb]
    -- near
    refine ⟨30, rfl, by decide, by decide, fun A2 nA2 => ?_⟩
    refine lc_range (lo := 0) (n := 30) (fun i H' => Same H4 H' ∧ H' A2 = some (.lst (bls (fun i => decide (dv g z i = (2 * (i : Int) + 1) * dv g z 0)) i))) ⟨same_upd nA2, upd_same⟩ (fun i H' hi hI => ?_) (fun H5 hI => ?_)
    · obtain ⟨sI, eI⟩ := hI
      rw [Int.zero_add]
      have eD := sI _ _ (s4 _ _ e3)
      refine ⟨rfl, tYesI (iteT ?_)⟩
      refine ⟨_, rfl, _, rfl, D, _, _, _, rfl, rfl, SqL.of eD, atN (dvs_at hi), ?_⟩
      refine ⟨_, rfl, 2, _, rfl, rfl, .inl (big (by decide) (by decide)), _, 1, rfl, rfl, _, rfl, D, _, 0, _, rfl, rfl, SqL.of eD, atI_nat (j := 0) (dvs_at (by omega)), _, _, rfl, rfl, .inl (big (by omega) (by omega)), rfl, ?_⟩
      refine ⟨_, eI, sml' (by rw [bls_len]; omega), same_updR sI nA2, ?_⟩
      rw [upd_same, dec_vi, bls_next (fun i => decide (dv g z i = (2 * (i : Int) + 1) * dv g z 0)) i]
    obtain ⟨s5, e5⟩ := hI
    refine ⟨A2, _, rfl, SqL.of e5, ?_⟩
    rw [bls_all]
    have er : ((List.range 30).all fun i => decide (dv g z i = (2 * (i : Int) + 1) * dv g z 0)) = isR g z := C.r30
    rw [er]
    have s25 := (s3.trans s4).trans s5
    have M5 := M.same s25
    -- told
    refine ⟨_, rfl, p, g, z, rfl, M5, O, fun H6 s6 => ?_⟩
    refine ⟨_, rfl, p, g, z, rfl, M5.same s6, O, fun H7 s7 => ?_⟩
    refine ⟨sml (show 2 ≤ 100000 by decide), fun L nL => ?_⟩
    have s8 := same_upd (o := .lst [.bl (!isN g z), .bl (isR g z)]) nL
    -- the first test
    refine ⟨fun σ H' => σ = [some (.ref a), some (.ref sa), some (.ref p), some (.ref D), some (.bl (!isN g z)), some (.bl (isR g z)), some (.ref L), none, none, none, none, none] ∧ Same (upd H7 L (.lst [.bl (!isN g z), .bl (isR g z)])) H', ?_, fun σ Hb hM => ?_⟩
    · refine ⟨_, rfl, _, rfl, _, rfl, sml (show 2 ≤ 100000 by decide), fun Lb nLb => ?_⟩
      have s9 := same_upd (o := .lst [.bl (!isN g z), .bl (isR g z)]) nLb
      refine ⟨.list [.bool (!isN g z), .bool (isR g z)], .list [.bool (!isN g z), .bool (isR g z)], .lst (SqL.of (s9 _ _ upd_same)) (.cons (.bl _) (.cons (.bl _) .nil)), .lst (SqL.of upd_same) (.cons (.bl _) (.cons (.bl _) .nil)), shaped_two _ _, shaped_two _ _, ?_⟩
      rw [eqv_two]
      refine ⟨false, rfl, iteF ?_⟩
      have eL := s9 _ _ (upd_same (H := H7) (a := L) (o := .lst [.bl (!isN g z), .bl (isR g z)]))
      refine ⟨_, rfl, L, rfl, ⟨_, SqL.of eL⟩, fun A3 nA3 => ?_⟩
      refine lc_list (K := K) (a := L) (xs := [.bl (!isN g z), .bl (isR g z)]) (fun i H' => Same _ H' ∧ H' A3 = some (.lst (trues i))) ⟨same_upd nA3, upd_same⟩ (fun i H' _ hI => SqL.of (hI.1 _ _ eL)) (fun i y H' hy hI => ?_) (fun H10 hI => ?_)
      · obtain ⟨sI, eI⟩ := hI
        have hi : i < 2 := (List.getElem?_eq_some_iff.mp hy).1
        obtain ⟨b, rfl⟩ : ∃ b, y = V.bl b := by
          rcases (show i = 0 ∨ i = 1 by omega) with ei | ei
          · subst ei
            exact ⟨_, (Option.some.inj hy).symm⟩
          · subst ei
            exact ⟨_, (Option.some.inj hy).symm⟩
        refine ⟨rfl, tYesI (iteT ?_)⟩
        refine ⟨_, rfl, _, _, _, _, true, rfl, .ty "bool", .base (.bl _), k_bool_bool, trues i, eI, sml' (by rw [trues_len]; omega), same_updR sI nA3, ?_⟩
        rw [upd_same, trues_next]
      obtain ⟨s10, e10⟩ := hI
      refine ⟨A3, _, rfl, SqL.of e10, _, rfl, ?_⟩
      rw [trues_all]
      refine iteF ?_
      refine ⟨_, rfl, _, rfl, ?_⟩
      have fin2 : Same (upd H7 L (.lst [.bl (!isN g z), .bl (isR g z)])) H10 := (s9.trans s10)
      show if isR g z = true then _ else _
      refine ite2 (fun hr => ?_) (fun hr => ?_)
      · refine ⟨_, rfl, _, rfl, ?_⟩
        cases hn : isN g z with
        | true => exact absurd ⟨hn, hr⟩ C.nb
        | false =>
          rw [hn] at fin2
          exact iteF ⟨rfl, fin2⟩
      · exact iteF ⟨rfl, fin2⟩
    obtain ⟨rfl, sb⟩ := hM
    have sHb : Same H Hb := ((s2.trans s25).trans ((s6.trans s7).trans s8)).trans sb
    have Mb : Meth K Hb p g z := M.same ((s25.trans ((s6.trans s7).trans s8)).trans sb)
    have Tb : Tabs [(PT, lamQ)] Hb := fun y hy => (hT y hy).ext sHb
    -- low
    refine ⟨fun σ H' => ∃ v, σ = [some (.ref a), some (.ref sa), some (.ref p), some (.ref D), some (.bl (!isN g z)), some (.bl (isR g z)), some (.ref L), some v, none, none, none, none] ∧ ExtN Hb H' ∧ Tabs [(PT, lamQ)] H' ∧ LowV g z H' v, ?_, fun σ Hc hM => ?_⟩
    · refine ⟨_, rfl, p, g, z, rfl, Mb, O, Tb, fun pr e => (C.low1 pr e).2, fun e H' eN T' => ?_, fun pr e H' t eN T' et => ?_⟩
      · exact ⟨.non, rfl, eN, T', .inl ⟨e, rfl⟩⟩
      · exact ⟨.ref t, rfl, eN, T', .inr ⟨pr, t, e, rfl, et⟩⟩
    obtain ⟨v7, rfl, ec, Tc, V7⟩ := hM
    have Mc := Mb.ext ec
    -- high
    refine ⟨_, rfl, p, g, z, rfl, Mc, O, C.high, fun Hd th sd eh => ?_⟩
    have Md := Mc.same sd
    have Td : Tabs [(PT, lamQ)] Hd := fun y hy => (Tc y hy).ext sd
    -- apart
    refine ⟨fun σ H' => ∃ v, σ = [some (.ref a), some (.ref sa), some (.ref p), some (.ref D), some (.bl (!isN g z)), some (.bl (isR g z)), some (.ref L), some v7, some (.ref th), some v, none, none] ∧ ExtN Hd H' ∧ NearV K g z H' v, ?_, fun σ He hM => ?_⟩
    · refine ⟨_, rfl, p, g, z, rfl, Md, O, Td, fun pr e => (C.near1 pr e).2, fun e H' eN T' => ?_, fun pr v u x y e en on H' t eN T' V4 => ?_⟩
      · exact ⟨.non, rfl, eN, .inl ⟨e, rfl⟩⟩
      · exact ⟨.ref t, rfl, eN, .inr ⟨pr, t, v, u, x, y, e, rfl, on, V4⟩⟩
    obtain ⟨v9, rfl, ee, V9⟩ := hM
    have Me := Md.ext ee
    have W7 : LowV g z He v7 := by
      rcases V7 with ⟨e, h⟩ | ⟨pr, t, e, h, et⟩
      · exact .inl ⟨e, h⟩
      · exact .inr ⟨pr, t, e, h, ee _ _ (sd _ _ et) fun ps z => by cases z⟩
    have eH := ee _ _ eh fun ps z => by cases z
    have h7 : decide (v7 = .non) = isN g z := by
      rcases W7 with ⟨e, h⟩ | ⟨pr, t, e, h, et⟩
      · rw [C.low0 e, h]
        rfl
      · rw [(C.low1 pr e).1, h]
        rfl
    have h9 : decide (v9 = .non) = isR g z := by
      rcases V9 with ⟨e, h⟩ | ⟨pr, t, v, u, x, y, e, h, _⟩
      · rw [C.near0 e, h]
        rfl
      · rw [(C.near1 pr e).1, h]
        rfl
    -- is None
    refine ⟨fun σ H' => σ = [some (.ref a), some (.ref sa), some (.ref p), some (.ref D), some (.bl (!isN g z)), some (.bl (isR g z)), some (.ref L), some v7, some (.ref th), some v9, none, none] ∧ He = H', ?_, fun σ Hf hM => ?_⟩
    · refine ⟨_, rfl, _, rfl, _, rfl, rfl, false, ?_, iteF ?_⟩
      · rw [h7, Bool.not_not, decide_eq_true rfl]
        rfl
      refine ⟨_, rfl, _, rfl, rfl, false, ?_, iteF ⟨rfl, rfl⟩⟩
      rw [h9, decide_eq_true rfl]
      rfl
    obtain ⟨rfl, rfl⟩ := hM
    -- low is judged
    refine ⟨fun σ H' => σ = [some (.ref a), some (.ref sa), some (.ref p), some (.ref D), some (.bl (!isN g z)), some (.bl (isR g z)), some (.ref L), some v7, some (.ref th), some v9, none, none] ∧ Same He H', ?_, fun σ Hf hM => ?_⟩
    · rcases W7 with ⟨e, rfl⟩ | ⟨pr, t, e, rfl, et⟩
      · exact ⟨_, rfl, rfl, _, rfl, iteF ⟨rfl, Same.refl _⟩⟩
      · obtain ⟨_, lk⟩ := C.low1 pr e
        obtain ⟨_, _, _, lo⟩ := lowOk_of lk
        refine ⟨_, rfl, rfl, true, rfl, iteT ?_⟩
        refine ⟨_, rfl, _, rfl, p, t, true, g, z, (lowAt g z pr.1 pr.2).1, (lowAt g z pr.1 pr.2).2.1, (lowAt g z pr.1 pr.2).2.2.1, (lowAt g z pr.1 pr.2).2.2.2.1, (lowAt g z pr.1 pr.2).2.2.2.2, rfl, Me, O, SqT.of et, fun _ => lo, (fun h => by cases h), fun H1' s1' => ⟨true, rfl, iteF ?_⟩⟩
        refine ⟨_, rfl, _, rfl, p, t, g, z, (lowAt g z pr.1 pr.2).1, (lowAt g z pr.1 pr.2).2.1, (lowAt g z pr.1 pr.2).2.2.1, (lowAt g z pr.1 pr.2).2.2.2.1, (lowAt g z pr.1 pr.2).2.2.2.2, rfl, Me.same s1', O, SqT.of (s1' _ _ et), lo, fun H2' s2' => ?_⟩
        exact ⟨true, true, rfl, rfl, false, rfl, iteF ⟨rfl, s1'.trans s2'⟩⟩
    obtain ⟨rfl, sf⟩ := hM
    have Mf := Me.same sf
    -- apart is judged
    refine ⟨fun σ H' => σ = [some (.ref a), some (.ref sa), some (.ref p), some (.ref D), some (.bl (!isN g z)), some (.bl (isR g z)), some (.ref L), some v7, some (.ref th), some v9, none, none] ∧ Same Hf H', ?_, fun σ Hg hM => ?_⟩
    · rcases V9 with ⟨e, rfl⟩ | ⟨pr, t, v, u, x, y, e, rfl, on, t1, t2, k1, k2, k3⟩
      · exact ⟨_, rfl, rfl, _, rfl, iteF ⟨rfl, Same.refl _⟩⟩
      · have V4 : Val4 K Hf t v u x y := ⟨t1, t2, Same.tup sf k1, Same.tup sf k2, Same.tup sf k3⟩
        refine ⟨_, rfl, rfl, true, rfl, iteT ?_⟩
        refine ⟨_, rfl, _, rfl, p, t, g, z, v, u, x, y, rfl, Mf, O, V4, on, fun H1' s1' => ⟨true, rfl, iteF ?_⟩⟩
        obtain ⟨t1, t2, k1, k2, k3⟩ := V4
        refine ⟨_, rfl, _, rfl, p, t, g, z, v, u, x, y, rfl, Mf.same s1', O, ⟨t1, t2, Same.tup s1' k1, Same.tup s1' k2, Same.tup s1' k3⟩, on, fun H2' s2' => ?_⟩
        exact ⟨true, true, rfl, rfl, false, rfl, iteF ⟨rfl, s1'.trans s2'⟩⟩
    obtain ⟨rfl, sg⟩ := hM
    have Mg := Mf.same sg
    obtain ⟨_, _, _, ho⟩ := highOk_of C.high
    have eG := sg _ _ (sf _ _ eH)
    refine ⟨_, rfl, _, rfl, p, th, false, g, z, (high g z).1, (high g z).2.1, (high g z).2.2.1, (high g z).2.2.2.1, (high g z).2.2.2.2, rfl, Mg, O, SqT.of eG, (fun h => by cases h), fun _ => ho, fun H1' s1' => ⟨true, rfl, iteT ?_⟩⟩
    refine ⟨_, rfl, _, rfl, p, th, g, z, (high g z).1, (high g z).2.1, (high g z).2.2.1, (high g z).2.2.2.1, (high g z).2.2.2.2, rfl, Mg.same s1', O, SqT.of (s1' _ _ eG), ho, fun H2' s2' => ?_⟩
    exact ⟨true, true, rfl, rfl, q _⟩
end
end K53
/-! What the top has written. -/
namespace K53
open PySem PySem.Spec PyProof.Rows L2 LamX
/-- how the arguments of the def at the place i bind -/
def Bd (x : Str) (i : Nat) (ps : List Str) : Prop := ∀ (kV doc pm : Value) (an : Option Addr) (cdv ct : Value) (us : List Value), us.length = ps.length → bindArgs (PySem.W.fnOf x x (defArgs (topS i)) (defBody (topS i)) (defScope (topS i)) .none kV doc pm an cdv ct) ⟨us, []⟩ = pure (ps.zip us)
theorem bd6 : Bd "is_whole" 6 ["value", "low", "high"] := fun _ _ _ _ _ _ us hl => match us, hl with | [_, _, _], _ => rfl
theorem bd7 : Bd "is_method" 7 ["value"] := fun _ _ _ _ _ _ us hl => match us, hl with | [_], _ => rfl
theorem bd8 : Bd "divisor_at" 8 ["method", "index"] := fun _ _ _ _ _ _ us hl => match us, hl with | [_, _], _ => rfl
theorem bd9 : Bd "divisors_to" 9 ["method", "many"] := fun _ _ _ _ _ _ us hl => match us, hl with | [_, _], _ => rfl
theorem bd10 : Bd "check_method" 10 ["method", "name"] := fun _ _ _ _ _ _ us hl => match us, hl with | [_, _], _ => rfl
theorem bd13 : Bd "is_count" 13 ["value"] := fun _ _ _ _ _ _ us hl => match us, hl with | [_], _ => rfl
theorem bd14 : Bd "is_pair_of_counts" 14 ["value"] := fun _ _ _ _ _ _ us hl => match us, hl with | [_], _ => rfl
theorem bd15 : Bd "simplest" 15 ["low", "high"] := fun _ _ _ _ _ _ us hl => match us, hl with | [_, _], _ => rfl
theorem bd16 : Bd "votes_between" 16 ["one", "other"] := fun _ _ _ _ _ _ us hl => match us, hl with | [_, _], _ => rfl
theorem bd17 : Bd "is_fair" 17 ["divisors", "votes", "own", "more"] := fun _ _ _ _ _ _ us hl => match us, hl with | [_, _, _, _], _ => rfl
theorem bd18 : Bd "divisions" 18 ["method", "votes", "house"] := fun _ _ _ _ _ _ us hl => match us, hl with | [_, _, _], _ => rfl
theorem bd20 : Bd "is_below" 20 ["part", "whole", "own"] := fun _ _ _ _ _ _ us hl => match us, hl with | [_, _, _], _ => rfl
theorem bd21 : Bd "is_above" 21 ["part", "whole", "own"] := fun _ _ _ _ _ _ us hl => match us, hl with | [_, _, _], _ => rfl
theorem bd22 : Bd "transfer_of" 22 ["votes", "seats"] := fun _ _ _ _ _ _ us hl => match us, hl with | [_, _], _ => rfl
theorem bd25 : Bd "indexes_of" 25 ["method"] := fun _ _ _ _ _ _ us hl => match us, hl with | [_], _ => rfl
theorem bd26 : Bd "is_never_below" 26 ["method"] := fun _ _ _ _ _ _ us hl => match us, hl with | [_], _ => rfl
theorem bd27 : Bd "is_near" 27 ["method"] := fun _ _ _ _ _ _ us hl => match us, hl with | [_], _ => rfl
theorem bd28 : Bd "goes_below" 28 ["method"] := fun _ _ _ _ _ _ us hl => match us, hl with | [_], _ => rfl
theorem bd29 : Bd "is_always_near" 29 ["method"] := fun _ _ _ _ _ _ us hl => match us, hl with | [_], _ => rfl
theorem bd30 : Bd "last_alike" 30 ["method", "index"] := fun _ _ _ _ _ _ us hl => match us, hl with | [_, _], _ => rfl
theorem bd31 : Bd "least_many" 31 ["part", "whole"] := fun _ _ _ _ _ _ us hl => match us, hl with | [_, _], _ => rfl
theorem bd32 : Bd "below_evidence" 32 ["method"] := fun _ _ _ _ _ _ us hl => match us, hl with | [_], _ => rfl
theorem bd33 : Bd "above_evidence" 33 ["method"] := fun _ _ _ _ _ _ us hl => match us, hl with | [_], _ => rfl
theorem bd34 : Bd "near_evidence" 34 ["method"] := fun _ _ _ _ _ _ us hl => match us, hl with | [_], _ => rfl
theorem bd35 : Bd "is_against" 35 ["method", "value"] := fun _ _ _ _ _ _ us hl => match us, hl with | [_, _], _ => rfl
theorem bd36 : Bd "quota_against" 36 ["value"] := fun _ _ _ _ _ _ us hl => match us, hl with | [_], _ => rfl
theorem bd37 : Bd "accepts_below" 37 ["method", "value"] := fun _ _ _ _ _ _ us hl => match us, hl with | [_, _], _ => rfl
theorem bd38 : Bd "accepts_above" 38 ["method", "value"] := fun _ _ _ _ _ _ us hl => match us, hl with | [_, _], _ => rfl
theorem bd39 : Bd "accepts_not_near" 39 ["method", "value"] := fun _ _ _ _ _ _ us hl => match us, hl with | [_, _], _ => rfl
theorem bd41 : Bd "_law_stream" 41 ["_law_script"] := fun _ _ _ _ _ _ us hl => match us, hl with | [_], _ => rfl
theorem bd42 : Bd "_law_next" 42 ["_law_stream_here", "_law_many"] := fun _ _ _ _ _ _ us hl => match us, hl with | [_, _], _ => rfl
theorem bd44 : Bd "_law_method" 44 ["_law_stream_here"] := fun _ _ _ _ _ _ us hl => match us, hl with | [_], _ => rfl
theorem bd45 : Bd "_law_divisors" 45 ["_law_method_here", "_law_many"] := fun _ _ _ _ _ _ us hl => match us, hl with | [_, _], _ => rfl
theorem bd47 : Bd "_law_is_fair" 47 ["_law_divisors_here", "_law_votes", "_law_seats"] := fun _ _ _ _ _ _ us hl => match us, hl with | [_, _, _], _ => rfl
theorem bd49 : Bd "_law_is_against" 49 ["_law_method_here", "_law_value", "_law_low"] := fun _ _ _ _ _ _ us hl => match us, hl with | [_, _, _], _ => rfl
theorem bd50 : Bd "_law_is_not_near" 50 ["_law_method_here", "_law_value"] := fun _ _ _ _ _ _ us hl => match us, hl with | [_, _], _ => rfl
theorem bd12 : Bd "index_pairs" 12 ["span"] := fun _ _ _ _ _ _ us hl => match us, hl with | [_], _ => rfl
section
variable {K : PySem.W.Frag} {h : Heap} {mg : Str → Option Value}
theorem has_mk {x : Str} {i : Nat} {ps : List Str} {f : Addr} {oc kV dc pm cd ct : Value} {od an : Option Addr} {osl : Array (Option Value)} (X : K.In h) (G : h.Ns mainGlobals mg) (a : PySem.W.nsIn K mainGlobals x = some (some (.ref f)))
    (l : K.lookup f = some ⟨oc, od, .func (PySem.W.fnOf x x (defArgs (topS i)) (defBody (topS i)) (defScope (topS i)) .none kV dc pm an cd ct), osl⟩) (c : PySem.W.codeIn K cd x = true) (k : PySem.W.keepIn K (.ref f) = true) (b : Bd x i ps) : Has K mg x i ps := by
  have F := fun_mk (st := topS i) l c k
  exact ⟨f, _, F, F.binds b, PySem.W.mg_of X G a⟩
theorem fin_mk {lw : PySem.W.OpenLaw} {w : World} {fa f51 f12 c P : Addr} {oc51 kV51 dc51 pm51 cd51 ct51 oc12 kV12 dc12 pm12 ct12 : Value} {od51 an51 od12 an12 : Option Addr} {osl51 osl12 : Array (Option Value)} {t0 : Tok} {t1 : Tok} {t2 : Tok}
    (X : K.In h) (G : h.Ns mainGlobals mg) (hfa : mg "law" = some (.ref fa))
    (e6 : Has K mg "is_whole" 6 ["value", "low", "high"])
    (e7 : Has K mg "is_method" 7 ["value"])
    (e8 : Has K mg "divisor_at" 8 ["method", "index"])
    (e9 : Has K mg "divisors_to" 9 ["method", "many"])
    (e10 : Has K mg "check_method" 10 ["method", "name"])
    (e13 : Has K mg "is_count" 13 ["value"])
    (e14 : Has K mg "is_pair_of_counts" 14 ["value"])
    (e15 : Has K mg "simplest" 15 ["low", "high"])
    (e16 : Has K mg "votes_between" 16 ["one", "other"])
    (e17 : Has K mg "is_fair" 17 ["divisors", "votes", "own", "more"])
    (e18 : Has K mg "divisions" 18 ["method", "votes", "house"])
    (e20 : Has K mg "is_below" 20 ["part", "whole", "own"])
    (e21 : Has K mg "is_above" 21 ["part", "whole", "own"])
    (e22 : Has K mg "transfer_of" 22 ["votes", "seats"])
    (e25 : Has K mg "indexes_of" 25 ["method"])
    (e26 : Has K mg "is_never_below" 26 ["method"])
    (e27 : Has K mg "is_near" 27 ["method"])
    (e28 : Has K mg "goes_below" 28 ["method"])
    (e29 : Has K mg "is_always_near" 29 ["method"])
    (e30 : Has K mg "last_alike" 30 ["method", "index"])
    (e31 : Has K mg "least_many" 31 ["part", "whole"])
    (e32 : Has K mg "below_evidence" 32 ["method"])
    (e33 : Has K mg "above_evidence" 33 ["method"])
    (e34 : Has K mg "near_evidence" 34 ["method"])
    (e35 : Has K mg "is_against" 35 ["method", "value"])
    (e36 : Has K mg "quota_against" 36 ["value"])
    (e37 : Has K mg "accepts_below" 37 ["method", "value"])
    (e38 : Has K mg "accepts_above" 38 ["method", "value"])
    (e39 : Has K mg "accepts_not_near" 39 ["method", "value"])
    (e41 : Has K mg "_law_stream" 41 ["_law_script"])
    (e42 : Has K mg "_law_next" 42 ["_law_stream_here", "_law_many"])
    (e44 : Has K mg "_law_method" 44 ["_law_stream_here"])
    (e45 : Has K mg "_law_divisors" 45 ["_law_method_here", "_law_many"])
    (e47 : Has K mg "_law_is_fair" 47 ["_law_divisors_here", "_law_votes", "_law_seats"])
    (e49 : Has K mg "_law_is_against" 49 ["_law_method_here", "_law_value", "_law_low"])
    (e50 : Has K mg "_law_is_not_near" 50 ["_law_method_here", "_law_value"])
    (m0 : PySem.W.nsIn K mainGlobals "MOST_FIRSTS" = some (some (.int 6 t0)))
    (m1 : PySem.W.nsIn K mainGlobals "MOST_DIVISOR" = some (some (.int 1000 t1)))
    (m2 : PySem.W.nsIn K mainGlobals "MOST_EACH" = some (some (.int 100 t2)))
    (z0 : PySem.W.nsIn K mainGlobals "isinstance" = some none)
    (z1 : PySem.W.nsIn K mainGlobals "int" = some none)
    (z2 : PySem.W.nsIn K mainGlobals "bool" = some none)
    (z3 : PySem.W.nsIn K mainGlobals "tuple" = some none)
    (z4 : PySem.W.nsIn K mainGlobals "len" = some none)
    (z5 : PySem.W.nsIn K mainGlobals "all" = some none)
    (z6 : PySem.W.nsIn K mainGlobals "any" = some none)
    (z7 : PySem.W.nsIn K mainGlobals "range" = some none)
    (z8 : PySem.W.nsIn K mainGlobals "sum" = some none)
    (z9 : PySem.W.nsIn K mainGlobals "enumerate" = some none)
    (z10 : PySem.W.nsIn K mainGlobals "list" = some none)
    (z11 : PySem.W.nsIn K mainGlobals "abs" = some none)
    (z12 : PySem.W.nsIn K mainGlobals "min" = some none)
    (z13 : PySem.W.nsIn K mainGlobals "sorted" = some none)
    (a51 : PySem.W.nsIn K mainGlobals "law" = some (some (.ref f51))) (l51 : K.lookup f51 = some ⟨oc51, od51, .func (PySem.W.fnOf "law" "law" (defArgs (topS 51)) (defBody (topS 51)) (defScope (topS 51)) .none kV51 dc51 pm51 an51 cd51 ct51), osl51⟩) (c51 : PySem.W.codeIn K cd51 "law" = true) (k51 : PySem.W.keepIn K (.ref f51) = true)
    (a12 : PySem.W.nsIn K mainGlobals "index_pairs" = some (some (.ref f12))) (l12 : K.lookup f12 = some ⟨oc12, od12, .func (PySem.W.fnOf "index_pairs" "index_pairs" (defArgs sPairs) (defBody sPairs) (defScope sPairs) .none kV12 dc12 pm12 an12 (.ref c) ct12), osl12⟩) (c12 : PySem.W.codeIn K (.ref c) "index_pairs" = true) (k12 : PySem.W.keepIn K (.ref f12) = true)
    (hP : h.get? P = some ({ cls := .none, data := .fields #[] } : Obj)) (nP : K.lookup P = none) (cP : PySem.W.codeHdIn K c P = true) : LawAtS lw w K CX0 13 63 "_law_script" mg fa h := by
  have e := hfa.symm.trans (PySem.W.mg_of X G a51)
  cases e
  have F51 := fun_mk (st := topS 51) l51 c51 k51
  have F12 := fun_mk (st := topS 12) l12 c12 k12
  have T : Txt K mg := ⟨e6, e7, e8, e9, e10, e13, e14, e15, e16, e17, e18, e20, e21, e22, e25, e26, e27, e28, e29, e30, e31, e32, e33, e34, e35, e36, e37, e38, e39, e41, e42, e44, e45, e47, e49, e50,
    ⟨t0, PySem.W.mg_of X G m0⟩, ⟨t1, PySem.W.mg_of X G m1⟩, ⟨t2, PySem.W.mg_of X G m2⟩,
    PySem.W.mg_none_of X G z0, PySem.W.mg_none_of X G z1, PySem.W.mg_none_of X G z2, PySem.W.mg_none_of X G z3, PySem.W.mg_none_of X G z4, PySem.W.mg_none_of X G z5, PySem.W.mg_none_of X G z6, PySem.W.mg_none_of X G z7, PySem.W.mg_none_of X G z8, PySem.W.mg_none_of X G z9, PySem.W.mg_none_of X G z10, PySem.W.mg_none_of X G z11, PySem.W.mg_none_of X G z12, PySem.W.mg_none_of X G z13⟩
  refine ⟨PySem.W.fnOf "law" "law" (defArgs (topS 51)) (defBody (topS 51)) (defScope (topS 51)) .none kV51 dc51 pm51 an51 cd51 ct51, [(c, P)], spLaw K P, fun p hp => ?_, fun p hp => ?_, fun p hp => ?_, fun s v => .of_eq rfl, fun H a ns _ _ hH hS => ?_, fun base hb hn hT => ?_⟩
  · rw [List.mem_singleton.mp hp]
    exact hP
  · rw [List.mem_singleton.mp hp]
    exact nP
  · rw [List.mem_singleton.mp hp]
    exact PySem.W.codeHd_of_K X cP
  · refine ⟨a, ns, rfl, hS, fun y hy => ?_, fun _ => rfl⟩
    rw [List.mem_singleton.mp hy]
    exact TabS.nil (hH (c, P) (List.mem_singleton.mpr rfl))
  · exact ok_law F51 T (ok_pairs l12 c12 (hT (c, P) (List.mem_singleton.mpr rfl)) T.range T.sorted) k12 (F12.binds bd12) (PySem.W.mg_of X G a12)
end
end K53
open PySem PySem.W PyProof.Rows
set_option maxRecDepth 100000 in
set_option maxHeartbeats 0 in
theorem PySem.Challenge.cw_dividedseats_k53_whole_methods_that_keep_holds : PySem.Challenge.rw_dividedseats_k53_whole_methods_that_keep.Holds := by
  w_on; o_law; k_head; (case hw => w_witness2)
  k_fill
  refine LamX.walk_ofTs (l := PySem.Challenge.rw_dividedseats_k53_whole_methods_that_keep) (n := 63) (k := 13) (x := "_law_script") (CX := fun _ => L2.CX0) rfl (by decide) rfl ⟨rfl, by decide, by decide⟩ (fun w h Y => PySem.W.km_in_of Y) ?F (fun _ _ _ _ _ h => h)
  case F =>
    intro w mg fa h Y KX G hmg
    have hT := PySem.W.km_tabs_of Y
    refine' K53.fin_mk KX G hmg ?e6 ?e7 ?e8 ?e9 ?e10 ?e13 ?e14 ?e15 ?e16 ?e17 ?e18 ?e20 ?e21 ?e22 ?e25 ?e26 ?e27 ?e28 ?e29 ?e30 ?e31 ?e32 ?e33 ?e34 ?e35 ?e36 ?e37 ?e38 ?e39 ?e41 ?e42 ?e44 ?e45 ?e47 ?e49 ?e50 ?m0 ?m1 ?m2 ?z0 ?z1 ?z2 ?z3 ?z4 ?z5 ?z6 ?z7 ?z8 ?z9 ?z10 ?z11 ?z12 ?z13 ?a51 ?l51 ?c51 ?k51 ?a12 ?l12 ?c12 ?k12 ?hP ?nP ?cP
    case e6 =>
      refine' K53.has_mk KX G ?a ?l ?c ?k K53.bd6
      (case a => k_is); (case l => k_is); (case c => k_is); (case k => k_is)
    case e7 =>
      refine' K53.has_mk KX G ?a ?l ?c ?k K53.bd7
      (case a => k_is); (case l => k_is); (case c => k_is); (case k => k_is)
    case e8 =>
      refine' K53.has_mk KX G ?a ?l ?c ?k K53.bd8
      (case a => k_is); (case l => k_is); (case c => k_is); (case k => k_is)
    case e9 =>
      refine' K53.has_mk KX G ?a ?l ?c ?k K53.bd9
      (case a => k_is); (case l => k_is); (case c => k_is); (case k => k_is)
    case e10 =>
      refine' K53.has_mk KX G ?a ?l ?c ?k K53.bd10
      (case a => k_is); (case l => k_is); (case c => k_is); (case k => k_is)
    case e13 =>
      refine' K53.has_mk KX G ?a ?l ?c ?k K53.bd13
      (case a => k_is); (case l => k_is); (case c => k_is); (case k => k_is)
    case e14 =>
      refine' K53.has_mk KX G ?a ?l ?c ?k K53.bd14
      (case a => k_is); (case l => k_is); (case c => k_is); (case k => k_is)
    case e15 =>
      refine' K53.has_mk KX G ?a ?l ?c ?k K53.bd15
      (case a => k_is); (case l => k_is); (case c => k_is); (case k => k_is)
    case e16 =>
      refine' K53.has_mk KX G ?a ?l ?c ?k K53.bd16
      (case a => k_is); (case l => k_is); (case c => k_is); (case k => k_is)
    case e17 =>
      refine' K53.has_mk KX G ?a ?l ?c ?k K53.bd17
      (case a => k_is); (case l => k_is); (case c => k_is); (case k => k_is)
    case e18 =>
      refine' K53.has_mk KX G ?a ?l ?c ?k K53.bd18
      (case a => k_is); (case l => k_is); (case c => k_is); (case k => k_is)
    case e20 =>
      refine' K53.has_mk KX G ?a ?l ?c ?k K53.bd20
      (case a => k_is); (case l => k_is); (case c => k_is); (case k => k_is)
    case e21 =>
      refine' K53.has_mk KX G ?a ?l ?c ?k K53.bd21
      (case a => k_is); (case l => k_is); (case c => k_is); (case k => k_is)
    case e22 =>
      refine' K53.has_mk KX G ?a ?l ?c ?k K53.bd22
      (case a => k_is); (case l => k_is); (case c => k_is); (case k => k_is)
    case e25 =>
      refine' K53.has_mk KX G ?a ?l ?c ?k K53.bd25
      (case a => k_is); (case l => k_is); (case c => k_is); (case k => k_is)
    case e26 =>
      refine' K53.has_mk KX G ?a ?l ?c ?k K53.bd26
      (case a => k_is); (case l => k_is); (case c => k_is); (case k => k_is)
    case e27 =>
      refine' K53.has_mk KX G ?a ?l ?c ?k K53.bd27
      (case a => k_is); (case l => k_is); (case c => k_is); (case k => k_is)
    case e28 =>
      refine' K53.has_mk KX G ?a ?l ?c ?k K53.bd28
      (case a => k_is); (case l => k_is); (case c => k_is); (case k => k_is)
    case e29 =>
      refine' K53.has_mk KX G ?a ?l ?c ?k K53.bd29
      (case a => k_is); (case l => k_is); (case c => k_is); (case k => k_is)
    case e30 =>
      refine' K53.has_mk KX G ?a ?l ?c ?k K53.bd30
      (case a => k_is); (case l => k_is); (case c => k_is); (case k => k_is)
    case e31 =>
      refine' K53.has_mk KX G ?a ?l ?c ?k K53.bd31
      (case a => k_is); (case l => k_is); (case c => k_is); (case k => k_is)
    case e32 =>
      refine' K53.has_mk KX G ?a ?l ?c ?k K53.bd32
      (case a => k_is); (case l => k_is); (case c => k_is); (case k => k_is)
    case e33 =>
      refine' K53.has_mk KX G ?a ?l ?c ?k K53.bd33
      (case a => k_is); (case l => k_is); (case c => k_is); (case k => k_is)
    case e34 =>
      refine' K53.has_mk KX G ?a ?l ?c ?k K53.bd34
      (case a => k_is); (case l => k_is); (case c => k_is); (case k => k_is)
    case e35 =>
      refine' K53.has_mk KX G ?a ?l ?c ?k K53.bd35
      (case a => k_is); (case l => k_is); (case c => k_is); (case k => k_is)
    case e36 =>
      refine' K53.has_mk KX G ?a ?l ?c ?k K53.bd36
      (case a => k_is); (case l => k_is); (case c => k_is); (case k => k_is)
    case e37 =>
      refine' K53.has_mk KX G ?a ?l ?c ?k K53.bd37
      (case a => k_is); (case l => k_is); (case c => k_is); (case k => k_is)
    case e38 =>
      refine' K53.has_mk KX G ?a ?l ?c ?k K53.bd38
      (case a => k_is); (case l => k_is); (case c => k_is); (case k => k_is)
    case e39 =>
      refine' K53.has_mk KX G ?a ?l ?c ?k K53.bd39
      (case a => k_is); (case l => k_is); (case c => k_is); (case k => k_is)
    case e41 =>
      refine' K53.has_mk KX G ?a ?l ?c ?k K53.bd41
      (case a => k_is); (case l => k_is); (case c => k_is); (case k => k_is)
    case e42 =>
      refine' K53.has_mk KX G ?a ?l ?c ?k K53.bd42
      (case a => k_is); (case l => k_is); (case c => k_is); (case k => k_is)
    case e44 =>
      refine' K53.has_mk KX G ?a ?l ?c ?k K53.bd44
      (case a => k_is); (case l => k_is); (case c => k_is); (case k => k_is)
    case e45 =>
      refine' K53.has_mk KX G ?a ?l ?c ?k K53.bd45
      (case a => k_is); (case l => k_is); (case c => k_is); (case k => k_is)
    case e47 =>
      refine' K53.has_mk KX G ?a ?l ?c ?k K53.bd47
      (case a => k_is); (case l => k_is); (case c => k_is); (case k => k_is)
    case e49 =>
      refine' K53.has_mk KX G ?a ?l ?c ?k K53.bd49
      (case a => k_is); (case l => k_is); (case c => k_is); (case k => k_is)
    case e50 =>
      refine' K53.has_mk KX G ?a ?l ?c ?k K53.bd50
      (case a => k_is); (case l => k_is); (case c => k_is); (case k => k_is)
    (case m0 => k_is)
    (case m1 => k_is)
    (case m2 => k_is)
    (case z0 => k_is)
    (case z1 => k_is)
    (case z2 => k_is)
    (case z3 => k_is)
    (case z4 => k_is)
    (case z5 => k_is)
    (case z6 => k_is)
    (case z7 => k_is)
    (case z8 => k_is)
    (case z9 => k_is)
    (case z10 => k_is)
    (case z11 => k_is)
    (case z12 => k_is)
    (case z13 => k_is)
    (case a51 => k_is)
    (case l51 => k_is)
    (case c51 => k_is)
    (case k51 => k_is)
    (case a12 => k_is)
    (case l12 => k_is)
    (case c12 => k_is)
    (case k12 => k_is)
    (case hP => exact hT _ (List.mem_singleton.mpr rfl))
    (case nP => kernel_rfl)
    (case cP => kernel_rfl)
#print axioms PySem.Challenge.cw_dividedseats_k53_whole_methods_that_keep_holds
