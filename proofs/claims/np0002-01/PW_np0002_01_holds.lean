import PyProof.Rows.All
import Wide.All
import OpenK.AllK
import Wide.FinOn
import PySem.Challenge.RW_np0002_01
set_option Elab.async false
set_option compiler.extract_closed false
section
open PySem PySem.W PyProof.Rows
set_option maxRecDepth 100000
set_option maxHeartbeats 8000000
namespace Mine
open_top hd for PySem.Challenge.rw_np0002_01
end Mine
end
section
open PySem PySem.W PySem.Calls PyProof.Rows PySem.Spec
namespace Mine
abbrev sA : Str := Str.ofString "A"
abbrev sC : Str := Str.ofString "C"
abbrev sH : Str := Str.ofString "H"
abbrev sM : Str := Str.ofString "M"
abbrev sS : Str := Str.ofString "S"
abbrev ss : Str := Str.ofString "s"
def bitI (x : Str) : Int := if x = Str.ofString "A" then 4194304 else if x = Str.ofString "C" then 67108864 else if x = Str.ofString "H" then 16777216 else if x = Str.ofString "M" then 134217728 else if x = Str.ofString "S" then 33554432 else if x = Str.ofString "s" then 8388608 else 0
def addI (b n : Int) : Int := if n / b % 2 = 1 then n else n + b
def ctlI (n : Int) : Int := if n % 4194304 = 63 then n / 4194304 * 4194304 + 127 else if (64 ≤ n % 4194304 ∧ n % 4194304 < 96) ∨ (97 ≤ n % 4194304 ∧ n % 4194304 < 123) then n / 4194304 * 4194304 + n % 4194304 % 32 else addI 67108864 n
def putI (x : Str) (n : Int) : Int := if x = Str.ofString "C" then ctlI n else addI (bitI x) n
def six : List Str := [Str.ofString "A", Str.ofString "C", Str.ofString "H", Str.ofString "M", Str.ofString "S", Str.ofString "s"]
theorem six_cases {x : Str} (h : x ∈ six) : x = Str.ofString "A" ∨ x = Str.ofString "C" ∨ x = Str.ofString "H" ∨ x = Str.ofString "M" ∨ x = Str.ofString "S" ∨ x = Str.ofString "s" := by
  simpa [six] using h
theorem bitI_A : bitI (Str.ofString "A") = 4194304 := by decide +kernel
theorem bitI_C : bitI (Str.ofString "C") = 67108864 := by decide +kernel
theorem bitI_H : bitI (Str.ofString "H") = 16777216 := by decide +kernel
theorem bitI_M : bitI (Str.ofString "M") = 134217728 := by decide +kernel
theorem bitI_S : bitI (Str.ofString "S") = 33554432 := by decide +kernel
theorem bitI_s : bitI (Str.ofString "s") = 8388608 := by decide +kernel
theorem putI_C (n : Int) : putI (Str.ofString "C") n = ctlI n := if_pos rfl
theorem putI_of {x : Str} (h : ¬ x = Str.ofString "C") (n : Int) : putI x n = addI (bitI x) n := if_neg h
theorem putI_A (n : Int) : putI (Str.ofString "A") n = addI 4194304 n := by rw [putI_of (by decide +kernel), bitI_A]
theorem putI_H (n : Int) : putI (Str.ofString "H") n = addI 16777216 n := by rw [putI_of (by decide +kernel), bitI_H]
theorem putI_M (n : Int) : putI (Str.ofString "M") n = addI 134217728 n := by rw [putI_of (by decide +kernel), bitI_M]
theorem putI_S (n : Int) : putI (Str.ofString "S") n = addI 33554432 n := by rw [putI_of (by decide +kernel), bitI_S]
theorem putI_s (n : Int) : putI (Str.ofString "s") n = addI 8388608 n := by rw [putI_of (by decide +kernel), bitI_s]

/-- the numbers in play -/
def Num (n : Int) : Prop := 0 ≤ n ∧ n < 268435456
theorem put_num {x : Str} (hx : x ∈ six) {n : Int} (h : Num n) : Num (putI x n) := by
  obtain ⟨h0, h1⟩ := h
  rcases six_cases hx with rfl | rfl | rfl | rfl | rfl | rfl
  · rw [putI_A]; unfold addI Num; split <;> omega
  · rw [putI_C]; unfold ctlI addI Num; split
    · omega
    · split
      · omega
      · split <;> omega
  · rw [putI_H]; unfold addI Num; split <;> omega
  · rw [putI_M]; unfold addI Num; split <;> omega
  · rw [putI_S]; unfold addI Num; split <;> omega
  · rw [putI_s]; unfold addI Num; split <;> omega
def numI (ls : List Str) (base : Int) : Int := ls.foldr putI base
theorem num_num {ls : List Str} (hx : ∀ x ∈ ls, x ∈ six) {n : Int} (h : Num n) : Num (numI ls n) := by
  induction ls with
  | nil => exact h
  | cons a r ih => exact put_num (hx a (.head _)) (ih fun x hm => hx x (.tail _ hm))

-- bits
theorem nat_and_pow (n k : Nat) : n &&& 2 ^ k = if n / 2 ^ k % 2 = 1 then 2 ^ k else 0 := by
  apply Nat.eq_of_testBit_eq
  intro i
  rw [Nat.testBit_and, Nat.testBit_two_pow]
  by_cases hi : k = i
  · subst hi
    have : n.testBit k = decide (n / 2 ^ k % 2 = 1) := by rw [Nat.testBit_eq_decide_div_mod_eq]
    rw [this]
    by_cases h : n / 2 ^ k % 2 = 1
    · simp [h]
    · simp [h]
  · by_cases h : n / 2 ^ k % 2 = 1
    · simp [h, hi, Nat.testBit_two_pow]
    · simp [h, hi]
theorem and_pow {n : Int} (h : 0 ≤ n) (k : Nat) : Builtin.bitAnd n ((2 ^ k : Nat) : Int) = if n / ((2 ^ k : Nat) : Int) % 2 = 1 then ((2 ^ k : Nat) : Int) else 0 := by
  obtain ⟨m, rfl⟩ := Int.eq_ofNat_of_zero_le h
  rw [bitAnd_pp h (Int.natCast_nonneg _), Int.toNat_natCast, Int.toNat_natCast, nat_and_pow]
  have e : (m : Int) / ((2 ^ k : Nat) : Int) % 2 = ((m / 2 ^ k % 2 : Nat) : Int) := by push_cast; rfl
  rw [e]
  by_cases q : m / 2 ^ k % 2 = 1
  · rw [if_pos q, if_pos (by omega)]
  · rw [if_neg q, if_neg (by omega)]; rfl
theorem and_22 {n : Int} (h : 0 ≤ n) : Builtin.bitAnd n 4194304 = if n / 4194304 % 2 = 1 then 4194304 else 0 := and_pow h 22
theorem and_23 {n : Int} (h : 0 ≤ n) : Builtin.bitAnd n 8388608 = if n / 8388608 % 2 = 1 then 8388608 else 0 := and_pow h 23
theorem and_24 {n : Int} (h : 0 ≤ n) : Builtin.bitAnd n 16777216 = if n / 16777216 % 2 = 1 then 16777216 else 0 := and_pow h 24
theorem and_25 {n : Int} (h : 0 ≤ n) : Builtin.bitAnd n 33554432 = if n / 33554432 % 2 = 1 then 33554432 else 0 := and_pow h 25
theorem and_26 {n : Int} (h : 0 ≤ n) : Builtin.bitAnd n 67108864 = if n / 67108864 % 2 = 1 then 67108864 else 0 := and_pow h 26
theorem and_27 {n : Int} (h : 0 ≤ n) : Builtin.bitAnd n 134217728 = if n / 134217728 % 2 = 1 then 134217728 else 0 := and_pow h 27
theorem nat_and_all (m : Nat) (h : m < 268435456) : m &&& 264241152 = m / 4194304 * 4194304 := by
  have e : (264241152 : Nat) = (2 ^ 6 - 1) <<< 22 := by decide
  have e2 : m / 4194304 * 4194304 = (m >>> 22) <<< 22 := by rw [Nat.shiftRight_eq_div_pow, Nat.shiftLeft_eq]
  rw [e, e2]
  apply Nat.eq_of_testBit_eq
  intro i
  rw [Nat.testBit_and, Nat.testBit_shiftLeft, Nat.testBit_shiftLeft, Nat.testBit_shiftRight, Nat.testBit_two_pow_sub_one]
  by_cases hi : 22 ≤ i
  · simp only [hi, decide_true, Bool.true_and, ge_iff_le, Nat.add_sub_cancel' hi]
    by_cases h6 : i - 22 < 6
    · simp [h6]
    · have : m.testBit i = false := Nat.testBit_lt_two_pow (Nat.lt_of_lt_of_le h (by rw [show (268435456 : Nat) = 2 ^ 28 by decide]; exact Nat.pow_le_pow_right (by decide) (by omega)))
      simp [h6, this]
  · simp [hi]
theorem and_all {n : Int} (h : Num n) : Builtin.bitAnd n 264241152 = n / 4194304 * 4194304 := by
  obtain ⟨h0, h1⟩ := h
  obtain ⟨m, rfl⟩ := Int.eq_ofNat_of_zero_le h0
  rw [bitAnd_pp h0 (by decide), Int.toNat_natCast, show Int.toNat 264241152 = 264241152 from rfl, nat_and_all m (by omega)]
  omega
theorem or_bit {n b : Int} (_h : 0 ≤ n) (e : Builtin.bitAnd n b = if n / b % 2 = 1 then b else 0) : Builtin.bitOr n b = addI b n := by
  rw [bitOr_and, e]; unfold addI; split <;> omega
theorem or_put {x : Str} (hx : x ∈ six) (hc : ¬ x = Str.ofString "C") {n : Int} (h : Num n) : Builtin.bitOr n (bitI x) = putI x n := by
  rw [putI_of hc]
  rcases six_cases hx with rfl | rfl | rfl | rfl | rfl | rfl
  · rw [bitI_A]; exact or_bit h.1 (and_22 h.1)
  · exact absurd rfl hc
  · rw [bitI_H]; exact or_bit h.1 (and_24 h.1)
  · rw [bitI_M]; exact or_bit h.1 (and_27 h.1)
  · rw [bitI_S]; exact or_bit h.1 (and_25 h.1)
  · rw [bitI_s]; exact or_bit h.1 (and_23 h.1)
/-- low part and high part do not meet -/
theorem and_low_high {a b : Int} (ha : 0 ≤ a) (hb : a < 4194304) (h0 : 0 ≤ b) : Builtin.bitAnd a (b * 4194304) = 0 := by
  obtain ⟨m, rfl⟩ := Int.eq_ofNat_of_zero_le ha
  obtain ⟨k, rfl⟩ := Int.eq_ofNat_of_zero_le h0
  have e : ((k : Int) * 4194304).toNat = k * 4194304 := by omega
  rw [bitAnd_pp ha (by omega), Int.toNat_natCast, e]
  have z : m &&& k * 4194304 = 0 := by
    have e2 : k * 4194304 = k <<< 22 := by rw [Nat.shiftLeft_eq]
    rw [e2]
    apply Nat.eq_of_testBit_eq
    intro i
    rw [Nat.testBit_and, Nat.testBit_shiftLeft, Nat.zero_testBit]
    by_cases hi : 22 ≤ i
    · have : m.testBit i = false := Nat.testBit_lt_two_pow (Nat.lt_of_lt_of_le (by omega : m < 2 ^ 22) (Nat.pow_le_pow_right (by decide) hi))
      simp [this]
    · simp [hi]
  rw [z]; rfl
theorem or_low_high {a b : Int} (ha : 0 ≤ a) (hb : a < 4194304) (h0 : 0 ≤ b) : Builtin.bitOr a (b * 4194304) = a + b * 4194304 := by
  rw [bitOr_and, and_low_high ha hb h0]; omega
theorem base_is {n : Int} (h : Num n) : n - Builtin.bitAnd n 264241152 = n % 4194304 := by rw [and_all h]; omega
theorem ctl_63 {n : Int} (h : Num n) (q : n - Builtin.bitAnd n 264241152 = 63) : Builtin.bitOr 127 (Builtin.bitAnd n 264241152) = ctlI n := by
  have h' := h
  obtain ⟨h0, h1⟩ := h'
  rw [base_is h] at q
  rw [and_all h, or_low_high (by decide) (by decide) (by omega)]
  unfold ctlI; rw [if_pos q]; omega
theorem ctl_low {n : Int} (h : Num n) (q : (64 ≤ n - Builtin.bitAnd n 264241152 ∧ n - Builtin.bitAnd n 264241152 ≤ 95) ∨ (97 ≤ n - Builtin.bitAnd n 264241152 ∧ n - Builtin.bitAnd n 264241152 ≤ 122)) : Builtin.bitOr (Builtin.bitAnd (n - Builtin.bitAnd n 264241152) 31) (Builtin.bitAnd n 264241152) = ctlI n := by
  have h' := h
  obtain ⟨h0, h1⟩ := h'
  rw [base_is h] at q ⊢
  rw [bitAnd_m5, and_all h, or_low_high (by omega) (by omega) (by omega)]
  unfold ctlI; rw [if_neg (by omega), if_pos (by omega)]; omega
theorem ctl_else {n : Int} (h : Num n) (q0 : ¬ n - Builtin.bitAnd n 264241152 = 63) (q : ¬ ((64 ≤ n - Builtin.bitAnd n 264241152 ∧ n - Builtin.bitAnd n 264241152 ≤ 95) ∨ (97 ≤ n - Builtin.bitAnd n 264241152 ∧ n - Builtin.bitAnd n 264241152 ≤ 122))) : Builtin.bitOr n 67108864 = ctlI n := by
  rw [base_is h] at q q0
  rw [or_bit h.1 (and_26 h.1)]
  unfold ctlI; rw [if_neg q0, if_neg (by omega)]

/-- the modifiers' letters of a number, in their order -/
def hasI (n : Int) (x : Str) : Bool := decide (n / bitI x % 2 = 1)
def lettersI (n : Int) : List Str := six.filter (hasI n)

theorem ce_t {α : Type} {b : Bool} {x y z : α} (h : b = true) (e : z = x) : z = bif b then x else y := by subst h; exact e
theorem ce_f {α : Type} {b : Bool} {x y z : α} (h : b = false) (e : z = y) : z = bif b then x else y := by subst h; exact e
theorem ie_t {α : Type} {c : Prop} [Decidable c] {x y z : α} (h : c) (e : z = x) : z = if c then x else y := by rw [if_pos h]; exact e
theorem ie_f {α : Type} {c : Prop} [Decidable c] {x y z : α} (h : ¬ c) (e : z = y) : z = if c then x else y := by rw [if_neg h]; exact e
def bitF (x : Str) : Int := bif Str.ofString "A" == x then 4194304 else bif Str.ofString "C" == x then 67108864 else bif Str.ofString "H" == x then 16777216 else bif Str.ofString "M" == x then 134217728 else bif Str.ofString "S" == x then 33554432 else bif Str.ofString "s" == x then 8388608 else 0
theorem str_beq (x y : Str) : (x == y) = decide (y = x) := by
  by_cases h : y = x
  · subst h; exact (beq_self_eq_true y).trans (decide_eq_true rfl).symm
  · rw [decide_eq_false h]; exact beq_false_of_ne (Ne.symm h)
theorem bif_str {α : Type} (x y : Str) (a b : α) : (bif x == y then a else b) = if y = x then a else b := by
  rw [str_beq]
  by_cases h : y = x
  · rw [if_pos h, decide_eq_true h]; rfl
  · rw [if_neg h, decide_eq_false h]; rfl
theorem bitF_eq (x : Str) : bitF x = bitI x := by
  unfold bitF bitI
  rw [bif_str, bif_str, bif_str, bif_str, bif_str, bif_str]
def codeF (x : Str) : Int := bif Str.ofString "NUL" == x then 0 else bif Str.ofString "TAB" == x then 9 else bif Str.ofString "LFD" == x then 10 else bif Str.ofString "RET" == x then 13 else bif Str.ofString "ESC" == x then 27 else bif Str.ofString "SPC" == x then 32 else bif Str.ofString "DEL" == x then 127 else -1
def nameF (n : Int) : Str := if 0 = n then Str.ofString "NUL" else if 9 = n then Str.ofString "TAB" else if 10 = n then Str.ofString "LFD" else if 13 = n then Str.ofString "RET" else if 27 = n then Str.ofString "ESC" else if 32 = n then Str.ofString "SPC" else if 127 = n then Str.ofString "DEL" else Str.ofString ""
end Mine
end
section
open PySem PySem.W PySem.Calls PyProof.Rows PySem.Spec
set_option maxRecDepth 100000
set_option maxHeartbeats 8000000
namespace Mine
/-- all of h but the addresses in l is in h' -/
def Kept (h h' : Heap) (l : List Addr) : Prop := ∀ b o, b ∉ l → h.get? b = some o → h'.get? b = some o
theorem Kept.refl (h : Heap) (l : List Addr) : Kept h h l := fun _ _ _ e => e
theorem Kept.trans {h h' h'' : Heap} {l : List Addr} (a : Kept h h' l) (b : Kept h' h'' l) : Kept h h'' l := fun x o n e => b x o n (a x o n e)
theorem Kept.fr {h₀ h h' : Heap} {L : Addr} {m : Str → Option Value} (k : Kept h h' []) (F : Fr h₀ L h m) : Fr h₀ L h' m := F.kept fun b o e => k b o (fun hm => nomatch hm) e
theorem Kept.news {h₀ h h' : Heap} {L : Addr} {news : List (Addr × Obj)} (k : Kept h h' []) (N : News h₀ L h news) : News h₀ L h' news := fun p hp => ⟨k _ _ (fun hm => nomatch hm) (N p hp).1, (N p hp).2⟩
theorem Kept.at {h h' : Heap} {b : Addr} {o : Obj} (k : Kept h h' []) (e : h.get? b = some o) : h'.get? b = some o := k _ _ (fun hm => nomatch hm) e
theorem Kept.list {h h' : Heap} {b : Addr} {xs : Array Value} (k : Kept h h' []) (x : h.IsList b xs) : h'.IsList b xs := x.at fun o e => k.at e

abbrev Con (w : World) (f : Addr) (hid : List (Addr × Obj)) (vs : List Value) (need : Nat) (R : Heap → Addr → (Str → Option Value) → Shared → (Value → Shared → Prop) → Prop) : Prop :=
  ∀ (p : Program) (loose : List Str) (mean : ExcName → Option Value) (mg mb : Str → Option Value) (dp un : Nat) (gd : Option (List Code)) (cn : Str) (cs : Scope) (a : Addr) (ccd : Value) (cl : List (Str × Addr)) (outer : List Env) (A₀ : Around) (base h₀ : Heap) (L : Addr) (m : Str → Option Value) (s : Shared) (Q E : Value → Shared → Prop),
    Below A₀ base outer h₀ → Fr h₀ L s.heap m → (hd.heap_39 w.params).In h₀ → News h₀ L s.heap hid → Top p loose mean mg mb h₀ → cs.kind = .function →
    dp + need < recursionLimit → un + 8 * need < cLine → R h₀ L m s Q →
    wpAny (model PySem.Challenge.rw_np0002_01.row.prog w) (ktrTop dp un gd cn cs L a ccd cl outer) (call (.ref f) vs) Q E s

/-- an answer that is a plain value -/
abbrev RetV (V : Tok → Value) : Heap → Addr → (Str → Option Value) → Shared → (Value → Shared → Prop) → Prop := fun h₀ L m s Q =>
  ∀ (t : Tok) (h' : Heap) (tk' : Nat), Kept s.heap h' [] → Fr h₀ L h' m → Q (V t) { s with heap := h', toks := tk' }
/-- an answer that is a new list of texts -/
abbrev RetS (ss : List Str) : Heap → Addr → (Str → Option Value) → Shared → (Value → Shared → Prop) → Prop := fun h₀ L m s Q =>
  ∀ (D : Addr) (ys : List Value) (c : Nat) (h' : Heap) (tk' : Nat), Kept s.heap h' [] → Fr h₀ L h' m → News h₀ L h' [(D, PySem.W.listOf ys.toArray c)] → s.heap.objs.size ≤ D → StrsAre ys ss → Q (.ref D) { s with heap := h', toks := tk' }

section
variable {prog : Program} {w : World} {A₀ A : Around} {s : Shared} {base h₀ : Heap} {outer : List Env} {L : Addr} {m : Str → Option Value} {env : Env} {hid : List (Addr × Obj)} {K : Frag} {p : Program} {loose : List Str} {mean : ExcName → Option Value} {mg mb : Str → Option Value}
  {R : Result → Shared → Prop} {name qual : Str} {params : Arguments} {body : List Stmt} {scope : Scope} {dV kV doc pm cdv ct oc : Value} {an od : Option Addr} {osl : Array (Option Value)} {f : Addr} {args : Args} {binds : List (Str × Value)}

theorem enterP (B : Below A₀ base outer h₀) (F : Fr h₀ L s.heap m) (X₀ : K.In h₀) (N : News h₀ L s.heap hid) (T : Top p loose mean mg mb h₀) (hA : A.frames = some (env :: outer)) (hf : env.frame = some L) (hke : env.scope.kind = .function)
    (ho : K.lookup f = some ⟨oc, od, .func (fnOf name qual params body scope dV kV doc pm an cdv ct), osl⟩) (hcd : codeIn K cdv qual = true) (hroom : A.depth < recursionLimit)
    (hbind : BindsTo s (fnOf name qual params body scope dV kV doc pm an cdv ct) args binds) (hloc : ∀ y ∈ binds, scope.names.lookup y.1 = some .local)
    (h : ∀ g L' h₁, Kept s.heap g (hid.map (·.1)) → g.objs.size = s.heap.objs.size → Fr h₀ L g m → Fr g L' h₁ (fun y => binds.reverse.lookup y) → News g L' h₁ hid → Below A base (env :: outer) g → K.In g → Top p loose mean mg mb g →
      wpAny (model prog w) (A.deeper (envOf qual scope L' f cdv)) (execs body (envOf qual scope L' f cdv))
        (fun fl s' => LeaveK h₀ L m g (fun r s' => Kept g s'.heap [] → R r s') (match fl with | .ret v => v | _ => .none) s')
        (fun e s' => wpAny (model prog w) (A.deeper (envOf qual scope L' f cdv)) (leaving (envOf qual scope L' f cdv) e) (fun _ s'' => R (.error e) s'') (fun e' s'' => R (.error e') s'') s')
        { s with heap := h₁, toks := s.toks + binds.length })
    (hco : scope.isCoroutine = false) (hgen : scope.isGenerator = false) (hk : scope.kind = .function)
    (hcell : ∀ x ∈ scope.names, x.2 ≠ .cell) : codeAny (model prog w) A (.call (.ref f) args) R s := by
  obtain ⟨FG, BG, st, lv⟩ := groundX (R := R) B F N hA hf hke
  have X := X₀.keeps st
  have Tg := T.keeps st
  have kg : Kept s.heap (hideAll s.heap (hid.map (·.1))) (hid.map (·.1)) := fun b o n e => hideAll_get _ e n
  refine codeAny_call_def (fd := fnOf name qual params body scope dV kV doc pm an cdv ct) (body := body) (binds := binds) hroom ((X₀.keeps F.keep) _ _ ho) rfl (T.nolimit.keeps F.keep) (codeRec_of (X₀.keeps F.keep) hcd) rfl hbind hcell hloc (fun h₁ hns hk₁ => ?_) hco hgen hk
  exact wpAny_mono (h _ s.heap.objs.size h₁ kg (hideAll_size _ _) FG ⟨hns, fun b o e => hk₁ b o (of_hideAll _ e), Nat.le_of_eq (hideAll_size _ _)⟩
    (fun p hp => ⟨hk₁ _ _ (N p hp).1, Nat.ne_of_lt (Heap.lt_size (N p hp).1), hideAll_none _ (List.mem_map_of_mem hp)⟩) BG X Tg)
    (fun fl s' hl => by
      obtain ⟨L', m', news', F', N', k⟩ := hl
      exact lv _ _ ⟨L', m', news', F', N', fun a b => k a b fun b o _ e => F'.keep b o e⟩) fun _ _ y => y

theorem enterC (B : Below A₀ base outer h₀) (F : Fr h₀ L s.heap m) (X₀ : K.In h₀) (N : News h₀ L s.heap hid) (T : Top p loose mean mg mb h₀) (hA : A.frames = some (env :: outer)) (hf : env.frame = some L) (hke : env.scope.kind = .function)
    (ho : K.lookup f = some ⟨oc, od, .func (fnOf name qual params body scope dV kV doc pm an cdv ct), osl⟩) (hcd : codeIn K cdv qual = true) (hroom : A.depth < recursionLimit)
    (hbind : BindsTo s (fnOf name qual params body scope dV kV doc pm an cdv ct) args binds) (hkind : (binds.all fun y => scope.names.lookup y.1 == some .local || scope.names.lookup y.1 == some .cell) = true)
    (hnd : ((cellsFrom 0 scope.names []).map (·.1)).Nodup)
    (h : ∀ g L' h₁ tk cells, Kept s.heap g (hid.map (·.1)) → g.objs.size = s.heap.objs.size → Fr h₀ L g m → Fr g L' h₁ (bindL (envOfC qual scope L' f cdv).kindOf binds fun _ => none) → News g L' h₁ (cells ++ hid) →
      CellsAre (bindC (envOfC qual scope L' f cdv).kindOf binds fun _ => none) (cellsFrom (L' + 1) scope.names []) cells → Below A base (env :: outer) g → K.In g → Top p loose mean mg mb g → (∀ p ∈ hid, p.1 < L') →
      wpAny (model prog w) (A.deeper (envOfC qual scope L' f cdv)) (execs body (envOfC qual scope L' f cdv))
        (fun fl s' => LeaveK h₀ L m g (fun r s' => Kept g s'.heap [] → R r s') (match fl with | .ret v => v | _ => .none) s')
        (fun e s' => wpAny (model prog w) (A.deeper (envOfC qual scope L' f cdv)) (leaving (envOfC qual scope L' f cdv) e) (fun _ s'' => R (.error e) s'') (fun e' s'' => R (.error e') s'') s')
        { s with heap := h₁, toks := tk })
    (hco : scope.isCoroutine = false) (hgen : scope.isGenerator = false) (hk : scope.kind = .function) : codeAny (model prog w) A (.call (.ref f) args) R s := by
  obtain ⟨FG, BG, st, lv⟩ := groundX (R := R) B F N hA hf hke
  have X := X₀.keeps st
  have Tg := T.keeps st
  have kg : Kept s.heap (hideAll s.heap (hid.map (·.1))) (hid.map (·.1)) := fun b o n e => hideAll_get _ e n
  refine codeAny_call_function hroom ((X₀.keeps F.keep) _ _ ho) rfl hco hgen rfl (codeRec_of (X₀.keeps F.keep) hcd) (hbind _ _ _ _ ?_)
  refine wpAny_newFunctionEnv_cells hk (kindsX hkind _) fun env' he s' x => ?_
  subst he
  refine ⟨(T.nolimit.keeps F.keep).keeps x.toInCall.keep, codeAny_func ?_⟩
  obtain ⟨h₁, tk, rfl, _⟩ := x.done
  have hk₁ := x.toInCall.keep
  obtain ⟨cells, NC, Y⟩ := Cl.news (h₀ := s.heap) (Nat.le_refl _) fun n c hm => ⟨x.cell n c (lookup_of_mem_nodup (cellsFrom_names scope.names 0 (s.heap.objs.size + 1) [] [] rfl ▸ hnd) hm), x.above n c hm⟩
  refine wpAny_mono (h _ s.heap.objs.size h₁ tk cells kg (hideAll_size _ _) FG ⟨x.toInCall.ns, fun b o e => hk₁ b o (of_hideAll _ e), Nat.le_of_eq (hideAll_size _ _)⟩ (fun p hp => ?_) Y BG X Tg (fun p hp => Heap.lt_size (N p hp).1))
    (fun fl s' hl => by
      obtain ⟨L', m', news', F', N', k⟩ := hl
      exact lv _ _ ⟨L', m', news', F', N', fun a b => k a b fun b o _ e => F'.keep b o e⟩) fun _ _ y => y
  rcases List.mem_append.mp hp with hp | hp
  · refine ⟨(NC p hp).1, (NC p hp).2.1, ?_⟩
    cases q : (hideAll s.heap (hid.map (·.1))).get? p.1 with
    | none => rfl
    | some o => have := of_hideAll _ q; rw [(NC p hp).2.2] at this; cases this
  · exact ⟨hk₁ _ _ (N p hp).1, Nat.ne_of_lt (Heap.lt_size (N p hp).1), hideAll_none _ (List.mem_map_of_mem hp)⟩
end
end Mine
end
section
open PySem PySem.W PySem.Calls PyProof.Rows PySem.Spec
namespace Mine
theorem Con.use {w : World} {f : Addr} {hid : List (Addr × Obj)} {vs : List Value} {need : Nat} {R : Heap → Addr → (Str → Option Value) → Shared → (Value → Shared → Prop) → Prop} (C : Con w f hid vs need R)
    {p : Program} {loose : List Str} {mean : ExcName → Option Value} {mg mb : Str → Option Value} {dp un : Nat} {gd : Option (List Code)} {cn : Str} {cs : Scope} {a : Addr} {ccd : Value} {cl : List (Str × Addr)} {outer : List Env} {A₀ : Around} {base h₀ : Heap} {L : Addr} {m : Str → Option Value} {s : Shared} {Q E : Value → Shared → Prop}
    (B : Below A₀ base outer h₀) (F : Fr h₀ L s.heap m) (X : (hd.heap_39 w.params).In h₀) (N : News h₀ L s.heap hid) (T : Top p loose mean mg mb h₀) (hk : cs.kind = .function)
    (hd : dp + need < recursionLimit) (hu : un + 8 * need < cLine) (r : R h₀ L m s Q) :
    wpAny (model PySem.Challenge.rw_np0002_01.row.prog w) (ktrTop dp un gd cn cs L a ccd cl outer) (call (.ref f) vs) Q E s :=
  C p loose mean mg mb dp un gd cn cs a ccd cl outer A₀ base h₀ L m s Q E B F X N T hk hd hu r
theorem retI {h₀ : Heap} {L : Addr} {m : Str → Option Value} {s : Shared} {Q : Value → Shared → Prop} {x y : Int} {t : Tok} {h' : Heap} {tk' : Nat} (hret : RetV (fun t => .int x t) h₀ L m s Q) (k : Kept s.heap h' []) (F : Fr h₀ L h' m) (e : y = x) : Q (.int y t) { s with heap := h', toks := tk' } := by
  subst e; exact hret t h' tk' k F
theorem retT {h₀ : Heap} {L : Addr} {m : Str → Option Value} {s : Shared} {Q : Value → Shared → Prop} {x y : Str} {t : Tok} {h' : Heap} {tk' : Nat} (hret : RetV (fun t => .str x t) h₀ L m s Q) (k : Kept s.heap h' []) (F : Fr h₀ L h' m) (e : y = x) : Q (.str y t) { s with heap := h', toks := tk' } := by
  subst e; exact hret t h' tk' k F
end Mine
end
section
open PySem PySem.W PySem.Calls PyProof.Rows PySem.Spec
set_option maxRecDepth 100000
set_option maxHeartbeats 4000000
namespace Mine
theorem base_of_con (w : World) {n : Int} (t : Tok) (hn : Num n) : Con w 49 [] [.int n t] 1 (RetV (fun t => .int (n % 4194304) t)) := by
  unfold Con
  k_fill
  intro p loose mean mg mb dp un gd cn cs a ccd cl outer A₀ base h₀ L m s Q E B F X N T hk hd hu hret
  refine wpAny_call ?_
  k_dflt (refine' enterP ?k1 ?k2 ?k3 ?k4 ?k5 ?kA ?kF ?kK ?k6 ?k7 ?k8 ?k9 ?kB ?_ ?c2 ?c3 ?c4 ?c5; (case kA => exact rfl); (case kF => exact rfl); (case kK => assumption); (case k1 => k_asm); (case k2 => k_asm); (case k3 => k_asm); (case k4 => k_asm); (case k5 => k_asm); (case k6 => k_is); (case k7 => k_is); (case k8 => ktr_room); (case k9 => exact BindsTo.of_eq rfl); (case c5 => decide); (case kB => exact locs rfl); (case c2 => exact rfl); (case c3 => exact rfl); (case c4 => exact rfl); k_whole; intro g' L' h' kp' sz' FG' F' N' B' X' T'; (try dsimp only); (try k_fold))
  repeat' (first | (k_unfold; (try dsimp only)) | (k_end; wrow_close) | (dsimp only; walk1) | walk1 | (leave1; walk_say "STEP leave1"; try dsimp only) | fail "no step")
  all_goals refine retI hret (Kept.trans kp' (by assumption)) (by assumption) ?_
  all_goals exact base_is hn
end Mine
end
section
open PySem PySem.W PySem.Calls PyProof.Rows PySem.Spec
set_option maxRecDepth 100000
set_option maxHeartbeats 4000000
namespace Mine
theorem bit_of_con (w : World) (x : Str) (t : Tok) : Con w 61 [] [.str x t] 1 (RetV (fun t => .int (bitI x) t)) := by
  unfold Con
  k_fill
  intro p loose mean mg mb dp un gd cn cs a ccd cl outer A₀ base h₀ L m s Q E B F X N T hk hd hu hret
  refine wpAny_call ?_
  k_dflt (refine' enterP ?k1 ?k2 ?k3 ?k4 ?k5 ?kA ?kF ?kK ?k6 ?k7 ?k8 ?k9 ?kB ?_ ?c2 ?c3 ?c4 ?c5; (case kA => exact rfl); (case kF => exact rfl); (case kK => assumption); (case k1 => k_asm); (case k2 => k_asm); (case k3 => k_asm); (case k4 => k_asm); (case k5 => k_asm); (case k6 => k_is); (case k7 => k_is); (case k8 => ktr_room); (case k9 => exact BindsTo.of_eq rfl); (case c5 => decide); (case kB => exact locs rfl); (case c2 => exact rfl); (case c3 => exact rfl); (case c4 => exact rfl); k_whole; intro g' L' h' kp' sz' FG' F' N' B' X' T'; (try dsimp only); (try k_fold))
  repeat' (first | (k_unfold; (try dsimp only)) | (k_end; wrow_close) | (dsimp only; walk1) | walk1 | (leave1; walk_say "STEP leave1"; try dsimp only) | fail "no step")
  all_goals refine retI hret (Kept.trans kp' (by assumption)) (by assumption) ?_
  all_goals rw [← bitF_eq]; unfold bitF
  all_goals (repeat (first | refine ce_f (by assumption) ?_ | refine ce_t (by assumption) ?_))
  all_goals rfl
end Mine
end
section
open PySem PySem.W PySem.Calls PyProof.Rows PySem.Spec PyProof.Rows.LCg
set_option maxRecDepth 100000
set_option maxHeartbeats 4000000
namespace Mine
section
variable {prog : Program} {w : World} {A : Around} {E : Value → Shared → Prop} {s : Shared} {h₀ : Heap} {L : Addr} {m : Str → Option Value} {env : Env}

/-- one turn of a comprehension with a test, told by an invariant -/
def TurnX (prog : Program) (w : World) (A : Around) (h₀ : Heap) (L : Addr) (m : Str → Option Value) (env : Env) (ct elt : PySem.Expr) (scope : Scope) (cl : List (Str × Addr)) (news : List (Addr × Obj)) (T : Nat → (Str → Option Value) → Prop) (J : Nat → List Value → Prop) (i : Nat) (s : Shared) : Prop :=
  ∀ ys I oI C oC D m₂ h tk (E' : Value → Shared → Prop), J i ys → NsObj oC m₂ → T i m₂ → Fr h₀ L h m → News h₀ L h ((I, oI) :: (C, oC) :: (D, lst ys) :: news) → Off3 I C D news → ((@Ne Nat I C) ∧ (@Ne Nat I D) ∧ (@Ne Nat C D)) →
    wpAny (model prog w) A (isTrue ct (compEnvC scope cl C env) (eval ct (compEnvC scope cl C env))) (fun ok s' => if ok = true then
      wpAny (model prog w) A (eval elt (compEnvC scope cl C env)) (CompEnd h₀ L m { s with heap := h, toks := tk } I oI C oC D (lst ys) (fun _ => True) (fun y news' => (∀ p ∈ news, p ∈ news') ∧ J (i + 1) (ys ++ [y]))) E' s'
      else CompEnd h₀ L m { s with heap := h, toks := tk } I oI C oC D (lst ys) (fun _ => True) (fun _ news' => (∀ p ∈ news, p ∈ news') ∧ J (i + 1) ys) Value.none s') E' { s with heap := h, toks := tk }

/-- the target takes the item, and the block's frame then says T -/
def TargetX (prog : Program) (w : World) (A : Around) (h₀ : Heap) (env : Env) (target : PySem.Expr) (scope : Scope) (cl : List (Str × Addr)) (P : Nat → Value → Prop) (T : Nat → (Str → Option Value) → Prop) (i : Nat) (s : Shared) : Prop :=
  ∀ (I C ax : Addr) (v : Value) (h : Heap) (tk : Nat) (m' : Str → Option Value) (Q' : Unit → Shared → Prop) (E' : Value → Shared → Prop), P i v → h.IsTupleIter I ax (i + 1) → (∀ b o, h₀.get? b = some o → h.get? b = some o) → h.Ns C m' →
    (∀ h' tk' m'', h'.Ns C m'' → T i m'' → (∀ b o, b ≠ C → h.get? b = some o → h'.get? b = some o) → Q' () { s with heap := h', toks := tk' }) →
    wpAny (model prog w) A (letOwnedTupleGo target (.ref I) v) (fun _ s' => wpAny (model prog w) A (assign target (compEnvC scope cl C env) v) Q' E' s') E' { s with heap := h, toks := tk }

theorem blockX {target elt iter ct : PySem.Expr} {scope : Scope} {cl : List (Str × Addr)} {pos : Pos} {s₂ : Shared} {I ax : Addr} {its : Array Value} {news : List (Addr × Obj)}
    {T : Nat → (Str → Option Value) → Prop} {J : Nat → List Value → Prop} {RR : Value → Addr → Result → Shared → Prop}
    (hh : A.handled = none) (hne : ax ≠ I) (hsz : its.size ≤ sizeLine) (hcell : ∀ y ∈ scope.names, y.2 ≠ .cell) (hkind : scope.kind = .function)
    (hit : s₂.heap.IsTupleIter I ax 0) (hax : ax < s₂.heap.objs.size) (src : ∀ h, (∀ b o, h₀.get? b = some o → h.get? b = some o) → News h₀ L h news → h.IsTuple ax its)
    (F : Fr h₀ L s₂.heap m) (N : News h₀ L s₂.heap news) (hIL : L ≠ I) (hI₀ : h₀.get? I = none) (off : ∀ p ∈ news, p.1 ≠ I)
    (tgt : ∀ i, i < its.size → TargetX prog w A h₀ env target scope cl (fun i v => its[i]? = some v) T i s₂)
    (J0 : J 0 []) (turn : ∀ i, i < its.size → TurnX prog w A h₀ L m env ct elt scope cl news T J i s₂)
    (hRR : ∀ D C h tk m' ys, Fr h₀ L h m → News h₀ L h ((D, lst ys) :: news) → h.Ns C m' → h₀.get? C = none → h₀.get? D = none → C ≠ L → D ≠ L → C ≠ D → (∀ p ∈ news, p.1 ≠ C) → J its.size ys → s₂.heap.objs.size ≤ D → RR (.ref D) C (.ok .next) { s₂ with heap := h, toks := tk }) :
    wpAny (model prog w) A (newList []) (fun acc s₃ => wpAny (model prog w) A (newFunctionEnv scope env.globals cl [] env.qual none .none (some env)) (fun cenv s₄ =>
      codeAny (model prog w) A (.compStart (.ListComp elt [⟨target, iter, [ct], 0⟩] scope pos) 0 (.ref I) acc { cenv with scope := relabel scope env }) (RR acc cenv.locals) s₄) E s₃) E s₂ := by
  refine wpAny_newObj_type (wpAny_newFunctionEnv hcell (by intro y hy; simp at hy) (fun h₁ hns₁ hsb₁ => ?_) hkind)
  dsimp only at hns₁ hsb₁ ⊢
  generalize hH2 : s₂.heap.push { cls := .type "list", dict := none, data := .seq ([] : List Value).toArray } = H2 at hns₁ hsb₁ ⊢
  have hC : H2.objs.size = s₂.heap.objs.size + 1 := by rw [← hH2, Heap.size_push]
  have hDC : s₂.heap.objs.size ≠ H2.objs.size := by rw [hC]; exact Nat.ne_of_lt (Nat.lt_succ_self _)
  have below : ∀ b, b < s₂.heap.objs.size → b ≠ H2.objs.size ∧ b ≠ s₂.heap.objs.size := fun b hb => ⟨by rw [hC]; exact Nat.ne_of_lt (Nat.lt_succ_of_lt hb), Nat.ne_of_lt hb⟩
  have hIlt : I < s₂.heap.objs.size := by obtain ⟨_, e, _⟩ := hit; exact Heap.lt_size e
  have old : ∀ b o, s₂.heap.get? b = some o → h₁.get? b = some o := fun b o e => hsb₁.extBut b o (below b (Heap.lt_size e)).1 (Heap.get?_push_of_some _ (hH2 ▸ Heap.get?_push_of_some _ e))
  have hacc : h₁.get? s₂.heap.objs.size = some (lst []) := hsb₁.extBut _ _ hDC (Heap.get?_push_of_some _ (hH2 ▸ Heap.get?_push_size _ rfl))
  have fresh : ∀ a, s₂.heap.objs.size ≤ a → s₂.heap.get? a = none := fun a ha => by
    cases e : s₂.heap.get? a with
    | none => rfl
    | some o' => exact absurd (Heap.lt_size e) (Nat.not_lt.mpr ha)
  have fresh₀ : ∀ a, s₂.heap.objs.size ≤ a → h₀.get? a = none := fun a ha => by
    cases e : h₀.get? a with
    | none => rfl
    | some o' => have := F.keep a o' e; rw [fresh a ha] at this; cases this
  have hD₀ : h₀.get? s₂.heap.objs.size = none := fresh₀ _ (Nat.le_refl _)
  have hC₀ : h₀.get? H2.objs.size = none := fresh₀ _ (by rw [hC]; exact Nat.le_succ _)
  have hLlt : L < s₂.heap.objs.size := F.ns.lt
  have hDL : s₂.heap.objs.size ≠ L := Ne.symm (below L hLlt).2
  have hCL : H2.objs.size ≠ L := Ne.symm (below L hLlt).1
  have hCI : I ≠ H2.objs.size := (below I hIlt).1
  have hDI : I ≠ s₂.heap.objs.size := (below I hIlt).2
  have hXC : ax ≠ H2.objs.size := (below ax hax).1
  have off₀ : Off3 I H2.objs.size s₂.heap.objs.size news := Off3.of fun p hp => ⟨off p hp, (below _ (Heap.lt_size (N p hp).1)).1, (below _ (Heap.lt_size (N p hp).1)).2⟩
  have off3 := off₀.mem
  have W := Walks.tuple (prog := prog) (w := w) hh I ax hne its
  have loop : ∀ s₃ : Shared, s₃ = { s₂ with heap := h₁, toks := s₂.toks + ([] : List (Str × Value)).length } →
      codeAny (model prog w) A (.compLoop (.ListComp elt [⟨target, iter, [ct], 0⟩] scope pos) 0 (.ref I) (.ref s₂.heap.objs.size) (compEnvC scope cl H2.objs.size env))
        (RR (.ref s₂.heap.objs.size) H2.objs.size) s₃ := by
    rintro s₃ rfl
    refine kct_loop
      (fun k s' => ∃ h' tk i ys m', s' = { s₂ with heap := h', toks := tk } ∧ i ≤ its.size ∧ k = its.size + 1 - i ∧ ys.length ≤ i ∧ h'.IsTupleIter I ax i ∧ Fr h₀ L h' m ∧ h'.Ns H2.objs.size m' ∧
        News h₀ L h' ((s₂.heap.objs.size, lst ys) :: news) ∧ J i ys) ?_ (its.size + 1)
      ⟨h₁, _, 0, [], _, rfl, Nat.zero_le _, rfl, Nat.le_refl _, hit.at (fun o e => old _ o e), F.keeps old, hns₁, fun p hp => ?_, J0⟩
    · rintro k s' ⟨h', tk, i, ys, m', rfl, hi, rfl, hyl, hit', F', hn', N', hJ⟩
      have Nn : News h₀ L h' news := fun p hp => N' p (List.mem_cons_of_mem _ hp)
      have ht' := src h' F'.keep Nn
      by_cases hlt : i < its.size
      · refine W.item i _ _ _ hlt ⟨hit', ht'⟩ fun v h₂ tk₂ hPv hst₂ hk₂ => ?_
        have hn₂ : h₂.Ns H2.objs.size m' := hn'.at' fun o e => hk₂ _ o (by simpa using Ne.symm hCI) e
        have keep₂ : ∀ b o, h₀.get? b = some o → h₂.get? b = some o := fun b o e => hk₂ b o (fun hm => by rw [List.mem_singleton.mp hm, hI₀] at e; cases e) (F'.keep b o e)
        refine tgt i hlt I H2.objs.size ax v h₂ tk₂ m' _ _ hPv hst₂.1 keep₂ hn₂ fun h₃ tk₃ m₃ hn₃ hT hk₃ => ?_
        have up : ∀ c o, c ≠ I → c ≠ H2.objs.size → h'.get? c = some o → h₃.get? c = some o := fun c o h1 h2 e => hk₃ c o h2 (hk₂ c o (by simpa using h1) e)
        have hit₃ : h₃.IsTupleIter I ax (i + 1) := hst₂.1.at fun o e => hk₃ _ o hCI e
        obtain ⟨oI, heI, hoI⟩ : ∃ oI : Obj, h₃.get? I = some oI ∧ ∀ h : Heap, h.get? I = some oI → h.IsTupleIter I ax (i + 1) := by
          obtain ⟨o, e, r⟩ := hit₃
          exact ⟨o, e, fun h e' => ⟨o, e', r⟩⟩
        obtain ⟨oC, heC, hoC⟩ := ns_obj hn₃
        have F₃ : Fr h₀ L h₃ m := ⟨F'.ns.at' fun o e => up _ o hIL (Ne.symm hCL) e, fun c o e => up c o (fun q => by rw [q, hI₀] at e; cases e) (fun q => by rw [q, hC₀] at e; cases e) (F'.keep c o e), F'.above⟩
        have N₃ : News h₀ L h₃ ((I, oI) :: (H2.objs.size, oC) :: (s₂.heap.objs.size, lst ys) :: news) := fun q hq => by
          rcases List.mem_cons.mp hq with rfl | hq
          · exact ⟨heI, Ne.symm hIL, hI₀⟩
          · rcases List.mem_cons.mp hq with rfl | hq
            · exact ⟨heC, hCL, hC₀⟩
            · have z := N' q hq
              refine ⟨up _ _ ?_ ?_ z.1, z.2⟩
              · rcases List.mem_cons.mp hq with rfl | hq
                · exact Ne.symm hDI
                · exact (off3 q hq).1
              · rcases List.mem_cons.mp hq with rfl | hq
                · exact hDC
                · exact (off3 q hq).2.1
        refine wpAny_mono (turn i hlt ys I oI H2.objs.size oC s₂.heap.objs.size _ h₃ _ _ hJ hoC hT F₃ N₃ off₀ ⟨hCI, hDI, Ne.symm hDC⟩) (fun okb s₅ h₅ => ?_) fun _ _ e => e
        cases okb with
        | false =>
          simp only [Bool.false_eq_true, if_false] at h₅ ⊢
          obtain ⟨h₅, tk₅, news₅, rfl, F₅, N₅, off₅, -, sub₅, J₅⟩ := h₅
          have zI := (N₅ (I, oI) List.mem_cons_self).1
          have zC := (N₅ (H2.objs.size, oC) (List.mem_cons_of_mem _ List.mem_cons_self)).1
          refine ⟨its.size + 1 - (i + 1), by omega, h₅, tk₅, i + 1, ys, _, rfl, hlt, rfl, Nat.le_succ_of_le hyl, hoI h₅ zI, F₅, hoC.ns zC, fun q hq => ?_, J₅⟩
          rcases List.mem_cons.mp hq with rfl | hq
          · exact N₅ _ (List.mem_cons_of_mem _ (List.mem_cons_of_mem _ List.mem_cons_self))
          · exact N₅ q (List.mem_cons_of_mem _ (List.mem_cons_of_mem _ (List.mem_cons_of_mem _ (sub₅ q hq))))
        | true =>
          simp only [if_true] at h₅ ⊢
          refine wpAny_mono h₅ (fun y s₆ h₆ => ?_) fun _ _ e => e
          obtain ⟨h₅, tk₅, news₅, rfl, F₅, N₅, off₅, -, sub₅, J₅⟩ := h₆
          have zI := (N₅ (I, oI) List.mem_cons_self).1
          have zC := (N₅ (H2.objs.size, oC) (List.mem_cons_of_mem _ List.mem_cons_self)).1
          have zD := (N₅ (s₂.heap.objs.size, lst ys) (List.mem_cons_of_mem _ (List.mem_cons_of_mem _ List.mem_cons_self))).1
          refine append_at (hsz := by show ys.toArray.size ≤ sizeLine; rw [List.size_toArray]; exact Nat.le_trans hyl (Nat.le_trans hi hsz)) zD fun h₆ hs₆ hD₆ => ?_
          refine ⟨its.size + 1 - (i + 1), by omega, h₆, _, i + 1, ys ++ [y], _, rfl, hlt, rfl, by rw [List.length_append, List.length_singleton]; exact Nat.succ_le_succ hyl, hoI h₆ (hs₆.extBut I oI hDI zI), F₅.change hs₆ hDL hD₀, (hoC.ns zC).sameBut hs₆ (Ne.symm hDC), fun q hq => ?_, J₅⟩
          rcases List.mem_cons.mp hq with rfl | hq
          · exact ⟨hD₆.trans (congrArg some (lst_snoc ys y)), hDL, hD₀⟩
          · have z := N₅ q (List.mem_cons_of_mem _ (List.mem_cons_of_mem _ (List.mem_cons_of_mem _ (sub₅ q hq))))
            exact ⟨hs₆.extBut _ _ (off3 q hq).2.2 z.1, z.2⟩
      · obtain rfl : i = its.size := Nat.le_antisymm hi (Nat.not_lt.mp hlt)
        refine W.done _ _ _ ⟨hit', ht'⟩ fun h₂ tk₂ hk₂ => ?_
        exact hRR _ _ h₂ tk₂ _ ys (fr_but F' hk₂ hIL hI₀) (news_but N' hk₂ fun p hp => by
          rcases List.mem_cons.mp hp with rfl | hp
          · exact Ne.symm hDI
          · exact (off3 p hp).1) (hn'.at' fun o e => hk₂ _ o (by simpa using Ne.symm hCI) e) hC₀ hD₀ hCL hDL (Ne.symm hDC) (fun p hp => (off3 p hp).2.1) hJ (Nat.le_refl _)
    · rcases List.mem_cons.mp hp with rfl | hp
      · exact ⟨hacc, hDL, hD₀⟩
      · exact ⟨old _ _ (N p hp).1, (N p hp).2⟩
  exact codeAny_compStart_list (loop _ rfl) (W.self 0 _ _ _ ⟨hit.at (fun o e => old _ o e), (src s₂.heap F.keep N).at fun o e => old _ o e⟩ (loop _ rfl))

def SrcX (prog : Program) (w : World) (A : Around) (h₀ : Heap) (L : Addr) (m : Str → Option Value) (env : Env) (target ct elt : PySem.Expr) (scope : Scope) (cl : List (Str × Addr)) (Q : Value → Shared → Prop) (xv : Value) (s₁ : Shared) : Prop :=
  ∃ (ax : Addr) (its : Array Value) (news : List (Addr × Obj)) (T : Nat → (Str → Option Value) → Prop) (J : Nat → List Value → Prop), xv = .ref ax ∧ A.handled = none ∧ its.size ≤ sizeLine ∧ Fr h₀ L s₁.heap m ∧ News h₀ L s₁.heap news ∧
    (∀ h, (∀ b o, h₀.get? b = some o → h.get? b = some o) → News h₀ L h news → h.IsTuple ax its) ∧
    (∀ i, i < its.size → ∀ s₂ : Shared, TargetX prog w A h₀ env target scope cl (fun i v => its[i]? = some v) T i s₂) ∧ J 0 [] ∧
    (∀ i, i < its.size → ∀ h tk, TurnX prog w A h₀ L m env ct elt scope cl news T J i { s₁ with heap := h, toks := tk }) ∧
    ∀ D ys h tk, Fr h₀ L h m → News h₀ L h ((D, lst ys) :: news) → J its.size ys → s₁.heap.objs.size ≤ D → Q (.ref D) { s₁ with heap := h, toks := tk }

theorem ListComp_X {target elt iter ct : PySem.Expr} {scope : Scope} {cl : List (Str × Addr)} {pos : Pos} {Q : Value → Shared → Prop} (_F₀ : Fr h₀ L s.heap m)
    (hclos : closureFor scope env = pure cl) (hcell : ∀ y ∈ scope.names, y.2 ≠ .cell) (hkind : scope.kind = .function)
    (hnames : ∀ y ∈ scope.names, y.2 = .local → scope.names.lookup y.1 = some .local)
    (h : wpAny (model prog w) A (eval iter env) (SrcX prog w A h₀ L m env target ct elt scope cl Q) E s)
    (hs : ∀ x, foldedSetIterable iter env x = pure x := by intro _; rfl) :
    wpAny (model prog w) A (eval (.ListComp elt [⟨target, iter, [ct], 0⟩] scope pos) env) Q E s := by
  rw [eval_ListComp]
  refine wpAny_comprehension_free (use := none) rfl hs hclos hkind hnames (wpAny_mono h (fun xv s₁ h₁ => ?_) fun _ _ e => e)
  obtain ⟨ax, its, news, T, J, rfl, hh, hsz, F, N, src, tgt, J0, turn, fin⟩ := h₁
  have hl := src s₁.heap F.keep N
  have hlt : ax < s₁.heap.objs.size := by obtain ⟨_, e, _⟩ := hl; exact Heap.lt_size e
  refine wpAny_pyIter_tuple hl ?_
  have up : ∀ b o, s₁.heap.get? b = some o → (s₁.heap.push { cls := .type "tuple_iterator", data := .fields #[.ref ax, .int 0 0] }).get? b = some o := fun b o e => Heap.get?_push_of_some _ e
  refine blockX (its := its) (T := T) (J := J) hh (Nat.ne_of_lt hlt) hsz hcell hkind ⟨_, Heap.get?_push_size _ rfl, rfl, rfl⟩ (by show ax < (s₁.heap.push _).objs.size; rw [Heap.size_push]; exact Nat.lt_succ_of_lt hlt) src
    (F.push _) (N.grown up) (Nat.ne_of_lt F.ns.lt) (next_is_new F) (fun p hp => Nat.ne_of_lt (Heap.lt_size (N p hp).1)) (fun i hi => tgt i hi _) J0 (fun i hi => turn i hi _ s₁.toks) ?_
  intro D C h tk m' ys F' N' hn hC₀ hD₀ hCL hDL hCD offC hJ hsD
  refine ⟨m', hn, fun h'' hs'' => fin D ys h'' tk (F'.change hs'' hCL hC₀) (fun p hp => ?_) hJ ?_⟩
  · refine ⟨hs''.extBut _ _ ?_ (N' p hp).1, (N' p hp).2⟩
    rcases List.mem_cons.mp hp with rfl | hp
    · exact Ne.symm hCD
    · exact offC p hp
  · have : s₁.heap.objs.size + 1 ≤ D := by
      have z : (s₁.heap.push { cls := .type "tuple_iterator", data := .fields #[.ref ax, .int 0 0] }).objs.size = s₁.heap.objs.size + 1 := Heap.size_push ..
      rw [← z]; exact hsD
    exact Nat.le_of_succ_le this

/-- a plain name takes the item -/
theorem target_name {x : Str} {px : Pos} {scope : Scope} {cl : List (Str × Addr)} {P : Nat → Value → Prop} {T : Nat → (Str → Option Value) → Prop} {i : Nat} (hkind : scope.kind = .function) (hx : scope.names.lookup x = some .local)
    (hT : ∀ v m', P i v → m' x = some v → T i m') : TargetX prog w A h₀ env (.Name x px) scope cl P T i s := by
  intro I C ax v h tk m' Q' E' hP hit hk hn hQ
  refine wpAny_pure (wpAny_assign_Name (wpAny_storeName_local (lookup_relabel_local hx) hn (fun h₃ hn₃ hs₃ => ?_) (by simp [compEnvC, relabel, hkind])))
  exact hQ h₃ _ _ hn₃ (hT v _ hP (by simp)) fun b o hb e => hs₃.extBut b o hb e
/-- a pair of names takes a pair of the ground's -/
theorem target_pair {a b : Str} {pa pb tp : Pos} {kk : Nat} {scope : Scope} {cl : List (Str × Addr)} {P : Nat → Value → Prop} {T : Nat → (Str → Option Value) → Prop} {i : Nat} (hh : A.handled = none) (hkind : scope.kind = .function) (ha : scope.names.lookup a = some .local) (hb : scope.names.lookup b = some .local) (hab : ¬ a = b)
    (hP : ∀ v, P i v → ∃ t v₁ v₂, v = .ref t ∧ IsTup h₀ t #[v₁, v₂] ∧ ∀ m' : Str → Option Value, m' a = some v₁ → m' b = some v₂ → T i m') :
    TargetX prog w A h₀ env (.Tuple [.Name a pa, .Name b pb] kk tp) scope cl P T i s := by
  intro I C ax v h tk m' Q' E' hPv hit hk hn hQ
  obtain ⟨t, v₁, v₂, rfl, ht₀, hT⟩ := hP v hPv
  have ht : IsTup h t #[v₁, v₂] := ht₀.keeps hk
  refine letGo_tupleiter hit ?_
  refine assign_Tuple_tuple hh ht rfl rfl fun h₅ he => ?_
  have he' : ∀ b o, h.get? b = some o → h₅.get? b = some o := fun b o e => he b o (Nat.ne_of_lt (Heap.lt_size e)) e
  refine assignInOrder_cons (wpAny_assign_Name (wpAny_storeName_local (lookup_relabel_local ha) (hn.at' fun o e => he' _ o e) (fun h₆ hn₆ hs₆ => ?_) (by simp [compEnvC, relabel, hkind])))
  refine assignInOrder_cons (wpAny_assign_Name (wpAny_storeName_local (lookup_relabel_local hb) hn₆ (fun h₃ hn₃ hs₃ => ?_) (by simp [compEnvC, relabel, hkind])))
  refine assignInOrder_nil ?_
  exact hQ h₃ _ _ hn₃ (hT _ (by simp [hab]) (by simp)) fun b o hb e => hs₃.extBut b o hb (hs₆.extBut b o hb (he' b o e))
end
end Mine
end
section
open PySem PySem.W PySem.Calls PyProof.Rows PySem.Spec PyProof.Rows.LCg
set_option maxRecDepth 100000
namespace Mine
theorem tab21 {w : World} {h : Heap} (X : (hd.heap_39 w.params).In h) : IsTup h 21 #[.ref 15, .ref 16, .ref 17, .ref 18, .ref 19, .ref 20] :=
  tupK (l := [.ref 15, .ref 16, .ref 17, .ref 18, .ref 19, .ref 20]) (n := 0) (dd := none) (sl := #[]) X (by kernel_rfl)
theorem tab15 {w : World} {h : Heap} (X : (hd.heap_39 w.params).In h) : IsTup h 15 #[.str (Str.ofString "A") 213, .int 4194304 191] :=
  tupK (l := [.str (Str.ofString "A") 213, .int 4194304 191]) (n := 0) (dd := none) (sl := #[]) X (by kernel_rfl)
theorem tab16 {w : World} {h : Heap} (X : (hd.heap_39 w.params).In h) : IsTup h 16 #[.str (Str.ofString "C") 214, .int 67108864 207] :=
  tupK (l := [.str (Str.ofString "C") 214, .int 67108864 207]) (n := 0) (dd := none) (sl := #[]) X (by kernel_rfl)
theorem tab17 {w : World} {h : Heap} (X : (hd.heap_39 w.params).In h) : IsTup h 17 #[.str (Str.ofString "H") 215, .int 16777216 199] :=
  tupK (l := [.str (Str.ofString "H") 215, .int 16777216 199]) (n := 0) (dd := none) (sl := #[]) X (by kernel_rfl)
theorem tab18 {w : World} {h : Heap} (X : (hd.heap_39 w.params).In h) : IsTup h 18 #[.str (Str.ofString "M") 216, .int 134217728 211] :=
  tupK (l := [.str (Str.ofString "M") 216, .int 134217728 211]) (n := 0) (dd := none) (sl := #[]) X (by kernel_rfl)
theorem tab19 {w : World} {h : Heap} (X : (hd.heap_39 w.params).In h) : IsTup h 19 #[.str (Str.ofString "S") 217, .int 33554432 203] :=
  tupK (l := [.str (Str.ofString "S") 217, .int 33554432 203]) (n := 0) (dd := none) (sl := #[]) X (by kernel_rfl)
theorem tab20 {w : World} {h : Heap} (X : (hd.heap_39 w.params).In h) : IsTup h 20 #[.str (Str.ofString "s") 218, .int 8388608 195] :=
  tupK (l := [.str (Str.ofString "s") 218, .int 8388608 195]) (n := 0) (dd := none) (sl := #[]) X (by kernel_rfl)

/-- what a turn over MODIFIERS knows of its two names -/
def ModT (i : Nat) (m' : Str → Option Value) : Prop := ∃ x t u, six[i]? = some x ∧ m' (Str.ofString "letter") = some (.str x t) ∧ m' (Str.ofString "bit") = some (.int (bitI x) u)
theorem mod_at {w : World} {h : Heap} (X : (hd.heap_39 w.params).In h) : ∀ (i : Nat) (v : Value), (#[.ref 15, .ref 16, .ref 17, .ref 18, .ref 19, .ref 20] : Array Value)[i]? = some v →
    ∃ t v₁ v₂, v = .ref t ∧ IsTup h t #[v₁, v₂] ∧ ∀ m' : Str → Option Value, m' (Str.ofString "letter") = some v₁ → m' (Str.ofString "bit") = some v₂ → ModT i m'
  | 0, _, e => ⟨15, _, _, (Option.some.inj e).symm, tab15 X, fun _ a b => ⟨_, _, _, rfl, a, b.trans (by rw [bitI_A])⟩⟩
  | 1, _, e => ⟨16, _, _, (Option.some.inj e).symm, tab16 X, fun _ a b => ⟨_, _, _, rfl, a, b.trans (by rw [bitI_C])⟩⟩
  | 2, _, e => ⟨17, _, _, (Option.some.inj e).symm, tab17 X, fun _ a b => ⟨_, _, _, rfl, a, b.trans (by rw [bitI_H])⟩⟩
  | 3, _, e => ⟨18, _, _, (Option.some.inj e).symm, tab18 X, fun _ a b => ⟨_, _, _, rfl, a, b.trans (by rw [bitI_M])⟩⟩
  | 4, _, e => ⟨19, _, _, (Option.some.inj e).symm, tab19 X, fun _ a b => ⟨_, _, _, rfl, a, b.trans (by rw [bitI_S])⟩⟩
  | 5, _, e => ⟨20, _, _, (Option.some.inj e).symm, tab20 X, fun _ a b => ⟨_, _, _, rfl, a, b.trans (by rw [bitI_s])⟩⟩
  | i + 6, _, e => by simp at e

/-- the list so far: those of the first i letters that p takes -/
def FltJ (p : Str → Bool) (i : Nat) (ys : List Value) : Prop := StrsAre ys ((six.take i).filter p)
theorem flt_yes {p : Str → Bool} {i : Nat} {x : Str} {t : Tok} {ys : List Value} (h : FltJ p i ys) (e : six[i]? = some x) (hp : p x = true) : FltJ p (i + 1) (ys ++ [.str x t]) := by
  unfold FltJ at *
  rw [List.take_add_one, e, List.filter_append]
  show StrsAre _ (List.filter p (List.take i six) ++ List.filter p [x])
  rw [List.filter_cons_of_pos hp]
  exact StrsAre.append' h (.cons x t .nil)
theorem flt_no {p : Str → Bool} {i : Nat} {x : Str} {ys : List Value} (h : FltJ p i ys) (e : six[i]? = some x) (hp : p x = false) : FltJ p (i + 1) ys := by
  unfold FltJ at *
  rw [List.take_add_one, e, List.filter_append]
  show StrsAre _ (List.filter p (List.take i six) ++ List.filter p [x])
  rw [List.filter_cons_of_neg (by simp [hp])]
  simpa using h
theorem flt_end {p : Str → Bool} {ys : List Value} (h : FltJ p 6 ys) : StrsAre ys (six.filter p) := h
theorem six_mem {i : Nat} {x : Str} (e : six[i]? = some x) : x ∈ six := List.mem_of_getElem? e
theorem and_has {n : Int} (hn : Num n) {x : Str} (hx : x ∈ six) : Builtin.bitAnd n (bitI x) = if hasI n x = true then bitI x else 0 := by
  unfold hasI
  simp only [decide_eq_true_eq]
  rcases six_cases hx with rfl | rfl | rfl | rfl | rfl | rfl
  · rw [bitI_A]; exact and_22 hn.1
  · rw [bitI_C]; exact and_26 hn.1
  · rw [bitI_H]; exact and_24 hn.1
  · rw [bitI_M]; exact and_27 hn.1
  · rw [bitI_S]; exact and_25 hn.1
  · rw [bitI_s]; exact and_23 hn.1
theorem bit_pos {x : Str} (hx : x ∈ six) : 0 < bitI x := by
  rcases six_cases hx with rfl | rfl | rfl | rfl | rfl | rfl
  · rw [bitI_A]; decide
  · rw [bitI_C]; decide
  · rw [bitI_H]; decide
  · rw [bitI_M]; decide
  · rw [bitI_S]; decide
  · rw [bitI_s]; decide
theorem has_of_ne {n : Int} (hn : Num n) {i : Nat} {x : Str} (e : six[i]? = some x) (h : ¬ Builtin.bitAnd n (bitI x) = 0) : hasI n x = true := by
  rw [and_has hn (six_mem e)] at h
  by_cases q : hasI n x = true
  · exact q
  · rw [if_neg q] at h; exact absurd rfl h
theorem has_of_eq {n : Int} (hn : Num n) {i : Nat} {x : Str} (e : six[i]? = some x) (h : Builtin.bitAnd n (bitI x) = 0) : hasI n x = false := by
  rw [and_has hn (six_mem e)] at h
  by_cases q : hasI n x = true
  · rw [if_pos q] at h; have := bit_pos (six_mem e); omega
  · simpa using q
theorem retS {h₀ : Heap} {L : Addr} {m : Str → Option Value} {s : Shared} {Q : Value → Shared → Prop} {ss : List Str} {D : Addr} {ys : List Value} {c : Nat} {h' : Heap} {tk' : Nat} {news : List (Addr × Obj)} (hret : RetS ss h₀ L m s Q) (k : Kept s.heap h' []) (F : Fr h₀ L h' m) (N : News h₀ L h' news) (hm : (D, PySem.W.listOf ys.toArray c) ∈ news) (hD : s.heap.objs.size ≤ D) (e : StrsAre ys ss) : Q (.ref D) { s with heap := h', toks := tk' } :=
  hret D ys c h' tk' k F (fun p hp => by rw [List.mem_singleton.mp hp]; exact N _ hm) hD e
end Mine
end
section
open PySem PySem.W PySem.Calls PyProof.Rows PySem.Spec PyProof.Rows.LCg
set_option maxRecDepth 100000
set_option maxHeartbeats 4000000
namespace Mine
theorem Fr.know {h₀ h : Heap} {L : Addr} {m : Str → Option Value} {x : Str} {v : Value} (F : Fr h₀ L h m) (e : m x = some v) : Fr h₀ L h (fun y => if y = x then some v else m y) := by
  have q : (fun y => if y = x then some v else m y) = m := by
    funext y
    by_cases h : y = x
    · rw [if_pos h, h, e]
    · rw [if_neg h]
  rw [q]; exact F
section
variable {prog : Program} {w : World} {A : Around} {E : Value → Shared → Prop} {s : Shared} {h₀ : Heap} {env : Env} {Q : Flow → Shared → Prop} {x : Str} {body : List Stmt}

def StepW (h₀ : Heap) (L I : Addr) (oI : Obj) (kp : List (Addr × Obj)) (J : (Str → Option Value) → List (Addr × Obj) → Drawn → Prop) (s₂ : Shared) (Q : Flow → Shared → Prop) (f : Flow) (s' : Shared) : Prop :=
  match f with
  | .ret v => Q (.ret v) s'
  | .brk => Q .next s'
  | _ => s'.gens = s₂.gens ∧ s'.os = s₂.os ∧ ∃ m₂ news₂, Fr h₀ L s'.heap m₂ ∧ News h₀ L s'.heap ((I, oI) :: (kp ++ news₂)) ∧ (∀ p ∈ news₂, p.1 ≠ I) ∧ J m₂ news₂ s'.drawn
theorem StepW.next {L I : Addr} {oI : Obj} {kp : List (Addr × Obj)} {J : (Str → Option Value) → List (Addr × Obj) → Drawn → Prop} {s₂ s' : Shared} {m₂ : Str → Option Value} {news₂ all : List (Addr × Obj)} (g : s'.gens = s₂.gens) (o : s'.os = s₂.os) (F : Fr h₀ L s'.heap m₂) (N : News h₀ L s'.heap all)
    (sub : ∀ p ∈ (I, oI) :: (kp ++ news₂), p ∈ all) (off : ∀ p ∈ news₂, p.1 ≠ I) (j : J m₂ news₂ s'.drawn) : StepW h₀ L I oI kp J s₂ Q .next s' := ⟨g, o, m₂, news₂, F, fun p hp => N p (sub p hp), off, j⟩

/-- a loop over an iterator, by an invariant over the frame's names and the ledger; what is drawn may change -/
def LoopW (prog : Program) (w : World) (A : Around) (h₀ : Heap) (env : Env) (x : Str) (body : List Stmt) (Q : Flow → Shared → Prop) (E : Value → Shared → Prop) (it : Value) (s₂ : Shared) : Prop :=
  ∃ (I : Addr) (fp : List Addr) (n : Nat) (P : Nat → Value → Prop) (St : Nat → Heap → Prop) (m : Str → Option Value) (kp news : List (Addr × Obj)) (J : Nat → (Str → Option Value) → List (Addr × Obj) → Drawn → Prop),
    it = .ref I ∧ Walks prog w A I fp [I] n P St ∧ env.locals ∉ fp ∧ h₀.get? I = none ∧ (∀ i h, St i h → ∃ o, h.get? I = some o) ∧
    (∀ i h h' o, St i h → h.get? I = some o → h'.get? I = some o → (∀ b o, h₀.get? b = some o → h'.get? b = some o) → News h₀ env.locals h' kp → St i h') ∧
    (∀ p ∈ kp ++ news, p.1 ≠ I) ∧ St 0 s₂.heap ∧ Fr h₀ env.locals s₂.heap m ∧ News h₀ env.locals s₂.heap (kp ++ news) ∧ J 0 m news s₂.drawn ∧
    (∀ i v m₁ news₁ oI s', i < n → P i v → J i m₁ news₁ s'.drawn → s'.gens = s₂.gens → s'.os = s₂.os → (∀ p ∈ news₁, p.1 ≠ I) → Fr h₀ env.locals s'.heap (fun y => if y = x then some v else m₁ y) → News h₀ env.locals s'.heap ((I, oI) :: (kp ++ news₁)) →
      wpAny (model prog w) A (execs body env) (StepW h₀ env.locals I oI kp (J (i + 1)) s₂ Q) E s') ∧
    ∀ s' m' news', s'.gens = s₂.gens → s'.os = s₂.os → Fr h₀ env.locals s'.heap m' → News h₀ env.locals s'.heap (kp ++ news') → J n m' news' s'.drawn → Q .next s'

theorem For_W {px pos : Pos} {iter : PySem.Expr} {m₀ : Str → Option Value} (_F : Fr h₀ env.locals s.heap m₀) (hx : env.kindOf x = some .local)
    (hp : (env.scope.kind == .class || (env.scope.kind == .module && env.locals != env.globals)) = false)
    (h : wpAny (model prog w) A (eval iter env) (fun xv s₁ => wpAny (model prog w) A (pyIter xv) (fun it s₂ => LoopW prog w A h₀ env x body Q E it s₂) E s₁) E s)
    (hs : ∀ x, foldedSetIterable iter env x = pure x := by intro _; rfl)
    (hE : PassesOwn (model prog w) A env E := by passes_own) :
    wpAny (model prog w) A (exec (.For (.Name x px) iter body [] pos) env) Q E s := by
  refine wpAny_For (wpAny_mono h (fun xv s₁ h₁ => wpAny_mono h₁ (fun it s₂ h₂ => ?_) fun _ _ e => e) fun _ _ e => e) hs
  obtain ⟨I, fp, n, P, St, m, kp, news, J, rfl, W, hLf, hI₀, hIo, hSt, hoff, hst, F, N, h0, step, hQ⟩ := h₂
  have hIf : I ∈ fp := W.sub I (List.mem_singleton.mpr rfl)
  have hLI : env.locals ≠ I := fun e => hLf (e ▸ hIf)
  refine codeAny_forLoop_any (R := fun r s' => match r with | .ok f => Q f s' | .error e => cameBackBy (model prog w) A env E e s')
    (fun k s' => ∃ i m' news', s'.gens = s₂.gens ∧ s'.os = s₂.os ∧ St i s'.heap ∧ Fr h₀ env.locals s'.heap m' ∧ News h₀ env.locals s'.heap (kp ++ news') ∧ (∀ p ∈ kp ++ news', p.1 ≠ I) ∧ J i m' news' s'.drawn ∧ i ≤ n ∧ k = n + 1 - i) ?_ (n + 1)
    ⟨0, m, news, rfl, rfl, hst, F, N, hoff, h0, Nat.zero_le _, rfl⟩
  rintro k s' ⟨i, m', news', hg, ho, hst', F', N', hoff', hJ, hi, rfl⟩
  have next : ∀ h₁ : Heap, (∀ b o, b ∉ [I] → s'.heap.get? b = some o → h₁.get? b = some o) → Fr h₀ env.locals h₁ m' ∧ News h₀ env.locals h₁ (kp ++ news') := fun h₁ hk₁ =>
    ⟨fr_but F' hk₁ hLI hI₀, news_but N' hk₁ hoff'⟩
  by_cases hlt : i < n
  · refine W.item i _ _ _ hlt hst' fun v h₁ tk₁ hP hst₁ hk₁ => ?_
    obtain ⟨F₁, N₁⟩ := next h₁ hk₁
    refine wpAny_pure ?_
    refine wpAny_assign_Name (wpAny_storeName_local hx F₁.ns (fun h₂ hn₂ hs₂ => ?_) hp)
    have F₂ := F₁.set hn₂ hs₂
    have hst₂ : St (i + 1) h₂ := W.frame _ _ _ hst₁ fun b hb o e => hs₂.extBut b o (fun q => hLf (q ▸ hb)) e
    obtain ⟨oI, heI⟩ := hIo _ _ hst₂
    have N₂ : News h₀ env.locals h₂ ((I, oI) :: (kp ++ news')) := fun p hp => by
      rcases List.mem_cons.mp hp with rfl | hp
      · exact ⟨heI, Ne.symm hLI, hI₀⟩
      · exact ⟨hs₂.extBut _ _ (N₁ p hp).2.1 (N₁ p hp).1, (N₁ p hp).2⟩
    have z := step i v m' news' oI { s' with heap := h₂, toks := tk₁ + 1 } hlt hP hJ hg ho (fun p hp => hoff' p (List.mem_append_right _ hp)) F₂ N₂
    refine wpAny_mono (wpAny_passesOwn hE z) (fun f s₃ h₃ => ?_) fun _ _ e => e
    have fin : StepW h₀ env.locals I oI kp (J (i + 1)) s₂ Q .next s₃ → ∃ k, k < n + 1 - i ∧ ∃ i m' news', s₃.gens = s₂.gens ∧ s₃.os = s₂.os ∧ St i s₃.heap ∧ Fr h₀ env.locals s₃.heap m' ∧ News h₀ env.locals s₃.heap (kp ++ news') ∧ (∀ p ∈ kp ++ news', p.1 ≠ I) ∧ J i m' news' s₃.drawn ∧ i ≤ n ∧ k = n + 1 - i := by
      rintro ⟨g₃, o₃, m₃, news₃, F₃, N₃, off₃, J₃⟩
      have Nk : News h₀ env.locals s₃.heap (kp ++ news₃) := fun p hp => N₃ p (List.mem_cons_of_mem _ hp)
      refine ⟨n + 1 - (i + 1), by omega, i + 1, m₃, news₃, g₃, o₃, hSt _ _ _ _ hst₂ heI (N₃ _ List.mem_cons_self).1 F₃.keep (fun p hp => Nk p (List.mem_append_left _ hp)), F₃, Nk, fun p hp => ?_, J₃, hlt, rfl⟩
      rcases List.mem_append.mp hp with hp | hp
      · exact hoff' p (List.mem_append_left _ hp)
      · exact off₃ p hp
    cases f with
    | ret v => exact h₃
    | brk => exact h₃
    | next => exact fin h₃
    | cont => exact fin h₃
  · have hin : i = n := by omega
    subst hin
    refine W.done _ _ _ hst' fun h₁ tk₁ hk₁ => wpAny_execs_nil ?_
    obtain ⟨F₁, N₁⟩ := next h₁ hk₁
    exact hQ _ m' news' hg ho F₁ N₁ hJ

/-- over a list of the ledger's -/
theorem LoopW.list {l : Addr} {vs : List Value} {c : Nat} {m : Str → Option Value} {news : List (Addr × Obj)} {s₁ : Shared} (J : Nat → (Str → Option Value) → List (Addr × Obj) → Drawn → Prop)
    (hh : A.handled = none) (F : Fr h₀ env.locals s₁.heap m) (N : News h₀ env.locals s₁.heap ((l, PySem.W.listOf vs.toArray c) :: news)) (h0 : J 0 m news s₁.drawn)
    (step : ∀ I i v m₁ news₁ oI s', vs[i]? = some v → J i m₁ news₁ s'.drawn → s'.gens = s₁.gens → s'.os = s₁.os → (∀ p ∈ (l, PySem.W.listOf vs.toArray c) :: news, p.1 < I) → (∀ p ∈ news₁, p.1 ≠ I) → Fr h₀ env.locals s'.heap (fun y => if y = x then some v else m₁ y) → News h₀ env.locals s'.heap ((I, oI) :: (l, PySem.W.listOf vs.toArray c) :: news₁) →
      wpAny (model prog w) A (execs body env) (StepW h₀ env.locals I oI [(l, PySem.W.listOf vs.toArray c)] (J (i + 1)) s₁ Q) E s')
    (fin : ∀ s' m' news', s'.gens = s₁.gens → s'.os = s₁.os → Fr h₀ env.locals s'.heap m' → News h₀ env.locals s'.heap ((l, PySem.W.listOf vs.toArray c) :: news') → J vs.length m' news' s'.drawn → Q .next s') :
    wpAny (model prog w) A (pyIter (.ref l)) (fun it s₂ => LoopW prog w A h₀ env x body Q E it s₂) E s₁ := by
  have hl := (N _ List.mem_cons_self)
  have hls : s₁.heap.IsList l vs.toArray := ⟨_, hl.1, rfl, c, rfl⟩
  have hlt : l < s₁.heap.objs.size := Heap.lt_size hl.1
  have hne : l ≠ s₁.heap.objs.size := Nat.ne_of_lt hlt
  have lt : ∀ p ∈ (l, PySem.W.listOf vs.toArray c) :: news, p.1 < s₁.heap.objs.size := fun p hp => Heap.lt_size (N p hp).1
  refine wpAny_pyIter_list hls ?_
  have W : Walks prog w A s₁.heap.objs.size [s₁.heap.objs.size, l] [s₁.heap.objs.size] vs.length (fun i v => vs[i]? = some v) (fun i h => h.IsListIter s₁.heap.objs.size l i ∧ h.IsList l vs.toArray) := by
    have W := Walks.list (prog := prog) (w := w) hh s₁.heap.objs.size l hne vs.toArray
    simpa using W
  refine ⟨_, _, vs.length, _, _, m, [(l, PySem.W.listOf vs.toArray c)], news, J, rfl, W, ?_, next_is_new F, ?_, ?_, fun p hp => Nat.ne_of_lt (lt p hp), ⟨⟨_, Heap.get?_push_size _ rfl, rfl, rfl⟩, hls.at fun o e => Heap.get?_push_of_some _ e⟩, F.push _, (fun p hp => ⟨Heap.get?_push_of_some _ (N p hp).1, (N p hp).2⟩), h0, ?_, ?_⟩
  · intro hm
    rcases List.mem_cons.mp hm with e | hm
    · exact absurd F.ns.lt (e ▸ Nat.lt_irrefl _)
    · exact hl.2.1 (List.mem_singleton.mp hm).symm
  · rintro i h ⟨⟨o, e, _⟩, _⟩; exact ⟨o, e⟩
  · rintro i h h' o ⟨⟨o', e, r⟩, _⟩ e1 e2 _ Nk
    rw [e] at e1; cases e1
    exact ⟨⟨_, e2, r⟩, ⟨_, (Nk _ List.mem_cons_self).1, rfl, c, rfl⟩⟩
  · intro i v m₁ news₁ oI s' hi hP hJ hg ho hoff F₁ N₁
    exact step _ i v m₁ news₁ oI s' hP hJ hg ho lt hoff F₁ N₁
  · intro s' m' news' hg ho F₁ N₁ hJ
    exact fin s' m' news' hg ho F₁ N₁ hJ

/-- over a range of the ledger's, counted up by ones from nought -/
theorem LoopW.range {r : Addr} {b : Int} {t u v : Tok} {n : Nat} {m : Str → Option Value} {news : List (Addr × Obj)} {s₁ : Shared} (J : Nat → (Str → Option Value) → List (Addr × Obj) → Drawn → Prop)
    (hh : A.handled = none) (F : Fr h₀ env.locals s₁.heap m) (N : News h₀ env.locals s₁.heap news) (hr : IsRange s₁.heap r 0 b 1 t u v) (hsm : Builtin.Range.small 0 b 1 = true) (hn : Builtin.Range.rangeSize 0 b 1 = ((n : Nat) : Int)) (h0 : J 0 m news s₁.drawn)
    (step : ∀ I i (t : Tok) m₁ news₁ oI s', i < n → J i m₁ news₁ s'.drawn → s'.gens = s₁.gens → s'.os = s₁.os → (∀ p ∈ news, p.1 < I) → (∀ p ∈ news₁, p.1 ≠ I) → Fr h₀ env.locals s'.heap (fun y => if y = x then some (.int ((i : Nat) : Int) t) else m₁ y) → News h₀ env.locals s'.heap ((I, oI) :: news₁) →
      wpAny (model prog w) A (execs body env) (StepW h₀ env.locals I oI [] (J (i + 1)) s₁ Q) E s')
    (fin : ∀ s' m' news', s'.gens = s₁.gens → s'.os = s₁.os → Fr h₀ env.locals s'.heap m' → News h₀ env.locals s'.heap news' → J n m' news' s'.drawn → Q .next s') :
    wpAny (model prog w) A (pyIter (.ref r)) (fun it s₂ => LoopW prog w A h₀ env x body Q E it s₂) E s₁ := by
  have lt : ∀ p ∈ news, p.1 < s₁.heap.objs.size := fun p hp => Heap.lt_size (N p hp).1
  refine wpAny_pyIter_range hr hsm ?_
  refine ⟨_, _, n, _, _, m, [], news, J, rfl, range_walks hh 0 n, ?_, next_is_new F, ?_, ?_, fun p hp => Nat.ne_of_lt (lt p hp), ?_, F.push _, (fun p hp => ⟨Heap.get?_push_of_some _ (N p hp).1, (N p hp).2⟩), h0, ?_, ?_⟩
  · intro hm
    exact absurd F.ns.lt ((List.mem_singleton.mp hm) ▸ Nat.lt_irrefl _)
  · intro i h st; exact ⟨_, st⟩
  · intro i h h' o st e1 e2 _ _
    have st' : h.get? s₁.heap.objs.size = some _ := st
    show h'.get? s₁.heap.objs.size = some _
    rw [e2, ← e1]; exact st'
  · show IsRangeIter _ _ _ _ _
    rw [hn]
    simpa using Heap.get?_push_size _ rfl
  · intro i v m₁ news₁ oI s' hi hP hJ hg ho hoff F₁ N₁
    obtain ⟨t, rfl⟩ := hP
    rw [Int.zero_add] at F₁
    exact step _ i t m₁ news₁ oI s' hi hJ hg ho lt hoff F₁ N₁
  · intro s' m' news' hg ho F₁ N₁ hJ
    exact fin s' m' news' hg ho F₁ N₁ hJ
end
end Mine
end
section
open PySem PySem.W PySem.Calls PyProof.Rows PySem.Spec
set_option maxRecDepth 100000
namespace Mine
/-- the ledger holds the pairs r, at the addresses vs -/
def TabN (news : List (Addr × Obj)) : List Value → List (Str × Int) → Prop
  | [], [] => True
  | v :: vs, p :: r => (∃ t u u', v = .ref t ∧ (t, { cls := .type "tuple", data := .seq #[.str p.1 u, .int p.2 u'] }) ∈ news) ∧ TabN news vs r
  | _, _ => False
section
variable {prog : Program} {w : World} {A : Around} {E : Value → Shared → Prop} {h₀ : Heap} {env : Env} {Q : Flow → Shared → Prop} {target : Expr} {body : List Stmt} {s : Shared}
def TabP (h₀ : Heap) (L I : Addr) (oI : Obj) (kp : List (Addr × Obj)) (J : (Str → Option Value) → Prop) (s₁ : Shared) (Q : Flow → Shared → Prop) (f : Flow) (s' : Shared) : Prop :=
  match f with
  | .ret v => Q (.ret v) s'
  | .brk => Q .next s'
  | _ => ∃ h' tk m', s' = { s₁ with heap := h', toks := tk } ∧ Fr h₀ L h' m' ∧ News h₀ L h' ((I, oI) :: kp) ∧ J m'
theorem TabP.next {L I : Addr} {oI : Obj} {kp all : List (Addr × Obj)} {J : (Str → Option Value) → Prop} {s₁ : Shared} {h' : Heap} {tk : Nat} {m' : Str → Option Value} (F : Fr h₀ L h' m') (N : News h₀ L h' all) (sub : ∀ p ∈ (I, oI) :: kp, p ∈ all) (j : J m') : TabP h₀ L I oI kp J s₁ Q .next { s₁ with heap := h', toks := tk } :=
  ⟨h', tk, m', rfl, F, fun p hp => N p (sub p hp), j⟩
theorem tab_rest {I : Addr} {kp keep : List (Addr × Obj)} {J : List (Str × Int) → (Str → Option Value) → Prop} (lt : ∀ p ∈ kp, p.1 ≠ I) (hk : SubL keep kp)
    (z : ∀ h tk m, J [] m → Fr h₀ env.locals h m → News h₀ env.locals h kp → Q .next { s with heap := h, toks := tk })
    (c : ∀ x n r m oI t u u' h tk, J ((x, n) :: r) m → Fr h₀ env.locals h m → News h₀ env.locals h ((t, { cls := .type "tuple", data := .seq #[.str x u, .int n u'] }) :: (I, oI) :: kp) →
      wpAny (model prog w) A (assign target env (.ref t)) (fun _ s₂ => wpAny (model prog w) A (execs body env) (TabP h₀ env.locals I oI kp (J r) { s with heap := h, toks := tk } Q) E s₂) E { s with heap := h, toks := tk }) :
    ∀ (vs : List Value) (r : List (Str × Int)) (m : Str → Option Value), TabN kp vs r → J r m → ItemsRest prog w A E h₀ env target body Q s [(I, "tuple_iterator")] keep (vs.map .val) m kp
  | [], [], m, _, hJ => ItemsRest.zero fun h tk F N => z h tk m hJ F N
  | v :: vs, (x, n) :: r, m, hT, hJ => by
    obtain ⟨⟨t, u, u', rfl, hm⟩, hT⟩ := hT
    refine ItemsRest.val fun h tk F oI _ N => ?_
    refine wpAny_mono (c x n r m oI t u u' h tk hJ F fun p hp => ?_) (fun _ s₂ h₂ => wpAny_mono h₂ (fun f s₃ h₃ => ?_) fun _ _ e => e) fun _ _ e => e
    · rcases List.mem_cons.mp hp with rfl | hp
      · exact N _ (List.mem_cons_of_mem _ hm)
      · exact N p hp
    · have fin : TabP h₀ env.locals I oI kp (J r) { s with heap := h, toks := tk } Q .next s₃ → UnrEndW h₀ env.locals { s with heap := h, toks := tk } [(I, oI)] (fun m' n' => SubL keep n' ∧ ItemsRest prog w A E h₀ env target body Q s [(I, "tuple_iterator")] keep (vs.map .val) m' n') s₃ := by
        rintro ⟨h', tk', m', rfl, F', N', hJ'⟩
        exact ⟨h', tk', m', kp, rfl, F', N', fun p hp q hq => by rw [List.mem_singleton.mp hq]; exact lt p hp, hk, tab_rest lt hk z c vs r m' hT hJ'⟩
      cases f with
      | ret v => exact h₃
      | brk => exact h₃
      | next => exact fin h₃
      | cont => exact fin h₃
  | [], _ :: _, _, hT, _ => hT.elim
  | _ :: _, [], _, hT, _ => hT.elim
theorem TabN.more {news : List (Addr × Obj)} {q : Addr × Obj} : ∀ {vs : List Value} {r : List (Str × Int)}, TabN news vs r → TabN (q :: news) vs r
  | [], [], _ => trivial
  | _ :: _, _ :: _, ⟨⟨t, u, u', e, hm⟩, hT⟩ => ⟨⟨t, u, u', e, List.mem_cons_of_mem _ hm⟩, hT.more⟩
/-- a loop over a tuple of pairs that the ledger holds, by an invariant over what is left and the frame's names -/
theorem tab_items {D : Addr} {vs : List Value} {news : List (Addr × Obj)} {r : List (Str × Int)} {m : Str → Option Value} (J : List (Str × Int) → (Str → Option Value) → Prop)
    (hh : A.handled = none) (F : Fr h₀ env.locals s.heap m) (N : News h₀ env.locals s.heap ((D, { cls := .type "tuple", data := .seq vs.toArray }) :: news)) (hT : TabN news vs r) (hJ : J r m)
    (z : ∀ h tk m, J [] m → Fr h₀ env.locals h m → News h₀ env.locals h ((D, { cls := .type "tuple", data := .seq vs.toArray }) :: news) → Q .next { s with heap := h, toks := tk })
    (c : ∀ x n r m I oI t u u' h tk, J ((x, n) :: r) m → Fr h₀ env.locals h m → News h₀ env.locals h ((t, { cls := .type "tuple", data := .seq #[.str x u, .int n u'] }) :: (I, oI) :: (D, { cls := .type "tuple", data := .seq vs.toArray }) :: news) →
      wpAny (model prog w) A (assign target env (.ref t)) (fun _ s₂ => wpAny (model prog w) A (execs body env) (TabP h₀ env.locals I oI ((D, { cls := .type "tuple", data := .seq vs.toArray }) :: news) (J r) { s with heap := h, toks := tk } Q) E s₂) E { s with heap := h, toks := tk }) :
    wpAny (model prog w) A (pyIter (.ref D)) (fun it s₂ => TurnsAt prog w A h₀ env target body Q E it s₂) E s := by
  refine iter_tupTurns hh F N List.mem_cons_self rfl rfl fun I lt => ?_
  exact tab_rest (keep := [(D, { cls := .type "tuple", data := .seq vs.toArray })]) (fun p hp => Nat.ne_of_lt (lt p hp)) (And.intro List.mem_cons_self trivial) z (fun x n r m oI t u u' h tk => c x n r m I oI t u u' h tk) vs r m hT.more hJ
end
end Mine
end
section
open PySem PySem.W PySem.Calls PyProof.Rows PySem.Spec
set_option maxRecDepth 100000
set_option maxHeartbeats 4000000
namespace Mine
def names7 : List (Str × Int) := [(Str.ofString "NUL", 0), (Str.ofString "TAB", 9), (Str.ofString "LFD", 10), (Str.ofString "RET", 13), (Str.ofString "ESC", 27), (Str.ofString "SPC", 32), (Str.ofString "DEL", 127)]
/-- an answer that is a new tuple of the names' pairs -/
abbrev RetN : Heap → Addr → (Str → Option Value) → Shared → (Value → Shared → Prop) → Prop := fun h₀ L m s Q =>
  ∀ (D : Addr) (vs : List Value) (news : List (Addr × Obj)) (h' : Heap) (tk' : Nat), Kept s.heap h' [] → Fr h₀ L h' m → News h₀ L h' ((D, { cls := .type "tuple", data := .seq vs.toArray }) :: news) → TabN news vs names7 → Q (.ref D) { s with heap := h', toks := tk' }
theorem names_con (w : World) : Con w 28 [] [] 1 RetN := by
  unfold Con
  k_fill
  intro p loose mean mg mb dp un gd cn cs a ccd cl outer A₀ base h₀ L m s Q E B F X N T hk hd hu hret
  refine wpAny_call ?_
  k_dflt (refine' enterP ?k1 ?k2 ?k3 ?k4 ?k5 ?kA ?kF ?kK ?k6 ?k7 ?k8 ?k9 ?kB ?_ ?c2 ?c3 ?c4 ?c5; (case kA => exact rfl); (case kF => exact rfl); (case kK => assumption); (case k1 => k_asm); (case k2 => k_asm); (case k3 => k_asm); (case k4 => k_asm); (case k5 => k_asm); (case k6 => k_is); (case k7 => k_is); (case k8 => ktr_room); (case k9 => exact BindsTo.of_eq rfl); (case c5 => decide); (case kB => exact locs rfl); (case c2 => exact rfl); (case c3 => exact rfl); (case c4 => exact rfl); k_whole; intro g' L' h' kp' sz' FG' F' N' B' X' T'; (try dsimp only); (try k_fold))
  repeat' (first | (k_unfold; (try dsimp only)) | (k_end; wrow_close) | (dsimp only; walk1) | walk1 | (leave1; walk_say "STEP leave1"; try dsimp only) | fail "no step")
  refine hret _ _ _ _ _ (Kept.trans kp' (by assumption)) (by assumption) (by assumption) ?_
  repeat (refine ⟨⟨_, _, _, rfl, by k_mem⟩, ?_⟩)
  exact trivial
end Mine
end
section
open PySem PySem.W PySem.Calls PyProof.Rows PySem.Spec
set_option maxRecDepth 100000
set_option maxHeartbeats 4000000
namespace Mine
def codeL : List (Str × Int) → Str → Int
  | [], _ => -1
  | p :: r, x => bif p.1 == x then p.2 else codeL r x
theorem code_of_name_con (w : World) (x : Str) (t : Tok) : Con w 35 [] [.str x t] 2 (RetV (fun t => .int (codeF x) t)) := by
  unfold Con
  k_fill
  intro p loose mean mg mb dp un gd cn cs a ccd cl outer A₀ base h₀ L m s Q E B F X N T hk hd hu hret
  refine wpAny_call ?_
  k_dflt (refine' enterP ?k1 ?k2 ?k3 ?k4 ?k5 ?kA ?kF ?kK ?k6 ?k7 ?k8 ?k9 ?kB ?_ ?c2 ?c3 ?c4 ?c5; (case kA => exact rfl); (case kF => exact rfl); (case kK => assumption); (case k1 => k_asm); (case k2 => k_asm); (case k3 => k_asm); (case k4 => k_asm); (case k5 => k_asm); (case k6 => k_is); (case k7 => k_is); (case k8 => ktr_room); (case k9 => exact BindsTo.of_eq rfl); (case c5 => decide); (case kB => exact locs rfl); (case c2 => exact rfl); (case c3 => exact rfl); (case c4 => exact rfl); k_whole; intro g' L' h' kp' sz' FG' F' N' B' X' T'; (try dsimp only); (try k_fold))
  obtain ⟨M, hM, F'⟩ : ∃ M : Str → Option Value, M (Str.ofString "name") = some (.str x t) ∧ Fr g' L' h' M := ⟨_, rfl, F'⟩
  repeat' ((fail_if_success (with_reducible show wpAny _ _ (exec (Stmt.For _ _ _ _ _) _) _ _ _)); first | (k_unfold; (try dsimp only)) | (k_end; wrow_close) | (dsimp only; walk1) | walk1 | (leave1; walk_say "STEP leave1"; try dsimp only) | fail "no step")
  (rename Fr _ _ _ _ => lF')
  k_dflt (refine' For_turns lF' ?fh (fun _ => rfl))
  k_whole
  repeat' ((fail_if_success (with_reducible show wpAny _ _ (call (Value.ref 28) _) _ _ _)); first | (k_unfold; (try dsimp only)) | (k_end; wrow_close) | (dsimp only; walk1) | walk1 | (leave1; walk_say "STEP leave1"; try dsimp only) | fail "no step")
  k_dflt (refine' Con.use (names_con _) ?k1 ?k2 ?k3 ?k4 ?k5 ?kK ?kd ?ku ?_; (case k1 => k_asm); (case k2 => k_asm); (case k3 => k_asm); (case k4 => exact News.nil); (case k5 => k_asm); (case kK => first | assumption | exact rfl); (case kd => ktr_room); (case ku => ktr_units))
  intro D9 vs9 news9 h9 tk9 kp9 F9 N9 hT9
  (try dsimp only)
  refine tab_items (fun r m => m (Str.ofString "name") = some (.str x t) ∧ codeL r x = codeF x) rfl F9 N9 hT9 ⟨hM, rfl⟩ ?z ?c
  case z =>
    clear F9 N9
    intro h8 tk8 m8 hJ F8 N8
    clear hM
    repeat' (first | (k_unfold; (try dsimp only)) | (k_end; wrow_close) | (dsimp only; walk1) | walk1 | (leave1; walk_say "STEP leave1"; try dsimp only) | fail "no step")
    exact retI hret (Kept.trans kp' (by assumption)) (by assumption) hJ.2
  case c =>
    clear F9 N9 hM
    intro x8 n8 r8 m8 I8 oI8 t8 u8 v8 h8 tk8 hJ F8 N8
    obtain ⟨hm8, hc8⟩ := hJ
    replace F8 := Fr.know F8 hm8
    repeat' (first | (k_unfold; (try dsimp only)) | (k_end; wrow_close) | (dsimp only; walk1) | walk1 | (leave1; walk_say "STEP leave1"; try dsimp only) | fail "no step")
    · show qk (.ret _) _
      repeat' (first | (k_unfold; (try dsimp only)) | (k_end; wrow_close) | (dsimp only; walk1) | walk1 | (leave1; walk_say "STEP leave1"; try dsimp only) | fail "no step")
      exact retI hret (Kept.trans kp' (by assumption)) (by assumption) ((ce_t (by assumption) rfl).trans hc8)
    · refine TabP.next (by assumption) (by assumption) (fun _ => List.mem_cons_of_mem _) ⟨?_, (ce_f (by assumption) rfl).trans hc8⟩
      exact (if_neg (by decide +kernel)).trans ((if_neg (by decide +kernel)).trans (if_pos rfl))
end Mine
end
section
open PySem PySem.W PySem.Calls PyProof.Rows PySem.Spec
set_option maxRecDepth 100000
set_option maxHeartbeats 4000000
namespace Mine
def nameL : List (Str × Int) → Int → Str
  | [], _ => Str.ofString ""
  | p :: r, x => if p.2 = x then p.1 else nameL r x
theorem name_of_code_con (w : World) (n : Int) (t : Tok) : Con w 42 [] [.int n t] 2 (RetV (fun t => .str (nameF n) t)) := by
  unfold Con
  k_fill
  intro p loose mean mg mb dp un gd cn cs a ccd cl outer A₀ base h₀ L m s Q E B F X N T hk hd hu hret
  refine wpAny_call ?_
  k_dflt (refine' enterP ?k1 ?k2 ?k3 ?k4 ?k5 ?kA ?kF ?kK ?k6 ?k7 ?k8 ?k9 ?kB ?_ ?c2 ?c3 ?c4 ?c5; (case kA => exact rfl); (case kF => exact rfl); (case kK => assumption); (case k1 => k_asm); (case k2 => k_asm); (case k3 => k_asm); (case k4 => k_asm); (case k5 => k_asm); (case k6 => k_is); (case k7 => k_is); (case k8 => ktr_room); (case k9 => exact BindsTo.of_eq rfl); (case c5 => decide); (case kB => exact locs rfl); (case c2 => exact rfl); (case c3 => exact rfl); (case c4 => exact rfl); k_whole; intro g' L' h' kp' sz' FG' F' N' B' X' T'; (try dsimp only); (try k_fold))
  obtain ⟨M, hM, F'⟩ : ∃ M : Str → Option Value, M (Str.ofString "code") = some (.int n t) ∧ Fr g' L' h' M := ⟨_, rfl, F'⟩
  repeat' ((fail_if_success (with_reducible show wpAny _ _ (exec (Stmt.For _ _ _ _ _) _) _ _ _)); first | (k_unfold; (try dsimp only)) | (k_end; wrow_close) | (dsimp only; walk1) | walk1 | (leave1; walk_say "STEP leave1"; try dsimp only) | fail "no step")
  (rename Fr _ _ _ _ => lF')
  k_dflt (refine' For_turns lF' ?fh (fun _ => rfl))
  k_whole
  repeat' ((fail_if_success (with_reducible show wpAny _ _ (call (Value.ref 28) _) _ _ _)); first | (k_unfold; (try dsimp only)) | (k_end; wrow_close) | (dsimp only; walk1) | walk1 | (leave1; walk_say "STEP leave1"; try dsimp only) | fail "no step")
  k_dflt (refine' Con.use (names_con _) ?k1 ?k2 ?k3 ?k4 ?k5 ?kK ?kd ?ku ?_; (case k1 => k_asm); (case k2 => k_asm); (case k3 => k_asm); (case k4 => exact News.nil); (case k5 => k_asm); (case kK => first | assumption | exact rfl); (case kd => ktr_room); (case ku => ktr_units))
  intro D9 vs9 news9 h9 tk9 kp9 F9 N9 hT9
  (try dsimp only)
  refine tab_items (fun r m => m (Str.ofString "code") = some (.int n t) ∧ nameL r n = nameF n) rfl F9 N9 hT9 ⟨hM, rfl⟩ ?z ?c
  case z =>
    clear F9 N9
    intro h8 tk8 m8 hJ F8 N8
    clear hM
    repeat' (first | (k_unfold; (try dsimp only)) | (k_end; wrow_close) | (dsimp only; walk1) | walk1 | (leave1; walk_say "STEP leave1"; try dsimp only) | fail "no step")
    exact retT hret (Kept.trans kp' (by assumption)) (by assumption) hJ.2
  case c =>
    clear F9 N9 hM
    intro x8 n8 r8 m8 I8 oI8 t8 u8 v8 h8 tk8 hJ F8 N8
    obtain ⟨hm8, hc8⟩ := hJ
    replace F8 := Fr.know F8 hm8
    repeat' (first | (k_unfold; (try dsimp only)) | (k_end; wrow_close) | (dsimp only; walk1) | walk1 | (leave1; walk_say "STEP leave1"; try dsimp only) | fail "no step")
    · show qk (.ret _) _
      repeat' (first | (k_unfold; (try dsimp only)) | (k_end; wrow_close) | (dsimp only; walk1) | walk1 | (leave1; walk_say "STEP leave1"; try dsimp only) | fail "no step")
      exact retT hret (Kept.trans kp' (by assumption)) (by assumption) ((ie_t (by assumption) rfl).trans hc8)
    · refine TabP.next (by assumption) (by assumption) (fun _ => List.mem_cons_of_mem _) ⟨?_, (ie_f (by assumption) rfl).trans hc8⟩
      exact (if_neg (by decide +kernel)).trans ((if_neg (by decide +kernel)).trans (if_pos rfl))
end Mine
end
section
open PySem PySem.W PySem.Calls PyProof.Rows PySem.Spec
set_option maxRecDepth 100000
set_option maxHeartbeats 4000000
namespace Mine
theorem with_control_con (w : World) {n : Int} (t : Tok) (hn : Num n) : Con w 68 [] [.int n t] 1 (RetV (fun t => .int (ctlI n) t)) := by
  unfold Con
  k_fill
  intro p loose mean mg mb dp un gd cn cs a ccd cl outer A₀ base h₀ L m s Q E B F X N T hk hd hu hret
  refine wpAny_call ?_
  k_dflt (refine' enterP ?k1 ?k2 ?k3 ?k4 ?k5 ?kA ?kF ?kK ?k6 ?k7 ?k8 ?k9 ?kB ?_ ?c2 ?c3 ?c4 ?c5; (case kA => exact rfl); (case kF => exact rfl); (case kK => assumption); (case k1 => k_asm); (case k2 => k_asm); (case k3 => k_asm); (case k4 => k_asm); (case k5 => k_asm); (case k6 => k_is); (case k7 => k_is); (case k8 => ktr_room); (case k9 => exact BindsTo.of_eq rfl); (case c5 => decide); (case kB => exact locs rfl); (case c2 => exact rfl); (case c3 => exact rfl); (case c4 => exact rfl); k_whole; intro g' L' h' kp' sz' FG' F' N' B' X' T'; (try dsimp only); (try k_fold))
  repeat' (first | (k_unfold; (try dsimp only)) | (k_end; wrow_close) | (dsimp only; walk1) | walk1 | (leave1; walk_say "STEP leave1"; try dsimp only) | fail "no step")
  all_goals refine retI hret (Kept.trans kp' (by assumption)) (by assumption) ?_
  all_goals first | exact ctl_63 hn (by omega) | exact ctl_low hn (by omega) | exact ctl_else hn (by omega) (by omega)
end Mine
end
section
open PySem PySem.W PySem.Calls PyProof.Rows PySem.Spec
set_option maxRecDepth 100000
set_option maxHeartbeats 4000000
namespace Mine
local macro_rules | `(tactic| walk_at "call ref") => `(tactic| (k_here; (with_reducible show wpAny _ _ (call (Value.ref 68) _) _ _ _); k_dflt (refine' Con.use (with_control_con _ _ (by assumption)) ?k1 ?k2 ?k3 ?k4 ?k5 ?kK ?kd ?ku ?_; (case k1 => k_asm); (case k2 => k_asm); (case k3 => k_asm); (case k4 => exact News.nil); (case k5 => k_asm); (case kK => first | assumption | exact rfl); (case kd => ktr_room); (case ku => ktr_units)); (rename News _ _ _ _ => lN'); intro t9 h9 tk9 kp9 F9; (have N9 := Kept.news kp9 lN'); clear lN' kp9; (try dsimp only)))
local macro_rules | `(tactic| walk_at "call ref") => `(tactic| (k_here; (with_reducible show wpAny _ _ (call (Value.ref 61) _) _ _ _); k_dflt (refine' Con.use (bit_of_con _ _ _) ?k1 ?k2 ?k3 ?k4 ?k5 ?kK ?kd ?ku ?_; (case k1 => k_asm); (case k2 => k_asm); (case k3 => k_asm); (case k4 => exact News.nil); (case k5 => k_asm); (case kK => first | assumption | exact rfl); (case kd => ktr_room); (case ku => ktr_units)); (rename News _ _ _ _ => lN'); intro t9 h9 tk9 kp9 F9; (have N9 := Kept.news kp9 lN'); clear lN' kp9; (try dsimp only)))
theorem with_modifier_con (w : World) {x : Str} {n : Int} (t u : Tok) (hx : x ∈ six) (hn : Num n) : Con w 75 [] [.str x t, .int n u] 2 (RetV (fun t => .int (putI x n) t)) := by
  unfold Con
  k_fill
  intro p loose mean mg mb dp un gd cn cs a ccd cl outer A₀ base h₀ L m s Q E B F X N T hk hd hu hret
  refine wpAny_call ?_
  k_dflt (refine' enterP ?k1 ?k2 ?k3 ?k4 ?k5 ?kA ?kF ?kK ?k6 ?k7 ?k8 ?k9 ?kB ?_ ?c2 ?c3 ?c4 ?c5; (case kA => exact rfl); (case kF => exact rfl); (case kK => assumption); (case k1 => k_asm); (case k2 => k_asm); (case k3 => k_asm); (case k4 => k_asm); (case k5 => k_asm); (case k6 => k_is); (case k7 => k_is); (case k8 => ktr_room); (case k9 => exact BindsTo.of_eq rfl); (case c5 => decide); (case kB => exact locs rfl); (case c2 => exact rfl); (case c3 => exact rfl); (case c4 => exact rfl); k_whole; intro g' L' h' kp' sz' FG' F' N' B' X' T'; (try dsimp only); (try k_fold))
  repeat' (first | (k_unfold; (try dsimp only)) | (k_end; wrow_close) | (dsimp only; walk1) | walk1 | (leave1; walk_say "STEP leave1"; try dsimp only) | fail "no step")
  all_goals refine retI hret (Kept.trans kp' (by assumption)) (by assumption) ?_
  all_goals (have z := str_beq x (PySem.Str.ofString "C"))
  · rw [(by assumption : (x == PySem.Str.ofString "C") = true)] at z; rw [← of_decide_eq_true z.symm, putI_C]
  · rw [(by assumption : (x == PySem.Str.ofString "C") = false)] at z; exact or_put hx (fun e => of_decide_eq_false z.symm e.symm) hn
end Mine
end
section
open PySem PySem.W PySem.Calls PyProof.Rows PySem.Spec
set_option maxRecDepth 100000
set_option maxHeartbeats 4000000
namespace Mine
theorem look_join {M : Model} {A : Around} {t : Sem Value} {Q : Value → Shared → Prop} {E : Value → Shared → Prop} {s : Shared} (x : Str) (h : wpAny M A t (fun v s' => ∃ (k : Int) (u : Tok) (tk : Nat), v = .int k u ∧ s' = { s with toks := tk } ∧ (2 : Int) ^ Int.toNat k = bitI x ∧ 0 ≤ k ∧ k < 28) E s) (r : ∀ (k : Int) (u : Tok) (tk : Nat), (2 : Int) ^ Int.toNat k = bitI x → 0 ≤ k → k < 28 → Q (.int k u) { s with toks := tk }) : wpAny M A t Q E s :=
  wpAny_mono h (fun _ _ ⟨k, u, tk, e1, e2, e3, e4, e5⟩ => by subst e1; subst e2; exact r k u tk e3 e4 e5) fun _ _ e => e
end Mine
end
section
open PySem PySem.W PySem.Calls PyProof.Rows PySem.Spec
set_option maxRecDepth 100000
set_option maxHeartbeats 4000000
namespace Mine
theorem two22 : (2 : Int) ^ Int.toNat 22 = 4194304 := by decide
theorem p_hi {n : Int} (_h : Num n) : n.fdiv (2 ^ Int.toNat 22) * 2 ^ Int.toNat 22 = n / 4194304 * 4194304 := by
  rw [two22, Int.fdiv_eq_ediv_of_nonneg _ (by decide)]
theorem p_lo {n : Int} (h : Num n) : n - n.fdiv (2 ^ Int.toNat 22) * 2 ^ Int.toNat 22 = n % 4194304 := by
  rw [p_hi h]; omega
theorem p_r {n : Int} (h : Num n) : (n - n.fdiv (2 ^ Int.toNat 22) * 2 ^ Int.toNat 22).fmod 32 = n % 4194304 % 32 := by
  rw [p_lo h, Int.fmod_eq_emod_of_nonneg _ (by decide)]
theorem p_b {n : Int} (k : Nat) (b : Int) (hb : (2 : Int) ^ k = b) (h0 : 0 < b) (_h : Num n) : (n.fdiv (2 ^ k)).fmod 2 = n / b % 2 := by
  rw [hb, Int.fdiv_eq_ediv_of_nonneg _ (by omega), Int.fmod_eq_emod_of_nonneg _ (by decide)]
theorem put_con (w : World) {x : Str} {n : Int} (u t : Tok) (hx : x ∈ six) (hn : Num n) : Con w 113 [] [.str x u, .int n t] 1 (RetV (fun t => .int (putI x n) t)) := by
  unfold Con
  k_fill
  intro p loose mean mg mb dp un gd cn cs a ccd cl outer A₀ base h₀ L m s Q E B F X N T hk hd hu hret
  refine wpAny_call ?_
  k_dflt (refine' enterP ?k1 ?k2 ?k3 ?k4 ?k5 ?kA ?kF ?kK ?k6 ?k7 ?k8 ?k9 ?kB ?_ ?c2 ?c3 ?c4 ?c5; (case kA => exact rfl); (case kF => exact rfl); (case kK => assumption); (case k1 => k_asm); (case k2 => k_asm); (case k3 => k_asm); (case k4 => k_asm); (case k5 => k_asm); (case k6 => k_is); (case k7 => k_is); (case k8 => ktr_room); (case k9 => exact BindsTo.of_eq rfl); (case c5 => decide); (case kB => exact locs rfl); (case c2 => exact rfl); (case c3 => exact rfl); (case c4 => exact rfl); k_whole; intro g' L' h' kp' sz' FG' F' N' B' X' T'; (try dsimp only); (try k_fold))
  repeat' ((fail_if_success (with_reducible show wpAny _ _ (subscriptTail _ _ (Value.ref _) (Value.str _ _)) _ _ _)); (first | (k_unfold; (try dsimp only)) | (k_end; wrow_close) | ((with_reducible show wpAny _ _ (subscriptTail _ (PySem.Expr.Slice _ _ _ _) _ _) _ _ _); walk1) | (dsimp only; walk1) | walk1 | (leave1; walk_say "STEP leave1"; try dsimp only) | fail "no step"))
  (try dsimp only)
  refine look_join x ?look ?rest
  case look =>
    rcases six_cases hx with hx | hx | hx | hx | hx | hx <;> subst hx
    · walk1
      first | (walk1; exact ⟨_, _, _, rfl, rfl, by rw [bitI_A]; decide, by decide, by decide⟩) | (walk1; walk1; exact ⟨_, _, _, rfl, rfl, by rw [bitI_A]; decide, by decide, by decide⟩) | skip
      try exact ⟨_, _, _, rfl, rfl, by rw [bitI_A]; decide, by decide, by decide⟩
    · walk1
      first | (walk1; exact ⟨_, _, _, rfl, rfl, by rw [bitI_C]; decide, by decide, by decide⟩) | (walk1; walk1; exact ⟨_, _, _, rfl, rfl, by rw [bitI_C]; decide, by decide, by decide⟩) | skip
      try exact ⟨_, _, _, rfl, rfl, by rw [bitI_C]; decide, by decide, by decide⟩
    · walk1
      first | (walk1; exact ⟨_, _, _, rfl, rfl, by rw [bitI_H]; decide, by decide, by decide⟩) | (walk1; walk1; exact ⟨_, _, _, rfl, rfl, by rw [bitI_H]; decide, by decide, by decide⟩) | skip
      try exact ⟨_, _, _, rfl, rfl, by rw [bitI_H]; decide, by decide, by decide⟩
    · walk1
      first | (walk1; exact ⟨_, _, _, rfl, rfl, by rw [bitI_M]; decide, by decide, by decide⟩) | (walk1; walk1; exact ⟨_, _, _, rfl, rfl, by rw [bitI_M]; decide, by decide, by decide⟩) | skip
      try exact ⟨_, _, _, rfl, rfl, by rw [bitI_M]; decide, by decide, by decide⟩
    · walk1
      first | (walk1; exact ⟨_, _, _, rfl, rfl, by rw [bitI_S]; decide, by decide, by decide⟩) | (walk1; walk1; exact ⟨_, _, _, rfl, rfl, by rw [bitI_S]; decide, by decide, by decide⟩) | skip
      try exact ⟨_, _, _, rfl, rfl, by rw [bitI_S]; decide, by decide, by decide⟩
    · walk1
      first | (walk1; exact ⟨_, _, _, rfl, rfl, by rw [bitI_s]; decide, by decide, by decide⟩) | (walk1; walk1; exact ⟨_, _, _, rfl, rfl, by rw [bitI_s]; decide, by decide, by decide⟩) | skip
      try exact ⟨_, _, _, rfl, rfl, by rw [bitI_s]; decide, by decide, by decide⟩
  case rest =>
    intro k9 t9 tk9 hk9 hk0 hk1
    have hpos9 : (2 : Int) ^ Int.toNat k9 ≠ 0 := by rw [hk9]; have := bit_pos hx; omega
    (try dsimp only)
    repeat' (first | (k_unfold; (try dsimp only)) | (k_end; wrow_close) | ((with_reducible show wpAny _ _ (subscriptTail _ (PySem.Expr.Slice _ _ _ _) _ _) _ _ _); walk1) | (dsimp only; walk1) | walk1 | (leave1; walk_say "STEP leave1"; try dsimp only) | fail "no step")
    all_goals refine retI hret (Kept.trans kp' (by assumption)) (by assumption) ?_
    all_goals (have q1 := p_hi hn; have q2 := p_lo hn; have q3 := p_r hn; have q4 := p_b (Int.toNat k9) (bitI x) hk9 (bit_pos hx) hn; have z := str_beq x (PySem.Str.ofString "C"))
    all_goals first
      | (have hC : x = PySem.Str.ofString "C" := (of_decide_eq_true ((by assumption : (x == PySem.Str.ofString "C") = true) ▸ z).symm).symm
         subst hC
         have q5 := bitI_C
         rw [putI_C]; unfold ctlI addI; rw [q5] at q4 hk9; (repeat' split) <;> omega)
      | (have hC : ¬ x = PySem.Str.ofString "C" := fun e => of_decide_eq_false ((by assumption : (x == PySem.Str.ofString "C") = false) ▸ z).symm e.symm
         rw [putI_of hC]; unfold addI; (repeat' split) <;> omega)
end Mine
end
section
open PySem PySem.W PySem.Calls PyProof.Rows PySem.Spec
set_option maxRecDepth 100000
set_option maxHeartbeats 4000000
namespace Mine
local macro_rules | `(tactic| walk_at "eval ListComp") => `(tactic| (k_here; k_dflt (refine ListComp_X (by k_asm) (by with_unfolding_all rfl) (by decide) (by rfl) (by decide) ?_)))
theorem letters_of_con (w : World) {n : Int} (t : Tok) (hn : Num n) : Con w 54 [] [.int n t] 1 (RetS (lettersI n)) := by
  unfold Con
  k_fill
  intro p loose mean mg mb dp un gd cn cs a ccd cl outer A₀ base h₀ L m s Q E B F X N T hk hd hu hret
  refine wpAny_call ?_
  k_dflt (refine' enterC ?k1 ?k2 ?k3 ?k4 ?k5 ?kA ?kF ?kK ?k6 ?k7 ?k8 ?k9 ?kB ?kD ?_ ?c2 ?c3 ?c4; (case kA => exact rfl); (case kF => exact rfl); (case kK => assumption); (case k1 => k_asm); (case k2 => k_asm); (case k3 => k_asm); (case k4 => k_asm); (case k5 => k_asm); (case k6 => k_is); (case k7 => k_is); (case k8 => ktr_room); (case k9 => exact BindsTo.of_eq rfl); (case kB => exact rfl); (case kD => decide +kernel); (case c2 => exact rfl); (case c3 => exact rfl); (case c4 => exact rfl); k_whole; intro g' L' h' tk' cells' kp' sz' FG' F' N' Y' B' X' T' l1; (try k_lt l1); k_cells Y'; (try simp only [List.cons_append, List.nil_append] at N'); (try dsimp only); (try k_fold))
  repeat' (first | (k_unfold; (try dsimp only)) | (k_end; wrow_close) | (dsimp only; walk1) | walk1 | (leave1; walk_say "STEP leave1"; try dsimp only) | fail "no step")
  have hsz9 : s.heap.objs.size ≤ h'.objs.size := by have a := F'.above; have b := F'.ns.lt; rw [← sz']; exact Nat.le_of_lt (Nat.lt_of_le_of_lt a b)
  (rename Fr _ _ _ _ => lF'); (rename News _ _ _ _ => lN')
  refine ⟨21, #[.ref 15, .ref 16, .ref 17, .ref 18, .ref 19, .ref 20], _, ModT, FltJ (hasI n), rfl, rfl, by decide, lF', lN', fun h k _ => (tab21 X').keeps k, fun i hi s₂ => target_pair rfl rfl rfl rfl (by decide) (mod_at X' i), StrsAre.nil, ?turn, ?fin⟩
  case turn =>
    clear lF' lN'
    intro i hi h2 tk2 ys I oI C oC D m2 h3 tk3 E2 hJ hC hT F3 N3 off ne3
    obtain ⟨x1, t1, u1, e1, hx1, hx2⟩ := hT
    simp only [LCg.Off3, and_true] at off
    repeat' (first | (k_unfold; (try dsimp only)) | (k_end; wrow_close) | (dsimp only; walk1) | walk1 | (leave1; walk_say "STEP leave1"; try dsimp only) | fail "no step")
    all_goals first
      | assumption
      | exact flt_yes hJ e1 (has_of_ne hn e1 (by assumption))
      | exact flt_no hJ e1 (has_of_eq hn e1 (by assumption))
  case fin =>
    clear lF' lN'
    intro D ys h2 tk2 F2 N2 hJ hD
    repeat' (first | (k_unfold; (try dsimp only)) | (k_end; wrow_close) | (dsimp only; walk1) | walk1 | (leave1; walk_say "STEP leave1"; try dsimp only) | fail "no step")
    all_goals (with_unfolding_all refine retS hret (Kept.trans kp' (by assumption)) (by assumption) (by assumption) (by k_mem) (Nat.le_trans hsz9 hD) hJ)
end Mine
end
section
open PySem PySem.W PySem.Calls PyProof.Rows PySem.Spec
set_option maxRecDepth 100000
set_option maxHeartbeats 4000000
namespace Mine
local macro_rules | `(tactic| walk_at "eval ListComp") => `(tactic| (k_here; k_dflt (refine ListComp_X (by k_asm) (by with_unfolding_all rfl) (by decide) (by rfl) (by decide) ?_)))
def NameT (i : Nat) (m' : Str → Option Value) : Prop := ∃ x t, six[i]? = some x ∧ m' (Str.ofString "letter") = some (.str x t)
theorem name_at {t0 t1 t2 t3 t4 t5 : Tok} : ∀ (i : Nat) (v : Value) (m' : Str → Option Value), (#[.str (Str.ofString "A") t0, .str (Str.ofString "C") t1, .str (Str.ofString "H") t2, .str (Str.ofString "M") t3, .str (Str.ofString "S") t4, .str (Str.ofString "s") t5] : Array Value)[i]? = some v → m' (Str.ofString "letter") = some v → NameT i m'
  | 0, _, _, e, h => ⟨_, _, rfl, h.trans e.symm⟩
  | 1, _, _, e, h => ⟨_, _, rfl, h.trans e.symm⟩
  | 2, _, _, e, h => ⟨_, _, rfl, h.trans e.symm⟩
  | 3, _, _, e, h => ⟨_, _, rfl, h.trans e.symm⟩
  | 4, _, _, e, h => ⟨_, _, rfl, h.trans e.symm⟩
  | 5, _, _, e, h => ⟨_, _, rfl, h.trans e.symm⟩
  | i + 6, _, _, e, _ => by simp at e
theorem fd_is {n : Int} (k : Nat) {x : Str} (hx : x ∈ six) (hb : (2 : Int) ^ k = bitI x) : (n.fdiv (2 ^ k)).fmod 2 = n / bitI x % 2 := by
  have := bit_pos hx
  rw [hb, Int.fdiv_eq_ediv_of_nonneg _ (by omega), Int.fmod_eq_emod_of_nonneg _ (by decide)]
theorem has_dv {n : Int} {i : Nat} {x : Str} (k : Nat) (e : six[i]? = some x) (hb : (2 : Int) ^ k = bitI x) (h : (n.fdiv (2 ^ k)).fmod 2 = 1) : hasI n x = true := by
  rw [fd_is k (six_mem e) hb] at h; exact decide_eq_true h
theorem has_dv_no {n : Int} {i : Nat} {x : Str} (k : Nat) (e : six[i]? = some x) (hb : (2 : Int) ^ k = bitI x) (h : ¬ (n.fdiv (2 ^ k)).fmod 2 = 1) : hasI n x = false := by
  rw [fd_is k (six_mem e) hb] at h; exact decide_eq_false h
theorem law_letters_con (w : World) {n : Int} (t : Tok) : Con w 118 [] [.int n t] 1 (RetS (lettersI n)) := by
  unfold Con
  k_fill
  intro p loose mean mg mb dp un gd cn cs a ccd cl outer A₀ base h₀ L m s Q E B F X N T hk hd hu hret
  refine wpAny_call ?_
  k_dflt (refine' enterC ?k1 ?k2 ?k3 ?k4 ?k5 ?kA ?kF ?kK ?k6 ?k7 ?k8 ?k9 ?kB ?kD ?_ ?c2 ?c3 ?c4; (case kA => exact rfl); (case kF => exact rfl); (case kK => assumption); (case k1 => k_asm); (case k2 => k_asm); (case k3 => k_asm); (case k4 => k_asm); (case k5 => k_asm); (case k6 => k_is); (case k7 => k_is); (case k8 => ktr_room); (case k9 => exact BindsTo.of_eq rfl); (case kB => exact rfl); (case kD => decide +kernel); (case c2 => exact rfl); (case c3 => exact rfl); (case c4 => exact rfl); k_whole; intro g' L' h' tk' cells' kp' sz' FG' F' N' Y' B' X' T' l1; (try k_lt l1); k_cells Y'; (try simp only [List.cons_append, List.nil_append] at N'); (try dsimp only); (try k_fold))
  repeat' (first | (k_unfold; (try dsimp only)) | (k_end; wrow_close) | (dsimp only; walk1) | walk1 | (leave1; walk_say "STEP leave1"; try dsimp only) | fail "no step")
  have hsz9 : s.heap.objs.size ≤ g'.objs.size := Nat.le_of_eq sz'.symm
  (rename Fr _ _ _ _ => lF'); (rename News _ _ _ _ => lN')
  have hsz8 := Nat.le_trans hsz9 (Nat.le_of_lt (Nat.lt_of_le_of_lt lF'.above lF'.ns.lt))
  refine ⟨_, #[.str (Str.ofString "A") _, .str (Str.ofString "C") _, .str (Str.ofString "H") _, .str (Str.ofString "M") _, .str (Str.ofString "S") _, .str (Str.ofString "s") _], _, NameT, FltJ (hasI n), rfl, rfl, (by first | size_fits | exact Nat.le_of_ble_eq_true rfl), lF', lN', fun h _ N => ⟨_, (N _ List.mem_cons_self).1, rfl, _, rfl⟩, fun i hi s₂ => target_name rfl rfl (name_at i), StrsAre.nil, ?turn, ?fin⟩
  case turn =>
    clear lF' lN'
    intro i hi h2 tk2 ys I oI C oC D m2 h3 tk3 E2 hJ hC hT F3 N3 off ne3
    obtain ⟨x1, t1, e1, hx1⟩ := hT
    simp only [LCg.Off3, and_true] at off
    repeat' ((fail_if_success (with_reducible show wpAny _ _ (subscriptTail _ _ (Value.ref _) (Value.str _ _)) _ _ _)); (first | (k_unfold; (try dsimp only)) | (k_end; wrow_close) | (dsimp only; walk1) | walk1 | (leave1; walk_say "STEP leave1"; try dsimp only) | fail "no step"))
    (try dsimp only)
    refine look_join x1 ?look ?rest
    case look =>
      rcases six_cases (six_mem e1) with hx | hx | hx | hx | hx | hx <;> subst hx
      · walk1
        exact ⟨_, _, _, rfl, rfl, by rw [bitI_A]; decide, by decide, by decide⟩
      · walk1
        exact ⟨_, _, _, rfl, rfl, by rw [bitI_C]; decide, by decide, by decide⟩
      · walk1
        exact ⟨_, _, _, rfl, rfl, by rw [bitI_H]; decide, by decide, by decide⟩
      · walk1
        exact ⟨_, _, _, rfl, rfl, by rw [bitI_M]; decide, by decide, by decide⟩
      · walk1
        exact ⟨_, _, _, rfl, rfl, by rw [bitI_S]; decide, by decide, by decide⟩
      · walk1
        exact ⟨_, _, _, rfl, rfl, by rw [bitI_s]; decide, by decide, by decide⟩
    case rest =>
      intro k9 t9 tk9 hk9 hk0 hk1
      have hpos9 : (2 : Int) ^ Int.toNat k9 ≠ 0 := by rw [hk9]; have := bit_pos (six_mem e1); omega
      (try dsimp only)
      repeat' (first | (k_unfold; (try dsimp only)) | (k_end; wrow_close) | (dsimp only; walk1) | walk1 | (leave1; walk_say "STEP leave1"; try dsimp only) | fail "no step")

      all_goals first
        | assumption
        | exact flt_yes hJ e1 (has_dv (Int.toNat k9) e1 hk9 (by assumption))
        | exact flt_no hJ e1 (has_dv_no (Int.toNat k9) e1 hk9 (by assumption))
  case fin =>
    clear lF' lN'
    intro D ys h2 tk2 F2 N2 hJ hD
    repeat' (first | (k_unfold; (try dsimp only)) | (k_end; wrow_close) | (dsimp only; walk1) | walk1 | (leave1; walk_say "STEP leave1"; try dsimp only) | fail "no step")
    all_goals (with_unfolding_all refine retS hret (Kept.trans kp' (by assumption)) (by assumption) (by assumption) (by k_mem) (Nat.le_trans hsz8 hD) hJ)
end Mine
end
section
open PySem PySem.W PySem.Calls PyProof.Rows PySem.Spec
set_option maxRecDepth 100000
set_option maxHeartbeats 4000000
namespace Mine
local macro_rules | `(tactic| walk_at "eval ListComp") => `(tactic| (k_here; k_dflt (refine ListComp_X (by k_asm) (by with_unfolding_all rfl) (by decide) (by rfl) (by decide) ?_)))
local macro_rules | `(tactic| walk_at "compareOp In str ref") => `(tactic| (k_here; (with_reducible rename StrsAre _ _ => hS9); (rename Fr _ _ _ _ => lF9); (with_unfolding_all refine in_list_strs (Fr.lst lF9 (by assumption)) hS9 ?_)))
theorem sorted_letters_con (w : World) {l : Addr} {vs : List Value} {ls : List Str} (hS : StrsAre vs ls) : Con w 94 [] [.ref l] 1 (fun h₀ L m s Q => s.heap.IsList l vs.toArray ∧ RetS (six.filter fun x => ls.any (· == x)) h₀ L m s Q) := by
  unfold Con
  k_fill
  intro p loose mean mg mb dp un gd cn cs a ccd cl outer A₀ base h₀ L m s Q E B F X N T hk hd hu hret
  obtain ⟨hl0, hret⟩ := hret
  refine wpAny_call ?_
  k_dflt (refine' enterC ?k1 ?k2 ?k3 ?k4 ?k5 ?kA ?kF ?kK ?k6 ?k7 ?k8 ?k9 ?kB ?kD ?_ ?c2 ?c3 ?c4; (case kA => exact rfl); (case kF => exact rfl); (case kK => assumption); (case k1 => k_asm); (case k2 => k_asm); (case k3 => k_asm); (case k4 => k_asm); (case k5 => k_asm); (case k6 => k_is); (case k7 => k_is); (case k8 => ktr_room); (case k9 => exact BindsTo.of_eq rfl); (case kB => exact rfl); (case kD => decide +kernel); (case c2 => exact rfl); (case c3 => exact rfl); (case c4 => exact rfl); k_whole; intro g' L' h' tk' cells' kp' sz' FG' F' N' Y' B' X' T' l1; (try k_lt l1); k_cells Y'; (try simp only [List.cons_append, List.nil_append] at N'); (try dsimp only); (try k_fold))
  repeat' (first | (k_unfold; (try dsimp only)) | (k_end; wrow_close) | (dsimp only; walk1) | walk1 | (leave1; walk_say "STEP leave1"; try dsimp only) | fail "no step")
  have hl9 := kp'.list hl0
  have hsz9 : s.heap.objs.size ≤ h'.objs.size := by have a := F'.above; have b := F'.ns.lt; rw [← sz']; exact Nat.le_of_lt (Nat.lt_of_le_of_lt a b)
  (rename Fr _ _ _ _ => lF'); (rename News _ _ _ _ => lN')
  refine ⟨21, #[.ref 15, .ref 16, .ref 17, .ref 18, .ref 19, .ref 20], _, ModT, FltJ (fun x => ls.any (· == x)), rfl, rfl, by decide, lF', lN', fun h k _ => (tab21 X').keeps k, fun i hi s₂ => target_pair rfl rfl rfl rfl (by decide) (mod_at X' i), StrsAre.nil, ?turn, ?fin⟩
  case turn =>
    clear lF' lN'
    intro i hi h2 tk2 ys I oI C oC D m2 h3 tk3 E2 hJ hC hT F3 N3 off ne3
    obtain ⟨x1, t1, u1, e1, hx1, hx2⟩ := hT
    simp only [LCg.Off3, and_true] at off
    repeat' (first | (k_unfold; (try dsimp only)) | (k_end; wrow_close) | (dsimp only; walk1) | walk1 | (leave1; walk_say "STEP leave1"; try dsimp only) | fail "no step")
    all_goals first
      | assumption
      | exact flt_yes hJ e1 (by assumption)
      | exact flt_no hJ e1 (by assumption)
  case fin =>
    clear lF' lN'
    intro D ys h2 tk2 F2 N2 hJ hD
    repeat' (first | (k_unfold; (try dsimp only)) | (k_end; wrow_close) | (dsimp only; walk1) | walk1 | (leave1; walk_say "STEP leave1"; try dsimp only) | fail "no step")
    all_goals (with_unfolding_all refine retS hret (Kept.trans kp' (by assumption)) (by assumption) (by assumption) (by k_mem) (Nat.le_trans hsz9 hD) hJ)
end Mine
end
section
open PySem PySem.W PySem.Calls PyProof.Rows PySem.Spec
set_option maxRecDepth 100000
set_option maxHeartbeats 4000000
namespace Mine
theorem StrsAre.rev' {vs : List Value} {ss : List Str} (h : StrsAre vs ss) : StrsAre vs.reverse ss.reverse := by
  induction h with
  | nil => exact .nil
  | cons y t h ih => rw [List.reverse_cons, List.reverse_cons]; exact ih.append' (.cons y t .nil)
/-- after i letters from the last on -/
def numL (ls : List Str) (base : Int) (i : Nat) : Int := (ls.reverse.take i).foldl (fun n x => putI x n) base
theorem numL_zero (ls : List Str) (base : Int) : numL ls base 0 = base := rfl
theorem numL_succ {ls : List Str} {base : Int} {i : Nat} {x : Str} (e : ls.reverse[i]? = some x) : numL ls base (i + 1) = putI x (numL ls base i) := by
  unfold numL
  rw [List.take_add_one, e]
  simp [List.foldl_append]
theorem numL_end (ls : List Str) (base : Int) : numL ls base ls.length = numI ls base := by
  unfold numL numI
  rw [← List.length_reverse, List.take_length, List.foldl_reverse]
theorem numL_num {ls : List Str} (hx : ∀ x ∈ ls, x ∈ six) {base : Int} (hb : Num base) : ∀ i, Num (numL ls base i)
  | 0 => hb
  | i + 1 => by
    cases e : ls.reverse[i]? with
    | none =>
      have : numL ls base (i + 1) = numL ls base i := by unfold numL; rw [List.take_add_one, e]; simp
      rw [this]; exact numL_num hx hb i
    | some x =>
      rw [numL_succ e]
      exact put_num (hx x (List.mem_reverse.mp (List.mem_of_getElem? e))) (numL_num hx hb i)
local macro_rules | `(tactic| walk_at "subscriptTail Name Slice ref ref") => `(tactic| (k_here; (with_reducible show wpAny _ _ (subscriptTail _ (PySem.Expr.Slice none none (some _) _) (Value.ref _) (Value.ref _)) _ _ _); k_dflt (refine' krv_lit ?F ?N ?l ?k ?e ?_ ?s ?t ?z; (case F => k_asm); (case N => k_asm); (case l => exact Fr.lst (by k_asm) (by with_reducible assumption)); (case k => exact IsPart.int _ _); (case e => exact rfl); (case s => with_unfolding_all rfl); (case t => kmk_pure); (case z => with_reducible assumption)); intro D' h' F' N' l1; (try k_lt l1)))
local macro_rules | `(tactic| walk_at "exec For Name Subscript cons nil") => `(tactic| (k_here; (rename Fr _ _ _ _ => lF'); (with_unfolding_all refine' For_W lF' (by rfl) (by rfl) ?_); k_whole))
local macro_rules | `(tactic| walk_at "call ref") => `(tactic| (k_here; (with_reducible show wpAny _ _ (call (Value.ref 75) _) _ _ _); k_dflt (refine' Con.use (with_modifier_con _ _ _ (by assumption) (by assumption)) ?k1 ?k2 ?k3 ?k4 ?k5 ?kK ?kd ?ku ?_; (case k1 => k_asm); (case k2 => k_asm); (case k3 => k_asm); (case k4 => exact News.nil); (case k5 => k_asm); (case kK => first | assumption | exact rfl); (case kd => ktr_room); (case ku => ktr_units)); (rename News _ _ _ _ => lN'); intro t9 h9 tk9 kp9 F9; (have N9 := Kept.news kp9 lN'); clear lN' kp9; (try dsimp only)))
theorem number_of_con (w : World) {l : Addr} {vs : List Value} {ls : List Str} {b0 : Int} (u : Tok) (hS : StrsAre vs ls) (h64 : ls.length < 64) (hx : ∀ x ∈ ls, x ∈ six) (hn : Num b0) : Con w 82 [] [.ref l, .int b0 u] 3 (fun h₀ L m s Q => s.heap.IsList l vs.toArray ∧ RetV (fun t => .int (numI ls b0) t) h₀ L m s Q) := by
  unfold Con
  k_fill
  intro p loose mean mg mb dp un gd cn cs a ccd cl outer A₀ base h₀ L m s Q E B F X N T hk hd hu hret
  obtain ⟨hl0, hret⟩ := hret
  refine wpAny_call ?_
  k_dflt (refine' enterP ?k1 ?k2 ?k3 ?k4 ?k5 ?kA ?kF ?kK ?k6 ?k7 ?k8 ?k9 ?kB ?_ ?c2 ?c3 ?c4 ?c5; (case kA => exact rfl); (case kF => exact rfl); (case kK => assumption); (case k1 => k_asm); (case k2 => k_asm); (case k3 => k_asm); (case k4 => k_asm); (case k5 => k_asm); (case k6 => k_is); (case k7 => k_is); (case k8 => ktr_room); (case k9 => exact BindsTo.of_eq rfl); (case c5 => decide); (case kB => exact locs rfl); (case c2 => exact rfl); (case c3 => exact rfl); (case c4 => exact rfl); k_whole; intro g' L' h' kp' sz' FG' F' N' B' X' T'; (try dsimp only); (try k_fold))
  have hl9 := kp'.list hl0
  have hz9 : vs.toArray.size ≤ sizeLine := by rw [List.size_toArray, hS.length]; exact Nat.le_trans (Nat.le_of_lt h64) (by decide)
  repeat' ((fail_if_success (with_reducible show wpAny _ _ (pyIter _) _ _ _)); first | (k_unfold; (try dsimp only)) | (k_end; wrow_close) | ((with_reducible show wpAny _ _ (subscriptTail _ (PySem.Expr.Slice _ _ _ _) _ _) _ _ _); walk1) | (dsimp only; walk1) | walk1 | (leave1; walk_say "STEP leave1"; try dsimp only) | fail "no step")
  (rename Fr _ _ _ _ => lF'); (rename News _ _ _ _ => lN')
  refine LoopW.list (fun i m₁ news₁ d => d = s.drawn ∧ news₁ = [] ∧ ∃ t, m₁ (PySem.Str.ofString "found") = some (.int (numL ls b0 i) t)) rfl lF' lN' ⟨rfl, rfl, _, rfl⟩ ?turn ?fin
  case turn =>
    clear lF' lN'
    intro I i v m₁ news₁ oI s' hv hJ hg ho lt1 off1 F1 N1
    obtain ⟨h3, g3, d3, tk3, os3⟩ := s'
    dsimp only at hg ho F1 N1
    subst hg; subst ho
    dsimp only
    obtain ⟨hd1, rfl, t1, hf⟩ := hJ
    (try dsimp only at hd1); subst hd1
    obtain ⟨x1, tx, rfl, hv2⟩ := (StrsAre.rev' hS).item i v hv
    have hx1 := hx x1 (List.mem_reverse.mp (List.mem_of_getElem? hv2))
    have hn1 := numL_num hx hn i
    replace F1 := Fr.know F1 (x := PySem.Str.ofString "found") ((if_neg (by decide +kernel)).trans hf)
    replace F1 := Fr.know F1 (x := PySem.Str.ofString "letter") ((if_neg (by decide +kernel)).trans (if_pos rfl))
    clear hf off1
    repeat' ((fail_if_success (with_reducible show wpAny _ _ (pyIter _) _ _ _)); first | (k_unfold; (try dsimp only)) | (k_end; wrow_close) | ((with_reducible show wpAny _ _ (subscriptTail _ (PySem.Expr.Slice _ _ _ _) _ _) _ _ _); walk1) | (dsimp only; walk1) | walk1 | (leave1; walk_say "STEP leave1"; try dsimp only) | fail "no step")
    refine StepW.next (news₂ := []) rfl rfl (by assumption) (by assumption) (by k_sub) (fun p hp => nomatch hp) ⟨rfl, rfl, _, by rw [numL_succ hv2]; exact if_pos rfl⟩
  case fin =>
    clear lF' lN'
    intro s' m' news' hg ho F1 N1 hJ
    obtain ⟨h3, g3, d3, tk3, os3⟩ := s'
    dsimp only at hg ho F1 N1
    subst hg; subst ho
    (try dsimp only)
    simp only [List.length_reverse] at hJ
    rw [hS.length, numL_end] at hJ
    obtain ⟨hd1, rfl, t1, hf⟩ := hJ
    (try dsimp only at hd1); subst hd1
    replace F1 := Fr.know F1 hf
    repeat' ((fail_if_success (with_reducible show wpAny _ _ (pyIter _) _ _ _)); first | (k_unfold; (try dsimp only)) | (k_end; wrow_close) | ((with_reducible show wpAny _ _ (subscriptTail _ (PySem.Expr.Slice _ _ _ _) _ _) _ _ _); walk1) | (dsimp only; walk1) | walk1 | (leave1; walk_say "STEP leave1"; try dsimp only) | fail "no step")
    exact retI hret (Kept.trans kp' (by assumption)) (by assumption) rfl
end Mine
end
section
open PySem PySem.W PySem.Calls PyProof.Rows PySem.Spec PyProof.Rows.LCg
set_option maxRecDepth 100000
namespace Mine
theorem News.join {h₀ h : Heap} {L : Addr} {p : Addr × Obj} {b : List (Addr × Obj)} (x : News h₀ L h [p]) (y : News h₀ L h b) : News h₀ L h (p :: b) := fun q hq => by
  rcases List.mem_cons.mp hq with rfl | hq
  · exact x _ List.mem_cons_self
  · exact y _ hq
theorem News.offD {h₀ : Heap} {s : Shared} {L D : Addr} {news : List (Addr × Obj)} (N : News h₀ L s.heap news) (hD : s.heap.objs.size ≤ D) : ∀ p ∈ news, p.1 < D := fun p hp => Nat.lt_of_lt_of_le (Heap.lt_size (N p hp).1) hD
theorem six_len : six.length = 6 := rfl
theorem filt_len (p : Str → Bool) : (six.filter p).length ≤ 6 := by rw [← six_len]; exact List.length_filter_le _ _
theorem add_room {vs : List Value} {v : Value} {n : Int} (hS : StrsAre vs (lettersI n)) : vs.toArray.toList.length + #[v].toList.length ≤ sizeLine := by
  have := filt_len (hasI n)
  have e : vs.length = (lettersI n).length := hS.length
  unfold lettersI at e
  have h2 : vs.toArray.toList.length + #[v].toList.length = vs.length + 1 := rfl
  rw [h2]
  exact Nat.le_trans (by omega : vs.length + 1 ≤ 7) (by decide)
theorem add_C {vs : List Value} {n : Int} (hS : StrsAre vs (lettersI n)) (t : Tok) : StrsAre (vs.toArray.toList ++ #[Value.str (Str.ofString "C") t].toList) (lettersI n ++ [Str.ofString "C"]) := StrsAre.append' hS (.cons _ _ .nil)
end Mine
namespace Mine
theorem Fr.size {g h : Heap} {L : Addr} {m : Str → Option Value} (F : Fr g L h m) : g.objs.size ≤ h.objs.size := Nat.le_of_lt (Nat.lt_of_le_of_lt F.above F.ns.lt)
def ctlK (n : Int) : Bool := decide (n % 4194304 < 32) && ([Str.ofString "", Str.ofString "NUL", Str.ofString "LFD"].any fun x => x == nameF (n % 4194304))
def toldI (n : Int) : List Str := if ctlK n = true then six.filter fun x => (lettersI n ++ [Str.ofString "C"]).any (· == x) else lettersI n
def plainI (n : Int) : Int := if ctlK n = true then (if 1 ≤ n % 4194304 ∧ n % 4194304 ≤ 26 then n % 4194304 + 96 else n % 4194304 + 64) else n % 4194304
theorem ctlK_t {n : Int} (a : n % 4194304 < 32) (b : ([Str.ofString "", Str.ofString "NUL", Str.ofString "LFD"].any fun x => x == nameF (n % 4194304)) = true) : ctlK n = true := by unfold ctlK; rw [b, decide_eq_true a]; rfl
theorem ctlK_f {n : Int} (b : ([Str.ofString "", Str.ofString "NUL", Str.ofString "LFD"].any fun x => x == nameF (n % 4194304)) = false) : ¬ ctlK n = true := by unfold ctlK; rw [b, Bool.and_false]; decide
theorem ctlK_n {n : Int} (a : ¬ n % 4194304 < 32) : ¬ ctlK n = true := by unfold ctlK; rw [decide_eq_false a, Bool.false_and]; decide
/-- an answer that is a new pair of a list of texts and a number -/
abbrev RetK (n : Int) : Heap → Addr → (Str → Option Value) → Shared → (Value → Shared → Prop) → Prop := fun h₀ L m s Q =>
  ∀ (D T : Addr) (ys : List Value) (c : Nat) (t : Tok) (h' : Heap) (tk' : Nat), Kept s.heap h' [] → Fr h₀ L h' m → News h₀ L h' [(T, { cls := .type "tuple", data := .seq #[.ref D, .int (plainI n) t] }), (D, PySem.W.listOf ys.toArray c)] → D < T → s.heap.objs.size ≤ D → StrsAre ys (toldI n) → Q (.ref T) { s with heap := h', toks := tk' }
theorem retK {n : Int} {h₀ : Heap} {L : Addr} {m : Str → Option Value} {s : Shared} {Q : Value → Shared → Prop} {ss : List Str} {p : Int} {D T : Addr} {ys : List Value} {c : Nat} {t : Tok} {h' : Heap} {tk' : Nat} {news : List (Addr × Obj)} (hret : RetK n h₀ L m s Q) (k : Kept s.heap h' []) (F : Fr h₀ L h' m) (N : News h₀ L h' news)
    (hm : (T, { cls := .type "tuple", data := .seq #[.ref D, .int p t] }) ∈ news) (hm2 : (D, PySem.W.listOf ys.toArray c) ∈ news) (hlt : D < T) (hD : s.heap.objs.size ≤ D) (e : StrsAre ys ss) (es : toldI n = ss) (ep : p = plainI n) : Q (.ref T) { s with heap := h', toks := tk' } := by
  subst ep
  subst es
  exact hret D T ys c t h' tk' k F (fun q hq => by
    rcases List.mem_cons.mp hq with rfl | hq
    · exact N _ hm
    · rw [List.mem_singleton.mp hq]; exact N _ hm2) hlt hD e
end Mine
namespace Mine
theorem News.join2 {h₀ h : Heap} {L : Addr} {p r : Addr × Obj} {b : List (Addr × Obj)} (x : News h₀ L h [p, r]) (y : News h₀ L h b) : News h₀ L h (p :: r :: b) := fun q hq => by
  rcases List.mem_cons.mp hq with rfl | hq
  · exact x _ List.mem_cons_self
  · rcases List.mem_cons.mp hq with rfl | hq
    · exact x _ (List.mem_cons_of_mem _ List.mem_cons_self)
    · exact y _ hq
end Mine
end
section
open PySem PySem.W PySem.Calls PyProof.Rows PySem.Spec
set_option maxRecDepth 100000
set_option maxHeartbeats 4000000
namespace Mine
local macro_rules | `(tactic| walk_at "call ref") => `(tactic| (k_here; (with_reducible show wpAny _ _ (call (Value.ref 49) _) _ _ _); k_dflt (refine' Con.use (base_of_con _ _ (by assumption)) ?k1 ?k2 ?k3 ?k4 ?k5 ?kK ?kd ?ku ?_; (case k1 => k_asm); (case k2 => k_asm); (case k3 => k_asm); (case k4 => exact News.nil); (case k5 => k_asm); (case kK => first | assumption | exact rfl); (case kd => ktr_room); (case ku => ktr_units)); (rename News _ _ _ _ => lN'); intro t9 h9 tk9 kp9 F9; (have N9 := Kept.news kp9 lN'); clear lN' kp9; (try dsimp only)))
local macro_rules | `(tactic| walk_at "call ref") => `(tactic| (k_here; (with_reducible show wpAny _ _ (call (Value.ref 54) _) _ _ _); k_dflt (refine' Con.use (letters_of_con _ _ (by assumption)) ?k1 ?k2 ?k3 ?k4 ?k5 ?kK ?kd ?ku ?_; (case k1 => k_asm); (case k2 => k_asm); (case k3 => k_asm); (case k4 => exact News.nil); (case k5 => k_asm); (case kK => first | assumption | exact rfl); (case kd => ktr_room); (case ku => ktr_units)); (rename News _ _ _ _ => lN'); (rename Fr _ _ _ _ => lF'); intro D9 ys9 c9 h9 tk9 kp9 F9 N8 hD9 hS9; (have N9 := News.join N8 (Kept.news kp9 lN')); (have off9 := News.offD lN' hD9); (have hG9 := Nat.le_trans (Fr.size lF') hD9); clear lN' kp9 N8; (try dsimp only at N9); (try dsimp only)))
local macro_rules | `(tactic| walk_at "call ref") => `(tactic| (k_here; (with_reducible show wpAny _ _ (call (Value.ref 42) _) _ _ _); k_dflt (refine' Con.use (name_of_code_con _ _ _) ?k1 ?k2 ?k3 ?k4 ?k5 ?kK ?kd ?ku ?_; (case k1 => k_asm); (case k2 => k_asm); (case k3 => k_asm); (case k4 => exact News.nil); (case k5 => k_asm); (case kK => first | assumption | exact rfl); (case kd => ktr_room); (case ku => ktr_units)); (rename News _ _ _ _ => lN'); intro t9 h9 tk9 kp9 F9; (have N9 := Kept.news kp9 lN'); clear lN' kp9; (try dsimp only)))
local macro_rules | `(tactic| walk_at "binaryOp Add ref ref") => `(tactic| (k_here; k_dflt (refine' kmk_add_lit ?F ?N ?a ?b ?e ?_ ?z; (case F => k_asm); (case N => k_asm); (case a => kmk_list); (case b => kmk_list); (case e => exact rfl); (case z => exact add_room (by with_reducible assumption))); intro D' h' F' N' l1; (try k_lt l1)))
local macro_rules | `(tactic| walk_at "call ref") => `(tactic| (k_here; (with_reducible show wpAny _ _ (call (Value.ref 94) _) _ _ _); k_dflt (refine' Con.use (sorted_letters_con _ (add_C (by with_reducible assumption) _)) ?k1 ?k2 ?k3 ?k4 ?k5 ?kK ?kd ?ku ?_; (case k1 => k_asm); (case k2 => k_asm); (case k3 => k_asm); (case k4 => exact News.nil); (case k5 => k_asm); (case kK => first | assumption | exact rfl); (case kd => ktr_room); (case ku => ktr_units)); rotate_left 1; (refine ⟨by kmk_list, ?_⟩); (rename News _ _ _ _ => lN'); (rename Fr _ _ _ _ => lF'); intro D9 ys9 c9 h9 tk9 kp9 F9 N8 hD9 hS9; (have N9 := News.join N8 (Kept.news kp9 lN')); (have off9 := News.offD lN' hD9); (have hG9 := Nat.le_trans (Fr.size lF') hD9); clear lN' kp9 N8; (try dsimp only at N9); (try dsimp only)))
def plI (c : Int) : Int := if 1 ≤ c ∧ c ≤ 26 then c + 96 else c + 64
def PMid (g : Heap) (L : Addr) (M : Str → Option Value) (news : List (Addr × Obj)) (c : Int) (s₀ s' : Shared) : Prop := ∃ (t : Tok) (h' : Heap) (tk' : Nat), s' = { s₀ with heap := h', toks := tk' } ∧ Fr g L h' (fun y => if y = Str.ofString "plain" then some (.int (plI c) t) else M y) ∧ News g L h' news
theorem pmid_of {g : Heap} {L : Addr} {M : Str → Option Value} {news : List (Addr × Obj)} {c p : Int} {s₀ : Shared} {h' : Heap} {tk' : Nat} {t : Tok} (F : Fr g L h' (fun y => if y = Str.ofString "plain" then some (.int p t) else M y)) (N : News g L h' news) (e : p = plI c) : PMid g L M news c s₀ { s₀ with heap := h', toks := tk' } := by
  subst e; exact ⟨t, h', tk', rfl, F, N⟩
theorem plain_join {MM : Model} {A : Around} {t : Sem Flow} {Q : Flow → Shared → Prop} {E : Value → Shared → Prop} {s : Shared} {g : Heap} {L : Addr} {M : Str → Option Value} {news : List (Addr × Obj)} (_F : Fr g L s.heap M) (_N : News g L s.heap news) (c : Int) (h : wpAny MM A t (fun fl s' => fl = .next ∧ PMid g L M news c s s') E s) (k : ∀ s', PMid g L M news c s s' → Q .next s') : wpAny MM A t Q E s :=
  wpAny_mono h (fun _ s' hm => by rw [hm.1]; exact k s' hm.2) fun _ _ e => e
theorem key_parts_con (w : World) {n : Int} (u : Tok) (hn : Num n) : Con w 89 [] [.int n u] 3 (RetK n) := by
  unfold Con
  k_fill
  intro p loose mean mg mb dp un gd cn cs a ccd cl outer A₀ base h₀ L m s Q E B F X N T hk hd hu hret
  refine wpAny_call ?_
  k_dflt (refine' enterP ?k1 ?k2 ?k3 ?k4 ?k5 ?kA ?kF ?kK ?k6 ?k7 ?k8 ?k9 ?kB ?_ ?c2 ?c3 ?c4 ?c5; (case kA => exact rfl); (case kF => exact rfl); (case kK => assumption); (case k1 => k_asm); (case k2 => k_asm); (case k3 => k_asm); (case k4 => k_asm); (case k5 => k_asm); (case k6 => k_is); (case k7 => k_is); (case k8 => ktr_room); (case k9 => exact BindsTo.of_eq rfl); (case c5 => decide); (case kB => exact locs rfl); (case c2 => exact rfl); (case c3 => exact rfl); (case c4 => exact rfl); k_whole; intro g' L' h' kp' sz' FG' F' N' B' X' T'; (try dsimp only); (try k_fold))
  repeat' ((fail_if_success (with_reducible show wpAny _ _ (exec (Stmt.Assign _ (Expr.IfExp _ _ _ _) _) _) _ _ _)); first | (k_unfold; (try dsimp only)) | (k_end; wrow_close) | ((with_reducible show wpAny _ _ (subscriptTail _ (PySem.Expr.Slice _ _ _ _) _ _) _ _ _); walk1) | (dsimp only; walk1) | walk1 | (leave1; walk_say "STEP leave1"; try dsimp only) | fail "no step")
  all_goals (have hs9 := fun {D : Addr} (h : g'.objs.size ≤ D) => Nat.le_trans (Nat.le_of_eq sz'.symm) h)
  · (rename Fr _ _ _ _ => lF'); (rename News _ _ _ _ => lN')
    refine plain_join lF' lN' (n % 4194304) ?pa ?pb
    case pa =>
      repeat' (first | (k_unfold; (try dsimp only)) | (k_end; wrow_close) | ((with_reducible show wpAny _ _ (subscriptTail _ (PySem.Expr.Slice _ _ _ _) _ _) _ _ _); walk1) | (dsimp only; walk1) | walk1 | (leave1; walk_say "STEP leave1"; try dsimp only) | fail "no step")
      all_goals first
        | exact pmid_of (by assumption) (by assumption) (if_pos ⟨by assumption, by assumption⟩).symm
        | exact pmid_of (by assumption) (by assumption) (if_neg (by omega)).symm
    case pb =>
      clear lF' lN'
      intro s9 hm
      obtain ⟨t9, h9, tk9, rfl, F9, N9⟩ := hm
      (try dsimp only)
      repeat' (first | (k_unfold; (try dsimp only)) | (k_end; wrow_close) | ((with_reducible show wpAny _ _ (subscriptTail _ (PySem.Expr.Slice _ _ _ _) _ _) _ _ _); walk1) | (dsimp only; walk1) | walk1 | (leave1; walk_say "STEP leave1"; try dsimp only) | fail "no step")
      (with_unfolding_all refine' retK hret (Kept.trans kp' (by assumption)) (by assumption) (by assumption) ?ka1 ?ka2 ?ka3 ?ka4 ?ka5 ?ka6 ?ka7; (case ka1 => k_mem); (case ka2 => k_mem); (case ka5 => assumption); (case ka3 => first | assumption | exact And.left (by assumption) | exact And.right (by assumption) | exact And.left (And.right (by assumption))); (case ka4 => exact hs9 (by assumption)))
      all_goals first | exact if_pos (ctlK_t (by assumption) (by assumption)) | exact (if_pos (ctlK_t (by assumption) (by assumption))).symm
  · (with_unfolding_all refine' retK hret (Kept.trans kp' (by assumption)) (by assumption) (by assumption) ?kd1 ?kd2 ?kd3 ?kd4 ?kd5 ?kd6 ?kd7; (case kd1 => k_mem); (case kd2 => k_mem); (case kd5 => assumption); (case kd3 => first | assumption | exact And.left (by assumption) | exact And.right (by assumption) | exact And.left (And.right (by assumption))); (case kd4 => exact hs9 (by assumption)))
    all_goals first | exact if_neg (ctlK_f (by assumption)) | exact (if_neg (ctlK_f (by assumption))).symm
  · (with_unfolding_all refine' retK hret (Kept.trans kp' (by assumption)) (by assumption) (by assumption) ?ke1 ?ke2 ?ke3 ?ke4 ?ke5 ?ke6 ?ke7; (case ke1 => k_mem); (case ke2 => k_mem); (case ke5 => assumption); (case ke3 => first | assumption | exact And.left (by assumption) | exact And.right (by assumption) | exact And.left (And.right (by assumption))); (case ke4 => exact hs9 (by assumption)))
    all_goals first | exact if_neg (ctlK_n (by assumption)) | exact (if_neg (ctlK_n (by assumption))).symm
end Mine
end
section
open PySem PySem.W PySem.Calls PyProof.Rows PySem.Spec
set_option maxRecDepth 100000
namespace Mine
theorem e_set_iter : entryFor table "set.__iter__" = some Builtin.«frozenset.__iter__» := entryFor_alias (id' := "frozenset.__iter__") (by kernel_rfl) rfl (by decide +kernel) (by kernel_rfl)
theorem sl_si_next : Slot "set_iterator" "__next__" "set_iterator.__next__" :=
  .of (owner := "set_iterator") (n := "__next__") (by rw [typeLookup_type, builtinLookup_eq_fast]; kernel_rfl) (by decide +kernel) (by decide +kernel) (by decide +kernel)
    (by first | exact .inl (by decide +kernel) | exact .inr (by decide +kernel)) (by rw [isSubtype_type]; kernel_rfl)
theorem e_si_next : entryFor table "set_iterator.__next__" = some Builtin.«set_iterator.__next__» := entryFor_of_tree (by kernel_rfl)
theorem owner_si : Manifest.owners.lookup (String.ofList ['r', 'o', 't', 'a', 'r', 'e', 't', 'i', '_', 't', 'e', 's'].reverse) = some Manifest.sig_set_iterator := by kernel_rfl
theorem a_si_next (a : Value) : argsOk "set_iterator.__next__" ⟨[a], []⟩ := by
  unfold argsOk; rw [signature?_of (id := "set_iterator.__next__") (n := ['_', '_', 't', 'x', 'e', 'n', '_', '_']) (o := ['r', 'o', 't', 'a', 'r', 'e', 't', 'i', '_', 't', 'e', 's']) (by kernel_rfl) owner_si]; kernel_rfl

theorem perm_erase {α : Type} : ∀ (l : List α) (i : Nat) (x : α), l[i]? = some x → (x :: l.eraseIdx i).Perm l
  | [], i, x, h => by simp at h
  | a :: l, 0, x, h => by simp at h; subst h; exact .rfl
  | a :: l, i + 1, x, h => by
    simp only [List.getElem?_cons_succ] at h
    show (x :: a :: l.eraseIdx i).Perm (a :: l)
    exact (List.Perm.swap a x _).trans ((perm_erase l i x h).cons a)
theorem go_perm {α : Type} (next : Nat → Nat) : ∀ (n k : Nat) (left : List α) (out : Array α), left.length = n → (pickOrder.go next n k left out).toList.Perm (out.toList ++ left)
  | 0, k, left, out, h => by
    have : left = [] := List.eq_nil_of_length_eq_zero h
    subst this
    unfold pickOrder.go; simp
  | n + 1, k, left, out, h => by
    have hlt : next k % left.length < left.length := Nat.mod_lt _ (by omega)
    unfold pickOrder.go
    have e : left[next k % left.length]? = some (left[next k % left.length]) := List.getElem?_eq_getElem hlt
    rw [e]
    dsimp only
    refine (go_perm next n (k + 1) _ _ (by rw [List.length_eraseIdx, if_pos hlt]; omega)).trans ?_
    rw [Array.toList_push, List.append_assoc]
    exact List.Perm.append_left _ (perm_erase left _ _ e)
theorem pick_perm {α : Type} (next : Nat → Nat) (xs : Array α) : (pickOrder next xs).toList.Perm xs.toList := by
  have := go_perm next xs.size 0 xs.toList #[] (by simp)
  simpa [pickOrder] using this

section
variable {prog : Program} {w : World} {A : Around} {E : Value → Shared → Prop}
theorem wpAny_choose {M : Model} {src : Source} {n : Nat} {s : Shared} {Q : Nat → Shared → Prop} (hn : n ≠ 0) (h : ∀ i, i < n → Q i { s with drawn := s.drawn.bump src }) : wpAny M A (choose src n) Q E s := fun Γ p hΓ => by
  show Sem.wp M Γ (.choose src n .pure) _ _ p s
  rw [Sem.wp_choose]
  exact ⟨hn, by rw [Sem.wp_pure]; exact h _ (Nat.mod_lt _ (Nat.pos_of_ne_zero hn))⟩
theorem wpAny_drawOrder {α : Type} : ∀ (n : Nat) (xs : List α) (s : Shared) (Q : List α → Shared → Prop), xs.length = n → (∀ ys d, ys.Perm xs → Q ys { s with drawn := d }) → wpAny (model prog w) A (drawOrder n xs) Q E s
  | 0, xs, s, Q, hn, h => by
    have : xs = [] := List.eq_nil_of_length_eq_zero hn
    subst this
    unfold drawOrder
    exact wpAny_pure (h [] s.drawn .rfl)
  | n + 1, [], s, Q, hn, h => by simp at hn
  | n + 1, a :: l, s, Q, hn, h => by
    unfold drawOrder
    refine wpAny_bind (wpAny_choose (by simp) fun i hi => ?_)
    have e : (a :: l)[i]? = some ((a :: l)[i]) := List.getElem?_eq_getElem hi
    rw [e]
    dsimp only
    refine wpAny_bind (wpAny_drawOrder n _ _ _ (by rw [List.length_eraseIdx, if_pos hi]; omega) fun ys d hp => wpAny_pure ?_)
    exact h _ d ((hp.cons _).trans (perm_erase _ i _ e))
end
end Mine
end
section
open PySem PySem.W PySem.Calls PyProof.Rows PySem.Spec
set_option maxRecDepth 100000
namespace Mine
def siObj (first : Value) (i a n ep : Nat) : Obj := { cls := .type "set_iterator", data := .fields #[first, .int (i : Nat) 0, .ref a, .int (n : Nat) 0, .int (ep : Nat) 0] }
section
variable {prog : Program} {w : World} {A : Around} {E : Value → Shared → Prop} {s : Shared}
theorem wpAny_byText {Q : Bool → Shared → Prop} (h : Q (w.params.followText "set-order") s) : wpAny (model prog w) A setsByText Q E s := by
  unfold setsByText
  exact wpAny_bind (wpAny_askSetting (wpAny_pure h))
theorem wpAny_setDrawn {a : Addr} {o : Obj} {es : Array (Int × Value)} {ep : Nat} {t : SetTable} {Q : Bool → Shared → Prop} (ho : s.heap.get? a = some o) (hd : o.data = .set es ep t) (hf : t.fits es.size = true)
    (h : Q (!w.params.followText "set-order" && (!t.plain && decide (es.size > 1))) s) : wpAny (model prog w) A (setDrawn a) Q E s := by
  unfold setDrawn
  refine wpAny_bind (wpAny_setState_of ho hd hf ?_)
  refine wpAny_bind (wpAny_byText ?_)
  exact wpAny_pure h
theorem pyIter_set {a : Addr} {o : Obj} {es : Array (Int × Value)} {ep : Nat} {t : SetTable} {Q : Value → Shared → Prop} (ho : s.heap.get? a = some o) (hc : o.cls = .type "set") (hd : o.data = .set es ep t) (hf : t.fits es.size = true) (hz : es.size ≤ sizeLine)
    (h0 : (!w.params.followText "set-order" && (!t.plain && decide (es.size > 1))) = false → Q (.ref s.heap.objs.size) { s with heap := s.heap.push (siObj (.int 0 0) 0 a es.size ep) })
    (h1 : (!w.params.followText "set-order" && (!t.plain && decide (es.size > 1))) = true → ∀ (ps : List Nat) (d : Drawn), ps.Perm (List.range es.size) →
      Q (.ref (s.heap.objs.size + 1)) { s with heap := (s.heap.push { cls := .type "tuple", data := .seq (ps.map fun (i : Nat) => Value.int i 0).toArray }).push (siObj (.ref s.heap.objs.size) 0 a es.size ep), drawn := d }) :
    wpAny (model prog w) A (pyIter (.ref a)) Q E s := by
  have hT : s.TypeIs (.ref a) "set" := ⟨o, ho, hc⟩
  refine wpAny_pyIter_slot hT F.slot_set_iter (wpAny_call_entry F.slot_set_iter hT e_set_iter ?_ (F.args_set_iter_1 _))
  unfold Builtin.«frozenset.__iter__» Builtin.Frozenset.slot0 slotArgs
  simp only [List.isEmpty_nil, Bool.not_true, Bool.false_eq_true, ↓reduceIte, bind_assoc, List.length_nil, bne_self_eq_false]
  unfold Builtin.Frozenset.addrOf Builtin.Frozenset.sizeOf
  refine wpAny_bind (wpAny_pure ?_)
  try dsimp only
  refine wpAny_bind (wpAny_pure ?_)
  refine wpAny_bind (wpAny_bind (wpAny_setEntries_of ho hd hf (wpAny_pure ?_)))
  refine wpAny_bind (wpAny_setDrawn ho hd hf ?_)
  cases hb : (!w.params.followText "set-order" && (!t.plain && decide (es.size > 1))) with
  | false =>
    simp only [Bool.false_eq_true, ↓reduceIte]
    refine wpAny_bind (wpAny_pure ?_)
    refine wpAny_bind (wpAny_setEpoch_of ho hd hf ?_)
    refine wpAny_bind (wpAny_newObj_type ?_)
    exact wpAny_pure ⟨_, rfl, "set_iterator", _, ⟨_, Heap.get?_push_size _ rfl, rfl⟩, sl_si_next.lookup, h0 hb⟩
  | true =>
    simp only [↓reduceIte]
    refine wpAny_bind (wpAny_drawOrder _ _ _ _ (by simp) fun ps d hp => ?_)
    have hlen : ps.length = es.size := by rw [hp.length_eq, List.length_range]
    refine wpAny_bind (wpAny_newObj_type ?_ (by first | (show (Array.size _) ≤ _; simp; omega) | size_fits))
    refine wpAny_bind (wpAny_setEpoch_of (Heap.get?_push_of_some _ ho) hd hf ?_)
    refine wpAny_bind (wpAny_newObj_type ?_)
    refine wpAny_pure ⟨_, rfl, "set_iterator", _, ⟨_, Heap.get?_push_size _ rfl, rfl⟩, sl_si_next.lookup, ?_⟩
    have := h1 hb ps d hp
    rw [Heap.size_push]
    exact this
end
end Mine
end
section
open PySem PySem.W PySem.Calls PyProof.Rows PySem.Spec
set_option maxRecDepth 100000
namespace Mine
section
variable {prog : Program} {w : World} {A : Around} {E : Value → Shared → Prop} {s : Shared} {I a : Addr} {first : Value} {i n ep : Nat} {o : Obj} {es : Array (Int × Value)} {t : SetTable} {Q : Option Value → Shared → Prop}
theorem si_type (hI : s.heap.get? I = some (siObj first i a n ep)) : s.TypeIs (.ref I) "set_iterator" := ⟨_, hI, rfl⟩
theorem si_set (k : Nat) (x : Value) (hI : s.heap.get? I = some (siObj first i a n ep)) : (s.heap.update I (Obj.mapFields (·.setIfInBounds k x))).get? I = some ((siObj first i a n ep).mapFields (·.setIfInBounds k x)) :=
  Heap.get?_update_self _ hI rfl
theorem si_put2 {nx : Nat} (hI : s.heap.get? I = some (siObj first i a n ep)) : ((s.heap.update I (Obj.mapFields (·.setIfInBounds 0 (.int (nx : Nat) 0)))).update I (Obj.mapFields (·.setIfInBounds 1 (.int ((i : Nat) + 1 : Int) 0)))).get? I = some (siObj (.int (nx : Nat) 0) (i + 1) a n ep) := by
  have h1 : (s.heap.update I (Obj.mapFields (·.setIfInBounds 0 (.int (nx : Nat) 0)))).get? I = some ((siObj first i a n ep).mapFields (·.setIfInBounds 0 (.int (nx : Nat) 0))) := Heap.get?_update_self _ hI rfl
  exact Heap.get?_update_self _ h1 rfl
theorem si_put1 (hI : s.heap.get? I = some (siObj first i a n ep)) : (s.heap.update I (Obj.mapFields (·.setIfInBounds 1 (.int ((i : Nat) + 1 : Int) 0)))).get? I = some (siObj first (i + 1) a n ep) :=
  Heap.get?_update_self _ hI rfl
theorem next_item {x : Value} {sl : Nat} (hI : s.heap.get? I = some (siObj (.int (sl : Nat) 0) i a es.size ep)) (ho : s.heap.get? a = some o) (hd : o.data = .set es ep t) (hf : t.fits es.size = true) {nx : Nat}
    (hx : wpAny (model prog w) A.in1 (setNext a sl i ep) (fun r s' => r = some (x, nx) ∧ s' = s) (fun _ _ => False) s)
    (hQ : ∀ h', h'.get? I = some (siObj (.int (nx : Nat) 0) (i + 1) a es.size ep) → Heap.SameBut I s.heap h' → Q (some x) { s with heap := h' }) : wpAny (model prog w) A (pyNext (.ref I)) Q E s := by
  unfold pyNext
  refine wpAny_bind (wpAny_attempt (wpAny_callSpecial?_slot (name := Str.ofString "__next__") (si_type hI) sl_si_next (wpAny_call_entry sl_si_next (si_type hI) e_si_next ?_ (a_si_next _))))
  unfold Builtin.«set_iterator.__next__» slotArgs
  simp only [List.isEmpty_nil, Bool.not_true, Bool.false_eq_true, ↓reduceIte, List.length_nil, bne_self_eq_false]
  refine wpAny_bind (wpAny_pure ?_)
  try dsimp only
  refine wpAny_bind (wpAny_fieldsOf hI rfl ?_)
  try dsimp only
  refine wpAny_bind (wpAny_setEntries_of ho hd hf ?_)
  rw [if_neg (by simp)]
  simp only [Int.toNat_natCast]
  refine wpAny_bind (wpAny_mono hx ?_ fun _ _ q => q.elim)
  rintro r s' ⟨rfl, rfl⟩
  dsimp only
  refine wpAny_bind (wpAny_setField hI rfl (by simp) ?_)
  refine wpAny_bind (wpAny_setField (si_set 0 _ hI) rfl (by simp [siObj, Obj.mapFields]) (wpAny_pure ⟨_, rfl, wpAny_pure (hQ _ (si_put2 hI) ((Heap.SameBut.update ..).trans (Heap.SameBut.update ..)))⟩))
theorem next_end {sl : Nat} (hh : A.handled = none) (hI : s.heap.get? I = some (siObj (.int (sl : Nat) 0) i a es.size ep)) (ho : s.heap.get? a = some o) (hd : o.data = .set es ep t) (hf : t.fits es.size = true)
    (hx : wpAny (model prog w) A.in1 (setNext a sl i ep) (fun r s' => r = none ∧ s' = s) (fun _ _ => False) s)
    (hQ : ∀ h', (∀ b o, b ≠ I → s.heap.get? b = some o → h'.get? b = some o) → Q none { s with heap := h' }) : wpAny (model prog w) A (pyNext (.ref I)) Q E s := by
  unfold pyNext
  refine wpAny_bind (wpAny_attempt (wpAny_callSpecial?_slot (name := Str.ofString "__next__") (si_type hI) sl_si_next (wpAny_call_entry sl_si_next (si_type hI) e_si_next ?_ (a_si_next _))))
  unfold Builtin.«set_iterator.__next__» slotArgs
  simp only [List.isEmpty_nil, Bool.not_true, Bool.false_eq_true, ↓reduceIte, List.length_nil, bne_self_eq_false]
  refine wpAny_bind (wpAny_pure ?_)
  try dsimp only
  refine wpAny_bind (wpAny_fieldsOf hI rfl ?_)
  try dsimp only
  refine wpAny_bind (wpAny_setEntries_of ho hd hf ?_)
  rw [if_neg (by simp)]
  simp only [Int.toNat_natCast]
  refine wpAny_bind (wpAny_mono hx ?_ fun _ _ q => q.elim)
  rintro r s' ⟨rfl, rfl⟩
  dsimp only
  refine wpAny_bind (wpAny_setField hI rfl (by simp) ?_)
  show wpAny _ _ (newExc (.type "StopIteration") [] >>= _) _ _ _
  refine wpAny_bind ?_
  simp only [newExc, newTuple]
  refine wpAny_bind (wpAny_newObj_type ?_ (by size_fits))
  refine wpAny_bind (m := firstArgMember _ _) (wpAny_of_eq (a := Value.none) (by first | rfl | (simp only [firstArgMember]; rfl)) ?_)
  refine wpAny_newObj_type ?_ (by size_fits)
  simp only [raiseNew]
  refine wpAny_bind (wpAny_handled ?_)
  rw [show A.in1.handled = none from hh]
  refine wpAny_bind (wpAny_pure (wpAny_throw ?_))
  refine wpAny_bind (wpAny_isInstance (T := "StopIteration") (b := true) ⟨_, Heap.get?_push_size _ rfl, rfl⟩ isSubtype_stop ?_)
  exact wpAny_pure (hQ _ (((Heap.SameBut.update ..).extBut.push _).push _))
theorem drawn_item {x : Value} {T pl : Nat} {h1 : Int} {places : List Nat} {oT : Obj} {c : Nat} (hI : s.heap.get? I = some (siObj (.ref T) i a es.size ep)) (ho : s.heap.get? a = some o) (hd : o.data = .set es ep t) (hf : t.fits es.size = true)
    (hT : s.heap.get? T = some oT) (hdT : oT.data = .seq (places.map fun (i : Nat) => Value.int i 0).toArray c) (hp : places[i]? = some pl) (he : es[pl]? = some (h1, x))
    (hQ : ∀ h', h'.get? I = some (siObj (.ref T) (i + 1) a es.size ep) → Heap.SameBut I s.heap h' → Q (some x) { s with heap := h' }) : wpAny (model prog w) A (pyNext (.ref I)) Q E s := by
  unfold pyNext
  refine wpAny_bind (wpAny_attempt (wpAny_callSpecial?_slot (name := Str.ofString "__next__") (si_type hI) sl_si_next (wpAny_call_entry sl_si_next (si_type hI) e_si_next ?_ (a_si_next _))))
  unfold Builtin.«set_iterator.__next__» slotArgs
  simp only [List.isEmpty_nil, Bool.not_true, Bool.false_eq_true, ↓reduceIte, List.length_nil, bne_self_eq_false]
  refine wpAny_bind (wpAny_pure ?_)
  try dsimp only
  refine wpAny_bind (wpAny_fieldsOf hI rfl ?_)
  try dsimp only
  refine wpAny_bind (wpAny_setEntries_of ho hd hf ?_)
  rw [if_neg (by simp)]
  refine wpAny_bind (wpAny_seqItems hT hdT ?_)
  dsimp only
  have e1 : (places.map fun (i : Nat) => Value.int i 0).toArray[(i : Int).toNat]? = some (.int (pl : Nat) 0) := by simp [hp]
  rw [e1]
  dsimp only
  refine wpAny_bind ?_
  unfold setNextDrawn
  refine wpAny_bind (wpAny_setState_of ho hd hf ?_)
  dsimp only
  rw [if_neg (by simp)]
  simp only [Int.toNat_natCast]
  rw [he]
  dsimp only
  refine wpAny_pure ?_
  refine wpAny_bind (wpAny_setField hI rfl (by simp) (wpAny_pure ⟨_, rfl, wpAny_pure (hQ _ (si_put1 hI) (Heap.SameBut.update ..))⟩))
theorem drawn_end {T : Nat} {places : List Nat} {oT : Obj} {c : Nat} (hh : A.handled = none) (hI : s.heap.get? I = some (siObj (.ref T) i a es.size ep)) (ho : s.heap.get? a = some o) (hd : o.data = .set es ep t) (hf : t.fits es.size = true)
    (hT : s.heap.get? T = some oT) (hdT : oT.data = .seq (places.map fun (i : Nat) => Value.int i 0).toArray c) (hp : places.length ≤ i)
    (hQ : ∀ h', (∀ b o, b ≠ I → s.heap.get? b = some o → h'.get? b = some o) → Q none { s with heap := h' }) : wpAny (model prog w) A (pyNext (.ref I)) Q E s := by
  unfold pyNext
  refine wpAny_bind (wpAny_attempt (wpAny_callSpecial?_slot (name := Str.ofString "__next__") (si_type hI) sl_si_next (wpAny_call_entry sl_si_next (si_type hI) e_si_next ?_ (a_si_next _))))
  unfold Builtin.«set_iterator.__next__» slotArgs
  simp only [List.isEmpty_nil, Bool.not_true, Bool.false_eq_true, ↓reduceIte, List.length_nil, bne_self_eq_false]
  refine wpAny_bind (wpAny_pure ?_)
  try dsimp only
  refine wpAny_bind (wpAny_fieldsOf hI rfl ?_)
  try dsimp only
  refine wpAny_bind (wpAny_setEntries_of ho hd hf ?_)
  rw [if_neg (by simp)]
  refine wpAny_bind (wpAny_seqItems hT hdT ?_)
  dsimp only
  have e1 : (places.map fun (i : Nat) => Value.int i 0).toArray[(i : Int).toNat]? = none := by simp [hp]
  rw [e1]
  dsimp only
  refine wpAny_bind (wpAny_setField hI rfl (by simp) ?_)
  refine wpAny_bind (wpAny_setField (si_set 0 _ hI) rfl (by simp [siObj, Obj.mapFields]) ?_)
  show wpAny _ _ (newExc (.type "StopIteration") [] >>= _) _ _ _
  refine wpAny_bind ?_
  simp only [newExc, newTuple]
  refine wpAny_bind (wpAny_newObj_type ?_ (by size_fits))
  refine wpAny_bind (m := firstArgMember _ _) (wpAny_of_eq (a := Value.none) (by first | rfl | (simp only [firstArgMember]; rfl)) ?_)
  refine wpAny_newObj_type ?_ (by size_fits)
  simp only [raiseNew]
  refine wpAny_bind (wpAny_handled ?_)
  rw [show A.in1.handled = none from hh]
  refine wpAny_bind (wpAny_pure (wpAny_throw ?_))
  refine wpAny_bind (wpAny_isInstance (T := "StopIteration") (b := true) ⟨_, Heap.get?_push_size _ rfl, rfl⟩ isSubtype_stop ?_)
  exact wpAny_pure (hQ _ ((((Heap.SameBut.update ..).trans (Heap.SameBut.update ..)).extBut.push _).push _))
end
end Mine
end
section
open PySem PySem.W PySem.Calls PyProof.Rows PySem.Spec
set_option maxRecDepth 100000
namespace Mine
theorem sl_si_iter : Slot "set_iterator" "__iter__" "set_iterator.__iter__" :=
  .of (owner := "set_iterator") (n := "__iter__") (by rw [typeLookup_type, builtinLookup_eq_fast]; kernel_rfl) (by decide +kernel) (by decide +kernel) (by decide +kernel)
    (by first | exact .inl (by decide +kernel) | exact .inr (by decide +kernel)) (by rw [isSubtype_type]; kernel_rfl)
theorem e_si_iter : entryFor table "set_iterator.__iter__" = some Builtin.«dict_keyiterator.__iter__» := entryFor_alias (id' := "dict_keyiterator.__iter__") (by kernel_rfl) rfl (by decide +kernel) (by kernel_rfl)
theorem a_si_iter (a : Value) : argsOk "set_iterator.__iter__" ⟨[a], []⟩ := by
  unfold argsOk; rw [signature?_of (id := "set_iterator.__iter__") (n := ['_', '_', 'r', 'e', 't', 'i', '_', '_']) (o := ['r', 'o', 't', 'a', 'r', 'e', 't', 'i', '_', 't', 'e', 's']) (by kernel_rfl) owner_si]; kernel_rfl
section
variable {prog : Program} {w : World} {A : Around} {E : Value → Shared → Prop} {s : Shared} {I a : Addr} {first : Value} {i n ep : Nat} {o : Obj} {es : Array (Int × Value)} {t : SetTable}
theorem si_self {Q : Value → Shared → Prop} (hI : s.heap.get? I = some (siObj first i a n ep)) (h : Q (.ref I) s) : wpAny (model prog w) A (pyIter (.ref I)) Q E s := by
  refine wpAny_pyIter_slot (si_type hI) sl_si_iter (wpAny_call_entry sl_si_iter (si_type hI) e_si_iter ?_ (a_si_iter _))
  show wpAny _ _ (ret (.ref I)) _ _ s
  exact wpAny_pure ⟨_, rfl, "set_iterator", _, si_type hI, sl_si_next.lookup, h⟩
/-- the set's object -/
def SetAt (h : Heap) (a : Addr) (es : Array (Int × Value)) (ep : Nat) (t : SetTable) : Prop := ∃ o, h.get? a = some o ∧ o.data = .set es ep t
theorem SetAt.at {h h' : Heap} (x : SetAt h a es ep t) (k : ∀ o, h.get? a = some o → h'.get? a = some o) : SetAt h' a es ep t := let ⟨o, ho, hd⟩ := x; ⟨o, k o ho, hd⟩
theorem walk_drawn (hh : A.handled = none) (I a T : Addr) (hIa : a ≠ I) (hIT : T ≠ I) (hf : t.fits es.size = true) (places : List Nat) (oT : Obj) {c : Nat} (hdT : oT.data = .seq (places.map fun (i : Nat) => Value.int i 0).toArray c) (hp : places.Perm (List.range es.size)) :
    Walks prog w A I [I, a, T] [I] es.size (fun i v => ∃ pl h1, places[i]? = some pl ∧ es[pl]? = some (h1, v)) (fun i h => h.get? I = some (siObj (.ref T) i a es.size ep) ∧ SetAt h a es ep t ∧ h.get? T = some oT) where
  sub := fun b hb => by simp at hb; simp [hb]
  frame := fun _ _ _ st hk => ⟨hk I (by simp) _ st.1, st.2.1.at fun o e => hk a (by simp) o e, hk T (by simp) _ st.2.2⟩
  item := fun i s Q E hi st hQ => by
    obtain ⟨hI, ⟨o, ho, hd⟩, hT⟩ := st
    have hlen : places.length = es.size := by rw [hp.length_eq, List.length_range]
    have e1 : places[i]? = some (places[i]'(by omega)) := List.getElem?_eq_getElem _
    have hm : places[i]'(by omega) < es.size := List.mem_range.mp (hp.mem_iff.mp (List.getElem_mem _))
    have e2 : es[places[i]'(by omega)]? = some ((es[places[i]'(by omega)]'hm).1, (es[places[i]'(by omega)]'hm).2) := by rw [Array.getElem?_eq_getElem hm]
    refine drawn_item hI ho hd hf hT hdT e1 e2 fun h' hI' hs' => ?_
    exact hQ _ h' s.toks ⟨_, _, e1, e2⟩ ⟨hI', ⟨o, hs'.extBut a o hIa ho, hd⟩, hs'.extBut T _ hIT hT⟩ fun b o hb e => hs'.extBut b o (fun h => hb (by simp [h])) e
  done := fun s Q E st hQ => by
    obtain ⟨hI, ⟨o, ho, hd⟩, hT⟩ := st
    have hlen : places.length = es.size := by rw [hp.length_eq, List.length_range]
    exact drawn_end hh hI ho hd hf hT hdT (by omega) fun h' he' => hQ h' s.toks fun b o hb e => he' b o (fun h => hb (by simp [h])) e
  self := fun _ _ _ _ st hQ => si_self st.1 hQ
end
end Mine
end
section
open PySem PySem.W PySem.Calls PyProof.Rows PySem.Spec
set_option maxRecDepth 100000
namespace Mine
section
variable {prog : Program} {w : World} {A : Around} {E : Value → Shared → Prop} {s : Shared} {I a : Addr} {first : Value} {i n ep : Nat} {o : Obj} {es : Array (Int × Value)} {t : SetTable}
theorem next_text (hb : w.params.followText "set-order" = true) (ho : s.heap.get? a = some o) (hd : o.data = .set es ep t) (hf : t.fits es.size = true) {Q : Option (Value × Nat) → Shared → Prop}
    (h : Q (((pickOrder (w.params.setOrder a ep) es)[i]?).map fun e => (e.2, 0)) s) : wpAny (model prog w) A (setNext a 0 i ep) Q E s := by
  unfold setNext
  refine wpAny_bind (wpAny_setState_of ho hd hf ?_)
  refine wpAny_bind (wpAny_byText ?_)
  rw [hb]
  simp only [↓reduceIte, bne_self_eq_false, Bool.false_eq_true]
  refine wpAny_bind ?_
  unfold setWalk
  refine wpAny_bind (wpAny_setState_of ho hd hf ?_)
  refine wpAny_bind (wpAny_byText ?_)
  rw [hb]
  simp only [↓reduceIte]
  refine wpAny_bind (wpAny_askSetting ?_)
  refine wpAny_pure ?_
  exact wpAny_pure h
theorem walk_text (hb : w.params.followText "set-order" = true) (hh : A.handled = none) (I a : Addr) (hIa : a ≠ I) (hf : t.fits es.size = true) :
    Walks prog w A I [I, a] [I] es.size (fun i v => ∃ h1, (pickOrder (w.params.setOrder a ep) es)[i]? = some (h1, v)) (fun i h => h.get? I = some (siObj (.int 0 0) i a es.size ep) ∧ SetAt h a es ep t) where
  sub := fun b hb => by simp at hb; simp [hb]
  frame := fun _ _ _ st hk => ⟨hk I (by simp) _ st.1, st.2.at fun o e => hk a (by simp) o e⟩
  item := fun i s Q E hi st hQ => by
    obtain ⟨hI, ⟨o, ho, hd⟩⟩ := st
    have hlen : (pickOrder (w.params.setOrder a ep) es).size = es.size := by rw [← Array.length_toList, (pick_perm _ es).length_eq, Array.length_toList]
    have e1 : (pickOrder (w.params.setOrder a ep) es)[i]? = some (((pickOrder (w.params.setOrder a ep) es)[i]'(by omega)).1, ((pickOrder (w.params.setOrder a ep) es)[i]'(by omega)).2) := by rw [Array.getElem?_eq_getElem (by omega)]
    refine next_item (sl := 0) (nx := 0) (x := ((pickOrder (w.params.setOrder a ep) es)[i]'(by omega)).2) hI ho hd hf (next_text hb ho hd hf (by rw [e1]; exact ⟨rfl, rfl⟩)) fun h' hI' hs' => ?_
    exact hQ _ h' s.toks ⟨_, e1⟩ ⟨hI', ⟨o, hs'.extBut a o hIa ho, hd⟩⟩ fun b o hb e => hs'.extBut b o (fun h => hb (by simp [h])) e
  done := fun s Q E st hQ => by
    obtain ⟨hI, ⟨o, ho, hd⟩⟩ := st
    have hlen : (pickOrder (w.params.setOrder a ep) es).size = es.size := by rw [← Array.length_toList, (pick_perm _ es).length_eq, Array.length_toList]
    have e1 : (pickOrder (w.params.setOrder a ep) es)[es.size]? = none := by simp [hlen]
    exact next_end (sl := 0) hh hI ho hd hf (next_text hb ho hd hf (by rw [e1]; exact ⟨rfl, rfl⟩)) fun h' he' => hQ h' s.toks fun b o hb e => he' b o (fun h => hb (by simp [h])) e
  self := fun _ _ _ _ st hQ => si_self st.1 hQ
theorem next_one {sl j : Nat} (hb : w.params.followText "set-order" = false) (ho : s.heap.get? a = some o) (hd : o.data = .set es ep t) (hf : t.fits es.size = true) (h1 : es.size = 1) (hl : t.led = true) {Q : Option (Value × Nat) → Shared → Prop}
    (h : Q (match es[SetTable.below t.place sl]?, t.place[SetTable.below t.place sl]? with | some (_, x), some j => some (x, j + 1) | _, _ => none) s) : wpAny (model prog w) A (setNext a sl i ep) Q E s := by
  unfold setNext
  refine wpAny_bind (wpAny_setState_of ho hd hf ?_)
  refine wpAny_bind (wpAny_byText ?_)
  rw [hb]
  simp only [Bool.false_eq_true, ↓reduceIte]
  show wpAny _ _ (if (!t.plain && decide (es.size > 1)) = true then _ else _) _ _ _
  rw [if_neg (by rw [h1]; simp)]
  refine wpAny_bind ?_
  show wpAny _ _ (if (!t.led && !es.isEmpty) = true then unsupported _ else pure ()) _ _ _
  rw [if_neg (by rw [hl]; simp)]
  refine wpAny_pure ?_
  exact wpAny_pure h
theorem below_one (j : Nat) : SetTable.below #[j] 0 = 0 := by
  unfold SetTable.below
  show SetTable.below.go _ _ 1 0 1 = 0
  unfold SetTable.below.go
  simp [SetTable.below.go]
theorem below_two (j : Nat) : SetTable.below #[j] (j + 1) = 1 := by
  unfold SetTable.below
  show SetTable.below.go _ _ 1 0 1 = 1
  unfold SetTable.below.go
  simp [SetTable.below.go]
theorem walk_one {j : Nat} (hb : w.params.followText "set-order" = false) (hh : A.handled = none) (I a : Addr) (hIa : a ≠ I) (hf : t.fits es.size = true) (h1 : es.size = 1) (hl : t.led = true) (hj : t.place = #[j]) :
    Walks prog w A I [I, a] [I] es.size (fun i v => ∃ h1, es[i]? = some (h1, v)) (fun i h => h.get? I = some (siObj (.int (if i = 0 then 0 else j + 1 : Nat) 0) i a es.size ep) ∧ SetAt h a es ep t) where
  sub := fun b hb => by simp at hb; simp [hb]
  frame := fun _ _ _ st hk => ⟨hk I (by simp) _ st.1, st.2.at fun o e => hk a (by simp) o e⟩
  item := fun i s Q E hi st hQ => by
    obtain ⟨hI, ⟨o, ho, hd⟩⟩ := st
    obtain rfl : i = 0 := by omega
    have e1 : es[0]? = some ((es[0]'(by omega)).1, (es[0]'(by omega)).2) := by rw [Array.getElem?_eq_getElem (by omega)]
    refine next_item (sl := 0) (nx := j + 1) (x := (es[0]'(by omega)).2) hI ho hd hf (next_one (j := j) hb ho hd hf h1 hl (by rw [hj, below_one, e1]; exact ⟨rfl, rfl⟩)) fun h' hI' hs' => ?_
    exact hQ _ h' s.toks ⟨_, e1⟩ ⟨hI', ⟨o, hs'.extBut a o hIa ho, hd⟩⟩ fun b o hb e => hs'.extBut b o (fun h => hb (by simp [h])) e
  done := fun s Q E st hQ => by
    obtain ⟨hI, ⟨o, ho, hd⟩⟩ := st
    rw [if_neg (by omega)] at hI
    have e1 : es[1]? = none := by simp [h1]
    exact next_end (sl := j + 1) hh hI ho hd hf (next_one (j := j) hb ho hd hf h1 hl (by rw [hj, below_two, e1]; exact ⟨rfl, rfl⟩)) fun h' he' => hQ h' s.toks fun b o hb e => he' b o (fun h => hb (by simp [h])) e
  self := fun _ _ _ _ st hQ => si_self st.1 hQ
end
end Mine
end
section
open PySem PySem.W PySem.Calls PyProof.Rows PySem.Spec
set_option maxRecDepth 100000
namespace Mine
theorem layNew_led (t : SetTable) (es : Array (Int × Value)) (h : Int) (x : Value) : (layNew t es h x).2.1.led = t.led := by
  unfold layNew
  split
  · dsimp only
    unfold SetTable.orStandIn
    split <;> rfl
  · rfl
theorem relaid_led {t t' : SetTable} {hs : Array Int} {n : Nat} {or : Array Nat} (h : t.relaid hs n = some (t', or)) : t'.led = t.led ∧ t'.plain = t.plain := by
  unfold SetTable.relaid SetTable.laid at h
  cases q : SetTable.layClean (SetTable.sizeAbove n - 1) hs with
  | none => rw [q] at h; cases h
  | some ow =>
    rw [q] at h
    cases h
    exact ⟨rfl, rfl⟩
theorem relayAll_led (t : SetTable) (es : Array (Int × Value)) (n : Nat) : (relayAll t es n).2.1.led = t.led ∧ (t.plain = false → (relayAll t es n).2.1.plain = false) := by
  unfold relayAll
  split
  · rename_i t' order e
    have := relaid_led e
    dsimp only
    split
    · exact ⟨this.1, fun h => this.2.trans h⟩
    · exact ⟨rfl, fun _ => rfl⟩
  · exact ⟨rfl, fun _ => rfl⟩
def addS (l : List Str) (x : Str) : List Str := if l.any (· == x) = true then l else l ++ [x]
section
variable {prog : Program} {w : World} {A : Around} {E : Value → Shared → Prop} {s : Shared} {a : Addr}
def SI (prog : Program) (w : World) (h : Heap) (a : Addr) (led : Bool) (l : List Str) : Prop :=
  ∃ o es ep t, h.get? a = some o ∧ o.ExactSet ∧ o.data = .set es ep t ∧ ElemsOf (strKind prog w) es.toList ∧ t.fits es.size = true ∧ t.led = led ∧ (t.plain = true → es.size = 0) ∧ ∃ ls, StrsAre (es.toList.map (·.2)) ls ∧ ls.Perm l
theorem strs_is : ∀ {vs : List Value} {ls : List Str} (x : Str), StrsAre vs ls → ((∃ v ∈ vs, (strKind prog w).is x v = true) ↔ x ∈ ls)
  | _, _, x, .nil => by simp
  | _, _, x, .cons y t h => by
    have ih := strs_is x h
    have e : (strKind prog w).is x (.str y t) = true ↔ x = y := ⟨fun q => (strKind prog w).inj _ _ _ q (strKind_is prog w y t), fun q => q ▸ strKind_is prog w y t⟩
    simp only [List.mem_cons, exists_eq_or_imp, e, ih]
theorem strs_perm : ∀ {vs : List Value} {ls : List Str}, StrsAre vs ls → ∀ {vs' : List Value}, vs'.Perm vs → ∃ ls', StrsAre vs' ls' ∧ ls'.Perm ls := by
  intro vs ls h vs' p
  refine ⟨vs'.map strOf, strsAre_map _ fun v hv => h.all v (p.mem_iff.mp hv), ?_⟩
  have := p.map strOf
  rwa [h.strs] at this
theorem SI.at {h h' : Heap} {led : Bool} {l : List Str} (x : SI prog w h a led l) (k : ∀ o, h.get? a = some o → h'.get? a = some o) : SI prog w h' a led l := let ⟨o, es, ep, t, ho, r⟩ := x; ⟨o, es, ep, t, k o ho, r⟩
theorem SI_add {led : Bool} {l : List Str} {x : Str} {tk : Tok} {Q : Bool → Shared → Prop} (hS : SI prog w s.heap a led l) (hroom : l.length + 1 < scanBound)
    (h : ∀ b h', Heap.SameBut a s.heap h' → SI prog w h' a led (addS l x) → Q b { s with heap := h' }) :
    wpAny (model prog w) A (setAddHashed a (.str x tk) ((strKind prog w).hash x)) Q E s := by
  obtain ⟨o, es, ep, t, ho, hex, hd, hel, hf, hl, hpl, ls, hls, hpm⟩ := hS
  have hkey := strKind_is prog w x tk
  have hsc : (Value.str x tk).scannable = true := rfl
  have hsz : es.size = l.length := by rw [← hpm.length_eq, ← hls.length, List.length_map, Array.length_toList]
  have hb1 : es.size + 1 < scanBound := by rw [hsz]; exact hroom
  have hb : es.size < scanBound := Nat.lt_of_succ_lt hb1
  have hin : (∃ e ∈ es.toList, (strKind prog w).is x e.2 = true) ↔ x ∈ l := by
    rw [← hpm.mem_iff, ← strs_is (prog := prog) (w := w) x hls]
    exact ⟨fun ⟨e, he, q⟩ => ⟨e.2, List.mem_map_of_mem he, q⟩, fun ⟨v, hv, q⟩ => by obtain ⟨e, he, rfl⟩ := List.mem_map.mp hv; exact ⟨e, he, q⟩⟩
  unfold setAddHashed setAddHashedIn
  refine wpAny_holding (wpAny_bind (wpAny_setState_of ho hd hf ?_))
  dsimp only
  rw [byScan_of hsc hb hel]
  simp only [↓reduceIte]
  unfold setAddByScan
  refine wpAny_bind ?_
  refine wpAny_bind (wpAny_rule ?_)
  refine wpAny_bind (wpAny_setScan_of hkey ho hd hf hel ?_)
  cases hr : List.findIdx? (fun e => (strKind prog w).is x e.2) es.toList with
  | some j =>
    dsimp only
    obtain ⟨hj, hpj, _⟩ := List.findIdx?_eq_some_iff_getElem.mp hr
    have hx : x ∈ l := hin.mp ⟨es.toList[j], List.getElem_mem hj, hpj⟩
    refine wpAny_pure (wpAny_pure ?_)
    have e : s = { s with heap := s.heap } := by cases s; rfl
    rw [e]
    refine h _ s.heap (Heap.SameBut.refl a s.heap) ?_
    unfold addS
    rw [if_pos (List.any_eq_true.mpr ⟨x, hx, by simp⟩)]
    exact ⟨o, es, ep, t, ho, hex, hd, hel, hf, hl, hpl, ls, hls, hpm⟩
  | none =>
    dsimp only
    have hx : ¬ x ∈ l := fun hm => by
      obtain ⟨e, he, hp⟩ := hin.mpr hm
      have := List.findIdx?_eq_none_iff.mp hr e he
      rw [hp] at this; exact Bool.noConfusion this
    have hadd : addS l x = l ++ [x] := by
      unfold addS
      rw [if_neg]
      intro q
      obtain ⟨y, hy, e⟩ := List.any_eq_true.mp q
      rw [beq_iff_eq] at e
      exact hx (e ▸ hy)
    have hgw : ∀ (b : Bool) {s₁ : Shared} {Q' : Unit → Shared → Prop}, Q' () s₁ → wpAny (model prog w) A (match b with | true => rule "set.scan.the-table-gave-way" | false => pure ()) Q' E s₁ :=
      fun b s₁ Q' hq => by cases b <;> first | exact wpAny_pure hq | exact wpAny_rule hq
    have hperm := layNew_perm t es ((strKind prog w).hash x) (.str x tk)
    have hfits := layNew_fits t es ((strKind prog w).hash x) (.str x tk)
    have hled := layNew_led t es ((strKind prog w).hash x) (.str x tk)
    generalize layNew t es ((strKind prog w).hash x) (.str x tk) = L at hperm hfits hled ⊢
    obtain ⟨es1, t1, wasDummy, gave⟩ := L
    dsimp only at hperm hfits hled ⊢
    rw [Array.toList_push] at hperm
    have hel1 : ElemsOf (strKind prog w) es1.toList := (hel.push hkey hsc).perm hperm
    have hs1 : es1.size = es.size + 1 := by rw [← Array.length_toList, hperm.length_eq, List.length_append, Array.length_toList]; rfl
    have hv1 : (es1.toList.map (·.2)).Perm (es.toList.map (·.2) ++ [.str x tk]) := by simpa using hperm.map (·.2)
    obtain ⟨ls1, hls1, hpm1⟩ := strs_perm (StrsAre.append' hls (.cons x tk .nil)) hv1
    have hpm1' : ls1.Perm (addS l x) := by rw [hadd]; exact hpm1.trans (hpm.append_right _)
    refine wpAny_bind (hgw _ ?_)
    have fin : ∀ (h1 : Heap) (o1 : Obj) (es2 : Array (Int × Value)) (ep2 : Nat) (t2 : SetTable), Heap.SameBut a s.heap h1 → h1.get? a = some o1 → o1.ExactSet → o1.data = .set es2 ep2 t2 → t2.fits es2.size = true → t2.led = led → t2.plain = false → es2.toList.Perm es1.toList → ∀ b, Q b { s with heap := h1 } := by
      intro h1 o1 es2 ep2 t2 hsb ho1 hex1 hd1 hf1 hl1 hp1 hpe b
      obtain ⟨ls2, hls2, hpm2⟩ := strs_perm hls1 (hpe.map (·.2))
      exact h b h1 hsb ⟨o1, es2, ep2, t2, ho1, hex1, hd1, hel1.perm hpe, hf1, hl1, fun q => absurd (hp1.symm.trans q) (by decide), ls2, hls2, hpm2.trans hpm1'⟩
    have tail : ∀ (t2 : SetTable), t2.fits es1.size = true → t2.led = led → t2.plain = false →
        wpAny (model prog w) A (do
          storeSet a es1 t2
          if (!wasDummy && t2.tooFull) = true then do
              (match (relayAll t2 es1 (SetTable.grown es1.size)).2.2 with | true => rule "set.scan.the-table-gave-way" | false => pure ())
              storeSet a (relayAll t2 es1 (SetTable.grown es1.size)).1 (relayAll t2 es1 (SetTable.grown es1.size)).2.1
              pure (some true)
            else pure (some true)) (fun (r : Option Bool) s' => r = some true ∧ Q true s') E s := by
      intro t2 hf2 hl2 hp2
      refine wpAny_bind (wpAny_storeSet_of ho hd ?_ (fits_of_scanBound (by omega)))
      have hg : (s.heap.update a (Obj.putSet es1 t2)).get? a = some { o with data := .set es1 (ep + 1) t2 } := by
        have := Heap.get?_update_self (Obj.putSet es1 t2) ho (by rw [putSet_of es1 t2 hd]; rfl)
        rw [putSet_of es1 t2 hd] at this; exact this
      have hsb1 := Heap.SameBut.update s.heap a (Obj.putSet es1 t2)
      split
      · have hp := relayAll_perm t2 es1 (SetTable.grown es1.size)
        have hfr := relayAll_fits t2 es1 (SetTable.grown es1.size)
        have hlr := relayAll_led t2 es1 (SetTable.grown es1.size)
        generalize relayAll t2 es1 (SetTable.grown es1.size) = Rl at hp hfr hlr ⊢
        obtain ⟨es2, t3, gave2⟩ := Rl
        dsimp only at hp hfr hlr ⊢
        have hsz2 : es2.size = es1.size := by rw [← Array.length_toList, hp.length_eq, Array.length_toList]
        refine wpAny_bind (hgw _ ?_)
        refine wpAny_bind (wpAny_storeSet_of hg rfl ?_ (fits_of_scanBound (by omega)))
        have hg2 : ((s.heap.update a (Obj.putSet es1 t2)).update a (Obj.putSet es2 t3)).get? a = some { o with data := .set es2 (ep + 1 + 1) t3 } := by
          have := Heap.get?_update_self (Obj.putSet es2 t3) hg (by rw [putSet_of es2 t3 rfl]; rfl)
          rw [putSet_of es2 t3 rfl] at this; exact this
        exact wpAny_pure ⟨rfl, fin _ _ _ _ _ (hsb1.trans (Heap.SameBut.update _ a _)) hg2 hex rfl hfr (hlr.1.trans hl2) (hlr.2 hp2) hp true⟩
      · exact wpAny_pure ⟨rfl, fin _ _ _ _ _ hsb1 hg hex rfl hf2 hl2 hp2 .rfl true⟩
    have hplf : hashByValue 8 (.str x tk) = pure false := hashByValue_scannable 8 hsc
    split
    · refine wpAny_bind ?_
      rw [hplf]
      refine wpAny_pure ?_
      simp only [Bool.false_eq_true, ↓reduceIte]
      refine wpAny_mono (tail { t1 with plain := false } (SetTable.fits_plain_off hfits) (hled.trans hl) rfl) ?_ fun _ _ q => q
      rintro r s' ⟨rfl, q⟩
      exact wpAny_pure q
    · rename_i hp1
      refine wpAny_bind (wpAny_pure ?_)
      simp only [↓reduceIte]
      refine wpAny_mono (tail t1 hfits (hled.trans hl) (by simpa using hp1)) ?_ fun _ _ q => q
      rintro r s' ⟨rfl, q⟩
      exact wpAny_pure q
end
end Mine
end
section
open PySem PySem.W PySem.Calls PyProof.Rows PySem.Spec
set_option maxRecDepth 100000
namespace Mine
def ddS (ls : List Str) : List Str := ls.foldl addS []
theorem addS_len (l : List Str) (x : Str) : (addS l x).length ≤ l.length + 1 := by unfold addS; split <;> simp
theorem fold_len : ∀ (ls l : List Str), (ls.foldl addS l).length ≤ l.length + ls.length
  | [], l => Nat.le_refl _
  | x :: r, l => by
    have := fold_len r (addS l x)
    have := addS_len l x
    simp only [List.foldl_cons, List.length_cons]; omega
theorem addS_mem {l : List Str} {x y : Str} : y ∈ addS l x ↔ y ∈ l ∨ y = x := by
  unfold addS
  split
  · rename_i h
    obtain ⟨z, hz, e⟩ := List.any_eq_true.mp h
    rw [beq_iff_eq] at e
    subst e
    exact ⟨.inl, fun q => q.elim id fun e => e ▸ hz⟩
  · simp
theorem addS_nodup {l : List Str} {x : Str} (h : l.Nodup) : (addS l x).Nodup := by
  unfold addS
  split
  · exact h
  · rename_i q
    refine List.nodup_append.mpr ⟨h, by simp, fun a ha b hb e => q ?_⟩
    rw [List.mem_singleton.mp hb] at e
    exact List.any_eq_true.mpr ⟨a, ha, by simp [e]⟩
theorem fold_mem : ∀ (ls l : List Str) (y : Str), y ∈ ls.foldl addS l ↔ y ∈ l ∨ y ∈ ls
  | [], l, y => by simp
  | x :: r, l, y => by
    rw [List.foldl_cons, fold_mem r, addS_mem]
    simp only [List.mem_cons]
    exact ⟨fun q => q.elim (fun q => q.elim .inl fun e => .inr (.inl e)) fun q => .inr (.inr q), fun q => q.elim (fun q => .inl (.inl q)) fun q => q.elim (fun e => .inl (.inr e)) .inr⟩
theorem fold_nodup : ∀ (ls l : List Str), l.Nodup → (ls.foldl addS l).Nodup
  | [], _, h => h
  | x :: r, l, h => fold_nodup r _ (addS_nodup h)
theorem ddS_mem (ls : List Str) (y : Str) : y ∈ ddS ls ↔ y ∈ ls := by unfold ddS; rw [fold_mem]; simp
theorem ddS_nodup (ls : List Str) : (ddS ls).Nodup := fold_nodup ls [] .nil
section
variable {prog : Program} {w : World} {A : Around} {R : Result → Shared → Prop} {I : Addr} {fp wr : List Addr} {G : Array GenState → Array GenState → Prop} {n : Nat} {P : Nat → Value → Prop} {St : Nat → Shared → Prop}
theorem update_strs (W : WalksS prog w A.in1 I fp wr G n P St) (S : Addr) (hSf : S ∉ fp) {led : Bool} (ls : List Str) (hn : ls.length = n) (hval : ∀ i v, P i v → ∃ y t, ls[i]? = some y ∧ v = .str y t) (hb : n + 1 < scanBound) :
    ∀ (k i : Nat) (s : Shared), n - i = k → i ≤ n → St i s → SI prog w s.heap S led ((ls.take i).foldl addS []) →
      (∀ s', Moved (S :: wr) G s s' → SI prog w s'.heap S led (ddS ls) → R (.ok (.ret .none)) s') →
      codeAny (model prog w) A (.builtin "set.update.loop" ⟨[.ref S, .ref I], []⟩) R s := by
  have hSw : S ∉ wr := fun h => hSf (W.sub _ h)
  have hsub : ∀ b ∈ wr, b ∈ S :: wr := fun b hb => List.mem_cons_of_mem _ hb
  intro k
  induction k with
  | zero =>
    intro i s hk hi hst hS hR
    have hin : i = n := by omega
    subst hin
    refine codeAny_builtin F.entry_set_update_loop ?_
    rw [Around.under_plainId F.plain_set_update_loop _]
    show wpAny _ A.in1 (pyNext (.ref I) >>= _) _ _ s
    refine wpAny_bind (W.done s _ _ hst fun s' hm => ?_)
    show wpAny _ A.in1 (ret Value.none) _ _ s'
    rw [List.take_of_length_le (Nat.le_of_eq hn)] at hS
    exact wpAny_pure (hR s' (hm.mono hsub) (hS.at fun o e => hm.heap S _ hSw e))
  | succ k ih =>
    intro i s hk hi hst hS hR
    have hlt : i < n := by omega
    refine codeAny_builtin F.entry_set_update_loop ?_
    rw [Around.under_plainId F.plain_set_update_loop _]
    show wpAny _ A.in1 (pyNext (.ref I) >>= _) _ _ s
    refine wpAny_bind (W.item i s _ _ hlt hst fun v s' hP hst' hm => ?_)
    obtain ⟨y, t, hy, rfl⟩ := hval i v hP
    have hS' : SI prog w s'.heap S led ((ls.take i).foldl addS []) := hS.at fun o e => hm.heap S _ hSw e
    show wpAny _ A.in1 (holding [Value.str y t] (setAdd S (.str y t)) >>= _) _ _ s'
    refine wpAny_bind (wpAny_holding ?_)
    unfold setAdd
    refine wpAny_holding ?_
    refine wpAny_bind ((PySem.strKind prog w).pyHash (k := y) (strKind_is _ _ _ _) ?_)
    have hlen : ((ls.take i).foldl addS []).length ≤ i := by have := fold_len (ls.take i) []; simp only [List.length_nil, List.length_take] at this; omega
    refine SI_add (s := { s' with toks := s'.toks + 1 }) hS' (by omega) fun b h' hsb hS2 => ?_
    have e : addS ((ls.take i).foldl addS []) y = (ls.take (i + 1)).foldl addS [] := by
      rw [List.take_add_one, hy]; simp [List.foldl_append]
    rw [e] at hS2
    refine wpAny_pure ⟨plainId_quiet F.plain_set_update_loop _, ih (i + 1) _ (by omega) hlt (W.frame _ s' _ _ hst' (Nat.le_succ _) fun b hb o e => ?_) hS2 fun s'' hm'' hS'' => ?_⟩
    · rw [hsb.2 b (fun h : b = S => hSf (by rw [← h]; exact hb))]; exact e
    · refine hR s'' (Moved.trans W.gtrans ((hm.mono hsub).then_heap (Nat.le_succ _) fun b o hb e => ?_) hm'') hS''
      rw [hsb.2 b (fun h : b = S => hb (by rw [h]; exact List.mem_cons_self))]; exact e
end
section
variable {prog : Program} {w : World} {A : Around} {E : Value → Shared → Prop} {s : Shared}
theorem code_set_new_led (a : Value) {Q₁ : Value → Shared → Prop}
    (h : Q₁ (.ref s.heap.objs.size) { s with heap := s.heap.push { cls := .type "set", dict := none, data := .set #[] 0 (.fresh 0 0 (!w.params.followText "set-order")) } }) :
    codeAny (model prog w) A (.call (.builtin "set.__new__") ⟨[.type "set", a], []⟩) (wants Q₁ E) s := by
  refine codeAny_of_tree ?_
  show wpAny _ A.in1 (do checkBuiltinCall "set.__new__" ⟨[.type "set", a], []⟩; again (.builtin "set.__new__" ⟨[.type "set", a], []⟩)) _ _ s
  refine wpAny_bind (wpAny_of_eq (F.newCall_set_1 a) (wpAny_pure ⟨plainId_quiet F.plain_set_new _, codeAny_builtin F.entry_set_new ?_⟩))
  rw [Around.under_plainId F.plain_set_new _]
  unfold Builtin.«set.__new__» Builtin.Frozenset.newClass
  have hsub := sub_set_self
  obtain ⟨hp, g, d, tk, os⟩ := s
  dsimp only
  wp_walk
  refine wpAny_askSetting (wpAny_pure ?_)
  dsimp only
  simp only [newObj]
  refine wpAny_bind (wpAny_alloc (wpAny_pure ?_))
  exact wpAny_pure h
end
end Mine
end
section
open PySem PySem.W PySem.Calls PyProof.Rows PySem.Spec
set_option maxRecDepth 100000
set_option maxHeartbeats 3200000
namespace Mine
section
variable {prog : Program} {w : World} {A : Around} {E : Value → Shared → Prop} {s : Shared}
theorem SI_fresh {h : Heap} (led : Bool) {a : Addr} (e : h.get? a = some { cls := .type "set", dict := none, data := .set #[] 0 (.fresh 0 0 led) }) : SI prog w h a led [] :=
  ⟨_, #[], 0, _, e, ⟨rfl, rfl, rfl⟩, rfl, fun x hx => by simp at hx, by rfl, rfl, fun _ => rfl, [], .nil, .rfl⟩
theorem call_set_strs {l : Addr} {vs : List Value} {ls : List Str} {Q : Value → Shared → Prop}
    (hh : A.handled = none) (hl : s.heap.IsList l vs.toArray) (hi : StrsAre vs ls) (hb : ls.length + 1 < scanBound)
    (h : ∀ (h' : Heap) (tk : Nat), SI prog w h' s.heap.objs.size (!w.params.followText "set-order") (ddS ls) →
      (∀ b o, b < s.heap.objs.size → s.heap.get? b = some o → h'.get? b = some o) → Q (.ref s.heap.objs.size) { s with heap := h', toks := tk }) :
    wpAny (model prog w) A (call (.type "set") [.ref l]) Q E s := by
  obtain ⟨c, tl, hmro⟩ := F.called_set.mro
  have hmade := F.called_set.made
  have hsub := F.called_set.sub
  refine wpAny_call (codeAny_of_tree ?_)
  show wpAny _ _ (callAny (.type "set") _) _ _ _
  refine wpAny_pure ⟨Code.quiet_builtin _ (by decide +kernel), codeAny_builtin F.entry_type_call ?_⟩
  rw [Around.under_plain (weight_type_call_type "set" [.ref l] []) rfl]
  have h1 := F.called_set.notType
  have h2 := F.called_set.canCreate
  have hct := F.typeCall_set_1 (.ref l)
  repeat (any_goals (first | assumption | wp_step))
  generalize hled : (!w.params.followText "set-order") = led at h
  refine codeAny_mono (code_set_new_led (.ref l) (E := E) (Q₁ := fun obj s₁ => obj = .ref s.heap.objs.size ∧ s₁ = { s with heap := s.heap.push { cls := .type "set", dict := none, data := .set #[] 0 (.fresh 0 0 led) } }) ⟨rfl, by rw [hled]⟩) fun r s₁ hr => ?_
  cases r with
  | error e => exact hr
  | ok fl =>
    cases fl with
    | ret obj =>
      obtain ⟨rfl, rfl⟩ := hr
      have hS : (s.heap.push { cls := .type "set", dict := none, data := .set #[] 0 (.fresh 0 0 led) }).get? s.heap.objs.size = some { cls := .type "set", dict := none, data := .set #[] 0 (.fresh 0 0 led) } := Heap.get?_push_size _ rfl
      have hT : Shared.TypeIs { s with heap := s.heap.push { cls := .type "set", dict := none, data := .set #[] 0 (.fresh 0 0 led) } } (.ref s.heap.objs.size) "set" := ⟨_, hS, rfl⟩
      have hli := F.called_set.init.lookup
      have hbi := F.called_set.init.bind (.ref s.heap.objs.size)
      repeat (any_goals (first | assumption | wp_step))
      refine codeAny_mono (codeAny_call_builtin (R := wants (fun r s₂ => r = .none ∧ ∃ h' tk, s₂ = { s with heap := h', toks := tk } ∧
          SI prog w h' s.heap.objs.size led (ddS ls) ∧
          (∀ b o, b < s.heap.objs.size → s.heap.get? b = some o → h'.get? b = some o)) E) F.called_set.init.plain F.entry_set_init (check_set_init_1 hT ?_)) fun r₂ s₂ hr₂ => ?_
      · obtain ⟨ol, hol, hcl, nl, hdl⟩ := hl
        obtain ⟨ocls, odict, odata, oslots⟩ := ol
        simp only at hcl hdl
        subst hcl; subst hdl
        have hol' : (s.heap.push { cls := .type "set", dict := none, data := .set #[] 0 (.fresh 0 0 led) }).get? l = some { cls := .type "list", dict := odict, data := .seq vs.toArray nl, slots := oslots } := Heap.get?_push_of_some _ hol
        have hsls := F.sub_list_set
        have hslf := F.sub_list_frozenset
        have hne : (Value.type "list" == Value.type "dict") = false := by decide
        have hl1 : (s.heap.push { cls := .type "set", dict := none, data := .set #[] 0 (.fresh 0 0 led) }).IsList l vs.toArray := ⟨_, hol', rfl, nl, rfl⟩
        unfold Builtin.«set.__init__» noKeywords Builtin.Frozenset.updateFrom
        generalize hPI : pyIter = PI
        wp_walk
        subst hPI
        refine wpAny_pyIter_list hl1 ?_
        refine wpAny_bind (wpAny_runValue ?_)
        have hlS : l < s.heap.objs.size := Heap.lt_size hol
        have hh3 : A.in1.in1.in1.handled = none := by simp [hh]
        have hneI : l ≠ (s.heap.push { cls := .type "set", dict := none, data := .set #[] 0 (.fresh 0 0 led) }).objs.size := by
          rw [Heap.size_push]; exact Nat.ne_of_lt (Nat.lt_succ_of_lt hlS)
        have hSf : s.heap.objs.size ∉ [(s.heap.push { cls := .type "set", dict := none, data := .set #[] 0 (.fresh 0 0 led) }).objs.size, l] := by
          rw [Heap.size_push]; simp only [List.mem_cons, List.not_mem_nil, or_false, not_or]
          exact ⟨Nat.ne_of_lt (Nat.lt_succ_self _), Nat.ne_of_gt hlS⟩
        have hsz : vs.toArray.size = ls.length := by rw [List.size_toArray]; exact hi.length
        have hval : ∀ (i : Nat) (v : Value), vs.toArray[i]? = some v → ∃ y t, ls[i]? = some y ∧ v = .str y t := fun i v hv => by
          obtain ⟨y, t, e, hy⟩ := hi.item i v (by simpa using hv)
          exact ⟨y, t, hy, e⟩
        refine update_strs (led := led) ((Walks.list hh3 _ l hneI vs.toArray).toS) s.heap.objs.size hSf ls hsz.symm hval (by rw [hsz]; exact hb) (vs.toArray.size - 0) 0 _ (by omega) (Nat.zero_le _)
          ⟨⟨_, Heap.get?_push_size _ rfl, rfl, rfl⟩, (hl1.push _)⟩ ?hS0 ?hR
        case hS0 =>
          exact SI_fresh led (Heap.get?_push_of_some _ hS)
        case hR =>
          intro s' hm hS'
          obtain ⟨h', g', d', tk', os'⟩ := s'
          have eg : g' = s.gens := hm.gens
          have ed : d' = s.drawn := hm.drawn
          have eo : os' = s.os := hm.os
          subst eg; subst ed; subst eo
          show wpAny _ _ _ _ _ _
          refine wpAny_pure ?_
          show wpAny _ _ (ret Value.none) _ _ _
          refine wpAny_pure ⟨rfl, h', tk', rfl, hS', fun b o hb e => ?_⟩
          have hb1 : b ≠ s.heap.objs.size := Nat.ne_of_lt hb
          have hb2 : b ≠ (s.heap.push { cls := .type "set", dict := none, data := .set #[] 0 (.fresh 0 0 led) }).objs.size := by
            rw [Heap.size_push]; exact Nat.ne_of_lt (Nat.lt_succ_of_lt hb)
          exact hm.heap b o (by simp only [List.mem_cons, List.not_mem_nil, or_false, not_or]; exact ⟨hb1, hb2⟩) (Heap.get?_push_of_some _ (Heap.get?_push_of_some _ e))
      · cases r₂ with
        | error e => exact hr₂
        | ok fl₂ =>
          cases fl₂ with
          | ret r =>
            obtain ⟨rfl, h', tk, rfl, hS', hk'⟩ := hr₂
            repeat (any_goals (first | assumption | wp_step))
            exact h _ _ hS' hk'
          | _ => exact hr₂.elim
    | _ => exact hr.elim
end
end Mine
end
section
open PySem PySem.W PySem.Calls PyProof.Rows PySem.Spec
set_option maxRecDepth 100000
namespace Mine
section
variable {prog : Program} {w : World} {A : Around} {E : Value → Shared → Prop} {s : Shared} {r : Addr}
theorem hint_set {Q : Bool → Shared → Prop} (hT : s.TypeIs (.ref r) "set") (h : Q false s) : wpAny (model prog w) A (Builtin.List.listLengthHint (.ref r)) Q E s := by
  unfold Builtin.List.listLengthHint
  refine wpAny_bind (wpAny_specialOf hT PySem.F.slot_set_len.lookup ?_)
  generalize hid : ("set.__len__" : String) = id0
  wp_delta
  rw [show splitId id0 = some ("set", "__len__") from by subst hid; decide +kernel]
  subst hid
  refine wpAny_bind (wpAny_isInstance (T := "set") (b := true) hT (by rw [isSubtype_type]; kernel_rfl) ?_)
  refine wpAny_ite_split (fun hab => absurd hab (by decide)) (fun _ => ?_)
  refine wpAny_ite_split (fun _ => ?_) (fun hab => absurd (by decide +kernel) hab)
  refine wpAny_bind (wpAny_typeOf hT ?_)
  exact wpAny_pure h
theorem fm_map {α β : Type} {f : α → Option β} {g : α → β} : ∀ {l : List α}, (∀ x ∈ l, f x = some (g x)) → l.filterMap f = l.map g
  | [], _ => rfl
  | a :: l, h => by rw [List.filterMap_cons_some (h a List.mem_cons_self), fm_map fun x hx => h x (List.mem_cons_of_mem _ hx), List.map_cons]
/-- the items of a set, in some order -/
def SetOut (prog : Program) (w : World) (A : Around) (I : Addr) (fp : List Addr) (n : Nat) (es : Array (Int × Value)) (h : Heap) : Prop :=
  ∃ (P : Nat → Value → Prop) (St : Nat → Heap → Prop), Walks prog w A I fp [I] n P St ∧ St 0 h ∧ ∀ acc : Array Value, ItemsOf P acc n → acc.toList.Perm (es.toList.map (·.2))
theorem items_drawn {es : Array (Int × Value)} {places : List Nat} (hp : places.Perm (List.range es.size)) {acc : Array Value} (h : ItemsOf (fun i v => ∃ pl h1, places[i]? = some pl ∧ es[pl]? = some (h1, v)) acc es.size) : acc.toList.Perm (es.toList.map (·.2)) := by
  have hlen : places.length = es.size := by rw [hp.length_eq, List.length_range]
  have e : acc.toList = places.filterMap fun pl => es[pl]?.map (·.2) := by
    have e0 : (places.filterMap fun pl => es[pl]?.map (·.2)) = places.map fun pl => (es[pl]?.map (·.2)).getD .none := by
      apply fm_map
      intro pl hm
      have : pl < es.size := List.mem_range.mp (hp.mem_iff.mp hm)
      rw [Array.getElem?_eq_getElem this]; rfl
    rw [e0]
    apply List.ext_getElem?
    intro i
    rw [List.getElem?_map, Array.getElem?_toList]
    by_cases hi : i < es.size
    · have hi' : i < acc.size := by rw [h.1]; exact hi
      obtain ⟨pl, h1, e1, e2⟩ := h.2 i acc[i] (Array.getElem?_eq_getElem hi')
      rw [Array.getElem?_eq_getElem hi', e1]
      simp [e2]
    · rw [Array.getElem?_eq_none (by rw [h.1]; omega), List.getElem?_eq_none (by omega)]; rfl
  rw [e]
  refine (hp.filterMap _).trans ?_
  have : (List.range es.size).filterMap (fun pl => es[pl]?.map (·.2)) = ((List.range es.size).filterMap fun pl => es[pl]?).map (·.2) := by rw [List.map_filterMap]
  rw [this, filterMap_getElem?_range]
theorem items_array {xs : Array (Int × Value)} {acc : Array Value} (h : ItemsOf (fun i v => ∃ h1, xs[i]? = some (h1, v)) acc xs.size) : acc.toList = xs.toList.map (·.2) := by
  apply List.ext_getElem?
  intro i
  rw [List.getElem?_map, Array.getElem?_toList, Array.getElem?_toList]
  by_cases hi : i < xs.size
  · have hi' : i < acc.size := by rw [h.1]; exact hi
    obtain ⟨h1, e1⟩ := h.2 i acc[i] (Array.getElem?_eq_getElem hi')
    rw [Array.getElem?_eq_getElem hi', e1]; rfl
  · rw [Array.getElem?_eq_none (by rw [h.1]; omega), Array.getElem?_eq_none (by omega)]; rfl
theorem iter_out {a : Addr} {l : List Str} {Q : Value → Shared → Prop} (hh : A.handled = none) (hS : SI prog w s.heap a (!w.params.followText "set-order") l) (h1 : 1 ≤ l.length) (h64 : l.length < 64)
    (h : ∀ (I : Addr) (fp : List Addr) (es : Array (Int × Value)) (h' : Heap) (d : Drawn) (ls : List Str), (∀ b o, s.heap.get? b = some o → h'.get? b = some o) → (∀ b ∈ fp, b = a ∨ s.heap.objs.size ≤ b) → s.heap.objs.size ≤ I → SetOut prog w A I fp es.size es h' → StrsAre (es.toList.map (·.2)) ls → ls.Perm l → Q (.ref I) { s with heap := h', drawn := d }) :
    wpAny (model prog w) A (pyIter (.ref a)) Q E s := by
  obtain ⟨o, es, ep, t, ho, hex, hd, hel, hf, hl, hpl, ls, hls, hpm⟩ := hS
  have hsz : es.size = l.length := by rw [← hpm.length_eq, ← hls.length, List.length_map, Array.length_toList]
  have ha : a < s.heap.objs.size := Heap.lt_size ho
  refine pyIter_set ho hex.1 hd hf (Nat.le_trans (by omega : es.size ≤ 64) (by decide)) (fun hb => ?_) (fun hb ps d hp => ?_)
  · have hI : (s.heap.push (siObj (.int 0 0) 0 a es.size ep)).get? s.heap.objs.size = some (siObj (.int 0 0) 0 a es.size ep) := Heap.get?_push_size _ rfl
    have hfp : ∀ b ∈ [s.heap.objs.size, a], b = a ∨ s.heap.objs.size ≤ b := by intro b hm; simp at hm; omega
    by_cases hq : w.params.followText "set-order" = true
    · have W := walk_text (prog := prog) (ep := ep) hq hh s.heap.objs.size a (Nat.ne_of_lt ha) hf
      refine h _ _ es _ s.drawn ls (fun b o e => Heap.get?_push_of_some _ e) hfp (by first | exact Nat.le_refl _ | exact Nat.le_succ _) ⟨_, _, W, ⟨hI, o, Heap.get?_push_of_some _ ho, hd⟩, fun acc hacc => ?_⟩ hls hpm
      have hlen : (pickOrder (w.params.setOrder a ep) es).size = es.size := by rw [← Array.length_toList, (pick_perm _ es).length_eq, Array.length_toList]
      rw [← hlen] at hacc
      rw [items_array hacc]
      exact (pick_perm _ es).map _
    · have hq' : w.params.followText "set-order" = false := by simpa using hq
      have hone : es.size = 1 := by
        rw [hq'] at hb
        cases hpt : t.plain with
        | true => have := hpl hpt; omega
        | false => rw [hpt] at hb; simp at hb; omega
      have hled : t.led = true := by rw [hl, hq']; rfl
      obtain ⟨j, hj⟩ : ∃ j, t.place = #[j] := by
        have : t.place.size = 1 := by
          simp only [SetTable.fits, Bool.and_eq_true, beq_iff_eq, decide_eq_true_eq] at hf
          omega
        obtain ⟨pl, hpl'⟩ : ∃ pl : List Nat, t.place = pl.toArray := ⟨t.place.toList, by simp⟩
        rw [hpl', List.size_toArray] at this
        match pl, this, hpl' with
        | [x], _, e => exact ⟨x, e⟩
      have W := walk_one (prog := prog) (ep := ep) hq' hh s.heap.objs.size a (Nat.ne_of_lt ha) hf hone hled hj
      refine h _ _ es _ s.drawn ls (fun b o e => Heap.get?_push_of_some _ e) hfp (by first | exact Nat.le_refl _ | exact Nat.le_succ _) ⟨_, _, W, ⟨hI, o, Heap.get?_push_of_some _ ho, hd⟩, fun acc hacc => ?_⟩ hls hpm
      rw [items_array hacc]
  · have hT : (s.heap.push { cls := .type "tuple", data := .seq (ps.map fun (i : Nat) => Value.int i 0).toArray }).get? s.heap.objs.size = some { cls := .type "tuple", data := .seq (ps.map fun (i : Nat) => Value.int i 0).toArray } := Heap.get?_push_size _ rfl
    have hsz2 : (s.heap.push { cls := .type "tuple", data := .seq (ps.map fun (i : Nat) => Value.int i 0).toArray }).objs.size = s.heap.objs.size + 1 := Heap.size_push ..
    have hI : ((s.heap.push { cls := .type "tuple", data := .seq (ps.map fun (i : Nat) => Value.int i 0).toArray }).push (siObj (.ref s.heap.objs.size) 0 a es.size ep)).get? (s.heap.objs.size + 1) = some (siObj (.ref s.heap.objs.size) 0 a es.size ep) := by
      rw [← hsz2]; exact Heap.get?_push_size _ rfl
    have hfp : ∀ b ∈ [s.heap.objs.size + 1, a, s.heap.objs.size], b = a ∨ s.heap.objs.size ≤ b := by intro b hm; simp at hm; omega
    have W := walk_drawn (prog := prog) (w := w) (ep := ep) (t := t) hh (s.heap.objs.size + 1) a s.heap.objs.size (Nat.ne_of_lt (Nat.lt_succ_of_lt ha)) (Nat.ne_of_lt (Nat.lt_succ_self _)) hf ps { cls := .type "tuple", data := .seq (ps.map fun (i : Nat) => Value.int i 0).toArray } (c := 0) rfl hp
    refine h _ _ es _ d ls (fun b o e => Heap.get?_push_of_some _ (Heap.get?_push_of_some _ e)) hfp (by first | exact Nat.le_refl _ | exact Nat.le_succ _) ⟨_, _, W, ⟨hI, ⟨o, Heap.get?_push_of_some _ (Heap.get?_push_of_some _ ho), hd⟩, Heap.get?_push_of_some _ hT⟩, fun acc hacc => ?_⟩ hls hpm
    exact items_drawn hp hacc
theorem collect_set {a : Addr} {l : List Str} {Q : List Value → Shared → Prop} (hh : A.handled = none) (hS : SI prog w s.heap a (!w.params.followText "set-order") l) (h1 : 1 ≤ l.length) (h64 : l.length < 64)
    (h : ∀ (vs : List Value) (ls : List Str) (h' : Heap) (tk : Nat) (d : Drawn), StrsAre vs ls → ls.Perm l → (∀ b o, s.heap.get? b = some o → h'.get? b = some o) → s.heap.objs.size ≤ h'.objs.size → Q vs { s with heap := h', toks := tk, drawn := d }) :
    wpAny (model prog w) A (collect (.ref a)) Q E s := by
  have hT : ∀ {h : Heap} {g dr tk os}, (∀ b o, s.heap.get? b = some o → h.get? b = some o) → Shared.TypeIs ⟨h, g, dr, tk, os⟩ (.ref a) "set" := by
    intro h g dr tk os k
    obtain ⟨o, es, ep, t, ho, hex, _⟩ := hS
    exact ⟨o, k _ _ ho, hex.1⟩
  have ha : a < s.heap.objs.size := by obtain ⟨o, es, ep, t, ho, _⟩ := hS; exact Heap.lt_size ho
  have hSa : s.heap.objs.size ≠ a := Nat.ne_of_gt ha
  unfold collect
  refine wpAny_bind (wpAny_runValue (codeAny_builtin F.entry_proto_collect ?_))
  rw [Around.under_plainId F.plain_proto_collect _]
  show wpAny _ A.in1 (newList [] >>= fun l => again (.builtin "list.__iadd__" ⟨[l, .ref a], []⟩)) _ _ s
  refine wpAny_bind (wpAny_newObj_type ?_)
  refine wpAny_pure ⟨plainId_quiet F.plain_list_iadd _, codeAny_builtin F.entry_list_iadd ?_⟩
  rw [Around.under_plainId F.plain_list_iadd _]
  have hS₀ : (s.heap.push { cls := .type "list", data := .seq ([] : List Value).toArray }).get? s.heap.objs.size = some { cls := .type "list", data := .seq ([] : List Value).toArray } := Heap.get?_push_size _ rfl
  have k₀ : ∀ b o, s.heap.get? b = some o → (s.heap.push { cls := .type "list", data := .seq ([] : List Value).toArray }).get? b = some o := fun b o e => Heap.get?_push_of_some _ e
  have hq1 : Builtin.List.listSameRef (.ref s.heap.objs.size) (.ref a) = false := by simp [Builtin.List.listSameRef, hSa]
  have hq2 : (Value.type "set" == Value.type "list") = false := by decide
  have hq3 : (Value.type "set" == Value.type "tuple") = false := by decide
  show wpAny _ A.in1 (Builtin.List.listExtendWith (.ref s.heap.objs.size) (.ref a) (.ref s.heap.objs.size)) _ _ _
  unfold Builtin.List.listExtendWith
  refine wpAny_bind (wpAny_typeOf (hT k₀) ?_)
  simp only [hq1, hq2, hq3, Bool.or_false, Bool.false_eq_true, if_false]
  refine wpAny_bind (iter_out (by simpa using hh) (hS.at fun o e => k₀ _ _ e) h1 h64 fun I fp es h₁ d ls k₁ hfp hIge out hls hpm => ?_)
  have hsz : es.size = l.length := by rw [← hpm.length_eq, ← hls.length, List.length_map, Array.length_toList]
  obtain ⟨P, St, W, st, hperm⟩ := out
  have hSlt : s.heap.objs.size < (s.heap.push { cls := .type "list", data := .seq ([] : List Value).toArray }).objs.size := by rw [Heap.size_push]; exact Nat.lt_succ_self _
  have hSf : s.heap.objs.size ∉ fp := fun hm => by
    rcases hfp _ hm with e | e
    · exact hSa e
    · exact absurd hSlt (Nat.not_lt.mpr e)
  have hS₁ := k₁ _ _ hS₀
  have key : ∀ (h : Heap) (c₁ tk : Nat), St 0 h → (∀ b o, b ≠ s.heap.objs.size → h₁.get? b = some o → h.get? b = some o) → h.get? s.heap.objs.size = some { cls := .type "list", data := .seq #[] c₁ } →
      codeAny (model prog w) A (.builtin "list.extend.loop" ⟨[.ref s.heap.objs.size, .ref I, .ref s.heap.objs.size], []⟩) (fun r s' => match r with | .ok (.ret v) => wpAny (model prog w) A (match v with | .ref a => (do match (← load a).data with | .seq xs _ => pure xs.toList | _ => unsupported "internal:collect") | _ => unsupported "internal:collect") Q E s' | .ok _ => False | .error e => E e s') { s with heap := h, toks := tk, drawn := d } := by
    intro h₂ c₁ tk hst hk hS₂
    refine codeAny_extend_loopS W.toS (Nat.le_trans (by omega : es.size ≤ 64) (by decide)) _ hSf _ es.size 0 _ #[] c₁ rfl (Nat.zero_le _) hst hS₂ (ItemsOf.nil _) fun s' acc' c' hm hS' hacc => ?_
    rw [Moved.eq_with hm]
    show wpAny _ A (load s.heap.objs.size >>= _) _ _ _
    refine wpAny_bind (wpAny_load hS' ?_)
    refine wpAny_pure ?_
    obtain ⟨ls', hls', hp'⟩ := strs_perm hls (hperm acc' hacc)
    refine h acc'.toList ls' s'.heap s'.toks d hls' (hp'.trans hpm) (fun b o e => ?_) (Nat.le_of_lt (Heap.lt_size hS'))
    have hb : b < s.heap.objs.size := Heap.lt_size e
    refine hm.heap b o (fun hmem => ?_) (hk b o (Nat.ne_of_lt hb) (k₁ b o (k₀ b o e)))
    rcases List.mem_cons.mp hmem with e' | hmem
    · exact Nat.ne_of_lt hb e'
    · rw [List.mem_singleton.mp hmem] at hb
      exact absurd (Nat.lt_trans hb hSlt) (Nat.not_lt.mpr hIge)
  refine wpAny_bind (wpAny_holding (hint_set (hT fun b o e => k₁ b o (k₀ b o e)) ?_))
  refine wpAny_ite_split (fun _ => ?_) (fun _ => wpAny_pure ⟨plainId_quiet PySem.F.plain_extend_loop _, key _ _ _ st (fun b o _ e => e) hS₁⟩)
  refine wpAny_bind (wpAny_rule ?_)
  refine wpAny_bind ?_
  show wpAny _ _ (updateSeq s.heap.objs.size (·.push .none) >>= fun _ => updateSeq s.heap.objs.size (·.pop)) _ _ _
  refine wpAny_bind (wpAny_updateSeq hS₁ rfl ?_)
  have hS₂ := Heap.get?_update_self (Obj.mapSeq (·.push Value.none)) hS₁ rfl
  refine wpAny_updateSeq (hz := by seq_fits) hS₂ rfl ?_
  have hS₃ := Heap.get?_update_self (Obj.mapSeq (·.pop)) hS₂ rfl
  refine wpAny_pure ⟨plainId_quiet PySem.F.plain_extend_loop _, key _ _ _ ?_ (fun b o hb e => ?_) hS₃⟩
  · refine W.frame 0 _ _ st fun b hb o e => ?_
    have hbS : b ≠ s.heap.objs.size := fun h => hSf (h ▸ hb)
    exact (Heap.get?_update_other _ _ (Ne.symm hbS)).trans ((Heap.get?_update_other _ _ (Ne.symm hbS)).trans e)
  · exact (Heap.get?_update_other _ _ (Ne.symm hb)).trans ((Heap.get?_update_other _ _ (Ne.symm hb)).trans e)
end
end Mine
end
section
open PySem PySem.W PySem.Calls PyProof.Rows PySem.Spec
set_option maxRecDepth 100000
namespace Mine
section
variable {prog : Program} {w : World} {A : Around} {E : Value → Shared → Prop} {s : Shared} {h₀ : Heap} {L : Addr} {m : Str → Option Value} {news : List (Addr × Obj)} {Q : Value → Shared → Prop}
theorem set_N {l : Addr} {vs : List Value} {ls : List Str} (F : Fr h₀ L s.heap m) (N : News h₀ L s.heap news) (hh : A.handled = none) (hl : s.heap.IsList l vs.toArray) (hi : StrsAre vs ls) (hb : ls.length < 64)
    (h : ∀ D o h' tk, Fr h₀ L h' m → News h₀ L h' ((D, o) :: news) → (∀ p ∈ news, p.1 < D) → (∀ h'' : Heap, h''.get? D = some o → SI prog w h'' D (!w.params.followText "set-order") (ddS ls)) → Q (.ref D) { s with heap := h', toks := tk }) :
    wpAny (model prog w) A (call (.type "set") [.ref l]) Q E s := by
  refine call_set_strs hh hl hi (Nat.lt_of_le_of_lt hb (by decide)) fun h' tk hS hk => ?_
  obtain ⟨o, es, ep, t, ho, r⟩ := hS
  have k : ∀ b o, s.heap.get? b = some o → h'.get? b = some o := fun b o e => hk b o (Heap.lt_size e) e
  exact h _ o h' tk (F.kept k) (N.kept_cons F k (Nat.le_refl _) ho) (fun p hp => Heap.lt_size (N p hp).1) fun h'' e => ⟨o, es, ep, t, e, r⟩
theorem sortedSet_N {a : Addr} {o : Obj} {l : List Str} (F : Fr h₀ L s.heap m) (N : News h₀ L s.heap news) (hh : A.handled = none) (hm : (a, o) ∈ news) (hS : ∀ h'' : Heap, h''.get? a = some o → SI prog w h'' a (!w.params.followText "set-order") l) (h1 : 1 ≤ l.length) (h64 : l.length < 64)
    (h : ∀ D vs' ss' e h' tk d, Fr h₀ L h' m → News h₀ L h' ((D, PySem.W.listOf (List.toArray vs') e) :: news) → (∀ p ∈ news, p.1 < D) → StrsAre vs' ss' → ss'.Perm l → sortedS ss' = true → Q (.ref D) { s with heap := h', toks := tk, drawn := d }) :
    wpAny (model prog w) A (call (.builtin "sorted") [.ref a]) Q E s := by
  refine Calls.call_function_entry kind_sorted plain_sorted entry_sorted (args_sorted1 _) ?_
  unfold Builtin.«sorted»
  refine wpAny_bind (m := checkCount "sorted" 1 1 _) (wpAny_pure ?_)
  refine wpAny_bind (collect_set (by simpa using hh) (hS _ (N _ hm).1) h1 h64 fun vs ls h₁ tk d hvs hp k₁ hle => ?_)
  have hlen : vs.length = l.length := by rw [hvs.length, hp.length_eq]
  refine wpAny_bind (wpAny_newList (hsz := Nat.le_trans (by omega : vs.length ≤ 64) (by decide)) ?_)
  have hoL : (h₁.push (seqObj "list" vs.toArray 0)).get? h₁.objs.size = some (seqObj "list" vs.toArray 0) := Heap.get?_push_size _ rfl
  refine wpAny_bind (wpAny_holding (wpAny_call_entry slot_list_sort ⟨_, hoL, rfl⟩ entry_list_sort (list_sort_treeK strKind_oneLt hoL hvs.keysOf (fun v₁ v₂ rest e => keyKind_strs (by rw [← e]; exact hvs)) (by omega) fun st' a1 a2 => ⟨_, rfl, ?_⟩) (args_list_sort _)))
  obtain ⟨ss', q1, q2, q3⟩ := sorted_out_str hvs a1 a2
  obtain ⟨e, he⟩ := sortedHeap_at (out := (arrOf st').map (·.2)) hoL
  have k₂ : ∀ b o, s.heap.get? b = some o → (sortedHeap (h₁.push (seqObj "list" vs.toArray 0)) h₁.objs.size vs ((arrOf st').map (·.2))).get? b = some o := fun b o eb => by
    have e1 := k₁ b o eb
    have hb := Heap.lt_size e1
    rw [sortedHeap_old (Nat.ne_of_lt hb) (by rw [Heap.size_push]; exact Nat.lt_succ_of_lt hb)]
    exact Heap.get?_push_of_some _ e1
  refine wpAny_pure ⟨_, rfl, h _ _ ss' e _ tk d (F.kept k₂) (N.kept_cons F k₂ hle ?_) (fun p hp => Nat.lt_of_lt_of_le (Heap.lt_size (N p hp).1) hle) q1 (q2.trans hp) q3⟩
  rw [Array.toArray_toList]; exact he
end
end Mine
end
section
open PySem PySem.W PySem.Calls PyProof.Rows PySem.Spec PySem.SeqAt
set_option maxRecDepth 100000
namespace Mine
theorem six_ok : ∀ x ∈ six, PyData.strOk x = true := by decide +kernel
theorem canLay_strs : ∀ ss : List Str, (∀ x ∈ ss, x ∈ six) → PyData.canLayAll0 (ss.map PyData.str) = true
  | [], _ => rfl
  | x :: r, h => by simp [PyData.canLayAll0, PyData.canLay0, six_ok x (h x (.head _)), canLay_strs r fun y hy => h y (.tail _ hy)]
theorem depth_strs : ∀ ss : List Str, PyData.depthAll (ss.map PyData.str) = 0
  | [] => rfl
  | _ :: r => by simp [PyData.depthAll, PyData.depth, depth_strs r]
theorem shaped_strs (ss : List Str) (hx : ∀ x ∈ ss, x ∈ six) : shaped (.list (ss.map PyData.str)) = true := by
  simp [shaped, PyData.canLay0, PyData.depth, canLay_strs ss hx, depth_strs]
theorem eqv_strs : ∀ ss : List Str, PyData.eqvAll (ss.map PyData.str) (ss.map PyData.str) = true
  | [] => by simp [PyData.eqvAll]
  | _ :: r => by simp [PyData.eqvAll, PyData.eqv, eqv_strs r]
theorem shaped_pair (ss : List Str) (n : Int) (hx : ∀ x ∈ ss, x ∈ six) : shaped (.tuple [.list (ss.map PyData.str), .int n]) = true := by
  simp [shaped, PyData.canLay0, PyData.canLayAll0, PyData.depth, PyData.depthAll, canLay_strs ss hx, depth_strs]
theorem eqv_pair (ss : List Str) (n : Int) : PyData.eqv (.tuple [.list (ss.map PyData.str), .int n]) (.tuple [.list (ss.map PyData.str), .int n]) = true := by
  simp [PyData.eqv, PyData.eqvAll, eqv_strs]
section
variable {prog : Program} {w : World} {A : Around} {E : Value → Shared → Prop} {s : Shared} {h₀ : Heap} {L : Addr} {news : List (Addr × Obj)} {Q : Value → Shared → Prop}
theorem reads_strs {h : Heap} {a : Addr} {xs : List Value} {ls : List Str} (ha : h.IsList a xs.toArray) (hi : StrsAre xs ls) : Reads h (.ref a) (.list (ls.map PyData.str)) [a] := by
  obtain ⟨o, ho, hc, n, hd⟩ := ha
  exact Reads.list ho hc hd (by simpa using hi.reads h)
theorem ne_strs {a b : Addr} {xs ys : List Value} {ls : List Str} (ha : s.heap.IsList a xs.toArray) (hb : s.heap.IsList b ys.toArray) (hi : StrsAre xs ls) (hj : StrsAre ys ls) (hx : ∀ x ∈ ls, x ∈ six) (hu : A.units + 64 < cLine) (h : Q (.bool false) s) :
    wpAny (model prog w) A (compareOp .NotEq (.ref a) (.ref b)) Q E s :=
  ne_dataH (reads_strs ha hi) (reads_strs hb hj) (shaped_strs _ hx) (shaped_strs _ hx) hu (by simp only [PyData.eqv]; rw [eqv_strs]; exact h)
theorem ne_pair {t u a b : Addr} {n n' : Int} {tn tm : Tok} {xs ys : List Value} {c c' : Nat} {ls ls' : List Str} (N : News h₀ L s.heap news) (ht : (t, { cls := .type "tuple", data := .seq #[.ref a, .int n tn] }) ∈ news) (hu' : (u, { cls := .type "tuple", data := .seq #[.ref b, .int n' tm] }) ∈ news)
    (ha : (a, PySem.W.listOf xs.toArray c) ∈ news) (hb : (b, PySem.W.listOf ys.toArray c') ∈ news) (hi : StrsAre xs ls) (hj : StrsAre ys ls') (hx : ∀ x ∈ ls, x ∈ six) (e : ls = ls') (en : n = n') (hu : A.units + 64 < cLine) (h : Q (.bool false) s) :
    wpAny (model prog w) A (compareOp .NotEq (.ref t) (.ref u)) Q E s := by
  subst e; subst en
  have ra := reads_strs (News.isList N ha) hi
  have rb := reads_strs (News.isList N hb) hj
  have rt : Reads s.heap (.ref t) (.tuple [.list (ls.map PyData.str), .int n]) _ := reads_tuple_at (N.get ht) rfl rfl (.cons ra (.cons (.int _ _) .nil))
  have ru : Reads s.heap (.ref u) (.tuple [.list (ls.map PyData.str), .int n]) _ := reads_tuple_at (N.get hu') rfl rfl (.cons rb (.cons (.int _ _) .nil))
  exact ne_dataH rt ru (shaped_pair _ _ hx) (shaped_pair _ _ hx) hu (by rw [eqv_pair]; exact h)
end
/-- the order of texts -/
theorem rising_pw : ∀ (p : Str) (l : List Str), risingS p l = true → (p :: l).Pairwise fun a b => a.cps.toList ≤ b.cps.toList
  | p, [], _ => List.pairwise_singleton _ _
  | p, x :: r, h => by
    have h' : (!ltCps x.cps.toList p.cps.toList && risingS x r) = true := h
    rw [Bool.and_eq_true] at h'
    have ih := rising_pw x r h'.2
    have hpx : p.cps.toList ≤ x.cps.toList := by
      have := h'.1
      rw [ltCps_eq] at this
      simpa using this
    refine List.pairwise_cons.mpr ⟨fun y hy => ?_, ih⟩
    rcases List.mem_cons.mp hy with rfl | hy
    · exact hpx
    · exact List.le_trans hpx ((List.pairwise_cons.mp ih).1 y hy)
theorem sorted_pw : ∀ (l : List Str), sortedS l = true → l.Pairwise fun a b => a.cps.toList ≤ b.cps.toList
  | [], _ => .nil
  | x :: r, h => rising_pw x r h
theorem sorted_one {l l' : List Str} (h : sortedS l = true) (h' : sortedS l' = true) (p : l.Perm l') : l = l' := by
  refine p.eq_of_pairwise (le := fun a b => a.cps.toList ≤ b.cps.toList) (fun a b _ _ h1 h2 => ?_) (sorted_pw l h) (sorted_pw l' h')
  have e := List.le_antisymm h1 h2
  cases a; cases b
  simp only [Str.mk.injEq]
  exact Array.toList_inj.mp e
end Mine
end
section
open PySem PySem.W PySem.Calls PyProof.Rows PySem.Spec
set_option maxRecDepth 100000
set_option maxHeartbeats 4000000
namespace Mine
theorem filt_six (p : Str → Bool) : ∀ x ∈ six.filter p, x ∈ six := fun _ h => (List.mem_filter.mp h).1
theorem letters_six (n : Int) : ∀ x ∈ lettersI n, x ∈ six := filt_six _
theorem letters_len (n : Int) : (lettersI n).length ≤ 6 := filt_len _
theorem told_six (n : Int) : ∀ x ∈ toldI n, x ∈ six := by
  unfold toldI
  split
  · exact filt_six _
  · exact letters_six n
theorem told_len (n : Int) : (toldI n).length < 64 := by
  have : (toldI n).length ≤ 6 := by
    unfold toldI
    split
    · exact filt_len _
    · exact letters_len n
  omega
theorem six_nodup : six.Nodup := by decide +kernel
theorem plain_num {n : Int} (h : Num n) : Num (plainI n) := by
  obtain ⟨h0, h1⟩ := h
  unfold plainI Num
  split
  · rename_i hc
    have : n % 4194304 < 32 := by
      unfold ctlK at hc
      rw [Bool.and_eq_true] at hc
      exact of_decide_eq_true hc.1
    split <;> omega
  · omega
theorem base_num {b0 : Int} (h0 : 0 ≤ b0) (h1 : b0 < 4194304) : Num b0 := ⟨h0, by omega⟩
/-- what is due: the letters in some order -/
theorem told_perm {n : Int} {ls : List Str} (h : ctlK n = true) (p : ls.Perm (ddS (lettersI n ++ [Str.ofString "C"]))) : (toldI n).Perm ls := by
  refine List.Perm.trans ?_ p.symm
  unfold toldI
  rw [if_pos h]
  refine (List.perm_ext_iff_of_nodup (six_nodup.filter _) (ddS_nodup _)).mpr fun x => ?_
  rw [ddS_mem, List.mem_filter]
  constructor
  · rintro ⟨_, hx⟩
    obtain ⟨y, hy, e⟩ := List.any_eq_true.mp hx
    rw [beq_iff_eq] at e
    exact e ▸ hy
  · intro hx
    refine ⟨?_, List.any_eq_true.mpr ⟨x, hx, by simp⟩⟩
    rcases List.mem_append.mp hx with hx | hx
    · exact letters_six n x hx
    · rw [List.mem_singleton.mp hx]; decide +kernel
theorem told_no {n : Int} (h : ¬ ctlK n = true) : toldI n = lettersI n := if_neg h
theorem plain_no {n : Int} (h : ¬ ctlK n = true) : plainI n = n % 4194304 := if_neg h
theorem name_no {c : Int} (h0 : ¬ c = 0) (h9 : ¬ c = 9) (h10 : ¬ c = 10) (h13 : ¬ c = 13) (h27 : ¬ c = 27) (h32 : c < 32) : nameF c = Str.ofString "" := by
  unfold nameF
  rw [if_neg (by omega), if_neg (by omega), if_neg (by omega), if_neg (by omega), if_neg (by omega), if_neg (by omega), if_neg (by omega)]
theorem ctl_yes {n : Int} (h : n % 4194304 < 32) (h9 : ¬ n % 4194304 = 9) (h13 : ¬ n % 4194304 = 13) (h27 : ¬ n % 4194304 = 27) : ctlK n = true := by
  refine ctlK_t h ?_
  by_cases a : n % 4194304 = 0
  · rw [a]; decide +kernel
  · by_cases b : n % 4194304 = 10
    · rw [b]; decide +kernel
    · rw [name_no a h9 b h13 h27 h]; decide +kernel
theorem ctl_no9 {n : Int} (h : n % 4194304 = 9) : ¬ ctlK n = true := ctlK_f (by rw [h]; decide +kernel)
theorem ctl_no13 {n : Int} (h : n % 4194304 = 13) : ¬ ctlK n = true := ctlK_f (by rw [h]; decide +kernel)
theorem ctl_no27 {n : Int} (h : n % 4194304 = 27) : ¬ ctlK n = true := ctlK_f (by rw [h]; decide +kernel)
/-- back again -/
def stepI (p : Str → Bool) (x : Str) (a : Int) : Int := if p x = true then putI x a else a
theorem num_filt (p : Str → Bool) (b : Int) : numI (six.filter p) b = stepI p (Str.ofString "A") (stepI p (Str.ofString "C") (stepI p (Str.ofString "H") (stepI p (Str.ofString "M") (stepI p (Str.ofString "S") (stepI p (Str.ofString "s") b))))) := by
  unfold numI
  rw [List.foldr_filter]
  rfl
theorem step_of {p : Str → Bool} {x : Str} {e : Int} {b a : Int} (he : e = 0 ∨ e = 1) (hp : p x = decide (e = 1)) (hb : ∀ a, putI x a = addI b a) (ha : a / b % 2 = 0) : stepI p x a = a + b * e := by
  unfold stepI
  rcases he with rfl | rfl
  · rw [if_neg (by rw [hp]; decide)]; omega
  · rw [if_pos (by rw [hp]; decide), hb]
    unfold addI
    rw [if_neg (by omega)]; omega
theorem parts {n : Int} (h : Num n) : n = n % 4194304 + 4194304 * (n / 4194304 % 2) + 8388608 * (n / 8388608 % 2) + 16777216 * (n / 16777216 % 2) + 33554432 * (n / 33554432 % 2) + 67108864 * (n / 67108864 % 2) + 134217728 * (n / 134217728 % 2) := by
  obtain ⟨h0, h1⟩ := h
  omega
theorem bit01 (x : Int) : x % 2 = 0 ∨ x % 2 = 1 := by omega
theorem fold5 {p : Str → Bool} {c eA es eH eS eM : Int} (h0 : 0 ≤ c) (h1 : c < 4194304) (hA : eA = 0 ∨ eA = 1) (hs : es = 0 ∨ es = 1) (hH : eH = 0 ∨ eH = 1) (hS : eS = 0 ∨ eS = 1) (hM : eM = 0 ∨ eM = 1)
    (pA : p (Str.ofString "A") = decide (eA = 1)) (ps : p (Str.ofString "s") = decide (es = 1)) (pH : p (Str.ofString "H") = decide (eH = 1)) (pS : p (Str.ofString "S") = decide (eS = 1)) (pM : p (Str.ofString "M") = decide (eM = 1))
    {c' : Int} (h0' : 0 ≤ c') (h1' : c' < 4194304) (hC : ∀ k, 0 ≤ k → k < 64 → k % 2 = 0 → stepI p (Str.ofString "C") (c + 4194304 * k) = c' + 4194304 * k) :
    numI (six.filter p) c = c' + 4194304 * eA + 8388608 * es + 16777216 * eH + 33554432 * eS + 134217728 * eM := by
  rw [num_filt, step_of hs ps putI_s (by omega), step_of hS pS putI_S (by omega), step_of hM pM putI_M (by omega), step_of hH pH putI_H (by omega)]
  have e : c + 8388608 * es + 33554432 * eS + 134217728 * eM + 16777216 * eH = c + 4194304 * (2 * es + 8 * eS + 32 * eM + 4 * eH) := by omega
  rw [e, hC _ (by omega) (by omega) (by omega), step_of hA pA putI_A (by omega)]
  omega
end Mine
namespace Mine
theorem has_is {n : Int} {x : Str} {b : Int} (e : bitI x = b) : hasI n x = decide (n / b % 2 = 1) := by unfold hasI; rw [e]
theorem any_is {n : Int} {x : Str} (hx : x ∈ six) (hc : ¬ x = Str.ofString "C") : (lettersI n ++ [Str.ofString "C"]).any (· == x) = hasI n x := by
  rw [Bool.eq_iff_iff, List.any_eq_true]
  constructor
  · rintro ⟨y, hy, e⟩
    rw [beq_iff_eq] at e
    subst e
    rcases List.mem_append.mp hy with hy | hy
    · exact (List.mem_filter.mp hy).2
    · exact absurd (List.mem_singleton.mp hy) hc
  · intro h
    exact ⟨x, List.mem_append_left _ (List.mem_filter.mpr ⟨hx, h⟩), by simp⟩
theorem noC {n : Int} (h : (lettersI n).any (· == Str.ofString "C") = false) : n / 67108864 % 2 = 0 := by
  rcases bit01 (n / 67108864) with q | q
  · exact q
  · exfalso
    have hm : Str.ofString "C" ∈ lettersI n := List.mem_filter.mpr ⟨by decide +kernel, by rw [has_is bitI_C]; exact decide_eq_true q⟩
    rw [List.any_eq_true.mpr ⟨_, hm, by simp⟩] at h
    cases h
theorem back {n : Int} (h : Num n) (hC : (lettersI n).any (· == Str.ofString "C") = false) : numI (toldI n) (plainI n) = n := by
  have hc0 := noC hC
  have hp := parts h
  have hlo : 0 ≤ n % 4194304 := by omega
  have hhi : n % 4194304 < 4194304 := by omega
  by_cases hk : ctlK n = true
  · have h9 : ¬ n % 4194304 = 9 := fun e => ctl_no9 e hk
    have h13 : ¬ n % 4194304 = 13 := fun e => ctl_no13 e hk
    have h27 : ¬ n % 4194304 = 27 := fun e => ctl_no27 e hk
    have h32 : n % 4194304 < 32 := by
      have hk' := hk
      unfold ctlK at hk'
      rw [Bool.and_eq_true] at hk'
      exact of_decide_eq_true hk'.1
    have hpl : plainI n = if 1 ≤ n % 4194304 ∧ n % 4194304 ≤ 26 then n % 4194304 + 96 else n % 4194304 + 64 := if_pos hk
    have hb : 64 ≤ plainI n ∧ plainI n < 123 ∧ ¬ plainI n = 96 ∧ plainI n % 32 = n % 4194304 := by rw [hpl]; split <;> omega
    rw [show toldI n = six.filter fun x => (lettersI n ++ [Str.ofString "C"]).any (· == x) from if_pos hk]
    rw [fold5 (c := plainI n) (c' := n % 4194304) (eA := n / 4194304 % 2) (es := n / 8388608 % 2) (eH := n / 16777216 % 2) (eS := n / 33554432 % 2) (eM := n / 134217728 % 2) (by omega) (by omega) (bit01 _) (bit01 _) (bit01 _) (bit01 _) (bit01 _)
      ((any_is (by decide +kernel) (by decide +kernel)).trans (has_is bitI_A)) ((any_is (by decide +kernel) (by decide +kernel)).trans (has_is bitI_s)) ((any_is (by decide +kernel) (by decide +kernel)).trans (has_is bitI_H))
      ((any_is (by decide +kernel) (by decide +kernel)).trans (has_is bitI_S)) ((any_is (by decide +kernel) (by decide +kernel)).trans (has_is bitI_M)) hlo hhi (fun k k0 k1 _ => ?_)]
    · omega
    · unfold stepI
      rw [if_pos (List.any_eq_true.mpr ⟨Str.ofString "C", List.mem_append_right _ (List.mem_singleton.mpr rfl), by simp⟩), putI_C]
      unfold ctlI
      rw [if_neg (by omega), if_pos (by omega)]
      omega
  · rw [told_no hk, plain_no hk]
    unfold lettersI
    rw [fold5 (c := n % 4194304) (c' := n % 4194304) (eA := n / 4194304 % 2) (es := n / 8388608 % 2) (eH := n / 16777216 % 2) (eS := n / 33554432 % 2) (eM := n / 134217728 % 2) hlo hhi (bit01 _) (bit01 _) (bit01 _) (bit01 _) (bit01 _)
      (has_is bitI_A) (has_is bitI_s) (has_is bitI_H) (has_is bitI_S) (has_is bitI_M) hlo hhi (fun k k0 k1 _ => ?_)]
    · omega
    · unfold stepI
      rw [if_neg (by rw [has_is bitI_C, hc0]; decide)]
end Mine
namespace Mine
theorem addC_len (n : Int) : (lettersI n ++ [Str.ofString "C"]).length < 64 := by
  have := letters_len n
  simp only [List.length_append, List.length_singleton]; omega
theorem ddC_len (n : Int) : (ddS (lettersI n ++ [Str.ofString "C"])).length < 64 := by
  have := fold_len (lettersI n ++ [Str.ofString "C"]) []
  have h2 := letters_len n
  simp only [List.length_append, List.length_singleton, List.length_nil] at this
  unfold ddS; omega
theorem ddC_pos (n : Int) : 1 ≤ (ddS (lettersI n ++ [Str.ofString "C"])).length :=
  List.length_pos_of_mem ((ddS_mem _ (Str.ofString "C")).mpr (List.mem_append_right _ (List.mem_singleton.mpr rfl)))
theorem strs_lt {vs : List Value} {ls : List Str} (h : StrsAre vs ls) (hl : ls.length < 64) : vs.length < 64 := by rw [h.length]; exact hl
theorem strs_lt2 {vs : List Value} {ls ls' : List Str} (h : StrsAre vs ls) (p : ls'.Perm ls) (hl : ls'.length < 64) : vs.length < 64 := by rw [h.length, ← p.length_eq]; exact hl
theorem fmod22 (n : Int) : n.fmod (2 ^ Int.toNat 22) = n % 4194304 := Int.fmod_eq_emod_of_nonneg _ (by decide)
theorem in3_yes {k : Int} (h : ([9, 13, 27].any fun x => x == k) = true) : k = 9 ∨ k = 13 ∨ k = 27 := by
  simp only [List.any_cons, List.any_nil, Bool.or_false, Bool.or_eq_true, beq_iff_eq] at h
  omega
theorem in3_no {k : Int} (h : ([9, 13, 27].any fun x => x == k) = false) : ¬ k = 9 ∧ ¬ k = 13 ∧ ¬ k = 27 := by
  simp only [List.any_cons, List.any_nil, Bool.or_false, Bool.or_eq_false_iff, beq_eq_false_iff_ne] at h
  omega
end Mine
end
section
open PySem PySem.W PySem.Calls PyProof.Rows PySem.Spec
set_option maxRecDepth 100000
namespace Mine
def DeckOK (ns : List Int) : Prop := ns.length ≤ 16 ∧ ∀ n ∈ ns, 0 ≤ n ∧ n < 10000000000000000
theorem DeckOK.tail {n : Int} {ns : List Int} (h : DeckOK (n :: ns)) : DeckOK ns := ⟨Nat.le_of_succ_le h.1, fun x hx => h.2 x (.tail _ hx)⟩
theorem DeckOK.set {n k : Int} {ns : List Int} (h : DeckOK (n :: ns)) (h0 : 0 ≤ k) (h1 : k ≤ n) : DeckOK (k :: ns) := ⟨h.1, fun x hx => by
  rcases List.mem_cons.mp hx with rfl | hx
  · exact ⟨h0, Int.lt_of_le_of_lt h1 (h.2 n (.head _)).2⟩
  · exact h.2 x (.tail _ hx)⟩
abbrev RetD (d : Addr) (many : Int) : Heap → Addr → (Str → Option Value) → Shared → (Value → Shared → Prop) → Prop := fun h₀ L m s Q =>
  ∀ (r : Int) (t : Tok) (vs' : List Value) (ns' : List Int) (c' : Nat) (h' : Heap) (tk' : Nat), Kept s.heap h' [d] → Fr h₀ L h' m → News h₀ L h' [(d, PySem.W.listOf vs'.toArray c')] → IntsAre vs' ns' → DeckOK ns' → 0 ≤ r → r < many → Q (.int r t) { s with heap := h', toks := tk' }
end Mine
namespace Mine
theorem Kept.more {a b c : Heap} {l : List Addr} (x : Kept a b l) (y : Kept b c []) : Kept a c l := fun q o n e => y q o (fun hm => nomatch hm) (x q o n e)
theorem pop_at (v : Value) (vs : List Value) : seqIndex? 0 (v :: vs).toArray.size = some 0 := by simp [seqIndex?]
theorem draw_room {v : Value} {vs : List Value} {n : Int} {ns : List Int} (hI : IntsAre vs ns) (hD : DeckOK (n :: ns)) : (v :: vs).toArray.toList.length ≤ sizeLine := by
  have e : vs.length = ns.length := hI.length
  have := hD.1
  have h2 : (v :: vs).toArray.toList.length = vs.length + 1 := rfl
  rw [h2]
  simp only [List.length_cons] at this
  exact Nat.le_trans (by omega : vs.length + 1 ≤ 16) (by decide)
end Mine
namespace Mine
theorem draw_nil {d : Addr} {many : Int} {h₀ : Heap} {L : Addr} {m : Str → Option Value} {s : Shared} {Q : Value → Shared → Prop} {h' g : Heap} {tk' : Nat} {t : Tok} {c : Nat} {news : List (Addr × Obj)} (hret : RetD d many h₀ L m s Q) (k : Kept s.heap g [d]) (k2 : Kept g h' []) (F : Fr h₀ L h' m) (N : News h₀ L h' news) (hm : (d, PySem.W.listOf #[] c) ∈ news) (hM : 0 < many) : Q (.int 0 t) { s with heap := h', toks := tk' } :=
  hret 0 t [] [] c h' tk' (k.more k2) F (fun p hp => by rw [List.mem_singleton.mp hp]; exact N _ hm) .nil ⟨Nat.zero_le _, fun _ h => nomatch h⟩ (Int.le_refl _) hM
theorem draw_cons {d : Addr} {many : Int} {h₀ : Heap} {L : Addr} {m : Str → Option Value} {s : Shared} {Q : Value → Shared → Prop} {h' g : Heap} {tk' : Nat} {t t2 : Tok} {c : Nat} {news : List (Addr × Obj)} {vs : List Value} {n : Int} {ns : List Int} (hret : RetD d many h₀ L m s Q) (k : Kept s.heap g [d]) (k2 : Kept g h' []) (F : Fr h₀ L h' m) (N : News h₀ L h' news)
    (hm : (d, PySem.W.listOf (Value.int (((n :: ns).getD (Int.toNat 0) 0).fdiv many) t2 :: vs).toArray c) ∈ news) (hM : 0 < many) (hI : IntsAre vs ns) (hD : DeckOK (n :: ns)) : Q (.int (((n :: ns).getD (Int.toNat 0) 0).fmod many) t) { s with heap := h', toks := tk' } := by
  have e : (n :: ns).getD (Int.toNat 0) 0 = n := rfl
  rw [e] at hm ⊢
  have hn := hD.2 n (.head _)
  have h0 : 0 ≤ many := Int.le_of_lt hM
  have e1 : n.fdiv many = n / many := Int.fdiv_eq_ediv_of_nonneg _ h0
  have e2 : n.fmod many = n % many := Int.fmod_eq_emod_of_nonneg _ h0
  refine hret _ t _ (n.fdiv many :: ns) c h' tk' (k.more k2) F (fun p hp => by rw [List.mem_singleton.mp hp]; exact N _ hm) (.cons _ _ hI) (hD.set ?_ ?_) ?_ ?_
  · rw [e1]; exact Int.ediv_nonneg hn.1 h0
  · rw [e1]; exact Int.ediv_le_self _ hn.1
  · rw [e2]; exact Int.emod_nonneg _ (Int.ne_of_gt hM)
  · rw [e2]; exact Int.emod_lt_of_pos _ hM
end Mine
namespace Mine
theorem News.updF {h₀ h h' : Heap} {L d : Addr} {o o' : Obj} {news : List (Addr × Obj)} {g : Obj → List (Addr × Obj)} (N : News h₀ L h news) (U : UpdF d o news g) (k : Kept h h' [d]) (N1 : News h₀ L h' [(d, o')]) : News h₀ L h' (g o') := by
  obtain ⟨own, rest, rfl, hg, h1, h2⟩ := U.split
  rw [hg]
  intro p hp
  rcases List.mem_append.mp hp with hp | hp
  · have z := N p (List.mem_append_left _ hp)
    exact ⟨k _ _ (by simpa using h1 p hp) z.1, z.2⟩
  · rcases List.mem_cons.mp hp with rfl | hp
    · exact N1 _ List.mem_cons_self
    · have z := N p (List.mem_append_right _ (List.mem_cons_of_mem _ hp))
      exact ⟨k _ _ (by simpa using h2 p hp) z.1, z.2⟩
theorem News.one {h₀ h : Heap} {L : Addr} {news : List (Addr × Obj)} {p : Addr × Obj} (N : News h₀ L h news) (hm : p ∈ news) : News h₀ L h [p] := fun q hq => by rw [List.mem_singleton.mp hq]; exact N _ hm
end Mine
namespace Mine
theorem News.upd {h₀ h h' : Heap} {L d : Addr} {o o' : Obj} {news news' : List (Addr × Obj)} (N : News h₀ L h news) (U : Upd d o o' news news') (k : Kept h h' [d]) (N1 : News h₀ L h' [(d, o')]) : News h₀ L h' news' := by
  obtain ⟨pre, post, rfl, rfl, a, b⟩ := U.split
  intro p hp
  rcases List.mem_append.mp hp with hp | hp
  · have z := N p (List.mem_append_left _ hp)
    exact ⟨k _ _ (by simpa using a p hp) z.1, z.2⟩
  · rcases List.mem_cons.mp hp with rfl | hp
    · exact N1 _ List.mem_cons_self
    · have z := N p (List.mem_append_right _ (List.mem_cons_of_mem _ hp))
      exact ⟨k _ _ (by simpa using b p hp) z.1, z.2⟩
end Mine
end
section
open PySem PySem.W PySem.Calls PyProof.Rows PySem.Spec
set_option maxRecDepth 100000
set_option maxHeartbeats 8000000
namespace Mine
theorem with_fn {P : Prop} {K : Frag} {f : Addr} {oc : Value} {od an : Option Addr} {name qual : Str} {params : Arguments} {body : List Stmt} {scope : Scope} {dV kV doc pm cdv ct : Value} {osl : Array (Option Value)}
    (e : K.lookup f = some ⟨oc, od, .func (fnOf name qual params body scope dV kV doc pm an cdv ct), osl⟩) (h : K.lookup f = some ⟨oc, od, .func (fnOf name qual params body scope dV kV doc pm an cdv ct), osl⟩ → P) : P := h e
def forBody : List Stmt → List Stmt
  | _ :: .For _ _ b _ _ :: _ => b
  | _ => []
theorem If_join {M : Model} {A : Around} {t : Sem Flow} {Q : Flow → Shared → Prop} {E : Value → Shared → Prop} {s : Shared} (Mid : Shared → Prop) (h : wpAny M A t (fun fl s' => fl = .next ∧ Mid s') E s) (k : ∀ s', Mid s' → Q .next s') : wpAny M A t Q E s :=
  wpAny_mono h (fun _ s' hm => by rw [hm.1]; exact k s' hm.2) fun _ _ e => e
/-- the pair that is due -/
def DueMid (g : Heap) (L : Addr) (n : Int) (s₀ : Shared) (m : Str → Option Value) (low : List (Addr × Obj)) (s' : Shared) : Prop :=
  ∃ (h' : Heap) (tk' : Nat) (d' : Drawn) (T D : Addr) (zs : List Value) (c : Nat) (ls : List Str) (p : Int) (t : Tok), s' = { s₀ with heap := h', toks := tk', drawn := d' } ∧ Fr g L h' (fun y => if y = Str.ofString "due" then some (.ref T) else m y) ∧
    News g L h' ((T, { cls := .type "tuple", data := .seq #[.ref D, .int p t] }) :: (D, PySem.W.listOf zs.toArray c) :: low) ∧ StrsAre zs ls ∧ (toldI n).Perm ls ∧ p = plainI n
theorem If_due {MM : Model} {A : Around} {t : Sem Flow} {Q : Flow → Shared → Prop} {E : Value → Shared → Prop} {s : Shared} {g : Heap} {L : Addr} {M : Str → Option Value} (_F : Fr g L s.heap M) (n : Int) (low : List (Addr × Obj)) (h : wpAny MM A t (fun fl s' => fl = .next ∧ DueMid g L n s M low s') E s) (k : ∀ s', DueMid g L n s M low s' → Q .next s') : wpAny MM A t Q E s := If_join _ h k
theorem due_of {g : Heap} {L : Addr} {n : Int} {s₀ : Shared} {m : Str → Option Value} {low all : List (Addr × Obj)} {h' : Heap} {tk' : Nat} {d' : Drawn} {T D : Addr} {zs : List Value} {c : Nat} {ls : List Str} {p : Int} {t : Tok} (F : Fr g L h' (fun y => if y = Str.ofString "due" then some (.ref T) else m y)) (N : News g L h' all)
    (h1 : (T, { cls := .type "tuple", data := .seq #[.ref D, .int p t] }) ∈ all) (h2 : (D, PySem.W.listOf zs.toArray c) ∈ all) (h3 : ∀ q ∈ low, q ∈ all) (hS : StrsAre zs ls) (hP : (toldI n).Perm ls) (hp : p = plainI n) : DueMid g L n s₀ m low { s₀ with heap := h', toks := tk', drawn := d' } :=
  ⟨h', tk', d', T, D, zs, c, ls, p, t, rfl, F, fun q hq => by
    rcases List.mem_cons.mp hq with rfl | hq
    · exact N _ h1
    · rcases List.mem_cons.mp hq with rfl | hq
      · exact N _ h2
      · exact N q (h3 q hq), hS, hP, hp⟩
theorem high_is {n : Int} (h : Num n) : n - n % 4194304 = Builtin.bitAnd n 264241152 := by rw [and_all h]; omega
theorem News.sub {h₀ h : Heap} {L : Addr} {a b : List (Addr × Obj)} (N : News h₀ L h b) (sub : ∀ p ∈ a, p ∈ b) : News h₀ L h a := fun p hp => N p (sub p hp)
theorem ctl_in {n : Int} (h : ([9, 13, 27].any fun x => x == n % 4194304) = true) : ¬ ctlK n = true := by
  rcases in3_yes h with e | e | e
  · exact ctl_no9 e
  · exact ctl_no13 e
  · exact ctl_no27 e
theorem ctl_out {n : Int} (h0 : n % 4194304 < 32) (h : ([9, 13, 27].any fun x => x == n % 4194304) = false) : ctlK n = true := ctl_yes h0 (in3_no h).1 (in3_no h).2.1 (in3_no h).2.2
theorem plain_hi {n : Int} (hc : ctlK n = true) (h1 : 1 ≤ n % 4194304) (h2 : n % 4194304 ≤ 26) : n % 4194304 + 96 = plainI n := ((if_pos hc).trans (if_pos ⟨h1, h2⟩)).symm
theorem plain_lo {n : Int} (hc : ctlK n = true) (h : ¬ (1 ≤ n % 4194304 ∧ n % 4194304 ≤ 26)) : n % 4194304 + 64 = plainI n := ((if_pos hc).trans (if_neg h)).symm
theorem sort_six {n : Int} {ls : List Str} (p : ls.Perm (toldI n)) : ∀ x ∈ ls, x ∈ six := fun x hx => told_six n x (p.mem_iff.mp hx)
end Mine
end
section
open PySem PySem.W PySem.Calls PyProof.Rows PySem.Spec
set_option maxRecDepth 100000
set_option maxHeartbeats 4000000
namespace Mine
local macro_rules | `(tactic| walk_at "compareOp NotEq ref ref") => `(tactic| (k_here; k_dflt (refine ke_ne_ints (by kmk_list) (by kmk_list) (by first | exact IntsAre.nil | exact IntsAre.cons _ _ (by with_reducible assumption)) IntsAre.nil (by ktr_units) ?_); (try simp only [reduceCtorEq, decide_false, decide_true, Bool.not_false, Bool.not_true, eq_self])))
local macro_rules | `(tactic| walk_at "compareOp Eq ref ref") => `(tactic| (k_here; k_dflt (refine ke_eq_ints (by kmk_list) (by kmk_list) (by first | exact IntsAre.nil | exact IntsAre.cons _ _ (by with_reducible assumption)) IntsAre.nil (by ktr_units) ?_); (try simp only [reduceCtorEq, decide_false, decide_true, Bool.not_false, Bool.not_true, eq_self])))
local macro_rules | `(tactic| walk_at "call builtin:list.pop") => `(tactic| (k_here; k_dflt (refine' kl_popAt (k := 0) ?F ?N ?f ?k ?e ?U ?z ?_; (case F => k_asm); (case N => k_asm); (case U => k_upd); (case f => rfl); (case k => exact pop_at _ _); (case e => rfl); (case z => exact draw_room (by with_reducible assumption) (by with_reducible assumption))); intro h' F' N'; (try dsimp only [List.nil_append, List.cons_append] at N')))
theorem law_draw_con (w : World) {d : Addr} {c : Nat} {vs : List Value} {ns : List Int} {many : Int} (u : Tok) (hI : IntsAre vs ns) (hD : DeckOK ns) (hm : 0 < many) (hm2 : many < 20) : Con w 106 [(d, PySem.W.listOf vs.toArray c)] [.ref d, .int many u] 10 (RetD d many) := by
  unfold Con
  k_fill
  intro p loose mean mg mb dp un gd cn cs a ccd cl outer A₀ base h₀ L m s Q E B F X N T hk hd hu hret
  refine wpAny_call ?_
  k_dflt (refine' enterP ?k1 ?k2 ?k3 ?k4 ?k5 ?kA ?kF ?kK ?k6 ?k7 ?k8 ?k9 ?kB ?_ ?c2 ?c3 ?c4 ?c5; (case kA => exact rfl); (case kF => exact rfl); (case kK => assumption); (case k1 => k_asm); (case k2 => k_asm); (case k3 => k_asm); (case k4 => k_asm); (case k5 => k_asm); (case k6 => k_is); (case k7 => k_is); (case k8 => ktr_room); (case k9 => exact BindsTo.of_eq rfl); (case c5 => decide); (case kB => exact locs rfl); (case c2 => exact rfl); (case c3 => exact rfl); (case c4 => exact rfl); k_whole; intro g' L' h' kp' sz' FG' F' N' B' X' T'; (try dsimp only); (try k_fold))
  repeat' ((fail_if_success (with_reducible show wpAny _ _ (exec (Stmt.While _ _ _ _) _) _ _ _)); (fail_if_success (with_reducible show WhlRest _ _ _ _ _ _ _ _ _ _ _)); first | (k_unfold; (try dsimp only)) | (k_end; wrow_close) | ((with_reducible show wpAny _ _ (subscriptTail _ (PySem.Expr.Slice _ _ _ _) _ _) _ _ _); walk1) | (dsimp only; walk1) | walk1 | (leave1; walk_say "STEP leave1"; try dsimp only) | fail "no step")
  refine whl_start 0 ?_
  (rename Fr _ _ _ _ => lF'); (rename News _ _ _ _ => lN')
  replace lF' := Fr.know lF' (x := PySem.Str.ofString "many") (v := .int many u) rfl
  replace lF' := Fr.know lF' (x := PySem.Str.ofString "deck") (v := .ref d) rfl
  refine (?H : ∀ (vs : List Value) (ns : List Int) (c : Nat) (h : Heap) (tk : Nat), IntsAre vs ns → DeckOK ns → Fr g' L' h _ → News g' L' h [(d, PySem.W.listOf vs.toArray c)] → WhlRest _ _ _ _ _ _ _ _ _ 0 { s with heap := h, toks := tk }) vs ns c _ _ hI hD lF' lN'
  clear lF' lN' hI hD
  intro vs1
  induction vs1 with
  | nil =>
    intro ns1 c1 h1 tk1 hI1 hD1 F1 N1
    cases hI1
    refine whl_turn (k := 0) (by first | passes_own | with_unfolding_all passes_own) ?_
    repeat' ((fail_if_success (with_reducible show wpAny _ _ (exec (Stmt.While _ _ _ _) _) _ _ _)); (fail_if_success (with_reducible show WhlRest _ _ _ _ _ _ _ _ _ _ _)); first | (k_unfold; (try dsimp only)) | (k_end; wrow_close) | ((with_reducible show wpAny _ _ (subscriptTail _ (PySem.Expr.Slice _ _ _ _) _ _) _ _ _); walk1) | (dsimp only; walk1) | walk1 | (leave1; walk_say "STEP leave1"; try dsimp only) | fail "no step")
    exact draw_nil hret kp' (by assumption) (by assumption) (by assumption) (by k_mem) hm
  | cons v1 vs1 ih =>
    intro ns1 c1 h1 tk1 hI1 hD1 F1 N1
    cases hI1
    rename_i n1 t1 ns1 hI1
    refine whl_turn (k := 0) (by first | passes_own | with_unfolding_all passes_own) ?_
    repeat' ((fail_if_success (with_reducible show wpAny _ _ (exec (Stmt.While _ _ _ _) _) _ _ _)); (fail_if_success (with_reducible show WhlRest _ _ _ _ _ _ _ _ _ _ _)); first | (k_unfold; (try dsimp only)) | (k_end; wrow_close) | ((with_reducible show wpAny _ _ (subscriptTail _ (PySem.Expr.Slice _ _ _ _) _ _) _ _ _); walk1) | (dsimp only; walk1) | walk1 | (leave1; walk_say "STEP leave1"; try dsimp only) | fail "no step")
    · exact ih ns1 _ _ _ hI1 hD1.tail (by assumption) (fun p hp => (by assumption : News _ _ _ _) p (List.mem_cons_of_mem _ hp))
    · exact draw_cons hret kp' (by assumption) (by assumption) (by assumption) (by k_mem) hm hI1 hD1
end Mine
end
section
open PySem PySem.W PySem.Calls PyProof.Rows PySem.Spec
set_option maxRecDepth 100000
set_option maxHeartbeats 8000000
namespace Mine
local macro_rules | `(tactic| walk_at "exec For Name Name cons nil") => `(tactic| (k_here; (rename Fr _ _ _ _ => lF'); (with_unfolding_all refine' For_W lF' (by rfl) (by rfl) ?_); k_whole))
local macro_rules | `(tactic| walk_at "call ref") => `(tactic| (k_here; (with_reducible show wpAny _ _ (call (Value.ref 61) _) _ _ _); k_dflt (refine' Con.use (bit_of_con _ _ _) ?k1 ?k2 ?k3 ?k4 ?k5 ?kK ?kd ?ku ?_; (case k1 => k_asm); (case k2 => k_asm); (case k3 => k_asm); (case k4 => exact News.nil); (case k5 => k_asm); (case kK => first | assumption | exact rfl); (case kd => ktr_room); (case ku => ktr_units)); (rename News _ _ _ _ => lN'); intro t9 h9 tk9 kp9 F9; (have N9 := Kept.news kp9 lN'); clear lN' kp9; (try dsimp only)))
theorem law_turnD (w : World) {oc : Value} {od an : Option Addr} {name qual : Str} {params : Arguments} {body : List Stmt} {scope : Scope} {dV kV doc pm cdv ct : Value} {osl : Array (Option Value)}
    (ho : (hd.heap_39 w.params).lookup 123 = some ⟨oc, od, .func (fnOf name qual params body scope dV kV doc pm an cdv ct), osl⟩)
    {p : Program} {loose : List Str} {mean : ExcName → Option Value} {mg mb : Str → Option Value} {g : Heap} {L f : Addr} {cd : Value} {m : Str → Option Value} {s : Shared} {Q : Flow → Shared → Prop} {E : Value → Shared → Prop}
    (B : Below callerA g [] g) (X : (hd.heap_39 w.params).In g) (T : Top p loose mean mg mb g) (F : Fr g L s.heap m)
    (hE : PassesOwn (model PySem.Challenge.rw_np0002_01.row.prog w) (callerA.deeper (envOfC qual scope L f cd)) (envOfC qual scope L f cd) E) {I d D : Addr} {oI od' cell : Obj} {ys : List Value} {n : Int} {c : Nat}
    (N : News g L s.heap [(D, PySem.W.listOf ys.toArray c), (I, oI), (d, od'), (L + 1, cell)]) (hS : StrsAre ys (toldI n)) (m2 : m (Str.ofString "told_here") = some (.ref D))
    (hQ : ∀ h' tk' d' m', Fr g L h' m' → News g L h' [(I, oI), (d, od'), (L + 1, cell)] → Q .next { s with heap := h', toks := tk', drawn := d' }) :
    wpAny (model PySem.Challenge.rw_np0002_01.row.prog w) (callerA.deeper (envOfC qual scope L f cd)) (execs ((forBody body).drop 12) (envOfC qual scope L f cd)) Q E s := by
  revert X
  k_fill
  intro X
  refine' with_fn ?e (f := 123) (K := hd.heap_39 w.params) ?h
  case e => k_is
  case h =>
  intro e
  cases (e.symm.trans ho)
  clear ho
  dsimp only [forBody, List.drop]
  replace F := Fr.know F m2
  repeat' ((fail_if_success (with_reducible show wpAny _ _ (pyIter _) _ _ _)); first | (k_unfold; (try dsimp only)) | (k_end; wrow_close) | ((with_reducible show wpAny _ _ (subscriptTail _ (PySem.Expr.Slice _ _ _ _) _ _) _ _ _); walk1) | (dsimp only; walk1) | walk1 | (leave1; walk_say "STEP leave1"; try dsimp only) | fail "no step")
  (rename Fr _ _ _ _ => lF'); (rename News _ _ _ _ => lN')
  refine LoopW.list (fun i m₁ news₁ d₁ => news₁ = [(I, oI), (d, od'), (L + 1, cell)]) rfl lF' lN' rfl ?turn ?fin
  case turn =>
    clear lF' lN'
    intro I1 i v m₁ news₁ oI1 s' hv hJ hg ho lt1 off1 F1 N1
    obtain ⟨h3, g3, d3, tk3, os3⟩ := s'
    dsimp only at hg ho F1 N1
    subst hg; subst ho
    (try dsimp only)
    subst hJ
    obtain ⟨x1, tx, rfl, hv2⟩ := hS.item i v hv
    have hx1 := told_six n x1 (List.mem_of_getElem? hv2)
    have hpos := bit_pos hx1
    repeat' ((fail_if_success (with_reducible show wpAny _ _ (pyIter _) _ _ _)); first | (k_unfold; (try dsimp only)) | (k_end; wrow_close) | ((with_reducible show wpAny _ _ (subscriptTail _ (PySem.Expr.Slice _ _ _ _) _ _) _ _ _); walk1) | (dsimp only; walk1) | walk1 | (leave1; walk_say "STEP leave1"; try dsimp only) | fail "no step")
    all_goals first
      | (exfalso; omega)
      | exact StepW.next (news₂ := [(I, oI), (d, od'), (L + 1, cell)]) rfl rfl (by assumption) (by assumption) (by k_sub) off1 rfl
  case fin =>
    clear lF' lN'
    intro s' m' news' hg ho F1 N1 hJ
    obtain ⟨h3, g3, d3, tk3, os3⟩ := s'
    dsimp only at hg ho F1 N1
    subst hg; subst ho
    subst hJ
    (try dsimp only)
    repeat' ((fail_if_success (with_reducible show wpAny _ _ (pyIter _) _ _ _)); first | (k_unfold; (try dsimp only)) | (k_end; wrow_close) | ((with_reducible show wpAny _ _ (subscriptTail _ (PySem.Expr.Slice _ _ _ _) _ _) _ _ _); walk1) | (dsimp only; walk1) | walk1 | (leave1; walk_say "STEP leave1"; try dsimp only) | fail "no step")
    all_goals exact hQ _ _ _ _ F1 (fun p hp => N1 p (List.mem_cons_of_mem _ hp))
end Mine
end
section
open PySem PySem.W PySem.Calls PyProof.Rows PySem.Spec
set_option maxRecDepth 100000
set_option maxHeartbeats 8000000
namespace Mine
local macro_rules | `(tactic| walk_at "call ref") => `(tactic| (k_here; (with_reducible show wpAny _ _ (call (Value.ref 82) _) _ _ _); (rename News _ _ _ _ => lN'); k_dflt (refine' Con.use (number_of_con _ _ ?hS ?h64 ?hx ?hn) ?k1 ?k2 ?k3 ?k4 ?k5 ?kK ?kd ?ku ⟨?hl, ?_⟩; (case hl => kmk_list); (case hS => with_reducible assumption); (case h64 => first | with_reducible assumption | exact told_len _); (case hx => first | with_reducible assumption | exact told_six _); (case hn => first | with_reducible assumption | exact plain_num (by with_reducible assumption)); (case k1 => k_asm); (case k2 => k_asm); (case k3 => k_asm); (case k4 => exact News.nil); (case k5 => k_asm); (case kK => first | assumption | exact rfl); (case kd => ktr_room); (case ku => ktr_units)); intro t9 h9 tk9 kp9 F9; (have N9 := Kept.news kp9 lN'); clear lN' kp9; (try dsimp only)))
local macro_rules | `(tactic| walk_at "call ref") => `(tactic| (k_here; (with_reducible show wpAny _ _ (call (Value.ref 61) _) _ _ _); k_dflt (refine' Con.use (bit_of_con _ _ _) ?k1 ?k2 ?k3 ?k4 ?k5 ?kK ?kd ?ku ?_; (case k1 => k_asm); (case k2 => k_asm); (case k3 => k_asm); (case k4 => exact News.nil); (case k5 => k_asm); (case kK => first | assumption | exact rfl); (case kd => ktr_room); (case ku => ktr_units)); (rename News _ _ _ _ => lN'); intro t9 h9 tk9 kp9 F9; (have N9 := Kept.news kp9 lN'); clear lN' kp9; (try dsimp only)))
local macro_rules | `(tactic| walk_at "binaryOp Add ref ref") => `(tactic| (k_here; k_dflt (refine' kmk_add_lit ?F ?N ?a ?b ?e ?_ ?z; (case F => k_asm); (case N => k_asm); (case a => kmk_list); (case b => kmk_list); (case e => exact rfl); (case z => exact add_room (by with_reducible assumption))); intro D' h' F' N' l1; (try k_lt l1)))
local macro_rules | `(tactic| walk_at "call type:set") => `(tactic| (k_here; k_dflt (refine' set_N ?F ?N ?h ?l ?i ?z ?_; (case F => k_asm); (case N => k_asm); (case h => exact rfl); (case l => kmk_list); (case i => exact add_C (by with_reducible assumption) _); (case z => exact addC_len _)); intro D9 o9 h9 tk9 F9 N9 l1 hSI9; (try k_lt l1); (try dsimp only)))
local macro_rules | `(tactic| walk_at "call builtin:sorted") => `(tactic| (k_here; k_dflt (refine' sorted_N_str ?F ?N ?l ?i ?z ?_; (case F => k_asm); (case N => k_asm); (case l => kmk_list); (case i => with_reducible assumption); (case z => first | exact strs_lt (by with_reducible assumption) (told_len _) | exact strs_lt2 (by with_reducible assumption) (by with_reducible assumption) (told_len _))); intro h9 vs9 ss9 c9 F9 N9 hS9 hP9 hO9; (try dsimp only)))
local macro_rules | `(tactic| walk_at "call builtin:sorted") => `(tactic| (k_here; k_dflt (refine' sortedSet_N ?F ?N ?h ?m ?S ?a ?z ?_; (case F => k_asm); (case N => k_asm); (case h => exact rfl); (case S => with_reducible assumption); (case m => k_mem); (case a => exact ddC_pos _); (case z => exact ddC_len _)); intro D9 vs9 ss9 c9 h9 tk9 d9 F9 N9 l1 hS9 hP9 hO9; (try k_lt l1); (try dsimp only)))
local macro_rules | `(tactic| walk_at "compareOp NotIn str ref") => `(tactic| (k_here; k_dflt (refine notin_list_strs (by kmk_list) (by with_reducible assumption) ?_)))
local macro_rules | `(tactic| walk_at "compareOp NotEq ref ref") => `(tactic| (k_here; k_dflt (refine' ne_pair ?N ?a ?b ?c ?d ?i ?j ?x ?e ?n ?u ?_; (case N => k_asm); (case a => k_mem); (case b => k_mem); (case c => k_mem); (case d => k_mem); (case i => with_reducible assumption); (case j => with_reducible assumption); (case e => exact sorted_one (by with_reducible assumption) (by with_reducible assumption) (List.Perm.trans (by with_reducible assumption) (List.Perm.trans (by with_reducible assumption) (List.Perm.symm (by with_reducible assumption))))); (case x => exact sort_six (by with_reducible assumption)); (case n => exact rfl); (case u => ke_room))))
theorem law_turnC (w : World) {oc : Value} {od an : Option Addr} {name qual : Str} {params : Arguments} {body : List Stmt} {scope : Scope} {dV kV doc pm cdv ct : Value} {osl : Array (Option Value)}
    (ho : (hd.heap_39 w.params).lookup 123 = some ⟨oc, od, .func (fnOf name qual params body scope dV kV doc pm an cdv ct), osl⟩)
    {p : Program} {loose : List Str} {mean : ExcName → Option Value} {mg mb : Str → Option Value} {g : Heap} {L f : Addr} {cd : Value} {m : Str → Option Value} {s : Shared} {Q : Flow → Shared → Prop} {E : Value → Shared → Prop}
    (B : Below callerA g [] g) (X : (hd.heap_39 w.params).In g) (T : Top p loose mean mg mb g) (F : Fr g L s.heap m)
    (hE : PassesOwn (model PySem.Challenge.rw_np0002_01.row.prog w) (callerA.deeper (envOfC qual scope L f cd)) (envOfC qual scope L f cd) E) {I d D O : Addr} {oI od' cell : Obj} {ys zs : List Value} {n k : Int} {c c' : Nat} {tn tp tk : Tok}
    (N : News g L s.heap [(D, PySem.W.listOf ys.toArray c), (O, PySem.W.listOf zs.toArray c'), (I, oI), (d, od'), (L + 1, cell)]) (hn : Num n)
    (hS : StrsAre ys (toldI n)) (hS2 : StrsAre zs (lettersI n)) (hk : k = n % 4194304)
    (m1 : m (Str.ofString "number") = some (.int n tn)) (m2 : m (Str.ofString "told_here") = some (.ref D)) (m3 : m (Str.ofString "plain_here") = some (.int (plainI n) tp)) (m4 : m (Str.ofString "code") = some (.int k tk)) (m5 : m (Str.ofString "own") = some (.ref O))
    (hQ : ∀ h' tk' d' m', Fr g L h' m' → News g L h' [(I, oI), (d, od'), (L + 1, cell)] → Q .next { s with heap := h', toks := tk', drawn := d' }) :
    wpAny (model PySem.Challenge.rw_np0002_01.row.prog w) (callerA.deeper (envOfC qual scope L f cd)) (execs ((forBody body).drop 8) (envOfC qual scope L f cd)) Q E s := by
  revert X
  k_fill
  intro X
  refine' with_fn ?e (f := 123) (K := hd.heap_39 w.params) ?h
  case e => k_is
  case h =>
  intro e
  cases (e.symm.trans ho)
  clear ho
  dsimp only [forBody, List.drop]
  subst hk
  replace F := Fr.know F m5
  replace F := Fr.know F ((if_neg (by decide +kernel)).trans m4)
  replace F := Fr.know F ((if_neg (by decide +kernel)).trans ((if_neg (by decide +kernel)).trans m3))
  replace F := Fr.know F ((if_neg (by decide +kernel)).trans ((if_neg (by decide +kernel)).trans ((if_neg (by decide +kernel)).trans m2)))
  replace F := Fr.know F ((if_neg (by decide +kernel)).trans ((if_neg (by decide +kernel)).trans ((if_neg (by decide +kernel)).trans ((if_neg (by decide +kernel)).trans m1))))
  refine wpAny_execs_cons ?_
  refine If_due F n [(D, PySem.W.listOf ys.toArray c), (O, PySem.W.listOf zs.toArray c'), (I, oI), (d, od'), (L + 1, cell)] ?dueA ?dueB
  case dueA =>
    repeat' ((fail_if_success (with_reducible show wpAny _ _ (pyIter _) _ _ _)); first | (k_unfold; (try dsimp only)) | (k_end; wrow_close) | ((with_reducible show wpAny _ _ (subscriptTail _ (PySem.Expr.Slice _ _ _ _) _ _) _ _ _); walk1) | (dsimp only; walk1) | walk1 | (leave1; walk_say "STEP leave1"; try dsimp only) | fail "no step")
    · have hc := ctl_in (by assumption)
      exact due_of (by assumption) (by assumption) (by k_mem) (by k_mem) (by k_sub) hS2 ((told_no hc).symm ▸ List.Perm.refl _) (plain_no hc).symm
    · have hc := ctl_out (by assumption) (by assumption)
      exact due_of (by assumption) (by assumption) (by k_mem) (by k_mem) (by k_sub) (by assumption) (told_perm hc (by assumption)) (plain_hi hc (by assumption) (by assumption))
    · have hc := ctl_out (by assumption) (by assumption)
      exact due_of (by assumption) (by assumption) (by k_mem) (by k_mem) (by k_sub) (by assumption) (told_perm hc (by assumption)) (plain_lo hc (by omega))
    · have hc := ctl_out (by assumption) (by assumption)
      exact due_of (by assumption) (by assumption) (by k_mem) (by k_mem) (by k_sub) (by assumption) (told_perm hc (by assumption)) (plain_lo hc (by omega))
    · have hc := ctlK_n (by assumption)
      exact due_of (by assumption) (by assumption) (by k_mem) (by k_mem) (by k_sub) hS2 ((told_no hc).symm ▸ List.Perm.refl _) (plain_no hc).symm
  case dueB =>
    clear N F
    intro s' hm
    obtain ⟨h', tk', d', T2, D2, zs2, c2, ls2, p2, t2, rfl, F2, N2, hS3, hP3, rfl⟩ := hm
    dsimp only
    repeat' ((fail_if_success (with_reducible show wpAny _ _ (execs (Stmt.For _ _ _ _ _ :: _) _) _ _ _)); first | (k_unfold; (try dsimp only)) | (k_end; wrow_close) | ((with_reducible show wpAny _ _ (subscriptTail _ (PySem.Expr.Slice _ _ _ _) _ _) _ _ _); walk1) | (dsimp only; walk1) | walk1 | (leave1; walk_say "STEP leave1"; try dsimp only) | fail "no step")
    all_goals first
      | exact absurd (back hn (by assumption)) (by assumption)
      | exact absurd ((fmod22 _).trans (congrArg (· % 4194304) (back hn (by assumption)))) (by assumption)
      | exact law_turnD w e B X T (by assumption) hE (News.sub (by assumption) (List.forall_mem_cons.mpr ⟨by k_mem, List.forall_mem_cons.mpr ⟨by k_mem, List.forall_mem_cons.mpr ⟨by k_mem, List.forall_mem_cons.mpr ⟨by k_mem, List.forall_mem_nil _⟩⟩⟩⟩)) hS rfl fun h' tk' d' m' F N => hQ h' tk' d' m' F N
end Mine
end
section
open PySem PySem.W PySem.Calls PyProof.Rows PySem.Spec
set_option maxRecDepth 100000
set_option maxHeartbeats 8000000
namespace Mine
local macro_rules | `(tactic| walk_at "call ref") => `(tactic| (k_here; (with_reducible show wpAny _ _ (call (Value.ref 82) _) _ _ _); (rename News _ _ _ _ => lN'); k_dflt (refine' Con.use (number_of_con _ _ ?hS ?h64 ?hx ?hn) ?k1 ?k2 ?k3 ?k4 ?k5 ?kK ?kd ?ku ⟨?hl, ?_⟩; (case hl => kmk_list); (case hS => with_reducible assumption); (case h64 => first | with_reducible assumption | exact told_len _); (case hx => first | with_reducible assumption | exact told_six _); (case hn => first | with_reducible assumption | exact plain_num (by with_reducible assumption)); (case k1 => k_asm); (case k2 => k_asm); (case k3 => k_asm); (case k4 => exact News.nil); (case k5 => k_asm); (case kK => first | assumption | exact rfl); (case kd => ktr_room); (case ku => ktr_units)); intro t9 h9 tk9 kp9 F9; (have N9 := Kept.news kp9 lN'); clear lN' kp9; (try dsimp only)))
local macro_rules | `(tactic| walk_at "call ref") => `(tactic| (k_here; (with_reducible show wpAny _ _ (call (Value.ref 89) _) _ _ _); (rename News _ _ _ _ => lN'); k_dflt (refine' Con.use (key_parts_con _ _ (by with_reducible assumption)) ?k1 ?k2 ?k3 ?k4 ?k5 ?kK ?kd ?ku ?_; (case k1 => k_asm); (case k2 => k_asm); (case k3 => k_asm); (case k4 => exact News.nil); (case k5 => k_asm); (case kK => first | assumption | exact rfl); (case kd => ktr_room); (case ku => ktr_units)); intro D9 T9 ys9 c9 t9 h9 tk9 kp9 F9 N8 hDT9 hD9 hS9; (have N9 := News.join2 N8 (Kept.news kp9 lN')); (have off9 := News.offD lN' hD9); clear lN' kp9 N8; (try dsimp only at N9); (try dsimp only)))
local macro_rules | `(tactic| walk_at "call ref") => `(tactic| (k_here; (with_reducible show wpAny _ _ (call (Value.ref 54) _) _ _ _); k_dflt (refine' Con.use (letters_of_con _ _ (by with_reducible assumption)) ?k1 ?k2 ?k3 ?k4 ?k5 ?kK ?kd ?ku ?_; (case k1 => k_asm); (case k2 => k_asm); (case k3 => k_asm); (case k4 => exact News.nil); (case k5 => k_asm); (case kK => first | assumption | exact rfl); (case kd => ktr_room); (case ku => ktr_units)); (rename News _ _ _ _ => lN'); (rename Fr _ _ _ _ => lF'); intro D9 ys9 c9 h9 tk9 kp9 F9 N8 hD9 hS9; (have N9 := News.join N8 (Kept.news kp9 lN')); (have off9 := News.offD lN' hD9); (have hG9 := Nat.le_trans (Fr.size lF') hD9); clear lN' kp9 N8; (try dsimp only at N9); (try dsimp only)))
local macro_rules | `(tactic| walk_at "call ref") => `(tactic| (k_here; (with_reducible show wpAny _ _ (call (Value.ref 118) _) _ _ _); k_dflt (refine' Con.use (law_letters_con _ _) ?k1 ?k2 ?k3 ?k4 ?k5 ?kK ?kd ?ku ?_; (case k1 => k_asm); (case k2 => k_asm); (case k3 => k_asm); (case k4 => exact News.nil); (case k5 => k_asm); (case kK => first | assumption | exact rfl); (case kd => ktr_room); (case ku => ktr_units)); (rename News _ _ _ _ => lN'); (rename Fr _ _ _ _ => lF'); intro D9 ys9 c9 h9 tk9 kp9 F9 N8 hD9 hS9; (have N9 := News.join N8 (Kept.news kp9 lN')); (have off9 := News.offD lN' hD9); (have hG9 := Nat.le_trans (Fr.size lF') hD9); clear lN' kp9 N8; (try dsimp only at N9); (try dsimp only)))
local macro_rules | `(tactic| walk_at "call ref") => `(tactic| (k_here; (with_reducible show wpAny _ _ (call (Value.ref 49) _) _ _ _); k_dflt (refine' Con.use (base_of_con _ _ (by with_reducible assumption)) ?k1 ?k2 ?k3 ?k4 ?k5 ?kK ?kd ?ku ?_; (case k1 => k_asm); (case k2 => k_asm); (case k3 => k_asm); (case k4 => exact News.nil); (case k5 => k_asm); (case kK => first | assumption | exact rfl); (case kd => ktr_room); (case ku => ktr_units)); (rename News _ _ _ _ => lN'); intro t9 h9 tk9 kp9 F9; (have N9 := Kept.news kp9 lN'); clear lN' kp9; (try dsimp only)))
local macro_rules | `(tactic| walk_at "call ref") => `(tactic| (k_here; (with_reducible show wpAny _ _ (call (Value.ref 61) _) _ _ _); k_dflt (refine' Con.use (bit_of_con _ _ _) ?k1 ?k2 ?k3 ?k4 ?k5 ?kK ?kd ?ku ?_; (case k1 => k_asm); (case k2 => k_asm); (case k3 => k_asm); (case k4 => exact News.nil); (case k5 => k_asm); (case kK => first | assumption | exact rfl); (case kd => ktr_room); (case ku => ktr_units)); (rename News _ _ _ _ => lN'); intro t9 h9 tk9 kp9 F9; (have N9 := Kept.news kp9 lN'); clear lN' kp9; (try dsimp only)))
local macro_rules | `(tactic| walk_at "compareOp NotEq ref ref") => `(tactic| (k_here; k_dflt (refine ne_strs (by kmk_list) (by kmk_list) (by with_reducible assumption) (by with_reducible assumption) (letters_six _) (by ke_room) ?_)))
theorem law_turnB (w : World) {oc : Value} {od an : Option Addr} {name qual : Str} {params : Arguments} {body : List Stmt} {scope : Scope} {dV kV doc pm cdv ct : Value} {osl : Array (Option Value)}
    (ho : (hd.heap_39 w.params).lookup 123 = some ⟨oc, od, .func (fnOf name qual params body scope dV kV doc pm an cdv ct), osl⟩)
    {p : Program} {loose : List Str} {mean : ExcName → Option Value} {mg mb : Str → Option Value} {g : Heap} {L f : Addr} {cd : Value} {m : Str → Option Value} {s : Shared} {Q : Flow → Shared → Prop} {E : Value → Shared → Prop}
    (B : Below callerA g [] g) (X : (hd.heap_39 w.params).In g) (T : Top p loose mean mg mb g) (F : Fr g L s.heap m)
    (hE : PassesOwn (model PySem.Challenge.rw_np0002_01.row.prog w) (callerA.deeper (envOfC qual scope L f cd)) (envOfC qual scope L f cd) E) {I d l : Addr} {oI od' cell : Obj} {us : List Value} {ls : List Str} {b0 : Int} {c : Nat} {tb tn : Tok}
    (N : News g L s.heap [(l, PySem.W.listOf us.toArray c), (I, oI), (d, od'), (L + 1, cell)])
    (hS : StrsAre us ls) (h64 : ls.length < 64) (hx : ∀ x ∈ ls, x ∈ six) (h0 : 0 ≤ b0) (h1 : b0 < 4194304)
    (m1 : m (Str.ofString "letters_here") = some (.ref l)) (m2 : m (Str.ofString "base") = some (.int b0 tb)) (m3 : m (Str.ofString "number") = some (.int (numI ls b0) tn))
    (hQ : ∀ h' tk' d' m', Fr g L h' m' → News g L h' [(I, oI), (d, od'), (L + 1, cell)] → Q .next { s with heap := h', toks := tk', drawn := d' }) :
    wpAny (model PySem.Challenge.rw_np0002_01.row.prog w) (callerA.deeper (envOfC qual scope L f cd)) (execs ((forBody body).drop 4) (envOfC qual scope L f cd)) Q E s := by
  revert X
  k_fill
  intro X
  refine' with_fn ?e (f := 123) (K := hd.heap_39 w.params) ?h
  case e => k_is
  case h =>
  intro e
  cases (e.symm.trans ho)
  clear ho
  dsimp only [forBody, List.drop]
  replace F := Fr.know F m3
  replace F := Fr.know F ((if_neg (by decide +kernel)).trans m2)
  replace F := Fr.know F ((if_neg (by decide +kernel)).trans ((if_neg (by decide +kernel)).trans m1))
  have hnb := base_num h0 h1
  have hnn := num_num hx hnb
  repeat' ((fail_if_success (with_reducible show wpAny _ _ (pyIter _) _ _ _)); (fail_if_success (with_reducible show wpAny _ _ (execs (Stmt.If (Expr.BoolOp BoolOp.And _ _) _ (_ :: _) _ :: _) _) _ _ _)); first | (k_unfold; (try dsimp only)) | (k_end; wrow_close) | ((with_reducible show wpAny _ _ (subscriptTail _ (PySem.Expr.Slice _ _ _ _) _ _) _ _ _); walk1) | (dsimp only; walk1) | walk1 | (leave1; walk_say "STEP leave1"; try dsimp only) | fail "no step")
  all_goals first
    | exact absurd rfl (by assumption)
    | exact absurd (fmod22 _).symm (by assumption)
    | exact absurd (high_is hnn) (by assumption)
    | ((rename Fr _ _ _ _ => lF'); (rename News _ _ _ _ => lN'); exact law_turnC w e B X T lF' hE (News.sub lN' (List.forall_mem_cons.mpr ⟨by k_mem, List.forall_mem_cons.mpr ⟨by k_mem, List.forall_mem_cons.mpr ⟨by k_mem, List.forall_mem_cons.mpr ⟨by k_mem, List.forall_mem_cons.mpr ⟨by k_mem, List.forall_mem_nil _⟩⟩⟩⟩⟩)) hnn (by assumption) (by assumption) (fmod22 _) rfl rfl rfl rfl rfl fun h' tk' d' m' F N => hQ h' tk' d' m' F N)
end Mine
end
section
open PySem PySem.W PySem.Calls PyProof.Rows PySem.Spec
set_option maxRecDepth 100000
set_option maxHeartbeats 8000000
namespace Mine
theorem app_six {ls : List Str} {x : Str} (h : ∀ y ∈ ls, y ∈ six) (hx : x ∈ six) : ∀ y ∈ ls ++ [x], y ∈ six := fun y hy => by
  rcases List.mem_append.mp hy with hy | hy
  · exact h y hy
  · rw [List.mem_singleton.mp hy]; exact hx
theorem base_ok {r : Int} (h0 : 0 ≤ r) (h1 : r < 18) : 0 ≤ ([97, 64, 90, 63, 32, 9, 13, 27, 127, 0, 10, 28, 95, 955, 2 ^ Int.toNat 22 - 1, 96, 123, 5] : List Int).getD r.toNat 0 ∧ ([97, 64, 90, 63, 32, 9, 13, 27, 127, 0, 10, 28, 95, 955, 2 ^ Int.toNat 22 - 1, 96, 123, 5] : List Int).getD r.toNat 0 < 4194304 := by
  have k : ∀ j : Fin 18, 0 ≤ ([97, 64, 90, 63, 32, 9, 13, 27, 127, 0, 10, 28, 95, 955, 2 ^ Int.toNat 22 - 1, 96, 123, 5] : List Int).getD j.val 0 ∧ ([97, 64, 90, 63, 32, 9, 13, 27, 127, 0, 10, 28, 95, 955, 2 ^ Int.toNat 22 - 1, 96, 123, 5] : List Int).getD j.val 0 < 4194304 := by decide
  exact k ⟨r.toNat, by omega⟩
theorem rng_cases {b : Int} (h0 : 0 ≤ b) (h1 : b < 4) : b = 0 ∨ b = 1 ∨ b = 2 ∨ b = 3 := by omega
theorem rng_small {b : Int} (h0 : 0 ≤ b) (h1 : b < 4) : Builtin.Range.small 0 b 1 = true := by
  rcases rng_cases h0 h1 with rfl | rfl | rfl | rfl <;> decide
theorem rng_n {b : Int} (h0 : 0 ≤ b) (h1 : b < 4) : Builtin.Range.rangeSize 0 b 1 = ((b.toNat : Nat) : Int) := by
  rcases rng_cases h0 h1 with rfl | rfl | rfl | rfl <;> decide
theorem rng_sz {b : Int} (h1 : b < 4) : b.toNat ≤ sizeLine := Nat.le_trans (by omega : b.toNat ≤ 4) (by decide)
theorem rng_le {b : Int} (h1 : b < 4) : 0 + b.toNat ≤ 3 := by omega
theorem six_at {r : Int} (h0 : 0 ≤ r) (h1 : r < 6) : ([Str.ofString "C", Str.ofString "M", Str.ofString "S", Str.ofString "A", Str.ofString "H", Str.ofString "s"] : List Str).getD r.toNat (Str.ofString "") ∈ six := by
  have : r = 0 ∨ r = 1 ∨ r = 2 ∨ r = 3 ∨ r = 4 ∨ r = 5 := by omega
  rcases this with rfl | rfl | rfl | rfl | rfl | rfl <;> decide +kernel
local macro_rules | `(tactic| walk_at "call ref") => `(tactic| (k_here; (with_reducible show wpAny _ _ (call (Value.ref 106) _) _ _ _); (rename News _ _ _ _ => lN'); k_dflt (refine' Con.use (law_draw_con _ _ ?hI ?hD ?hm ?hm2) ?k1 ?k2 ?k3 ?k4 ?k5 ?kK ?kd ?ku ?_; (case k4 => exact News.one lN' (by k_mem)); (case hI => with_reducible assumption); (case hD => with_reducible assumption); (case hm => decide); (case hm2 => decide); (case k1 => k_asm); (case k2 => k_asm); (case k3 => k_asm); (case k5 => k_asm); (case kK => first | assumption | exact rfl); (case kd => ktr_room); (case ku => ktr_units)); intro r9 t9 vs9 ns9 c9 h9 tk9 kp9 F9 N8 hI9 hD9 h09 h19; (have N9 := News.upd lN' (by k_upd) kp9 N8); clear lN' kp9 N8; (try dsimp only at N9); (try dsimp only)))
local macro_rules | `(tactic| walk_at "exec Assign cons ListComp") => `(tactic| (k_here; k_dflt (refine LCg.Assign_ListComp_U (F₀ := by k_asm) (by rfl) (by with_unfolding_all rfl) (by with_unfolding_all rfl) (by decide) (by rfl) (by decide) (by rfl) (by rfl) (by rfl) ?_)))
local macro_rules | `(tactic| walk_at "subscriptTail Name Slice ref ref") => `(tactic| (k_here; (with_reducible show wpAny _ _ (subscriptTail _ (PySem.Expr.Slice none none (some _) _) (Value.ref _) (Value.ref _)) _ _ _); k_dflt (refine' krv_lit ?F ?N ?l ?k ?e ?_ ?s ?t ?z; (case F => k_asm); (case N => k_asm); (case l => kmk_list); (case k => exact IsPart.int _ _); (case e => exact rfl); (case s => with_unfolding_all rfl); (case t => kmk_pure); (case z => with_reducible assumption)); intro D' h' F' N' l1; (try k_lt l1)))
local macro_rules | `(tactic| walk_at "exec For Name Subscript cons nil") => `(tactic| (k_here; (rename Fr _ _ _ _ => lF'); (with_unfolding_all refine' For_W lF' (by rfl) (by rfl) ?_); k_whole))
local macro_rules | `(tactic| walk_at "call ref") => `(tactic| (k_here; (with_reducible show wpAny _ _ (call (Value.ref 113) _) _ _ _); k_dflt (refine' Con.use (put_con _ _ _ (by with_reducible assumption) (by with_reducible assumption)) ?k1 ?k2 ?k3 ?k4 ?k5 ?kK ?kd ?ku ?_; (case k1 => k_asm); (case k2 => k_asm); (case k3 => k_asm); (case k4 => exact News.nil); (case k5 => k_asm); (case kK => first | assumption | exact rfl); (case kd => ktr_room); (case ku => ktr_units)); (rename News _ _ _ _ => lN'); intro t9 h9 tk9 kp9 F9; (have N9 := Kept.news kp9 lN'); clear lN' kp9; (try dsimp only)))
theorem law_turn (w : World) {oc : Value} {od an : Option Addr} {name qual : Str} {params : Arguments} {body : List Stmt} {scope : Scope} {dV kV doc pm cdv ct : Value} {osl : Array (Option Value)}
    (ho : (hd.heap_39 w.params).lookup 123 = some ⟨oc, od, .func (fnOf name qual params body scope dV kV doc pm an cdv ct), osl⟩)
    {p : Program} {loose : List Str} {mean : ExcName → Option Value} {mg mb : Str → Option Value} {g : Heap} {L f : Addr} {cd : Value} {m : Str → Option Value} {s : Shared} {Q : Flow → Shared → Prop} {E : Value → Shared → Prop}
    (B : Below callerA g [] g) (X : (hd.heap_39 w.params).In g) (T : Top p loose mean mg mb g) (F : Fr g L s.heap m)
    (hE : PassesOwn (model PySem.Challenge.rw_np0002_01.row.prog w) (callerA.deeper (envOfC qual scope L f cd)) (envOfC qual scope L f cd) E) {bb : List Stmt} (hbb : bb = forBody body) {I d : Addr} {oI cell : Obj} {vs : List Value} {ns : List Int} {c : Nat}
    (N : News g L s.heap [(I, oI), (d, PySem.W.listOf vs.toArray c), (L + 1, cell)]) (hI : IntsAre vs ns) (hD : DeckOK ns) (hc : cell.data = .cell (some (.ref d))) (l1 : @Ne Nat (L + 1) d) (l2 : @Ne Nat d I)
    (hQ : ∀ h' tk' d' m' vs' ns' c', Fr g L h' m' → News g L h' [(I, oI), (d, PySem.W.listOf (List.toArray vs') c'), (L + 1, cell)] → IntsAre vs' ns' → DeckOK ns' → Q .next { s with heap := h', toks := tk', drawn := d' }) :
    wpAny (model PySem.Challenge.rw_np0002_01.row.prog w) (callerA.deeper (envOfC qual scope L f cd)) (execs (bb) (envOfC qual scope L f cd)) Q E s := by
  revert X
  k_fill
  intro X
  refine' with_fn ?e (f := 123) (K := hd.heap_39 w.params) ?h
  case e => k_is
  case h =>
  intro e
  cases (e.symm.trans ho)
  clear ho
  subst hbb
  (try dsimp only [forBody, List.drop])
  repeat' ((fail_if_success (with_reducible show wpAny _ _ (pyIter _) _ _ _)); (fail_if_success (with_reducible show LCg.CompSrc _ _ _ _ _ _ _ _ _ _ _ _ _ _)); first | (k_unfold; (try dsimp only)) | (k_end; wrow_close) | ((with_reducible show wpAny _ _ (subscriptTail _ (PySem.Expr.Slice _ _ _ _) _ _) _ _ _); walk1) | (dsimp only; walk1) | walk1 | (leave1; walk_say "STEP leave1"; try dsimp only) | fail "no step")
  (rename Fr _ _ _ _ => lF'); (rename News _ _ _ _ => lN'); (rename IsRange _ _ _ _ _ _ _ _ => hr)
  refine' LCg.CompSrc.range rfl lF' (News.sub lN' (List.forall_mem_cons.mpr ⟨by k_mem, List.forall_mem_cons.mpr ⟨by k_mem, List.forall_mem_cons.mpr ⟨by k_mem, List.forall_mem_nil _⟩⟩⟩) : News g L _ [(I, oI), (d, PySem.W.listOf (List.toArray _) _), (L + 1, cell)]) hr (rng_small (by assumption) (by assumption)) (rng_n (by assumption) (by assumption)) (rng_sz (by assumption)) ?_
  intro g'
  refine (?H : ∀ (k i : Nat) (ys : List Value) (ls : List Str) (vs : List Value) (ns : List Int) (c : Nat), StrsAre ys ls → (∀ x ∈ ls, x ∈ six) → ls.length = i → i + k ≤ 3 → IntsAre vs ns → DeckOK ns → LCg.CompRest _ _ _ _ _ _ _ _ _ _ _ _ _ _ _ k i ys [(I, oI), (d, PySem.W.listOf vs.toArray c), (L + 1, cell)]) _ 0 [] [] _ _ _ .nil (fun _ h => nomatch h) rfl (rng_le (by assumption)) (by assumption) (by assumption)
  intro k
  induction k with
  | zero =>
    intro i ys ls vs2 ns2 c2 hS2 hx2 hl2 hk2 hI2 hD2
    refine LCg.CompRest.zero ?_
    intro D h tk F2 N2 o2
    have hz9 : ys.toArray.size ≤ sizeLine := by rw [List.size_toArray, hS2.length]; exact Nat.le_trans (by omega : ls.length ≤ 3) (by decide)
    simp only [LCg.Off1, and_true] at o2
    repeat' ((fail_if_success (with_reducible show LCg.CompEnd _ _ _ _ _ _ _ _ _ _ _ _ _ _)); (fail_if_success (with_reducible show wpAny _ _ (pyIter _) _ _ _)); (fail_if_success (with_reducible show LCg.CompSrc _ _ _ _ _ _ _ _ _ _ _ _ _ _)); first | (k_unfold; (try dsimp only)) | (k_end; wrow_close) | ((with_reducible show wpAny _ _ (subscriptTail _ (PySem.Expr.Slice _ _ _ _) _ _) _ _ _); walk1) | (dsimp only; walk1) | walk1 | (leave1; walk_say "STEP leave1"; try dsimp only) | fail "no step")
    (rename Fr _ _ _ _ => lF'); (rename News _ _ _ _ => lN')
    refine LoopW.list (fun i₁ m₁ news₁ _ => news₁ = [(D, LCg.lst ys), (I, oI), (d, PySem.W.listOf vs2.toArray c2), (L + 1, cell)] ∧ ∃ B tB t, 0 ≤ B ∧ B < 4194304 ∧ m₁ (PySem.Str.ofString "base") = some (.int B tB) ∧ m₁ (PySem.Str.ofString "number") = some (.int (numL ls B i₁) t) ∧ m₁ (PySem.Str.ofString "letters_here") = some (.ref D)) rfl lF' lN'
      ⟨rfl, _, _, _, (base_ok (by assumption) (by assumption)).1, (base_ok (by assumption) (by assumption)).2, rfl, rfl, rfl⟩ ?turn ?fin
    case turn =>
      clear lF' lN'
      intro I2 i2 v m₁ news₁ oI2 s' hv hJ hg ho lt1 off1 F1 N1
      obtain ⟨h3, g3, d3, tk3, os3⟩ := s'
      dsimp only at hg ho F1 N1
      subst hg; subst ho
      (try dsimp only)
      obtain ⟨rfl, B0, tB0, t0, hB0, hB1, mb1, mn1, ml1⟩ := hJ
      obtain ⟨x1, tx, rfl, hv2⟩ := (StrsAre.rev' hS2).item i2 v hv
      have hx1 := hx2 x1 (List.mem_reverse.mp (List.mem_of_getElem? hv2))
      have hn1 := numL_num hx2 (base_num hB0 hB1) i2
      replace F1 := Fr.know F1 (x := PySem.Str.ofString "number") ((if_neg (by decide +kernel)).trans mn1)
      replace F1 := Fr.know F1 (x := PySem.Str.ofString "letter") ((if_neg (by decide +kernel)).trans (if_pos rfl))
      repeat' ((fail_if_success (with_reducible show LCg.CompEnd _ _ _ _ _ _ _ _ _ _ _ _ _ _)); (fail_if_success (with_reducible show wpAny _ _ (pyIter _) _ _ _)); (fail_if_success (with_reducible show LCg.CompSrc _ _ _ _ _ _ _ _ _ _ _ _ _ _)); first | (k_unfold; (try dsimp only)) | (k_end; wrow_close) | ((with_reducible show wpAny _ _ (subscriptTail _ (PySem.Expr.Slice _ _ _ _) _ _) _ _ _); walk1) | (dsimp only; walk1) | walk1 | (leave1; walk_say "STEP leave1"; try dsimp only) | fail "no step")
      refine StepW.next (news₂ := [(D, LCg.lst ys), (I, oI), (d, PySem.W.listOf vs2.toArray c2), (L + 1, cell)]) rfl rfl (by assumption) (by assumption) (by k_sub) off1 ⟨rfl, B0, tB0, _, hB0, hB1, by exact (if_neg (by decide +kernel)).trans ((if_neg (by decide +kernel)).trans ((if_neg (by decide +kernel)).trans ((if_neg (by decide +kernel)).trans mb1))), by rw [numL_succ hv2]; exact if_pos rfl, by exact (if_neg (by decide +kernel)).trans ((if_neg (by decide +kernel)).trans ((if_neg (by decide +kernel)).trans ((if_neg (by decide +kernel)).trans ml1)))⟩
    case fin =>
      clear lF' lN'
      intro s' m' news' hg ho F1 N1 hJ
      obtain ⟨h3, g3, d3, tk3, os3⟩ := s'
      dsimp only at hg ho F1 N1
      subst hg; subst ho
      obtain ⟨rfl, B0, tB0, t0, hB0, hB1, mb1, mn1, ml1⟩ := hJ
      simp only [List.length_reverse] at mn1
      rw [hS2.length, numL_end] at mn1
      exact law_turnB w e B X T F1 hE (News.sub N1 (by k_sub)) hS2 (by omega) hx2 hB0 hB1 ml1 mb1 mn1 fun h' tk' d' m' F N => hQ h' tk' d' m' _ _ _ F N hI2 hD2
  | succ k ih =>
    intro i ys ls vs2 ns2 c2 hS2 hx2 hl2 hk2 hI2 hD2
    refine LCg.CompRest.succ ?_
    intro v I1 oI1 C oC D1 m2 h tk E' hP hC hm F1 N1 off1 ne1
    simp only [LCg.Off3, and_true] at off1
    repeat' ((fail_if_success (with_reducible show LCg.CompEnd _ _ _ _ _ _ _ _ _ _ _ _ _ _)); (fail_if_success (with_reducible show wpAny _ _ (pyIter _) _ _ _)); (fail_if_success (with_reducible show LCg.CompSrc _ _ _ _ _ _ _ _ _ _ _ _ _ _)); first | (k_unfold; (try dsimp only)) | (k_end; wrow_close) | ((with_reducible show wpAny _ _ (subscriptTail _ (PySem.Expr.Slice _ _ _ _) _ _) _ _ _); walk1) | (dsimp only; walk1) | walk1 | (leave1; walk_say "STEP leave1"; try dsimp only) | fail "no step")
    all_goals (refine LCg.CompEnd.intro (by assumption) (by assumption) [(I, oI), (d, PySem.W.listOf (List.toArray _) _), (L + 1, cell)] (List.forall_mem_cons.mpr ⟨by k_mem, List.forall_mem_cons.mpr ⟨by k_mem, List.forall_mem_cons.mpr ⟨by k_mem, List.forall_mem_cons.mpr ⟨by k_mem, List.forall_mem_cons.mpr ⟨by k_mem, List.forall_mem_cons.mpr ⟨by k_mem, List.forall_mem_nil _⟩⟩⟩⟩⟩⟩) (by simp only [LCg.Off3, and_true]; exact off1) trivial (ih _ _ _ _ _ _ (StrsAre.append' hS2 (.cons _ _ .nil)) (app_six hx2 (by decide +kernel)) (by rw [List.length_append, hl2]; rfl) (by omega) (by assumption) (by assumption)))
end Mine
end
section
open PySem PySem.W PySem.Calls PyProof.Rows PySem.Spec
set_option maxRecDepth 100000
set_option maxHeartbeats 8000000
namespace Mine
theorem ne_right {a b c : Nat} (h : @Ne Nat a c ∧ @Ne Nat b c) : @Ne Nat b c := h.2
theorem off_same {d I l : Addr} {o o' c : Obj} (h : ∀ p ∈ [(d, o), (l, c)], p.1 ≠ I) : ∀ p ∈ [(d, o'), (l, c)], p.1 ≠ I := fun p hp => by
  rcases List.mem_cons.mp hp with rfl | hp
  · exact h (d, o) List.mem_cons_self
  · exact h p (List.mem_cons_of_mem _ hp)
theorem c8 : codeF (Str.ofString "X") = -1 := by decide +kernel
theorem n8 : nameF 98 = Str.ofString "" := by decide +kernel
theorem b1 : bitI (Str.ofString "Q") = 0 := by decide +kernel
theorem deck_ok {ns : List Int} : DeckOK ((ns.take 16).map fun k' => (if k' < 0 then -k' else k').fmod (10 ^ Int.toNat 16)) := by
  refine ⟨by rw [List.length_map]; exact List.length_take_le _ _, fun n hn => ?_⟩
  obtain ⟨k, _, rfl⟩ := List.mem_map.mp hn
  have e : (10 : Int) ^ Int.toNat 16 = 10000000000000000 := by decide
  rw [e, Int.fmod_eq_emod_of_nonneg _ (by decide)]
  omega
def names8 : List (Str × Int) := [(Str.ofString "TAB", 9), (Str.ofString "RET", 13), (Str.ofString "ESC", 27), (Str.ofString "SPC", 32), (Str.ofString "DEL", 127), (Str.ofString "LFD", 10), (Str.ofString "NUL", 0)]
theorem names8_ok : ∀ p ∈ names8, codeF p.1 = p.2 ∧ nameF p.2 = p.1 := by decide +kernel
theorem ne_tt {a b : Str} (e : a = b) (h : (a != b) = true) : False := by
  subst e; rw [bne_self_eq_false] at h; cases h
theorem hide_tab {P : Prop} {h₀ h : Heap} {L D : Addr} {vs : List Value} {news : List (Addr × Obj)} {r : List (Str × Int)} (N : News h₀ L h ((D, { cls := .type "tuple", data := .seq vs.toArray }) :: news)) (hT : TabN news vs r)
    (k : ∀ vs news, News h₀ L h ((D, { cls := .type "tuple", data := .seq vs.toArray }) :: news) → TabN news vs r → P) : P := k _ _ N hT
local macro_rules | `(tactic| walk_at "a key of no goal") => `(tactic| fail "no such goal")
local macro_rules | `(tactic| walk_at "exec For Tuple Tuple cons nil") => `(tactic| (k_here; k_dflt (refine' For_turns ?fF ?fh ?fs ?fE; (case fF => k_asm); (case fs => (intro _; rfl)); (case fE => with_reducible assumption)); k_whole))
local macro_rules | `(tactic| walk_at "exec For Name Call cons nil") => `(tactic| (k_here; (rename Fr _ _ _ _ => lF'); (with_unfolding_all refine' For_W lF' (by rfl) (by rfl) ?_); k_whole))
local macro_rules | `(tactic| walk_at "call ref") => `(tactic| (k_here; (with_reducible show wpAny _ _ (call (Value.ref 35) _) _ _ _); k_dflt (refine' Con.use (code_of_name_con _ _ _) ?k1 ?k2 ?k3 ?k4 ?k5 ?kK ?kd ?ku ?_; (case k1 => k_asm); (case k2 => k_asm); (case k3 => k_asm); (case k4 => exact News.nil); (case k5 => k_asm); (case kK => first | assumption | exact rfl); (case kd => ktr_room); (case ku => ktr_units)); (rename News _ _ _ _ => lN'); intro t9 h9 tk9 kp9 F9; (have N9 := Kept.news kp9 lN'); clear lN' kp9; (try simp only [c8]); (try dsimp only)))
local macro_rules | `(tactic| walk_at "call ref") => `(tactic| (k_here; (with_reducible show wpAny _ _ (call (Value.ref 42) _) _ _ _); k_dflt (refine' Con.use (name_of_code_con _ _ _) ?k1 ?k2 ?k3 ?k4 ?k5 ?kK ?kd ?ku ?_; (case k1 => k_asm); (case k2 => k_asm); (case k3 => k_asm); (case k4 => exact News.nil); (case k5 => k_asm); (case kK => first | assumption | exact rfl); (case kd => ktr_room); (case ku => ktr_units)); (rename News _ _ _ _ => lN'); intro t9 h9 tk9 kp9 F9; (have N9 := Kept.news kp9 lN'); clear lN' kp9; (try simp only [n8]); (try dsimp only)))
local macro_rules | `(tactic| walk_at "call ref") => `(tactic| (k_here; (with_reducible show wpAny _ _ (call (Value.ref 61) _) _ _ _); k_dflt (refine' Con.use (bit_of_con _ _ _) ?k1 ?k2 ?k3 ?k4 ?k5 ?kK ?kd ?ku ?_; (case k1 => k_asm); (case k2 => k_asm); (case k3 => k_asm); (case k4 => exact News.nil); (case k5 => k_asm); (case kK => first | assumption | exact rfl); (case kd => ktr_room); (case ku => ktr_units)); (rename News _ _ _ _ => lN'); intro t9 h9 tk9 kp9 F9; (have N9 := Kept.news kp9 lN'); clear lN' kp9; (try simp only [b1]); (try dsimp only)))
theorem law_body (w : World) {oc : Value} {od an : Option Addr} {name qual : Str} {params : Arguments} {body : List Stmt} {scope : Scope} {dV kV doc pm cdv ct : Value} {osl : Array (Option Value)}
    (ho : (hd.heap_39 w.params).lookup 123 = some ⟨oc, od, .func (fnOf name qual params body scope dV kV doc pm an cdv ct), osl⟩)
    {p : Program} {loose : List Str} {mean : ExcName → Option Value} {mg mb : Str → Option Value} {g : Heap} {L f : Addr} {cd : Value} {m : Str → Option Value} {s : Shared} {Q : Flow → Shared → Prop} {E : Value → Shared → Prop}
    (B : Below callerA g [] g) (X : (hd.heap_39 w.params).In g) (T : Top p loose mean mg mb g) (F : Fr g L s.heap m)
    (hE : PassesOwn (model PySem.Challenge.rw_np0002_01.row.prog w) (callerA.deeper (envOfC qual scope L f cd)) (envOfC qual scope L f cd) E) {l : Addr} {cell : Obj} {vs : List Value} {ns : List Int}
    (N : News g L s.heap [(L + 1, cell)]) (hm : m (Str.ofString "script") = some (.ref l)) (hl : g.IsList l vs.toArray) (hI : IntsAre vs ns) (h63 : ns.length ≤ 63) (hc : cell.data = .cell none)
    (hQ : ∀ h' tk' d', (∀ b o, g.get? b = some o → h'.get? b = some o) → Q (.ret (.bool true)) { s with heap := h', toks := tk', drawn := d' }) :
    wpAny (model PySem.Challenge.rw_np0002_01.row.prog w) (callerA.deeper (envOfC qual scope L f cd)) (execs (body) (envOfC qual scope L f cd)) Q E s := by
  revert X
  k_fill
  intro X
  refine' with_fn ?e (f := 123) (K := hd.heap_39 w.params) ?h
  case e => k_is
  case h =>
  intro e
  cases (e.symm.trans ho)
  clear ho
  (try dsimp only [forBody, List.drop])
  replace F := Fr.know F hm
  repeat' ((fail_if_success (with_reducible show wpAny _ _ (pyIter _) _ _ _)); first | (k_unfold; (try dsimp only)) | (k_end; wrow_close) | ((with_reducible show wpAny _ _ (subscriptTail _ (PySem.Expr.Slice _ _ _ _) _ _) _ _ _); walk1) | (dsimp only; walk1) | walk1 | (leave1; walk_say "STEP leave1"; try dsimp only) | fail "no step")
  (rename Fr _ _ _ _ => lF'); (rename News _ _ _ _ => lN'); (rename IsRange _ _ _ _ _ _ _ _ => hr); (rename IntsAre _ _ => hI8)
  refine LoopW.range (n := 4) (fun i₁ m₁ news₁ _ => ∃ Dk vs ns c cell, news₁ = [(Dk, PySem.W.listOf (List.toArray vs) c), (L + 1, cell)] ∧ IntsAre vs ns ∧ DeckOK ns ∧ cell.data = .cell (some (.ref Dk)) ∧ @Ne Nat (L + 1) Dk) rfl lF' (News.sub lN' (List.forall_mem_cons.mpr ⟨by k_mem, List.forall_mem_cons.mpr ⟨by k_mem, List.forall_mem_nil _⟩⟩) : News g L _ [(_, PySem.W.listOf (List.toArray _) _), (L + 1, _)]) hr rfl rfl ⟨_, _, _, _, _, rfl, hI8, deck_ok, by assumption, ne_right (by assumption)⟩ ?turn ?fin
  case turn =>
    clear lF' lN'
    intro I1 i1 t1 m₁ news₁ oI1 s' hi1 hJ hg ho lt1 off1 F1 N1
    obtain ⟨h3, g3, d3, tk3, os3⟩ := s'
    dsimp only at hg ho F1 N1
    subst hg; subst ho
    obtain ⟨Dk, vs3, ns3, c3, cell3, rfl, hI3, hD3, hc3, hl3⟩ := hJ
    refine' law_turn w e ?tB ?tX ?tT ?tF ?tE ?tb ?tN ?tI ?tD ?tc ?t1 ?t2 ?tQ
    case tB => exact B
    case tX => exact X
    case tT => exact T
    case tF => exact F1
    case tE => exact hE
    case tb => exact rfl
    case tN => exact N1
    case tI => exact hI3
    case tD => exact hD3
    case tc => exact hc3
    case t1 => exact hl3
    case t2 => exact off1 _ List.mem_cons_self
    case tQ =>
    intro h' tk' d' m' vs' ns' c' F' N' hI' hD'
    exact StepW.next (news₂ := [(Dk, PySem.W.listOf vs'.toArray c'), (L + 1, cell3)]) rfl rfl F' N' (fun _ h => h) (fun p hp => off_same off1 p hp) ⟨_, _, _, _, _, rfl, hI', hD', hc3, hl3⟩
  case fin =>
    clear lF' lN'
    intro s' m' news' hg ho F1 N1 hJ
    obtain ⟨h3, g3, d3, tk3, os3⟩ := s'
    dsimp only at hg ho F1 N1
    subst hg; subst ho
    (try dsimp only)
    obtain ⟨Dk, vs3, ns3, c3, cell3, rfl, hI3, hD3, hc3, hl3⟩ := hJ
    have F2 : Fr g L h3 m' := F1
    have N2 : News g L h3 [(Dk, PySem.W.listOf vs3.toArray c3), (L + 1, cell3)] := N1
    clear F1 N1 hI3 hD3 hl3
    repeat' ((fail_if_success (with_reducible show wpAny _ _ (pyIter _) _ _ _)); first | (k_unfold; (try dsimp only)) | (k_end; wrow_close) | (dsimp only; walk1) | walk1 | (leave1; walk_say "STEP leave1"; try dsimp only) | fail "no step")
    (rename Fr _ _ _ _ => lF'); (rename News _ _ _ _ => lN')
    refine hide_tab (r := names8) lN' ?t ?k
    case t =>
      refine ⟨⟨_, _, _, rfl, by k_mem⟩, ?_⟩
      repeat (refine ⟨⟨_, _, _, rfl, by k_mem⟩, ?_⟩)
      exact trivial
    case k =>
    clear lN'
    intro vs9 news9 lN' hT9
    refine tab_items (fun r _ => ∀ p ∈ r, codeF p.1 = p.2 ∧ nameF p.2 = p.1) rfl lF' lN' hT9 names8_ok ?z ?c
    case z =>
      clear lF' lN'
      intro h8 tk8 m8 hJ F8 N8
      clear hJ
      (try dsimp only)
      repeat' (first | (k_unfold; (try dsimp only)) | (k_end; wrow_close) | (dsimp only; walk1) | walk1 | (leave1; walk_say "STEP leave1"; try dsimp only) | fail "no step")
      exact hQ _ _ _ (Fr.keep (by assumption))
    case c =>
      clear lF' lN'
      intro x8 n8 r8 m8 I8 oI8 t8 u8 v8 h8 tk8 hJ F8 N8
      obtain ⟨hc8, hn8⟩ := hJ _ List.mem_cons_self
      replace hJ := fun p hp => hJ p (List.mem_cons_of_mem _ hp)
      (try dsimp only at hc8 hn8)
      (try dsimp only)
      repeat' (first | (k_unfold; (try dsimp only)) | (k_end; wrow_close) | (dsimp only; walk1) | walk1 | (leave1; walk_say "STEP leave1"; try dsimp only) | fail "no step")
      · exact absurd hc8 (by assumption)
      · exact (ne_tt hn8 (by assumption)).elim
      · exact TabP.next (by assumption) (by assumption) (fun _ => List.mem_cons_of_mem _) hJ
end Mine
end
section
open PySem PySem.W PySem.Calls PyProof.Rows PySem.Spec
set_option maxRecDepth 100000
set_option maxHeartbeats 8000000
namespace Mine
theorem law_top : PySem.Challenge.rw_np0002_01.Holds := by
  refine Mine.hd ?_
  k_go0
  (all_goals try k_fold)
  refine' law_body _ ?ho ?B ?X ?T ?F ?hE ?N ?hm ?hl ?hI ?h63 ?hc ?hQ
  case ho => k_is
  case F => k_asm
  case B => k_asm
  case X => k_asm
  case T => k_asm
  case N => k_asm
  case hm => exact rfl
  case hl => k_asm
  case hI => k_asm
  case h63 => omega
  case hE => passes_own
  case hc => k_asm
  case hQ =>
    intro h' tk' d' hk
    (try subst qk)
    (try dsimp only)
    exact ⟨.inl ⟨_, _, _, rfl, fun _ => rfl, .bool _, by (first | (with_unfolding_all rfl) | kernel_rfl | kernel_rfl! ), fun _ => ⟨.nil, fun _ h => nomatch h⟩⟩, hk, rfl, by k_asm⟩
end Mine
end
set_option maxRecDepth 100000 in
set_option maxHeartbeats 8000000 in
theorem PySem.Challenge.cw_np0002_01_holds : PySem.Challenge.rw_np0002_01.Holds := by
  exact Mine.law_top
