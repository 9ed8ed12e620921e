/- Numbers, lists, edits and commands as strings of bytes, and back: what is decoded is what was encoded; how long they are; the decoders step by step. No program in sight. -/
namespace Go.Proofs.YtpjkcfglojigmaaGreatDoor.Codes
inductive E where
  | ok | short | form
  deriving DecidableEq
abbrev B := List UInt8
/-! numbers -/
def num (n : Nat) : B := if h : n < 128 then [UInt8.ofNat n] else UInt8.ofNat (n % 128 + 128) :: num (n / 128)
  termination_by n
  decreasing_by omega
def rdF (i acc : Nat) : B → Nat × Nat × E
  | [] => if i < 10 then (0, 0, .short) else (0, 0, .form)
  | b :: t => if i < 10 then
      if 128 ≤ b.toNat then rdF (i + 1) (acc + b.toNat % 128 * 128 ^ i) t
      else if (0 < i ∧ b.toNat = 0) ∨ (i = 9 ∧ 1 < b.toNat) then (0, 0, .form)
      else (acc + b.toNat % 128 * 128 ^ i, i + 1, .ok)
    else (0, 0, .form)
def rd (s : B) : Nat × Nat × E := rdF 0 0 s
theorem num_small {n : Nat} (h : n < 128) : num n = [UInt8.ofNat n] := by rw [num]; simp [h]
theorem num_big {n : Nat} (h : 128 ≤ n) : num n = UInt8.ofNat (n % 128 + 128) :: num (n / 128) := by
  rw [num]; simp [Nat.not_lt.2 h]
theorem toNat_small {n : Nat} (h : n < 256) : (UInt8.ofNat n).toNat = n := by simp [UInt8.toNat_ofNat']; omega
theorem rdF_num (r : B) : ∀ (k i acc n : Nat), i + k = 10 → 0 < k → n < 2 ^ (64 - 7 * i) → (0 < i → 0 < n) → rdF i acc (num n ++ r) = (acc + n * 128 ^ i, i + (num n).length, .ok)
  | 0, _, _, _, _, h, _, _ => absurd h (by omega)
  | k + 1, i, acc, n, hi, _, hn, h0 => by
    by_cases hs : n < 128
    · rw [num_small hs]
      have e := toNat_small (n := n) (by omega)
      have c1 : i < 10 := by omega
      have c2 : ¬ 128 ≤ n := by omega
      have c3 : ¬ ((0 < i ∧ n = 0) ∨ (i = 9 ∧ 1 < n)) := by
        rintro (⟨a, b⟩ | ⟨a, b⟩)
        · have := h0 a; omega
        · subst a
          have : n < 2 := by simpa using hn
          omega
      simp only [List.cons_append, List.nil_append, rdF, e, if_pos c1, if_neg c2, if_neg c3, List.length_cons, List.length_nil]
      rw [Nat.mod_eq_of_lt hs]
    · have hb : 128 ≤ n := by omega
      rw [num_big hb]
      have e := toNat_small (n := n % 128 + 128) (by omega)
      have hk : 0 < k := by
        rcases Nat.eq_zero_or_pos k with h | h
        · exfalso
          have : i = 9 := by omega
          subst this
          have : n < 2 := by simpa using hn
          omega
        · exact h
      have c1 : i < 10 := by omega
      have c2 : 128 ≤ n % 128 + 128 := by omega
      have hn' : n / 128 < 2 ^ (64 - 7 * (i + 1)) := by
        have e2 : 64 - 7 * i = (64 - 7 * (i + 1)) + 7 := by omega
        rw [e2, Nat.pow_add] at hn
        exact Nat.div_lt_of_lt_mul (by rw [Nat.mul_comm]; exact hn)
      have ih := rdF_num r k (i + 1) (acc + (n % 128 + 128) % 128 * 128 ^ i) (n / 128) (by omega) hk hn' (fun _ => by omega)
      simp only [List.cons_append, rdF, e, if_pos c1, if_pos c2, List.length_cons]
      rw [ih]
      have e3 : (n % 128 + 128) % 128 = n % 128 := by omega
      have e4 : n % 128 * 128 ^ i + n / 128 * 128 ^ (i + 1) = n * 128 ^ i := by
        rw [Nat.pow_succ, Nat.mul_comm (128 ^ i) 128, ← Nat.mul_assoc, ← Nat.add_mul]
        congr 1; omega
      rw [e3]
      refine Prod.ext ?_ (Prod.ext ?_ rfl)
      · show acc + n % 128 * 128 ^ i + n / 128 * 128 ^ (i + 1) = acc + n * 128 ^ i
        omega
      · show i + 1 + (num (n / 128)).length = i + ((num (n / 128)).length + 1)
        omega
theorem rd_num (n : Nat) (r : B) (h : n < 2 ^ 64) : rd (num n ++ r) = (n, (num n).length, .ok) := by
  have := rdF_num r 10 0 0 n rfl (by omega) (by simpa using h) (fun h => absurd h (by omega))
  simpa [rd] using this
theorem num_pos (n : Nat) : 0 < (num n).length := by
  by_cases h : n < 128
  · rw [num_small h]; simp
  · rw [num_big (by omega)]; simp
/-! lists -/
def packL : List B → B
  | [] => []
  | s :: l => num s.length ++ s ++ packL l
def pack (l : List B) : B := num l.length ++ packL l
/-- strings taken from the beginning -/
def nexts : Nat → B → Except E (List B × B)
  | 0, left => .ok ([], left)
  | k + 1, left => match rd left with
    | (n, size, .ok) => if (left.drop size).length < n then .error .short else match nexts k ((left.drop size).drop n) with
      | .ok (l, r) => .ok ((left.drop size).take n :: l, r)
      | .error e => .error e
    | (_, _, e) => .error e
def unpack (s : B) : Except E (List B) := match rd s with
  | (many, size, .ok) => match nexts many (s.drop size) with
    | .ok (l, []) => .ok l
    | .ok (_, _ :: _) => .error .form
    | .error e => .error e
  | (_, _, e) => .error e
theorem nexts_pack (r : B) : ∀ (l : List B), (∀ s ∈ l, s.length < 2 ^ 64) → nexts l.length (packL l ++ r) = .ok (l, r)
  | [], _ => rfl
  | s :: l, h => by
    have hs := h s List.mem_cons_self
    have ih := nexts_pack r l fun t ht => h t (List.mem_cons_of_mem _ ht)
    have e : packL (s :: l) ++ r = num s.length ++ (s ++ (packL l ++ r)) := by simp [packL]
    show nexts (l.length + 1) _ = _
    rw [e, nexts, rd_num _ _ hs]
    simp only [List.drop_left]
    have c : ¬ (s ++ (packL l ++ r)).length < s.length := by simp
    rw [if_neg c]
    simp only [ih, List.take_left]
theorem unpack_pack (l : List B) (hl : l.length < 2 ^ 64) (h : ∀ s ∈ l, s.length < 2 ^ 64) : unpack (pack l) = .ok l := by
  have ih := nexts_pack [] l h
  rw [List.append_nil] at ih
  unfold unpack pack
  rw [rd_num _ _ hl]
  simp only [List.drop_left, ih]
/-! integers -/
def zig (n : Int) : Nat := if 0 ≤ n then (2 * n).toNat else (-2 * n - 1).toNat
def zag (u : Nat) : Int := if u % 2 = 0 then (u / 2 : Nat) else -((u / 2 : Nat) : Int) - 1
def I64 (n : Int) : Prop := -9223372036854775808 ≤ n ∧ n < 9223372036854775808
theorem zig_lt {n : Int} (h : I64 n) : zig n < 2 ^ 64 := by unfold zig; unfold I64 at h; split <;> omega
theorem zag_zig (n : Int) : zag (zig n) = n := by
  unfold zig zag
  split <;> split <;> omega
/-! edits -/
structure Ed where
  kind : Int
  path : B
  to : B
  text : B
def encE (x : Ed) : B := pack [num (zig x.kind), x.path, x.to, x.text]
def encEs (l : List Ed) : B := pack (l.map encE)
def decE (s : B) : Except E Ed := match unpack s with
  | .error e => .error e
  | .ok [a, b, c, d] => match rd a with
    | (n, size, .ok) => if size < a.length then .error .form else .ok ⟨zag n, b, c, d⟩
    | _ => .error .form
  | .ok _ => .error .form
def decL : List B → Except E (List Ed)
  | [] => .ok []
  | s :: l => match decE s with
    | .error e => .error e
    | .ok x => match decL l with
      | .error e => .error e
      | .ok m => .ok (x :: m)
def decEs (s : B) : Except E (List Ed) := match unpack s with
  | .error e => .error e
  | .ok l => decL l
structure EdOK (x : Ed) : Prop where
  kind : I64 x.kind
  path : x.path.length < 2 ^ 64
  to : x.to.length < 2 ^ 64
  text : x.text.length < 2 ^ 64
theorem num_length_le : ∀ (k n : Nat), n < 128 ^ k → 0 < k → (num n).length ≤ k
  | 0, _, _, h => absurd h (by omega)
  | k + 1, n, hn, _ => by
    by_cases hs : n < 128
    · rw [num_small hs]; simp
    · rw [num_big (by omega)]
      have : n / 128 < 128 ^ k := Nat.div_lt_of_lt_mul (by rw [Nat.pow_succ, Nat.mul_comm] at hn; exact hn)
      have hk : 0 < k := by
        rcases Nat.eq_zero_or_pos k with h | h
        · subst h; simp at hn; omega
        · exact h
      have := num_length_le k (n / 128) this hk
      simp; omega
theorem num_le (n : Nat) (h : n < 2 ^ 64) : (num n).length ≤ 10 := num_length_le 10 n (by omega) (by omega)
theorem rd_num_all (n : Nat) (h : n < 2 ^ 64) : rd (num n) = (n, (num n).length, .ok) := by
  have := rd_num n [] h
  rwa [List.append_nil] at this
theorem decE_encE (x : Ed) (h : EdOK x) : decE (encE x) = .ok x := by
  have hz := zig_lt h.kind
  have hl := num_le _ hz
  have u : unpack (encE x) = .ok [num (zig x.kind), x.path, x.to, x.text] := unpack_pack _ (by simp) (by
    intro s hs
    simp only [List.mem_cons, List.not_mem_nil, or_false] at hs
    rcases hs with rfl | rfl | rfl | rfl
    · omega
    · exact h.path
    · exact h.to
    · exact h.text)
  unfold decE
  simp only [u, rd_num_all _ hz, Nat.lt_irrefl, if_false, zag_zig]
theorem decL_encE : ∀ (l : List Ed), (∀ x ∈ l, EdOK x) → decL (l.map encE) = .ok l
  | [], _ => rfl
  | x :: l, h => by
    simp only [List.map_cons, decL, decE_encE x (h x List.mem_cons_self), decL_encE l fun y hy => h y (List.mem_cons_of_mem _ hy)]
theorem decEs_encEs (l : List Ed) (hl : l.length < 2 ^ 64) (h : ∀ x ∈ l, EdOK x) (hb : ∀ x ∈ l, (encE x).length < 2 ^ 64) : decEs (encEs l) = .ok l := by
  have u : unpack (encEs l) = .ok (l.map encE) := unpack_pack _ (by simpa using hl) (by
    intro s hs
    obtain ⟨x, hx, rfl⟩ := List.mem_map.1 hs
    exact hb x hx)
  unfold decEs
  simp only [u, decL_encE l h]
/-! commands -/
structure Cmd where
  kind : Int
  user : B
  text : B
  base : Int
  change : Int
  worker : Int
  edits : List Ed
  key : Int
  attempt : Int
  ok : Bool
def okS (b : Bool) : B := if b then [49] else []
def nums (c : Cmd) : List Int := [c.kind, c.base, c.change, c.worker, c.key, c.attempt]
def parts (c : Cmd) : List B := [c.user, c.text, okS c.ok, encEs c.edits] ++ (nums c).map fun n => num (zig n)
def enc (c : Cmd) : B := pack (parts c)
/-- an integer that is all of a string -/
def whole (s : B) : Option Int := match rd s with
  | (n, size, .ok) => if size = s.length then some (zag n) else none
  | _ => none
def wholes : List B → Option (List Int)
  | [] => some []
  | s :: l => match whole s with
    | none => none
    | some n => match wholes l with
      | none => none
      | some m => some (n :: m)
/-- what a string's fields say, if they are fields of a command -/
def fields (s : B) : Option Cmd := match unpack s with
  | .ok (u :: t :: o :: e :: l) => if l.length = 6 ∧ (o = [] ∨ o = [49]) then
      match decEs e, wholes l with
      | .ok es, some [a, b, c, d, k, m] => some ⟨a, u, t, b, c, d, es, k, m, decide (o = [49])⟩
      | _, _ => none
    else none
  | _ => none
def dec (s : B) : Option Cmd := match fields s with
  | some c => if enc c = s then some c else none
  | none => none
theorem enc_of_dec {s : B} {c : Cmd} (h : dec s = some c) : enc c = s := by
  unfold dec at h
  split at h
  · split at h
    · rename_i he
      injection h with h
      subst h; exact he
    · cases h
  · cases h
structure CmdOK (c : Cmd) : Prop where
  nums : ∀ n ∈ nums c, I64 n
  user : c.user.length < 2 ^ 64
  text : c.text.length < 2 ^ 64
  many : c.edits.length < 2 ^ 64
  edits : ∀ x ∈ c.edits, EdOK x
  encs : ∀ x ∈ c.edits, (encE x).length < 2 ^ 64
  all : (encEs c.edits).length < 2 ^ 64
theorem whole_num (n : Int) (h : I64 n) : whole (num (zig n)) = some n := by
  have hz := zig_lt h
  unfold whole
  simp only [rd_num_all _ hz, if_true, zag_zig]
theorem wholes_nums : ∀ (l : List Int), (∀ n ∈ l, I64 n) → wholes (l.map fun n => num (zig n)) = some l
  | [], _ => rfl
  | n :: l, h => by
    simp only [List.map_cons, wholes, whole_num n (h n List.mem_cons_self), wholes_nums l fun m hm => h m (List.mem_cons_of_mem _ hm)]
theorem dec_enc (c : Cmd) (h : CmdOK c) : dec (enc c) = some c := by
  have u : unpack (enc c) = .ok (parts c) := unpack_pack _ (by simp [parts, nums]) (by
    intro s hs
    simp only [parts, List.mem_append, List.mem_cons, List.not_mem_nil, or_false, List.mem_map] at hs
    rcases hs with (rfl | rfl | rfl | rfl) | ⟨n, hn, rfl⟩
    · exact h.user
    · exact h.text
    · unfold okS; split <;> simp
    · exact h.all
    · have := num_le _ (zig_lt (h.nums n hn)); omega)
  have f : fields (enc c) = some c := by
    unfold fields
    rw [u]
    have w := wholes_nums (nums c) h.nums
    have d := decEs_encEs c.edits h.many h.edits h.encs
    simp only [nums, List.map_cons, List.map_nil] at w
    simp only [parts, nums, List.map_cons, List.map_nil, List.cons_append, List.nil_append, d, w]
    rw [if_pos (by unfold okS; split <;> simp)]
    simp only [Option.some.injEq]
    cases c with
    | mk kind user text base change worker edits key attempt ok => cases ok <;> simp [okS]
  unfold dec
  simp only [f, if_true]
end Go.Proofs.YtpjkcfglojigmaaGreatDoor.Codes
namespace Go.Proofs.YtpjkcfglojigmaaGreatDoor.Codes
def tot (l : List B) : Nat := (l.map List.length).sum
theorem tot_cons (s : B) (l : List B) : tot (s :: l) = s.length + tot l := by simp [tot]
theorem tot_append (a b : List B) : tot (a ++ b) = tot a + tot b := by simp [tot]
theorem mem_tot {s : B} : ∀ {l : List B}, s ∈ l → s.length ≤ tot l
  | [], h => by cases h
  | t :: l, h => by
    rw [tot_cons]
    rcases List.mem_cons.1 h with rfl | h
    · omega
    · have := mem_tot h; omega
theorem packL_le : ∀ l : List B, (∀ s ∈ l, s.length < 2 ^ 64) → (packL l).length ≤ 10 * l.length + tot l
  | [], _ => by simp [packL, tot]
  | s :: l, h => by
    have h1 := num_le s.length (h s List.mem_cons_self)
    have h2 := packL_le l fun t ht => h t (List.mem_cons_of_mem _ ht)
    simp only [packL, List.length_append, List.length_cons, tot_cons]; omega
theorem packL_ge : ∀ l : List B, l.length + tot l ≤ (packL l).length
  | [] => by simp [packL, tot]
  | s :: l => by
    have h1 := num_pos s.length
    have h2 := packL_ge l
    simp only [packL, List.length_append, List.length_cons, tot_cons]; omega
theorem pack_ge (l : List B) : l.length + tot l < (pack l).length := by
  have h1 := num_pos l.length
  have h2 := packL_ge l
  unfold pack; rw [List.length_append]; omega
theorem pack_le (l : List B) (hl : l.length < 2 ^ 64) (h : ∀ s ∈ l, s.length < 2 ^ 64) : (pack l).length ≤ 10 + 10 * l.length + tot l := by
  have h1 := num_le l.length hl
  have h2 := packL_le l h
  unfold pack; rw [List.length_append]; omega
theorem mem_pack {s : B} {l : List B} (h : s ∈ l) : s.length < (pack l).length := by
  have h1 := mem_tot h
  have h2 := pack_ge l
  omega
theorem rdF_ok : ∀ (s : B) (i acc n size : Nat), rdF i acc s = (n, size, .ok) → acc < 128 ^ i → i < 10 → i < size ∧ size ≤ i + s.length ∧ n < 2 ^ 64
  | [], i, acc, n, size, h, _, hi => by simp [rdF, hi] at h
  | b :: t, i, acc, n, size, h, ha, hi => by
    rw [rdF, if_pos hi] at h
    have hm : b.toNat % 128 * 128 ^ i ≤ 127 * 128 ^ i := Nat.mul_le_mul_right _ (by omega)
    by_cases h1 : 128 ≤ b.toNat
    · rw [if_pos h1] at h
      by_cases h9 : i = 9
      · subst h9
        exfalso
        cases t with
        | nil => simp [rdF] at h
        | cons c t => simp [rdF] at h
      · have hp : acc + b.toNat % 128 * 128 ^ i < 128 ^ (i + 1) := by rw [Nat.pow_succ]; omega
        obtain ⟨k1, k2, k3⟩ := rdF_ok t (i + 1) _ n size h hp (by omega)
        refine ⟨by omega, by simp only [List.length_cons]; omega, k3⟩
    · rw [if_neg h1] at h
      by_cases h2 : (0 < i ∧ b.toNat = 0) ∨ (i = 9 ∧ 1 < b.toNat)
      · rw [if_pos h2] at h; simp at h
      · rw [if_neg h2] at h
        simp only [Prod.mk.injEq, and_true] at h
        obtain ⟨rfl, rfl⟩ := h
        refine ⟨by omega, by simp only [List.length_cons]; omega, ?_⟩
        by_cases h9 : i = 9
        · subst h9
          have hb : b.toNat ≤ 1 := by omega
          have hb' : b.toNat % 128 ≤ 1 := by omega
          have : b.toNat % 128 * 128 ^ 9 ≤ 1 * 128 ^ 9 := Nat.mul_le_mul_right _ hb'
          omega
        · have hi8 : i + 1 ≤ 9 := by omega
          have hp : 128 ^ (i + 1) ≤ 128 ^ 9 := Nat.pow_le_pow_right (by decide) hi8
          rw [Nat.pow_succ] at hp
          omega
theorem rd_ok {s : B} {n size : Nat} (h : rd s = (n, size, .ok)) : 0 < size ∧ size ≤ s.length ∧ n < 2 ^ 64 := by
  have := rdF_ok s 0 0 n size h (by decide) (by decide)
  simpa using this
theorem rdF_bad : ∀ (s : B) (i acc n size : Nat) (e : E), rdF i acc s = (n, size, e) → e ≠ .ok → n = 0 ∧ size = 0
  | [], i, acc, n, size, e, h, he => by
    unfold rdF at h
    split at h <;> (simp only [Prod.mk.injEq] at h; exact ⟨h.1.symm, h.2.1.symm⟩)
  | b :: t, i, acc, n, size, e, h, he => by
    unfold rdF at h
    split at h
    · split at h
      · exact rdF_bad t _ _ n size e h he
      · split at h
        · simp only [Prod.mk.injEq] at h; exact ⟨h.1.symm, h.2.1.symm⟩
        · simp only [Prod.mk.injEq] at h; exact absurd h.2.2.symm he
    · simp only [Prod.mk.injEq] at h; exact ⟨h.1.symm, h.2.1.symm⟩
theorem rd_bad {s : B} {n size : Nat} {e : E} (h : rd s = (n, size, e)) (he : e ≠ .ok) : n = 0 ∧ size = 0 := rdF_bad s 0 0 n size e h he
theorem rd_size {s : B} {n size : Nat} {e : E} (h : rd s = (n, size, e)) : size ≤ s.length ∧ n < 2 ^ 64 := by
  by_cases he : e = .ok
  · subst he
    have := rd_ok h
    exact ⟨this.2.1, this.2.2⟩
  · have := rd_bad h he
    omega
theorem nexts_le : ∀ (k : Nat) (left : B) (l : List B) (r : B), nexts k left = .ok (l, r) → l.length = k ∧ l.length + tot l + r.length ≤ left.length
  | 0, left, l, r, h => by
    simp only [nexts, Except.ok.injEq, Prod.mk.injEq] at h
    obtain ⟨rfl, rfl⟩ := h
    simp [tot]
  | k + 1, left, l, r, h => by
    unfold nexts at h
    split at h
    · rename_i n size hrd
      have hr := rd_ok hrd
      split at h
      · cases h
      · rename_i hn
        split at h
        · rename_i l' r' hx
          simp only [Except.ok.injEq, Prod.mk.injEq] at h
          obtain ⟨rfl, rfl⟩ := h
          have ih := nexts_le k _ l' r' hx
          simp only [List.length_drop] at ih hn
          simp only [List.length_cons, tot_cons, List.length_take, List.length_drop]
          omega
        · cases h
    · cases h
theorem unpack_le {s : B} {l : List B} (h : unpack s = .ok l) : l.length + tot l ≤ s.length := by
  unfold unpack at h
  split at h
  · rename_i many size hrd
    split at h
    · rename_i l' hx
      simp only [Except.ok.injEq] at h
      subst h
      have := nexts_le _ _ _ _ hx
      simp only [List.length_drop] at this
      omega
    · cases h
    · cases h
  · cases h
theorem zag_I64 {n : Nat} (h : n < 2 ^ 64) : I64 (zag n) := by
  unfold zag I64; split <;> omega
theorem decE_le {s : B} {x : Ed} (h : decE s = .ok x) (hs : s.length ≤ 2 ^ 40) : I64 x.kind ∧ (encE x).length ≤ 60 + s.length := by
  unfold decE at h
  split at h
  · cases h
  · rename_i a b c d hu
    have hle := unpack_le hu
    split at h
    · rename_i n size hrd
      split at h
      · cases h
      · simp only [Except.ok.injEq] at h
        subst h
        have hn := (rd_ok hrd).2.2
        have hk := zag_I64 hn
        refine ⟨hk, ?_⟩
        have hz := num_le _ (zig_lt hk)
        simp only [List.length_cons, List.length_nil, tot_cons] at hle
        have hp := pack_le [num (zig (zag n)), b, c, d] (by simp) (by
          intro t ht
          simp only [List.mem_cons, List.not_mem_nil, or_false] at ht
          rcases ht with rfl | rfl | rfl | rfl <;> omega)
        simp only [List.length_cons, List.length_nil, tot_cons] at hp
        have ht : tot [] = 0 := rfl
        show (pack [num (zig (zag n)), b, c, d]).length ≤ _
        omega
    · cases h
  · cases h
theorem decL_le : ∀ (l : List B) (es : List Ed), decL l = .ok es → tot l ≤ 2 ^ 40 → es.length = l.length ∧ (∀ x ∈ es, I64 x.kind) ∧ tot (es.map encE) ≤ 60 * l.length + tot l
  | [], es, h, _ => by
    simp only [decL, Except.ok.injEq] at h
    subst h
    simp [tot]
  | s :: l, es, h, hs => by
    rw [tot_cons] at hs
    unfold decL at h
    split at h
    · cases h
    · rename_i x hx
      split at h
      · cases h
      · rename_i m hm
        simp only [Except.ok.injEq] at h
        subst h
        obtain ⟨h1, h2⟩ := decE_le hx (by omega)
        obtain ⟨h3, h4, h5⟩ := decL_le l m hm (by omega)
        refine ⟨by simp [h3], fun y hy => ?_, ?_⟩
        · rcases List.mem_cons.1 hy with rfl | hy
          · exact h1
          · exact h4 y hy
        · simp only [List.map_cons, tot_cons, List.length_cons]
          omega
theorem decEs_le {s : B} {es : List Ed} (h : decEs s = .ok es) (hs : s.length ≤ 2 ^ 40) : es.length ≤ s.length ∧ (∀ x ∈ es, I64 x.kind) ∧ (encEs es).length ≤ 10 + 70 * s.length := by
  unfold decEs at h
  split at h
  · cases h
  · rename_i l hu
    have hle := unpack_le hu
    obtain ⟨h1, h2, h3⟩ := decL_le l es h (by omega)
    refine ⟨by omega, h2, ?_⟩
    have hp := pack_le (es.map encE) (by simp; omega) (fun t ht => by have := mem_tot ht; omega)
    simp only [List.length_map] at hp
    unfold encEs
    have : 10 * l.length + 60 * l.length + tot l ≤ 70 * s.length := by omega
    omega
theorem whole_I64 {s : B} {n : Int} (h : whole s = some n) : I64 n := by
  unfold whole at h
  split at h
  · rename_i k size hrd
    split at h
    · simp only [Option.some.injEq] at h
      subst h
      exact zag_I64 (rd_ok hrd).2.2
    · cases h
  · cases h
theorem wholes_I64 : ∀ (l : List B) (m : List Int), wholes l = some m → ∀ n ∈ m, I64 n
  | [], m, h, n, hn => by
    simp only [wholes, Option.some.injEq] at h
    subst h; cases hn
  | s :: l, m, h, n, hn => by
    unfold wholes at h
    split at h
    · cases h
    · rename_i k hk
      split at h
      · cases h
      · rename_i m' hm
        simp only [Option.some.injEq] at h
        subst h
        rcases List.mem_cons.1 hn with rfl | hn
        · exact whole_I64 hk
        · exact wholes_I64 l m' hm n hn
/-- what the encoder asks of a command -/
structure EncOK (c : Cmd) : Prop where
  nums : ∀ n ∈ nums c, I64 n
  kinds : ∀ x ∈ c.edits, I64 x.kind
  size : (enc c).length ≤ 1099511627776
theorem enc_le (c : Cmd) (hn : ∀ n ∈ nums c, I64 n) (hu : c.user.length ≤ 2 ^ 40) (ht : c.text.length ≤ 2 ^ 40) (he : (encEs c.edits).length ≤ 2 ^ 47) :
    (enc c).length ≤ 200 + c.user.length + c.text.length + (encEs c.edits).length := by
  have hz : ∀ n ∈ nums c, (num (zig n)).length ≤ 10 := fun n h => num_le _ (zig_lt (hn n h))
  have ho : (okS c.ok).length ≤ 1 := by unfold okS; split <;> simp
  have h0 := hz c.kind (by simp [nums])
  have h1 := hz c.base (by simp [nums])
  have h2 := hz c.change (by simp [nums])
  have h3 := hz c.worker (by simp [nums])
  have h4 := hz c.key (by simp [nums])
  have h5 := hz c.attempt (by simp [nums])
  have hp := pack_le (parts c) (by simp [parts, nums]) (fun s hs => by
    simp only [parts, nums, List.map_cons, List.map_nil, List.mem_append, List.mem_cons, List.not_mem_nil, or_false] at hs
    rcases hs with (rfl | rfl | rfl | rfl) | (rfl | rfl | rfl | rfl | rfl | rfl) <;> omega)
  unfold enc
  simp only [parts, nums, List.map_cons, List.map_nil, List.cons_append, List.nil_append, List.length_cons, List.length_nil, tot_cons] at hp
  simp only [parts, nums, List.map_cons, List.map_nil, List.cons_append, List.nil_append]
  have e0 : tot [] = 0 := rfl
  omega
theorem fields_ok {s : B} {c : Cmd} (h : fields s = some c) (hs : s.length ≤ 2 ^ 32) : EncOK c := by
  unfold fields at h
  split at h
  · rename_i u t o e l hu
    have hle := unpack_le hu
    simp only [List.length_cons, tot_cons] at hle
    split at h
    · split at h
      · rename_i es a b c' d k m hd hw
        simp only [Option.some.injEq] at h
        subst h
        obtain ⟨h1, h2, h3⟩ := decEs_le hd (by omega)
        have hI := wholes_I64 _ _ hw
        refine ⟨hI, h2, ?_⟩
        have := enc_le ⟨a, u, t, b, c', d, es, k, m, decide (o = [49])⟩ hI (by show u.length ≤ _; omega) (by show t.length ≤ _; omega) (by show (encEs es).length ≤ _; omega)
        simp only at this
        omega
      · cases h
    · cases h
  · cases h
theorem fields_of_dec {s : B} {c : Cmd} (h : dec s = some c) : fields s = some c := by
  unfold dec at h
  split at h
  · split at h
    · rename_i he
      simp only [Option.some.injEq] at h
      subst h; assumption
    · cases h
  · cases h
end Go.Proofs.YtpjkcfglojigmaaGreatDoor.Codes
namespace Go.Proofs.YtpjkcfglojigmaaGreatDoor.Codes
theorem decE_err {s : B} {er : E} (h : unpack s = .error er) : decE s = .error er := by unfold decE; rw [h]
theorem decE_len {s : B} {l : List B} (h : unpack s = .ok l) (hl : l.length ≠ 4) : decE s = .error .form := by
  rcases l with _ | ⟨a, _ | ⟨b, _ | ⟨c, _ | ⟨d, _ | ⟨x, l⟩⟩⟩⟩⟩ <;> first | (simp only [decE, h]; done) | exact absurd rfl hl
theorem decE_bad {s a b c d : B} {n size : Nat} {er : E} (h : unpack s = .ok [a, b, c, d]) (hr : rd a = (n, size, er)) (he : er ≠ .ok) : decE s = .error .form := by
  cases er with
  | ok => exact absurd rfl he
  | short => simp only [decE, h, hr]
  | form => simp only [decE, h, hr]
theorem decE_short {s a b c d : B} {n size : Nat} (h : unpack s = .ok [a, b, c, d]) (hr : rd a = (n, size, .ok)) (hs : size < a.length) : decE s = .error .form := by
  simp only [decE, h, hr, if_pos hs]
theorem decE_good {s a b c d : B} {n size : Nat} (h : unpack s = .ok [a, b, c, d]) (hr : rd a = (n, size, .ok)) (hs : ¬ size < a.length) : decE s = .ok ⟨zag n, b, c, d⟩ := by
  simp only [decE, h, hr, if_neg hs]
theorem decEs_err {s : B} {er : E} (h : unpack s = .error er) : decEs s = .error er := by unfold decEs; rw [h]
theorem decEs_ok {s : B} {l : List B} (h : unpack s = .ok l) : decEs s = decL l := by unfold decEs; rw [h]
/-- what is known ahead of a round of the loop over edits -/
def Dx (all left : List B) (done : List Ed) : Prop := decL all = (match decL left with | .ok m => .ok (done ++ m) | .error e => .error e)
theorem dx_start (l : List B) : Dx l l [] := by
  unfold Dx; split <;> simp_all
theorem dx_bad {all left : List B} {s : B} {done : List Ed} {er : E} (h : Dx all (s :: left) done) (hd : decE s = .error er) : decL all = .error er := by
  unfold Dx at h
  rw [h]; simp only [decL, hd]
theorem dx_good {all left : List B} {s : B} {done : List Ed} {x : Ed} (h : Dx all (s :: left) done) (hd : decE s = .ok x) : Dx all left (done ++ [x]) := by
  unfold Dx at h ⊢
  rw [h]; simp only [decL, hd]
  cases hq : decL left with
  | error er => rfl
  | ok m => simp
theorem dx_end {all : List B} {done : List Ed} (h : Dx all [] done) : decL all = .ok done := by
  unfold Dx at h
  rw [h]; simp [decL]
/-! commands -/
theorem dec_none_of {s : B} (h : fields s = none) : dec s = none := by unfold dec; rw [h]
theorem dec_err {s : B} {er : E} (h : unpack s = .error er) : dec s = none := by
  apply dec_none_of; unfold fields; rw [h]
theorem dec_len {s : B} {l : List B} (h : unpack s = .ok l) (hl : l.length ≠ 10) : dec s = none := by
  apply dec_none_of
  unfold fields; rw [h]
  split
  · rename_i u t o e l' hh
    injection hh with hh
    subst hh
    rw [if_neg]
    intro hc
    exact hl (by simp [hc.1])
  · rfl
theorem dec_flag {s u t o e : B} {l : List B} (h : unpack s = .ok (u :: t :: o :: e :: l)) (h0 : o ≠ []) (h1 : o ≠ [49]) : dec s = none := by
  apply dec_none_of
  unfold fields; rw [h]
  simp only
  rw [if_neg]
  rintro ⟨_, hc | hc⟩
  · exact h0 hc
  · exact h1 hc
theorem dec_edits {s u t o e : B} {l : List B} {er : E} (h : unpack s = .ok (u :: t :: o :: e :: l)) (he : decEs e = .error er) : dec s = none := by
  apply dec_none_of
  unfold fields; rw [h]
  simp only [he]
  split <;> rfl
theorem dec_nums {s u t o e : B} {l : List B} (h : unpack s = .ok (u :: t :: o :: e :: l)) (hw : wholes l = none) : dec s = none := by
  apply dec_none_of
  unfold fields; rw [h]
  simp only [hw]
  split
  · split <;> simp_all
  · rfl
theorem fields_good {s u t o e : B} {l : List B} {es : List Ed} {z0 z1 z2 z3 z4 z5 : Int} (h : unpack s = .ok (u :: t :: o :: e :: l)) (hl : l.length = 6) (ho : o = [] ∨ o = [49]) (he : decEs e = .ok es) (hw : wholes l = some [z0, z1, z2, z3, z4, z5]) :
    fields s = some ⟨z0, u, t, z1, z2, z3, es, z4, z5, decide (o = [49])⟩ := by
  unfold fields; rw [h]
  simp only [he, hw]
  rw [if_pos ⟨hl, ho⟩]
theorem dec_of_fields {s : B} {c : Cmd} (h : fields s = some c) : dec s = if enc c = s then some c else none := by unfold dec; rw [h]
theorem whole_bad {p : B} {n size : Nat} {er : E} (hr : rd p = (n, size, er)) (he : er ≠ .ok) : whole p = none := by
  cases er with
  | ok => exact absurd rfl he
  | short => simp only [whole, hr]
  | form => simp only [whole, hr]
theorem whole_size {p : B} {n size : Nat} (hr : rd p = (n, size, .ok)) (hs : size ≠ p.length) : whole p = none := by simp only [whole, hr, if_neg hs]
theorem whole_good {p : B} {n size : Nat} (hr : rd p = (n, size, .ok)) (hs : size = p.length) : whole p = some (zag n) := by simp only [whole, hr, if_pos hs]
theorem wholes_none : ∀ (l : List B) (k : Nat) (h : k < l.length), whole l[k] = none → wholes l = none
  | s :: l, 0, _, hw => by
    have hw : whole s = none := hw
    simp only [wholes, hw]
  | s :: l, k + 1, h, hw => by
    have ih := wholes_none l k (by simpa using h) (by simpa using hw)
    simp only [wholes, ih]
    split <;> rfl
theorem wholes_snoc : ∀ (l : List B) (s : B) (m : List Int) (z : Int), wholes l = some m → whole s = some z → wholes (l ++ [s]) = some (m ++ [z])
  | [], s, m, z, h, hz => by
    simp only [wholes, Option.some.injEq] at h
    subst h
    simp [wholes, hz]
  | t :: l, s, m, z, h, hz => by
    unfold wholes at h
    split at h
    · cases h
    · rename_i n hn
      split at h
      · cases h
      · rename_i m' hm
        simp only [Option.some.injEq] at h
        subst h
        have ih := wholes_snoc l s m' z hm hz
        simp only [List.cons_append, wholes, hn, ih]
end Go.Proofs.YtpjkcfglojigmaaGreatDoor.Codes
