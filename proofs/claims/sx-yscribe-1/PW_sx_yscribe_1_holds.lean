import PyProof.Rows.All
import Wide.All
import OpenK.AllK
import Wide.FinOn
import PyProof.PureStr
import PyProof.StrLaws
import PyProof.DictTable
import PyProof.RaisesDict
import PyProof.DictKinds
import PyProof.StrCalls
import PyProof.MeetsSeq2
import PyProof.DictStraight
import PyProof.AttrMissHeap
import PyProof.ListNew
import PyProof.DictUpdate
import PyProof.FactsAll.dict_1
import PyProof.WalksMore
import KE.KDictOf
import KE.LcTurns
import PyProof.StrLawsAffix
import PyProof.StrLawsIdx
import PyProof.StrLawsNeg
import PyProof.StrLawsLast
import PyProof.StrLawsIn
import PyProof.StrBlock
import PyProof.Rows.StrNews2
import PyProof.StrBlockI
import OpenK.KLine
import KE.KEqDict
import PySem.Challenge.RW_sx_yscribe_1
set_option Elab.async false
section
/-! case and shift, sign by sign -/
set_option linter.unusedSimpArgs false
set_option linter.unusedVariables false
namespace Mine
open PySem

noncomputable def swapC (c : Nat) : Nat := if 65 ≤ c ∧ c ≤ 90 then c + 32 else if 97 ≤ c ∧ c ≤ 122 then c - 32 else c
noncomputable def shiftC (k c : Nat) : Nat := if 65 ≤ c ∧ c ≤ 90 then 65 + (c - 65 + k) % 26 else if 97 ≤ c ∧ c ≤ 122 then 97 + (c - 97 + k) % 26 else c
noncomputable def sealC (k c : Nat) : Nat := if 65 ≤ c ∧ c ≤ 90 then 97 + (c - 65 + k) % 26 else if 97 ≤ c ∧ c ≤ 122 then 65 + (c - 97 + k) % 26 else c

theorem out_caps {c : Nat} (h : ¬ c < 128) : ¬ (65 ≤ c ∧ c ≤ 90) := fun x => h (Nat.lt_of_le_of_lt x.2 (by decide))
theorem out_smalls {c : Nat} (h : ¬ c < 128) : ¬ (97 ≤ c ∧ c ≤ 122) := fun x => h (Nat.lt_of_le_of_lt x.2 (by decide))
theorem swap_out {c : Nat} (h : ¬ c < 128) : swapC c = c := by rw [swapC, if_neg (out_caps h), if_neg (out_smalls h)]
theorem shift_out {k c : Nat} (h : ¬ c < 128) : shiftC k c = c := by rw [shiftC, if_neg (out_caps h), if_neg (out_smalls h)]
theorem seal_out' {k c : Nat} (h : ¬ c < 128) : sealC k c = c := by rw [sealC, if_neg (out_caps h), if_neg (out_smalls h)]
theorem seal_mod (k c : Nat) : sealC (k % 26) c = sealC k c := by rw [sealC, sealC, Nat.add_mod_mod, Nat.add_mod_mod]
theorem shift_mod (k c : Nat) : shiftC (k % 26) c = shiftC k c := by rw [shiftC, shiftC, Nat.add_mod_mod, Nat.add_mod_mod]
theorem mod26_lt (k : Nat) : k % 26 < 26 := Nat.mod_lt _ (by decide)
theorem seal_shift128 : ∀ k, k < 26 → ∀ c, c < 128 → sealC k c = shiftC k (swapC c) := by decide +kernel
theorem shift_back128 : ∀ k, k < 26 → ∀ c, c < 128 → shiftC ((26 - k) % 26) (shiftC k c) = c := by decide +kernel
theorem seal_lt128 : ∀ k, k < 26 → ∀ c, c < 128 → sealC k c < 128 := by decide +kernel
theorem shift_lt128 : ∀ k, k < 26 → ∀ c, c < 128 → shiftC k c < 128 := by decide +kernel
theorem swap_lt128 : ∀ c, c < 128 → swapC c < 128 := by decide +kernel
theorem swap_swap128 : ∀ c, c < 128 → swapC (swapC c) = c := by decide +kernel
theorem seal_zero128 : ∀ c, c < 128 → sealC 0 c = swapC c := by decide +kernel
theorem seal_shift (k c : Nat) : sealC k c = shiftC k (swapC c) := by
  by_cases h : c < 128
  · rw [← seal_mod, ← shift_mod]
    exact seal_shift128 _ (mod26_lt k) c h
  · rw [swap_out h, seal_out' h, shift_out h]
theorem seal_zero (c : Nat) : sealC 0 c = swapC c := by
  by_cases h : c < 128
  · exact seal_zero128 c h
  · rw [swap_out h, seal_out' h]
theorem shift_back {k : Nat} (hk : k < 26) (c : Nat) : shiftC ((26 - k) % 26) (shiftC k c) = c := by
  by_cases h : c < 128
  · exact shift_back128 k hk c h
  · rw [shift_out h, shift_out h]
theorem swap_swap (c : Nat) : swapC (swapC c) = c := by
  by_cases h : c < 128
  · exact swap_swap128 c h
  · rw [swap_out h, swap_out h]
theorem seal_lt {k c : Nat} (h : c < 128) : sealC k c < 128 := by
  rw [← seal_mod]
  exact seal_lt128 _ (mod26_lt k) c h
theorem swap_lt {c : Nat} (h : c < 128) : swapC c < 128 := swap_lt128 c h
theorem shift_lt {k c : Nat} (h : c < 128) : shiftC k c < 128 := by
  rw [← shift_mod]
  exact shift_lt128 _ (mod26_lt k) c h

/-- a text of plain signs -/
noncomputable def Asc (x : Str) : Prop := ∀ c ∈ x.cps.toList, c < 128
/-- a text turned sign by sign -/
noncomputable def mapS (f : Nat → Nat) (x : Str) : Str := ⟨(x.cps.toList.map f).toArray⟩
theorem mapS_len (f : Nat → Nat) (x : Str) : (mapS f x).length = x.length := by simp [mapS, Str.length]
theorem mapS_mapS (f g : Nat → Nat) (x : Str) : mapS f (mapS g x) = mapS (fun c => f (g c)) x := by simp [mapS]
theorem mapS_congr {f g : Nat → Nat} {x : Str} (h : ∀ c ∈ x.cps.toList, f c = g c) : mapS f x = mapS g x := by
  unfold mapS
  rw [List.map_congr_left h]
theorem mapS_id {f : Nat → Nat} {x : Str} (h : ∀ c ∈ x.cps.toList, f c = c) : mapS f x = x := by
  unfold mapS
  rw [List.map_congr_left (g := id) h, List.map_id]
theorem mapS_asc {f : Nat → Nat} {x : Str} (hf : ∀ c, c < 128 → f c < 128) (h : Asc x) : Asc (mapS f x) := by
  intro c hc
  have hc' : c ∈ x.cps.toList.map f := hc
  obtain ⟨d, hd, rfl⟩ := List.mem_map.mp hc'
  exact hf d (h d hd)
theorem asc_append {x y : Str} (hx : Asc x) (hy : Asc y) : Asc (x ++ y) := by
  intro c hc
  have : c ∈ x.cps.toList ++ y.cps.toList := by rw [Str.cps_append] at hc; simpa using hc
  rcases List.mem_append.mp this with h | h
  · exact hx c h
  · exact hy c h

theorem placed_one {x : Str} {f : Nat → Nat → List Nat} {g : Nat → Nat} (h : ∀ i c, x.cps[i]? = some c → f i c = [g c]) : (⟨placed x f⟩ : Str) = mapS g x := by
  apply Str.ext'
  unfold placed mapS
  have e : (x.cps.mapIdx fun i c => (f i c).toArray) = x.cps.map fun c => #[g c] := by
    apply Array.ext_getElem?
    intro i
    rw [Array.getElem?_mapIdx, Array.getElem?_map]
    cases hc : x.cps[i]? with
    | none => rfl
    | some c => simp [h i c hc]
  rw [e]
  clear e h
  obtain ⟨a⟩ := x
  obtain ⟨l⟩ := a
  simp only [List.map_toArray]
  induction l with
  | nil => rfl
  | cons c r ih => simp_all

theorem up128 : ∀ c, c < 128 → Unicode.upperOf c = [if 97 ≤ c ∧ c ≤ 122 then c - 32 else c] := by decide +kernel
theorem low128 : ∀ c, c < 128 → Unicode.lowerOf c = [if 65 ≤ c ∧ c ≤ 90 then c + 32 else c] := by decide +kernel
theorem isup128 : ∀ c, c < 128 → Unicode.isUpper c = decide (65 ≤ c ∧ c ≤ 90) := by decide +kernel
theorem islow128 : ∀ c, c < 128 → Unicode.isLower c = decide (97 ≤ c ∧ c ≤ 122) := by decide +kernel
theorem lowerAt128 {x : Str} {i c : Nat} (h : x.cps[i]? = some c) (hc : c < 128) : Unicode.lowerAt x.cps i = [if 65 ≤ c ∧ c ≤ 90 then c + 32 else c] := by
  unfold Unicode.lowerAt
  rw [h]
  have : (c == 0x3A3) = false := by simp; omega
  simp only [this, Bool.false_and, Bool.false_eq_true, if_false]
  exact low128 c hc
theorem asc_at {x : Str} (h : Asc x) {i c : Nat} (hc : x.cps[i]? = some c) : c < 128 := h c (by
  rw [← Array.getElem?_toList] at hc
  exact List.mem_of_getElem? hc)

theorem upper_asc {x : Str} (h : Asc x) : (⟨placed x fun _ c => Unicode.upperOf c⟩ : Str) = mapS (fun c => if 97 ≤ c ∧ c ≤ 122 then c - 32 else c) x :=
  placed_one fun i c hc => up128 c (asc_at h hc)
theorem lower_asc {x : Str} (h : Asc x) : (⟨placed x fun i _ => Unicode.lowerAt x.cps i⟩ : Str) = mapS (fun c => if 65 ≤ c ∧ c ≤ 90 then c + 32 else c) x :=
  placed_one fun i c hc => lowerAt128 hc (asc_at h hc)
theorem swapcase_asc {x : Str} (h : Asc x) : (⟨placed x fun i c => if Unicode.isUpper c then Unicode.lowerAt x.cps i else if Unicode.isLower c then Unicode.upperOf c else [c]⟩ : Str) = mapS swapC x :=
  placed_one fun i c hc => by
    have h1 := asc_at h hc
    rw [isup128 c h1, islow128 c h1, up128 c h1, lowerAt128 hc h1]
    unfold swapC
    by_cases a : 65 ≤ c ∧ c ≤ 90
    · simp [a]
    · by_cases b : 97 ≤ c ∧ c ≤ 122
      · simp [a, b]
      · simp [a, b]
end Mine
end

section
set_option maxRecDepth 100000
set_option linter.unusedVariables false
set_option linter.unusedSimpArgs false
namespace Mine
open PySem PySem.Builtin PySem.Builtin.Str

section
variable {prog : Program} {w : World} {A : Around} {E : Value → Shared → Prop} {s : Shared} {d : Addr} {f : Int → Option Value}

theorem map_stays {h h' : Heap} (k : ∀ b o, h.get? b = some o → h'.get? b = some o) (hm : h.MapOf (intKind prog w) d f) : h'.MapOf (intKind prog w) d f :=
  let ⟨o, es, ep, ho, r⟩ := hm; ⟨o, es, ep, k d o ho, r⟩
theorem isInt_self (i : Int) (t : Tok) : Value.isInt i (.int i t) = true := by simp [Value.isInt]
theorem key_sub : isSubtype (.type "KeyError") (.type "LookupError") = pure true := by rw [isSubtype_type]; kernel_rfl

theorem look_hit {c i : Nat} {t : Tok} {Q : Mapped → Shared → Prop} (hm : s.heap.MapOf (intKind prog w) d f) (hv : f c = some (.int (i : Int) t)) (hi : i < 128)
    (h : ∀ k, Q (.char i) { s with toks := k }) : wpAny (model prog w) A (tableLookup (.ref d) c) Q E s := by
  unfold tableLookup
  refine wpAny_bind (wpAny_attempt (wpAny_bind (wpAny_mkInt ?_)))
  refine wpAny_getItem_of (s := { s with toks := s.toks + 1 }) (knd := intKind prog w) (k := (c : Int)) (key := .int (c : Int) s.toks) (isInt_self (c : Int) s.toks) hm hv ?_
  dsimp only
  show wpAny _ _ (pure (some (i : Int)) >>= _) _ _ _
  refine wpAny_bind (wpAny_pure ?_)
  dsimp only
  rw [if_neg (by simp; omega)]
  exact wpAny_pure (h _)

theorem look_miss {c : Nat} {Q : Mapped → Shared → Prop} (hh : A.handled = none) (hd : (d == sysModules) = false) (hm : s.heap.MapOf (intKind prog w) d f) (hv : f c = none)
    (h : ∀ h' k, (∀ b o, s.heap.get? b = some o → h'.get? b = some o) → Q .keep { s with heap := h', toks := k }) : wpAny (model prog w) A (tableLookup (.ref d) c) Q E s := by
  unfold tableLookup
  refine wpAny_bind (wpAny_attempt (wpAny_bind (wpAny_mkInt ?_)))
  refine wpAny_getItem_missing_of (s := { s with toks := s.toks + 1 }) (knd := intKind prog w) (k := (c : Int)) (key := .int (c : Int) s.toks) (isInt_self (c : Int) s.toks) hd hh hm hv ?_
  intro h' e hx
  dsimp only
  obtain ⟨ob, t, ho, hc, _⟩ := hx.there
  refine wpAny_bind (wpAny_isInstance (T := "KeyError") (b := true) ⟨ob, ho, hc⟩ key_sub ?_)
  rw [if_pos rfl]
  exact wpAny_bind (wpAny_rule (wpAny_pure (h _ _ hx.keeps)))

theorem translate_asc {x : Str} {t : Tok} {g : Nat → Nat} {Q : Value → Shared → Prop} (hh : A.handled = none) (hd : (d == sysModules) = false) (hx : Asc x) (hl : x.length ≤ 100000) (hm : s.heap.MapOf (intKind prog w) d f)
    (hg : ∀ c : Nat, c < 128 → (∃ t, f c = some (.int (g c : Int) t) ∧ g c < 128) ∨ (f c = none ∧ g c = c))
    (h : ∀ t' h' k, (∀ b o, s.heap.get? b = some o → h'.get? b = some o) → Q (.str (mapS g x) t') { s with heap := h', toks := k }) :
    wpAny (model prog w) A (call (.builtin "str.translate") [.str x t, .ref d]) Q E s := by
  refine wpAny_call_entry F.slot_str_translate (typeIs_str _ _ _) F.entry_str_translate ?_ (F.args_str_translate_2 _ _)
  unfold Builtin.«str.translate»
  show wpAny _ _ (pure (Value.str x t, x, Value.ref d) >>= _) _ _ _
  refine wpAny_bind (wpAny_pure ?_)
  dsimp only
  by_cases hz : (x.length == 0) = true
  · rw [if_pos hz]
    have he : x.cps = #[] := Array.eq_empty_of_size_eq_zero (by simpa [Str.length] using hz)
    have hx0 : mapS g x = x := mapS_id (by rw [he]; intro c hc; simp at hc)
    rw [hx0] at h
    refine wpAny_bind (wpAny_rule (wpAny_bind ?_))
    show wpAny _ _ (pure (Value.str x t)) _ _ _
    exact wpAny_pure (wpAny_pure ⟨_, rfl, h _ _ _ fun _ _ e => e⟩)
  rw [if_neg hz]
  have hall : (x.cps.all fun x => decide (x < 128)) = true := by
    rw [← Array.all_toList, List.all_eq_true]
    intro c hc
    exact decide_eq_true (hx c hc)
  rw [hall]
  refine wpAny_bind ?_
  refine MeetsSeq2.wpAny_forIn_array _ (fun rest b s' => ∃ (done : List Nat) (known : List (Nat × Option Nat)) (h' : Heap) (k : Nat), x.cps.toList = done ++ rest ∧
      b = ((done.map fun c => (⟨#[g c]⟩ : Str)).reverse, done.length, true, known, false) ∧ (∀ p ∈ known, p.2 = some (g p.1)) ∧ s' = { s with heap := h', toks := k } ∧ ∀ b o, s.heap.get? b = some o → h'.get? b = some o) _ ?_ ?_ _ _
      ⟨[], [], s.heap, s.toks, rfl, rfl, (fun p hp => nomatch hp), rfl, fun _ _ e => e⟩
  · rintro c rest b s' ⟨done, known, h', k, hcut, rfl, hkn, rfl, hk⟩
    have hlen : done.length ≤ 100000 := by
      have : x.length = (done ++ c :: rest).length := by rw [← hcut]; simp [Str.length]
      rw [List.length_append] at this
      omega
    have hc : c < 128 := hx c (by rw [hcut]; simp)
    have hcut' : x.cps.toList = (done ++ [c]) ++ rest := by rw [hcut]; simp
    have hlong : ¬ tooLong done.length = true := by
      unfold tooLong
      rw [sizeLine_eq]
      simp
      omega
    dsimp only
    rw [if_neg hlong, if_pos rfl]
    have fin : ∀ (known' : List (Nat × Option Nat)) (h'' : Heap) (k' : Nat), (∀ p ∈ known', p.2 = some (g p.1)) → (∀ b o, s.heap.get? b = some o → h''.get? b = some o) →
        ∃ (done' : List Nat) (known : List (Nat × Option Nat)) (h' : Heap) (k : Nat), x.cps.toList = done' ++ rest ∧
          (({ cps := #[g c] } : Str) :: (List.map (fun c => ({ cps := #[g c] } : Str)) done).reverse, done.length + 1, true, known', false) = ((done'.map fun c => (⟨#[g c]⟩ : Str)).reverse, done'.length, true, known, false) ∧ (∀ p ∈ known, p.2 = some (g p.1)) ∧ ({ s with heap := h'', toks := k' } : Shared) = { s with heap := h', toks := k } ∧ ∀ b o, s.heap.get? b = some o → h'.get? b = some o :=
      fun known' h'' k' h1 h2 => ⟨done ++ [c], known', h'', k', hcut', by simp, h1, rfl, h2⟩
    cases hlk : List.lookup c known with
    | some a =>
      have ha : a = some (g c) := by
        have hmem : ∀ (l : List (Nat × Option Nat)), (∀ p ∈ l, p.2 = some (g p.1)) → List.lookup c l = some a → a = some (g c) := by
          intro l
          induction l with
          | nil => intro _ e; simp at e
          | cons p r ih =>
            intro hl e
            rw [List.lookup_cons] at e
            cases hpc : c == p.1 with
            | true =>
              rw [hpc] at e
              have e1 : p.2 = a := by simpa using e
              rw [← e1, hl p (List.mem_cons_self ..), eq_of_beq hpc]
            | false =>
              rw [hpc] at e
              exact ih (fun q hq => hl q (List.mem_cons_of_mem _ hq)) (by simpa using e)
        exact hmem known hkn hlk
      subst ha
      dsimp only
      refine wpAny_bind (wpAny_pure ?_)
      dsimp only
      exact wpAny_pure (fin known h' k hkn hk)
    | none =>
      dsimp only
      rcases hg c hc with ⟨t, hv, hlt⟩ | ⟨hv, hid⟩
      · refine wpAny_bind (look_hit (s := { s with heap := h', toks := k }) (map_stays hk hm) hv hlt fun k' => ?_)
        simp only [hlt, if_true]
        refine wpAny_bind (wpAny_pure ?_)
        dsimp only
        exact wpAny_pure (fin _ h' k' (fun p hp => by
          rcases List.mem_cons.mp hp with rfl | hp
          · rfl
          · exact hkn p hp) hk)
      · refine wpAny_bind (look_miss (s := { s with heap := h', toks := k }) (by exact hh) hd (map_stays hk hm) hv fun h'' k' hk' => ?_)
        dsimp only
        refine wpAny_bind (wpAny_pure ?_)
        dsimp only
        have := fin ((c, some c) :: known) h'' k' (fun p hp => by
          rcases List.mem_cons.mp hp with rfl | hp
          · rw [hid]
          · exact hkn p hp) (fun b o e => hk' b o (hk b o e))
        rw [hid] at this
        exact wpAny_pure this
  · rintro b s' ⟨done, known, h', k, hcut, rfl, hkn, rfl, hk⟩
    rw [List.append_nil] at hcut
    have hlen : done.length ≤ 100000 := by
      have : x.length = done.length := by rw [← hcut]; simp [Str.length]
      omega
    have hlong : ¬ tooLong done.length = true := by
      unfold tooLong
      rw [sizeLine_eq]
      simp
      omega
    dsimp only
    rw [if_neg hlong, List.reverse_reverse]
    have e : (⟨(done.map fun c => (⟨#[g c]⟩ : Str)).foldl (fun acc p => acc ++ p.cps) #[]⟩ : Str) = mapS g x := by
      apply Str.ext'
      unfold mapS
      rw [hcut]
      have : ∀ (l : List Nat) (acc : Array Nat), (l.map fun c => (⟨#[g c]⟩ : Str)).foldl (fun acc p => acc ++ p.cps) acc = acc ++ (l.map g).toArray := by
        intro l
        induction l with
        | nil => intro acc; simp
        | cons c r ih => intro acc; simp only [List.map_cons, List.foldl_cons]; rw [ih]; simp
      rw [this]
      simp
    rw [e]
    refine wpAny_bind (wpAny_mkStr ?_ (by rw [mapS_len, sizeLine_eq]; omega))
    exact wpAny_pure ⟨_, rfl, h _ _ _ hk⟩
end
end Mine
end

section
set_option maxRecDepth 100000
set_option linter.unusedVariables false
set_option linter.unusedSimpArgs false
namespace Mine
open PySem PySem.Builtin PySem.Builtin.Str

theorem check_make (x y : Str) (t u : Tok) : checkBuiltinCall "str.maketrans" ⟨[.str x t, .str y u], []⟩ = pure () := by kernel_rfl
theorem entry_make : entryFor table "str.maketrans" = some Builtin.«str.maketrans» := entryFor_of_tree (by kernel_rfl)
theorem plain_make : plainId "str.maketrans" = true := by decide +kernel

/-- a table's pairs, the tokens left out -/
inductive Tab : List (Int × Value) → List (Int × Int) → Prop
  | nil : Tab [] []
  | cons {k v : Int} {t : Tok} {kvs : List (Int × Value)} {ps : List (Int × Int)} : Tab kvs ps → Tab ((k, .int v t) :: kvs) ((k, v) :: ps)
theorem Tab.append {a b : List (Int × Value)} {p q : List (Int × Int)} (h : Tab a p) (h' : Tab b q) : Tab (a ++ b) (p ++ q) := by
  induction h with
  | nil => exact h'
  | cons _ ih => exact .cons ih
theorem Tab.keys {a : List (Int × Value)} {p : List (Int × Int)} (h : Tab a p) : a.map (·.1) = p.map (·.1) := by
  induction h with
  | nil => rfl
  | cons _ ih => simp [ih]
theorem Tab.length {a : List (Int × Value)} {p : List (Int × Int)} (h : Tab a p) : a.length = p.length := by
  induction h with
  | nil => rfl
  | cons _ ih => simp [ih]
theorem Tab.at {a : List (Int × Value)} {p : List (Int × Int)} (h : Tab a p) (k : Int) : (valueAt a k = none ∧ k ∉ p.map (·.1)) ∨ ∃ v t, valueAt a k = some (.int v t) ∧ (k, v) ∈ p := by
  induction h with
  | nil => exact .inl ⟨rfl, by simp⟩
  | @cons k' v t kvs ps _ ih =>
    by_cases hk : k' = k
    · subst hk
      exact .inr ⟨v, t, by simp [valueAt], by simp⟩
    · have e : valueAt ((k', Value.int v t) :: kvs) k = valueAt kvs k := by simp [valueAt, hk]
      rw [e]
      rcases ih with ⟨h1, h2⟩ | ⟨v', t', h1, h2⟩
      · exact .inl ⟨h1, by simp only [List.map_cons, List.mem_cons, not_or]; exact ⟨fun e => hk e.symm, h2⟩⟩
      · exact .inr ⟨v', t', h1, List.mem_cons_of_mem _ h2⟩
theorem stored_new {kvs : List (Int × Value)} {k : Int} {v : Value} (h : k ∉ kvs.map (·.1)) : stored kvs k v = kvs ++ [(k, v)] := by
  unfold stored
  rw [if_neg]
  intro hc
  obtain ⟨kv, hm, he⟩ := List.any_eq_true.mp hc
  exact h (List.mem_map.mpr ⟨kv, hm, of_decide_eq_true he⟩)

noncomputable def pairsOf (x y : Str) : List (Int × Int) := (x.cps.toList.zip y.cps.toList).map fun p => ((p.1 : Int), (p.2 : Int))

section
variable {prog : Program} {w : World} {A : Around} {E : Value → Shared → Prop} {s : Shared}
theorem maketrans {x y : Str} {t u : Tok} {Q : Value → Shared → Prop} (hl : x.length = y.length) (hs : x.length ≤ 1000) (hn : x.cps.toList.Nodup)
    (h : ∀ kvs h' k, Tab kvs (pairsOf x y) → h'.DictOf (intKind prog w) s.heap.objs.size kvs → (∀ b o, s.heap.get? b = some o → h'.get? b = some o) → Q (.ref s.heap.objs.size) { s with heap := h', toks := k }) :
    wpAny (model prog w) A (call (.builtin "str.maketrans") [.str x t, .str y u]) Q E s := by
  refine wpAny_call (codeAny_call_builtin plain_make entry_make ?_)
  rw [check_make]
  refine wpAny_pure ?_
  unfold Builtin.«str.maketrans»
  refine wpAny_bind (wpAny_of_eq (a := ()) rfl ?_)
  refine wpAny_bind (wpAny_of_eq (a := ()) rfl ?_)
  refine wpAny_bind (wpAny_of_eq (a := some y) rfl ?_)
  refine wpAny_bind (wpAny_of_eq (a := (none : Option Str)) rfl ?_)
  unfold newDict
  refine wpAny_bind (wpAny_newObj_type ?_ (by size_fits))
  dsimp only
  refine wpAny_bind (wpAny_holding ?_)
  refine wpAny_bind (wpAny_of_eq (a := some x) rfl ?_)
  dsimp only
  rw [if_neg (by simp [hl])]
  have hkeep : ∀ b o, s.heap.get? b = some o → (s.heap.push { cls := .type "dict", data := .dict #[] }).get? b = some o := fun b o e => Heap.get?_push_of_some _ e
  refine wpAny_bind ?_
  refine wpAny_forIn_list _ (fun rest _ s' => ∃ (done : List (Nat × Nat)) (kvs : List (Int × Value)) (h' : Heap) (k : Nat), x.cps.toList.zip y.cps.toList = done ++ rest ∧
      Tab kvs (done.map fun p => ((p.1 : Int), (p.2 : Int))) ∧ h'.DictOf (intKind prog w) s.heap.objs.size kvs ∧ s' = { s with heap := h', toks := k } ∧ ∀ b o, s.heap.get? b = some o → h'.get? b = some o) _ ?_ ?_ _ _
      ⟨[], [], _, s.toks, rfl, .nil, Heap.DictOf.new _, rfl, hkeep⟩
  · rintro ⟨a, b⟩ rest _ s' ⟨done, kvs, h', k, hcut, htab, hdict, rfl, hk⟩
    dsimp only
    refine wpAny_bind (wpAny_mkInt (wpAny_bind (wpAny_mkInt (wpAny_bind ?_))))
    have hzl : (x.cps.toList.zip y.cps.toList).length ≤ 1000 := by
      rw [List.length_zip]
      have : x.cps.toList.length = x.length := by simp [Str.length]
      omega
    have hkl : kvs.length ≤ 1000 := by
      rw [htab.length, List.length_map]
      rw [hcut, List.length_append] at hzl
      omega
    have hkn : ((x.cps.toList.zip y.cps.toList).map Prod.fst).Nodup := by
      rw [List.map_fst_zip (by simp [Str.length] at hl ⊢; omega)]
      exact hn
    have hnew : (a : Int) ∉ kvs.map (·.1) := by
      rw [htab.keys, List.map_map]
      intro hm
      obtain ⟨p, hp, he⟩ := List.mem_map.mp hm
      have he' : p.1 = a := by
        have : (p.1 : Int) = (a : Int) := he
        omega
      rw [hcut, List.map_append, List.nodup_append] at hkn
      exact hkn.2.2 p.1 (List.mem_map.mpr ⟨p, hp, rfl⟩) a (by simp) he'
    refine wpAny_dictSet_pairs (s := { s with heap := h', toks := k + 1 + 1 }) (knd := intKind prog w) (k := (a : Int)) (key := .int (a : Int) k) (isInt_self (a : Int) k) hdict (fun h'' hd' hsame => ?_) (by rw [sizeLine_eq]; omega)
    refine wpAny_pure ⟨done ++ [(a, b)], _, h'', _, by rw [hcut]; simp, ?_, hd', rfl, fun c o e => ?_⟩
    · rw [stored_new hnew, List.map_append]
      exact htab.append (.cons .nil)
    · rw [hsame.2 c (Nat.ne_of_lt (Heap.lt_size e))]
      exact hk c o e
  · rintro _ s' ⟨done, kvs, h', k, hcut, htab, hdict, rfl, hk⟩
    rw [List.append_nil] at hcut
    refine wpAny_bind ?_
    refine MeetsSeq2.wpAny_forIn_array _ (fun rest _ s' => rest = [] ∧ s' = { s with heap := h', toks := k }) _ ?_ ?_ _ _ ⟨rfl, rfl⟩
    · rintro c rest _ s' ⟨hc, _⟩
      cases hc
    · rintro _ s' ⟨_, rfl⟩
      refine wpAny_pure (wpAny_pure ?_)
      exact h kvs h' k (by unfold pairsOf; rw [hcut]; exact htab) hdict hk
end
end Mine
end

section
set_option maxRecDepth 100000
set_option linter.unusedVariables false
set_option linter.unusedSimpArgs false
namespace Mine
open PySem PySem.Builtin

theorem keys_miss : typeLookup (.type "list") (Str.ofString "keys") = pure none := am_miss_of_fast (by kernel_rfl)

section
variable {prog : Program} {w : World} {A : Around} {E : Value → Shared → Prop} {s : Shared}
theorem keys_raise {a : Addr} {xs : Array Value} {k : Nat} {sl : Array (Option Value)} {u : Tok} {Q : Value → Shared → Prop} (hx : s.heap.get? a = some ⟨.type "list", none, .seq xs k, sl⟩) (hA : A.handled = none)
    (h : ∀ h' tk e, Heap.NewExcOf s.heap h' e "AttributeError" → E (.ref e) { s with heap := h', toks := tk }) :
    wpAny (model prog w) A (getAttrBy (.ref a) (.str (Str.ofString "keys") u) false) Q E s := by
  obtain ⟨hp, g, d, tk, os⟩ := s
  have hT : ∀ tk', (⟨hp, g, d, tk', os⟩ : Shared).TypeIs (.ref a) "list" := fun _ => ⟨_, hx, rfl⟩
  have f1 := sub_AttributeError
  have f3 := F.slot_list_getattribute.lookup
  have f4 := F.slot_list_getattribute.bind (.ref a)
  have f5 := am_list_getattr_none
  have hname : (["__module__", "__name__", "__qualname__", "__doc__", "__annotations__"] : List Str).contains (Str.ofString "keys") = false := by decide
  unfold getAttrBy
  repeat (any_goals (first | assumption | exact hT _ | ((with_reducible show wpAny _ _ (call (Value.builtin "list.__getattribute__") _ _) _ _ _); refine call_meets F.slot_list_getattribute (hT _) am_entry_list_getattribute (F.args_list_getattribute_2 _ _) (meets_getattribute_miss_list a xs k sl (Str.ofString "keys") _ keys_miss hname (by size_fits)) ⟨hx, hA, fun h' tk' e hx' => ?_⟩) | wp_step))
  obtain ⟨t', u', he⟩ := hx'.there
  show wpAny _ _ (getattributeRaised _ _ _ _ _ _ _) _ _ _
  unfold getattributeRaised
  repeat (any_goals (first | assumption | wp_step))
  exact h _ _ _ hx'.of

theorem no_keys {a : Addr} {xs : Array Value} {k : Nat} {sl : Array (Option Value)} {Q : Option Value → Shared → Prop} (hx : s.heap.get? a = some ⟨.type "list", none, .seq xs k, sl⟩) (hA : A.handled = none)
    (h : ∀ h' tk, (∀ b o, s.heap.get? b = some o → h'.get? b = some o) → Q none { s with heap := h', toks := tk }) :
    wpAny (model prog w) A (getAttr? (.ref a) (Str.ofString "keys")) Q E s := by
  unfold getAttr?
  refine wpAny_bind (wpAny_mkText ?_)
  unfold getAttrBy?
  refine wpAny_bind (wpAny_attempt (keys_raise (s := { s with toks := s.toks + 1 }) hx hA fun h' tk e hn => ?_))
  dsimp only
  obtain ⟨ob, vs, ho, hc, _⟩ := hn.there
  refine wpAny_bind (wpAny_isInstance (T := "AttributeError") (b := true) ⟨ob, ho, hc⟩ sub_AttributeError ?_)
  rw [if_pos rfl]
  exact wpAny_pure (h _ _ hn.keeps)
end

/-- a list's items are pairs of ints -/
inductive PairsAt (h : Heap) : List Value → List (Int × Int) → Prop
  | nil : PairsAt h [] []
  | cons {a : Addr} {k v : Int} {t u : Tok} {vs : List Value} {ps : List (Int × Int)} : h.IsTuple a #[.int k t, .int v u] → PairsAt h vs ps → PairsAt h (.ref a :: vs) ((k, v) :: ps)
theorem PairsAt.length {h : Heap} {vs : List Value} {ps : List (Int × Int)} (x : PairsAt h vs ps) : vs.length = ps.length := by
  induction x with
  | nil => rfl
  | cons _ _ ih => simp [ih]
theorem PairsAt.append {h : Heap} {vs vs' : List Value} {ps ps' : List (Int × Int)} (x : PairsAt h vs ps) (y : PairsAt h vs' ps') : PairsAt h (vs ++ vs') (ps ++ ps') := by
  induction x with
  | nil => exact y
  | cons h1 _ ih => exact .cons h1 ih
theorem PairsAt.keeps {h h' : Heap} {vs : List Value} {ps : List (Int × Int)} (x : PairsAt h vs ps) (k : ∀ b o, h.get? b = some o → h'.get? b = some o) : PairsAt h' vs ps := by
  induction x with
  | nil => exact .nil
  | cons h1 _ ih =>
    obtain ⟨o, ho, r⟩ := h1
    exact .cons ⟨o, k _ _ ho, r⟩ ih
theorem PairsAt.get {h : Heap} {vs : List Value} {ps : List (Int × Int)} (x : PairsAt h vs ps) : ∀ (i : Nat) (v : Value), vs[i]? = some v → ∃ p a t u, ps[i]? = some p ∧ v = .ref a ∧ h.IsTuple a #[.int p.1 t, .int p.2 u] := by
  induction x with
  | nil => intro i v e; simp at e
  | @cons a k v t u vs ps h1 _ ih =>
    intro i w e
    cases i with
    | zero => simp at e; exact ⟨(k, v), a, t, u, rfl, e.symm, h1⟩
    | succ i => simpa using ih i w (by simpa using e)

theorem dict_at {prog : Program} {w : World} {h h' : Heap} {a : Addr} {kvs : List (Int × Value)} (x : h.DictOf (intKind prog w) a kvs) (k : ∀ o, h.get? a = some o → h'.get? a = some o) : h'.DictOf (intKind prog w) a kvs :=
  let ⟨o, es, ep, ho, r⟩ := x; ⟨o, es, ep, k o ho, r⟩
theorem entry_loop : entryFor table "dict.update.loop" = some Builtin.«dict.update.loop» := entryFor_of_tree (by kernel_rfl)
theorem plain_loop : plainId "dict.update.loop" = true := by decide +kernel

section
variable {prog : Program} {w : World} {A : Around} {R : Result → Shared → Prop}
theorem update_loop {d I l : Addr} {vs : List Value} {ps : List (Int × Int)} {s₀ : Shared} (hh : A.handled = none) (hlI : l ≠ I) (hld : l ≠ d) (hdI : d ≠ I) (hl : s₀.heap.IsList l vs.toArray) (hd0 : s₀.heap.get? d = none) (hI0 : s₀.heap.get? I = none)
    (hp : PairsAt s₀.heap vs ps) (hn : (ps.map (·.1)).Nodup) (hsz : ps.length ≤ 1000) (res : Value) :
    ∀ (k i : Nat) (s : Shared) (u : Tok) (kvs : List (Int × Value)), ps.length - i = k → i ≤ ps.length → s.heap.IsListIter I l i → (∀ b o, s₀.heap.get? b = some o → s.heap.get? b = some o) →
      s.heap.DictOf (intKind prog w) d kvs → Tab kvs (ps.take i) →
      (∀ kvs' h' tk, Tab kvs' ps → h'.DictOf (intKind prog w) d kvs' → (∀ b o, s₀.heap.get? b = some o → h'.get? b = some o) → R (.ok (.ret res)) { s with heap := h', toks := tk }) →
      codeAny (model prog w) A (.builtin "dict.update.loop" ⟨[.ref d, .ref I, .int (i : Int) u, res], []⟩) R s := by
  have hlen := hp.length
  have W := Walks.list (prog := prog) (w := w) (A := A.in1) hh I l hlI vs.toArray
  intro k
  induction k with
  | zero =>
    intro i s u kvs hk hi hit hkeep hdict htab hR
    have hin : i = ps.length := by omega
    subst hin
    refine codeAny_builtin entry_loop ?_
    rw [Around.under_plainId plain_loop _]
    show wpAny _ A.in1 (pyNext (.ref I) >>= _) _ _ s
    refine wpAny_bind (W.done s _ _ ⟨by rw [List.size_toArray, hlen]; exact hit, hl.at fun o e => hkeep l o e⟩ fun h' tk hk' => ?_)
    dsimp only
    refine wpAny_bind (wpAny_of_eq (a := ()) rfl (wpAny_pure ?_))
    rw [List.take_length] at htab
    refine hR kvs h' tk htab (dict_at hdict fun o e => hk' d o (by simpa using hdI) e) fun b o e => hk' b o (fun hb => ?_) (hkeep b o e)
    rw [List.mem_singleton.mp hb, hI0] at e
    cases e
  | succ k ih =>
    intro i s u kvs hk hi hit hkeep hdict htab hR
    have hlt : i < ps.length := by omega
    refine codeAny_builtin entry_loop ?_
    rw [Around.under_plainId plain_loop _]
    show wpAny _ A.in1 (pyNext (.ref I) >>= _) _ _ s
    refine wpAny_bind (W.item i s _ _ (by rw [List.size_toArray, hlen]; exact hlt) ⟨hit, hl.at fun o e => hkeep l o e⟩ fun v h' tk hP hst hk' => ?_)
    obtain ⟨p, a, t, t', hpi, rfl, htup⟩ := hp.get i v (by simpa using hP)
    have hkeep' : ∀ b o, s₀.heap.get? b = some o → h'.get? b = some o := fun b o e => hk' b o (fun hb => by
      rw [List.mem_singleton.mp hb, hI0] at e
      cases e) (hkeep b o e)
    obtain ⟨oa, hoa, hca, na, hda⟩ := htup
    have hoa' := hkeep' a oa hoa
    dsimp only
    refine wpAny_bind (wpAny_holding ?_)
    refine wpAny_bind ?_
    refine wpAny_tryCatch ?_
    unfold Dict.pairItems
    refine wpAny_bind (wpAny_typeOf (T := "tuple") ⟨oa, hoa', hca⟩ ?_)
    rw [if_pos (by decide)]
    refine wpAny_bind (wpAny_seqItems hoa' hda (wpAny_pure ?_))
    dsimp only [Option.getD]
    refine wpAny_holding ?_
    have hkl : kvs.length ≤ 1000 := by
      rw [htab.length, List.length_take]
      omega
    have hdict' : h'.DictOf (intKind prog w) d kvs := dict_at hdict fun o e => hk' d o (by simpa using hdI) e
    have hnew : p.1 ∉ kvs.map (·.1) := by
      rw [htab.keys]
      intro hm
      have hsplit : ps = ps.take i ++ p :: ps.drop (i + 1) := by
        have h1 : ps[i]? = some ps[i] := List.getElem?_eq_getElem hlt
        have h2 : p = ps[i] := Option.some.inj (hpi.symm.trans h1)
        rw [h2, ← List.drop_eq_getElem_cons hlt, List.take_append_drop]
      rw [hsplit, List.map_append, List.nodup_append] at hn
      exact hn.2.2 p.1 hm p.1 (by simp) rfl
    refine wpAny_dictSet_pairs (s := { s with heap := h', toks := tk }) (knd := intKind prog w) (k := p.1) (key := .int p.1 t) (isInt_self p.1 t) hdict' (fun h'' hd' hsame => ?_) (by rw [sizeLine_eq]; omega)
    dsimp only
    refine wpAny_pure ⟨plainId_quiet plain_loop _, ?_⟩
    have e1 : (rawInt ((i : Int) + 1)) = .int ((i + 1 : Nat) : Int) 0 := by unfold rawInt; congr 1
    rw [e1]
    refine ih (i + 1) _ 0 _ (by omega) hlt ?_ ?_ hd' ?_ hR
    · exact hst.1.at fun o e => (hsame.2 I (Ne.symm hdI)).trans e
    · intro b o e
      refine (hsame.2 b ?_).trans (hkeep' b o e)
      intro hb
      rw [hb, hd0] at e
      cases e
    · rw [stored_new hnew, List.take_add_one, hpi]
      exact htab.append (.cons .nil)

theorem init_pairs {s s₀ : Shared} {d l : Addr} {vs : List Value} {ps : List (Int × Int)} {n : Nat} {sl : Array (Option Value)} (hh : A.handled = none) (hd : s.heap.DictOf (intKind prog w) d []) (hd0 : s₀.heap.get? d = none)
    (hk : ∀ b o, s₀.heap.get? b = some o → s.heap.get? b = some o) (hl : s₀.heap.get? l = some ⟨.type "list", none, .seq vs.toArray n, sl⟩) (hp : PairsAt s₀.heap vs ps) (hn : (ps.map (·.1)).Nodup) (hsz : ps.length ≤ 1000)
    (hR : ∀ kvs h' tk, Tab kvs ps → h'.DictOf (intKind prog w) d kvs → (∀ b o, s₀.heap.get? b = some o → h'.get? b = some o) → R (.ok (.ret .none)) { s with heap := h', toks := tk }) :
    wpAny (model prog w) A.in1 (Builtin.«dict.__init__» ⟨[.ref d, .ref l], []⟩)
      (fun fin s' => match fin with | .done f => R (.ok f) s' | .again c' => c'.quiet = true ∧ codeAny (model prog w) A c' R s') (fun e s' => R (.error e) s') s := by
  have hl' := hk _ _ hl
  have hT : s.TypeIs (.ref l) "list" := ⟨_, hl', rfl⟩
  unfold Builtin.«dict.__init__»
  refine wpAny_bind ?_
  unfold Builtin.Dict.selfAndRest
  refine wpAny_bind (wpAny_notOrdered_dict hd.typeIs ?_)
  show wpAny _ _ (pure (d, [Value.ref l])) _ _ _
  refine wpAny_pure ?_
  show wpAny _ _ (Builtin.Dict.updateFrom "dict.__init__" d (.ref l) [] .none) _ _ _
  unfold Builtin.Dict.updateFrom
  refine wpAny_bind (wpAny_typeOf hT ?_)
  rw [if_pos (by decide)]
  refine wpAny_bind (no_keys hl' (by exact hh) fun h₁ tk₁ hk₁ => ?_)
  rw [if_pos (by rfl)]
  refine wpAny_bind (wpAny_rule ?_)
  have hl₁ : h₁.IsList l vs.toArray := ⟨_, hk₁ _ _ hl', rfl, n, rfl⟩
  refine wpAny_bind (wpAny_pyIter_list (s := { s with heap := h₁, toks := tk₁ }) hl₁ ?_)
  refine wpAny_pure ⟨plainId_quiet plain_loop _, ?_⟩
  have hI0 : s₀.heap.get? h₁.objs.size = none := by
    cases e : s₀.heap.get? h₁.objs.size with
    | none => rfl
    | some o => exact absurd (Heap.lt_size (hk₁ _ _ (hk _ _ e))) (Nat.lt_irrefl _)
  have hlI : l ≠ h₁.objs.size := Nat.ne_of_lt (Heap.lt_size (hk₁ _ _ hl'))
  have hld : l ≠ d := fun e => by rw [e, hd0] at hl; cases hl
  have hdI : d ≠ h₁.objs.size := by
    obtain ⟨o, _, _, ho, _⟩ := hd
    exact Nat.ne_of_lt (Heap.lt_size (hk₁ _ _ ho))
  refine update_loop (s₀ := s₀) hh hlI hld hdI ⟨_, hl, rfl, n, rfl⟩ hd0 hI0 hp hn hsz .none _ 0 _ 0 [] rfl (Nat.zero_le _) ?_ ?_ ?_ ?_ ?_
  · exact ⟨_, Heap.get?_push_size _ rfl, rfl, rfl⟩
  · intro b o e
    exact Heap.get?_push_of_some _ (hk₁ _ _ (hk _ _ e))
  · exact dict_at hd fun o e => Heap.get?_push_of_some _ (hk₁ _ _ e)
  · exact .nil
  · intro kvs' h' tk h1 h2 h3
    exact hR kvs' h' tk h1 h2 h3
end
end Mine
end

section
set_option maxRecDepth 100000
set_option linter.unusedVariables false
set_option linter.unusedSimpArgs false
namespace Mine
open PySem PySem.Builtin PyProof.Rows

section
variable {prog : Program} {w : World} {A : Around} {E : Value → Shared → Prop} {s : Shared}
theorem dict_pairs {l : Addr} {vs : List Value} {ps : List (Int × Int)} {n : Nat} {sl : Array (Option Value)} {Q : Value → Shared → Prop} (hh : A.handled = none)
    (hl : s.heap.get? l = some ⟨.type "list", none, .seq vs.toArray n, sl⟩) (hp : PairsAt s.heap vs ps) (hn : (ps.map (·.1)).Nodup) (hsz : ps.length ≤ 1000)
    (h : ∀ kvs h' tk, Tab kvs ps → h'.DictOf (intKind prog w) s.heap.objs.size kvs → (∀ b o, s.heap.get? b = some o → h'.get? b = some o) → Q (.ref s.heap.objs.size) { s with heap := h', toks := tk }) :
    wpAny (model prog w) A (call (.type "dict") [.ref l]) Q E s := by
  refine callType_codes (Q₁ := fun obj s₁ => obj = .ref s.heap.objs.size ∧ s₁ = { s with heap := s.heap.push { cls := .type "dict", data := .dict #[] } }) F.kt_called_dict (F.kt_typeCall_dict_1 _) F.entry_dict_init (kt_code_dict_new _ ⟨rfl, rfl⟩) ?_
  rintro obj s₁ ⟨rfl, rfl⟩
  have hnew : (s.heap.push { cls := .type "dict", data := .dict #[] }).DictOf (intKind prog w) s.heap.objs.size [] := Heap.DictOf.new s.heap
  refine ⟨hnew.typeIs, F.args_dict_init_2 _ _, ?_⟩
  refine init_pairs (s₀ := s) (A := A.in1) hh hnew ?_ (fun b o e => Heap.get?_push_of_some _ e) hl hp hn hsz ?_
  · cases e : s.heap.get? s.heap.objs.size with
    | none => rfl
    | some o => exact absurd (Heap.lt_size e) (Nat.lt_irrefl _)
  · intro kvs h' tk h1 h2 h3
    exact ⟨rfl, h kvs h' tk h1 h2 h3⟩
end

/-- a made pair of ints -/
noncomputable abbrev pairObj (k v : Int) (t u : Tok) : Obj := { cls := .type "tuple", data := .seq [.int k t, .int v u].toArray }
/-- the pairs that a comprehension has made -/
inductive Made : List Value → List (Int × Int) → List (Addr × Obj) → Prop
  | nil : Made [] [] []
  | snoc {ys : List Value} {ps : List (Int × Int)} {nw : List (Addr × Obj)} {T : Addr} {k v : Int} {t u : Tok} : Made ys ps nw → Made (ys ++ [.ref T]) (ps ++ [(k, v)]) ((T, pairObj k v t u) :: nw)
theorem Made.pairs {ys : List Value} {ps : List (Int × Int)} {nw : List (Addr × Obj)} (x : Made ys ps nw) {h : Heap} (k : ∀ p ∈ nw, h.get? p.1 = some p.2) : PairsAt h ys ps := by
  induction x with
  | nil => exact .nil
  | snoc _ ih => exact (ih fun p hp => k p (List.mem_cons_of_mem _ hp)).append (.cons ⟨_, k _ (List.mem_cons_self ..), rfl, _, rfl⟩ .nil)

section
variable {prog : Program} {w : World} {A : Around} {h₀ : Heap} {L : Addr} {m : Str → Option Value} {env : Env} {elt : Expr} {x : Str} {scope : Scope} {cl : List (Str × Addr)} {s : Shared} {Fin : List Value → List (Addr × Obj) → Prop} {news : List (Addr × Obj)}
theorem pairs_rest {n : Nat} (g : Nat → Int × Int)
    (turn : ∀ (i : Nat) t I oI C oC D m₂ ys nw h tk (E' : Value → Shared → Prop), i < n → LCg.NsObj oC m₂ → m₂ x = some (.int (0 + (i : Int)) t) → Fr h₀ L h m → News h₀ L h ((I, oI) :: (C, oC) :: (D, LCg.lst ys) :: (nw ++ news)) → LCg.Off3 I C D (nw ++ news) → ((@Ne Nat I C) ∧ (@Ne Nat I D) ∧ (@Ne Nat C D)) →
      wpAny (model prog w) A (eval elt (compEnvC scope cl C env)) (LCg.CompEnd h₀ L m { s with heap := h, toks := tk } I oI C oC D (LCg.lst ys) (fun _ => True) (fun y news' => ∃ T t u, y = .ref T ∧ news' = (T, pairObj (g i).1 (g i).2 t u) :: (nw ++ news))) E' { s with heap := h, toks := tk })
    (fin : ∀ ys nw, Made ys ((List.range n).map g) nw → Fin ys (nw ++ news)) :
    LCg.CompRest prog w A h₀ L m env elt x scope cl s (fun _ => True) (fun i v => ∃ t, v = .int (0 + (i : Int)) t) Fin n 0 [] news := by
  have key : ∀ (j i : Nat) (ys : List Value) (nw : List (Addr × Obj)), i + j = n → Made ys ((List.range i).map g) nw → LCg.CompRest prog w A h₀ L m env elt x scope cl s (fun _ => True) (fun i v => ∃ t, v = .int (0 + (i : Int)) t) Fin j i ys (nw ++ news) := by
    intro j
    induction j with
    | zero =>
      intro i ys nw hi hy
      have e : i = n := by omega
      subst e
      exact LCg.CompRest.zero (fin ys nw hy)
    | succ j ih =>
      intro i ys nw hi hy
      refine LCg.CompRest.succ ?_
      intro v I oI C oC D m₂ h tk E' hv hC hx F N off ne
      obtain ⟨t, rfl⟩ := hv
      refine wpAny_mono (turn i t I oI C oC D m₂ ys nw h tk E' (by omega) hC hx F N off ne) (fun y s₂ hq => ?_) fun _ _ e => e
      obtain ⟨h', tk', nw', e, F', N', off', hS, T, t', u', rfl, rfl⟩ := hq
      refine ⟨h', tk', _, e, F', N', off', trivial, ?_⟩
      rw [← List.cons_append]
      refine ih (i + 1) _ _ (by omega) ?_
      rw [List.range_succ, List.map_append]
      exact .snoc hy
  exact key n 0 [] [] (by omega) .nil
end
end Mine
end

section
set_option maxRecDepth 100000
set_option linter.unusedVariables false
set_option linter.unusedSimpArgs false
namespace Mine
open PySem

noncomputable def smallPs (k : Nat) : List (Int × Int) := (List.range 26).map fun (i : Nat) => (97 + (i : Int), 97 + (((i + k) % 26 : Nat) : Int))
noncomputable def capPs (k : Nat) : List (Int × Int) := (List.range 26).map fun (i : Nat) => (65 + (i : Int), 65 + (((i + k) % 26 : Nat) : Int))
noncomputable def smallL : List Nat := (List.range 26).map (97 + ·)
noncomputable def capL : List Nat := (List.range 26).map (65 + ·)
/-- a text of signs -/
noncomputable abbrev ofL (l : List Nat) : Str := ⟨l.toArray⟩
theorem ofL_toList (x : Str) : ofL x.cps.toList = x := by simp [ofL]
theorem ofL_append (a b : List Nat) : ofL a ++ ofL b = ofL (a ++ b) := Str.ext' (by rw [Str.cps_append]; simp [ofL])
theorem ofL_len (a : List Nat) : (ofL a).length = a.length := by simp [ofL, Str.length]
theorem ofL_cps (a : List Nat) : (ofL a).cps.toList = a := rfl
theorem ofL_inj {a b : List Nat} (h : ofL a = ofL b) : a = b := congrArg (fun x => x.cps.toList) h
theorem small_is : Str.ofString "abcdefghijklmnopqrstuvwxyz" = ofL smallL := by decide +kernel
theorem cap_is : Str.ofString "ABCDEFGHIJKLMNOPQRSTUVWXYZ" = ofL capL := by decide +kernel
theorem letters_nodup : (ofL (smallL ++ capL)).cps.toList.Nodup := by decide +kernel

noncomputable def turned (k : Nat) : List Nat := (smallL.drop k ++ smallL.take k) ++ (capL.drop k ++ capL.take k)
theorem turned_len (k : Nat) : (turned k).length = 52 := by
  have h1 : smallL.length = 26 := by decide
  have h2 : capL.length = 26 := by decide
  simp only [turned, List.length_append, List.length_drop, List.length_take, h1, h2]
  omega
theorem pairs_table : ∀ k, k < 26 → pairsOf (ofL (smallL ++ capL)) (ofL (turned k)) = smallPs k ++ capPs k := by decide +kernel

theorem mem_table {k : Nat} {c v : Int} (h : (c, v) ∈ smallPs k ++ capPs k) : ∃ i : Nat, i < 26 ∧ ((c = 97 + i ∧ v = 97 + (((i + k) % 26 : Nat) : Int)) ∨ (c = 65 + i ∧ v = 65 + (((i + k) % 26 : Nat) : Int))) := by
  rcases List.mem_append.mp h with h | h
  · obtain ⟨i, hi, he⟩ := List.mem_map.mp h
    have := Prod.mk.inj he
    exact ⟨i, List.mem_range.mp hi, .inl ⟨this.1.symm, this.2.symm⟩⟩
  · obtain ⟨i, hi, he⟩ := List.mem_map.mp h
    have := Prod.mk.inj he
    exact ⟨i, List.mem_range.mp hi, .inr ⟨this.1.symm, this.2.symm⟩⟩
theorem not_table {k : Nat} {c : Nat} (h : (c : Int) ∉ (smallPs k ++ capPs k).map (·.1)) : ¬ (97 ≤ c ∧ c ≤ 122) ∧ ¬ (65 ≤ c ∧ c ≤ 90) := by
  refine ⟨fun hc => h ?_, fun hc => h ?_⟩
  · rw [List.map_append]
    refine List.mem_append_left _ (List.mem_map.mpr ⟨(97 + ((c - 97 : Nat) : Int), 97 + (((c - 97 + k) % 26 : Nat) : Int)), List.mem_map.mpr ⟨c - 97, List.mem_range.mpr (by omega), rfl⟩, ?_⟩)
    show 97 + ((c - 97 : Nat) : Int) = c
    omega
  · rw [List.map_append]
    refine List.mem_append_right _ (List.mem_map.mpr ⟨(65 + ((c - 65 : Nat) : Int), 65 + (((c - 65 + k) % 26 : Nat) : Int)), List.mem_map.mpr ⟨c - 65, List.mem_range.mpr (by omega), rfl⟩, ?_⟩)
    show 65 + ((c - 65 : Nat) : Int) = c
    omega
/-- what a shift's table answers -/
theorem table_says {k : Nat} {kvs : List (Int × Value)} (ht : Tab kvs (smallPs k ++ capPs k)) (c : Nat) (hc : c < 128) :
    (∃ t, valueAt kvs (c : Int) = some (.int (shiftC k c : Int) t) ∧ shiftC k c < 128) ∨ (valueAt kvs (c : Int) = none ∧ shiftC k c = c) := by
  rcases ht.at (c : Int) with ⟨h1, h2⟩ | ⟨v, t, h1, h2⟩
  · have := not_table h2
    refine .inr ⟨h1, ?_⟩
    unfold shiftC
    rw [if_neg this.2, if_neg this.1]
  · obtain ⟨i, hi, ⟨e1, e2⟩ | ⟨e1, e2⟩⟩ := mem_table h2
    · have hs : shiftC k c = 97 + (i + k) % 26 := by
        unfold shiftC
        rw [if_neg (by omega), if_pos (by omega)]
        have : c - 97 = i := by omega
        rw [this]
      refine .inl ⟨t, ?_, by rw [hs]; omega⟩
      rw [h1, hs, e2]
      rfl
    · have hs : shiftC k c = 65 + (i + k) % 26 := by
        unfold shiftC
        rw [if_pos (by omega)]
        have : c - 65 = i := by omega
        rw [this]
      refine .inl ⟨t, ?_, by rw [hs]; omega⟩
      rw [h1, hs, e2]
      rfl
theorem keys_table (k : Nat) : (smallPs k ++ capPs k).map (·.1) = (smallPs 0 ++ capPs 0).map (·.1) := by
  simp only [smallPs, capPs, List.map_append, List.map_map]
  rfl
theorem table_nodup (k : Nat) : ((capPs k ++ smallPs k).map (·.1)).Nodup := by
  have : (capPs k ++ smallPs k).map (·.1) = (capPs 0 ++ smallPs 0).map (·.1) := by
    simp only [smallPs, capPs, List.map_append, List.map_map]
    rfl
  rw [this]
  decide +kernel
end Mine
end

section
/-! The plain law: numerals as lists of signs. No program in sight. -/
set_option linter.unusedSimpArgs false
set_option linter.unusedVariables false
namespace Mine

noncomputable def table : List (Nat × List Nat) :=
  [(1000, [77]), (900, [67, 77]), (500, [68]), (400, [67, 68]), (100, [67]), (90, [88, 67]), (50, [76]), (40, [88, 76]), (10, [88]), (9, [73, 88]), (5, [86]), (4, [73, 86]), (1, [73])]
noncomputable def forms3 : List (List Nat) := [[], [77], [77, 77], [77, 77, 77]]
noncomputable def forms2 : List (List Nat) := [[], [67], [67, 67], [67, 67, 67], [67, 68], [68], [68, 67], [68, 67, 67], [68, 67, 67, 67], [67, 77]]
noncomputable def forms1 : List (List Nat) := [[], [88], [88, 88], [88, 88, 88], [88, 76], [76], [76, 88], [76, 88, 88], [76, 88, 88, 88], [88, 67]]
noncomputable def forms0 : List (List Nat) := [[], [73], [73, 73], [73, 73, 73], [73, 86], [86], [86, 73], [86, 73, 73], [86, 73, 73, 73], [73, 88]]
noncomputable def places : List (Nat × List (List Nat)) := [(1000, forms3), (100, forms2), (10, forms1), (1, forms0)]

noncomputable def rep (k : Nat) (x : List Nat) : List Nat := (List.replicate k x).flatten
noncomputable def romanStep (st : List Nat × Nat) (e : Nat × List Nat) : List Nat × Nat := (st.1 ++ rep (st.2 / e.1) e.2, st.2 % e.1)
noncomputable def romanL (n : Nat) : List Nat := (table.foldl romanStep ([], n)).1
noncomputable def numStep (n : Nat) (out : List Nat) (e : Nat × List (List Nat)) : List Nat := out ++ e.2.getD (n / e.1 % 10) []
noncomputable def numeralL (n : Nat) : List Nat := places.foldl (numStep n) []

theorem numeralL_eq (n : Nat) : numeralL n = forms3.getD (n / 1000 % 10) [] ++ forms2.getD (n / 100 % 10) [] ++ forms1.getD (n / 10 % 10) [] ++ forms0.getD (n % 10) [] := by
  simp [numeralL, places, numStep]

theorem roman_app (es : List (Nat × List Nat)) : ∀ (x : List Nat) (n : Nat), es.foldl romanStep (x, n) = (x ++ (es.foldl romanStep ([], n)).1, (es.foldl romanStep ([], n)).2) := by
  induction es with
  | nil => intro x n; simp
  | cons e r ih =>
    intro x n
    simp only [List.foldl_cons]
    rw [show romanStep (x, n) e = (x ++ rep (n / e.1) e.2, n % e.1) from rfl, show romanStep ([], n) e = (rep (n / e.1) e.2, n % e.1) from by simp [romanStep]]
    rw [ih (x ++ _), ih (rep _ _)]
    simp
theorem grp3 : ∀ a, a < 4 → rep a [77] = forms3.getD a [] := by decide
theorem grp2 : ∀ m, m < 1000 → [(900, [67, 77]), (500, [68]), (400, [67, 68]), (100, [67])].foldl romanStep ([], m) = (forms2.getD (m / 100) [], m % 100) := by decide +kernel
theorem grp1 : ∀ m, m < 100 → [(90, [88, 67]), (50, [76]), (40, [88, 76]), (10, [88])].foldl romanStep ([], m) = (forms1.getD (m / 10) [], m % 10) := by decide +kernel
theorem grp0 : ∀ m, m < 10 → [(9, [73, 88]), (5, [86]), (4, [73, 86]), (1, [73])].foldl romanStep ([], m) = (forms0.getD m [], 0) := by decide +kernel

theorem roman_numeral {n : Nat} (h : n < 4000) : romanL n = numeralL n := by
  rw [numeralL_eq]
  unfold romanL
  rw [show table = [(1000, [77])] ++ ([(900, [67, 77]), (500, [68]), (400, [67, 68]), (100, [67])] ++ ([(90, [88, 67]), (50, [76]), (40, [88, 76]), (10, [88])] ++ [(9, [73, 88]), (5, [86]), (4, [73, 86]), (1, [73])])) from rfl]
  rw [List.foldl_append]
  rw [show [(1000, [77])].foldl romanStep ([], n) = (rep (n / 1000) [77], n % 1000) from by simp [romanStep]]
  rw [List.foldl_append, roman_app [(900, [67, 77]), (500, [68]), (400, [67, 68]), (100, [67])], grp2 _ (by omega), List.foldl_append, roman_app [(90, [88, 67]), (50, [76]), (40, [88, 76]), (10, [88])], grp1 _ (by omega), roman_app [(9, [73, 88]), (5, [86]), (4, [73, 86]), (1, [73])], grp0 _ (by omega), grp3 _ (by omega)]
  simp only
  rw [show n / 1000 % 10 = n / 1000 from by omega, show n / 100 % 10 = n % 1000 / 100 from by omega, show n / 10 % 10 = n % 1000 % 100 / 10 from by omega, show n % 10 = n % 1000 % 100 % 10 from by omega]

/-! reading by eating -/
noncomputable def eatN (v : Nat) (sg : List Nat) : Nat → Nat → List Nat → Nat × List Nat
  | 0, n, r => (n, r)
  | f + 1, n, r => if sg.isPrefixOf r then eatN v sg f (n + v) (r.drop sg.length) else (n, r)
noncomputable def eatAll (e : Nat × List Nat) (st : Nat × List Nat) : Nat × List Nat := eatN e.1 e.2 st.2.length st.1 st.2
theorem eatN_fuel (v : Nat) (sg : List Nat) (hs : sg ≠ []) : ∀ (f f' n : Nat) (r : List Nat), r.length ≤ f → r.length ≤ f' → eatN v sg f n r = eatN v sg f' n r := by
  intro f
  induction f with
  | zero =>
    intro f' n r h h'
    have : r = [] := List.length_eq_zero_iff.mp (by omega)
    subst this
    cases f' with
    | zero => rfl
    | succ f' => cases sg with
      | nil => exact absurd rfl hs
      | cons a s => simp [eatN]
  | succ f ih =>
    intro f' n r h h'
    cases f' with
    | zero =>
      have : r = [] := List.length_eq_zero_iff.mp (by omega)
      subst this
      cases sg with
      | nil => exact absurd rfl hs
      | cons a s => simp [eatN]
    | succ f' =>
      simp only [eatN]
      split
      · have hl : 0 < sg.length := List.length_pos_iff.mpr hs
        apply ih
        · rw [List.length_drop]; omega
        · rw [List.length_drop]; omega
      · rfl
theorem eat_go {e : Nat × List Nat} {n : Nat} {r : List Nat} (hs : e.2 ≠ []) (h : e.2.isPrefixOf r = true) : eatAll e (n, r) = eatAll e (n + e.1, r.drop e.2.length) := by
  unfold eatAll
  have hl : 0 < e.2.length := List.length_pos_iff.mpr hs
  have hp : e.2.length ≤ r.length := by
    have := List.isPrefixOf_iff_prefix.mp h
    exact this.length_le
  rw [eatN_fuel e.1 e.2 hs r.length (r.length - 1 + 1) n r (Nat.le_refl _) (by omega)]
  simp only [eatN, h, if_true]
  exact eatN_fuel _ _ hs _ _ _ _ (by rw [List.length_drop]; omega) (Nat.le_refl _)
theorem eat_stop {e : Nat × List Nat} {n : Nat} {r : List Nat} (h : e.2.isPrefixOf r = false) : eatAll e (n, r) = (n, r) := by
  unfold eatAll
  cases hf : r.length with
  | zero => simp [eatN]
  | succ f => simp [eatN, h]

noncomputable def readAcc (s : List Nat) : Nat × List Nat := table.foldl (fun st e => eatAll e st) (0, s)
noncomputable def readL (s : List Nat) : Option Nat := if 15 < s.length then none else if 1 ≤ (readAcc s).1 ∧ (readAcc s).1 ≤ 3999 ∧ romanL (readAcc s).1 = s then some (readAcc s).1 else none

/-- no sign of the set at the head -/
noncomputable def free (set : List Nat) : List Nat → Bool
  | [] => true
  | c :: _ => !set.contains c
theorem free_cons {set : List Nat} {a : Nat} {s r : List Nat} (h : free set r = true) (ha : a ∈ set) : (a :: s).isPrefixOf r = false := by
  cases r with
  | nil => rfl
  | cons c r =>
    have hc : c ∉ set := by simpa [free] using h
    have : a ≠ c := fun e => hc (e ▸ ha)
    simp [List.isPrefixOf, this]
theorem pre_free {set r : List Nat} (h : free set r = true) : ∀ (f g : List Nat), (∀ c ∈ f, c ∈ set) → f.isPrefixOf (g ++ r) = f.isPrefixOf g := by
  intro f
  induction f with
  | nil => intro g _; simp
  | cons c f ih =>
    intro g hf
    cases g with
    | nil => exact free_cons h (hf c (List.mem_cons_self ..))
    | cons d g =>
      show (c == d && f.isPrefixOf (g ++ r)) = (c == d && f.isPrefixOf g)
      rw [ih g fun x hx => hf x (List.mem_cons_of_mem _ hx)]
theorem eatN_free {set r : List Nat} (h : free set r = true) {v : Nat} {sg : List Nat} (hs : ∀ c ∈ sg, c ∈ set) : ∀ (f n : Nat) (g : List Nat), eatN v sg f n (g ++ r) = ((eatN v sg f n g).1, (eatN v sg f n g).2 ++ r) := by
  intro f
  induction f with
  | zero => intro n g; rfl
  | succ f ih =>
    intro n g
    simp only [eatN]
    rw [pre_free h sg g hs]
    by_cases hp : sg.isPrefixOf g = true
    · have hl : sg.length ≤ g.length := (List.isPrefixOf_iff_prefix.mp hp).length_le
      rw [if_pos hp, if_pos hp, List.drop_append_of_le_length hl]
      exact ih _ _
    · rw [if_neg hp, if_neg hp]
theorem eatN_from (v : Nat) (sg : List Nat) : ∀ (f n : Nat) (g : List Nat), eatN v sg f n g = (n + (eatN v sg f 0 g).1, (eatN v sg f 0 g).2) := by
  intro f
  induction f with
  | zero => intro n g; rfl
  | succ f ih =>
    intro n g
    simp only [eatN]
    by_cases hp : sg.isPrefixOf g = true
    · rw [if_pos hp, if_pos hp, ih (n + v), ih (0 + v), Nat.zero_add, Nat.add_assoc]
    · rw [if_neg hp, if_neg hp]
      rfl
theorem eatAll_free {set r : List Nat} (h : free set r = true) {e : Nat × List Nat} (hs : ∀ c ∈ e.2, c ∈ set) (h0 : e.2 ≠ []) (n : Nat) (g : List Nat) : eatAll e (n, g ++ r) = (n + (eatAll e (0, g)).1, (eatAll e (0, g)).2 ++ r) := by
  unfold eatAll
  rw [eatN_free h hs, eatN_from, eatN_fuel e.1 e.2 h0 (g ++ r).length g.length 0 g (by rw [List.length_append]; exact Nat.le_add_right _ _) (Nat.le_refl _)]
theorem eats_free {set r : List Nat} (h : free set r = true) : ∀ (es : List (Nat × List Nat)), (∀ e ∈ es, (∀ c ∈ e.2, c ∈ set) ∧ e.2 ≠ []) → ∀ (n m : Nat) (g : List Nat), es.foldl (fun st e => eatAll e st) (n + m, g ++ r) = (n + (es.foldl (fun st e => eatAll e st) (m, g)).1, (es.foldl (fun st e => eatAll e st) (m, g)).2 ++ r) := by
  intro es
  induction es with
  | nil => intro _ n m g; rfl
  | cons e es ih =>
    intro he n m g
    have h1 := he e (List.mem_cons_self ..)
    have e2 : eatAll e (m, g) = (m + (eatAll e (0, g)).1, (eatAll e (0, g)).2) := eatN_from ..
    rw [List.foldl_cons, List.foldl_cons, eatAll_free h h1.1 h1.2, e2, Nat.add_assoc]
    exact ih (fun x hx => he x (List.mem_cons_of_mem _ hx)) _ _ _
theorem eat3 {r : List Nat} (h : free [77] r = true) (n : Nat) : ∀ a, a < 4 → [(1000, [77])].foldl (fun st e => eatAll e st) (n, forms3.getD a [] ++ r) = (n + 1000 * a, r) := fun a ha => by
  have q := (by decide +kernel : ∀ a, a < 4 → [(1000, [77])].foldl (fun st e => eatAll e st) (0, forms3.getD a []) = (1000 * a, [])) a ha
  have p := eats_free h [(1000, [77])] (by decide) n 0 (forms3.getD a [])
  rw [q] at p
  exact p
theorem eat2 {r : List Nat} (h : free [67, 68, 77] r = true) (n : Nat) : ∀ a, a < 10 → [(900, [67, 77]), (500, [68]), (400, [67, 68]), (100, [67])].foldl (fun st e => eatAll e st) (n, forms2.getD a [] ++ r) = (n + 100 * a, r) := fun a ha => by
  have q := (by decide +kernel : ∀ a, a < 10 → [(900, [67, 77]), (500, [68]), (400, [67, 68]), (100, [67])].foldl (fun st e => eatAll e st) (0, forms2.getD a []) = (100 * a, [])) a ha
  have p := eats_free h [(900, [67, 77]), (500, [68]), (400, [67, 68]), (100, [67])] (by decide) n 0 (forms2.getD a [])
  rw [q] at p
  exact p
theorem eat1 {r : List Nat} (h : free [88, 76, 67] r = true) (n : Nat) : ∀ a, a < 10 → [(90, [88, 67]), (50, [76]), (40, [88, 76]), (10, [88])].foldl (fun st e => eatAll e st) (n, forms1.getD a [] ++ r) = (n + 10 * a, r) := fun a ha => by
  have q := (by decide +kernel : ∀ a, a < 10 → [(90, [88, 67]), (50, [76]), (40, [88, 76]), (10, [88])].foldl (fun st e => eatAll e st) (0, forms1.getD a []) = (10 * a, [])) a ha
  have p := eats_free h [(90, [88, 67]), (50, [76]), (40, [88, 76]), (10, [88])] (by decide) n 0 (forms1.getD a [])
  rw [q] at p
  exact p
theorem eat0 {r : List Nat} (h : free [73, 86, 88] r = true) (n : Nat) : ∀ a, a < 10 → [(9, [73, 88]), (5, [86]), (4, [73, 86]), (1, [73])].foldl (fun st e => eatAll e st) (n, forms0.getD a [] ++ r) = (n + 1 * a, r) := fun a ha => by
  have q := (by decide +kernel : ∀ a, a < 10 → [(9, [73, 88]), (5, [86]), (4, [73, 86]), (1, [73])].foldl (fun st e => eatAll e st) (0, forms0.getD a []) = (1 * a, [])) a ha
  have p := eats_free h [(9, [73, 88]), (5, [86]), (4, [73, 86]), (1, [73])] (by decide) n 0 (forms0.getD a [])
  rw [q] at p
  exact p

theorem free0 : ∀ c, c < 10 → free [88, 76, 67] (forms0.getD c []) = true := by decide
theorem free1 : ∀ b, b < 10 → ∀ c, c < 10 → free [67, 68, 77] (forms1.getD b [] ++ forms0.getD c []) = true := by decide +kernel
theorem free2 : ∀ a, a < 10 → ∀ b, b < 10 → ∀ c, c < 10 → free [77] (forms2.getD a [] ++ (forms1.getD b [] ++ forms0.getD c [])) = true := by decide +kernel

theorem readAcc_numeral {n : Nat} (h : n < 4000) : readAcc (numeralL n) = (n, []) := by
  rw [numeralL_eq]
  unfold readAcc
  rw [show table = [(1000, [77])] ++ ([(900, [67, 77]), (500, [68]), (400, [67, 68]), (100, [67])] ++ ([(90, [88, 67]), (50, [76]), (40, [88, 76]), (10, [88])] ++ [(9, [73, 88]), (5, [86]), (4, [73, 86]), (1, [73])])) from rfl]
  rw [List.append_assoc, List.append_assoc]
  rw [List.foldl_append, eat3 (free2 _ (by omega) _ (by omega) _ (by omega)) 0 _ (by omega)]
  rw [List.foldl_append, eat2 (free1 _ (by omega) _ (by omega)) _ _ (by omega)]
  rw [List.foldl_append, eat1 (free0 _ (by omega)) _ _ (by omega)]
  rw [show forms0.getD (n % 10) [] = forms0.getD (n % 10) [] ++ [] from (List.append_nil _).symm, eat0 rfl _ _ (by omega)]
  congr 1
  omega

theorem len3 : ∀ a, a < 4 → (forms3.getD a []).length ≤ 3 := by decide
theorem len2 : ∀ a, a < 10 → (forms2.getD a []).length ≤ 4 := by decide
theorem len1 : ∀ a, a < 10 → (forms1.getD a []).length ≤ 4 := by decide
theorem len0 : ∀ a, a < 10 → (forms0.getD a []).length ≤ 4 := by decide
theorem numeral_len {n : Nat} (h : n < 4000) : (numeralL n).length ≤ 15 := by
  rw [numeralL_eq]
  simp only [List.length_append]
  have h3 := len3 (n / 1000 % 10) (by omega)
  have h2 := len2 (n / 100 % 10) (by omega)
  have h1 := len1 (n / 10 % 10) (by omega)
  have h0 := len0 (n % 10) (by omega)
  omega

/-- a numeral of n -/
noncomputable def Num (s : List Nat) (n : Nat) : Prop := 1 ≤ n ∧ n ≤ 3999 ∧ s = numeralL n

theorem read_of_num {s : List Nat} {n : Nat} (h : Num s n) : readL s = some n := by
  obtain ⟨h1, h2, rfl⟩ := h
  have hl := numeral_len (n := n) (by omega)
  have hr := readAcc_numeral (n := n) (by omega)
  unfold readL
  rw [if_neg (by omega), hr]
  simp only
  rw [if_pos ⟨h1, h2, roman_numeral (by omega)⟩]
theorem num_of_read {s : List Nat} {n : Nat} (h : readL s = some n) : Num s n := by
  unfold readL at h
  generalize (readAcc s).1 = k at h
  by_cases hl : 15 < s.length
  · rw [if_pos hl] at h
    exact absurd h (by simp)
  · rw [if_neg hl] at h
    by_cases hh : 1 ≤ k ∧ k ≤ 3999 ∧ romanL k = s
    · rw [if_pos hh] at h
      have e : k = n := Option.some.inj h
      rw [← e]
      exact ⟨hh.1, hh.2.1, by rw [← roman_numeral (by omega)]; exact hh.2.2.symm⟩
    · rw [if_neg hh] at h
      exact absurd h (by simp)

/-! the due number: the longest form at each place -/
noncomputable def pickStep (forms : List (List Nat)) (rest : List Nat) (d i : Nat) : Nat := if (forms.getD i []).isPrefixOf rest && decide ((forms.getD d []).length < (forms.getD i []).length) then i else d
noncomputable def pickD (forms : List (List Nat)) (rest : List Nat) : Nat := (List.range forms.length).foldl (pickStep forms rest) 0
noncomputable def dueStep (st : Nat × List Nat) (e : Nat × List (List Nat)) : Nat × List Nat := (st.1 + pickD e.2 st.2 * e.1, st.2.drop (e.2.getD (pickD e.2 st.2) []).length)
noncomputable def dueAcc (s : List Nat) : Nat × List Nat := places.foldl dueStep (0, s)
noncomputable def dueL (s : List Nat) : Nat := if (dueAcc s).2 = [] then (dueAcc s).1 else 0
theorem getD_in {set : List Nat} {forms : List (List Nat)} (hall : ∀ f ∈ forms, ∀ c ∈ f, c ∈ set) (i : Nat) : ∀ c ∈ forms.getD i [], c ∈ set := by
  by_cases hi : i < forms.length
  · rw [List.getD_eq_getElem?_getD, List.getElem?_eq_getElem hi]
    exact hall _ (List.getElem_mem hi)
  · rw [List.getD_eq_getElem?_getD, List.getElem?_eq_none (Nat.le_of_not_lt hi)]
    intro c hc
    cases hc
theorem pick_free {set r : List Nat} {forms : List (List Nat)} (h : free set r = true) (hall : ∀ f ∈ forms, ∀ c ∈ f, c ∈ set) (g : List Nat) : pickD forms (g ++ r) = pickD forms g := by
  have e : pickStep forms (g ++ r) = pickStep forms g := by
    funext d i
    unfold pickStep
    rw [pre_free h _ g (getD_in hall i)]
  unfold pickD
  rw [e]
theorem pick3 {r : List Nat} (h : free [77] r = true) : ∀ a, a < 4 → pickD forms3 (forms3.getD a [] ++ r) = a := fun a ha =>
  (pick_free h (by decide) _).trans ((by decide +kernel : ∀ a, a < 4 → pickD forms3 (forms3.getD a []) = a) a ha)
theorem pick2 {r : List Nat} (h : free [67, 68, 77] r = true) : ∀ a, a < 10 → pickD forms2 (forms2.getD a [] ++ r) = a := fun a ha =>
  (pick_free h (by decide) _).trans ((by decide +kernel : ∀ a, a < 10 → pickD forms2 (forms2.getD a []) = a) a ha)
theorem pick1 {r : List Nat} (h : free [88, 76, 67] r = true) : ∀ a, a < 10 → pickD forms1 (forms1.getD a [] ++ r) = a := fun a ha =>
  (pick_free h (by decide) _).trans ((by decide +kernel : ∀ a, a < 10 → pickD forms1 (forms1.getD a []) = a) a ha)
theorem pick0 {r : List Nat} (h : free [73, 86, 88] r = true) : ∀ a, a < 10 → pickD forms0 (forms0.getD a [] ++ r) = a := fun a ha =>
  (pick_free h (by decide) _).trans ((by decide +kernel : ∀ a, a < 10 → pickD forms0 (forms0.getD a []) = a) a ha)

theorem dueAcc_numeral {n : Nat} (h : n < 4000) : dueAcc (numeralL n) = (n, []) := by
  rw [numeralL_eq, List.append_assoc, List.append_assoc]
  unfold dueAcc places
  simp only [List.foldl_cons, List.foldl_nil]
  rw [show dueStep (0, forms3.getD (n / 1000 % 10) [] ++ (forms2.getD (n / 100 % 10) [] ++ (forms1.getD (n / 10 % 10) [] ++ forms0.getD (n % 10) []))) (1000, forms3) = (n / 1000 % 10 * 1000, forms2.getD (n / 100 % 10) [] ++ (forms1.getD (n / 10 % 10) [] ++ forms0.getD (n % 10) [])) from by
    simp only [dueStep]; rw [pick3 (free2 _ (by omega) _ (by omega) _ (by omega)) _ (by omega)]; simp]
  rw [show ∀ k, dueStep (k, forms2.getD (n / 100 % 10) [] ++ (forms1.getD (n / 10 % 10) [] ++ forms0.getD (n % 10) [])) (100, forms2) = (k + n / 100 % 10 * 100, forms1.getD (n / 10 % 10) [] ++ forms0.getD (n % 10) []) from by
    intro k; simp only [dueStep]; rw [pick2 (free1 _ (by omega) _ (by omega)) _ (by omega)]; simp]
  rw [show ∀ k, dueStep (k, forms1.getD (n / 10 % 10) [] ++ forms0.getD (n % 10) []) (10, forms1) = (k + n / 10 % 10 * 10, forms0.getD (n % 10) []) from by
    intro k; simp only [dueStep]; rw [pick1 (free0 _ (by omega)) _ (by omega)]; simp]
  rw [show ∀ k, dueStep (k, forms0.getD (n % 10) []) (1, forms0) = (k + n % 10 * 1, []) from by
    intro k; simp only [dueStep]
    have := pick0 (r := []) rfl (n % 10) (by omega)
    rw [List.append_nil] at this
    rw [this]; simp]
  congr 1
  omega

theorem pick_inv (forms : List (List Nat)) (rest : List Nat) : ∀ (l : List Nat) (d : Nat), (∀ i ∈ l, i < forms.length) → d < forms.length → (forms.getD d []).isPrefixOf rest = true →
    l.foldl (pickStep forms rest) d < forms.length ∧ (forms.getD (l.foldl (pickStep forms rest) d) []).isPrefixOf rest = true := by
  intro l
  induction l with
  | nil => intro d _ h1 h2; exact ⟨h1, h2⟩
  | cons i r ih =>
    intro d hl h1 h2
    simp only [List.foldl_cons]
    have hi : i < forms.length := hl i (List.mem_cons_self ..)
    have hr : ∀ j ∈ r, j < forms.length := fun j hj => hl j (List.mem_cons_of_mem _ hj)
    unfold pickStep
    split
    · rename_i hc
      rw [Bool.and_eq_true] at hc
      exact ih i hr hi hc.1
    · exact ih d hr h1 h2
theorem pick_lt {forms : List (List Nat)} {rest : List Nat} (h0 : 0 < forms.length) (h : forms.getD 0 [] = []) : pickD forms rest < forms.length ∧ (forms.getD (pickD forms rest) []).isPrefixOf rest = true :=
  pick_inv forms rest _ 0 (fun i hi => List.mem_range.mp hi) h0 (by rw [h]; cases rest <;> rfl)
theorem pick_cut {forms : List (List Nat)} {rest : List Nat} (h0 : 0 < forms.length) (h : forms.getD 0 [] = []) : rest = forms.getD (pickD forms rest) [] ++ rest.drop (forms.getD (pickD forms rest) []).length := by
  have := (pick_lt (rest := rest) h0 h).2
  obtain ⟨t, ht⟩ := List.isPrefixOf_iff_prefix.mp this
  generalize forms.getD (pickD forms rest) [] = x at *
  rw [← ht]
  simp

theorem dig_le {d3 d2 d1 d0 : Nat} (h3 : d3 < 4) (h2 : d2 < 10) (h1 : d1 < 10) (h0 : d0 < 10) : (d3 * 1000 + d2 * 100 + d1 * 10 + d0 * 1) ≤ 3999 := by omega
theorem dig3 {d3 d2 d1 d0 : Nat} (h3 : d3 < 4) (h2 : d2 < 10) (h1 : d1 < 10) (h0 : d0 < 10) : (d3 * 1000 + d2 * 100 + d1 * 10 + d0 * 1) / 1000 % 10 = d3 := by omega
theorem dig2 {d3 d2 d1 d0 : Nat} (h3 : d3 < 4) (h2 : d2 < 10) (h1 : d1 < 10) (h0 : d0 < 10) : (d3 * 1000 + d2 * 100 + d1 * 10 + d0 * 1) / 100 % 10 = d2 := by omega
theorem dig1 {d3 d2 d1 d0 : Nat} (h3 : d3 < 4) (h2 : d2 < 10) (h1 : d1 < 10) (h0 : d0 < 10) : (d3 * 1000 + d2 * 100 + d1 * 10 + d0 * 1) / 10 % 10 = d1 := by omega
theorem dig0 {d3 d2 d1 d0 : Nat} (h3 : d3 < 4) (h2 : d2 < 10) (h1 : d1 < 10) (h0 : d0 < 10) : (d3 * 1000 + d2 * 100 + d1 * 10 + d0 * 1) % 10 = d0 := by omega
theorem num_of_due {s : List Nat} (h : dueL s ≠ 0) : Num s (dueL s) := by
  unfold dueL at h ⊢
  by_cases hr : (dueAcc s).2 = []
  · rw [if_pos hr] at h ⊢
    revert h hr
    unfold dueAcc places
    simp only [List.foldl_cons, List.foldl_nil]
    have a3 := pick_lt (forms := forms3) (rest := s) (by decide) rfl
    have c3 := pick_cut (forms := forms3) (rest := s) (by decide) rfl
    simp only [dueStep, Nat.zero_add]
    generalize pickD forms3 s = d3 at *
    generalize hs3 : s.drop (forms3.getD d3 []).length = s3 at *
    have a2 := pick_lt (forms := forms2) (rest := s3) (by decide) rfl
    have c2 := pick_cut (forms := forms2) (rest := s3) (by decide) rfl
    generalize pickD forms2 s3 = d2 at *
    generalize hs2 : s3.drop (forms2.getD d2 []).length = s2 at *
    have a1 := pick_lt (forms := forms1) (rest := s2) (by decide) rfl
    have c1 := pick_cut (forms := forms1) (rest := s2) (by decide) rfl
    generalize pickD forms1 s2 = d1 at *
    generalize hs1 : s2.drop (forms1.getD d1 []).length = s1 at *
    have a0 := pick_lt (forms := forms0) (rest := s1) (by decide) rfl
    have c0 := pick_cut (forms := forms0) (rest := s1) (by decide) rfl
    generalize pickD forms0 s1 = d0 at *
    generalize hs0 : s1.drop (forms0.getD d0 []).length = s0 at *
    intro h hr
    have l3 : d3 < 4 := a3.1
    have l2 : d2 < 10 := a2.1
    have l1 : d1 < 10 := a1.1
    have l0 : d0 < 10 := a0.1
    subst hr
    refine ⟨Nat.pos_of_ne_zero h, dig_le l3 l2 l1 l0, ?_⟩
    rw [numeralL_eq, dig3 l3 l2 l1 l0, dig2 l3 l2 l1 l0, dig1 l3 l2 l1 l0, dig0 l3 l2 l1 l0]
    rw [c3, c2, c1, c0]
    simp
  · rw [if_neg hr] at h
    exact absurd rfl h
theorem due_of_num {s : List Nat} {n : Nat} (h : Num s n) : dueL s = n := by
  obtain ⟨h1, h2, rfl⟩ := h
  unfold dueL
  rw [dueAcc_numeral (by omega)]
  simp

/-- the two readings agree -/
theorem read_due (s : List Nat) : readL s = if dueL s = 0 then none else some (dueL s) := by
  by_cases h : dueL s = 0
  · rw [if_pos h]
    cases hr : readL s with
    | none => rfl
    | some n =>
      have hn := num_of_read hr
      have := due_of_num hn
      have := hn.1
      omega
  · rw [if_neg h]
    exact read_of_num (num_of_due h)
end Mine
end

section
set_option maxRecDepth 100000
set_option linter.unusedVariables false
set_option linter.unusedSimpArgs false
namespace Mine
open PySem PySem.Builtin PySem.Builtin.Str PySem.StrLaws

theorem beq_take_prefix (l p : List Nat) : ((decide (p.length ≤ l.length)) && (l.take p.length == p)) = p.isPrefixOf l := by
  induction p generalizing l with
  | nil => cases l <;> simp [List.isPrefixOf]
  | cons a p ih =>
    cases l with
    | nil => simp [List.isPrefixOf]
    | cons b l =>
      simp only [List.length_cons, List.take_succ_cons, List.isPrefixOf]
      rw [← ih l]
      have e : decide (p.length + 1 ≤ l.length + 1) = decide (p.length ≤ l.length) := by simp
      rw [e]
      have e2 : (b :: List.take p.length l == a :: p) = (b == a && (List.take p.length l == p)) := rfl
      rw [e2, show (b == a) = (a == b) from by simp [Bool.beq_eq_decide_eq, eq_comm]]
      cases decide (p.length ≤ l.length) <;> cases (a == b) <;> cases (List.take p.length l == p) <;> rfl
theorem starts_eq (x y : Str) : Txt.startswith x y = y.cps.toList.isPrefixOf x.cps.toList := by
  unfold Txt.startswith
  rw [subAt_eq, List.drop_zero, ← beq_take_prefix]
  simp [Str.length]
theorem removep (x y : Str) : Txt.removeprefix x y = ofL (if y.cps.toList.isPrefixOf x.cps.toList then x.cps.toList.drop y.length else x.cps.toList) := by
  rw [removeprefix_eq, ← starts_eq]
  unfold Txt.startswith
  split
  · have : (x.cps.toList.drop y.length).take (x.length - y.length) = x.cps.toList.drop y.length := List.take_of_length_le (by simp [Str.length])
    rw [this]
  · exact (ofL_toList x).symm

theorem sliceIdx_hi (l : Option Int) {j : Int} (len : Nat) (h0 : (len : Int) ≤ j) : strSliceIndices l (some j) 1 len = strSliceIndices l (some (len : Int)) 1 len := by
  have a : ¬ (j < 0) := by omega
  have b : ¬ ((len : Int) < 0) := by omega
  have e : max (0 : Int) (min j (len : Int)) = max 0 (min (len : Int) (len : Int)) := by omega
  unfold strSliceIndices
  have one : (1 : Int) > 0 := by decide
  simp only [if_neg a, if_neg b, if_pos one, e]
theorem sliceIdx_lo (u : Option Int) {i : Int} (len : Nat) (h0 : (len : Int) ≤ i) : strSliceIndices (some i) u 1 len = strSliceIndices (some (len : Int)) u 1 len := by
  have a : ¬ (i < 0) := by omega
  have b : ¬ ((len : Int) < 0) := by omega
  have e : max (0 : Int) (min i (len : Int)) = max 0 (min (len : Int) (len : Int)) := by omega
  unfold strSliceIndices
  have one : (1 : Int) > 0 := by decide
  simp only [if_neg a, if_neg b, if_pos one, e]
theorem slice_to (x : Str) {j : Int} (h0 : 0 ≤ j) : sliceText x none (some j) = ofL (x.cps.toList.take j.toNat) := by
  have hl : x.cps.toList.length = x.length := by simp [Str.length]
  by_cases h : j ≤ x.length
  · rw [sliceText_to ⟨h0, by rw [hl]; exact h⟩, List.drop_zero, Int.sub_zero]
  · have e : sliceText x none (some j) = sliceText x none (some (x.length : Int)) := by
      unfold sliceText
      rw [sliceIdx_hi none x.length (by omega)]
    rw [e, sliceText_to ⟨by omega, by rw [hl]; omega⟩, List.drop_zero, Int.sub_zero]
    rw [List.take_of_length_le (by rw [hl]; omega), List.take_of_length_le (by rw [hl]; omega)]
theorem slice_from (x : Str) {i : Int} (h0 : 0 ≤ i) : sliceText x (some i) none = ofL (x.cps.toList.drop i.toNat) := by
  have hl : x.cps.toList.length = x.length := by simp [Str.length]
  have full : ∀ (l : List Nat) (k : Nat), l.length ≤ k → l.take k = l := fun l k h => List.take_of_length_le h
  by_cases h : i ≤ x.length
  · rw [sliceText_from ⟨h0, by rw [hl]; exact h⟩, full _ _ (by rw [List.length_drop, hl]; omega)]
  · have e : sliceText x (some i) none = sliceText x (some (x.length : Int)) none := by
      unfold sliceText
      rw [sliceIdx_lo none x.length (by omega)]
    rw [e, sliceText_from ⟨by omega, by rw [hl]; omega⟩, full _ _ (by rw [List.length_drop, hl]; omega)]
    rw [List.drop_of_length_le (by rw [hl]; omega), List.drop_of_length_le (by rw [hl]; omega)]
theorem removes (x y : Str) : Txt.removesuffix x y = ofL (if decide (y.length ≤ x.length) && (x.cps.toList.drop (x.length - y.length) == y.cps.toList) then x.cps.toList.take (x.length - y.length) else x.cps.toList) := by
  rw [removesuffix_eq, subAt_eq]
  have e : (x.cps.toList.drop (x.length - y.length)).take y.length = x.cps.toList.drop (x.length - y.length) ∨ ¬ y.length ≤ x.length := by
    by_cases h : y.length ≤ x.length
    · refine .inl (List.take_of_length_le ?_)
      rw [List.length_drop]
      simp [Str.length] at *
      omega
    · exact .inr h
  rcases e with e | e
  · rw [e]
    simp only [Nat.zero_add]
    split
    · simp
    · exact (ofL_toList x).symm
  · simp only [Nat.zero_add]
    rw [decide_eq_false e]
    simp

/-- the bare text: marks off, by cases -/
theorem bare_starts (x : Str) : (ofL (x.cps.toList.take 2) = ofL [45, 32]) ↔ [45, 32].isPrefixOf x.cps.toList = true := by
  constructor
  · intro h
    have h := ofL_inj h
    rw [← beq_take_prefix]
    have hl : [45, 32].length ≤ x.cps.toList.length := by
      have := congrArg List.length h
      rw [List.length_take] at this
      simp at this ⊢
      omega
    rw [decide_eq_true hl]
    simp [h]
  · intro h
    rw [← beq_take_prefix, Bool.and_eq_true] at h
    have := eq_of_beq h.2
    simp at this ⊢
    simpa using this
end Mine
end

section
set_option maxRecDepth 100000
set_option linter.unusedVariables false
set_option linter.unusedSimpArgs false
namespace Mine
open PySem PySem.Builtin PySem.Builtin.Str PySem.StrLaws

/-- the last dot among the first n signs -/
noncomputable def LastIs (l : List Nat) (n : Nat) (last : Int) : Prop :=
  (last = -1 ∧ ∀ j, j < n → l[j]? ≠ some 46) ∨ ∃ i : Nat, i < n ∧ last = (i : Int) ∧ l[i]? = some 46 ∧ ∀ j, i < j → j < n → l[j]? ≠ some 46
theorem LastIs.start (l : List Nat) : LastIs l 0 (-1) := .inl ⟨rfl, fun j h => absurd h (Nat.not_lt_zero _)⟩
theorem LastIs.hit {l : List Nat} {n : Nat} {last : Int} (h : LastIs l n last) (hd : l[n]? = some 46) : LastIs l (n + 1) (n : Int) :=
  .inr ⟨n, Nat.lt_succ_self _, rfl, hd, fun j h1 h2 => by omega⟩
theorem LastIs.miss {l : List Nat} {n : Nat} {last : Int} (h : LastIs l n last) (hd : l[n]? ≠ some 46) : LastIs l (n + 1) last := by
  rcases h with ⟨h1, h2⟩ | ⟨i, h1, h2, h3, h4⟩
  · refine .inl ⟨h1, fun j hj => ?_⟩
    by_cases e : j = n
    · rw [e]; exact hd
    · exact h2 j (by omega)
  · refine .inr ⟨i, by omega, h2, h3, fun j hj1 hj2 => ?_⟩
    by_cases e : j = n
    · rw [e]; exact hd
    · exact h4 j hj1 (by omega)
theorem LastIs.bounds {l : List Nat} {n : Nat} {last : Int} (h : LastIs l n last) : -1 ≤ last ∧ last < (n : Int) := by
  rcases h with ⟨h1, _⟩ | ⟨i, h1, h2, _⟩ <;> omega

noncomputable abbrev dot : Str := ofL [46]
theorem dot_at (x : Str) (i : Nat) : At x dot x.length i ↔ x.cps.toList[i]? = some 46 := by
  have := subAt_one x 46 i
  exact this
/-- what rpartition cuts at a dot -/
theorem cut_none {x : Str} (h : LastIs x.cps.toList x.length (-1)) : Txt.rpartition x dot = (Str.empty, Str.empty, x) := by
  unfold Txt.rpartition
  rcases last_spec x dot with ⟨h0, _⟩ | ⟨i, h0, hi, _⟩
  · rw [h0]
  · exfalso
    have hi' := (dot_at x i).mp hi
    rcases h with ⟨_, h2⟩ | ⟨i', _, h2, _⟩
    · have hlt : i < x.length := by
        have := hi.1
        have e : dot.length = 1 := rfl
        omega
      exact h2 i hlt hi'
    · omega
theorem cut_some {x : Str} {last : Int} (h : LastIs x.cps.toList x.length last) (hl : last ≠ -1) :
    Txt.rpartition x dot = (ofL (x.cps.toList.take last.toNat), dot, ofL (x.cps.toList.drop (last + 1).toNat)) := by
  rcases h with ⟨h1, _⟩ | ⟨i, h1, rfl, h3, h4⟩
  · exact absurd h1 hl
  · unfold Txt.rpartition
    rcases last_spec x dot with ⟨_, hn⟩ | ⟨k, h0, hk, hn⟩
    · exact absurd ((dot_at x i).mpr h3) (hn i)
    · have hk' := (dot_at x k).mp hk
      have hkl : k < x.length := by
        have := hk.1
        have e : dot.length = 1 := rfl
        omega
      have e : k = i := by
        rcases Nat.lt_trichotomy k i with h | h | h
        · exact absurd ((dot_at x i).mpr h3) (hn i h)
        · exact h
        · exact absurd hk' (h4 k h hkl)
      subst e
      rw [h0]
      have e1 : strSub x 0 k = ofL (x.cps.toList.take (k : Int).toNat) := by
        apply Str.ext'
        have := strSub_toList x 0 k
        rw [List.drop_zero, Nat.sub_zero] at this
        rw [← Array.toList_inj]
        simpa using this
      have e2 : strSub x (k + dot.length) x.length = ofL (x.cps.toList.drop ((k : Int) + 1).toNat) := by
        apply Str.ext'
        have := strSub_toList x (k + 1) x.length
        rw [List.take_of_length_le (by rw [List.length_drop]; simp [Str.length])] at this
        rw [← Array.toList_inj]
        have e3 : ((k : Int) + 1).toNat = k + 1 := by omega
        rw [e3]
        exact this
      dsimp only
      rw [e1, e2]
end Mine
end

section
set_option maxRecDepth 100000
set_option linter.unusedVariables false
set_option linter.unusedSimpArgs false
namespace Mine
open PySem

/-- a numeral's text -/
noncomputable def numS (n : Int) : Str := ofL (numeralL n.toNat)
theorem caps_of {fs : List (List Nat)} (h : fs.all (fun f => f.all fun c => decide (65 ≤ c ∧ c ≤ 90)) = true) (i : Nat) : ∀ c ∈ fs.getD i [], 65 ≤ c ∧ c ≤ 90 := by
  intro c hc
  by_cases hi : i < fs.length
  · rw [List.getD_eq_getElem?_getD, List.getElem?_eq_getElem hi] at hc
    have := List.all_eq_true.mp h fs[i] (List.getElem_mem hi)
    exact of_decide_eq_true (List.all_eq_true.mp this c hc)
  · rw [List.getD_eq_getElem?_getD, List.getElem?_eq_none (by omega)] at hc
    simp at hc
theorem numeral_caps (n : Nat) : ∀ c ∈ numeralL n, 65 ≤ c ∧ c ≤ 90 := by
  intro c hc
  rw [numeralL_eq] at hc
  simp only [List.mem_append] at hc
  rcases hc with ((hc | hc) | hc) | hc
  · exact caps_of (by decide) _ c hc
  · exact caps_of (by decide) _ c hc
  · exact caps_of (by decide) _ c hc
  · exact caps_of (by decide) _ c hc
theorem numeral_ne {n : Nat} (h1 : 1 ≤ n) (h2 : n ≤ 3999) : numeralL n ≠ [] := by
  intro h
  have := due_of_num (s := []) (n := n) ⟨h1, h2, h.symm⟩
  have h0 : dueL [] = 0 := by decide
  omega
theorem numS_asc (n : Int) : Asc (numS n) := fun c hc => by
  have := numeral_caps n.toNat c hc
  omega
theorem numS_len {n : Int} (h1 : 1 ≤ n) (h2 : n ≤ 3999) : 1 ≤ (numS n).length ∧ (numS n).length ≤ 15 := by
  unfold numS
  rw [ofL_len]
  have ha := numeral_len (n := n.toNat) (by omega)
  have hb := numeral_ne (n := n.toNat) (by omega) (by omega)
  have := List.length_pos_iff.mpr hb
  omega
theorem numS_lower (n : Int) : Txt.lower (numS n) = mapS swapC (numS n) := by
  unfold Txt.lower
  rw [lower_asc (numS_asc n)]
  refine mapS_congr fun c hc => ?_
  have := numeral_caps n.toNat c hc
  unfold swapC
  rw [if_pos this, if_pos this]
theorem numS_upper (n : Int) : Txt.upper (mapS swapC (numS n)) = numS n := by
  unfold Txt.upper
  rw [upper_asc (mapS_asc (fun _ => swap_lt) (numS_asc n)), mapS_mapS]
  refine mapS_id fun c hc => ?_
  have := numeral_caps n.toNat c hc
  unfold swapC
  rw [if_pos this, if_pos (by omega)]
  omega
theorem swapcase_is {x : Str} (h : Asc x) : Txt.swapcase x = mapS swapC x := swapcase_asc h
/-- case turned twice, shifted and back -/
theorem seal0 (x : Str) : mapS (sealC 0) x = mapS swapC x := mapS_congr fun c _ => seal_zero c
theorem sealK (k : Nat) (x : Str) : mapS (shiftC k) (mapS swapC x) = mapS (sealC k) x := by
  rw [mapS_mapS]
  exact mapS_congr fun c _ => (seal_shift k c).symm
theorem unsealed {k : Nat} (hk : k < 26) (x : Str) : mapS (shiftC ((26 - k) % 26)) (mapS (sealC k) x) = mapS swapC x := by
  rw [mapS_mapS]
  refine mapS_congr fun c _ => ?_
  rw [seal_shift, shift_back hk]
theorem unswap (x : Str) : mapS swapC (mapS swapC x) = x := by
  rw [mapS_mapS]
  exact mapS_id fun c _ => swap_swap c
end Mine
end

section
set_option maxRecDepth 100000
set_option linter.unusedVariables false
set_option linter.unusedSimpArgs false
namespace Mine
open PySem PySem.Builtin PySem.Builtin.Str PySem.StrLaws
theorem tslice (x : Str) (l u : Option Int) : Txt.slice x l u = sliceText x l u := rfl
theorem tslice_to (x : Str) {j : Int} (h0 : 0 ≤ j) : Txt.slice x none (some j) = ofL (x.cps.toList.take j.toNat) := slice_to x h0
theorem tslice_from (x : Str) {i : Int} (h0 : 0 ≤ i) : Txt.slice x (some i) none = ofL (x.cps.toList.drop i.toNat) := slice_from x h0
theorem mark_is : Str.ofString "- " = ofL [45, 32] := by decide +kernel
theorem semi_is : Str.ofString ";" = ofL [59] := by decide +kernel
theorem dot_is : Str.ofString "." = dot := by decide +kernel
theorem bare_pre_yes {x : Str} (h : (Txt.slice x none (some 2) == Str.ofString "- ") = true) : Txt.slice x (some 2) none = Txt.removeprefix x (Str.ofString "- ") := by
  have h := eq_of_beq h
  rw [tslice_to x (by decide), mark_is] at h
  have := (bare_starts x).mp h
  rw [mark_is, removep, tslice_from x (by decide)]
  show _ = ofL (if [45, 32].isPrefixOf x.cps.toList = true then List.drop 2 x.cps.toList else x.cps.toList)
  rw [if_pos this]
  rfl
theorem bare_pre_no {x : Str} (h : (Txt.slice x none (some 2) == Str.ofString "- ") = false) : Txt.removeprefix x (Str.ofString "- ") = x := by
  have h := ne_of_beq_false h
  rw [tslice_to x (by decide), mark_is] at h
  have : ¬ [45, 32].isPrefixOf x.cps.toList = true := fun e => h ((bare_starts x).mpr e)
  rw [mark_is, removep]
  show ofL (if [45, 32].isPrefixOf x.cps.toList = true then List.drop 2 x.cps.toList else x.cps.toList) = _
  rw [if_neg this, ofL_toList]
theorem slice_last {x : Str} (h : 1 ≤ x.length) : Txt.slice x (some (-1)) none = ofL (x.cps.toList.drop (x.length - 1)) := by
  rw [tslice, sliceText_neg_lo x none (by decide) (by omega), slice_from x (by omega)]
  congr 2
  omega
theorem slice_but {x : Str} (h : 1 ≤ x.length) : Txt.slice x none (some (-1)) = ofL (x.cps.toList.take (x.length - 1)) := by
  rw [tslice, sliceText_neg_hi x none (by decide) (by omega), slice_to x (by omega)]
  congr 2
  omega
theorem len_pos_of {x : Str} (h : Txt.slice x (some (-1)) none = ofL [59]) : 1 ≤ x.length := by
  have := Txt.slice_le x (some (-1)) none
  rw [h] at this
  exact this
theorem bare_suf_yes {x : Str} (h : (Txt.slice x (some (-1)) none == Str.ofString ";") = true) : Txt.slice x none (some (-1)) = Txt.removesuffix x (Str.ofString ";") := by
  have h := eq_of_beq h
  rw [semi_is] at h
  have hl := len_pos_of h
  rw [slice_last hl] at h
  have h := ofL_inj h
  rw [slice_but hl, semi_is, removes]
  have e : (ofL [59]).length = 1 := rfl
  rw [e, decide_eq_true hl, Bool.true_and, h]
  rfl
theorem bare_suf_no {x : Str} (h : (Txt.slice x (some (-1)) none == Str.ofString ";") = false) : Txt.removesuffix x (Str.ofString ";") = x := by
  have h := ne_of_beq_false h
  rw [semi_is] at h
  rw [semi_is, removes]
  have e : (ofL [59]).length = 1 := rfl
  rw [e]
  by_cases hl : 1 ≤ x.length
  · rw [slice_last hl] at h
    have hne : (List.drop (x.length - 1) x.cps.toList == (ofL [59]).cps.toList) = false := by
      rw [beq_eq_false_iff_ne]
      intro e
      exact h (congrArg ofL e)
    rw [hne, Bool.and_false]
    exact ofL_toList x
  · rw [decide_eq_false hl, Bool.false_and]
    exact ofL_toList x
theorem asc_item {x : Str} (h : Asc x) (i : Int) : Asc (Txt.item x i) := by
  intro c hc
  have hc' : c = (Txt.charAt x i).getD 0 := by simpa [Txt.item] using hc
  rw [hc']
  unfold Txt.charAt
  cases he : (seqIndex? i x.length).bind (x.cps[·]?) with
  | none => simp
  | some d =>
    obtain ⟨j, _, hj⟩ := Option.bind_eq_some_iff.mp he
    exact asc_at h hj
theorem asc_slice {x : Str} (h : Asc x) (l u : Option Int) : Asc (Txt.slice x l u) := by
  rw [tslice]
  unfold sliceText
  split
  · exact h
  · intro c hc
    have hc' : c ∈ (strSliceIndices l u 1 x.length).filterMap (x.cps[·]?) := by simpa using hc
    obtain ⟨i, _, hi⟩ := List.mem_filterMap.mp hc'
    exact asc_at h hi
theorem len_item (x : Str) (i : Int) : (Txt.item x i).length = 1 := rfl
theorem asc_lit {x : Str} (h : x.cps.toList.all (fun c => decide (c < 128)) = true) : Asc x := fun c hc => of_decide_eq_true (List.all_eq_true.mp h c hc)
theorem asc_ite {c : Prop} [Decidable c] {x y : Str} (hx : Asc x) (hy : Asc y) : Asc (if c then x else y) := by split <;> assumption
theorem asc_getD {L : List Str} (h : L.all (fun s => s.cps.toList.all fun c => decide (c < 128)) = true) (i : Nat) : Asc (L.getD i Str.empty) := by
  rw [List.getD_eq_getElem?_getD]
  by_cases hi : i < L.length
  · rw [List.getElem?_eq_getElem hi]
    exact asc_lit (List.all_eq_true.mp h L[i] (List.getElem_mem hi))
  · rw [List.getElem?_eq_none (by omega)]
    intro c hc
    simp [Str.empty] at hc
/-- plain signs, no more than n -/
noncomputable def Short (n : Nat) (x : Str) : Prop := Asc x ∧ x.length ≤ n
theorem short_append {a b : Nat} {x y : Str} (hx : Short a x) (hy : Short b y) : Short (a + b) (x ++ y) :=
  ⟨asc_append hx.1 hy.1, by rw [Str.length_append]; have := hx.2; have := hy.2; omega⟩
theorem short_slice {a : Nat} {x : Str} (hx : Short a x) (l u : Option Int) : Short a (Txt.slice x l u) := ⟨asc_slice hx.1 l u, Nat.le_trans (Txt.slice_le x l u) hx.2⟩
theorem short_item {a : Nat} {x : Str} (hx : Short a x) (i : Int) : Short 1 (Txt.item x i) := ⟨asc_item hx.1 i, Nat.le_refl _⟩
theorem short_lit {n : Nat} {x : Str} (h : (x.cps.toList.all (fun c => decide (c < 128)) && decide (x.length ≤ n)) = true) : Short n x := by
  rw [Bool.and_eq_true] at h
  exact ⟨asc_lit h.1, of_decide_eq_true h.2⟩
theorem short_getD {n : Nat} {L : List Str} (h : L.all (fun x => x.cps.toList.all (fun c => decide (c < 128)) && decide (x.length ≤ n)) = true) (i : Nat) : Short n (L.getD i Str.empty) := by
  rw [List.getD_eq_getElem?_getD]
  by_cases hi : i < L.length
  · rw [List.getElem?_eq_getElem hi]
    exact short_lit (List.all_eq_true.mp h L[i] (List.getElem_mem hi))
  · rw [List.getElem?_eq_none (by omega)]
    exact short_lit (by rw [Bool.and_eq_true]; exact ⟨rfl, decide_eq_true (Nat.zero_le _)⟩)
theorem short_le {a n : Nat} {x : Str} (hx : Short a x) (h : a ≤ n) : Short n x := ⟨hx.1, Nat.le_trans hx.2 h⟩
theorem pool_asc : Asc (Str.ofString "azAZ.mNr;- \x40[`{0") := asc_lit (by decide +kernel)
theorem nil_asc : Asc (Str.ofString "") := asc_lit (by decide +kernel)
theorem stem_ok (a b c d k : Int) : Asc (Txt.slice (Str.ofString "" ++ Txt.item (Str.ofString "azAZ.mNr;- \x40[`{0") a ++ Txt.item (Str.ofString "azAZ.mNr;- \x40[`{0") b ++ Txt.item (Str.ofString "azAZ.mNr;- \x40[`{0") c ++ Txt.item (Str.ofString "azAZ.mNr;- \x40[`{0") d) none (some k)) ∧
    (Txt.slice (Str.ofString "" ++ Txt.item (Str.ofString "azAZ.mNr;- \x40[`{0") a ++ Txt.item (Str.ofString "azAZ.mNr;- \x40[`{0") b ++ Txt.item (Str.ofString "azAZ.mNr;- \x40[`{0") c ++ Txt.item (Str.ofString "azAZ.mNr;- \x40[`{0") d) none (some k)).length ≤ 4 := by
  refine ⟨asc_slice (asc_append (asc_append (asc_append (asc_append nil_asc (asc_item pool_asc _)) (asc_item pool_asc _)) (asc_item pool_asc _)) (asc_item pool_asc _)) _ _, ?_⟩
  refine Nat.le_trans (Txt.slice_le _ _ _) ?_
  simp only [Str.length_append, len_item]
  have : (Str.ofString "").length = 0 := by decide +kernel
  omega
end Mine
end

section
open PySem PySem.W PyProof.Rows
set_option Elab.async false
set_option maxRecDepth 100000
set_option maxHeartbeats 8000000
namespace Mine
open_top hd for PySem.Challenge.rw_sx_yscribe_1
end Mine
end

section
open PySem PySem.W PySem.Calls PySem.Spec PyProof.Rows
set_option Elab.async false
set_option maxRecDepth 100000
set_option maxHeartbeats 8000000
set_option linter.unusedVariables false
namespace Mine

/-- a def's contract: what it hands back; all that stood stands as it was -/
noncomputable def Spec (d : Nat) (w : World) (mean : ExcName → Option Value) (mg mb : Str → Option Value) (f : Addr) (vs : List Value) (R : Heap → Value → Heap → Prop) : Prop :=
  ∀ (dp un : Nat) (gd : Option (List Code)) (cn : Str) (cs : Scope) (a : Addr) (ccd : Value) (cl : List (Str × Addr)) (outer : List Env) (A₀ : Around) (base h₀ : Heap) (L : Addr) (m : Str → Option Value) (s : Shared) (Q E : Value → Shared → Prop),
    Below A₀ base outer h₀ → Fr h₀ L s.heap m → (Mine.hd.heap_39 w.params).In h₀ → Top Mine.hd.view_39 (looseW Mine.hd.view_39 []) mean mg mb h₀ → cs.kind = .function → dp + d < recursionLimit → un + 20 * d < cLine →
    (∀ v h' tk', R s.heap v h' → (∀ b o, s.heap.get? b = some o → h'.get? b = some o) → Q v { s with heap := h', toks := tk' }) →
    wpAny (model PySem.Challenge.rw_sx_yscribe_1.row.prog w) (ktrTop dp un gd cn cs L a ccd cl outer) (call (.ref f) vs) Q E s

noncomputable abbrev IsS (x : Str) : Heap → Value → Heap → Prop := fun _ v _ => ∃ u, v = Value.str x u
noncomputable abbrev IsI (x : Int) : Heap → Value → Heap → Prop := fun _ v _ => ∃ u, v = Value.int x u
noncomputable abbrev IsB (x : Bool) : Heap → Value → Heap → Prop := fun _ v _ => v = Value.bool x

theorem gsub_nil {H g : Heap} (G : GSub H g (([] : List (Addr × Obj)).map (·.1))) : ∀ b o, H.get? b = some o → g.get? b = some o := fun b o e => G b o e (by simp)

section
variable {g h : Heap} {L' : Addr} {m' : Str → Option Value} {s : Shared} {Q : Value → Shared → Prop} {k : Nat}
theorem ret_any {R : Heap → Value → Heap → Prop} {v : Value} (hret : ∀ v h' tk', R s.heap v h' → (∀ b o, s.heap.get? b = some o → h'.get? b = some o) → Q v { s with heap := h', toks := tk' }) (G : ∀ b o, s.heap.get? b = some o → g.get? b = some o) (F : Fr g L' h m') (e : R s.heap v h) : Q v { s with heap := h, toks := k } :=
  hret v h k e fun b o q => F.keep b o (G b o q)
theorem ret_str {x y : Str} {t : Tok} (hret : ∀ v h' tk', IsS x s.heap v h' → (∀ b o, s.heap.get? b = some o → h'.get? b = some o) → Q v { s with heap := h', toks := tk' }) (G : ∀ b o, s.heap.get? b = some o → g.get? b = some o) (F : Fr g L' h m') (e : y = x) : Q (.str y t) { s with heap := h, toks := k } :=
  hret _ h k ⟨t, by rw [e]⟩ fun b o q => F.keep b o (G b o q)
theorem ret_int {x y : Int} {t : Tok} (hret : ∀ v h' tk', IsI x s.heap v h' → (∀ b o, s.heap.get? b = some o → h'.get? b = some o) → Q v { s with heap := h', toks := tk' }) (G : ∀ b o, s.heap.get? b = some o → g.get? b = some o) (F : Fr g L' h m') (e : y = x) : Q (.int y t) { s with heap := h, toks := k } :=
  hret _ h k ⟨t, by rw [e]⟩ fun b o q => F.keep b o (G b o q)
theorem ret_bool {x y : Bool} (hret : ∀ v h' tk', IsB x s.heap v h' → (∀ b o, s.heap.get? b = some o → h'.get? b = some o) → Q v { s with heap := h', toks := tk' }) (G : ∀ b o, s.heap.get? b = some o → g.get? b = some o) (F : Fr g L' h m') (e : y = x) : Q (.bool y) { s with heap := h, toks := k } :=
  hret _ h k (by show Value.bool y = Value.bool x; rw [e]) fun b o q => F.keep b o (G b o q)
end
end Mine
end

section
open PySem PySem.W PySem.Calls PySem.Spec PyProof.Rows
set_option Elab.async false
set_option maxRecDepth 100000
set_option linter.unusedVariables false
namespace Mine
theorem Spec.use {d : Nat} {w : World} {mean : ExcName → Option Value} {mg mb : Str → Option Value} {f : Addr} {vs : List Value} {R : Heap → Value → Heap → Prop} {dp un : Nat} {gd : Option (List Code)} {cn : Str} {cs : Scope} {a : Addr} {ccd : Value} {cl : List (Str × Addr)} {outer : List Env} {A₀ : Around} {base h₀ : Heap} {L : Addr} {m : Str → Option Value} {s : Shared} {Q E : Value → Shared → Prop} {news : List (Addr × Obj)}
    (S : Spec d w mean mg mb f vs R) (B : Below A₀ base outer h₀) (F : Fr h₀ L s.heap m) (X : (Mine.hd.heap_39 w.params).In h₀) (N : News h₀ L s.heap news) (T : Top Mine.hd.view_39 (looseW Mine.hd.view_39 []) mean mg mb h₀) (hk : cs.kind = .function) (hdp : dp + d < recursionLimit) (hun : un + 20 * d < cLine)
    (h : ∀ v h' tk', R s.heap v h' → (∀ b o, s.heap.get? b = some o → h'.get? b = some o) → Fr h₀ L h' m → News h₀ L h' news → Q v { s with heap := h', toks := tk' }) :
    wpAny (model PySem.Challenge.rw_sx_yscribe_1.row.prog w) (ktrTop dp un gd cn cs L a ccd cl outer) (call (.ref f) vs) Q E s :=
  S dp un gd cn cs a ccd cl outer A₀ base h₀ L m s Q E B F X T hk hdp hun fun v h' tk' hR hkeep => h v h' tk' hR hkeep (F.keeps hkeep) (N.grown hkeep)
end Mine
end

section
open PySem PySem.W PySem.Calls PySem.Spec PyProof.Rows
set_option Elab.async false
set_option maxRecDepth 100000
set_option maxHeartbeats 8000000
set_option linter.unusedVariables false
namespace Mine
section
variable {w : World} {mean : ExcName → Option Value} {mg mb : Str → Option Value}
theorem spec_whispered (x : Str) (t : Tok) (hx : x.length ≤ 100000) : Spec 1 w mean mg mb 42 [.str x t] (IsS (Txt.lower x)) := by
  w_top off
  have hload : PySem.Challenge.rw_sx_yscribe_1.name = PySem.Challenge.rw_sx_yscribe_1.name ∧ Mine.hd.heap_39 w.params = Mine.hd.heap_39 w.params := by
    k_fill
    exact ⟨rfl, rfl⟩
  clear hload
  unfold Spec
  intro dp un gd cn cs a ccd cl outer A₀ base h₀ L m s Q E B F X T hk hdp hun hret
  refine wpAny_call ?_
  k_dflt (refine' code_defG ?k1 ?k2 ?k3 ?k4 ?k5 ?kA ?kF ?kK ?k6 ?k7 ?k8 ?k9 ?kB ?_ ?c2 ?c3 ?c4 ?c5; (case kA => exact rfl); (case kF => exact rfl); (case kK => assumption); (case k1 => k_asm); (case k2 => k_asm); (case k3 => k_asm); (case k4 => exact News.nil); (case k5 => k_asm); (case k6 => k_is); (case k7 => k_is); (case k8 => ktr_room); (case k9 => exact BindsTo.of_eq rfl); (case c5 => decide); (case kB => exact locs rfl); (case c2 => exact rfl); (case c3 => exact rfl); (case c4 => exact rfl); k_whole; intro g' L' h' FG' F' N' B' X' T' G'; (try dsimp only); (try k_fold))
  replace G' := gsub_nil G'
  k_steps
  all_goals exact ret_str hret G' (by k_asm) rfl
theorem spec_shouted (x : Str) (t : Tok) (hx : x.length ≤ 100000) : Spec 1 w mean mg mb 35 [.str x t] (IsS (Txt.upper x)) := by
  w_top off
  have hload : PySem.Challenge.rw_sx_yscribe_1.name = PySem.Challenge.rw_sx_yscribe_1.name ∧ Mine.hd.heap_39 w.params = Mine.hd.heap_39 w.params := by
    k_fill
    exact ⟨rfl, rfl⟩
  clear hload
  unfold Spec
  intro dp un gd cn cs a ccd cl outer A₀ base h₀ L m s Q E B F X T hk hdp hun hret
  refine wpAny_call ?_
  k_dflt (refine' code_defG ?k1 ?k2 ?k3 ?k4 ?k5 ?kA ?kF ?kK ?k6 ?k7 ?k8 ?k9 ?kB ?_ ?c2 ?c3 ?c4 ?c5; (case kA => exact rfl); (case kF => exact rfl); (case kK => assumption); (case k1 => k_asm); (case k2 => k_asm); (case k3 => k_asm); (case k4 => exact News.nil); (case k5 => k_asm); (case k6 => k_is); (case k7 => k_is); (case k8 => ktr_room); (case k9 => exact BindsTo.of_eq rfl); (case c5 => decide); (case kB => exact locs rfl); (case c2 => exact rfl); (case c3 => exact rfl); (case c4 => exact rfl); k_whole; intro g' L' h' FG' F' N' B' X' T' G'; (try dsimp only); (try k_fold))
  replace G' := gsub_nil G'
  k_steps
  all_goals exact ret_str hret G' (by k_asm) rfl
theorem spec_mirrored_case (x : Str) (t : Tok) (hx : x.length ≤ 100000) : Spec 1 w mean mg mb 49 [.str x t] (IsS (Txt.swapcase x)) := by
  w_top off
  have hload : PySem.Challenge.rw_sx_yscribe_1.name = PySem.Challenge.rw_sx_yscribe_1.name ∧ Mine.hd.heap_39 w.params = Mine.hd.heap_39 w.params := by
    k_fill
    exact ⟨rfl, rfl⟩
  clear hload
  unfold Spec
  intro dp un gd cn cs a ccd cl outer A₀ base h₀ L m s Q E B F X T hk hdp hun hret
  refine wpAny_call ?_
  k_dflt (refine' code_defG ?k1 ?k2 ?k3 ?k4 ?k5 ?kA ?kF ?kK ?k6 ?k7 ?k8 ?k9 ?kB ?_ ?c2 ?c3 ?c4 ?c5; (case kA => exact rfl); (case kF => exact rfl); (case kK => assumption); (case k1 => k_asm); (case k2 => k_asm); (case k3 => k_asm); (case k4 => exact News.nil); (case k5 => k_asm); (case k6 => k_is); (case k7 => k_is); (case k8 => ktr_room); (case k9 => exact BindsTo.of_eq rfl); (case c5 => decide); (case kB => exact locs rfl); (case c2 => exact rfl); (case c3 => exact rfl); (case c4 => exact rfl); k_whole; intro g' L' h' FG' F' N' B' X' T' G'; (try dsimp only); (try k_fold))
  replace G' := gsub_nil G'
  k_steps
  all_goals exact ret_str hret G' (by k_asm) rfl
theorem spec_without_mark (x : Str) (t : Tok) (hx : x.length ≤ 100000) : Spec 1 w mean mg mb 63 [.str x t] (IsS (Txt.removesuffix (Txt.removeprefix x (Str.ofString "- ")) (Str.ofString ";"))) := by
  w_top off
  have hload : PySem.Challenge.rw_sx_yscribe_1.name = PySem.Challenge.rw_sx_yscribe_1.name ∧ Mine.hd.heap_39 w.params = Mine.hd.heap_39 w.params := by
    k_fill
    exact ⟨rfl, rfl⟩
  clear hload
  unfold Spec
  intro dp un gd cn cs a ccd cl outer A₀ base h₀ L m s Q E B F X T hk hdp hun hret
  refine wpAny_call ?_
  k_dflt (refine' code_defG ?k1 ?k2 ?k3 ?k4 ?k5 ?kA ?kF ?kK ?k6 ?k7 ?k8 ?k9 ?kB ?_ ?c2 ?c3 ?c4 ?c5; (case kA => exact rfl); (case kF => exact rfl); (case kK => assumption); (case k1 => k_asm); (case k2 => k_asm); (case k3 => k_asm); (case k4 => exact News.nil); (case k5 => k_asm); (case k6 => k_is); (case k7 => k_is); (case k8 => ktr_room); (case k9 => exact BindsTo.of_eq rfl); (case c5 => decide); (case kB => exact locs rfl); (case c2 => exact rfl); (case c3 => exact rfl); (case c4 => exact rfl); k_whole; intro g' L' h' FG' F' N' B' X' T' G'; (try dsimp only); (try k_fold))
  replace G' := gsub_nil G'
  k_steps
  all_goals exact ret_str hret G' (by k_asm) rfl
theorem spec_bare (x : Str) (t : Tok) (hx : x.length ≤ 100000) : Spec 1 w mean mg mb 158 [.str x t] (IsS (Txt.removesuffix (Txt.removeprefix x (Str.ofString "- ")) (Str.ofString ";"))) := by
  w_top off
  have hload : PySem.Challenge.rw_sx_yscribe_1.name = PySem.Challenge.rw_sx_yscribe_1.name ∧ Mine.hd.heap_39 w.params = Mine.hd.heap_39 w.params := by
    k_fill
    exact ⟨rfl, rfl⟩
  clear hload
  unfold Spec
  intro dp un gd cn cs a ccd cl outer A₀ base h₀ L m s Q E B F X T hk hdp hun hret
  refine wpAny_call ?_
  k_dflt (refine' code_defG ?k1 ?k2 ?k3 ?k4 ?k5 ?kA ?kF ?kK ?k6 ?k7 ?k8 ?k9 ?kB ?_ ?c2 ?c3 ?c4 ?c5; (case kA => exact rfl); (case kF => exact rfl); (case kK => assumption); (case k1 => k_asm); (case k2 => k_asm); (case k3 => k_asm); (case k4 => exact News.nil); (case k5 => k_asm); (case k6 => k_is); (case k7 => k_is); (case k8 => ktr_room); (case k9 => exact BindsTo.of_eq rfl); (case c5 => decide); (case kB => exact locs rfl); (case c2 => exact rfl); (case c3 => exact rfl); (case c4 => exact rfl); k_whole; intro g' L' h' FG' F' N' B' X' T' G'; (try dsimp only); (try k_fold))
  replace G' := gsub_nil G'
  k_steps
  all_goals (
    refine ret_str hret G' (by k_asm) ?_
    first
      | (rw [← bare_pre_yes (by with_reducible assumption), ← bare_suf_yes (by with_reducible assumption)])
      | (rw [← bare_pre_yes (by with_reducible assumption), bare_suf_no (by with_reducible assumption)])
      | (rw [bare_pre_no (by with_reducible assumption), ← bare_suf_yes (by with_reducible assumption)])
      | (rw [bare_pre_no (by with_reducible assumption), bare_suf_no (by with_reducible assumption)]))
end
end Mine
end

section
open PySem PySem.W PySem.Calls PySem.Spec PyProof.Rows
set_option Elab.async false
set_option maxRecDepth 100000
set_option maxHeartbeats 8000000
set_option linter.unusedVariables false
namespace Mine
theorem getD_ofL (fs : List (List Nat)) (i : Nat) : (fs.map ofL).getD i Str.empty = ofL (fs.getD i []) := by
  rw [List.getD_eq_getElem?_getD, List.getD_eq_getElem?_getD, List.getElem?_map]
  cases fs[i]? <;> rfl
theorem idx_of {n : Int} {c : Nat} (h : 0 ≤ n) (hc : 0 < c) : ((n.fdiv (c : Int)).fmod 10).toNat = n.toNat / c % 10 := by
  obtain ⟨k, rfl⟩ := Int.eq_ofNat_of_zero_le h
  rw [Int.fdiv_eq_ediv_of_nonneg _ (by omega), Int.fmod_eq_emod_of_nonneg _ (by omega), Int.toNat_natCast]
  rw [← Int.natCast_ediv]
  omega
theorem tab3 : [Str.ofString "", Str.ofString "M", Str.ofString "MM", Str.ofString "MMM"] = forms3.map ofL := by decide +kernel
theorem tab2 : [Str.ofString "", Str.ofString "C", Str.ofString "CC", Str.ofString "CCC", Str.ofString "CD", Str.ofString "D", Str.ofString "DC", Str.ofString "DCC", Str.ofString "DCCC", Str.ofString "CM"] = forms2.map ofL := by decide +kernel
theorem tab1 : [Str.ofString "", Str.ofString "X", Str.ofString "XX", Str.ofString "XXX", Str.ofString "XL", Str.ofString "L", Str.ofString "LX", Str.ofString "LXX", Str.ofString "LXXX", Str.ofString "XC"] = forms1.map ofL := by decide +kernel
theorem tab0 : [Str.ofString "", Str.ofString "I", Str.ofString "II", Str.ofString "III", Str.ofString "IV", Str.ofString "V", Str.ofString "VI", Str.ofString "VII", Str.ofString "VIII", Str.ofString "IX"] = forms0.map ofL := by decide +kernel
theorem nil_is : Str.ofString "" = ofL [] := by decide +kernel
theorem num_text {n : Int} (h1 : 1 ≤ n) (h2 : n ≤ 3999) :
    Str.ofString "" ++ [Str.ofString "", Str.ofString "M", Str.ofString "MM", Str.ofString "MMM"].getD ((n.fdiv 1000).fmod 10).toNat Str.empty ++
      [Str.ofString "", Str.ofString "C", Str.ofString "CC", Str.ofString "CCC", Str.ofString "CD", Str.ofString "D", Str.ofString "DC", Str.ofString "DCC", Str.ofString "DCCC", Str.ofString "CM"].getD ((n.fdiv 100).fmod 10).toNat Str.empty ++
      [Str.ofString "", Str.ofString "X", Str.ofString "XX", Str.ofString "XXX", Str.ofString "XL", Str.ofString "L", Str.ofString "LX", Str.ofString "LXX", Str.ofString "LXXX", Str.ofString "XC"].getD ((n.fdiv 10).fmod 10).toNat Str.empty ++
      [Str.ofString "", Str.ofString "I", Str.ofString "II", Str.ofString "III", Str.ofString "IV", Str.ofString "V", Str.ofString "VI", Str.ofString "VII", Str.ofString "VIII", Str.ofString "IX"].getD ((n.fdiv 1).fmod 10).toNat Str.empty = numS n := by
  rw [tab3, tab2, tab1, tab0, nil_is, getD_ofL, getD_ofL, getD_ofL, getD_ofL, ofL_append, ofL_append, ofL_append, ofL_append]
  unfold numS
  rw [numeralL_eq]
  have e0' : ((n.fdiv 1).fmod 10).toNat = n.toNat % 10 := by rw [show (1 : Int) = ((1 : Nat) : Int) from rfl, idx_of (by omega) (by decide), Nat.div_one]
  rw [e0', show (1000 : Int) = ((1000 : Nat) : Int) from rfl, idx_of (by omega) (by decide), show (100 : Int) = ((100 : Nat) : Int) from rfl, idx_of (by omega) (by decide), show (n.fdiv 10).fmod 10 = (n.fdiv ((10 : Nat) : Int)).fmod 10 from rfl, idx_of (by omega) (by decide)]
  rfl
theorem sum_len0 {a b : Nat} {x y : Str} (hx : Short a x) (hy : Short b y) (h : a + b ≤ 16777216) : x.length + y.length ≤ 16777216 := Nat.le_trans (Nat.add_le_add hx.2 hy.2) h
theorem nil_short : Short 5 (Str.ofString "") := short_lit (by decide +kernel)
section
variable {w : World} {mean : ExcName → Option Value} {mg mb : Str → Option Value}
theorem spec_numeral (n : Int) (t : Tok) (h1 : 1 ≤ n) (h2 : n ≤ 3999) : Spec 1 w mean mg mb 116 [.int n t] (IsS (numS n)) := by
  w_top off
  k_with_none
  k_with "table" => skip
  have hload : PySem.Challenge.rw_sx_yscribe_1.name = PySem.Challenge.rw_sx_yscribe_1.name ∧ Mine.hd.heap_39 w.params = Mine.hd.heap_39 w.params := by
    k_fill
    exact ⟨rfl, rfl⟩
  clear hload
  unfold Spec
  intro dp un gd cn cs a ccd cl outer A₀ base h₀ L m s Q E B F X T hk hdp hun hret
  refine wpAny_call ?_
  k_dflt (refine' code_defG ?k1 ?k2 ?k3 ?k4 ?k5 ?kA ?kF ?kK ?k6 ?k7 ?k8 ?k9 ?kB ?_ ?c2 ?c3 ?c4 ?c5; (case kA => exact rfl); (case kF => exact rfl); (case kK => assumption); (case k1 => k_asm); (case k2 => k_asm); (case k3 => k_asm); (case k4 => exact News.nil); (case k5 => k_asm); (case k6 => k_is); (case k7 => k_is); (case k8 => ktr_room); (case k9 => exact BindsTo.of_eq rfl); (case c5 => decide); (case kB => exact locs rfl); (case c2 => exact rfl); (case c3 => exact rfl); (case c4 => exact rfl); k_whole; intro g' L' h' FG' F' N' B' X' T' G'; (try dsimp only); (try k_fold))
  replace G' := gsub_nil G'
  repeat' (first | (k_unfold; (try dsimp only)) | (k_end; wrow_close) | ((with_reducible show wpAny _ _ (binaryOp PySem.Operator.Add (Value.str _ _) (Value.str _ _)) _ _ _); with_reducible (k_dflt (refine KOpn.add (sum_len0 (by repeat' (first | with_reducible exact nil_short | with_reducible exact short_getD (n := 5) (by decide +kernel) _ | with_reducible apply short_append)) (by repeat' (first | with_reducible exact nil_short | with_reducible exact short_getD (n := 5) (by decide +kernel) _ | with_reducible apply short_append)) (by decide)) ?_; intro _ _ f9; clear f9))) | walk1 | (dsimp only; walk1) | (leave1; walk_say "STEP leave1"; try dsimp only) | fail "no step")
  all_goals exact ret_str hret G' (by k_asm) (num_text h1 h2)
end
end Mine
end

section
open PySem PySem.W PySem.Calls PySem.Spec PyProof.Rows
set_option Elab.async false
set_option maxRecDepth 100000
set_option linter.unusedVariables false
namespace Mine
/-- a written tuple's items are pairs -/
inductive PairTups (h : Heap) : List Addr → List (Value × Value) → Prop
  | nil : PairTups h [] []
  | cons {a : Addr} {x y : Value} {r : List Addr} {ps : List (Value × Value)} : IsTup h a #[x, y] → PairTups h r ps → PairTups h (a :: r) ((x, y) :: ps)

/-- how a turn ends -/
noncomputable def TurnEnd (h₀ : Heap) (L : Addr) (s : Shared) (I : Addr) (it : Obj) (J : (Str → Option Value) → Prop) (Q : Flow → Shared → Prop) (f : Flow) (s₂ : Shared) : Prop :=
  match f with
  | .ret v => Q (.ret v) s₂
  | .brk => Q .next s₂
  | _ => ∃ h' tk m', s₂ = { s with heap := h', toks := tk } ∧ Fr h₀ L h' m' ∧ News h₀ L h' [(I, it)] ∧ J m'
theorem TurnEnd.next {h₀ h' : Heap} {L : Addr} {s : Shared} {I : Addr} {it : Obj} {J : (Str → Option Value) → Prop} {Q : Flow → Shared → Prop} {tk : Nat} {m' : Str → Option Value} {all : List (Addr × Obj)} (F : Fr h₀ L h' m') (N : News h₀ L h' all) (hm : (I, it) ∈ all) (hj : J m') :
    TurnEnd h₀ L s I it J Q .next { s with heap := h', toks := tk } :=
  ⟨h', tk, m', rfl, F, fun p hp => by rw [List.mem_singleton.mp hp]; exact N _ hm, hj⟩

section
variable {prog : Program} {w : World} {A : Around} {E : Value → Shared → Prop} {s : Shared} {env : Env} {h₀ : Heap} {body : List Stmt} {Q : Flow → Shared → Prop} {K : Frag} {n1 n2 : Str} {p1 p2 tp : Pos} {kk : Nat}
theorem items_pairs {refs : List Addr} {items : List (Value × Value)} {I : Addr} (J : List (Value × Value) → (Str → Option Value) → Prop) (hh : A.handled = none)
    (l1 : env.kindOf n1 = some .local) (l2 : env.kindOf n2 = some .local) (hc : (env.scope.kind == .class || (env.scope.kind == .module && env.locals != env.globals)) = false) (hp : PairTups h₀ refs items)
    (turn : ∀ (done : List (Value × Value)) (a b : Value) (m₁ : Str → Option Value) h tk it, (∃ rest, items = done ++ (a, b) :: rest) → J done m₁ → it.cls = .type "tuple_iterator" → Fr h₀ env.locals h (fun y => if y = n2 then some b else if y = n1 then some a else m₁ y) → News h₀ env.locals h [(I, it)] →
      wpAny (model prog w) A (execs body env) (TurnEnd h₀ env.locals { s with heap := h, toks := tk } I it (J (done ++ [(a, b)])) Q) E { s with heap := h, toks := tk })
    (fin : ∀ m₁ h tk, J items m₁ → Fr h₀ env.locals h m₁ → News h₀ env.locals h [] → Q .next { s with heap := h, toks := tk }) :
    ∀ (done rest : List (Value × Value)) (rr : List Addr) (m : Str → Option Value), items = done ++ rest → PairTups h₀ rr rest → J done m →
      ItemsRest prog w A E h₀ env (.Tuple [.Name n1 p1, .Name n2 p2] kk tp) body Q s [(I, "tuple_iterator")] [] ((rr.map Value.ref).map .val) m [] := by
  intro done rest
  induction rest generalizing done with
  | nil =>
    intro rr m hi hr hj
    cases hr
    rw [List.append_nil] at hi
    subst hi
    exact ItemsRest.zero fun h tk F N => fin m h tk hj F N
  | cons p rest ih =>
    intro rr m hi hr hj
    obtain ⟨a, b⟩ := p
    cases hr with
    | @cons x _ _ r _ ht hr =>
      simp only [List.map_cons]
      refine ItemsRest.val fun h tk F => ?_
      intro it hit N
      have N1 : News h₀ env.locals h [(I, it)] := N
      refine unpackN_ F N1 (IsTup.keeps ht F.keep) hh rfl rfl fun h₁ F₁ N₁ => ?_
      refine assignInOrder_cons ?_
      refine wpAny_assign_Name (wpAny_storeName_local l1 F₁.ns (fun h₂ hn₂ hs₂ => ?_) hc)
      have F₂ := F₁.set hn₂ hs₂
      have N₂ := N₁.set hs₂
      refine assignInOrder_cons ?_
      refine wpAny_assign_Name (wpAny_storeName_local l2 F₂.ns (fun h₃ hn₃ hs₃ => ?_) hc)
      have F₃ := F₂.set hn₃ hs₃
      have N₃ := N₂.set hs₃
      refine assignInOrder_nil ?_
      refine wpAny_mono (turn done a b m h₃ _ it ⟨rest, hi⟩ hj hit F₃ N₃) (fun f s₂ q => ?_) fun _ _ e => e
      have go : (∃ h' tk m', s₂ = { s with heap := h', toks := tk } ∧ Fr h₀ env.locals h' m' ∧ News h₀ env.locals h' [(I, it)] ∧ J (done ++ [(a, b)]) m') → UnrEndW h₀ env.locals { s with heap := h, toks := tk } [(I, it)]
          (fun m' n' => SubL [] n' ∧ ItemsRest prog w A E h₀ env (.Tuple [.Name n1 p1, .Name n2 p2] kk tp) body Q s [(I, "tuple_iterator")] [] ((r.map Value.ref).map .val) m' n') s₂ := by
        rintro ⟨h', tk', m', e, F', N', hj'⟩
        refine ⟨h', tk', m', [], e, F', N', (fun p hp => nomatch hp), trivial, ?_⟩
        exact ih (done ++ [(a, b)]) r m' (by rw [hi]; simp) hr hj'
      cases f with
      | ret v => exact q
      | brk => exact q
      | next => exact go q
      | cont => exact go q
theorem iter_pairs {ax : Addr} {lo : Obj} {refs : List Addr} {items : List (Value × Value)} {nn : Nat} {m₀ : Str → Option Value} (J : List (Value × Value) → (Str → Option Value) → Prop) (hh : A.handled = none)
    (l1 : env.kindOf n1 = some .local) (l2 : env.kindOf n2 = some .local) (hc : (env.scope.kind == .class || (env.scope.kind == .module && env.locals != env.globals)) = false) (hp : PairTups h₀ refs items)
    (F : Fr h₀ env.locals s.heap m₀) (X₀ : K.In h₀) (hk : K.lookup ax = some lo) (hcl : lo.cls = .type "tuple") (hd : lo.data = .seq (refs.map Value.ref).toArray nn) (hz : (refs.map Value.ref).length ≤ 24) (hj : J [] m₀)
    (turn : ∀ (I : Addr) (done : List (Value × Value)) (a b : Value) (m₁ : Str → Option Value) h tk it, (∃ rest, items = done ++ (a, b) :: rest) → J done m₁ → it.cls = .type "tuple_iterator" → Fr h₀ env.locals h (fun y => if y = n2 then some b else if y = n1 then some a else m₁ y) → News h₀ env.locals h [(I, it)] →
      wpAny (model prog w) A (execs body env) (TurnEnd h₀ env.locals { s with heap := h, toks := tk } I it (J (done ++ [(a, b)])) Q) E { s with heap := h, toks := tk })
    (fin : ∀ m₁ h tk, J items m₁ → Fr h₀ env.locals h m₁ → News h₀ env.locals h [] → Q .next { s with heap := h, toks := tk }) :
    wpAny (model prog w) A (pyIter (.ref ax)) (fun it s₂ => TurnsAt prog w A h₀ env (.Tuple [.Name n1 p1, .Name n2 p2] kk tp) body Q E it s₂) E s :=
  iter_tupK hh F News.nil X₀ hk hcl hd hz fun I _ => items_pairs J hh l1 l2 hc hp (turn I) fin [] items refs m₀ rfl hp hj
end

/-- what the names hold -/
noncomputable abbrev Holds (m : Str → Option Value) (kv : List (Str × Value)) : Prop := ∀ p ∈ kv, m p.1 = some p.2
/-- the word that a loop goes by -/
structure Use (P : List (Value × Value) → List (Str × Value) → Prop) : Prop where
theorem kst_self {m : Str → Option Value} {kv : List (Str × Value)} (h : Holds m kv) : kstB m kv = m := funext fun y => kstB_eq h fun _ => rfl

section
variable {prog : Program} {w : World} {A : Around} {E : Value → Shared → Prop} {s : Shared} {env : Env} {h₀ : Heap} {body : List Stmt} {Q : Flow → Shared → Prop} {K : Frag} {n1 n2 : Str} {p1 p2 tp : Pos} {kk : Nat}
theorem iter_kv {ax : Addr} {lo : Obj} {refs : List Addr} {items : List (Value × Value)} {nn : Nat} {m₀ : Str → Option Value} {P : List (Value × Value) → List (Str × Value) → Prop} (_u : Use P) (kv₀ : List (Str × Value)) (hp : PairTups h₀ refs items)
    (X₀ : K.In h₀) (hk : K.lookup ax = some lo) (hcl : lo.cls = .type "tuple") (hd : lo.data = .seq (refs.map Value.ref).toArray nn) (hz : (refs.map Value.ref).length ≤ 24)
    (hh : A.handled = none) (l1 : env.kindOf n1 = some .local) (l2 : env.kindOf n2 = some .local) (hc : (env.scope.kind == .class || (env.scope.kind == .module && env.locals != env.globals)) = false)
    (F : Fr h₀ env.locals s.heap m₀) (h0 : P [] kv₀) (hm : Holds m₀ kv₀)
    (turn : ∀ (I : Addr) (done : List (Value × Value)) (a b : Value) (kv : List (Str × Value)) (u : Str → Option Value) h tk it, (∃ rest, items = done ++ (a, b) :: rest) → P done kv → it.cls = .type "tuple_iterator" → Fr h₀ env.locals h (fun y => if y = n2 then some b else if y = n1 then some a else kstB u kv y) → News h₀ env.locals h [(I, it)] →
      wpAny (model prog w) A (execs body env) (TurnEnd h₀ env.locals { s with heap := h, toks := tk } I it (fun m' => ∃ kv', P (done ++ [(a, b)]) kv' ∧ Holds m' kv') Q) E { s with heap := h, toks := tk })
    (fin : ∀ (kv : List (Str × Value)) (u : Str → Option Value) h tk, P items kv → Fr h₀ env.locals h (kstB u kv) → News h₀ env.locals h [] → Q .next { s with heap := h, toks := tk }) :
    wpAny (model prog w) A (pyIter (.ref ax)) (fun it s₂ => TurnsAt prog w A h₀ env (.Tuple [.Name n1 p1, .Name n2 p2] kk tp) body Q E it s₂) E s := by
  refine iter_pairs (fun done m => ∃ kv, P done kv ∧ Holds m kv) hh l1 l2 hc hp F X₀ hk hcl hd hz ⟨kv₀, h0, hm⟩ ?_ ?_
  · rintro I done a b m₁ h tk it hs ⟨kv, hP, hkv⟩ hit F₁ N₁
    refine turn I done a b kv m₁ h tk it hs hP hit ?_ N₁
    rw [kst_self hkv]
    exact F₁
  · rintro m₁ h tk ⟨kv, hP, hkv⟩ F₁ N₁
    refine fin kv m₁ h tk hP ?_ N₁
    rw [kst_self hkv]
    exact F₁
end

/-- the table of numerals -/
noncomputable def numItems : List (Value × Value) := [(.int 1000 195, .str (Str.ofString "M") 196), (.int 900 197, .str (Str.ofString "CM") 198), (.int 500 199, .str (Str.ofString "D") 200), (.int 400 201, .str (Str.ofString "CD") 202), (.int 100 203, .str (Str.ofString "C") 204), (.int 90 205, .str (Str.ofString "XC") 206), (.int 50 207, .str (Str.ofString "L") 208), (.int 40 209, .str (Str.ofString "XL") 210), (.int 10 211, .str (Str.ofString "X") 212), (.int 9 213, .str (Str.ofString "IX") 214), (.int 5 215, .str (Str.ofString "V") 216), (.int 4 217, .str (Str.ofString "IV") 218), (.int 1 219, .str (Str.ofString "I") 220)]
noncomputable def placeItems : List (Value × Value) := [(.int 1000 300, .ref 92), (.int 100 305, .ref 94), (.int 10 316, .ref 96), (.int 1 327, .ref 98)]
theorem k_loaded (w : World) : PySem.Challenge.rw_sx_yscribe_1.name = PySem.Challenge.rw_sx_yscribe_1.name ∧ Mine.hd.heap_39 w.params = Mine.hd.heap_39 w.params := by
  k_fill
  exact ⟨rfl, rfl⟩
theorem num_tups {w : World} {h : Heap} (X : (Mine.hd.heap_39 w.params).In h) : PairTups h [15, 16, 17, 18, 19, 20, 21, 22, 23, 24, 25, 26, 27] numItems := by
  unfold numItems
  refine .cons (tupK X (by k_dflt k_is)) (.cons (tupK X (by k_dflt k_is)) (.cons (tupK X (by k_dflt k_is)) (.cons (tupK X (by k_dflt k_is)) (.cons (tupK X (by k_dflt k_is)) (.cons (tupK X (by k_dflt k_is)) (.cons (tupK X (by k_dflt k_is)) (.cons (tupK X (by k_dflt k_is)) (.cons (tupK X (by k_dflt k_is)) (.cons (tupK X (by k_dflt k_is)) (.cons (tupK X (by k_dflt k_is)) (.cons (tupK X (by k_dflt k_is)) (.cons (tupK X (by k_dflt k_is)) .nil))))))))))))
theorem place_tups {w : World} {h : Heap} (X : (Mine.hd.heap_39 w.params).In h) : PairTups h [93, 95, 97, 99] placeItems := by
  unfold placeItems
  refine .cons (tupK X (by k_dflt k_is)) (.cons (tupK X (by k_dflt k_is)) (.cons (tupK X (by k_dflt k_is)) (.cons (tupK X (by k_dflt k_is)) .nil)))
theorem num_look (w : World) : ∃ lo n, (Mine.hd.heap_39 w.params).lookup 28 = some lo ∧ lo.cls = .type "tuple" ∧ lo.data = .seq ([15, 16, 17, 18, 19, 20, 21, 22, 23, 24, 25, 26, 27].map Value.ref).toArray n :=
  ⟨_, _, by k_dflt k_is, rfl, rfl⟩
theorem place_look (w : World) : ∃ lo n, (Mine.hd.heap_39 w.params).lookup 100 = some lo ∧ lo.cls = .type "tuple" ∧ lo.data = .seq ([93, 95, 97, 99].map Value.ref).toArray n :=
  ⟨_, _, by k_dflt k_is, rfl, rfl⟩
end Mine
end

section
open PySem PySem.W PySem.Calls PySem.Spec PyProof.Rows
set_option Elab.async false
set_option maxRecDepth 100000
set_option linter.unusedVariables false
namespace Mine
/-- how a turn ends, the ledger told -/
noncomputable def TurnEndL (h₀ : Heap) (L : Addr) (s : Shared) (led : List (Addr × Obj)) (J : (Str → Option Value) → Prop) (Q : Flow → Shared → Prop) (f : Flow) (s₂ : Shared) : Prop :=
  match f with
  | .ret v => Q (.ret v) s₂
  | .brk => Q .next s₂
  | _ => ∃ h' tk m', s₂ = { s with heap := h', toks := tk } ∧ Fr h₀ L h' m' ∧ News h₀ L h' led ∧ J m'
theorem TurnEndL.next {h₀ h' : Heap} {L : Addr} {s : Shared} {led : List (Addr × Obj)} {J : (Str → Option Value) → Prop} {Q : Flow → Shared → Prop} {tk : Nat} {m' : Str → Option Value} {all : List (Addr × Obj)} (F : Fr h₀ L h' m') (N : News h₀ L h' all) (hm : ∀ p ∈ led, p ∈ all) (hj : J m') :
    TurnEndL h₀ L s led J Q .next { s with heap := h', toks := tk } :=
  ⟨h', tk, m', rfl, F, fun p hp => N _ (hm p hp), hj⟩

section
variable {prog : Program} {w : World} {A : Around} {E : Value → Shared → Prop} {s : Shared} {env : Env} {h₀ : Heap} {x : Str} {body : List Stmt} {Q : Flow → Shared → Prop}
theorem range_kv {r : Addr} {t₀ u₀ v₀ : Tok} {n : Nat} {m₀ : Str → Option Value} {news : List (Addr × Obj)} {kv₀ : List (Str × Value)} (P : Nat → List (Str × Value) → Prop) (hsz : n ≤ 1000000)
    (hh : A.handled = none) (hr : IsRange s.heap r 0 (n : Int) 1 t₀ u₀ v₀) (F : Fr h₀ env.locals s.heap m₀) (N : News h₀ env.locals s.heap news) (h0 : P 0 kv₀) (hm : Holds m₀ kv₀)
    (turn : ∀ (I : Addr) (i : Nat) (t : Tok) (kv : List (Str × Value)) (u : Str → Option Value) h tk it, i < n → P i kv → (∀ p ∈ news, p.1 < I) → Fr h₀ env.locals h (fun y => if y = x then some (.int (i : Int) t) else kstB u kv y) → News h₀ env.locals h ((I, it) :: news) →
      wpAny (model prog w) A (execs body env) (TurnEndL h₀ env.locals { s with heap := h, toks := tk } ((I, it) :: news) (fun m' => ∃ kv', P (i + 1) kv' ∧ Holds m' kv') Q) E { s with heap := h, toks := tk })
    (fin : ∀ (kv : List (Str × Value)) (u : Str → Option Value) h tk, P n kv → Fr h₀ env.locals h (kstB u kv) → News h₀ env.locals h news → Q .next { s with heap := h, toks := tk }) :
    wpAny (model prog w) A (pyIter (.ref r)) (fun it s₂ => LoopAtV prog w A h₀ env x body Q E it s₂) E s := by
  refine iter_rangeUnr (n := n) hh hr ?_ ?_ F N fun I hI => ?_
  · exact small_one (by decide) (by decide) (by omega) (by omega)
  · unfold Builtin.Range.rangeSize
    rw [if_pos (by decide)]
    by_cases h : (0 : Int) < (n : Int)
    · rw [if_pos h, Int.ediv_one]
      omega
    · rw [if_neg h]
      omega
  · have key : ∀ (k i : Nat) (m : Str → Option Value), i + k = n → (∃ kv, P i kv ∧ Holds m kv) → RangeRest prog w A E h₀ env x body Q s I 0 n k i m news := by
      intro k
      induction k with
      | zero =>
        rintro i m hi ⟨kv, hP, hkv⟩
        refine RangeRest.zero fun h tk F' N' => fin kv m h tk ?_ ?_ N'
        · have : i = n := by omega
          exact this ▸ hP
        · rw [kst_self hkv]; exact F'
      | succ k ih =>
        rintro i m hi ⟨kv, hP, hkv⟩
        refine RangeRest.succ fun t h tk F' N' => ?_
        have F₁ : Fr h₀ env.locals h (fun y => if y = x then some (.int (i : Int) t) else kstB m kv y) := by
          rw [kst_self hkv]
          rw [Int.zero_add] at F'
          exact F'
        refine wpAny_mono (turn I i t kv m h tk _ (by omega) hP hI F₁ N') (fun f s₂ q => ?_) fun _ _ e => e
        have go : (∃ h' tk' m', s₂ = { s with heap := h', toks := tk' } ∧ Fr h₀ env.locals h' m' ∧ News h₀ env.locals h' ((I, itR (0 + ((i + 1 : Nat) : Int)) ((n : Int) - ((i + 1 : Nat) : Int))) :: news) ∧ ∃ kv', P (i + 1) kv' ∧ Holds m' kv') →
            UnrEnd h₀ env.locals { s with heap := h, toks := tk } I (itR (0 + ((i + 1 : Nat) : Int)) ((n : Int) - ((i + 1 : Nat) : Int))) (RangeRest prog w A E h₀ env x body Q s I 0 n k (i + 1)) s₂ := by
          rintro ⟨h', tk', m', e, F'', N'', hj⟩
          exact ⟨h', tk', m', news, e, F'', N'', fun p hp => Nat.ne_of_lt (hI p hp), ih (i + 1) m' (by omega) hj⟩
        cases f with
        | ret v => exact q
        | brk => exact q
        | next => exact go q
        | cont => exact go q
    exact key n 0 m₀ (by omega) ⟨kv₀, h0, hm⟩

theorem str_kv {tx : Str} {t₀ : Tok} {m₀ : Str → Option Value} {news : List (Addr × Obj)} {kv₀ : List (Str × Value)} (P : List Nat → List (Str × Value) → Prop)
    (hh : A.handled = none) (F : Fr h₀ env.locals s.heap m₀) (N : News h₀ env.locals s.heap news) (h0 : P [] kv₀) (hm : Holds m₀ kv₀)
    (turn : ∀ (I : Addr) (done : List Nat) (c : Nat) (t : Tok) (kv : List (Str × Value)) (u : Str → Option Value) h tk it, (∃ rest, tx.cps.toList = done ++ c :: rest) → P done kv → (∀ p ∈ news, p.1 < I) → Fr h₀ env.locals h (fun y => if y = x then some (.str (ofL [c]) t) else kstB u kv y) → News h₀ env.locals h ((I, it) :: news) →
      wpAny (model prog w) A (execs body env) (TurnEndL h₀ env.locals { s with heap := h, toks := tk } ((I, it) :: news) (fun m' => ∃ kv', P (done ++ [c]) kv' ∧ Holds m' kv') Q) E { s with heap := h, toks := tk })
    (fin : ∀ (kv : List (Str × Value)) (u : Str → Option Value) h tk, P tx.cps.toList kv → Fr h₀ env.locals h (kstB u kv) → News h₀ env.locals h news → Q .next { s with heap := h, toks := tk }) :
    wpAny (model prog w) A (pyIter (.str tx t₀)) (fun it s₂ => LoopAtV prog w A h₀ env x body Q E it s₂) E s := by
  refine iter_strUnr (l := tx.cps.toList.map fun c => (⟨#[c]⟩ : Str)) hh F N rfl fun I hI => ?_
  have key : ∀ (rest done : List Nat) (m : Str → Option Value), tx.cps.toList = done ++ rest → (∃ kv, P done kv ∧ Holds m kv) → StrRest prog w A E h₀ env x body Q s I (rest.map fun c => (⟨#[c]⟩ : Str)) m news := by
    intro rest
    induction rest with
    | nil =>
      rintro done m hi ⟨kv, hP, hkv⟩
      rw [List.append_nil] at hi
      refine StrRest.zero fun h tk F' N' => fin kv m h tk (hi ▸ hP) ?_ N'
      rw [kst_self hkv]; exact F'
    | cons c rest ih =>
      rintro done m hi ⟨kv, hP, hkv⟩
      rw [List.map_cons]
      refine StrRest.succ fun t it h tk F' N' => ?_
      have F₁ : Fr h₀ env.locals h (fun y => if y = x then some (.str (ofL [c]) t) else kstB m kv y) := by
        rw [kst_self hkv]
        exact F'
      refine wpAny_mono (turn I done c t kv m h tk it ⟨rest, hi⟩ hP hI F₁ N') (fun f s₂ q => ?_) fun _ _ e => e
      have go : (∃ h' tk' m', s₂ = { s with heap := h', toks := tk' } ∧ Fr h₀ env.locals h' m' ∧ News h₀ env.locals h' ((I, it) :: news) ∧ ∃ kv', P (done ++ [c]) kv' ∧ Holds m' kv') →
          UnrEnd h₀ env.locals { s with heap := h, toks := tk } I it (StrRest prog w A E h₀ env x body Q s I (rest.map fun c => (⟨#[c]⟩ : Str))) s₂ := by
        rintro ⟨h', tk', m', e, F'', N'', hj⟩
        exact ⟨h', tk', m', news, e, F'', N'', fun p hp => Nat.ne_of_lt (hI p hp), ih (done ++ [c]) m' (by rw [hi]; simp) hj⟩
      cases f with
      | ret v => exact q
      | brk => exact q
      | next => exact go q
      | cont => exact go q
  exact key tx.cps.toList [] m₀ rfl ⟨kv₀, h0, hm⟩
end
end Mine
end

section
open PySem PySem.W PySem.Calls PySem.Spec PyProof.Rows
set_option Elab.async false
set_option maxRecDepth 100000
set_option linter.unusedVariables false
namespace Mine
noncomputable def dec : Value × Value → Nat × List Nat
  | (.int v _, .str x _) => (v.toNat, x.cps.toList)
  | _ => (1, [])
theorem dec_table : numItems.map dec = table := by decide +kernel
noncomputable def romanSt (n : Nat) (done : List (Value × Value)) : List Nat × Nat := (done.map dec).foldl romanStep ([], n)
theorem romanSt_nil (n : Nat) : romanSt n [] = ([], n) := rfl
theorem romanSt_snoc (n : Nat) (done : List (Value × Value)) (p : Value × Value) : romanSt n (done ++ [p]) = romanStep (romanSt n done) (dec p) := by
  simp [romanSt, List.map_append, List.foldl_append]
theorem romanSt_all (n : Nat) : (romanSt n numItems).1 = romanL n := by
  unfold romanSt romanL
  rw [dec_table]
noncomputable def RomanP (n : Nat) (done : List (Value × Value)) (kv : List (Str × Value)) : Prop :=
  ∃ (x : List Nat) (k : Nat) (t u : Tok), kv = [(Str.ofString "n", .int (k : Int) t), (Str.ofString "numeral", .str (ofL x) u)] ∧ romanSt n done = (x, k) ∧ k ≤ 3999 ∧ x.length ≤ 8000 * done.length
/-- an item of the table -/
theorem num_item {done rest : List (Value × Value)} {a b : Value} (h : numItems = done ++ (a, b) :: rest) : done.length < 13 ∧ ∃ (v : Nat) (t : Tok) (x : Str) (u : Tok), a = .int (v : Int) t ∧ b = .str x u ∧ 1 ≤ v ∧ v ≤ 1000 ∧ 1 ≤ x.length ∧ x.length ≤ 2 := by
  refine ⟨?_, ?_⟩
  · have := congrArg List.length h
    rw [List.length_append, List.length_cons] at this
    have e : numItems.length = 13 := rfl
    omega
  · have hm : (a, b) ∈ numItems := by rw [h]; simp
    have all : ∀ p ∈ numItems, ∃ (v : Nat) (t : Tok) (x : Str) (u : Tok), p.1 = .int (v : Int) t ∧ p.2 = .str x u ∧ 1 ≤ v ∧ v ≤ 1000 ∧ 1 ≤ x.length ∧ x.length ≤ 2 := by
      unfold numItems
      simp only [List.forall_mem_cons]
      refine ⟨⟨1000, _, _, _, rfl, rfl, by decide, by decide, by decide +kernel, by decide +kernel⟩, ⟨900, _, _, _, rfl, rfl, by decide, by decide, by decide +kernel, by decide +kernel⟩, ⟨500, _, _, _, rfl, rfl, by decide, by decide, by decide +kernel, by decide +kernel⟩, ⟨400, _, _, _, rfl, rfl, by decide, by decide, by decide +kernel, by decide +kernel⟩, ⟨100, _, _, _, rfl, rfl, by decide, by decide, by decide +kernel, by decide +kernel⟩, ⟨90, _, _, _, rfl, rfl, by decide, by decide, by decide +kernel, by decide +kernel⟩, ⟨50, _, _, _, rfl, rfl, by decide, by decide, by decide +kernel, by decide +kernel⟩, ⟨40, _, _, _, rfl, rfl, by decide, by decide, by decide +kernel, by decide +kernel⟩, ⟨10, _, _, _, rfl, rfl, by decide, by decide, by decide +kernel, by decide +kernel⟩, ⟨9, _, _, _, rfl, rfl, by decide, by decide, by decide +kernel, by decide +kernel⟩, ⟨5, _, _, _, rfl, rfl, by decide, by decide, by decide +kernel, by decide +kernel⟩, ⟨4, _, _, _, rfl, rfl, by decide, by decide, by decide +kernel, by decide +kernel⟩, ⟨1, _, _, _, rfl, rfl, by decide, by decide, by decide +kernel, by decide +kernel⟩, ?_⟩
      intro p hp
      cases hp
    exact all (a, b) hm
theorem nat_fdiv (k v : Nat) : (k : Int).fdiv (v : Int) = ((k / v : Nat) : Int) := by
  rw [Int.fdiv_eq_ediv_of_nonneg _ (by omega)]
  exact (Int.natCast_ediv k v).symm
theorem nat_fmod (k v : Nat) : (k : Int).fmod (v : Int) = ((k % v : Nat) : Int) := by
  rw [Int.fmod_eq_emod_of_nonneg _ (by omega)]
  exact (Int.natCast_emod k v).symm
theorem rep_len (k : Nat) (x : List Nat) : (rep k x).length = k * x.length := by
  induction k with
  | zero => simp [rep]
  | succ k ih =>
    have : rep (k + 1) x = x ++ rep k x := by simp [rep, List.replicate_succ]
    rw [this, List.length_append, ih, Nat.succ_mul]
    omega
theorem mul_rep (x : Str) (k : Nat) : Txt.mul x (k : Int) = ofL (rep k x.cps.toList) := by
  have fold : ∀ (k : Nat) (acc : Array Nat), ((List.replicate k x.cps).foldl (· ++ ·) acc) = acc ++ (rep k x.cps.toList).toArray := by
    intro k
    induction k with
    | zero => intro acc; simp [rep]
    | succ k ih =>
      intro acc
      have : rep (k + 1) x.cps.toList = x.cps.toList ++ rep k x.cps.toList := by simp [rep, List.replicate_succ]
      rw [List.replicate_succ, List.foldl_cons, ih, this]
      apply Array.ext'
      simp
  unfold Txt.mul
  by_cases h1 : (k : Int) < 1
  · have hk : k = 0 := by omega
    subst hk
    rfl
  · rw [if_neg h1]
    by_cases h2 : ((k : Int) == 1 || x.length == 0) = true
    · rw [if_pos h2]
      rcases (Bool.or_eq_true _ _).mp h2 with h | h
      · have hk : k = 1 := by
          have := eq_of_beq h
          omega
        subst hk
        simp [rep, ofL]
      · have he : x.cps = #[] := Array.eq_empty_of_size_eq_zero (by simpa [Str.length] using h)
        have hx : x.cps.toList = [] := by rw [he]
        have : rep k x.cps.toList = [] := List.eq_nil_of_length_eq_zero (by rw [rep_len, hx]; simp)
        rw [this]
        exact Str.ext' he
    · rw [if_neg h2, fold]
      simp
end Mine
end

section
open PySem PySem.W PySem.Calls PySem.Spec PyProof.Rows
set_option Elab.async false
set_option maxRecDepth 100000
set_option maxHeartbeats 8000000
set_option linter.unusedVariables false
namespace Mine
theorem roman_start {n : Int} (h1 : 1 ≤ n) (h2 : n ≤ 3999) {m : Str → Option Value} {t u : Tok} (e1 : m (Str.ofString "n") = some (.int n t)) (e2 : m (Str.ofString "numeral") = some (.str (Str.ofString "") u)) :
    ∃ kv, RomanP n.toNat [] kv ∧ Holds m kv := by
  refine ⟨[(Str.ofString "n", .int (n.toNat : Int) t), (Str.ofString "numeral", .str (ofL []) u)], ⟨[], n.toNat, t, u, rfl, romanSt_nil _, by omega, by simp⟩, ?_⟩
  intro p hp
  rcases List.mem_cons.mp hp with rfl | hp
  · rw [e1, Int.toNat_of_nonneg (by omega)]
  · rw [List.mem_singleton.mp hp, e2]
    rw [show Str.ofString "" = ofL [] from by decide +kernel]
theorem roman_turn {n : Nat} {done : List (Value × Value)} {x : List Nat} {k v : Nat} {sg : Str} {tv tu t u : Tok} {m : Str → Option Value} (hs : romanSt n done = (x, k)) (hv : 1 ≤ v) (hk : k ≤ 3999) (hx : x.length ≤ 8000 * done.length) (hg : sg.length ≤ 2)
    (e1 : m (Str.ofString "n") = some (.int ((k : Int).fmod (v : Int)) t)) (e2 : m (Str.ofString "numeral") = some (.str (ofL x ++ Txt.mul sg ((k : Int).fdiv (v : Int))) u)) :
    ∃ kv, RomanP n (done ++ [(.int (v : Int) tv, .str sg tu)]) kv ∧ Holds m kv := by
  have hd : k / v ≤ 3999 := Nat.le_trans (Nat.div_le_self k v) hk
  refine ⟨[(Str.ofString "n", .int ((k % v : Nat) : Int) t), (Str.ofString "numeral", .str (ofL (x ++ rep (k / v) sg.cps.toList)) u)], ⟨_, _, t, u, rfl, ?_, ?_, ?_⟩, ?_⟩
  · rw [romanSt_snoc, hs]
    rfl
  · exact Nat.le_trans (Nat.mod_le k v) hk
  · rw [List.length_append, rep_len, List.length_append, List.length_singleton]
    have hl : sg.cps.toList.length = sg.length := by simp [Str.length]
    have : k / v * sg.cps.toList.length ≤ 3999 * 2 := Nat.mul_le_mul hd (by omega)
    omega
  · intro p hp
    rcases List.mem_cons.mp hp with rfl | hp
    · rw [e1, nat_fmod]
    · rw [List.mem_singleton.mp hp, e2, nat_fdiv, mul_rep, ofL_append]
theorem fdiv_ok {k v : Nat} (hk : k ≤ 3999) : (k : Int).fdiv (v : Int) ≤ ((4000 : Nat) : Int) ∧ -(2 ^ 63 : Int) ≤ (k : Int).fdiv (v : Int) := by
  rw [nat_fdiv]
  have := Nat.div_le_self k v
  generalize k / v = q at *
  omega
theorem mul_short {k v : Nat} {sg : Str} (hk : k ≤ 3999) (hg : sg.length ≤ 2) : (Txt.mul sg ((k : Int).fdiv (v : Int))).length ≤ 8000 := by
  rw [nat_fdiv, mul_rep, ofL_len, rep_len]
  have hl : sg.cps.toList.length = sg.length := by simp [Str.length]
  have := Nat.div_le_self k v
  have : k / v * sg.cps.toList.length ≤ 3999 * 2 := Nat.mul_le_mul (by omega) (by omega)
  omega
structure RomIn (n : Int) : Prop where
  lo : 1 ≤ n
  hi : n ≤ 3999
section
variable {w : World} {A : Around} {E : Value → Shared → Prop} {s : Shared} {env : Env} {h₀ : Heap} {body : List Stmt} {Q : Flow → Shared → Prop} {n1 n2 : Str} {p1 p2 tp : Pos} {kk : Nat} {prog : Program}
theorem roman_iter {n : Int} (hn : RomIn n) {m₀ : Str → Option Value} {t₀ u₀ : Tok} (X : (Mine.hd.heap_39 w.params).In h₀) (F : Fr h₀ env.locals s.heap m₀) (e1 : m₀ (Str.ofString "n") = some (.int n t₀)) (e2 : m₀ (Str.ofString "numeral") = some (.str (Str.ofString "") u₀))
    (hh : A.handled = none) (l1 : env.kindOf n1 = some .local) (l2 : env.kindOf n2 = some .local) (hc : (env.scope.kind == .class || (env.scope.kind == .module && env.locals != env.globals)) = false)
    (turn : ∀ (I : Addr) (x : List Nat) (k v : Nat) (sg : Str) (t u tv tu : Tok) (uu : Str → Option Value) h tk it, k ≤ 3999 → x.length ≤ 96000 → 1 ≤ v → v ≤ 1000 → sg.length ≤ 2 →
      Fr h₀ env.locals h (fun y => if y = n2 then some (.str sg tu) else if y = n1 then some (.int (v : Int) tv) else if y = Str.ofString "n" then some (.int (k : Int) t) else if y = Str.ofString "numeral" then some (.str (ofL x) u) else uu y) → News h₀ env.locals h [(I, it)] →
      wpAny (model prog w) A (execs body env) (TurnEnd h₀ env.locals { s with heap := h, toks := tk } I it (fun m' => ∃ t' u', m' (Str.ofString "n") = some (.int ((k : Int).fmod (v : Int)) t') ∧ m' (Str.ofString "numeral") = some (.str (ofL x ++ Txt.mul sg ((k : Int).fdiv (v : Int))) u')) Q) E { s with heap := h, toks := tk })
    (fin : ∀ (uu : Str → Option Value) k t u h tk, Fr h₀ env.locals h (fun y => if y = Str.ofString "n" then some (.int k t) else if y = Str.ofString "numeral" then some (.str (numS n) u) else uu y) → News h₀ env.locals h [] → Q .next { s with heap := h, toks := tk }) :
    wpAny (model prog w) A (pyIter (.ref 28)) (fun it s₂ => TurnsAt prog w A h₀ env (.Tuple [.Name n1 p1, .Name n2 p2] kk tp) body Q E it s₂) E s := by
  obtain ⟨lo', nn', yk, yc, yd⟩ := num_look w
  obtain ⟨kv', yP, yH⟩ := roman_start hn.lo hn.hi e1 e2
  refine iter_kv (P := RomanP n.toNat) ⟨⟩ kv' (num_tups X) X yk yc yd (by decide) hh l1 l2 hc F yP yH ?_ ?_
  · rintro I done a b kv uu h tk it ⟨rest, hs⟩ ⟨x, k, t, u, rfl, hst, hk, hx⟩ hit F₁ N₁
    obtain ⟨hd, v, tv, sg, tu, rfl, rfl, hv, hv2, _, hg⟩ := num_item hs
    refine wpAny_mono (turn I x k v sg t u tv tu uu h tk it hk (by omega) hv hv2 hg F₁ N₁) (fun f s₂ q => ?_) fun _ _ e => e
    have go : (∃ h' tk' m', s₂ = { s with heap := h', toks := tk' } ∧ Fr h₀ env.locals h' m' ∧ News h₀ env.locals h' [(I, it)] ∧ ∃ t' u', m' (Str.ofString "n") = some (.int ((k : Int).fmod (v : Int)) t') ∧ m' (Str.ofString "numeral") = some (.str (ofL x ++ Txt.mul sg ((k : Int).fdiv (v : Int))) u')) →
        ∃ h' tk' m', s₂ = { s with heap := h', toks := tk' } ∧ Fr h₀ env.locals h' m' ∧ News h₀ env.locals h' [(I, it)] ∧ ∃ kv', RomanP n.toNat (done ++ [(.int (v : Int) tv, .str sg tu)]) kv' ∧ Holds m' kv' := by
      rintro ⟨h', tk', m', e, F', N', t', u', g1, g2⟩
      exact ⟨h', tk', m', e, F', N', roman_turn hst hv hk hx hg g1 g2⟩
    cases f with
    | ret v => exact q
    | brk => exact q
    | next => exact go q
    | cont => exact go q
  · rintro kv uu h tk ⟨x, k, t, u, rfl, hst, hk, hx⟩ F₁ N₁
    have e : x = numeralL n.toNat := by
      have := romanSt_all n.toNat
      rw [hst] at this
      rw [← roman_numeral (by have := hn.hi; omega)]
      exact this
    subst e
    exact fin uu k t u h tk F₁ N₁
end
theorem add_ok {x : List Nat} {k v : Nat} {sg : Str} (hx : x.length ≤ 96000) (hk : k ≤ 3999) (hg : sg.length ≤ 2) : (ofL x).length + (Txt.mul sg ((k : Int).fdiv (v : Int))).length ≤ 16777216 := by
  rw [ofL_len]
  have := mul_short (v := v) hk hg
  omega
section
variable {w : World} {mean : ExcName → Option Value} {mg mb : Str → Option Value}
theorem spec_roman (n : Int) (t : Tok) (hn : RomIn n) : Spec 1 w mean mg mb 84 [.int n t] (IsS (numS n)) := by
  w_top off
  k_with_none
  have hload : PySem.Challenge.rw_sx_yscribe_1.name = PySem.Challenge.rw_sx_yscribe_1.name ∧ Mine.hd.heap_39 w.params = Mine.hd.heap_39 w.params := by
    k_fill
    exact ⟨rfl, rfl⟩
  clear hload
  unfold Spec
  intro dp un gd cn cs a ccd cl outer A₀ base h₀ L m s Q E B F X T hk hdp hun hret
  refine wpAny_call ?_
  k_dflt (refine' code_defG ?k1 ?k2 ?k3 ?k4 ?k5 ?kA ?kF ?kK ?k6 ?k7 ?k8 ?k9 ?kB ?_ ?c2 ?c3 ?c4 ?c5; (case kA => exact rfl); (case kF => exact rfl); (case kK => assumption); (case k1 => k_asm); (case k2 => k_asm); (case k3 => k_asm); (case k4 => exact News.nil); (case k5 => k_asm); (case k6 => k_is); (case k7 => k_is); (case k8 => ktr_room); (case k9 => exact BindsTo.of_eq rfl); (case c5 => decide); (case kB => exact locs rfl); (case c2 => exact rfl); (case c3 => exact rfl); (case c4 => exact rfl); k_whole; intro g' L' h' FG' F' N' B' X' T' G'; (try dsimp only); (try k_fold))
  replace G' := gsub_nil G'
  repeat' (first | (k_unfold; (try dsimp only)) | (k_end; wrow_close) | ((with_reducible show wpAny _ _ (binaryOp PySem.Operator.Add (Value.str _ _) (Value.str _ _)) _ _ _); with_reducible ((refine KOpn.add (add_ok (by assumption) (by assumption) (by assumption)) ?_); intro _ _ _)) | ((with_reducible show wpAny _ _ (binaryOp PySem.Operator.Mult (Value.str _ _) (Value.int _ _)) _ _ _); with_reducible ((refine SB.mul (mulOk_of 2 4000 (by assumption) (fdiv_ok (by assumption)).1 (fdiv_ok (by assumption)).2 (by decide) (by decide)) ?_); intro _ _)) | ((with_reducible show wpAny _ _ (binaryOp PySem.Operator.Mod (Value.int _ _) (Value.int _ _)) _ _ _); with_reducible (refine mod_int' (by omega) ?_)) | ((with_reducible show wpAny _ _ (binaryOp PySem.Operator.FloorDiv (Value.int _ _) (Value.int _ _)) _ _ _); with_reducible (refine floordiv_int (by omega) ?_ (Or.inl (PyProof.noPylong_small (by omega))))) | with_reducible (k_here; (with_reducible show wpAny _ _ (pyIter (Value.ref 28)) (fun it s₂ => TurnsAt _ _ _ _ _ _ _ _ _ it s₂) _ _); (with_unfolding_all refine roman_iter (by with_reducible assumption) (by k_asm) (by k_asm) rfl rfl rfl rfl rfl rfl ?_ ?_); (all_goals intros)) | walk1 | (dsimp only; walk1) | (leave1; walk_say "STEP leave1"; try dsimp only) | fail "no step")
  · exact TurnEnd.next (by k_asm) (by k_asm) (List.Mem.head _) ⟨_, _, rfl, rfl⟩
  · exact ret_str hret G' (by k_asm) rfl
end
end Mine
end

section
open PySem PySem.W PySem.Calls PySem.Spec PyProof.Rows
set_option Elab.async false
set_option maxRecDepth 100000
set_option maxHeartbeats 8000000
set_option linter.unusedVariables false
namespace Mine
theorem fmod_lt (b : Int) {c : Nat} (hc : 0 < c) : 0 ≤ b.fmod (c : Int) ∧ b.fmod (c : Int) < (c : Int) := by
  rw [Int.fmod_eq_emod_of_nonneg _ (by omega)]
  exact ⟨Int.emod_nonneg _ (by omega), Int.emod_lt_of_pos _ (by omega)⟩
/-- a number from 1 to 3999 -/
noncomputable def IsNum : Heap → Value → Heap → Prop := fun _ v _ => ∃ n u, v = .int n u ∧ RomIn n
/-- a text of plain signs, no longer than n -/
noncomputable def IsAsc (n : Nat) : Heap → Value → Heap → Prop := fun _ v _ => ∃ x u, v = .str x u ∧ Asc x ∧ x.length ≤ n
theorem border_ok (b : Int) : RomIn ([1, 3999, 3888, 4, 9, 40, 90, 400, 900, 1000, 3000, 2].getD (b.fmod 12).toNat 0) := by
  have h := fmod_lt b (c := 12) (by decide)
  have hi : (b.fmod 12).toNat < 12 := by
    have h1 : b.fmod 12 < 12 := h.2
    omega
  have all : ∀ i, i < 12 → 1 ≤ ([1, 3999, 3888, 4, 9, 40, 90, 400, 900, 1000, 3000, 2] : List Int).getD i 0 ∧ ([1, 3999, 3888, 4, 9, 40, 90, 400, 900, 1000, 3000, 2] : List Int).getD i 0 ≤ 3999 := by decide
  exact ⟨(all _ hi).1, (all _ hi).2⟩
theorem made_ok (a b c d : Int) : RomIn (if 1000 * a.fmod 4 + 100 * b.fmod 10 + 10 * c.fmod 10 + d.fmod 10 > 1 then 1000 * a.fmod 4 + 100 * b.fmod 10 + 10 * c.fmod 10 + d.fmod 10 else 1) := by
  have h1 : 0 ≤ a.fmod 4 ∧ a.fmod 4 < 4 := fmod_lt a (c := 4) (by decide)
  have h2 : 0 ≤ b.fmod 10 ∧ b.fmod 10 < 10 := fmod_lt b (c := 10) (by decide)
  have h3 : 0 ≤ c.fmod 10 ∧ c.fmod 10 < 10 := fmod_lt c (c := 10) (by decide)
  have h4 : 0 ≤ d.fmod 10 ∧ d.fmod 10 < 10 := fmod_lt d (c := 10) (by decide)
  constructor <;> split <;> omega
section
variable {w : World} {mean : ExcName → Option Value} {mg mb : Str → Option Value}
theorem spec_number (k b x1 x2 x3 x4 : Int) (t1 t2 t3 t4 t5 t6 : Tok) : Spec 1 w mean mg mb 109 [.int k t1, .int b t2, .int x1 t3, .int x2 t4, .int x3 t5, .int x4 t6] IsNum := by
  w_top off
  k_with_none
  have hload : PySem.Challenge.rw_sx_yscribe_1.name = PySem.Challenge.rw_sx_yscribe_1.name ∧ Mine.hd.heap_39 w.params = Mine.hd.heap_39 w.params := by
    k_fill
    exact ⟨rfl, rfl⟩
  clear hload
  unfold Spec
  intro dp un gd cn cs a ccd cl outer A₀ base h₀ L m s Q E B F X T hk hdp hun hret
  refine wpAny_call ?_
  k_dflt (refine' code_defG ?k1 ?k2 ?k3 ?k4 ?k5 ?kA ?kF ?kK ?k6 ?k7 ?k8 ?k9 ?kB ?_ ?c2 ?c3 ?c4 ?c5; (case kA => exact rfl); (case kF => exact rfl); (case kK => assumption); (case k1 => k_asm); (case k2 => k_asm); (case k3 => k_asm); (case k4 => exact News.nil); (case k5 => k_asm); (case k6 => k_is); (case k7 => k_is); (case k8 => ktr_room); (case k9 => exact BindsTo.of_eq rfl); (case c5 => decide); (case kB => exact locs rfl); (case c2 => exact rfl); (case c3 => exact rfl); (case c4 => exact rfl); k_whole; intro g' L' h' FG' F' N' B' X' T' G'; (try dsimp only); (try k_fold))
  replace G' := gsub_nil G'
  k_steps
  all_goals (
    refine ret_any (R := IsNum) hret G' (by k_asm) ?_
    first
      | exact ⟨_, _, rfl, border_ok _⟩
      | exact ⟨_, _, rfl, made_ok _ _ _ _⟩)
theorem spec_stem (k x1 x2 x3 x4 : Int) (t1 t3 t4 t5 t6 : Tok) : Spec 1 w mean mg mb 144 [.int k t1, .int x1 t3, .int x2 t4, .int x3 t5, .int x4 t6] (IsAsc 4) := by
  w_top off
  k_with_none
  k_with "table" => skip
  have hload : PySem.Challenge.rw_sx_yscribe_1.name = PySem.Challenge.rw_sx_yscribe_1.name ∧ Mine.hd.heap_39 w.params = Mine.hd.heap_39 w.params := by
    k_fill
    exact ⟨rfl, rfl⟩
  clear hload
  unfold Spec
  intro dp un gd cn cs a ccd cl outer A₀ base h₀ L m s Q E B F X T hk hdp hun hret
  refine wpAny_call ?_
  k_dflt (refine' code_defG ?k1 ?k2 ?k3 ?k4 ?k5 ?kA ?kF ?kK ?k6 ?k7 ?k8 ?k9 ?kB ?_ ?c2 ?c3 ?c4 ?c5; (case kA => exact rfl); (case kF => exact rfl); (case kK => assumption); (case k1 => k_asm); (case k2 => k_asm); (case k3 => k_asm); (case k4 => exact News.nil); (case k5 => k_asm); (case k6 => k_is); (case k7 => k_is); (case k8 => ktr_room); (case k9 => exact BindsTo.of_eq rfl); (case c5 => decide); (case kB => exact locs rfl); (case c2 => exact rfl); (case c3 => exact rfl); (case c4 => exact rfl); k_whole; intro g' L' h' FG' F' N' B' X' T' G'; (try dsimp only); (try k_fold))
  replace G' := gsub_nil G'
  k_steps
  all_goals (
    refine ret_any (R := IsAsc 4) hret G' (by k_asm) ?_
    exact ⟨_, _, rfl, (stem_ok _ _ _ _ _).1, (stem_ok _ _ _ _ _).2⟩)
end
end Mine
end

section
open PySem PySem.W PySem.Calls PySem.Spec PyProof.Rows
set_option Elab.async false
set_option maxRecDepth 100000
set_option maxHeartbeats 8000000
set_option linter.unusedVariables false
namespace Mine
theorem pick_short : Short 10 (Str.ofString "IVXLCDMvx ") := short_lit (by decide +kernel)
theorem odd_short (i : Nat) : Short 16 ([Str.ofString "", Str.ofString "MMMM", Str.ofString "MMMMI", Str.ofString "IIII", Str.ofString "VV", Str.ofString "IM", Str.ofString "MMMDCCCLXXXVIII", Str.ofString "MMMDCCCLXXXVIIII", Str.ofString "CMCM", Str.ofString "I "].getD i Str.empty) := short_getD (by decide +kernel) i
theorem asc_out {n a : Nat} {x : Str} {t : Tok} {h h' : Heap} (hx : Short a x) (ha : a ≤ n) : IsAsc n h (.str x t) h' := ⟨x, t, rfl, hx.1, Nat.le_trans hx.2 ha⟩
section
variable {w : World} {mean : ExcName → Option Value} {mg mb : Str → Option Value}
theorem spec_damaged (x : Str) (k p q : Int) (t t1 t2 t3 : Tok) (hx : Short 15 x) (h1 : 1 ≤ x.length) (h2 : x.length ≤ 15) : Spec 1 w mean mg mb 137 [.str x t, .int k t1, .int p t2, .int q t3] (IsAsc 60) := by
  w_top off
  k_with_none
  k_with "table" => skip
  have hload : PySem.Challenge.rw_sx_yscribe_1.name = PySem.Challenge.rw_sx_yscribe_1.name ∧ Mine.hd.heap_39 w.params = Mine.hd.heap_39 w.params := by
    k_fill
    exact ⟨rfl, rfl⟩
  clear hload
  unfold Spec
  intro dp un gd cn cs a ccd cl outer A₀ base h₀ L m s Q E B F X T hk hdp hun hret
  refine wpAny_call ?_
  k_dflt (refine' code_defG ?k1 ?k2 ?k3 ?k4 ?k5 ?kA ?kF ?kK ?k6 ?k7 ?k8 ?k9 ?kB ?_ ?c2 ?c3 ?c4 ?c5; (case kA => exact rfl); (case kF => exact rfl); (case kK => assumption); (case k1 => k_asm); (case k2 => k_asm); (case k3 => k_asm); (case k4 => exact News.nil); (case k5 => k_asm); (case k6 => k_is); (case k7 => k_is); (case k8 => ktr_room); (case k9 => exact BindsTo.of_eq rfl); (case c5 => decide); (case kB => exact locs rfl); (case c2 => exact rfl); (case c3 => exact rfl); (case c4 => exact rfl); k_whole; intro g' L' h' FG' F' N' B' X' T' G'; (try dsimp only); (try k_fold))
  replace G' := gsub_nil G'
  have hp := fmod_lt p (c := x.length) (by omega)
  repeat' (first | (k_unfold; (try dsimp only)) | (k_end; wrow_close) | ((with_reducible show wpAny _ _ (binaryOp PySem.Operator.Add (Value.str _ _) (Value.str _ _)) _ _ _); with_reducible (k_dflt (refine KOpn.add (sum_len0 (by repeat' (first | with_reducible exact hx | with_reducible exact pick_short | with_reducible exact odd_short _ | with_reducible apply short_append | with_reducible apply short_slice | with_reducible apply short_item)) (by repeat' (first | with_reducible exact hx | with_reducible exact pick_short | with_reducible exact odd_short _ | with_reducible apply short_append | with_reducible apply short_slice | with_reducible apply short_item)) (by decide)) ?_; intro _ _ f9; clear f9))) | walk1 | (dsimp only; walk1) | (leave1; walk_say "STEP leave1"; try dsimp only) | fail "no step")
  all_goals (
    refine ret_any (R := IsAsc 60) hret G' (by k_asm) ?_
    exact asc_out (by repeat' (first | with_reducible exact hx | with_reducible exact pick_short | with_reducible exact odd_short _ | with_reducible apply short_append | with_reducible apply short_slice | with_reducible apply short_item)) (by decide))
end
end Mine
end

section
open PySem PySem.W PySem.Calls PySem.Spec PyProof.Rows
set_option Elab.async false
set_option maxRecDepth 100000
set_option maxHeartbeats 8000000
set_option linter.unusedVariables false
namespace Mine
/-- a new pair of texts -/
noncomputable def IsPair (a b : Str) : Heap → Value → Heap → Prop := fun h v h' => ∃ D ta tb n, v = .ref D ∧ h.get? D = none ∧ h'.get? D = some { cls := .type "tuple", data := .seq [.str a ta, .str b tb].toArray n }
theorem pair_out {h g h' : Heap} {L' D : Addr} {a b a' b' : Str} {ta tb : Tok} {n : Nat} {all : List (Addr × Obj)} (G : ∀ c o, h.get? c = some o → g.get? c = some o) (N : News g L' h' all) (hm : (D, ({ cls := .type "tuple", data := .seq [.str a' ta, .str b' tb].toArray n } : Obj)) ∈ all) (ea : a' = a) (eb : b' = b) : IsPair a b h (.ref D) h' := by
  subst ea eb
  refine ⟨D, ta, tb, n, rfl, ?_, (N _ hm).1⟩
  cases e : h.get? D with
  | none => rfl
  | some o =>
    have h1 := G _ _ e
    have h2 := (N _ hm).2.2
    rw [h1] at h2
    cases h2
/-- cut at the last dot -/
noncomputable def cutS (x : Str) : Str × Str := if ((Txt.rpartition x (Str.ofString ".")).2.1 == Str.ofString "") = true then (x, Str.ofString "") else ((Txt.rpartition x (Str.ofString ".")).1, (Txt.rpartition x (Str.ofString ".")).2.2)
theorem cutS_yes {x : Str} (h : ((Txt.rpartition x (Str.ofString ".")).2.1 == Str.ofString "") = true) : cutS x = (x, Str.ofString "") := if_pos h
theorem cutS_no {x : Str} (h : ((Txt.rpartition x (Str.ofString ".")).2.1 == Str.ofString "") = false) : cutS x = ((Txt.rpartition x (Str.ofString ".")).1, (Txt.rpartition x (Str.ofString ".")).2.2) := if_neg (by rw [h]; exact Bool.false_ne_true)
section
variable {w : World} {mean : ExcName → Option Value} {mg mb : Str → Option Value}
theorem spec_stem_end (x : Str) (t : Tok) (h2 : x.length ≤ 100000) : Spec 1 w mean mg mb 56 [.str x t] (IsPair (cutS x).1 (cutS x).2) := by
  w_top off
  k_with_none
  have hload : PySem.Challenge.rw_sx_yscribe_1.name = PySem.Challenge.rw_sx_yscribe_1.name ∧ Mine.hd.heap_39 w.params = Mine.hd.heap_39 w.params := by
    k_fill
    exact ⟨rfl, rfl⟩
  clear hload
  unfold Spec
  intro dp un gd cn cs a ccd cl outer A₀ base h₀ L m s Q E B F X T hk hdp hun hret
  refine wpAny_call ?_
  k_dflt (refine' code_defG ?k1 ?k2 ?k3 ?k4 ?k5 ?kA ?kF ?kK ?k6 ?k7 ?k8 ?k9 ?kB ?_ ?c2 ?c3 ?c4 ?c5; (case kA => exact rfl); (case kF => exact rfl); (case kK => assumption); (case k1 => k_asm); (case k2 => k_asm); (case k3 => k_asm); (case k4 => exact News.nil); (case k5 => k_asm); (case k6 => k_is); (case k7 => k_is); (case k8 => ktr_room); (case k9 => exact BindsTo.of_eq rfl); (case c5 => decide); (case kB => exact locs rfl); (case c2 => exact rfl); (case c3 => exact rfl); (case c4 => exact rfl); k_whole; intro g' L' h' FG' F' N' B' X' T' G'; (try dsimp only); (try k_fold))
  replace G' := gsub_nil G'
  k_steps
  · exact ret_any (R := IsPair (cutS x).1 (cutS x).2) hret G' (by k_asm) (pair_out G' (by with_reducible assumption) (List.Mem.head _) (by rw [cutS_yes (by with_reducible assumption)]) (by rw [cutS_yes (by with_reducible assumption)]))
  · exact ret_any (R := IsPair (cutS x).1 (cutS x).2) hret G' (by k_asm) (pair_out G' (by with_reducible assumption) (List.Mem.head _) (by rw [cutS_no (by with_reducible assumption)]) (by rw [cutS_no (by with_reducible assumption)]))
end
end Mine
end

section
open PySem PySem.W PySem.Calls PySem.Spec PyProof.Rows
set_option Elab.async false
set_option maxRecDepth 100000
set_option maxHeartbeats 8000000
set_option linter.unusedVariables false
namespace Mine
section
variable {prog : Program} {w : World} {A : Around} {E : Value → Shared → Prop} {s : Shared} {env : Env} {h₀ : Heap} {v : Str} {body : List Stmt} {Q : Flow → Shared → Prop}
theorem sealed_iter {x : Str} {k : Nat} {t₀ t1 t2 : Tok} {m₀ : Str → Option Value} {news : List (Addr × Obj)} (hx : Short 200 x) (hk : k < 26) (e1 : m₀ (Str.ofString "out") = some (.str (Str.ofString "") t1)) (e2 : m₀ (Str.ofString "k") = some (.int (k : Int) t2))
    (hh : A.handled = none) (F : Fr h₀ env.locals s.heap m₀) (N : News h₀ env.locals s.heap news)
    (turn : ∀ (I : Addr) (y : List Nat) (c : Nat) (t t1 t2 : Tok) (u : Str → Option Value) h tk it, c < 128 → y.length ≤ 200 → (∀ p ∈ news, p.1 < I) →
      Fr h₀ env.locals h (fun z => if z = v then some (.str (ofL [c]) t) else if z = Str.ofString "out" then some (.str (ofL y) t1) else if z = Str.ofString "k" then some (.int (k : Int) t2) else u z) → News h₀ env.locals h ((I, it) :: news) →
      wpAny (model prog w) A (execs body env) (TurnEndL h₀ env.locals { s with heap := h, toks := tk } ((I, it) :: news) (fun m' => ∃ t1' t2', m' (Str.ofString "out") = some (.str (ofL (y ++ [sealC k c])) t1') ∧ m' (Str.ofString "k") = some (.int (k : Int) t2')) Q) E { s with heap := h, toks := tk })
    (fin : ∀ (t1 t2 : Tok) (u : Str → Option Value) h tk, Fr h₀ env.locals h (fun z => if z = Str.ofString "out" then some (.str (mapS (sealC k) x) t1) else if z = Str.ofString "k" then some (.int (k : Int) t2) else u z) → News h₀ env.locals h news → Q .next { s with heap := h, toks := tk }) :
    wpAny (model prog w) A (pyIter (.str x t₀)) (fun it s₂ => LoopAtV prog w A h₀ env v body Q E it s₂) E s := by
  have hl : x.cps.toList.length = x.length := by simp [Str.length]
  refine str_kv (kv₀ := [(Str.ofString "out", .str (ofL []) t1), (Str.ofString "k", .int (k : Int) t2)]) (fun done kv => ∃ t1 t2, kv = [(Str.ofString "out", .str (ofL (done.map (sealC k))) t1), (Str.ofString "k", .int (k : Int) t2)]) hh F N ⟨t1, t2, rfl⟩ ?_ ?_ ?_
  · intro p hp
    rcases List.mem_cons.mp hp with rfl | hp
    · rw [e1, show Str.ofString "" = ofL [] from by decide +kernel]
    · rw [List.mem_singleton.mp hp]; exact e2
  · rintro I done c t kv u h tk it ⟨rest, hs⟩ ⟨t1, t2, rfl⟩ hI F' N'
    have hc : c < 128 := hx.1 c (by rw [hs]; simp)
    have hlen : (done.map (sealC k)).length ≤ 200 := by
      have := congrArg List.length hs
      rw [hl, List.length_append] at this
      have := hx.2
      rw [List.length_map]
      omega
    refine wpAny_mono (turn I (done.map (sealC k)) c t t1 t2 u h tk it hc hlen hI F' N') (fun f s₂ q => ?_) fun _ _ e => e
    have go : (∃ h' tk' m', s₂ = { s with heap := h', toks := tk' } ∧ Fr h₀ env.locals h' m' ∧ News h₀ env.locals h' ((I, it) :: news) ∧ ∃ t1' t2', m' (Str.ofString "out") = some (.str (ofL (done.map (sealC k) ++ [sealC k c])) t1') ∧ m' (Str.ofString "k") = some (.int (k : Int) t2')) →
        ∃ h' tk' m', s₂ = { s with heap := h', toks := tk' } ∧ Fr h₀ env.locals h' m' ∧ News h₀ env.locals h' ((I, it) :: news) ∧ ∃ kv', (∃ t1 t2, kv' = [(Str.ofString "out", .str (ofL ((done ++ [c]).map (sealC k))) t1), (Str.ofString "k", .int (k : Int) t2)]) ∧ Holds m' kv' := by
      rintro ⟨h', tk', m', e, F'', N'', t1', t2', g2, g3⟩
      refine ⟨h', tk', m', e, F'', N'', _, ⟨t1', t2', rfl⟩, ?_⟩
      intro p hp
      rcases List.mem_cons.mp hp with rfl | hp
      · rw [g2, List.map_append]; rfl
      · rw [List.mem_singleton.mp hp]; exact g3
    cases f with
    | ret v => exact q
    | brk => exact q
    | next => exact go q
    | cont => exact go q
  · rintro kv u h tk ⟨t1, t2, rfl⟩ F' N'
    exact fin t1 t2 u h tk F' N'
end
theorem fm26 (a m : Nat) : ((a : Int) + ((m : Nat) : Int).fmod 26).toNat = a + m % 26 := by
  rw [show (26 : Int) = ((26 : Nat) : Int) from rfl, Int.fmod_eq_emod_of_nonneg _ (Int.natCast_nonneg _), ← Int.natCast_emod, ← Int.natCast_add, Int.toNat_natCast]
theorem less_of {c k a : Nat} (h : a ≤ c) : (c : Int) - (a : Int) + (k : Int) = ((c - a + k : Nat) : Int) := by
  rw [Int.natCast_add, Int.natCast_sub h]
theorem seal_cap {y : List Nat} {c k : Nat} (h1 : 65 ≤ c) (h2 : c ≤ 90) : ofL y ++ (⟨#[(97 + ((c : Int) - 65 + (k : Int)).fmod 26).toNat]⟩ : Str) = ofL (y ++ [sealC k c]) := by
  have e : (97 + ((c : Int) - 65 + (k : Int)).fmod 26).toNat = sealC k c := by
    unfold sealC
    rw [if_pos ⟨h1, h2⟩]
    exact (congrArg (fun z : Int => (97 + z.fmod 26).toNat) (less_of h1)).trans (fm26 97 _)
  rw [e, ← ofL_append]
theorem seal_low {y : List Nat} {c k : Nat} (h1 : 97 ≤ c) (h2 : c ≤ 122) : ofL y ++ (⟨#[(65 + ((c : Int) - 97 + (k : Int)).fmod 26).toNat]⟩ : Str) = ofL (y ++ [sealC k c]) := by
  have e : (65 + ((c : Int) - 97 + (k : Int)).fmod 26).toNat = sealC k c := by
    unfold sealC
    rw [if_neg (fun h => absurd (Nat.le_trans h1 h.2) (by decide)), if_pos ⟨h1, h2⟩]
    exact (congrArg (fun z : Int => (65 + z.fmod 26).toNat) (less_of h1)).trans (fm26 65 _)
  rw [e, ← ofL_append]
theorem seal_else {y : List Nat} {c k : Nat} (h1 : ¬ (65 ≤ c ∧ c ≤ 90)) (h2 : ¬ (97 ≤ c ∧ c ≤ 122)) : ofL y ++ ofL [c] = ofL (y ++ [sealC k c]) := by
  have e : sealC k c = c := by
    unfold sealC
    rw [if_neg h1, if_neg h2]
  rw [e, ofL_append]
theorem in65 {c : Nat} (h : (65 : Int) ≤ (c : Int)) : 65 ≤ c := by omega
theorem in90 {c : Nat} (h : (c : Int) ≤ 90) : c ≤ 90 := by omega
theorem in97 {c : Nat} (h : (97 : Int) ≤ (c : Int)) : 97 ≤ c := by omega
theorem in122 {c : Nat} (h : (c : Int) ≤ 122) : c ≤ 122 := by omega
theorem no65 {c : Nat} (h : ¬ (65 : Int) ≤ (c : Int)) : ¬ (65 ≤ c ∧ c ≤ 90) := by omega
theorem no90 {c : Nat} (h : ¬ (c : Int) ≤ 90) : ¬ (65 ≤ c ∧ c ≤ 90) := by omega
theorem no97 {c : Nat} (h : ¬ (97 : Int) ≤ (c : Int)) : ¬ (97 ≤ c ∧ c ≤ 122) := by omega
theorem no122 {c : Nat} (h : ¬ (c : Int) ≤ 122) : ¬ (97 ≤ c ∧ c ≤ 122) := by omega
theorem seal_out {m' : Str → Option Value} {Z W : Str} {k : Nat} {t1 t2 : Tok} (e1 : m' (Str.ofString "out") = some (.str Z t1)) (e2 : m' (Str.ofString "k") = some (.int (k : Int) t2)) (hz : Z = W) :
    ∃ t1' t2', m' (Str.ofString "out") = some (.str W t1') ∧ m' (Str.ofString "k") = some (.int (k : Int) t2') := ⟨t1, t2, by rw [e1, hz], e2⟩
section
section
variable {w : World} {mean : ExcName → Option Value} {mg mb : Str → Option Value}
theorem spec_sealed (x : Str) (k : Nat) (t t2 : Tok) (hx : Short 200 x) (hk : k < 26) : Spec 1 w mean mg mb 151 [.str x t, .int (k : Int) t2] (IsS (mapS (sealC k) x)) := by
  w_top off
  k_with_none
  have hload : PySem.Challenge.rw_sx_yscribe_1.name = PySem.Challenge.rw_sx_yscribe_1.name ∧ Mine.hd.heap_39 w.params = Mine.hd.heap_39 w.params := by
    k_fill
    exact ⟨rfl, rfl⟩
  clear hload
  unfold Spec
  intro dp un gd cn cs a ccd cl outer A₀ base h₀ L m s Q E B F X T hk hdp hun hret
  refine wpAny_call ?_
  k_dflt (refine' code_defG ?k1 ?k2 ?k3 ?k4 ?k5 ?kA ?kF ?kK ?k6 ?k7 ?k8 ?k9 ?kB ?_ ?c2 ?c3 ?c4 ?c5; (case kA => exact rfl); (case kF => exact rfl); (case kK => assumption); (case k1 => k_asm); (case k2 => k_asm); (case k3 => k_asm); (case k4 => exact News.nil); (case k5 => k_asm); (case k6 => k_is); (case k7 => k_is); (case k8 => ktr_room); (case k9 => exact BindsTo.of_eq rfl); (case c5 => decide); (case kB => exact locs rfl); (case c2 => exact rfl); (case c3 => exact rfl); (case c4 => exact rfl); k_whole; intro g' L' h' FG' F' N' B' X' T' G'; (try dsimp only); (try k_fold))
  replace G' := gsub_nil G'
  repeat' (first | (k_unfold; (try dsimp only)) | (k_end; wrow_close) | with_reducible (k_here; (with_reducible show wpAny _ _ (pyIter (Value.str _ _)) (fun it s₂ => LoopAtV _ _ _ _ _ _ _ _ _ it s₂) _ _); (with_unfolding_all refine sealed_iter (by with_reducible assumption) (by with_reducible assumption) rfl rfl rfl (by k_asm) (by k_asm) ?_ ?_); (all_goals intros)) | ((with_reducible show wpAny _ _ (exec (PySem.Stmt.For _ _ _ _ _) _) _ _ _); with_reducible (k_here; (rename Fr _ _ _ _ => lF'); (with_unfolding_all refine' For_invVF lF' ?k1 ?k2 ?_; (case k1 => exact rfl); (case k2 => exact rfl); k_whole))) | walk1 | (dsimp only; walk1) | (leave1; walk_say "STEP leave1"; try dsimp only) | fail "no step")
  all_goals first
    | exact ret_str hret G' (by k_asm) rfl
    | (refine TurnEndL.next (by k_asm) (by k_asm) (fun _ h => h) (seal_out rfl rfl ?_)
       first
         | exact seal_cap (in65 (by with_reducible assumption)) (in90 (by with_reducible assumption))
         | exact seal_low (in97 (by with_reducible assumption)) (in122 (by with_reducible assumption))
         | exact seal_else (by first | exact no65 (by with_reducible assumption) | exact no90 (by with_reducible assumption)) (by first | exact no97 (by with_reducible assumption) | exact no122 (by with_reducible assumption))
         | exact seal_cap (by omega) (by omega)
         | exact seal_low (by omega) (by omega)
         | exact seal_else (by omega) (by omega))
end
end
end Mine
end

section
open PySem PySem.W PySem.Calls PySem.Spec PyProof.Rows
set_option Elab.async false
set_option maxRecDepth 100000
set_option maxHeartbeats 8000000
set_option linter.unusedVariables false
namespace Mine
theorem item_at {x : Str} {i : Nat} (h : i < x.length) : ∃ c, x.cps.toList[i]? = some c ∧ Txt.item x (i : Int) = ofL [c] := by
  have hl : x.cps.toList.length = x.length := by simp [Str.length]
  have hi : x.cps.toList[i]? = some x.cps.toList[i] := List.getElem?_eq_getElem (by omega)
  refine ⟨x.cps.toList[i], hi, ?_⟩
  unfold Txt.item Txt.charAt
  rw [PySem.StrLaws.at_nonneg (n := x.cps.toList[i]) (by omega) (by rw [Int.toNat_natCast, ← Array.getElem?_toList]; exact hi)]
  rfl
theorem dot_yes {x : Str} {i : Nat} (h : i < x.length) (e : (Txt.item x (i : Int) == Str.ofString ".") = true) : x.cps.toList[i]? = some 46 := by
  obtain ⟨c, hc, he⟩ := item_at h
  have := eq_of_beq e
  rw [he, dot_is] at this
  have := ofL_inj this
  rw [hc]
  simpa using this
theorem dot_no {x : Str} {i : Nat} (h : i < x.length) (e : (Txt.item x (i : Int) == Str.ofString ".") = false) : x.cps.toList[i]? ≠ some 46 := by
  obtain ⟨c, hc, he⟩ := item_at h
  have := ne_of_beq_false e
  rw [he, dot_is] at this
  rw [hc]
  intro h'
  exact this (by rw [Option.some.inj h'])
theorem cut_end_yes {x : Str} {last : Int} (h : LastIs x.cps.toList x.length last) (e : last = -1) : cutS x = (x, Str.ofString "") := by
  subst e
  apply cutS_yes
  rw [dot_is, cut_none h]
  show (Str.empty == Str.ofString "") = true
  decide +kernel
theorem cut_end_no {x : Str} {last : Int} (h : LastIs x.cps.toList x.length last) (e : last ≠ -1) : cutS x = (Txt.slice x none (some last), Txt.slice x (some (last + 1)) none) := by
  have hb := h.bounds
  have hr := cut_some h e
  rw [cutS_no (by rw [dot_is, hr]; show (dot == Str.ofString "") = false; decide +kernel), dot_is, hr, tslice_to x (by omega), tslice_from x (by omega)]
section
variable {prog : Program} {w : World} {A : Around} {E : Value → Shared → Prop} {s : Shared} {env : Env} {h₀ : Heap} {v : Str} {body : List Stmt} {Q : Flow → Shared → Prop}
theorem cut_iter {x : Str} {r : Addr} {t₀ u₀ v₀ t1 t2 : Tok} {m₀ : Str → Option Value} {news : List (Addr × Obj)} (hx : x.length ≤ 100000) (e2 : m₀ (Str.ofString "name") = some (.str x t2)) (e1 : m₀ (Str.ofString "last") = some (.int (-1) t1))
    (hh : A.handled = none) (hr : IsRange s.heap r 0 (x.length : Int) 1 t₀ u₀ v₀) (F : Fr h₀ env.locals s.heap m₀) (N : News h₀ env.locals s.heap news)
    (turn : ∀ (I : Addr) (i : Nat) (last : Int) (t t1 t2 : Tok) (u : Str → Option Value) h tk it, i < x.length → LastIs x.cps.toList i last → (∀ p ∈ news, p.1 < I) →
      Fr h₀ env.locals h (fun y => if y = v then some (.int (i : Int) t) else if y = Str.ofString "last" then some (.int last t1) else if y = Str.ofString "name" then some (.str x t2) else u y) → News h₀ env.locals h ((I, it) :: news) →
      wpAny (model prog w) A (execs body env) (TurnEndL h₀ env.locals { s with heap := h, toks := tk } ((I, it) :: news) (fun m' => ∃ last' t1' t2', LastIs x.cps.toList (i + 1) last' ∧ m' (Str.ofString "last") = some (.int last' t1') ∧ m' (Str.ofString "name") = some (.str x t2')) Q) E { s with heap := h, toks := tk })
    (fin : ∀ (last : Int) (t1 t2 : Tok) (u : Str → Option Value) h tk, LastIs x.cps.toList x.length last → Fr h₀ env.locals h (fun y => if y = Str.ofString "last" then some (.int last t1) else if y = Str.ofString "name" then some (.str x t2) else u y) → News h₀ env.locals h news → Q .next { s with heap := h, toks := tk }) :
    wpAny (model prog w) A (pyIter (.ref r)) (fun it s₂ => LoopAtV prog w A h₀ env v body Q E it s₂) E s := by
  refine range_kv (kv₀ := [(Str.ofString "last", .int (-1) t1), (Str.ofString "name", .str x t2)]) (fun i kv => ∃ last t1 t2, kv = [(Str.ofString "last", .int last t1), (Str.ofString "name", .str x t2)] ∧ LastIs x.cps.toList i last) (by omega) hh hr F N ⟨-1, t1, t2, rfl, LastIs.start _⟩ ?_ ?_ ?_
  · intro p hp
    rcases List.mem_cons.mp hp with rfl | hp
    · exact e1
    · rw [List.mem_singleton.mp hp]; exact e2
  · rintro I i t kv u h tk it hi ⟨last, t1, t2, rfl, hl⟩ hI F' N'
    refine wpAny_mono (turn I i last t t1 t2 u h tk it hi hl hI F' N') (fun f s₂ q => ?_) fun _ _ e => e
    have go : (∃ h' tk' m', s₂ = { s with heap := h', toks := tk' } ∧ Fr h₀ env.locals h' m' ∧ News h₀ env.locals h' ((I, it) :: news) ∧ ∃ last' t1' t2', LastIs x.cps.toList (i + 1) last' ∧ m' (Str.ofString "last") = some (.int last' t1') ∧ m' (Str.ofString "name") = some (.str x t2')) →
        ∃ h' tk' m', s₂ = { s with heap := h', toks := tk' } ∧ Fr h₀ env.locals h' m' ∧ News h₀ env.locals h' ((I, it) :: news) ∧ ∃ kv', (∃ last t1 t2, kv' = [(Str.ofString "last", .int last t1), (Str.ofString "name", .str x t2)] ∧ LastIs x.cps.toList (i + 1) last) ∧ Holds m' kv' := by
      rintro ⟨h', tk', m', e, F'', N'', last', t1', t2', g1, g2, g3⟩
      refine ⟨h', tk', m', e, F'', N'', _, ⟨last', t1', t2', rfl, g1⟩, ?_⟩
      intro p hp
      rcases List.mem_cons.mp hp with rfl | hp
      · exact g2
      · rw [List.mem_singleton.mp hp]; exact g3
    cases f with
    | ret v => exact q
    | brk => exact q
    | next => exact go q
    | cont => exact go q
  · rintro kv u h tk ⟨last, t1, t2, rfl, hl⟩ F' N'
    exact fin last t1 t2 u h tk hl F' N'
end
section
section
variable {w : World} {mean : ExcName → Option Value} {mg mb : Str → Option Value}
theorem spec_cut (x : Str) (t : Tok) (h2 : x.length ≤ 100000) : Spec 1 w mean mg mb 165 [.str x t] (IsPair (cutS x).1 (cutS x).2) := by
  w_top off
  k_with_none
  have hload : PySem.Challenge.rw_sx_yscribe_1.name = PySem.Challenge.rw_sx_yscribe_1.name ∧ Mine.hd.heap_39 w.params = Mine.hd.heap_39 w.params := by
    k_fill
    exact ⟨rfl, rfl⟩
  clear hload
  unfold Spec
  intro dp un gd cn cs a ccd cl outer A₀ base h₀ L m s Q E B F X T hk hdp hun hret
  refine wpAny_call ?_
  k_dflt (refine' code_defG ?k1 ?k2 ?k3 ?k4 ?k5 ?kA ?kF ?kK ?k6 ?k7 ?k8 ?k9 ?kB ?_ ?c2 ?c3 ?c4 ?c5; (case kA => exact rfl); (case kF => exact rfl); (case kK => assumption); (case k1 => k_asm); (case k2 => k_asm); (case k3 => k_asm); (case k4 => exact News.nil); (case k5 => k_asm); (case k6 => k_is); (case k7 => k_is); (case k8 => ktr_room); (case k9 => exact BindsTo.of_eq rfl); (case c5 => decide); (case kB => exact locs rfl); (case c2 => exact rfl); (case c3 => exact rfl); (case c4 => exact rfl); k_whole; intro g' L' h' FG' F' N' B' X' T' G'; (try dsimp only); (try k_fold))
  replace G' := gsub_nil G'
  repeat' (first | (k_unfold; (try dsimp only)) | (k_end; wrow_close) | with_reducible (k_here; (with_reducible show wpAny _ _ (pyIter (Value.ref _)) (fun it s₂ => LoopAtV _ _ _ _ _ _ _ _ _ it s₂) _ _); (with_unfolding_all refine cut_iter (by with_reducible assumption) rfl rfl rfl (by with_reducible assumption) (by k_asm) (by k_asm) ?_ ?_); (all_goals intros)) | walk1 | (dsimp only; walk1) | (leave1; walk_say "STEP leave1"; try dsimp only) | fail "no step")
  · exact TurnEndL.next (by k_asm) (by k_asm) (fun _ h => h) ⟨_, _, _, LastIs.hit (by with_reducible assumption) (dot_yes (by with_reducible assumption) (by with_reducible assumption)), rfl, rfl⟩
  · exact TurnEndL.next (by k_asm) (by k_asm) (fun _ h => h) ⟨_, _, _, LastIs.miss (by with_reducible assumption) (dot_no (by with_reducible assumption) (by with_reducible assumption)), rfl, rfl⟩
  · exact ret_any (R := IsPair (cutS x).1 (cutS x).2) hret G' (by k_asm) (pair_out G' (by with_reducible assumption) (List.Mem.head _) (by rw [cut_end_yes (by with_reducible assumption) (by with_reducible assumption)]) (by rw [cut_end_yes (by with_reducible assumption) (by with_reducible assumption)]))
  · exact ret_any (R := IsPair (cutS x).1 (cutS x).2) hret G' (by k_asm) (pair_out G' (by with_reducible assumption) (List.Mem.head _) (by rw [cut_end_no (by with_reducible assumption) (by with_reducible assumption)]) (by rw [cut_end_no (by with_reducible assumption) (by with_reducible assumption)]))
end
end
end Mine
end

section
open PySem PySem.W PySem.Calls PySem.Spec PyProof.Rows
set_option Elab.async false
set_option maxRecDepth 100000
set_option maxHeartbeats 8000000
set_option linter.unusedVariables false
namespace Mine
section
variable {prog : Program} {w : World} {A : Around} {E : Value → Shared → Prop} {s : Shared} {K : Frag} {h₀ : Heap} {L : Addr} {m : Str → Option Value} {news : List (Addr × Obj)}
theorem getm_make {pl : Sem Bool} {Q : Value × List Value → Shared → Prop} (F : Fr h₀ L s.heap m) (X₀ : K.In h₀)
    (e : findCls K (.type "str") (.type "type") (Str.ofString "maketrans") = some (.val (.builtin "str.maketrans")))
    (h : Q (.builtin "str.maketrans", []) { s with toks := s.toks + 1 }) :
    wpAny (model prog w) A (getMethod (.type "str") (Str.ofString "maketrans") pl) Q E s := by
  have X := X₀.keeps F.keep
  have hstub : opaqueClassAbove (.type "str") = pure none := by unfold opaqueClassAbove; dsimp only; rw [show Manifest.isStub "str" = false by decide +kernel]; rfl
  have ht : typeOf (.type "str") = pure (.type "type") := by first | rfl | kernel_rfl
  have L0 : Looks (model prog w) s.heap (typeOf (.type "str")) (.type "type") := Looks.of_pure ht
  have hg : findIn K (.type "type") "__getattribute__" = some (some (.builtin "type.__getattribute__")) := type_tga
  unfold getMethod specialOf
  refine wpAny_bind (wpAny_bind (L0.here ((looks_findIn X hg).here ?_)))
  dsimp only
  rw [if_pos canon_tga]
  refine wpAny_bind (wpAny_mono (Q := fun v => Q (v, [])) (E := E) ?_ (fun _ _ z => wpAny_pure z) fun _ _ z => z)
  have LO : Looks (model prog w) s.heap (opaqueClassAbove (.type "str")) none := Looks.of_pure hstub
  refine cls_open X LO L0 hg (looks_hook X (r := none) (by rfl)) (by show subIn K _ _ = _; rfl) e ?_
  exact wpAny_pure (by show wpAny _ _ (handedOut (.builtin "str.maketrans")) _ _ _; rw [handedOut_of (by decide +kernel)]; exact wpAny_pure h)
theorem table_text {k : Nat} (hk : k < 26) : Txt.slice (Str.ofString "abcdefghijklmnopqrstuvwxyz") (some (k : Int)) none ++ Txt.slice (Str.ofString "abcdefghijklmnopqrstuvwxyz") none (some (k : Int)) ++
    (Txt.slice (Str.ofString "ABCDEFGHIJKLMNOPQRSTUVWXYZ") (some (k : Int)) none ++ Txt.slice (Str.ofString "ABCDEFGHIJKLMNOPQRSTUVWXYZ") none (some (k : Int))) = ofL (turned k) := by
  rw [small_is, cap_is, tslice_from _ (by omega), tslice_to _ (by omega), tslice_from _ (by omega), tslice_to _ (by omega), ofL_append, ofL_append, ofL_append, Int.toNat_natCast]
  rfl
theorem shift_make {k : Nat} {t u : Tok} {Q : Value → Shared → Prop} (hk : k < 26) (hbig : sysModules < h₀.objs.size) (F : Fr h₀ L s.heap m) (N : News h₀ L s.heap news)
    (h : ∀ d kvs o h' tk, (d == sysModules) = false → Tab kvs (smallPs k ++ capPs k) → h'.DictOf (intKind prog w) d kvs → s.heap.get? d = none → (∀ b o, s.heap.get? b = some o → h'.get? b = some o) → Fr h₀ L h' m → News h₀ L h' ((d, o) :: news) → (∀ p ∈ news, p.1 < d) → Q (.ref d) { s with heap := h', toks := tk }) :
    wpAny (model prog w) A (call (.builtin "str.maketrans") [.str (Str.ofString "abcdefghijklmnopqrstuvwxyz" ++ Str.ofString "ABCDEFGHIJKLMNOPQRSTUVWXYZ") t,
      .str (Txt.slice (Str.ofString "abcdefghijklmnopqrstuvwxyz") (some (k : Int)) none ++ Txt.slice (Str.ofString "abcdefghijklmnopqrstuvwxyz") none (some (k : Int)) ++
        (Txt.slice (Str.ofString "ABCDEFGHIJKLMNOPQRSTUVWXYZ") (some (k : Int)) none ++ Txt.slice (Str.ofString "ABCDEFGHIJKLMNOPQRSTUVWXYZ") none (some (k : Int)))) u]) Q E s := by
  rw [table_text hk, small_is, cap_is, ofL_append]
  refine maketrans ?_ ?_ letters_nodup fun kvs h' tk ht hd hkeep => ?_
  · rw [ofL_len, ofL_len, turned_len]
    decide
  · rw [ofL_len]
    decide
  · rw [pairs_table k hk] at ht
    obtain ⟨o, ho, hdo⟩ := Heap.dictOf_iff.mp hd
    have hnew : s.heap.get? s.heap.objs.size = none := by
      cases e : s.heap.get? s.heap.objs.size with
      | none => rfl
      | some o => exact absurd (Heap.lt_size e) (Nat.lt_irrefl _)
    refine h _ kvs o h' tk (F.notModules hbig) ht hd hnew hkeep (F.keeps hkeep) (fun p hp => ?_) fun p hp => Heap.lt_size (N p hp).1
    rcases List.mem_cons.mp hp with rfl | hp
    · exact ⟨ho, Nat.ne_of_gt F.ns.lt, next_is_new F⟩
    · exact N.grown hkeep p hp
end
/-- a new table of a shift -/
noncomputable def IsTable (w : World) (k : Nat) : Heap → Value → Heap → Prop := fun h v h' => ∃ D kvs, v = .ref D ∧ h.get? D = none ∧ (D == sysModules) = false ∧ Tab kvs (smallPs k ++ capPs k) ∧ h'.DictOf (intKind PySem.Challenge.rw_sx_yscribe_1.row.prog w) D kvs
theorem table_out {w : World} {k : Nat} {h g h' : Heap} {L' D : Addr} {o : Obj} {all : List (Addr × Obj)} {kvs : List (Int × Value)} (G : ∀ c o, h.get? c = some o → g.get? c = some o) (N : News g L' h' ((D, o) :: all)) (hm : (D == sysModules) = false) (ht : Tab kvs (smallPs k ++ capPs k)) (hd : h'.DictOf (intKind PySem.Challenge.rw_sx_yscribe_1.row.prog w) D kvs) : IsTable w k h (.ref D) h' := by
  refine ⟨D, kvs, rfl, ?_, hm, ht, hd⟩
  cases e : h.get? D with
  | none => rfl
  | some o =>
    have h1 := G _ _ e
    have h2 := (N _ (List.Mem.head _)).2.2
    rw [h1] at h2
    cases h2
section
section
variable {w : World} {mean : ExcName → Option Value} {mg mb : Str → Option Value}
theorem spec_shift_table (k : Nat) (t : Tok) (h2 : k < 26) : Spec 1 w mean mg mb 70 [.int (k : Int) t] (IsTable w k) := by
  w_top off
  k_with_none
  have hload : PySem.Challenge.rw_sx_yscribe_1.name = PySem.Challenge.rw_sx_yscribe_1.name ∧ Mine.hd.heap_39 w.params = Mine.hd.heap_39 w.params := by
    k_fill
    exact ⟨rfl, rfl⟩
  clear hload
  unfold Spec
  intro dp un gd cn cs a ccd cl outer A₀ base h₀ L m s Q E B F X T hk hdp hun hret
  refine wpAny_call ?_
  k_dflt (refine' code_defG ?k1 ?k2 ?k3 ?k4 ?k5 ?kA ?kF ?kK ?k6 ?k7 ?k8 ?k9 ?kB ?_ ?c2 ?c3 ?c4 ?c5; (case kA => exact rfl); (case kF => exact rfl); (case kK => assumption); (case k1 => k_asm); (case k2 => k_asm); (case k3 => k_asm); (case k4 => exact News.nil); (case k5 => k_asm); (case k6 => k_is); (case k7 => k_is); (case k8 => ktr_room); (case k9 => exact BindsTo.of_eq rfl); (case c5 => decide); (case kB => exact locs rfl); (case c2 => exact rfl); (case c3 => exact rfl); (case c4 => exact rfl); k_whole; intro g' L' h' FG' F' N' B' X' T' G'; (try dsimp only); (try k_fold))
  replace G' := gsub_nil G'
  repeat' (first | (k_unfold; (try dsimp only)) | (k_end; wrow_close) | ((with_reducible show wpAny _ _ (getMethod _ _ _) _ _ _); with_reducible (k_here; (with_reducible show wpAny _ _ (getMethod (Value.type "str") (PySem.Str.ofString "maketrans") _) _ _ _); k_dflt (refine getm_make (by k_asm) (by k_asm) (by k_is) ?_))) | with_reducible (k_here; (with_reducible refine shift_make (by assumption) (modules_low (Top.nolimit (by k_asm))) (by k_asm) (by k_asm) ?_); intro d' kvs' o' h' tk' hm' ht' hd' hn' hk' F' N' l1; (try k_sweep)) | walk1 | (dsimp only; walk1) | (leave1; walk_say "STEP leave1"; try dsimp only) | fail "no step")
  all_goals exact ret_any (R := IsTable w k) hret G' (by k_asm) (table_out G' (by with_reducible assumption) (by with_reducible assumption) (by with_reducible assumption) (by with_reducible assumption))
end
end
end Mine
end

section
open PySem PySem.W PySem.Calls PySem.Spec PyProof.Rows
set_option Elab.async false
set_option maxRecDepth 100000
set_option maxHeartbeats 8000000
set_option linter.unusedVariables false
namespace Mine
theorem getm_translate {M : Model} {A : Around} {E : Value → Shared → Prop} {s : Shared} {x : Str} {t : Tok} {pl : Sem Bool} {Q : Value × List Value → Shared → Prop} (h : Q (.builtin "str.translate", [.str x t]) s) : wpAny M A (getMethod (.str x t) (Str.ofString "translate") pl) Q E s :=
  GM.of (.str x t) (typeIs_str _ _ _) F.slot_str_translate F.type_str_translate GM.noRef h
theorem shift_walk {prog : Program} {w : World} {A : Around} {E : Value → Shared → Prop} {s : Shared} {h₀ : Heap} {L D : Addr} {m : Str → Option Value} {news : List (Addr × Obj)} {x : Str} {t : Tok} {k : Nat} {kvs : List (Int × Value)} {Q : Value → Shared → Prop} (hx : Short 200 x) (hm : (D == sysModules) = false) (ht : Tab kvs (smallPs k ++ capPs k)) (hd : s.heap.DictOf (intKind prog w) D kvs) (hh : A.handled = none) (F : Fr h₀ L s.heap m) (N : News h₀ L s.heap news)
    (h : ∀ t' h' tk, (∀ b o, s.heap.get? b = some o → h'.get? b = some o) → Fr h₀ L h' m → News h₀ L h' news → Q (.str (mapS (shiftC k) x) t') { s with heap := h', toks := tk }) :
    wpAny (model prog w) A (call (.builtin "str.translate") [.str x t, .ref D]) Q E s :=
  translate_asc hh hm hx.1 (by have := hx.2; omega) hd.mapOf (fun c hc => table_says ht c hc) fun t' h' tk hk => h t' h' tk hk (F.keeps hk) (N.grown hk)
section
section
variable {w : World} {mean : ExcName → Option Value} {mg mb : Str → Option Value}
theorem spec_shifted (x : Str) (k : Nat) (t t2 : Tok) (hx : Short 200 x) (h2 : k < 26) : Spec 2 w mean mg mb 77 [.str x t, .int (k : Int) t2] (IsS (mapS (shiftC k) x)) := by
  w_top off
  k_with_none
  have hload : PySem.Challenge.rw_sx_yscribe_1.name = PySem.Challenge.rw_sx_yscribe_1.name ∧ Mine.hd.heap_39 w.params = Mine.hd.heap_39 w.params := by
    k_fill
    exact ⟨rfl, rfl⟩
  clear hload
  unfold Spec
  intro dp un gd cn cs a ccd cl outer A₀ base h₀ L m s Q E B F X T hk hdp hun hret
  refine wpAny_call ?_
  k_dflt (refine' code_defG ?k1 ?k2 ?k3 ?k4 ?k5 ?kA ?kF ?kK ?k6 ?k7 ?k8 ?k9 ?kB ?_ ?c2 ?c3 ?c4 ?c5; (case kA => exact rfl); (case kF => exact rfl); (case kK => assumption); (case k1 => k_asm); (case k2 => k_asm); (case k3 => k_asm); (case k4 => exact News.nil); (case k5 => k_asm); (case k6 => k_is); (case k7 => k_is); (case k8 => ktr_room); (case k9 => exact BindsTo.of_eq rfl); (case c5 => decide); (case kB => exact locs rfl); (case c2 => exact rfl); (case c3 => exact rfl); (case c4 => exact rfl); k_whole; intro g' L' h' FG' F' N' B' X' T' G'; (try dsimp only); (try k_fold))
  replace G' := gsub_nil G'
  repeat' (first | (k_unfold; (try dsimp only)) | (k_end; wrow_close) | with_reducible ((with_reducible refine shift_walk (by assumption) (by assumption) (by assumption) (by assumption) rfl (by k_asm) (by k_asm) ?_); intro t' h' tk' hk' F' N'; (try k_sweep)) | ((with_reducible show wpAny _ _ (call (Value.ref _) _) _ _ _); ((k_dflt (refine' Spec.use (spec_shift_table _ _ (by assumption)) ?k1 ?k2 ?k3 ?k4 ?k5 ?kK ?kd ?ku ?_; (case k1 => k_asm); (case k2 => k_asm); (case k3 => k_asm); (case k4 => k_asm); (case k5 => k_asm); (case kK => first | exact rfl | assumption); (case kd => ktr_room); (case ku => ktr_units))); intro v' h' tk' hv' hk' F' N'; (obtain ⟨D', kvs', hv9', hn', hm', ht', hd'⟩ := hv'); (subst hv9'); (try dsimp only); (try k_fold); (try k_sweep))) | ((with_reducible show wpAny _ _ (getMethod _ _ _) _ _ _); with_reducible (with_reducible refine getm_translate ?_)) | walk1 | (dsimp only; walk1) | (leave1; walk_say "STEP leave1"; try dsimp only) | fail "no step")
  all_goals exact ret_str hret G' (by k_asm) rfl
end
end
end Mine
end

section
open PySem PySem.W PySem.Calls PySem.Spec PyProof.Rows
set_option Elab.async false
set_option maxRecDepth 100000
set_option maxHeartbeats 8000000
set_option linter.unusedVariables false
namespace Mine
theorem tb3 : [Str.ofString "", Str.ofString "M", Str.ofString "MM", Str.ofString "MMM"] = forms3.map ofL := by decide +kernel
theorem tb2 : [Str.ofString "", Str.ofString "C", Str.ofString "CC", Str.ofString "CCC", Str.ofString "CD", Str.ofString "D", Str.ofString "DC", Str.ofString "DCC", Str.ofString "DCCC", Str.ofString "CM"] = forms2.map ofL := by decide +kernel
theorem tb1 : [Str.ofString "", Str.ofString "X", Str.ofString "XX", Str.ofString "XXX", Str.ofString "XL", Str.ofString "L", Str.ofString "LX", Str.ofString "LXX", Str.ofString "LXXX", Str.ofString "XC"] = forms1.map ofL := by decide +kernel
theorem tb0 : [Str.ofString "", Str.ofString "I", Str.ofString "II", Str.ofString "III", Str.ofString "IV", Str.ofString "V", Str.ofString "VI", Str.ofString "VII", Str.ofString "VIII", Str.ofString "IX"] = forms0.map ofL := by decide +kernel
/-- a tuple of forms -/
noncomputable def FormsAt (h : Heap) (fa : Addr) (fs : List (List Nat)) : Prop := ∃ vs, IsTup h fa vs.toArray ∧ StrsAre vs (fs.map ofL)
theorem FormsAt.keeps {h h' : Heap} {fa : Addr} {fs : List (List Nat)} (x : FormsAt h fa fs) (k : ∀ b o, h.get? b = some o → h'.get? b = some o) : FormsAt h' fa fs :=
  let ⟨vs, a, b⟩ := x; ⟨vs, a.keeps k, b⟩
noncomputable def formsOf : Nat → List (List Nat)
  | 92 => forms3
  | 94 => forms2
  | 96 => forms1
  | 98 => forms0
  | _ => []
noncomputable def decF : Value × Value → Nat × List (List Nat)
  | (.int v _, .ref a) => (v.toNat, formsOf a)
  | _ => (1, [])
theorem decF_places : placeItems.map decF = places := by decide +kernel
theorem k_loaded2 (w : World) : PySem.Challenge.rw_sx_yscribe_1.name = PySem.Challenge.rw_sx_yscribe_1.name ∧ Mine.hd.heap_39 w.params = Mine.hd.heap_39 w.params := by
  k_fill
  exact ⟨rfl, rfl⟩
theorem forms_at3 {w : World} {h : Heap} (X : (Mine.hd.heap_39 w.params).In h) : FormsAt h 92 forms3 := ⟨_, tupK X (by k_dflt k_is), by rw [← tb3]; repeat constructor⟩
theorem forms_at2 {w : World} {h : Heap} (X : (Mine.hd.heap_39 w.params).In h) : FormsAt h 94 forms2 := ⟨_, tupK X (by k_dflt k_is), by rw [← tb2]; repeat constructor⟩
theorem forms_at1 {w : World} {h : Heap} (X : (Mine.hd.heap_39 w.params).In h) : FormsAt h 96 forms1 := ⟨_, tupK X (by k_dflt k_is), by rw [← tb1]; repeat constructor⟩
theorem forms_at0 {w : World} {h : Heap} (X : (Mine.hd.heap_39 w.params).In h) : FormsAt h 98 forms0 := ⟨_, tupK X (by k_dflt k_is), by rw [← tb0]; repeat constructor⟩
/-- forms as they must be -/
structure GoodForms (fs : List (List Nat)) : Prop where
  lo : 1 ≤ fs.length
  hi : fs.length ≤ 10
  first : fs.getD 0 [] = []
  short : ∀ j, (fs.getD j []).length ≤ 4
theorem short_of {fs : List (List Nat)} (h : fs.all (fun f => decide (f.length ≤ 4)) = true) (j : Nat) : (fs.getD j []).length ≤ 4 := by
  rw [List.getD_eq_getElem?_getD]
  by_cases hi : j < fs.length
  · rw [List.getElem?_eq_getElem hi]
    exact of_decide_eq_true (List.all_eq_true.mp h fs[j] (List.getElem_mem hi))
  · rw [List.getElem?_eq_none (by omega)]
    simp
theorem good3 : GoodForms forms3 := ⟨by decide, by decide, rfl, short_of (by decide)⟩
theorem good2 : GoodForms forms2 := ⟨by decide, by decide, rfl, short_of (by decide)⟩
theorem good1 : GoodForms forms1 := ⟨by decide, by decide, rfl, short_of (by decide)⟩
theorem good0 : GoodForms forms0 := ⟨by decide, by decide, rfl, short_of (by decide)⟩
theorem place_item {w : World} {h : Heap} (X : (Mine.hd.heap_39 w.params).In h) {done rest : List (Value × Value)} {a b : Value} (e : placeItems = done ++ (a, b) :: rest) :
    done.length < 4 ∧ ∃ (v : Nat) (t : Tok) (fa : Addr) (fs : List (List Nat)), a = .int (v : Int) t ∧ b = .ref fa ∧ decF (a, b) = (v, fs) ∧ 1 ≤ v ∧ v ≤ 1000 ∧ FormsAt h fa fs ∧ GoodForms fs := by
  refine ⟨?_, ?_⟩
  · have := congrArg List.length e
    rw [List.length_append, List.length_cons] at this
    have e : placeItems.length = 4 := rfl
    omega
  · have hm : (a, b) ∈ placeItems := by rw [e]; simp
    have all : ∀ p ∈ placeItems, ∃ (v : Nat) (t : Tok) (fa : Addr) (fs : List (List Nat)), p.1 = .int (v : Int) t ∧ p.2 = .ref fa ∧ decF p = (v, fs) ∧ 1 ≤ v ∧ v ≤ 1000 ∧ FormsAt h fa fs ∧ GoodForms fs := by
      unfold placeItems
      simp only [List.forall_mem_cons]
      refine ⟨⟨1000, _, _, _, rfl, rfl, rfl, by decide, by decide, forms_at3 X, good3⟩, ⟨100, _, _, _, rfl, rfl, rfl, by decide, by decide, forms_at2 X, good2⟩, ⟨10, _, _, _, rfl, rfl, rfl, by decide, by decide, forms_at1 X, good1⟩, ⟨1, _, _, _, rfl, rfl, rfl, by decide, by decide, forms_at0 X, good0⟩, ?_⟩
      intro p hp
      cases hp
    exact all (a, b) hm

section
variable {prog : Program} {w : World} {A : Around} {E : Value → Shared → Prop} {s : Shared} {value slice : PySem.Expr} {fa : Addr} {fs : List (List Nat)} {Q : Value → Shared → Prop}
theorem forms_item {i : Nat} {u : Tok} (x : FormsAt s.heap fa fs) (hi : i < fs.length) (hg : GoodForms fs) (h : ∀ t', Q (.str (ofL (fs.getD i [])) t') s)
    (hs : subscripted slice false (.ref fa) (.int (i : Int) u) = operate [.ref fa, .int (i : Int) u] (getItem (.ref fa) (.int (i : Int) u)) := by with_unfolding_all rfl) :
    wpAny (model prog w) A (subscriptTail value slice (.ref fa) (.int (i : Int) u)) Q E s := by
  obtain ⟨vs, ht, hw⟩ := x
  refine KTb.item_tup ht hw (by omega) (by rw [List.length_map]; omega) (by have := hg.hi; omega) (fun t' _ => ?_) hs
  have e : (fs.map ofL).getD ((i : Int)).toNat Str.empty = ofL (fs.getD i []) := by
    rw [Int.toNat_natCast, List.getD_eq_getElem?_getD, List.getD_eq_getElem?_getD, List.getElem?_map]
    cases fs[i]? <;> rfl
  rw [e]
  exact h t'
theorem forms_len (x : FormsAt s.heap fa fs) (hg : GoodForms fs) (h : ∀ t' k, Q (.int (fs.length : Int) t') { s with toks := k }) : wpAny (model prog w) A (call (.builtin "len") [.ref fa]) Q E s := by
  obtain ⟨vs, ht, hw⟩ := x
  have e : vs.toArray.size = fs.length := by rw [List.size_toArray, hw.len_eq, List.length_map]
  refine len_tuple ht (by rw [e]; have := hg.hi; omega) ?_
  rw [e]
  exact h _ _
theorem ofL_length_len {l : List Nat} {t : Tok} (hl : l.length ≤ 100000) (h : ∀ t' k, Q (.int (l.length : Int) t') { s with toks := k }) : wpAny (model prog w) A (call (.builtin "len") [.str (ofL l) t]) Q E s :=
  P.len_str (by rw [ofL_len]; omega) (by rw [ofL_len]; exact h _ _)
end
end Mine
end

section
open PySem PySem.W PySem.Calls PySem.Spec PyProof.Rows
set_option Elab.async false
set_option maxRecDepth 100000
set_option maxHeartbeats 8000000
set_option linter.unusedVariables false
namespace Mine
noncomputable def dueSt (x : List Nat) (done : List (Value × Value)) : Nat × List Nat := (done.map decF).foldl dueStep (0, x)
theorem dueSt_snoc (x : List Nat) (done : List (Value × Value)) (p : Value × Value) : dueSt x (done ++ [p]) = dueStep (dueSt x done) (decF p) := by
  simp [dueSt, List.map_append, List.foldl_append]
theorem dueSt_all (x : List Nat) : dueSt x placeItems = dueAcc x := by
  unfold dueSt dueAcc
  rw [decF_places]
noncomputable def pickTo (fs : List (List Nat)) (r : List Nat) (i : Nat) : Nat := (List.range i).foldl (pickStep fs r) 0
theorem pickTo_succ (fs : List (List Nat)) (r : List Nat) (i : Nat) : pickTo fs r (i + 1) = pickStep fs r (pickTo fs r i) i := by
  unfold pickTo
  rw [List.range_succ, List.foldl_append]
  rfl
theorem pickTo_lt {fs : List (List Nat)} (hg : GoodForms fs) (r : List Nat) : ∀ i, i ≤ fs.length → pickTo fs r i < fs.length := by
  intro i
  induction i with
  | zero => intro _; have := hg.lo; show 0 < fs.length; omega
  | succ i ih =>
    intro hi
    rw [pickTo_succ]
    unfold pickStep
    split
    · omega
    · exact ih (by omega)
theorem pickD_lt {fs : List (List Nat)} (hg : GoodForms fs) (r : List Nat) : pickD fs r < fs.length := pickTo_lt hg r fs.length (Nat.le_refl _)

section
variable {prog : Program} {w : World} {A : Around} {E : Value → Shared → Prop} {s : Shared} {env : Env} {h₀ : Heap} {body : List Stmt} {Q : Flow → Shared → Prop}
theorem due_inner {v : Str} {rg fa : Addr} {fs : List (List Nat)} {r : List Nat} {N0 U0 : Value} {t₀ u₀ v₀ td tr : Tok} {m₀ : Str → Option Value} {news : List (Addr × Obj)} (hg : GoodForms fs)
    (e1 : m₀ (Str.ofString "digit") = some (.int 0 td)) (e2 : m₀ (Str.ofString "n") = some N0) (e3 : m₀ (Str.ofString "rest") = some (.str (ofL r) tr)) (e4 : m₀ (Str.ofString "forms") = some (.ref fa)) (e5 : m₀ (Str.ofString "unit") = some U0)
    (hh : A.handled = none) (hr : IsRange s.heap rg 0 (fs.length : Int) 1 t₀ u₀ v₀) (F : Fr h₀ env.locals s.heap m₀) (N : News h₀ env.locals s.heap news)
    (turn : ∀ (I : Addr) (i d : Nat) (t td : Tok) (u : Str → Option Value) h tk it, i < fs.length → d < fs.length → (∀ p ∈ news, p.1 < I) →
      Fr h₀ env.locals h (fun y => if y = v then some (.int (i : Int) t) else if y = Str.ofString "digit" then some (.int (d : Int) td) else if y = Str.ofString "n" then some N0 else if y = Str.ofString "rest" then some (.str (ofL r) tr) else if y = Str.ofString "forms" then some (.ref fa) else if y = Str.ofString "unit" then some U0 else u y) →
      News h₀ env.locals h ((I, it) :: news) →
      wpAny (model prog w) A (execs body env) (TurnEndL h₀ env.locals { s with heap := h, toks := tk } ((I, it) :: news) (fun m' => ∃ td', m' (Str.ofString "digit") = some (.int ((pickStep fs r d i : Nat) : Int) td') ∧ m' (Str.ofString "n") = some N0 ∧ m' (Str.ofString "rest") = some (.str (ofL r) tr) ∧ m' (Str.ofString "forms") = some (.ref fa) ∧ m' (Str.ofString "unit") = some U0) Q) E { s with heap := h, toks := tk })
    (fin : ∀ (td : Tok) (u : Str → Option Value) h tk, Fr h₀ env.locals h (fun y => if y = Str.ofString "digit" then some (.int ((pickD fs r : Nat) : Int) td) else if y = Str.ofString "n" then some N0 else if y = Str.ofString "rest" then some (.str (ofL r) tr) else if y = Str.ofString "forms" then some (.ref fa) else if y = Str.ofString "unit" then some U0 else u y) → News h₀ env.locals h news → Q .next { s with heap := h, toks := tk }) :
    wpAny (model prog w) A (pyIter (.ref rg)) (fun it s₂ => LoopAtV prog w A h₀ env v body Q E it s₂) E s := by
  have holds : ∀ {m : Str → Option Value} {V : Value}, m (Str.ofString "digit") = some V → m (Str.ofString "n") = some N0 → m (Str.ofString "rest") = some (.str (ofL r) tr) → m (Str.ofString "forms") = some (.ref fa) → m (Str.ofString "unit") = some U0 →
      Holds m [(Str.ofString "digit", V), (Str.ofString "n", N0), (Str.ofString "rest", .str (ofL r) tr), (Str.ofString "forms", .ref fa), (Str.ofString "unit", U0)] := by
    intro m V g1 g2 g3 g4 g5 p hp
    rcases List.mem_cons.mp hp with rfl | hp
    · exact g1
    rcases List.mem_cons.mp hp with rfl | hp
    · exact g2
    rcases List.mem_cons.mp hp with rfl | hp
    · exact g3
    rcases List.mem_cons.mp hp with rfl | hp
    · exact g4
    rw [List.mem_singleton.mp hp]; exact g5
  refine range_kv (kv₀ := [(Str.ofString "digit", .int 0 td), (Str.ofString "n", N0), (Str.ofString "rest", .str (ofL r) tr), (Str.ofString "forms", .ref fa), (Str.ofString "unit", U0)])
    (fun i kv => ∃ td, kv = [(Str.ofString "digit", .int ((pickTo fs r i : Nat) : Int) td), (Str.ofString "n", N0), (Str.ofString "rest", .str (ofL r) tr), (Str.ofString "forms", .ref fa), (Str.ofString "unit", U0)]) (by have := hg.hi; omega) hh hr F N ⟨td, rfl⟩ (holds e1 e2 e3 e4 e5) ?_ ?_
  · rintro I i t kv u h tk it hi ⟨td, rfl⟩ hI F' N'
    refine wpAny_mono (turn I i (pickTo fs r i) t td u h tk it hi (pickTo_lt hg r i (by omega)) hI F' N') (fun f s₂ q => ?_) fun _ _ e => e
    have go : (∃ h' tk' m', s₂ = { s with heap := h', toks := tk' } ∧ Fr h₀ env.locals h' m' ∧ News h₀ env.locals h' ((I, it) :: news) ∧ ∃ td', m' (Str.ofString "digit") = some (.int ((pickStep fs r (pickTo fs r i) i : Nat) : Int) td') ∧ m' (Str.ofString "n") = some N0 ∧ m' (Str.ofString "rest") = some (.str (ofL r) tr) ∧ m' (Str.ofString "forms") = some (.ref fa) ∧ m' (Str.ofString "unit") = some U0) →
        ∃ h' tk' m', s₂ = { s with heap := h', toks := tk' } ∧ Fr h₀ env.locals h' m' ∧ News h₀ env.locals h' ((I, it) :: news) ∧ ∃ kv', (∃ td, kv' = [(Str.ofString "digit", .int ((pickTo fs r (i + 1) : Nat) : Int) td), (Str.ofString "n", N0), (Str.ofString "rest", .str (ofL r) tr), (Str.ofString "forms", .ref fa), (Str.ofString "unit", U0)]) ∧ Holds m' kv' := by
      rintro ⟨h', tk', m', e, F'', N'', td', g1, g2, g3, g4, g5⟩
      rw [← pickTo_succ] at g1
      exact ⟨h', tk', m', e, F'', N'', _, ⟨td', rfl⟩, holds g1 g2 g3 g4 g5⟩
    cases f with
    | ret v => exact q
    | brk => exact q
    | next => exact go q
    | cont => exact go q
  · rintro kv u h tk ⟨td, rfl⟩ F' N'
    exact fin td u h tk F' N'

theorem due_outer {n1 n2 : Str} {p1 p2 tp : Pos} {kk : Nat} {x : Str} {tn tr : Tok} {m₀ : Str → Option Value} (hx : x.length ≤ 1000) (X : (Mine.hd.heap_39 w.params).In h₀) (F : Fr h₀ env.locals s.heap m₀) (e1 : m₀ (Str.ofString "n") = some (.int 0 tn)) (e2 : m₀ (Str.ofString "rest") = some (.str x tr))
    (hh : A.handled = none) (l1 : env.kindOf n1 = some .local) (l2 : env.kindOf n2 = some .local) (hc : (env.scope.kind == .class || (env.scope.kind == .module && env.locals != env.globals)) = false)
    (turn : ∀ (I : Addr) (n v : Nat) (r : List Nat) (fa : Addr) (fs : List (List Nat)) (t u tv : Tok) (uu : Str → Option Value) h tk it, FormsAt h₀ fa fs → GoodForms fs → 1 ≤ v → v ≤ 1000 → r.length ≤ 1000 → n ≤ 100000 → it.cls = .type "tuple_iterator" →
      Fr h₀ env.locals h (fun y => if y = n2 then some (.ref fa) else if y = n1 then some (.int (v : Int) tv) else if y = Str.ofString "n" then some (.int (n : Int) t) else if y = Str.ofString "rest" then some (.str (ofL r) u) else uu y) → News h₀ env.locals h [(I, it)] →
      wpAny (model prog w) A (execs body env) (TurnEnd h₀ env.locals { s with heap := h, toks := tk } I it (fun m' => ∃ t' u', m' (Str.ofString "n") = some (.int ((n : Int) + ((pickD fs r : Nat) : Int) * (v : Int)) t') ∧ m' (Str.ofString "rest") = some (.str (ofL (r.drop (fs.getD (pickD fs r) []).length)) u')) Q) E { s with heap := h, toks := tk })
    (fin : ∀ (uu : Str → Option Value) t u h tk, Fr h₀ env.locals h (fun y => if y = Str.ofString "n" then some (.int (((dueAcc x.cps.toList).1 : Nat) : Int) t) else if y = Str.ofString "rest" then some (.str (ofL (dueAcc x.cps.toList).2) u) else uu y) → News h₀ env.locals h [] → Q .next { s with heap := h, toks := tk }) :
    wpAny (model prog w) A (pyIter (.ref 100)) (fun it s₂ => TurnsAt prog w A h₀ env (.Tuple [.Name n1 p1, .Name n2 p2] kk tp) body Q E it s₂) E s := by
  obtain ⟨lo', nn', yk, yc, yd⟩ := place_look w
  have hl : x.cps.toList.length = x.length := by simp [Str.length]
  refine iter_kv (P := fun done kv => ∃ n r t u, kv = [(Str.ofString "n", .int ((n : Nat) : Int) t), (Str.ofString "rest", .str (ofL r) u)] ∧ dueSt x.cps.toList done = (n, r) ∧ r.length ≤ 1000 ∧ n ≤ 10000 * done.length) ⟨⟩
    [(Str.ofString "n", .int ((0 : Nat) : Int) tn), (Str.ofString "rest", .str (ofL x.cps.toList) tr)] (place_tups X) X yk yc yd (by decide) hh l1 l2 hc F ⟨0, x.cps.toList, tn, tr, rfl, rfl, by omega, by simp⟩ ?_ ?_ ?_
  · intro p hp
    rcases List.mem_cons.mp hp with rfl | hp
    · exact e1
    · rw [List.mem_singleton.mp hp]
      show m₀ (Str.ofString "rest") = some (.str (ofL x.cps.toList) tr)
      rw [ofL_toList]; exact e2
  · rintro I done a b kv uu h tk it ⟨rest, hs⟩ ⟨n, r, t, u, rfl, hst, hr, hn⟩ hit F₁ N₁
    obtain ⟨hd, v, tv, fa, fs, rfl, rfl, hdec, hv, hv2, hfa, hgood⟩ := place_item X hs
    refine wpAny_mono (turn I n v r fa fs t u tv uu h tk it hfa hgood hv hv2 hr (by omega) hit F₁ N₁) (fun f s₂ q => ?_) fun _ _ e => e
    have go : (∃ h' tk' m', s₂ = { s with heap := h', toks := tk' } ∧ Fr h₀ env.locals h' m' ∧ News h₀ env.locals h' [(I, it)] ∧ ∃ t' u', m' (Str.ofString "n") = some (.int ((n : Int) + ((pickD fs r : Nat) : Int) * (v : Int)) t') ∧ m' (Str.ofString "rest") = some (.str (ofL (r.drop (fs.getD (pickD fs r) []).length)) u')) →
        ∃ h' tk' m', s₂ = { s with heap := h', toks := tk' } ∧ Fr h₀ env.locals h' m' ∧ News h₀ env.locals h' [(I, it)] ∧ ∃ kv', (∃ n r t u, kv' = [(Str.ofString "n", .int ((n : Nat) : Int) t), (Str.ofString "rest", .str (ofL r) u)] ∧ dueSt x.cps.toList (done ++ [(.int (v : Int) tv, .ref fa)]) = (n, r) ∧ r.length ≤ 1000 ∧ n ≤ 10000 * (done ++ [((.int (v : Int) tv, .ref fa) : Value × Value)]).length) ∧ Holds m' kv' := by
      rintro ⟨h', tk', m', e, F', N', t', u', g1, g2⟩
      have hp := pickD_lt hgood r
      have hp2 := hgood.hi
      have hmul : pickD fs r * v ≤ 10 * 1000 := Nat.mul_le_mul (by omega) hv2
      refine ⟨h', tk', m', e, F', N', [(Str.ofString "n", .int ((n + pickD fs r * v : Nat) : Int) t'), (Str.ofString "rest", .str (ofL (r.drop (fs.getD (pickD fs r) []).length)) u')], ⟨_, _, t', u', rfl, ?_, ?_, ?_⟩, ?_⟩
      · rw [dueSt_snoc, hst, hdec]
        rfl
      · rw [List.length_drop]; omega
      · rw [List.length_append, List.length_singleton]; omega
      · intro p hp
        rcases List.mem_cons.mp hp with rfl | hp
        · rw [g1]
          simp
        · rw [List.mem_singleton.mp hp, g2]
    cases f with
    | ret v => exact q
    | brk => exact q
    | next => exact go q
    | cont => exact go q
  · rintro kv uu h tk ⟨n, r, t, u, rfl, hst, hr, hn⟩ F₁ N₁
    rw [dueSt_all] at hst
    refine fin uu t u h tk ?_ N₁
    rw [hst]
    exact F₁
end
end Mine
end

section
open PySem PySem.W PySem.Calls PySem.Spec PyProof.Rows
set_option Elab.async false
set_option maxRecDepth 100000
set_option maxHeartbeats 8000000
set_option linter.unusedVariables false
namespace Mine
theorem due_go {fs : List (List Nat)} {r : List Nat} {d i : Nat} (h : Txt.startswith (ofL r) (ofL (fs.getD i [])) = true) (hl : ((fs.getD d []).length : Int) < ((fs.getD i []).length : Int)) : pickStep fs r d i = i := by
  rw [starts_eq] at h
  unfold pickStep
  have hl' : (fs.getD d []).length < (fs.getD i []).length := by omega
  rw [if_pos]
  rw [Bool.and_eq_true]
  exact ⟨h, decide_eq_true hl'⟩
theorem due_stay {fs : List (List Nat)} {r : List Nat} {d i : Nat} (hl : ¬ ((fs.getD d []).length : Int) < ((fs.getD i []).length : Int)) : pickStep fs r d i = d := by
  unfold pickStep
  have hl' : ¬ (fs.getD d []).length < (fs.getD i []).length := by omega
  rw [if_neg]
  rw [Bool.and_eq_true]
  exact fun q => hl' (of_decide_eq_true q.2)
theorem due_not {fs : List (List Nat)} {r : List Nat} {d i : Nat} (h : Txt.startswith (ofL r) (ofL (fs.getD i [])) = false) : pickStep fs r d i = d := by
  rw [starts_eq] at h
  unfold pickStep
  rw [if_neg]
  rw [Bool.and_eq_true]
  intro q
  have e : (fs.getD i []).isPrefixOf r = false := h
  rw [e] at q
  exact Bool.noConfusion q.1
theorem due_out {m' : Str → Option Value} {d e : Nat} {N0 R0 F0 U0 : Value} {t : Tok} (h1 : m' (Str.ofString "digit") = some (.int (d : Int) t)) (h2 : m' (Str.ofString "n") = some N0) (h3 : m' (Str.ofString "rest") = some R0) (h4 : m' (Str.ofString "forms") = some F0) (h5 : m' (Str.ofString "unit") = some U0) (hd : e = d) :
    ∃ td', m' (Str.ofString "digit") = some (.int ((e : Nat) : Int) td') ∧ m' (Str.ofString "n") = some N0 ∧ m' (Str.ofString "rest") = some R0 ∧ m' (Str.ofString "forms") = some F0 ∧ m' (Str.ofString "unit") = some U0 := ⟨t, by rw [h1, hd], h2, h3, h4, h5⟩
theorem due_rest {m' : Str → Option Value} {n : Int} {r : List Nat} {k : Nat} {t u : Tok} (h1 : m' (Str.ofString "n") = some (.int n t)) (h2 : m' (Str.ofString "rest") = some (.str (Txt.slice (ofL r) (some (k : Int)) none) u)) :
    ∃ t' u', m' (Str.ofString "n") = some (.int n t') ∧ m' (Str.ofString "rest") = some (.str (ofL (r.drop k)) u') := ⟨t, u, h1, by rw [h2, tslice_from _ (by omega)]; rfl⟩
theorem due_fin0 {x : List Nat} (h : (ofL (dueAcc x).2 != Str.ofString "") = true) : (0 : Int) = ((dueL x : Nat) : Int) := by
  unfold dueL
  rw [if_neg]
  · rfl
  · intro q
    rw [q] at h
    revert h
    decide +kernel
theorem due_fin1 {x : List Nat} (h : (ofL (dueAcc x).2 != Str.ofString "") = false) : (((dueAcc x).1 : Nat) : Int) = ((dueL x : Nat) : Int) := by
  unfold dueL
  rw [if_pos]
  have e : Str.ofString "" = ofL [] := by decide +kernel
  rw [e] at h
  exact ofL_inj (eq_of_beq (by rw [bne] at h; revert h; cases (ofL (dueAcc x).2 == ofL []) <;> simp))
section
section
variable {w : World} {mean : ExcName → Option Value} {mg mb : Str → Option Value}
theorem spec_due (x : Str) (t : Tok) (hx : x.length ≤ 1000) : Spec 1 w mean mg mb 123 [.str x t] (IsI ((dueL x.cps.toList : Nat) : Int)) := by
  w_top off
  k_with_none
  have hload : PySem.Challenge.rw_sx_yscribe_1.name = PySem.Challenge.rw_sx_yscribe_1.name ∧ Mine.hd.heap_39 w.params = Mine.hd.heap_39 w.params := by
    k_fill
    exact ⟨rfl, rfl⟩
  clear hload
  unfold Spec
  intro dp un gd cn cs a ccd cl outer A₀ base h₀ L m s Q E B F X T hk hdp hun hret
  refine wpAny_call ?_
  k_dflt (refine' code_defG ?k1 ?k2 ?k3 ?k4 ?k5 ?kA ?kF ?kK ?k6 ?k7 ?k8 ?k9 ?kB ?_ ?c2 ?c3 ?c4 ?c5; (case kA => exact rfl); (case kF => exact rfl); (case kK => assumption); (case k1 => k_asm); (case k2 => k_asm); (case k3 => k_asm); (case k4 => exact News.nil); (case k5 => k_asm); (case k6 => k_is); (case k7 => k_is); (case k8 => ktr_room); (case k9 => exact BindsTo.of_eq rfl); (case c5 => decide); (case kB => exact locs rfl); (case c2 => exact rfl); (case c3 => exact rfl); (case c4 => exact rfl); k_whole; intro g' L' h' FG' F' N' B' X' T' G'; (try dsimp only); (try k_fold))
  replace G' := gsub_nil G'
  repeat' (first | (k_unfold; (try dsimp only)) | (k_end; wrow_close) | ((with_reducible show wpAny _ _ (subscriptTail _ _ (Value.ref _) (Value.int _ _)) _ _ _); with_reducible ((with_unfolding_all refine forms_item (FormsAt.keeps (by with_reducible assumption) (Fr.keep (by k_asm))) (by first | with_reducible assumption | exact pickD_lt (by with_reducible assumption) _) (by with_reducible assumption) ?_); intro _)) | (first | with_reducible ((with_reducible refine ofL_length_len (Nat.le_trans (GoodForms.short (by with_reducible assumption) _) (by decide)) ?_); intro _ _) | with_reducible ((with_reducible refine forms_len (FormsAt.keeps (by with_reducible assumption) (Fr.keep (by k_asm))) (by with_reducible assumption) ?_); intro _ _)) | (first | with_reducible (k_here; (with_reducible show wpAny _ _ (pyIter (Value.ref 100)) (fun it s₂ => TurnsAt _ _ _ _ _ _ _ _ _ it s₂) _ _); (with_unfolding_all refine due_outer (by with_reducible assumption) (by k_asm) (by k_asm) rfl rfl rfl rfl rfl rfl ?_ ?_); (all_goals intros)) | with_reducible (k_here; (with_reducible show wpAny _ _ (pyIter (Value.ref _)) (fun it s₂ => LoopAtV _ _ _ _ _ _ _ _ _ it s₂) _ _); (with_unfolding_all refine due_inner (by with_reducible assumption) rfl rfl rfl rfl rfl rfl (by with_reducible assumption) (by k_asm) (by k_asm) ?_ ?_); (all_goals intros))) | ((with_reducible show wpAny _ _ (exec (PySem.Stmt.For _ _ _ _ _) _) _ _ _); with_reducible (k_here; (rename Fr _ _ _ _ => lF'); (with_unfolding_all refine' For_invVF lF' ?k1 ?k2 ?_; (case k1 => exact rfl); (case k2 => exact rfl); k_whole))) | walk1 | (dsimp only; walk1) | (leave1; walk_say "STEP leave1"; try dsimp only) | fail "no step")
  · refine TurnEndL.next (by k_asm) (by k_asm) (fun _ h => h) (due_out rfl rfl rfl rfl rfl ?_)
    exact due_go (by with_reducible assumption) (by with_reducible assumption)
  · refine TurnEndL.next (by k_asm) (by k_asm) (fun _ h => h) (due_out rfl rfl rfl rfl rfl ?_)
    exact due_stay (by with_reducible assumption)
  · refine TurnEndL.next (by k_asm) (by k_asm) (fun _ h => h) (due_out rfl rfl rfl rfl rfl ?_)
    exact due_not (by with_reducible assumption)
  · exact TurnEnd.next (by k_asm) (by k_asm) (List.Mem.head _) (due_rest rfl rfl)
  · refine ret_int hret G' (by k_asm) ?_
    exact due_fin0 (by with_reducible assumption)
  · refine ret_int hret G' (by k_asm) ?_
    exact due_fin1 (by with_reducible assumption)
end
end
end Mine
end

section
open PySem PySem.W PySem.Calls PySem.Spec PyProof.Rows
set_option Elab.async false
set_option maxRecDepth 100000
set_option maxHeartbeats 8000000
set_option linter.unusedVariables false
namespace Mine
noncomputable def frSt (x : List Nat) (done : List (Value × Value)) : Nat × List Nat := (done.map dec).foldl (fun st e => eatAll e st) (0, x)
theorem frSt_snoc (x : List Nat) (done : List (Value × Value)) (p : Value × Value) : frSt x (done ++ [p]) = eatAll (dec p) (frSt x done) := by
  simp [frSt, List.map_append, List.foldl_append]
theorem frSt_all (x : List Nat) : frSt x numItems = readAcc x := by
  unfold frSt readAcc
  rw [dec_table]
noncomputable def FrJ (S : Value) (st : Nat × List Nat) (m' : Str → Option Value) : Prop := ∃ n r t u, m' (Str.ofString "n") = some (.int ((n : Nat) : Int) t) ∧ m' (Str.ofString "rest") = some (.str (ofL r) u) ∧ m' (Str.ofString "s") = some S ∧ st = (n, r) ∧ r.length ≤ 1000
section
variable {prog : Program} {w : World} {A : Around} {E : Value → Shared → Prop} {s : Shared} {env : Env} {h₀ : Heap} {body : List Stmt} {Q : Flow → Shared → Prop}
theorem fr_iter {n1 n2 : Str} {p1 p2 tp : Pos} {kk : Nat} {x : Str} {S : Value} {tn tr : Tok} {m₀ : Str → Option Value} (hx : x.length ≤ 1000) (X : (Mine.hd.heap_39 w.params).In h₀) (F : Fr h₀ env.locals s.heap m₀) (e1 : m₀ (Str.ofString "n") = some (.int 0 tn)) (e2 : m₀ (Str.ofString "rest") = some (.str x tr)) (e3 : m₀ (Str.ofString "s") = some S)
    (hh : A.handled = none) (l1 : env.kindOf n1 = some .local) (l2 : env.kindOf n2 = some .local) (hc : (env.scope.kind == .class || (env.scope.kind == .module && env.locals != env.globals)) = false)
    (turn : ∀ (I : Addr) (n v : Nat) (r : List Nat) (sg : Str) (t u tv tu : Tok) (uu : Str → Option Value) h tk it, 1 ≤ sg.length → sg.length ≤ 2 → r.length ≤ 1000 → it.cls = .type "tuple_iterator" →
      Fr h₀ env.locals h (fun y => if y = n2 then some (.str sg tu) else if y = n1 then some (.int (v : Int) tv) else if y = Str.ofString "n" then some (.int (n : Int) t) else if y = Str.ofString "rest" then some (.str (ofL r) u) else if y = Str.ofString "s" then some S else uu y) → News h₀ env.locals h [(I, it)] →
      wpAny (model prog w) A (execs body env) (TurnEnd h₀ env.locals { s with heap := h, toks := tk } I it (FrJ S (eatAll (v, sg.cps.toList) (n, r))) Q) E { s with heap := h, toks := tk })
    (fin : ∀ (uu : Str → Option Value) t u h tk, Fr h₀ env.locals h (fun y => if y = Str.ofString "n" then some (.int (((readAcc x.cps.toList).1 : Nat) : Int) t) else if y = Str.ofString "rest" then some (.str (ofL (readAcc x.cps.toList).2) u) else if y = Str.ofString "s" then some S else uu y) → News h₀ env.locals h [] → Q .next { s with heap := h, toks := tk }) :
    wpAny (model prog w) A (pyIter (.ref 28)) (fun it s₂ => TurnsAt prog w A h₀ env (.Tuple [.Name n1 p1, .Name n2 p2] kk tp) body Q E it s₂) E s := by
  obtain ⟨lo', nn', yk, yc, yd⟩ := num_look w
  have hl : x.cps.toList.length = x.length := by simp [Str.length]
  have holds : ∀ {m : Str → Option Value} {V W : Value}, m (Str.ofString "n") = some V → m (Str.ofString "rest") = some W → m (Str.ofString "s") = some S →
      Holds m [(Str.ofString "n", V), (Str.ofString "rest", W), (Str.ofString "s", S)] := by
    intro m V W g1 g2 g3 p hp
    rcases List.mem_cons.mp hp with rfl | hp
    · exact g1
    rcases List.mem_cons.mp hp with rfl | hp
    · exact g2
    rw [List.mem_singleton.mp hp]; exact g3
  refine iter_kv (P := fun done kv => ∃ n r t u, kv = [(Str.ofString "n", .int ((n : Nat) : Int) t), (Str.ofString "rest", .str (ofL r) u), (Str.ofString "s", S)] ∧ frSt x.cps.toList done = (n, r) ∧ r.length ≤ 1000) ⟨⟩
    [(Str.ofString "n", .int ((0 : Nat) : Int) tn), (Str.ofString "rest", .str (ofL x.cps.toList) tr), (Str.ofString "s", S)] (num_tups X) X yk yc yd (by decide) hh l1 l2 hc F ⟨0, x.cps.toList, tn, tr, rfl, rfl, by omega⟩ (holds e1 (by rw [ofL_toList]; exact e2) e3) ?_ ?_
  · rintro I done a b kv uu h tk it ⟨rest, hs⟩ ⟨n, r, t, u, rfl, hst, hr⟩ hit F₁ N₁
    obtain ⟨hd, v, tv, sg, tu, rfl, rfl, hv, hv2, hg1, hg⟩ := num_item hs
    refine wpAny_mono (turn I n v r sg t u tv tu uu h tk it hg1 hg hr hit F₁ N₁) (fun f s₂ q => ?_) fun _ _ e => e
    have go : (∃ h' tk' m', s₂ = { s with heap := h', toks := tk' } ∧ Fr h₀ env.locals h' m' ∧ News h₀ env.locals h' [(I, it)] ∧ FrJ S (eatAll (v, sg.cps.toList) (n, r)) m') →
        ∃ h' tk' m', s₂ = { s with heap := h', toks := tk' } ∧ Fr h₀ env.locals h' m' ∧ News h₀ env.locals h' [(I, it)] ∧ ∃ kv', (∃ n r t u, kv' = [(Str.ofString "n", .int ((n : Nat) : Int) t), (Str.ofString "rest", .str (ofL r) u), (Str.ofString "s", S)] ∧ frSt x.cps.toList (done ++ [(.int (v : Int) tv, .str sg tu)]) = (n, r) ∧ r.length ≤ 1000) ∧ Holds m' kv' := by
      rintro ⟨h', tk', m', e, F', N', n', r', t', u', g1, g2, g3, g4, g5⟩
      refine ⟨h', tk', m', e, F', N', _, ⟨n', r', t', u', rfl, ?_, g5⟩, holds g1 g2 g3⟩
      rw [frSt_snoc, hst, ← g4]
      rfl
    cases f with
    | ret v => exact q
    | brk => exact q
    | next => exact go q
    | cont => exact go q
  · rintro kv uu h tk ⟨n, r, t, u, rfl, hst, hr⟩ F₁ N₁
    rw [frSt_all] at hst
    refine fin uu t u h tk ?_ N₁
    rw [hst]
    exact F₁

/-- how a turn of the while ends -/
noncomputable def FrEnd (h₀ : Heap) (L : Addr) (s : Shared) (news : List (Addr × Obj)) (S V G : Value) (st : Nat × List Nat) (e : Nat × List Nat) (len : Nat) (Q : Flow → Shared → Prop) (f : Flow) (s₂ : Shared) : Prop :=
  match f with
  | .ret v => Q (.ret v) s₂
  | .brk => Q .next s₂
  | _ => ∃ h' tk m' n r t u, s₂ = { s with heap := h', toks := tk } ∧ Fr h₀ L h' m' ∧ News h₀ L h' news ∧ m' (Str.ofString "n") = some (.int ((n : Nat) : Int) t) ∧ m' (Str.ofString "rest") = some (.str (ofL r) u) ∧ m' (Str.ofString "s") = some S ∧ m' (Str.ofString "value") = some V ∧ m' (Str.ofString "signs") = some G ∧ eatAll e (n, r) = st ∧ r.length < len
theorem FrEnd.next {h₀ h' : Heap} {L : Addr} {s : Shared} {news all : List (Addr × Obj)} {S V G : Value} {st : Nat × List Nat} {v : Nat} {sg : Str} {n : Nat} {r : List Nat} {Q : Flow → Shared → Prop} {tk : Nat} {m' : Str → Option Value} {t u : Tok} (F : Fr h₀ L h' m') (N : News h₀ L h' all) (hm : ∀ p ∈ news, p ∈ all)
    (e1 : m' (Str.ofString "n") = some (.int ((n : Int) + (v : Int)) t)) (e2 : m' (Str.ofString "rest") = some (.str (Txt.removeprefix (ofL r) sg) u)) (e3 : m' (Str.ofString "s") = some S) (e4 : m' (Str.ofString "value") = some V) (e5 : m' (Str.ofString "signs") = some G) (hs : Txt.startswith (ofL r) sg = true) (hg : 1 ≤ sg.length) (hst : eatAll (v, sg.cps.toList) (n, r) = st) :
    FrEnd h₀ L s news S V G st (v, sg.cps.toList) r.length Q .next { s with heap := h', toks := tk } := by
  have hl : sg.cps.toList.length = sg.length := by simp [Str.length]
  rw [starts_eq] at hs
  have hs' : sg.cps.toList.isPrefixOf r = true := hs
  rw [removep] at e2
  have e2' : m' (Str.ofString "rest") = some (.str (ofL (r.drop sg.length)) u) := by
    rw [e2]
    show some (Value.str (ofL (if sg.cps.toList.isPrefixOf r = true then r.drop sg.length else r)) u) = _
    rw [if_pos hs']
  have hlen : sg.cps.toList.length ≤ r.length := (List.isPrefixOf_iff_prefix.mp hs').length_le
  refine ⟨h', tk, m', n + v, r.drop sg.length, t, u, rfl, F, fun p hp => N _ (hm p hp), ?_, e2', e3, e4, e5, ?_, ?_⟩
  · rw [e1]; simp
  · have hne : (v, sg.cps.toList).2 ≠ [] := by
      intro q
      rw [show (v, sg.cps.toList).2 = sg.cps.toList from rfl] at q
      rw [q, List.length_nil] at hl
      omega
    have e := eat_go (e := (v, sg.cps.toList)) (n := n) (r := r) hne hs'
    rw [← hst, e]
    show eatAll _ (n + v, r.drop sg.length) = eatAll _ (n + v, r.drop sg.cps.toList.length)
    rw [hl]
  · rw [List.length_drop]; omega

theorem fr_while {test : PySem.Expr} {pos : Pos} {S : Value} {v n₀ : Nat} {r₀ : List Nat} {sg : Str} {t₀ u₀ tv tu : Tok} {m₀ : Str → Option Value} {news : List (Addr × Obj)}
    (F : Fr h₀ env.locals s.heap m₀) (N : News h₀ env.locals s.heap news) (hr0 : r₀.length ≤ 1000)
    (e1 : m₀ (Str.ofString "n") = some (.int (n₀ : Int) t₀)) (e2 : m₀ (Str.ofString "rest") = some (.str (ofL r₀) u₀)) (e3 : m₀ (Str.ofString "s") = some S) (e4 : m₀ (Str.ofString "value") = some (.int (v : Int) tv)) (e5 : m₀ (Str.ofString "signs") = some (.str sg tu))
    (turn : ∀ (n : Nat) (r : List Nat) (t u : Tok) (uu : Str → Option Value) h tk, r.length ≤ 1000 → eatAll (v, sg.cps.toList) (n, r) = eatAll (v, sg.cps.toList) (n₀, r₀) →
      Fr h₀ env.locals h (fun y => if y = Str.ofString "n" then some (.int (n : Int) t) else if y = Str.ofString "rest" then some (.str (ofL r) u) else if y = Str.ofString "s" then some S else if y = Str.ofString "value" then some (.int (v : Int) tv) else if y = Str.ofString "signs" then some (.str sg tu) else uu y) → News h₀ env.locals h news →
      wpAny (model prog w) A (isTrue test env (eval test env)) (fun b s₂ =>
        if b = true then wpAny (model prog w) A (execs body env) (FrEnd h₀ env.locals s news S (.int (v : Int) tv) (.str sg tu) (eatAll (v, sg.cps.toList) (n₀, r₀)) (v, sg.cps.toList) r.length Q) E s₂ else Q .next s₂) E { s with heap := h, toks := tk })
    (hE : PassesOwn (model prog w) A env E := by passes_own) :
    wpAny (model prog w) A (exec (.While test body [] pos) env) Q E s := by
  refine While_inv2 (n₀ := r₀.length) (fun k m nx => nx = news ∧ ∃ n r t u, k = r.length ∧ m (Str.ofString "n") = some (.int ((n : Nat) : Int) t) ∧ m (Str.ofString "rest") = some (.str (ofL r) u) ∧ m (Str.ofString "s") = some S ∧ m (Str.ofString "value") = some (.int (v : Int) tv) ∧ m (Str.ofString "signs") = some (.str sg tu) ∧ eatAll (v, sg.cps.toList) (n, r) = eatAll (v, sg.cps.toList) (n₀, r₀) ∧ r.length ≤ 1000)
    F N ⟨rfl, n₀, r₀, t₀, u₀, rfl, e1, e2, e3, e4, e5, rfl, hr0⟩ ?_ hE
  rintro k m₁ nx h tk F₁ N₁ ⟨rfl, n, r, t, u, rfl, g1, g2, g3, g4, g5, hst, hr⟩
  have F₂ : Fr h₀ env.locals h (fun y => if y = Str.ofString "n" then some (.int (n : Int) t) else if y = Str.ofString "rest" then some (.str (ofL r) u) else if y = Str.ofString "s" then some S else if y = Str.ofString "value" then some (.int (v : Int) tv) else if y = Str.ofString "signs" then some (.str sg tu) else m₁ y) := by
    have em : (fun y => if y = Str.ofString "n" then some (.int (n : Int) t) else if y = Str.ofString "rest" then some (.str (ofL r) u) else if y = Str.ofString "s" then some S else if y = Str.ofString "value" then some (.int (v : Int) tv) else if y = Str.ofString "signs" then some (.str sg tu) else m₁ y) = m₁ := by
      funext y
      by_cases h1 : y = Str.ofString "n"
      · rw [if_pos h1, h1, g1]
      rw [if_neg h1]
      by_cases h1 : y = Str.ofString "rest"
      · rw [if_pos h1, h1, g2]
      rw [if_neg h1]
      by_cases h1 : y = Str.ofString "s"
      · rw [if_pos h1, h1, g3]
      rw [if_neg h1]
      by_cases h1 : y = Str.ofString "value"
      · rw [if_pos h1, h1, g4]
      rw [if_neg h1]
      by_cases h1 : y = Str.ofString "signs"
      · rw [if_pos h1, h1, g5]
      rw [if_neg h1]
    rw [em]; exact F₁
  refine wpAny_mono (turn n r t u m₁ h tk hr hst F₂ N₁) (fun b s₂ p => ?_) fun _ _ x => x
  cases b with
  | false => simpa using p
  | true =>
    simp only [if_true] at p ⊢
    refine wpAny_mono p (fun f s₃ q => ?_) fun _ _ x => x
    have go : (∃ h' tk' m' n' r' t' u', s₃ = { s with heap := h', toks := tk' } ∧ Fr h₀ env.locals h' m' ∧ News h₀ env.locals h' nx ∧ m' (Str.ofString "n") = some (.int ((n' : Nat) : Int) t') ∧ m' (Str.ofString "rest") = some (.str (ofL r') u') ∧ m' (Str.ofString "s") = some S ∧ m' (Str.ofString "value") = some (.int (v : Int) tv) ∧ m' (Str.ofString "signs") = some (.str sg tu) ∧ eatAll (v, sg.cps.toList) (n', r') = eatAll (v, sg.cps.toList) (n₀, r₀) ∧ r'.length < r.length) → 
        ∃ h' tk m₂ news₂ n', s₃ = { s with heap := h', toks := tk } ∧ Fr h₀ env.locals h' m₂ ∧ News h₀ env.locals h' news₂ ∧ n' < r.length ∧ (news₂ = nx ∧ ∃ n r t u, n' = r.length ∧ m₂ (Str.ofString "n") = some (.int ((n : Nat) : Int) t) ∧ m₂ (Str.ofString "rest") = some (.str (ofL r) u) ∧ m₂ (Str.ofString "s") = some S ∧ m₂ (Str.ofString "value") = some (.int (v : Int) tv) ∧ m₂ (Str.ofString "signs") = some (.str sg tu) ∧ eatAll (v, sg.cps.toList) (n, r) = eatAll (v, sg.cps.toList) (n₀, r₀) ∧ r.length ≤ 1000) := by
      rintro ⟨h', tk', m', n', r', t', u', e, F', N', g1', g2', g3', g4', g5', hst', hlt⟩
      exact ⟨h', tk', m', nx, r'.length, e, F', N', hlt, rfl, n', r', t', u', rfl, g1', g2', g3', g4', g5', hst', by omega⟩
    cases f with
    | ret v => exact q
    | brk => exact q
    | next => exact go q
    | cont => exact go q
end
end Mine
end

section
open PySem PySem.W PySem.Calls PySem.Spec PyProof.Rows
set_option Elab.async false
set_option maxRecDepth 100000
set_option linter.unusedVariables false
namespace Mine
/-- how a def is left that may have caught an exception on its way: the caller's own frame may bear other slots -/
noncomputable def LeaveR (L : Addr) (g : Heap) (P : Value → Shared → Prop) (v : Value) (s' : Shared) : Prop :=
  (∃ g' L' m', KtsTurn [L] g g' ∧ Fr g' L' s'.heap m') ∧ ((∃ g' L' m', KtsTurn [L] g g' ∧ Fr g' L' s'.heap m') → P v s')
theorem turn_fr {h₀ h g' h' : Heap} {L L' : Addr} {m m' : Str → Option Value} (F : Fr h₀ L h m) (T : KtsTurn [L] h g') (F' : Fr g' L' h' m') : Fr h₀ L h' m := by
  obtain ⟨oL, es, ep, hL, hLd, hLk, hLf⟩ := F.ns
  obtain ⟨sl, hs⟩ := T.up hL
  refine ⟨⟨_, es, ep, F'.keep _ _ hs, hLd, hLk, hLf⟩, fun b o e => F'.keep b o (T.other b o (F.keep b o e) fun q => ?_), F.above⟩
  rw [List.mem_singleton.mp q, kts_self F] at e
  cases e
theorem turn_news {h₀ h g' h' : Heap} {L L' : Addr} {m' : Str → Option Value} {news : List (Addr × Obj)} (N : News h₀ L h news) (T : KtsTurn [L] h g') (F' : Fr g' L' h' m') : News h₀ L h' news := by
  intro p hp
  obtain ⟨n1, n2, n3⟩ := N p hp
  exact ⟨F'.keep _ _ (T.other _ _ n1 fun q => n2 (List.mem_singleton.mp q)), n2, n3⟩

section
variable {prog : Program} {w : World} {A₀ A : Around} {s : Shared} {h₀ : Heap} {L : Addr} {m : Str → Option Value} {env : Env}
theorem code_defR {K : Frag} {p : Program} {loose : List Str} {mean : ExcName → Option Value} {mg mb : Str → Option Value} {R : Result → Shared → Prop} {name qual : Str} {params : Arguments} {body : List Stmt} {scope : Scope} {dV kV doc pm cdv ct oc : Value} {an od : Option Addr} {osl : Array (Option Value)} {f : Addr} {args : Args} {binds : List (Str × Value)}
    (B : Below A₀ h₀ [] h₀) (F : Fr h₀ L s.heap m) (X₀ : K.In h₀) (T : Top p loose mean mg mb h₀) (hA : A.frames = some [env]) (hf : env.frame = some L) (hke : env.scope.kind = .function)
    (ho : K.lookup f = some ⟨oc, od, .func (fnOf name qual params body scope dV kV doc pm an cdv ct), osl⟩) (hcd : codeIn K cdv qual = true) (hroom : A.depth < recursionLimit)
    (hbind : BindsTo s (fnOf name qual params body scope dV kV doc pm an cdv ct) args binds) (hloc : ∀ y ∈ binds, scope.names.lookup y.1 = some .local)
    (h : ∀ g L' h₁, g = s.heap → Fr g L' h₁ (fun y => binds.reverse.lookup y) → News g L' h₁ [] → Below A h₀ [env] g → K.In g → Top p loose mean mg mb g → KtsDicts ([env].filterMap (·.frame)) g →
      wpAny (model prog w) (A.deeper (envOf qual scope L' f cdv)) (execs body (envOf qual scope L' f cdv))
        (fun fl s' => LeaveR L g (fun v s' => R (.ok (.ret v)) s') (match fl with | .ret v => v | _ => .none) s')
        (fun e s' => wpAny (model prog w) (A.deeper (envOf qual scope L' f cdv)) (leaving (envOf qual scope L' f cdv) e) (fun _ s'' => R (.error e) s'') (fun e' s'' => R (.error e') s'') s')
        { s with heap := h₁, toks := s.toks + binds.length })
    (hco : scope.isCoroutine = false) (hgen : scope.isGenerator = false) (hk : scope.kind = .function)
    (hcell : ∀ x ∈ scope.names, x.2 ≠ .cell) : codeAny (model prog w) A (.call (.ref f) args) R s := by
  have X := X₀.keeps F.keep
  refine codeAny_call_def (fd := fnOf name qual params body scope dV kV doc pm an cdv ct) (body := body) (binds := binds) hroom (X _ _ ho) rfl (T.nolimit.keeps F.keep) (codeRec_of X hcd) rfl hbind hcell hloc (fun h₁ hns hk₁ => ?_) hco hgen hk
  obtain ⟨oL, es, ep, hL, hLd, hLk, hLf⟩ := F.ns
  refine wpAny_mono (h s.heap s.heap.objs.size h₁ rfl ⟨hns, hk₁, Nat.le_refl _⟩ News.nil ⟨hA, fun b o e => F.keep b o e, (pushX B F hf hke).frames⟩ X (T.keeps F.keep) (fun b hb => ?_)) (fun fl s' hl => hl.2 hl.1) fun _ _ y => y
  have hb' : b ∈ [L] := by
    have e : [env].filterMap (·.frame) = [L] := by simp [hf]
    rw [e] at hb
    exact hb
  rw [List.mem_singleton.mp hb']
  exact ⟨oL, es, ep, hL, hLd⟩
end

/-- the contract of a def that catches: called by the law itself -/
noncomputable def SpecR (d : Nat) (w : World) (mean : ExcName → Option Value) (mg mb : Str → Option Value) (f : Addr) (vs : List Value) (R : Value → Prop) : Prop :=
  ∀ (dp un : Nat) (gd : Option (List Code)) (cn : Str) (cs : Scope) (a : Addr) (ccd : Value) (cl : List (Str × Addr)) (A₀ : Around) (h₀ : Heap) (L : Addr) (m : Str → Option Value) (s : Shared) (Q E : Value → Shared → Prop) (news : List (Addr × Obj)),
    Below A₀ h₀ [] h₀ → Fr h₀ L s.heap m → (Mine.hd.heap_39 w.params).In h₀ → News h₀ L s.heap news → Top Mine.hd.view_39 (looseW Mine.hd.view_39 []) mean mg mb h₀ → cs.kind = .function → dp + d < recursionLimit → un + 20 * d < cLine →
    (∀ v h' tk', R v → Fr h₀ L h' m → News h₀ L h' news → Q v { s with heap := h', toks := tk' }) →
    wpAny (model PySem.Challenge.rw_sx_yscribe_1.row.prog w) (ktrTop dp un gd cn cs L a ccd cl []) (call (.ref f) vs) Q E s

theorem LeaveR.ret {L L' : Addr} {h₀ g g' h' : Heap} {m m' : Str → Option Value} {news : List (Addr × Obj)} {s : Shared} {Q : Value → Shared → Prop} {v : Value} {R : Value → Prop} {tk : Nat} (F : Fr h₀ L s.heap m) (N : News h₀ L s.heap news) (hg : g = s.heap)
    (hret : ∀ v h' tk', R v → Fr h₀ L h' m → News h₀ L h' news → Q v { s with heap := h', toks := tk' }) (hv : R v) (T : KtsTurn [L] g g') (F' : Fr g' L' h' m') : LeaveR L g Q v { s with heap := h', toks := tk } := by
  subst hg
  exact ⟨⟨g', L', m', T, F'⟩, fun _ => hret v h' tk hv (turn_fr F T F') (turn_news N T F')⟩
end Mine
end

section
open PySem PySem.W PySem.Calls PySem.Spec PyProof.Rows
set_option Elab.async false
set_option maxRecDepth 100000
set_option maxHeartbeats 8000000
set_option linter.unusedVariables false
namespace Mine
theorem fr_stop {S : Value} {m' : Str → Option Value} {v n n0 : Nat} {r r0 : List Nat} {sg : Str} {t u : Tok} (e1 : m' (Str.ofString "n") = some (.int ((n : Nat) : Int) t)) (e2 : m' (Str.ofString "rest") = some (.str (ofL r) u)) (e3 : m' (Str.ofString "s") = some S) (he : eatAll (v, sg.cps.toList) (n, r) = eatAll (v, sg.cps.toList) (n0, r0)) (hs : Txt.startswith (ofL r) sg = false) (hr : r.length ≤ 1000) :
    FrJ S (eatAll (v, sg.cps.toList) (n0, r0)) m' := by
  refine ⟨n, r, t, u, e1, e2, e3, ?_, hr⟩
  rw [starts_eq] at hs
  have hs' : (v, sg.cps.toList).2.isPrefixOf r = false := hs
  rw [← he, eat_stop hs']
theorem none_due {l : List Nat} (h : readL l = none) : dueL l = 0 := by
  rw [read_due] at h
  by_cases e : dueL l = 0
  · exact e
  · rw [if_neg e] at h; cases h
theorem some_due {l : List Nat} {n : Nat} (h : readL l = some n) : dueL l = n := by
  rw [read_due] at h
  by_cases e : dueL l = 0
  · rw [if_pos e] at h; cases h
  · rw [if_neg e] at h; exact Option.some.inj h
theorem len_list (x : Str) : x.cps.toList.length = x.length := by simp [Str.length]
theorem due_long {x : Str} (h : (15 : Int) < (x.length : Int)) : dueL x.cps.toList = 0 := by
  refine none_due ?_
  unfold readL
  rw [if_pos (by rw [len_list]; omega)]
theorem due_lo {x : Str} (h1 : ¬ (15 : Int) < (x.length : Int)) (h : ¬ (1 : Int) ≤ ((readAcc x.cps.toList).1 : Int)) : dueL x.cps.toList = 0 := by
  refine none_due ?_
  unfold readL
  rw [if_neg (by rw [len_list]; omega), if_neg]
  rintro ⟨a, b, c⟩
  omega
theorem due_hi {x : Str} (h1 : ¬ (15 : Int) < (x.length : Int)) (h : ¬ ((readAcc x.cps.toList).1 : Int) ≤ 3999) : dueL x.cps.toList = 0 := by
  refine none_due ?_
  unfold readL
  rw [if_neg (by rw [len_list]; omega), if_neg]
  rintro ⟨a, b, c⟩
  omega
theorem num_is {x : Str} {n : Nat} (h : n ≤ 3999) : numS (n : Int) = ofL (romanL n) := by
  unfold numS
  rw [Int.toNat_natCast, roman_numeral (by omega)]
theorem due_other {x : Str} (h1 : ¬ (15 : Int) < (x.length : Int)) (h2 : ((readAcc x.cps.toList).1 : Int) ≤ 3999) (h : (numS ((readAcc x.cps.toList).1 : Int) != x) = true) : dueL x.cps.toList = 0 := by
  refine none_due ?_
  unfold readL
  rw [if_neg (by rw [len_list]; omega), if_neg]
  rintro ⟨a, b, c⟩
  rw [num_is (x := x) b, c, ofL_toList] at h
  simp at h
theorem due_got {x : Str} (h1 : ¬ (15 : Int) < (x.length : Int)) (h3 : (1 : Int) ≤ ((readAcc x.cps.toList).1 : Int)) (h2 : ((readAcc x.cps.toList).1 : Int) ≤ 3999) (h : (numS ((readAcc x.cps.toList).1 : Int) != x) = false) : dueL x.cps.toList = (readAcc x.cps.toList).1 := by
  refine some_due ?_
  unfold readL
  rw [if_neg (by rw [len_list]; omega), if_pos]
  refine ⟨by omega, by omega, ?_⟩
  have e : numS ((readAcc x.cps.toList).1 : Int) = x := by
    rw [bne] at h
    exact eq_of_beq (by revert h; cases (numS ((readAcc x.cps.toList).1 : Int) == x) <;> simp)
  rw [num_is (x := x) (by omega)] at e
  have := congrArg (fun y : Str => y.cps.toList) e
  exact this
theorem dn1 {k : Nat} (hd : k = 0) (h : (true != ((k : Int) == 0)) = true) : False := by
  subst hd; revert h; decide
theorem dn2 {k : Nat} (hd : k = 0) (h : (0 : Int) ≠ (k : Int)) : False := h (by rw [hd]; rfl)
theorem dn3 {k n : Nat} (hd : k = n) (hn : (1 : Int) ≤ (n : Int)) (h : (false != ((k : Int) == 0)) = true) : False := by
  have e : ((k : Int) == 0) = true := by revert h; cases ((k : Int) == 0) <;> simp
  have := eq_of_beq e
  omega
theorem dn4 {k n : Nat} (hd : k = n) (h : (n : Int) ≠ (k : Int)) : False := h (by rw [hd])
section
section
variable {w : World} {mean : ExcName → Option Value} {mg mb : Str → Option Value}
theorem spec_read (x : Str) (t : Tok) (hx : x.length ≤ 1000) : SpecR 3 w mean mg mb 130 [.str x t] (fun v => v = Value.bool true) := by
  w_top off
  k_with_none
  have hload : PySem.Challenge.rw_sx_yscribe_1.name = PySem.Challenge.rw_sx_yscribe_1.name ∧ Mine.hd.heap_39 w.params = Mine.hd.heap_39 w.params := by
    k_fill
    exact ⟨rfl, rfl⟩
  clear hload
  unfold SpecR
  intro dp un gd cn cs a ccd cl A₀ h₀ L m s Q E news B F X N T hk hdp hun hret
  refine wpAny_call ?_
  k_dflt (refine' code_defR ?k1 ?k2 ?k3 ?k5 ?kA ?kF ?kK ?k6 ?k7 ?k8 ?k9 ?kB ?_ ?c2 ?c3 ?c4 ?c5; (case kA => exact rfl); (case kF => exact rfl); (case kK => assumption); (case k1 => k_asm); (case k2 => k_asm); (case k3 => k_asm); (case k5 => k_asm); (case k6 => k_is); (case k7 => k_is); (case k8 => ktr_room); (case k9 => exact BindsTo.of_eq rfl); (case c5 => decide); (case kB => exact locs rfl); (case c2 => exact rfl); (case c3 => exact rfl); (case c4 => exact rfl); k_whole; intro g' L' h' G' F' N' B' X' T' D'; (try dsimp only); (try k_fold))
  repeat' (first | (k_unfold; (try dsimp only)) | (k_end; wrow_close) | ((with_reducible show wpAny _ _ (call (Value.ref _) _) _ _ _); (first | with_reducible (k_here; (with_reducible show wpAny _ _ (call (Value.ref 91) _) _ _ _); k_dflt (refine wpAny_call ?_; (refine' code_def ?k1 ?k2 ?k3 ?k4 ?k5 ?kA ?kF ?kK ?k6 ?k7 ?k8 ?k9 ?kB ?_ ?c2 ?c3 ?c4 ?c5; (case kA => exact rfl); (case kF => exact rfl); (case kK => exact rfl); (case k1 => k_asm); (case k2 => k_asm); (case k3 => k_asm); (case k4 => k_asm); (case k5 => k_asm); (case k6 => k_is); (case k7 => k_is); (case k8 => ktr_room); (case k9 => exact BindsTo.of_eq rfl); (case c5 => decide); (case kB => exact locs rfl); (case c2 => exact rfl); (case c3 => exact rfl); (case c4 => exact rfl); k_whole; intro g' L' h' FG' F' N' B' X' T'; (try dsimp only); (try k_lift B'); (try k_fold)))) | with_reducible ((k_dflt (refine' Spec.use (spec_due _ _ (by with_reducible assumption)) ?k1 ?k2 ?k3 ?k4 ?k5 ?kK ?kd ?ku ?_; (case k1 => k_asm); (case k2 => k_asm); (case k3 => k_asm); (case k4 => k_asm); (case k5 => k_asm); (case kK => first | exact rfl | assumption); (case kd => ktr_room); (case ku => ktr_units))); intro v' h' tk' hv' hk' F' N'; (obtain ⟨tk9', hv9'⟩ := hv'); (subst hv9'); (try dsimp only); (try k_fold); (try k_sweep)))) | ((with_reducible show wpAny _ _ (exec (PySem.Stmt.While _ _ _ _) _) _ _ _); with_reducible (k_here; (with_unfolding_all refine fr_while (by k_asm) (by k_asm) (by with_reducible assumption) rfl rfl rfl rfl rfl ?_); (all_goals intros))) | with_reducible (k_here; (with_reducible show wpAny _ _ (pyIter (Value.ref 28)) (fun it s₂ => TurnsAt _ _ _ _ _ _ _ _ _ it s₂) _ _); (with_unfolding_all refine fr_iter (by with_reducible assumption) (by k_asm) (by k_asm) rfl rfl rfl rfl rfl rfl rfl ?_ ?_); (all_goals intros)) | walk1 | (dsimp only; walk1) | (leave1; walk_say "STEP leave1"; try dsimp only) | fail "no step")
  · exact (dn1 (due_long (by with_reducible assumption)) (by with_reducible assumption)).elim
  · exact (dn2 (due_long (by with_reducible assumption)) (by with_reducible assumption)).elim
  · with_unfolding_all exact LeaveR.ret F N G' hret rfl (by assumption) (by k_asm)
  · exact FrEnd.next (by k_asm) (by k_asm) (fun _ h => h) rfl rfl rfl rfl rfl (by with_reducible assumption) (by with_reducible assumption) (by with_reducible assumption)
  · exact TurnEnd.next (by k_asm) (by k_asm) (List.Mem.head _) (fr_stop rfl rfl rfl (by with_reducible assumption) (by with_reducible assumption) (by with_reducible assumption))
  · k_dflt (refine' Spec.use (spec_roman _ _ ⟨by omega, by omega⟩) ?k1 ?k2 ?k3 ?k4 ?k5 ?kK ?kd ?ku ?_; (case k1 => k_asm); (case k2 => k_asm); (case k3 => k_asm); (case k4 => k_asm); (case k5 => k_asm); (case kK => first | exact rfl | assumption); (case kd => ktr_room); (case ku => ktr_units))
    intro v' h' tk' hv' hk' F' N'
    obtain ⟨tk9', hv9'⟩ := hv'
    subst hv9'
    try dsimp only
    try k_fold
    try k_sweep
    repeat' (first | (k_unfold; (try dsimp only)) | (k_end; wrow_close) | ((with_reducible show wpAny _ _ (call (Value.ref _) _) _ _ _); (first | with_reducible (k_here; (with_reducible show wpAny _ _ (call (Value.ref 91) _) _ _ _); k_dflt (refine wpAny_call ?_; (refine' code_def ?k1 ?k2 ?k3 ?k4 ?k5 ?kA ?kF ?kK ?k6 ?k7 ?k8 ?k9 ?kB ?_ ?c2 ?c3 ?c4 ?c5; (case kA => exact rfl); (case kF => exact rfl); (case kK => exact rfl); (case k1 => k_asm); (case k2 => k_asm); (case k3 => k_asm); (case k4 => k_asm); (case k5 => k_asm); (case k6 => k_is); (case k7 => k_is); (case k8 => ktr_room); (case k9 => exact BindsTo.of_eq rfl); (case c5 => decide); (case kB => exact locs rfl); (case c2 => exact rfl); (case c3 => exact rfl); (case c4 => exact rfl); k_whole; intro g' L' h' FG' F' N' B' X' T'; (try dsimp only); (try k_lift B'); (try k_fold)))) | with_reducible ((k_dflt (refine' Spec.use (spec_due _ _ (by with_reducible assumption)) ?k1 ?k2 ?k3 ?k4 ?k5 ?kK ?kd ?ku ?_; (case k1 => k_asm); (case k2 => k_asm); (case k3 => k_asm); (case k4 => k_asm); (case k5 => k_asm); (case kK => first | exact rfl | assumption); (case kd => ktr_room); (case ku => ktr_units))); intro v' h' tk' hv' hk' F' N'; (obtain ⟨tk9', hv9'⟩ := hv'); (subst hv9'); (try dsimp only); (try k_fold); (try k_sweep)))) | ((with_reducible show wpAny _ _ (exec (PySem.Stmt.While _ _ _ _) _) _ _ _); with_reducible (k_here; (with_unfolding_all refine fr_while (by k_asm) (by k_asm) (by with_reducible assumption) rfl rfl rfl rfl rfl ?_); (all_goals intros))) | with_reducible (k_here; (with_reducible show wpAny _ _ (pyIter (Value.ref 28)) (fun it s₂ => TurnsAt _ _ _ _ _ _ _ _ _ it s₂) _ _); (with_unfolding_all refine fr_iter (by with_reducible assumption) (by k_asm) (by k_asm) rfl rfl rfl rfl rfl rfl rfl ?_ ?_); (all_goals intros)) | walk1 | (dsimp only; walk1) | (leave1; walk_say "STEP leave1"; try dsimp only) | fail "no step")
    · exact (dn1 (due_other (by with_reducible assumption) (by with_reducible assumption) (by with_reducible assumption)) (by with_reducible assumption)).elim
    · exact (dn2 (due_other (by with_reducible assumption) (by with_reducible assumption) (by with_reducible assumption)) (by with_reducible assumption)).elim
    · with_unfolding_all exact LeaveR.ret F N G' hret rfl (by assumption) (by k_asm)
    · exact (dn3 (due_got (by with_reducible assumption) (by with_reducible assumption) (by with_reducible assumption) (by with_reducible assumption)) (by with_reducible assumption) (by with_reducible assumption)).elim
    · exact (dn4 (due_got (by with_reducible assumption) (by with_reducible assumption) (by with_reducible assumption) (by with_reducible assumption)) (by with_reducible assumption)).elim
    · with_unfolding_all exact LeaveR.ret F N G' hret rfl KtsTurn.refl (by k_asm)
  · exact (dn1 (due_hi (by with_reducible assumption) (by with_reducible assumption)) (by with_reducible assumption)).elim
  · exact (dn2 (due_hi (by with_reducible assumption) (by with_reducible assumption)) (by with_reducible assumption)).elim
  · with_unfolding_all exact LeaveR.ret F N G' hret rfl (by assumption) (by k_asm)
  · exact (dn1 (due_lo (by with_reducible assumption) (by with_reducible assumption)) (by with_reducible assumption)).elim
  · exact (dn2 (due_lo (by with_reducible assumption) (by with_reducible assumption)) (by with_reducible assumption)).elim
  · with_unfolding_all exact LeaveR.ret F N G' hret rfl (by assumption) (by k_asm)
end
end
end Mine
end

section
open PySem PySem.W PySem.Calls PySem.Spec PyProof.Rows
set_option Elab.async false
set_option maxRecDepth 100000
set_option linter.unusedVariables false
namespace Mine
theorem SpecR.use {d : Nat} {w : World} {mean : ExcName → Option Value} {mg mb : Str → Option Value} {f : Addr} {vs : List Value} {R : Value → Prop} {dp un : Nat} {gd : Option (List Code)} {cn : Str} {cs : Scope} {a : Addr} {ccd : Value} {cl : List (Str × Addr)} {A₀ : Around} {h₀ : Heap} {L : Addr} {m : Str → Option Value} {s : Shared} {Q E : Value → Shared → Prop} {news : List (Addr × Obj)}
    (S : SpecR d w mean mg mb f vs R) (B : Below A₀ h₀ [] h₀) (F : Fr h₀ L s.heap m) (X : (Mine.hd.heap_39 w.params).In h₀) (N : News h₀ L s.heap news) (T : Top Mine.hd.view_39 (looseW Mine.hd.view_39 []) mean mg mb h₀) (hk : cs.kind = .function) (hdp : dp + d < recursionLimit) (hun : un + 20 * d < cLine)
    (h : ∀ v h' tk', R v → Fr h₀ L h' m → News h₀ L h' news → Q v { s with heap := h', toks := tk' }) :
    wpAny (model PySem.Challenge.rw_sx_yscribe_1.row.prog w) (ktrTop dp un gd cn cs L a ccd cl []) (call (.ref f) vs) Q E s :=
  S dp un gd cn cs a ccd cl A₀ h₀ L m s Q E news B F X N T hk hdp hun h
theorem Spec.to {d : Nat} {w : World} {mean : ExcName → Option Value} {mg mb : Str → Option Value} {f : Addr} {vs : List Value} {x y : Str} (S : Spec d w mean mg mb f vs (IsS x)) (e : x = y) : Spec d w mean mg mb f vs (IsS y) := e ▸ S
/-- a text of n signs at most, all ASCII -/
noncomputable def IsShort (n : Nat) : Heap → Value → Heap → Prop := fun _ v _ => ∃ x u, v = .str x u ∧ Short n x
theorem Spec.short {d n : Nat} {w : World} {mean : ExcName → Option Value} {mg mb : Str → Option Value} {f : Addr} {vs : List Value} (S : Spec d w mean mg mb f vs (IsAsc n)) : Spec d w mean mg mb f vs (IsShort n) :=
  fun dp un gd cn cs a ccd cl outer A₀ base h₀ L m s Q E B F X T hk hdp hun hret => S dp un gd cn cs a ccd cl outer A₀ base h₀ L m s Q E B F X T hk hdp hun
    fun v h' tk' ⟨x, u, e, h1, h2⟩ hk => hret v h' tk' ⟨x, u, e, h1, h2⟩ hk
theorem num_short {n : Int} (h : RomIn n) : Short 15 (numS n) := ⟨numS_asc n, (numS_len h.lo h.hi).2⟩
theorem short_map {n : Nat} {f : Nat → Nat} {x : Str} (hf : ∀ c, c < 128 → f c < 128) (h : Short n x) : Short n (mapS f x) := ⟨mapS_asc hf h.1, by rw [mapS_len]; exact h.2⟩
section
variable {w : World} {mean : ExcName → Option Value} {mg mb : Str → Option Value}
theorem sp_numeral (n : Int) (t : Tok) (h : RomIn n) : Spec 1 w mean mg mb 116 [.int n t] (IsS (numS n)) := spec_numeral n t h.lo h.hi
theorem sp_whisper (n : Int) (t : Tok) (h : RomIn n) : Spec 1 w mean mg mb 42 [.str (numS n) t] (IsS (mapS swapC (numS n))) := (spec_whispered (numS n) t (by have := (num_short h).2; omega)).to (numS_lower n)
theorem sp_shout (n : Int) (t : Tok) (h : RomIn n) : Spec 1 w mean mg mb 35 [.str (mapS swapC (numS n)) t] (IsS (numS n)) := (spec_shouted _ t (by rw [mapS_len]; have := (num_short h).2; omega)).to (numS_upper n)
theorem sp_damaged (n k p q : Int) (t t1 t2 t3 : Tok) (h : RomIn n) : Spec 1 w mean mg mb 137 [.str (numS n) t, .int k t1, .int p t2, .int q t3] (IsShort 60) :=
  (spec_damaged (numS n) k p q t t1 t2 t3 (num_short h) (numS_len h.lo h.hi).1 (numS_len h.lo h.hi).2).short
theorem sp_stem (k x1 x2 x3 x4 : Int) (t1 t3 t4 t5 t6 : Tok) : Spec 1 w mean mg mb 144 [.int k t1, .int x1 t3, .int x2 t4, .int x3 t5, .int x4 t6] (IsShort 4) := (spec_stem k x1 x2 x3 x4 t1 t3 t4 t5 t6).short
theorem sp_seal0 (x : Str) (t t2 : Tok) (h : Short 200 x) : Spec 1 w mean mg mb 151 [.str x t, .int 0 t2] (IsS (mapS swapC x)) := (spec_sealed x 0 t t2 h (by decide)).to (seal0 x)
theorem sp_mirror (x : Str) (t : Tok) (h : Short 200 x) : Spec 1 w mean mg mb 49 [.str x t] (IsS (mapS swapC x)) := (spec_mirrored_case x t (by have := h.2; omega)).to (swapcase_is h.1)
theorem sp_mirror2 (x : Str) (t : Tok) (h : Short 200 x) : Spec 1 w mean mg mb 49 [.str (mapS swapC x) t] (IsS x) :=
  (spec_mirrored_case _ t (by rw [mapS_len]; have := h.2; omega)).to (by rw [swapcase_is (mapS_asc (fun c => swap_lt) h.1), unswap])
theorem sp_secret (x : Str) (k : Nat) (t t2 : Tok) (h : Short 200 x) (hk : k < 26) : Spec 2 w mean mg mb 77 [.str (mapS swapC x) t, .int (k : Int) t2] (IsS (mapS (sealC k) x)) :=
  (spec_shifted _ k t t2 (short_map (fun c => swap_lt) h) hk).to (sealK k x)
theorem sp_open (x : Str) (k : Nat) (t t2 : Tok) (h : Short 200 x) (hk : k < 26) : Spec 2 w mean mg mb 77 [.str (mapS (sealC k) x) t, .int (((26 - k) % 26 : Nat) : Int) t2] (IsS (mapS swapC x)) :=
  (spec_shifted _ ((26 - k) % 26) t t2 (short_map (fun c => seal_lt) h) (by omega)).to (unsealed hk x)
theorem sp_unmark (x : Str) (t : Tok) (h : Short 200 x) : Spec 1 w mean mg mb 63 [.str x t] (IsS (Txt.removesuffix (Txt.removeprefix x (Str.ofString "- ")) (Str.ofString ";"))) := spec_without_mark x t (by have := h.2; omega)
theorem sp_bare (x : Str) (t : Tok) (h : Short 200 x) : Spec 1 w mean mg mb 158 [.str x t] (IsS (Txt.removesuffix (Txt.removeprefix x (Str.ofString "- ")) (Str.ofString ";"))) := spec_bare x t (by have := h.2; omega)
end
theorem ne_self {x : Str} {P : Prop} (h : (x != x) = true) : P := by simp at h
section
variable {prog : Program} {w : World} {A : Around} {E : Value → Shared → Prop} {s : Shared} {Q : Value → Shared → Prop}
theorem mod26 {a : Int} {t u : Tok} (h : ∀ k : Nat, k < 26 → (k : Int) = a.fmod 26 → Q (.int (k : Int) s.toks) { s with toks := s.toks + 1 }) : wpAny (model prog w) A (binaryOp .Mod (.int a t) (.int 26 u)) Q E s := by
  refine mod_int' (by decide) ?_
  have h0 : 0 ≤ a.fmod 26 := Int.fmod_nonneg_of_pos a (by decide)
  have h1 : a.fmod 26 < 26 := Int.fmod_lt_of_pos a (by decide)
  have := h (a.fmod 26).toNat (by omega) (by omega)
  rw [Int.toNat_of_nonneg h0] at this
  exact this
theorem back26 {k : Nat} {t u : Tok} (hk : k < 26) (h : Q (.int (((26 - k) % 26 : Nat) : Int) s.toks) { s with toks := s.toks + 1 }) : wpAny (model prog w) A (binaryOp .Mod (.int (26 - (k : Int)) t) (.int 26 u)) Q E s := by
  refine mod_int' (by decide) ?_
  have e : (26 - (k : Int)).fmod 26 = (((26 - k) % 26 : Nat) : Int) := by
    rw [Int.fmod_eq_emod_of_nonneg _ (by omega)]
    omega
  rw [e]
  exact h
end
end Mine
end

section
open PySem PySem.W PySem.Calls PySem.Spec PyProof.Rows
set_option Elab.async false
set_option maxRecDepth 100000
set_option maxHeartbeats 2000000
set_option linter.unusedVariables false
namespace Mine
theorem one_of_key : ∀ {l : List (Int × Int)} {k v v' : Int}, (l.map (·.1)).Nodup → (k, v) ∈ l → (k, v') ∈ l → v = v'
  | [], _, _, _, _, h, _ => nomatch h
  | (a, b) :: l, k, v, v', hn, h, h' => by
    rw [List.map_cons, List.nodup_cons] at hn
    rcases List.mem_cons.mp h with e | h
    · rcases List.mem_cons.mp h' with e' | h'
      · rw [← e] at e'; exact (Prod.mk.inj e').2.symm
      · exact absurd (List.mem_map_of_mem (f := (·.1)) h') (by have := (Prod.mk.inj e).1; subst this; exact hn.1)
    · rcases List.mem_cons.mp h' with e' | h'
      · exact absurd (List.mem_map_of_mem (f := (·.1)) h) (by have := (Prod.mk.inj e').1; subst this; exact hn.1)
      · exact one_of_key hn.2 h h'
theorem hits_of {A : Around} {s : Shared} {kb : List (Int × Value)} {pb : List (Int × Int)} (tb : Tab kb pb) (hn : (pb.map (·.1)).Nodup) {ka : List (Int × Value)} {pa : List (Int × Int)} (ta : Tab ka pa) (hs : ∀ p ∈ pa, p ∈ pb) : KeqHits A s kb ka true := by
  induction ta with
  | nil => exact .nil
  | @cons k v t kvs ps _ ih =>
    have hm : (k, v) ∈ pb := hs _ (List.mem_cons_self ..)
    rcases tb.at k with ⟨_, h2⟩ | ⟨v', t', h1, h2⟩
    · exact absurd (List.mem_map_of_mem (f := (·.1)) hm) h2
    · have e : v = v' := one_of_key hn hm h2
      subst e
      have := KeqHits.hit (A := A) (s := s) (kb := kb) h1 (SeqAt.EqAt.int_int v t v t') (ih fun p hp => hs p (List.mem_cons_of_mem _ hp))
      simpa using this
section
variable {prog : Program} {w : World} {A : Around} {E : Value → Shared → Prop} {s : Shared} {h₀ : Heap} {L : Addr} {m : Str → Option Value} {news : List (Addr × Obj)}
theorem dicts_ne {a b : Addr} {ka kb : List (Int × Value)} {k : Nat} {Q : Value → Shared → Prop} (ta : Tab ka (smallPs k ++ capPs k)) (tb : Tab kb (capPs k ++ smallPs k)) (ha : (a == sysModules) = false) (hb : (b == sysModules) = false)
    (da : s.heap.DictOf (intKind prog w) a ka) (db : s.heap.DictOf (intKind prog w) b kb) (hu : A.units < cLine) (h : Q (.bool false) s) : wpAny (model prog w) A (compareOp .NotEq (.ref a) (.ref b)) Q E s := by
  refine keq_ne (r := true) ha hb da db hu (fun _ => hits_of tb (table_nodup k) ta fun p hp => ?_) ?_
  · rcases List.mem_append.mp hp with h | h
    · exact List.mem_append_right _ h
    · exact List.mem_append_left _ h
  · have e : ka.length = kb.length := by rw [ta.length, tb.length, List.length_append, List.length_append, Nat.add_comm]
    rw [e]
    simpa using h
theorem Made.size {ys : List Value} {ps : List (Int × Int)} {nw : List (Addr × Obj)} (x : Made ys ps nw) : ys.length = ps.length := by
  induction x with
  | nil => rfl
  | snoc _ ih => rw [List.length_append, List.length_append, ih]; rfl
theorem Made.size26 {ys : List Value} {c k : Nat → Int} {nw : List (Addr × Obj)} (x : Made ys ((List.range 26).map fun i => (c i, k i)) nw) : ys.length = 26 := by
  rw [x.size, List.length_map, List.length_range]
theorem sum_lists {D1 D2 : Addr} {ys1 ys2 : List Value} {all : List (Addr × Obj)} {Q : Value → Shared → Prop} (F : Fr h₀ L s.heap m) (N : News h₀ L s.heap all) (m1 : (D1, LCg.lst ys1) ∈ all) (m2 : (D2, LCg.lst ys2) ∈ all) (hz : ys1.length + ys2.length ≤ sizeLine)
    (h : ∀ D h', h'.get? D = some { cls := .type "list", data := .seq (ys1 ++ ys2).toArray } → (∀ b o, s.heap.get? b = some o → h'.get? b = some o) → Fr h₀ L h' m → News h₀ L h' all → Q (.ref D) { s with heap := h' }) :
    wpAny (model prog w) A (binaryOp .Add (.ref D1) (.ref D2)) Q E s := by
  have e : ys1.toArray ++ ys2.toArray = (ys1 ++ ys2).toArray := by simp
  refine concat_meets ⟨_, (N _ m1).1, rfl⟩ ⟨_, (N _ m2).1, rfl⟩ noFill_list_add seq_list_add PySem.F.slot_list_add PySem.F.entry_list_add (PySem.F.args_list_add_2 _ _) (list_addW D1 D2 ys1.toArray ys2.toArray _ _ _ _ _ _ (by simpa using hz)) ⟨(N _ m1).1, (N _ m2).1, ?_⟩
  rw [e]
  have up : ∀ b o, s.heap.get? b = some o → (s.heap.push { cls := .type "list", data := .seq (ys1 ++ ys2).toArray }).get? b = some o := fun b o q => Heap.get?_push_of_some _ q
  exact h _ _ (Heap.get?_push_size _ rfl) up (F.keeps up) (N.grown up)
theorem dict_sum {l : Addr} {ys1 ys2 : List Value} {ps1 ps2 : List (Int × Int)} {nw1 nw2 all : List (Addr × Obj)} {Q : Value → Shared → Prop} (hbig : sysModules < h₀.objs.size) (F : Fr h₀ L s.heap m) (N : News h₀ L s.heap all) (hh : A.handled = none)
    (hl : s.heap.get? l = some { cls := .type "list", data := .seq (ys1 ++ ys2).toArray }) (M1 : Made ys1 ps1 nw1) (M2 : Made ys2 ps2 nw2) (s1 : ∀ p ∈ nw1, p ∈ all) (s2 : ∀ p ∈ nw2, p ∈ all) (hn : ((ps1 ++ ps2).map (·.1)).Nodup) (hsz : (ps1 ++ ps2).length ≤ 1000)
    (h : ∀ D kvs h' tk, (D == sysModules) = false → Tab kvs (ps1 ++ ps2) → h'.DictOf (intKind prog w) D kvs → (∀ b o, s.heap.get? b = some o → h'.get? b = some o) → Fr h₀ L h' m → News h₀ L h' all → Q (.ref D) { s with heap := h', toks := tk }) :
    wpAny (model prog w) A (call (.type "dict") [.ref l]) Q E s :=
  dict_pairs hh hl ((M1.pairs fun p hp => (N p (s1 p hp)).1).append (M2.pairs fun p hp => (N p (s2 p hp)).1)) hn hsz fun kvs h' tk ht hd hk =>
    h _ kvs h' tk (F.notModules hbig) ht hd hk (F.keeps hk) (N.grown hk)
end
section
variable {prog : Program} {w : World} {A : Around} {h₀ : Heap} {L : Addr} {m : Str → Option Value} {env : Env} {elt : PySem.Expr} {x : Str} {scope : Scope} {cl : List (Str × Addr)} {s : Shared} {Fin : List Value → List (Addr × Obj) → Prop} {news : List (Addr × Obj)}
/-- what a turn of the comprehension leaves -/
noncomputable def PairEnd (c : Int) (k i : Nat) (nwn : List (Addr × Obj)) (y : Value) (news' : List (Addr × Obj)) : Prop := ∃ T t u, y = .ref T ∧ news' = (T, pairObj (c + (i : Int)) (c + (((i + k) % 26 : Nat) : Int)) t u) :: nwn
theorem pairs26 (c : Int) {k : Nat} (hk : k < 26)
    (turn : ∀ (i : Nat) t I oI C oC D m₂ ys nw h tk (E' : Value → Shared → Prop), i < 26 → LCg.NsObj oC m₂ → m₂ x = some (.int (0 + (i : Int)) t) → Fr h₀ L h m → News h₀ L h ((I, oI) :: (C, oC) :: (D, LCg.lst ys) :: (nw ++ news)) → LCg.Off3 I C D (nw ++ news) → ((@Ne Nat I C) ∧ (@Ne Nat I D) ∧ (@Ne Nat C D)) →
      wpAny (model prog w) A (eval elt (compEnvC scope cl C env)) (LCg.CompEnd h₀ L m { s with heap := h, toks := tk } I oI C oC D (LCg.lst ys) (fun _ => True) (PairEnd c k i (nw ++ news))) E' { s with heap := h, toks := tk })
    (fin : ∀ ys nw, Made ys ((List.range 26).map fun (i : Nat) => (c + (i : Int), c + (((i + k) % 26 : Nat) : Int))) nw → Fin ys (nw ++ news)) :
    LCg.CompRest prog w A h₀ L m env elt x scope cl s (fun _ => True) (fun i v => ∃ t, v = .int (0 + (i : Int)) t) Fin 26 0 [] news :=
  pairs_rest (fun (i : Nat) => (c + (i : Int), c + (((i + k) % 26 : Nat) : Int))) turn fin
theorem pair_end {c a b : Int} {k i : Nat} {nwn : List (Addr × Obj)} {I C D T : Addr} {oI oC oD : Obj} {s₁ : Shared} {h' : Heap} {tk : Nat} {t u : Tok} (F : Fr h₀ L h' m) (N : News h₀ L h' ((T, pairObj a b t u) :: (I, oI) :: (C, oC) :: (D, oD) :: nwn)) (off : LCg.Off3 I C D nwn) (h1 : (@Ne Nat T I)) (h2 : (@Ne Nat T C)) (h3 : (@Ne Nat T D))
    (ea : a = c + (i : Int)) (eb : b = c + (((i + k) % 26 : Nat) : Int)) : LCg.CompEnd h₀ L m s₁ I oI C oC D oD (fun _ => True) (PairEnd c k i nwn) (.ref T) { s₁ with heap := h', toks := tk } := by
  subst ea eb
  refine LCg.CompEnd.intro F N ((T, pairObj (c + (i : Int)) (c + (((i + k) % 26 : Nat) : Int)) t u) :: nwn) (fun p hp => ?_) ⟨⟨h1, h2, h3⟩, off⟩ trivial ⟨T, t, u, rfl, rfl⟩
  rcases List.mem_cons.mp hp with rfl | hp
  · exact List.mem_cons_of_mem _ (List.mem_cons_self ..)
  rcases List.mem_cons.mp hp with rfl | hp
  · exact List.mem_cons_of_mem _ (List.mem_cons_of_mem _ (List.mem_cons_self ..))
  rcases List.mem_cons.mp hp with rfl | hp
  · exact List.mem_cons_of_mem _ (List.mem_cons_of_mem _ (List.mem_cons_of_mem _ (List.mem_cons_self ..)))
  rcases List.mem_cons.mp hp with rfl | hp
  · exact List.mem_cons_self ..
  · exact List.mem_cons_of_mem _ (List.mem_cons_of_mem _ (List.mem_cons_of_mem _ (List.mem_cons_of_mem _ hp)))
theorem turn_eq {c : Int} {i k : Nat} : c + ((0 : Int) + (i : Int) + (k : Int)).fmod 26 = c + (((i + k) % 26 : Nat) : Int) := by
  rw [Int.fmod_eq_emod_of_nonneg _ (by omega)]
  omega
end
theorem dropped {h₀ h : Heap} {L D1 D2 : Addr} {o1 o2 : Obj} {nw1 nw2 news : List (Addr × Obj)} (N : News h₀ L h ((D2, o2) :: (nw2 ++ ((D1, o1) :: (nw1 ++ news))))) : News h₀ L h news := fun p hp =>
  N p (List.mem_cons_of_mem _ (List.mem_append_right _ (List.mem_cons_of_mem _ (List.mem_append_right _ hp))))
end Mine
end

section
open PySem PySem.W PySem.Calls PySem.Spec PyProof.Rows
set_option Elab.async false
set_option maxRecDepth 100000
set_option maxHeartbeats 2000000
set_option linter.unusedVariables false
namespace Mine
section
variable {prog : Program} {w : World} {A : Around} {h₀ : Heap} {L : Addr} {m : Str → Option Value} {env : Env} {x y : Str} {scope : Scope} {cl : List (Str × Addr)} {s : Shared} {Fin : List Value → List (Addr × Obj) → Prop} {news : List (Addr × Obj)}
theorem comp26 (c : Int) {k : Nat} {cK : Addr} {oK : Obj} {tK : Tok} {k1 k2 k3 k4} {p1 p2 p3 p4 p5 p6 p7 p8 p9 p10 p11 : Pos} (hk : k < 26) (hcl : cl.lookup y = some cK) (hd : oK.data = .cell (some (.int (k : Int) tK))) (hm : (cK, oK) ∈ news)
    (e1 : ∀ C, (compEnvC scope cl C env).scope.kind = .function) (e2 : ∀ C, (compEnvC scope cl C env).kindOf x = some .local) (e3 : ∀ C, (compEnvC scope cl C env).kindOf y = some .cell) (d1 : (x == ("__debug__" : Str)) = false) (d2 : (y == ("__debug__" : Str)) = false)
    (fin : ∀ ys nw, Made ys ((List.range 26).map fun (i : Nat) => (c + (i : Int), c + (((i + k) % 26 : Nat) : Int))) nw → Fin ys (nw ++ news)) :
    LCg.CompRest prog w A h₀ L m env (.Tuple [.BinOp (.Constant (.int c) k1 p1) .Add (.Name x p2) p3, .BinOp (.Constant (.int c) k2 p4) .Add (.BinOp (.BinOp (.Name x p5) .Add (.Name y p6) p7) .Mod (.Constant (.int 26) k3 p8) p9) p10] k4 p11) x scope cl s (fun _ => True) (fun i v => ∃ t, v = .int (0 + (i : Int)) t) Fin 26 0 [] news := by
  refine pairs26 c hk ?_ fin
  intro i t I oI C oC D m₂ ys nw h tk E' hi hC hx F N off ne
  have hmC : (C, oC) ∈ ((I, oI) :: (C, oC) :: (D, LCg.lst ys) :: (nw ++ news)) := List.mem_cons_of_mem _ (List.mem_cons_self ..)
  have hmK : (cK, oK) ∈ ((I, oI) :: (C, oC) :: (D, LCg.lst ys) :: (nw ++ news)) := List.mem_cons_of_mem _ (List.mem_cons_of_mem _ (List.mem_cons_of_mem _ (List.mem_append_right _ hm)))
  refine Tuple_ ?_
  refine spliced_more ?_
  refine wpAny_BinOp (wpAny_Constant_int ?_)
  refine LCgL.ld_own (L := L) N hmC hC hx ?_ (e1 C) (e2 C) d1
  refine add_int ?_
  refine spliced_more ?_
  refine wpAny_BinOp (wpAny_Constant_int ?_)
  refine wpAny_BinOp (wpAny_BinOp ?_)
  refine LCgL.ld_own (L := L) N hmC hC hx ?_ (e1 C) (e2 C) d1
  refine kcf_cell (L := L) N hcl hmK hd ?_ (e1 C) (e3 C) d2
  refine add_int ?_
  refine wpAny_Constant_int ?_
  refine mod_int' (by decide) ?_
  refine add_int ?_
  refine spliced_none ?_
  refine kup_newTuple (m := m) F N (fun T h' F' N' lt => ?_) (by exact Nat.le_of_ble_eq_true rfl)
  have l1 : I < T := lt _ (List.mem_cons_self ..)
  have l2 : C < T := lt _ hmC
  have l3 : D < T := lt _ (List.mem_cons_of_mem _ (List.mem_cons_of_mem _ (List.mem_cons_self ..)))
  exact pair_end F' N' off (Nat.ne_of_gt l1) (Nat.ne_of_gt l2) (Nat.ne_of_gt l3) (by omega) turn_eq
end
end Mine
end

section
open PySem PySem.W PySem.Calls PySem.Spec PyProof.Rows
open PySem PySem.Builtin PySem.Builtin.Str PySem.StrLaws
set_option Elab.async false
set_option maxRecDepth 100000
set_option maxHeartbeats 2000000
set_option linter.unusedVariables false
set_option linter.unusedSimpArgs false
namespace Mine
noncomputable abbrev bareS (x : Str) : Str := Txt.removesuffix (Txt.removeprefix x (Str.ofString "- ")) (Str.ofString ";")
theorem bare_len {x : Str} (h : Short 200 x) : (bareS x).length ≤ 200 := Nat.le_trans (len_removesuffix _ _) (Nat.le_trans (len_removeprefix _ _) h.2)
section
variable {w : World} {mean : ExcName → Option Value} {mg mb : Str → Option Value}
theorem sp_halves (x : Str) (t : Tok) (h : Short 200 x) : Spec 1 w mean mg mb 56 [.str (bareS x) t] (IsPair (cutS (bareS x)).1 (cutS (bareS x)).2) := spec_stem_end _ t (by have := bare_len h; omega)
theorem sp_cut (x : Str) (t : Tok) (h : Short 200 x) : Spec 1 w mean mg mb 165 [.str (bareS x) t] (IsPair (cutS (bareS x)).1 (cutS (bareS x)).2) := spec_cut _ t (by have := bare_len h; omega)
end
theorem cut_len {x : Str} (h : Short 200 x) : (cutS (bareS x)).2.length ≤ 1000 := by
  have hb := bare_len h
  unfold cutS
  split
  · show (Str.ofString "").length ≤ 1000
    have : (Str.ofString "").length = 0 := by decide +kernel
    omega
  · have := (PyProof.Rows.fact_rpartition (bareS x) (Str.ofString ".")).2.2
    show (Txt.rpartition (bareS x) (Str.ofString ".")).2.2.length ≤ 1000
    omega
theorem asc_ofL {l l' : List Nat} (h : ∀ c ∈ l, c < 128) (hs : ∀ c ∈ l', c ∈ l) : Asc (ofL l') := fun c hc => h c (hs c hc)
theorem asc_sub {x : Str} (h : Asc x) (i j : Nat) : Asc (strSub x i j) := by
  intro c hc
  have e := strSub_toList x i j
  rw [e] at hc
  exact h c (List.mem_of_mem_drop (List.mem_of_mem_take hc))
theorem asc_rpart {x : Str} (h : Asc x) : Asc (Txt.rpartition x dot).1 ∧ Asc (Txt.rpartition x dot).2.2 := by
  unfold Txt.rpartition
  rcases last_spec x dot with ⟨h0, _⟩ | ⟨i, h0, hi, _⟩
  · rw [h0]
    exact ⟨fun c hc => (nomatch hc), h⟩
  · rw [h0]
    exact ⟨asc_sub h _ _, asc_sub h _ _⟩
theorem asc_bare {x : Str} (h : Asc x) : Asc (bareS x) := by
  have h1 : Asc (Txt.removeprefix x (Str.ofString "- ")) := by
    rw [removep]
    refine asc_ofL h fun c hc => ?_
    split at hc
    · exact List.mem_of_mem_drop hc
    · exact hc
  unfold bareS
  rw [removes]
  refine asc_ofL h1 fun c hc => ?_
  split at hc
  · exact List.mem_of_mem_take hc
  · exact hc
theorem asc_cut {x : Str} (h : Asc x) : Asc (cutS x).1 ∧ Asc (cutS x).2 := by
  unfold cutS
  split
  · exact ⟨h, nil_asc⟩
  · rw [dot_is]
    exact asc_rpart h
theorem asc_ok {x : Str} (h : Asc x) : PyData.strOk x = true := by
  unfold PyData.strOk
  rw [Array.all_eq_true]
  intro i hi
  have : x.cps[i] ∈ x.cps.toList := by simp
  have := h _ this
  exact decide_eq_true (by omega)
noncomputable abbrev pairTup (a b : Str) (ta tb : Tok) (n : Nat) : Obj := { cls := .type "tuple", data := .seq [.str a ta, .str b tb].toArray n }
theorem pair_news {h₀ h h' : Heap} {L D : Addr} {m : Str → Option Value} {news : List (Addr × Obj)} {a b : Str} {ta tb : Tok} {n : Nat} (F : Fr h₀ L h m) (hn : h.get? D = none) (N : News h₀ L h' news) (ho : h'.get? D = some (pairTup a b ta tb n)) : News h₀ L h' ((D, pairTup a b ta tb n) :: news) := by
  intro p hp
  rcases List.mem_cons.mp hp with rfl | hp
  · refine ⟨ho, ?_, ?_⟩
    · intro e
      obtain ⟨oL, _, _, hL, _⟩ := F.ns
      have e' : D = L := e
      rw [e', hL] at hn
      cases hn
    · show h₀.get? D = none
      cases q : h₀.get? D with
      | none => rfl
      | some o => have := F.keep _ _ q; rw [hn] at this; cases this
  · exact N p hp
section
variable {prog : Program} {w : World} {A : Around} {E : Value → Shared → Prop} {s : Shared} {Q : Value → Shared → Prop}
theorem ne_same {x : Str} {t u : Tok} (h : Q (.bool false) s) : wpAny (model prog w) A (compareOp .NotEq (.str x t) (.str x u)) Q E s := PyProof.Rows.ne_str (by simpa using h)
theorem pairs_ne {D D' : Addr} {a b : Str} {ta tb ta' tb' : Tok} {n n' : Nat} (ha : Asc a) (hb : Asc b) (h1 : s.heap.get? D = some (pairTup a b ta tb n)) (h2 : s.heap.get? D' = some (pairTup a b ta' tb' n')) (hu : A.units + 64 < cLine) (h : Q (.bool false) s) : wpAny (model prog w) A (compareOp .NotEq (.ref D) (.ref D')) Q E s := by
  refine ne_dataH (reads_tuple_at h1 rfl rfl (ReadsAll.cons (Reads.str _ _) (ReadsAll.cons (Reads.str _ _) ReadsAll.nil))) (reads_tuple_at h2 rfl rfl (ReadsAll.cons (Reads.str _ _) (ReadsAll.cons (Reads.str _ _) ReadsAll.nil))) (by simp [SeqAt.shaped, PyData.canLay0, PyData.canLayAll0, PyData.depth, PyData.depthAll, asc_ok ha, asc_ok hb]) (by simp [SeqAt.shaped, PyData.canLay0, PyData.canLayAll0, PyData.depth, PyData.depthAll, asc_ok ha, asc_ok hb]) hu ?_
  simpa [PyData.eqv, PyData.eqvAll] using h
theorem halves_ne {D D' : Addr} {x : Str} {ta tb ta' tb' : Tok} {n n' : Nat} (hx : Short 200 x) (h1 : s.heap.get? D = some (pairTup (cutS (bareS x)).1 (cutS (bareS x)).2 ta tb n)) (h2 : s.heap.get? D' = some (pairTup (cutS (bareS x)).1 (cutS (bareS x)).2 ta' tb' n')) (hu : A.units + 64 < cLine) (h : Q (.bool false) s) : wpAny (model prog w) A (compareOp .NotEq (.ref D) (.ref D')) Q E s :=
  pairs_ne (asc_cut (asc_bare hx.1)).1 (asc_cut (asc_bare hx.1)).2 h1 h2 hu h
end
theorem units_law64 {env : Env} : (callerA.deeper env).units + 64 < cLine := by
  simp only [units_in1, units_deeper, Around.mark_units, units_caller]
  have hcL9 := cLine_is
  omega
end Mine
end

section
open PySem PySem.W PySem.Calls PySem.Spec PyProof.Rows
set_option Elab.async false
set_option maxRecDepth 100000
set_option maxHeartbeats 8000000
set_option linter.unusedVariables false
namespace Mine
theorem short_le' {n m : Nat} {x : Str} (h : Short n x) (hm : n ≤ m) : Short m x := ⟨h.1, Nat.le_trans h.2 hm⟩
theorem short_swap {n : Nat} {x : Str} (h : Short n x) : Short n (mapS swapC x) := short_map (fun c => swap_lt) h
theorem len_of {n m : Nat} {x : Str} (h : Short n x) (hm : n ≤ m) : x.length ≤ m := Nat.le_trans h.2 hm
theorem empty_short : Short 5 (Str.ofString "") := short_lit (by decide +kernel)
section
variable {prog : Program} {w : World} {A : Around} {E : Value → Shared → Prop} {s : Shared} {value slice : PySem.Expr} {Q : Value → Shared → Prop}
theorem pick4 {h₀ : Heap} {L D : Addr} {news : List (Addr × Obj)} {x : Int} {a b c d : Str} {ta tb tc td u : Tok} {n : Nat} (N : News h₀ L s.heap news) (hm : (D, ({ cls := .type "tuple", data := .seq [.str a ta, .str b tb, .str c tc, .str d td].toArray n } : Obj)) ∈ news)
    (hall : [a, b, c, d].all (fun x => x.cps.toList.all (fun c => decide (c < 128)) && decide (x.length ≤ 5)) = true) (h : ∀ y t', Short 5 y → Q (.str y t') s)
    (hs : subscripted slice false (.ref D) (.int (x.fmod 4) u) = operate [.ref D, .int (x.fmod 4) u] (getItem (.ref D) (.int (x.fmod 4) u)) := by with_unfolding_all rfl) :
    wpAny (model prog w) A (subscriptTail value slice (.ref D) (.int (x.fmod 4) u)) Q E s := by
  have h0 : 0 ≤ x.fmod 4 := Int.fmod_nonneg_of_pos x (by decide)
  have h1 : x.fmod 4 < 4 := Int.fmod_lt_of_pos x (by decide)
  have hw : StrsAre [.str a ta, .str b tb, .str c tc, .str d td] [a, b, c, d] := by repeat constructor
  exact KTb.item_tup (vs := [.str a ta, .str b tb, .str c tc, .str d td]) (ws := [a, b, c, d]) ⟨_, (N _ hm).1, rfl, n, rfl⟩ hw h0 h1 (by omega) (fun t' _ => h _ t' (short_getD hall _)) hs
end
theorem sum_len {a b : Nat} {x y : Str} (hx : Short a x) (hy : Short b y) (h : a + b ≤ 16777216) : x.length + y.length ≤ 16777216 := Nat.le_trans (Nat.add_le_add hx.2 hy.2) h
theorem units_law {env : Env} : (callerA.deeper env).units < cLine := by
  simp only [units_in1, units_deeper, Around.mark_units, units_caller]
  have hcL9 := cLine_is
  omega
theorem two_size {ys1 ys2 : List Value} {c1 k1 c2 k2 : Nat → Int} {nw1 nw2 : List (Addr × Obj)} (M1 : Made ys1 ((List.range 26).map fun i => (c1 i, k1 i)) nw1) (M2 : Made ys2 ((List.range 26).map fun i => (c2 i, k2 i)) nw2) : ys1.length + ys2.length ≤ sizeLine := by
  rw [M1.size26, M2.size26]
  exact Nat.le_of_ble_eq_true rfl
/-- a ledger that stood -/
noncomputable def Kept (l : List (Addr × Obj)) : Prop := True
theorem Kept.of {h₀ h : Heap} {L : Addr} {l : List (Addr × Obj)} (N : News h₀ L h l) : Kept l := trivial
theorem Kept.news {h₀ h : Heap} {L : Addr} {l all : List (Addr × Obj)} (K : Kept l) (N : News h₀ L h all) (s : ∀ p ∈ l, p ∈ all) : News h₀ L h l := fun p hp => N p (s p hp)
section
variable {prog : Program} {w : World} {A : Around} {E : Value → Shared → Prop} {s : Shared} {h₀ : Heap} {L : Addr} {m : Str → Option Value}
theorem dict_sum2 {l : Addr} {ys1 ys2 : List Value} {k : Nat} {nw1 nw2 all : List (Addr × Obj)} {Q : Value → Shared → Prop} (hbig : sysModules < h₀.objs.size) (F : Fr h₀ L s.heap m) (N : News h₀ L s.heap all) (hh : A.handled = none)
    (hl : s.heap.get? l = some { cls := .type "list", data := .seq (ys1 ++ ys2).toArray }) (M1 : Made ys1 ((List.range 26).map fun (i : Nat) => ((65 : Int) + (i : Int), (65 : Int) + (((i + k) % 26 : Nat) : Int))) nw1) (M2 : Made ys2 ((List.range 26).map fun (i : Nat) => ((97 : Int) + (i : Int), (97 : Int) + (((i + k) % 26 : Nat) : Int))) nw2) (s1 : ∀ p ∈ nw1, p ∈ all) (s2 : ∀ p ∈ nw2, p ∈ all)
    (h : ∀ D kvs h' tk, (D == sysModules) = false → Tab kvs (capPs k ++ smallPs k) → h'.DictOf (intKind prog w) D kvs → (∀ b o, s.heap.get? b = some o → h'.get? b = some o) → Fr h₀ L h' m → News h₀ L h' all → Q (.ref D) { s with heap := h', toks := tk }) :
    wpAny (model prog w) A (call (.type "dict") [.ref l]) Q E s :=
  dict_sum (ps1 := capPs k) (ps2 := smallPs k) hbig F N hh hl M1 M2 s1 s2 (table_nodup k) (by simp [capPs, smallPs]) h
end
section
variable {prog : Program} {w : World} {A : Around} {E : Value → Shared → Prop} {s : Shared} {Q : Value → Shared → Prop}
theorem halves_ne2 {h₀ : Heap} {L D D' : Addr} {x : Str} {ta tb ta' tb' : Tok} {n n' : Nat} {news : List (Addr × Obj)} (h2 : s.heap.get? D' = some (pairTup (cutS (bareS x)).1 (cutS (bareS x)).2 ta' tb' n')) (N : News h₀ L s.heap news) (hm : (D, pairTup (cutS (bareS x)).1 (cutS (bareS x)).2 ta tb n) ∈ news) (hx : Short 200 x) (hu : A.units + 64 < cLine) (h : Q (.bool false) s) : wpAny (model prog w) A (compareOp .NotEq (.ref D) (.ref D')) Q E s :=
  halves_ne hx (N _ hm).1 h2 hu h
end
theorem sp_read_half {w : World} {mean : ExcName → Option Value} {mg mb : Str → Option Value} (x : Str) (t : Tok) (h : Short 200 x) : SpecR 3 w mean mg mb 130 [.str (cutS (bareS x)).2 t] (fun v => v = Value.bool true) := spec_read _ t (cut_len h)
theorem law_post (args : List WData) : PySem.Challenge.rw_sx_yscribe_1.row.claim.post args (.bool true) args = true := by
  wrow_post
theorem law_go : PySem.Challenge.rw_sx_yscribe_1.Holds := Mine.hd (by
  w_top off
  k_with_none
  k_with "table" => skip
  k_go0
  all_goals try k_fold
  repeat (first | (k_unfold; (try dsimp only)) | (k_end; w_end; (with_reducible show GoodW _ _ _ _ _ (.ok (.ret (.bool _))) _); (with_reducible refine goodW_bool (by assumption) (by assumption) ?_ ?_); (· refine raisesW_false ?_; wrow_none_raised); (· with_reducible exact law_post _)) | ((with_reducible show wpAny _ _ (compareOp PySem.CmpOp.NotEq (Value.ref _) (Value.ref _)) _ _ _); (first | with_reducible (k_here; (k_dflt (refine dicts_ne (by with_reducible assumption) (by with_reducible assumption) (by with_reducible assumption) (by with_reducible assumption) (by with_reducible assumption) (by with_reducible assumption) units_law ?_; (with_reducible rename Kept _ => kp'); (with_reducible rename News _ _ _ _ => nO'); (have nN' := Kept.news kp' nO' (by intro p hp; with_reducible kcf_m)); (clear nO' kp')))) | with_reducible (k_here; (k_dflt (refine halves_ne2 (by with_reducible assumption) (by k_asm) (List.Mem.head _) (by exact short_le (by repeat' (first | with_reducible assumption | with_reducible exact num_short (by with_reducible assumption) | with_reducible apply short_append | with_reducible apply short_swap | (with_reducible exact short_getD (n := 5) (by decide +kernel) _))) (by decide)) units_law64 ?_))))) | ((with_reducible show wpAny _ _ (call (Value.type _) _) _ _ _); with_reducible (k_here; (with_reducible rename Heap.DictOf _ _ _ _ => dd'); (k_dflt (refine dict_sum2 (modules_low (Top.nolimit (by k_asm))) (by k_asm) (by k_asm) rfl (by with_reducible assumption) (by with_reducible assumption) (by with_reducible assumption) (by intro p hp; with_reducible kcf_m) (by intro p hp; with_reducible kcf_m) ?_; intro D' kvs' h' tk' hm' ht' hd' hk' F' N'; (have da' := Heap.DictOf.keep dd' hk'); (clear dd'))))) | ((with_reducible show wpAny _ _ (binaryOp PySem.Operator.Add (Value.ref _) (Value.ref _)) _ _ _); with_reducible (k_here; (k_dflt (refine sum_lists (by k_asm) (by k_asm) (by with_reducible kcf_m) (by with_reducible kcf_m) (two_size (by with_reducible assumption) (by with_reducible assumption)) ?_; intro D' h' hl' hk' F' N'; (with_reducible rename Heap.DictOf _ _ _ _ => dd'); (replace dd' := Heap.DictOf.keep dd' hk'))))) | ((with_reducible show LCg.CompEnd _ _ _ _ _ _ _ _ _ _ _ _ _ _); with_reducible (k_dflt (refine pair_end (by k_asm) (by k_asm) (by with_reducible assumption) (by k_ne) (by k_ne) (by k_ne) (by omega) turn_eq))) | ((with_reducible show wpAny _ _ (exec (PySem.Stmt.Assign _ (PySem.Expr.ListComp _ _ _ _) _) _) _ _ _); with_reducible (k_here; k_dflt (refine LCg.Assign_ListComp_U (F₀ := by k_asm) (by rfl) (by with_unfolding_all rfl) (by with_unfolding_all rfl) (by decide) (by rfl) (by decide) (by rfl) (by rfl) (by rfl) ?_))) | with_reducible (k_here; (with_reducible show wpAny _ _ (eval (PySem.Expr.Name (PySem.Str.ofString "k") _) _) _ _ _); k_dflt (refine nameX_C (by k_asm) rfl (by with_reducible kcf_m) (by with_reducible assumption) ?_)) | (first | with_reducible (k_here; (with_reducible show LCg.CompSrc _ _ _ _ _ _ _ (PySem.Expr.Tuple [PySem.Expr.BinOp (PySem.Expr.Constant (PySem.Const.int 97) _ _) _ _ _, _] _ _) _ _ _ _ _ _); (k_dflt (refine LCg.CompSrc.range (n := 26) (by rfl) (by k_asm) (by k_asm) (by with_reducible assumption) (by decide) (by rfl) (by exact Nat.le_of_ble_eq_true rfl) ?_; intro g'; (refine comp26 97 (by with_reducible assumption) (by rfl) (by with_reducible assumption) (by with_reducible kcf_m) (fun _ => rfl) (fun _ => rfl) (fun _ => rfl) (by decide) (by decide) ?_); intro ys' nw' M'))) | with_reducible (k_here; (with_reducible show LCg.CompSrc _ _ _ _ _ _ _ (PySem.Expr.Tuple [PySem.Expr.BinOp (PySem.Expr.Constant (PySem.Const.int 65) _ _) _ _ _, _] _ _) _ _ _ _ _ _); (with_reducible rename News _ _ _ _ => n0'); (have kept' := Kept.of n0'); (k_dflt (refine LCg.CompSrc.range (n := 26) (by rfl) (by k_asm) (by k_asm) (by with_reducible assumption) (by decide) (by rfl) (by exact Nat.le_of_ble_eq_true rfl) ?_; intro g'; (refine comp26 65 (by with_reducible assumption) (by rfl) (by with_reducible assumption) (by with_reducible kcf_m) (fun _ => rfl) (fun _ => rfl) (fun _ => rfl) (by decide) (by decide) ?_); intro ys' nw' M')))) | ((with_reducible show wpAny _ _ (compareOp PySem.CmpOp.NotEq (Value.str _ _) (Value.str _ _)) _ _ _); with_reducible (k_here; (with_reducible refine ne_same ?_))) | ((with_reducible show wpAny _ _ (subscriptTail _ _ (Value.ref _) (Value.int _ _)) _ _ _); with_reducible (k_here; (with_reducible show wpAny _ _ (subscriptTail _ _ (Value.ref _) (Value.int (Int.fmod _ 4) _)) _ _ _); (k_dflt (with_unfolding_all refine pick4 (by k_asm) (List.Mem.head _) (by decide +kernel) ?_; intro _ _ _)))) | ((with_reducible show wpAny _ _ (binaryOp PySem.Operator.Mod (Value.int _ _) (Value.int _ _)) _ _ _); (first | with_reducible ((with_reducible show wpAny _ _ (binaryOp _ (Value.int (26 - _) _) (Value.int 26 _)) _ _ _); (refine back26 (by with_reducible assumption) ?_)) | with_reducible ((with_reducible show wpAny _ _ (binaryOp _ (Value.int _ _) (Value.int 26 _)) _ _ _); (refine mod26 ?_); intro _ _ _))) | ((with_reducible show wpAny _ _ (binaryOp PySem.Operator.Add (Value.str _ _) (Value.str _ _)) _ _ _); with_reducible (k_dflt (refine KOpn.add (sum_len (by repeat' (first | with_reducible assumption | with_reducible exact num_short (by with_reducible assumption) | with_reducible apply short_append | with_reducible apply short_swap | (with_reducible exact short_getD (n := 5) (by decide +kernel) _))) (by repeat' (first | with_reducible assumption | with_reducible exact num_short (by with_reducible assumption) | with_reducible apply short_append | with_reducible apply short_swap | (with_reducible exact short_getD (n := 5) (by decide +kernel) _))) (by decide)) ?_; intro _ _ _))) | ((with_reducible show wpAny _ _ (call (Value.ref _) _) _ _ _); (first | with_reducible (k_here; (with_reducible show wpAny _ _ (call (Value.ref 165) _) _ _ _); (k_dflt (refine' Spec.use (sp_cut _ _ (by exact short_le (by repeat' (first | with_reducible assumption | with_reducible exact num_short (by with_reducible assumption) | with_reducible apply short_append | with_reducible apply short_swap | (with_reducible exact short_getD (n := 5) (by decide +kernel) _))) (by decide))) ?k1 ?k2 ?k3 ?k4 ?k5 ?kK ?kd ?ku ?_; (case k1 => k_asm); (case k2 => k_asm); (case k3 => k_asm); (case k4 => k_asm); (case k5 => k_asm); (case kK => first | exact rfl | assumption); (case kd => first | exact Nat.le_of_ble_eq_true rfl | ktr_room); (case ku => first | exact Nat.le_of_ble_eq_true rfl | ktr_units); intro v' h' tk' hv' hk' F' N'; (obtain ⟨D9', ta9', tb9', n9', hv9', hn9', ho9'⟩ := hv'); (subst hv9'))); (try dsimp only); (try k_fold); (try k_sweep)) | with_reducible (k_here; (with_reducible show wpAny _ _ (call (Value.ref 130) [Value.str (Prod.snd (cutS _)) _]) _ _ _); (k_dflt (refine' SpecR.use (sp_read_half _ _ (by exact short_le (by repeat' (first | with_reducible assumption | with_reducible exact num_short (by with_reducible assumption) | with_reducible apply short_append | with_reducible apply short_swap | (with_reducible exact short_getD (n := 5) (by decide +kernel) _))) (by decide))) ?k1 ?k2 ?k3 ?k4 ?k5 ?kK ?kd ?ku ?_; (case k1 => k_asm); (case k2 => k_asm); (case k3 => k_asm); (case k4 => k_asm); (case k5 => k_asm); (case kK => first | exact rfl | assumption); (case kd => first | exact Nat.le_of_ble_eq_true rfl | ktr_room); (case ku => first | exact Nat.le_of_ble_eq_true rfl | ktr_units); intro v' h' tk' hv' F' N'; (subst hv'))); (try dsimp only); (try k_fold); (try k_sweep)) | with_reducible (k_here; (with_reducible show wpAny _ _ (call (Value.ref 56) _) _ _ _); (with_reducible rename Fr _ _ _ _ => fO'); (k_dflt (refine' Spec.use (sp_halves _ _ (by exact short_le (by repeat' (first | with_reducible assumption | with_reducible exact num_short (by with_reducible assumption) | with_reducible apply short_append | with_reducible apply short_swap | (with_reducible exact short_getD (n := 5) (by decide +kernel) _))) (by decide))) ?k1 ?k2 ?k3 ?k4 ?k5 ?kK ?kd ?ku ?_; (case k1 => k_asm); (case k2 => k_asm); (case k3 => k_asm); (case k4 => k_asm); (case k5 => k_asm); (case kK => first | exact rfl | assumption); (case kd => first | exact Nat.le_of_ble_eq_true rfl | ktr_room); (case ku => first | exact Nat.le_of_ble_eq_true rfl | ktr_units); intro v' h' tk' hv' hk' F' N'; (obtain ⟨D9', ta9', tb9', n9', hv9', hn9', ho9'⟩ := hv'); (subst hv9'); (have N9' := pair_news fO' hn9' N' ho9'); (clear N'))); (try dsimp only); (try k_fold); (try k_sweep)) | with_reducible (k_here; (with_reducible show wpAny _ _ (call (Value.ref 70) _) _ _ _); (k_dflt (refine' Spec.use (spec_shift_table _ _ (by with_reducible assumption)) ?k1 ?k2 ?k3 ?k4 ?k5 ?kK ?kd ?ku ?_; (case k1 => k_asm); (case k2 => k_asm); (case k3 => k_asm); (case k4 => k_asm); (case k5 => k_asm); (case kK => first | exact rfl | assumption); (case kd => first | exact Nat.le_of_ble_eq_true rfl | ktr_room); (case ku => first | exact Nat.le_of_ble_eq_true rfl | ktr_units); intro v' h' tk' hv' hk' F' N'; (obtain ⟨D9', kvs9', hv9', hn9', hm9', ht9', hd9'⟩ := hv'); (subst hv9'))); (try dsimp only); (try k_fold); (try k_sweep)) | with_reducible (k_here; (with_reducible show wpAny _ _ (call (Value.ref 158) _) _ _ _); (k_dflt (refine' Spec.use (sp_bare _ _ (by exact short_le (by repeat' (first | with_reducible assumption | with_reducible exact num_short (by with_reducible assumption) | with_reducible apply short_append | with_reducible apply short_swap | (with_reducible exact short_getD (n := 5) (by decide +kernel) _))) (by decide))) ?k1 ?k2 ?k3 ?k4 ?k5 ?kK ?kd ?ku ?_; (case k1 => k_asm); (case k2 => k_asm); (case k3 => k_asm); (case k4 => k_asm); (case k5 => k_asm); (case kK => first | exact rfl | assumption); (case kd => first | exact Nat.le_of_ble_eq_true rfl | ktr_room); (case ku => first | exact Nat.le_of_ble_eq_true rfl | ktr_units); intro v' h' tk' hv' hk' F' N'; (obtain ⟨tk9', hv9'⟩ := hv'); (subst hv9'))); (try dsimp only); (try k_fold); (try k_sweep)) | with_reducible (k_here; (with_reducible show wpAny _ _ (call (Value.ref 63) _) _ _ _); (k_dflt (refine' Spec.use (sp_unmark _ _ (by exact short_le (by repeat' (first | with_reducible assumption | with_reducible exact num_short (by with_reducible assumption) | with_reducible apply short_append | with_reducible apply short_swap | (with_reducible exact short_getD (n := 5) (by decide +kernel) _))) (by decide))) ?k1 ?k2 ?k3 ?k4 ?k5 ?kK ?kd ?ku ?_; (case k1 => k_asm); (case k2 => k_asm); (case k3 => k_asm); (case k4 => k_asm); (case k5 => k_asm); (case kK => first | exact rfl | assumption); (case kd => first | exact Nat.le_of_ble_eq_true rfl | ktr_room); (case ku => first | exact Nat.le_of_ble_eq_true rfl | ktr_units); intro v' h' tk' hv' hk' F' N'; (obtain ⟨tk9', hv9'⟩ := hv'); (subst hv9'))); (try dsimp only); (try k_fold); (try k_sweep)) | with_reducible (k_here; (with_reducible show wpAny _ _ (call (Value.ref 77) [Value.str (mapS (sealC _) _) _, _]) _ _ _); (k_dflt (refine' Spec.use (sp_open _ _ _ _ (by exact short_le (by repeat' (first | with_reducible assumption | with_reducible exact num_short (by with_reducible assumption) | with_reducible apply short_append | with_reducible apply short_swap | (with_reducible exact short_getD (n := 5) (by decide +kernel) _))) (by decide)) (by with_reducible assumption)) ?k1 ?k2 ?k3 ?k4 ?k5 ?kK ?kd ?ku ?_; (case k1 => k_asm); (case k2 => k_asm); (case k3 => k_asm); (case k4 => k_asm); (case k5 => k_asm); (case kK => first | exact rfl | assumption); (case kd => first | exact Nat.le_of_ble_eq_true rfl | ktr_room); (case ku => first | exact Nat.le_of_ble_eq_true rfl | ktr_units); intro v' h' tk' hv' hk' F' N'; (obtain ⟨tk9', hv9'⟩ := hv'); (subst hv9'))); (try dsimp only); (try k_fold); (try k_sweep)) | with_reducible (k_here; (with_reducible show wpAny _ _ (call (Value.ref 77) _) _ _ _); (k_dflt (refine' Spec.use (sp_secret _ _ _ _ (by exact short_le (by repeat' (first | with_reducible assumption | with_reducible exact num_short (by with_reducible assumption) | with_reducible apply short_append | with_reducible apply short_swap | (with_reducible exact short_getD (n := 5) (by decide +kernel) _))) (by decide)) (by with_reducible assumption)) ?k1 ?k2 ?k3 ?k4 ?k5 ?kK ?kd ?ku ?_; (case k1 => k_asm); (case k2 => k_asm); (case k3 => k_asm); (case k4 => k_asm); (case k5 => k_asm); (case kK => first | exact rfl | assumption); (case kd => first | exact Nat.le_of_ble_eq_true rfl | ktr_room); (case ku => first | exact Nat.le_of_ble_eq_true rfl | ktr_units); intro v' h' tk' hv' hk' F' N'; (obtain ⟨tk9', hv9'⟩ := hv'); (subst hv9'))); (try dsimp only); (try k_fold); (try k_sweep)) | with_reducible (k_here; (with_reducible show wpAny _ _ (call (Value.ref 49) [Value.str (mapS swapC _) _]) _ _ _); (k_dflt (refine' Spec.use (sp_mirror2 _ _ (by exact short_le (by repeat' (first | with_reducible assumption | with_reducible exact num_short (by with_reducible assumption) | with_reducible apply short_append | with_reducible apply short_swap | (with_reducible exact short_getD (n := 5) (by decide +kernel) _))) (by decide))) ?k1 ?k2 ?k3 ?k4 ?k5 ?kK ?kd ?ku ?_; (case k1 => k_asm); (case k2 => k_asm); (case k3 => k_asm); (case k4 => k_asm); (case k5 => k_asm); (case kK => first | exact rfl | assumption); (case kd => first | exact Nat.le_of_ble_eq_true rfl | ktr_room); (case ku => first | exact Nat.le_of_ble_eq_true rfl | ktr_units); intro v' h' tk' hv' hk' F' N'; (obtain ⟨tk9', hv9'⟩ := hv'); (subst hv9'))); (try dsimp only); (try k_fold); (try k_sweep)) | with_reducible (k_here; (with_reducible show wpAny _ _ (call (Value.ref 49) _) _ _ _); (k_dflt (refine' Spec.use (sp_mirror _ _ (by exact short_le (by repeat' (first | with_reducible assumption | with_reducible exact num_short (by with_reducible assumption) | with_reducible apply short_append | with_reducible apply short_swap | (with_reducible exact short_getD (n := 5) (by decide +kernel) _))) (by decide))) ?k1 ?k2 ?k3 ?k4 ?k5 ?kK ?kd ?ku ?_; (case k1 => k_asm); (case k2 => k_asm); (case k3 => k_asm); (case k4 => k_asm); (case k5 => k_asm); (case kK => first | exact rfl | assumption); (case kd => first | exact Nat.le_of_ble_eq_true rfl | ktr_room); (case ku => first | exact Nat.le_of_ble_eq_true rfl | ktr_units); intro v' h' tk' hv' hk' F' N'; (obtain ⟨tk9', hv9'⟩ := hv'); (subst hv9'))); (try dsimp only); (try k_fold); (try k_sweep)) | with_reducible (k_here; (with_reducible show wpAny _ _ (call (Value.ref 151) _) _ _ _); (k_dflt (refine' Spec.use (sp_seal0 _ _ _ (by exact short_le (by repeat' (first | with_reducible assumption | with_reducible exact num_short (by with_reducible assumption) | with_reducible apply short_append | with_reducible apply short_swap | (with_reducible exact short_getD (n := 5) (by decide +kernel) _))) (by decide))) ?k1 ?k2 ?k3 ?k4 ?k5 ?kK ?kd ?ku ?_; (case k1 => k_asm); (case k2 => k_asm); (case k3 => k_asm); (case k4 => k_asm); (case k5 => k_asm); (case kK => first | exact rfl | assumption); (case kd => first | exact Nat.le_of_ble_eq_true rfl | ktr_room); (case ku => first | exact Nat.le_of_ble_eq_true rfl | ktr_units); intro v' h' tk' hv' hk' F' N'; (obtain ⟨tk9', hv9'⟩ := hv'); (subst hv9'))); (try dsimp only); (try k_fold); (try k_sweep)) | with_reducible (k_here; (with_reducible show wpAny _ _ (call (Value.ref 151) _) _ _ _); (k_dflt (refine' Spec.use (spec_sealed _ _ _ _ (by exact short_le (by repeat' (first | with_reducible assumption | with_reducible exact num_short (by with_reducible assumption) | with_reducible apply short_append | with_reducible apply short_swap | (with_reducible exact short_getD (n := 5) (by decide +kernel) _))) (by decide)) (by with_reducible assumption)) ?k1 ?k2 ?k3 ?k4 ?k5 ?kK ?kd ?ku ?_; (case k1 => k_asm); (case k2 => k_asm); (case k3 => k_asm); (case k4 => k_asm); (case k5 => k_asm); (case kK => first | exact rfl | assumption); (case kd => first | exact Nat.le_of_ble_eq_true rfl | ktr_room); (case ku => first | exact Nat.le_of_ble_eq_true rfl | ktr_units); intro v' h' tk' hv' hk' F' N'; (obtain ⟨tk9', hv9'⟩ := hv'); (subst hv9'))); (try dsimp only); (try k_fold); (try k_sweep)) | with_reducible (k_here; (with_reducible show wpAny _ _ (call (Value.ref 144) _) _ _ _); (k_dflt (refine' Spec.use (sp_stem _ _ _ _ _ _ _ _ _ _) ?k1 ?k2 ?k3 ?k4 ?k5 ?kK ?kd ?ku ?_; (case k1 => k_asm); (case k2 => k_asm); (case k3 => k_asm); (case k4 => k_asm); (case k5 => k_asm); (case kK => first | exact rfl | assumption); (case kd => first | exact Nat.le_of_ble_eq_true rfl | ktr_room); (case ku => first | exact Nat.le_of_ble_eq_true rfl | ktr_units); intro v' h' tk' hv' hk' F' N'; (obtain ⟨x9', tk9', hv9', hr9'⟩ := hv'); (subst hv9'))); (try dsimp only); (try k_fold); (try k_sweep)) | with_reducible (k_here; (with_reducible show wpAny _ _ (call (Value.ref 137) _) _ _ _); (k_dflt (refine' Spec.use (sp_damaged _ _ _ _ _ _ _ _ (by with_reducible assumption)) ?k1 ?k2 ?k3 ?k4 ?k5 ?kK ?kd ?ku ?_; (case k1 => k_asm); (case k2 => k_asm); (case k3 => k_asm); (case k4 => k_asm); (case k5 => k_asm); (case kK => first | exact rfl | assumption); (case kd => first | exact Nat.le_of_ble_eq_true rfl | ktr_room); (case ku => first | exact Nat.le_of_ble_eq_true rfl | ktr_units); intro v' h' tk' hv' hk' F' N'; (obtain ⟨x9', tk9', hv9', hr9'⟩ := hv'); (subst hv9'))); (try dsimp only); (try k_fold); (try k_sweep)) | with_reducible (k_here; (with_reducible show wpAny _ _ (call (Value.ref 35) _) _ _ _); (k_dflt (refine' Spec.use (sp_shout _ _ (by with_reducible assumption)) ?k1 ?k2 ?k3 ?k4 ?k5 ?kK ?kd ?ku ?_; (case k1 => k_asm); (case k2 => k_asm); (case k3 => k_asm); (case k4 => k_asm); (case k5 => k_asm); (case kK => first | exact rfl | assumption); (case kd => first | exact Nat.le_of_ble_eq_true rfl | ktr_room); (case ku => first | exact Nat.le_of_ble_eq_true rfl | ktr_units); intro v' h' tk' hv' hk' F' N'; (obtain ⟨tk9', hv9'⟩ := hv'); (subst hv9'))); (try dsimp only); (try k_fold); (try k_sweep)) | with_reducible (k_here; (with_reducible show wpAny _ _ (call (Value.ref 42) _) _ _ _); (k_dflt (refine' Spec.use (sp_whisper _ _ (by with_reducible assumption)) ?k1 ?k2 ?k3 ?k4 ?k5 ?kK ?kd ?ku ?_; (case k1 => k_asm); (case k2 => k_asm); (case k3 => k_asm); (case k4 => k_asm); (case k5 => k_asm); (case kK => first | exact rfl | assumption); (case kd => first | exact Nat.le_of_ble_eq_true rfl | ktr_room); (case ku => first | exact Nat.le_of_ble_eq_true rfl | ktr_units); intro v' h' tk' hv' hk' F' N'; (obtain ⟨tk9', hv9'⟩ := hv'); (subst hv9'))); (try dsimp only); (try k_fold); (try k_sweep)) | with_reducible (k_here; (with_reducible show wpAny _ _ (call (Value.ref 130) _) _ _ _); (k_dflt (refine' SpecR.use (spec_read _ _ (by exact len_of (by repeat' (first | with_reducible assumption | with_reducible exact num_short (by with_reducible assumption) | with_reducible apply short_append | with_reducible apply short_swap | (with_reducible exact short_getD (n := 5) (by decide +kernel) _))) (by decide))) ?k1 ?k2 ?k3 ?k4 ?k5 ?kK ?kd ?ku ?_; (case k1 => k_asm); (case k2 => k_asm); (case k3 => k_asm); (case k4 => k_asm); (case k5 => k_asm); (case kK => first | exact rfl | assumption); (case kd => first | exact Nat.le_of_ble_eq_true rfl | ktr_room); (case ku => first | exact Nat.le_of_ble_eq_true rfl | ktr_units); intro v' h' tk' hv' F' N'; (subst hv'))); (try dsimp only); (try k_fold); (try k_sweep)) | with_reducible (k_here; (with_reducible show wpAny _ _ (call (Value.ref 84) _) _ _ _); (k_dflt (refine' Spec.use (spec_roman _ _ (by with_reducible assumption)) ?k1 ?k2 ?k3 ?k4 ?k5 ?kK ?kd ?ku ?_; (case k1 => k_asm); (case k2 => k_asm); (case k3 => k_asm); (case k4 => k_asm); (case k5 => k_asm); (case kK => first | exact rfl | assumption); (case kd => first | exact Nat.le_of_ble_eq_true rfl | ktr_room); (case ku => first | exact Nat.le_of_ble_eq_true rfl | ktr_units); intro v' h' tk' hv' hk' F' N'; (obtain ⟨tk9', hv9'⟩ := hv'); (subst hv9'))); (try dsimp only); (try k_fold); (try k_sweep)) | with_reducible (k_here; (with_reducible show wpAny _ _ (call (Value.ref 116) _) _ _ _); (k_dflt (refine' Spec.use (sp_numeral _ _ (by with_reducible assumption)) ?k1 ?k2 ?k3 ?k4 ?k5 ?kK ?kd ?ku ?_; (case k1 => k_asm); (case k2 => k_asm); (case k3 => k_asm); (case k4 => k_asm); (case k5 => k_asm); (case kK => first | exact rfl | assumption); (case kd => first | exact Nat.le_of_ble_eq_true rfl | ktr_room); (case ku => first | exact Nat.le_of_ble_eq_true rfl | ktr_units); intro v' h' tk' hv' hk' F' N'; (obtain ⟨tk9', hv9'⟩ := hv'); (subst hv9'))); (try dsimp only); (try k_fold); (try k_sweep)) | with_reducible (k_here; (with_reducible show wpAny _ _ (call (Value.ref 109) _) _ _ _); (k_dflt (refine' Spec.use (spec_number _ _ _ _ _ _ _ _ _ _ _ _) ?k1 ?k2 ?k3 ?k4 ?k5 ?kK ?kd ?ku ?_; (case k1 => k_asm); (case k2 => k_asm); (case k3 => k_asm); (case k4 => k_asm); (case k5 => k_asm); (case kK => first | exact rfl | assumption); (case kd => first | exact Nat.le_of_ble_eq_true rfl | ktr_room); (case ku => first | exact Nat.le_of_ble_eq_true rfl | ktr_units); intro v' h' tk' hv' hk' F' N'; (obtain ⟨n9', tk9', hv9', hr9'⟩ := hv'); (subst hv9'))); (try dsimp only); (try k_fold); (try k_sweep)))) | walk1 | (dsimp only; walk1) | (leave1; walk_say "STEP leave1"; try dsimp only) | fail "no step")
  done)
end Mine
end

theorem PySem.Challenge.cw_sx_yscribe_1_holds : PySem.Challenge.rw_sx_yscribe_1.Holds :=
  Mine.law_go
