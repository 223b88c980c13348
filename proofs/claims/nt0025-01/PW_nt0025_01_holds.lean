import PyProof.Rows.All
import Wide.All
import OpenK.AllK
import Wide.FinOn
import Lean
import PySem.Challenge.RW_nt0025_01
open PySem PySem.W PyProof.Rows
set_option Elab.async false
set_option maxRecDepth 100000
set_option genSizeOfSpec false
set_option genInjectivity false
set_option linter.all false
set_option maxHeartbeats 8000000
namespace Mine
noncomputable def q : Program := view PySem.Challenge.pw_nt0025_01 [1, 2, 3, 4, 5, 6, 7, 8, 9, 10, 11, 12, 13, 14, 15, 16, 17, 19, 20, 21, 22, 23, 24, 25, 26, 27, 28, 29, 31, 32, 33, 34, 35, 36, 38, 39, 40, 41, 42, 43, 44, 45, 46, 47, 48, 49, 50, 51]
theorem left_of {p q : Program} {loose : List Str} {Xt : Shared → Bool} {α : Type} {Yf : Shared → α} {Ya : World → α} {N : Nat} (hN : Nat.ble 600 N = true) (e : opening p = plainProg p.main.scope.names) (f : ∀ s, fenceModules? p s = some s)
    (h : ∀ (w : World) (os : OsState), (topFrom treeTable p w N ⟨boot_heap w.params, #[], boot_drawn, boot_toks, os⟩).map (fun s => (openSeen q loose (importedModules p.main.body) Xt true s, Yf s)) = some (openGood q loose, Ya w)) : LeftO p q loose Xt Yf Ya N := fun w => by
  have b := boot_open e hN f w
  unfold openEnds
  cases hf : fencedOpening treeTable p w N with
  | none => rw [hf] at b; cases b
  | some s₀ =>
    rw [hf] at b
    obtain ⟨hp, g, d, t, os⟩ := s₀
    simp only [Option.map_some, Option.some.injEq, Prod.mk.injEq] at b
    obtain ⟨rfl, rfl, rfl, rfl⟩ := b
    exact h w os
noncomputable def topRunT (tb : String → Option Builtin) (p : Program) (w : World) (n₀ : Nat) (ann : Option Value) : Nat → SharedT → Thread → Option SharedT
  | 0, _, _ => none
  | n + 1, s, t => match through t with
    | true => some s
    | false => match stepOk n₀ ann t with
      | false => none
      | true => match stepT (denote tb) p w s t with
        | some (s', t') => topRunT tb p w n₀ ann n s' t'
        | none => none
theorem topRun_of {tb : String → Option Builtin} {p : Program} {w : World} {n₀ : Nat} {ann : Option Value} : ∀ {n : Nat} {s s' : SharedT} {t : Thread}, topRunT tb p w n₀ ann n s t = some s' → topRun tb p w n₀ ann n s.abs t = some s'.abs
  | 0, _, _, _, h => by cases h
  | n + 1, s, s', t, h => by
    unfold topRunT at h
    unfold topRun
    cases he : through t with
    | true => rw [he] at h; cases h; rfl
    | false =>
      rw [he] at h
      cases hk : stepOk n₀ ann t with
      | false => rw [hk] at h; cases h
      | true =>
        rw [hk] at h
        cases hs : stepT (denote tb) p w s t with
        | none => rw [hs] at h; cases h
        | some r => obtain ⟨s₂, t₂⟩ := r; rw [hs] at h; rw [stepT_spec hs]; exact topRun_of h
noncomputable def treeOf : List Obj → Nat → BT → BT
  | [], _, t => t
  | o :: l, i, t => treeOf l (i + 1) (t.ins i o)
noncomputable def bootT (w : World) (os : OsState) : SharedT := ⟨treeOf (boot_heap w.params).objs.toList 0 .nil, 11, (boot_heap w.params).life, #[], boot_drawn, boot_toks, os⟩
theorem boot_abs (w : World) (os : OsState) : (⟨boot_heap w.params, #[], boot_drawn, boot_toks, os⟩ : Shared) = (bootT w os).abs := by kernel_rfl
noncomputable def okTop (p : Program) (s₀ s : Shared) : Bool := staticsOk (importedModules p.main.body) s₀.heap s.heap && namesBound p s.heap && gensDone s && laidKept s₀.heap s.heap
theorem topFrom_of {β γ : Type} {tb : String → Option Builtin} {p : Program} {w : World} {N n₀ : Nat} {ann : Option Value} {s : SharedT} {s₀ : Shared} {f : Shared → β} {g : Shared → γ} {b : β} {c : γ} (e : s₀ = s.abs) (h0 : (s₀.heap.isNs mainGlobals && s₀.gens.size == 0) = true) (hn : s₀.heap.objs.size = n₀) (ha : s₀.heap.nsMap mainGlobals "__annotations__" = ann)
    (h1 : (topRunT tb p w n₀ ann N s (topStub p)).map (fun s₁ => (okTop p s₀ s₁.abs, g s₁.abs)) = some (true, c)) (h2 : (topRunT tb p w n₀ ann N s (topStub p)).map (fun s₁ => f s₁.abs) = some b) : (topFrom tb p w N s₀).map (fun s => (f s, g s)) = some (b, c) := by
  subst e hn ha
  cases hT : topRunT tb p w s.abs.heap.objs.size (s.abs.heap.nsMap mainGlobals "__annotations__") N s (topStub p) with
  | none => rw [hT] at h1; cases h1
  | some s₁ =>
    rw [hT] at h1 h2
    have r := topRun_of hT
    obtain ⟨h3, h4⟩ := Prod.mk.inj (Option.some.inj h1)
    have h5 : f s₁.abs = b := Option.some.inj h2
    unfold topFrom
    rw [h0, ← h4, ← h5]
    show ((topRun tb p w s.abs.heap.objs.size (s.abs.heap.nsMap mainGlobals "__annotations__") N s.abs (topStub p)).bind fun s₁ => match okTop p s.abs s₁ with | true => some s₁ | false => none).map _ = _
    rw [r]
    show (match okTop p s.abs s₁.abs with | true => some s₁.abs | false => none).map _ = _
    rw [h3]
    rfl
local macro_rules | `(tactic| o_head $_) => `(tactic| assumption)
theorem pre (h : PySem.Challenge.rw_nt0025_01.row.Holds) : PySem.Challenge.rw_nt0025_01.row.Holds := by k_head
noncomputable abbrev Hk : Hook := kHook pre.heap_1 [2, 3, 15, 22, 23, 25, 26, 28, 29, 30, 31, 32, 33, 36, 43, 44, 45, 48, 55, 56, 57, 60, 67, 68, 69, 72, 74, 75, 77, 78, 79, 81, 82, 84, 85, 86, 88, 89, 91, 92, 93, 96, 97, 98, 101, 102, 103, 106, 107, 108, 110, 111, 113, 114, 115, 117, 118, 120, 121, 122, 124, 125, 127, 128, 129, 131, 132, 134, 135, 136, 138, 139, 141, 142, 143, 145, 146, 148, 149, 150, 152, 153, 155, 156, 157, 159, 160, 162, 163, 164, 166, 167, 169, 170, 178, 180, 181, 183, 184, 185, 187, 188, 190, 191, 192, 194, 195, 197, 198, 199, 201, 202, 204, 205, 206, 208, 209, 211, 212, 213, 215, 216, 218, 219, 220, 222, 223, 225, 226, 227, 229, 230, 232, 233, 234, 236, 237, 239, 240, 241, 243, 244, 246, 247, 248, 250, 251, 253, 254, 255, 258, 259, 260, 262, 263, 265, 266, 267, 268, 269, 270, 271, 274, 276, 277, 279, 280, 281, 283, 284, 286, 287, 288, 290, 291, 293, 294, 295, 296, 299, 300, 301, 303, 304, 306, 307, 308, 310, 311, 313, 314, 315, 318, 319, 320, 322, 323, 325, 326, 327, 329, 330, 332, 333, 334, 336, 337, 339, 340, 341, 343, 344, 346, 347, 348, 351, 352, 353, 355, 356, 358, 359, 360, 363, 364, 365, 367, 368, 370, 371, 372, 375, 376] (fun _ => by kernel_rfl)
noncomputable abbrev Xt (s : Shared) : Bool := xlAt Mine.q [] s && recOk (RowW.records (OpenRow.toRowW (OpenLaw.row PySem.Challenge.rw_nt0025_01))) s
noncomputable def topFo (P : Params) (a : Nat) : Obj := ((pre.heap_1 P).lookup a).getD default
noncomputable def topFd (o : Obj) : FuncData := match o.data with
  | .func fd => fd
  | _ => default
/-! the objects that stand behind the class RuleReader (printed by wip/gen17.py) -/
noncomputable def topObjs (P : Params) : List Obj := [
  boot_o_0 P,
  boot_o_1 P,
  topFo P 2,
  { cls := Value.type "dict", data := Data.dict #[{ hash := PyData.keyHash P (Str.ofString "__name__"), key := Value.str (Str.ofString "__name__") 165, val := Value.str (Str.ofString "unicore.colltailor") 396 }, { hash := PyData.keyHash P (Str.ofString "__doc__"), key := Value.str (Str.ofString "__doc__") 166, val := Value.none }, { hash := PyData.keyHash P (Str.ofString "__package__"), key := Value.str (Str.ofString "__package__") 167, val := Value.none }, { hash := PyData.keyHash P (Str.ofString "__loader__"), key := Value.str (Str.ofString "__loader__") 168, val := Value.builtin "__main__.__loader__#opaque" }, { hash := PyData.keyHash P (Str.ofString "__spec__"), key := Value.str (Str.ofString "__spec__") 169, val := Value.none }, { hash := PyData.keyHash P (Str.ofString "__annotations__"), key := Value.str (Str.ofString "__annotations__") 170, val := Value.ref 6 }, { hash := PyData.keyHash P (Str.ofString "__builtins__"), key := Value.str (Str.ofString "__builtins__") 171, val := Value.ref 4 }, { hash := PyData.keyHash P (Str.ofString "__file__"), key := Value.str (Str.ofString "__file__") 173, val := Value.str (Str.ofString "/claim/cut.py") 172 }, { hash := PyData.keyHash P (Str.ofString "__cached__"), key := Value.str (Str.ofString "__cached__") 174, val := Value.none }, { hash := PyData.keyHash P (Str.ofString "MAX_CODE"), key := Value.str (Str.ofString "MAX_CODE") 190, val := Value.int 1114111 189 }, { hash := PyData.keyHash P (Str.ofString "HIGH_FIRST"), key := Value.str (Str.ofString "HIGH_FIRST") 192, val := Value.int 55296 191 }, { hash := PyData.keyHash P (Str.ofString "LOW_LAST"), key := Value.str (Str.ofString "LOW_LAST") 194, val := Value.int 57343 193 }, { hash := PyData.keyHash P (Str.ofString "HEX_DIGITS"), key := Value.str (Str.ofString "HEX_DIGITS") 196, val := Value.bytes #[48, 49, 50, 51, 52, 53, 54, 55, 56, 57, 65, 66, 67, 68, 69, 70] 195 }, { hash := PyData.keyHash P (Str.ofString "LEAST_HEX"), key := Value.str (Str.ofString "LEAST_HEX") 198, val := Value.int 4 197 }, { hash := PyData.keyHash P (Str.ofString "UniError"), key := Value.str (Str.ofString "UniError") 227, val := Value.ref 32 }, { hash := PyData.keyHash P (Str.ofString "BadEncoding"), key := Value.str (Str.ofString "BadEncoding") 243, val := Value.ref 45 }, { hash := PyData.keyHash P (Str.ofString "BadCode"), key := Value.str (Str.ofString "BadCode") 259, val := Value.ref 57 }, { hash := PyData.keyHash P (Str.ofString "BadRule"), key := Value.str (Str.ofString "BadRule") 275, val := Value.ref 69 }, { hash := PyData.keyHash P (Str.ofString "is_code"), key := Value.str (Str.ofString "is_code") 282, val := Value.ref 78 }, { hash := PyData.keyHash P (Str.ofString "is_surrogate"), key := Value.str (Str.ofString "is_surrogate") 289, val := Value.ref 85 }, { hash := PyData.keyHash P (Str.ofString "is_scalar"), key := Value.str (Str.ofString "is_scalar") 296, val := Value.ref 92 }, { hash := PyData.keyHash P (Str.ofString "codes_of"), key := Value.str (Str.ofString "codes_of") 302, val := Value.ref 97 }, { hash := PyData.keyHash P (Str.ofString "str_of"), key := Value.str (Str.ofString "str_of") 308, val := Value.ref 102 }, { hash := PyData.keyHash P (Str.ofString "ascii_of"), key := Value.str (Str.ofString "ascii_of") 314, val := Value.ref 107 }, { hash := PyData.keyHash P (Str.ofString "hex_code"), key := Value.str (Str.ofString "hex_code") 323, val := Value.ref 114 }, { hash := PyData.keyHash P (Str.ofString "hex_value"), key := Value.str (Str.ofString "hex_value") 330, val := Value.ref 121 }, { hash := PyData.keyHash P (Str.ofString "UTF8_ALONE"), key := Value.str (Str.ofString "UTF8_ALONE") 334, val := Value.str (Str.ofString "a trail octet without a lead") 333 }, { hash := PyData.keyHash P (Str.ofString "UTF8_NEVER"), key := Value.str (Str.ofString "UTF8_NEVER") 336, val := Value.str (Str.ofString "an octet that never stands") 335 }, { hash := PyData.keyHash P (Str.ofString "UTF8_BROKEN"), key := Value.str (Str.ofString "UTF8_BROKEN") 338, val := Value.str (Str.ofString "a sequence that breaks off") 337 }, { hash := PyData.keyHash P (Str.ofString "UTF8_SHORT"), key := Value.str (Str.ofString "UTF8_SHORT") 340, val := Value.str (Str.ofString "a sequence that is cut short") 339 }, { hash := PyData.keyHash P (Str.ofString "UTF8_TRAIL"), key := Value.str (Str.ofString "UTF8_TRAIL") 342, val := Value.int 128 341 }, { hash := PyData.keyHash P (Str.ofString "UTF8_PLANE"), key := Value.str (Str.ofString "UTF8_PLANE") 344, val := Value.int 65536 343 }, { hash := PyData.keyHash P (Str.ofString "utf8_octets"), key := Value.str (Str.ofString "utf8_octets") 352, val := Value.ref 128 }, { hash := PyData.keyHash P (Str.ofString "encode_utf8"), key := Value.str (Str.ofString "encode_utf8") 361, val := Value.ref 135 }, { hash := PyData.keyHash P (Str.ofString "utf8_lead"), key := Value.str (Str.ofString "utf8_lead") 368, val := Value.ref 142 }, { hash := PyData.keyHash P (Str.ofString "utf8_piece"), key := Value.str (Str.ofString "utf8_piece") 383, val := Value.ref 149 }, { hash := PyData.keyHash P (Str.ofString "decode_utf8"), key := Value.str (Str.ofString "decode_utf8") 395, val := Value.ref 156 }, { hash := PyData.keyHash P (Str.ofString "rule_is_blank"), key := Value.str (Str.ofString "rule_is_blank") 404, val := Value.ref 163 }, { hash := PyData.keyHash P (Str.ofString "rule_is_sign"), key := Value.str (Str.ofString "rule_is_sign") 411, val := Value.ref 170 }, { hash := PyData.keyHash P (Str.ofString "RuleReader"), key := Value.str (Str.ofString "RuleReader") 555, val := Value.ref 269 }] 40 },
  boot_o_4 P,
  boot_o_5 P,
  boot_o_6 P,
  boot_o_7 P,
  boot_o_8 P,
  boot_o_9 P,
  boot_o_10 P,
  { cls := Value.type "tuple", data := Data.seq #[] },
  { cls := Value.none, data := Data.fields #[Value.int 7 0, Value.int 0 0, Value.ref 20, Value.int 11 0, Value.int 0 0, Value.ref 41, Value.int 13 0, Value.int 0 0, Value.ref 53, Value.int 15 0, Value.int 0 0, Value.ref 65, Value.int 17 0, Value.int 0 0, Value.ref 77, Value.int 19 0, Value.int 0 0, Value.ref 84, Value.int 21 0, Value.int 0 0, Value.ref 91, Value.int 23 0, Value.int 0 0, Value.ref 96, Value.int 25 0, Value.int 0 0, Value.ref 101, Value.int 30 0, Value.int 0 0, Value.ref 106, Value.int 35 0, Value.int 0 0, Value.ref 113, Value.int 42 0, Value.int 0 0, Value.ref 120, Value.int 57 0, Value.int 0 0, Value.ref 127, Value.int 66 0, Value.int 0 0, Value.ref 134, Value.int 73 0, Value.int 0 0, Value.ref 141, Value.int 83 0, Value.int 0 0, Value.ref 148, Value.int 100 0, Value.int 0 0, Value.ref 155, Value.int 110 0, Value.int 0 0, Value.ref 162, Value.int 112 0, Value.int 0 0, Value.ref 169, Value.int 114 0, Value.int 0 0, Value.ref 176] },
  { cls := Value.type "code", data := Data.fields #[Value.str (Str.ofString "<module>") 182, Value.str (Str.ofString "<module>") 183, Value.str (Str.ofString "/claim/cut.py") 184, Value.int 1 0, Value.int 0 0, Value.int 0 0, Value.int 0 0, Value.int 0 0, Value.ref 11, Value.bool false, Value.int 181 0, Value.ref 12, Value.none, Value.none, Value.none, Value.none, Value.int 185 0, Value.int 1 0, Value.str (Str.ofString "/claim/cut.py") 186] },
  { cls := Value.type "frame", slots := #[some (Value.ref 13), some (Value.ref 3), some (Value.ref 3), none, some (Value.str (Str.ofString "__main__") 164), none, some (Value.ref 0)] },
  topFo P 15,
  { cls := Value.type "builtin_function_or_method", data := Data.fields #[Value.builtin "type.__prepare__", Value.type "type"] },
  { cls := Value.type "dict", data := Data.dict #[{ hash := PyData.keyHash P (Str.ofString "__module__"), key := Value.str (Str.ofString "__module__") 206, val := Value.str (Str.ofString "unicore.base") 187 }, { hash := PyData.keyHash P (Str.ofString "__qualname__"), key := Value.str (Str.ofString "__qualname__") 208, val := Value.str (Str.ofString "UniError") 207 }, { hash := PyData.keyHash P (Str.ofString "__firstlineno__"), key := Value.str (Str.ofString "__firstlineno__") 210, val := Value.int 7 209 }, { hash := PyData.keyHash P (Str.ofString "__init__"), key := Value.str (Str.ofString "__init__") 218, val := Value.ref 29 }, { hash := PyData.keyHash P (Str.ofString "__static_attributes__"), key := Value.str (Str.ofString "__static_attributes__") 220, val := Value.ref 30 }] 5 },
  { cls := Value.type "tuple", data := Data.seq #[] },
  { cls := Value.none, data := Data.fields #[Value.int 9 0, Value.int 4 0, Value.ref 28] },
  { cls := Value.type "code", data := Data.fields #[Value.str (Str.ofString "UniError") 201, Value.str (Str.ofString "UniError") 202, Value.str (Str.ofString "/claim/cut.py") 203, Value.int 7 0, Value.int 0 0, Value.int 0 0, Value.int 0 0, Value.int 0 0, Value.ref 18, Value.bool false, Value.int 181 0, Value.ref 19, Value.none, Value.none, Value.none, Value.none, Value.int 204 0, Value.int 7 0, Value.str (Str.ofString "/claim/cut.py") 205] },
  { cls := Value.type "frame", slots := #[some (Value.ref 20), some (Value.ref 3), some (Value.ref 17), none, some (Value.str (Str.ofString "unicore.base") 187), none, some (Value.ref 0)] },
  topFo P 22,
  topFo P 23,
  { cls := Value.none, data := Data.fields #[] },
  topFo P 25,
  topFo P 26,
  ⟨Value.none, none, .func { topFd (topFo P 29) with globals := 0, defaults := Value.none, pyModule := Value.none, code := Value.none }, #[]⟩,
  topFo P 28,
  topFo P 29,
  topFo P 30,
  topFo P 31,
  topFo P 32,
  topFo P 33,
  { cls := Value.type "super", data := Data.fields #[Value.ref 32, Value.ref 32, Value.ref 32] },
  { cls := Value.type "builtin_function_or_method", data := Data.fields #[Value.builtin "object.__init_subclass__", Value.ref 32] },
  topFo P 36,
  { cls := Value.type "builtin_function_or_method", data := Data.fields #[Value.builtin "type.__prepare__", Value.type "type"] },
  { cls := Value.type "dict", data := Data.dict #[{ hash := PyData.keyHash P (Str.ofString "__module__"), key := Value.str (Str.ofString "__module__") 235, val := Value.str (Str.ofString "unicore.base") 187 }, { hash := PyData.keyHash P (Str.ofString "__qualname__"), key := Value.str (Str.ofString "__qualname__") 237, val := Value.str (Str.ofString "BadEncoding") 236 }, { hash := PyData.keyHash P (Str.ofString "__firstlineno__"), key := Value.str (Str.ofString "__firstlineno__") 239, val := Value.int 11 238 }, { hash := PyData.keyHash P (Str.ofString "__static_attributes__"), key := Value.str (Str.ofString "__static_attributes__") 240, val := Value.ref 43 }] 4 },
  { cls := Value.type "tuple", data := Data.seq #[] },
  { cls := Value.none, data := Data.fields #[] },
  { cls := Value.type "code", data := Data.fields #[Value.str (Str.ofString "BadEncoding") 230, Value.str (Str.ofString "BadEncoding") 231, Value.str (Str.ofString "/claim/cut.py") 232, Value.int 11 0, Value.int 0 0, Value.int 0 0, Value.int 0 0, Value.int 0 0, Value.ref 39, Value.bool false, Value.int 181 0, Value.ref 40, Value.none, Value.none, Value.none, Value.none, Value.int 233 0, Value.int 11 0, Value.str (Str.ofString "/claim/cut.py") 234] },
  { cls := Value.type "frame", slots := #[some (Value.ref 41), some (Value.ref 3), some (Value.ref 38), none, some (Value.str (Str.ofString "unicore.base") 187), none, some (Value.ref 0)] },
  topFo P 43,
  topFo P 44,
  topFo P 45,
  { cls := Value.type "super", data := Data.fields #[Value.ref 45, Value.ref 45, Value.ref 45] },
  { cls := Value.type "builtin_function_or_method", data := Data.fields #[Value.builtin "object.__init_subclass__", Value.ref 45] },
  topFo P 48,
  { cls := Value.type "builtin_function_or_method", data := Data.fields #[Value.builtin "type.__prepare__", Value.type "type"] },
  { cls := Value.type "dict", data := Data.dict #[{ hash := PyData.keyHash P (Str.ofString "__module__"), key := Value.str (Str.ofString "__module__") 251, val := Value.str (Str.ofString "unicore.base") 187 }, { hash := PyData.keyHash P (Str.ofString "__qualname__"), key := Value.str (Str.ofString "__qualname__") 253, val := Value.str (Str.ofString "BadCode") 252 }, { hash := PyData.keyHash P (Str.ofString "__firstlineno__"), key := Value.str (Str.ofString "__firstlineno__") 255, val := Value.int 13 254 }, { hash := PyData.keyHash P (Str.ofString "__static_attributes__"), key := Value.str (Str.ofString "__static_attributes__") 256, val := Value.ref 55 }] 4 },
  { cls := Value.type "tuple", data := Data.seq #[] },
  { cls := Value.none, data := Data.fields #[] },
  { cls := Value.type "code", data := Data.fields #[Value.str (Str.ofString "BadCode") 246, Value.str (Str.ofString "BadCode") 247, Value.str (Str.ofString "/claim/cut.py") 248, Value.int 13 0, Value.int 0 0, Value.int 0 0, Value.int 0 0, Value.int 0 0, Value.ref 51, Value.bool false, Value.int 181 0, Value.ref 52, Value.none, Value.none, Value.none, Value.none, Value.int 249 0, Value.int 13 0, Value.str (Str.ofString "/claim/cut.py") 250] },
  { cls := Value.type "frame", slots := #[some (Value.ref 53), some (Value.ref 3), some (Value.ref 50), none, some (Value.str (Str.ofString "unicore.base") 187), none, some (Value.ref 0)] },
  topFo P 55,
  topFo P 56,
  topFo P 57,
  { cls := Value.type "super", data := Data.fields #[Value.ref 57, Value.ref 57, Value.ref 57] },
  { cls := Value.type "builtin_function_or_method", data := Data.fields #[Value.builtin "object.__init_subclass__", Value.ref 57] },
  topFo P 60,
  { cls := Value.type "builtin_function_or_method", data := Data.fields #[Value.builtin "type.__prepare__", Value.type "type"] },
  { cls := Value.type "dict", data := Data.dict #[{ hash := PyData.keyHash P (Str.ofString "__module__"), key := Value.str (Str.ofString "__module__") 267, val := Value.str (Str.ofString "unicore.base") 187 }, { hash := PyData.keyHash P (Str.ofString "__qualname__"), key := Value.str (Str.ofString "__qualname__") 269, val := Value.str (Str.ofString "BadRule") 268 }, { hash := PyData.keyHash P (Str.ofString "__firstlineno__"), key := Value.str (Str.ofString "__firstlineno__") 271, val := Value.int 15 270 }, { hash := PyData.keyHash P (Str.ofString "__static_attributes__"), key := Value.str (Str.ofString "__static_attributes__") 272, val := Value.ref 67 }] 4 },
  { cls := Value.type "tuple", data := Data.seq #[] },
  { cls := Value.none, data := Data.fields #[] },
  { cls := Value.type "code", data := Data.fields #[Value.str (Str.ofString "BadRule") 262, Value.str (Str.ofString "BadRule") 263, Value.str (Str.ofString "/claim/cut.py") 264, Value.int 15 0, Value.int 0 0, Value.int 0 0, Value.int 0 0, Value.int 0 0, Value.ref 63, Value.bool false, Value.int 181 0, Value.ref 64, Value.none, Value.none, Value.none, Value.none, Value.int 265 0, Value.int 15 0, Value.str (Str.ofString "/claim/cut.py") 266] },
  { cls := Value.type "frame", slots := #[some (Value.ref 65), some (Value.ref 3), some (Value.ref 62), none, some (Value.str (Str.ofString "unicore.base") 187), none, some (Value.ref 0)] },
  topFo P 67,
  topFo P 68,
  topFo P 69,
  { cls := Value.type "super", data := Data.fields #[Value.ref 69, Value.ref 69, Value.ref 69] },
  { cls := Value.type "builtin_function_or_method", data := Data.fields #[Value.builtin "object.__init_subclass__", Value.ref 69] },
  topFo P 72,
  { cls := Value.none, data := Data.fields #[] },
  topFo P 74,
  topFo P 75,
  ⟨Value.none, none, .func { topFd (topFo P 78) with globals := 0, pyModule := Value.none, code := Value.none }, #[]⟩,
  topFo P 77,
  topFo P 78,
  topFo P 79,
  { cls := Value.none, data := Data.fields #[] },
  topFo P 81,
  topFo P 82,
  ⟨Value.none, none, .func { topFd (topFo P 85) with globals := 0, pyModule := Value.none, code := Value.none }, #[]⟩,
  topFo P 84,
  topFo P 85,
  topFo P 86,
  { cls := Value.none, data := Data.fields #[] },
  topFo P 88,
  topFo P 89,
  ⟨Value.none, none, .func { topFd (topFo P 92) with globals := 0, pyModule := Value.none, code := Value.none }, #[]⟩,
  topFo P 91,
  topFo P 92,
  topFo P 93,
  { cls := Value.none, data := Data.fields #[] },
  ⟨Value.none, none, .func { topFd (topFo P 97) with globals := 0, pyModule := Value.none, code := Value.none }, #[]⟩,
  topFo P 96,
  topFo P 97,
  topFo P 98,
  { cls := Value.none, data := Data.fields #[] },
  ⟨Value.none, none, .func { topFd (topFo P 102) with globals := 0, pyModule := Value.none, code := Value.none }, #[]⟩,
  topFo P 101,
  topFo P 102,
  topFo P 103,
  { cls := Value.none, data := Data.fields #[] },
  ⟨Value.none, none, .func { topFd (topFo P 107) with globals := 0, pyModule := Value.none, code := Value.none }, #[]⟩,
  topFo P 106,
  topFo P 107,
  topFo P 108,
  { cls := Value.none, data := Data.fields #[] },
  topFo P 110,
  topFo P 111,
  ⟨Value.none, none, .func { topFd (topFo P 114) with globals := 0, pyModule := Value.none, code := Value.none }, #[]⟩,
  topFo P 113,
  topFo P 114,
  topFo P 115,
  { cls := Value.none, data := Data.fields #[] },
  topFo P 117,
  topFo P 118,
  ⟨Value.none, none, .func { topFd (topFo P 121) with globals := 0, pyModule := Value.none, code := Value.none }, #[]⟩,
  topFo P 120,
  topFo P 121,
  topFo P 122,
  { cls := Value.none, data := Data.fields #[] },
  topFo P 124,
  topFo P 125,
  ⟨Value.none, none, .func { topFd (topFo P 128) with globals := 0, pyModule := Value.none, code := Value.none }, #[]⟩,
  topFo P 127,
  topFo P 128,
  topFo P 129,
  { cls := Value.none, data := Data.fields #[] },
  topFo P 131,
  topFo P 132,
  ⟨Value.none, none, .func { topFd (topFo P 135) with globals := 0, pyModule := Value.none, code := Value.none }, #[]⟩,
  topFo P 134,
  topFo P 135,
  topFo P 136,
  { cls := Value.none, data := Data.fields #[] },
  topFo P 138,
  topFo P 139,
  ⟨Value.none, none, .func { topFd (topFo P 142) with globals := 0, pyModule := Value.none, code := Value.none }, #[]⟩,
  topFo P 141,
  topFo P 142,
  topFo P 143,
  { cls := Value.none, data := Data.fields #[] },
  topFo P 145,
  topFo P 146,
  ⟨Value.none, none, .func { topFd (topFo P 149) with globals := 0, pyModule := Value.none, code := Value.none }, #[]⟩,
  topFo P 148,
  topFo P 149,
  topFo P 150,
  { cls := Value.none, data := Data.fields #[] },
  topFo P 152,
  topFo P 153,
  ⟨Value.none, none, .func { topFd (topFo P 156) with globals := 0, pyModule := Value.none, code := Value.none }, #[]⟩,
  topFo P 155,
  topFo P 156,
  topFo P 157,
  { cls := Value.none, data := Data.fields #[] },
  topFo P 159,
  topFo P 160,
  ⟨Value.none, none, .func { topFd (topFo P 163) with globals := 0, pyModule := Value.none, code := Value.none }, #[]⟩,
  topFo P 162,
  topFo P 163,
  topFo P 164,
  { cls := Value.none, data := Data.fields #[] },
  topFo P 166,
  topFo P 167,
  ⟨Value.none, none, .func { topFd (topFo P 170) with globals := 0, pyModule := Value.none, code := Value.none }, #[]⟩,
  topFo P 169,
  topFo P 170,
  { cls := Value.type "tuple", data := Data.seq #[] },
  { cls := Value.type "builtin_function_or_method", data := Data.fields #[Value.builtin "type.__prepare__", Value.type "type"] },
  { cls := Value.type "dict", data := Data.dict #[{ hash := PyData.keyHash P (Str.ofString "__module__"), key := Value.str (Str.ofString "__module__") 419, val := Value.str (Str.ofString "unicore.colltailor") 396 }, { hash := PyData.keyHash P (Str.ofString "__qualname__"), key := Value.str (Str.ofString "__qualname__") 421, val := Value.str (Str.ofString "RuleReader") 420 }, { hash := PyData.keyHash P (Str.ofString "__firstlineno__"), key := Value.str (Str.ofString "__firstlineno__") 423, val := Value.int 114 422 }, { hash := PyData.keyHash P (Str.ofString "__init__"), key := Value.str (Str.ofString "__init__") 431, val := Value.ref 184 }, { hash := PyData.keyHash P (Str.ofString "skip"), key := Value.str (Str.ofString "skip") 439, val := Value.ref 191 }, { hash := PyData.keyHash P (Str.ofString "sees"), key := Value.str (Str.ofString "sees") 447, val := Value.ref 198 }, { hash := PyData.keyHash P (Str.ofString "takes"), key := Value.str (Str.ofString "takes") 456, val := Value.ref 205 }, { hash := PyData.keyHash P (Str.ofString "escaped"), key := Value.str (Str.ofString "escaped") 469, val := Value.ref 212 }, { hash := PyData.keyHash P (Str.ofString "quoted"), key := Value.str (Str.ofString "quoted") 477, val := Value.ref 219 }, { hash := PyData.keyHash P (Str.ofString "string"), key := Value.str (Str.ofString "string") 487, val := Value.ref 226 }, { hash := PyData.keyHash P (Str.ofString "bracket"), key := Value.str (Str.ofString "bracket") 498, val := Value.ref 233 }, { hash := PyData.keyHash P (Str.ofString "words"), key := Value.str (Str.ofString "words") 508, val := Value.ref 240 }, { hash := PyData.keyHash P (Str.ofString "reset"), key := Value.str (Str.ofString "reset") 518, val := Value.ref 247 }, { hash := PyData.keyHash P (Str.ofString "strength"), key := Value.str (Str.ofString "strength") 527, val := Value.ref 254 }, { hash := PyData.keyHash P (Str.ofString "starred"), key := Value.str (Str.ofString "starred") 533, val := Value.ref 259 }, { hash := PyData.keyHash P (Str.ofString "relation"), key := Value.str (Str.ofString "relation") 545, val := Value.ref 266 }, { hash := PyData.keyHash P (Str.ofString "__static_attributes__"), key := Value.str (Str.ofString "__static_attributes__") 548, val := Value.ref 267 }] 17 },
  { cls := Value.type "tuple", data := Data.seq #[] },
  { cls := Value.none, data := Data.fields #[Value.int 116 0, Value.int 4 0, Value.ref 183, Value.int 120 0, Value.int 4 0, Value.ref 190, Value.int 131 0, Value.int 4 0, Value.ref 197, Value.int 134 0, Value.int 4 0, Value.ref 204, Value.int 139 0, Value.int 4 0, Value.ref 211, Value.int 158 0, Value.int 4 0, Value.ref 218, Value.int 172 0, Value.int 4 0, Value.ref 225, Value.int 190 0, Value.int 4 0, Value.ref 232, Value.int 201 0, Value.int 4 0, Value.ref 239, Value.int 211 0, Value.int 4 0, Value.ref 246, Value.int 226 0, Value.int 4 0, Value.ref 253, Value.int 236 0, Value.int 4 0, Value.ref 258, Value.int 245 0, Value.int 4 0, Value.ref 265] },
  { cls := Value.type "code", data := Data.fields #[Value.str (Str.ofString "RuleReader") 414, Value.str (Str.ofString "RuleReader") 415, Value.str (Str.ofString "/claim/cut.py") 416, Value.int 114 0, Value.int 0 0, Value.int 0 0, Value.int 0 0, Value.int 0 0, Value.ref 174, Value.bool false, Value.int 181 0, Value.ref 175, Value.none, Value.none, Value.none, Value.none, Value.int 417 0, Value.int 114 0, Value.str (Str.ofString "/claim/cut.py") 418] },
  { cls := Value.type "frame", slots := #[some (Value.ref 176), some (Value.ref 3), some (Value.ref 173), none, some (Value.str (Str.ofString "unicore.colltailor") 396), none, some (Value.ref 0)] },
  topFo P 178,
  { cls := Value.none, data := Data.fields #[] },
  topFo P 180,
  topFo P 181,
  ⟨Value.none, none, .func { topFd (topFo P 184) with globals := 0, pyModule := Value.none, code := Value.none }, #[]⟩,
  topFo P 183,
  topFo P 184,
  topFo P 185,
  { cls := Value.none, data := Data.fields #[] },
  topFo P 187,
  topFo P 188,
  ⟨Value.none, none, .func { topFd (topFo P 191) with globals := 0, pyModule := Value.none, code := Value.none }, #[]⟩,
  topFo P 190,
  topFo P 191,
  topFo P 192,
  { cls := Value.none, data := Data.fields #[] },
  topFo P 194,
  topFo P 195,
  ⟨Value.none, none, .func { topFd (topFo P 198) with globals := 0, pyModule := Value.none, code := Value.none }, #[]⟩,
  topFo P 197,
  topFo P 198,
  topFo P 199,
  { cls := Value.none, data := Data.fields #[] },
  topFo P 201,
  topFo P 202,
  ⟨Value.none, none, .func { topFd (topFo P 205) with globals := 0, pyModule := Value.none, code := Value.none }, #[]⟩,
  topFo P 204,
  topFo P 205,
  topFo P 206,
  { cls := Value.none, data := Data.fields #[] },
  topFo P 208,
  topFo P 209,
  ⟨Value.none, none, .func { topFd (topFo P 212) with globals := 0, pyModule := Value.none, code := Value.none }, #[]⟩,
  topFo P 211,
  topFo P 212,
  topFo P 213,
  { cls := Value.none, data := Data.fields #[] },
  topFo P 215,
  topFo P 216,
  ⟨Value.none, none, .func { topFd (topFo P 219) with globals := 0, pyModule := Value.none, code := Value.none }, #[]⟩,
  topFo P 218,
  topFo P 219,
  topFo P 220,
  { cls := Value.none, data := Data.fields #[] },
  topFo P 222,
  topFo P 223,
  ⟨Value.none, none, .func { topFd (topFo P 226) with globals := 0, pyModule := Value.none, code := Value.none }, #[]⟩,
  topFo P 225,
  topFo P 226,
  topFo P 227,
  { cls := Value.none, data := Data.fields #[] },
  topFo P 229,
  topFo P 230,
  ⟨Value.none, none, .func { topFd (topFo P 233) with globals := 0, pyModule := Value.none, code := Value.none }, #[]⟩,
  topFo P 232,
  topFo P 233,
  topFo P 234,
  { cls := Value.none, data := Data.fields #[] },
  topFo P 236,
  topFo P 237,
  ⟨Value.none, none, .func { topFd (topFo P 240) with globals := 0, pyModule := Value.none, code := Value.none }, #[]⟩,
  topFo P 239,
  topFo P 240,
  topFo P 241,
  { cls := Value.none, data := Data.fields #[] },
  topFo P 243,
  topFo P 244,
  ⟨Value.none, none, .func { topFd (topFo P 247) with globals := 0, pyModule := Value.none, code := Value.none }, #[]⟩,
  topFo P 246,
  topFo P 247,
  topFo P 248,
  { cls := Value.none, data := Data.fields #[] },
  topFo P 250,
  topFo P 251,
  ⟨Value.none, none, .func { topFd (topFo P 254) with globals := 0, pyModule := Value.none, code := Value.none }, #[]⟩,
  topFo P 253,
  topFo P 254,
  topFo P 255,
  { cls := Value.none, data := Data.fields #[] },
  ⟨Value.none, none, .func { topFd (topFo P 259) with globals := 0, pyModule := Value.none, code := Value.none }, #[]⟩,
  topFo P 258,
  topFo P 259,
  topFo P 260,
  { cls := Value.none, data := Data.fields #[] },
  topFo P 262,
  topFo P 263,
  ⟨Value.none, none, .func { topFd (topFo P 266) with globals := 0, pyModule := Value.none, code := Value.none }, #[]⟩,
  topFo P 265,
  topFo P 266,
  topFo P 267,
  topFo P 268,
  topFo P 269,
  topFo P 270,
  topFo P 271,
  { cls := Value.type "super", data := Data.fields #[Value.ref 269, Value.ref 269, Value.ref 269] },
  { cls := Value.type "builtin_function_or_method", data := Data.fields #[Value.builtin "object.__init_subclass__", Value.ref 269] }]
noncomputable def topS (w : World) (os : OsState) : SharedT := ⟨treeOf (topObjs w.params) 0 .nil, 274, (boot_heap w.params).life, #[], boot_drawn, 556, os⟩
noncomputable def topGoT (tb : String → Option Builtin) (p : Program) (w : World) (n₀ : Nat) (ann : Option Value) : Nat → SharedT → Thread → Option (SharedT × Thread)
  | 0, s, t => some (s, t)
  | n + 1, s, t => match through t with
    | true => none
    | false => match stepOk n₀ ann t with
      | false => none
      | true => match stepT (denote tb) p w s t with
        | some (s', t') => topGoT tb p w n₀ ann n s' t'
        | none => none
theorem topGo_run {tb : String → Option Builtin} {p : Program} {w : World} {n₀ : Nat} {ann : Option Value} : ∀ {n N : Nat} {s s' : SharedT} {t t' : Thread}, topGoT tb p w n₀ ann n s t = some (s', t') → topRunT tb p w n₀ ann (N + n) s t = topRunT tb p w n₀ ann N s' t'
  | 0, N, s, s', t, t', h => by cases h; rfl
  | n + 1, N, s, s', t, t', h => by
    unfold topGoT at h
    rw [← Nat.add_assoc]
    conv => lhs; unfold topRunT
    cases he : through t with
    | true => rw [he] at h; cases h
    | false =>
      rw [he] at h
      cases hk : stepOk n₀ ann t with
      | false => rw [hk] at h; cases h
      | true =>
        rw [hk] at h
        cases hs : stepT (denote tb) p w s t with
        | none => rw [hs] at h; cases h
        | some r => obtain ⟨s₂, t₂⟩ := r; rw [hs] at h; exact topGo_run h
noncomputable def topEnv : Env := { scope := PySem.Challenge.rw_nt0025_01.row.prog.main.scope, locals := mainNs, globals := mainNs, cells := [], code := .ref 13, frame := some 14 }
noncomputable def topT : Thread := ⟨((execs ((behindTheImports PySem.Challenge.rw_nt0025_01.row.prog).drop 34) topEnv).onRaise (leaving topEnv)).bind fun f => (Sem.pure (Fin.done f) : Sem Fin), .body (behindTheImports PySem.Challenge.rw_nt0025_01.row.prog) topEnv, ⟨114, 0, 256, 89⟩, [topFrame ⟨0, 0, 0, 0⟩]⟩
theorem run_0 (w : World) (os : OsState) : topGoT treeTable PySem.Challenge.rw_nt0025_01.row.prog w 11 ((boot_heap w.params).nsMap mainGlobals "__annotations__") 2073 (bootT w os) (topStub PySem.Challenge.rw_nt0025_01.row.prog) = some (topS w os, topT) := by kernel_rfl
theorem run_a (w : World) (os : OsState) : (topRunT treeTable PySem.Challenge.rw_nt0025_01.row.prog w 11 ((boot_heap w.params).nsMap mainGlobals "__annotations__") 3213 (topS w os) topT).map (fun s => (okTop PySem.Challenge.rw_nt0025_01.row.prog ⟨boot_heap w.params, #[], boot_drawn, boot_toks, os⟩ s.abs, Hook.obs Hk s.abs)) = some (true, Hook.val Hk w) := by kernel_rfl
theorem run_b (w : World) (os : OsState) : (topRunT treeTable PySem.Challenge.rw_nt0025_01.row.prog w 11 ((boot_heap w.params).nsMap mainGlobals "__annotations__") 3213 (topS w os) topT).map (fun s => openSeen Mine.q [Str.ofString "UniError"] (importedModules PySem.Challenge.rw_nt0025_01.row.prog.main.body) Xt true s.abs) = some (openGood Mine.q [Str.ofString "UniError"]) := by kernel_rfl
theorem hl : LeftO PySem.Challenge.rw_nt0025_01.row.prog Mine.q [Str.ofString "UniError"] Xt (Hook.obs Hk) (Hook.val Hk) 5286 :=
  Mine.left_of (by decide +kernel) (by kernel_rfl) (by intro s; kernel_rfl) fun w os => topFrom_of (boot_abs w os) (by kernel_rfl) (by kernel_rfl) rfl ((congrArg _ (topGo_run (N := 3213) (run_0 w os))).trans (run_a w os)) ((congrArg _ (topGo_run (N := 3213) (run_0 w os))).trans (run_b w os))
theorem said : PySem.Challenge.rw_nt0025_01.wellSaid = true := by
  unfold OpenLaw.wellSaid OpenRow.wellSaid OpenRow.partSaid looksOpen
  repeat' (with_reducible refine look_both ?_ ?_)
  all_goals decide +kernel
end Mine
namespace Mine
open PySem PySem.W PySem.Calls PyProof.Rows

/-! heaps -/
theorem hid_get {l : List Addr} {h : Heap} {b : Addr} (n : b ∉ l) : (hideAll h l).get? b = h.get? b := by
  cases q : h.get? b with
  | none =>
    cases p : (hideAll h l).get? b with
    | none => rfl
    | some o => have := of_hideAll l p; rw [q] at this; cases this
  | some o => exact hideAll_get l q n
theorem hid_mem {l : List Addr} {h : Heap} {b : Addr} {o : Obj} (e : (hideAll h l).get? b = some o) : b ∉ l ∧ h.get? b = some o := by
  by_cases n : b ∈ l
  · rw [hideAll_none l n] at e; cases e
  · exact ⟨n, of_hideAll l e⟩
theorem hid_to {l : List Addr} {h : Heap} {b : Addr} {o : Obj} (n : b ∉ l) (e : h.get? b = some o) : (hideAll h l).get? b = some o := (hid_get n).trans e
theorem hid_le {l : List Addr} {h : Heap} : (hideAll h l).StaysIn h := fun _ _ e => of_hideAll l e
theorem hb_mono {l l' : List Addr} {h h' : Heap} (k : ∀ b o, b ∉ l → h.get? b = some o → h'.get? b = some o) (s : ∀ b ∈ l', b ∈ l) : (hideAll h l).StaysIn (hideAll h' l') := fun b o e =>
  hid_to (fun q => (hid_mem e).1 (s b q)) (k b o (hid_mem e).1 (hid_mem e).2)
theorem hid_sub {l l' : List Addr} {h : Heap} (s : ∀ b ∈ l', b ∈ l) : (hideAll h l).StaysIn (hideAll h l') := hb_mono (fun _ _ _ e => e) s
theorem some_ne {h : Heap} {a b : Addr} {o : Obj} (e : h.get? a = some o) (n : h.get? b = none) : a ≠ b := fun q => by rw [q, n] at e; cases e
theorem none_size (h : Heap) : h.get? h.objs.size = none := Heap.get?_none_of_le (Nat.le_refl _)
theorem none_of {g h : Heap} {b : Addr} (k : g.StaysIn h) (n : h.get? b = none) : g.get? b = none := by
  cases q : g.get? b with
  | none => rfl
  | some o => have := k b o q; rw [n] at this; cases this

/-- all but L -/
noncomputable def KpL (L : Addr) (h h' : Heap) : Prop := ∀ b o, b ≠ L → h.get? b = some o → h'.get? b = some o
noncomputable def SeqKeep (h h' : Heap) : Prop := ∀ b o vs n, h.get? b = some o → o.data = .seq vs n → h'.get? b = some o
theorem SeqKeep.of {h h' : Heap} (k : h.StaysIn h') : SeqKeep h h' := fun b o _ _ e _ => k b o e

mutual
inductive Rp (h : Heap) : Value → Dat → Prop
  | none : Rp h Value.none Dat.none
  | bool (b : Bool) : Rp h (Value.bool b) (Dat.bool b)
  | int (i : Int) (t : Tok) : Rp h (Value.int i t) (Dat.int i)
  | str (x : Str) (t : Tok) : Rp h (Value.str x t) (Dat.str x)
  | bytes (b : Array UInt8) (t : Tok) : Rp h (Value.bytes b t) (Dat.bytes b)
  | tuple {a : Addr} {o : Obj} {vs : List Value} {n : Nat} {ds : List Dat} : h.get? a = some o → o.cls = .type "tuple" → o.data = .seq vs.toArray n → RpL h vs ds → Rp h (Value.ref a) (Dat.tuple ds)
  | list {a : Addr} {vs : List Value} {n : Nat} {ds : List Dat} : h.get? a = some (listOf vs.toArray n) → RpL h vs ds → Rp h (Value.ref a) (Dat.list ds)
inductive RpL (h : Heap) : List Value → List Dat → Prop
  | nil : RpL h [] []
  | cons {v : Value} {vs : List Value} {d : Dat} {ds : List Dat} : Rp h v d → RpL h vs ds → RpL h (v :: vs) (d :: ds)
end
mutual
theorem Rp.seq {h h' : Heap} (k : SeqKeep h h') : ∀ {v : Value} {d : Dat}, Rp h v d → Rp h' v d
  | _, _, .none => .none
  | _, _, .bool b => .bool b
  | _, _, .int i t => .int i t
  | _, _, .str x t => .str x t
  | _, _, .bytes b t => .bytes b t
  | _, _, .tuple e c d r => .tuple (k _ _ _ _ e d) c d (RpL.seq k r)
  | _, _, .list e r => .list (k _ _ _ _ e rfl) (RpL.seq k r)
theorem RpL.seq {h h' : Heap} (k : SeqKeep h h') : ∀ {vs : List Value} {ds : List Dat}, RpL h vs ds → RpL h' vs ds
  | _, _, .nil => .nil
  | _, _, .cons a r => .cons (Rp.seq k a) (RpL.seq k r)
end
/-- what a list, a tuple is -/
inductive LsAt (h : Heap) (v : Value) (ds : List Dat) : Prop
  | mk (a : Addr) (vs : List Value) (n : Nat) (ev : v = .ref a) (e : h.get? a = some (listOf vs.toArray n)) (q : RpL h vs ds)
inductive TpAt (h : Heap) (v : Value) (ds : List Dat) : Prop
  | mk (a : Addr) (o : Obj) (vs : List Value) (n : Nat) (ev : v = .ref a) (e : h.get? a = some o) (c : o.cls = .type "tuple") (d : o.data = .seq vs.toArray n) (q : RpL h vs ds)
section
variable {h h' : Heap} {v : Value} {d : Dat} {vs ws : List Value} {ds es : List Dat}
theorem Rp.mono (k : h.StaysIn h') (r : Rp h v d) : Rp h' v d := r.seq (.of k)
theorem RpL.mono (k : h.StaysIn h') (r : RpL h vs ds) : RpL h' vs ds := r.seq (.of k)
theorem Rp.int_inv {i : Int} (r : Rp h v (.int i)) : ∃ t, v = .int i t := by cases r; exact ⟨_, rfl⟩
theorem Rp.str_inv {x : Str} (r : Rp h v (.str x)) : ∃ t, v = .str x t := by cases r; exact ⟨_, rfl⟩
theorem Rp.bytes_inv {x : Array UInt8} (r : Rp h v (.bytes x)) : ∃ t, v = .bytes x t := by cases r; exact ⟨_, rfl⟩
theorem Rp.bool_inv {x : Bool} (r : Rp h v (.bool x)) : v = .bool x := by cases r; rfl
theorem Rp.isList (r : Rp h v (.list ds)) : LsAt h v ds := by cases r with | list e q => exact ⟨_, _, _, rfl, e, q⟩
theorem Rp.isTup (r : Rp h v (.tuple ds)) : TpAt h v ds := by cases r with | tuple e c d q => exact ⟨_, _, _, _, rfl, e, c, d, q⟩
theorem RpL.length (r : RpL h vs ds) : vs.length = ds.length := by
  induction vs generalizing ds with
  | nil => cases r; rfl
  | cons v vs ih => cases r with | cons _ r => exact congrArg Nat.succ (ih r)
theorem RpL.size (r : RpL h vs ds) : vs.toArray.size = ds.length := r.length
theorem RpL.append (r : RpL h vs ds) (k : RpL h ws es) : RpL h (vs ++ ws) (ds ++ es) := by
  induction vs generalizing ds with
  | nil => cases r; exact k
  | cons v vs ih => cases r with | cons a r => exact .cons a (ih r)
theorem RpL.get (r : RpL h vs ds) {k : Nat} (hd : ds[k]? = some d) : ∃ v, vs[k]? = some v ∧ Rp h v d := by
  induction vs generalizing ds k with
  | nil => cases r; cases hd
  | cons v vs ih =>
    cases r with
    | cons a r =>
      cases k with
      | zero => cases hd; exact ⟨v, rfl, a⟩
      | succ k => exact ih r hd
theorem RpL.getv (r : RpL h vs ds) {k : Nat} (hv : vs[k]? = some v) : ∃ d, ds[k]? = some d ∧ Rp h v d := by
  induction vs generalizing ds k with
  | nil => cases hv
  | cons u vs ih =>
    cases r with
    | cons a r =>
      cases k with
      | zero => cases hv; exact ⟨_, rfl, a⟩
      | succ k => exact ih r hv
theorem RpL.take (r : RpL h vs ds) (k : Nat) : RpL h (vs.take k) (ds.take k) := by
  induction vs generalizing ds k with
  | nil => cases r; cases k <;> exact .nil
  | cons v vs ih =>
    cases r with
    | cons a r => cases k with
      | zero => exact .nil
      | succ k => exact .cons a (ih r k)
theorem RpL.drop (r : RpL h vs ds) (k : Nat) : RpL h (vs.drop k) (ds.drop k) := by
  induction vs generalizing ds k with
  | nil => cases r; cases k <;> exact .nil
  | cons v vs ih =>
    cases r with
    | cons a r => cases k with
      | zero => exact .cons a r
      | succ k => exact ih r k
theorem RpL.one (a : Rp h v d) : RpL h [v] [d] := .cons a .nil
theorem RpL.reverse (r : RpL h vs ds) : RpL h vs.reverse ds.reverse := by
  induction vs generalizing ds with
  | nil => cases r; exact .nil
  | cons v vs ih => cases r with
    | cons a r => rw [List.reverse_cons, List.reverse_cons]; exact (ih r).append (.one a)
theorem RpL.ints {ns : List Int} (r : RpL h vs (ns.map Dat.int)) : IntsAre vs ns := by
  induction vs generalizing ns with
  | nil => cases ns with
    | nil => exact .nil
    | cons => cases r
  | cons v vs ih =>
    cases ns with
    | nil => cases r
    | cons n ns => cases r with
      | cons a r => cases a; exact .cons _ _ (ih r)
theorem RpL.of_ints {ns : List Int} (r : IntsAre vs ns) : RpL h vs (ns.map Dat.int) := by
  induction vs generalizing ns with
  | nil => cases r; exact .nil
  | cons v vs ih =>
    cases r with
    | cons n t r => exact .cons (.int _ _) (ih r)
theorem handed_rp (r : Rp h v d) : handedIn v = true := by cases r <;> rfl
end
/-- the ledger of all that stands in h but is no base and no frame -/
noncomputable def maxN (g : Heap) (L : Addr) (h : Heap) : List (Addr × Obj) :=
  (List.range h.objs.size).filterMap fun b => (h.get? b).bind fun o => if b = L ∨ (g.get? b).isSome then none else some (b, o)
theorem maxN_news (g : Heap) (L : Addr) (h : Heap) : News g L h (maxN g L h) := by
  intro p hp
  obtain ⟨b, _, e⟩ := List.mem_filterMap.mp hp
  obtain ⟨o, q, e⟩ := Option.bind_eq_some_iff.mp e
  by_cases n : b = L ∨ (g.get? b).isSome
  · rw [if_pos n] at e; cases e
  · rw [if_neg n] at e
    cases e
    exact ⟨q, fun x => n (.inl x), Option.not_isSome_iff_eq_none.mp fun x => n (.inr x)⟩
theorem maxN_mem {g : Heap} {L : Addr} {h : Heap} {b : Addr} {o : Obj} (e : h.get? b = some o) (n : b ≠ L) (k : g.get? b = none) : (b, o) ∈ maxN g L h := by
  refine List.mem_filterMap.mpr ⟨b, List.mem_range.mpr (Heap.lt_size e), ?_⟩
  rw [e, Option.bind_some, if_neg (by rintro (x | x); exact n x; rw [k] at x; cases x)]
theorem kp_of {g : Heap} {L : Addr} {h h' : Heap} {m m' : Str → Option Value} (F : Fr g L h m) (F' : Fr g L h' m') (N : News g L h' (maxN g L h)) : KpL L h h' := fun b o n e => by
  cases q : g.get? b with
  | none => exact (N _ (maxN_mem e n q)).1
  | some o' =>
    have := F.keep _ _ q
    rw [e] at this
    cases this
    exact F'.keep _ _ q
theorem kp_of_cons {g : Heap} {L : Addr} {h h' : Heap} {m m' : Str → Option Value} {p : Addr × Obj} (F : Fr g L h m) (F' : Fr g L h' m') (N : News g L h' (p :: maxN g L h)) : KpL L h h' ∧ h'.get? p.1 = some p.2 :=
  ⟨kp_of F F' fun q hq => N q (.tail _ hq), (N p (.head _)).1⟩
theorem ns_obj {h : Heap} {L : Addr} {m : Str → Option Value} (n : h.Ns L m) : ∃ o, h.get? L = some o ∧ ∃ es k, o.data = .dict es k := by
  obtain ⟨oL, es, ep, hL, hd, _⟩ := n
  exact ⟨oL, hL, es, ep, hd⟩
theorem ns_ne {h : Heap} {L b : Addr} {m : Str → Option Value} {o : Obj} (n : h.Ns L m) (e : h.get? b = some o) (q : ∀ es k, o.data ≠ .dict es k) : b ≠ L := by
  obtain ⟨oL, hL, es, ep, hd⟩ := ns_obj n
  rintro rfl
  rw [e] at hL
  cases hL
  exact q _ _ hd
/-- r stands for d in whatever holds hb and all that is new -/
noncomputable def Res1 (hb h h' : Heap) (r : Value) (d : Dat) : Prop := ∀ hb', hb.StaysIn hb' → (∀ b o, h.get? b = none → h'.get? b = some o → hb'.get? b = some o) → Rp hb' r d
section
variable {hb h h' : Heap} {a : Addr} {r : Value} {d : Dat} {vs : List Value} {n : Nat} {ds : List Dat}
theorem Res1.of (x : Rp hb r d) : Res1 hb h h' r d := fun _ k _ => x.mono k
theorem Res1.list (hn : h.get? a = none) (e : h'.get? a = some (listOf vs.toArray n)) (r : RpL hb vs ds) : Res1 hb h h' (.ref a) (.list ds) := fun _ k z => .list (z _ _ hn e) (r.mono k)
theorem Res1.tuple {o : Obj} (hn : h.get? a = none) (e : h'.get? a = some o) (c : o.cls = .type "tuple") (d : o.data = .seq vs.toArray n) (r : RpL hb vs ds) : Res1 hb h h' (.ref a) (.tuple ds) := fun _ k z => .tuple (z _ _ hn e) c d (r.mono k)
end
end Mine

namespace Mine
open PySem PySem.W PySem.Calls PyProof.Rows

inductive Blt where
  | len | ord | chr | int | str | bytes | list | tuple

inductive IE where
  | const (d : Dat)
  | neg (i : Int)
  | var (k : Nat)
  | glob (j : Nat)
  | bin (op : Operator) (a b : IE)
  | not (a : IE)
  | conn (op : BoolOp) (es : List IE)
  | cmp (a : IE) (ops : List CmpOp) (bs : List IE)
  | ite (t a b : IE)
  | callP (f : Nat) (args : List IE)
  | callM (f : Nat) (args : List IE)
  | callS (f : Nat) (args : List IE)
  | blt (b : Blt) (e : IE)
  | join (sep : Str) (e : IE)
  | split (e : IE) (sep : Str)
  | fld (b : Bool)
  | idx (a i : IE)
  | sl (a : IE) (lo hi : Option IE)
  | rev (a : IE)
  | lenOwn (k : Nat)
  | idxOwn (k : Nat) (i : IE)
  | list (es : List IE)
  | tup (es : List IE)
  | comp (elt : IE) (src : IE) (caps : List Nat)
  | compR (elt : IE) (lo hi : IE) (cnd : IE)
  | deckNe
  | deckPop
  | deckMixed
  | ownNil (k : Nat)

inductive IS where
  | expr (e : IE)
  | app (k : Nat) (e : IE)
  | ext (k : Nat) (e : IE)
  | ret (e : IE)
  | retN
  | retOwn (k : Nat)
  | asg (k : Nat) (e : IE)
  | asgC (k : Nat) (e : IE)
  | asgNil (k : Nat)
  | asgCall (k : Nat) (f : Nat) (args : List IE)
  | asgU (ks : List Nat) (e : IE)
  | asgT (ks : List Nat) (es : List IE)
  | asgTO (ks : List Nat) (es : List IE) (k : Nat) (o : Option (IE × IE)) (ks' : List Nat) (es' : List IE)
  | aug (k : Nat) (op : Operator) (e : IE)
  | augAt (e : IE)
  | setMixed (e : IE)
  | ite (t : IE) (a b : List IS)
  | whl (t : IE) (b : List IS)
  | forL (k : Nat) (src : IE) (b : List IS)
  | forR (k : Nat) (lo : Option IE) (hi : IE) (b : List IS)
  | brk
  | raise (c : Nat) (e : IE)
  | tryT (b : List IS) (c : Nat) (j : Nat) (proj : Bool)
  | mkRdr (e : IE)
  | mkDeck (f : Nat) (e : IE)
  | dead

inductive St where
  | rdr (T : Dat) (i : Int)
  | deck (cells : List Int) (mixed : Int)
  | gone

structure ASt where
  vars : List (Option Dat)
  own : Option (Nat × List Dat)
  st : Option St

structure Exn where
  cls : Nat
  told : Dat

inductive Out (α : Type) where
  | ok (a : α) (σ : ASt)
  | exc (x : Exn) (σ : ASt)
  | stuck

inductive Res where
  | ok (d : Dat)
  | exc (x : Exn)
  | stuck
inductive ResS where
  | ok (d : Dat) (st : St)
  | exc (x : Exn)
  | stuck

structure Orc where
  p : Nat → List Dat → Res
  s : Nat → St → List Dat → ResS
  g : Nat → Option Dat

noncomputable def Out.bind {α β : Type} (o : Out α) (f : α → ASt → Out β) : Out β := match o with
  | .ok a σ => f a σ
  | .exc x σ => .exc x σ
  | .stuck => .stuck

noncomputable def freeze (σ : ASt) : ASt := match σ.own with
  | none => σ
  | some (k, xs) => ⟨σ.vars.set k (some (.list xs)), none, σ.st⟩

/-! what the operations yield -/
noncomputable def sz (n : Nat) : Bool := decide (n ≤ sizeLine)
noncomputable def small (i : Int) : Bool := decide (i.natAbs < 2 ^ 60)

noncomputable def intD (f : Int → Int → Option Dat) (x y : Dat) : Option Dat := match x with
  | .int a => (match y with
    | .int b => f a b
    | _ => none)
  | _ => none
noncomputable def addD (x y : Dat) : Option Dat := match x with
  | .int a => (match y with
    | .int b => some (.int (a + b))
    | _ => none)
  | .str x => (match y with
    | .str y => if sz (x.length + y.length) then some (.str (x ++ y)) else none
    | _ => none)
  | .list xs => (match y with
    | .list ys => if sz (xs.length + ys.length) then some (.list (xs ++ ys)) else none
    | _ => none)
  | .bytes x => (match y with
    | .bytes y => if sz (x.size + y.size) then some (.bytes (x ++ y)) else none
    | _ => none)
  | _ => none
noncomputable def mulD (x y : Dat) : Option Dat := match x with
  | .int a => (match y with
    | .int b => if small a && small b then some (.int (a * b)) else none
    | _ => none)
  | .str x => (match y with
    | .int n => if sz x.length && decide (x.length ≤ 8) && decide (0 ≤ n) && decide (n ≤ 1000) then some (.str (Txt.mul x n)) else none
    | _ => none)
  | _ => none
noncomputable def binD (op : Operator) (x y : Dat) : Option Dat := match op with
  | .Add => addD x y
  | .Sub => intD (fun a b => some (.int (a - b))) x y
  | .Mult => mulD x y
  | .FloorDiv => intD (fun a b => if small a && small b && decide (0 < b) then some (.int (Int.fdiv a b)) else none) x y
  | .Mod => intD (fun a b => if decide (0 < b) then some (.int (Int.fmod a b)) else none) x y
  | .BitAnd => intD (fun a b => some (.int (Builtin.bitAnd a b))) x y
  | .BitOr => intD (fun a b => some (.int (Builtin.bitOr a b))) x y
  | .LShift => intD (fun a b => if small a && decide (0 ≤ b) && decide (b ≤ 100) then some (.int (a * 2 ^ b.toNat)) else none) x y
  | .RShift => intD (fun a b => if decide (0 ≤ b) then some (.int (Int.fdiv a (2 ^ b.toNat))) else none) x y
  | _ => none

noncomputable def isNone : Dat → Bool
  | .none => true
  | _ => false

noncomputable def relD (f : Int → Int → Bool) (x y : Dat) : Option Bool := match x with
  | .int a => (match y with
    | .int b => some (f a b)
    | _ => none)
  | _ => none
noncomputable def eqG (x y : Dat) : Option Bool := if kqdOk 8 x && kqdOk 8 y then some (PyData.eqv (kqdP x) (kqdP y)) else none
noncomputable def eqD (x y : Dat) : Option Bool := match x with
  | .int a => (match y with
    | .int b => some (a == b)
    | _ => eqG x y)
  | _ => eqG x y
noncomputable def neG (x y : Dat) : Option Bool := if kqdOk 8 x && kqdOk 8 y then some (!PyData.eqv (kqdP x) (kqdP y)) else none
noncomputable def neD (x y : Dat) : Option Bool := match x with
  | .int a => (match y with
    | .int b => some (a != b)
    | _ => neG x y)
  | _ => neG x y
noncomputable def isD (f : Bool → Bool) (x y : Dat) : Option Bool := match y with
  | .none => some (f (isNone x))
  | _ => none
noncomputable def inD (f : Bool → Bool) (x y : Dat) : Option Bool := match y with
  | .tuple ds => if kqdOk 8 x && ds.all (kqdOk 7) then some (f ((kqdPs ds).any fun y => PyData.eqv y (kqdP x))) else none
  | _ => none
noncomputable def cmpD (op : CmpOp) (x y : Dat) : Option Bool := match op with
  | .Lt => relD (fun a b => decide (a < b)) x y
  | .LtE => relD (fun a b => decide (a ≤ b)) x y
  | .Gt => relD (fun a b => decide (b < a)) x y
  | .GtE => relD (fun a b => decide (b ≤ a)) x y
  | .Eq => eqD x y
  | .NotEq => neD x y
  | .Is => isD (fun b => b) x y
  | .IsNot => isD (fun b => !b) x y
  | .In => inD (fun b => b) x y
  | .NotIn => inD (fun b => !b) x y

noncomputable def bytesInts (b : Array UInt8) : List Dat := b.toList.map fun x => .int (x.toNat : Int)
noncomputable def strChars (x : Str) : List Dat := x.cps.toList.map fun c => .str ⟨#[c]⟩

/-- the items of what is walked -/
noncomputable def itemsD : Dat → Option (List Dat)
  | .list ds => some ds
  | .tuple ds => some ds
  | .bytes b => some (bytesInts b)
  | .str x => some (strChars x)
  | _ => none

noncomputable def lenD : Dat → Option Nat
  | .list ds => if sz ds.length then some ds.length else none
  | .tuple ds => if sz ds.length then some ds.length else none
  | .bytes b => if sz b.size then some b.size else none
  | _ => none

noncomputable def octet? : Dat → Option UInt8
  | .int i => if 0 ≤ i ∧ i < 256 then some (UInt8.ofNat i.toNat) else none
  | _ => none
noncomputable def octets? : List Dat → Option (List UInt8)
  | [] => some []
  | d :: ds => match octet? d, octets? ds with
    | some x, some xs => some (x :: xs)
    | _, _ => none
noncomputable def strs? : List Dat → Option (List Str)
  | [] => some []
  | .str x :: ds => (strs? ds).map (x :: ·)
  | _ :: _ => none

noncomputable def ordD : Dat → Option Dat
  | .str x => (match x.cps.toList with
    | [] => none
    | c :: r => (match r with
      | [] => some (.int c)
      | _ => none))
  | _ => none
noncomputable def chrD : Dat → Option Dat
  | .int i => if 0 ≤ i ∧ i < 1114112 then some (.str ⟨#[i.toNat]⟩) else none
  | _ => none
noncomputable def toInt : Dat → Option Dat
  | .int i => some (.int i)
  | .bool b => some (.int (if b then 1 else 0))
  | _ => none
noncomputable def toStr : Dat → Option Dat
  | .int i => if 0 ≤ i ∧ i < 10 then some (.str ⟨#[48 + i.toNat]⟩) else none
  | _ => none
noncomputable def toBytes : Dat → Option Dat
  | .list ds => if sz ds.length then (octets? ds).map fun l => .bytes l.toArray else none
  | _ => none
noncomputable def toList : Dat → Option Dat
  | .list ds => if sz ds.length then some (.list ds) else none
  | _ => none
noncomputable def toTup : Dat → Option Dat
  | .list ds => if sz ds.length then some (.tuple ds) else none
  | .tuple ds => some (.tuple ds)
  | _ => none
noncomputable def bltD (b : Blt) (x : Dat) : Option Dat := match b with
  | .len => (lenD x).map fun n => .int n
  | .ord => ordD x
  | .chr => chrD x
  | .int => toInt x
  | .str => toStr x
  | .bytes => toBytes x
  | .list => toList x
  | .tuple => toTup x

noncomputable def nth (ds : List Dat) (i : Int) : Option Dat :=
  if 0 ≤ i then (if i < 2 ^ 60 then ds[i.toNat]? else none) else if i = -1 then ds.getLast? else none

noncomputable def idxD (x y : Dat) : Option Dat := match y with
  | .int i => (match x with
    | .list ds => nth ds i
    | .tuple ds => nth ds i
    | .bytes b => if 0 ≤ i ∧ i < b.size ∧ sz b.size then some (.int (b.toList.getD i.toNat 0).toNat) else none
    | _ => none)
  | _ => none

/-- a slice's items -/
noncomputable def pickD (ds : List Dat) (lo hi : Option Int) : List Dat := (ds.drop (kms_lo lo ds.length)).take (kms_hi hi ds.length - kms_lo lo ds.length)
noncomputable def slD (d : Dat) (lo hi : Option Int) : Option Dat := match d with
  | .list ds => if sz ds.length then some (.list (pickD ds lo hi)) else none
  | .tuple ds => if sz ds.length && lo == none && hi == some (-1) && !ds.isEmpty then some (.tuple ds.dropLast) else none
  | _ => none

noncomputable def joinD (sep : Str) (d : Dat) : Option Dat :=
  match (match d with | .list ds => strs? ds | .tuple ds => strs? ds | _ => none) with
  | some xs => if decide (sep.length ≤ 64) && decide ((xs.map (·.length)).sum + xs.length * 64 ≤ 16777216) then some (.str (Txt.join sep xs)) else none
  | none => none

noncomputable def ints? : List Dat → Option (List Int)
  | [] => some []
  | .int i :: ds => (ints? ds).map (i :: ·)
  | _ :: _ => none

noncomputable def asB : Dat → Option Bool
  | .bool b => some b
  | _ => none
noncomputable def asI : Dat → Option Int
  | .int i => some i
  | _ => none

noncomputable def ofO {α : Type} (o : Option α) (σ : ASt) : Out α := match o with
  | some a => .ok a σ
  | none => .stuck

noncomputable def connStep (op : BoolOp) (b : Bool) (σ : ASt) (rest : Out Bool) : Out Bool := match op, b with
  | .And, false => .ok false σ
  | .Or, true => .ok true σ
  | _, _ => rest

section
variable (O : Orc) (ev : IE → ASt → Out Dat)

noncomputable def evL : List IE → ASt → Out (List Dat)
  | [], σ => .ok [] σ
  | e :: es, σ => (ev e σ).bind fun d σ₁ => (evL es σ₁).bind fun ds σ₂ => .ok (d :: ds) σ₂

noncomputable def evConn (op : BoolOp) : List IE → ASt → Out Bool
  | [], σ => .ok (op == .And) σ
  | e :: es, σ => (ev e σ).bind fun d σ₁ => match asB d with
    | none => .stuck
    | some b => connStep op b σ₁ (evConn op es σ₁)

noncomputable def evChain (a : Dat) : List CmpOp → List IE → ASt → Out Bool
  | [op], [e], σ => (ev e σ).bind fun d σ₁ => ofO (cmpD op a d) σ₁
  | op :: ops, e :: es, σ => (ev e σ).bind fun d σ₁ => (ofO (cmpD op a d) σ₁).bind fun b σ₂ => if b then evChain d ops es σ₂ else .ok false σ₂
  | _, _, _ => .stuck

noncomputable def evOpt : Option IE → ASt → Out (Option Int)
  | none, σ => .ok none σ
  | some e, σ => (ev e σ).bind fun d σ₁ => match asI d with
    | some i => .ok (some i) σ₁
    | none => .stuck

noncomputable def endsPlain : Out Dat → Option Dat
  | .ok r ⟨_, none, none⟩ => some r
  | _ => none
noncomputable def condOf (cnd : Option IE) (σ : ASt) : Option Bool := match cnd with
  | none => some true
  | some c => (endsPlain (ev c σ)).bind asB
noncomputable def evComp (elt : IE) (cnd : Option IE) (caps : List (Option Dat)) : List Dat → Option (List Dat)
  | [] => some []
  | d :: ds => match condOf ev cnd ⟨some d :: caps, none, none⟩ with
    | none => none
    | some false => evComp elt cnd caps ds
    | some true => match endsPlain (ev elt ⟨some d :: caps, none, none⟩) with
      | none => none
      | some r => (evComp elt cnd caps ds).map (r :: ·)

noncomputable def rangeD (a b : Int) : List Dat := (List.range (b - a).toNat).map fun (i : Nat) => Dat.int (a + (i : Int))

noncomputable def stepE : IE → ASt → Out Dat
  | .const d, σ => .ok d σ
  | .neg i, σ => .ok (.int (-i)) σ
  | .var k, σ => match σ.own with
    | some (j, xs) => if j = k then .ok (.list xs) (freeze σ) else (match σ.vars[k]? with | some (some d) => .ok d σ | _ => .stuck)
    | none => (match σ.vars[k]? with | some (some d) => .ok d σ | _ => .stuck)
  | .glob j, σ => ofO (O.g j) σ
  | .bin op a b, σ => (ev a σ).bind fun x σ₁ => (ev b σ₁).bind fun y σ₂ => ofO (binD op x y) σ₂
  | .not a, σ => (ev a σ).bind fun x σ₁ => ofO ((asB x).map fun b => .bool !b) σ₁
  | .conn op es, σ => (evConn ev op es σ).bind fun b σ₁ => .ok (.bool b) σ₁
  | .cmp a ops bs, σ => (ev a σ).bind fun x σ₁ => (evChain ev x ops bs σ₁).bind fun b σ₂ => .ok (.bool b) σ₂
  | .ite t a b, σ => (ev t σ).bind fun x σ₁ => match asB x with
    | some true => ev a σ₁
    | some false => ev b σ₁
    | none => .stuck
  | .callP f args, σ => (evL ev args σ).bind fun ds σ₁ => match O.p f ds with
    | .ok d => .ok d σ₁
    | .exc x => .exc x σ₁
    | .stuck => .stuck
  | .callM f args, σ => match σ.st with
    | some (.rdr _ _) => (evL ev args σ).bind fun ds σ₁ => (match σ₁.st with
      | none => .stuck
      | some st => match O.s f st ds with
        | .ok d st' => .ok d { σ₁ with st := some st' }
        | .exc x => .exc x { σ₁ with st := some .gone }
        | .stuck => .stuck)
    | _ => .stuck
  | .callS f args, σ => match σ.st with
    | some (.deck _ _) => (evL ev args σ).bind fun ds σ₁ => (match σ₁.st with
      | none => .stuck
      | some st => match O.s f st ds with
        | .ok d st' => .ok d { σ₁ with st := some st' }
        | .exc x => .exc x { σ₁ with st := some .gone }
        | .stuck => .stuck)
    | _ => .stuck
  | .blt b e, σ => (ev e σ).bind fun x σ₁ => ofO (bltD b x) σ₁
  | .join sep e, σ => (ev e σ).bind fun x σ₁ => ofO (joinD sep x) σ₁
  | .split e sep, σ => (ev e σ).bind fun x σ₁ => match x with
    | .str y => if sz (y.length + 2) && !(sep.length == 0) then .ok (.list ((Txt.split y sep).map .str)) σ₁ else .stuck
    | _ => .stuck
  | .fld b, σ => match σ.st with
    | some (.rdr T i) => .ok (if b then .int i else T) σ
    | _ => .stuck
  | .idx a i, σ => (ev a σ).bind fun x σ₁ => (ev i σ₁).bind fun y σ₂ => ofO (idxD x y) σ₂
  | .sl a lo hi, σ => (ev a σ).bind fun x σ₁ => (evOpt ev lo σ₁).bind fun l σ₂ => (evOpt ev hi σ₂).bind fun r σ₃ => ofO (slD x l r) σ₃
  | .rev a, σ => (ev a σ).bind fun x σ₁ => match x with
    | .list ds => if sz ds.length then .ok (.list ds.reverse) σ₁ else .stuck
    | _ => .stuck
  | .lenOwn k, σ => match σ.own with
    | some (j, xs) => if j = k && sz xs.length then .ok (.int xs.length) σ else .stuck
    | none => .stuck
  | .idxOwn k i, σ => match σ.own with
    | none => .stuck
    | some (j', _) => if j' = k then (ev i σ).bind fun y σ₁ => (match σ₁.own with
      | some (j, xs) => if j = k then ofO (idxD (.list xs) y) σ₁ else .stuck
      | none => .stuck) else .stuck
  | .list es, σ => (evL ev es σ).bind fun ds σ₁ => if sz ds.length then .ok (.list ds) σ₁ else .stuck
  | .tup es, σ => (evL ev es σ).bind fun ds σ₁ => if sz ds.length then .ok (.tuple ds) σ₁ else .stuck
  | .comp elt src caps, σ => (ev src σ).bind fun x σ₁ => match itemsD x with
    | none => .stuck
    | some ds => if sz ds.length then ofO ((evComp ev elt none (caps.map fun k => (σ₁.vars[k]?).join) ds).map .list) σ₁ else .stuck
  | .compR elt lo hi cnd, σ => (ev lo σ).bind fun x σ₁ => (ev hi σ₁).bind fun y σ₂ => match asI x, asI y with
    | some a, some b => if small a && small b && sz (b - a).toNat then ofO ((evComp ev elt (some cnd) [] (rangeD a b)).map .list) σ₂ else .stuck
    | _, _ => .stuck
  | .deckNe, σ => match σ.st with
    | some (.deck cells _) => .ok (.bool (!cells.isEmpty)) σ
    | _ => .stuck
  | .deckPop, σ => match σ.st with
    | some (.deck cells mixed) => (match cells.getLast? with
      | some c => .ok (.int c) { σ with st := some (.deck cells.dropLast mixed) }
      | none => .stuck)
    | _ => .stuck
  | .deckMixed, σ => match σ.st with
    | some (.deck _ mixed) => .ok (.int mixed) σ
    | _ => .stuck
  | .ownNil k, σ => match σ.own with
    | some (j, xs) => if j = k && kqdOk 8 (.list xs) then .ok (.bool xs.isEmpty) σ else .stuck
    | none => .stuck
end

noncomputable def evE (O : Orc) : Nat → IE → ASt → Out Dat
  | 0 => fun _ _ => .stuck
  | n + 1 => stepE O (evE O n)

inductive Fl where
  | next
  | brk
  | ret (d : Dat) (own : Bool)

noncomputable def putVar (k : Nat) (d : Dat) (σ : ASt) : ASt := ⟨σ.vars.set k (some d), (match σ.own with | some (j, xs) => if j = k then none else some (j, xs) | none => none), σ.st⟩
noncomputable def putVars : List Nat → List Dat → ASt → Option ASt
  | [], [], σ => some σ
  | k :: ks, d :: ds, σ => putVars ks ds (putVar k d σ)
  | _, _, _ => none
noncomputable def putOwn (k : Nat) (xs : List Dat) (σ : ASt) : ASt := ⟨(freeze σ).vars.set k none, some (k, xs), σ.st⟩

noncomputable def simpleE : IE → Bool
  | .const d => (match d with | .tuple _ => false | .list _ => false | _ => true)
  | .neg _ => true
  | .fld true => true
  | _ => false

noncomputable def loopW (t : ASt → Out Dat) (b : ASt → Out Fl) : Nat → ASt → Out Fl
  | 0, _ => .stuck
  | k + 1, σ => (t σ).bind fun d σ₁ => match asB d with
    | none => .stuck
    | some false => .ok .next σ₁
    | some true => (b σ₁).bind fun f σ₂ => match f with
      | .next => loopW t b k σ₂
      | .brk => .ok .next σ₂
      | .ret d o => .ok (.ret d o) σ₂

noncomputable def loopF (k : Nat) (b : ASt → Out Fl) : List Dat → ASt → Out Fl
  | [], σ => .ok .next σ
  | d :: ds, σ => (b (putVar k d σ)).bind fun f σ₂ => match f with
    | .next => loopF k b ds σ₂
    | .brk => .ok .next σ₂
    | .ret d o => .ok (.ret d o) σ₂

noncomputable def deckOf (O : Orc) (f : Nat) (d : Dat) : Option St := match O.p f [d] with
  | .ok (.tuple [.list cs, .int mx]) => (match ints? cs with
    | some l => if decide (l.length ≤ 100) then some (.deck l mx) else none
    | none => none)
  | _ => none

section
variable (O : Orc) (it : Nat) (ev : IE → ASt → Out Dat) (ex : List IS → ASt → Out Fl)

noncomputable def stepS : IS → ASt → Out Fl
  | .expr e, σ => (ev e σ).bind fun _ σ₁ => .ok .next σ₁
  | .app k e, σ => match σ.own with
    | none => .stuck
    | some (j', _) => if j' = k then (ev e σ).bind fun d σ₁ => (match σ₁.own with
      | some (j, xs) => if j = k && sz (xs.length + 1) then .ok .next { σ₁ with own := some (k, xs ++ [d]) } else .stuck
      | none => .stuck) else .stuck
  | .ext k e, σ => match σ.own with
    | none => .stuck
    | some (j', _) => if j' = k then (ev e σ).bind fun d σ₁ => (match σ₁.own, d with
      | some (j, xs), .list ds => if j = k && sz (xs.length + ds.length) then .ok .next { σ₁ with own := some (k, xs ++ ds) } else .stuck
      | _, _ => .stuck) else .stuck
  | .ret e, σ => (ev e σ).bind fun d σ₁ => .ok (.ret d false) σ₁
  | .retN, σ => .ok (.ret .none false) σ
  | .retOwn k, σ => match σ.own with
    | some (j, xs) => if j = k then .ok (.ret (.list xs) true) σ else .stuck
    | none => .stuck
  | .asg k e, σ => (ev e σ).bind fun d σ₁ => .ok .next (putVar k d σ₁)
  | .asgC k e, σ => (ev e σ).bind fun d σ₁ => .ok .next (putVar k d σ₁)
  | .asgNil k, σ => if k < σ.vars.length then .ok .next (putOwn k [] σ) else .stuck
  | .asgCall k f args, σ => match σ.st with
    | some (.rdr _ _) => (evL ev args σ).bind fun ds σ₁ => (match σ₁.st with
      | none => .stuck
      | some st => match O.s f st ds with
        | .ok (.list xs) st' => if k < σ₁.vars.length then .ok .next (putOwn k xs { σ₁ with st := some st' }) else .stuck
        | .exc x => .exc x { σ₁ with st := some .gone }
        | _ => .stuck)
    | _ => .stuck
  | .asgU ks e, σ => (ev e σ).bind fun d σ₁ => match d with
    | .tuple ds => (match putVars ks ds σ₁ with | some σ₂ => .ok .next σ₂ | none => .stuck)
    | _ => .stuck
  | .asgT ks es, σ => (evL ev es σ).bind fun ds σ₁ => match putVars ks ds σ₁ with | some σ₂ => .ok .next σ₂ | none => .stuck
  | .asgTO ks es k o ks' es', σ => (evL ev es σ).bind fun ds σ₁ =>
      (match o with
        | none => .ok [] σ₁
        | some (a, b) => (ev a σ₁).bind fun x σ₂ => (ev b σ₂).bind fun y σ₃ => match x, y with
          | .list xs, .list ys => if sz (xs.length + ys.length) then .ok (xs ++ ys) σ₃ else .stuck
          | _, _ => .stuck : Out (List Dat)).bind fun xs σ₄ => if es'.all simpleE then
      (evL ev es' σ₄).bind fun ds' σ₅ => (match putVars ks ds (freeze σ₅) with
        | some σ₆ => (match putVars ks' ds' σ₆ with
          | some σ₇ => if k < σ₇.vars.length then .ok .next (putOwn k xs σ₇) else .stuck
          | none => .stuck)
        | none => .stuck) else .stuck
  | .aug k op e, σ => match σ.vars[k]? with
    | some (some x) => (ev e σ).bind fun y σ₁ => (match op, x, y with
      | .Add, .int a, .int b => .ok .next (putVar k (.int (a + b)) σ₁)
      | .Sub, .int a, .int b => .ok .next (putVar k (.int (a - b)) σ₁)
      | _, _, _ => .stuck)
    | _ => .stuck
  | .augAt e, σ => match σ.st with
    | some (.rdr _ a) => (ev e σ).bind fun y σ₁ => (match σ₁.st, y with
      | some (.rdr T _), .int b => .ok .next { σ₁ with st := some (.rdr T (a + b)) }
      | _, _ => .stuck)
    | _ => .stuck
  | .setMixed e, σ => (ev e σ).bind fun y σ₁ => match σ₁.st, y with
    | some (.deck cells _), .int b => .ok .next { σ₁ with st := some (.deck cells b) }
    | _, _ => .stuck
  | .ite t a b, σ => (ev t σ).bind fun x σ₁ => match asB x with
    | some true => ex a σ₁
    | some false => ex b σ₁
    | none => .stuck
  | .whl t b, σ => loopW (ev t) (ex b) it σ
  | .forL k src b, σ => (ev src σ).bind fun x σ₁ => match itemsD x with
    | some ds => if sz ds.length then loopF k (ex b) ds σ₁ else .stuck
    | none => .stuck
  | .forR k lo hi b, σ => (match lo with
      | none => .ok (.int 0) σ
      | some e => ev e σ : Out Dat).bind fun x σ₁ => (ev hi σ₁).bind fun y σ₂ => match asI x, asI y with
    | some a, some c => if small a && small c && sz (c - a).toNat then loopF k (ex b) (rangeD a c) σ₂ else .stuck
    | _, _ => .stuck
  | .brk, σ => .ok .brk σ
  | .raise c e, σ => (ev e σ).bind fun d σ₁ => .exc ⟨c, d⟩ σ₁
  | .tryT b c j proj, σ => match ex b σ with
    | .ok f σ₁ => .ok f σ₁
    | .exc x σ₁ => if x.cls = c then (match (if proj then (match x.told with | .tuple (d :: _) => some d | _ => none) else some x.told) with
        | some (.int i) => .ok .next (putVar j (.int i) σ₁)
        | _ => .stuck) else .stuck
    | .stuck => .stuck
  | .mkRdr e, σ => (ev e σ).bind fun d σ₁ => match σ₁.st with
    | none => .ok .next { σ₁ with st := some (.rdr d 0) }
    | some _ => .stuck
  | .mkDeck f e, σ => (ev e σ).bind fun d σ₁ => match σ₁.st with
    | some _ => .stuck
    | none => match deckOf O f d with
      | some st => .ok .next { σ₁ with st := some st }
      | none => .stuck
  | .dead, _ => .stuck

noncomputable def exL (one : IS → ASt → Out Fl) : List IS → ASt → Out Fl
  | [], σ => .ok .next σ
  | s :: r, σ => (one s σ).bind fun f σ₁ => match f with
    | .next => exL one r σ₁
    | f => .ok f σ₁
end

noncomputable def evS (O : Orc) (it : Nat) : Nat → List IS → ASt → Out Fl
  | 0 => fun _ _ => .stuck
  | n + 1 => exL (stepS O it (evE O 40) (evS O it n))
structure FS where
  names : List Str
  np : Nat
  sk : Str
  st : Bool
  body : List IS
noncomputable def FS.params (f : FS) : List Str := if f.st then f.sk :: f.names.take f.np else f.names.take f.np

noncomputable def IT : Nat := 4096
noncomputable def runFn (O : Orc) (fs : FS) (st : Option St) (ds : List Dat) : Out Fl :=
  if ds.length = fs.np then evS O IT 31 fs.body ⟨ds.map some ++ List.replicate (fs.names.length - fs.np) none, none, st⟩ else .stuck
noncomputable def outP : Out Fl → Res
  | .ok (.ret d _) _ => .ok d
  | .ok .next _ => .ok .none
  | .exc x _ => .exc x
  | _ => .stuck
noncomputable def outQ (frsh : Bool) : Out Fl → ResS
  | .ok (.ret d own) ⟨_, _, some st⟩ => if frsh && !own then .stuck else .ok d st
  | .ok .next ⟨_, _, some st⟩ => if frsh then .stuck else .ok .none st
  | .exc x _ => .exc x
  | _ => .stuck

noncomputable def outS' (frsh : Bool) (O : Orc) (fs : FS) (st : St) (ds : List Dat) : ResS := match st with
  | .gone => .stuck
  | st => outQ frsh (runFn O fs (some st) ds)

noncomputable def dk2 : List IS := [.asgT [1, 2] [.comp (.blt .int (.var 0)) (.sl (.var 0) none (some (.const (.int 40)))) [], .const (.int 59)],
  .forL 3 (.var 1) [.asg 2 (.bin .Mod (.bin .Add (.bin .Mult (.var 2) (.const (.int 31))) (.var 3)) (.const (.int 1000003)))]]
noncomputable def dkFS : FS := ⟨["script", "cells", "mixed", "cell"], 1, "", false, dk2⟩
noncomputable def dkSt (d : Dat) : ASt := ⟨[some d, none, none, none], none, none⟩
inductive DkRes (O : Orc) (ds cs : List Dat) (mx : Int) : Prop
  | mk (d : Dat) (a b : Option Dat) (rs : List Dat) (ed : ds = [d]) (e : evS O IT 31 dk2 (dkSt d) = .ok .next ⟨[a, some (.list rs), some (.int mx), b], none, none⟩) (ec : cs = rs.reverse)
open Classical in
noncomputable def dkRes (O : Orc) (ds : List Dat) : Res := if h : ∃ x : List Dat × Int, DkRes O ds x.1 x.2 then .ok (.tuple [.list h.choose.1, .int h.choose.2]) else .stuck
theorem dkRes_inv {O : Orc} {ds cs : List Dat} {mx : Int} (h : dkRes O ds = .ok (.tuple [.list cs, .int mx])) : DkRes O ds cs mx := by
  unfold dkRes at h
  by_cases q : ∃ x : List Dat × Int, DkRes O ds x.1 x.2
  · rw [dif_pos q] at h
    have k := q.choose_spec
    cases h
    exact k
  · rw [dif_neg q] at h
    cases h
theorem dkRes_of {O : Orc} {ds cs : List Dat} {mx : Int} (k : DkRes O ds cs mx) : dkRes O ds = .ok (.tuple [.list cs, .int mx]) := by
  have q : ∃ x : List Dat × Int, DkRes O ds x.1 x.2 := ⟨(cs, mx), k⟩
  refine (dif_pos q).trans ?_
  have k' := q.choose_spec
  revert k'
  generalize q.choose = x
  intro k'
  obtain ⟨d, a, b, rs, ed, e, rfl⟩ := k
  obtain ⟨d', a', b', rs', ed', e', ec'⟩ := k'
  cases ed.symm.trans ed'
  cases e.symm.trans e'
  rw [ec']
/-! the text's functions (printed by wip/ir.py) -/
noncomputable def f0 : FS := ⟨["number"], 1, "", false, [.ret (.cmp (.const (.int 0)) [.LtE, .LtE] [(.var 0), (.glob 0)])]⟩
noncomputable def f1 : FS := ⟨["code"], 1, "", false, [.ret (.cmp (.glob 1) [.LtE, .LtE] [(.var 0), (.glob 2)])]⟩
noncomputable def f2 : FS := ⟨["number"], 1, "", false, [.ret (.conn .And [(.callP 0 [(.var 0)]), (.not (.callP 1 [(.var 0)]))])]⟩
noncomputable def f3 : FS := ⟨["signs"], 1, "", false, [.ret (.comp (.blt .ord (.var 0)) (.var 0) [])]⟩
noncomputable def f4 : FS := ⟨["text", "code"], 1, "", false, [.forL 1 (.var 0) [.ite (.not (.callP 0 [(.var 1)])) [.raise 1 (.var 1)] []], .ret (.join "" (.comp (.blt .chr (.var 0)) (.var 0) []))]⟩
noncomputable def f5 : FS := ⟨["octets", "octet"], 1, "", false, [.forL 1 (.var 0) [.ite (.cmp (.var 1) [.Gt] [(.const (.int 127))]) [.raise 1 (.var 1)] []], .ret (.join "" (.comp (.blt .chr (.var 0)) (.var 0) []))]⟩
noncomputable def f6 : FS := ⟨["code", "found", "rest"], 1, "", false, [.asgNil 1, .asg 2 (.var 0), .whl (.conn .Or [(.cmp (.var 2) [.Gt] [(.const (.int 0))]), (.cmp (.lenOwn 1) [.Lt] [(.glob 4)])]) [.app 1 (.idx (.glob 3) (.bin .BitAnd (.var 2) (.const (.int 15)))), .asg 2 (.bin .RShift (.var 2) (.const (.int 4)))], .ret (.blt .bytes (.rev (.var 1)))]⟩
noncomputable def f7 : FS := ⟨["octet"], 1, "", false, [.ite (.cmp (.const (.int 48)) [.LtE, .LtE] [(.var 0), (.const (.int 57))]) [.ret (.bin .Sub (.var 0) (.const (.int 48)))] [], .ite (.cmp (.const (.int 65)) [.LtE, .LtE] [(.var 0), (.const (.int 70))]) [.ret (.bin .Sub (.var 0) (.const (.int 55)))] [], .ite (.cmp (.const (.int 97)) [.LtE, .LtE] [(.var 0), (.const (.int 102))]) [.ret (.bin .Sub (.var 0) (.const (.int 87)))] [], .ret (.const .none)]⟩
noncomputable def f8 : FS := ⟨["code", "ahead"], 1, "", false, [.ite (.cmp (.var 0) [.Lt] [(.const (.int 128))]) [.ret (.list [(.var 0)])] [], .ite (.cmp (.var 0) [.Lt] [(.const (.int 2048))]) [.ret (.list [(.bin .BitOr (.const (.int 192)) (.bin .RShift (.var 0) (.const (.int 6)))), (.bin .BitOr (.glob 9) (.bin .BitAnd (.var 0) (.const (.int 63))))])] [], .ite (.cmp (.var 0) [.Lt] [(.glob 10)]) [.ret (.list [(.bin .BitOr (.const (.int 224)) (.bin .RShift (.var 0) (.const (.int 12)))), (.bin .BitOr (.glob 9) (.bin .BitAnd (.bin .RShift (.var 0) (.const (.int 6))) (.const (.int 63)))), (.bin .BitOr (.glob 9) (.bin .BitAnd (.var 0) (.const (.int 63))))])] [], .asg 1 (.list [(.bin .BitOr (.const (.int 240)) (.bin .RShift (.var 0) (.const (.int 18)))), (.bin .BitOr (.glob 9) (.bin .BitAnd (.bin .RShift (.var 0) (.const (.int 12))) (.const (.int 63))))]), .ret (.bin .Add (.var 1) (.list [(.bin .BitOr (.glob 9) (.bin .BitAnd (.bin .RShift (.var 0) (.const (.int 6))) (.const (.int 63)))), (.bin .BitOr (.glob 9) (.bin .BitAnd (.var 0) (.const (.int 63))))]))]⟩
noncomputable def f9 : FS := ⟨["text", "found", "code"], 1, "", false, [.asgNil 1, .forL 2 (.var 0) [.ite (.not (.callP 2 [(.var 2)])) [.raise 1 (.var 2)] [], .ext 1 (.callP 8 [(.var 2)])], .ret (.blt .bytes (.var 1))]⟩
noncomputable def f10 : FS := ⟨["octet"], 1, "", false, [.ite (.cmp (.var 0) [.Lt] [(.const (.int 128))]) [.ret (.tup [(.const (.int 1)), (.const (.int 0)), (.const (.int 0))])] [], .ite (.cmp (.const (.int 194)) [.LtE, .LtE] [(.var 0), (.const (.int 223))]) [.ret (.tup [(.const (.int 2)), (.const (.int 128)), (.const (.int 191))])] [], .ite (.cmp (.const (.int 224)) [.LtE, .LtE] [(.var 0), (.const (.int 239))]) [.ret (.tup [(.const (.int 3)), (.ite (.cmp (.var 0) [.Eq] [(.const (.int 224))]) (.const (.int 160)) (.const (.int 128))), (.ite (.cmp (.var 0) [.Eq] [(.const (.int 237))]) (.const (.int 159)) (.const (.int 191)))])] [], .ite (.cmp (.const (.int 240)) [.LtE, .LtE] [(.var 0), (.const (.int 244))]) [.ret (.tup [(.const (.int 4)), (.ite (.cmp (.var 0) [.Eq] [(.const (.int 240))]) (.const (.int 144)) (.const (.int 128))), (.ite (.cmp (.var 0) [.Eq] [(.const (.int 244))]) (.const (.int 143)) (.const (.int 191)))])] [], .ret (.const .none)]⟩
noncomputable def f11 : FS := ⟨["octets", "at", "lead", "many", "low", "high", "code", "behind", "octet"], 2, "", false, [.asg 2 (.callP 10 [(.idx (.var 0) (.var 1))]), .ite (.cmp (.var 2) [.Is] [(.const .none)]) [.ret (.tup [(.const (.int 1)), (.const .none), (.ite (.cmp (.idx (.var 0) (.var 1)) [.Lt] [(.const (.int 192))]) (.glob 5) (.glob 6))])] [], .asgU [3, 4, 5] (.var 2), .ite (.cmp (.var 3) [.Eq] [(.const (.int 1))]) [.ret (.tup [(.const (.int 1)), (.idx (.var 0) (.var 1)), (.const (.str ""))])] [], .asg 6 (.bin .BitAnd (.idx (.var 0) (.var 1)) (.bin .RShift (.const (.int 127)) (.var 3))), .forR 7 (some (.const (.int 1))) (.var 3) [.ite (.cmp (.bin .Add (.var 1) (.var 7)) [.GtE] [(.blt .len (.var 0))]) [.ret (.tup [(.var 7), (.const .none), (.glob 8)])] [], .asg 8 (.idx (.var 0) (.bin .Add (.var 1) (.var 7))), .ite (.not (.cmp (.var 4) [.LtE, .LtE] [(.var 8), (.var 5)])) [.ret (.tup [(.var 7), (.const .none), (.glob 7)])] [], .asg 6 (.bin .BitOr (.bin .LShift (.var 6) (.const (.int 6))) (.bin .BitAnd (.var 8) (.const (.int 63)))), .asgT [4, 5] [(.const (.int 128)), (.const (.int 191))]], .ret (.tup [(.var 3), (.var 6), (.const (.str ""))])]⟩
noncomputable def f12 : FS := ⟨["octets", "found", "at", "many", "code", "wrong"], 1, "", false, [.asgTO [] [] 1 none [2] [(.const (.int 0))], .whl (.cmp (.var 2) [.Lt] [(.blt .len (.var 0))]) [.asgU [3, 4, 5] (.callP 11 [(.var 0), (.var 2)]), .ite (.cmp (.var 4) [.Is] [(.const .none)]) [.raise 2 (.tup [(.var 2), (.var 5)])] [], .app 1 (.var 4), .asg 2 (.bin .Add (.var 2) (.var 3))], .retOwn 1]⟩
noncomputable def f13 : FS := ⟨["code"], 1, "", false, [.ret (.conn .Or [(.cmp (.var 0) [.In] [(.tup [(.const (.int 32)), (.const (.int 133)), (.const (.int 8206)), (.const (.int 8207)), (.const (.int 8232)), (.const (.int 8233))])]), (.cmp (.const (.int 9)) [.LtE, .LtE] [(.var 0), (.const (.int 13))])])]⟩
noncomputable def f14 : FS := ⟨["code"], 1, "", false, [.ret (.conn .Or [(.cmp (.const (.int 33)) [.LtE, .LtE] [(.var 0), (.const (.int 47))]), (.cmp (.const (.int 58)) [.LtE, .LtE] [(.var 0), (.const (.int 64))]), (.cmp (.const (.int 91)) [.LtE, .LtE] [(.var 0), (.const (.int 96))]), (.cmp (.const (.int 123)) [.LtE, .LtE] [(.var 0), (.const (.int 126))])])]⟩
noncomputable def f15 : FS := ⟨["code"], 0, "self", true, [.whl (.cmp (.fld true) [.Lt] [(.blt .len (.fld false))]) [.asg 0 (.idx (.fld false) (.fld true)), .ite (.cmp (.var 0) [.Eq] [(.blt .ord (.const (.str "#")))]) [.whl (.conn .And [(.cmp (.fld true) [.Lt] [(.blt .len (.fld false))]), (.cmp (.idx (.fld false) (.fld true)) [.NotIn] [(.tup [(.const (.int 10)), (.const (.int 12)), (.const (.int 13)), (.const (.int 133)), (.const (.int 8232)), (.const (.int 8233))])])]) [.augAt (.const (.int 1))]] [.ite (.callP 13 [(.var 0)]) [.augAt (.const (.int 1))] [.retN]]]]⟩
noncomputable def f16 : FS := ⟨["sign"], 1, "self", true, [.ret (.conn .And [(.cmp (.fld true) [.Lt] [(.blt .len (.fld false))]), (.cmp (.idx (.fld false) (.fld true)) [.Eq] [(.blt .ord (.var 0))])])]⟩
noncomputable def f17 : FS := ⟨["sign", "is_there"], 1, "self", true, [.asg 1 (.callM 16 [(.var 0)]), .augAt (.blt .int (.var 1)), .ret (.var 1)]⟩
noncomputable def f18 : FS := ⟨["code", "many", "number", "place", "sign", "figure"], 0, "self", true, [.ite (.cmp (.fld true) [.GtE] [(.blt .len (.fld false))]) [.raise 0 (.fld true)] [], .asg 0 (.idx (.fld false) (.fld true)), .augAt (.const (.int 1)), .asg 1 (.ite (.cmp (.var 0) [.Eq] [(.blt .ord (.const (.str "u")))]) (.const (.int 4)) (.ite (.cmp (.var 0) [.Eq] [(.blt .ord (.const (.str "U")))]) (.const (.int 8)) (.const (.int 0)))), .ite (.cmp (.var 1) [.Eq] [(.const (.int 0))]) [.ret (.var 0)] [], .asgT [2, 3] [(.const (.int 0)), (.fld true)], .forL 4 (.sl (.fld false) (some (.fld true)) (some (.bin .Add (.fld true) (.var 1)))) [.asg 5 (.callP 7 [(.var 4)]), .ite (.cmp (.var 5) [.Is] [(.const .none)]) [.raise 0 (.var 3)] [], .asg 2 (.bin .Add (.bin .Mult (.const (.int 16)) (.var 2)) (.var 5))], .ite (.conn .Or [(.cmp (.bin .Add (.var 3) (.var 1)) [.Gt] [(.blt .len (.fld false))]), (.not (.callP 2 [(.var 2)]))]) [.raise 0 (.var 3)] [], .augAt (.var 1), .ret (.var 2)]⟩
noncomputable def f19 : FS := ⟨["found"], 0, "self", true, [.ite (.callM 17 [(.const (.str "'"))]) [.ret (.list [(.blt .ord (.const (.str "'")))])] [], .asgNil 0, .whl (.not (.callM 17 [(.const (.str "'"))])) [.ite (.cmp (.fld true) [.GtE] [(.blt .len (.fld false))]) [.raise 0 (.fld true)] [], .app 0 (.idx (.fld false) (.fld true)), .augAt (.const (.int 1)), .whl (.cmp (.blt .list (.sl (.fld false) (some (.fld true)) (some (.bin .Add (.fld true) (.const (.int 2)))))) [.Eq] [(.list [(.blt .ord (.const (.str "'"))), (.blt .ord (.const (.str "'")))])]) [.app 0 (.blt .ord (.const (.str "'"))), .augAt (.const (.int 2))]], .retOwn 0]⟩
noncomputable def f20 : FS := ⟨["found", "place", "code"], 0, "self", true, [.expr (.callM 15 []), .asgTO [] [] 0 none [1] [(.fld true)], .whl (.cmp (.fld true) [.Lt] [(.blt .len (.fld false))]) [.asg 2 (.idx (.fld false) (.fld true)), .ite (.callM 17 [(.const (.str "'"))]) [.ext 0 (.callM 19 [])] [.ite (.callM 17 [(.const (.str "\\"))]) [.app 0 (.callM 18 [])] [.ite (.conn .Or [(.callP 14 [(.var 2)]), (.callP 13 [(.var 2)])]) [.brk] [.app 0 (.var 2), .augAt (.const (.int 1))]]]], .ite (.ownNil 0) [.raise 0 (.var 1)] [], .retOwn 0]⟩
noncomputable def f21 : FS := ⟨["found", "depth", "place", "code"], 0, "self", true, [.asgTO [] [] 0 none [1, 2] [(.const (.int 1)), (.fld true)], .whl (.cmp (.fld true) [.Lt] [(.blt .len (.fld false))]) [.asg 3 (.idx (.fld false) (.fld true)), .augAt (.const (.int 1)), .aug 1 .Add (.bin .Sub (.blt .int (.cmp (.var 3) [.Eq] [(.blt .ord (.const (.str "[")))])) (.blt .int (.cmp (.var 3) [.Eq] [(.blt .ord (.const (.str "]")))]))), .ite (.cmp (.var 1) [.Eq] [(.const (.int 0))]) [.retOwn 0] [], .app 0 (.var 3)], .raise 0 (.var 2)]⟩
noncomputable def f22 : FS := ⟨["found", "word", "code"], 0, "self", true, [.asgTO [0] [(.list [])] 1 none [] [], .forL 2 (.bin .Add (.callM 21 []) (.list [(.const (.int 32))])) [.ite (.callP 13 [(.var 2)]) [.asg 0 (.bin .Add (.var 0) (.ite (.cmp (.var 1) [.NotEq] [(.list [])]) (.list [(.callP 4 [(.var 1)])]) (.list []))), .asgNil 1] [.app 1 (.var 2)]], .ret (.var 0)]⟩
noncomputable def f23 : FS := ⟨["place", "before", "words"], 1, "self", true, [.expr (.callM 15 []), .asg 1 (.const (.int 0)), .ite (.callM 17 [(.const (.str "["))]) [.asg 2 (.callM 22 []), .ite (.cmp (.sl (.var 2) none (some (.const (.int 1)))) [.NotEq] [(.list [(.const (.str "before"))])]) [.ret (.tup [(.const (.str "anchor")), (.join " " (.var 2)), (.const (.int 0)), (.var 0)])] [], .ite (.conn .Or [(.cmp (.blt .len (.var 2)) [.NotEq] [(.const (.int 2))]), (.cmp (.idx (.var 2) (.const (.int 1))) [.NotIn] [(.tup [(.const (.str "1")), (.const (.str "2")), (.const (.str "3"))])])]) [.raise 0 (.var 0)] [], .asg 1 (.bin .Sub (.blt .ord (.idx (.var 2) (.const (.int 1)))) (.blt .ord (.const (.str "0")))), .expr (.callM 15 []), .ite (.callM 17 [(.const (.str "["))]) [.ret (.tup [(.const (.str "anchor")), (.join " " (.callM 22 [])), (.var 1), (.var 0)])] []] [], .ret (.tup [(.const (.str "reset")), (.blt .tuple (.callM 20 [])), (.var 1), (.var 0)])]⟩
noncomputable def f24 : FS := ⟨["place", "many"], 1, "self", true, [.ite (.callM 17 [(.const (.str "="))]) [.ret (.const (.int 0))] [], .asg 1 (.const (.int 0)), .whl (.callM 17 [(.const (.str "<"))]) [.aug 1 .Add (.const (.int 1))], .ite (.not (.cmp (.const (.int 1)) [.LtE, .LtE] [(.var 1), (.const (.int 3))])) [.raise 0 (.var 0)] [], .ret (.var 1)]⟩
noncomputable def f25 : FS := ⟨["strength", "place", "found", "ends"], 2, "self", true, [.asgCall 2 20 [], .whl (.callM 17 [(.const (.str "-"))]) [.asg 3 (.callM 20 []), .ite (.cmp (.idx (.var 3) (.const (.int 0))) [.Lt] [(.idxOwn 2 (.neg 1))]) [.raise 0 (.fld true)] [], .ext 2 (.bin .Add (.compR (.var 0) (.bin .Add (.idxOwn 2 (.neg 1)) (.const (.int 1))) (.bin .Add (.idx (.var 3) (.const (.int 0))) (.const (.int 1))) (.callP 2 [(.var 0)])) (.sl (.var 3) (some (.const (.int 1))) none))], .ret (.comp (.tup [(.const (.str "relation")), (.var 2), (.tup [(.var 0)]), (.tup []), (.tup []), (.var 1)]) (.var 2) [1, 0])]⟩
noncomputable def f26 : FS := ⟨["place", "strength", "context", "codes", "more"], 1, "self", true, [.asg 1 (.callM 24 [(.var 0)]), .ite (.callM 17 [(.const (.str "*"))]) [.ret (.callM 25 [(.var 1), (.var 0)])] [], .asgT [2, 3, 4] [(.list []), (.callM 20 []), (.list [])], .expr (.callM 15 []), .ite (.callM 17 [(.const (.str "|"))]) [.asgT [2, 3] [(.var 3), (.callM 20 [])], .expr (.callM 15 [])] [], .ite (.callM 17 [(.const (.str "/"))]) [.asg 4 (.callM 20 [])] [], .ret (.list [(.tup [(.const (.str "relation")), (.var 1), (.blt .tuple (.var 3)), (.blt .tuple (.var 2)), (.blt .tuple (.var 4)), (.var 0)])])]⟩
noncomputable def f27 : FS := ⟨["octets", "found", "is_set", "before", "place", "text", "rows"], 1, "reader", false, [.asgTO [] [] 1 none [2, 3, 4] [(.const (.bool false)), (.const (.int 0)), (.const .none)], .tryT [.asg 5 (.callP 12 [(.var 0)])] 2 4 true, .ite (.cmp (.var 4) [.IsNot] [(.const .none)]) [.raise 0 (.var 4)] [], .mkRdr (.var 5), .expr (.callM 15 []), .whl (.cmp (.fld true) [.Lt] [(.blt .len (.var 5))]) [.asg 4 (.fld true), .ite (.callM 17 [(.const (.str "&"))]) [.app 1 (.callM 23 [(.var 4)]), .asgT [2, 3] [(.const (.bool true)), (.idx (.idxOwn 1 (.neg 1)) (.const (.int 2)))]] [.ite (.callM 17 [(.const (.str "["))]) [.app 1 (.tup [(.const (.str "option")), (.blt .tuple (.callM 22 [])), (.var 4)])] [.ite (.var 2) [.asg 6 (.callM 26 [(.var 4)]), .ite (.conn .And [(.cmp (.var 3) [.NotEq] [(.const (.int 0))]), (.cmp (.idx (.idx (.var 6) (.const (.int 0))) (.const (.int 1))) [.NotEq] [(.var 3)])]) [.raise 0 (.var 4)] [], .ext 1 (.var 6), .asg 3 (.const (.int 0))] [.raise 0 (.var 4)]]], .expr (.callM 15 [])], .retOwn 1]⟩
noncomputable def f28 : FS := ⟨["codes", "found", "code"], 1, "", false, [.asg 1 (.const (.str "")), .forL 2 (.var 0) [.ite (.conn .Or [(.callP 14 [(.var 2)]), (.callP 13 [(.var 2)])]) [.asg 1 (.bin .Add (.bin .Add (.bin .Add (.var 1) (.const (.str "\\U"))) (.bin .Mult (.const (.str "0")) (.bin .Sub (.const (.int 8)) (.blt .len (.callP 6 [(.var 2)]))))) (.callP 5 [(.callP 6 [(.var 2)])]))] [.asg 1 (.bin .Add (.var 1) (.callP 4 [(.list [(.var 2)])]))]], .ret (.var 1)]⟩
noncomputable def f29 : FS := ⟨["rules", "rows", "rule", "row", "goal"], 1, "", false, [.asgNil 1, .forL 2 (.var 0) [.ite (.cmp (.idx (.var 2) (.const (.int 0))) [.Eq] [(.const (.str "option"))]) [.app 1 (.bin .Add (.bin .Add (.const (.str "[")) (.join " " (.idx (.var 2) (.const (.int 1))))) (.const (.str "]")))] [.ite (.cmp (.idx (.var 2) (.const (.int 0))) [.Eq] [(.const (.str "relation"))]) [.asg 3 (.ite (.cmp (.idx (.var 2) (.const (.int 1))) [.Eq] [(.const (.int 0))]) (.const (.str "=")) (.bin .Mult (.const (.str "<")) (.idx (.var 2) (.const (.int 1))))), .asg 3 (.bin .Add (.bin .Add (.bin .Add (.var 3) (.const (.str " "))) (.ite (.cmp (.idx (.var 2) (.const (.int 3))) [.NotEq] [(.tup [])]) (.bin .Add (.callP 28 [(.idx (.var 2) (.const (.int 3)))]) (.const (.str " | "))) (.const (.str "")))) (.callP 28 [(.idx (.var 2) (.const (.int 2)))])), .app 1 (.bin .Add (.var 3) (.ite (.cmp (.idx (.var 2) (.const (.int 4))) [.NotEq] [(.tup [])]) (.bin .Add (.const (.str " / ")) (.callP 28 [(.idx (.var 2) (.const (.int 4)))])) (.const (.str ""))))] [.asg 4 (.ite (.cmp (.idx (.var 2) (.const (.int 0))) [.Eq] [(.const (.str "reset"))]) (.callP 28 [(.idx (.var 2) (.const (.int 1)))]) (.bin .Add (.bin .Add (.const (.str "[")) (.idx (.var 2) (.const (.int 1)))) (.const (.str "]")))), .app 1 (.bin .Add (.bin .Add (.const (.str "&")) (.ite (.cmp (.idx (.var 2) (.const (.int 2))) [.NotEq] [(.const (.int 0))]) (.bin .Add (.bin .Add (.const (.str "[before ")) (.blt .str (.idx (.var 2) (.const (.int 2))))) (.const (.str "] "))) (.const (.str " ")))) (.var 4))]]], .ret (.callP 9 [(.callP 3 [(.join "\n" (.var 1))])])]⟩
noncomputable def f31 : FS := ⟨["many"], 1, "deck", true, [.ite .deckNe [.ret (.bin .Mod .deckPop (.var 0))] [], .setMixed (.bin .Mod (.bin .Add (.bin .Mult .deckMixed (.const (.int 16807))) (.const (.int 29))) (.const (.int 2147483647))), .ret (.bin .Mod (.bin .FloorDiv .deckMixed (.const (.int 64))) (.var 0))]⟩
noncomputable def f32 : FS := ⟨["some"], 1, "deck", true, [.ret (.idx (.var 0) (.callS 31 [(.blt .len (.var 0))]))]⟩
noncomputable def f33 : FS := ⟨["word"], 1, "", false, [.ret (.comp (.blt .ord (.var 0)) (.var 0) [])]⟩
noncomputable def f34 : FS := ⟨["codes", "found", "code"], 1, "", false, [.asgNil 1, .forL 2 (.var 0) [.ite (.cmp (.var 2) [.Lt] [(.const (.int 128))]) [.app 1 (.var 2)] [.ite (.cmp (.var 2) [.Lt] [(.const (.int 2048))]) [.ext 1 (.list [(.bin .Add (.const (.int 192)) (.bin .FloorDiv (.var 2) (.const (.int 64)))), (.bin .Add (.const (.int 128)) (.bin .Mod (.var 2) (.const (.int 64))))])] [.ite (.cmp (.var 2) [.Lt] [(.const (.int 65536))]) [.ext 1 (.list [(.bin .Add (.const (.int 224)) (.bin .FloorDiv (.var 2) (.const (.int 4096)))), (.bin .Add (.const (.int 128)) (.bin .Mod (.bin .FloorDiv (.var 2) (.const (.int 64))) (.const (.int 64)))), (.bin .Add (.const (.int 128)) (.bin .Mod (.var 2) (.const (.int 64))))])] [.ext 1 (.list [(.bin .Add (.const (.int 240)) (.bin .FloorDiv (.var 2) (.const (.int 262144)))), (.bin .Add (.const (.int 128)) (.bin .Mod (.bin .FloorDiv (.var 2) (.const (.int 4096))) (.const (.int 64)))), (.bin .Add (.const (.int 128)) (.bin .Mod (.bin .FloorDiv (.var 2) (.const (.int 64))) (.const (.int 64)))), (.bin .Add (.const (.int 128)) (.bin .Mod (.var 2) (.const (.int 64))))])]]]], .ret (.blt .bytes (.var 1))]⟩
noncomputable def f35 : FS := ⟨[], 0, "deck", true, [.ret (.callS 32 [(.list [(.list []), (.list [(.const (.int 32))]), (.list [(.const (.int 32))]), (.list [(.const (.int 9)), (.const (.int 32))]), (.list [(.const (.int 10))]), (.list [(.const (.int 133))]), (.list [(.const (.int 8206))]), (.list [(.const (.int 8207))]), (.list [(.const (.int 8232))]), (.list [(.const (.int 13))]), (.list [(.const (.int 11)), (.const (.int 12))])])])]⟩
noncomputable def f36 : FS := ⟨["near", "way", "odd", "some"], 0, "deck", true, [.asgT [0, 1] [(.callS 32 [(.glob 11)]), (.callS 31 [(.const (.int 6))])], .ite (.cmp (.var 1) [.Lt] [(.const (.int 3))]) [.asg 3 (.ite (.cmp (.var 1) [.Eq] [(.const (.int 2))]) (.list [(.var 0), (.callS 32 [(.glob 11)])]) (.list [(.var 0)])), .ret (.tup [(.var 3), (.var 3)])] [], .asg 2 (.callS 32 [(.list [(.tup [(.const (.str "'&'")), (.list [(.const (.int 38))])]), (.tup [(.const (.str "'< '")), (.list [(.const (.int 60)), (.const (.int 32))])]), (.tup [(.const (.str "\\<")), (.list [(.const (.int 60))])]), (.tup [(.const (.str "''")), (.list [(.const (.int 39))])]), (.tup [(.const (.str "'a''b'")), (.list [(.const (.int 97)), (.const (.int 39)), (.const (.int 98))])]), (.tup [(.const (.str "\\u0061")), (.list [(.const (.int 97))])]), (.tup [(.const (.str "\\U0001F600")), (.list [(.const (.int 128512))])])])]), .ite (.cmp (.var 1) [.Eq] [(.const (.int 3))]) [.ret (.tup [(.bin .Add (.list [(.var 0)]) (.callP 33 [(.idx (.var 2) (.const (.int 0)))])), (.bin .Add (.list [(.var 0)]) (.idx (.var 2) (.const (.int 1))))])] [], .ite (.cmp (.var 1) [.Eq] [(.const (.int 4))]) [.ret (.tup [(.bin .Add (.callP 33 [(.idx (.var 2) (.const (.int 0)))]) (.list [(.var 0)])), (.bin .Add (.idx (.var 2) (.const (.int 1))) (.list [(.var 0)]))])] [], .ret (.tup [(.callP 33 [(.idx (.var 2) (.const (.int 0)))]), (.idx (.var 2) (.const (.int 1)))])]⟩
noncomputable def f37 : FS := ⟨["place", "codes", "before", "written", "some"], 1, "deck", true, [.asgT [1, 2] [(.bin .Add (.list [(.const (.int 38))]) (.callS 35 [])), (.callS 32 [(.list [(.const (.int 0)), (.const (.int 0)), (.const (.int 0)), (.const (.int 1)), (.const (.int 2)), (.const (.int 3))])])], .ite (.cmp (.var 2) [.Gt] [(.const (.int 0))]) [.asg 1 (.bin .Add (.bin .Add (.var 1) (.callP 33 [(.bin .Add (.bin .Add (.const (.str "[before ")) (.blt .str (.var 2))) (.const (.str "]")))])) (.callS 35 []))] [], .ite (.cmp (.callS 31 [(.const (.int 5))]) [.Eq] [(.const (.int 0))]) [.ret (.tup [(.bin .Add (.var 1) (.callP 33 [(.const (.str "[first regular]"))])), (.tup [(.const (.str "anchor")), (.const (.str "first regular")), (.var 2), (.var 0)]), (.var 2)])] [], .asgU [3, 4] (.callS 36 []), .ret (.tup [(.bin .Add (.var 1) (.var 3)), (.tup [(.const (.str "reset")), (.blt .tuple (.var 4)), (.var 2), (.var 0)]), (.var 2)])]⟩
noncomputable def f38 : FS := ⟨["place", "before", "strength", "codes", "ahead", "behind", "written", "own", "word", "some", "rules"], 2, "deck", true, [.asg 2 (.ite (.cmp (.var 1) [.Gt] [(.const (.int 0))]) (.var 1) (.callS 31 [(.const (.int 4))])), .asg 3 (.callP 33 [(.idx (.list [(.const (.str "=")), (.const (.str "<")), (.const (.str "<<")), (.const (.str "<<<"))]) (.var 2))]), .ite (.cmp (.callS 31 [(.const (.int 4))]) [.Eq] [(.const (.int 0))]) [.asgU [8, 9] (.callS 32 [(.list [(.tup [(.const (.str "az")), (.const (.str "az"))]), (.tup [(.const (.str "a-c")), (.const (.str "abc"))]), (.tup [(.const (.str "0a-b")), (.const (.str "0ab"))]), (.tup [(.const (.str "x-yb")), (.const (.str "xyb"))])])]), .asgC 10 (.comp (.tup [(.const (.str "relation")), (.var 2), (.tup [(.var 0)]), (.tup []), (.tup []), (.var 1)]) (.callP 33 [(.var 9)]) [0, 2]), .ret (.tup [(.bin .Add (.bin .Add (.bin .Add (.var 3) (.list [(.const (.int 42))])) (.callS 35 [])) (.callP 33 [(.var 8)])), (.var 10)])] [], .asgT [4, 5] [(.tup []), (.tup [])], .ite (.cmp (.callS 31 [(.const (.int 4))]) [.Eq] [(.const (.int 0))]) [.asgU [6, 9] (.callS 36 []), .asgT [3, 4] [(.bin .Add (.bin .Add (.bin .Add (.bin .Add (.var 3) (.callS 35 [])) (.var 6)) (.callS 35 [])) (.list [(.const (.int 124))])), (.blt .tuple (.var 9))]] [], .asgU [6, 7] (.callS 36 []), .asg 3 (.bin .Add (.bin .Add (.var 3) (.callS 35 [])) (.var 6)), .ite (.cmp (.callS 31 [(.const (.int 4))]) [.Eq] [(.const (.int 0))]) [.asgU [6, 9] (.callS 36 []), .asgT [3, 5] [(.bin .Add (.bin .Add (.bin .Add (.bin .Add (.var 3) (.callS 35 [])) (.list [(.const (.int 47))])) (.callS 35 [])) (.var 6)), (.blt .tuple (.var 9))]] [], .ret (.tup [(.var 3), (.list [(.tup [(.const (.str "relation")), (.var 2), (.blt .tuple (.var 7)), (.var 4), (.var 5), (.var 0)])])])]⟩
noncomputable def f39 : FS := ⟨["codes", "due", "before", "is_open", "turn", "way", "word", "written", "rule", "rules"], 0, "deck", true, [.asgTO [0] [(.list [])] 1 none [2, 3] [(.const (.int 0)), (.const (.bool false))], .forR 4 none (.callS 31 [(.const (.int 6))]) [.asg 0 (.bin .Add (.var 0) (.callS 32 [(.list [(.list []), (.list [(.const (.int 32))]), (.list [(.const (.int 10))]), (.callP 33 [(.const (.str "#x&'<[\n"))]), (.callP 33 [(.const (.str "#<\r"))])])])), .asg 5 (.callS 31 [(.const (.int 5))]), .ite (.cmp (.var 5) [.Eq] [(.const (.int 0))]) [.asg 6 (.callS 32 [(.list [(.const (.str "alternate shifted")), (.const (.str "backwards 2")), (.const (.str "strength"))])]), .app 1 (.tup [(.const (.str "option")), (.blt .tuple (.split (.var 6) " ")), (.blt .len (.var 0))]), .asg 0 (.bin .Add (.var 0) (.callP 33 [(.bin .Add (.bin .Add (.const (.str "[")) (.var 6)) (.const (.str "]")))]))] [.ite (.conn .Or [(.cmp (.var 5) [.Eq] [(.const (.int 1))]), (.not (.var 3))]) [.asgU [7, 8, 2] (.callS 37 [(.blt .len (.var 0))]), .asgTO [0] [(.bin .Add (.var 0) (.var 7))] 1 (some ((.var 1), (.list [(.var 8)]))) [3] [(.const (.bool true))]] [.asgU [7, 9] (.callS 38 [(.blt .len (.var 0)), (.var 2)]), .asgTO [0] [(.bin .Add (.var 0) (.var 7))] 1 (some ((.var 1), (.var 9))) [2] [(.const (.int 0))]]]], .ret (.tup [(.var 0), (.var 1)])]⟩
noncomputable def f40 : FS := ⟨["octets", "found"], 1, "", false, [.asg 1 (.const .none), .tryT [.asgC 1 (.comp (.blt .tuple (.var 0)) (.callP 27 [(.var 0)]) [])] 0 1 false, .ret (.var 1)]⟩
noncomputable def f41 : FS := ⟨["codes", "some", "word", "place", "octets"], 1, "deck", true, [.asg 1 (.list [(.tup [(.const (.str "& ")), (.const (.int 2))]), (.tup [(.const (.str "&<a")), (.const (.int 1))]), (.tup [(.const (.str "&a < ")), (.const (.int 5))]), (.tup [(.const (.str "&a<b | ")), (.const (.int 7))]), (.tup [(.const (.str "&a<b/")), (.const (.int 5))]), (.tup [(.const (.str "&a <<<< b")), (.const (.int 3))]), (.tup [(.const (.str "&[before 4]a<b")), (.const (.int 0))])]), .asg 1 (.bin .Add (.var 1) (.list [(.tup [(.const (.str "&[before 1]a<<b")), (.const (.int 12))]), (.tup [(.const (.str "&a<'b")), (.const (.int 5))]), (.tup [(.const (.str "[alternate")), (.const (.int 1))]), (.tup [(.const (.str "&a<\\u00")), (.const (.int 5))]), (.tup [(.const (.str "!")), (.const (.int 0))]), (.tup [(.const (.str "a<b")), (.const (.int 0))]), (.tup [(.const (.str "&a<\\uD800")), (.const (.int 5))]), (.tup [(.const (.str "&a<\\")), (.const (.int 4))])])), .asgU [2, 3] (.callS 32 [(.var 1)]), .ite (.cmp (.callP 40 [(.callP 34 [(.bin .Add (.bin .Add (.var 0) (.list [(.const (.int 10))])) (.callP 33 [(.var 2)]))])]) [.NotEq] [(.bin .Add (.bin .Add (.blt .len (.var 0)) (.const (.int 1))) (.var 3))]) [.ret (.const (.bool false))] [], .asg 4 (.callP 34 [(.bin .Add (.var 0) (.list [(.const (.int 10))]))]), .ret (.conn .And [(.cmp (.callP 40 [(.bin .Add (.var 4) (.const (.bytes #[255])))]) [.Eq] [(.blt .len (.var 4))]), (.cmp (.callP 40 [(.const (.bytes #[32, 60, 97]))]) [.Eq] [(.const (.int 1))])])]⟩
noncomputable def f42 : FS := ⟨["script", "codes", "due", "told"], 1, "deck", false, [.mkDeck 30 (.var 0), .asgU [1, 2] (.callS 39 []), .ite (.conn .Or [(.cmp (.callP 40 [(.callP 34 [(.var 1)])]) [.NotEq] [(.var 2)]), (.not (.callS 41 [(.var 1)]))]) [.ret (.const (.bool false))] [], .asg 3 (.callP 40 [(.callP 29 [(.var 2)])]), .ret (.cmp (.comp (.sl (.var 0) none (some (.neg 1))) (.var 3) []) [.Eq] [(.comp (.sl (.var 0) none (some (.neg 1))) (.var 2) [])])]⟩

noncomputable def fsAt (n : Nat) : Option FS := ([some f0, some f1, some f2, some f3, some f4, some f5, some f6, some f7, some f8, some f9, some f10, some f11, some f12, some f13, some f14, some f15, some f16, some f17, some f18, some f19, some f20, some f21, some f22, some f23, some f24, some f25, some f26, some f27, some f28, some f29, none, some f31, some f32, some f33, some f34, some f35, some f36, some f37, some f38, some f39, some f40, some f41, some f42] : List (Option FS)).getD n none
noncomputable def gv (j : Nat) : Option Dat := ([.int 1114111, .int 55296, .int 57343, .bytes #[48, 49, 50, 51, 52, 53, 54, 55, 56, 57, 65, 66, 67, 68, 69, 70], .int 4, .str "a trail octet without a lead", .str "an octet that never stands", .str "a sequence that breaks off", .str "a sequence that is cut short", .int 128, .int 65536,
  .tuple [.int 97, .int 98, .int 99, .int 122, .int 48, .int 233, .int 945, .int 19968, .int 128512]] : List Dat)[j]?
noncomputable def orcB : Orc := ⟨fun _ _ => .stuck, fun _ _ _ => .stuck, gv⟩
noncomputable def pAt (O : Orc) (n : Nat) (ds : List Dat) : Res := match fsAt n with
  | some fs => if fs.st then .stuck else outP (runFn O fs none ds)
  | none => .stuck
noncomputable def sAt (O : Orc) (n : Nat) (st : St) (ds : List Dat) : ResS := match fsAt n with
  | some fs => if fs.st then outS' (n == 20) O fs st ds else .stuck
  | none => .stuck
noncomputable def orc : Nat → Orc
  | 0 => ⟨fun id ds => if id = 30 then dkRes orcB ds else .stuck, fun _ _ _ => .stuck, gv⟩
  | n + 1 => ⟨fun id ds => if id = n ∧ n ≠ 30 then pAt (orc n) n ds else (orc n).p id ds, fun id st ds => if id = n then sAt (orc n) n st ds else (orc n).s id st ds, gv⟩
end Mine

namespace Mine
open PySem PySem.W PySem.Calls PyProof.Rows

theorem no_some {α : Type} {d : α} {P : Prop} (e : none = some d) : P := nomatch e
theorem if_some {α : Type} {c : Prop} [Decidable c] {r d : α} (e : (if c then some r else none) = some d) : c ∧ r = d := by
  by_cases h : c
  · rw [if_pos h] at e; exact ⟨h, Option.some.inj e⟩
  · rw [if_neg h] at e; cases e
theorem and_l {a b : Bool} (h : (a && b) = true) : a = true := (Bool.and_eq_true_iff.mp h).1
theorem and_r {a b : Bool} (h : (a && b) = true) : b = true := (Bool.and_eq_true_iff.mp h).2
theorem small_lt {i : Int} (h : small i = true) : i.natAbs < 2 ^ 60 := of_decide_eq_true h
theorem sz_le {n : Nat} (h : sz n = true) : n ≤ sizeLine := of_decide_eq_true h
theorem sl_is : sizeLine = 16777216 := by decide +kernel
theorem sz_le' {n : Nat} (h : sz n = true) : n ≤ 16777216 := by have := sz_le h; rwa [sl_is] at this
theorem sz_lt {n k : Nat} (h : sz n = true) (hk : 16777216 < k) : n < k := Nat.lt_of_le_of_lt (sz_le' h) hk
theorem intBits_small {a : Int} (h : small a = true) : Builtin.Int.intBits a ≤ 64 := PySem.intBits_le_64 (by have := small_lt h; omega) (by have := small_lt h; omega)
theorem noPylong {a b : Int} (hb : small b = true) : Builtin.divisionGoesByPylong a b = false := by
  unfold Builtin.divisionGoesByPylong
  have h := small_lt hb
  have : ¬ ((if (b == 0) = true then 0 else Nat.log2 (Int.natAbs b) / 30 + 1) > 300) := by
    split
    · omega
    · have h2 : Nat.log2 b.natAbs < 60 ∨ b.natAbs = 0 := by
        by_cases hz : b.natAbs = 0
        · exact .inr hz
        · exact .inl ((Nat.log2_lt hz).mpr h)
      rcases h2 with h2 | h2
      · omega
      · rw [h2]; decide
  simp only [Bool.and_eq_false_iff, decide_eq_false_iff_not]
  exact .inl this
theorem isList_of {h : Heap} {a : Addr} {vs : List Value} {n : Nat} (e : h.get? a = some (listOf vs.toArray n)) : h.IsList a vs.toArray := ⟨_, e, rfl, _, rfl⟩
theorem isTup_of {h : Heap} {a : Addr} {o : Obj} {vs : List Value} {n : Nat} (e : h.get? a = some o) (c : o.cls = .type "tuple") (d : o.data = .seq vs.toArray n) : IsTup h a vs.toArray := ⟨_, e, c, _, d⟩

/-- what meets an operation's value -/
noncomputable def Knt (h₀ : Heap) (L : Addr) (m : Str → Option Value) (hb : Heap) (s : Shared) (d : Dat) (Q : Value → Shared → Prop) : Prop :=
  ∀ r h' tk, Fr h₀ L h' m → KpL L s.heap h' → Res1 hb s.heap h' r d → Q r { s with heap := h', toks := tk }

section
variable {prog : Program} {w : World} {A : Around} {E : Value → Shared → Prop} {s : Shared} {h₀ hb : Heap} {L : Addr} {m : Str → Option Value} {d x y : Dat} {u v : Value} {Q : Value → Shared → Prop}

theorem Knt.now (k : Knt h₀ L m hb s d Q) (F : Fr h₀ L s.heap m) {r : Value} {tk : Nat} (x : Rp hb r d) : Q r { s with toks := tk } := k r s.heap tk F (fun _ _ _ e => e) (.of x)
theorem Knt.fresh {vs : List Value} {ds : List Dat} {h' : Heap} {n : Nat} (k : Knt h₀ L m hb s (.list ds) Q) (F : Fr h₀ L s.heap m) (F' : Fr h₀ L h' m) (N : News h₀ L h' ((s.heap.objs.size, listOf vs.toArray n) :: maxN h₀ L s.heap)) (r : RpL hb vs ds) (tk : Nat) : Q (.ref s.heap.objs.size) { s with heap := h', toks := tk } :=
  k _ h' tk F' (kp_of_cons F F' N).1 (.list (none_size _) (kp_of_cons F F' N).2 r)

theorem intD_inv {f : Int → Int → Option Dat} (e : intD f x y = some d) (ru : Rp hb u x) (rv : Rp hb v y) {P : Value → Value → Prop} (k : ∀ a b t t', f a b = some d → P (.int a t) (.int b t')) : P u v := by
  cases x
  case int a =>
    cases y
    case int b =>
      obtain ⟨t, rfl⟩ := ru.int_inv
      obtain ⟨t', rfl⟩ := rv.int_inv
      exact k a b t t' e
    all_goals exact no_some e
  all_goals exact no_some e

theorem add_ok (F : Fr h₀ L s.heap m) (hk : hb.StaysIn s.heap) (e : addD x y = some d) (ru : Rp hb u x) (rv : Rp hb v y) (k : Knt h₀ L m hb s d Q) : wpAny (model prog w) A (binaryOp .Add u v) Q E s := by
  cases x
  case int a =>
    cases y
    case int b =>
      obtain ⟨t, rfl⟩ := ru.int_inv
      obtain ⟨t', rfl⟩ := rv.int_inv
      cases (Option.some.inj e)
      exact add_int (k.now F (.int _ _))
    all_goals exact no_some e
  case str a =>
    cases y
    case str b =>
      obtain ⟨t, rfl⟩ := ru.str_inv
      obtain ⟨t', rfl⟩ := rv.str_inv
      obtain ⟨h, rfl⟩ := if_some e
      exact add_str (fun _ _ => k.now F (.str _ _)) (sz_le h)
    all_goals exact no_some e
  case list a =>
    cases y
    case list b =>
      obtain ⟨p, vs, n, rfl, e1, q1⟩ := ru.isList
      obtain ⟨p', ws, n', rfl, e2, q2⟩ := rv.isList
      obtain ⟨h, rfl⟩ := if_some e
      exact add_arrays F (maxN_news h₀ L s.heap) (isList_of (hk _ _ e1)) (isList_of (hk _ _ e2)) (fun h' F' N' => k.fresh (vs := vs ++ ws) F F' N' (q1.append q2) _) (by rw [q1.size, q2.size]; exact sz_le h)
    all_goals exact no_some e
  case bytes a =>
    cases y
    case bytes b =>
      obtain ⟨t, rfl⟩ := ru.bytes_inv
      obtain ⟨t', rfl⟩ := rv.bytes_inv
      obtain ⟨h, rfl⟩ := if_some e
      exact KBy.add_bytes (sz_le' h) fun _ _ => k.now F (.bytes _ _)
    all_goals exact no_some e
  all_goals exact no_some e

theorem mul_ok (F : Fr h₀ L s.heap m) (e : mulD x y = some d) (ru : Rp hb u x) (rv : Rp hb v y) (k : Knt h₀ L m hb s d Q) : wpAny (model prog w) A (binaryOp .Mult u v) Q E s := by
  cases x
  case int a =>
    cases y
    case int b =>
      obtain ⟨t, rfl⟩ := ru.int_inv
      obtain ⟨t', rfl⟩ := rv.int_inv
      obtain ⟨h, rfl⟩ := if_some e
      exact mul_int (k.now F (.int _ _)) (.of_left (intBits_small (and_l h)))
    all_goals exact no_some e
  case str a =>
    cases y
    case int b =>
      obtain ⟨t, rfl⟩ := ru.str_inv
      obtain ⟨t', rfl⟩ := rv.int_inv
      obtain ⟨h, rfl⟩ := if_some e
      have h1 := of_decide_eq_true (and_r h)
      have h2 := of_decide_eq_true (and_r (and_l h))
      exact SB.mul (mulOk_of 8 1000 (of_decide_eq_true (and_r (and_l (and_l h)))) (by omega) (by omega) (by decide) (by decide)) fun _ _ => k.now F (.str _ _)
    all_goals exact no_some e
  all_goals exact no_some e

theorem bin_ok {op : Operator} (F : Fr h₀ L s.heap m) (hk : hb.StaysIn s.heap) (e : binD op x y = some d) (ru : Rp hb u x) (rv : Rp hb v y) (k : Knt h₀ L m hb s d Q) : wpAny (model prog w) A (binaryOp op u v) Q E s := by
  cases op
  case Add => exact add_ok F hk e ru rv k
  case Mult => exact mul_ok F e ru rv k
  case Sub => exact intD_inv (P := fun u v => wpAny (model prog w) A (binaryOp .Sub u v) Q E s) e ru rv fun a b t t' e => by cases Option.some.inj e; exact sub_int (k.now F (.int _ _))
  case FloorDiv =>
    exact intD_inv (P := fun u v => wpAny (model prog w) A (binaryOp .FloorDiv u v) Q E s) e ru rv fun a b t t' e => by
      obtain ⟨h, rfl⟩ := if_some e
      exact floordiv_int (Int.ne_of_gt (of_decide_eq_true (and_r h))) (k.now F (.int _ _)) (.inl (noPylong (and_r (and_l h))))
  case Mod =>
    exact intD_inv (P := fun u v => wpAny (model prog w) A (binaryOp .Mod u v) Q E s) e ru rv fun a b t t' e => by
      obtain ⟨h, rfl⟩ := if_some e
      exact mod_int' (Int.ne_of_gt (of_decide_eq_true h)) (k.now F (.int _ _))
  case BitAnd => exact intD_inv (P := fun u v => wpAny (model prog w) A (binaryOp .BitAnd u v) Q E s) e ru rv fun a b t t' e => by cases Option.some.inj e; exact and_int (k.now F (.int _ _))
  case BitOr => exact intD_inv (P := fun u v => wpAny (model prog w) A (binaryOp .BitOr u v) Q E s) e ru rv fun a b t t' e => by cases Option.some.inj e; exact or_int (k.now F (.int _ _))
  case LShift =>
    exact intD_inv (P := fun u v => wpAny (model prog w) A (binaryOp .LShift u v) Q E s) e ru rv fun a b t t' e => by
      obtain ⟨h, rfl⟩ := if_some e
      exact lshift_int_small (of_decide_eq_true (and_r (and_l h))) (by have := of_decide_eq_true (and_r h); omega) (by have := small_lt (and_l (and_l h)); omega) (k.now F (.int _ _))
  case RShift =>
    exact intD_inv (P := fun u v => wpAny (model prog w) A (binaryOp .RShift u v) Q E s) e ru rv fun a b t t' e => by
      obtain ⟨h, rfl⟩ := if_some e
      exact rshift_int (of_decide_eq_true h) (k.now F (.int _ _))
  all_goals exact no_some e

theorem rp_reads : ∀ (n : Nat) {v : Value} {d : Dat}, Rp hb v d → kqdOk n d = true → ∃ as, PySem.Reads hb v (kqdP d) as := by
  have all : ∀ (n : Nat), (∀ {v : Value} {d : Dat}, Rp hb v d → kqdOk n d = true → ∃ as, PySem.Reads hb v (kqdP d) as) → ∀ (ds : List Dat) (vs : List Value), RpL hb vs ds → (ds.all (kqdOk n)) = true → ∃ as, PySem.ReadsAll hb vs (kqdPs ds) as := by
    intro n ih ds
    induction ds with
    | nil => intro vs r _; cases r; exact ⟨_, .nil⟩
    | cons d ds ihd =>
      intro vs r hq
      cases r with
      | cons a r =>
        obtain ⟨as, ha⟩ := ih a (and_l hq)
        obtain ⟨bs, hb⟩ := ihd _ r (and_r hq)
        exact ⟨_, .cons ha hb⟩
  intro n
  induction n with
  | zero =>
    intro v d r q
    cases r with
    | none => exact ⟨_, .none⟩
    | int => exact ⟨_, .int _ _⟩
    | str => exact ⟨_, .str _ _⟩
    | _ => exact nomatch (show false = true from q)
  | succ n ih =>
    intro v d r q
    cases r with
    | none => exact ⟨_, .none⟩
    | int i t => exact ⟨_, .int _ _⟩
    | str x t => exact ⟨_, .str _ _⟩
    | tuple e c dd r =>
      obtain ⟨as, z⟩ := all n ih _ _ r q
      exact ⟨_, reads_tuple_at e c dd (by simpa using z)⟩
    | list e r =>
      obtain ⟨as, z⟩ := all n ih _ _ r q
      exact ⟨_, reads_list_at e rfl rfl (by simpa using z)⟩
    | _ => exact nomatch (show false = true from q)

theorem shaped_of {d : Dat} (h : kqdOk 8 d = true) : SeqAt.shaped (kqdP d) = true := by
  have l := kqd_lay 8 d h
  unfold SeqAt.shaped
  rw [l.1, Bool.true_and]
  exact decide_eq_true (Nat.le_trans l.2 (by decide))
theorem kqd_layL' {ds : List Dat} (h : ds.all (kqdOk 7) = true) : PyData.canLayAll0 (kqdPs ds) = true ∧ PyData.depthAll (kqdPs ds) ≤ 8 := by
  have l := kqd_lay 8 (.list ds) h
  rw [kqdP] at l
  simp only [PyData.canLay0, PyData.depth] at l
  have l2 := l.2
  exact ⟨l.1, by omega⟩

/-- comparison by the data's own -/
theorem data_cmp {b : Bool} (hk : hb.StaysIn s.heap) (hu : A.units + 100 < cLine) (ru : Rp hb u x) (rv : Rp hb v y) (h : (kqdOk 8 x && kqdOk 8 y) = true) :
    (PyData.eqv (kqdP x) (kqdP y) = b → Q (.bool b) s → wpAny (model prog w) A (compareOp .Eq u v) Q E s) ∧ ((!PyData.eqv (kqdP x) (kqdP y)) = b → Q (.bool b) s → wpAny (model prog w) A (compareOp .NotEq u v) Q E s) := by
  obtain ⟨as, ra⟩ := rp_reads 8 (ru.mono hk) (and_l h)
  obtain ⟨bs, rb⟩ := rp_reads 8 (rv.mono hk) (and_r h)
  exact ⟨fun e k => eq_dataH ra rb (shaped_of (and_l h)) (shaped_of (and_r h)) (by omega) (e ▸ k), fun e k => ne_dataH ra rb (shaped_of (and_l h)) (shaped_of (and_r h)) (by omega) (e ▸ k)⟩
theorem eqD_cases {b : Bool} (e : eqD x y = some b) : (∃ i j, x = .int i ∧ y = .int j ∧ (i == j) = b) ∨ eqG x y = some b := by
  cases x
  case int i =>
    cases y
    case int j => exact .inl ⟨i, j, rfl, rfl, Option.some.inj e⟩
    all_goals exact .inr e
  all_goals exact .inr e
theorem neD_cases {b : Bool} (e : neD x y = some b) : (∃ i j, x = .int i ∧ y = .int j ∧ (i != j) = b) ∨ neG x y = some b := by
  cases x
  case int i =>
    cases y
    case int j => exact .inl ⟨i, j, rfl, rfl, Option.some.inj e⟩
    all_goals exact .inr e
  all_goals exact .inr e
theorem relD_inv {f : Int → Int → Bool} {b : Bool} (e : relD f x y = some b) (ru : Rp hb u x) (rv : Rp hb v y) {P : Value → Value → Bool → Prop} (k : ∀ i j t t', P (.int i t) (.int j t') (f i j)) : P u v b := by
  cases x
  case int i =>
    cases y
    case int j =>
      obtain ⟨t, rfl⟩ := ru.int_inv
      obtain ⟨t', rfl⟩ := rv.int_inv
      cases Option.some.inj e
      exact k i j t t'
    all_goals exact no_some e
  all_goals exact no_some e
theorem is_none_ok {v : Value} {d : Dat} (r : Rp hb v d) : plainIs v .none = true ∧ ((v = .none ∧ isNone d = true) ∨ (v ≠ .none ∧ isNone d = false)) := by
  cases r <;> first | exact ⟨rfl, .inl ⟨rfl, rfl⟩⟩ | exact ⟨rfl, .inr ⟨Value.noConfusion, rfl⟩⟩
theorem isD_inv {f : Bool → Bool} {b : Bool} (e : isD f x y = some b) (rv : Rp hb v y) : v = .none ∧ f (isNone x) = b := by
  cases y
  case none => cases rv; exact ⟨rfl, Option.some.inj e⟩
  all_goals exact no_some e
theorem inD_ok {f : Bool → Bool} {b : Bool} (hk : hb.StaysIn s.heap) (hu : A.units + 100 < cLine) (e : inD f x y = some b) (ru : Rp hb u x) (rv : Rp hb v y)
    {P : Bool → Prop} (k : ∀ {ds : List Dat} {as bs}, PySem.Reads s.heap v (.tuple (kqdPs ds)) bs → PySem.Reads s.heap u (kqdP x) as → PyData.canLayAll0 (kqdPs ds) = true → (kqdP x).canLay0 = true → A.units + 8 + 10 < cLine → min (PyData.depthAll (kqdPs ds)) (kqdP x).depth ≤ 8 → P (f ((kqdPs ds).any fun y => PyData.eqv y (kqdP x)))) : P b := by
  cases y
  case tuple ds =>
    obtain ⟨h, rfl⟩ := if_some e
    obtain ⟨as, ra⟩ := rp_reads 8 (ru.mono hk) (and_l h)
    obtain ⟨bs, rb⟩ := rp_reads 8 (rv.mono hk) (and_r h)
    rw [kqdP] at rb
    exact k rb ra (kqd_layL' (and_r h)).1 (kqd_lay 8 x (and_l h)).1 (by omega) (Nat.le_trans (Nat.min_le_left _ _) (kqd_layL' (and_r h)).2)
  all_goals exact no_some e

theorem cmp_ok {op : CmpOp} {b : Bool} (hk : hb.StaysIn s.heap) (hu : A.units + 100 < cLine) (e : cmpD op x y = some b) (ru : Rp hb u x) (rv : Rp hb v y) (k : Q (.bool b) s) :
    wpAny (model prog w) A (compareOp op u v) Q E s := by
  cases op
  case Lt => exact relD_inv (P := fun u v b => Q (.bool b) s → wpAny (model prog w) A (compareOp .Lt u v) Q E s) e ru rv (fun _ _ _ _ k => lt_int k) k
  case LtE => exact relD_inv (P := fun u v b => Q (.bool b) s → wpAny (model prog w) A (compareOp .LtE u v) Q E s) e ru rv (fun _ _ _ _ k => le_int k) k
  case Gt => exact relD_inv (P := fun u v b => Q (.bool b) s → wpAny (model prog w) A (compareOp .Gt u v) Q E s) e ru rv (fun _ _ _ _ k => gt_int k) k
  case GtE => exact relD_inv (P := fun u v b => Q (.bool b) s → wpAny (model prog w) A (compareOp .GtE u v) Q E s) e ru rv (fun _ _ _ _ k => ge_int k) k
  case Eq =>
    rcases eqD_cases e with ⟨i, j, rfl, rfl, rfl⟩ | e
    · obtain ⟨t, rfl⟩ := ru.int_inv
      obtain ⟨t', rfl⟩ := rv.int_inv
      exact eq_int k
    · exact (data_cmp hk hu ru rv (if_some e).1).1 (if_some e).2 k
  case NotEq =>
    rcases neD_cases e with ⟨i, j, rfl, rfl, rfl⟩ | e
    · obtain ⟨t, rfl⟩ := ru.int_inv
      obtain ⟨t', rfl⟩ := rv.int_inv
      exact ne_int k
    · exact (data_cmp hk hu ru rv (if_some e).1).2 (if_some e).2 k
  case Is =>
    obtain ⟨rfl, rfl⟩ := isD_inv (f := fun b => b) e rv
    obtain ⟨p1, ⟨rfl, p2⟩ | ⟨p3, p2⟩⟩ := is_none_ok ru
    · rw [p2] at k; exact wpAny_is_self p1 k
    · rw [p2] at k; exact wpAny_is_other p1 p3 k
  case IsNot =>
    obtain ⟨rfl, rfl⟩ := isD_inv (f := fun b => !b) e rv
    obtain ⟨p1, ⟨rfl, p2⟩ | ⟨p3, p2⟩⟩ := is_none_ok ru
    · rw [p2] at k; exact wpAny_isNot_self p1 k
    · rw [p2] at k; exact wpAny_isNot_other p1 p3 k
  case In => exact inD_ok (f := fun b => b) (P := fun b => Q (.bool b) s → wpAny (model prog w) A (compareOp .In u v) Q E s) hk hu e ru rv (fun rb ra l1 l2 hu hd k => SeqAt.in_tuple_reads rb ra l1 l2 (by omega) k) k
  case NotIn => exact inD_ok (f := fun b => !b) (P := fun b => Q (.bool b) s → wpAny (model prog w) A (compareOp .NotIn u v) Q E s) hk hu e ru rv (fun rb ra l1 l2 hu hd k => SeqAt.notIn_tuple_reads rb ra l1 l2 (by omega) k) k
end
end Mine

namespace Mine
open PySem PySem.W PySem.Calls PyProof.Rows

noncomputable def bltV : Blt → Value
  | .len => .builtin "len"
  | .ord => .builtin "ord"
  | .chr => .builtin "chr"
  | .int => .type "int"
  | .str => .type "str"
  | .bytes => .type "bytes"
  | .list => .type "list"
  | .tuple => .type "tuple"
theorem str_one {x : Str} {c : Nat} (h : x.cps.toList = [c]) : x = ⟨#[c]⟩ := by
  obtain ⟨y⟩ := x
  exact congrArg Str.mk (Array.toList_inj.mp h)
theorem rpL_strs {h : Heap} : ∀ {ds : List Dat} {vs : List Value} {xs : List Str}, RpL h vs ds → strs? ds = some xs → StrsAre vs xs
  | [], _, _, r, e => by cases r; cases e; exact .nil
  | d :: ds, _, _, r, e => by
    cases r with
    | cons a r =>
      cases d
      case str x =>
        obtain ⟨ys, h1, rfl⟩ := Option.map_eq_some_iff.mp e
        obtain ⟨t, rfl⟩ := a.str_inv
        exact .cons _ _ (rpL_strs r h1)
      all_goals exact no_some e
theorem strs_rpL {h : Heap} : ∀ (l : List (Str × Tok)), RpL h (strValues l) ((l.map (·.1)).map Dat.str)
  | [] => .nil
  | (x, t) :: r => .cons (.str x t) (strs_rpL r)
structure OctIs (vs : List Value) (bs : List UInt8) (n : Nat) (ns : List Int) : Prop where
  is : IntsAre vs ns
  rg : ∀ n ∈ ns, 0 ≤ n ∧ n < 256
  eq : ns.map (fun n => n.toNat.toUInt8) = bs
  len : ns.length = n
theorem octets_ints {h : Heap} : ∀ {ds : List Dat} {vs : List Value} {bs : List UInt8}, RpL h vs ds → octets? ds = some bs → ∃ ns, OctIs vs bs ds.length ns
  | [], _, _, r, e => by cases r; cases e; exact ⟨[], .nil, fun _ h => (nomatch h), rfl, rfl⟩
  | d :: ds, _, _, r, e => by
    cases r with
    | cons a r =>
      unfold octets? at e
      cases h1 : octet? d with
      | none => rw [h1] at e; exact no_some e
      | some x =>
        cases h2 : octets? ds with
        | none => rw [h1, h2] at e; exact no_some e
        | some xs =>
          rw [h1, h2] at e
          cases Option.some.inj e
          obtain ⟨ns, O⟩ := octets_ints r h2
          cases d
          case int i =>
            obtain ⟨hi, rfl⟩ := if_some h1
            obtain ⟨t, rfl⟩ := a.int_inv
            exact ⟨i :: ns, .cons _ _ O.is, fun n hn => (List.mem_cons.mp hn).elim (fun q => q ▸ hi) (O.rg n), congrArg (List.cons _) O.eq, congrArg Nat.succ O.len⟩
          all_goals exact no_some h1
theorem small_toString (i : Int) (h0 : 0 ≤ i) (h1 : i < 10) : Str.ofString (toString i) = ⟨#[48 + i.toNat]⟩ := by
  obtain ⟨n, rfl⟩ := Int.eq_ofNat_of_zero_le h0
  have : ∀ n : Nat, n < 10 → Str.ofString (toString (n : Int)) = ⟨#[48 + (n : Int).toNat]⟩ := by decide
  exact this n (by omega)

section
variable {prog : Program} {w : World} {A : Around} {E : Value → Shared → Prop} {s : Shared} {h₀ hb : Heap} {L : Addr} {m : Str → Option Value} {d x y : Dat} {u v : Value} {Q : Value → Shared → Prop}

theorem len_inv {d : Dat} (o : Option Nat) (h : Option.map (fun n : Int => Dat.int n) (do let a ← o; pure (a : Int)) = some d) : ∃ n : Nat, o = some n ∧ Dat.int n = d := by
  cases o with
  | none => exact no_some h
  | some n => exact ⟨n, rfl, Option.some.inj h⟩
theorem lenv_ok (F : Fr h₀ L s.heap m) (hk : hb.StaysIn s.heap) (e : bltD .len x = some d) (ru : Rp hb u x) (k : Knt h₀ L m hb s d Q) : wpAny (model prog w) A (call (.builtin "len") [u]) Q E s := by
  obtain ⟨n, e0, rfl⟩ := len_inv _ e
  clear e
  cases x
  case list ds =>
    obtain ⟨hz, rfl⟩ := if_some e0
    obtain ⟨a, vs, n, rfl, e1, q⟩ := ru.isList
    exact call_len_list (isList_of (hk _ _ e1)) (by rw [q.size]; have := sz_le' hz; omega) (by rw [q.size]; exact k.now F (.int _ _))
  case tuple ds =>
    obtain ⟨hz, rfl⟩ := if_some e0
    obtain ⟨a, o, vs, n, rfl, e1, c, dd, q⟩ := ru.isTup
    exact len_tuple (isTup_of (hk _ _ e1) c dd) (by rw [q.size]; have := sz_le' hz; omega) (by rw [q.size]; exact k.now F (.int _ _))
  case bytes b =>
    obtain ⟨hz, rfl⟩ := if_some e0
    obtain ⟨t, rfl⟩ := ru.bytes_inv
    exact len_bytes (by have := sz_le' hz; omega) (k.now F (.int _ _))
  all_goals exact no_some e0
theorem ord_ok (F : Fr h₀ L s.heap m) (e : ordD x = some d) (ru : Rp hb u x) (k : Knt h₀ L m hb s d Q) : wpAny (model prog w) A (call (.builtin "ord") [u]) Q E s := by
  cases x
  case str z =>
    obtain ⟨t, rfl⟩ := ru.str_inv
    unfold ordD at e
    match hc : z.cps.toList with
    | [] => simp only [hc] at e; exact no_some e
    | [c] =>
      simp only [hc] at e
      cases Option.some.inj e
      rw [str_one hc]
      exact P.ord_of_char (k.now F (.int _ _))
    | _ :: _ :: _ => simp only [hc] at e; exact no_some e
  all_goals exact no_some e
theorem int_ok (F : Fr h₀ L s.heap m) (e : toInt x = some d) (ru : Rp hb u x) (k : Knt h₀ L m hb s d Q) : wpAny (model prog w) A (call (.type "int") [u]) Q E s := by
  cases x
  case int => obtain ⟨t, rfl⟩ := ru.int_inv; cases Option.some.inj e; exact call_int_int (k.now F (.int _ _))
  case bool => cases ru.bool_inv; cases Option.some.inj e; exact call_int_bool (k.now F (.int _ _))
  all_goals exact no_some e
theorem tup_ok (F : Fr h₀ L s.heap m) (hk : hb.StaysIn s.heap) (e : toTup x = some d) (ru : Rp hb u x) (k : Knt h₀ L m hb s d Q) : wpAny (model prog w) A (call (.type "tuple") [u]) Q E s := by
  cases x
  case list ds =>
    obtain ⟨hz, rfl⟩ := if_some e
    obtain ⟨a, vs, n, rfl, e1, q⟩ := ru.isList
    exact call_tuple_list (isList_of (hk _ _ e1)) (fun h' kk => k _ _ _ ((F.keeps kk).push _) (fun b o _ q => Heap.get?_push_of_some _ (kk b o q)) (.tuple (none_of kk (none_size _)) (Heap.get?_push_size _ rfl) rfl rfl q)) (by rw [q.size]; exact sz_le hz)
  case tuple ds =>
    cases Option.some.inj e
    obtain ⟨a, o, vs, n, rfl, e1, c, dd, q⟩ := ru.isTup
    exact call_tuple_tup (isTup_of (hk _ _ e1) c dd) (k.now F ru)
  all_goals exact no_some e
theorem blt_ok {b : Blt} (hA : A.handled = none) (F : Fr h₀ L s.heap m) (hk : hb.StaysIn s.heap) (e : bltD b x = some d) (ru : Rp hb u x) (k : Knt h₀ L m hb s d Q) : wpAny (model prog w) A (call (bltV b) [u]) Q E s := by
  cases b
  case len => exact lenv_ok F hk e ru k
  case ord => exact ord_ok F e ru k
  case int => exact int_ok F e ru k
  case tuple => exact tup_ok F hk e ru k
  case chr =>
    cases x
    case int =>
      obtain ⟨h, rfl⟩ := if_some e
      obtain ⟨t, rfl⟩ := ru.int_inv
      exact chr_of_range h.1 (by have := h.2; omega) (k.now F (.str _ _))
    all_goals exact no_some e
  case str =>
    cases x
    case int =>
      obtain ⟨h, rfl⟩ := if_some e
      obtain ⟨t, rfl⟩ := ru.int_inv
      refine str_of_int_fit (N := 10) (by have := h.1; have := h.2; split <;> omega) (by decide) fun _ => ?_
      rw [small_toString _ h.1 h.2]
      exact k.now F (.str _ _)
    all_goals exact no_some e
  case bytes =>
    cases x
    case list ds =>
      have e : (if sz ds.length = true then (octets? ds).map fun l => Dat.bytes l.toArray else none) = some d := e
      by_cases h : sz ds.length = true
      case neg => rw [if_neg h] at e; exact no_some e
      rw [if_pos h] at e
      obtain ⟨l, e1, rfl⟩ := Option.map_eq_some_iff.mp e
      obtain ⟨a, vs, n, rfl, e2, q⟩ := ru.isList
      obtain ⟨ns, O⟩ := octets_ints q e1
      refine bytes_K F (maxN_news h₀ L s.heap) (isList_of (hk _ _ e2)) O.is O.rg (by rw [O.is.length, O.len]; exact sz_le h) hA fun h' t k' F' N' _ => ?_
      rw [O.eq]
      exact k _ _ _ F' (kp_of F F' N') (.of (.bytes _ _))
    all_goals exact no_some e
  case list =>
    cases x
    case list =>
      obtain ⟨hz, rfl⟩ := if_some e
      obtain ⟨a, vs, n, rfl, e1, q⟩ := ru.isList
      exact call_list_seq (hsz := by rw [q.size]; exact sz_le hz) a (.inl rfl) (hk _ _ e1) rfl rfl fun h' c' kk e' => k _ _ _ (F.keeps kk) (fun b o _ q => kk b o q) (.list (none_size _) e' q)
    all_goals exact no_some e

theorem nth_spec {ds : List Dat} {i : Int} (e : nth ds i = some d) : ∃ j, seqIndex? i ds.length = some j ∧ ds[j]? = some d ∧ -(2 ^ 63) ≤ i ∧ i < 2 ^ 63 ∧ ((0 ≤ i ∧ j = i.toNat) ∨ i < 0) := by
  unfold nth at e
  by_cases h0 : 0 ≤ i
  · rw [if_pos h0] at e
    by_cases h1 : i < 2 ^ 60
    case neg => rw [if_neg h1] at e; exact no_some e
    rw [if_pos h1] at e
    have hlt : i.toNat < ds.length := (List.getElem?_eq_some_iff.mp e).1
    refine ⟨i.toNat, ?_, e, by omega, by omega, .inl ⟨h0, rfl⟩⟩
    unfold seqIndex?
    rw [if_neg (Int.not_lt.mpr h0), if_pos]
    rw [Bool.and_eq_true, decide_eq_true_eq, decide_eq_true_eq]
    exact ⟨h0, by omega⟩
  · rw [if_neg h0] at e
    by_cases h1 : i = -1
    case neg => rw [if_neg h1] at e; exact no_some e
    subst h1
    rw [if_pos rfl, List.getLast?_eq_getElem?] at e
    have hlt : ds.length - 1 < ds.length := (List.getElem?_eq_some_iff.mp e).1
    refine ⟨ds.length - 1, ?_, e, by decide, by decide, .inr (by decide)⟩
    unfold seqIndex?
    have h1 : ((-1 : Int) < 0) := by decide
    rw [if_pos h1, if_pos]
    · congr 1; omega
    · rw [Bool.and_eq_true, decide_eq_true_eq, decide_eq_true_eq]; omega

/-- an item of a list that stands -/
theorem idx_list {value slice : Expr} {a : Addr} {vs : List Value} {n : Nat} {ds : List Dat} (la : s.heap.get? a = some (listOf vs.toArray n)) (qa : RpL hb vs ds) (e : idxD (.list ds) y = some d) (rv : Rp hb v y) (hs : subscripted slice false (.ref a) v = operate [.ref a, v] (getItem (.ref a) v))
    (k : ∀ r tk, Rp hb r d → Q r { s with toks := tk }) : wpAny (model prog w) A (subscriptTail value slice (.ref a) v) Q E s := by
  cases y
  case int i =>
    obtain ⟨j, e1, e2, lo, hi, hj⟩ := nth_spec e
    obtain ⟨t, rfl⟩ := rv.int_inv
    obtain ⟨r, e3, e4⟩ := qa.get e2
    rcases hj with ⟨h0, rfl⟩ | h0
    · exact tail_any (isList_of la).typeIs slot_list_getitem.lookup (wpAny_getItem_list (isList_of la) h0 hi (by simpa using e3) (k _ _ e4)) hs
    · exact kde_neg (isList_of la) h0 lo (by rw [qa.length]; exact e1) e3 (k _ _ e4) hs
  all_goals exact no_some e
theorem idx_ok {value slice : Expr} (F : Fr h₀ L s.heap m) (hk : hb.StaysIn s.heap) (e : idxD x y = some d) (ru : Rp hb u x) (rv : Rp hb v y) (hs : subscripted slice false u v = operate [u, v] (getItem u v)) (k : Knt h₀ L m hb s d Q) : wpAny (model prog w) A (subscriptTail value slice u v) Q E s := by
  cases y
  case int i =>
    cases x
    case list ds =>
      obtain ⟨a, vs, n, rfl, e1, q⟩ := ru.isList
      exact idx_list (hk _ _ e1) q e rv hs fun r tk x => k.now F x
    case tuple ds =>
      obtain ⟨j, e1, e2, lo, hi, _⟩ := nth_spec e
      obtain ⟨a, o, vs, n, rfl, e0, c, dd, q⟩ := ru.isTup
      obtain ⟨t, rfl⟩ := rv.int_inv
      obtain ⟨r, e3, e4⟩ := q.get e2
      exact item_tupleT (isTup_of (hk _ _ e0) c dd) lo hi (by rw [q.length]; exact e1) e3 (k.now F e4) hs
    case bytes b =>
      obtain ⟨h, rfl⟩ := if_some e
      obtain ⟨t, rfl⟩ := ru.bytes_inv
      obtain ⟨t', rfl⟩ := rv.int_inv
      obtain ⟨b⟩ := b
      exact tail_any (typeIs_bytes _ _ _) FB.slot_bytes_getitem.lookup (getItem_bytes (by have : b.length ≤ 16777216 := sz_le' h.2.2; omega) h.1 (by have : i < (b.length : Int) := h.2.1; omega) (k.now F (.int _ _))) hs
    all_goals exact no_some e
  all_goals exact no_some e

theorem adjust_but (n : Nat) : Builtin.Slice.sliceAdjust none (some (-1)) 1 ((n + 1 : Nat) : Int) = (0, (n : Int)) := by
  unfold Builtin.Slice.sliceAdjust
  have h1 : ¬ ((1 : Int) < 0) := by omega
  have h2 : ((-1 : Int) < 0) := by omega
  simp only [h1, h2, if_false, if_true]
  congr 1
  omega
theorem places_but (n : Nat) : Builtin.Slice.slicePlaces 0 (n : Int) 1 = n := by
  unfold Builtin.Slice.slicePlaces
  have h1 : (1 : Int) > 0 := by omega
  simp only [h1, if_true, Int.ediv_one]
  split <;> omega
theorem pick_but (xs : Array Value) (n : Nat) (hn : n + 1 = xs.size) : ((List.range n).filterMap fun (k : Nat) => xs[((0 : Int) + (k : Int) * 1).toNat]?).toArray = (xs.toList.dropLast).toArray := by
  have e : (fun (k : Nat) => xs[((0 : Int) + (k : Int) * 1).toNat]?) = fun k => xs[0 + k]? := by
    funext k
    have : ((0 : Int) + (k : Int) * 1).toNat = 0 + k := by omega
    rw [this]
  rw [e]
  have := pick_run xs 0 n
  rw [List.filterMap_map] at this
  have e2 : ((fun x => xs[x]?) ∘ fun x => 0 + x) = fun k => xs[0 + k]? := rfl
  rw [e2] at this
  rw [this, List.drop_zero, List.dropLast_eq_take]
  congr 2
  simp
  omega
theorem getItem_tuple_but {t sl : Addr} {items : Array Value} {u : Tok} {n : Nat} {Q : Value → Shared → Prop} (ht : IsTup s.heap t items) (hs : s.heap.IsSliceOf sl .none (.int (-1) u) .none) (hn : n + 1 = items.size)
    (h : Q (.ref s.heap.objs.size) { s with heap := s.heap.push { cls := .type "tuple", data := .seq (items.toList.dropLast).toArray } })
    (hsz : items.size ≤ sizeLine) : wpAny (model prog w) A (getItem (.ref t) (.ref sl)) Q E s := by
  have hdrop : sizeOk (.seq (items.toList.dropLast).toArray) := by
    show (items.toList.dropLast).toArray.size ≤ sizeLine
    rw [List.size_toArray, List.length_dropLast, Array.length_toList]
    omega
  obtain ⟨os, hos, hcs, hds⟩ := id hs
  have hTs : s.TypeIs (.ref sl) "slice" := ⟨os, hos, hcs⟩
  unfold getItem
  with_reducible refine wpAny_holding ?_
  refine wpAny_bind (wpAny_sequenceKey ht.typeIs (by decide) ?_)
  refine wpAny_bind (wpAny_callSpecial?_slot (name := Str.ofString "__getitem__") ht.typeIs slot_tuple_getitem
    (wpAny_call_entry slot_tuple_getitem ht.typeIs entry_tuple_getitem ?_ (args_tuple_getitem _ _)))
  show wpAny _ _ (Builtin.Tuple.tupleItemsOf (.ref t) >>= _) _ _ s
  refine wpAny_bind (tupleItemsOf_ ht ?_)
  refine wpAny_bind (wpAny_typeOf hTs ?_)
  rw [if_pos (by decide)]
  refine wpAny_bind (m := Builtin.Slice.sliceApplied _ _) ?_
  unfold Builtin.Slice.sliceApplied Builtin.Slice.sliceFields
  refine wpAny_bind (wpAny_bind (wpAny_field hos hds (x := .none) rfl (wpAny_bind (wpAny_field hos hds (x := .int (-1) u) rfl (wpAny_bind (wpAny_field hos hds (x := .none) rfl (wpAny_pure ?_)))))))
  refine wpAny_bind (slicePart_none ?_)
  show wpAny _ _ (if ((1 : Int) == 0) = true then _ else _) _ _ s
  rw [if_neg (by decide)]
  refine wpAny_bind (slicePart_none (wpAny_bind (slicePart_int (wpAny_bind (wpAny_pure ?_)))))
  show wpAny _ _ (match Builtin.Slice.sliceAdjust none (some (-1)) 1 (items.size : Int) with | (lo, hi) => pure (lo, (1 : Int), Builtin.Slice.slicePlaces lo hi 1)) _ _ s
  rw [← hn, adjust_but n]
  show wpAny _ _ (pure ((0 : Int), (1 : Int), Builtin.Slice.slicePlaces 0 (n : Int) 1)) _ _ s
  rw [places_but n]
  refine wpAny_pure ?_
  have hno : ¬ (((0 : Int) == 0 && (1 : Int) == 1 && n == n + 1) = true) := by
    have : (n == n + 1) = false := by rw [beq_eq_false_iff_ne]; omega
    rw [this]; simp
  show wpAny _ _ (if ((0 : Int) == 0 && (1 : Int) == 1 && n == n + 1) = true then _ else _) _ _ s
  rw [if_neg hno, pick_but items n hn]
  first
    | exact wpAny_bind (m := Builtin.Tuple.tupleExact _) (wpAny_newObj_type (wpAny_pure ⟨_, rfl, wpAny_pure h⟩) hdrop)
    | exact wpAny_bind (m := Builtin.Tuple.tupleExact _) (wpAny_newObj_type (wpAny_bind (wpAny_pure (wpAny_pure ⟨_, rfl, wpAny_pure h⟩))) hdrop)
    | exact wpAny_bind (wpAny_bind (m := Builtin.Tuple.tupleExact _) (wpAny_newObj_type (wpAny_pure (wpAny_pure ⟨_, rfl, wpAny_pure h⟩)) hdrop))
    | exact wpAny_bind (wpAny_bind (m := Builtin.Tuple.tupleExact _) (wpAny_newObj_type (wpAny_pure ⟨_, rfl, wpAny_pure h⟩) hdrop))

theorem RpL.pick {vs : List Value} {ds : List Dat} {h : Heap} (r : RpL h vs ds) (lo hi : Option Int) : RpL h (kms_pick vs lo hi) (pickD ds lo hi) := by
  unfold kms_pick pickD
  rw [r.length]
  exact (r.drop _).take _
theorem Knt.push {ds : List Dat} {vs : List Value} (k : Knt h₀ L m hb s (.list ds) Q) (F : Fr h₀ L s.heap m) (r : RpL hb vs ds) : Q (.ref s.heap.objs.size) { s with heap := s.heap.push (listOf vs.toArray 0) } :=
  k _ _ s.toks (F.push _) (fun b o _ q => Heap.get?_push_of_some _ q) (.list (none_size _) (Heap.get?_push_size _ rfl) r)
theorem slice_ok {value slice : Expr} {sl : Addr} {vl vu : Value} {lo hi : Option Int} (F : Fr h₀ L s.heap m) (hss : s.heap.IsSliceOf sl vl vu .none) (pl : IsPart vl lo) (pu : IsPart vu hi) (hk : hb.StaysIn s.heap)
    (e : slD x lo hi = some d) (ru : Rp hb u x) (hs : subscripted slice false u (.ref sl) = operate [.ref sl, u] (getItem u (.ref sl))) (k : Knt h₀ L m hb s d Q) : wpAny (model prog w) A (subscriptTail value slice u (.ref sl)) Q E s := by
  cases x
  case list ds =>
    obtain ⟨hz, rfl⟩ := if_some e
    obtain ⟨a, vs, n, rfl, e1, q⟩ := ru.isList
    refine tail_any (isList_of (hk _ _ e1)).typeIs slot_list_getitem.lookup (wpAny_getItem_list_slice (isList_of (hk _ _ e1)) hss pl pu .none (by decide) ?_ (by rw [q.size]; exact sz_le hz)) hs
    rw [kms_pick_eq]
    exact k.push F (q.pick lo hi)
  case tuple ds =>
    obtain ⟨hz, rfl⟩ := if_some e
    obtain ⟨a, o, vs, n, rfl, e1, c, dd, q⟩ := ru.isTup
    cases eq_of_beq (and_r (and_l (and_l hz)))
    cases eq_of_beq (and_r (and_l hz))
    have hl := q.length
    have hne : ds ≠ [] := fun z => by rw [z] at hz; exact nomatch (and_r hz)
    cases pl
    cases pu
    refine tail_any (isTup_of (hk _ _ e1) c dd).typeIs slot_tuple_getitem.lookup (getItem_tuple_but (n := vs.length - 1) (isTup_of (hk _ _ e1) c dd) hss (Nat.sub_add_cancel (by rw [hl]; exact List.length_pos_iff.mpr hne)) ?_ (by rw [q.size]; exact sz_le (and_l (and_l (and_l hz))))) hs
    refine k _ _ s.toks (F.push _) (fun b o _ q => Heap.get?_push_of_some _ q) (.tuple (none_size _) (Heap.get?_push_size _ rfl) rfl rfl ?_)
    rw [List.dropLast_eq_take, List.dropLast_eq_take, hl]
    exact q.take _
  all_goals exact no_some e
theorem rev_ok {value slice : Expr} {sl : Addr} {vk : Value} {ds : List Dat} (F : Fr h₀ L s.heap m) (hss : s.heap.IsSliceOf sl .none .none vk) (pk : IsPart vk (some (-1))) (hk : hb.StaysIn s.heap)
    (hz : sz ds.length = true) (ru : Rp hb u (.list ds)) {ops : List Value} (hs : subscripted slice false u (.ref sl) = operate ops (getItem u (.ref sl))) (k : Knt h₀ L m hb s (.list ds.reverse) Q) : wpAny (model prog w) A (subscriptTail value slice u (.ref sl)) Q E s := by
  obtain ⟨a, vs, n, rfl, e1, q⟩ := ru.isList
  refine tail_any (isList_of (hk _ _ e1)).typeIs slot_list_getitem.lookup (wpAny_getItem_list_slice (isList_of (hk _ _ e1)) hss .none .none pk (by decide) ?_ (by rw [q.size]; exact sz_le hz)) hs
  rw [krv_pick]
  exact k.push F q.reverse

noncomputable def strsOf (x : Dat) : Option (List Str) := match x with | .list ds => strs? ds | .tuple ds => strs? ds | _ => none
theorem join_ok {sep : Str} {t : Tok} (F : Fr h₀ L s.heap m) (hk : hb.StaysIn s.heap) (e : joinD sep x = some d) (ru : Rp hb u x) (k : Knt h₀ L m hb s d Q) : wpAny (model prog w) A (call (.builtin "str.join") [.str sep t, u]) Q E s := by
  have e : (match strsOf x with
    | some xs => if (decide (sep.length ≤ 64) && decide ((xs.map (·.length)).sum + xs.length * 64 ≤ 16777216)) = true then some (Dat.str (Txt.join sep xs)) else none
    | none => none) = some d := e
  cases hx : strsOf x with
  | none => rw [hx] at e; exact no_some e
  | some xs =>
    rw [hx] at e
    obtain ⟨h, rfl⟩ := if_some e
    cases x
    case list ds =>
      obtain ⟨a, vs, n, rfl, e1, q⟩ := ru.isList
      exact join_listC (isList_of (hk _ _ e1)) (rpL_strs q hx) (of_decide_eq_true (and_l h)) (of_decide_eq_true (and_r h)) fun _ _ => k.now F (.str _ _)
    case tuple ds =>
      obtain ⟨a, o, vs, n, rfl, e1, c, dd, q⟩ := ru.isTup
      exact join_tupleC (isTup_of (hk _ _ e1) c dd) (rpL_strs q hx) (of_decide_eq_true (and_l h)) (of_decide_eq_true (and_r h)) fun _ _ => k.now F (.str _ _)
    all_goals exact no_some hx
theorem split_ok {y sep : Str} {t t' : Tok} (F : Fr h₀ L s.heap m) (hz : (sz (y.length + 2) && !(sep.length == 0)) = true) (k : Knt h₀ L m hb s (.list ((Txt.split y sep).map .str)) Q) : wpAny (model prog w) A (call (.builtin "str.split") [.str y t, .str sep t']) Q E s :=
  splitN1 F (maxN_news h₀ L s.heap) ((Bool.not_eq_true' _).mp (and_r hz)) (fun l h' k' e F' N' => k.fresh (vs := strValues l) F F' N' (by rw [← e]; exact strs_rpL l) _) (sz_le (and_l hz))

/-- what a walk of values is -/
structure WalkOk (prog : Program) (w : World) (I : Addr) (h : Heap) (hb : Heap) (ds : List Dat) (fp : List Addr) (P : Nat → Value → Prop) (St : Nat → Heap → Prop) : Prop where
  walk : ∀ A : Around, A.handled = none → Walks prog w A I fp [I] ds.length P St
  st : St 0 h
  live : ∀ i h, St i h → ∃ o, h.get? I = some o ∧ ∃ vs, o.data = .fields vs
  fp : ∀ b ∈ fp, b = I ∨ ∃ o, hb.get? b = some o
  item : ∀ i v, i < ds.length → P i v → ∃ d, ds[i]? = some d ∧ Rp hb v d
/-- a walk begins -/
noncomputable def WKnt (prog : Program) (w : World) (hb : Heap) (s : Shared) (ds : List Dat) (Q : Value → Shared → Prop) : Prop := ∀ o fp P St, WalkOk prog w s.heap.objs.size (s.heap.push o) hb ds fp P St → Q (.ref s.heap.objs.size) { s with heap := s.heap.push o }

theorem iter_ok {v : Value} {d : Dat} {ds : List Dat} (r : Rp hb v d) (hk : hb.StaysIn s.heap) (hi : itemsD d = some ds) (h : WKnt prog w hb s ds Q) : wpAny (model prog w) A (pyIter v) Q E s := by
  have two : ∀ {a b : Addr} {o : Obj}, hb.get? a = some o → b ∈ [s.heap.objs.size, a] → b = s.heap.objs.size ∨ ∃ o, hb.get? b = some o := fun e hb' => (List.mem_cons.mp hb').imp id fun q => ⟨_, (List.mem_singleton.mp q) ▸ e⟩
  cases d
  case list es =>
    cases Option.some.inj hi
    obtain ⟨a, vs, n, rfl, e1, q⟩ := r.isList
    refine wpAny_pyIter_list (isList_of (hk _ _ e1)) (h _ [s.heap.objs.size, a] (fun i v => vs.toArray[i]? = some v) (fun i h => h.IsListIter s.heap.objs.size a i ∧ h.IsList a vs.toArray) ⟨fun A hh => ?_, ⟨⟨_, Heap.get?_push_size _ rfl, rfl, rfl⟩, isList_of (Heap.get?_push_of_some _ (hk _ _ e1))⟩, fun i h st => let ⟨⟨o, e, _, hd⟩, _⟩ := st; ⟨o, e, _, hd⟩, fun b hb' => two e1 hb', fun i v hi' hp => q.getv (by simpa using hp)⟩)
    rw [← q.size]; exact Walks.list hh _ a (some_ne (hk _ _ e1) (none_size _)) _
  case tuple es =>
    cases Option.some.inj hi
    obtain ⟨a, o, vs, n, rfl, e1, c, dd, q⟩ := r.isTup
    refine wpAny_pyIter_tuple (isTup_of (hk _ _ e1) c dd) (h _ [s.heap.objs.size, a] (fun i v => vs.toArray[i]? = some v) (fun i h => h.IsTupleIter s.heap.objs.size a i ∧ h.IsTuple a vs.toArray) ⟨fun A hh => ?_, ⟨⟨_, Heap.get?_push_size _ rfl, rfl, rfl⟩, isTup_of (Heap.get?_push_of_some _ (hk _ _ e1)) c dd⟩, fun i h st => let ⟨⟨o, e, _, hd⟩, _⟩ := st; ⟨o, e, _, hd⟩, fun b hb' => two e1 hb', fun i v hi' hp => q.getv (by simpa using hp)⟩)
    rw [← q.size]; exact Walks.tuple hh _ a (some_ne (hk _ _ e1) (none_size _)) _
  case bytes b =>
    cases Option.some.inj hi
    obtain ⟨t, rfl⟩ := r.bytes_inv
    refine KBw.pyIter_bytes (h _ [s.heap.objs.size] (fun i v => ∃ c u, b[i]? = some c ∧ v = .int (c.toNat : Int) u) (fun i h => KBw.IsBytesIter h s.heap.objs.size b t i) ⟨fun A hh => ?_, ⟨_, Heap.get?_push_size _ rfl, rfl, rfl⟩, fun i h st => let ⟨o, e, _, hd⟩ := st; ⟨o, e, _, hd⟩, fun b hb' => .inl (List.mem_singleton.mp hb'), fun i v hi' hp => ?_⟩)
    · rw [show (bytesInts b).length = b.size by simp [bytesInts]]; exact KBw.walks hh _ b t
    · obtain ⟨c, u, e, rfl⟩ := hp
      exact ⟨.int c.toNat, by simp [bytesInts, e], .int _ _⟩
  case str x =>
    cases Option.some.inj hi
    obtain ⟨t, rfl⟩ := r.str_inv
    have len : (strChars x).length = x.cps.size := by simp [strChars]
    have it : ∀ i v, SignAt x i v → ∃ d, (strChars x)[i]? = some d ∧ Rp hb v d := fun i v hp => by
      obtain ⟨c, u, e, rfl⟩ := hp
      exact ⟨.str ⟨#[c]⟩, by simp [strChars, e], .str _ _⟩
    cases ha : x.cps.all (· < 128)
    · exact wpAny_pyIter_wide ha (h _ [s.heap.objs.size] (SignAt x) (fun i h => h.IsStrIter s.heap.objs.size "str_iterator" x t i) ⟨fun A hh => by rw [len]; exact Walks.strWide hh _ x t, ⟨_, Heap.get?_push_size _ rfl, rfl, rfl⟩, fun i h st => let ⟨o, e, _, hd⟩ := st; ⟨o, e, _, hd⟩, fun b hb' => .inl (List.mem_singleton.mp hb'), fun i v _ hp => it i v hp⟩)
    · exact wpAny_pyIter_ascii ha (h _ [s.heap.objs.size] (SignAt x) (fun i h => h.IsStrIter s.heap.objs.size "str_ascii_iterator" x t i) ⟨fun A hh => by rw [len]; exact Walks.strAscii hh _ x t, ⟨_, Heap.get?_push_size _ rfl, rfl, rfl⟩, fun i h st => let ⟨o, e, _, hd⟩ := st; ⟨o, e, _, hd⟩, fun b hb' => .inl (List.mem_singleton.mp hb'), fun i v _ hp => it i v hp⟩)
  all_goals exact no_some hi

theorem range_ok {r : Addr} {a b : Int} {t u v : Tok} (hr : IsRange s.heap r a b 1 t u v) (ha : small a = true) (hb' : small b = true) (h : WKnt prog w hb s (rangeD a b) Q) : wpAny (model prog w) A (pyIter (.ref r)) Q E s := by
  have h1 := small_lt ha
  have h2 := small_lt hb'
  have hsz : Builtin.Range.rangeSize a b 1 = ((b - a).toNat : Int) := by rw [rangeSize_one]; split <;> omega
  have len : (rangeD a b).length = (b - a).toNat := by simp [rangeD]
  refine wpAny_pyIter_range hr (small_one (by omega) (by omega) (by omega) (by omega)) (h _ [s.heap.objs.size] (fun i v => ∃ t, v = .int (a + i * 1) t) (fun i h => IsRangeIter h s.heap.objs.size (a + (i : Nat) * 1) (((b - a).toNat : Int) - (i : Nat)) 1)
    ⟨fun A hh => by rw [len]; exact Walks.range hh _ a 1 _, ?_, fun i h st => ⟨_, st, _, rfl⟩, fun b hb' => .inl (List.mem_singleton.mp hb'), fun i v hi hp => ?_⟩)
  · show IsRangeIter _ _ (a + ((0 : Nat) : Int) * 1) (((b - a).toNat : Int) - ((0 : Nat) : Int)) 1
    have e1 : (a + ((0 : Nat) : Int) * 1) = a := by simp
    have e2 : (((b - a).toNat : Int) - ((0 : Nat) : Int)) = Builtin.Range.rangeSize a b 1 := by rw [hsz]; simp
    rw [e1, e2]
    exact Heap.get?_push_size _ rfl
  · obtain ⟨t, rfl⟩ := hp
    rw [len] at hi
    exact ⟨.int (a + i), by simp [rangeD, hi], by rw [Int.mul_one]; exact .int _ _⟩
end
end Mine

namespace Mine
open PySem PySem.W PySem.Calls PyProof.Rows

/-- the text's world: what stands at its top -/
structure Gl where
  prog : Program
  w : World
  K : Frag
  p : Program
  loose : List Str
  mg : Str → Option Value
  mb : Str → Option Value
  rC : Addr
  fn : Nat → Str
  isM : Nat → Bool
  isS : Nat → Bool
  frsh : Nat → Bool
  gn : Nat → Str
  xc : Nat → Addr
  xn : Nat → Str
  dk : Nat
structure GlOk (G : Gl) (h : Heap) : Prop where
  inn : G.K.In h
  top : TopRead G.p G.loose G.mg G.mb h
theorem GlOk.keeps {G : Gl} {h h' : Heap} (x : GlOk G h) (k : h.StaysIn h') : GlOk G h' := ⟨x.inn.keeps k, x.top.keeps k⟩
inductive IsDic (h : Heap) (L : Addr) : Prop
  | mk (o : Obj) (es : Array DictEntry) (n : Nat) (e : h.get? L = some o) (d : o.data = .dict es n)
inductive Slt (h : Heap) (L : Addr) (o : Obj) : Prop
  | mk (sl : Array (Option Value)) (e : h.get? L = some { o with slots := sl })
theorem ns_dic {h : Heap} {L : Addr} {m : Str → Option Value} (n : h.Ns L m) : IsDic h L := by
  obtain ⟨o, e, es, k, d⟩ := ns_obj n
  exact ⟨o, es, k, e, d⟩
theorem IsDic.ne {h : Heap} {L b : Addr} {o : Obj} (x : IsDic h L) (e : h.get? b = some o) (q : ∀ es k, o.data ≠ .dict es k) : b ≠ L := by
  obtain ⟨o', es, k, e', d⟩ := x
  rintro rfl
  rw [e] at e'
  cases e'
  exact q _ _ d
theorem IsDic.slt {h h' : Heap} {L : Addr} (x : IsDic h L) (k : ∀ o, h.get? L = some o → Slt h' L o) : IsDic h' L := by
  obtain ⟨o, es, n, e, d⟩ := x
  obtain ⟨sl, e'⟩ := k o e
  exact ⟨_, es, n, e', d⟩
noncomputable def There (Y : List Addr) (h : Heap) : Prop := ∀ b ∈ Y, ∃ o, h.get? b = some o
/-- the frames that stand below, and where their locals lie -/
structure Chn (A : Around) (F : List Addr) (outer : List Env) (h : Heap) : Prop where
  frames : A.frames = some outer
  handled : A.handled = none
  there : ∀ env ∈ outer, env.scope.kind ≠ .module ∧ ∃ L ∈ F, env.frame = some L
  objs : ∀ L ∈ F, IsDic h L
/-- what a call leaves as it was: all but X; the frames' locals may turn in their slots -/
structure Kf (X F : List Addr) (h h' : Heap) : Prop where
  kp : ∀ b o, b ∉ X → b ∉ F → h.get? b = some o → h'.get? b = some o
  sl : ∀ L ∈ F, ∀ o, h.get? L = some o → Slt h' L o
theorem Kf.of {F : List Addr} {h h' : Heap} (k : h.StaysIn h') : Kf [] F h h' := ⟨fun b o _ _ e => k b o e, fun _ _ o e => ⟨o.slots, k _ _ e⟩⟩

noncomputable def key (h : Int) (x : String) (t : Tok) (v : Value) : DictEntry := ⟨h, .str (Str.ofString x) t, v⟩
/-- an object of the program's that is changed in place -/
inductive RdrAt (G : Gl) (hb h : Heap) (X : List Addr) (o : Addr) (T : Dat) (i : Int) : Prop
  | mk (dx : Addr) (ox : Obj) (h₁ : Int) (t₁ : Tok) (tv : Value) (h₂ : Int) (t₂ t₃ : Tok) (n : Nat) (eX : X = [dx]) (I : PySem.W.InstAt h o ox G.rC (some (dictOf [key h₁ "text" t₁ tv, key h₂ "at" t₂ (.int i t₃)] n))) (ed : ox.dict = some dx) (pl : ox.data = .plain) (r : Rp hb tv T)
inductive DeckAt (G : Gl) (h : Heap) (X : List Addr) (o : Addr) (cells : List Int) (mixed : Int) : Prop
  | mk (c : Addr) (vs : Array Value) (n : Nat) (t : Tok) (eX : X = [o, c]) (D : h.DictOf (PySem.strKind G.prog G.w) o [("cells", .ref c), ("mixed", .int mixed t)]) (e : h.get? c = some (listOf vs n)) (I : IntsAre vs.toList cells) (l : cells.length ≤ 100) (ne : o ≠ c)
noncomputable def StAt (G : Gl) (hb h : Heap) (X : List Addr) (o : Addr) : St → Prop
  | .rdr T i => RdrAt G hb h X o T i
  | .deck cells mixed => DeckAt G h X o cells mixed
  | .gone => True
theorem StAt.mv {G : Gl} {hb hb' h h' : Heap} {X : List Addr} {o : Addr} {st : St} (x : StAt G hb h X o st) (k : SeqKeep hb hb') (kx : ∀ b ∈ X, ∀ ob, h.get? b = some ob → (∀ vs, ob.data ≠ .fields vs) → h'.get? b = some ob) (ko : ∀ ob, h.get? o = some ob → ob.data = .plain → h'.get? o = some ob) : StAt G hb' h' X o st := by
  cases st with
  | rdr T i =>
    obtain ⟨dx, ox, h₁, t₁, tv, h₂, t₂, t₃, n, rfl, I, hd, hp, r⟩ := x
    refine ⟨dx, ox, h₁, t₁, tv, h₂, t₂, t₃, n, rfl, ⟨ko _ I.at_ hp, I.cls, I.no, ?_⟩, hd, hp, r.seq k⟩
    have := I.dict
    rw [hd] at this ⊢
    exact kx dx List.mem_cons_self _ this fun _ z => nomatch z
  | deck cells mixed =>
    obtain ⟨c, vs, n, t, rfl, ⟨od, es, nn, q1, q2, q3, q4⟩, hc, r1, r2, r3⟩ := x
    exact ⟨c, vs, n, t, rfl, ⟨od, es, nn, kx _ List.mem_cons_self _ q1 (fun vs z => by rw [q3] at z; cases z), q2, q3, q4⟩, kx _ (List.mem_cons_of_mem _ List.mem_cons_self) _ hc (fun _ z => nomatch z), r1, r2, r3⟩
  | gone => trivial
theorem StAt.mono {G : Gl} {hb hb' h : Heap} {X : List Addr} {o : Addr} {st : St} (x : StAt G hb h X o st) (k : hb.StaysIn hb') : StAt G hb' h X o st := x.mv (.of k) (fun _ _ _ e _ => e) fun _ e _ => e
theorem StAt.ne {G : Gl} {hb h : Heap} {X : List Addr} {o : Addr} {st : St} (x : StAt G hb h X o st) (n : st ≠ .gone) : X ≠ [] := by
  cases st with
  | rdr T i => obtain ⟨dx, _, _, _, _, _, _, _, _, rfl, _⟩ := x; exact List.cons_ne_nil _ _
  | deck => obtain ⟨_, _, _, _, rfl, _⟩ := x; exact List.cons_ne_nil _ _
  | gone => exact absurd rfl n

/-- an exception of the program's own on its way: fl tells whether it bears a traceback, and where that stands -/
inductive Tb (g h : Heap) (e : Addr) (vs : Array Value) (f : Value) : Prop
  | mk (T : Addr) (oT : Obj) (ts : Array Value) (d1 : vs[1]? = some (.ref T)) (d2 : T ≠ e) (d3 : g.get? T = none) (d4 : h.get? T = some oT) (d5 : oT.data = .fields ts) (d6 : ts[3]? = some f)
noncomputable def TbAt (g h : Heap) (e : Addr) (vs : Array Value) : Option Value → Prop
  | none => vs[1]? = some .none
  | some f => Tb g h e vs f
inductive ExcAt (G : Gl) (F : List Addr) (g : Heap) (e : Addr) (x : Exn) (fl : Option Value) (h : Heap) : Prop
  | mk (oe : Obj) (vs : Array Value) (de : Addr) (od : Obj) (h₁ : Int) (t₁ : Tok) (tv : Value) (n : Nat) (a1 : h.get? e = some oe) (a2 : oe.cls = .ref (G.xc x.cls)) (a3 : oe.dict = some de) (a4 : oe.data = .fields vs)
    (b1 : h.get? de = some od) (b2 : od.data = .dict #[key h₁ "told" t₁ tv] n) (b3 : od.cls = .type "dict") (r : Rp h tv x.told) (c1 : g.get? e = none) (c2 : g.get? de = none) (c3 : de ∉ F) (tb : TbAt g h e vs fl)
theorem ExcAt.base {G : Gl} {F F' : List Addr} {g g' : Heap} {e : Addr} {x : Exn} {fl : Option Value} {h : Heap} (X : ExcAt G F g e x fl h) (fresh : ∀ b, g.get? b = none → g'.get? b = none) (hF : ∀ b ∈ F', b ∈ F) : ExcAt G F' g' e x fl h := by
  obtain ⟨oe, vs, de, od, h₁, t₁, tv, n, a1, a2, a3, a4, b1, b2, b3, r, c1, c2, c3, tb⟩ := X
  refine ⟨oe, vs, de, od, h₁, t₁, tv, n, a1, a2, a3, a4, b1, b2, b3, r, fresh _ c1, fresh _ c2, fun q => c3 (hF _ q), ?_⟩
  cases fl with
  | none => exact tb
  | some f =>
    obtain ⟨T, oT, ts, d1, d2, d3, d4, d5, d6⟩ := tb
    exact ⟨T, oT, ts, d1, d2, fresh _ d3, d4, d5, d6⟩
/-- it stands where all but names and numbers is kept -/
theorem ExcAt.keep {G : Gl} {F : List Addr} {g : Heap} {e : Addr} {x : Exn} {fl : Option Value} {h h' : Heap} (X : ExcAt G F g e x fl h) (kF : ∀ b o vs, h.get? b = some o → o.data = .fields vs → h'.get? b = some o) (kD : ∀ b o, b ∉ F → h.get? b = some o → h'.get? b = some o) (kS : SeqKeep h h') : ExcAt G F g e x fl h' := by
  obtain ⟨oe, vs, de, od, h₁, t₁, tv, n, a1, a2, a3, a4, b1, b2, b3, r, c1, c2, c3, tb⟩ := X
  refine ⟨oe, vs, de, od, h₁, t₁, tv, n, kF _ _ _ a1 a4, a2, a3, a4, kD _ _ c3 b1, b2, b3, r.seq kS, c1, c2, c3, ?_⟩
  cases fl with
  | none => exact tb
  | some f =>
    obtain ⟨T, oT, ts, d1, d2, d3, d4, d5, d6⟩ := tb
    exact ⟨T, oT, ts, d1, d2, d3, kF _ _ _ d4 d5, d5, d6⟩

noncomputable def Room (n : Nat) (A : Around) : Prop := A.depth + n + 3 < 900 ∧ A.units + 4 * n + 300 < cLine
theorem room_le {n k : Nat} {A : Around} (r : Room n A) (h : k ≤ n) : Room k A := ⟨by have := r.1; omega, by have := r.2; omega⟩

/-- what a call may lean on -/
structure Pre (G : Gl) (A : Around) (F X Y : List Addr) (outer : List Env) (s : Shared) (n : Nat) : Prop where
  ch : Chn A F outer s.heap
  y : There Y s.heap
  x : There X s.heap
  xF : ∀ b ∈ X, b ∉ F
  rm : Room n A
  gl : GlOk G (hideAll s.heap (Y ++ (X ++ F)))
inductive CallOk (X F Y : List Addr) (s : Shared) (d : Dat) (P : Heap → Value → Prop) (r : Result) (s' : Shared) : Prop
  | mk (v : Value) (h' : Heap) (tk : Nat) (er : r = .ok (.ret v)) (es : s' = { s with heap := h', toks := tk }) (k : Kf X F s.heap h') (rv : Rp (hideAll h' (Y ++ (X ++ F))) v d) (p : P h' v)
inductive CallEx (G : Gl) (X F : List Addr) (s : Shared) (x : Exn) (r : Result) (s' : Shared) : Prop
  | mk (e : Addr) (h' : Heap) (tk : Nat) (er : r = .error (.ref e)) (es : s' = { s with heap := h', toks := tk }) (k : Kf X F s.heap h') (ex : ExcAt G F (hideAll s.heap (X ++ F)) e x (some .none) h') (th : There X h')
inductive FrAt (G : Gl) (X F Y : List Addr) (s : Shared) (o : Addr) (st : St) (h' : Heap) (v : Value) (xs : List Dat) : Prop
  | mk (a : Addr) (n : Nat) (vs : Array Value) (ev : v = .ref a) (le : s.heap.objs.size ≤ a) (e : h'.get? a = some (listOf vs n)) (r : RpL (hideAll h' (a :: (Y ++ (X ++ F)))) vs.toList xs) (sa : StAt G (hideAll h' (a :: (Y ++ (X ++ F)))) h' X o st)
structure StPost (G : Gl) (X F Y : List Addr) (s : Shared) (o : Addr) (st : St) (d : Dat) (fr : Bool) (h' : Heap) (v : Value) : Prop where
  th : There X h'
  sa : StAt G (hideAll h' (Y ++ (X ++ F))) h' X o st
  fr : fr = true → ∀ xs, d = .list xs → FrAt G X F Y s o st h' v xs
noncomputable def PureGo (G : Gl) (A : Around) (F Y : List Addr) (s : Shared) (fa : Addr) (vs : List Value) : Res → Prop
  | .ok d => codeAny (model G.prog G.w) A (.call (.ref fa) ⟨vs, []⟩) (CallOk [] F Y s d fun _ _ => True) s
  | .exc x => codeAny (model G.prog G.w) A (.call (.ref fa) ⟨vs, []⟩) (CallEx G [] F s x) s
  | .stuck => True
noncomputable def StateGo (G : Gl) (A : Around) (F X Y : List Addr) (s : Shared) (fa o : Addr) (vs : List Value) (fr : Bool) : ResS → Prop
  | .ok d st => codeAny (model G.prog G.w) A (.call (.ref fa) ⟨.ref o :: vs, []⟩) (CallOk X F Y s d (StPost G X F Y s o st d fr)) s
  | .exc x => codeAny (model G.prog G.w) A (.call (.ref fa) ⟨.ref o :: vs, []⟩) (CallEx G X F s x) s
  | .stuck => True
/-- what is said of a function that changes nothing -/
structure PureAt (G : Gl) (O : Orc) (id : Nat) (fa : Addr) : Prop where
  ns : nsIn G.K mainGlobals (G.fn id) = some (some (.ref fa))
  keep : keepIn G.K (.ref fa) = true
  go : ∀ (A : Around) (F Y : List Addr) (outer : List Env) (s : Shared) (vs : List Value) (ds : List Dat), Pre G A F [] Y outer s (id + 1) → RpL (hideAll s.heap (Y ++ ([] ++ F))) vs ds → PureGo G A F Y s fa vs (O.p id ds)
structure MethAt (G : Gl) (id : Nat) (fa : Addr) : Prop where
  find : findIn G.K (.ref G.rC) (G.fn id) = some (some (.ref fa))
  fn : isFn G.K (.ref fa) = true
  pl : plainGet G.K G.rC (G.fn id) = true
  n1 : G.fn id ≠ "text"
  n2 : G.fn id ≠ "at"
/-- a function (a method) upon an object that it changes -/
structure StateAt (G : Gl) (O : Orc) (id : Nat) (fa : Addr) : Prop where
  meth : G.isM id = true → MethAt G id fa
  ns : G.isM id = false → nsIn G.K mainGlobals (G.fn id) = some (some (.ref fa))
  keep : keepIn G.K (.ref fa) = true
  go : ∀ (A : Around) (F X Y : List Addr) (outer : List Env) (s : Shared) (o : Addr) (st : St) (vs : List Value) (ds : List Dat), Pre G A F X Y outer s (id + 1) →
    StAt G (hideAll s.heap (Y ++ (X ++ F))) s.heap X o st → RpL (hideAll s.heap (Y ++ (X ++ F))) vs ds → StateGo G A F X Y s fa o vs (G.frsh id) (O.s id st ds)
structure FnOk (G : Gl) (O : Orc) (id : Nat) : Prop where
  pure : G.isS id = false → ∃ fa, PureAt G O id fa
  state : G.isS id = true → ∃ fa, StateAt G O id fa

/-- how an exception of the program's own is made -/
noncomputable def obAt (K : Frag) (C : Addr) : Obj := (K.lookup C).getD default
noncomputable def cdAt (K : Frag) (C : Addr) : ClassData := match (obAt K C).data with
  | .cls cd => cd
  | _ => default
noncomputable def slAt (K : Frag) (C : Addr) (i : Nat) : Option Value := (obAt K C).slots.toList.getD i none
noncomputable def exAt (K : Frag) (C : Addr) : Obj := excClassObj (cdAt K C).name (cdAt K C).qualname C (cdAt K C).ns (cdAt K C).bases (cdAt K C).mro.tail (cdAt K C).hasDict (cdAt K C).slotNames (cdAt K C).subclasses (cdAt K C).abstract (cdAt K C).collection (obAt K C).dict (slAt K C 0) (slAt K C 1) (slAt K C 2) (slAt K C 3) (slAt K C 5) "Exception.__new__"
noncomputable abbrev ExcShape (K : Frag) (C : Addr) : Prop := (K.lookup C, (cdAt K C).mro.tail.contains (.type "BaseException")) = (some (exAt K C), true)
inductive ExcMade (G : Gl) (F : List Addr) (s : Shared) (x : Exn) (r : Result) (s' : Shared) : Prop
  | mk (e : Addr) (h' : Heap) (tk : Nat) (er : r = .ok (.ret (.ref e))) (es : s' = { s with heap := h', toks := tk }) (k : Kf [] F s.heap h') (ex : ExcAt G F s.heap e x none h')
structure MkOk (G : Gl) (c : Nat) : Prop where
  ns : nsIn G.K mainGlobals (G.xn c) = some (some (.ref (G.xc c)))
  keep : keepIn G.K (.ref (G.xc c)) = true
  shape : ExcShape G.K (G.xc c)
  go : ∀ (A : Around) (F Y : List Addr) (outer : List Env) (s : Shared) (v : Value) (d : Dat), Pre G A F [] Y outer s 0 → Rp s.heap v d → codeAny (model G.prog G.w) A (.call (.ref (G.xc c)) ⟨[v], []⟩) (ExcMade G F s ⟨c, d⟩) s
/-- a call that makes an object which is turned in place -/
inductive StMade (G : Gl) (F Y : List Addr) (s : Shared) (st : St) (r : Result) (s' : Shared) : Prop
  | mk (o : Addr) (X : List Addr) (h' : Heap) (tk : Nat) (er : r = .ok (.ret (.ref o))) (es : s' = { s with heap := h', toks := tk }) (k : Kf [] F s.heap h') (nX : ∀ b ∈ X, s.heap.get? b = none) (th : There X h') (sa : StAt G (hideAll h' (X ++ (Y ++ ([] ++ F)))) h' X o st)
noncomputable def MakesSt (G : Gl) (fa : Addr) (d : Dat) (st : St) : Prop := ∀ (A : Around) (F Y : List Addr) (outer : List Env) (s : Shared) (v : Value), Pre G A F [] Y outer s 1 → Rp (hideAll s.heap (Y ++ ([] ++ F))) v d →
    codeAny (model G.prog G.w) A (.call (.ref fa) ⟨[v], []⟩) (StMade G F Y s st) s
structure MakesAt (G : Gl) (nm : Str) (fa : Addr) (f : Dat → Option St) : Prop where
  ns : nsIn G.K mainGlobals nm = some (some (.ref fa))
  keep : keepIn G.K (.ref fa) = true
  go : ∀ d st, f d = some st → st ≠ .gone ∧ MakesSt G fa d st

structure RdrCls (G : Gl) (x : Str) : Prop where
  get : plainGet G.K G.rC x = true
  find : findIn G.K (.ref G.rC) x = some none
structure ExcGet (K : Frag) (C : Addr) : Prop where
  ga : findIn K (.ref C) "__getattribute__" = some (some (.builtin "BaseException.__getattribute__"))
  gt : findIn K (.ref C) "__getattr__" = some none
  base : mroIn K C (.type "BaseException") = some true
  dict : hasDictIn K C = true
  told : findIn K (.ref C) "told" = some none
structure RdrSet (G : Gl) : Prop where
  set : findIn G.K (.ref G.rC) "__setattr__" = some (some (.builtin "object.__setattr__"))
  over : plainOver G.K G.rC = true
  at_ : takerIn G.K G.rC "at" = some none
/-- what the text's top gives to each of its functions -/
structure World0 (G : Gl) (O : Orc) (lim : Nat) : Prop where
  consts : ∀ j d, O.g j = some d → ∃ v, nsIn G.K mainGlobals (G.gn j) = some (some v) ∧ ∀ h, G.K.In h → Rp h v d
  fns : ∀ id, id < lim → FnOk G O id
  bltin : ∀ b : Blt, nsIn G.K mainGlobals (match b with | .len => "len" | .ord => "ord" | .chr => "chr" | .int => "int" | .str => "str" | .bytes => "bytes" | .list => "list" | .tuple => "tuple") = some none
  rangeN : nsIn G.K mainGlobals "range" = some none
  rdict : hasDictIn G.K G.rC = true
  rtext : RdrCls G "text"
  rat : RdrCls G "at"
  mkx : ∀ c, c < 3 → MkOk G c
  mkr : MakesAt G "RuleReader" G.rC fun d => some (.rdr d 0)
  mkd : ∃ fa, MakesAt G (G.fn G.dk) fa (deckOf O G.dk)
  rset : RdrSet G
  xget : ∀ c, c < 3 → ExcGet G.K (G.xc c)
end Mine

namespace Mine
open PySem PySem.W PySem.Calls PyProof.Rows

/-! what a text's expression is to be -/
structure MC where
  names : List Str
  scope : Scope
  sk : Str
  lim : Nat
  fn : Nat → Str
  isM : Nat → Bool
  isS : Nat → Bool
  gn : Nat → Str
  xn : Nat → Str
  frsh : Nat → Bool
  dk : Nat
noncomputable def MC.nm (c : MC) (k : Nat) : Str := c.names.getD k ""
noncomputable def MC.isLocal (c : MC) (id : Str) : Bool := c.scope.names.lookup id == some .local && !(id == ("__debug__" : Str))
noncomputable def MC.isVar (c : MC) (k : Nat) : Bool := c.names[k]? == some (c.nm k) && !(c.nm k == ("__debug__" : Str)) && (c.scope.names.lookup (c.nm k) == some .local || c.scope.names.lookup (c.nm k) == some .cell)
noncomputable def MC.isGlob (c : MC) (id : Str) : Bool := c.scope.names.lookup id == some .globalImplicit && !(id == ("__debug__" : Str))
noncomputable def bltN : Blt → Str
  | .len => "len" | .ord => "ord" | .chr => "chr" | .int => "int" | .str => "str" | .bytes => "bytes" | .list => "list" | .tuple => "tuple"
noncomputable def relabelN (names : List (Str × NameKind)) (outer : List (Str × NameKind)) : List (Str × NameKind) :=
  names.map fun (n, k) => if (k == .free && outer.lookup n == some .cell) then (n, .cell) else (n, k)
noncomputable def capsIs (c : MC) : List Str → List Nat → Bool
  | [], [] => true
  | x :: xs, k :: ks => c.names[k]? == some x && c.scope.names.lookup x == some .cell && capsIs c xs ks
  | _, _ => false
noncomputable def freeOf (sc : Scope) : List Str := (sc.names.filter fun n => n.2 == .free).map (·.1)
noncomputable def inMC (c : MC) (x : Str) (sc : Scope) : MC := { c with names := x :: freeOf sc, scope := { sc with names := relabelN sc.names c.scope.names }, sk := "" }
noncomputable def compOk (c : MC) (x : Str) (sc : Scope) (caps : List Nat) : Bool :=
  sc.kind == .function && (sc.names.all fun n => n.2 == .free || n.2 == .local || n.2 == .globalImplicit) && (sc.names.all fun n => !(n.2 == .local) || sc.names.lookup n.1 == some .local) &&
    decide ((x :: freeOf sc).Nodup) && (relabelN sc.names c.scope.names).lookup x == some .local && ((freeOf sc).all fun y => (relabelN sc.names c.scope.names).lookup y == some .cell && c.scope.names.lookup y == some .cell) && capsIs c (freeOf sc) caps

noncomputable def kids : Expr → List Expr
  | .BinOp l _ r _ => [l, r]
  | .UnaryOp _ x _ => [x]
  | .BoolOp _ xs _ => xs
  | .Compare l _ xs _ => l :: xs
  | .IfExp t a b _ => [t, a, b]
  | .Call f xs _ _ => f :: xs
  | .Attribute o _ _ => [o]
  | .Subscript x y _ => [x, y]
  | .Slice l u t _ => [l.getD default, u.getD default, t.getD default]
  | .List xs _ => xs
  | .Tuple xs _ _ => xs
  | .ListComp e (g :: _) _ _ => e :: g.target :: g.iter :: g.ifs
  | .Dict ks vs _ => ks.map (fun k => k.getD default) ++ vs
  | _ => []
noncomputable def kid (ex : Expr) (i : Nat) : Expr := (kids ex).getD i default
noncomputable def nOf : Expr → Nat
  | .Constant _ k _ => k
  | .Tuple _ k _ => k
  | _ => 0
noncomputable def scOf (d : Scope) : Expr → Scope
  | .ListComp _ _ sc _ => sc
  | _ => d
noncomputable def idOf : Expr → Str
  | .Name x _ => x
  | _ => ""
noncomputable def cst : Dat → Const
  | .none => .none
  | .bool b => .bool b
  | .int i => .int i
  | .str x => .str x
  | .bytes b => .bytes b.toList
  | _ => .ellipsis
noncomputable def isC : Dat → Bool
  | .tuple _ => false
  | .list _ => false
  | _ => true
section
variable (N : MC → IE → Expr → Expr) (go : MC → IE → Expr → Bool) (c : MC)
noncomputable def nL : List IE → List Expr → List Expr
  | [], _ => []
  | e :: es, xs => N c e (xs.headD default) :: nL es xs.tail
noncomputable def okL : List IE → List Expr → Bool
  | [], _ => true
  | e :: es, xs => go c e (xs.headD default) && okL es xs.tail
noncomputable def nO : Option IE → Expr → Option Expr
  | none, _ => none
  | some e, x => some (N c e x)
noncomputable def okO : Option IE → Expr → Bool
  | none, _ => true
  | some e, x => go c e x
noncomputable def nmE (k : Nat) (x : Expr) : Expr := .Name (c.nm k) x.pos
noncomputable def skE (x : Expr) : Expr := .Name c.sk x.pos
noncomputable def strE (s : Str) (x : Expr) : Expr := .Constant (.str s) (nOf x) x.pos
noncomputable def inC (ex : Expr) : MC := inMC c (idOf (kid ex 1)) (scOf c.scope ex)
noncomputable def nrm (e : IE) (ex : Expr) : Expr := match e with
  | .const d => .Constant (cst d) (nOf ex) ex.pos
  | .neg i => .UnaryOp .USub (.Constant (.int i) (nOf (kid ex 0)) (kid ex 0).pos) ex.pos
  | .var k => nmE c k ex
  | .glob j => .Name (c.gn j) ex.pos
  | .bin op a b => .BinOp (N c a (kid ex 0)) op (N c b (kid ex 1)) ex.pos
  | .not a => .UnaryOp .Not (N c a (kid ex 0)) ex.pos
  | .conn op es => .BoolOp op (nL N c es (kids ex)) ex.pos
  | .cmp a ops bs => .Compare (N c a (kid ex 0)) ops (nL N c bs (kids ex).tail) ex.pos
  | .ite t a b => .IfExp (N c t (kid ex 0)) (N c a (kid ex 1)) (N c b (kid ex 2)) ex.pos
  | .callP f args => .Call (.Name (c.fn f) (kid ex 0).pos) (nL N c args (kids ex).tail) [] ex.pos
  | .callM f args => .Call (.Attribute (skE c (kid (kid ex 0) 0)) (c.fn f) (kid ex 0).pos) (nL N c args (kids ex).tail) [] ex.pos
  | .callS f args => .Call (.Name (c.fn f) (kid ex 0).pos) (skE c (kid ex 1) :: nL N c args (kids ex).tail.tail) [] ex.pos
  | .blt b e => .Call (.Name (bltN b) (kid ex 0).pos) [N c e (kid ex 1)] [] ex.pos
  | .join sep e => .Call (.Attribute (strE sep (kid (kid ex 0) 0)) "join" (kid ex 0).pos) [N c e (kid ex 1)] [] ex.pos
  | .split e sep => .Call (.Attribute (N c e (kid (kid ex 0) 0)) "split" (kid ex 0).pos) [strE sep (kid ex 1)] [] ex.pos
  | .fld b => .Attribute (skE c (kid ex 0)) (if b then "at" else "text") ex.pos
  | .idx a i => .Subscript (N c a (kid ex 0)) (N c i (kid ex 1)) ex.pos
  | .sl a lo hi => .Subscript (N c a (kid ex 0)) (.Slice (nO N c lo (kid (kid ex 1) 0)) (nO N c hi (kid (kid ex 1) 1)) none (kid ex 1).pos) ex.pos
  | .rev a => .Subscript (N c a (kid ex 0)) (.Slice none none (some (.UnaryOp .USub (.Constant (.int 1) (nOf (kid (kid (kid ex 1) 2) 0)) (kid (kid (kid ex 1) 2) 0).pos) (kid (kid ex 1) 2).pos)) (kid ex 1).pos) ex.pos
  | .lenOwn k => .Call (.Name "len" (kid ex 0).pos) [nmE c k (kid ex 1)] [] ex.pos
  | .idxOwn k i => .Subscript (nmE c k (kid ex 0)) (N c i (kid ex 1)) ex.pos
  | .list es => .List (nL N c es (kids ex)) ex.pos
  | .tup es => .Tuple (nL N c es (kids ex)) (nOf ex) ex.pos
  | .comp elt src _ => .ListComp (N (inC c ex) elt (kid ex 0)) [⟨.Name (idOf (kid ex 1)) (kid ex 1).pos, N c src (kid ex 2), [], 0⟩] (scOf c.scope ex) ex.pos
  | .compR elt lo hi cnd => .ListComp (N (inC c ex) elt (kid ex 0)) [⟨.Name (idOf (kid ex 1)) (kid ex 1).pos, .Call (.Name "range" (kid (kid ex 2) 0).pos) [N c lo (kid (kid ex 2) 1), N c hi (kid (kid ex 2) 2)] [] (kid ex 2).pos, [N (inC c ex) cnd (kid ex 3)], 0⟩] (scOf c.scope ex) ex.pos
  | .deckNe => .Compare (.Subscript (skE c (kid (kid ex 0) 0)) (strE "cells" (kid (kid ex 0) 1)) (kid ex 0).pos) [.NotEq] [.List [] (kid ex 1).pos] ex.pos
  | .deckPop => .Call (.Attribute (.Subscript (skE c (kid (kid (kid ex 0) 0) 0)) (strE "cells" (kid (kid (kid ex 0) 0) 1)) (kid (kid ex 0) 0).pos) "pop" (kid ex 0).pos) [] [] ex.pos
  | .deckMixed => .Subscript (skE c (kid ex 0)) (strE "mixed" (kid ex 1)) ex.pos
  | .ownNil k => .Compare (nmE c k (kid ex 0)) [.Eq] [.List [] (kid ex 1).pos] ex.pos
noncomputable def ownV (k : Nat) : Bool := c.isVar k && c.isLocal (c.nm k)
noncomputable def isVr : IE → Bool
  | .var _ => true
  | _ => false
noncomputable def oneLine (ex : Expr) : Bool := (kid ex 0).pos.endLine == ex.pos.line
noncomputable def okS (e : IE) (ex : Expr) : Bool := match e with
  | .const d => isC d
  | .neg _ => true
  | .var k => c.isVar k
  | .glob j => c.isGlob (c.gn j)
  | .bin _ a b => go c a (kid ex 0) && go c b (kid ex 1)
  | .not a => go c a (kid ex 0)
  | .conn _ es => !es.isEmpty && okL go c es (kids ex)
  | .cmp a ops bs => ops.length == bs.length && !bs.isEmpty && !lastMarks ops (nL N c bs (kids ex).tail) && go c a (kid ex 0) && okL go c bs (kids ex).tail
  | .ite t a b => go c t (kid ex 0) && go c a (kid ex 1) && go c b (kid ex 2)
  | .callP f args => !c.isS f && Nat.blt f c.lim && c.isGlob (c.fn f) && okL go c args (kids ex).tail
  | .callM f args => c.isS f && c.isM f && Nat.blt f c.lim && c.isLocal c.sk && Nat.blt args.length 10 && oneLine ex && okL go c args (kids ex).tail
  | .callS f args => c.isS f && !c.isM f && Nat.blt f c.lim && c.isGlob (c.fn f) && c.isLocal c.sk && okL go c args (kids ex).tail.tail
  | .blt b e => c.isGlob (bltN b) && go c e (kid ex 1)
  | .join _ e => oneLine ex && go c e (kid ex 1)
  | .split e _ => oneLine ex && isVr e && go c e (kid (kid ex 0) 0)
  | .fld _ => c.isLocal c.sk
  | .idx a i => go c a (kid ex 0) && go c i (kid ex 1)
  | .sl a lo hi => go c a (kid ex 0) && okO go c lo (kid (kid ex 1) 0) && okO go c hi (kid (kid ex 1) 1)
  | .rev a => go c a (kid ex 0)
  | .lenOwn k => c.isGlob "len" && ownV c k
  | .idxOwn k i => ownV c k && go c i (kid ex 1)
  | .list es => okL go c es (kids ex)
  | .tup es => okL go c es (kids ex)
  | .comp elt src caps => go c src (kid ex 2) && compOk c (idOf (kid ex 1)) (scOf c.scope ex) caps && go (inC c ex) elt (kid ex 0)
  | .compR elt lo hi cnd => c.isGlob "range" && go c lo (kid (kid ex 2) 1) && go c hi (kid (kid ex 2) 2) && compOk c (idOf (kid ex 1)) (scOf c.scope ex) [] && go (inC c ex) elt (kid ex 0) && go (inC c ex) cnd (kid ex 3)
  | .deckNe => c.isLocal c.sk
  | .deckPop => c.isLocal c.sk && oneLine ex
  | .deckMixed => c.isLocal c.sk
  | .ownNil k => ownV c k
end
noncomputable def nrmE : Nat → MC → IE → Expr → Expr
  | 0 => fun _ _ ex => .Name "" ex.pos
  | n + 1 => nrm (nrmE n)
noncomputable def okE : Nat → MC → IE → Expr → Bool
  | 0 => fun _ _ _ => false
  | n + 1 => okS (nrmE n) (okE n)

/-! the frame -/
structure Cx where
  G : Gl
  O : Orc
  A : Around
  env : Env
  outer : List Env
  F : List Addr
  names : List Str
  sk : Str
  lim : Nat
  g : Heap
  gk : Heap
  hE : Heap
  cs : List Addr
noncomputable def Cx.mc (C : Cx) : MC := ⟨C.names, C.env.scope, C.sk, C.lim, C.G.fn, C.G.isM, C.G.isS, C.G.gn, C.G.xn, C.G.frsh, C.G.dk⟩
noncomputable abbrev Cx.H (C : Cx) : List Addr := C.env.locals :: (C.F ++ C.cs)
noncomputable abbrev Cx.M (C : Cx) : Model := model C.G.prog C.G.w
structure CxOk (C : Cx) : Prop where
  kind : C.env.scope.kind = .function
  glob : C.env.globals = mainGlobals
  bns : C.env.builtins = builtinsNs
  gl : GlOk C.G C.gk
  gkg : C.gk.StaysIn C.g
  nodup : C.names.Nodup
  frames : C.A.frames = some C.outer
  handled : C.A.handled = none
  there : ∀ env ∈ C.outer, env.scope.kind ≠ .module ∧ ∃ L ∈ C.F, env.frame = some L
  hid : ∀ b ∈ C.H, C.gk.get? b = none
  csL : ∀ c ∈ C.cs, c ≠ C.env.locals
  cells : ∀ y, C.env.kindOf y = some .cell → ∃ c ∈ C.cs, C.env.cells.lookup y = some c
  inj : ∀ x y c, C.env.cells.lookup x = some c → C.env.cells.lookup y = some c → x = y
  gF : ∀ b ∈ C.F, C.g.get? b = none
  newL : C.hE.get? C.env.locals = none
  room : Room C.lim C.A
  w : World0 C.G C.O C.lim

structure Pt where
  s : Shared
  m : Str → Option Value
  oa : List Addr
  xa : List Addr
noncomputable abbrev Pt.to (p : Pt) (h : Heap) (tk : Nat) : Pt := ⟨{ p.s with heap := h, toks := tk }, p.m, p.oa, p.xa⟩
noncomputable abbrev hb (C : Cx) (p : Pt) : Heap := hideAll p.s.heap (C.H ++ (p.oa ++ p.xa))
inductive VarAt (C : Cx) (h : Heap) (m : Str → Option Value) (k : Nat) (v : Value) : Prop
  | loc (x : Str) (hx : C.names[k]? = some x) (hk : C.env.kindOf x = some .local) (hm : m x = some v)
  | cell (x : Str) (c : Addr) (o : Obj) (hx : C.names[k]? = some x) (hk : C.env.kindOf x = some .cell) (hc : C.env.cells.lookup x = some c) (hi : c ∈ C.cs) (e : h.get? c = some o) (d : o.data = .cell (some v))
structure Core (C : Cx) (h : Heap) (m : Str → Option Value) : Prop where
  fr : Fr C.g C.env.locals h m
  objs : ∀ L ∈ C.F, IsDic h L
  out : ∀ L ∈ C.F, ∀ o, C.hE.get? L = some o → Slt h L o
  co : There C.cs h
  cl : ∀ y c, C.env.kindOf y = some .cell → C.env.cells.lookup y = some c → ∃ o v, h.get? c = some o ∧ o.data = .cell v
structure NewL (C : Cx) (p : Pt) (a : Addr) (vs : Array Value) (n : Nat) (xs : List Dat) : Prop where
  e : p.s.heap.get? a = some (listOf vs n)
  r : RpL (hb C p) vs.toList xs
  hE : C.hE.objs.size ≤ a
  g : C.g.get? a = none
  nx : a ∉ p.xa
  nH : a ∉ C.H
inductive OwIs (C : Cx) (p : Pt) (k : Nat) (xs : List Dat) : Prop
  | mk (a : Addr) (vs : Array Value) (n : Nat) (x : Str) (eo : p.oa = [a]) (hx : C.names[k]? = some x) (hk : C.env.kindOf x = some .local) (hm : p.m x = some (.ref a)) (l : NewL C p a vs n xs)
noncomputable def OwAt (C : Cx) (p : Pt) (l : Nat) : Option (Nat × List Dat) → Prop
  | none => p.oa = []
  | some (k, xs) => OwIs C p k xs ∧ k < l
inductive StIn (C : Cx) (p : Pt) (st : St) : Prop
  | mk (o : Addr) (ne : p.xa ≠ []) (hm : p.m C.sk = some (.ref o)) (hk : C.env.kindOf C.sk = some .local) (sa : StAt C.G (hb C p) p.s.heap p.xa o st)
noncomputable def StOf (C : Cx) (p : Pt) : Option St → Prop
  | none => p.xa = []
  | some st => StIn C p st
structure XaIs (C : Cx) (h : Heap) (b : Addr) : Prop where
  g : C.g.get? b = none
  nH : b ∉ C.H
  th : ∃ o, h.get? b = some o
structure Sim (C : Cx) (p : Pt) (σ : ASt) : Prop where
  co : Core C p.s.heap p.m
  vs : ∀ k d, σ.vars[k]? = some (some d) → ∃ v, VarAt C p.s.heap p.m k v ∧ Rp (hb C p) v d
  ow : OwAt C p σ.vars.length σ.own
  st : StOf C p σ.st
  xg : ∀ b ∈ p.xa, XaIs C p.s.heap b
structure Aftr (C : Cx) (l : Nat) (p p' : Pt) : Prop where
  s : p'.s = { p.s with heap := p'.s.heap, toks := p'.s.toks }
  st : (p'.xa = p.xa ∧ p'.m C.sk = p.m C.sk) ∨ p.xa = []
  up : l ≤ 1 → (hb C p).StaysIn (hb C p')
  fx : l = 0 → p'.m = p.m ∧ p'.xa = p.xa
noncomputable def FlOk (C : Cx) (fl : Option Value) : Prop := fl = none ∨ fl = some .none ∨ fl = some (rawInt C.env.locals)
structure Got {α β : Type} (C : Cx) (l : Nat) (R : Pt → α → β → Prop) (p : Pt) (σ : ASt) (v : α) (d : β) (p' : Pt) : Prop where
  A : Aftr C l p p'
  S : Sim C p' σ
  r : R p' v d
structure GotX (C : Cx) (p : Pt) (σ : ASt) (x : Exn) (fl : Option Value) (e : Addr) (p' : Pt) : Prop where
  A : Aftr C 2 p p'
  S : Sim C p' σ
  f : FlOk C fl
  X : ExcAt C.G C.F C.g e x fl p'.s.heap
/-- what meets an outcome -/
noncomputable def Nxt {α β : Type} (C : Cx) (l : Nat) (R : Pt → α → β → Prop) (p : Pt) (Q : α → Shared → Prop) (E : Value → Shared → Prop) : Out β → Prop
  | .ok d σ => ∀ v p', Got C l R p σ v d p' → Q v p'.s
  | .exc x σ => ∀ e fl p', GotX C p σ x fl e p' → E (.ref e) p'.s
  | .stuck => False
noncomputable def Snd {α β : Type} (C : Cx) (l : Nat) (R : Pt → α → β → Prop) (p : Pt) (o : Out β) (t : Sem α) : Prop := ∀ Q E, Nxt C l R p Q E o → wpAny C.M C.A t Q E p.s
noncomputable abbrev RV (C : Cx) (p : Pt) (v : Value) (d : Dat) : Prop := Rp (hb C p) v d
noncomputable abbrev RL (C : Cx) (p : Pt) (v : List Value) (d : List Dat) : Prop := RpL (hb C p) v d
noncomputable abbrev RB (_ : Pt) (v d : Bool) : Prop := v = d

section
variable {α β γ δ : Type} {C : Cx} {l j : Nat} {p p' p₁ p₂ : Pt} {R : Pt → α → β → Prop} {R' : Pt → γ → δ → Prop} {o : Out β} {t : Sem α} {σ : ASt}
theorem Aftr.refl (C : Cx) (l : Nat) (p : Pt) : Aftr C l p p := ⟨rfl, .inl ⟨rfl, rfl⟩, fun _ _ _ e => e, fun _ => ⟨rfl, rfl⟩⟩
theorem Aftr.to (A : Aftr C j p p') (h : j ≤ l) : Aftr C l p p' := ⟨A.s, A.st, fun q => A.up (Nat.le_trans h q), fun q => A.fx (Nat.le_zero.mp (q ▸ h))⟩
theorem Aftr.trans (A : Aftr C l p p₁) (B : Aftr C l p₁ p₂) : Aftr C l p p₂ := by
  refine ⟨B.s.trans (by rw [A.s]), ?_, fun q b o e => B.up q b o (A.up q b o e), fun q => ⟨(B.fx q).1.trans (A.fx q).1, (B.fx q).2.trans (A.fx q).2⟩⟩
  rcases A.st with ⟨e1, e2⟩ | e
  · rcases B.st with ⟨e3, e4⟩ | e3
    · exact .inl ⟨e3.trans e1, e4.trans e2⟩
    · exact .inr (e1 ▸ e3)
  · exact .inr e
theorem Aftr.rp (A : Aftr C 0 p p') {v : Value} {d : Dat} (r : Rp (hb C p) v d) : Rp (hb C p') v d := r.mono (A.up (Nat.zero_le _))
theorem Nxt.go {Q : α → Shared → Prop} {E : Value → Shared → Prop} (k : Nxt C l R p Q E o) (A : Aftr C l p p₁) (hl : l ≤ 2) : Nxt C l R p₁ Q E o := match o, k with
  | .ok _ _, k => fun v p' g => k v p' ⟨A.trans g.A, g.S, g.r⟩
  | .exc _ _, k => fun e fl p' g => k e fl p' ⟨(A.to hl).trans g.A, g.S, g.f, g.X⟩
theorem Snd.seq {Q : γ → Shared → Prop} {E : Value → Shared → Prop} {P : α → Shared → Prop} {f : β → ASt → Out δ} (h : Snd C j R p o t) (hj : j ≤ l) (hl : l ≤ 2) (k : Nxt C l R' p Q E (o.bind f))
    (g : ∀ d σ₁ v p₁, Got C j R p σ₁ v d p₁ → Nxt C l R' p₁ Q E (f d σ₁) → P v p₁.s) : wpAny C.M C.A t P E p.s := h P E (match o, k with
  | .ok d σ₁, k => fun v p₁ G => g d σ₁ v p₁ G (k.go (G.A.to hj) hl)
  | .exc _ _, k => k)
/-- an expression first, of an expression -/
theorem Snd.sq {Q : γ → Shared → Prop} {E : Value → Shared → Prop} {P : α → Shared → Prop} {f : β → ASt → Out δ} (h : Snd C 0 R p o t) (k : Nxt C 0 R' p Q E (o.bind f))
    (g : ∀ d σ₁ v p₁, Got C 0 R p σ₁ v d p₁ → Nxt C 0 R' p₁ Q E (f d σ₁) → P v p₁.s) : wpAny C.M C.A t P E p.s := h.seq (Nat.le_refl _) (Nat.zero_le _) k g
/-- an expression first, of a statement -/
theorem Snd.sqS {Q : γ → Shared → Prop} {E : Value → Shared → Prop} {P : α → Shared → Prop} {f : β → ASt → Out δ} (h : Snd C 0 R p o t) (k : Nxt C 1 R' p Q E (o.bind f))
    (g : ∀ d σ₁ v p₁, Got C 0 R p σ₁ v d p₁ → Nxt C 1 R' p₁ Q E (f d σ₁) → P v p₁.s) : wpAny C.M C.A t P E p.s := h.seq (Nat.zero_le _) (by decide) k g
theorem Nxt.opt {Q : α → Shared → Prop} {E : Value → Shared → Prop} {x : Option β} {G : Prop} (k : Nxt C l R p Q E (ofO x σ)) (g : ∀ d, x = some d → Nxt C l R p Q E (.ok d σ) → G) : G := match x, k with
  | some d, k => g d rfl k
theorem Nxt.if_ {Q : α → Shared → Prop} {E : Value → Shared → Prop} {c : Prop} [Decidable c] {G : Prop} (k : Nxt C l R p Q E (if c then o else .stuck)) (g : c → Nxt C l R p Q E o → G) : G := by
  by_cases h : c
  · rw [if_pos h] at k; exact g h k
  · rw [if_neg h] at k; exact k.elim
/-- a value at hand -/
theorem Nxt.now {Q : α → Shared → Prop} {E : Value → Shared → Prop} {d : β} {v : α} (k : Nxt C l R p Q E (.ok d σ)) (S : Sim C p σ) (r : R p v d) : Q v p.s := k v p ⟨.refl _ _ _, S, r⟩
end
end Mine

namespace Mine
open PySem PySem.W PySem.Calls PyProof.Rows

/-! how a heap turns -/
structure Off (C : Cx) (h h' : Heap) (b : Addr) : Prop where
  g : C.g.get? b = none
  nF : b ∉ C.F
  nL : b ≠ C.env.locals
  cs : b ∈ C.cs → (∃ o, h'.get? b = some o) ∧ ∃ o vs, h.get? b = some o ∧ o.data = .fields vs
structure Mv (C : Cx) (X : List Addr) (h h' : Heap) : Prop where
  kp : ∀ b o, b ∉ X → b ≠ C.env.locals → b ∉ C.F → h.get? b = some o → h'.get? b = some o
  sl : ∀ L ∈ C.F, L ≠ C.env.locals → ∀ o, h.get? L = some o → Slt h' L o
  off : ∀ b ∈ X, Off C h h' b

theorem mem_H {C : Cx} {b : Addr} : b ∈ C.H ↔ b = C.env.locals ∨ b ∈ C.F ∨ b ∈ C.cs := by rw [List.mem_cons, List.mem_append]
theorem nH_L {C : Cx} {b : Addr} (n : b ∉ C.H) : b ≠ C.env.locals := fun q => n (mem_H.mpr (.inl q))
theorem nH_F {C : Cx} {b : Addr} (n : b ∉ C.H) : b ∉ C.F := fun q => n (mem_H.mpr (.inr (.inl q)))
theorem nH_cs {C : Cx} {b : Addr} (n : b ∉ C.H) : b ∉ C.cs := fun q => n (mem_H.mpr (.inr (.inr q)))
theorem Off.of {C : Cx} {h h' : Heap} {b : Addr} (g : C.g.get? b = none) (n : b ∉ C.H) : Off C h h' b := ⟨g, nH_F n, nH_L n, fun q => absurd q (nH_cs n)⟩
theorem Mv.locals {C : Cx} {h h' : Heap} (k : KpL C.env.locals h h') : Mv C [] h h' := ⟨fun b o _ n _ e => k b o n e, fun _ _ n o e => ⟨o.slots, k _ _ n e⟩, fun _ q => nomatch q⟩
section
variable {C : Cx} {p p' : Pt} {σ : ASt} {h h' : Heap} {m m' : Str → Option Value} {X l l' : List Addr}

theorem Core.above (K : Core C h m) {b : Addr} {o : Obj} (e : C.g.get? b = some o) : b ≠ C.env.locals := Nat.ne_of_lt (Nat.lt_of_lt_of_le (Heap.lt_size e) K.fr.above)
theorem Core.nF (K : Core C h m) {b : Addr} {o : Obj} (e : h.get? b = some o) (q : ∀ es k, o.data ≠ .dict es k) : b ∉ C.F := fun z => (K.objs b z).ne e q rfl
theorem Core.nL (K : Core C h m) {b : Addr} {o : Obj} (e : h.get? b = some o) (q : ∀ es k, o.data ≠ .dict es k) : b ≠ C.env.locals := ns_ne K.fr.ns e q
theorem Mv.kp' (M : Mv C X h h') (K : Core C h m) {b : Addr} {o : Obj} (n : b ∉ X) (e : h.get? b = some o) (q : ∀ es k, o.data ≠ .dict es k) : h'.get? b = some o := M.kp b o n (K.nL e q) (K.nF e q) e
theorem Mv.ex (M : Mv C X h h') {b : Addr} (hx : b ∈ X → ∃ o, h'.get? b = some o) (n : b ≠ C.env.locals) (e : ∃ o, h.get? b = some o) : ∃ o, h'.get? b = some o := by
  obtain ⟨o, e⟩ := e
  by_cases q : b ∈ X
  · exact hx q
  · by_cases q' : b ∈ C.F
    · obtain ⟨sl, e'⟩ := M.sl b q' n o e; exact ⟨_, e'⟩
    · exact ⟨o, M.kp b o q n q' e⟩
theorem Mv.nX (M : Mv C X h h') {b : Addr} {o : Obj} (hc : b ∈ C.cs) (e : h.get? b = some o) (q : ∀ vs, o.data ≠ .fields vs) : b ∉ X := fun z => by
  obtain ⟨_, o', vs, e', d⟩ := (M.off b z).cs hc
  rw [e] at e'
  cases e'
  exact q _ d
theorem Core.mv (hC : CxOk C) (K : Core C h m) (M : Mv C X h h') (n : h'.Ns C.env.locals m') : Core C h' m' where
  fr := ⟨n, fun b o e => M.kp b o (fun q => some_ne e (M.off b q).g rfl) (K.above e) (fun q => some_ne e (hC.gF b q) rfl) (K.fr.keep b o e), K.fr.above⟩
  objs L hL := by
    by_cases q : L = C.env.locals
    · exact q ▸ ns_dic n
    · exact (K.objs L hL).slt (M.sl L hL q)
  out L hL o e := by
    obtain ⟨sl, z⟩ := K.out L hL o e
    obtain ⟨sl', z'⟩ := M.sl L hL (some_ne e hC.newL) _ z
    exact ⟨sl', z'⟩
  co c hc := M.ex (fun q => ((M.off c q).cs hc).1) (hC.csL c hc) (K.co c hc)
  cl y c hk hy := by
    obtain ⟨o, v, e, d⟩ := K.cl y c hk hy
    obtain ⟨c', hc, hy'⟩ := hC.cells y hk
    rw [hy] at hy'
    cases hy'
    exact ⟨o, v, M.kp' K (M.nX hc e fun vs z => by rw [d] at z; cases z) e (fun es k z => by rw [d] at z; cases z), d⟩
theorem VarAt.mv (K : Core C h m) (M : Mv C X h h') {k : Nat} {v : Value} (x : VarAt C h m k v) (hm : ∀ y, C.names[k]? = some y → m' y = m y) : VarAt C h' m' k v := by
  cases x with
  | loc x hx hk hm' => exact .loc x hx hk ((hm x hx).trans hm')
  | cell x c o hx hk hc hi e d => exact .cell x c o hx hk hc hi (M.kp' K (M.nX hi e fun vs z => by rw [d] at z; cases z) e fun es k z => by rw [d] at z; cases z) d
theorem Mv.up (M : Mv C X h h') (hX : ∀ b ∈ X, b ∈ l) (hH : ∀ b ∈ C.H, b ∈ l) (s : ∀ b ∈ l', b ∈ l) : (hideAll h l).StaysIn (hideAll h' l') :=
  hb_mono (fun b o n e => M.kp b o (fun q => n (hX b q)) (fun q => n (hH b (mem_H.mpr (.inl q)))) (fun q => n (hH b (mem_H.mpr (.inr (.inl q))))) e) s
theorem Mv.upS (M : Mv C X h h') (hX : ∀ b ∈ X, b ∈ l ∨ ∃ o vs, h.get? b = some o ∧ o.data = .fields vs) (hH : ∀ b ∈ C.H, b ∈ l) (s : ∀ b ∈ l', b ∈ l) : SeqKeep (hideAll h l) (hideAll h' l') := fun b o vs n e d => by
  obtain ⟨nb, e⟩ := hid_mem e
  refine hid_to (fun q => nb (s b q)) (M.kp b o (fun q => ?_) (fun q => nb (hH b (mem_H.mpr (.inl q)))) (fun q => nb (hH b (mem_H.mpr (.inr (.inl q))))) e)
  rcases hX b q with z | ⟨o', ws, e', d'⟩
  · exact nb z
  · rw [e] at e'; cases e'; rw [d] at d'; cases d'
theorem hH {oa xa : List Addr} : ∀ b ∈ C.H, b ∈ C.H ++ (oa ++ xa) := fun _ q => List.mem_append_left _ q
theorem hX {oa xa : List Addr} : ∀ b ∈ xa, b ∈ C.H ++ (oa ++ xa) := fun _ q => List.mem_append_right _ (List.mem_append_right _ q)
theorem hO {oa xa : List Addr} : ∀ b ∈ oa, b ∈ C.H ++ (oa ++ xa) := fun _ q => List.mem_append_right _ (List.mem_append_left _ q)
theorem OwAt.nil {k : Nat} (x : OwAt C p k none) : p.oa = [] := x
theorem Sim.ex (S : Sim C p σ) : ∀ b ∈ p.oa, (∃ o, p.s.heap.get? b = some o) ∧ C.g.get? b = none ∧ b ∉ C.H ∧ b ∉ p.xa := fun b hb => by
  have ow := S.ow
  cases ho : σ.own with
  | none => rw [ho] at ow; rw [ow.nil] at hb; cases hb
  | some q =>
    rw [ho] at ow
    obtain ⟨⟨a, vs, n, x, eo, _, _, _, L⟩, _⟩ := ow
    rw [eo] at hb
    cases List.mem_singleton.mp hb
    exact ⟨⟨_, L.e⟩, L.g, L.nH, L.nx⟩
theorem Sim.there (S : Sim C p σ) : There (C.H ++ (p.oa ++ p.xa)) p.s.heap := fun b hb => by
  rcases List.mem_append.mp hb with hb | hb
  · rcases mem_H.mp hb with rfl | hb | hb
    · obtain ⟨o, _, _, e, _⟩ := ns_dic S.co.fr.ns; exact ⟨o, e⟩
    · obtain ⟨o, _, _, e, _⟩ := S.co.objs b hb; exact ⟨o, e⟩
    · exact S.co.co b hb
  · rcases List.mem_append.mp hb with hb | hb
    · exact (S.ex b hb).1
    · exact (S.xg b hb).th
theorem Sim.gk (S : Sim C p σ) (hC : CxOk C) : C.gk.StaysIn (hb C p) := fun b o e => hid_to (fun q => by
  rcases List.mem_append.mp q with q | q
  · exact some_ne e (hC.hid b q) rfl
  · rcases List.mem_append.mp q with q | q
    · exact some_ne (hC.gkg _ _ e) (S.ex b q).2.1 rfl
    · exact some_ne (hC.gkg _ _ e) (S.xg b q).g rfl) (S.co.fr.keep b o (hC.gkg b o e))
theorem Sim.inn (S : Sim C p σ) (hC : CxOk C) : C.G.K.In p.s.heap := (hC.gl.inn.keeps (S.gk hC)).keeps hid_le
theorem NewL.mv {p' : Pt} {a : Addr} {vs : Array Value} {n : Nat} {xs : List Dat} (L : NewL C p a vs n xs) (e : p'.s.heap.get? a = some (listOf vs n)) (u : SeqKeep (hb C p) (hb C p')) (ex : p'.xa = p.xa) : NewL C p' a vs n xs := ⟨e, L.r.seq u, L.hE, L.g, by rw [ex]; exact L.nx, L.nH⟩
/-- the object that is changed in place, where it is not turned -/
theorem StOf.mv {p' : Pt} {st : Option St} (K : Core C p.s.heap p.m) (xg : ∀ b ∈ p.xa, XaIs C p.s.heap b) (x : StOf C p st) (M : Mv C X p.s.heap p'.s.heap) (hX : ∀ b ∈ X, ∀ o, p.s.heap.get? b = some o → (∃ vs, o.data = .fields vs) ∨ (b ∉ p.xa ∧ o.data ≠ .plain)) (u : SeqKeep (hb C p) (hb C p')) (ex : p'.xa = p.xa) (hm : p'.m C.sk = p.m C.sk) : StOf C p' st := by
  cases st with
  | none => exact ex.trans x
  | some st =>
    obtain ⟨o, ne, hm', hk, sa⟩ := x
    refine ⟨o, by rw [ex]; exact ne, hm.trans hm', hk, ?_⟩
    rw [ex]
    refine sa.mv u (fun b hb' ob e q => M.kp b ob (fun z => ?_) (nH_L (xg b hb').nH) (nH_F (xg b hb').nH) e) fun ob e q => M.kp' K (fun z => ?_) e fun es k z => by rw [q] at z; cases z
    · rcases hX b z ob e with ⟨vs, d⟩ | ⟨n, _⟩
      · exact q vs d
      · exact n hb'
    · rcases hX o z ob e with ⟨vs, d⟩ | ⟨_, n⟩
      · rw [q] at d; cases d
      · exact n q
/-- the state goes on: X is of the object's own or bears records -/
theorem Sim.mv (hC : CxOk C) (S : Sim C p σ) (M : Mv C X p.s.heap h') (n : h'.Ns C.env.locals m') (hm : ∀ y, y ∈ C.names → m' y = p.m y) (hx : ∀ b ∈ X, b ∈ p.xa ∨ ∃ o vs, p.s.heap.get? b = some o ∧ o.data = .fields vs) (th : There p.xa h') {tk : Nat} {st : Option St}
    (hst : SeqKeep (hb C p) (hideAll h' (C.H ++ (p.oa ++ p.xa))) → StOf C ⟨{ p.s with heap := h', toks := tk }, m', p.oa, p.xa⟩ st) : Sim C ⟨{ p.s with heap := h', toks := tk }, m', p.oa, p.xa⟩ { σ with st } := by
  have u : SeqKeep (hb C p) (hideAll h' (C.H ++ (p.oa ++ p.xa))) := M.upS (fun b q => (hx b q).imp (hX b) id) hH fun _ q => q
  refine ⟨S.co.mv hC M n, fun k d e => ?_, ?_, hst u, fun b q => ⟨(S.xg b q).g, (S.xg b q).nH, th b q⟩⟩
  · obtain ⟨v, x, r⟩ := S.vs k d e
    exact ⟨v, x.mv S.co M fun y hy => hm y (List.mem_of_getElem? hy), r.seq u⟩
  · have ow := S.ow
    revert ow
    show OwAt C p σ.vars.length σ.own → OwAt C _ σ.vars.length σ.own
    cases σ.own with
    | none => exact id
    | some q =>
      rintro ⟨⟨a, vs, n', x, eo, hx', hk, hm', L⟩, hl⟩
      refine ⟨⟨a, vs, n', x, eo, hx', hk, (hm x (List.mem_of_getElem? hx')).trans hm', L.mv (M.kp' S.co (fun z => ?_) L.e fun _ _ z => nomatch z) u rfl⟩, hl⟩
      rcases hx a z with z | ⟨o, ws, e, d⟩
      · exact L.nx z
      · rw [L.e] at e; cases e; cases d
theorem Aftr.of {l : Nat} {tk : Nat} {oa : List Addr} (u : l ≤ 1 → (hb C p).StaysIn (hideAll h' (C.H ++ (oa ++ p.xa)))) (hs : m' C.sk = p.m C.sk) (fx : l = 0 → m' = p.m) : Aftr C l p ⟨{ p.s with heap := h', toks := tk }, m', oa, p.xa⟩ := ⟨rfl, .inl ⟨rfl, hs⟩, u, fun q => ⟨fx q, rfl⟩⟩
/-- where only what is new stands besides -/
theorem Sim.step (hC : CxOk C) (S : Sim C p σ) (F : Fr C.g C.env.locals h' p.m) (k : KpL C.env.locals p.s.heap h') (tk : Nat) : Sim C (p.to h' tk) σ ∧ Aftr C 0 p (p.to h' tk) :=
  ⟨S.mv hC (.locals k) F.ns (fun _ _ => rfl) (fun _ q => nomatch q) (fun b q => let ⟨o, e⟩ := (S.xg b q).th; ⟨o, k _ _ (nH_L (S.xg b q).nH) e⟩) fun u => StOf.mv S.co S.xg S.st (.locals k) (fun _ q => nomatch q) u rfl rfl,
    .of (fun _ => (Mv.locals k).up (fun _ q => nomatch q) hH fun _ q => q) rfl fun _ => rfl⟩
theorem Sim.toks (S : Sim C p σ) (tk : Nat) : Sim C (p.to p.s.heap tk) σ := ⟨S.co, S.vs, by
  have := S.ow
  revert this
  cases σ.own with
  | none => exact id
  | some q => rintro ⟨⟨a, vs, n, x, eo, hx', hk, hm', L⟩, hl⟩; exact ⟨⟨a, vs, n, x, eo, hx', hk, hm', ⟨L.e, L.r, L.hE, L.g, L.nx, L.nH⟩⟩, hl⟩, by
  have := S.st
  revert this
  cases σ.st with
  | none => exact id
  | some q => rintro ⟨o, ne, hm, hk, sa⟩; exact ⟨o, ne, hm, hk, sa⟩, S.xg⟩
theorem Aftr.toks {l : Nat} (tk : Nat) : Aftr C l p (p.to p.s.heap tk) := .of (fun _ _ _ e => e) rfl fun _ => rfl
theorem Nxt.nowT {α β : Type} {l : Nat} {R : Pt → α → β → Prop} {Q : α → Shared → Prop} {E : Value → Shared → Prop} {d : β} {v : α} {tk : Nat} (k : Nxt C l R p Q E (.ok d σ)) (S : Sim C p σ) (r : R (p.to p.s.heap tk) v d) : Q v { p.s with toks := tk } := k v (p.to p.s.heap tk) ⟨Aftr.toks tk, S.toks tk, r⟩
/-- an operation's value is met -/
theorem Sim.op (hC : CxOk C) (S : Sim C p σ) {l : Nat} {d : Dat} {Q : Value → Shared → Prop} {E : Value → Shared → Prop} (k : Nxt C l (RV C) p Q E (.ok d σ)) : Knt C.g C.env.locals p.m (hb C p) p.s d Q := fun r h' tk F' kp R => by
  obtain ⟨S', A⟩ := S.step hC F' kp tk
  refine k r (p.to h' tk) ⟨A.to (Nat.zero_le _), S', R _ (A.up (Nat.zero_le _)) fun b o e e' => hid_to (fun q => ?_) e'⟩
  obtain ⟨o', z⟩ := S.there b q
  exact some_ne z e rfl
end
end Mine

namespace Mine
open PySem PySem.W PySem.Calls PyProof.Rows

theorem loc_ne {id : Str} (h : (!(id == ("__debug__" : Str))) = true) : (id == ("__debug__" : Str)) = false := (Bool.not_eq_true' _).mp h
theorem lk {o : Option NameKind} {k : NameKind} (h : (o == some k) = true) : o = some k := eq_of_beq h
section
variable {C : Cx} {p : Pt} {σ : ASt} {s : Shared} {m : Str → Option Value} {A : Around} {E : Value → Shared → Prop} {Q : Value → Shared → Prop} {v : Value}
theorem isVar_nm {k : Nat} (h : C.mc.isVar k = true) : C.names[k]? = some (C.mc.nm k) := eq_of_beq (and_l (and_l h))
theorem isLoc_k {x : Str} (h : C.mc.isLocal x = true) : C.env.kindOf x = some .local := lk (and_l h)
theorem ld_loc (hC : CxOk C) (K : Core C s.heap m) {x : Str} {pos : Pos} (hv : m x = some v) (h : C.mc.isLocal x = true) (q : Q v s) : wpAny C.M A (eval (.Name x pos) C.env) Q E s :=
  wpAny_Name (wpAny_loadName_local hC.kind (isLoc_k h) K.fr.ns hv q) (loc_ne (and_r h))
theorem ld_var (hC : CxOk C) (K : Core C s.heap m) {k : Nat} {pos : Pos} (hv : VarAt C s.heap m k v) (h : C.mc.isVar k = true) (q : Q v s) : wpAny C.M A (eval (.Name (C.mc.nm k) pos) C.env) Q E s := by
  cases hv with
  | loc x hx hk hm =>
    cases (isVar_nm h).symm.trans hx
    exact wpAny_Name (wpAny_loadName_local hC.kind hk K.fr.ns hm q) (loc_ne (and_r (and_l h)))
  | cell x c o hx hk hc hi e d =>
    cases (isVar_nm h).symm.trans hx
    exact wpAny_Name (wpAny_loadName_cell hC.kind hk hc ⟨o, e, d⟩ q) (loc_ne (and_r (and_l h)))
theorem ld_glob (hC : CxOk C) (K : Core C s.heap m) {x : Str} {pos : Pos} (hv : nsIn C.G.K mainGlobals x = some (some v)) (h : C.mc.isGlob x = true) (q : Q v s) : wpAny C.M A (eval (.Name x pos) C.env) Q E s := by
  refine Calls.Name_function_global hC.kind (lk (and_l h)) (Calls.loadGlobal_global (mg := C.G.mg) ?_ (mg_of hC.gl.inn hC.gl.top.g hv) q) (loc_ne (and_r h))
  rw [hC.glob]
  exact (hC.gl.top.g.keeps hC.gkg).keeps K.fr.keep
theorem ld_blt (hC : CxOk C) (K : Core C s.heap m) {x : Str} {pos : Pos} (hv : nsIn C.G.K mainGlobals x = some none) (hb : bootBuiltins x = some v) (hn : x ≠ "__name__") (h : C.mc.isGlob x = true) (q : Q v s) : wpAny C.M A (eval (.Name x pos) C.env) Q E s := by
  refine Calls.Name_function_global hC.kind (lk (and_l h)) (Calls.loadGlobal_builtin (mg := C.G.mg) (mb := C.G.mb) ?_ (mg_none_of hC.gl.inn hC.gl.top.g hv) ?_ ((hC.gl.top.builtins x hn).trans hb) q) (loc_ne (and_r h))
  · rw [hC.glob]
    exact (hC.gl.top.g.keeps hC.gkg).keeps K.fr.keep
  · rw [hC.bns]
    exact (hC.gl.top.b.keeps hC.gkg).keeps K.fr.keep
/-- the list of one's own becomes a value as others are -/
theorem Sim.freeze (S : Sim C p σ) : Sim C ⟨p.s, p.m, [], p.xa⟩ (freeze σ) ∧ (hb C p).StaysIn (hb C ⟨p.s, p.m, [], p.xa⟩) := by
  have up : (hb C p).StaysIn (hb C ⟨p.s, p.m, [], p.xa⟩) := hid_sub fun b q => (List.mem_append.mp q).elim (hH b) (hX b)
  refine ⟨?_, up⟩
  obtain ⟨s, m, oa, xa⟩ := p
  obtain ⟨vars, own, st⟩ := σ
  cases own with
  | none =>
    cases (S.ow : oa = [])
    exact S
  | some q =>
    obtain ⟨k, xs⟩ := q
    obtain ⟨⟨a, vs, n, x, eo, hx', hk, hm', L⟩, hl⟩ := S.ow
    cases (eo : oa = [a])
    refine ⟨S.co, fun j d e => ?_, rfl, StOf.mv (X := []) S.co S.xg S.st ⟨fun _ _ _ _ _ e => e, fun _ _ _ o e => ⟨o.slots, e⟩, fun _ q => nomatch q⟩ (fun _ q => nomatch q) (.of up) rfl rfl, S.xg⟩
    have e : (vars.set k (some (.list xs)))[j]? = some (some d) := e
    by_cases q : k = j
    · cases q
      rw [List.getElem?_set_self hl] at e
      cases Option.some.inj (Option.some.inj e)
      have na : a ∉ C.H ++ ([] ++ xa) := fun z => (List.mem_append.mp z).elim L.nH L.nx
      exact ⟨.ref a, .loc x hx' hk hm', .list (n := n) (vs := vs.toList) (by rw [Array.toArray_toList]; exact hid_to na L.e) (L.r.mono up)⟩
    · rw [List.getElem?_set_ne q] at e
      obtain ⟨v, x, r⟩ := S.vs j d e
      exact ⟨v, x, r.mono up⟩
end

noncomputable def SE (C : Cx) (p : Pt) (o : Out Dat) (ex : Expr) : Prop := Snd C 0 (RV C) p o (eval ex C.env)
structure Both (C : Cx) (p : Pt) (o : Out Dat) (ex : Expr) : Prop where
  e : SE C p o ex
  t : Snd C 0 RB p (o.bind fun d σ₁ => ofO (asB d) σ₁) (isTrue ex C.env (eval ex C.env))
noncomputable def IhE (n : Nat) : Prop := ∀ C, CxOk C → ∀ e ex, okE n C.mc e ex = true → ∀ p σ, Sim C p σ → Both C p (evE C.O n e σ) (nrmE n C.mc e ex)
section
variable {C : Cx} {p : Pt} {σ : ASt} {n : Nat} {ex : Expr} {o : Out Dat}
theorem asB_nxt {α : Type} {R : Pt → α → Bool → Prop} {Q : α → Shared → Prop} {E : Value → Shared → Prop} {d : Dat} {v : Value} {G : Prop} (r : RV C p v d) (k : Nxt C 0 R p Q E (ofO (asB d) σ)) (g : ∀ b, v = .bool b → d = .bool b → Nxt C 0 R p Q E (.ok b σ) → G) : G := by
  cases d
  case bool b => exact g b r.bool_inv rfl k
  all_goals exact k.elim
/-- a test that is no connective: its value is asked -/
theorem SE.both (h : SE C p o ex) (hw : isTrue ex C.env (eval ex C.env) = (do let v ← eval ex C.env; standAt ex.pos; holding [v] (truthy v))) : Both C p o ex := ⟨h, fun Q E k => isTrue_plain (h.sq k fun d σ₁ v p₁ g k => asB_nxt g.r k fun b e1 _ k => by rw [e1]; exact wpAny_truthy_bool (k.now g.S rfl)) hw⟩

theorem b_const {d : Dat} (S : Sim C p σ) (h : isC d = true) : Both C p (.ok d σ) (.Constant (cst d) (nOf ex) ex.pos) := by
  refine SE.both (fun Q E k => ?_) rfl
  cases d
  case none => exact Constant_none (k.now S .none)
  case bool => exact Constant_bool (k.now S (.bool _))
  case int => exact wpAny_Constant_int (k.nowT S (.int _ _))
  case str => exact Calls.Constant_str (k.nowT S (.str _ _))
  case bytes b => obtain ⟨b⟩ := b; exact Constant_bytes (k.nowT S (.bytes _ _))
  all_goals exact nomatch h
theorem b_neg {i : Int} (S : Sim C p σ) : Both C p (.ok (.int (-i)) σ) (.UnaryOp .USub (.Constant (.int i) (nOf (kid ex 0)) (kid ex 0).pos) ex.pos) := SE.both (fun Q E k => UnaryOp_ (wpAny_Constant_int (neg_int (k.nowT S (.int _ _))))) rfl
theorem var_get {α γ : Type} {vars : List (Option Dat)} {k : Nat} {f : Dat → Out α} {R : Pt → γ → α → Prop} {Q : γ → Shared → Prop} {E : Value → Shared → Prop} {l : Nat} {G : Prop} (kk : Nxt C l R p Q E (match vars[k]? with | some (some d) => f d | _ => .stuck)) (g : ∀ d, vars[k]? = some (some d) → Nxt C l R p Q E (f d) → G) : G := by
  cases e : vars[k]? with
  | none => rw [e] at kk; exact kk.elim
  | some o =>
    rw [e] at kk
    cases o with
    | none => exact kk.elim
    | some d => exact g d e kk
theorem b_var (hC : CxOk C) {k : Nat} (S : Sim C p σ) (h : C.mc.isVar k = true) : Both C p (stepE C.O (evE C.O n) (.var k) σ) (nmE C.mc k ex) := by
  refine SE.both (fun Q E kk => ?_) rfl
  have plain : Nxt C 0 (RV C) p Q E (match σ.vars[k]? with | some (some d) => .ok d σ | _ => .stuck) → wpAny C.M C.A (eval (nmE C.mc k ex) C.env) Q E p.s := fun kk => var_get (f := fun d => .ok d σ) kk fun d e kk => by
    obtain ⟨v, x, r⟩ := S.vs k d e
    exact ld_var hC S.co x h (kk.now S r)
  obtain ⟨vars, own, st⟩ := σ
  cases own with
  | none => exact plain kk
  | some q =>
    obtain ⟨j, xs⟩ := q
    have kk : Nxt C 0 (RV C) p Q E (if j = k then .ok (.list xs) (freeze ⟨vars, some (j, xs), st⟩) else (match vars[k]? with | some (some d) => .ok d ⟨vars, some (j, xs), st⟩ | _ => .stuck)) := kk
    by_cases q : j = k
    · subst q
      rw [if_pos rfl] at kk
      obtain ⟨S', up⟩ := S.freeze
      obtain ⟨v, x, r⟩ := S'.vs j (.list xs) (List.getElem?_set_self S.ow.2)
      exact ld_var hC S.co x h (kk v ⟨p.s, p.m, [], p.xa⟩ ⟨⟨rfl, .inl ⟨rfl, rfl⟩, fun _ => up, fun _ => ⟨rfl, rfl⟩⟩, S', r⟩)
    · rw [if_neg q] at kk
      exact plain kk
theorem b_glob (hC : CxOk C) {j : Nat} (S : Sim C p σ) (h : C.mc.isGlob (C.mc.gn j) = true) : Both C p (ofO (C.O.g j) σ) (.Name (C.mc.gn j) ex.pos) := SE.both (fun Q E k => k.opt fun d e k => by
  obtain ⟨v, hv, r⟩ := hC.w.consts j d e
  exact ld_glob hC S.co hv h (k.now S ((r _ hC.gl.inn).mono (S.gk hC)))) rfl
theorem b_bin (hC : CxOk C) (ih : IhE n) {op : Operator} {a b : IE} (S : Sim C p σ) (h : (okE n C.mc a (kid ex 0) && okE n C.mc b (kid ex 1)) = true) : Both C p (stepE C.O (evE C.O n) (.bin op a b) σ) (nrm (nrmE n) C.mc (.bin op a b) ex) :=
  SE.both (fun Q E k => wpAny_BinOp ((ih C hC _ _ (and_l h) p σ S).e.sq k fun x σ₁ u p₁ g₁ k => (ih C hC _ _ (and_r h) p₁ σ₁ g₁.S).e.sq k fun y σ₂ v p₂ g₂ k => k.opt fun d e k => bin_ok g₂.S.co.fr hid_le e (g₂.A.rp g₁.r) g₂.r (g₂.S.op hC k))) rfl
end
end Mine

namespace Mine
open PySem PySem.W PySem.Calls PyProof.Rows

section
variable {M : Model} {A : Around} {E : Value → Shared → Prop} {s : Shared} {env : Env} {l : Expr} {ops : List CmpOp} {xs : List Expr} {pos : Pos}
theorem Compare_any {Q : Value → Shared → Prop} (hm : lastMarks ops xs = false) (h : wpAny M A (eval l env) (fun a s₁ => wpAny M A (compareChain pos a ops (evalEach xs env)) Q E s₁) E s) :
    wpAny M A (eval (.Compare l ops xs pos) env) Q E s := by
  show wpAny M A (do compareChain pos (← eval l env) ops (markedEach ops xs (evalEach xs env))) Q E s
  rw [markedEach_of_false ops xs _ hm]
  exact wpAny_bind h
theorem isTrue_any {whole : Sem Value} {Q : Bool → Shared → Prop} (hm : lastMarks ops xs = false) (h : wpAny M A (eval l env) (fun a s₁ => wpAny M A (testChain pos a ops (evalEach xs env)) Q E s₁) E s) :
    wpAny M A (isTrue (.Compare l ops xs pos) env whole) Q E s := by
  show wpAny M A (do testChain pos (← eval l env) ops (markedEach ops xs (evalEach xs env))) Q E s
  rw [markedEach_of_false ops xs _ hm]
  exact wpAny_bind h
theorem mcall {o : Expr} {name : Str} {apos pos : Pos} {args : List Expr} {Q : Value → Shared → Prop} (hb : attributeBase o name env (eval o env) = eval o env) (few : methodCallForm (args.length + 0) (backTo pos (starEach args env)) [] = true) (hp : (apos.endLine == pos.line) = true)
    (h : wpAny M A (eval o env) (fun ov s₁ => wpAny M A (getMethod ov name (do return (← importBound o env).getD true)) (fun fx s₂ => wpAny M A (callWith pos fx.1 fx.2 (backTo pos (starEach args env)) []) Q E s₂) E s₁) E s) :
    wpAny M A (eval (.Call (.Attribute o name apos) args [] pos) env) Q E s := by
  show wpAny M A (do
    let ov ← attributeBase o name env (eval o env)
    standAt apos.atName
    methodCall o name apos pos env ov (args.length + 0) (backTo pos (starEach args env)) []) Q E s
  rw [hb]
  refine wpAny_bind (wpAny_mono h (fun ov s₁ h₁ => wpAny_bind (wpAny_standAt ?_)) fun _ _ x => x)
  unfold methodCall calleeOf methodCallPos
  simp only [few, if_true, hp, Bool.not_true, Bool.false_or]
  refine wpAny_bind (wpAny_holding (wpAny_mono h₁ (fun fx s₂ h₂ => ?_) fun _ _ x => x))
  exact wpAny_bind (wpAny_pure h₂)
end
theorem Out.assoc {α β γ : Type} (o : Out α) (f : α → ASt → Out β) (g : β → ASt → Out γ) : (o.bind f).bind g = o.bind fun d σ => (f d σ).bind g := by cases o <;> rfl
theorem test_eq {β : Type} {G : Dat → ASt → Out β} {f : Bool → ASt → Out β} (h1 : ∀ b σ, G (.bool b) σ = f b σ) (h2 : ∀ d σ, asB d = none → G d σ = .stuck) (o : Out Dat) : o.bind G = (o.bind fun d σ₁ => ofO (asB d) σ₁).bind f := by
  cases o with
  | ok d σ => cases d <;> first | exact h1 _ _ | exact h2 _ _ rfl
  | exc => rfl
  | stuck => rfl
section
variable {α β γ : Type} {C : Cx} {l : Nat} {p : Pt} {Q : α → Shared → Prop} {E : Value → Shared → Prop} {R : Pt → α → γ → Prop} {o : Out β}
theorem Nxt.assoc {δ : Type} {f : β → ASt → Out δ} {g : δ → ASt → Out γ} (k : Nxt C l R p Q E ((o.bind f).bind g)) : Nxt C l R p Q E (o.bind fun d σ => (f d σ).bind g) := Out.assoc o f g ▸ k
theorem Nxt.test {o : Out Dat} {G : Dat → ASt → Out γ} {f : Bool → ASt → Out γ} (k : Nxt C l R p Q E (o.bind G)) (h1 : ∀ b σ, G (.bool b) σ = f b σ) (h2 : ∀ d σ, asB d = none → G d σ = .stuck) : Nxt C l R p Q E ((o.bind fun d σ₁ => ofO (asB d) σ₁).bind f) := test_eq h1 h2 o ▸ k
end
section
variable {env : Env} {c : MC} {e : IE} {x : Expr} {xs : List Expr} {pos : Pos} {n : Nat}
theorem star_n : starEach (nrmE n c e x :: xs) env = (false, eval (nrmE n c e x) env) :: starEach xs env := by
  cases n with
  | zero => rfl
  | succ n => cases e <;> rfl
theorem stars_n : ∀ {es : List IE} {xs : List Expr}, (backTo pos (starEach (nL (nrmE n) c es xs) env)).any (·.1) = false ∧ (backTo pos (starEach (nL (nrmE n) c es xs) env)).all (!·.1) = true
  | [], _ => ⟨rfl, rfl⟩
  | e :: es, xs => by
    show (backTo pos (starEach (nrmE n c e (xs.headD default) :: nL (nrmE n) c es xs.tail) env)).any (·.1) = false ∧ (backTo pos (starEach (nrmE n c e (xs.headD default) :: nL (nrmE n) c es xs.tail) env)).all (!·.1) = true
    rw [star_n]
    exact stars_n (es := es)
theorem nL_len : ∀ {es : List IE} {xs : List Expr}, (nL (nrmE n) c es xs).length = es.length
  | [], _ => rfl
  | _ :: es, _ => congrArg Nat.succ (nL_len (es := es))
theorem spliced_n {M : Model} {A : Around} {Q : List Value → Shared → Prop} {E : Value → Shared → Prop} {s : Shared} (h : wpAny M A (eval (nrmE n c e x) env) (fun v s₁ => wpAny M A (spliced (backTo pos (starEach xs env))) (fun vs s₂ => Q (v :: vs) s₂) E s₁) E s) : wpAny M A (spliced (backTo pos (starEach (nrmE n c e x :: xs) env))) Q E s := by
  rw [star_n]
  exact spliced_cons h
theorem sub_n (o i : Value) : subscripted (nrmE n c e x) false o i = operate [o, i] (getItem o i) := by
  cases n with
  | zero => rfl
  | succ n => cases e <;> rfl
theorem set_n (v : Value) : foldedSetIterable (nrmE n c e x) env v = pure v := by
  cases n with
  | zero => rfl
  | succ n => cases e <;> rfl
end

section
variable {C : Cx} {p : Pt} {σ : ASt} {n : Nat} {ex : Expr} {pos : Pos}
theorem b_not (hC : CxOk C) (ih : IhE n) {a : IE} (S : Sim C p σ) (h : okE n C.mc a (kid ex 0) = true) : Both C p (stepE C.O (evE C.O n) (.not a) σ) (nrm (nrmE n) C.mc (.not a) ex) :=
  ⟨fun Q E k => UnaryOp_ ((ih C hC _ _ h p σ S).e.sq k fun d σ₁ v p₁ g k => by
      cases d
      case bool b => rw [g.r.bool_inv]; exact not_of (wpAny_truthy_bool (k.now g.S (.bool _)))
      all_goals exact k.elim),
    fun Q E k => isTrue_not ((ih C hC _ _ h p σ S).t.sq (f := fun b σ => .ok (!b) σ) (Nxt.test (Nxt.assoc k) (fun _ _ => rfl) fun d σ h => by cases d <;> first | rfl | exact no_some h.symm) fun b σ₁ v p₁ g k => by cases g.r; exact k.now g.S rfl)⟩

theorem s_conn (hC : CxOk C) (ih : IhE n) {op : BoolOp} : ∀ (es : List IE) (xs : List Expr) (p : Pt) (σ : ASt), es ≠ [] → okL (okE n) C.mc es xs = true → Sim C p σ → SE C p ((evConn (evE C.O n) op es σ).bind fun b σ₁ => .ok (.bool b) σ₁) (.BoolOp op (nL (nrmE n) C.mc es xs) pos)
  | [], _, _, _, h, _, _ => absurd rfl h
  | [e], xs, p, σ, _, h, S => fun Q E k => BoolOp_one ((ih C hC _ _ (and_l h) p σ S).e.sq (Nxt.assoc k) fun d σ₁ v p₁ g k => by
      cases d
      case bool b => cases op <;> cases b <;> exact k.now g.S g.r
      all_goals exact k.elim)
  | e :: f :: es, xs, p, σ, _, h, S => fun Q E k => by
      cases op with
      | And =>
        refine BoolOp_and ((ih C hC _ _ (and_l h) p σ S).e.sq (Nxt.assoc k) fun d σ₁ v p₁ g k => ?_)
        cases d
        case bool b =>
          rw [g.r.bool_inv]
          refine wpAny_truthy_bool ?_
          cases b with
          | false => exact k.now g.S (.bool _)
          | true => exact s_conn hC ih (f :: es) xs.tail p₁ σ₁ (List.cons_ne_nil _ _) (and_r h) g.S Q E k
        all_goals exact k.elim
      | Or =>
        refine BoolOp_or ((ih C hC _ _ (and_l h) p σ S).e.sq (Nxt.assoc k) fun d σ₁ v p₁ g k => ?_)
        cases d
        case bool b =>
          rw [g.r.bool_inv]
          refine wpAny_truthy_bool ?_
          cases b with
          | true => exact k.now g.S (.bool _)
          | false => exact s_conn hC ih (f :: es) xs.tail p₁ σ₁ (List.cons_ne_nil _ _) (and_r h) g.S Q E k
        all_goals exact k.elim
theorem t_conn (hC : CxOk C) (ih : IhE n) {op : BoolOp} {whole : Sem Value} : ∀ (es : List IE) (xs : List Expr) (p : Pt) (σ : ASt), okL (okE n) C.mc es xs = true → Sim C p σ → Snd C 0 RB p (evConn (evE C.O n) op es σ) (isTrue (.BoolOp op (nL (nrmE n) C.mc es xs) pos) C.env whole)
  | [], _, p, σ, _, S => fun Q E k => by
      cases op with
      | And => exact isTrue_and_nil (k.now S rfl)
      | Or => exact isTrue_or_nil (k.now S rfl)
  | e :: es, xs, p, σ, h, S => fun Q E k => by
      have k : Nxt C 0 RB p Q E (((evE C.O n e σ).bind fun d σ₁ => ofO (asB d) σ₁).bind fun b σ₁ => connStep op b σ₁ (evConn (evE C.O n) op es σ₁)) := Nxt.test k (fun _ _ => rfl) fun d σ h => by cases d <;> first | rfl | exact no_some h.symm
      cases op with
      | And =>
        refine isTrue_and ((ih C hC _ _ (and_l h) p σ S).t.sq k fun b σ₁ v p₁ g k => ?_)
        cases g.r
        cases b with
        | false => exact k.now g.S rfl
        | true => exact t_conn hC ih es xs.tail p₁ σ₁ (and_r h) g.S Q E k
      | Or =>
        refine isTrue_or ((ih C hC _ _ (and_l h) p σ S).t.sq k fun b σ₁ v p₁ g k => ?_)
        cases g.r
        cases b with
        | true => exact k.now g.S rfl
        | false => exact t_conn hC ih es xs.tail p₁ σ₁ (and_r h) g.S Q E k
theorem ne_nil_of {α : Type} {l : List α} (h : (!l.isEmpty) = true) : l ≠ [] := fun q => by rw [q] at h; exact nomatch h
theorem Out.okB (o : Out Bool) : (o.bind fun b σ₁ => .ok (.bool b) σ₁).bind (fun d σ₁ => ofO (asB d) σ₁) = o := by cases o <;> rfl
theorem Nxt.unB {α : Type} {l : Nat} {R : Pt → α → Bool → Prop} {Q : α → Shared → Prop} {E : Value → Shared → Prop} (o : Out Bool) (k : Nxt C l R p Q E ((o.bind fun b σ₁ => .ok (.bool b) σ₁).bind fun d σ₁ => Mine.ofO (asB d) σ₁)) : Nxt C l R p Q E o := Out.okB o ▸ k
theorem b_conn (hC : CxOk C) (ih : IhE n) {op : BoolOp} {es : List IE} (S : Sim C p σ) (h : (!es.isEmpty && okL (okE n) C.mc es (kids ex)) = true) : Both C p (stepE C.O (evE C.O n) (.conn op es) σ) (nrm (nrmE n) C.mc (.conn op es) ex) :=
  ⟨s_conn hC ih es _ p σ (ne_nil_of (and_l h)) (and_r h) S, fun Q E k => t_conn hC ih es _ p σ (and_r h) S Q E (Nxt.unB _ k)⟩

theorem chain_eq {ev : IE → ASt → Out Dat} (a : Dat) (op : CmpOp) (ops : List CmpOp) (e : IE) (es : List IE) (σ : ASt) (h : ops.length = es.length) : evChain ev a (op :: ops) (e :: es) σ = (ev e σ).bind fun d σ₁ => (ofO (cmpD op a d) σ₁).bind fun b σ₂ =>
    match ops with
    | [] => .ok b σ₂
    | _ :: _ => if b then evChain ev d ops es σ₂ else .ok false σ₂ := by
  cases ops with
  | nil =>
    cases es with
    | nil =>
      unfold evChain
      congr 1
      funext d σ₁
      cases cmpD op a d <;> rfl
    | cons => cases h
  | cons o os =>
    cases es with
    | nil => cases h
    | cons => rfl
theorem cmp_k {op : CmpOp} {a d : Dat} {u v : Value} {β : Type} {R : Pt → β → Bool → Prop} {p₁ : Pt} {Q : β → Shared → Prop} {Q' : Value → Shared → Prop} {E : Value → Shared → Prop} {f : Bool → ASt → Out Bool} {σ₁ : ASt} (hC : CxOk C) (ra : RV C p₁ u a) (r : RV C p₁ v d) (k : Nxt C 0 R p₁ Q E ((ofO (cmpD op a d) σ₁).bind f)) (g : ∀ b, Nxt C 0 R p₁ Q E (f b σ₁) → Q' (.bool b) p₁.s) : wpAny C.M C.A (compareOp op u v) Q' E p₁.s := by
  cases e : cmpD op a d with
  | none => rw [e] at k; exact k.elim
  | some b => rw [e] at k; exact cmp_ok hid_le (by have := hC.room.2; omega) e ra r (g b k)
/-- a chain of comparisons, by what it makes of its last -/
theorem chain_ok (hC : CxOk C) (ih : IhE n) {β : Type} {R : Pt → β → Bool → Prop} {W : Value → List CmpOp → List (Sem Value) → Sem β} (mk : Bool → β) (hR : ∀ p b, R p (mk b) b)
    (last : ∀ {A : Around} {u : Value} {op : CmpOp} {r : Sem Value} {s : Shared} {Q : β → Shared → Prop} {E : Value → Shared → Prop}, wpAny C.M A r (fun v s₁ => wpAny C.M A (compareOp op u v) (fun c s₂ => ∃ b, c = .bool b ∧ Q (mk b) s₂) E s₁) E s → wpAny C.M A (W u [op] [r]) Q E s)
    (link : ∀ {A : Around} {u : Value} {op op' : CmpOp} {ops : List CmpOp} {r r' : Sem Value} {rs : List (Sem Value)} {s : Shared} {Q : β → Shared → Prop} {E : Value → Shared → Prop}, wpAny C.M A r (fun v s₁ => wpAny C.M A (compareOp op u v) (fun c s₂ => ∃ b, c = .bool b ∧ ((b = false ∧ Q (mk false) s₂) ∨ (b = true ∧ wpAny C.M A (W v (op' :: ops) (r' :: rs)) Q E s₂))) E s₁) E s → wpAny C.M A (W u (op :: op' :: ops) (r :: r' :: rs)) Q E s) :
    ∀ (ops : List CmpOp) (es : List IE) (xs : List Expr) (p : Pt) (σ : ASt) (a : Dat) (u : Value), es ≠ [] → ops.length = es.length → okL (okE n) C.mc es xs = true → Sim C p σ → RV C p u a → Snd C 0 R p (evChain (evE C.O n) a ops es σ) (W u ops (evalEach (nL (nrmE n) C.mc es xs) C.env))
  | _, [], _, _, _, _, _, h, _, _, _, _ => absurd rfl h
  | [], _ :: _, _, _, _, _, _, _, h, _, _, _ => nomatch h
  | [op], [e], xs, p, σ, a, u, _, _, h, S, ra => fun Q E k => last ((ih C hC _ _ (and_l h) p σ S).e.sq (chain_eq a op [] e [] σ rfl ▸ k) fun d σ₁ v p₁ g k => cmp_k hC (g.A.rp ra) g.r k fun b k => ⟨b, rfl, k.now g.S (hR _ _)⟩)
  | op :: op' :: ops, e :: f :: es, xs, p, σ, a, u, _, hl, h, S, ra => fun Q E k => link ((ih C hC _ _ (and_l h) p σ S).e.sq (chain_eq a op (op' :: ops) e (f :: es) σ (Nat.succ.inj hl) ▸ k) fun d σ₁ v p₁ g k => cmp_k hC (g.A.rp ra) g.r k fun b k => ⟨b, rfl, by
      cases b with
      | false => exact .inl ⟨rfl, k.now g.S (hR _ _)⟩
      | true => exact .inr ⟨rfl, chain_ok hC ih mk hR last link (op' :: ops) (f :: es) xs.tail p₁ σ₁ d v (List.cons_ne_nil _ _) (Nat.succ.inj hl) (and_r h) g.S g.r Q E k⟩⟩)
  | [_], _ :: _ :: _, _, _, _, _, _, _, h, _, _, _ => nomatch h
  | _ :: _ :: _, [_], _, _, _, _, _, _, h, _, _, _ => nomatch h
theorem Out.chainV (o : Out Bool) {β : Type} (f : Dat → ASt → Out β) : (o.bind fun b σ₂ => .ok (.bool b) σ₂).bind f = o.bind fun b σ₂ => f (.bool b) σ₂ := by cases o <;> rfl
theorem b_cmp (hC : CxOk C) (ih : IhE n) {a : IE} {ops : List CmpOp} {bs : List IE} (S : Sim C p σ)
    (h : (ops.length == bs.length && !bs.isEmpty && !lastMarks ops (nL (nrmE n) C.mc bs (kids ex).tail) && okE n C.mc a (kid ex 0) && okL (okE n) C.mc bs (kids ex).tail) = true) : Both C p (stepE C.O (evE C.O n) (.cmp a ops bs) σ) (nrm (nrmE n) C.mc (.cmp a ops bs) ex) := by
  have h1 := eq_of_beq (and_l (and_l (and_l (and_l h))))
  have h2 := ne_nil_of (and_r (and_l (and_l (and_l h))))
  have h3 := (Bool.not_eq_true' _).mp (and_r (and_l (and_l h)))
  refine ⟨fun Q E k => Compare_any h3 ((ih C hC _ _ (and_r (and_l h)) p σ S).e.sq k fun d σ₁ v p₁ g k => ?_), fun Q E k => isTrue_any h3 ((ih C hC _ _ (and_r (and_l h)) p σ S).e.sq (Nxt.assoc k) fun d σ₁ v p₁ g k => ?_)⟩
  · refine chain_ok (R := fun p v b => v = .bool b) (W := compareChain ex.pos) hC ih .bool (fun _ _ => rfl) (fun h => chain_last (wpAny_mono h (fun v s₁ h => wpAny_mono h (fun c s₂ h => ?_) fun _ _ e => e) fun _ _ e => e)) (fun h => chain_link (wpAny_mono h (fun v s₁ h => wpAny_mono h (fun c s₂ h => ?_) fun _ _ e => e) fun _ _ e => e)) ops bs _ p₁ σ₁ d v h2 h1 (and_r h) g.S g.r Q E ?_
    · obtain ⟨b, rfl, h⟩ := h; exact h
    · obtain ⟨b, rfl, ⟨rfl, h⟩ | ⟨rfl, h⟩⟩ := h
      · exact wpAny_truthy_bool h
      · exact wpAny_truthy_bool h
    · revert k
      cases evChain (evE C.O n) d ops bs σ₁ with
      | ok b σ₂ => exact fun k v p' g => k v p' ⟨g.A, g.S, by cases g.r; exact .bool _⟩
      | exc => exact id
      | stuck => exact id
  · refine chain_ok (R := RB) (W := testChain ex.pos) hC ih id (fun _ _ => rfl) (fun h => test_last (wpAny_mono h (fun v s₁ h => wpAny_mono h (fun c s₂ h => ?_) fun _ _ e => e) fun _ _ e => e)) (fun h => test_link (wpAny_mono h (fun v s₁ h => wpAny_mono h (fun c s₂ h => ?_) fun _ _ e => e) fun _ _ e => e)) ops bs _ p₁ σ₁ d v h2 h1 (and_r h) g.S g.r Q E (Nxt.unB _ k)
    · obtain ⟨b, rfl, h⟩ := h; exact wpAny_truthy_bool h
    · obtain ⟨b, rfl, ⟨rfl, h⟩ | ⟨rfl, h⟩⟩ := h
      · exact wpAny_truthy_bool h
      · exact wpAny_truthy_bool h
end
end Mine

namespace Mine
open PySem PySem.W PySem.Calls PyProof.Rows

theorem blt_boot (b : Blt) : bootBuiltins (bltN b) = some (bltV b) := by cases b <;> decide +kernel
theorem blt_ne (b : Blt) : bltN b ≠ "__name__" := by cases b <;> decide
section
variable {C : Cx} {p : Pt} {σ : ASt} {n : Nat} {ex : Expr} {pos : Pos}
theorem ite_k {α β : Type} {l : Nat} {R : Pt → α → β → Prop} {Q : α → Shared → Prop} {E : Value → Shared → Prop} {o : Out Dat} {f g : ASt → Out β} (k : Nxt C l R p Q E (o.bind fun x σ₁ => match asB x with | some true => f σ₁ | some false => g σ₁ | none => .stuck)) :
    Nxt C l R p Q E ((o.bind fun d σ₁ => ofO (asB d) σ₁).bind fun b σ₁ => if b = true then f σ₁ else g σ₁) := Nxt.test k (fun b _ => by cases b <;> rfl) fun d σ h => by cases d <;> first | rfl | exact no_some h.symm
theorem b_ite (hC : CxOk C) (ih : IhE n) {t a b : IE} (S : Sim C p σ) (h : (okE n C.mc t (kid ex 0) && okE n C.mc a (kid ex 1) && okE n C.mc b (kid ex 2)) = true) : Both C p (stepE C.O (evE C.O n) (.ite t a b) σ) (nrm (nrmE n) C.mc (.ite t a b) ex) :=
  ⟨fun Q E k => IfExp_ ((ih C hC _ _ (and_l (and_l h)) p σ S).t.sq (ite_k k) fun c σ₁ v p₁ g k => by
      cases g.r
      cases c with
      | true => exact (ih C hC _ _ (and_r (and_l h)) p₁ σ₁ g.S).e Q E k
      | false => exact (ih C hC _ _ (and_r h) p₁ σ₁ g.S).e Q E k),
    fun Q E k => isTrue_IfExp ((ih C hC _ _ (and_l (and_l h)) p σ S).t.sq (f := fun c σ₁ => if c = true then (evE C.O n a σ₁).bind (fun d σ₁ => ofO (asB d) σ₁) else (evE C.O n b σ₁).bind fun d σ₁ => ofO (asB d) σ₁) (Nxt.test (Nxt.assoc k) (fun b _ => by cases b <;> rfl) fun d σ h => by cases d <;> first | rfl | exact no_some h.symm) fun c σ₁ v p₁ g k => by
      cases g.r
      cases c with
      | true => exact (ih C hC _ _ (and_r (and_l h)) p₁ σ₁ g.S).t Q E k
      | false => exact (ih C hC _ _ (and_r h) p₁ σ₁ g.S).t Q E k)⟩

theorem s_list (hC : CxOk C) (ih : IhE n) (es : List IE) : ∀ (xs : List Expr) (p : Pt) (σ : ASt), okL (okE n) C.mc es xs = true → Sim C p σ → Snd C 0 (RL C) p (evL (evE C.O n) es σ) (spliced (backTo pos (starEach (nL (nrmE n) C.mc es xs) C.env))) := by
  induction es with
  | nil => exact fun _ p σ _ S Q E k => wpAny_pure (k.now S .nil)
  | cons e es ihs => exact fun xs p σ h S Q E k => spliced_n ((ih C hC _ _ (and_l h) p σ S).e.sq k fun d σ₁ v p₁ g k => (ihs _ p₁ σ₁ (and_r h) g.S).sq k fun ds σ₂ vs p₂ g₂ k => k.now g₂.S (.cons (g₂.A.rp g.r) g₂.r))
theorem Sim.lst (hC : CxOk C) (S : Sim C p σ) {ds : List Dat} {vs : List Value} {Q : Value → Shared → Prop} {E : Value → Shared → Prop} (r : RL C p vs ds) (k : Nxt C 0 (RV C) p Q E (.ok (.list ds) σ)) (hz : sz ds.length = true) : wpAny C.M C.A (newList vs) Q E p.s :=
  newList_N S.co.fr (maxN_news C.g C.env.locals p.s.heap) (fun h' F' N' => (S.op hC k).fresh S.co.fr F' N' r _) (by rw [r.length]; exact sz_le hz)
theorem b_tup (hC : CxOk C) (ih : IhE n) {es : List IE} (S : Sim C p σ) (h : okL (okE n) C.mc es (kids ex) = true) : Both C p (stepE C.O (evE C.O n) (.tup es) σ) (nrm (nrmE n) C.mc (.tup es) ex) :=
  SE.both (fun Q E k => Tuple_ ((s_list hC ih es _ p σ h S).sq k fun ds σ₁ vs p₁ g k => k.if_ fun hz k => newTuple_N g.S.co.fr (maxN_news C.g C.env.locals p₁.s.heap) (fun h' F' N' => g.S.op hC k _ h' p₁.s.toks F' (kp_of_cons g.S.co.fr F' N').1 (.tuple (none_size _) (kp_of_cons g.S.co.fr F' N').2 rfl rfl g.r)) (by rw [g.r.length]; exact sz_le hz))) rfl
theorem b_lst (hC : CxOk C) (ih : IhE n) {es : List IE} (S : Sim C p σ) (h : okL (okE n) C.mc es (kids ex) = true) : Both C p (stepE C.O (evE C.O n) (.list es) σ) (nrm (nrmE n) C.mc (.list es) ex) :=
  SE.both (fun Q E k => List_ ((s_list hC ih es _ p σ h S).sq k fun ds σ₁ vs p₁ g k => k.if_ fun hz k => g.S.lst hC g.r k hz)) rfl

theorem b_blt (hC : CxOk C) (ih : IhE n) {b : Blt} {e : IE} (S : Sim C p σ) (h : (C.mc.isGlob (bltN b) && okE n C.mc e (kid ex 1)) = true) : Both C p (stepE C.O (evE C.O n) (.blt b e) σ) (nrm (nrmE n) C.mc (.blt b e) ex) := by
  refine SE.both (fun Q E k => Call_ (ld_blt hC S.co (hC.w.bltin b) (blt_boot b) (blt_ne b) (and_l h) ?_)) rfl
  have main : wpAny C.M C.A (spliced (backTo ex.pos (starEach [nrmE n C.mc e (kid ex 1)] C.env))) (fun vs s₁ => wpAny C.M C.A (call (bltV b) vs) Q E s₁) E p.s :=
    spliced_n ((ih C hC _ _ (and_r h) p σ S).e.sq k fun d σ₁ v p₁ g k => wpAny_pure (k.opt fun d e k => blt_ok hC.handled g.S.co.fr hid_le e g.r (g.S.op hC k)))
  cases b
  case len | ord | chr => exact callWith_builtin1 main star_n rfl
  all_goals exact Pv.callWith_type1 main star_n rfl
theorem oneLine_of {ex : Expr} (h : oneLine ex = true) : ((kid ex 0).pos.endLine == ex.pos.line) = true := h
theorem few1 {e : IE} {x : Expr} {env : Env} : methodCallForm ([nrmE n C.mc e x].length + 0) (backTo pos (starEach [nrmE n C.mc e x] env)) [] = true := by rw [star_n]; rfl
theorem b_join (hC : CxOk C) (ih : IhE n) {sep : Str} {e : IE} (S : Sim C p σ) (h : (oneLine ex && okE n C.mc e (kid ex 1)) = true) : Both C p (stepE C.O (evE C.O n) (.join sep e) σ) (nrm (nrmE n) C.mc (.join sep e) ex) :=
  SE.both (fun Q E k => mcall rfl few1 (and_l h) (Calls.Constant_str (GM.join (callWith_method1 (spliced_n ((ih C hC _ _ (and_r h) (p.to p.s.heap (p.s.toks + 1)) σ (S.toks _)).e.sq (k.go (Aftr.toks _) (by decide)) fun d σ₁ v p₁ g k => wpAny_pure (k.opt fun d e k => join_ok g.S.co.fr hid_le e g.r (g.S.op hC k)))) star_n rfl)))) rfl
theorem b_split (hC : CxOk C) (ih : IhE n) {sep : Str} {e : IE} (S : Sim C p σ) (h : (oneLine ex && isVr e && okE n C.mc e (kid (kid ex 0) 0)) = true) : Both C p (stepE C.O (evE C.O n) (.split e sep) σ) (nrm (nrmE n) C.mc (.split e sep) ex) := by
  refine SE.both (fun Q E k => mcall ?_ rfl (and_l (and_l h)) ((ih C hC _ _ (and_r h) p σ S).e.sq k fun d σ₁ v p₁ g k => ?_)) rfl
  · have hv := and_r (and_l h)
    cases n with
    | zero => rfl
    | succ n =>
      cases e
      case var => rfl
      all_goals exact nomatch hv
  · cases d
    case str z =>
      obtain ⟨t, e⟩ := g.r.str_inv
      rw [e]
      have no : starEach [strE sep (kid ex 1)] C.env = (false, eval (strE sep (kid ex 1)) C.env) :: starEach [] C.env := rfl
      refine k.if_ fun hz k => GM.split (callWith_method1 ?_ no rfl)
      rw [no]
      exact spliced_cons (Calls.Constant_str (k := nOf (kid ex 1)) (pos := (kid ex 1).pos) (wpAny_pure (split_ok (s := { p₁.s with toks := p₁.s.toks + 1 }) g.S.co.fr hz ((g.S.toks _).op hC (k.go (Aftr.toks _) (by decide))))))
    all_goals exact k.elim

theorem CxOk.innG (hC : CxOk C) : C.G.K.In C.g := hC.gl.inn.keeps hC.gkg
inductive RdrIn (C : Cx) (p : Pt) (T : Dat) (i : Int) : Prop
  | mk (o : Addr) (ne : p.xa ≠ []) (hm : p.m C.sk = some (.ref o)) (hk : C.env.kindOf C.sk = some .local) (sa : RdrAt C.G (hb C p) p.s.heap p.xa o T i)
inductive DeckIn (C : Cx) (p : Pt) (cells : List Int) (mixed : Int) : Prop
  | mk (o : Addr) (ne : p.xa ≠ []) (hm : p.m C.sk = some (.ref o)) (hk : C.env.kindOf C.sk = some .local) (sa : DeckAt C.G p.s.heap p.xa o cells mixed)
theorem StOf.rdr {T : Dat} {i : Int} (x : StOf C p (some (.rdr T i))) : RdrIn C p T i := by obtain ⟨o, a, b, c, d⟩ := x; exact ⟨o, a, b, c, d⟩
theorem StOf.deck {l : List Int} {i : Int} (x : StOf C p (some (.deck l i))) : DeckIn C p l i := by obtain ⟨o, a, b, c, d⟩ := x; exact ⟨o, a, b, c, d⟩
theorem b_fld (hC : CxOk C) {b : Bool} (S : Sim C p σ) (h : C.mc.isLocal C.mc.sk = true) : Both C p (stepE C.O (evE C.O n) (.fld b) σ) (nrm (nrmE n) C.mc (.fld b) ex) := by
  refine SE.both (fun Q E k => ?_) rfl
  obtain ⟨vars, own, st⟩ := σ
  match st, S, k with
  | none, _, k => exact k.elim
  | some (.deck _ _), _, k => exact k.elim
  | some .gone, _, k => exact k.elim
  | some (.rdr T i), S, k =>
    obtain ⟨o, ne, hm, hk, dx, ox, k1, k2, tv, k3, k4, k5, n, b3, I, b4, b5, b6⟩ := StOf.rdr S.st
    refine Attribute_name (ld_loc hC S.co hm h ?_)
    cases b
    · exact get_own (v := tv) S.co.fr hC.innG I hC.w.rtext.get hC.w.rdict hC.w.rtext.find rfl rfl (handed_rp b6) (k.nowT S b6)
    · exact get_own (v := .int i k5) S.co.fr hC.innG I hC.w.rat.get hC.w.rdict hC.w.rat.find rfl rfl rfl (k.nowT S (.int _ _))

theorem b_idx0 (hC : CxOk C) (ih : IhE n) {a i : IE} (S : Sim C p σ) (h : (okE n C.mc a (kid ex 0) && okE n C.mc i (kid ex 1)) = true) : Both C p (stepE C.O (evE C.O n) (.idx a i) σ) (nrm (nrmE n) C.mc (.idx a i) ex) :=
  SE.both (fun Q E k => Subscript_ ((ih C hC _ _ (and_l h) p σ S).e.sq k fun x σ₁ u p₁ g₁ k => (ih C hC _ _ (and_r h) p₁ σ₁ g₁.S).e.sq k fun y σ₂ v p₂ g₂ k => k.opt fun d e k => idx_ok g₂.S.co.fr hid_le e (g₂.A.rp g₁.r) g₂.r (sub_n _ _) (g₂.S.op hC k))) rfl
theorem s_part (hC : CxOk C) (ih : IhE n) {lo : Option IE} {x : Expr} (S : Sim C p σ) (h : okO (okE n) C.mc lo x = true) : Snd C 0 (fun _ v i => IsPart v i) p (evOpt (evE C.O n) lo σ) (evalPart (nO (nrmE n) C.mc lo x) C.env) := by
  cases lo with
  | none => exact fun Q E k => evalPart_none_step (k.now S .none)
  | some e =>
    refine fun Q E k => evalPart_some_step ((ih C hC _ _ h p σ S).e.sq k fun d σ₁ v p₁ g k => ?_)
    cases d
    case int i => obtain ⟨t, e⟩ := g.r.int_inv; rw [e]; exact k.now g.S (.int _ _)
    all_goals exact k.elim
theorem sl_push {h : Heap} {l u st : Value} : (h.push { cls := .type "slice", data := .fields #[l, u, st] }).IsSliceOf h.objs.size l u st := ⟨_, Heap.get?_push_size _ rfl, rfl, rfl⟩
theorem Sim.push (hC : CxOk C) (S : Sim C p σ) (o : Obj) (tk : Nat) : Sim C (p.to (p.s.heap.push o) tk) σ ∧ Aftr C 0 p (p.to (p.s.heap.push o) tk) := S.step hC (S.co.fr.push o) (fun b ob _ q => Heap.get?_push_of_some _ q) tk
theorem b_sl (hC : CxOk C) (ih : IhE n) {a : IE} {lo hi : Option IE} (S : Sim C p σ) (h : (okE n C.mc a (kid ex 0) && okO (okE n) C.mc lo (kid (kid ex 1) 0) && okO (okE n) C.mc hi (kid (kid ex 1) 1)) = true) : Both C p (stepE C.O (evE C.O n) (.sl a lo hi) σ) (nrm (nrmE n) C.mc (.sl a lo hi) ex) := by
  refine SE.both (fun Q E k => Subscript_ ((ih C hC _ _ (and_l (and_l h)) p σ S).e.sq k fun x σ₁ u p₁ g₁ k => wpAny_Slice ((s_part hC ih g₁.S (and_r (and_l h))).sq k fun l σ₂ v₂ p₂ g₂ k => (s_part hC ih g₂.S (and_r h)).sq k fun r σ₃ v₃ p₃ g₃ k => evalPart_none_step (k.opt fun d e k => ?_)))) rfl
  obtain ⟨S₄, A₄⟩ := g₃.S.push hC { cls := .type "slice", data := .fields #[v₂, v₃, .none] } p₃.s.toks
  exact slice_ok (s := (p₃.to (p₃.s.heap.push { cls := .type "slice", data := .fields #[v₂, v₃, .none] }) p₃.s.toks).s) S₄.co.fr sl_push g₂.r g₃.r hid_le e (A₄.rp (g₃.A.rp (g₂.A.rp g₁.r))) rfl (S₄.op hC (k.go A₄ (by decide)))
theorem b_rev (hC : CxOk C) (ih : IhE n) {a : IE} (S : Sim C p σ) (h : okE n C.mc a (kid ex 0) = true) : Both C p (stepE C.O (evE C.O n) (.rev a) σ) (nrm (nrmE n) C.mc (.rev a) ex) := by
  refine SE.both (fun Q E k => Subscript_ ((ih C hC _ _ h p σ S).e.sq k fun x σ₁ u p₁ g k => ?_)) rfl
  cases x
  case list ds =>
    refine k.if_ fun hz k => wpAny_Slice (evalPart_none_step (evalPart_none_step (evalPart_some_step (UnaryOp_ (wpAny_Constant_int (neg_int ?_))))))
    obtain ⟨S₄, A₄⟩ := g.S.push hC { cls := .type "slice", data := .fields #[.none, .none, .int (-1) (p₁.s.toks + 1)] } (p₁.s.toks + 1 + 1)
    exact rev_ok (s := (p₁.to (p₁.s.heap.push { cls := .type "slice", data := .fields #[.none, .none, .int (-1) (p₁.s.toks + 1)] }) (p₁.s.toks + 1 + 1)).s) S₄.co.fr sl_push (.int _ _) hid_le hz (A₄.rp g.r) (ops := [_, _]) rfl (S₄.op hC (k.go A₄ (by decide)))
  all_goals exact k.elim
end
end Mine

namespace Mine
open PySem PySem.W PySem.Calls PyProof.Rows

section
variable {C : Cx} {p : Pt} {σ : ASt} {n : Nat} {ex : Expr} {pos : Pos} {X : List Addr} {h' : Heap} {Q : Value → Shared → Prop} {E : Value → Shared → Prop}
theorem no_mem {α : Type} {P : α → Prop} : ∀ b ∈ ([] : List α), P b := fun _ q => nomatch q
theorem Kf.ns {X F : List Addr} {h h' : Heap} {L : Addr} {m : Str → Option Value} (k : Kf X F h h') (n : h.Ns L m) (hx : L ∉ X) : h'.Ns L m := by
  obtain ⟨o, es, ep, e, hd, r⟩ := n
  by_cases q : L ∈ F
  · obtain ⟨sl, e'⟩ := k.sl L q o e
    exact ⟨_, es, ep, e', hd, r⟩
  · exact ⟨o, es, ep, k.kp L o hx q e, hd, r⟩
theorem Kf.mv (k : Kf X C.F p.s.heap h') (hX : ∀ b ∈ X, C.g.get? b = none ∧ b ∉ C.H) : Mv C X p.s.heap h' := ⟨fun b o n _ nF e => k.kp b o n nF e, fun L hL _ o e => k.sl L hL o e, fun b q => .of (hX b q).1 (hX b q).2⟩
theorem Sim.yx (hx : ∀ b ∈ X, b ∈ p.xa) : ∀ b ∈ (C.H ++ (p.oa ++ p.xa)) ++ (X ++ C.F), b ∈ C.H ++ (p.oa ++ p.xa) := fun b q => (List.mem_append.mp q).elim id fun q => (List.mem_append.mp q).elim (fun q => hX b (hx b q)) fun q => hH b (mem_H.mpr (.inr (.inl q)))
/-- what a call from here may lean on -/
theorem Sim.pre (hC : CxOk C) (S : Sim C p σ) (hx : ∀ b ∈ X, b ∈ p.xa) {k : Nat} (hk : k ≤ C.lim) : Pre C.G C.A C.F X (C.H ++ (p.oa ++ p.xa)) C.outer p.s k :=
  ⟨⟨hC.frames, hC.handled, hC.there, S.co.objs⟩, S.there, fun b q => (S.xg b (hx b q)).th, fun b q => nH_F (S.xg b (hx b q)).nH, room_le hC.room hk, (hC.gl.keeps (S.gk hC)).keeps (hid_sub (Sim.yx hx))⟩
/-- behind a call upon the object that the frame holds, or upon none -/
theorem Sim.called (hC : CxOk C) (S : Sim C p σ) (hx : ∀ b ∈ X, b ∈ p.xa) (k : Kf X C.F p.s.heap h') (th : There X h') (tk : Nat) {st : Option St} (hst : SeqKeep (hb C p) (hb C (p.to h' tk)) → StOf C (p.to h' tk) st) : Sim C (p.to h' tk) { σ with st } ∧ Aftr C 0 p (p.to h' tk) := by
  have M := k.mv fun b q => ⟨(S.xg b (hx b q)).g, (S.xg b (hx b q)).nH⟩
  refine ⟨S.mv hC M (k.ns S.co.fr.ns fun q => nH_L (S.xg _ (hx _ q)).nH rfl) (fun _ _ => rfl) (fun b q => .inl (hx b q)) (fun b q => M.ex (th b) (nH_L (S.xg b q).nH) (S.xg b q).th) hst, .of (fun _ => M.up (fun b q => hX b (hx b q)) hH fun _ q => q) rfl fun _ => rfl⟩
theorem Sim.calledP (hC : CxOk C) (S : Sim C p σ) (k : Kf [] C.F p.s.heap h') (tk : Nat) : Sim C (p.to h' tk) σ ∧ Aftr C 0 p (p.to h' tk) :=
  S.called hC no_mem k no_mem tk fun u => StOf.mv S.co S.xg S.st (k.mv no_mem) no_mem u rfl rfl
theorem Sim.exc (hC : CxOk C) (S : Sim C p σ) (hx : ∀ b ∈ X, b ∈ p.xa) {e : Addr} {x : Exn} {fl : Option Value} (Z : ExcAt C.G C.F (hideAll p.s.heap (X ++ C.F)) e x fl h') : ExcAt C.G C.F C.g e x fl h' := Z.base (fun b q => by
  cases e : C.g.get? b with
  | none => rfl
  | some o =>
    refine absurd (hid_to (fun z => ?_) (S.co.fr.keep _ _ e)) (by rw [q]; exact fun z => nomatch z)
    rcases List.mem_append.mp z with z | z
    · exact some_ne e (S.xg b (hx b z)).g rfl
    · exact some_ne e (hC.gF b z) rfl) fun _ q => q
/-- a call by a value that a name bears -/
theorem callW {β γ : Type} {l : Nat} {R : Pt → γ → β → Prop} {Q' : γ → Shared → Prop} {F : List Dat → ASt → Out β} (hl : l ≤ 2) (hC : CxOk C) (ih : IhE n) {f : Value} {first : List Value} (hk : keepIn C.G.K f = true) {es : List IE} {xs : List Expr} (h : okL (okE n) C.mc es xs = true) (S : Sim C p σ) (k : Nxt C l R p Q' E ((evL (evE C.O n) es σ).bind F))
    (g : ∀ ds σ₁ vs p₁, Got C 0 (RL C) p σ₁ vs ds p₁ → Nxt C l R p₁ Q' E (F ds σ₁) → wpAny C.M C.A (call f (first ++ vs)) Q E p₁.s) : wpAny C.M C.A (callWith pos f first (backTo pos (starEach (nL (nrmE n) C.mc es xs) C.env)) []) Q E p.s := by
  cases es with
  | nil => exact callWith_K0 (S.inn hC) hk (g [] σ [] p ⟨.refl _ _ _, S, .nil⟩ k)
  | cons e es => exact callWith_K (h₀ := C.gk) hC.gl.inn hk ((s_list hC ih (e :: es) xs p σ h S).seq (Nat.zero_le _) hl k fun ds σ₁ vs p₁ G k => ⟨G.S.inn hC, g ds σ₁ vs p₁ G k⟩) star_n stars_n.1

theorem lt_of {a b : Nat} (h : Nat.blt a b = true) : a < b := Nat.ble_eq.mp h
theorem b_callP (hC : CxOk C) (ih : IhE n) {f : Nat} {es : List IE} (S : Sim C p σ) (h : (!C.mc.isS f && Nat.blt f C.mc.lim && C.mc.isGlob (C.mc.fn f) && okL (okE n) C.mc es (kids ex).tail) = true) : Both C p (stepE C.O (evE C.O n) (.callP f es) σ) (nrm (nrmE n) C.mc (.callP f es) ex) := by
  refine SE.both (fun Q E k => ?_) rfl
  have hf : f < C.lim := lt_of (and_r (and_l (and_l h)))
  obtain ⟨fa, P⟩ := (hC.w.fns f hf).pure ((Bool.not_eq_true' _).mp (and_l (and_l (and_l h))))
  refine Call_ (ld_glob hC S.co P.ns (and_r (and_l h)) (callW (by decide) hC ih P.keep (and_r h) S k fun ds σ₁ vs p₁ g k => wpAny_call ?_))
  have con := P.go C.A C.F _ C.outer p₁.s vs ds (g.S.pre hC no_mem hf) (g.r.mono (hid_sub (Sim.yx no_mem)))
  revert con k
  cases C.O.p f ds with
  | stuck => exact fun k => k.elim
  | ok d =>
    refine fun k con => codeAny_mono con fun r s' hr => ?_
    obtain ⟨v, h', tk, rfl, rfl, kf, rv, _⟩ := hr
    obtain ⟨S', A⟩ := g.S.calledP hC kf tk
    exact k v (p₁.to h' tk) ⟨A, S', rv.mono (hid_sub fun _ q => List.mem_append_left _ q)⟩
  | exc x =>
    refine fun k con => codeAny_mono con fun r s' hr => ?_
    obtain ⟨e, h', tk, rfl, rfl, kf, X, _⟩ := hr
    obtain ⟨S', A⟩ := g.S.calledP hC kf tk
    exact k e (some .none) (p₁.to h' tk) ⟨A.to (Nat.zero_le _), S', .inr (.inl rfl), g.S.exc hC (X := []) no_mem X⟩

/-- what a call's outcome is to the frame -/
noncomputable def outS (r : ResS) (σ : ASt) : Out Dat := match r with
  | .ok d st' => .ok d { σ with st := some st' }
  | .exc x => .exc x { σ with st := some .gone }
  | .stuck => .stuck
structure GotS (C : Cx) (p p' : Pt) (σ : ASt) (st : St) (o : Addr) (v : Value) (d : Dat) (fr : Bool) : Prop where
  g : Got C 0 (RV C) p { σ with st := some st } v d p'
  k : Kf p.xa C.F p.s.heap p'.s.heap
  post : StPost C.G p.xa C.F (C.H ++ (p.oa ++ p.xa)) p.s o st d fr p'.s.heap v
  oa : p'.oa = p.oa
/-- a call upon the object that the frame holds -/
theorem stateCall {β γ : Type} {l : Nat} {R : Pt → γ → β → Prop} {Q' : γ → Shared → Prop} {F : Dat → ASt → Out β} (hC : CxOk C) {f : Nat} {fa o : Addr} {vs : List Value} {ds : List Dat} {st : St} (P : StateAt C.G C.O f fa) (hf : f < C.lim) (S : Sim C p σ) (hst : σ.st = some st) (ho : p.m C.sk = some (.ref o)) (r : RL C p vs ds)
    (k : Nxt C l R p Q' E ((outS (C.O.s f st ds) σ).bind F)) (g : ∀ d st' v p₁, GotS C p p₁ σ st' o v d (C.G.frsh f) → Nxt C l R p Q' E (F d { σ with st := some st' }) → Q v p₁.s) : wpAny C.M C.A (call (.ref fa) (.ref o :: vs)) Q E p.s := by
  refine wpAny_call ?_
  have hs := S.st
  rw [hst] at hs
  obtain ⟨o', ne, hm, hk, sa⟩ := hs
  cases ho.symm.trans hm
  have t1 := hid_sub (h := p.s.heap) (Sim.yx (C := C) (p := p) (X := p.xa) fun _ q => q)
  have con := P.go C.A C.F p.xa _ C.outer p.s o st vs ds (S.pre hC (fun _ q => q) hf) (sa.mono t1) (r.mono t1)
  revert con k
  cases C.O.s f st ds with
  | stuck => exact fun k => k.elim
  | ok d st' =>
    refine fun k con => codeAny_mono con fun r s' hr => ?_
    obtain ⟨v, h', tk, rfl, rfl, kf, rv, post⟩ := hr
    obtain ⟨S', A⟩ := S.called hC (st := some st') (fun _ q => q) kf post.th tk fun u => ⟨o, ne, ho, hk, post.sa.mono (hid_sub fun _ q => List.mem_append_left _ q)⟩
    exact g d st' v (p.to h' tk) ⟨⟨A, S', rv.mono (hid_sub fun _ q => List.mem_append_left _ q)⟩, kf, post, rfl⟩ k
  | exc x =>
    refine fun k con => codeAny_mono con fun r s' hr => ?_
    obtain ⟨e, h', tk, rfl, rfl, kf, X, th⟩ := hr
    obtain ⟨S', A⟩ := S.called hC (st := some .gone) (fun _ q => q) kf th tk fun u => ⟨o, ne, ho, hk, trivial⟩
    exact k e (some .none) (p.to h' tk) ⟨A.to (Nat.zero_le _), S', .inr (.inl rfl), S.exc hC (fun _ q => q) X⟩
/-- the object is called upon with what the list gives -/
noncomputable def callsOf (O : Orc) (f : Nat) (ds : List Dat) (σ₁ : ASt) : Out Dat := match σ₁.st with
  | none => .stuck
  | some st => outS (O.s f st ds) σ₁
theorem callsE (O : Orc) (f : Nat) (ds : List Dat) (σ : ASt) : (match σ.st with
      | none => .stuck
      | some st => match O.s f st ds with
        | .ok d st' => .ok d { σ with st := some st' }
        | .exc x => .exc x { σ with st := some .gone }
        | .stuck => .stuck : Out Dat) = callsOf O f ds σ := by
  obtain ⟨a, b, st⟩ := σ
  cases st with
  | none => rfl
  | some st => unfold callsOf outS; rfl
theorem st_calls {β γ : Type} {l : Nat} {R : Pt → γ → β → Prop} {Q' : γ → Shared → Prop} {F : Dat → ASt → Out β} (hC : CxOk C) {f : Nat} {fa o : Addr} {vs : List Value} {ds : List Dat} (P : StateAt C.G C.O f fa) (hf : f < C.lim) (S : Sim C p σ) (ho : p.m C.sk = some (.ref o)) (r : RL C p vs ds)
    (k : Nxt C l R p Q' E ((callsOf C.O f ds σ).bind F)) (g : ∀ d st' v p₁, GotS C p p₁ σ st' o v d (C.G.frsh f) → Nxt C l R p Q' E (F d { σ with st := some st' }) → Q v p₁.s) : wpAny C.M C.A (call (.ref fa) (.ref o :: vs)) Q E p.s := by
  unfold callsOf at k
  cases hst : σ.st with
  | none => simp only [hst] at k; exact k.elim
  | some st => simp only [hst] at k; exact stateCall hC P hf S hst ho r k g
theorem getL_other {h₁ h₂ : Int} {t₁ t₂ : Tok} {v₁ v₂ : Value} {x : Str} (n1 : x ≠ "text") (n2 : x ≠ "at") : getL x [key h₁ "text" t₁ v₁, key h₂ "at" t₂ v₂] = some none := by
  have a1 : (Str.ofString "text" == x) = false := by rw [beq_eq_false_iff_ne]; exact fun e => n1 e.symm
  have a2 : (Str.ofString "at" == x) = false := by rw [beq_eq_false_iff_ne]; exact fun e => n2 e.symm
  unfold getL key
  simp only [List.find?, Value.isStr, a1, a2]
  rfl
theorem fewL {es : List IE} {xs : List Expr} (h : Nat.blt es.length 10 = true) : methodCallForm ((nL (nrmE n) C.mc es xs).length + 0) (backTo pos (starEach (nL (nrmE n) C.mc es xs) C.env)) [] = true := by
  unfold methodCallForm
  have := lt_of h
  rw [stars_n.2, nL_len]
  simp only [Bool.true_and, List.all_nil, List.isEmpty_nil, if_true, decide_eq_true_eq]
  omega
theorem bind_id {β : Type} (o : Out β) : o.bind (fun d σ => .ok d σ) = o := by cases o <;> rfl
theorem Nxt.ret {α β : Type} {l : Nat} {R : Pt → α → β → Prop} {Q : α → Shared → Prop} {o : Out β} (k : Nxt C l R p Q E o) : Nxt C l R p Q E (o.bind fun d σ => .ok d σ) := (bind_id o).symm ▸ k
/-- what a method's value is, and the object it goes by -/
theorem meth_get {f : Nat} {fa : Addr} {T : Dat} {i : Int} (hC : CxOk C) (S : Sim C p σ) (P : StateAt C.G C.O f fa) (hM : C.G.isM f = true) (R : RdrIn C p T i) (h : C.mc.isLocal C.sk = true) {x : Expr} {Q : Value × List Value → Shared → Prop} (g : ∀ o tk, p.m C.sk = some (.ref o) → Q (.ref fa, [.ref o]) { p.s with toks := tk }) :
    wpAny C.M C.A (eval (skE C.mc x) C.env) (fun ov s₁ => wpAny C.M C.A (getMethod ov (C.G.fn f) (do return (← importBound (skE C.mc x) C.env).getD true)) Q E s₁) E p.s := by
  obtain ⟨o, ne, hm, hk, dx, ox, k1, k2, tv, k3, k4, k5, n, b3, I, b4, b5, b6⟩ := R
  have M := P.meth hM
  exact ld_loc hC S.co hm h (method_inst S.co.fr hC.innG I M.pl M.find M.fn (getL_other M.n1 M.n2) (g o _ hm))
theorem rdr_only {β γ : Type} {l : Nat} {R : Pt → γ → β → Prop} {Q : γ → Shared → Prop} {o : Out β} {G : Prop} (k : Nxt C l R p Q E (match σ.st with | some (.rdr _ _) => o | _ => .stuck)) (g : ∀ T i, σ.st = some (.rdr T i) → Nxt C l R p Q E o → G) : G := by
  obtain ⟨a, b, st⟩ := σ
  match st, k with
  | some (.rdr T i), k => exact g T i rfl k
theorem deck_only {β γ : Type} {l : Nat} {R : Pt → γ → β → Prop} {Q : γ → Shared → Prop} {f : List Int → Int → Out β} {G : Prop} (k : Nxt C l R p Q E (match σ.st with | some (.deck l m) => f l m | _ => .stuck)) (g : ∀ l' m, σ.st = some (.deck l' m) → Nxt C l R p Q E (f l' m) → G) : G := by
  obtain ⟨a, b, st⟩ := σ
  match st, k with
  | some (.deck T i), k => exact g T i rfl k
theorem RdrIn.of {T : Dat} {i : Int} (S : Sim C p σ) (h : σ.st = some (.rdr T i)) : RdrIn C p T i := StOf.rdr (h ▸ S.st)
theorem DeckIn.of {T : List Int} {i : Int} (S : Sim C p σ) (h : σ.st = some (.deck T i)) : DeckIn C p T i := StOf.deck (h ▸ S.st)
theorem b_callM (hC : CxOk C) (ih : IhE n) {f : Nat} {es : List IE} (S : Sim C p σ) (h : (C.mc.isS f && C.mc.isM f && Nat.blt f C.mc.lim && C.mc.isLocal C.mc.sk && Nat.blt es.length 10 && oneLine ex && okL (okE n) C.mc es (kids ex).tail) = true) : Both C p (stepE C.O (evE C.O n) (.callM f es) σ) (nrm (nrmE n) C.mc (.callM f es) ex) := by
  refine SE.both (fun Q E k => ?_) rfl
  have k' : Nxt C 0 (RV C) p Q E (match σ.st with | some (.rdr _ _) => (evL (evE C.O n) es σ).bind fun ds σ₁ => callsOf C.O f ds σ₁ | _ => .stuck) := by
    rw [← show _ = (fun ds σ₁ => callsOf C.O f ds σ₁) from funext fun ds => funext fun σ₁ => callsE C.O f ds σ₁]
    exact k
  refine rdr_only  k' fun T i hst k => ?_
  · have hf : f < C.lim := lt_of (and_r (and_l (and_l (and_l (and_l h)))))
    have hM : C.G.isM f = true := and_r (and_l (and_l (and_l (and_l (and_l h)))))
    obtain ⟨fa, P⟩ := (hC.w.fns f hf).state (and_l (and_l (and_l (and_l (and_l (and_l h))))))
    refine mcall rfl (fewL (and_r (and_l (and_l h)))) (and_r (and_l h)) (meth_get hC S P hM (.of S hst) (and_r (and_l (and_l (and_l h)))) fun o tk hm => ?_)
    exact callW (p := p.to p.s.heap tk) (first := [.ref o]) (by decide) hC ih P.keep (and_r h) (S.toks tk) (k.go (Aftr.toks tk) (by decide)) fun ds σ₁ vs p₁ g k => st_calls hC P hf g.S (((congrFun (g.A.fx rfl).1 _).trans hm)) g.r (F := fun d σ => .ok d σ) k.ret fun d st' v p₂ g₂ k => k v p₂ g₂.g
theorem b_callS (hC : CxOk C) (ih : IhE n) {f : Nat} {es : List IE} (S : Sim C p σ) (h : (C.mc.isS f && !C.mc.isM f && Nat.blt f C.mc.lim && C.mc.isGlob (C.mc.fn f) && C.mc.isLocal C.mc.sk && okL (okE n) C.mc es (kids ex).tail.tail) = true) : Both C p (stepE C.O (evE C.O n) (.callS f es) σ) (nrm (nrmE n) C.mc (.callS f es) ex) := by
  refine SE.both (fun Q E k => ?_) rfl
  have k' : Nxt C 0 (RV C) p Q E (match σ.st with | some (.deck _ _) => (evL (evE C.O n) es σ).bind fun ds σ₁ => callsOf C.O f ds σ₁ | _ => .stuck) := by
    rw [← show _ = (fun ds σ₁ => callsOf C.O f ds σ₁) from funext fun ds => funext fun σ₁ => callsE C.O f ds σ₁]
    exact k
  refine deck_only (f := fun _ _ => (evL (evE C.O n) es σ).bind fun ds σ₁ => callsOf C.O f ds σ₁) k' fun T i hst k => ?_
  · have hf : f < C.lim := lt_of (and_r (and_l (and_l (and_l h))))
    have hM : C.G.isM f = false := (Bool.not_eq_true' _).mp (and_r (and_l (and_l (and_l (and_l h)))))
    obtain ⟨fa, P⟩ := (hC.w.fns f hf).state (and_l (and_l (and_l (and_l (and_l h)))))
    obtain ⟨o, ne, hm, hk, _⟩ := DeckIn.of S hst
    have no : ∀ {x : Expr} {xs : List Expr}, starEach (skE C.mc x :: xs) C.env = (false, eval (skE C.mc x) C.env) :: starEach xs C.env := rfl
    refine Call_ (ld_glob hC S.co (P.ns hM) (and_r (and_l (and_l h))) (callWith_K (h₀ := C.gk) (first := []) hC.gl.inn P.keep ?_ no stars_n.1))
    rw [no]
    refine spliced_cons (ld_loc hC S.co hm (and_r (and_l h)) ?_)
    exact (s_list hC ih es _ p σ (and_r h) S).sq k fun ds σ₁ vs p₁ g k => ⟨g.S.inn hC, st_calls hC P hf g.S (((congrFun (g.A.fx rfl).1 _).trans hm)) g.r (F := fun d σ => .ok d σ) k.ret fun d st' v p₂ g₂ k => k v p₂ g₂.g⟩
end
end Mine

namespace Mine
open PySem PySem.W PySem.Calls PyProof.Rows

theorem eqv_nil (xs : List Dat) : PyData.eqv (kqdP (.list xs)) (kqdP (.list [])) = xs.isEmpty := by
  cases xs with
  | nil => decide +kernel
  | cons c r => simp only [kqdP, kqdPs]; rfl
theorem eq_nil {xs : List Dat} (h : kqdOk 8 (.list xs) = true) : cmpD .Eq (.list xs) (.list []) = some xs.isEmpty ∧ cmpD .NotEq (.list xs) (.list []) = some !xs.isEmpty := by
  have h' : (kqdOk 8 (.list xs) && kqdOk 8 (.list [])) = true := by rw [h]; rfl
  constructor
  · show (if _ then _ else _) = _
    rw [if_pos h', eqv_nil]
  · show (if _ then _ else _) = _
    rw [if_pos h', eqv_nil]
theorem ok_ints (l : List Int) : kqdOk 8 (.list (l.map Dat.int)) = true := by
  show (l.map Dat.int).all (kqdOk 7) = true
  rw [List.all_eq_true]
  intro d hd
  obtain ⟨i, _, rfl⟩ := List.mem_map.mp hd
  rfl
theorem list_meth {prog : Program} {w : World} {A : Around} {E : Value → Shared → Prop} {s : Shared} {a : Addr} {its : Array Value} {n : Nat} {name : Str} {id : String} {pl : Sem Bool} {Q : Value × List Value → Shared → Prop} (e : s.heap.get? a = some (listOf its n)) (slot : Slot "list" name id) (hty : typeOf (.builtin id) = pure (.type "method_descriptor"))
    (h : Q (.builtin id, [.ref a]) s) : wpAny (model prog w) A (getMethod (.ref a) name pl) Q E s :=
  getMethod_builtin ⟨_, e, rfl⟩ PySem.F.plainAttrs_list slot hty (fun b q => by cases q; exact ⟨_, e, rfl⟩) h
theorem toL (a : Array Value) : a.toList.toArray = a := Array.toArray_toList
section
variable {C : Cx} {p : Pt} {σ : ASt} {n : Nat} {ex : Expr} {pos : Pos} {E : Value → Shared → Prop}
inductive OwnAt (C : Cx) (p : Pt) (k : Nat) (xs : List Dat) : Prop
  | mk (a : Addr) (vs : Array Value) (n : Nat) (eo : p.oa = [a]) (hm : p.m (C.mc.nm k) = some (.ref a)) (l : NewL C p a vs n xs)
theorem OwnAt.of {k : Nat} {xs : List Dat} (S : Sim C p σ) (ho : σ.own = some (k, xs)) (h : C.mc.isVar k = true) : OwnAt C p k xs := by
  have ow := S.ow
  rw [ho] at ow
  obtain ⟨⟨a, vs, n, x, eo, hx, hk, hm, L⟩, _⟩ := ow
  cases (isVar_nm h).symm.trans hx
  exact ⟨a, vs, n, eo, hm, L⟩
theorem own_only {β γ : Type} {l : Nat} {R : Pt → γ → β → Prop} {Q : γ → Shared → Prop} {k : Nat} {f : List Dat → Out β} {G : Prop} (kk : Nxt C l R p Q E (match σ.own with | none => .stuck | some (j, xs) => if j = k then f xs else .stuck)) (g : ∀ xs, σ.own = some (k, xs) → Nxt C l R p Q E (f xs) → G) : G := by
  obtain ⟨a, own, st⟩ := σ
  match own, kk with
  | some (j, xs), kk => exact Nxt.if_ kk fun q kk => g xs (by rw [q]) kk
theorem own_onlyS {β γ : Type} {l : Nat} {R : Pt → γ → β → Prop} {Q : γ → Shared → Prop} {k : Nat} {f : List Dat → Out β} {G : Prop} (kk : Nxt C l R p Q E (match σ.own with | some (j, xs) => if j = k then f xs else .stuck | none => .stuck)) (g : ∀ xs, σ.own = some (k, xs) → Nxt C l R p Q E (f xs) → G) : G := by
  obtain ⟨a, own, st⟩ := σ
  match own, kk with
  | some (j, xs), kk => exact Nxt.if_ kk fun q kk => g xs (by rw [q]) kk
theorem own_onlyB {β γ : Type} {l : Nat} {R : Pt → γ → β → Prop} {Q : γ → Shared → Prop} {k : Nat} {f : List Dat → Out β} {c : List Dat → Bool} {G : Prop} (kk : Nxt C l R p Q E (match σ.own with | some (j, xs) => if (decide (j = k) && c xs) = true then f xs else .stuck | none => .stuck)) (g : ∀ xs, σ.own = some (k, xs) → c xs = true → Nxt C l R p Q E (f xs) → G) : G := by
  obtain ⟨a, own, st⟩ := σ
  match own, kk with
  | some (j, xs), kk => exact Nxt.if_ kk fun q kk => g xs (by rw [of_decide_eq_true (and_l q)]) (and_r q) kk
theorem b_lenOwn (hC : CxOk C) {k : Nat} (S : Sim C p σ) (h : (C.mc.isGlob "len" && ownV C.mc k) = true) : Both C p (stepE C.O (evE C.O n) (.lenOwn k) σ) (nrm (nrmE n) C.mc (.lenOwn k) ex) :=
  SE.both (fun Q E kk => own_onlyB (c := fun xs => sz xs.length) (f := fun xs => (.ok (Dat.int xs.length) σ : Out Dat)) kk fun xs ho hz kk => by
    obtain ⟨a, vs, n', eo, hm, L⟩ := OwnAt.of S ho (and_l (and_r h))
    have no : starEach [nmE C.mc k (kid ex 1)] C.env = (false, eval (nmE C.mc k (kid ex 1)) C.env) :: starEach [] C.env := rfl
    refine Call_ (ld_blt hC S.co (hC.w.bltin .len) (blt_boot .len) (blt_ne .len) (and_l h) (callWith_builtin1 ?_ no rfl))
    rw [no]
    have hl : vs.size = xs.length := L.r.length
    exact spliced_cons (ld_loc hC S.co hm (and_r (and_r h)) (wpAny_pure (call_len_list (items := vs) ⟨_, L.e, rfl, n', rfl⟩ (by rw [hl]; have := sz_le' hz; omega) (by rw [hl]; exact kk.nowT S (.int _ _))))) ) rfl
theorem b_idxOwn (hC : CxOk C) (ih : IhE n) {k : Nat} {i : IE} (S : Sim C p σ) (h : (ownV C.mc k && okE n C.mc i (kid ex 1)) = true) : Both C p (stepE C.O (evE C.O n) (.idxOwn k i) σ) (nrm (nrmE n) C.mc (.idxOwn k i) ex) :=
  SE.both (fun Q E kk => own_only (f := fun _ => (evE C.O n i σ).bind fun y σ₁ => match σ₁.own with | some (j, xs) => if j = k then ofO (idxD (.list xs) y) σ₁ else .stuck | none => .stuck) kk fun xs ho kk => by
    obtain ⟨a, _, _, _, hm, _⟩ := OwnAt.of S ho (and_l (and_l h))
    exact Subscript_ (ld_loc hC S.co hm (and_r (and_l h)) ((ih C hC _ _ (and_r h) p σ S).e.sq kk fun y σ₁ v p₁ g kk => own_onlyS (f := fun xs => ofO (idxD (.list xs) y) σ₁) kk fun ys ho₁ kk => by
      obtain ⟨a', vs, n', eo, hm', L⟩ := OwnAt.of g.S ho₁ (and_l (and_l h))
      cases hm.symm.trans ((congrFun (g.A.fx rfl).1 _).symm.trans hm')
      exact kk.opt fun d e kk => idx_list (vs := vs.toList) (by rw [toL]; exact L.e) L.r e g.r (sub_n _ _) fun r tk x => kk.nowT g.S x))) rfl
theorem deck_item {name : Str} {x y : Expr} {ps : Pos} {cells : List Int} {mixed : Int} {Q : Value → Shared → Prop} (hC : CxOk C) (K : Core C p.s.heap p.m) (D : DeckIn C p cells mixed) (h : C.mc.isLocal C.sk = true)
    (g : ∀ d c vs n t tk, p.m C.sk = some (.ref d) → p.xa = [d, c] → p.s.heap.DictOf (PySem.strKind C.G.prog C.G.w) d [("cells", .ref c), ("mixed", .int mixed t)] → p.s.heap.get? c = some (listOf vs n) → IntsAre vs.toList cells → cells.length ≤ 100 → d ≠ c →
      ∃ v, valueAt [((("cells" : String) : Str), Value.ref c), ((("mixed" : String) : Str), .int mixed t)] name = some v ∧ Q v { p.s with toks := tk }) :
    wpAny C.M C.A (eval (.Subscript (skE C.mc x) (strE name y) ps) C.env) Q E p.s := by
  obtain ⟨d, ne, hm, hk, c, vs, n, t, eX, D, e, I, l, dc⟩ := D
  refine Subscript_ (ld_loc hC K hm h (Calls.Constant_str ?_))
  obtain ⟨v, q1, q2⟩ := g d c vs n t (p.s.toks + 1 + 1) hm eX D e I l dc
  have mp : Heap.MapOf (PySem.strKind C.G.prog C.G.w) p.s.heap d (valueAt [((("cells" : String) : Str), Value.ref c), ((("mixed" : String) : Str), .int mixed t)]) := D.mapOf
  have ty : Shared.TypeIs { p.s with toks := p.s.toks + 1 } (.ref d) "dict" := Heap.MapOf.typeIs (s := { p.s with toks := p.s.toks + 1 }) mp
  have isk : (PySem.strKind C.G.prog C.G.w).is name (.str name p.s.toks) = true := by show Value.isStrOf name (.str name p.s.toks) = true; simp [Value.isStrOf]
  exact tail_any ty slot_dict_getitem.lookup (wpAny_getItem_of (s := { p.s with toks := p.s.toks + 1 }) isk mp q1 q2) rfl
theorem b_deckMixed (hC : CxOk C) (S : Sim C p σ) (h : C.mc.isLocal C.mc.sk = true) : Both C p (stepE C.O (evE C.O n) .deckMixed σ) (nrm (nrmE n) C.mc .deckMixed ex) :=
  SE.both (fun Q E k => deck_only (f := fun _ m => (.ok (.int m) σ : Out Dat)) k fun cells m hst k => deck_item hC S.co (.of S hst) h fun d c vs n t tk _ _ _ _ _ _ _ => ⟨_, rfl, k.nowT S (.int _ _)⟩) rfl
/-- a list that is compared with none -/
theorem cmp_nil {op : CmpOp} {a : Addr} {xs : List Dat} {b : Bool} {ps : Pos} {P : Value → Shared → Prop} (hC : CxOk C) (S : Sim C p σ) {vs : Array Value} {n' : Nat} (ea : p.s.heap.get? a = some (listOf vs n')) (r : RpL p.s.heap vs.toList xs) (eo : cmpD op (.list xs) (.list []) = some b)
    (g : ∀ h', Sim C (p.to h' p.s.toks) σ → Aftr C 0 p (p.to h' p.s.toks) → P (.bool b) { p.s with heap := h' }) : wpAny C.M C.A (eval (.List [] ps) C.env) (fun v s₂ => wpAny C.M C.A (compareOp op (.ref a) v) P E s₂) E p.s := by
  refine List_ (wpAny_pure (newList_N S.co.fr (maxN_news C.g C.env.locals p.s.heap) (fun h' F' N' => ?_) (by decide +kernel)))
  obtain ⟨k1, k2⟩ := kp_of_cons S.co.fr F' N'
  obtain ⟨S', A⟩ := S.step hC F' k1 p.s.toks
  have keep : SeqKeep p.s.heap h' := fun b o vs n e d => k1 b o (S.co.nL e fun es k z => by rw [d] at z; cases z) e
  exact cmp_ok (hb := h') (s := { p.s with heap := h' }) (fun _ _ e => e) (by have := hC.room.2; omega) eo (.list (vs := vs.toList) (n := n') (by rw [toL]; exact keep _ _ _ _ ea rfl) (r.seq keep)) (.list (vs := []) k2 .nil) (g h' S' A)
theorem deck_onlyT {β γ δ : Type} {l : Nat} {R : Pt → γ → β → Prop} {Q : γ → Shared → Prop} {f : List Int → Int → Out δ} {F : δ → ASt → Out β} {G : Prop} (k : Nxt C l R p Q E ((match σ.st with | some (.deck l m) => f l m | _ => .stuck : Out δ).bind F)) (g : ∀ l' m, σ.st = some (.deck l' m) → Nxt C l R p Q E ((f l' m).bind F) → G) : G := by
  obtain ⟨a, b, st⟩ := σ
  match st, k with
  | some (.deck T i), k => exact g T i rfl k
theorem own_onlyT {β γ δ : Type} {l : Nat} {R : Pt → γ → β → Prop} {Q : γ → Shared → Prop} {k : Nat} {f : List Dat → Out δ} {F : δ → ASt → Out β} {c : List Dat → Bool} {G : Prop} (kk : Nxt C l R p Q E ((match σ.own with | some (j, xs) => if (decide (j = k) && c xs) = true then f xs else .stuck | none => .stuck : Out δ).bind F)) (g : ∀ xs, σ.own = some (k, xs) → c xs = true → Nxt C l R p Q E ((f xs).bind F) → G) : G := by
  obtain ⟨a, own, st⟩ := σ
  match own, kk with
  | some (j, xs), kk =>
    by_cases q : (decide (j = k) && c xs) = true
    · exact g xs (by rw [of_decide_eq_true (and_l q)]) (and_r q) (by have kk : Nxt C l R p Q E ((if (decide (j = k) && c xs) = true then f xs else .stuck : Out δ).bind F) := kk; rw [if_pos q] at kk; exact kk)
    · exact absurd (show Nxt C l R p Q E ((if (decide (j = k) && c xs) = true then f xs else .stuck : Out δ).bind F) from kk) (by rw [if_neg q]; exact id)
theorem b_deckNe (hC : CxOk C) (S : Sim C p σ) (h : C.mc.isLocal C.mc.sk = true) : Both C p (stepE C.O (evE C.O n) .deckNe σ) (nrm (nrmE n) C.mc .deckNe ex) := by
  have main : ∀ {cells m P E} {x y : Expr} {q1 q2 : Pos}, σ.st = some (.deck cells m) → (∀ h' tk, Sim C (p.to h' tk) σ → Aftr C 0 p (p.to h' tk) → P (.bool (!cells.isEmpty)) { p.s with heap := h', toks := tk }) → wpAny C.M C.A (eval (.Subscript (skE C.mc x) (strE "cells" y) q1) C.env) (fun a s₁ => wpAny C.M C.A (eval (.List [] q2) C.env) (fun v s₂ => wpAny C.M C.A (compareOp .NotEq a v) P E s₂) E s₁) E p.s := fun {cells m P E} _ _ _ _ hst g => deck_item hC S.co (.of S hst) h fun d c vs n t tk _ _ _ e I _ _ => ⟨_, rfl,
    cmp_nil (p := p.to p.s.heap tk) hC (S.toks tk) e (RpL.of_ints I) ((eq_nil (ok_ints cells)).2.trans (by cases cells <;> rfl)) fun h' S' A => g h' tk S' ((Aftr.toks tk).trans A)⟩
  exact ⟨fun Q E k => deck_only (f := fun l _ => (.ok (.bool !l.isEmpty) σ : Out Dat)) k fun cells m hst k => Compare_any rfl (wpAny_mono (main hst fun h' tk S' A => k _ (p.to h' tk) ⟨A, S', .bool _⟩) (fun a s₁ h => chain_last h) fun _ _ e => e),
    fun Q E k => deck_onlyT (f := fun l _ => (.ok (.bool !l.isEmpty) σ : Out Dat)) k fun cells m hst k => isTrue_any rfl (wpAny_mono (main (P := fun c s₂ => wpAny C.M C.A (truthy c) Q E s₂) hst fun h' tk S' A => wpAny_truthy_bool (k _ (p.to h' tk) ⟨A, S', rfl⟩)) (fun a s₁ h => test_last h) fun _ _ e => e)⟩
theorem b_ownNil (hC : CxOk C) {k : Nat} (S : Sim C p σ) (h : ownV C.mc k = true) : Both C p (stepE C.O (evE C.O n) (.ownNil k) σ) (nrm (nrmE n) C.mc (.ownNil k) ex) := by
  have main : ∀ {xs P E} {q1 q2 : Pos}, σ.own = some (k, xs) → kqdOk 8 (.list xs) = true → (∀ h', Sim C (p.to h' p.s.toks) σ → Aftr C 0 p (p.to h' p.s.toks) → P (.bool xs.isEmpty) { p.s with heap := h' }) → wpAny C.M C.A (eval (.Name (C.mc.nm k) q1) C.env) (fun a s₁ => wpAny C.M C.A (eval (.List [] q2) C.env) (fun v s₂ => wpAny C.M C.A (compareOp .Eq a v) P E s₂) E s₁) E p.s := fun {xs P E} _ _ ho hz g => by
    obtain ⟨a, vs, n', eo, hm, L⟩ := OwnAt.of S ho (and_l h)
    exact ld_loc hC S.co hm (and_r h) (cmp_nil hC S L.e (L.r.mono hid_le) (eq_nil hz).1 g)
  exact ⟨fun Q E kk => own_onlyB (c := fun xs => kqdOk 8 (.list xs)) (f := fun xs => (.ok (.bool xs.isEmpty) σ : Out Dat)) kk fun xs ho hz kk => Compare_any rfl (wpAny_mono (main ho hz fun h' S' A => kk _ (p.to h' p.s.toks) ⟨A, S', .bool _⟩) (fun a s₁ h => chain_last h) fun _ _ e => e),
    fun Q E kk => own_onlyT (c := fun xs => kqdOk 8 (.list xs)) (f := fun xs => (.ok (.bool xs.isEmpty) σ : Out Dat)) kk fun xs ho hz kk => isTrue_any rfl (wpAny_mono (main (P := fun c s₂ => wpAny C.M C.A (truthy c) Q E s₂) ho hz fun h' S' A => wpAny_truthy_bool (kk _ (p.to h' p.s.toks) ⟨A, S', rfl⟩)) (fun a s₁ h => test_last h) fun _ _ e => e)⟩

theorem kf_but {X F : List Addr} {b : Addr} {h h' : Heap} (hb : b ∈ X) (hs : Heap.SameBut b h h') (nF : ∀ b ∈ X, b ∉ F) : Kf X F h h' :=
  ⟨fun c o n _ e => (hs.2 c fun q => n (q ▸ hb)).trans e, fun L hL o e => ⟨o.slots, (hs.2 L fun q => nF b hb (q ▸ hL)).trans e⟩⟩
theorem Sim.xF (S : Sim C p σ) : ∀ b ∈ p.xa, b ∉ C.F := fun b q => nH_F (S.xg b q).nH
theorem two {a b x : Addr} {P : Addr → Prop} (h : x ∈ [a, b]) (ha : P a) (hb : P b) : P x := (List.mem_cons.mp h).elim (fun q => q ▸ ha) fun q => (List.mem_singleton.mp q) ▸ hb
theorem b_deckPop (hC : CxOk C) (S : Sim C p σ) (h : (C.mc.isLocal C.mc.sk && oneLine ex) = true) : Both C p (stepE C.O (evE C.O n) .deckPop σ) (nrm (nrmE n) C.mc .deckPop ex) :=
  SE.both (fun Q E k => deck_only (f := fun cells m => (match cells.getLast? with | some c => .ok (.int c) { σ with st := some (.deck cells.dropLast m) } | none => .stuck : Out Dat)) k fun cells m hst k => by
    have ⟨d₀, ne₀, hm₀, hk₀, _⟩ := DeckIn.of S hst
    refine mcall rfl rfl (and_r h) (deck_item hC S.co (.of S hst) (and_l h) fun d c vs n t tk hm q2 q3 q4 q5 q6 q7 => ⟨_, rfl, list_meth q4 PySem.F.slot_list_pop PySem.F.type_list_pop ?_⟩)
    cases hl : cells.getLast? with
    | none => rw [hl] at k; exact k.elim
    | some z =>
    rw [hl] at k
    have hlen : vs.toList.length = cells.length := q5.length
    have pos : 0 < vs.toList.length := by
      rw [hlen]
      exact List.length_pos_iff.mpr fun q => by rw [q] at hl; cases hl
    obtain ⟨v, t', e1, e2, e3⟩ := kpa_ints q5 pos
    rw [show cells.getLastD 0 = z by rw [List.getLastD_eq_getLast?, hl]; rfl] at e2
    subst e2
    have szv : vs.size = vs.toList.dropLast.length + 1 := by
      have := congrArg List.length e1
      rw [List.length_append] at this
      exact this
    refine P.pop_list (s := { p.s with toks := tk }) (n := n) (items := vs) (y := .int z t') q4 ?_ ?_ (by rw [← Array.length_toList, hlen, sl_is]; omega)
    · rw [szv, ← Array.getElem?_toList, e1]
      simp
    · have up := IsL.update (h := p.s.heap) (l := c) (items := vs) (n := n) q4 (fun xs => xs.eraseIdxIfInBounds (vs.size - 1))
      have ee : vs.eraseIdxIfInBounds (vs.size - 1) = vs.toList.dropLast.toArray := by
        have e4 : vs = (vs.toList.dropLast ++ [Value.int z t']).toArray := by rw [← e1, Array.toArray_toList]
        have e5 : vs.size - 1 = vs.toList.dropLast.length := by omega
        rw [e5]
        generalize vs.toList.dropLast = l at e4
        rw [e4, kl_erase, List.append_nil]
      rw [ee] at up
      have sb := Heap.SameBut.update p.s.heap c (Obj.mapSeq fun xs => xs.eraseIdxIfInBounds (vs.size - 1))
      generalize (p.s.heap.update c (Obj.mapSeq fun xs => xs.eraseIdxIfInBounds (vs.size - 1))) = h₁ at up sb
      obtain ⟨o, es, ep, e, r⟩ := q3
      have eo : h₁.get? d = some o := (sb.2 d q7).trans e
      obtain ⟨S', A⟩ := S.called hC (st := some (.deck cells.dropLast m)) (fun _ q => q) (kf_but (by rw [q2]; exact List.mem_cons_of_mem _ List.mem_cons_self) sb S.xF) (fun b q => by
        rw [q2] at q
        exact two (P := fun b => ∃ o, h₁.get? b = some o) q ⟨o, eo⟩ ⟨_, up⟩) tk fun _ => ⟨d, ne₀, hm, hk₀, c, vs.toList.dropLast.toArray, _, t, q2, ⟨o, es, ep, eo, r⟩, up, e3, by rw [List.length_dropLast]; omega, q7⟩
      exact k _ _ ⟨A, S', .int _ _⟩) rfl
end
end Mine

namespace Mine
open PySem PySem.W PySem.Calls PyProof.Rows

/-! the cells that a comprehension takes -/
structure Clo (env : Env) (names : List (Str × NameKind)) (cl : List (Str × Addr)) : Prop where
  le : ∀ y c, cl.lookup y = some c → env.cells.lookup y = some c
  has : ∀ x ∈ names, x.2 = .free → (cl.lookup x.1).isSome
theorem closure_go (env : Env) : ∀ (names : List (Str × NameKind)) (acc : List (Str × Addr)), (∀ x ∈ names, x.2 = .free → ∃ c, env.cells.lookup x.1 = some c) → (∀ y c, acc.lookup y = some c → env.cells.lookup y = some c) →
    ∃ cl, (forIn names acc fun (x : Str × NameKind) (cs : List (Str × Addr)) => (do
        if x.2 == .free then
          let c ← cellOf env x.1
          pure (ForInStep.yield ((x.1, c) :: cs))
        else pure (ForInStep.yield cs) : Sem _)) = pure cl ∧ Clo env names cl ∧ (∀ y, (acc.lookup y).isSome → (cl.lookup y).isSome)
  | [], acc, _, h2 => ⟨acc, List.forIn_nil, ⟨h2, fun _ h => nomatch h⟩, fun _ h => h⟩
  | (n, k) :: r, acc, h1, h2 => by
    rw [List.forIn_cons]
    have h1' := fun x hx => h1 x (List.mem_cons_of_mem _ hx)
    by_cases hk : k = .free
    · subst hk
      obtain ⟨c, hc⟩ := h1 (n, .free) List.mem_cons_self rfl
      have hc : env.cells.lookup n = some c := hc
      have same : ∀ {x y : Str} {a : Option Addr}, (x == y) = true → (match x == y with | true => some c | false => a) = some c := fun h => by rw [h]
      obtain ⟨cl, e1, e2, e3⟩ := closure_go env r ((n, c) :: acc) h1' (fun y c' e => by
        rw [List.lookup_cons] at e
        cases q : y == n with
        | true => rw [q] at e; cases e; rw [eq_of_beq q]; exact hc
        | false => rw [q] at e; exact h2 y c' e)
      have up : ∀ y, (acc.lookup y).isSome ∨ y = n → (cl.lookup y).isSome := fun y hy => e3 y (by
        rw [List.lookup_cons]
        cases q : y == n with
        | true => rfl
        | false => exact hy.resolve_right (fun z => by rw [z, beq_self_eq_true] at q; cases q))
      refine ⟨cl, ?_, ⟨e2.le, fun x hx hk => (List.mem_cons.mp hx).elim (fun q => up _ (.inr (by rw [q]))) fun hx => e2.has x hx hk⟩, fun y hy => up y (.inl hy)⟩
      have : cellOf env n = pure c := by unfold cellOf; rw [hc]
      rw [if_pos (beq_self_eq_true _), this, pure_bind, pure_bind]
      exact e1
    · obtain ⟨cl, e1, e2, e3⟩ := closure_go env r acc h1' h2
      refine ⟨cl, ?_, ⟨e2.le, fun x hx hk' => (List.mem_cons.mp hx).elim (fun q => absurd (by rw [← hk', q]) hk) fun hx => e2.has x hx hk'⟩, e3⟩
      rw [if_neg (fun q => hk (eq_of_beq q)), pure_bind]
      exact e1
theorem closure_ok {env : Env} {sc : Scope} (h : ∀ x ∈ sc.names, x.2 = .free → ∃ c, env.cells.lookup x.1 = some c) : ∃ cl, closureFor sc env = pure cl ∧ Clo env sc.names cl := by
  obtain ⟨cl, e1, e2, _⟩ := closure_go env sc.names [] h (fun _ _ e => nomatch e)
  refine ⟨cl, ?_, e2⟩
  simp only [closureFor]
  rw [show (forIn sc.names ([] : List (Str × Addr)) fun (x : Str × NameKind) (r : List (Str × Addr)) => (match x with
      | (name, kind) => if kind == .free then do let c ← cellOf env name; pure (ForInStep.yield ((name, c) :: r)) else pure (ForInStep.yield r) : Sem _)) = pure cl from e1]
  rfl

/-! a heap cut short -/
noncomputable def trunc (h : Heap) (k : Nat) : Heap := { h with objs := h.objs.extract 0 k }
theorem trunc_get {h : Heap} {k b : Nat} : (trunc h k).get? b = if b < k then h.get? b else none := by
  have ext : ∀ xs : Array Obj, (xs.extract 0 k)[b]? = if b < k then xs[b]? else none := fun xs => by
    rw [Array.getElem?_extract, Nat.zero_add, Nat.sub_zero]
    by_cases q : b < k
    · rw [if_pos q]
      by_cases z : b < xs.size
      · rw [if_pos (by omega)]
      · rw [if_neg (by omega), Array.getElem?_eq_none (by omega)]
    · rw [if_neg q, if_neg (by omega)]
  unfold trunc Heap.get?
  dsimp only
  rw [ext]
  by_cases q : b < k
  · rw [if_pos q, if_pos q]
  · rw [if_neg q, if_neg q]

theorem relabelN_cell {names outer : List (Str × NameKind)} (hn : ∀ n ∈ names, n.2 ≠ .cell) {y : Str} (h : (relabelN names outer).lookup y = some .cell) : (∃ n ∈ names, n.2 = .free ∧ n.1 = y) ∧ outer.lookup y = some .cell := by
  induction names with
  | nil => cases h
  | cons n r ih =>
    obtain ⟨a, k⟩ := n
    have go : (relabelN r outer).lookup y = some .cell → (∃ n ∈ (a, k) :: r, n.2 = .free ∧ n.1 = y) ∧ outer.lookup y = some .cell := fun h => by
      obtain ⟨⟨n, h1, h2⟩, h3⟩ := ih (fun n hn' => hn n (List.mem_cons_of_mem _ hn')) h
      exact ⟨⟨n, List.mem_cons_of_mem _ h1, h2⟩, h3⟩
    have h : ((if (k == .free && outer.lookup a == some .cell) = true then (a, NameKind.cell) else (a, k)) :: relabelN r outer).lookup y = some .cell := h
    by_cases c : (k == NameKind.free && outer.lookup a == some .cell) = true
    · rw [if_pos c, List.lookup_cons] at h
      cases q : y == a with
      | true => cases eq_of_beq q; exact ⟨⟨_, List.mem_cons_self, eq_of_beq (and_l c), rfl⟩, eq_of_beq (and_r c)⟩
      | false => rw [q] at h; exact go h
    · rw [if_neg c, List.lookup_cons] at h
      cases q : y == a with
      | true => rw [q] at h; cases h; exact absurd rfl (hn (a, .cell) List.mem_cons_self)
      | false => rw [q] at h; exact go h
theorem capsIs_get {c : MC} : ∀ {vs : List Str} {caps : List Nat}, capsIs c vs caps = true → ∀ (j k : Nat), caps[j]? = some k → ∃ y, vs[j]? = some y ∧ c.names[k]? = some y ∧ c.scope.names.lookup y = some .cell
  | [], [], _, j, k, e => nomatch e
  | [], _ :: _, h, _, _, _ => nomatch h
  | _ :: _, [], h, _, _, e => nomatch e
  | v :: vs, k :: caps, h, 0, k', e => by cases e; exact ⟨v, rfl, eq_of_beq (and_l (and_l h)), eq_of_beq (and_r (and_l h))⟩
  | v :: vs, k :: caps, h, j + 1, k', e => capsIs_get (and_r h) j k' e
theorem endsPlain_some {o : Out Dat} {r : Dat} (h : endsPlain o = some r) : ∃ vs, o = .ok r ⟨vs, none, none⟩ := by
  match o, h with
  | .ok d ⟨vs, none, none⟩, h => cases h; exact ⟨_, rfl⟩
theorem condOf_some {ev : IE → ASt → Out Dat} {c : IE} {σ : ASt} {b : Bool} (h : condOf ev (some c) σ = some b) : ∃ vs, ev c σ = .ok (.bool b) ⟨vs, none, none⟩ := by
  obtain ⟨d, h1, h2⟩ := Option.bind_eq_some_iff.mp h
  obtain ⟨vs, h3⟩ := endsPlain_some h1
  cases d
  case bool => cases h2; exact ⟨vs, h3⟩
  all_goals exact nomatch h2
theorem drop_get {α : Type} {ds : List α} {i : Nat} {d : α} (h : ds[i]? = some d) : ds.drop i = d :: ds.drop (i + 1) := by
  obtain ⟨hi, e⟩ := List.getElem?_eq_some_iff.mp h
  rw [List.drop_eq_getElem_cons hi, e]

/-- a comprehension within a frame -/
structure Comp where
  C : Cx
  p : Pt
  sc : Scope
  cl : List (Str × Addr)
  x : Str
  caps : List (Option Dat)
  L : Addr
  D : Addr
  I : Addr
noncomputable def Comp.env (K : Comp) : Env := compEnvC K.sc K.cl K.L K.C.env
noncomputable def Comp.cs (K : Comp) : List Addr := (K.C.H ++ (K.p.oa ++ K.p.xa)) ++ [K.D, K.I]
/-- what a comprehension's turn is seen from -/
noncomputable def Comp.inner (K : Comp) (h : Heap) : Cx := { K.C with env := K.env, names := K.x :: freeOf K.sc, sk := "", g := hideAll (trunc h K.L) K.C.F, hE := K.p.s.heap, cs := K.cs }
noncomputable def Comp.hid (K : Comp) : List Addr := (K.L :: (K.C.F ++ K.cs)) ++ ([] ++ [])
noncomputable abbrev Comp.kinds (K : Comp) : List (Str × NameKind) := relabelN K.sc.names K.C.env.scope.names
inductive CapAt (K : Comp) (j : Nat) (d : Dat) : Prop
  | mk (y : Str) (c : Addr) (o : Obj) (v : Value) (hy : (freeOf K.sc)[j]? = some y) (hk : K.kinds.lookup y = some .cell) (hc : K.cl.lookup y = some c) (hi : c ∈ K.C.cs) (e : K.p.s.heap.get? c = some o) (dd : o.data = .cell (some v)) (r : Rp (hideAll K.p.s.heap (K.I :: (K.C.H ++ (K.p.oa ++ K.p.xa)))) v d)
structure CompAt (K : Comp) (σ : ASt) : Prop where
  ok : CxOk K.C
  S : Sim K.C K.p σ
  kind : K.sc.kind = .function
  nodup : (K.x :: freeOf K.sc).Nodup
  loc : K.kinds.lookup K.x = some .local
  nocell : ∀ y ∈ K.sc.names, y.2 ≠ .cell
  clo : Clo K.C.env K.sc.names K.cl
  eL : K.L = K.p.s.heap.objs.size + 1
  eD : K.D = K.p.s.heap.objs.size
  nI : K.I ∉ K.C.H ++ (K.p.oa ++ K.p.xa)
  gI : K.C.g.get? K.I = none
  iH : ∃ o, K.p.s.heap.get? K.I = some o
  caps : ∀ (j : Nat) d, K.caps[j]? = some (some d) → CapAt K j d
/-- where the turns stand -/
structure Turn (K : Comp) (h : Heap) (m' : Str → Option Value) : Prop where
  ns : h.Ns K.L m'
  kp : ∀ b o, b ≠ K.I → b ∉ K.C.F → K.p.s.heap.get? b = some o → h.get? b = some o
  sl : ∀ M ∈ K.C.F, ∀ o, K.p.s.heap.get? M = some o → Slt h M o
  dd : ∃ o, h.get? K.D = some o
  ii : ∃ o, h.get? K.I = some o
structure Next (K : Comp) (h h₂ : Heap) (m' : Str → Option Value) : Prop where
  T : Turn K h₂ m'
  low : ∀ b o, b < K.L → b ∉ K.C.F → h.get? b = some o → h₂.get? b = some o
  up : (hideAll h K.hid).StaysIn (hideAll h₂ K.hid)
section
variable {K : Comp} {σ : ASt} {h h₂ : Heap} {m' : Str → Option Value} {n : Nat}
theorem mem_hid {b : Addr} : b ∈ K.hid ↔ b = K.L ∨ b ∈ K.C.F ∨ b ∈ K.cs := by
  unfold Comp.hid
  rw [List.append_nil, List.append_nil, List.mem_cons, List.mem_append]
theorem mem_cs {b : Addr} : b ∈ K.cs ↔ b ∈ K.C.H ++ (K.p.oa ++ K.p.xa) ∨ b = K.D ∨ b = K.I := by
  unfold Comp.cs
  rw [List.mem_append, List.mem_cons, List.mem_singleton]
theorem relabel_names {C : Cx} {sc : Scope} (hC : CxOk C) : (relabel sc C.env).names = relabelN sc.names C.env.scope.names := by
  unfold relabel relabelN Env.kindOf
  have : (C.env.scope.kind == ScopeKind.function) = true := by rw [hC.kind]; rfl
  simp only [this, Bool.and_true]
theorem inner_mc {x : Str} (A : CompAt K σ) : (K.inner h).mc = inMC K.C.mc K.x K.sc := by
  have e : relabel K.sc K.C.env = { K.sc with names := K.kinds } := congrArg (fun l => ({ K.sc with names := l } : Scope)) (relabel_names A.ok)
  show (⟨K.x :: freeOf K.sc, relabel K.sc K.C.env, "", _, _, _, _, _, _, _, _⟩ : MC) = _
  rw [e]
  rfl
theorem CompAt.lt (A : CompAt K σ) {b : Addr} (e : ∃ o, K.p.s.heap.get? b = some o) : b < K.D := by obtain ⟨o, e⟩ := e; rw [A.eD]; exact Heap.lt_size e
theorem CompAt.ltL (A : CompAt K σ) : K.D < K.L := by rw [A.eL, A.eD]; exact Nat.lt_succ_self _
theorem CompAt.lt' (A : CompAt K σ) {b : Addr} (e : ∃ o, K.p.s.heap.get? b = some o) : b < K.L := Nat.lt_trans (A.lt e) A.ltL
theorem CompAt.ne (A : CompAt K σ) {b : Addr} (e : b ∈ K.C.H ++ (K.p.oa ++ K.p.xa)) : b < K.D ∧ b ≠ K.I := ⟨A.lt (A.S.there b e), fun q => A.nI (q ▸ e)⟩
theorem CompAt.nF (A : CompAt K σ) {b : Addr} (n : b = K.D ∨ b = K.I ∨ b = K.L) : b ∉ K.C.F := fun q => by
  obtain ⟨h1, h2⟩ := A.ne (hH b (mem_H.mpr (.inr (.inl q))))
  have := A.ltL
  rcases n with rfl | rfl | rfl
  · exact Nat.lt_irrefl _ h1
  · exact h2 rfl
  · exact Nat.lt_irrefl _ (Nat.lt_trans h1 this)
/-- a cell that the turns take -/
theorem CompAt.cell (A : CompAt K σ) {y : Str} (hy : K.kinds.lookup y = some .cell) : ∃ c ∈ K.C.cs, K.cl.lookup y = some c ∧ K.C.env.cells.lookup y = some c ∧ K.C.env.kindOf y = some .cell := by
  obtain ⟨⟨n, h1, h2, rfl⟩, h4⟩ := relabelN_cell A.nocell hy
  obtain ⟨c, h5, h6⟩ := A.ok.cells n.1 h4
  obtain ⟨c', e⟩ := Option.isSome_iff_exists.mp (A.clo.has n h1 h2)
  cases (A.clo.le _ _ e).symm.trans h6
  exact ⟨c, h5, e, h6, h4⟩
theorem inner_kind (A : CompAt K σ) {y : Str} {k : NameKind} (e : K.env.kindOf y = some k) : K.kinds.lookup y = some k := by
  have e : (relabel K.sc K.C.env).names.lookup y = some k := e
  rwa [relabel_names A.ok] at e
theorem kind_inner (A : CompAt K σ) {y : Str} {k : NameKind} (e : K.kinds.lookup y = some k) : K.env.kindOf y = some k := by
  show (relabel K.sc K.C.env).names.lookup y = some k
  rwa [relabel_names A.ok]
theorem inner_ok (A : CompAt K σ) (T : Turn K h m') : CxOk (K.inner h) := by
  have gk : ∀ b o, K.C.gk.get? b = some o → b ∉ K.C.H ++ (K.p.oa ++ K.p.xa) ∧ b ≠ K.I ∧ K.p.s.heap.get? b = some o := fun b o e => by
    have := hid_mem (A.S.gk A.ok b o e)
    exact ⟨this.1, some_ne (A.ok.gkg b o e) A.gI, this.2⟩
  exact {
    kind := A.kind
    glob := A.ok.glob
    bns := A.ok.bns
    gl := A.ok.gl
    gkg := fun b o e => by
      obtain ⟨h1, h2, h3⟩ := gk b o e
      have nF : b ∉ K.C.F := fun q => h1 (hH b (mem_H.mpr (.inr (.inl q))))
      exact hid_to nF (by rw [trunc_get, if_pos (A.lt' ⟨o, h3⟩)]; exact T.kp b o h2 nF h3)
    nodup := A.nodup
    frames := A.ok.frames
    handled := A.ok.handled
    there := A.ok.there
    hid := fun b hb' => by
      cases e : K.C.gk.get? b with
      | none => exact e
      | some o =>
        obtain ⟨h1, h2, h3⟩ := gk b o e
        have := A.lt ⟨o, h3⟩
        have := A.ltL
        rcases List.mem_cons.mp hb' with q | q
        · exact absurd (A.lt' ⟨o, h3⟩) (by rw [show b = K.L from q]; exact Nat.lt_irrefl _)
        · rcases List.mem_append.mp q with q | q
          · exact (h1 (hH b (mem_H.mpr (.inr (.inl q))))).elim
          · rcases mem_cs.mp q with q | q | q
            · exact absurd q h1
            · exact absurd (A.lt ⟨o, h3⟩) (by rw [q]; exact Nat.lt_irrefl _)
            · exact absurd q h2
    csL := fun c hc => by
      rcases mem_cs.mp hc with q | q | q
      · exact Nat.ne_of_lt (Nat.lt_trans (A.ne q).1 A.ltL)
      · rw [q]; exact Nat.ne_of_lt A.ltL
      · rw [q]; exact Nat.ne_of_lt (A.lt' A.iH)
    cells := fun y hy => by
      obtain ⟨c, h1, h2, _⟩ := A.cell (inner_kind A hy)
      exact ⟨c, mem_cs.mpr (.inl (hH c (mem_H.mpr (.inr (.inr h1))))), h2⟩
    inj := fun x y c h1 h2 => A.ok.inj x y c (A.clo.le _ _ h1) (A.clo.le _ _ h2)
    gF := fun b hb => hideAll_none _ hb
    newL := Heap.get?_none_of_le (show K.p.s.heap.objs.size ≤ K.L by rw [A.eL]; exact Nat.le_succ _)
    room := A.ok.room
    w := A.ok.w }
theorem turn_up (A : CompAt K σ) (T : Turn K h m') : (hideAll K.p.s.heap (K.I :: (K.C.H ++ (K.p.oa ++ K.p.xa)))).StaysIn (hideAll h K.hid) := fun b o e => by
  obtain ⟨nb, e⟩ := hid_mem e
  have nI : b ≠ K.I := fun q => nb (q ▸ List.mem_cons_self)
  have nH := fun q => nb (List.mem_cons_of_mem _ q)
  have nF : b ∉ K.C.F := fun q => nH (hH b (mem_H.mpr (.inr (.inl q))))
  refine hid_to (fun q => ?_) (T.kp b o nI nF e)
  rcases mem_hid.mp q with q | q | q
  · exact absurd (A.lt' ⟨o, e⟩) (by rw [q]; exact Nat.lt_irrefl _)
  · exact nF q
  · rcases mem_cs.mp q with q | q | q
    · exact nH q
    · exact absurd (A.lt ⟨o, e⟩) (by rw [q]; exact Nat.lt_irrefl _)
    · exact nI q
/-- the state in a turn -/
theorem turn_sim (A : CompAt K σ) (T : Turn K h m') {v : Value} {d : Dat} {tk : Nat} (hx : m' K.x = some v) (rv : Rp (hideAll h K.hid) v d) : Sim (K.inner h) ⟨{ K.p.s with heap := h, toks := tk }, m', [], []⟩ ⟨some d :: K.caps, none, none⟩ := by
  have csK : ∀ c o, c ∈ K.C.cs → K.p.s.heap.get? c = some o → (∀ es k, o.data ≠ .dict es k) → h.get? c = some o := fun c o hc e q => T.kp c o (A.ne (hH c (mem_H.mpr (.inr (.inr hc))))).2 (A.S.co.nF e q) e
  refine ⟨⟨⟨T.ns, fun b o e => ?_, ?_⟩, fun M hM => (A.S.co.objs M hM).slt (T.sl M hM), T.sl, fun c hc => ?_, fun y c hk hy => ?_⟩, fun k d' e => ?_, rfl, rfl, no_mem⟩
  · obtain ⟨nF, e⟩ := hid_mem e
    rw [trunc_get] at e
    by_cases q : b < K.L
    · rw [if_pos q] at e; exact e
    · rw [if_neg q] at e; cases e
  · show (hideAll (trunc h K.L) K.C.F).objs.size ≤ K.L
    rw [hideAll_size]
    unfold trunc
    rw [Array.size_extract]
    omega
  · rcases mem_cs.mp hc with q | q | q
    · obtain ⟨o, e⟩ := A.S.there c q
      by_cases z : c ∈ K.C.F
      · obtain ⟨sl, e'⟩ := T.sl c z o e; exact ⟨_, e'⟩
      · exact ⟨o, T.kp c o (A.ne q).2 z e⟩
    · exact q ▸ T.dd
    · exact q ▸ T.ii
  · obtain ⟨c', h1, h2, h3, h4⟩ := A.cell (inner_kind A hk)
    cases h2.symm.trans hy
    obtain ⟨o, v, e, dd⟩ := A.S.co.cl y c h4 h3
    exact ⟨o, v, csK c o h1 e (fun es k z => by rw [dd] at z; cases z), dd⟩
  · cases k with
    | zero => cases e; exact ⟨v, .loc K.x rfl (kind_inner A A.loc) hx, rv⟩
    | succ k =>
      obtain ⟨y, c, o, v', hy, hk, hc, hi, e, dd, r⟩ := A.caps k d' e
      exact ⟨v', .cell y c o hy (kind_inner A hk) hc (mem_cs.mpr (.inl (hH c (mem_H.mpr (.inr (.inr hi)))))) (csK c o hi e fun es k z => by rw [dd] at z; cases z) dd, r.mono (turn_up A T)⟩
/-- an evaluation within a turn -/
theorem turn_snd {α β : Type} {R : Pt → α → β → Prop} {t : Sem α} {o : Out β} {r : β} {vs : List (Option Dat)} {tk : Nat} {Q : α → Shared → Prop} {E : Value → Shared → Prop} (A : CompAt K σ) (T : Turn K h m') (B : Snd (K.inner h) 0 R ⟨{ K.p.s with heap := h, toks := tk }, m', [], []⟩ o t) (e : o = .ok r ⟨vs, none, none⟩)
    (k : ∀ v h₂ tk₂, Next K h h₂ m' → R ⟨{ K.p.s with heap := h₂, toks := tk₂ }, m', [], []⟩ v r → Q v { K.p.s with heap := h₂, toks := tk₂ }) : wpAny K.C.M K.C.A t Q E { K.p.s with heap := h, toks := tk } := B Q E (by
  rw [e]
  intro v p₂ g
  obtain ⟨s₂, m₂, oa₂, xa₂⟩ := p₂
  obtain ⟨f1, f2⟩ := g.A.fx rfl
  cases (f1 : m₂ = m')
  cases (f2 : xa₂ = [])
  cases (g.S.ow : oa₂ = [])
  have es := g.A.s
  have low : ∀ b o, b < K.L → b ∉ K.C.F → h.get? b = some o → s₂.heap.get? b = some o := fun b o lt nF e => g.S.co.fr.keep b o (hid_to nF (by rw [trunc_get, if_pos lt]; exact e))
  have := k v s₂.heap s₂.toks ⟨⟨g.S.co.fr.ns, fun b o n nF e => low b o (A.lt' ⟨o, e⟩) nF (T.kp b o n nF e), g.S.co.out, let ⟨o, e⟩ := T.dd; ⟨o, low K.D o A.ltL (A.nF (.inl rfl)) e⟩, let ⟨o, e⟩ := T.ii; ⟨o, low K.I o (A.lt' A.iH) (A.nF (.inr (.inl rfl))) e⟩⟩, low, g.A.up (Nat.zero_le _)⟩
  rw [← show s₂ = { K.p.s with heap := s₂.heap, toks := s₂.toks } from es] at this
  exact this g.r)
end
end Mine

namespace Mine
open PySem PySem.W PySem.Calls PyProof.Rows

section
variable {K : Comp} {σ : ASt} {h h₂ : Heap} {m' : Str → Option Value} {n : Nat}
/-- the turns' own goods -/
structure Turns (n : Nat) (K : Comp) (elt : IE) (cnd : Option IE) (ex ct : Expr) (fp : List Addr) (N : Nat) (P : Nat → Value → Prop) (St : Nat → Heap → Prop) (ds all : List Dat) : Prop where
  W : Walks K.C.G.prog K.C.G.w K.C.A K.I fp [K.I] N P St
  sz : N ≤ sizeLine
  he : okE n (inMC K.C.mc K.x K.sc) elt ex = true
  hc : okO (okE n) (inMC K.C.mc K.x K.sc) cnd ct = true
  st : St 0 K.p.s.heap
  live : ∀ i h, St i h → ∃ o, h.get? K.I = some o
  fp : ∀ b ∈ fp, (∃ o, K.p.s.heap.get? b = some o) ∧ b ∉ K.C.F
  len : ds.length = N
  item : ∀ i v, i < N → P i v → ∃ d, ds[i]? = some d ∧ Rp (hideAll K.p.s.heap (K.I :: (K.C.H ++ (K.p.oa ++ K.p.xa)))) v d
  all : evComp (evE K.C.O n) elt cnd K.caps ds = some all
inductive CInv (n : Nat) (K : Comp) (elt : IE) (cnd : Option IE) (N : Nat) (St : Nat → Heap → Prop) (ds all : List Dat) (k : Nat) (s' : Shared) : Prop
  | mk (h : Heap) (tk : Nat) (m' : Str → Option Value) (ys : Array Value) (nn i : Nat) (res rest : List Dat) (es : s' = { K.p.s with heap := h, toks := tk }) (hi : i ≤ N) (hk : k = N + 1 - i) (st : St i h) (hD : h.get? K.D = some (listOf ys nn)) (T : Turn K h m')
    (rr : RpL (hideAll h K.hid) ys.toList res) (er : evComp (evE K.C.O n) elt cnd K.caps (ds.drop i) = some rest) (ea : res ++ rest = all) (hy : ys.size ≤ i)
theorem turn_ih (A : CompAt K σ) (ih : IhE n) (T : Turn K h m') {v : Value} {d : Dat} (hx : m' K.x = some v) (rv : Rp (hideAll h K.hid) v d) (tk : Nat) {e : IE} {ex : Expr} (he : okE n (inMC K.C.mc K.x K.sc) e ex = true) : Both (K.inner h) ⟨{ K.p.s with heap := h, toks := tk }, m', [], []⟩ (evE K.C.O n e ⟨some d :: K.caps, none, none⟩) (nrmE n (inMC K.C.mc K.x K.sc) e ex) := by
  have q : (K.inner h).mc = inMC K.C.mc K.x K.sc := inner_mc (x := K.x) A
  rw [← q] at he ⊢
  exact ih (K.inner h) (inner_ok A T) e ex he _ _ (turn_sim (tk := tk) A T hx rv)
/-- a turn's value is taken on -/
theorem turn_elt {elt : IE} {cnd : Option IE} {ex ct : Expr} {fp : List Addr} {N i : Nat} {P : Nat → Value → Prop} {St : Nat → Heap → Prop} {ds all res rest : List Dat} {ys : Array Value} {nn tk : Nat} {v : Value} {d r : Dat} {vs : List (Option Dat)} (A : CompAt K σ) (ih : IhE n) (Z : Turns n K elt cnd ex ct fp N P St ds all)
    (hi : i < N) (st : St (i + 1) h) (hD : h.get? K.D = some (listOf ys nn)) (T : Turn K h m') (rr : RpL (hideAll h K.hid) ys.toList res) (hx : m' K.x = some v) (rv : Rp (hideAll h K.hid) v d) (hev : evE K.C.O n elt ⟨some d :: K.caps, none, none⟩ = .ok r ⟨vs, none, none⟩)
    (er : evComp (evE K.C.O n) elt cnd K.caps (ds.drop (i + 1)) = some rest) (ea : res ++ (r :: rest) = all) (hy : ys.size ≤ i) {E' : Value → Shared → Prop} :
    wpAny K.C.M K.C.A (eval (nrmE n (inMC K.C.mc K.x K.sc) elt ex) K.env) (fun x s₄ => wpAny K.C.M K.C.A (call (.builtin "list.append") [.ref K.D, x]) (fun _ s₅ => ∃ m, m < N + 1 - i ∧ CInv n K elt cnd N St ds all m s₅) E' s₄) E' { K.p.s with heap := h, toks := tk } := by
  refine turn_snd (tk := tk) A T (turn_ih A ih T hx rv tk Z.he).e hev fun v' h₅ tk₅ X r₅ => ?_
  have hD₅ := X.low K.D _ A.ltL (A.nF (.inl rfl)) hD
  refine append_at (s := { K.p.s with heap := h₅, toks := tk₅ }) hD₅ (fun h₆ sb hD₆ => ?_) (by have := Z.sz; omega)
  have k56 : ∀ b o, b ≠ K.D → h₅.get? b = some o → h₆.get? b = some o := fun b o n e => sb.extBut b o n e
  have up : (hideAll h₅ K.hid).StaysIn (hideAll h₆ K.hid) := hb_mono (fun b o nb e => k56 b o (fun q => nb (mem_hid.mpr (.inr (.inr (mem_cs.mpr (.inr (.inl q))))))) e) fun _ z => z
  have fpk : ∀ b ∈ fp, b < K.L ∧ b ≠ K.D := fun b hb => ⟨A.lt' (Z.fp b hb).1, Nat.ne_of_lt (A.lt (Z.fp b hb).1)⟩
  have st₅ := Z.W.frame _ _ _ st fun b hb o e => X.low b o (fpk b hb).1 (Z.fp b hb).2 e
  refine ⟨N + 1 - (i + 1), by omega, h₆, tk₅, m', ys.push v', nn + 1, i + 1, res ++ [r], rest, rfl, hi, rfl, Z.W.frame _ _ _ st₅ fun b hb o e => k56 b o (fpk b hb).2 e, hD₆, ⟨X.T.ns.at' fun o e => k56 _ _ (Nat.ne_of_gt A.ltL) e, fun b o n nF e => k56 b o (Nat.ne_of_lt (A.lt ⟨o, e⟩)) (X.T.kp b o n nF e), fun M hM o e => ?_, ⟨_, hD₆⟩, let ⟨o, e⟩ := X.T.ii; ⟨o, k56 _ _ (Nat.ne_of_lt (A.lt A.iH)) e⟩⟩, ?_, er, ?_, ?_⟩
  · obtain ⟨sl, e'⟩ := X.T.sl M hM o e
    exact ⟨sl, k56 M _ (fun q => A.nF (.inl q) hM) e'⟩
  · rw [Array.toList_push]
    exact ((rr.mono X.up).mono up).append (.one (r₅.mono up))
  · rw [List.append_assoc]; exact ea
  · rw [Array.size_push]; omega
theorem comp_turns {elt : IE} {cnd : Option IE} {ex ct iter : Expr} {px pos : Pos} {fp : List Addr} {N : Nat} {P : Nat → Value → Prop} {St : Nat → Heap → Prop} {ds all : List Dat} (A : CompAt K σ) (ih : IhE n) (Z : Turns n K elt cnd ex ct fp N P St ds all) {RR : Value → Addr → Result → Shared → Prop} {E : Value → Shared → Prop}
    (hR : ∀ h' tk m' ys nn, h'.Ns K.L m' → (∀ b o, b ≠ K.I → b ∉ K.C.F → K.p.s.heap.get? b = some o → h'.get? b = some o) → (∀ M ∈ K.C.F, ∀ o, K.p.s.heap.get? M = some o → Slt h' M o) → h'.get? K.D = some (listOf ys nn) → RpL (hideAll h' K.hid) ys.toList all → RR (.ref K.D) K.L (.ok .next) { K.p.s with heap := h', toks := tk }) :
    wpAny K.C.M K.C.A (newList []) (fun acc s₃ => wpAny K.C.M K.C.A (newFunctionEnv K.sc K.C.env.globals K.cl [] K.C.env.qual none .none (some K.C.env)) (fun cenv s₄ =>
      codeAny K.C.M K.C.A (.compStart (.ListComp (nrmE n (inMC K.C.mc K.x K.sc) elt ex) [⟨.Name K.x px, iter, (nO (nrmE n) (inMC K.C.mc K.x K.sc) cnd ct).toList, 0⟩] K.sc pos) 0 (.ref K.I) acc { cenv with scope := relabel K.sc K.C.env }) (RR acc cenv.locals) s₄) E s₃) E K.p.s := by
  refine wpAny_newObj_type (wpAny_newFunctionEnv A.nocell (fun y hy => nomatch hy) (fun h₁ hns₁ hsb₁ => ?_) A.kind)
  dsimp only at hns₁ hsb₁ ⊢
  have eL : (K.p.s.heap.push { cls := .type "list", dict := none, data := .seq ([] : List Value).toArray }).objs.size = K.L := by rw [A.eL, Heap.size_push]
  rw [eL] at hns₁ hsb₁ ⊢
  have old : ∀ b o, K.p.s.heap.get? b = some o → h₁.get? b = some o := fun b o e => hsb₁.extBut b o (Nat.ne_of_lt (A.lt' ⟨o, e⟩)) (Heap.get?_push_of_some _ (Heap.get?_push_of_some _ e))
  have hacc : h₁.get? K.D = some (listOf #[] 0) := hsb₁.extBut _ _ (Nat.ne_of_lt A.ltL) (Heap.get?_push_of_some _ (by rw [A.eD]; exact Heap.get?_push_size _ rfl))
  rw [← A.eD]
  have st₁ := Z.W.frame _ _ _ Z.st fun b hb o e => old b o e
  have loop : ∀ s₃ : Shared, s₃ = { K.p.s with heap := h₁, toks := K.p.s.toks + ([] : List (Str × Value)).length } →
      codeAny K.C.M K.C.A (.compLoop (.ListComp (nrmE n (inMC K.C.mc K.x K.sc) elt ex) [⟨.Name K.x px, iter, (nO (nrmE n) (inMC K.C.mc K.x K.sc) cnd ct).toList, 0⟩] K.sc pos) 0 (.ref K.I) (.ref K.D) K.env) (RR (.ref K.D) K.L) s₃ := by
    rintro s₃ rfl
    refine codeAny_compLoop_tests (CInv n K elt cnd N St ds all) ?_ (N + 1)
      ⟨h₁, _, _, #[], 0, 0, [], all, rfl, Nat.zero_le _, rfl, st₁, hacc, ⟨hns₁, fun b o _ _ e => old b o e, fun M hM o e => ⟨o.slots, old M o e⟩, ⟨_, hacc⟩, let ⟨o, e⟩ := A.iH; ⟨o, old _ _ e⟩⟩, .nil, Z.all, rfl, Nat.zero_le _⟩
    rintro k s' ⟨h, tk, m', ys, nn, i, res, rest, rfl, hi, rfl, hst, hD', T, rr, hrest, hall', hys⟩
    by_cases hin : i < N
    · refine Z.W.item i _ _ _ hin hst fun v h₂ tk₂ hp hst₂ hk₂ => ?_
      have hk₂ : ∀ b o, b ≠ K.I → h.get? b = some o → h₂.get? b = some o := fun b o n e => hk₂ b o (fun q => n (List.mem_singleton.mp q)) e
      have iL : K.I ≠ K.L := Nat.ne_of_lt (A.lt' A.iH)
      have iD : K.I ≠ K.D := Nat.ne_of_lt (A.lt A.iH)
      have ns₂ : h₂.Ns K.L m' := T.ns.at' fun o e => hk₂ K.L o iL.symm e
      refine wpAny_assign_Name (wpAny_storeName_local (env := K.env) (kind_inner A A.loc) ns₂ (fun h₃ ns₃ sb₃ => ?_) (by have e : K.env.scope.kind = .function := A.kind; rw [e]; rfl))
      generalize hm2 : (fun z => if z = K.x then some v else m' z) = m₂ at ns₃
      have hx : m₂ K.x = some v := by rw [← hm2]; exact if_pos rfl
      have sb₃ : Heap.SameBut K.L h₂ h₃ := sb₃
      have k23 : ∀ b o, b ≠ K.L → b ≠ K.I → h.get? b = some o → h₃.get? b = some o := fun b o n1 n2 e => sb₃.extBut b o n1 (hk₂ b o n2 e)
      have T₃ : Turn K h₃ m₂ := ⟨ns₃, fun b o n nF e => k23 b o (Nat.ne_of_lt (A.lt' ⟨o, e⟩)) n (T.kp b o n nF e), fun M hM o e => by
        obtain ⟨sl, e'⟩ := T.sl M hM o e
        exact ⟨sl, k23 M _ (fun q => A.nF (.inr (.inr q)) hM) (fun q => A.nF (.inr (.inl q)) hM) e'⟩, ⟨_, k23 _ _ (Nat.ne_of_lt A.ltL) iD.symm hD'⟩, let ⟨o, e⟩ := Z.live _ _ hst₂; ⟨o, sb₃.extBut _ _ iL e⟩⟩
      have hst₃ : St (i + 1) h₃ := Z.W.frame _ _ _ hst₂ fun b hb o e => sb₃.extBut b o (Nat.ne_of_lt (A.lt' (Z.fp b hb).1)) e
      have rr₃ : RpL (hideAll h₃ K.hid) ys.toList res := rr.mono (hb_mono (fun b o nb e => k23 b o (fun q => nb (mem_hid.mpr (.inl q))) (fun q => nb (mem_hid.mpr (.inr (.inr (mem_cs.mpr (.inr (.inr q))))))) e) fun _ z => z)
      obtain ⟨d, hd, rv⟩ := Z.item i v hin hp
      have rv₃ := rv.mono (turn_up A T₃)
      have hD₃ := k23 _ _ (Nat.ne_of_lt A.ltL) iD.symm hD'
      rw [drop_get hd] at hrest
      have hrest : (match condOf (evE K.C.O n) cnd ⟨some d :: K.caps, none, none⟩ with
        | none => none
        | some false => evComp (evE K.C.O n) elt cnd K.caps (ds.drop (i + 1))
        | some true => match endsPlain (evE K.C.O n elt ⟨some d :: K.caps, none, none⟩) with
          | none => none
          | some r => (evComp (evE K.C.O n) elt cnd K.caps (ds.drop (i + 1))).map (r :: ·)) = some rest := hrest
      have yes : condOf (evE K.C.O n) cnd ⟨some d :: K.caps, none, none⟩ = some true → ∃ r vs rest', evE K.C.O n elt ⟨some d :: K.caps, none, none⟩ = .ok r ⟨vs, none, none⟩ ∧ evComp (evE K.C.O n) elt cnd K.caps (ds.drop (i + 1)) = some rest' ∧ r :: rest' = rest := fun hb => by
        rw [hb] at hrest
        cases he2 : endsPlain (evE K.C.O n elt ⟨some d :: K.caps, none, none⟩) with
        | none => rw [he2] at hrest; cases hrest
        | some r =>
          rw [he2] at hrest
          obtain ⟨rest', q1, q2⟩ := Option.map_eq_some_iff.mp hrest
          obtain ⟨vs, q3⟩ := endsPlain_some he2
          exact ⟨r, vs, rest', q3, q1, q2⟩
      cases cnd with
      | none =>
        obtain ⟨r, vs, rest', q1, q2, q3⟩ := yes rfl
        exact wpAny_tests_nil (turn_elt A ih Z hin hst₃ hD₃ T₃ rr₃ hx rv₃ q1 q2 (by rw [q3]; exact hall') hys)
      | some c =>
        refine wpAny_tests_one ?_
        cases hb : condOf (evE K.C.O n) (some c) ⟨some d :: K.caps, none, none⟩ with
        | none => rw [hb] at hrest; cases hrest
        | some b =>
          obtain ⟨vs', hev⟩ := condOf_some hb
          refine turn_snd (o := (evE K.C.O n c ⟨some d :: K.caps, none, none⟩).bind fun d σ₁ => ofO (asB d) σ₁) (r := b) (vs := vs') A T₃ (turn_ih A ih T₃ hx rv₃ _ Z.hc).t (by rw [hev]; rfl) fun v' h₄ tk₄ X r₄ => ?_
          cases r₄
          have hst₄ := Z.W.frame _ _ _ hst₃ fun b hb o e => X.low b o (A.lt' (Z.fp b hb).1) (Z.fp b hb).2 e
          have hD₄ := X.low K.D _ A.ltL (A.nF (.inl rfl)) hD₃
          cases b with
          | false =>
            rw [hb] at hrest
            rw [if_neg Bool.false_ne_true]
            exact ⟨N + 1 - (i + 1), by omega, h₄, tk₄, m₂, ys, nn, i + 1, res, rest, rfl, hin, rfl, hst₄, hD₄, X.T, rr₃.mono X.up, hrest, hall', Nat.le_succ_of_le hys⟩
          | true =>
            obtain ⟨r, vs, rest', q1, q2, q3⟩ := yes hb
            rw [if_pos rfl]
            exact turn_elt A ih Z hin hst₄ hD₄ X.T (rr₃.mono X.up) hx (rv₃.mono X.up) q1 q2 (by rw [q3]; exact hall') hys
    · have hi' : i = N := by omega
      subst hi'
      refine Z.W.done _ _ _ hst fun h₂ tk₂ hk₂ => ?_
      have k2 : ∀ b o, b ≠ K.I → h.get? b = some o → h₂.get? b = some o := fun b o n e => hk₂ b o (fun q => n (List.mem_singleton.mp q)) e
      have iD : K.I ≠ K.D := Nat.ne_of_lt (A.lt A.iH)
      rw [List.drop_eq_nil_of_le (Nat.le_of_eq Z.len)] at hrest
      cases Option.some.inj hrest
      rw [List.append_nil] at hall'
      subst hall'
      exact hR h₂ tk₂ m' ys nn (T.ns.at' fun o e => k2 _ _ (Nat.ne_of_gt (A.lt' A.iH)) e) (fun b o n nF e => k2 b o n (T.kp b o n nF e)) (fun M hM o e => by
        obtain ⟨sl, e'⟩ := T.sl M hM o e
        exact ⟨sl, k2 M _ (fun q => A.nF (.inr (.inl q)) hM) e'⟩) (k2 _ _ iD.symm hD') (rr.mono (hb_mono (fun b o nb e => k2 b o (fun q => nb (mem_hid.mpr (.inr (.inr (mem_cs.mpr (.inr (.inr q))))))) e) fun _ z => z))
  exact codeAny_compStart_list (loop _ rfl) (Z.W.self 0 _ _ _ st₁ (loop _ rfl))
end
end Mine

namespace Mine
open PySem PySem.W PySem.Calls PyProof.Rows

structure CDone (C : Cx) (p : Pt) (σ : ASt) (all : List Dat) (D L : Addr) (h' : Heap) : Prop where
  ns : ∃ m', h'.Ns L m'
  nL : p.s.heap.get? L = none
  post : ∀ h'' tk, Heap.SameBut L h' h'' → Sim C (p.to h'' tk) σ ∧ Aftr C 0 p (p.to h'' tk) ∧ Rp (hb C (p.to h'' tk)) (.ref D) (.list all)
structure CompIs (c : MC) (x : Str) (sc : Scope) (caps : List Nat) : Prop where
  kind : sc.kind = .function
  nocell : ∀ y ∈ sc.names, y.2 ≠ .cell
  loc : ∀ y ∈ sc.names, y.2 = .local → sc.names.lookup y.1 = some .local
  nodup : (x :: freeOf sc).Nodup
  xl : (relabelN sc.names c.scope.names).lookup x = some .local
  free : ∀ y ∈ freeOf sc, (relabelN sc.names c.scope.names).lookup y = some .cell ∧ c.scope.names.lookup y = some .cell
  caps : capsIs c (freeOf sc) caps = true
theorem compIs {c : MC} {x : Str} {sc : Scope} {caps : List Nat} (h : compOk c x sc caps = true) : CompIs c x sc caps := by
  have h6 := and_l h
  have h5 := and_l h6
  have h4 := and_l h5
  have h3 := and_l h4
  have h2 := and_l h3
  refine ⟨eq_of_beq (and_l h2), fun y hy q => ?_, fun y hy q => ?_, of_decide_eq_true (and_r h4), eq_of_beq (and_r h5), fun y hy => ?_, and_r h⟩
  · have := List.all_eq_true.mp (and_r h2) y hy
    rw [q] at this
    exact nomatch this
  · have := List.all_eq_true.mp (and_r h3) y hy
    rw [q] at this
    exact eq_of_beq this
  · have := List.all_eq_true.mp (and_r h6) y hy
    exact ⟨eq_of_beq (and_l this), eq_of_beq (and_r this)⟩
section
variable {C : Cx} {p : Pt} {σ : ASt} {n : Nat} {ex : Expr} {pos px : Pos} {sc : Scope} {x : Str} {caps : List Nat}
theorem mem_free {y : Str × NameKind} (hy : y ∈ sc.names) (hk : y.2 = .free) : y.1 ∈ freeOf sc := List.mem_map.mpr ⟨y, List.mem_filter.mpr ⟨hy, by rw [hk]; rfl⟩, rfl⟩
theorem comp_closure (hC : CxOk C) (K : CompIs C.mc x sc caps) : ∃ cl, closureFor sc C.env = pure cl ∧ Clo C.env sc.names cl := closure_ok fun y hy hk => by
  obtain ⟨c, _, hc⟩ := hC.cells y.1 (K.free _ (mem_free hy hk)).2
  exact ⟨c, hc⟩
/-- a comprehension, from where its source has been walked to -/
theorem comp_value (hC : CxOk C) (ih : IhE n) (S : Sim C p σ) {elt : IE} {cnd : Option IE} {e ct iter : Expr} (M : CompIs C.mc x sc caps) (he : okE n (inMC C.mc x sc) elt e = true) (hc : okO (okE n) (inMC C.mc x sc) cnd ct = true) {cl : List (Str × Addr)} (clo : Clo C.env sc.names cl)
    {o : Obj} {ds all : List Dat} {fp : List Addr} {P : Nat → Value → Prop} {St : Nat → Heap → Prop} (W : WalkOk C.G.prog C.G.w p.s.heap.objs.size (p.s.heap.push o) (hb C p) ds fp P St) (hsz : sz ds.length = true)
    (hall : evComp (evE C.O n) elt cnd (caps.map fun k => (σ.vars[k]?).join) ds = some all) {RR : Value → Addr → Result → Shared → Prop} {E : Value → Shared → Prop}
    (hR : ∀ D L h' tk, CDone C p σ all D L h' → RR (.ref D) L (.ok .next) { p.s with heap := h', toks := tk }) :
    wpAny C.M C.A (newList []) (fun acc s₃ => wpAny C.M C.A (newFunctionEnv sc C.env.globals cl [] C.env.qual none .none (some C.env)) (fun cenv s₄ =>
      codeAny C.M C.A (.compStart (.ListComp (nrmE n (inMC C.mc x sc) elt e) [⟨.Name x px, iter, (nO (nrmE n) (inMC C.mc x sc) cnd ct).toList, 0⟩] sc pos) 0 (.ref p.s.heap.objs.size) acc { cenv with scope := relabel sc C.env }) (RR acc cenv.locals) s₄) E s₃) E { p.s with heap := p.s.heap.push o } := by
  obtain ⟨S₀, A₀⟩ := S.push hC o p.s.toks
  have ps : (p.s.heap.push o).objs.size = p.s.heap.objs.size + 1 := Heap.size_push ..
  have lt : ∀ b, (∃ o, p.s.heap.get? b = some o) → b < p.s.heap.objs.size := fun b ⟨o, e⟩ => Heap.lt_size e
  have nI : p.s.heap.objs.size ∉ C.H ++ (p.oa ++ p.xa) := fun q => Nat.lt_irrefl _ (lt _ (S.there _ q))
  have iH : ∃ o', (p.s.heap.push o).get? p.s.heap.objs.size = some o' := let ⟨o, e, _⟩ := W.live 0 _ W.st; ⟨o, e⟩
  have up : (hb C p).StaysIn (hideAll (p.s.heap.push o) (p.s.heap.objs.size :: (C.H ++ (p.oa ++ p.xa)))) := fun b ob e => by
    obtain ⟨nb, e⟩ := hid_mem e
    exact hid_to (fun q => (List.mem_cons.mp q).elim (fun q => Nat.ne_of_lt (Heap.lt_size e) q) nb) (Heap.get?_push_of_some _ e)
  have A : CompAt ⟨C, p.to (p.s.heap.push o) p.s.toks, sc, cl, x, caps.map fun k => (σ.vars[k]?).join, p.s.heap.objs.size + 1 + 1, p.s.heap.objs.size + 1, p.s.heap.objs.size⟩ σ := {
    ok := hC
    S := S₀
    kind := M.kind
    nodup := M.nodup
    loc := M.xl
    nocell := M.nocell
    clo := clo
    eL := by show _ = (p.s.heap.push o).objs.size + 1; rw [ps]
    eD := ps.symm
    nI := nI
    gI := none_of S.co.fr.keep (none_size _)
    iH := iH
    caps := fun j d e => by
      have e : (caps.map fun k => (σ.vars[k]?).join)[j]? = some (some d) := e
      rw [List.getElem?_map] at e
      obtain ⟨k, hk, e⟩ := Option.map_eq_some_iff.mp e
      have e : σ.vars[k]? = some (some d) := by
        cases q : σ.vars[k]? with
        | none => rw [q] at e; cases e
        | some w => rw [q] at e; exact congrArg some e
      obtain ⟨y, c1, c2, c3⟩ := capsIs_get M.caps j k hk
      obtain ⟨v, X, r⟩ := S.vs k d e
      have c2 : C.names[k]? = some y := c2
      cases X with
      | loc y' hx hk' _ =>
        cases hx.symm.trans c2
        have c3 : C.env.kindOf y = some .cell := c3
        rw [c3] at hk'
        cases hk'
      | cell y' c ob hx hk' hc' hi e' dd =>
        cases hx.symm.trans c2
        have ym : y ∈ freeOf sc := List.mem_of_getElem? c1
        obtain ⟨z, hz, rfl⟩ := List.mem_map.mp ym
        obtain ⟨hz1, hz2⟩ := List.mem_filter.mp hz
        obtain ⟨c', e2⟩ := Option.isSome_iff_exists.mp (clo.has z hz1 (eq_of_beq hz2))
        cases (clo.le _ _ e2).symm.trans hc'
        exact ⟨z.1, c, ob, v, c1, (M.free _ ym).1, e2, hi, Heap.get?_push_of_some _ e', dd, r.mono up⟩ }
  refine comp_turns (K := ⟨C, p.to (p.s.heap.push o) p.s.toks, sc, cl, x, caps.map fun k => (σ.vars[k]?).join, p.s.heap.objs.size + 1 + 1, p.s.heap.objs.size + 1, p.s.heap.objs.size⟩) A ih (ds := ds) (all := all)
    ⟨W.walk C.A hC.handled, sz_le hsz, he, hc, W.st, fun i h st => let ⟨o, e, _⟩ := W.live i h st; ⟨o, e⟩, fun b q => ?_, rfl, fun i v hi hp => ?_, hall⟩ fun h' tk m' ys nn hn k1 k2 hD rr => ?_
  · rcases W.fp b q with rfl | ⟨ob, e⟩
    · exact ⟨iH, fun z => nI (hH _ (mem_H.mpr (.inr (.inl z))))⟩
    · obtain ⟨nb, e⟩ := hid_mem e
      exact ⟨⟨ob, Heap.get?_push_of_some _ e⟩, fun z => nb (hH _ (mem_H.mpr (.inr (.inl z))))⟩
  · obtain ⟨d, h1, h2⟩ := W.item i v hi hp
    exact ⟨d, h1, h2.mono up⟩
  · have nL : p.s.heap.get? (p.s.heap.objs.size + 1 + 1) = none := Heap.get?_none_of_le (by omega)
    have nD : p.s.heap.get? (p.s.heap.objs.size + 1) = none := Heap.get?_none_of_le (by omega)
    refine hR _ _ h' tk ⟨⟨m', hn⟩, nL, fun h'' tk' sb => ?_⟩
    have kk : ∀ b ob, b ≠ p.s.heap.objs.size + 1 + 1 → h'.get? b = some ob → h''.get? b = some ob := fun b ob n e => sb.extBut b ob n e
    obtain ⟨S', A'⟩ := S.calledP hC (h' := h'') ⟨fun b ob _ nF e => kk b ob (some_ne e nL) (k1 b ob (Nat.ne_of_lt (Heap.lt_size e)) nF (Heap.get?_push_of_some _ e)), fun M' hM ob e => by
      obtain ⟨sl, e'⟩ := k2 M' hM ob (Heap.get?_push_of_some _ e)
      exact ⟨sl, kk M' _ (some_ne e nL) e'⟩⟩ tk'
    have na : p.s.heap.objs.size + 1 ∉ C.H ++ (p.oa ++ p.xa) := fun q => by
      obtain ⟨o', e'⟩ := S.there _ q
      exact some_ne e' nD rfl
    exact ⟨S', A', .list (vs := ys.toList) (n := nn) (by rw [toL]; exact hid_to na (kk _ _ (Nat.ne_of_lt (Nat.lt_succ_self (p.s.heap.objs.size + 1))) hD)) (rr.mono (hb_mono (fun b ob nb e => kk b ob (fun q => nb (mem_hid.mpr (.inl q))) e) fun b q => mem_hid.mpr (.inr (.inr (mem_cs.mpr (.inl q))))))⟩

theorem b_comp (hC : CxOk C) (ih : IhE n) {elt src : IE} (S : Sim C p σ) (h : (okE n C.mc src (kid ex 2) && compOk C.mc (idOf (kid ex 1)) (scOf C.mc.scope ex) caps && okE n (inC C.mc ex) elt (kid ex 0)) = true) : Both C p (stepE C.O (evE C.O n) (.comp elt src caps) σ) (nrm (nrmE n) C.mc (.comp elt src caps) ex) := by
  have M := compIs (and_r (and_l h))
  obtain ⟨cl, hclos, clo⟩ := comp_closure hC M
  refine SE.both (fun Q E k => ?_) rfl
  show wpAny C.M C.A (eval (.ListComp _ _ _ _) C.env) Q E p.s
  rw [eval_ListComp]
  refine wpAny_comprehension_free (use := none) rfl (fun v => set_n v) hclos M.kind M.loc ((ih C hC _ _ (and_l (and_l h)) p σ S).e.sq k fun d σ₁ v p₁ g k => ?_)
  cases hi : itemsD d with
  | none => rw [hi] at k; exact k.elim
  | some ds =>
    rw [hi] at k
    refine Nxt.if_ k fun hz k => k.opt fun d' e k => ?_
    obtain ⟨all, hall, rfl⟩ := Option.map_eq_some_iff.mp e
    exact iter_ok g.r hid_le hi fun o fp P St W => comp_value (cnd := none) (ct := default) (RR := fun acc L => compPost C.M C.A E none Q acc L) hC ih g.S M (and_r h) rfl clo W hz hall fun D L h' tk X => X.ns.imp fun m' hn => ⟨hn, fun h'' sb => let ⟨S', A', r'⟩ := X.post h'' tk sb; k _ _ ⟨A', S', r'⟩⟩
theorem b_compR (hC : CxOk C) (ih : IhE n) {elt lo hi cnd : IE} (S : Sim C p σ) (h : (C.mc.isGlob "range" && okE n C.mc lo (kid (kid ex 2) 1) && okE n C.mc hi (kid (kid ex 2) 2) && compOk C.mc (idOf (kid ex 1)) (scOf C.mc.scope ex) [] && okE n (inC C.mc ex) elt (kid ex 0) && okE n (inC C.mc ex) cnd (kid ex 3)) = true) : Both C p (stepE C.O (evE C.O n) (.compR elt lo hi cnd) σ) (nrm (nrmE n) C.mc (.compR elt lo hi cnd) ex) := by
  have h5 := and_l h
  have h4 := and_l h5
  have M := compIs (and_r h4)
  obtain ⟨cl, hclos, clo⟩ := comp_closure hC M
  refine SE.both (fun Q E k => ?_) rfl
  show wpAny C.M C.A (eval (.ListComp _ _ _ _) C.env) Q E p.s
  rw [eval_ListComp]
  refine wpAny_comprehension_free (use := none) rfl (fun _ => rfl) hclos M.kind M.loc (Call_ (ld_blt hC S.co hC.w.rangeN (v := .type "range") boot_range (by decide) (and_l (and_l (and_l h4))) (Pv.callWith_type1 (spliced_n ((ih C hC _ _ (and_r (and_l (and_l h4))) p σ S).e.sq k fun d₁ σ₁ v p₁ g₁ k1 => spliced_n ((ih C hC _ _ (and_r (and_l h4)) p₁ σ₁ g₁.S).e.sq k1 fun d₂ σ₂ v₂ p₂ g₂ k2 => wpAny_pure ?_))) star_n (by rw [star_n]; rfl))))
  cases d₁
  case int i =>
    cases d₂
    case int j =>
      obtain ⟨t, e1⟩ := g₁.r.int_inv
      obtain ⟨t', e2⟩ := g₂.r.int_inv
      rw [e1, e2]
      refine Nxt.if_ k2 fun hz k => k.opt fun d' e k => ?_
      obtain ⟨all, hall, rfl⟩ := Option.map_eq_some_iff.mp e
      refine call_range_2 ?_
      obtain ⟨S₃, A₃⟩ := g₂.S.push hC { cls := .type "range", data := .fields #[.int i t, .int j t', .int 1 p₂.s.toks] } (p₂.s.toks + 1)
      refine range_ok (s := (p₂.to (p₂.s.heap.push { cls := .type "range", data := .fields #[.int i t, .int j t', .int 1 p₂.s.toks] }) (p₂.s.toks + 1)).s) (hb := hb C (p₂.to (p₂.s.heap.push { cls := .type "range", data := .fields #[.int i t, .int j t', .int 1 p₂.s.toks] }) (p₂.s.toks + 1))) (IsRange.new _ _ _ _ _ _ _) (and_l (and_l hz)) (and_r (and_l hz)) fun o fp P St W => ?_
      exact comp_value (cnd := some cnd) (RR := fun acc L => compPost C.M C.A E none Q acc L) hC ih S₃ M (and_r h5) (and_r h) clo W (by rw [show (rangeD i j).length = (j - i).toNat by simp [rangeD]]; exact and_r hz) hall fun D L h' tk X => X.ns.imp fun m' hn => ⟨hn, fun h'' sb => let ⟨S', A', r'⟩ := X.post h'' tk sb; k _ _ ⟨A₃.trans A', S', r'⟩⟩
    all_goals exact k2.elim
  all_goals exact k2.elim

theorem step_ok (hC : CxOk C) (ih : IhE n) (e : IE) (h : okS (nrmE n) (okE n) C.mc e ex = true) (S : Sim C p σ) : Both C p (stepE C.O (evE C.O n) e σ) (nrm (nrmE n) C.mc e ex) := by
  cases e with
  | const d => exact b_const S h
  | neg i => exact b_neg S
  | var k => exact b_var hC S h
  | glob j => exact b_glob hC S h
  | bin op a b => exact b_bin hC ih S h
  | not a => exact b_not hC ih S h
  | conn op es => exact b_conn hC ih S h
  | cmp a ops bs => exact b_cmp hC ih S h
  | ite t a b => exact b_ite hC ih S h
  | callP f args => exact b_callP hC ih S h
  | callM f args => exact b_callM hC ih S h
  | callS f args => exact b_callS hC ih S h
  | blt b e => exact b_blt hC ih S h
  | join sep e => exact b_join hC ih S h
  | split e sep => exact b_split hC ih S h
  | fld b => exact b_fld hC S h
  | idx a i => exact b_idx0 hC ih S h
  | sl a lo hi => exact b_sl hC ih S h
  | rev a => exact b_rev hC ih S h
  | lenOwn k => exact b_lenOwn hC S h
  | idxOwn k i => exact b_idxOwn hC ih S h
  | list es => exact b_lst hC ih S h
  | tup es => exact b_tup hC ih S h
  | comp elt src caps => exact b_comp hC ih S h
  | compR elt lo hi cnd => exact b_compR hC ih S h
  | deckNe => exact b_deckNe hC S h
  | deckPop => exact b_deckPop hC S h
  | deckMixed => exact b_deckMixed hC S h
  | ownNil k => exact b_ownNil hC S h
end
theorem sound : ∀ n, IhE n
  | 0 => fun _ _ _ _ h => nomatch h
  | n + 1 => fun _ hC e _ h _ _ S => step_ok hC (sound n) e h S
end Mine

namespace Mine
open PySem PySem.W PySem.Calls PyProof.Rows

/-- a context in which statements run -/
structure CxS (C : Cx) (rest : List Env) : Prop extends CxOk C where
  top : C.outer = C.env :: rest
  frm : C.env.frame = some C.env.locals
  ownF : C.env.locals ∈ C.F
  skN : C.sk ∉ C.names
  hEL : C.hE.objs.size ≤ C.env.locals
  gc : ∀ y c, C.env.cells.lookup y = some c → C.g.get? c = none
theorem dict_mapFields (o : Obj) (f) : (o.mapFields f).dict = o.dict := by
  obtain ⟨c, d, dt, sl⟩ := o; cases dt <;> rfl
/-- all is kept but records that are none of the base's, and the slots of the frames' names -/
structure Flw0 (C : Cx) (h h' : Heap) : Prop where
  kp : ∀ b o, b ∉ C.F → h.get? b = some o → (∀ vs, o.data ≠ .fields vs) → h'.get? b = some o
  kg : ∀ b o, b ∉ C.F → C.g.get? b = some o → h.get? b = some o → h'.get? b = some o
  sl : ∀ L ∈ C.F, ∀ o, h.get? L = some o → Slt h' L o
structure Flw (C : Cx) (h h' : Heap) : Prop extends Flw0 C h h' where
  th : ∀ b, (∃ o, h.get? b = some o) → ∃ o, h'.get? b = some o
section
variable {C : Cx} {h h' h₁ h₂ : Heap} {m : Str → Option Value} {p : Pt} {σ : ASt}
theorem Flw.refl : Flw C h h := ⟨⟨fun _ _ _ e _ => e, fun _ _ _ _ e => e, fun _ _ o e => ⟨o.slots, e⟩⟩, fun _ e => e⟩
theorem Flw.trans (a : Flw C h h₁) (b : Flw C h₁ h₂) : Flw C h h₂ := ⟨⟨fun c o n e q => b.kp c o n (a.kp c o n e q) q, fun c o n g e => b.kg c o n g (a.kg c o n g e), fun L hL o e => by
  obtain ⟨sl, e'⟩ := a.sl L hL o e
  obtain ⟨sl', e''⟩ := b.sl L hL _ e'
  exact ⟨sl', e''⟩⟩, fun c e => b.th c (a.th c e)⟩
theorem Flw.seq (f : Flw C h h') (objs : ∀ L ∈ C.F, IsDic h L) : SeqKeep h h' := fun b o vs n e d => f.kp b o (fun q => (objs b q).ne e (fun _ _ z => by rw [d] at z; cases z) rfl) e fun _ z => by rw [d] at z; cases z
open Classical in
noncomputable def recs (C : Cx) (h : Heap) : List Addr := (List.range h.objs.size).filter fun b => decide (C.g.get? b = none ∧ ∃ o vs, h.get? b = some o ∧ o.data = .fields vs)
open Classical in
theorem mem_recs {b : Addr} : b ∈ recs C h ↔ C.g.get? b = none ∧ ∃ o vs, h.get? b = some o ∧ o.data = .fields vs := by
  unfold recs
  rw [List.mem_filter, List.mem_range]
  exact ⟨fun q => of_decide_eq_true q.2, fun q => ⟨let ⟨_, o, _, e, _⟩ := q; Heap.lt_size e, decide_eq_true q⟩⟩
theorem Flw0.mv (hC : CxOk C) (K : Core C h m) (f : Flw0 C h h') (th : There C.cs h') : Mv C (recs C h) h h' := by
  refine ⟨fun b o n _ nF e => ?_, fun L hL _ o e => f.sl L hL o e, fun b q => ?_⟩
  · cases g : C.g.get? b with
    | some o' =>
      have := K.fr.keep _ _ g
      cases e.symm.trans this
      exact f.kg b _ nF g e
    | none => exact f.kp b o nF e fun vs d => n (mem_recs.mpr ⟨g, o, vs, e, d⟩)
  · obtain ⟨g, o, vs, e, d⟩ := mem_recs.mp q
    have nd : ∀ es k, o.data ≠ .dict es k := fun es k z => by rw [d] at z; cases z
    exact ⟨g, K.nF e nd, K.nL e nd, fun hc => ⟨th b hc, o, vs, e, d⟩⟩
theorem Flw0.ns {L : Addr} (f : Flw0 C h h') (n : h.Ns L m) (nd : L ∈ C.F) : h'.Ns L m := by
  obtain ⟨o, es, ep, e, hd, r⟩ := n
  obtain ⟨sl, e'⟩ := f.sl L nd o e
  exact ⟨_, es, ep, e', hd, r⟩
theorem Sim.flw0 {rest : List Env} (hC : CxS C rest) (S : Sim C p σ) (f : Flw0 C p.s.heap h') (th : There C.cs h') (thx : There p.xa h') (tk : Nat) : Sim C (p.to h' tk) σ ∧ Aftr C 2 p (p.to h' tk) :=
  ⟨S.mv hC.toCxOk (f.mv hC.toCxOk S.co th) (f.ns S.co.fr.ns hC.ownF) (fun _ _ => rfl) (fun b q => .inr (mem_recs.mp q).2) thx fun u => StOf.mv S.co S.xg S.st (f.mv hC.toCxOk S.co th) (fun b q o e => by
    obtain ⟨_, o', vs, e', d⟩ := mem_recs.mp q
    cases e.symm.trans e'
    exact .inl ⟨vs, d⟩) u rfl rfl, .of (fun q => absurd q (by decide)) rfl fun q => nomatch q⟩
theorem Sim.flw {rest : List Env} (hC : CxS C rest) (S : Sim C p σ) (f : Flw C p.s.heap h') (tk : Nat) : Sim C (p.to h' tk) σ ∧ Aftr C 2 p (p.to h' tk) := S.flw0 hC f.toFlw0 (fun b q => f.th b (S.co.co b q)) (fun b q => f.th b (S.xg b q).th) tk
/-- one record turns -/
theorem Flw.one (K : Core C h m) {T : Addr} {oT : Obj} {ts : Array Value} (g : C.g.get? T = none) (e : h.get? T = some oT) (d : oT.data = .fields ts) (k : ∀ b, b ≠ T → h'.get? b = h.get? b) (eT : ∃ o, h'.get? T = some o) : Flw C h h' := by
  have nF : T ∉ C.F := K.nF e fun es k z => by rw [d] at z; cases z
  refine ⟨⟨fun b o _ e' q => ?_, fun b o _ g' e' => ?_, fun L hL o e' => ⟨o.slots, ?_⟩⟩, fun b e' => ?_⟩
  · exact (k b fun z => by rw [z] at e'; cases e.symm.trans e'; exact q _ d).trans e'
  · exact (k b (some_ne g' g)).trans e'
  · exact (k L fun z => nF (z ▸ hL)).trans e'
  · by_cases z : b = T
    · exact z ▸ eT
    · obtain ⟨o, e'⟩ := e'; exact ⟨o, (k b z).trans e'⟩
end

section
variable {C : Cx} {rest : List Env} {s : Shared} {m : Str → Option Value} {A : Around} {E : Value → Shared → Prop} {e : Addr} {x : Exn} {p : Pt} {σ : ASt}
theorem fun_frames (hC : CxS C rest) (K : Core C s.heap m) : s.heap.FunFrames C.g (C.env :: rest) := by
  have go : ∀ l : List Env, (∀ e ∈ l, e.scope.kind ≠ .module ∧ ∃ L ∈ C.F, e.frame = some L) → s.heap.FunFrames C.g l := by
    intro l
    induction l with
    | nil => intro _; trivial
    | cons e r ih =>
      intro hl
      obtain ⟨h1, L, h2, h3⟩ := hl e List.mem_cons_self
      obtain ⟨o, es, n, h4, h5⟩ := K.objs L h2
      exact ⟨h1, ⟨L, o, h3, hC.gF L h2, h4, fun vs q => by rw [h5] at q; cases q⟩, ih fun e he => hl e (List.mem_cons_of_mem _ he)⟩
  exact go _ fun e he => hC.there e (hC.top ▸ he)
theorem frames_F (hC : CxS C rest) : ∀ b ∈ (C.env :: rest).filterMap (·.frame), b ∈ C.F := fun b hb => by
  obtain ⟨e, he, hf⟩ := List.mem_filterMap.mp hb
  obtain ⟨_, L, hL, hfr⟩ := hC.there e (hC.top ▸ he)
  cases hf.symm.trans hfr
  exact hL
inductive Put (C : Cx) (h : Heap) (e : Addr) (oe : Obj) (h' : Heap) : Prop
  | mk (T : Addr) (oT : Obj) (ts : Array Value) (f : Flw C h h') (nT : h.get? T = none) (ee : h'.get? e = some (oe.mapFields (·.setIfInBounds 1 (.ref T)))) (eT : h'.get? T = some oT) (d : oT.data = .fields ts) (t3 : ts[3]? = some (rawInt C.env.locals)) (ne : T ≠ e)
theorem put_entry {oe : Obj} {vs : Array Value} {head : Value} {hadNext : Bool} {Q : Unit → Shared → Prop} (hC : CxS C rest) (K : Core C s.heap m) (hA : A.frames = some (C.env :: rest)) (he : s.heap.get? e = some oe) (hd : oe.data = .fields vs) (hsz : 1 < vs.size) (hg : C.g.get? e = none)
    (h : ∀ h', Put C s.heap e oe h' → Q () { s with heap := h' }) : wpAny C.M A (do let a ← frameOf C.env; let pl ← entryPlaceOf C.env.locals hadNext; let b ← EntryCells.newEntry head a .none (rawInt C.env.locals) .none pl; setField (.ref e) 1 b) Q E s := by
  have hl := fun_frames hC K
  have nd : ∀ es k, oe.data ≠ .dict es k := fun es k z => by rw [hd] at z; cases z
  have hene : e ∉ (C.env :: rest).filterMap (·.frame) := fun hm => K.nF he nd (frames_F hC e hm)
  refine wpAny_bind (wpAny_frameOf_fun hA hl hC.frm fun h₁ hs₁ => wpAny_bind (wpAny_entryPlaceOf fun pl hpl => ?_))
  unfold EntryCells.newEntry newFields
  refine wpAny_bind (wpAny_newObj_type ?_ (hpl.sizeOk5 _ _ _ _ _))
  have t3 : ([head, .ref C.env.locals, .none, rawInt C.env.locals, .none] ++ (if pl.isEmpty then List.replicate 6 Value.none else pl)).toArray[3]? = some (rawInt C.env.locals) := by
    first | (simp; done) | (rcases hpl with rfl | ⟨_, _, _, _, _, _, _, rfl⟩ <;> simp)
  revert t3
  generalize ([head, .ref C.env.locals, .none, rawInt C.env.locals, .none] ++ (if pl.isEmpty then List.replicate 6 Value.none else pl)).toArray = ts
  intro t3
  generalize hO : ({ cls := .type "traceback", dict := none, data := .fields ts } : Obj) = oT
  have he₁ : h₁.get? e = some oe := (hs₁.2.1 e hene).trans he
  have he₂ := Heap.get?_push_of_some (h := h₁) oT he₁
  have hTe : h₁.objs.size ≠ e := Nat.ne_of_gt (Heap.lt_size he₁)
  have hd₃ := Obj.data_mapFields hd (·.setIfInBounds 1 (Value.ref h₁.objs.size))
  have he₃ := Heap.get?_update_self (Obj.mapFields (·.setIfInBounds 1 (Value.ref h₁.objs.size))) he₂ (Obj.isFreed_of_fields hd₃)
  have hT₃ := (Heap.get?_update_other (h₁.push oT) (Obj.mapFields (·.setIfInBounds 1 (Value.ref h₁.objs.size))) (Ne.symm hTe)).trans (Heap.get?_push_size h₁ (by rw [← hO]; rfl))
  have keep : ∀ b o, b ≠ e → h₁.get? b = some o → ((h₁.push oT).update e (Obj.mapFields (·.setIfInBounds 1 (Value.ref h₁.objs.size)))).get? b = some o := fun b o hbe hb => by
    rw [Heap.get?_update_other _ _ (Ne.symm hbe)]
    exact Heap.get?_push_of_some _ hb
  have off : ∀ b o, b ∉ C.F → s.heap.get? b = some o → h₁.get? b = some o := fun b o nF e => (hs₁.2.1 b fun hm => nF (frames_F hC b hm)).trans e
  refine wpAny_setField he₂ hd hsz (h _ ⟨h₁.objs.size, oT, ts, ⟨⟨fun b o nF e' q => keep b o (fun z => by rw [z] at e'; cases he.symm.trans e'; exact q _ hd) (off b o nF e'), fun b o nF g e' => keep b o (some_ne g hg) (off b o nF e'), fun L hL o e' => ?_⟩, fun b e' => ?_⟩, ?_, he₃, hT₃, by rw [← hO], t3, hTe⟩)
  · obtain ⟨sl, hs⟩ := hs₁.2.2 L o e'
    exact ⟨sl, keep L _ (fun q => K.nF he nd (q ▸ hL)) hs⟩
  · by_cases q : b = e
    · rw [q]; exact ⟨_, he₃⟩
    · obtain ⟨o, e'⟩ := e'
      obtain ⟨sl, hs⟩ := hs₁.2.2 b o e'
      exact ⟨_, keep b _ q hs⟩
  · rw [hs₁.1]
    exact none_size _
theorem mv_core {h' : Heap} (hC : CxS C rest) (K : Core C s.heap m) (f : Flw C s.heap h') : Core C h' m := K.mv hC.toCxOk (f.mv hC.toCxOk K fun b q => f.th b (K.co b q)) (f.ns K.fr.ns hC.ownF)
/-- a frame is noted -/
theorem note_ok {fl : Option Value} {Q : Unit → Shared → Prop} (hC : CxS C rest) (K : Core C s.heap m) (hA : A.frames = some (C.env :: rest)) (X : ExcAt C.G C.F C.g e x fl s.heap) (hfl : FlOk C fl)
    (h : ∀ h', Flw C s.heap h' → ExcAt C.G C.F C.g e x (some (rawInt C.env.locals)) h' → Q () { s with heap := h' }) : wpAny C.M A (noteFrame (.ref e) C.env) Q E s := by
  rcases hfl with rfl | rfl | rfl
  · obtain ⟨oe, vs, de, od, h₁, t₁, tv, n, a1, a2, a3, a4, b1, b2, b3, r, c1, c2, c3, tb⟩ := X
    have tb : vs[1]? = some .none := tb
    have hsz := (Array.getElem?_eq_some_iff.mp tb).1
    unfold noteFrame
    simp only [hC.frm]
    refine wpAny_bind (wpAny_field a1 a4 tb ?_)
    rw [if_neg (by decide)]
    refine put_entry hC K hA a1 a4 hsz c1 fun h' P => ?_
    obtain ⟨T, oT, ts, f, nT, ee, eT, d, t3, ne⟩ := P
    exact h h' f ⟨_, _, de, od, h₁, t₁, tv, n, ee, (Obj.cls_mapFields _ _).trans a2, (dict_mapFields _ _).trans a3, Obj.data_mapFields a4 _, f.kp _ _ c3 b1 (fun _ z => by rw [b2] at z; cases z), b2, b3, r.seq (f.seq K.objs), c1, c2, c3, T, oT, ts, by simp [hsz], ne, none_of K.fr.keep nT, eT, d, t3⟩
  · obtain ⟨oe, vs, de, od, h₁, t₁, tv, n, a1, a2, a3, a4, b1, b2, b3, r, c1, c2, c3, T₀, o₀, ts₀, d1, d2, d3, d4, d5, d6⟩ := X
    have hsz := (Array.getElem?_eq_some_iff.mp d1).1
    unfold noteFrame
    simp only [hC.frm]
    refine wpAny_bind (wpAny_field a1 a4 d1 ?_)
    rw [if_pos (show (Value.ref T₀ != Value.none) = true from by simp)]
    refine wpAny_bind (wpAny_field d4 d5 d6 ?_)
    rw [if_neg (show ¬ ((Value.none == rawInt C.env.locals) = true) from by simp [rawInt])]
    refine wpAny_bind (wpAny_setField d4 d5 (Array.getElem?_eq_some_iff.mp d6).1 ?_)
    have other : ∀ b, b ≠ T₀ → (s.heap.update T₀ (Obj.mapFields (·.setIfInBounds 3 Value.none))).get? b = s.heap.get? b := fun b hb => Heap.get?_update_other _ _ (Ne.symm hb)
    have f₀ : Flw C s.heap (s.heap.update T₀ (Obj.mapFields (·.setIfInBounds 3 Value.none))) := Flw.one K d3 d4 d5 other ⟨_, Heap.get?_update_self _ d4 (Obj.isFreed_of_fields (Obj.data_mapFields d5 _))⟩
    generalize s.heap.update T₀ (Obj.mapFields (·.setIfInBounds 3 Value.none)) = h₂ at other f₀
    refine put_entry (s := { s with heap := h₂ }) hC (mv_core hC K f₀) hA ((other e (Ne.symm d2)).trans a1) a4 hsz c1 fun h' P => ?_
    obtain ⟨T, oT, ts, f, nT, ee, eT, d, t3, ne⟩ := P
    have ff := f₀.trans f
    exact h h' ff ⟨_, _, de, od, h₁, t₁, tv, n, ee, (Obj.cls_mapFields _ _).trans a2, (dict_mapFields _ _).trans a3, Obj.data_mapFields a4 _, ff.kp _ _ c3 b1 (fun _ z => by rw [b2] at z; cases z), b2, b3, r.seq (ff.seq K.objs), c1, c2, c3, T, oT, ts, by simp [hsz], ne, none_of (mv_core hC K f₀).fr.keep nT, eT, d, t3⟩
  · have X' := X
    obtain ⟨oe, vs, de, od, h₁, t₁, tv, n, a1, a2, a3, a4, b1, b2, b3, r, c1, c2, c3, T₀, o₀, ts₀, d1, d2, d3, d4, d5, d6⟩ := X
    unfold noteFrame
    simp only [hC.frm]
    refine wpAny_bind (wpAny_field a1 a4 d1 ?_)
    rw [if_pos (show (Value.ref T₀ != Value.none) = true from by simp)]
    refine wpAny_bind (wpAny_field d4 d5 d6 ?_)
    rw [if_pos (show (rawInt C.env.locals == rawInt C.env.locals) = true from by simp)]
    exact wpAny_pure (h _ .refl X')
theorem flight_ok {f : Value} {fr : Option Addr} {Q : Unit → Shared → Prop} (K : Core C s.heap m) (X : ExcAt C.G C.F C.g e x (some f) s.heap)
    (h : ∀ h', Flw C s.heap h' → ExcAt C.G C.F C.g e x (some (fr.elim .none fun a => rawInt a)) h' → Q () { s with heap := h' }) : wpAny C.M A (setFlight (.ref e) fr) Q E s := by
  obtain ⟨oe, vs, de, od, h₁, t₁, tv, n, a1, a2, a3, a4, b1, b2, b3, r, c1, c2, c3, T, oT, ts, d1, d2, d3, d4, d5, d6⟩ := X
  have hsz := (Array.getElem?_eq_some_iff.mp d6).1
  unfold setFlight
  refine wpAny_bind (wpAny_field a1 a4 d1 ?_)
  rw [if_pos (show (Value.ref T != Value.none) = true from by simp)]
  have other : ∀ b, b ≠ T → (s.heap.update T (Obj.mapFields (·.setIfInBounds 3 (fr.elim Value.none fun f => rawInt f)))).get? b = s.heap.get? b := fun b hb => Heap.get?_update_other _ _ (Ne.symm hb)
  have eT := Heap.get?_update_self (Obj.mapFields (·.setIfInBounds 3 (fr.elim Value.none fun f => rawInt f))) d4 (Obj.isFreed_of_fields (Obj.data_mapFields d5 _))
  have f₀ := Flw.one K d3 d4 d5 other ⟨_, eT⟩
  refine wpAny_setField d4 d5 hsz (h _ f₀ ⟨oe, vs, de, od, h₁, t₁, tv, n, (other e (Ne.symm d2)).trans a1, a2, a3, a4, f₀.kp _ _ c3 b1 (fun _ z => by rw [b2] at z; cases z), b2, b3, r.seq (f₀.seq K.objs), c1, c2, c3, T, _, _, d1, d2, d3, eT, Obj.data_mapFields d5 _, by simp [hsz]⟩)
end
end Mine

namespace Mine
open PySem PySem.W PySem.Calls PyProof.Rows

noncomputable def setM (m : Str → Option Value) (x : Str) (v : Value) : Str → Option Value := fun z => if z = x then some v else m z
theorem setM_self {m : Str → Option Value} {x : Str} {v : Value} : setM m x v x = some v := if_pos rfl
theorem setM_ne {m : Str → Option Value} {x y : Str} {v : Value} (h : y ≠ x) : setM m x v y = m y := if_neg h
structure Tgt (C : Cx) (k : Nat) (x : Str) : Prop where
  at_ : C.names[k]? = some x
  loc : C.env.kindOf x = some .local
section
variable {C : Cx} {rest : List Env} {p : Pt} {σ : ASt} {h h' : Heap} {k : Nat} {x : Str} {v : Value} {d : Dat}
theorem nm_inj (hC : CxOk C) {j : Nat} {y : Str} (t : C.names[k]? = some x) (hy : C.names[j]? = some y) (n : k ≠ j) : y ≠ x := fun q => by
  subst q
  exact n ((List.getElem?_inj (List.getElem?_eq_some_iff.mp t).1 hC.nodup).mp (t.trans hy.symm))
theorem ne_sk (hC : CxS C rest) (t : C.names[k]? = some x) : C.sk ≠ x := fun q => hC.skN (q ▸ List.mem_of_getElem? t)
theorem freeze_len (σ : ASt) : (freeze σ).vars.length = σ.vars.length := by
  obtain ⟨a, own, st⟩ := σ
  cases own with
  | none => rfl
  | some q => exact List.length_set
theorem freeze_own (σ : ASt) : (freeze σ).own = none := by
  obtain ⟨a, own, st⟩ := σ
  cases own <;> rfl
theorem freeze_st (σ : ASt) : (freeze σ).st = σ.st := by
  obtain ⟨a, own, st⟩ := σ
  cases own <;> rfl
theorem freeze_id {σ : ASt} (h : σ.own = none) : freeze σ = σ := by
  obtain ⟨a, own, st⟩ := σ
  cases (h : own = none)
  rfl
theorem putVar_freeze {xs : List Dat} (h : σ.own = some (k, xs)) : putVar k d (freeze σ) = putVar k d σ := by
  obtain ⟨a, own, st⟩ := σ
  cases (h : own = _)
  show (⟨(a.set k _).set k _, none, st⟩ : ASt) = ⟨a.set k _, if k = k then none else _, st⟩
  rw [List.set_set, if_pos rfl]
theorem vars_set {vars : List (Option Dat)} {j : Nat} {o : Option Dat} {d' : Dat} (e : (vars.set k o)[j]? = some (some d')) : (k = j ∧ o = some d') ∨ (k ≠ j ∧ vars[j]? = some (some d')) := by
  by_cases q : k = j
  · subst q
    refine .inl ⟨rfl, ?_⟩
    rw [List.getElem?_set] at e
    rw [if_pos rfl] at e
    by_cases l : k < vars.length
    · rw [if_pos l] at e; exact Option.some.inj e
    · rw [if_neg l] at e; cases e
  · exact .inr ⟨q, (List.getElem?_set_ne q).symm.trans e⟩
/-- where the names are, and what stands by them, behind a store that turns but b -/
structure Sto (C : Cx) (p p' : Pt) (b : Addr) : Prop where
  kp : KpL b p.s.heap p'.s.heap
  co : Core C p'.s.heap p'.m
  H : b ∈ C.H
  xa : p'.xa = p.xa
  sk : p'.m C.sk = p.m C.sk
  nd : ∀ o, p.s.heap.get? b = some o → o.data ≠ .plain
theorem Sto.up {b : Addr} {p' : Pt} (Z : Sto C p p' b) (eo : p'.oa = p.oa) : (hb C p).StaysIn (hb C p') := by
  show (hideAll _ _).StaysIn (hideAll _ (C.H ++ (p'.oa ++ p'.xa)))
  rw [eo, Z.xa]
  exact hb_mono (fun c o n e => Z.kp c o (fun q => n (hH c (q ▸ Z.H))) e) fun _ q => q
theorem Sto.xg {b : Addr} {p' : Pt} (S : Sim C p σ) (Z : Sto C p p' b) : ∀ c ∈ p'.xa, XaIs C p'.s.heap c := fun c q => by
  rw [Z.xa] at q
  obtain ⟨o, e⟩ := (S.xg c q).th
  exact ⟨(S.xg c q).g, (S.xg c q).nH, o, Z.kp c o (fun z => (S.xg c q).nH (z ▸ Z.H)) e⟩
theorem Sto.st {b : Addr} {p' : Pt} {st : Option St} (S : Sim C p σ) (Z : Sto C p p' b) (x : StOf C p st) (u : SeqKeep (hb C p) (hb C p')) : StOf C p' st := by
  cases st with
  | none => exact Z.xa.trans x
  | some st =>
    obtain ⟨o, ne, hm', hk, sa⟩ := x
    refine ⟨o, by rw [Z.xa]; exact ne, Z.sk.trans hm', hk, ?_⟩
    rw [Z.xa]
    exact sa.mv u (fun c hc ob e _ => Z.kp c ob (fun z => (S.xg c hc).nH (z ▸ Z.H)) e) fun ob e q => Z.kp o ob (fun z => Z.nd ob (z ▸ e) q) e
theorem Sto.sim {b : Addr} {p' : Pt} (S : Sim C p σ) (Z : Sto C p p' b) (eo : p'.oa = p.oa) (hm : ∀ j y, k ≠ j → C.names[j]? = some y → ∀ v, VarAt C p.s.heap p.m j v → VarAt C p'.s.heap p'.m j v) (hL : ∀ j y, k ≠ j → C.names[j]? = some y → p'.m y = p.m y) (hk : VarAt C p'.s.heap p'.m k v) (r : Rp (hb C p) v d) (hj : ∀ j xs, σ.own = some (j, xs) → k ≠ j) : Sim C p' (putVar k d σ) := by
  have u := Z.up eo
  refine ⟨Z.co, fun j d' e => ?_, ?_, Sto.st S Z S.st (.of u), Sto.xg S Z⟩
  · rcases vars_set e with ⟨rfl, q⟩ | ⟨q, e⟩
    · cases q; exact ⟨v, hk, r.mono u⟩
    · obtain ⟨v', X, r'⟩ := S.vs j d' e
      have ⟨y, hy⟩ : ∃ y, C.names[j]? = some y := by cases X with | loc y hx => exact ⟨y, hx⟩ | cell y c o hx => exact ⟨y, hx⟩
      exact ⟨v', hm j y q hy v' X, r'.mono u⟩
  · have ow := S.ow
    revert ow hj
    show _ → _ → OwAt C p' (σ.vars.set k (some d)).length (match σ.own with | some (j, xs) => if j = k then none else some (j, xs) | none => none)
    rw [List.length_set]
    cases σ.own with
    | none => exact fun _ x => eo.trans x
    | some q =>
      obtain ⟨j, xs⟩ := q
      intro hj ow
      have hj := hj j xs rfl
      obtain ⟨⟨a, vs, n, y, eo', hx, hk', hm', L⟩, hl⟩ := ow
      show OwAt C p' _ (if j = k then none else some (j, xs))
      rw [if_neg (Ne.symm hj)]
      exact ⟨⟨a, vs, n, y, eo.trans eo', hx, hk', (hL j y hj hx).trans hm', L.mv (Z.kp a _ (fun z => L.nH (z ▸ Z.H)) L.e) (.of u) Z.xa⟩, hl⟩
theorem Sto.aft {b : Addr} {p' : Pt} (Z : Sto C p p' b) (hs : p'.s = { p.s with heap := p'.s.heap, toks := p'.s.toks }) (u : (hb C p).StaysIn (hb C p')) : Aftr C 1 p p' := ⟨hs, .inl ⟨Z.xa, Z.sk⟩, fun _ => u, fun q => nomatch q⟩
inductive Stored (C : Cx) (p : Pt) (σ : ASt) (h' : Heap) (tk : Nat) (m' : Str → Option Value) : Prop
  | mk (oa : List Addr) (ho : oa = p.oa ∨ oa = []) (S : Sim C ⟨{ p.s with heap := h', toks := tk }, m', oa, p.xa⟩ σ) (A : Aftr C 1 p ⟨{ p.s with heap := h', toks := tk }, m', oa, p.xa⟩)
/-- whatever list of one's own there is -/
theorem Sto.any {b : Addr} {h' : Heap} {tk : Nat} {m' : Str → Option Value} (S : Sim C p σ) (Z : ∀ oa, Sto C ⟨p.s, p.m, oa, p.xa⟩ ⟨{ p.s with heap := h', toks := tk }, m', oa, p.xa⟩ b) (hm : ∀ j y, k ≠ j → C.names[j]? = some y → ∀ v, VarAt C p.s.heap p.m j v → VarAt C h' m' j v) (hL : ∀ j y, k ≠ j → C.names[j]? = some y → m' y = p.m y) (hk : VarAt C h' m' k v) (r : Rp (hb C p) v d) : Stored C p (putVar k d σ) h' tk m' := by
  by_cases q : ∃ xs, σ.own = some (k, xs)
  · obtain ⟨xs, q⟩ := q
    obtain ⟨S', up⟩ := S.freeze
    have S'' := Sto.sim (k := k) S' (Z []) rfl hm hL hk (r.mono up) (fun j ys e => by rw [freeze_own] at e; cases e)
    rw [putVar_freeze q] at S''
    exact ⟨[], .inr rfl, S'', (Z []).aft rfl ((Z []).up rfl) |> fun A => ⟨A.s, A.st, fun l b o e => A.up l b o (up b o e), fun q => nomatch q⟩⟩
  · exact ⟨p.oa, .inl rfl, Sto.sim (k := k) S (Z p.oa) rfl hm hL hk r (fun j xs e hjk => q ⟨xs, by rw [e, hjk]⟩), (Z p.oa).aft rfl ((Z p.oa).up rfl)⟩
theorem sto_loc (hC : CxS C rest) {oa : List Addr} {tk : Nat} {m' : Str → Option Value} (K : Core C p.s.heap p.m) (hn : h'.Ns C.env.locals m') (kk : KpL C.env.locals p.s.heap h') (hs : m' C.sk = p.m C.sk) : Sto C ⟨p.s, p.m, oa, p.xa⟩ ⟨{ p.s with heap := h', toks := tk }, m', oa, p.xa⟩ C.env.locals :=
  ⟨kk, K.mv hC.toCxOk (.locals kk) hn, mem_H.mpr (.inl rfl), rfl, hs, fun o e => by
    obtain ⟨o', es, k, e', d⟩ := ns_dic K.fr.ns
    cases e.symm.trans e'
    exact fun z => by rw [d] at z; cases z⟩
/-- a value goes to a name of the frame's own -/
theorem Sim.put (hC : CxS C rest) (S : Sim C p σ) (t : Tgt C k x) (r : Rp (hb C p) v d) (hn : h'.Ns C.env.locals (setM p.m x v)) (kk : KpL C.env.locals p.s.heap h') (tk : Nat) : Stored C p (putVar k d σ) h' tk (setM p.m x v) :=
  Sto.any S (fun oa => sto_loc hC S.co hn kk (setM_ne (ne_sk hC t.at_))) (fun j y q hy v' X => X.mv S.co (.locals kk) fun z hz => setM_ne (nm_inj hC.toCxOk t.at_ hz q)) (fun j y q hy => setM_ne (nm_inj hC.toCxOk t.at_ hy q)) (.loc x t.at_ t.loc setM_self) r
/-- and to a cell -/
theorem Sim.putC (hC : CxS C rest) (S : Sim C p σ) {c : Addr} (tx : C.names[k]? = some x) (tc : C.env.kindOf x = some .cell) (hc : C.env.cells.lookup x = some c) (r : Rp (hb C p) v d) {o : Obj} (ec : h'.get? c = some o) (dc : o.data = .cell (some v)) (kk : KpL c p.s.heap h') (tk : Nat) : Stored C p (putVar k d σ) h' tk p.m := by
  obtain ⟨c', hcs, hc'⟩ := hC.cells x tc
  cases hc.symm.trans hc'
  obtain ⟨o₀, v₀, e₀, d₀⟩ := S.co.cl x c tc hc
  have nd : ∀ es k, o₀.data ≠ .dict es k := fun es k z => by rw [d₀] at z; cases z
  have nF := S.co.nF e₀ nd
  have nL := S.co.nL e₀ nd
  have K' : Core C h' p.m := {
    fr := ⟨S.co.fr.ns.at' fun o e => kk _ o (Ne.symm nL) e, fun b o e => kk b o (some_ne e (hC.gc x c hc)) (S.co.fr.keep b o e), S.co.fr.above⟩
    objs := fun L hL => (S.co.objs L hL).slt fun o e => ⟨o.slots, kk L o (fun q => nF (q ▸ hL)) e⟩
    out := fun L hL o e => by
      obtain ⟨sl, e'⟩ := S.co.out L hL o e
      exact ⟨sl, kk L _ (fun q => nF (q ▸ hL)) e'⟩
    co := fun b hb => by
      by_cases q : b = c
      · rw [q]; exact ⟨_, ec⟩
      · obtain ⟨o, e⟩ := S.co.co b hb; exact ⟨o, kk b o q e⟩
    cl := fun y b hy hb => by
      by_cases q : b = c
      · rw [q]; exact ⟨_, _, ec, dc⟩
      · obtain ⟨o, v, e, dd⟩ := S.co.cl y b hy hb; exact ⟨o, v, kk b o q e, dd⟩ }
  refine Sto.any S (b := c) (fun oa => ⟨kk, K', mem_H.mpr (.inr (.inr hcs)), rfl, rfl, fun o e => ?_⟩) (fun j y q hy v' X => ?_) (fun j y q hy => rfl) (.cell x c o tx tc hc hcs ec dc) r
  · cases e.symm.trans e₀
    exact fun z => by rw [d₀] at z; cases z
  · cases X with
    | loc y' hx hk hm => exact .loc y' hx hk hm
    | cell y' c' o' hx hk hc' hi e dd =>
      refine .cell y' c' o' hx hk hc' hi (kk c' o' (fun z => ?_) e) dd
      rw [z] at hc'
      exact nm_inj hC.toCxOk tx hx q (hC.inj _ _ _ hc' hc)
/-- a list of one's own is turned -/
theorem Sim.ownUp (hC : CxOk C) {xs ys : List Dat} {a : Addr} {ws : Array Value} {n : Nat} (S : Sim C p σ) (ho : σ.own = some (k, xs)) (ha : p.oa = [a]) (kk : KpL a p.s.heap h') (e : h'.get? a = some (listOf ws n)) (r : RpL (hb C p) ws.toList ys) (tk : Nat) : Sim C (p.to h' tk) { σ with own := some (k, ys) } ∧ Aftr C 1 p (p.to h' tk) := by
  have ow := S.ow
  rw [ho] at ow
  obtain ⟨⟨a', vs, n', y, eo, hx, hk, hm, L⟩, hl⟩ := ow
  cases ha.symm.trans eo
  have ina : a ∈ p.oa := by rw [ha]; exact List.mem_singleton.mpr rfl
  have M : Mv C [a] p.s.heap h' := ⟨fun b o nb _ _ e => kk b o (fun q => nb (List.mem_singleton.mpr q)) e, fun M hM _ o e => ⟨o.slots, kk M o (fun q => nH_F L.nH (q ▸ hM)) e⟩, fun b q => (List.mem_singleton.mp q) ▸ .of L.g L.nH⟩
  have u : (hb C p).StaysIn (hb C (p.to h' tk)) := M.up (fun b q => hO b ((List.mem_singleton.mp q) ▸ ina)) hH fun _ q => q
  refine ⟨⟨S.co.mv hC M (S.co.fr.ns.at' fun o e => kk _ o (Ne.symm (nH_L L.nH)) e), fun j d e => ?_, ⟨⟨a, ws, n, y, ha, hx, hk, hm, e, r.mono u, L.hE, L.g, L.nx, L.nH⟩, hl⟩, StOf.mv S.co S.xg S.st M (fun b q o e => .inr ?_) (.of u) rfl rfl, fun b q => ⟨(S.xg b q).g, (S.xg b q).nH, ?_⟩⟩, .of (fun _ => u) rfl fun q => nomatch q⟩
  · obtain ⟨v, X, r'⟩ := S.vs j d e
    exact ⟨v, X.mv S.co M fun _ _ => rfl, r'.mono u⟩
  · cases List.mem_singleton.mp q
    cases e.symm.trans L.e
    exact ⟨L.nx, fun z => nomatch z⟩
  · obtain ⟨o, e⟩ := (S.xg b q).th
    exact ⟨o, kk b o (fun z => L.nx (z ▸ q)) e⟩
/-- the state where what is new lies hidden -/
theorem Sim.under (hC : CxOk C) {P : List Addr} (S : Sim C p σ) (F' : Fr C.g C.env.locals h' p.m) (kk : KpL C.env.locals p.s.heap h') (hP : ∀ b ∈ P, p.s.heap.get? b = none) (tk : Nat) : Sim C (p.to (hideAll h' P) tk) σ ∧ Aftr C 0 p (p.to (hideAll h' P) tk) := by
  have nP : ∀ b o, p.s.heap.get? b = some o → b ∉ P := fun b o e q => some_ne e (hP b q) rfl
  obtain ⟨oL, es, kL, eL, dL⟩ := ns_dic S.co.fr.ns
  exact S.step hC ⟨F'.ns.at' fun o e => hid_to (nP _ _ eL) e, fun b o e => hid_to (nP b o (S.co.fr.keep b o e)) (F'.keep b o e), F'.above⟩ (fun b o n e => hid_to (nP b o e) (kk b o n e)) tk
theorem new_out (S : Sim C p σ) {a : Addr} (ha : p.s.heap.objs.size ≤ a) : C.g.get? a = none ∧ a ∉ p.xa ∧ a ∉ C.H := by
  have hn : p.s.heap.get? a = none := Heap.get?_none_of_le ha
  have no : a ∉ C.H ++ (p.oa ++ p.xa) := fun q => let ⟨o, e⟩ := S.there a q; some_ne e hn rfl
  exact ⟨none_of S.co.fr.keep hn, fun q => no (hX a q), fun q => no (hH a q)⟩
theorem new_hE (hC : CxS C rest) (S : Sim C p σ) {a : Addr} (ha : p.s.heap.objs.size ≤ a) : C.hE.objs.size ≤ a := by
  obtain ⟨o, _, _, e, _⟩ := ns_dic S.co.fr.ns
  exact Nat.le_trans hC.hEL (Nat.le_trans (Nat.le_of_lt (Heap.lt_size e)) ha)
/-- what a list that lies hidden is -/
structure HidL (C : Cx) (p : Pt) (h : Heap) (a : Addr) (vs : Array Value) (n : Nat) (xs : List Dat) : Prop where
  e : h.get? a = some (listOf vs n)
  r : RpL (hb C p) vs.toList xs
  hE : C.hE.objs.size ≤ a
  g : C.g.get? a = none
  nx : a ∉ p.xa
  nH : a ∉ C.H
/-- a list that lay hidden goes to a name as its own -/
theorem Sim.reveal (hC : CxS C rest) {a : Addr} {n : Nat} {vs : Array Value} {xs : List Dat} {tk tk' : Nat} {s : Shared} {m : Str → Option Value} {oa xa : List Addr} (t : Tgt C k x) (S : Sim C ⟨{ s with heap := hideAll h [a], toks := tk' }, m, oa, xa⟩ σ) (L : HidL C ⟨{ s with heap := hideAll h [a], toks := tk' }, m, oa, xa⟩ h a vs n xs) (hl : k < σ.vars.length) (hn : h'.Ns C.env.locals (setM m x (.ref a))) (kk : KpL C.env.locals h h') :
    Sim C ⟨{ s with heap := h', toks := tk }, setM m x (.ref a), [a], xa⟩ (putOwn k xs σ) ∧ Aftr C 1 ⟨{ s with heap := hideAll h [a], toks := tk' }, m, oa, xa⟩ ⟨{ s with heap := h', toks := tk }, setM m x (.ref a), [a], xa⟩ := by
  obtain ⟨S', up0⟩ := S.freeze
  have kk' : KpL C.env.locals (hideAll h [a]) h' := fun b o n e => kk b o n (hid_mem e).2
  have up1 : (hideAll (hideAll h [a]) (C.H ++ ([] ++ xa))).StaysIn (hideAll h' (C.H ++ ([a] ++ xa))) := fun b o e => by
    obtain ⟨n1, e1⟩ := hid_mem e
    obtain ⟨n2, e2⟩ := hid_mem e1
    refine hid_to (fun q => ?_) (kk b o (fun q => n1 (hH b (mem_H.mpr (.inl q)))) e2)
    rcases List.mem_append.mp q with q | q
    · exact n1 (hH b q)
    · rcases List.mem_append.mp q with q | q
      · exact n2 q
      · exact n1 (List.mem_append_right _ q)
  have u := fun b o e => up1 b o (up0 b o e)
  have Z : Sto C ⟨{ s with heap := hideAll h [a], toks := tk' }, m, [], xa⟩ ⟨{ s with heap := h', toks := tk }, setM m x (.ref a), [], xa⟩ C.env.locals := sto_loc (p := ⟨{ s with heap := hideAll h [a], toks := tk' }, m, [], xa⟩) hC S'.co hn kk' (setM_ne (ne_sk hC t.at_))
  refine ⟨⟨Z.co, fun j d' e => ?_, ⟨⟨a, vs, n, x, rfl, t.at_, t.loc, setM_self, kk a _ (nH_L L.nH) L.e, L.r.mono u, L.hE, L.g, L.nx, L.nH⟩, ?_⟩, ?_, fun b q => ⟨(S.xg b q).g, (S.xg b q).nH, ?_⟩⟩, ⟨rfl, .inl ⟨rfl, setM_ne (ne_sk hC t.at_)⟩, fun _ => u, fun q => nomatch q⟩⟩
  · rcases vars_set e with ⟨_, q⟩ | ⟨q, e⟩
    · cases q
    · obtain ⟨v', X, r'⟩ := S'.vs j d' e
      exact ⟨v', X.mv S'.co (.locals kk') fun z hz => setM_ne (nm_inj hC.toCxOk t.at_ hz q), r'.mono up1⟩
  · show k < ((Mine.freeze σ).vars.set k none).length
    rw [List.length_set, freeze_len]; exact hl
  · have x := S.st
    show StOf C _ σ.st
    revert x
    cases σ.st with
    | none => exact id
    | some st =>
      rintro ⟨o, ne, hm', hk, sa⟩
      refine ⟨o, ne, (setM_ne (ne_sk hC t.at_)).trans hm', hk, sa.mv (.of u) (fun c hc ob e _ => kk' c ob (nH_L (S.xg c hc).nH) e) fun ob e q => kk' o ob (S'.co.nL e fun es k z => by rw [q] at z; cases z) e⟩
  · obtain ⟨o, e⟩ := (S.xg b q).th
    exact ⟨o, kk' b o (nH_L (S.xg b q).nH) e⟩
end
end Mine

namespace Mine
open PySem PySem.W PySem.Calls PyProof.Rows

/-! what a text's statement is to be -/
noncomputable def stE : Stmt → List Expr
  | .Expr e _ => [e]
  | .Return v _ => [v.getD default]
  | .Assign (t :: _) v _ => [t, v]
  | .AugAssign t _ v _ => [t, v]
  | .For t i _ _ _ => [t, i]
  | .While t _ _ _ => [t]
  | .If t _ _ _ => [t]
  | .Raise e _ _ => [e.getD default]
  | _ => []
noncomputable def xk (st : Stmt) (i : Nat) : Expr := (stE st).getD i default
noncomputable def sb1 : Stmt → List Stmt
  | .For _ _ b _ _ => b
  | .While _ b _ _ => b
  | .If _ a _ _ => a
  | .Try b _ _ _ _ => b
  | _ => []
noncomputable def sb2 : Stmt → List Stmt
  | .If _ _ b _ => b
  | _ => []
noncomputable def hdl : Stmt → ExceptHandler
  | .Try _ (h :: _) _ _ _ => h
  | _ => default
noncomputable def hT : ExceptHandler → Expr
  | .ExceptHandler t _ _ _ => t.getD default
noncomputable def hN : ExceptHandler → Str
  | .ExceptHandler _ n _ _ => n.getD ""
noncomputable def hB : ExceptHandler → Stmt
  | .ExceptHandler _ _ b _ => b.headD default
section
variable (c : MC)
noncomputable abbrev N40 : IE → Expr → Expr := nrmE 40 c
noncomputable abbrev O40 : IE → Expr → Bool := okE 40 c
noncomputable def isTgt (k : Nat) : Bool := c.names[k]? == some (c.nm k) && c.scope.names.lookup (c.nm k) == some .local
noncomputable def isTgtC (k : Nat) : Bool := c.names[k]? == some (c.nm k) && c.scope.names.lookup (c.nm k) == some .cell
noncomputable def isCallE : IE → Bool
  | .callP _ _ => true
  | .callM _ _ => true
  | .callS _ _ => true
  | _ => false
noncomputable def notComp : IE → Bool
  | .comp _ _ _ => false
  | .compR _ _ _ _ => false
  | _ => true
noncomputable def isComp : IE → Bool
  | .comp _ _ _ => true
  | _ => false
noncomputable def notTupE : IE → Bool
  | .tup _ => false
  | _ => true
noncomputable def nTg : List Nat → List Expr → List Expr
  | [], _ => []
  | k :: ks, xs => nmE c k (xs.headD default) :: nTg ks xs.tail
noncomputable def tgE (ks : List Nat) (t : Expr) : Expr := .Tuple (nTg c ks (kids t)) (nOf t) t.pos
noncomputable def swOk (xs : List Expr) : Bool := !(xs.all (constantsAlone 8)) || xs.all (foldedForSure 8)
noncomputable def nOwn (o : Option (IE × IE)) (x : Expr) : Expr := match o with
  | none => .List [] x.pos
  | some (a, b) => .BinOp (N40 c a (kid x 0)) .Add (N40 c b (kid x 1)) x.pos
noncomputable def okOwn (o : Option (IE × IE)) (x : Expr) : Bool := match o with
  | none => true
  | some (a, b) => O40 c a (kid x 0) && O40 c b (kid x 1)
noncomputable def nTO (o : Option (IE × IE)) (es' : List IE) : List IE → List Expr → List Expr
  | [], xs => nOwn c o (xs.headD default) :: nL (nrmE 40) c es' xs.tail
  | e :: es, xs => N40 c e (xs.headD default) :: nTO o es' es xs.tail
noncomputable def okTO (o : Option (IE × IE)) (es' : List IE) : List IE → List Expr → Bool
  | [], xs => okOwn c o (xs.headD default) && okL (okE 40) c es' xs.tail
  | e :: es, xs => O40 c e (xs.headD default) && okTO o es' es xs.tail
noncomputable def methE (k : Nat) (nm : Str) (e : IE) (x : Expr) : Expr := .Call (.Attribute (nmE c k (kid (kid x 0) 0)) nm (kid x 0).pos) [N40 c e (kid x 1)] [] x.pos
noncomputable def call1 (f : Str) (e : IE) (x : Expr) : Expr := .Call (.Name f (kid x 0).pos) [N40 c e (kid x 1)] [] x.pos
noncomputable def rngE (lo : Option IE) (hi : IE) (x : Expr) : Expr := match lo with
  | none => call1 c "range" hi x
  | some lo => .Call (.Name "range" (kid x 0).pos) [N40 c lo (kid x 1), N40 c hi (kid x 2)] [] x.pos
noncomputable def okRng (lo : Option IE) (hi : IE) (x : Expr) : Bool := match lo with
  | none => O40 c hi (kid x 1)
  | some lo => O40 c lo (kid x 1) && O40 c hi (kid x 2)
noncomputable def toldE (n : Str) (y : Expr) : Expr := .Attribute (.Name n (kid y 0).pos) "told" y.pos
noncomputable def toldX (proj : Bool) (n : Str) (y : Expr) : Expr := if proj then .Subscript (toldE n (kid y 0)) (.Constant (.int 0) (nOf (kid y 1)) (kid y 1).pos) y.pos else toldE n y
noncomputable def isAux (n : Str) : Bool := c.scope.names.lookup n == some .local && !(c.names.contains n) && !(n == c.sk) && !(n == ("__debug__" : Str))
section
variable (S : List IS → List Stmt → List Stmt) (G : List IS → List Stmt → Bool)
noncomputable def nrmS (i : IS) (st : Stmt) : Stmt := match i with
  | .expr e => .Expr (N40 c e (xk st 0)) st.pos
  | .app k e => .Expr (methE c k "append" e (xk st 0)) st.pos
  | .ext k e => .Expr (methE c k "extend" e (xk st 0)) st.pos
  | .ret e => .Return (some (N40 c e (xk st 0))) st.pos
  | .retN => .Return none st.pos
  | .retOwn k => .Return (some (nmE c k (xk st 0))) st.pos
  | .asg k e => .Assign [nmE c k (xk st 0)] (N40 c e (xk st 1)) st.pos
  | .asgC k e => .Assign [nmE c k (xk st 0)] (N40 c e (xk st 1)) st.pos
  | .asgNil k => .Assign [nmE c k (xk st 0)] (.List [] (xk st 1).pos) st.pos
  | .asgCall k f args => .Assign [nmE c k (xk st 0)] (nrm (nrmE 40) c (.callM f args) (xk st 1)) st.pos
  | .asgU ks e => .Assign [tgE c ks (xk st 0)] (N40 c e (xk st 1)) st.pos
  | .asgT ks es => .Assign [tgE c ks (xk st 0)] (nrm (nrmE 40) c (.tup es) (xk st 1)) st.pos
  | .asgTO ks es k o ks' es' => .Assign [tgE c (ks ++ k :: ks') (xk st 0)] (.Tuple (nTO c o es' es (kids (xk st 1))) (nOf (xk st 1)) (xk st 1).pos) st.pos
  | .aug k op e => .AugAssign (nmE c k (xk st 0)) op (N40 c e (xk st 1)) st.pos
  | .augAt e => .AugAssign (.Attribute (skE c (kid (xk st 0) 0)) "at" (xk st 0).pos) .Add (N40 c e (xk st 1)) st.pos
  | .setMixed e => .Assign [.Subscript (skE c (kid (xk st 0) 0)) (strE "mixed" (kid (xk st 0) 1)) (xk st 0).pos] (N40 c e (xk st 1)) st.pos
  | .ite t a b => .If (N40 c t (xk st 0)) (S a (sb1 st)) (S b (sb2 st)) st.pos
  | .whl t b => .While (N40 c t (xk st 0)) (S b (sb1 st)) [] st.pos
  | .forL k src b => .For (nmE c k (xk st 0)) (N40 c src (xk st 1)) (S b (sb1 st)) [] st.pos
  | .forR k lo hi b => .For (nmE c k (xk st 0)) (rngE c lo hi (xk st 1)) (S b (sb1 st)) [] st.pos
  | .brk => .Break st.pos
  | .raise cl e => .Raise (some (call1 c (c.xn cl) e (xk st 0))) none st.pos
  | .tryT b cl j proj => .Try (S b (sb1 st)) [.ExceptHandler (some (.Name (c.xn cl) (hT (hdl st)).pos)) (some (hN (hdl st))) [.Assign [nmE c j (xk (hB (hdl st)) 0)] (toldX proj (hN (hdl st)) (xk (hB (hdl st)) 1)) (hB (hdl st)).pos] (hdl st).pos] [] [] st.pos
  | .mkRdr e => .Assign [skE c (xk st 0)] (call1 c "RuleReader" e (xk st 1)) st.pos
  | .mkDeck f e => .Assign [skE c (xk st 0)] (call1 c (c.fn f) e (xk st 1)) st.pos
  | .dead => .Break st.pos
noncomputable def lineIs (t : Expr) (v : Expr) (k : Nat) : Bool := t.pos.line == v.pos.line && !((scOf c.scope v).names.any fun w => w.1 == c.nm k && (w.2 == .local || w.2 == .cell))
noncomputable def okSt (i : IS) (st : Stmt) : Bool := match i with
  | .expr e => isCallE e && O40 c e (xk st 0)
  | .app k e => ownV c k && oneLine (xk st 0) && O40 c e (kid (xk st 0) 1)
  | .ext k e => ownV c k && oneLine (xk st 0) && O40 c e (kid (xk st 0) 1)
  | .ret e => O40 c e (xk st 0)
  | .retN => true
  | .retOwn k => ownV c k
  | .asg k e => (isTgt c k || isTgtC c k) && notComp e && O40 c e (xk st 1)
  | .asgC k e => isTgt c k && isComp e && lineIs c (xk st 0) (xk st 1) k && O40 c e (xk st 1)
  | .asgNil k => isTgt c k
  | .asgCall k f args => isTgt c k && c.frsh f && okS (nrmE 40) (okE 40) c (.callM f args) (xk st 1)
  | .asgU ks e => ks.all (isTgt c) && notComp e && notTupE e && O40 c e (xk st 1)
  | .asgT ks es => ks.all (isTgt c) && decide ks.Nodup && okL (okE 40) c es (kids (xk st 1)) && swOk (nL (nrmE 40) c es (kids (xk st 1))) && Nat.blt es.length 100
  | .asgTO ks es k o ks' es' => (ks ++ k :: ks').all (isTgt c) && decide (ks ++ k :: ks').Nodup && ks.length == es.length && ks'.length == es'.length && okTO c o es' es (kids (xk st 1)) && swOk (nTO c o es' es (kids (xk st 1))) && Nat.blt (es.length + es'.length) 99
  | .aug k _ e => isTgt c k && O40 c e (xk st 1)
  | .augAt e => c.isLocal c.sk && O40 c e (xk st 1)
  | .setMixed e => c.isLocal c.sk && notComp e && O40 c e (xk st 1)
  | .ite t a b => O40 c t (xk st 0) && G a (sb1 st) && G b (sb2 st)
  | .whl t b => O40 c t (xk st 0) && G b (sb1 st)
  | .forL k src b => isTgt c k && O40 c src (xk st 1) && G b (sb1 st)
  | .forR k lo hi b => isTgt c k && c.isGlob "range" && okRng c lo hi (xk st 1) && G b (sb1 st)
  | .brk => true
  | .raise cl e => Nat.blt cl 3 && c.isGlob (c.xn cl) && O40 c e (kid (xk st 0) 1)
  | .tryT _ _ _ _ => false
  | .mkRdr e => c.isLocal c.sk && c.isGlob "RuleReader" && Nat.blt 0 c.lim && O40 c e (kid (xk st 1) 1)
  | .mkDeck f e => f == c.dk && c.isLocal c.sk && c.isGlob (c.fn f) && Nat.blt 0 c.lim && O40 c e (kid (xk st 1) 1)
  | .dead => false
end
noncomputable def nB (f : IS → Stmt → Stmt) : List IS → List Stmt → List Stmt
  | [], _ => []
  | i :: is, ss => f i (ss.headD default) :: nB f is ss.tail
noncomputable def okB (f : IS → Stmt → Bool) : List IS → List Stmt → Bool
  | [], _ => true
  | i :: is, ss => f i (ss.headD default) && okB f is ss.tail
noncomputable def nrmL : Nat → List IS → List Stmt → List Stmt
  | 0 => fun _ _ => []
  | n + 1 => nB (nrmS c (nrmL n))
noncomputable def okSL : Nat → List IS → List Stmt → Bool
  | 0 => fun _ _ => false
  | n + 1 => okB (okSt c (okSL n))
noncomputable def okTry (n : Nat) (i : IS) (st : Stmt) : Bool := match i with
  | .tryT b cl j _ => okSL c n b (sb1 st) && Nat.blt cl 3 && c.isGlob (c.xn cl) && isAux c (hN (hdl st)) && isTgt c j
  | i => okSt c (okSL c n) i st
/-- a frame's own top -/
noncomputable def okT (n : Nat) : List IS → List Stmt → Bool := okB (okTry c n)
end

inductive OwnR (C : Cx) (p : Pt) (v : Value) (d : Dat) : Prop
  | mk (a : Addr) (vs : Array Value) (n : Nat) (xs : List Dat) (ev : v = .ref a) (ed : d = .list xs) (eo : p.oa = [a]) (l : NewL C p a vs n xs)
noncomputable def FlowIs (C : Cx) (p : Pt) (fv : Flow) : Fl → Prop
  | .next => fv = .next
  | .brk => fv = .brk
  | .ret d own => ∃ v, fv = .ret v ∧ if own = true then OwnR C p v d else Rp (hb C p) v d
noncomputable def SndS (C : Cx) (p : Pt) (o : Out Fl) (st : Stmt) : Prop := Snd C 1 (FlowIs C) p o (exec st C.env)
noncomputable def IhS (n : Nat) : Prop := ∀ C rest, CxS C rest → ∀ bs body, okSL C.mc n bs body = true → ∀ p σ, Sim C p σ → Snd C 1 (FlowIs C) p (evS C.O IT n bs σ) (execs (nrmL C.mc n bs body) C.env)

section
variable {C : Cx} {rest : List Env} {p : Pt} {σ : ASt} {n : Nat} {st : Stmt}
theorem e40 (hC : CxS C rest) {e : IE} {ex : Expr} (h : okE 40 C.mc e ex = true) (S : Sim C p σ) : Both C p (evE C.O 40 e σ) (nrmE 40 C.mc e ex) := sound 40 C hC.toCxOk e ex h p σ S
theorem inter (hC : CxS C rest) : interactive C.env = false := by unfold interactive; rw [hC.kind]; rfl
theorem tgt_of {k : Nat} (h : isTgt C.mc k = true) : Tgt C k (C.mc.nm k) := ⟨eq_of_beq (and_l h), eq_of_beq (and_r h)⟩
theorem swaps_no {e : IE} {x : Expr} (h : notComp e = true) (n : Nat) (t : Option Expr) (l : Nat) : swapsWith (nrmE n C.mc e x) t l C.env = pure false := by
  cases n with
  | zero => rfl
  | succ n => cases e <;> first | rfl | exact nomatch h
theorem store_loc {A : Around} (hC : CxS C rest) {k : Nat} {v : Value} {d : Dat} {E : Value → Shared → Prop} {P : Unit → Shared → Prop} {x : Str} (t : Tgt C k x) (S : Sim C p σ) (r : Rp (hb C p) v d)
    (g : ∀ h' tk, Stored C p (putVar k d σ) h' tk (setM p.m x v) → P () { p.s with heap := h', toks := tk }) : wpAny C.M A (storeName C.env x v) P E p.s :=
  wpAny_storeName_local t.loc S.co.fr.ns (fun h' hn sb => g h' _ (S.put hC t r hn (fun b o n e => (sb.2 b n).trans e) _)) (by rw [hC.kind]; rfl)
theorem store_val (hC : CxS C rest) {k : Nat} {v : Value} {d : Dat} {Q : Flow → Shared → Prop} {E : Value → Shared → Prop} (h : (isTgt C.mc k || isTgtC C.mc k) = true) (S : Sim C p σ) (r : Rp (hb C p) v d) (kk : Nxt C 1 (FlowIs C) p Q E (.ok .next (putVar k d σ))) : wpAny C.M C.A (storeName C.env (C.mc.nm k) v) (fun _ => Q .next) E p.s := by
  rcases Bool.or_eq_true_iff.mp h with h | h
  · exact store_loc hC (tgt_of h) S r fun h' tk Z => by
      obtain ⟨oa, _, S', A⟩ := Z
      exact kk .next _ ⟨A, S', rfl⟩
  · have tc : C.env.kindOf (C.mc.nm k) = some .cell := eq_of_beq (and_r h)
    obtain ⟨c, hcs, hc⟩ := hC.cells _ tc
    obtain ⟨o, v₀, e₀, d₀⟩ := S.co.cl _ c tc hc
    refine wpAny_storeName_cell hC.kind tc hc ⟨o, e₀, d₀⟩ fun h' ic sb => ?_
    obtain ⟨o', e', d'⟩ := ic
    obtain ⟨oa, _, S', A⟩ := S.putC hC (eq_of_beq (and_l h)) tc hc r e' d' (fun b o n e => (sb.2 b n).trans e) p.s.toks
    exact kk .next _ ⟨A, S', rfl⟩

theorem st_expr (hC : CxS C rest) {e : IE} (S : Sim C p σ) (h : (isCallE e && okE 40 C.mc e (xk st 0)) = true) : SndS C p ((evE C.O 40 e σ).bind fun _ σ₁ => .ok .next σ₁) (.Expr (nrmE 40 C.mc e (xk st 0)) st.pos) := fun Q E k => by
  have hc := and_l h
  have main : wpAny C.M C.A (eval (nrmE 40 C.mc e (xk st 0)) C.env) (fun _ s₁ => Q .next s₁) E p.s := (e40 hC (and_r h) S).e.sqS k fun d σ₁ v p₁ g k => k .next p₁ ⟨.refl _ _ _, g.S, rfl⟩
  cases e
  case callP => exact wpAny_Expr_any main (inter hC) rfl
  case callM => exact wpAny_Expr_any main (inter hC) rfl
  case callS => exact wpAny_Expr_any main (inter hC) rfl
  all_goals exact nomatch hc
theorem st_ret (hC : CxS C rest) {e : IE} (S : Sim C p σ) (h : okE 40 C.mc e (xk st 0) = true) : SndS C p ((evE C.O 40 e σ).bind fun d σ₁ => .ok (.ret d false) σ₁) (.Return (some (nrmE 40 C.mc e (xk st 0))) st.pos) := fun Q E k =>
  wpAny_Return_some ((e40 hC h S).e.sqS k fun d σ₁ v p₁ g k => k (.ret v) p₁ ⟨.refl _ _ _, g.S, v, rfl, g.r⟩)
theorem st_retN (S : Sim C p σ) : SndS C p (.ok (.ret .none false) σ) (.Return none st.pos) := fun Q E k => wpAny_Return_none (k (.ret .none) p ⟨.refl _ _ _, S, _, rfl, .none⟩)
theorem st_brk (S : Sim C p σ) : SndS C p (.ok .brk σ) (.Break st.pos) := fun Q E k => wpAny_Break (k .brk p ⟨.refl _ _ _, S, rfl⟩)
theorem st_retOwn (hC : CxS C rest) {k : Nat} {ev : IE → ASt → Out Dat} {ex : List IS → ASt → Out Fl} (S : Sim C p σ) (h : ownV C.mc k = true) : SndS C p (stepS C.O IT ev ex (.retOwn k) σ) (.Return (some (nmE C.mc k (xk st 0))) st.pos) := fun Q E kk =>
  own_onlyS (f := fun xs => (.ok (.ret (.list xs) true) σ : Out Fl)) kk fun xs ho kk => by
    obtain ⟨a, vs, n, eo, hm, L⟩ := OwnAt.of S ho (and_l h)
    exact wpAny_Return_some (ld_loc hC.toCxOk S.co hm (and_r h) (kk (.ret (.ref a)) p ⟨.refl _ _ _, S, _, rfl, a, vs, n, xs, rfl, rfl, eo, L⟩))
theorem st_asg (hC : CxS C rest) {k : Nat} {e : IE} (S : Sim C p σ) (h : ((isTgt C.mc k || isTgtC C.mc k) && notComp e && okE 40 C.mc e (xk st 1)) = true) : SndS C p ((evE C.O 40 e σ).bind fun d σ₁ => .ok .next (putVar k d σ₁)) (.Assign [nmE C.mc k (xk st 0)] (nrmE 40 C.mc e (xk st 1)) st.pos) := fun Q E kk =>
  wpAny_Assign_Name ((e40 hC (and_r h) S).e.sqS kk fun d σ₁ v p₁ g kk => store_val hC (and_l (and_l h)) g.S g.r kk) (swaps_no (and_r (and_l h)) 40 _ _)
end
end Mine

namespace Mine
open PySem PySem.W PySem.Calls PyProof.Rows

theorem extend_at {prog : Program} {w : World} {A : Around} {E : Value → Shared → Prop} {s : Shared} {a b : Addr} {its its2 : Array Value} {n n2 : Nat} {Q : Value → Shared → Prop} (ha : s.heap.get? a = some (listOf its n)) (hb : s.heap.get? b = some (listOf its2 n2)) (hz : its.size + its2.size ≤ sizeLine)
    (h : ∀ h' n', Heap.SameBut a s.heap h' → h'.get? a = some (listOf (its ++ its2) n') → Q .none { s with heap := h' }) : wpAny (model prog w) A (call (.builtin "list.extend") [.ref a, .ref b]) Q E s := by
  have up := IsL.update (h := s.heap) (l := a) (items := its) (n := n) ha (fun xs => xs ++ its2)
  exact call_meets PySem.F.slot_list_extend ⟨_, ha, rfl⟩ PySem.F.entry_list_extend (PySem.F.args_list_extend_2 _ _) (AutoSeq1.list_extend_list_list_0 a its n b its2 n2 (extend_door hz) (Nat.le_trans (Nat.le_add_right _ _) hz)) ⟨ha, hb, h _ _ (Heap.SameBut.update ..) up⟩
section
variable {C : Cx} {rest : List Env} {p : Pt} {σ : ASt} {n : Nat} {st : Stmt} {ex : List IS → ASt → Out Fl}
/-- a method of the list of one's own -/
theorem own_meth (hC : CxS C rest) {k : Nat} {e : IE} {nm : Str} {id : String} {x : Expr} {pos : Pos} {Q : Flow → Shared → Prop} {E : Value → Shared → Prop} {F : Dat → ASt → Out Fl} (slot : Slot "list" nm id) (hty : typeOf (.builtin id) = pure (.type "method_descriptor")) (S : Sim C p σ) (h : (ownV C.mc k && oneLine x && okE 40 C.mc e (kid x 1)) = true) {xs : List Dat} (ho : σ.own = some (k, xs)) (kk : Nxt C 1 (FlowIs C) p Q E ((evE C.O 40 e σ).bind F))
    (hcm : ∀ {v₀ : Value} {args : List (Bool × Sem Value)} {e₀ : Sem Value} {Q : Value → Shared → Prop} {E : Value → Shared → Prop} {s : Shared} {xs : List Expr}, wpAny C.M C.A (spliced (backTo x.pos (starEach [nrmE 40 C.mc e (kid x 1)] C.env))) (fun vs s₁ => wpAny C.M C.A (call (.builtin id) ([v₀] ++ vs)) Q E s₁) E s → wpAny C.M C.A (callWith x.pos (.builtin id) [v₀] (backTo x.pos (starEach [nrmE 40 C.mc e (kid x 1)] C.env)) []) Q E s)
    (g : ∀ a d σ₁ v p₁, p₁.m (C.mc.nm k) = some (.ref a) → Got C 0 (RV C) p σ₁ v d p₁ → Nxt C 1 (FlowIs C) p₁ Q E (F d σ₁) → wpAny C.M C.A (call (.builtin id) [.ref a, v]) (fun _ s' => Q .next s') E p₁.s) : wpAny C.M C.A (exec (.Expr (methE C.mc k nm e x) pos) C.env) Q E p.s := by
  obtain ⟨a, vs, n, eo, hm, L⟩ := OwnAt.of S ho (and_l (and_l (and_l h)))
  refine wpAny_Expr_any (mcall rfl few1 (and_r (and_l h)) (ld_loc hC.toCxOk S.co hm (and_r (and_l (and_l h))) (list_meth L.e slot hty (hcm (args := []) (e₀ := pure .none) (xs := []) ?_)))) (inter hC) rfl
  exact spliced_n ((e40 hC (and_r h) S).e.sqS kk fun d σ₁ v p₁ G kk => wpAny_pure (g a d σ₁ v p₁ ((congrFun (G.A.fx rfl).1 _).trans hm) G kk))
theorem st_app (hC : CxS C rest) {k : Nat} {e : IE} (S : Sim C p σ) (h : (ownV C.mc k && oneLine (xk st 0) && okE 40 C.mc e (kid (xk st 0) 1)) = true) : SndS C p (stepS C.O IT (evE C.O 40) ex (.app k e) σ) (.Expr (methE C.mc k "append" e (xk st 0)) st.pos) := fun Q E kk =>
  own_only (f := fun _ => (evE C.O 40 e σ).bind fun d σ₁ => match σ₁.own with | some (j, xs) => if (decide (j = k) && sz (xs.length + 1)) = true then Out.ok Fl.next { σ₁ with own := some (k, xs ++ [d]) } else .stuck | none => .stuck) kk fun xs ho kk =>
    own_meth hC PySem.F.slot_list_append PySem.F.type_list_append S h ho kk (fun h => callWith_method1 h star_n rfl) fun a d σ₁ v p₁ hm g kk => own_onlyB (c := fun xs => sz (xs.length + 1)) (f := fun xs => Out.ok Fl.next { σ₁ with own := some (k, xs ++ [d]) }) kk fun ys ho₁ hz kk => by
      obtain ⟨a', vs, n', eo, hm', L⟩ := OwnAt.of g.S ho₁ (and_l (and_l (and_l h)))
      cases hm.symm.trans hm'
      refine append_at L.e (fun h' sb e' => ?_) (by have := sz_le hz; rw [← L.r.length] at this; exact Nat.le_of_succ_le this)
      obtain ⟨S', A⟩ := g.S.ownUp hC.toCxOk ho₁ eo (fun b o n e => (sb.2 b n).trans e) e' (by rw [Array.toList_push]; exact L.r.append (.one g.r)) p₁.s.toks
      exact kk .next _ ⟨A, S', rfl⟩
theorem st_ext (hC : CxS C rest) {k : Nat} {e : IE} (S : Sim C p σ) (h : (ownV C.mc k && oneLine (xk st 0) && okE 40 C.mc e (kid (xk st 0) 1)) = true) : SndS C p (stepS C.O IT (evE C.O 40) ex (.ext k e) σ) (.Expr (methE C.mc k "extend" e (xk st 0)) st.pos) := fun Q E kk =>
  own_only (f := fun _ => (evE C.O 40 e σ).bind fun d σ₁ => match σ₁.own, d with | some (j, xs), .list ds => if (decide (j = k) && sz (xs.length + ds.length)) = true then Out.ok Fl.next { σ₁ with own := some (k, xs ++ ds) } else .stuck | _, _ => .stuck) kk fun xs ho kk =>
    own_meth hC PySem.F.slot_list_extend PySem.F.type_list_extend S h ho kk (fun h => callWith_method1 h star_n rfl) fun a d σ₁ v p₁ hm g kk => by
      have sel : ∃ ds ys, d = .list ds ∧ σ₁.own = some (k, ys) ∧ sz (ys.length + ds.length) = true ∧ Nxt C 1 (FlowIs C) p₁ Q E (Out.ok Fl.next { σ₁ with own := some (k, ys ++ ds) }) := by
        obtain ⟨vars, own, st⟩ := σ₁
        match own, d, kk with
        | some (j, ys), .list ds, kk => exact Nxt.if_ kk fun q kk => ⟨ds, ys, rfl, by rw [of_decide_eq_true (and_l q)], and_r q, kk⟩
      obtain ⟨ds, ys, rfl, ho₁, hz, kk⟩ := sel
      obtain ⟨a', vs, n', eo, hm', L⟩ := OwnAt.of g.S ho₁ (and_l (and_l (and_l h)))
      cases hm.symm.trans hm'
      obtain ⟨b, ws, nb, ev, eb, rb⟩ := g.r.isList
      rw [ev]
      refine extend_at L.e (of_hideAll _ eb) (by have := sz_le hz; rw [← L.r.length, ← rb.length] at this; exact this) fun h' n'' sb e' => ?_
      obtain ⟨S', A⟩ := g.S.ownUp hC.toCxOk ho₁ eo (fun b o n e => (sb.2 b n).trans e) e' (by rw [Array.toList_append]; exact L.r.append rb) p₁.s.toks
      exact kk .next _ ⟨A, S', rfl⟩

/-- a hidden list goes to a name -/
theorem store_own (hC : CxS C rest) {k n : Nat} {a : Addr} {vs : Array Value} {xs : List Dat} {tk' : Nat} {s : Shared} {m : Str → Option Value} {oa xa : List Addr} {Q : Unit → Shared → Prop} {E : Value → Shared → Prop} {x : Str} (t : Tgt C k x) (S : Sim C ⟨{ s with heap := hideAll s.heap [a], toks := tk' }, m, oa, xa⟩ σ) (L : HidL C ⟨{ s with heap := hideAll s.heap [a], toks := tk' }, m, oa, xa⟩ s.heap a vs n xs) (hl : k < σ.vars.length)
    (g : ∀ h' tk, Sim C ⟨{ s with heap := h', toks := tk }, setM m x (.ref a), [a], xa⟩ (putOwn k xs σ) → Aftr C 1 ⟨{ s with heap := hideAll s.heap [a], toks := tk' }, m, oa, xa⟩ ⟨{ s with heap := h', toks := tk }, setM m x (.ref a), [a], xa⟩ → Q () { s with heap := h', toks := tk }) : wpAny C.M C.A (storeName C.env x (.ref a)) Q E s := by
  refine wpAny_storeName_local t.loc (S.co.fr.ns.at' fun o e => of_hideAll _ e) (fun h' hn sb => ?_) (by rw [hC.kind]; rfl)
  obtain ⟨S', A⟩ := S.reveal hC (tk := s.toks + 1) t L hl hn fun b o n e => (sb.2 b n).trans e
  exact g h' _ S' A
theorem st_asgNil (hC : CxS C rest) {k : Nat} (S : Sim C p σ) (h : isTgt C.mc k = true) : SndS C p (if k < σ.vars.length then Out.ok Fl.next (putOwn k [] σ) else .stuck) (.Assign [nmE C.mc k (xk st 0)] (.List [] (xk st 1).pos) st.pos) := fun Q E kk => kk.if_ fun hk kk => by
  refine wpAny_Assign_Name (List_ (wpAny_pure (newList_N S.co.fr (maxN_news C.g C.env.locals p.s.heap) (fun h' F' N' => ?_) (by decide +kernel)))) rfl
  obtain ⟨k1, k2⟩ := kp_of_cons S.co.fr F' N'
  obtain ⟨S', A⟩ := S.under (P := [p.s.heap.objs.size]) hC.toCxOk F' k1 (fun b q => by rw [List.mem_singleton.mp q]; exact none_size _) p.s.toks
  obtain ⟨n1, n2, n3⟩ := new_out S (Nat.le_refl _)
  exact store_own (s := { p.s with heap := h' }) hC (tgt_of h) S' ⟨k2, .nil, new_hE hC S (Nat.le_refl _), n1, n2, n3⟩ hk fun h₂ tk S₂ A₂ => kk .next _ ⟨(A.to (Nat.zero_le _)).trans A₂, S₂, rfl⟩
theorem StAt.off {G : Gl} {hb hb' h : Heap} {X : List Addr} {o a : Addr} {st : St} {vs : Array Value} {n : Nat} (x : StAt G hb h X o st) (e : h.get? a = some (listOf vs n)) (na : a ∉ X) (k : hb.StaysIn hb') : StAt G hb' (hideAll h [a]) X o st :=
  x.mv (.of k) (fun b hb ob e' _ => hid_to (fun q => na ((List.mem_singleton.mp q) ▸ hb)) e') fun ob e' q => hid_to (fun z => by rw [List.mem_singleton.mp z] at e'; cases e.symm.trans e'; cases q) e'
noncomputable def ownOf (k : Nat) (d : Dat) (σ₂ : ASt) : Out Fl := match d with
  | .list xs => if k < σ₂.vars.length then .ok .next (putOwn k xs σ₂) else .stuck
  | _ => .stuck
theorem st_asgCall (hC : CxS C rest) {k f : Nat} {es : List IE} {x : Expr} (S : Sim C p σ) (h : (isTgt C.mc k && C.mc.frsh f && okS (nrmE 40) (okE 40) C.mc (.callM f es) x) = true) : SndS C p (stepS C.O IT (evE C.O 40) ex (.asgCall k f es) σ) (.Assign [nmE C.mc k (xk st 0)] (nrm (nrmE 40) C.mc (.callM f es) x) st.pos) := fun Q E kk => by
  have h' : (C.mc.isS f && C.mc.isM f && Nat.blt f C.mc.lim && C.mc.isLocal C.mc.sk && Nat.blt es.length 10 && oneLine x && okL (okE 40) C.mc es (kids x).tail) = true := and_r h
  have fe : ∀ ds (σ₁ : ASt), (match σ₁.st with
      | none => .stuck
      | some st => match C.O.s f st ds with
        | .ok (.list xs) st' => if k < σ₁.vars.length then Out.ok Fl.next (putOwn k xs { σ₁ with st := some st' }) else .stuck
        | .exc x => .exc x { σ₁ with st := some .gone }
        | _ => .stuck : Out Fl) = (callsOf C.O f ds σ₁).bind (ownOf k) := fun ds σ₁ => by
    obtain ⟨a, b, st⟩ := σ₁
    cases st with
    | none => rfl
    | some st =>
      show (match C.O.s f st ds with
        | .ok (.list xs) st' => if k < a.length then Out.ok Fl.next (putOwn k xs ⟨a, b, some st'⟩) else .stuck
        | .exc x => .exc x ⟨a, b, some .gone⟩
        | _ => .stuck : Out Fl) = (outS (C.O.s f st ds) ⟨a, b, some st⟩).bind _
      cases C.O.s f st ds with
      | ok d st' => cases d <;> rfl
      | exc => rfl
      | stuck => rfl
  have kk' : Nxt C 1 (FlowIs C) p Q E (match σ.st with | some (.rdr _ _) => (evL (evE C.O 40) es σ).bind fun ds σ₁ => (callsOf C.O f ds σ₁).bind (ownOf k) | _ => .stuck) := by
    rw [← show _ = (fun ds σ₁ => (callsOf C.O f ds σ₁).bind (ownOf k)) from funext fun ds => funext fun σ₁ => fe ds σ₁]
    exact kk
  refine rdr_only kk' fun T i hst kk => ?_
  have hf : f < C.lim := lt_of (and_r (and_l (and_l (and_l (and_l h')))))
  have hM : C.G.isM f = true := and_r (and_l (and_l (and_l (and_l (and_l h')))))
  obtain ⟨fa, P⟩ := (hC.w.fns f hf).state (and_l (and_l (and_l (and_l (and_l (and_l h'))))))
  refine wpAny_Assign_Name (mcall rfl (fewL (and_r (and_l (and_l h')))) (and_r (and_l h')) (meth_get hC.toCxOk S P hM (.of S hst) (and_r (and_l (and_l (and_l h')))) fun o tk hm => ?_)) rfl
  refine callW (p := p.to p.s.heap tk) (first := [.ref o]) (by decide) hC.toCxOk (sound 40) P.keep (and_r h') (S.toks tk) (kk.go (Aftr.toks tk) (by decide)) fun ds σ₁ vs p₁ g kk => st_calls (Q := fun v => wpAny C.M C.A (storeName C.env (C.mc.nm k) v) (fun _ => Q .next) E) hC.toCxOk P hf g.S (((congrFun (g.A.fx rfl).1 _).trans hm)) g.r kk fun d st' v p₂ g₂ kk => ?_
  cases d
  case list ys =>
    refine Nxt.if_ kk fun hk kk => ?_
    obtain ⟨a, n', vs', rfl, le, e, r, sa⟩ := g₂.post.fr (and_r (and_l h)) ys rfl
    obtain ⟨n1, n2, n3⟩ := new_out g.S le
    have noa : p₁.s.heap.get? a = none := Heap.get?_none_of_le le
    have sub : (hideAll p₂.s.heap (a :: ((C.H ++ (p₁.oa ++ p₁.xa)) ++ (p₁.xa ++ C.F)))).StaysIn (hideAll (hideAll p₂.s.heap [a]) (C.H ++ (p₁.oa ++ p₁.xa))) := fun b o e => by
      obtain ⟨nb, e⟩ := hid_mem e
      exact hid_to (fun q => nb (List.mem_cons_of_mem _ (List.mem_append_left _ q))) (hid_to (fun q => nb (by rw [List.mem_singleton.mp q]; exact List.mem_cons_self)) e)
    have nb : ∀ {b : Addr} {o : Obj}, p₁.s.heap.get? b = some o → b ∉ [a] := fun e q => some_ne e noa (List.mem_singleton.mp q)
    obtain ⟨o', ne, hm', hk', _⟩ := RdrIn.of S hst
    have hmo : p₁.m C.sk = some (.ref o) := (congrFun (g.A.fx rfl).1 _).trans hm
    obtain ⟨S₂, A₂⟩ := g.S.called hC.toCxOk (h' := hideAll p₂.s.heap [a]) (st := some st') (fun _ q => q) ⟨fun b o nx nF e => hid_to (nb e) (g₂.k.kp b o nx nF e), fun M hM o e => by
      obtain ⟨sl, e'⟩ := g₂.k.sl M hM o e
      exact ⟨sl, hid_to (nb e) e'⟩⟩ (fun b q => let ⟨o, e⟩ := g₂.post.th b q; ⟨o, hid_to (fun z => n2 ((List.mem_singleton.mp z) ▸ q)) e⟩) p₂.s.toks fun _ => ⟨o, fun q => ne (by rw [← q, (g.A.fx rfl).2]), hmo, hk', sa.off e n2 sub⟩
    have es := g₂.g.A.s
    rw [es]
    exact store_own (s := { p₁.s with heap := p₂.s.heap, toks := p₂.s.toks }) hC (tgt_of (and_l (and_l h))) S₂ ⟨e, r.mono sub, new_hE hC g.S le, n1, n2, n3⟩ hk fun h₂ tk₂ S₃ A₃ => kk .next _ ⟨(A₂.to (Nat.zero_le _)).trans A₃, S₃, rfl⟩
  all_goals exact kk.elim

theorem st_aug (hC : CxS C rest) {k : Nat} {op : Operator} {e : IE} (S : Sim C p σ) (h : (isTgt C.mc k && okE 40 C.mc e (xk st 1)) = true) : SndS C p (stepS C.O IT (evE C.O 40) ex (.aug k op e) σ) (.AugAssign (nmE C.mc k (xk st 0)) op (nrmE 40 C.mc e (xk st 1)) st.pos) := fun Q E kk => by
  have tg := tgt_of (and_l h)
  refine var_get (f := fun x => (evE C.O 40 e σ).bind fun y σ₁ => match op, x, y with
      | .Add, .int a, .int b => Out.ok Fl.next (putVar k (.int (a + b)) σ₁)
      | .Sub, .int a, .int b => Out.ok Fl.next (putVar k (.int (a - b)) σ₁)
      | _, _, _ => .stuck) kk fun x hv kk => ?_
  obtain ⟨v, X, r⟩ := S.vs k x hv
  have hm : p.m (C.mc.nm k) = some v := by
    cases X with
    | loc y hx _ hm => cases hx.symm.trans tg.at_; exact hm
    | cell y c o hx hk => cases hx.symm.trans tg.at_; cases hk.symm.trans tg.loc
  refine wpAny_AugAssign_Name (wpAny_loadName_local hC.kind tg.loc S.co.fr.ns hm ((e40 hC (and_r h) S).e.sqS kk fun d σ₁ v₁ p₁ g kk => ?_))
  have fin : ∀ r : Int, Nxt C 1 (FlowIs C) p₁ Q E (Out.ok Fl.next (putVar k (.int r) σ₁)) → wpAny C.M C.A (storeName C.env (C.mc.nm k) (.int r p₁.s.toks)) (fun _ => Q .next) E { p₁.s with toks := p₁.s.toks + 1 } := fun r kk =>
    store_val (p := p₁.to p₁.s.heap (p₁.s.toks + 1)) hC (Bool.or_eq_true_iff.mpr (.inl (and_l h))) (g.S.toks _) (.int _ _) (kk.go (Aftr.toks _) (by decide))
  have two : ∃ a b, x = .int a ∧ d = .int b ∧ ((op = .Add ∧ Nxt C 1 (FlowIs C) p₁ Q E (Out.ok Fl.next (putVar k (.int (a + b)) σ₁))) ∨ (op = .Sub ∧ Nxt C 1 (FlowIs C) p₁ Q E (Out.ok Fl.next (putVar k (.int (a - b)) σ₁)))) := by
    match op, x, d, kk with
    | .Add, .int a, .int b, kk => exact ⟨a, b, rfl, rfl, .inl ⟨rfl, kk⟩⟩
    | .Sub, .int a, .int b, kk => exact ⟨a, b, rfl, rfl, .inr ⟨rfl, kk⟩⟩
  obtain ⟨a, b, rfl, rfl, q⟩ := two
  obtain ⟨t, rfl⟩ := r.int_inv
  obtain ⟨t', e'⟩ := g.r.int_inv
  rw [e']
  rcases q with ⟨rfl, kk⟩ | ⟨rfl, kk⟩
  · exact iadd_int (fin _ kk)
  · exact isub_int (fin _ kk)
end
end Mine

namespace Mine
open PySem PySem.W PySem.Calls PyProof.Rows

theorem news_at {g : Heap} {L dx : Addr} {h : Heap} {od : Obj} (e : h.get? dx = some od) (n : dx ≠ L) (k : g.get? dx = none) : News g L h ((dx, od) :: (maxN g L h).filter fun p => !(p.1 == dx)) := fun p hp => (List.mem_cons.mp hp).elim (fun q => q ▸ ⟨e, n, k⟩) fun hp => maxN_news g L h p (List.mem_filter.mp hp).1
theorem off_at {g : Heap} {L dx : Addr} {h : Heap} : ∀ p ∈ (maxN g L h).filter (fun p => !(p.1 == dx)), p.1 ≠ dx := fun p hp => by
  have := (List.mem_filter.mp hp).2
  exact fun q => by rw [q, beq_self_eq_true] at this; cases this
theorem kp_at {g : Heap} {L dx : Addr} {h h' : Heap} {m m' : Str → Option Value} {od' : Obj} (F : Fr g L h m) (F' : Fr g L h' m') (N : News g L h' ((dx, od') :: (maxN g L h).filter fun p => !(p.1 == dx))) : ∀ b o, b ≠ dx → b ≠ L → h.get? b = some o → h'.get? b = some o := fun b o n1 n2 e => by
  cases q : g.get? b with
  | none => exact (N (b, o) (List.mem_cons_of_mem _ (List.mem_filter.mpr ⟨maxN_mem e n2 q, by rw [beq_eq_false_iff_ne.mpr n1]; rfl⟩))).1
  | some o' =>
    have := F.keep _ _ q
    cases e.symm.trans this
    exact F'.keep _ _ q
section
variable {C : Cx} {rest : List Env} {p : Pt} {σ : ASt} {n : Nat} {st : Stmt} {ex : List IS → ASt → Out Fl} {h' : Heap}
/-- the object that is changed in place stands anew -/
theorem Sim.stUp (hC : CxOk C) (S : Sim C p σ) (F' : Fr C.g C.env.locals h' p.m) (kk : ∀ b o, b ≠ C.env.locals → b ∉ p.xa → p.s.heap.get? b = some o → h'.get? b = some o) (th : There p.xa h') (tk : Nat) {st : Option St} (hst : SeqKeep (hb C p) (hb C (p.to h' tk)) → StOf C (p.to h' tk) st) : Sim C (p.to h' tk) { σ with st } ∧ Aftr C 0 p (p.to h' tk) := by
  have M : Mv C p.xa p.s.heap h' := ⟨fun b o nx nL _ e => kk b o nL nx e, fun L hL nL o e => ⟨o.slots, kk L o nL (fun q => nH_F (S.xg L q).nH hL) e⟩, fun b q => .of (S.xg b q).g (S.xg b q).nH⟩
  exact ⟨S.mv hC M F'.ns (fun _ _ => rfl) (fun b q => .inl q) th hst, .of (fun _ => M.up hX hH fun _ q => q) rfl fun _ => rfl⟩
theorem st_augAt (hC : CxS C rest) {e : IE} (S : Sim C p σ) (h : (C.mc.isLocal C.mc.sk && okE 40 C.mc e (xk st 1)) = true) : SndS C p (stepS C.O IT (evE C.O 40) ex (.augAt e) σ) (.AugAssign (.Attribute (skE C.mc (kid (xk st 0) 0)) "at" (xk st 0).pos) .Add (nrmE 40 C.mc e (xk st 1)) st.pos) := fun Q E k => by
  have sel : ∃ T i, σ.st = some (.rdr T i) ∧ Nxt C 1 (FlowIs C) p Q E ((evE C.O 40 e σ).bind fun y σ₁ => match σ₁.st, y with
      | some (.rdr T _), .int b => .ok .next { σ₁ with st := some (.rdr T (i + b)) }
      | _, _ => .stuck) := by
    obtain ⟨a, b, st⟩ := σ
    match st, k with
    | some (.rdr T i), k => exact ⟨T, i, rfl, k⟩
  obtain ⟨T, i, hst, k⟩ := sel
  obtain ⟨o, ne, hm, hk, dx, ox, k1, k2, tv, k3, k4, k5, n, b3, I, b4, b5, b6⟩ := RdrIn.of S hst
  refine wpAny_AugAssign_AttributeAny (ld_loc hC.toCxOk S.co hm (and_l h) (get_own (v := .int i k5) S.co.fr hC.innG I hC.w.rat.get hC.w.rdict hC.w.rat.find rfl rfl rfl ((e40 (p := p.to p.s.heap (p.s.toks + 1)) hC (and_r h) (S.toks _)).e.sqS (k.go (Aftr.toks _) (by decide)) fun d σ₁ v₁ p₁ g k => ?_)))
  have sel : ∃ T' i' b, σ₁.st = some (.rdr T' i') ∧ d = .int b ∧ Nxt C 1 (FlowIs C) p₁ Q E (.ok .next { σ₁ with st := some (.rdr T' (i + b)) }) := by
    obtain ⟨a, b, st⟩ := σ₁
    match st, d, k with
    | some (.rdr T i), .int b, k => exact ⟨T, i, b, rfl, rfl, k⟩
  obtain ⟨T', i', b, hst₁, rfl, k2⟩ := sel
  obtain ⟨t, e'⟩ := g.r.int_inv
  rw [e']
  obtain ⟨o', ne', hm', hk', dx', ox', l1, l2, tv', l3, l4, l5, n', c3, I', c4, c5, c6⟩ := RdrIn.of g.S hst₁
  have hmo : p₁.m C.sk = some (.ref o) := (congrFun (g.A.fx rfl).1 _).trans hm
  cases hmo.symm.trans hm'
  have inx : dx' ∈ p₁.xa := by rw [c3]; exact List.mem_singleton.mpr rfl
  have edx : p₁.s.heap.get? dx' = some (dictOf [key l1 "text" l2 tv', key l3 "at" l4 (.int i' l5)] n') := by
    have := I'.dict
    rw [c4] at this
    exact this
  refine iadd_int (set_dict (s := { p₁.s with toks := p₁.s.toks + 1 }) (es' := [key l1 "text" l2 tv', key l3 "at" l4 (.int (i + b) p₁.s.toks)]) (n' := n') g.S.co.fr hC.innG (news_at edx (nH_L (g.S.xg dx' inx).nH) (g.S.xg dx' inx).g) I' c4 hC.w.rset.set hC.w.rset.over hC.w.rset.at_ hC.w.rdict rfl rfl (.head off_at) (show (2 : Nat) ≤ 1000 by decide) fun h₂ F₂ N₂ => ?_)
  have kk := kp_at g.S.co.fr F₂ N₂
  have e₂ := (N₂ _ (.head _)).1
  have obx : o ≠ dx' := fun q => by
    have := I'.at_
    rw [q] at this
    cases edx.symm.trans this
    cases c5
  obtain ⟨S', A⟩ := g.S.stUp hC.toCxOk F₂ (fun b o n1 n2 e => kk b o (fun q => n2 (q ▸ inx)) n1 e) (fun b q => by
    rw [c3] at q
    rw [List.mem_singleton.mp q]
    exact ⟨_, e₂⟩) (p₁.s.toks + 1 + 2) (st := some (.rdr T' (i + b))) fun u => ⟨o, ne', hmo, hk', dx', ox', l1, l2, tv', l3, l4, p₁.s.toks, n', c3, ⟨kk o _ obx (g.S.co.nL I'.at_ fun _ _ z => by rw [c5] at z; cases z) I'.at_, I'.cls, I'.no, by rw [c4]; exact e₂⟩, c4, c5, c6.seq u⟩
  exact k2 .next _ ⟨A.to (Nat.zero_le _), S', rfl⟩
theorem st_setMixed (hC : CxS C rest) {e : IE} (S : Sim C p σ) (h : (C.mc.isLocal C.mc.sk && notComp e && okE 40 C.mc e (xk st 1)) = true) : SndS C p (stepS C.O IT (evE C.O 40) ex (.setMixed e) σ) (.Assign [.Subscript (skE C.mc (kid (xk st 0) 0)) (strE "mixed" (kid (xk st 0) 1)) (xk st 0).pos] (nrmE 40 C.mc e (xk st 1)) st.pos) := fun Q E k => by
  refine wpAny_Assign_Subscript ((e40 hC (and_r h) S).e.sqS k fun d σ₁ v₁ p₁ g k => ?_) (swaps_no (and_r (and_l h)) 40 _ _)
  have sel : ∃ cells m b, σ₁.st = some (.deck cells m) ∧ d = .int b ∧ Nxt C 1 (FlowIs C) p₁ Q E (.ok .next { σ₁ with st := some (.deck cells b) }) := by
    obtain ⟨a, b, st⟩ := σ₁
    match st, d, k with
    | some (.deck c m), .int b, k => exact ⟨c, m, b, rfl, rfl, k⟩
  obtain ⟨cells, m, b, hst, rfl, k2⟩ := sel
  obtain ⟨t₁, e'⟩ := g.r.int_inv
  rw [e']
  obtain ⟨ob, ne, hm, hk, c, vs, n, t, q2, q3, q4, q5, q6, q7⟩ := DeckIn.of g.S hst
  refine ld_loc hC.toCxOk g.S.co hm (and_l (and_l h)) (Calls.Constant_str ?_)
  have isk : (PySem.strKind C.G.prog C.G.w).is ("mixed" : Str) (.str "mixed" p₁.s.toks) = true := by show Value.isStrOf _ (.str _ p₁.s.toks) = true; simp [Value.isStrOf]
  refine wpAny_setItem_pairs (s := { p₁.s with toks := p₁.s.toks + 1 }) (knd := PySem.strKind C.G.prog C.G.w) isk q3 (fun h₂ D₂ sb => ?_) (by show 2 ≤ sizeLine; rw [sl_is]; decide)
  have D₂ : h₂.DictOf (PySem.strKind C.G.prog C.G.w) ob [("cells", .ref c), ("mixed", .int b t₁)] := D₂
  have q4' : h₂.get? c = some (listOf vs n) := (sb.2 c (Ne.symm q7)).trans q4
  have io : ob ∈ p₁.xa := by rw [q2]; exact List.mem_cons_self
  obtain ⟨S', A⟩ := g.S.called hC.toCxOk (st := some (.deck cells b)) (fun _ q => q) (kf_but io sb g.S.xF) (fun b' hb' => by
    rw [q2] at hb'
    exact two (P := fun b => ∃ o, h₂.get? b = some o) hb' (let ⟨o, _, _, e, _⟩ := D₂; ⟨o, e⟩) ⟨_, q4'⟩) (p₁.s.toks + 1 + 1) fun _ => ⟨ob, ne, hm, hk, c, vs, n, t₁, q2, D₂, q4', q5, q6, q7⟩
  exact k2 .next _ ⟨A.to (Nat.zero_le _), S', rfl⟩

theorem st_ite (hC : CxS C rest) (ihs : IhS n) {t : IE} {a b : List IS} (S : Sim C p σ) (h : (okE 40 C.mc t (xk st 0) && okSL C.mc n a (sb1 st) && okSL C.mc n b (sb2 st)) = true) : SndS C p (stepS C.O IT (evE C.O 40) (evS C.O IT n) (.ite t a b) σ) (.If (nrmE 40 C.mc t (xk st 0)) (nrmL C.mc n a (sb1 st)) (nrmL C.mc n b (sb2 st)) st.pos) := fun Q E k =>
  wpAny_If ((e40 hC (and_l (and_l h)) S).t.sqS (ite_k k) fun c σ₁ v p₁ g k => by
    cases g.r
    cases c with
    | true => exact ihs C rest hC _ _ (and_r (and_l h)) p₁ σ₁ g.S Q E k
    | false => exact ihs C rest hC _ _ (and_r h) p₁ σ₁ g.S Q E k)

/-- what an exception meets at the loop's end -/
theorem loopX (hC : CxS C rest) {x : Exn} {e : Addr} {fl : Option Value} {p' : Pt} {E : Value → Shared → Prop} (g : GotX C p σ x fl e p') (k : ∀ p'', GotX C p σ x (some (rawInt C.env.locals)) e p'' → E (.ref e) p''.s) : notedBy C.M C.A C.env (fun e s' => cameBackBy C.M C.A C.env E e s') (.ref e) p'.s := by
  show wpAny C.M C.A (noteFrame (.ref e) C.env) _ _ _
  refine note_ok hC g.S.co (by rw [hC.frames, hC.top]) g.X g.f fun h₁ f₁ X₁ => ?_
  obtain ⟨S₁, A₁⟩ := g.S.flw hC f₁ p'.s.toks
  have X := X₁
  obtain ⟨oe, vs, de, od, u, t₁, tv, n', a1, a2, a3, a4, b1, b2, b3, r, c1, c2, c3, T, oT, ts, d1, d2, d3, d4, d5, d6⟩ := X
  show wpAny C.M C.A (do
    if (← field (.ref e) 1) == .none then unsupported "frame.own-activation:exception-without-traceback"
    setFlight (.ref e) C.env.frame) _ _ _
  refine wpAny_bind (wpAny_field (s := { p'.s with heap := h₁ }) a1 a4 d1 ?_)
  rw [if_neg (show ¬ ((Value.ref T == Value.none) = true) by simp)]
  refine flight_ok (s := { p'.s with heap := h₁ }) S₁.co X₁ fun h₂ f₂ X₂ => ?_
  obtain ⟨S₂, A₂⟩ := S₁.flw hC f₂ p'.s.toks
  rw [hC.frm] at X₂
  exact k _ ⟨(g.A.trans A₁).trans A₂, S₂, .inr (.inr rfl), X₂⟩
theorem Nxt.loopE {α β : Type} {l : Nat} {R : Pt → α → β → Prop} {Q : α → Shared → Prop} {E : Value → Shared → Prop} {o : Out β} (hC : CxS C rest) (k : Nxt C l R p Q E o) : Nxt C l R p Q (notedBy C.M C.A C.env fun e s' => cameBackBy C.M C.A C.env E e s') o := match o, k with
  | .ok _ _, k => k
  | .exc _ _, k => fun e fl p' g => loopX hC g fun p'' g' => k e _ p'' g'
theorem Snd.sqL {α β γ δ : Type} {l j : Nat} {R : Pt → α → β → Prop} {R' : Pt → γ → δ → Prop} {o : Out β} {t : Sem α} {f : β → ASt → Out δ} {p₂ : Pt} {Q : γ → Shared → Prop} {E : Value → Shared → Prop} {P : α → Shared → Prop} (hC : CxS C rest) (h : Snd C j R p₂ o t) (A : Aftr C l p p₂) (hl : l ≤ 2) (k : Nxt C l R' p Q E (o.bind f))
    (g : ∀ d σ₁ v p₁, Got C j R p₂ σ₁ v d p₁ → Nxt C l R' p Q E (f d σ₁) → P v p₁.s) : wpAny C.M C.A t P (notedBy C.M C.A C.env fun e s' => cameBackBy C.M C.A C.env E e s') p₂.s := h P _ (match o, k with
  | .ok d σ₁, k => fun v p₁ G => g d σ₁ v p₁ G k
  | .exc x σ₁, k => fun e fl p' G => loopX hC ⟨(A.to hl).trans G.A, G.S, G.f, G.X⟩ fun p'' g' => k e _ p'' g')
noncomputable def afterB (L : ASt → Out Fl) (f : Fl) (σ : ASt) : Out Fl := match f with
  | .next => L σ
  | .brk => .ok .next σ
  | .ret d o => .ok (.ret d o) σ
inductive WInv (C : Cx) (Q : Flow → Shared → Prop) (E : Value → Shared → Prop) (t : ASt → Out Dat) (b : ASt → Out Fl) (k : Nat) (s' : Shared) : Prop
  | mk (p' : Pt) (σ' : ASt) (es : s' = p'.s) (S : Sim C p' σ') (kk : Nxt C 1 (FlowIs C) p' Q E (loopW t b k σ'))
theorem st_whl (hC : CxS C rest) (ihs : IhS n) {t : IE} {b : List IS} (S : Sim C p σ) (h : (okE 40 C.mc t (xk st 0) && okSL C.mc n b (sb1 st)) = true) : SndS C p (loopW (evE C.O 40 t) (evS C.O IT n b) IT σ) (.While (nrmE 40 C.mc t (xk st 0)) (nrmL C.mc n b (sb1 st)) [] st.pos) := fun Q E k => by
  refine wpAny_While (codeAny_whileLoop (WInv C Q E (evE C.O 40 t) (evS C.O IT n b)) (fun j s' Z => ?_) IT ⟨p, σ, rfl, S, k⟩)
  obtain ⟨p', σ', rfl, S', kk⟩ := Z
  cases j with
  | zero => exact kk.elim
  | succ j =>
    have kk : Nxt C 1 (FlowIs C) p' Q E (((evE C.O 40 t σ').bind fun d σ₁ => ofO (asB d) σ₁).bind fun c σ₁ => if c = true then (evS C.O IT n b σ₁).bind (afterB (loopW (evE C.O 40 t) (evS C.O IT n b) j)) else .ok .next σ₁) := Nxt.test kk (fun c σ => by cases c <;> rfl) fun d σ h => by cases d <;> first | rfl | exact no_some h.symm
    refine (e40 hC (and_l h) S').t.sqL hC (.refl _ _ _) (by decide) kk fun c σ₁ v p₁ g kk => ?_
    have kk := kk.go (g.A.to (Nat.zero_le _)) (by decide)
    cases g.r
    cases c with
    | false => exact wpAny_execs_nil (kk .next p₁ ⟨.refl _ _ _, g.S, rfl⟩)
    | true =>
      refine (ihs C rest hC _ _ (and_r h) p₁ σ₁ g.S).sqL hC (.refl _ _ _) (by decide) kk fun f σ₂ fv p₂ g₂ kk => ?_
      have kk := kk.go g₂.A (by decide)
      have F := g₂.r
      cases f with
      | next => cases F; exact ⟨j, Nat.lt_succ_self j, p₂, σ₂, rfl, g₂.S, kk⟩
      | brk => cases F; exact kk .next p₂ ⟨.refl _ _ _, g₂.S, rfl⟩
      | ret d o =>
        obtain ⟨v, rfl, F⟩ := F
        exact kk (.ret v) p₂ ⟨.refl _ _ _, g₂.S, v, rfl, F⟩

inductive FInv (C : Cx) (p : Pt) (Q : Flow → Shared → Prop) (E : Value → Shared → Prop) (k : Nat) (b : ASt → Out Fl) (ds : List Dat) (I : Addr) (hb₀ : Heap) (St : Nat → Heap → Prop) (j : Nat) (s' : Shared) : Prop
  | mk (i : Nat) (p' : Pt) (σ' : ASt) (es : s' = p'.s) (hi : i ≤ ds.length) (hj : j = ds.length + 1 - i) (st : St i p'.s.heap) (nI : I ∉ C.H ++ (p'.oa ++ p'.xa)) (S : Sim C p' σ') (A : Aftr C 1 p p') (up : hb₀.StaysIn (hb C p')) (kk : Nxt C 1 (FlowIs C) p Q E (loopF k b (ds.drop i) σ'))
/-- a loop over what has been walked to -/
theorem for_loop (hC : CxS C rest) (ihs : IhS n) {k : Nat} {b : List IS} {px : Pos} {body : List Stmt} (tg : isTgt C.mc k = true) (h2 : okSL C.mc n b body = true) (S : Sim C p σ)
    {o : Obj} {ds : List Dat} {fp : List Addr} {P : Nat → Value → Prop} {St : Nat → Heap → Prop} {hb₀ : Heap} (W : WalkOk C.G.prog C.G.w p.s.heap.objs.size (p.s.heap.push o) hb₀ ds fp P St) (hbS : hb₀.StaysIn (hb C p))
    {Q : Flow → Shared → Prop} {E : Value → Shared → Prop} (kk : Nxt C 1 (FlowIs C) p Q E (loopF k (evS C.O IT n b) ds σ)) :
    codeAny C.M C.A (.forLoop (.Name (C.mc.nm k) px) (.ref p.s.heap.objs.size) (nrmL C.mc n b body) [] C.env) (fun r s' => match r with | .ok f => Q f s' | .error e => cameBackBy C.M C.A C.env E e s') { p.s with heap := p.s.heap.push o } := by
  have hbI : hb₀.get? p.s.heap.objs.size = none := none_of hbS (none_of hid_le (none_size _))
  have sI : (hb C p).get? p.s.heap.objs.size = none := none_of hid_le (none_size _)
  have gI : C.g.get? p.s.heap.objs.size = none := none_of S.co.fr.keep (none_size _)
  have nI : p.s.heap.objs.size ∉ C.H ++ (p.oa ++ p.xa) := fun q => let ⟨o, e⟩ := S.there _ q; some_ne e (none_size _) rfl
  obtain ⟨S₀, A₀⟩ := S.push hC.toCxOk o p.s.toks
  have tgt := tgt_of tg
  generalize hI : p.s.heap.objs.size = I at *
  have WW := W.walk C.A hC.handled
  refine codeAny_forLoop_any (FInv C p Q E k (evS C.O IT n b) ds I hb₀ St) (fun j s' Z => ?_) (ds.length + 1) ⟨0, p.to (p.s.heap.push o) p.s.toks, σ, rfl, Nat.zero_le _, rfl, W.st, nI, S₀, A₀.to (Nat.zero_le _), fun b o e => A₀.up (Nat.zero_le _) b o (hbS b o e), kk⟩
  obtain ⟨i, p', σ', rfl, hi, rfl, st, nI', S', A', up', kk⟩ := Z
  have turned : ∀ (h₁ : Heap) (tk₁ : Nat), (∀ b o, b ∉ [I] → p'.s.heap.get? b = some o → h₁.get? b = some o) → Sim C (p'.to h₁ tk₁) σ' ∧ hb₀.StaysIn (hb C (p'.to h₁ tk₁)) ∧ Aftr C 1 p (p'.to h₁ tk₁) := fun h₁ tk₁ hk => by
    obtain ⟨oI, eI, vs, hd⟩ := W.live i _ st
    have kk : ∀ b o, b ≠ I → p'.s.heap.get? b = some o → h₁.get? b = some o := fun b o n e => hk b o (fun q => n (List.mem_singleton.mp q)) e
    have nd : ∀ es k, oI.data ≠ .dict es k := fun es k z => by rw [hd] at z; cases z
    have f : Flw0 C p'.s.heap h₁ := ⟨fun b o _ e q => kk b o (fun z => by rw [z] at e; cases e.symm.trans eI; exact q _ hd) e, fun b o _ g e => kk b o (some_ne g gI) e, fun L hL o e => ⟨o.slots, kk L o (fun q => S'.co.nF eI nd (q ▸ hL)) e⟩⟩
    have up : ∀ g : Heap, g.get? I = none → g.StaysIn (hb C p') → g.StaysIn (hb C (p'.to h₁ tk₁)) := fun g gn gs b o e => by
      obtain ⟨n, e'⟩ := hid_mem (gs b o e)
      exact hid_to n (kk b o (some_ne e gn) e')
    obtain ⟨S₁, A₁⟩ := S'.flw0 hC f (fun b q => let ⟨o, e⟩ := S'.co.co b q; ⟨o, kk b o (fun z => nI' (hH _ (mem_H.mpr (.inr (.inr (z ▸ q)))))) e⟩) (fun b q => let ⟨o, e⟩ := (S'.xg b q).th; ⟨o, kk b o (fun z => nI' (hX _ (z ▸ q))) e⟩) tk₁
    have AA := (A'.to (by decide : 1 ≤ 2)).trans A₁
    exact ⟨S₁, up hb₀ hbI up', AA.s, AA.st, fun _ => up _ sI (A'.up (Nat.le_refl _)), fun q => nomatch q⟩
  have keep : ∀ {q q' : Pt}, (hb C q).StaysIn (hb C q') → hb₀.StaysIn (hb C q) → I ∉ C.H ++ (q.oa ++ q.xa) → ∀ b ∈ fp, ∀ o, q.s.heap.get? b = some o → q'.s.heap.get? b = some o := fun {q q'} u up nI b hb' o e => by
    have nb : b ∉ C.H ++ (q.oa ++ q.xa) := (W.fp b hb').elim (fun z => z ▸ nI) fun ⟨ob, eb⟩ => (hid_mem (up b ob eb)).1
    exact of_hideAll _ (u b o (hid_to nb e))
  have keepI : ∀ {q q' : Pt} {i : Nat}, (hb C q).StaysIn (hb C q') → St i q.s.heap → I ∉ C.H ++ (q.oa ++ q.xa) → I ∉ C.H ++ (q'.oa ++ q'.xa) := fun {q q' i} u st nI => by
    obtain ⟨o, e, _⟩ := W.live i _ st
    exact (hid_mem (u I o (hid_to nI e))).1
  by_cases hin : i < ds.length
  · refine WW.item i _ _ _ hin st fun v h₁ tk₁ hp st₁ hk₁ => ?_
    obtain ⟨S₁, up₁, A₁⟩ := turned h₁ tk₁ hk₁
    obtain ⟨d, hd, rv⟩ := W.item i v hin hp
    refine wpAny_of_eq (a := ()) (by rfl) (wpAny_assign_Name (store_loc (p := p'.to h₁ tk₁) hC tgt S₁ (rv.mono up₁) fun h₂ tk₂ Z => ?_))
    obtain ⟨oa₂, _, S₂, A₂⟩ := Z
    have u₂ := A₂.up (Nat.le_refl _)
    have st₂ := WW.frame _ _ _ st₁ (keep u₂ up₁ nI')
    have nI₂ := keepI u₂ st₁ nI'
    rw [drop_get hd] at kk
    have kk : Nxt C 1 (FlowIs C) p Q E ((evS C.O IT n b (putVar k d σ')).bind (afterB (loopF k (evS C.O IT n b) (ds.drop (i + 1))))) := kk
    refine (ihs C rest hC _ _ h2 _ _ S₂).sqL hC (A₁.trans A₂) (by decide) kk fun f σ₃ fv p₃ g kk => ?_
    have AA := (A₁.trans A₂).trans g.A
    have u₃ := g.A.up (Nat.le_refl _)
    have up₂ : hb₀.StaysIn _ := fun b o e => u₂ b o (up₁ b o e)
    have F := g.r
    cases f with
    | next => cases F; exact ⟨ds.length + 1 - (i + 1), by omega, i + 1, p₃, σ₃, rfl, hin, rfl, WW.frame _ _ _ st₂ (keep u₃ up₂ nI₂), keepI u₃ st₂ nI₂, g.S, AA, fun b o e => u₃ b o (up₂ b o e), kk⟩
    | brk => cases F; exact kk .next p₃ ⟨AA, g.S, rfl⟩
    | ret d o =>
      obtain ⟨v, rfl, F⟩ := F
      exact kk (.ret v) p₃ ⟨AA, g.S, v, rfl, F⟩
  · have hi' : i = ds.length := by omega
    subst hi'
    refine WW.done _ _ _ st fun h₁ tk₁ hk₁ => ?_
    obtain ⟨S₁, up₁, A₁⟩ := turned h₁ tk₁ hk₁
    rw [List.drop_eq_nil_of_le (Nat.le_refl _)] at kk
    exact wpAny_execs_nil (kk .next _ ⟨A₁, S₁, rfl⟩)
theorem st_forL (hC : CxS C rest) (ihs : IhS n) {k : Nat} {src : IE} {b : List IS} (S : Sim C p σ) (h : (isTgt C.mc k && okE 40 C.mc src (xk st 1) && okSL C.mc n b (sb1 st)) = true) : SndS C p (stepS C.O IT (evE C.O 40) (evS C.O IT n) (.forL k src b) σ) (.For (nmE C.mc k (xk st 0)) (nrmE 40 C.mc src (xk st 1)) (nrmL C.mc n b (sb1 st)) [] st.pos) := fun Q E kk =>
  wpAny_For ((e40 hC (and_r (and_l h)) S).e.sqS kk fun d σ₁ v p₁ g kk => by
    cases hi : itemsD d with
    | none => rw [hi] at kk; exact kk.elim
    | some ds =>
      rw [hi] at kk
      exact Nxt.if_ kk fun hz kk => iter_ok g.r hid_le hi fun o fp P St W => for_loop hC ihs (and_l (and_l h)) (and_r h) g.S W (fun _ _ e => e) kk) (fun v => set_n v)
theorem range_loop (hC : CxS C rest) (ihs : IhS n) {k : Nat} {b : List IS} {px : Pos} {body : List Stmt} {i j : Int} {t t' : Tok} (tg : isTgt C.mc k = true) (h2 : okSL C.mc n b body = true) (S : Sim C p σ) {Q : Flow → Shared → Prop} {E : Value → Shared → Prop} (hi : small i = true) (hj : small j = true) (tk : Nat) (u : Tok)
    (kk : Nxt C 1 (FlowIs C) p Q E (loopF k (evS C.O IT n b) (rangeD i j) σ)) : wpAny C.M C.A (pyIter (.ref p.s.heap.objs.size)) (fun v s₁ => codeAny C.M C.A (.forLoop (.Name (C.mc.nm k) px) v (nrmL C.mc n b body) [] C.env) (fun r s' => match r with | .ok f => Q f s' | .error e => cameBackBy C.M C.A C.env E e s') s₁) E { p.s with heap := p.s.heap.push { cls := .type "range", data := .fields #[.int i t, .int j t', .int 1 u] }, toks := tk } := by
  obtain ⟨S₃, A₃⟩ := S.push hC.toCxOk { cls := .type "range", data := .fields #[.int i t, .int j t', .int 1 u] } tk
  exact range_ok (s := (p.to (p.s.heap.push { cls := .type "range", data := .fields #[.int i t, .int j t', .int 1 u] }) tk).s) (hb := hb C (p.to (p.s.heap.push { cls := .type "range", data := .fields #[.int i t, .int j t', .int 1 u] }) tk)) (IsRange.new _ _ _ _ _ _ _) hi hj fun o fp P St W => for_loop hC ihs tg h2 S₃ W (fun _ _ e => e) (kk.go (A₃.to (Nat.zero_le _)) (by decide))
end
end Mine

namespace Mine
open PySem PySem.W PySem.Calls PyProof.Rows

inductive ExcObj (h : Heap) (C : Addr) : Prop
  | mk (nm q : Str) (N : Addr) (bs bm : List Value) (hdct : Bool) (sn : List Str) (sub : List Value) (ab : Bool) (col : Option Bool) (dd : Option Addr) (k0 k1 k2 k3 k5 : Option Value) (newId : String) (e : h.get? C = some (excClassObj nm q C N bs bm hdct sn sub ab col dd k0 k1 k2 k3 k5 newId)) (b : bm.contains (.type "BaseException") = true)
theorem exc_obj {K : Frag} {h : Heap} {C : Addr} (X : K.In h) (q : ExcShape K C) : ExcObj h C :=
  ⟨_, _, _, _, _, _, _, _, _, _, _, _, _, _, _, _, _, X _ _ (Prod.mk.inj q).1, (Prod.mk.inj q).2⟩
/-- what is raised -/
inductive Raised (E : Value → Shared → Prop) (v : Value) (s : Shared) : Prop
  | mk (e : Addr) (oe : Obj) (vs : Array Value) (C : Addr) (ev : v = .ref e) (hc : oe.cls = .ref C) (X : ExcObj s.heap C) (he : s.heap.get? e = some oe) (hd : oe.data = .fields vs) (h1 : vs[1]? = some .none) (q : E (.ref e) s)
theorem raise_made {M : Model} {A : Around} {E : Value → Shared → Prop} {env : Env} {s : Shared} {x : Sem Value} {Q : Flow → Shared → Prop} (hh : A.handled = none) (h : wpAny M A x (Raised E) E s) : wpAny M A (raiseStmt env (some x) none) Q E s := by
  unfold raiseStmt
  refine wpAny_bind (wpAny_mono h (fun v s₁ h₁ => ?_) fun _ _ x => x)
  obtain ⟨e, oe, vs, C, rfl, hcls, ⟨nm, q, N, bs, bm, hdct, sn, sub, ab, col, dd, k0, k1, k2, k3, k5, newId, hC, hb⟩, he, hd, h1, hE⟩ := h₁
  have hcB : (Value.ref C :: bm).contains (.type "BaseException") = true := by rw [List.contains_cons, hb, Bool.or_true]
  obtain ⟨oc, od, odt, osl⟩ := oe
  dsimp only at hcls hd
  subst hcls hd
  obtain ⟨hp, g, d, tk, os⟩ := s₁
  repeat (first | with_reducible refine wpAny_loadPart_at he ?_ | with_reducible refine wpAny_loadPart_at hC ?_ | (with_reducible refine wpAny_isSubtype_exc hC ?_; rw [hcB]) | with_reducible refine wpAny_field he rfl h1 ?_ | wp_step)
  exact wpAny_raiseNew_none hh hE
section
variable {C : Cx} {rest : List Env} {p : Pt} {σ : ASt} {n : Nat} {st : Stmt} {ex : List IS → ASt → Out Fl} {h' : Heap}
theorem st_raise (hC : CxS C rest) {cl : Nat} {e : IE} (S : Sim C p σ) (h : (Nat.blt cl 3 && C.mc.isGlob (C.mc.xn cl) && okE 40 C.mc e (kid (xk st 0) 1)) = true) : SndS C p ((evE C.O 40 e σ).bind fun d σ₁ => .exc ⟨cl, d⟩ σ₁) (.Raise (some (call1 C.mc (C.mc.xn cl) e (xk st 0))) none st.pos) := fun Q E k => by
  have K := hC.w.mkx cl (lt_of (and_l (and_l h)))
  rw [arm_exec_Raise]
  show wpAny C.M C.A (do
    standAt st.pos
    raiseStmt C.env (some (do let v ← eval (call1 C.mc (C.mc.xn cl) e (xk st 0)) C.env; standAt st.pos; pure v)) none) Q E p.s
  refine wpAny_bind (wpAny_standAt (raise_made hC.handled (wpAny_bind (wpAny_mono (Q := Raised E) ?_ (fun v s₁ h => wpAny_bind (wpAny_standAt (wpAny_pure h))) fun _ _ e => e))))
  refine Call_ (ld_glob hC.toCxOk S.co K.ns (and_r (and_l h)) (callWith_K (h₀ := C.gk) (first := []) hC.gl.inn K.keep (spliced_n ((e40 hC (and_r h) S).e.sqS k fun d σ₁ v p₁ g k => wpAny_pure ⟨g.S.inn hC.toCxOk, wpAny_call (codeAny_mono (K.go C.A C.F _ C.outer p₁.s v d (g.S.pre hC.toCxOk no_mem (Nat.zero_le _)) (g.r.mono hid_le)) fun r s' hr => ?_)⟩)) star_n rfl))
  obtain ⟨e', h', tk, rfl, rfl, kf, X⟩ := hr
  obtain ⟨S', A⟩ := g.S.calledP hC.toCxOk kf tk
  have X' := X.base (F' := C.F) (fun b => none_of g.S.co.fr.keep) fun _ q => q
  have X := X'
  obtain ⟨oe, vs, de, od, u₁, t₁, tv, n, a1, a2, a3, a4, b1, b2, b3, r, c1, c2, c3, tb⟩ := X
  exact ⟨e', oe, vs, _, rfl, a2, exc_obj (S'.inn hC.toCxOk) K.shape, a1, a4, tb, k e' none _ ⟨A.to (Nat.zero_le _), S', .inl rfl, X'⟩⟩

/-- an object that lay hidden is the one that is turned in place -/
theorem Sim.revealSt (hC : CxS C rest) {h h' : Heap} {P : List Addr} {o : Addr} {s : Shared} {m : Str → Option Value} {oa : List Addr} {tk tk' : Nat} {st : St} (kl : C.env.kindOf C.sk = some .local) (S : Sim C ⟨{ s with heap := hideAll h P, toks := tk' }, m, oa, []⟩ σ) (fr : ∀ b ∈ P, XaIs C h b) (x : StAt C.G (hb C ⟨{ s with heap := hideAll h P, toks := tk' }, m, oa, []⟩) h P o st) (ho : st ≠ .gone)
    (hn : h'.Ns C.env.locals (setM m C.sk (.ref o))) (kk : KpL C.env.locals h h') : Sim C ⟨{ s with heap := h', toks := tk }, setM m C.sk (.ref o), oa, P⟩ { σ with st := some st } ∧ Aftr C 1 ⟨{ s with heap := hideAll h P, toks := tk' }, m, oa, []⟩ ⟨{ s with heap := h', toks := tk }, setM m C.sk (.ref o), oa, P⟩ := by
  have kk' : KpL C.env.locals (hideAll h P) h' := fun b o n e => kk b o n (hid_mem e).2
  have up : (hideAll (hideAll h P) (C.H ++ (oa ++ []))).StaysIn (hideAll h' (C.H ++ (oa ++ P))) := fun b ob e => by
    obtain ⟨n1, e1⟩ := hid_mem e
    obtain ⟨n2, e2⟩ := hid_mem e1
    refine hid_to (fun q => ?_) (kk b ob (fun q => n1 (hH b (mem_H.mpr (.inl q)))) e2)
    rcases List.mem_append.mp q with q | q
    · exact n1 (hH b q)
    · rcases List.mem_append.mp q with q | q
      · exact n1 (hO b q)
      · exact n2 q
  have ne : ∀ y, y ∈ C.names → y ≠ C.sk := fun y hy q => hC.skN (q ▸ hy)
  refine ⟨⟨S.co.mv hC.toCxOk (.locals kk') hn, fun j d e => ?_, ?_, ⟨o, x.ne ho, setM_self, kl, x.mv (.of up) (fun b q ob e _ => kk b ob (nH_L (fr b q).nH) e) fun ob e q => kk o ob (fun z => ?_) e⟩, fun b q => ⟨(fr b q).g, (fr b q).nH, ?_⟩⟩, ⟨rfl, .inr rfl, fun _ => up, fun q => nomatch q⟩⟩
  · obtain ⟨v, X, r⟩ := S.vs j d e
    exact ⟨v, X.mv S.co (.locals kk') fun y hy => setM_ne (ne y (List.mem_of_getElem? hy)), r.mono up⟩
  · have ow := S.ow
    revert ow
    show OwAt C _ σ.vars.length σ.own → OwAt C _ σ.vars.length σ.own
    cases σ.own with
    | none => exact id
    | some q =>
      rintro ⟨⟨a, vs, n', y, eo, hx, hk, hm, L⟩, hl⟩
      exact ⟨⟨a, vs, n', y, eo, hx, hk, (setM_ne (ne y (List.mem_of_getElem? hx))).trans hm, kk' a _ (nH_L L.nH) L.e, L.r.mono up, L.hE, L.g, fun q => (hid_mem L.e).1 q, L.nH⟩, hl⟩
  · obtain ⟨oL, es, k, eL, dL⟩ := ns_dic S.co.fr.ns
    cases (hid_mem eL).2.symm.trans (z ▸ e)
    rw [q] at dL
    cases dL
  · obtain ⟨ob, e⟩ := (fr b q).th
    exact ⟨ob, kk b ob (nH_L (fr b q).nH) e⟩
/-- a call makes the object, which goes to its name -/
theorem st_make (hC : CxS C rest) {e : IE} {r : Str} {fa : Addr} {f : Dat → Option St} (K : MakesAt C.G r fa f) (hl : C.mc.isLocal C.mc.sk = true) (hr : C.mc.isGlob r = true) (h1 : 1 ≤ C.lim) (hm : okE 40 C.mc e (kid (xk st 1) 1) = true) (S : Sim C p σ) : SndS C p ((evE C.O 40 e σ).bind fun d σ₁ => match σ₁.st with
      | some _ => .stuck
      | none => match f d with
        | some st => .ok .next { σ₁ with st := some st }
        | none => .stuck) (.Assign [skE C.mc (xk st 0)] (call1 C.mc r e (xk st 1)) st.pos) := fun Q E k => by
  refine wpAny_Assign_Name (Call_ (ld_glob hC.toCxOk S.co K.ns hr (callWith_K (h₀ := C.gk) (first := []) hC.gl.inn K.keep (spliced_n ((e40 hC hm S).e.sqS k fun d σ₁ v p₁ g k => wpAny_pure ⟨g.S.inn hC.toCxOk, ?_⟩)) star_n rfl))) rfl
  have sel : ∃ s', σ₁.st = none ∧ f d = some s' ∧ Nxt C 1 (FlowIs C) p₁ Q E (.ok .next { σ₁ with st := some s' }) := by
    obtain ⟨a, b, st⟩ := σ₁
    match st, k with
    | none, k =>
      cases hf : f d with
      | none => simp only [hf] at k; exact k.elim
      | some s' => simp only [hf] at k; exact ⟨s', rfl, rfl, k⟩
  obtain ⟨s', hst, hf, k2⟩ := sel
  obtain ⟨hgo, mks⟩ := K.go d s' hf
  obtain ⟨s₁, m₁, oa₁, xa₁⟩ := p₁
  have xn : xa₁ = [] := by have := g.S.st; rw [hst] at this; exact this
  subst xn
  refine wpAny_call (codeAny_mono (mks C.A C.F _ C.outer s₁ v (g.S.pre hC.toCxOk no_mem h1) (g.r.mono (hid_sub (Sim.yx no_mem)))) fun r' s' hr' => ?_)
  obtain ⟨o, X, h₂, tk₂, rfl, rfl, kf, nX, th, sa⟩ := hr'
  have noX : ∀ b ob, s₁.heap.get? b = some ob → b ∉ X := fun b ob e q => some_ne e (nX b q) rfl
  obtain ⟨S₂, A₂⟩ := g.S.calledP (h' := hideAll h₂ X) hC.toCxOk ⟨fun b ob n nF e => hid_to (noX b ob e) (kf.kp b ob n nF e), fun L hL ob e => by
    obtain ⟨sl, e'⟩ := kf.sl L hL ob e
    exact ⟨sl, hid_to (noX L ob e) e'⟩⟩ tk₂
  have fresh : ∀ b ∈ X, XaIs C h₂ b := fun b q => ⟨none_of g.S.co.fr.keep (nX b q), fun z => let ⟨o, e⟩ := g.S.there b (hH b z); some_ne e (nX b q) rfl, th b q⟩
  refine wpAny_storeName_local (s := { s₁ with heap := h₂, toks := tk₂ }) (isLoc_k hl) (S₂.co.fr.ns.at' fun o e => of_hideAll _ e) (fun h₃ hn₃ sb => ?_) (by rw [hC.kind]; rfl)
  obtain ⟨S₃, A₃⟩ := S₂.revealSt hC (tk := tk₂ + 1) (isLoc_k hl) fresh (sa.mono fun b ob e => by
    obtain ⟨n1, e1⟩ := hid_mem e
    exact hid_to (fun q => n1 (List.mem_append_right _ (List.mem_append_left _ q))) (hid_to (fun q => n1 (List.mem_append_left _ q)) e1)) hgo hn₃ fun b ob n e => (sb.2 b n).trans e
  exact k2 .next _ ⟨(A₂.to (Nat.zero_le _)).trans A₃, S₃, rfl⟩
theorem st_mkRdr (hC : CxS C rest) {e : IE} (S : Sim C p σ) (h : (C.mc.isLocal C.mc.sk && C.mc.isGlob "RuleReader" && Nat.blt 0 C.mc.lim && okE 40 C.mc e (kid (xk st 1) 1)) = true) : SndS C p (stepS C.O IT (evE C.O 40) ex (.mkRdr e) σ) (.Assign [skE C.mc (xk st 0)] (call1 C.mc "RuleReader" e (xk st 1)) st.pos) := by
  intro Q E k
  refine st_make (st := st) hC hC.w.mkr (and_l (and_l (and_l h))) (and_r (and_l (and_l h))) (lt_of (and_r (and_l h))) (and_r h) S Q E ?_
  revert k
  show Nxt _ _ _ _ _ _ ((evE C.O 40 e σ).bind _) → Nxt _ _ _ _ _ _ ((evE C.O 40 e σ).bind _)
  cases evE C.O 40 e σ with
  | ok d σ₁ =>
    obtain ⟨a, b, st⟩ := σ₁
    cases st <;> exact id
  | exc => exact id
  | stuck => exact id
theorem st_mkDeck (hC : CxS C rest) {f : Nat} {e : IE} (S : Sim C p σ) (h : (f == C.mc.dk && C.mc.isLocal C.mc.sk && C.mc.isGlob (C.mc.fn f) && Nat.blt 0 C.mc.lim && okE 40 C.mc e (kid (xk st 1) 1)) = true) : SndS C p (stepS C.O IT (evE C.O 40) ex (.mkDeck f e) σ) (.Assign [skE C.mc (xk st 0)] (call1 C.mc (C.mc.fn f) e (xk st 1)) st.pos) := by
  cases eq_of_beq (and_l (and_l (and_l (and_l h))))
  obtain ⟨fa, K⟩ := hC.w.mkd
  exact st_make (st := st) hC K (and_r (and_l (and_l (and_l h)))) (and_r (and_l (and_l h))) (lt_of (and_r (and_l h))) (and_r h) S

theorem st_forR (hC : CxS C rest) (ihs : IhS n) {k : Nat} {lo : Option IE} {hi : IE} {b : List IS} (S : Sim C p σ) (h : (isTgt C.mc k && C.mc.isGlob "range" && okRng C.mc lo hi (xk st 1) && okSL C.mc n b (sb1 st)) = true) : SndS C p (stepS C.O IT (evE C.O 40) (evS C.O IT n) (.forR k lo hi b) σ) (.For (nmE C.mc k (xk st 0)) (rngE C.mc lo hi (xk st 1)) (nrmL C.mc n b (sb1 st)) [] st.pos) := fun Q E kk => by
  have tg := and_l (and_l (and_l h))
  have hg := and_r (and_l (and_l h))
  have hr := and_r (and_l h)
  cases lo with
  | none =>
    refine wpAny_For (Call_ (ld_blt hC.toCxOk S.co hC.w.rangeN (v := .type "range") boot_range (by decide) hg (Pv.callWith_type1 (spliced_n ((e40 hC hr S).e.sqS kk fun d σ₁ v p₁ g k1 => wpAny_pure ?_)) star_n rfl))) (fun _ => rfl)
    cases d
    case int j =>
      obtain ⟨t, e1⟩ := g.r.int_inv
      rw [e1]
      exact Nxt.if_ k1 fun hz kk => call_range_1 (range_loop hC ihs tg (and_r h) g.S (and_l (and_l hz)) (and_r (and_l hz)) _ _ kk)
    all_goals exact k1.elim
  | some lo =>
    refine wpAny_For (Call_ (ld_blt hC.toCxOk S.co hC.w.rangeN (v := .type "range") boot_range (by decide) hg (Pv.callWith_type1 (spliced_n ((e40 hC (and_l hr) S).e.sqS kk fun d₁ σ₁ v p₁ g₁ k1 => spliced_n ((e40 hC (and_r hr) g₁.S).e.sqS k1 fun d₂ σ₂ v₂ p₂ g₂ k2 => wpAny_pure ?_))) star_n (by rw [star_n]; rfl)))) (fun _ => rfl)
    cases d₁
    case int i =>
      cases d₂
      case int j =>
        obtain ⟨t, e1⟩ := g₁.r.int_inv
        obtain ⟨t', e2⟩ := g₂.r.int_inv
        rw [e1, e2]
        exact Nxt.if_ k2 fun hz kk => call_range_2 (range_loop hC ihs tg (and_r h) g₂.S (and_l (and_l hz)) (and_r (and_l hz)) _ _ kk)
      all_goals exact k2.elim
    all_goals exact k2.elim
end
end Mine

namespace Mine
open PySem PySem.W PySem.Calls PyProof.Rows

section
variable {C : Cx} {rest : List Env} {p : Pt} {σ : ASt} {n : Nat} {st : Stmt} {ex : List IS → ASt → Out Fl} {h' : Heap}
theorem st_asgC (hC : CxS C rest) {k : Nat} {e : IE} (S : Sim C p σ) (h : (isTgt C.mc k && isComp e && lineIs C.mc (xk st 0) (xk st 1) k && okE 40 C.mc e (xk st 1)) = true) : SndS C p ((evE C.O 40 e σ).bind fun d σ₁ => .ok .next (putVar k d σ₁)) (.Assign [nmE C.mc k (xk st 0)] (nrmE 40 C.mc e (xk st 1)) st.pos) := fun Q E kk => by
  have tg := tgt_of (and_l (and_l (and_l h)))
  have hl : lineIs C.mc (xk st 0) (xk st 1) k = true := and_r (and_l h)
  have nc := and_r (and_l (and_l h))
  have ho := and_r h
  cases e
  case comp elt src caps =>
    have ho : (okE 39 C.mc src (kid (xk st 1) 2) && compOk C.mc (idOf (kid (xk st 1) 1)) (scOf C.mc.scope (xk st 1)) caps && okE 39 (inC C.mc (xk st 1)) elt (kid (xk st 1) 0)) = true := ho
    have M := compIs (and_r (and_l ho))
    obtain ⟨cl, hclos, clo⟩ := comp_closure hC.toCxOk M
    have hsw : swapsWith (nrm (nrmE 39) C.mc (.comp elt src caps) (xk st 1)) (some (nmE C.mc k (xk st 0))) st.pos.line C.env = pure true := by
      show (pure (C.env.blockKind == .function && C.env.kindOf (C.mc.nm k) == some .local && (xk st 0).pos.line == (xk st 1).pos.line && !((scOf C.mc.scope (xk st 1)).names.any fun (n, kk) => n == C.mc.nm k && (kk == .local || kk == .cell))) : Sem Bool) = pure true
      have b1 : C.env.blockKind = .function := by unfold Env.blockKind; rw [hC.kind]; rfl
      have b2 : ((scOf C.mc.scope (xk st 1)).names.any fun (n, kk) => n == C.mc.nm k && (kk == .local || kk == .cell)) = false := (Bool.not_eq_true' _).mp (and_r hl)
      rw [b1, tg.loc, b2, and_l hl]
      rfl
    show wpAny C.M C.A (exec (.Assign [.Name (C.mc.nm k) (xk st 0).pos] (nrm (nrmE 39) C.mc (.comp elt src caps) (xk st 1)) st.pos) C.env) Q E p.s
    rw [exec_Assign_Name_used _ _ _ _ hsw]
    refine wpAny_bind (wpAny_standAt (wpAny_bind ?_))
    show wpAny _ C.A (do let _ ← comprehension (nrm (nrmE 39) C.mc (.comp elt src caps) (xk st 1)) (scOf C.mc.scope (xk st 1)) C.env _ (newList []) false (eval (nrmE 39 C.mc src (kid (xk st 1) 2)) C.env) (some (assign (nmE C.mc k (xk st 0)) C.env))) _ _ p.s
    refine wpAny_bind (wpAny_mono (wpAny_comprehension_free (use := some (assign (nmE C.mc k (xk st 0)) C.env)) (Q := fun _ s' => Q .next s') (E := E) rfl (fun v => set_n v) hclos M.kind M.loc ((sound 39 C hC.toCxOk _ _ (and_l (and_l ho)) p σ S).e.sqS (Nxt.assoc kk) fun d σ₁ v p₁ g k1 => ?_)) (fun _ s' hq => wpAny_pure (wpAny_pure hq)) fun _ _ e => e)
    cases hi : itemsD d with
    | none => rw [hi] at k1; exact k1.elim
    | some ds =>
      rw [hi] at k1
      have sel : ∃ all, sz ds.length = true ∧ evComp (evE C.O 39) elt none (caps.map fun k => (σ₁.vars[k]?).join) ds = some all ∧ Nxt C 1 (FlowIs C) p₁ Q E (.ok .next (putVar k (.list all) σ₁)) := by
        have k1 : Nxt C 1 (FlowIs C) p₁ Q E ((if sz ds.length = true then ofO ((evComp (evE C.O 39) elt none (caps.map fun k => (σ₁.vars[k]?).join) ds).map .list) σ₁ else .stuck : Out Dat).bind fun d σ₁ => .ok .next (putVar k d σ₁)) := k1
        by_cases hz : sz ds.length = true
        · rw [if_pos hz] at k1
          cases hall : evComp (evE C.O 39) elt none (caps.map fun k => (σ₁.vars[k]?).join) ds with
          | none => rw [hall] at k1; exact k1.elim
          | some all => rw [hall] at k1; exact ⟨all, hz, rfl, k1⟩
        · rw [if_neg hz] at k1; exact k1.elim
      obtain ⟨all, hz, hall, k2⟩ := sel
      refine iter_ok g.r hid_le hi fun o fp P St W => comp_value (cnd := none) (ct := default) (RR := fun acc L => compPost C.M C.A E (some (assign (nmE C.mc k (xk st 0)) C.env)) (fun _ s' => Q .next s') acc L) hC.toCxOk (sound 39) g.S M (and_r ho) rfl clo W hz hall fun D L h' tk X => ?_
      obtain ⟨m', hn⟩ := X.ns
      have LL : C.env.locals ≠ L := fun q => by
        obtain ⟨o, _, _, e, _⟩ := ns_dic g.S.co.fr.ns
        exact some_ne e X.nL q
      obtain ⟨S₂, A₂, r₂⟩ := X.post (hideAll h' [L]) tk ⟨hideAll_size _ _, fun b n => hid_get fun q => n (List.mem_singleton.mp q)⟩
      show wpAny C.M C.A (assign (nmE C.mc k (xk st 0)) C.env (.ref D)) _ E _
      refine wpAny_assign_Name (wpAny_storeName_local (s := { p₁.s with heap := h', toks := tk }) tg.loc (S₂.co.fr.ns.at' fun o e => of_hideAll _ e) (fun h₂ hn₂ sb => ⟨m', hn.at' fun o e => (sb.2 _ (Ne.symm LL)).trans e, fun h₃ sb₃ => ?_⟩) (by rw [hC.kind]; rfl))
      obtain ⟨oa₃, _, S₃, A₃⟩ := S₂.put (h' := h₃) hC tg r₂ (hn₂.at' fun o e => (sb₃.2 _ LL).trans e) (fun b o n e => by
        obtain ⟨nL, e⟩ := hid_mem e
        exact (sb₃.2 b fun q => nL (List.mem_singleton.mpr q)).trans ((sb.2 b n).trans e)) (tk + 1)
      exact k2 .next _ ⟨(A₂.to (Nat.zero_le _)).trans A₃, S₃, rfl⟩
  all_goals exact nomatch nc

noncomputable def StoreOf (C : Cx) (t : Value → Sem Unit) (x : Str) : Prop := ∀ v (Q : Unit → Shared → Prop) (E : Value → Shared → Prop) s, wpAny C.M C.A (storeName C.env x v) Q E s → wpAny C.M C.A (t v) Q E s
noncomputable def Tgts (C : Cx) : List Nat → List (Value → Sem Unit) → Prop
  | [], [] => True
  | k :: ks, t :: ts => (∃ x, Tgt C k x ∧ StoreOf C t x) ∧ Tgts C ks ts
  | _, _ => False
theorem Tgts.append : ∀ {ks ks' : List Nat} {ts ts' : List (Value → Sem Unit)}, Tgts C ks ts → Tgts C ks' ts' → Tgts C (ks ++ ks') (ts ++ ts')
  | [], _, [], _, _, h => h
  | _ :: _, _, _ :: _, _, h, h' => ⟨h.1, Tgts.append h.2 h'⟩
  | [], _, _ :: _, _, h, _ => h.elim
  | _ :: _, _, [], _, h, _ => h.elim
theorem Tgts.reverse : ∀ {ks : List Nat} {ts : List (Value → Sem Unit)}, Tgts C ks ts → Tgts C ks.reverse ts.reverse
  | [], [], _ => trivial
  | _ :: _, _ :: _, h => by
    rw [List.reverse_cons, List.reverse_cons]
    exact (Tgts.reverse h.2).append ⟨h.1, trivial⟩
  | [], _ :: _, h => h.elim
  | _ :: _, [], h => h.elim
theorem Tgts.split : ∀ {ks₁ ks₂ : List Nat} {ts : List (Value → Sem Unit)}, Tgts C (ks₁ ++ ks₂) ts → ∃ ts₁ ts₂, ts = ts₁ ++ ts₂ ∧ Tgts C ks₁ ts₁ ∧ Tgts C ks₂ ts₂
  | [], _, ts, h => ⟨[], ts, rfl, trivial, h⟩
  | _ :: _, _, [], h => h.elim
  | k :: ks₁, ks₂, t :: ts, h => by
    obtain ⟨ts₁, ts₂, rfl, a, b⟩ := Tgts.split (ks₁ := ks₁) (ks₂ := ks₂) h.2
    exact ⟨t :: ts₁, ts₂, rfl, ⟨h.1, a⟩, b⟩
/-- the frame's point where P lies hidden -/
noncomputable abbrev ptH (s : Shared) (P : List Addr) (m : Str → Option Value) (oa xa : List Addr) : Pt := ⟨{ s with heap := hideAll s.heap P }, m, oa, xa⟩
/-- values go to names, one behind the other; P lies hidden meanwhile -/
theorem put_vals (hC : CxS C rest) (P : List Addr) {xa : List Addr} {E : Value → Shared → Prop} {Q : Unit → Shared → Prop} {ts' : List (Value → Sem Unit)} {ws : List Value} : ∀ (ks : List Nat) (ts : List (Value → Sem Unit)) (vs : List Value) (ds : List Dat) (σ : ASt) (s : Shared) (m : Str → Option Value) (oa : List Addr),
    Tgts C ks ts → ks.length = vs.length → Sim C (ptH s P m oa xa) σ → RpL (hb C (ptH s P m oa xa)) vs ds →
    (∀ σ' oa' h' tk m', putVars ks ds σ = some σ' → Sim C (ptH { s with heap := h', toks := tk } P m' oa' xa) σ' → Aftr C 1 (ptH s P m oa xa) (ptH { s with heap := h', toks := tk } P m' oa' xa) → KpL C.env.locals s.heap h' → wpAny C.M C.A (assignInOrder ts' ws) Q E { s with heap := h', toks := tk }) → wpAny C.M C.A (assignInOrder (ts ++ ts') (vs ++ ws)) Q E s
  | [], [], [], ds, σ, s, m, oa, _, _, S, r, k => by
    cases r
    exact k σ oa s.heap s.toks m rfl S (.refl _ _ _) fun _ _ _ e => e
  | k :: ks, t :: ts, v :: vs, ds, σ, s, m, oa, h, hl, S, r, kk => by
    cases r with
    | @cons _ _ d ds r1 r2 =>
      obtain ⟨⟨x, tg, st⟩, h'⟩ := h
      obtain ⟨oL, es, kL, eL, dL⟩ := ns_dic S.co.fr.ns
      have nL := (hid_mem eL).1
      refine wpAny_bind (wpAny_holding (st v _ _ _ (wpAny_storeName_local tg.loc (S.co.fr.ns.at' fun o e => of_hideAll _ e) (fun h₁ hn sb => ?_) (by rw [hC.kind]; rfl))))
      obtain ⟨oa', _, S', A⟩ := S.put (h' := hideAll h₁ P) hC tg r1 (hn.at' fun o e => hid_to nL e) (fun b o n e => hid_to (hid_mem e).1 ((sb.2 b n).trans (hid_mem e).2)) (s.toks + 1)
      exact put_vals hC P ks ts vs ds _ { s with heap := h₁, toks := s.toks + 1 } _ oa' h' (Nat.succ.inj hl) S' (r2.mono (A.up (Nat.le_refl _))) fun σ' oa'' h'' tk m' e1 S'' A'' k2 => kk σ' oa'' h'' tk m' e1 S'' (A.trans A'') fun b o n e => k2 b o n ((sb.2 b n).trans e)
  | [], _ :: _, _, _, _, _, _, _, h, _, _, _, _ => h.elim
  | _ :: _, [], _, _, _, _, _, _, h, _, _, _, _ => h.elim
  | _ :: _, _ :: _, [], _, _, _, _, _, _, hl, _, _, _ => by cases hl
  | [], [], _ :: _, _, _, _, _, _, _, hl, _, _, _ => by cases hl
theorem putVars_len : ∀ {ks : List Nat} {ds : List Dat} {σ σ' : ASt}, putVars ks ds σ = some σ' → ks.length = ds.length
  | [], [], _, _, _ => rfl
  | [], _ :: _, _, _, h => nomatch h
  | _ :: _, [], _, _, h => nomatch h
  | _ :: ks, _ :: ds, σ, σ', h => congrArg Nat.succ (putVars_len (ks := ks) (ds := ds) h)
theorem tgts_at : ∀ {ks : List Nat} {xs : List Expr}, ks.all (isTgt C.mc) = true → Tgts C ks ((assignEach (nTg C.mc ks xs) C.env).map (·.2)) ∧ (assignEach (nTg C.mc ks xs) C.env).findIdx? (·.1) = none ∧ (assignEach (nTg C.mc ks xs) C.env).length = ks.length
  | [], _, _ => ⟨trivial, rfl, rfl⟩
  | k :: ks, xs, h => by
    obtain ⟨a, b, c⟩ := tgts_at (ks := ks) (xs := xs.tail) (and_r h)
    refine ⟨⟨⟨_, tgt_of (and_l h), fun v Q E s h => wpAny_assign_Name h⟩, a⟩, ?_, congrArg Nat.succ c⟩
    show List.findIdx? _ ((false, _) :: assignEach (nTg C.mc ks xs.tail) C.env) = none
    rw [List.findIdx?_cons, b]
    rfl
theorem no_swap {ts : List Expr} {k : Nat} {pos : Pos} {e : IE} {x : Expr} (h : notTupE e = true) (n : Nat) : swappedStores [.Tuple ts k pos] (nrmE n C.mc e x) C.env = pure none := by
  cases n with
  | zero => rfl
  | succ n => cases e <;> first | rfl | exact nomatch h
/-- a tuple is unpacked in order -/
theorem unpack_in (hC : CxS C rest) {ks : List Nat} {ts : List (Value → Sem Unit)} {vs : List Value} {ds : List Dat} {σ₂ : ASt} {Q : Flow → Shared → Prop} {E : Value → Shared → Prop} (T : Tgts C ks ts) (l : ks.length = vs.length) (S : Sim C p σ) (r : RpL (hb C p) vs ds) (hp : putVars ks ds σ = some σ₂) (k : Nxt C 1 (FlowIs C) p Q E (.ok .next σ₂)) {h' : Heap} (F' : Fr C.g C.env.locals h' p.m) (N' : News C.g C.env.locals h' (maxN C.g C.env.locals p.s.heap)) : wpAny C.M C.A (assignInOrder ts vs) (fun _ => Q .next) E { p.s with heap := h' } := by
  obtain ⟨S', A⟩ := S.step hC.toCxOk F' (kp_of S.co.fr F' N') p.s.toks
  have := put_vals (ts' := []) (ws := []) hC [] (E := E) (Q := fun _ => Q .next) ks ts vs ds σ { p.s with heap := h' } p.m p.oa T l S' (r.mono (A.up (Nat.zero_le _))) fun σ' oa' h'' tk m' e1 S'' A'' _ => by
    cases hp.symm.trans e1
    exact wpAny_pure (k .next _ ⟨(A.to (Nat.zero_le _)).trans A'', S'', rfl⟩)
  rw [List.append_nil, List.append_nil] at this
  exact this
theorem st_asgU (hC : CxS C rest) {ks : List Nat} {e : IE} (S : Sim C p σ) (h : (ks.all (isTgt C.mc) && notComp e && notTupE e && okE 40 C.mc e (xk st 1)) = true) : SndS C p (stepS C.O IT (evE C.O 40) ex (.asgU ks e) σ) (.Assign [tgE C.mc ks (xk st 0)] (nrmE 40 C.mc e (xk st 1)) st.pos) := fun Q E k => by
  obtain ⟨t1, t2, t3⟩ := tgts_at (C := C) (xs := kids (xk st 0)) (and_l (and_l (and_l h)))
  refine Assign_Tuple ((e40 hC (and_r h) S).e.sqS k fun d σ₁ v p₁ g k1 => ?_) (hs := (by unfold swapsWithSole; exact swaps_no (and_r (and_l (and_l h))) 40 _ _)) (hw := no_swap (and_r (and_l h)) 40)
  cases d
  case tuple ds =>
    have k1 : Nxt C 1 (FlowIs C) p₁ Q E (match putVars ks ds σ₁ with | some σ₂ => .ok .next σ₂ | none => .stuck) := k1
    cases hp : putVars ks ds σ₁ with
    | none => rw [hp] at k1; exact k1.elim
    | some σ₂ =>
      rw [hp] at k1
      obtain ⟨t, o, vs, n', ev, e, c, dd, q⟩ := g.r.isTup
      rw [ev]
      have lks := putVars_len hp
      exact unpackN_ g.S.co.fr (maxN_news C.g C.env.locals p₁.s.heap) (isTup_of (of_hideAll _ e) c dd) hC.handled (by rw [t3, q.size, lks]) t2 fun h' F' N' => unpack_in hC t1 (by rw [q.length, lks]) g.S q hp k1 F' N'
  all_goals exact k1.elim
end
end Mine

namespace Mine
open PySem PySem.W PySem.Calls PyProof.Rows

/-! stores in another order -/
theorem putVars_app : ∀ (ks : List Nat) (ds : List Dat) (ks' : List Nat) (ds' : List Dat) (σ : ASt), ks.length = ds.length → putVars (ks ++ ks') (ds ++ ds') σ = (putVars ks ds σ).bind (putVars ks' ds')
  | [], [], _, _, _, _ => rfl
  | [], _ :: _, _, _, _, h => nomatch h
  | _ :: _, [], _, _, _, h => nomatch h
  | k :: ks, d :: ds, ks', ds', σ, h => putVars_app ks ds ks' ds' (putVar k d σ) (Nat.succ.inj h)
theorem putVar_comm {j k : Nat} {d e : Dat} {σ : ASt} (h : j ≠ k) : putVar j d (putVar k e σ) = putVar k e (putVar j d σ) := by
  obtain ⟨vars, own, st⟩ := σ
  unfold putVar
  dsimp only
  rw [List.set_comm _ _ (Ne.symm h)]
  congr 1
  cases own with
  | none => rfl
  | some p =>
    obtain ⟨i, xs⟩ := p
    by_cases q1 : i = k
    · subst q1; simp [Ne.symm h]
    · by_cases q2 : i = j
      · subst q2; simp [q1]
      · simp [q1, q2]
theorem putVars_last {k : Nat} {e : Dat} : ∀ (ks : List Nat) (ds : List Dat) (σ : ASt), k ∉ ks → putVars ks ds (putVar k e σ) = (putVars ks ds σ).map (putVar k e)
  | [], [], _, _ => rfl
  | [], _ :: _, _, _ => rfl
  | _ :: _, [], _, _ => rfl
  | j :: ks, d :: ds, σ, h => by
    show putVars ks ds (putVar j d (putVar k e σ)) = (putVars ks ds (putVar j d σ)).map _
    have hjk : j ≠ k := fun q => h (by rw [q]; exact List.mem_cons_self)
    rw [putVar_comm hjk]
    exact putVars_last ks ds _ fun q => h (List.mem_cons_of_mem _ q)
theorem putVars_rev : ∀ (ks : List Nat) (ds : List Dat) (σ : ASt), ks.Nodup → ks.length = ds.length → putVars ks.reverse ds.reverse σ = putVars ks ds σ
  | [], [], _, _, _ => rfl
  | [], _ :: _, _, _, h => nomatch h
  | _ :: _, [], _, _, h => nomatch h
  | k :: ks, d :: ds, σ, hn, hl => by
    have hl : ks.length = ds.length := Nat.succ.inj hl
    rw [List.reverse_cons, List.reverse_cons, putVars_app _ _ _ _ _ (by rw [List.length_reverse, List.length_reverse]; exact hl), putVars_rev ks ds σ (List.nodup_cons.mp hn).2 hl]
    show _ = putVars ks ds (putVar k d σ)
    rw [putVars_last ks ds σ (List.nodup_cons.mp hn).1]
    cases putVars ks ds σ <;> rfl
theorem putVar_own {k : Nat} {d : Dat} {σ : ASt} (h : σ.own = none) : (putVar k d σ).own = none := by
  obtain ⟨a, b, c⟩ := σ
  cases (h : b = none)
  rfl
theorem putVars_own : ∀ {ks : List Nat} {ds : List Dat} {σ σ' : ASt}, putVars ks ds σ = some σ' → (σ.own = none → σ'.own = none) ∧ σ'.vars.length = σ.vars.length
  | [], [], _, _, h => by cases h; exact ⟨id, rfl⟩
  | [], _ :: _, _, _, h => nomatch h
  | _ :: _, [], _, _, h => nomatch h
  | k :: ks, d :: ds, σ, σ', h => by
    obtain ⟨a, b⟩ := putVars_own (ks := ks) (ds := ds) (σ := putVar k d σ) h
    exact ⟨fun q => a (putVar_own q), b.trans List.length_set⟩
theorem putOwn_vars {k : Nat} {xs : List Dat} : ∀ (ks : List Nat) (ds : List Dat) (σ : ASt), k ∉ ks → σ.own = none → putVars ks ds (putOwn k xs σ) = (putVars ks ds σ).map (putOwn k xs)
  | [], [], _, _, _ => rfl
  | [], _ :: _, _, _, _ => rfl
  | _ :: _, [], _, _, _ => rfl
  | j :: ks, d :: ds, σ, h, q => by
    show putVars ks ds (putVar j d (putOwn k xs σ)) = (putVars ks ds (putVar j d σ)).map _
    have : putVar j d (putOwn k xs σ) = putOwn k xs (putVar j d σ) := by
      have hjk : j ≠ k := fun q => h (by rw [q]; exact List.mem_cons_self)
      have q2 := putVar_own (k := j) (d := d) q
      unfold putOwn
      rw [freeze_id q, freeze_id q2]
      unfold putVar
      dsimp only
      rw [List.set_comm _ _ (Ne.symm hjk), if_neg (Ne.symm hjk)]
    rw [this]
    exact putOwn_vars ks ds _ (fun q => h (List.mem_cons_of_mem _ q)) (putVar_own q)
theorem filt_names (f : Str → Pos → Bool) : ∀ (ps : List (Str × Pos)), ((ps.map fun p => Expr.Name p.1 p.2).filterMap fun | .Name id pos => if f id pos then some id else none | _ => none).length ≤ ps.length ∧
    (((ps.map fun p => Expr.Name p.1 p.2).filterMap fun | .Name id pos => if f id pos then some id else none | _ => none).length = ps.length → ((ps.map fun p => Expr.Name p.1 p.2).filterMap fun | .Name id pos => if f id pos then some id else none | _ => none) = ps.map (·.1))
  | [] => ⟨Nat.le_refl _, fun _ => rfl⟩
  | p :: ps => by
    obtain ⟨a, b⟩ := filt_names f ps
    rw [List.map_cons, List.filterMap_cons]
    by_cases q : f p.1 p.2 = true
    · simp only [q, if_true, List.length_cons, List.map_cons]
      exact ⟨by omega, fun h => by rw [b (by omega)]⟩
    · simp only [q, if_false, Bool.false_eq_true, List.length_cons, List.map_cons]
      exact ⟨by omega, fun h => by omega⟩
theorem nTg_ps (c : MC) : ∀ (ks : List Nat) (xs : List Expr), ∃ ps : List (Str × Pos), nTg c ks xs = ps.map (fun p => .Name p.1 p.2) ∧ ps.map (·.1) = ks.map c.nm
  | [], _ => ⟨[], rfl, rfl⟩
  | k :: ks, xs => by
    obtain ⟨ps, a, b⟩ := nTg_ps c ks xs.tail
    exact ⟨(c.nm k, (xs.headD default).pos) :: ps, congrArg (List.cons _) a, congrArg (List.cons _) b⟩
section
variable {C : Cx} {rest : List Env} {p : Pt} {σ : ASt} {n : Nat} {st : Stmt} {ex : List IS → ASt → Out Fl} {h' : Heap}
theorem tgts_bind : ∀ {ks : List Nat}, ks.all (isTgt C.mc) = true → Tgts C ks ((ks.map C.mc.nm).map fun n => bindName C.env n)
  | [], _ => trivial
  | _ :: _, h => ⟨⟨_, tgt_of (and_l h), fun v Q E s h => wpAny_bindName h⟩, tgts_bind (and_r h)⟩
/-- the order in which a display's items are stored -/
theorem sw_cases {ks : List Nat} {el xs : List Expr} {k1 k2 : Nat} {p1 p2 : Pos} (hs : swOk xs = true) : swappedStores [.Tuple (nTg C.mc ks el) k1 p1] (.Tuple xs k2 p2) C.env = pure none ∨ swappedStores [.Tuple (nTg C.mc ks el) k1 p1] (.Tuple xs k2 p2) C.env = pure (some (ks.map C.mc.nm)) := by
  obtain ⟨ps, e1, e2⟩ := nTg_ps C.mc ks el
  rw [e1, ← e2]
  obtain ⟨a, b⟩ := filt_names (fun id pos => C.env.kindOf id == some .local && pos.line == (((ps.map fun p => Expr.Name p.1 p.2).head?.map (·.pos.line)).getD 0)) ps
  unfold swappedStores
  dsimp only
  split
  · exact .inl rfl
  split
  · exact .inl rfl
  split
  · exact .inl rfl
  rename_i hn
  split
  · exact .inl rfl
  rename_i hf
  split
  · rename_i hc
    unfold swOk at hs
    rw [hc] at hs
    simp only [Bool.not_true, Bool.false_or] at hs
    exact absurd hs hf
  · right
    simp only [Bool.or_eq_true, bne_iff_ne, ne_eq, not_or, Decidable.not_not, List.length_map] at hn
    exact congrArg (fun l => (pure (some l) : Sem (Option (List Str)))) (b hn.1)
theorem evL_len {ev : IE → ASt → Out Dat} : ∀ {es : List IE} {σ σ' : ASt} {ds : List Dat}, evL ev es σ = .ok ds σ' → ds.length = es.length
  | [], _, _, _, h => by cases h; rfl
  | e :: es, σ, σ', ds, h => by
    have h : (ev e σ).bind (fun d σ₁ => (evL ev es σ₁).bind fun ds σ₂ => .ok (d :: ds) σ₂) = .ok ds σ' := h
    cases h1 : ev e σ with
    | ok d σ₁ =>
      rw [h1] at h
      have h : (evL ev es σ₁).bind (fun ds σ₂ => .ok (d :: ds) σ₂) = .ok ds σ' := h
      cases h2 : evL ev es σ₁ with
      | ok ds' σ₂ =>
        rw [h2] at h
        cases h
        exact congrArg Nat.succ (evL_len h2)
      | exc => rw [h2] at h; cases h
      | stuck => rw [h2] at h; cases h
    | exc => rw [h1] at h; cases h
    | stuck => rw [h1] at h; cases h
/-- the same, with the number of what is given -/
theorem s_listN (hC : CxOk C) (ih : IhE n) {pos : Pos} {es : List IE} {xs : List Expr} (h : okL (okE n) C.mc es xs = true) (S : Sim C p σ) : Snd C 0 (fun p v d => RpL (hb C p) v d ∧ d.length = es.length) p (evL (evE C.O n) es σ) (spliced (backTo pos (starEach (nL (nrmE n) C.mc es xs) C.env))) := fun Q E k => s_list hC ih es xs p σ h S Q E (by
  cases e : evL (evE C.O n) es σ with
  | ok ds σ₁ => rw [e] at k; exact fun v p' g => k v p' ⟨g.A, g.S, g.r, evL_len e⟩
  | exc => rw [e] at k; exact k
  | stuck => rw [e] at k; exact k)
theorem st_asgT (hC : CxS C rest) {ks : List Nat} {es : List IE} (S : Sim C p σ) (h : (ks.all (isTgt C.mc) && decide ks.Nodup && okL (okE 40) C.mc es (kids (xk st 1)) && swOk (nL (nrmE 40) C.mc es (kids (xk st 1))) && Nat.blt es.length 100) = true) : SndS C p (stepS C.O IT (evE C.O 40) ex (.asgT ks es) σ) (.Assign [tgE C.mc ks (xk st 0)] (nrm (nrmE 40) C.mc (.tup es) (xk st 1)) st.pos) := fun Q E k => by
  have h1 := and_l (and_l (and_l (and_l h)))
  obtain ⟨t1, t2, t3⟩ := tgts_at (C := C) (xs := kids (xk st 0)) h1
  have hlt := lt_of (and_r h)
  have main : ∀ P : Value → Shared → Prop, (∀ (ds : List Dat) (σ₁ σ₂ : ASt) (vs : List Value) (p₁ : Pt) (t : Addr) (h₁ : Heap), Sim C (p₁.to h₁ p₁.s.toks) σ₁ → Aftr C 0 p (p₁.to h₁ p₁.s.toks) → IsTup h₁ t vs.toArray → RpL (hb C (p₁.to h₁ p₁.s.toks)) vs ds → putVars ks ds σ₁ = some σ₂ → Nxt C 1 (FlowIs C) (p₁.to h₁ p₁.s.toks) Q E (.ok .next σ₂) → P (.ref t) { p₁.s with heap := h₁ }) → wpAny C.M C.A (eval (nrm (nrmE 40) C.mc (.tup es) (xk st 1)) C.env) P E p.s := by
    intro P kk
    refine Tuple_ ((s_listN hC.toCxOk (sound 40) (and_r (and_l (and_l h))) S).sqS k fun ds σ₁ vs p₁ g k1 => newTuple_N g.S.co.fr (maxN_news C.g C.env.locals p₁.s.heap) (fun h' F' N' => ?_) (by rw [g.r.1.length, g.r.2, sl_is]; omega))
    have k1 : Nxt C 1 (FlowIs C) p₁ Q E (match putVars ks ds σ₁ with | some σ₂ => .ok .next σ₂ | none => .stuck) := k1
    cases hp : putVars ks ds σ₁ with
    | none => rw [hp] at k1; exact k1.elim
    | some σ₂ =>
      rw [hp] at k1
      obtain ⟨q1, q2⟩ := kp_of_cons g.S.co.fr F' N'
      obtain ⟨S', A⟩ := g.S.step hC.toCxOk F' q1 p₁.s.toks
      exact kk ds σ₁ σ₂ vs p₁ _ h' S' (g.A.trans A) ⟨_, q2, rfl, _, rfl⟩ (g.r.1.mono (A.up (Nat.zero_le _))) hp (k1.go (A.to (Nat.zero_le _)) (by decide))
  rcases sw_cases (C := C) (ks := ks) (el := kids (xk st 0)) (k1 := nOf (xk st 0)) (p1 := (xk st 0).pos) (k2 := nOf (xk st 1)) (p2 := (xk st 1).pos) (and_r (and_l h)) with hw | hw
  · exact Assign_Tuple (main _ fun ds σ₁ σ₂ vs p₁ t h₁ S₁ A₁ it r hp k1 => unpackN_ (s := (p₁.to h₁ p₁.s.toks).s) S₁.co.fr (maxN_news C.g C.env.locals h₁) it hC.handled (by rw [t3, r.size, putVars_len hp]) t2 fun h' F' N' => unpack_in hC t1 (by rw [r.length, putVars_len hp]) S₁ r hp k1 F' N') (hs := rfl) (hw := hw)
  · refine Assign_Tuple_swapped (main _ fun ds σ₁ σ₂ vs p₁ t h₁ S₁ A₁ it r hp k1 => unpackItemsN_ (s := (p₁.to h₁ p₁.s.toks).s) S₁.co.fr (maxN_news C.g C.env.locals h₁) it hC.handled (by rw [List.length_map, r.size, putVars_len hp]) fun h' F' N' => ?_) (hs := rfl) (hw := hw)
    have lks := putVars_len hp
    rw [List.map_reverse]
    exact unpack_in hC (tgts_bind h1).reverse (by rw [List.length_reverse, List.length_reverse, r.length, lks]) S₁ r.reverse ((putVars_rev _ _ _ (of_decide_eq_true (and_r (and_l (and_l (and_l h))))) lks).trans hp) k1 F' N'
end
end Mine

namespace Mine
open PySem PySem.W PySem.Calls PyProof.Rows

noncomputable def ownEv (ev : IE → ASt → Out Dat) (o : Option (IE × IE)) (σ : ASt) : Out (List Dat) := match o with
  | none => .ok [] σ
  | some (a, b) => (ev a σ).bind fun x σ₂ => (ev b σ₂).bind fun y σ₃ => match x, y with
    | .list xs, .list ys => if sz (xs.length + ys.length) then .ok (xs ++ ys) σ₃ else .stuck
    | _, _ => .stuck
noncomputable def finTO (ks : List Nat) (k : Nat) (ks' : List Nat) (ds ys ds' : List Dat) (σ : ASt) : Out Fl := match putVars ks ds (freeze σ) with
  | some σ₆ => (match putVars ks' ds' σ₆ with
    | some σ₇ => if k < σ₇.vars.length then .ok .next (putOwn k ys σ₇) else .stuck
    | none => .stuck)
  | none => .stuck
section
variable {C : Cx} {rest : List Env} {p : Pt} {σ : ASt} {n : Nat} {st : Stmt} {ex : List IS → ASt → Out Fl} {h' : Heap} {pos : Pos}
theorem fin_inv {ks ks' : List Nat} {k : Nat} {ds ys ds' : List Dat} {Q : Flow → Shared → Prop} {E : Value → Shared → Prop} (kk : Nxt C 1 (FlowIs C) p Q E (finTO ks k ks' ds ys ds' σ)) : ∃ σ₆ σ₇, putVars ks ds (freeze σ) = some σ₆ ∧ putVars ks' ds' σ₆ = some σ₇ ∧ k < σ.vars.length ∧ Nxt C 1 (FlowIs C) p Q E (.ok .next (putOwn k ys σ₇)) := by
  unfold finTO at kk
  cases e1 : putVars ks ds (freeze σ) with
  | none => simp only [e1] at kk; exact kk.elim
  | some σ₆ =>
    simp only [e1] at kk
    cases e2 : putVars ks' ds' σ₆ with
    | none => simp only [e2] at kk; exact kk.elim
    | some σ₇ =>
      simp only [e2] at kk
      exact Nxt.if_ kk fun hk kk => ⟨σ₆, σ₇, rfl, e2, by rw [(putVars_own e2).2, (putVars_own e1).2, freeze_len] at hk; exact hk, kk⟩
theorem list_then (hC : CxS C rest) {o : Option (IE × IE)} {es' : List IE} {Q' : Flow → Shared → Prop} {E : Value → Shared → Prop} (es : List IE) : ∀ (xs : List Expr) (p : Pt) (σ : ASt) (F : List Dat → ASt → Out Fl) (Q : List Value → Shared → Prop), okTO C.mc o es' es xs = true → Sim C p σ → Nxt C 1 (FlowIs C) p Q' E ((evL (evE C.O 40) es σ).bind F) →
    (∀ (ds : List Dat) (σ₁ : ASt) (vs : List Value) (p₁ : Pt) (xs' : List Expr), (okOwn C.mc o (xs'.headD default) && okL (okE 40) C.mc es' xs'.tail) = true → Got C 0 (RL C) p σ₁ vs ds p₁ → ds.length = es.length → Nxt C 1 (FlowIs C) p₁ Q' E (F ds σ₁) →
      wpAny C.M C.A (spliced (backTo pos (starEach (nTO C.mc o es' [] xs') C.env))) (fun ws s₂ => Q (vs ++ ws) s₂) E p₁.s) → wpAny C.M C.A (spliced (backTo pos (starEach (nTO C.mc o es' es xs) C.env))) Q E p.s := by
  induction es with
  | nil => exact fun xs p σ F Q ho S k g => g [] σ [] p xs ho ⟨.refl _ _ _, S, .nil⟩ rfl k
  | cons e es ihs =>
    intro xs p σ F Q ho S k g
    refine spliced_n ((e40 hC (and_l ho) S).e.sqS (Nxt.assoc k) fun d σ₁ v p₁ G k => ihs xs.tail p₁ σ₁ (fun ds σ₂ => F (d :: ds) σ₂) _ (and_r ho) G.S (Nxt.assoc k) fun ds σ₂ vs p₂ xs' ho' G₂ hl k => ?_)
    exact g (d :: ds) σ₂ (v :: vs) p₂ xs' ho' ⟨G.A.trans G₂.A, G₂.S, .cons (G₂.A.rp G.r) G₂.r⟩ (congrArg Nat.succ hl) k
structure OwnG (C : Cx) (p p₁ : Pt) (σ₁ : ASt) (ys : List Dat) (vs : List Value) (n : Nat) (h' : Heap) : Prop where
  g : Got C 0 (RL C) p σ₁ vs ys p₁
  F' : Fr C.g C.env.locals h' p₁.m
  kk : KpL C.env.locals p₁.s.heap h'
  e : h'.get? p₁.s.heap.objs.size = some (listOf vs.toArray n)
theorem own_elem (hC : CxS C rest) {o : Option (IE × IE)} {y : Expr} {F : List Dat → ASt → Out Fl} {Q' : Flow → Shared → Prop} {E : Value → Shared → Prop} {Q : Value → Shared → Prop} (ho : okOwn C.mc o y = true) (S : Sim C p σ) (k : Nxt C 1 (FlowIs C) p Q' E ((ownEv (evE C.O 40) o σ).bind F))
    (g : ∀ ys σ₁ vs n p₁ h', OwnG C p p₁ σ₁ ys vs n h' → Nxt C 1 (FlowIs C) p₁ Q' E (F ys σ₁) → Q (.ref p₁.s.heap.objs.size) { p₁.s with heap := h' }) : wpAny C.M C.A (eval (nOwn C.mc o y) C.env) Q E p.s := by
  cases o with
  | none =>
    refine List_ (wpAny_pure (newList_N S.co.fr (maxN_news C.g C.env.locals p.s.heap) (fun h' F' N' => ?_) (by decide +kernel)))
    obtain ⟨k1, k2⟩ := kp_of_cons S.co.fr F' N'
    exact g [] σ [] 0 p h' ⟨⟨.refl _ _ _, S, .nil⟩, F', k1, k2⟩ k
  | some ab =>
    obtain ⟨a, b⟩ := ab
    refine wpAny_BinOp ((e40 hC (and_l ho) S).e.sqS (Nxt.assoc k) fun x σ₁ u p₁ g₁ k => (e40 hC (and_r ho) g₁.S).e.sqS (Nxt.assoc k) fun y σ₂ v p₂ g₂ k => ?_)
    have sel : ∃ xs ys, x = .list xs ∧ y = .list ys ∧ sz (xs.length + ys.length) = true ∧ Nxt C 1 (FlowIs C) p₂ Q' E (F (xs ++ ys) σ₂) := by
      match x, y, k with
      | .list xs, .list ys, k =>
        have k : Nxt C 1 (FlowIs C) p₂ Q' E ((if sz (xs.length + ys.length) = true then .ok (xs ++ ys) σ₂ else .stuck : Out (List Dat)).bind F) := k
        by_cases hz : sz (xs.length + ys.length) = true
        · rw [if_pos hz] at k; exact ⟨xs, ys, rfl, rfl, hz, k⟩
        · rw [if_neg hz] at k; exact k.elim
    obtain ⟨xs, ys, rfl, rfl, hz, k2⟩ := sel
    obtain ⟨c, vs, nc, e1, lc, qc⟩ := (g₂.A.rp g₁.r).isList
    obtain ⟨d, ws, nd, e2, ld, qd⟩ := g₂.r.isList
    rw [e1, e2]
    refine add_arrays g₂.S.co.fr (maxN_news C.g C.env.locals p₂.s.heap) (isList_of (of_hideAll _ lc)) (isList_of (of_hideAll _ ld)) (fun h' F' N' => ?_) (by rw [qc.size, qd.size]; exact sz_le hz)
    obtain ⟨q1, q2⟩ := kp_of_cons g₂.S.co.fr F' N'
    exact g (xs ++ ys) σ₂ (vs ++ ws) 0 p₂ h' ⟨⟨g₁.A.trans g₂.A, g₂.S, qc.append qd⟩, F', q1, q2⟩ k2
/-- what is no more than a number or a name turns nothing -/
theorem simple_one (hC : CxS C rest) {e : IE} {x : Expr} {K : Out Dat → Prop} {Q : Value → Shared → Prop} {E : Value → Shared → Prop} (hs : simpleE e = true) (ho : okE 40 C.mc e x = true) (S : Sim C p σ) (hK : ¬ K .stuck) (k : K (evE C.O 40 e σ)) (g : ∀ d v tk, (∀ h, Rp h v d) → K (.ok d σ) → Q v { p.s with toks := tk }) : wpAny C.M C.A (eval (nrmE 40 C.mc e x) C.env) Q E p.s := by
  cases e
  case const d =>
    cases d
    case none => exact Constant_none (g _ _ p.s.toks (fun _ => .none) k)
    case bool => exact Constant_bool (g _ _ p.s.toks (fun _ => .bool _) k)
    case int => exact wpAny_Constant_int (g _ _ _ (fun _ => .int _ _) k)
    case str => exact Calls.Constant_str (g _ _ _ (fun _ => .str _ _) k)
    case bytes b => obtain ⟨b⟩ := b; exact Constant_bytes (g _ _ _ (fun _ => .bytes _ _) k)
    all_goals exact nomatch hs
  case neg i => exact UnaryOp_ (wpAny_Constant_int (neg_int (g _ _ _ (fun _ => .int _ _) k)))
  case fld b =>
    cases b
    case false => exact nomatch hs
    case true =>
      have sel : ∃ T i, σ.st = some (.rdr T i) ∧ K (.ok (.int i) σ) := by
        obtain ⟨vars, own, st⟩ := σ
        match st, k with
        | some (.rdr T i), k => exact ⟨T, i, rfl, k⟩
        | none, k => exact (hK k).elim
        | some (.deck _ _), k => exact (hK k).elim
        | some .gone, k => exact (hK k).elim
      obtain ⟨T, i, hst, k⟩ := sel
      obtain ⟨o, ne, hm, hk, dx, ox, k1, k2, tv, k3, k4, k5, n, b3, I, b4, b5, b6⟩ := RdrIn.of S hst
      exact Attribute_name (ld_loc hC.toCxOk S.co hm ho (get_own (v := .int i k5) S.co.fr hC.innG I hC.w.rat.get hC.w.rdict hC.w.rat.find rfl rfl rfl (g _ _ _ (fun _ => .int _ _) k)))
  all_goals exact nomatch hs
theorem simple_list (hC : CxS C rest) {E : Value → Shared → Prop} (es : List IE) : ∀ (xs : List Expr) (p : Pt) (K : Out (List Dat) → Prop) (Q : List Value → Shared → Prop), es.all simpleE = true → okL (okE 40) C.mc es xs = true → Sim C p σ → ¬ K .stuck → K (evL (evE C.O 40) es σ) → (∀ ds vs tk, (∀ h, RpL h vs ds) → ds.length = es.length → K (.ok ds σ) → Q vs { p.s with toks := tk }) → wpAny C.M C.A (spliced (backTo pos (starEach (nL (nrmE 40) C.mc es xs) C.env))) Q E p.s := by
  induction es with
  | nil => exact fun xs p K Q _ _ S _ k g => wpAny_pure (g [] [] p.s.toks (fun _ => .nil) rfl k)
  | cons e es ihs => exact fun xs p K Q hs ho S hK k g => spliced_n (simple_one (K := fun o => K (o.bind fun d σ₁ => (evL (evE C.O 40) es σ₁).bind fun ds σ₂ => .ok (d :: ds) σ₂)) hC (and_l hs) (and_l ho) S hK k fun d v tk r k => ihs xs.tail (p.to p.s.heap tk) (fun o => K (o.bind fun ds σ₂ => .ok (d :: ds) σ₂)) _ (and_r hs) (and_r ho) (S.toks tk) hK k fun ds vs tk' rs hl k => g (d :: ds) (v :: vs) tk' (fun h => .cons (r h) (rs h)) (congrArg Nat.succ hl) k)
/-- values go to names, a list among them as its own -/
theorem store_mid (hC : CxS C rest) {E : Value → Shared → Prop} {Q : Unit → Shared → Prop} {ks₁ ks₂ : List Nat} {k n : Nat} {ts : List (Value → Sem Unit)} {vs₁ vs₂ : List Value} {ds₁ ds₂ ys : List Dat} {a : Addr} {us : Array Value} {s : Shared} {m : Str → Option Value} {oa xa : List Addr}
    (h : Tgts C (ks₁ ++ k :: ks₂) ts) (l1 : ks₁.length = ds₁.length) (l2 : ks₂.length = ds₂.length) (S : Sim C (ptH s [a] m oa xa) σ) (r₁ : RpL (hb C (ptH s [a] m oa xa)) vs₁ ds₁) (r₂ : RpL (hb C (ptH s [a] m oa xa)) vs₂ ds₂) (L : HidL C (ptH s [a] m oa xa) s.heap a us n ys) (hl : k < σ.vars.length)
    (kQ : ∀ σ₁ σ' p', putVars ks₁ ds₁ σ = some σ₁ → putVars ks₂ ds₂ (putOwn k ys σ₁) = some σ' → Sim C p' σ' → Aftr C 1 (ptH s [a] m oa xa) p' → Q () p'.s) : wpAny C.M C.A (assignInOrder ts (vs₁ ++ .ref a :: vs₂)) Q E s := by
  obtain ⟨ts₁, ts', rfl, t1, t2⟩ := h.split
  cases ts' with
  | nil => exact t2.elim
  | cons t ts₂ =>
  obtain ⟨⟨x, tg, st⟩, t3⟩ := t2
  refine put_vals hC [a] ks₁ ts₁ vs₁ ds₁ σ s m oa t1 (by rw [l1, r₁.length]) S r₁ fun σ₁ oa₁ h₁ tk₁ m₁ e1 S₁ A₁ k2 => ?_
  have u := A₁.up (Nat.le_refl _)
  refine wpAny_bind (wpAny_holding (st _ _ _ _ (store_own (s := { s with heap := h₁, toks := tk₁ }) (tk' := tk₁) hC tg S₁ ⟨k2 a _ (nH_L L.nH) L.e, L.r.mono u, L.hE, L.g, L.nx, L.nH⟩ (by rw [(putVars_own e1).2]; exact hl) fun h₂ tk₂ S₂ A₂ => ?_)))
  have := put_vals (ts' := []) (ws := []) hC [] (E := E) (Q := Q) ks₂ ts₂ vs₂ ds₂ _ { s with heap := h₂, toks := tk₂ } _ _ t3 (by rw [l2, r₂.length]) S₂ ((r₂.mono u).mono (A₂.up (Nat.le_refl _))) fun σ' oa' h' tk m' e4 S₃ A₃ _ => wpAny_pure (kQ σ₁ σ' _ e1 e4 S₃ ((A₁.trans A₂).trans A₃))
  rw [List.append_nil, List.append_nil] at this
  exact this
theorem st_asgTO (hC : CxS C rest) {ks ks' : List Nat} {k : Nat} {o : Option (IE × IE)} {es es' : List IE} (S : Sim C p σ)
    (h : ((ks ++ k :: ks').all (isTgt C.mc) && decide (ks ++ k :: ks').Nodup && ks.length == es.length && ks'.length == es'.length && okTO C.mc o es' es (kids (xk st 1)) && swOk (nTO C.mc o es' es (kids (xk st 1))) && Nat.blt (es.length + es'.length) 99) = true) : SndS C p (stepS C.O IT (evE C.O 40) ex (.asgTO ks es k o ks' es') σ) (.Assign [tgE C.mc (ks ++ k :: ks') (xk st 0)] (.Tuple (nTO C.mc o es' es (kids (xk st 1))) (nOf (xk st 1)) (xk st 1).pos) st.pos) := fun Q E kk => by
  have h5 := and_l h
  have h4 := and_l h5
  have h3 := and_l h4
  have h2 := and_l h3
  have h1 := and_l (and_l h2)
  have nd : (ks ++ k :: ks').Nodup := of_decide_eq_true (and_r (and_l h2))
  have l1 : ks.length = es.length := eq_of_beq (and_r h2)
  have l2 : ks'.length = es'.length := eq_of_beq (and_r h3)
  have hlt := lt_of (and_r h)
  obtain ⟨t1, t2, t3⟩ := tgts_at (C := C) (xs := kids (xk st 0)) h1
  have main : ∀ P : Value → Shared → Prop, (∀ (ds ys ds' : List Dat) (σ₁ : ASt) (vs us vs' : List Value) (p₁ : Pt) (nn tk : Nat) (t : Addr) (h₄ : Heap), Sim C p₁ σ₁ → Aftr C 0 p p₁ → RpL (hb C p₁) vs ds → RpL (hb C p₁) us ys → (∀ h, RpL h vs' ds') → ds.length = es.length → ds'.length = es'.length → Fr C.g C.env.locals h₄ p₁.m → KpL C.env.locals p₁.s.heap h₄ → IsTup h₄ t (vs ++ .ref p₁.s.heap.objs.size :: vs').toArray → h₄.get? p₁.s.heap.objs.size = some (listOf us.toArray nn) → Nxt C 1 (FlowIs C) p₁ Q E (finTO ks k ks' ds ys ds' σ₁) → P (.ref t) { p₁.s with heap := h₄, toks := tk }) →
      wpAny C.M C.A (eval (.Tuple (nTO C.mc o es' es (kids (xk st 1))) (nOf (xk st 1)) (xk st 1).pos) C.env) P E p.s := by
    intro P g
    have kk : Nxt C 1 (FlowIs C) p Q E ((evL (evE C.O 40) es σ).bind fun ds σ₁ => (ownEv (evE C.O 40) o σ₁).bind fun ys σ₄ => if es'.all simpleE = true then (evL (evE C.O 40) es' σ₄).bind fun ds' σ₅ => finTO ks k ks' ds ys ds' σ₅ else .stuck) := kk
    refine Tuple_ (list_then hC es _ p σ _ _ (and_r h4) S kk fun ds σ₁ vs p₁ xs' ho G hl k1 => ?_)
    have oX : starEach (nTO C.mc o es' [] xs') C.env = (false, eval (nOwn C.mc o (xs'.headD default)) C.env) :: starEach (nL (nrmE 40) C.mc es' xs'.tail) C.env := by cases o <;> rfl
    rw [oX]
    refine spliced_cons (own_elem hC (and_l ho) G.S k1 fun ys σ₄ us nn p₂ h₃ O k2 => ?_)
    refine Nxt.if_ k2 fun hs k2 => ?_
    obtain ⟨S₃, A₃⟩ := O.g.S.step hC.toCxOk O.F' O.kk p₂.s.toks
    refine simple_list hC es' xs'.tail (p₂.to h₃ p₂.s.toks) (fun oo => Nxt C 1 (FlowIs C) p₂ Q E (oo.bind fun ds' σ₅ => finTO ks k ks' ds ys ds' σ₅)) _ hs (and_r ho) S₃ id k2 fun ds' vs' tk rs hl' k3 => ?_
    refine newTuple_N (s := { p₂.s with heap := h₃, toks := tk }) O.F' (maxN_news C.g C.env.locals h₃) (fun h₄ F₄ N₄ => ?_) (by rw [List.length_append, List.length_cons, G.r.length, (rs h₃).length, sl_is]; omega)
    obtain ⟨q1, q2⟩ := kp_of_cons O.F' F₄ N₄
    have na : p₂.s.heap.objs.size ≠ C.env.locals := fun q => by
      obtain ⟨o', _, _, e, _⟩ := ns_dic O.g.S.co.fr.ns
      exact some_ne e (none_size _) q.symm
    exact g ds ys ds' σ₄ vs us vs' p₂ nn tk _ h₄ O.g.S (G.A.trans O.g.A) (G.r.mono (O.g.A.up (Nat.zero_le _))) O.g.r rs hl hl' F₄ (fun b o n e => q1 b o n (O.kk b o n e)) ⟨_, q2, rfl, _, rfl⟩ (q1 _ _ na O.e) k3
  have fin : ∀ {ts : List (Value → Sem Unit)} {ks₁ ks₂ : List Nat} {ds₁ ds₂ ds ys ds' : List Dat} {vs₁ vs₂ us : List Value} {σ₁ : ASt} {p₁ : Pt} {nn tk : Nat} {h' : Heap}, Tgts C (ks₁ ++ k :: ks₂) ts → ks₁.length = ds₁.length → ks₂.length = ds₂.length → Sim C p₁ σ₁ → RpL (hb C p₁) vs₁ ds₁ → RpL (hb C p₁) vs₂ ds₂ → RpL (hb C p₁) us ys → Fr C.g C.env.locals h' p₁.m → KpL C.env.locals p₁.s.heap h' → h'.get? p₁.s.heap.objs.size = some (listOf us.toArray nn) → Nxt C 1 (FlowIs C) p₁ Q E (finTO ks k ks' ds ys ds' σ₁) →
      (∀ σ₆ σ₇ σ₈ σ₉, putVars ks ds (freeze σ₁) = some σ₆ → putVars ks' ds' σ₆ = some σ₇ → putVars ks₁ ds₁ (freeze σ₁) = some σ₈ → putVars ks₂ ds₂ (putOwn k ys σ₈) = some σ₉ → σ₉ = putOwn k ys σ₇) → wpAny C.M C.A (assignInOrder ts (vs₁ ++ .ref p₁.s.heap.objs.size :: vs₂)) (fun _ => Q .next) E { p₁.s with heap := h', toks := tk } := by
    intro ts ks₁ ks₂ ds₁ ds₂ ds ys ds' vs₁ vs₂ us σ₁ p₁ nn tk h' T q1 q2 S₁ r₁ r₂ r F' K' ea kk same
    obtain ⟨σ₆, σ₇, e1, e2, hk, kk⟩ := fin_inv kk
    obtain ⟨S₂, A₂⟩ := S₁.under (P := [p₁.s.heap.objs.size]) hC.toCxOk F' K' (fun b q => by rw [List.mem_singleton.mp q]; exact none_size _) tk
    obtain ⟨S₃, u₃⟩ := S₂.freeze
    have u : (hb C p₁).StaysIn _ := fun b o e => u₃ b o (A₂.up (Nat.zero_le _) b o e)
    obtain ⟨n1, n2, n3⟩ := new_out S₁ (Nat.le_refl _)
    refine store_mid (s := { p₁.s with heap := h', toks := tk }) (m := p₁.m) (oa := []) (xa := p₁.xa) (us := us.toArray) hC T q1 q2 S₃ (r₁.mono u) (r₂.mono u) ⟨ea, r.mono u, new_hE hC S₁ (Nat.le_refl _), n1, n2, n3⟩ (by rw [freeze_len]; exact hk) fun σ₈ σ₉ p' e3 e4 S' A' => ?_
    cases same σ₆ σ₇ σ₈ σ₉ e1 e2 e3 e4
    have A0 : Aftr C 1 p₁ ⟨{ p₁.s with heap := hideAll h' [p₁.s.heap.objs.size], toks := tk }, p₁.m, [], p₁.xa⟩ := ⟨rfl, .inl ⟨rfl, rfl⟩, fun _ => u, fun q => nomatch q⟩
    exact kk .next p' ⟨A0.trans A', S', rfl⟩
  have nd' := List.nodup_append.mp nd
  have nk : k ∉ ks' := (List.nodup_cons.mp nd'.2.1).1
  have nk1 : k ∉ ks := fun q => nd'.2.2 k q k List.mem_cons_self rfl
  rcases sw_cases (C := C) (ks := ks ++ k :: ks') (el := kids (xk st 0)) (k1 := nOf (xk st 0)) (p1 := (xk st 0).pos) (k2 := nOf (xk st 1)) (p2 := (xk st 1).pos) (and_r h5) with hw | hw
  · refine Assign_Tuple (main _ fun ds ys ds' σ₁ vs us vs' p₁ nn tk t h₄ S₁ A₁ r₁ r r₂ ld ld' F₄ K₄ it ea kk => unpackN_ (s := { p₁.s with heap := h₄, toks := tk }) F₄ (maxN_news C.g C.env.locals h₄) it hC.handled (by rw [t3, List.size_toArray, List.length_append, List.length_append, List.length_cons, List.length_cons, r₁.length, (r₂ h₄).length]; omega) t2 fun h' F' N' => ?_) (hs := rfl) (hw := hw)
    have K' := kp_of F₄ F' N'
    refine fin t1 (l1.trans ld.symm) (l2.trans ld'.symm) S₁ r₁ (r₂ _) r F' (fun b o n e => K' b o n (K₄ b o n e)) (K' _ _ (fun q => ?_) ea) kk fun σ₆ σ₇ σ₈ σ₉ e1 e2 e3 e4 => ?_
    · obtain ⟨o', _, _, e, _⟩ := ns_dic S₁.co.fr.ns
      exact some_ne e (none_size _) q.symm
    · cases e1.symm.trans e3
      rw [putOwn_vars _ _ _ nk ((putVars_own e1).1 (freeze_own _)), e2] at e4
      exact (Option.some.inj e4).symm
  · refine Assign_Tuple_swapped (main _ fun ds ys ds' σ₁ vs us vs' p₁ nn tk t h₄ S₁ A₁ r₁ r r₂ ld ld' F₄ K₄ it ea kk => unpackItemsN_ (s := { p₁.s with heap := h₄, toks := tk }) F₄ (maxN_news C.g C.env.locals h₄) it hC.handled (by rw [List.length_map, List.size_toArray, List.length_append, List.length_append, List.length_cons, List.length_cons, r₁.length, (r₂ h₄).length]; omega) fun h' F' N' => ?_) (hs := rfl) (hw := hw)
    have K' := kp_of F₄ F' N'
    have tr := (tgts_bind h1).reverse
    rw [List.reverse_append, List.reverse_cons, List.append_assoc] at tr
    rw [List.map_reverse, show (vs ++ Value.ref p₁.s.heap.objs.size :: vs').toArray.toList.reverse = vs'.reverse ++ Value.ref p₁.s.heap.objs.size :: vs.reverse by simp]
    refine fin (ks₁ := ks'.reverse) (ks₂ := ks.reverse) (ds₁ := ds'.reverse) (ds₂ := ds.reverse) tr (by rw [List.length_reverse, List.length_reverse]; exact l2.trans ld'.symm) (by rw [List.length_reverse, List.length_reverse]; exact l1.trans ld.symm) S₁ (r₂ _).reverse r₁.reverse r F' (fun b o n e => K' b o n (K₄ b o n e)) (K' _ _ (fun q => ?_) ea) kk fun σ₆ σ₇ σ₈ σ₉ e1 e2 e3 e4 => ?_
    · obtain ⟨o', _, _, e, _⟩ := ns_dic S₁.co.fr.ns
      exact some_ne e (none_size _) q.symm
    · have nks : (ks ++ ks').Nodup := List.nodup_append.mpr ⟨nd'.1, (List.nodup_cons.mp nd'.2.1).2, fun a ha b hb => nd'.2.2 a ha b (List.mem_cons_of_mem _ hb)⟩
      have len : (ks ++ ks').length = (ds ++ ds').length := by rw [List.length_append, List.length_append, l1, l2, ld, ld']
      have both := putVars_rev (ks ++ ks') (ds ++ ds') (freeze σ₁) nks len
      rw [putVars_app _ _ _ _ _ (l1.trans ld.symm), e1, Option.bind_some, e2, List.reverse_append, List.reverse_append, putVars_app _ _ _ _ _ (by rw [List.length_reverse, List.length_reverse]; exact l2.trans ld'.symm), e3, Option.bind_some] at both
      rw [putOwn_vars _ _ _ (fun q => nk1 (List.mem_reverse.mp q)) ((putVars_own e3).1 (freeze_own _)), both] at e4
      exact (Option.some.inj e4).symm
end
end Mine

namespace Mine
open PySem PySem.W PySem.Calls PyProof.Rows

section
variable {prog : Program} {w : World} {A : Around} {E : Value → Shared → Prop} {s : Shared} {K : Frag} {x C : Addr} {ox : Obj} {od : Option Obj} {name : Str} {expr : Bool} {Q : Value → Shared → Prop}
theorem bga_kind : builtinKind "BaseException.__getattribute__" = some .slot := by decide +kernel
theorem bga_split : splitId "BaseException.__getattribute__" = some ("BaseException", "__getattribute__") := by decide +kernel
/-- an attribute of an exception's own -/
theorem exc_value {v : Value} (X : K.In s.heap) (I : InstAt s.heap x ox C od) (hga : findIn K (.ref C) "__getattribute__" = some (some (.builtin "BaseException.__getattribute__"))) (hgt : findIn K (.ref C) "__getattr__" = some none)
    (hB : mroIn K C (.type "BaseException") = some true) (hf : findObj K C od name = some (.value v)) (hh : handedIn v = true) (h : Q v { s with toks := s.toks + 1 }) : wpAny (model prog w) A (getAttr (.ref x) name expr) Q E s := by
  obtain ⟨hp, g, d, t, os⟩ := s
  have L0 := I.type (M := model prog w)
  have L1 := looks_findIn (M := model prog w) X hga
  have L2 := looks_findIn (M := model prog w) X hgt
  have L3 := looks_find (M := model prog w) X I hf
  have L4 : Looks (model prog w) hp (isInstance (.ref x) (.type "BaseException")) true := L0.andThen (looks_mroIn X hB)
  have hne : (onTheHeap (Value.ref C) && Value.builtin "BaseException.__getattribute__" == Value.builtin "object.__getattribute__") = false := by
    rw [show (Value.builtin "BaseException.__getattribute__" == Value.builtin "object.__getattribute__") = false by decide +kernel]; rfl
  have hx0 : (expr && onTheHeap (Value.builtin "BaseException.__getattribute__")) = false := by cases expr <;> rfl
  unfold getAttr getAttrBy
  refine wpAny_bind (wpAny_mkText (wpAny_holding (wpAny_bind (L0.at (wpAny_bind (L1.at ?_))))))
  dsimp only
  rw [hne, if_neg (by decide)]
  unfold getAttrByItsOwn hookBefore
  refine wpAny_bind ?_
  show wpAny _ _ (typeLookup (.ref C) "__getattr__") _ _ _
  refine L2.at ?_
  refine wpAny_bind (wpAny_attempt (wpAny_holding ?_))
  unfold callGetattribute
  rw [hx0, if_neg (by decide)]
  unfold boundAndCalled
  rw [PySem.F.excAttr_ValueError.ga.bind (.ref x)]
  refine wpAny_bind (wpAny_pure (wpAny_call ?_))
  refine codeAny_call_builtin PySem.F.excAttr_ValueError.ga.plain PySem.F.entry_bexc_ga (@check_slot (model prog w) _ _ ⟨hp, g, d, t + 1, os⟩ "BaseException.__getattribute__" "BaseException" "__getattribute__" (.ref x) [.str name t] [] _ bga_kind bga_split L4 (PySem.F.args_bexc_ga (.ref x) (.str name t)) ?_)
  refine wpAny_bind (wpAny_pure (wpAny_bind (wpAny_pure (wpAny_bind (L0.at (wpAny_bind (L3.at ?_)))))))
  refine wpAny_pure ?_
  show wpAny _ _ (handedOut v) _ _ _
  rw [handedOut_of hh]; exact wpAny_pure h
end
theorem look_told {de : Obj} {h₁ : Int} {t₁ : Tok} {tv : Value} {n : Nat} (hd : de.data = .dict #[key h₁ "told" t₁ tv] n) : lookIn "told" de = some (some tv) := by
  obtain ⟨c, d, dt, sl⟩ := de
  dsimp only at hd
  subst hd
  rfl
noncomputable def toldD (proj : Bool) (x : Dat) : Option Dat := if proj then (match x with | .tuple (d :: _) => some d | _ => none) else some x
noncomputable def tryR (c j : Nat) (proj : Bool) (x : Exn) (σ₁ : ASt) : Out Fl := if x.cls = c then (match toldD proj x.told with
        | some (.int i) => .ok .next (putVar j (.int i) σ₁)
        | _ => .stuck) else .stuck
section
variable {C : Cx} {rest : List Env} {p : Pt} {σ : ASt} {n : Nat} {st : Stmt} {h' : Heap} {A : Around} {E : Value → Shared → Prop}
/-- a name that is none of the state's turns -/
theorem Sim.aux (hC : CxS C rest) {x : Str} {m' : Str → Option Value} (hsk : x ≠ C.sk) (hx : x ∉ C.names) (S : Sim C p σ) (hm : ∀ y, y ≠ x → m' y = p.m y) (hn : h'.Ns C.env.locals m') (kk : KpL C.env.locals p.s.heap h') (tk : Nat) : Sim C ⟨{ p.s with heap := h', toks := tk }, m', p.oa, p.xa⟩ σ ∧ Aftr C 1 p ⟨{ p.s with heap := h', toks := tk }, m', p.oa, p.xa⟩ := by
  have Z : Sto C p ⟨{ p.s with heap := h', toks := tk }, m', p.oa, p.xa⟩ C.env.locals := sto_loc hC S.co hn kk (hm _ (Ne.symm hsk))
  refine ⟨S.mv hC.toCxOk (.locals kk) hn (fun y hy => hm y fun q => hx (q ▸ hy)) no_mem (fun b q => ((Sto.xg S Z) b q).th) fun u => Sto.st S Z S.st u, Z.aft rfl (Z.up rfl)⟩
theorem ExcAt.same {e : Addr} {x : Exn} {fl : Option Value} {h : Heap} {m : Str → Option Value} (hC : CxS C rest) (K : Core C h m) (X : ExcAt C.G C.F C.g e x fl h) (kk : KpL C.env.locals h h') : ExcAt C.G C.F C.g e x fl h' :=
  X.keep (fun b o vs e' d => kk b o (K.nL e' fun es k z => by rw [d] at z; cases z) e') (fun b o nF e' => kk b o (fun q => nF (q ▸ hC.ownF)) e') fun b o vs n e' d => kk b o (K.nL e' fun es k z => by rw [d] at z; cases z) e'
theorem told_ok (hC : CxS C rest) {x : Exn} (hx : x.cls < 3) {e : Addr} {fl : Option Value} {proj : Bool} {n : Str} {y : Expr} {i : Int} {Q : Value → Shared → Prop} (S : Sim C p σ) (X : ExcAt C.G C.F C.g e x fl p.s.heap) (hn : C.mc.isLocal n = true) (hm : p.m n = some (.ref e)) (hd : toldD proj x.told = some (.int i)) (k : ∀ t tk, Q (.int i t) { p.s with toks := tk }) : wpAny C.M A (eval (toldX proj n y) C.env) Q E p.s := by
  obtain ⟨oe, vs, de, od, h₁, t₁, tv, n', a1, a2, a3, a4, b1, b2, b3, r, c1, c2, c3, tb⟩ := X
  have G := hC.w.xget x.cls hx
  have I : InstAt p.s.heap e oe (C.G.xc x.cls) (some od) := ⟨a1, a2, by unfold notCls; rw [a4], by rw [a3]; exact b1⟩
  have att : ∀ {y : Expr} {P : Value → Shared → Prop}, (∀ tk, P tv { p.s with toks := tk }) → wpAny C.M A (eval (toldE n y) C.env) P E p.s := fun hP =>
    Attribute_name (ld_loc hC.toCxOk S.co hm hn (exc_value (S.inn hC.toCxOk) I G.ga G.gt G.base (findObj_own G.dict G.told rfl (look_told b2)) (handed_rp r) (hP _)))
  cases proj with
  | false =>
    rw [(Option.some.inj hd : x.told = .int i)] at r
    obtain ⟨t, e'⟩ := r.int_inv
    refine att fun tk => ?_
    rw [e']
    exact k _ _
  | true =>
    cases hd' : x.told
    case tuple ds =>
      rw [hd'] at hd r
      cases ds with
      | nil => exact no_some hd
      | cons d ds =>
        cases Option.some.inj hd
        obtain ⟨t, o, ws, n, ev, e1, c, dd, q⟩ := r.isTup
        cases q with
        | @cons v ws _ _ r1 r2 =>
        obtain ⟨t', e2⟩ := r1.int_inv
        subst ev e2
        refine Subscript_ (att fun tk => wpAny_Constant_int ?_)
        refine item_tupleT (j := 0) (isTup_of e1 c dd) (by decide) (by decide) ?_ (x := .int i t') (by simp) (k _ _) (by rfl)
        simp [seqIndex?]
    all_goals (rw [hd'] at hd; exact no_some hd)
theorem aux_of {n : Str} (h : isAux C.mc n = true) : C.mc.isLocal n = true ∧ n ∉ C.names ∧ n ≠ C.sk := by
  refine ⟨?_, fun q => ?_, fun q => ?_⟩
  · unfold MC.isLocal
    rw [and_l (and_l (and_l h)), and_r h]
    rfl
  · have := (Bool.not_eq_true' _).mp (and_r (and_l (and_l h)))
    have this : C.names.contains n = false := this
    rw [List.contains_iff_mem.mpr q] at this
    cases this
  · have := (Bool.not_eq_true' _).mp (and_r (and_l h))
    rw [q] at this
    exact absurd this (by rw [show (C.sk == C.mc.sk) = true from beq_self_eq_true _]; exact fun z => nomatch z)
theorem st_try (hC : CxS C rest) (ihs : IhS n) {b : List IS} {cl j : Nat} {proj : Bool} (S : Sim C p σ) (h : (okSL C.mc n b (sb1 st) && Nat.blt cl 3 && C.mc.isGlob (C.mc.xn cl) && isAux C.mc (hN (hdl st)) && isTgt C.mc j) = true) : Snd C 2 (FlowIs C) p (stepS C.O IT (evE C.O 40) (evS C.O IT n) (.tryT b cl j proj) σ) (exec (nrmS C.mc (nrmL C.mc n) (.tryT b cl j proj) st) C.env) := fun Q E k => by
  have h4 := and_l h
  have h3 := and_l h4
  have hcl : cl < 3 := lt_of (and_r (and_l h3))
  have tg := tgt_of (and_r h)
  obtain ⟨x1, x2, x3⟩ := aux_of (and_r h4)
  have K := hC.w.mkx cl hcl
  have k : Nxt C 2 (FlowIs C) p Q E (match evS C.O IT n b σ with | .ok f σ₁ => .ok f σ₁ | .exc x σ₁ => tryR cl j proj x σ₁ | .stuck => .stuck) := k
  refine wpAny_Try_except (ihs C rest hC b _ (and_l (and_l h3)) p σ S _ _ ?_)
  revert k
  cases evS C.O IT n b σ with
  | stuck => exact id
  | ok f σ₁ =>
    intro k fv p' g
    have k := k fv p' ⟨g.A.to (by decide), g.S, g.r⟩
    cases fv with
    | next => exact wpAny_execs_nil k
    | _ => exact k
  | exc y σ₁ =>
    intro k e fl p' g
    have sel : y.cls = cl ∧ ∃ i, toldD proj y.told = some (.int i) ∧ Nxt C 2 (FlowIs C) p Q E (.ok .next (putVar j (.int i) σ₁)) := Nxt.if_ k fun q k => ⟨q, by
      cases hd : toldD proj y.told with
      | none => rw [hd] at k; exact k.elim
      | some d =>
        rw [hd] at k
        cases d
        case int i => exact ⟨i, rfl, k⟩
        all_goals exact k.elim⟩
    obtain ⟨rfl, i, hi, k⟩ := sel
    refine note_ok hC g.S.co (by rw [hC.frames, hC.top]) g.X g.f fun h₁ f₁ X₁ => ?_
    obtain ⟨S₁, A₁⟩ := g.S.flw hC f₁ p'.s.toks
    refine flight_ok (s := { p'.s with heap := h₁ }) S₁.co X₁ fun h₂ f₂ X₂ => ?_
    obtain ⟨S₂, A₂⟩ := S₁.flw hC f₂ p'.s.toks
    refine wpAny_handleBy_cons (codeAny_handlers_test (ld_glob (s := { p'.s with heap := h₂ }) hC.toCxOk S₂.co K.ns (and_r h3) ?_)) (by intro q; cases q)
    have X := X₂
    obtain ⟨oe, vs, de, od, u, t₁, tv, n', a1, a2, a3, a4, _⟩ := X
    obtain ⟨nm', qn, N, bs, bm, hdct, sn, sub, ab, col, dd, k0, k1, k2, k3, k5, newId, hcc, hb⟩ := exc_obj (S₂.inn hC.toCxOk) K.shape
    refine wpAny_excMatches_sub_self hcc a1 a2 hb ?_
    rw [if_pos rfl]
    refine codeAny_handlers_suite_as ?_
    refine flight_ok (s := { p'.s with heap := h₂ }) S₂.co X₂ fun h₃ f₃ X₃ => ?_
    obtain ⟨S₃, A₃⟩ := S₂.flw hC f₃ p'.s.toks
    refine wpAny_storeName_local (s := { p'.s with heap := h₃ }) (isLoc_k x1) S₃.co.fr.ns (fun h₄ hn₄ sb₄ => ?_) (by rw [hC.kind]; rfl)
    obtain ⟨S₄, A₄⟩ := S₃.aux hC x3 x2 (fun y hy => setM_ne (v := .ref e) hy) hn₄ (fun b o n e => (sb₄.2 b n).trans e) (p'.s.toks + 1)
    have X₄ := X₃.same (h' := h₄) hC S₃.co fun b o n e => (sb₄.2 b n).trans e
    refine wpAny_execs_cons (wpAny_Assign_Name (told_ok (p := ⟨{ p'.s with heap := h₄, toks := p'.s.toks + 1 }, _, p'.oa, p'.xa⟩) hC hcl S₄ X₄ x1 setM_self hi fun t tk₅ => ?_) (by cases proj <;> rfl))
    refine store_loc (p := ⟨{ p'.s with heap := h₄, toks := tk₅ }, _, p'.oa, p'.xa⟩) hC tg (S₄.toks tk₅) (.int i t) fun h₆ tk₆ Z => ?_
    obtain ⟨oa₆, _, S₆, A₆⟩ := Z
    refine wpAny_execs_nil (wpAny_nameGoes_keeps (s := { p'.s with heap := h₆, toks := tk₆ }) (isLoc_k x1) S₆.co.fr.ns (by rw [hC.kind]; rfl) fun h₇ v hn₇ sb₇ => ?_)
    obtain ⟨S₇, A₇⟩ := S₆.aux (h' := h₇) hC x3 x2 (fun y hy => by simp [hy]) hn₇ (fun b o n e => (sb₇.2 b n).trans e) (tk₆ + 1)
    exact k .next _ ⟨(((((g.A.trans A₁).trans A₂).trans A₃).trans (A₄.to (by decide))).trans (Aftr.toks tk₅)).trans ((A₆.to (by decide)).trans (A₇.to (by decide))), S₇, rfl⟩

theorem step_st (hC : CxS C rest) (ihs : IhS n) (i : IS) (h : okSt C.mc (okSL C.mc n) i st = true) (S : Sim C p σ) : SndS C p (stepS C.O IT (evE C.O 40) (evS C.O IT n) i σ) (nrmS C.mc (nrmL C.mc n) i st) := by
  cases i with
  | expr e => exact st_expr hC S h
  | app k e => exact st_app hC S h
  | ext k e => exact st_ext hC S h
  | ret e => exact st_ret hC S h
  | retN => exact st_retN S
  | retOwn k => exact st_retOwn hC S h
  | asg k e => exact st_asg hC S h
  | asgC k e => exact st_asgC hC S h
  | asgNil k => exact st_asgNil hC S h
  | asgCall k f args => exact st_asgCall hC S h
  | asgU ks e => exact st_asgU hC S h
  | asgT ks es => exact st_asgT hC S h
  | asgTO ks es k o ks' es' => exact st_asgTO hC S h
  | aug k op e => exact st_aug hC S h
  | augAt e => exact st_augAt hC S h
  | setMixed e => exact st_setMixed hC S h
  | ite t a b => exact st_ite hC ihs S h
  | whl t b => exact st_whl hC ihs S h
  | forL k src b => exact st_forL hC ihs S h
  | forR k lo hi b => exact st_forR hC ihs S h
  | brk => exact st_brk S
  | raise cl e => exact st_raise hC S h
  | tryT b cl j proj => exact nomatch h
  | mkRdr e => exact st_mkRdr hC S h
  | mkDeck f e => exact st_mkDeck hC S h
  | dead => exact nomatch h
theorem Snd.lift {α β : Type} {R : Pt → α → β → Prop} {o : Out β} {t : Sem α} (h : Snd C 1 R p o t) : Snd C 2 R p o t := fun Q E k => h Q E (match o, k with
  | .ok _ _, k => fun v p' g => k v p' ⟨g.A.to (by decide), g.S, g.r⟩
  | .exc _ _, k => k)
theorem body_ok {l : Nat} (hl : l ≤ 2) {one : IS → ASt → Out Fl} {f : IS → Stmt → Stmt} {ok : IS → Stmt → Bool} (h1 : ∀ i st, ok i st = true → ∀ p σ, Sim C p σ → Snd C l (FlowIs C) p (one i σ) (exec (f i st) C.env)) (bs : List IS) : ∀ (ss : List Stmt) (p : Pt) (σ : ASt), okB ok bs ss = true → Sim C p σ → Snd C l (FlowIs C) p (exL one bs σ) (execs (nB f bs ss) C.env) := by
  induction bs with
  | nil => exact fun ss p σ _ S Q E k => wpAny_execs_nil (k.now S rfl)
  | cons b bs ih =>
    intro ss p σ h S Q E k
    refine wpAny_execs_cons ((h1 b _ (and_l h) p σ S).seq (Nat.le_refl _) hl k fun fl σ₁ fv p₁ g k => ?_)
    have F := g.r
    cases fl with
    | next => cases F; exact ih ss.tail p₁ σ₁ (and_r h) g.S Q E k
    | brk => cases F; exact k.now g.S rfl
    | ret d o => obtain ⟨v, rfl, F⟩ := F; exact k.now g.S ⟨v, rfl, F⟩
end
theorem stmts_sound : ∀ n, IhS n
  | 0 => fun _ _ _ _ _ h => nomatch h
  | n + 1 => fun C rest hC bs body h p σ S => body_ok (by decide) (fun i st h p σ S => step_st hC (stmts_sound n) i h S) bs body p σ h S
theorem try_or {c : MC} {n : Nat} {i : IS} {st : Stmt} (h : okTry c n i st = true) : (∃ b cl j proj, i = .tryT b cl j proj) ∨ okSt c (okSL c n) i st = true := by
  cases i with
  | tryT b cl j proj => exact .inl ⟨b, cl, j, proj, rfl⟩
  | _ => exact .inr h
/-- a frame's own top -/
theorem top_sound {C : Cx} {rest : List Env} {p : Pt} {σ : ASt} {n : Nat} (hC : CxS C rest) {bs : List IS} {body : List Stmt} (h : okT C.mc n bs body = true) (S : Sim C p σ) : Snd C 2 (FlowIs C) p (evS C.O IT (n + 1) bs σ) (execs (nrmL C.mc (n + 1) bs body) C.env) :=
  body_ok (by decide) (fun i st h p σ S => by
    rcases try_or h with ⟨b, cl, j, proj, rfl⟩ | h'
    · exact st_try hC (stmts_sound n) S h
    · exact (step_st hC (stmts_sound n) i h' S).lift) bs body p σ h S
end Mine

namespace Mine
open PySem PySem.W PySem.Calls PyProof.Rows

noncomputable def bindsOf (ps : List Str) (fd : FuncData) (g : Nat → Value) : Sem (List (Str × Value)) := bindArgs fd ⟨(List.range ps.length).map g, []⟩
noncomputable def bindsAs (ps : List Str) (g : Nat → Value) : Sem (List (Str × Value)) := pure (ps.zip ((List.range ps.length).map g))
theorem vals_get {vals : List Value} {n : Nat} (h : n = vals.length) : (List.range n).map (fun i => vals.getD i .none) = vals := by
  subst h
  refine List.ext_getElem (by rw [List.length_map, List.length_range]) fun i h1 h2 => ?_
  rw [List.getElem_map, List.getElem_range, List.getD_eq_getElem?_getD, List.getElem?_eq_getElem h2]
  rfl
theorem binds_at {ps : List Str} {fd : FuncData} (h : bindsOf ps fd = bindsAs ps) {vals : List Value} (hl : ps.length = vals.length) : bindArgs fd ⟨vals, []⟩ = pure (ps.zip vals) := by
  have q : bindArgs fd ⟨(List.range ps.length).map (fun i => vals.getD i .none), []⟩ = pure (ps.zip ((List.range ps.length).map (fun i => vals.getD i .none))) := congrFun h _
  rwa [vals_get hl] at q

noncomputable def cellsOf (cells : List (Str × Addr)) : List Addr := cells.filterMap fun p => cells.lookup p.1
theorem lookup_mem {α β : Type} [BEq α] [LawfulBEq α] : ∀ {l : List (α × β)} {x : α} {y : β}, l.lookup x = some y → (x, y) ∈ l
  | (a, b) :: l, x, y, h => by
    rw [List.lookup_cons] at h
    split at h
    · rename_i q
      have := eq_of_beq q
      cases h; subst this; simp
    · exact List.mem_cons_of_mem _ (lookup_mem h)
theorem cellsOf_mem {cells : List (Str × Addr)} {y : Str} {c : Addr} (h : cells.lookup y = some c) : c ∈ cellsOf cells := List.mem_filterMap.mpr ⟨(y, c), lookup_mem h, h⟩
theorem of_cellsOf {cells : List (Str × Addr)} {c : Addr} (h : c ∈ cellsOf cells) : ∃ y, cells.lookup y = some c := by
  obtain ⟨p, _, e⟩ := List.mem_filterMap.mp h
  exact ⟨p.1, e⟩
theorem cellsFrom_acc : ∀ (names : List (Str × NameKind)) (n : Nat) (acc : List (Str × Addr)) (y : Str), (acc.lookup y).isSome → ((cellsFrom n names acc).lookup y).isSome
  | [], _, _, _, h => h
  | (x, k) :: r, n, acc, y, h => by
    unfold cellsFrom
    split
    · refine cellsFrom_acc r _ _ y ?_
      rw [List.lookup_cons]
      split
      · rfl
      · exact h
    · exact cellsFrom_acc r _ _ y h
theorem cellsFrom_has : ∀ (names : List (Str × NameKind)) (n : Nat) (acc : List (Str × Addr)) (y : Str), (y, NameKind.cell) ∈ names → ((cellsFrom n names acc).lookup y).isSome
  | [], _, _, _, h => nomatch h
  | (x, k) :: r, n, acc, y, h => by
    unfold cellsFrom
    rcases List.mem_cons.mp h with h | h
    · cases h
      simp only [beq_self_eq_true, if_true]
      exact cellsFrom_acc r _ _ _ (by rw [List.lookup_cons]; simp)
    · split <;> exact cellsFrom_has r _ _ y h

theorem bindL_off {k : Str → Option NameKind} {x : Str} : ∀ {bs : List (Str × Value)} {m : Str → Option Value}, x ∉ bs.map (·.1) → bindL k bs m x = m x
  | [], _, _ => rfl
  | (n, v) :: r, m, h => by
    unfold bindL
    rw [bindL_off fun q => h (by simp [q])]
    split
    · have : x ≠ n := fun q => h (by simp [q])
      simp [this]
    · rfl
theorem bindC_off {k : Str → Option NameKind} {x : Str} : ∀ {bs : List (Str × Value)} {m : Str → Option Value}, x ∉ bs.map (·.1) → bindC k bs m x = m x
  | [], _, _ => rfl
  | (n, v) :: r, m, h => by
    unfold bindC
    rw [bindC_off fun q => h (by simp [q])]
    split
    · rfl
    · have : x ≠ n := fun q => h (by simp [q])
      simp [this]
theorem bind_at {k : Str → Option NameKind} {x : Str} {v : Value} : ∀ {bs : List (Str × Value)} {m : Str → Option Value}, (bs.map (·.1)).Nodup → (x, v) ∈ bs → (k x = some .local → bindL k bs m x = some v) ∧ (k x ≠ some .local → bindC k bs m x = some v)
  | (n, w) :: r, m, hn, h => by
    have hn' := List.nodup_cons.mp hn
    rcases List.mem_cons.mp h with h | h
    · cases h
      refine ⟨fun q => ?_, fun q => ?_⟩
      · unfold bindL; rw [bindL_off hn'.1, if_pos q]; simp
      · unfold bindC; rw [bindC_off hn'.1, if_neg q]; simp
    · unfold bindL bindC
      exact ⟨(bind_at hn'.2 h).1, (bind_at hn'.2 h).2⟩


theorem apart_inj : ∀ {cs : List (Str × Addr)}, cs.Pairwise (fun x y => x.2 ≠ y.2) → ∀ {x y : Str} {c : Addr}, (x, c) ∈ cs → (y, c) ∈ cs → x = y
  | [], _, _, _, _, h, _ => nomatch h
  | a :: cs, P, x, y, c, h1, h2 => by
    obtain ⟨p1, p2⟩ := List.pairwise_cons.mp P
    rcases List.mem_cons.mp h1 with h3 | h3
    · rcases List.mem_cons.mp h2 with h4 | h4
      · exact (Prod.mk.inj (h3.trans h4.symm)).1
      · exact (p1 (y, c) h4 (by rw [← h3])).elim
    · rcases List.mem_cons.mp h2 with h4 | h4
      · exact (p1 (x, c) h3 (by rw [← h4])).elim
      · exact apart_inj p2 h3 h4
noncomputable def mcOf (G : Gl) (fs : FS) (sc : Scope) (lim : Nat) : MC := ⟨fs.names, sc, fs.sk, lim, G.fn, G.isM, G.isS, G.gn, G.xn, G.frsh, G.dk⟩
noncomputable def fdOk (G : Gl) (fd : FuncData) (fs : FS) : Bool :=
  fd.closure.isEmpty && fd.globals == mainGlobals && fd.builtins == builtinsNs && fd.scope.kind == .function && !fd.scope.isGenerator && !fd.scope.isCoroutine && codeIn G.K fd.code fd.qualname &&
  decide fs.params.Nodup && decide fs.names.Nodup && !(fs.names.contains fs.sk) && (fs.params.all fun x => fd.scope.names.lookup x == some .local || fd.scope.names.lookup x == some .cell) && (!fs.st || fd.scope.names.lookup fs.sk == some .local) && decide (fs.np ≤ fs.names.length)
structure FdFacts (G : Gl) (fd : FuncData) (fs : FS) : Prop where
  clo : fd.closure = []
  glob : fd.globals = mainGlobals
  blt : fd.builtins = builtinsNs
  kind : fd.scope.kind = .function
  gen : fd.scope.isGenerator = false
  co : fd.scope.isCoroutine = false
  code : codeIn G.K fd.code fd.qualname = true
  binds : ∀ vals : List Value, fs.params.length = vals.length → bindArgs fd ⟨vals, []⟩ = pure (fs.params.zip vals)
  pnd : fs.params.Nodup
  nd : fs.names.Nodup
  skN : fs.sk ∉ fs.names
  kinds : ∀ x ∈ fs.params, fd.scope.names.lookup x = some .local ∨ fd.scope.names.lookup x = some .cell
  skL : fs.st = true → fd.scope.names.lookup fs.sk = some .local
  np : fs.np ≤ fs.names.length
theorem fd_facts {G : Gl} {fd : FuncData} {fs : FS} (h : fdOk G fd fs = true) (hb : bindsOf fs.params fd = bindsAs fs.params) : FdFacts G fd fs := by
  have h18 := and_l h
  have h17 := and_l h18
  have h16 := and_l h17
  have h15 := and_l h16
  have h14 := and_l h15
  have h7 := and_l h14
  have h6 := and_l h7
  have h5 := and_l h6
  have h4 := and_l h5
  have h3 := and_l h4
  have h2 := and_l h3
  refine ⟨List.isEmpty_iff.mp (and_l h2), eq_of_beq (and_r h2), eq_of_beq (and_r h3), eq_of_beq (and_r h4), (Bool.not_eq_true' _).mp (and_r h5), (Bool.not_eq_true' _).mp (and_r h6), and_r h7, fun vals hl => binds_at hb hl, of_decide_eq_true (and_r h14), of_decide_eq_true (and_r h15), fun q => ?_, fun x hx => ?_, fun q => ?_, of_decide_eq_true (and_r h)⟩
  · have := (Bool.not_eq_true' _).mp (and_r h16)
    rw [List.contains_iff_mem.mpr q] at this
    cases this
  · exact (Bool.or_eq_true_iff.mp (List.all_eq_true.mp (and_r h17) x hx)).imp eq_of_beq eq_of_beq
  · rcases Bool.or_eq_true_iff.mp (and_r h18) with z | z
    · rw [q] at z; cases z
    · exact eq_of_beq z
noncomputable def fdAt (K : Frag) (fa : Addr) : Option FuncData := match K.lookup fa with
  | some ⟨_, _, .func fd, _⟩ => some fd
  | _ => none
noncomputable def bodyOf (fd : FuncData) : List Stmt := match fd.body with
  | .stmts b => b
  | _ => []
noncomputable def isSt (fd : FuncData) : Bool := match fd.body with
  | .stmts _ => true
  | _ => false
/-- a function of the text is the one that is written -/
noncomputable def entryB (G : Gl) (fa : Addr) (fs : FS) (lim : Nat) : Bool := match fdAt G.K fa with
  | some fd => isSt fd && fdOk G fd fs && okT (mcOf G fs fd.scope lim) 30 fs.body (bodyOf fd)
  | none => false
noncomputable abbrev Entry (G : Gl) (fa : Addr) (fs : FS) (lim : Nat) : Prop := (entryB G fa fs lim, (fdAt G.K fa).map fun fd => (bodyOf fd, bindsOf fs.params fd)) = (true, (fdAt G.K fa).map fun fd => (nrmL (mcOf G fs fd.scope lim) 31 fs.body (bodyOf fd), bindsAs fs.params))
inductive IsFd (K : Frag) (fa : Addr) (fd : FuncData) (b : List Stmt) : Prop
  | mk (oc : Value) (od : Option Addr) (osl : Array (Option Value)) (e : K.lookup fa = some ⟨oc, od, .func fd, osl⟩) (hb : fd.body = .stmts b)
theorem isFd {K : Frag} {fa : Addr} {fd : FuncData} (h : fdAt K fa = some fd) (hs : isSt fd = true) : IsFd K fa fd (bodyOf fd) := by
  have hb : fd.body = .stmts (bodyOf fd) := by
    unfold isSt at hs
    unfold bodyOf
    cases e : fd.body
    case stmts b => rfl
    all_goals (rw [e] at hs; cases hs)
  unfold fdAt at h
  cases e : K.lookup fa with
  | none => rw [e] at h; cases h
  | some o =>
    rw [e] at h
    obtain ⟨c, d, dt, sl⟩ := o
    cases dt
    case func fd' => cases Option.some.inj h; exact ⟨c, d, sl, e, hb⟩
    all_goals cases h
theorem entry_at {G : Gl} {fa : Addr} {fs : FS} {lim : Nat} (he : Entry G fa fs lim) : ∃ fd, IsFd G.K fa fd (nrmL (mcOf G fs fd.scope lim) 31 fs.body (bodyOf fd)) ∧ FdFacts G fd fs ∧ okT (mcOf G fs fd.scope lim) 30 fs.body (bodyOf fd) = true := by
  obtain ⟨h1, h2⟩ := Prod.mk.inj he
  unfold entryB at h1
  cases e : fdAt G.K fa with
  | none => rw [e] at h1; cases h1
  | some fd =>
    rw [e] at h1 h2
    have F := isFd e (and_l (and_l h1))
    obtain ⟨h3, h4⟩ := Prod.mk.inj (Option.some.inj h2)
    rw [h3] at F
    exact ⟨fd, F, fd_facts (and_r (and_l h1)) h4, and_r h1⟩

noncomputable abbrev enEnv (fd : FuncData) (s : Shared) (fa : Addr) : Env := callEnvC fd s.heap.objs.size fa
noncomputable def enCx (G : Gl) (O : Orc) (A : Around) (fd : FuncData) (fa : Addr) (outer : List Env) (F X Y : List Addr) (fs : FS) (lim : Nat) (s : Shared) : Cx :=
  { G, O, A := A.deeper (enEnv fd s fa), env := enEnv fd s fa, outer := enEnv fd s fa :: outer, F := s.heap.objs.size :: F, names := fs.names, sk := fs.sk, lim,
    g := hideAll s.heap (X ++ F), gk := hideAll s.heap (Y ++ (X ++ F)), hE := s.heap, cs := cellsOf (enEnv fd s fa).cells ++ Y.filter (fun b => decide (b ∉ X)) }
section
variable {G : Gl} {O : Orc} {lim : Nat} {A : Around} {fd : FuncData} {fa : Addr} {outer : List Env} {F X Y : List Addr} {fs : FS} {s s₁ : Shared} {m cm : Str → Option Value}
theorem en_cs {b : Addr} : b ∈ (enCx G O A fd fa outer F X Y fs lim s).cs ↔ (∃ y, (enEnv fd s fa).cells.lookup y = some b) ∨ (b ∈ Y ∧ b ∉ X) := by
  show b ∈ cellsOf _ ++ _ ↔ _
  rw [List.mem_append, List.mem_filter]
  exact or_congr ⟨of_cellsOf, fun ⟨y, e⟩ => cellsOf_mem e⟩ (and_congr Iff.rfl ⟨of_decide_eq_true, fun q => decide_eq_true q⟩)
theorem en_H {b : Addr} : b ∈ (enCx G O A fd fa outer F X Y fs lim s).H ↔ b = s.heap.objs.size ∨ b ∈ F ∨ (∃ y, (enEnv fd s fa).cells.lookup y = some b) ∨ (b ∈ Y ∧ b ∉ X) := by
  rw [mem_H, en_cs]
  show b = s.heap.objs.size ∨ b ∈ s.heap.objs.size :: F ∨ _ ↔ _
  rw [List.mem_cons]
  exact ⟨fun q => q.elim .inl fun q => q.elim (fun q => q.elim .inl fun q => .inr (.inl q)) fun q => .inr (.inr q), fun q => q.elim .inl fun q => q.elim (fun q => .inr (.inl (.inr q))) fun q => .inr (.inr q)⟩
/-- the frame's context -/
theorem en_ok (W : World0 G O lim) (D : FdFacts G fd fs) (P : Pre G A F X Y outer s (lim + 1)) (I : InCallC s s.heap.objs.size m (enEnv fd s fa).cells cm s₁) : CxS (enCx G O A fd fa outer F X Y fs lim s) outer := by
  have cellNew : ∀ y c, (enEnv fd s fa).cells.lookup y = some c → s.heap.objs.size < c := fun y c e => I.above y c (lookup_mem e)
  have top : ∀ (l : List Addr) (b : Addr), s.heap.objs.size ≤ b → (hideAll s.heap l).get? b = none := fun l b hb => Heap.get?_none_of_le (by rw [hideAll_size]; exact hb)
  exact {
    kind := D.kind
    glob := D.glob
    bns := D.blt
    gl := P.gl
    gkg := hid_sub fun b q => List.mem_append_right _ q
    nodup := D.nd
    frames := Around.frames_deeper P.ch.frames
    handled := P.ch.handled
    there := fun env he => (List.mem_cons.mp he).elim (fun q => q ▸ ⟨by show fd.scope.kind ≠ _; rw [D.kind]; decide, _, List.mem_cons_self, rfl⟩) fun he => let ⟨a, L, b, c⟩ := P.ch.there env he; ⟨a, L, List.mem_cons_of_mem _ b, c⟩
    hid := fun b hb => by
      rcases en_H.mp hb with rfl | q | ⟨y, e⟩ | q
      · exact top _ _ (Nat.le_refl _)
      · exact hideAll_none _ (List.mem_append_right _ (List.mem_append_right _ q))
      · exact top _ _ (Nat.le_of_lt (cellNew y b e))
      · exact hideAll_none _ (List.mem_append_left _ q.1)
    csL := fun c hc => by
      rcases en_cs.mp hc with ⟨y, e⟩ | q
      · exact Nat.ne_of_gt (cellNew y c e)
      · obtain ⟨o, e⟩ := P.y c q.1
        exact Nat.ne_of_lt (Heap.lt_size e)
    cells := fun y hy => by
      obtain ⟨c, e⟩ := Option.isSome_iff_exists.mp (cellsFrom_has fd.scope.names (s.heap.objs.size + 1) [] y (lookup_mem hy))
      exact ⟨c, en_cs.mpr (.inl ⟨y, e⟩), e⟩
    inj := fun x y c h1 h2 => apart_inj I.apart (lookup_mem h1) (lookup_mem h2)
    gF := fun b hb => by
      rcases List.mem_cons.mp hb with rfl | hb
      · exact top _ _ (Nat.le_refl _)
      · exact hideAll_none _ (List.mem_append_right _ hb)
    newL := none_size _
    room := ⟨by show A.depth + 1 + lim + 3 < 900; have := P.rm.1; omega, by show A.units + 3 + 4 * lim + 300 < cLine; have := P.rm.2; omega⟩
    w := W
    top := rfl
    frm := rfl
    ownF := List.mem_cons_self
    skN := D.skN
    hEL := Nat.le_refl _
    gc := fun y c e => top _ _ (Nat.le_of_lt (cellNew y c e)) }
/-- what the object that is changed in place is at the start -/
noncomputable def StartSt (G : Gl) (F X Y : List Addr) (fs : FS) (s : Shared) (ovs : List Value) : Option St → Prop
  | none => ovs = [] ∧ X = [] ∧ fs.st = false
  | some st => fs.st = true ∧ X ≠ [] ∧ ∃ o, ovs = [.ref o] ∧ StAt G (hideAll s.heap (Y ++ (X ++ F))) s.heap X o st
theorem params_len {ovs vs : List Value} {st : Option St} (D : FdFacts G fd fs) (hst : StartSt G F X Y fs s ovs st) (hv : vs.length = fs.np) : fs.params.length = (ovs ++ vs).length ∧ ∀ (k : Nat) x v, (fs.names.take fs.np)[k]? = some x → vs[k]? = some v → (x, v) ∈ fs.params.zip (ovs ++ vs) := by
  have tkl : (fs.names.take fs.np).length = fs.np := by rw [List.length_take]; exact Nat.min_eq_left D.np
  cases st with
  | none =>
    obtain ⟨rfl, _, h0⟩ := hst
    have p : fs.params = fs.names.take fs.np := by unfold FS.params; rw [h0]; rfl
    rw [p]
    exact ⟨tkl.trans hv.symm, fun k x v h1 h2 => List.mem_of_getElem? (i := k) (List.getElem?_zip_eq_some.mpr ⟨h1, h2⟩)⟩
  | some st =>
    obtain ⟨h0, _, o, rfl, _⟩ := hst
    have p : fs.params = fs.sk :: fs.names.take fs.np := by unfold FS.params; rw [h0]; rfl
    rw [p]
    exact ⟨congrArg Nat.succ (tkl.trans hv.symm), fun k x v h1 h2 => List.mem_cons_of_mem _ (List.mem_of_getElem? (i := k) (List.getElem?_zip_eq_some.mpr ⟨h1, h2⟩))⟩
theorem sk_at {o : Addr} {vs : List Value} (D : FdFacts G fd fs) (h0 : fs.st = true) (hl : fs.params.length = ([Value.ref o] ++ vs).length) : bindL (enEnv fd s fa).kindOf (fs.params.zip ([.ref o] ++ vs)) (fun _ => none) fs.sk = some (.ref o) := by
  have p : fs.params = fs.sk :: fs.names.take fs.np := by unfold FS.params; rw [h0]; rfl
  have mem : (fs.sk, Value.ref o) ∈ fs.params.zip ([.ref o] ++ vs) := by rw [p]; exact List.mem_cons_self
  exact (bind_at (k := (enEnv fd s fa).kindOf) (m := fun _ => none) (by rw [List.map_fst_zip (Nat.le_of_eq hl)]; exact D.pnd) mem).1 (D.skL h0)
/-- the state at the frame's start -/
theorem en_sim {ovs vs : List Value} {ds : List Dat} {st : Option St} (W : World0 G O lim) (D : FdFacts G fd fs) (P : Pre G A F X Y outer s (lim + 1)) (I : InCallC s s.heap.objs.size (bindL (enEnv fd s fa).kindOf (fs.params.zip (ovs ++ vs)) fun _ => none) (enEnv fd s fa).cells (bindC (enEnv fd s fa).kindOf (fs.params.zip (ovs ++ vs)) fun _ => none) s₁)
    (hv : vs.length = fs.np) (r : RpL (hideAll s.heap (Y ++ (X ++ F))) vs ds) (hst : StartSt G F X Y fs s ovs st) : Sim (enCx G O A fd fa outer F X Y fs lim s) ⟨s₁, bindL (enEnv fd s fa).kindOf (fs.params.zip (ovs ++ vs)) fun _ => none, [], X⟩ ⟨ds.map some ++ List.replicate (fs.names.length - fs.np) none, none, st⟩ := by
  have keep := I.toInCall.keep
  obtain ⟨hl, hzip⟩ := params_len (s := s) D hst hv
  have cellNew : ∀ y c, (enEnv fd s fa).cells.lookup y = some c → s.heap.objs.size < c := fun y c e => I.above y c (lookup_mem e)
  have nH : ∀ b o, s.heap.get? b = some o → b ∉ Y ++ (X ++ F) → b ∉ (enCx G O A fd fa outer F X Y fs lim s).H := fun b o e n q => by
    have lt := Heap.lt_size e
    rcases en_H.mp q with rfl | q | ⟨y, e⟩ | q
    · exact Nat.lt_irrefl _ lt
    · exact n (List.mem_append_right _ (List.mem_append_right _ q))
    · exact Nat.lt_irrefl _ (Nat.lt_trans lt (cellNew y b e))
    · exact n (List.mem_append_left _ q.1)
  have up : (hideAll s.heap (Y ++ (X ++ F))).StaysIn (hideAll s₁.heap ((enCx G O A fd fa outer F X Y fs lim s).H ++ ([] ++ X))) := fun b o e => by
    obtain ⟨n, e⟩ := hid_mem e
    exact hid_to (fun q => (List.mem_append.mp q).elim (nH b o e n) fun q => n (List.mem_append_right _ (List.mem_append_left _ q))) (keep b o e)
  refine ⟨⟨⟨I.toInCall.ns, fun b o e => keep b o (of_hideAll _ e), by show (hideAll s.heap (X ++ F)).objs.size ≤ _; rw [hideAll_size]; exact Nat.le_refl _⟩, fun L hL => ?_, fun L hL o e => ⟨o.slots, keep _ _ e⟩, fun c hc => ?_, fun y c hk hy => ?_⟩, fun k d e => ?_, rfl, ?_, fun b hb => ?_⟩
  · rcases List.mem_cons.mp hL with rfl | hL
    · exact ns_dic I.toInCall.ns
    · obtain ⟨o, es, n, e, d⟩ := P.ch.objs L hL
      exact ⟨o, es, n, keep _ _ e, d⟩
  · rcases en_cs.mp hc with ⟨y, e⟩ | q
    · obtain ⟨o, e', _⟩ := I.cell y c e
      exact ⟨o, e'⟩
    · obtain ⟨o, e⟩ := P.y c q.1
      exact ⟨o, keep _ _ e⟩
  · obtain ⟨o, e, d⟩ := I.cell y c hy
    exact ⟨o, _, e, d⟩
  · have hds : ds.length = fs.np := r.length.symm.trans hv
    have hk : k < ds.length := by
      by_cases hk : k < ds.length
      · exact hk
      · have e : (ds.map some ++ List.replicate (fs.names.length - fs.np) none)[k]? = some (some d) := e
        rw [List.getElem?_append_right (by rw [List.length_map]; exact Nat.not_lt.mp hk), List.getElem?_replicate] at e
        split at e <;> cases e
    have e : (ds.map some ++ List.replicate (fs.names.length - fs.np) none)[k]? = some (some d) := e
    rw [List.getElem?_append_left (by rw [List.length_map]; exact hk), List.getElem?_map] at e
    obtain ⟨d', e, q⟩ := Option.map_eq_some_iff.mp e
    cases q
    obtain ⟨v, hv1, hv2⟩ := r.get e
    have hkn : k < fs.names.length := Nat.lt_of_lt_of_le (hds ▸ hk) D.np
    have hx : fs.names[k]? = some (fs.names[k]) := List.getElem?_eq_getElem hkn
    have mem := hzip k fs.names[k] v (by rw [List.getElem?_take, if_pos (hds ▸ hk), hx]) hv1
    have bmap : (fs.params.zip (ovs ++ vs)).map (·.1) = fs.params := List.map_fst_zip (Nat.le_of_eq hl)
    have at_ := bind_at (k := (enEnv fd s fa).kindOf) (m := fun _ => none) (by rw [bmap]; exact D.pnd) mem
    have inP : fs.names[k] ∈ fs.params := by
      have := List.mem_map_of_mem (f := (·.1)) mem
      rwa [bmap] at this
    refine ⟨v, ?_, hv2.mono up⟩
    rcases D.kinds _ inP with q | q
    · exact .loc _ hx q (at_.1 q)
    · obtain ⟨c, ec⟩ := Option.isSome_iff_exists.mp (cellsFrom_has fd.scope.names (s.heap.objs.size + 1) [] _ (lookup_mem q))
      obtain ⟨o, e1, e2⟩ := I.cell _ c ec
      exact .cell _ c o hx q ec (en_cs.mpr (.inl ⟨_, ec⟩)) e1 (by rw [e2, at_.2 (by show ¬ fd.scope.names.lookup _ = _; rw [q]; decide)])
  · cases st with
    | none => exact hst.2.1
    | some st =>
      obtain ⟨h0, hne, o, rfl, x⟩ := hst
      exact ⟨o, hne, sk_at D h0 hl, D.skL h0, x.mv (.of up) (fun b _ ob e _ => keep b ob e) fun ob e _ => keep o ob e⟩
  · obtain ⟨o, e⟩ := P.x b hb
    refine ⟨hideAll_none _ (List.mem_append_left _ hb), fun q => ?_, o, keep b o e⟩
    have lt := Heap.lt_size e
    rcases en_H.mp q with rfl | q | ⟨y, e⟩ | q
    · exact Nat.lt_irrefl _ lt
    · exact P.xF b hb q
    · exact Nat.lt_irrefl _ (Nat.lt_trans lt (cellNew y b e))
    · exact q.2 hb
end
end Mine

namespace Mine
open PySem PySem.W PySem.Calls PyProof.Rows

structure Ended (C : Cx) (ovs : List Value) (X : List Addr) (s : Shared) (σ' : ASt) (p' : Pt) : Prop where
  S : Sim C p' σ'
  s : p'.s = { s with heap := p'.s.heap, toks := p'.s.toks }
  st : (p'.xa = X ∧ ∀ o, ovs = [.ref o] → p'.m C.sk = some (.ref o)) ∨ X = []
section
variable {G : Gl} {O O' : Orc} {lim : Nat} {A : Around} {fd : FuncData} {fa : Addr} {outer : List Env} {F X Y : List Addr} {fs : FS} {s : Shared} {ovs : List Value} {σ' : ASt} {p' : Pt}
/-- a call runs the body -/
theorem enter (W : World0 G O lim) (he : Entry G fa fs lim) (P : Pre G A F X Y outer s (lim + 1)) {vs : List Value} {ds : List Dat} {st : Option St} (hds : ds.length = fs.np) (r : RpL (hideAll s.heap (Y ++ (X ++ F))) vs ds) (hst : StartSt G F X Y fs s ovs st) (ns : runFn O fs st ds ≠ .stuck) {R : Result → Shared → Prop}
    (kQ : ∀ fd f σ' fv p', runFn O fs st ds = .ok f σ' → Ended (enCx G O A fd fa outer F X Y fs lim s) ovs X s σ' p' → FlowIs (enCx G O A fd fa outer F X Y fs lim s) p' fv f → R (.ok (.ret (match fv with | .ret v => v | _ => .none))) p'.s)
    (kE : ∀ fd x σ' e p', runFn O fs st ds = .exc x σ' → Ended (enCx G O A fd fa outer F X Y fs lim s) ovs X s σ' p' → ExcAt G (s.heap.objs.size :: F) (hideAll s.heap (X ++ F)) e x (some .none) p'.s.heap → R (.error (.ref e)) p'.s) :
    codeAny (model G.prog G.w) A (.call (.ref fa) ⟨ovs ++ vs, []⟩) R s := by
  obtain ⟨fd, ⟨oc, od, osl, hl, hb⟩, D, hm⟩ := entry_at he
  have inn : G.K.In s.heap := P.gl.inn.keeps hid_le
  have hv : vs.length = fs.np := r.length.trans hds
  obtain ⟨hpl, _⟩ := params_len (s := s) D hst hv
  have rl : A.depth < recursionLimit := by have := P.rm.1; have : recursionLimit = 1000 := rfl; omega
  refine codeAny_call_cells rl (inn _ _ hl) rfl (P.gl.top.nolimit.keeps hid_le) (codeRec_of inn D.code) hb (D.binds _ hpl) D.clo (fun x hx => ?_) (fun s₁ I => ?_) D.co D.gen D.kind
  · exact (D.kinds _ (List.of_mem_zip (a := x.1) (b := x.2) hx).1).imp id fun q => ⟨q, cellsFrom_has _ _ _ _ (lookup_mem q)⟩
  · have hC := en_ok (fa := fa) (fs := fs) W D P I
    have S := en_sim W D P I hv r hst
    have hrun : runFn O fs st ds = evS O IT 31 fs.body ⟨ds.map some ++ List.replicate (fs.names.length - fs.np) none, none, st⟩ := if_pos hds
    obtain ⟨h₁, tk₁, rfl, _⟩ := I.done
    have fin : ∀ {p' σ'}, Aftr (enCx G O A fd fa outer F X Y fs lim s) 2 ⟨{ s with heap := h₁, toks := tk₁ }, bindL (enEnv fd s fa).kindOf (fs.params.zip (ovs ++ vs)) fun _ => none, [], X⟩ p' → Sim (enCx G O A fd fa outer F X Y fs lim s) p' σ' → Ended (enCx G O A fd fa outer F X Y fs lim s) ovs X s σ' p' := fun a b => ⟨b, a.s, a.st.imp (fun q => ⟨q.1, fun o ho => q.2.trans (by
      subst ho
      cases st with
      | none => cases hst.1
      | some st => exact sk_at D hst.1 hpl)⟩) id⟩
    refine top_sound (n := 30) hC hm S _ _ ?_
    show Nxt _ _ _ _ _ _ (evS O IT 31 fs.body _)
    rw [← hrun]
    cases eo : runFn O fs st ds with
    | stuck => exact absurd eo ns
    | ok f σ' => exact fun fv p' g => kQ fd f σ' fv p' eo (fin g.A g.S) g.r
    | exc x σ' =>
      intro e fl p' g
      show wpAny _ _ (leaving _ (.ref e)) _ _ p'.s
      unfold leaving
      refine wpAny_bind (note_ok hC g.S.co (Around.frames_deeper P.ch.frames) g.X g.f fun h₂ f₂ X₂ => ?_)
      obtain ⟨S₂, A₂⟩ := g.S.flw hC f₂ p'.s.toks
      refine flight_ok (s := { p'.s with heap := h₂ }) (fr := none) S₂.co X₂ fun h₃ f₃ X₃ => ?_
      obtain ⟨S₃, A₃⟩ := S₂.flw hC f₃ p'.s.toks
      exact kE fd x σ' e _ eo (fin ((g.A.trans A₂).trans A₃) S₃) X₃
theorem exit_kf (S : Sim (enCx G O A fd fa outer F X Y fs lim s) p' σ') : Kf X F s.heap p'.s.heap :=
  ⟨fun b o nX nF e => S.co.fr.keep b o (hid_to (fun q => (List.mem_append.mp q).elim nX nF) e), fun L hL o e => S.co.out L (List.mem_cons_of_mem _ hL) o e⟩
theorem exit_hb (hx : ∀ b ∈ X, b ∈ p'.xa) : (hb (enCx G O A fd fa outer F X Y fs lim s) p').StaysIn (hideAll p'.s.heap (Y ++ (X ++ F))) := hid_sub fun b q => by
  by_cases z : b ∈ X
  · exact Mine.hX b (hx b z)
  · refine hH b (en_H.mpr ?_)
    rcases List.mem_append.mp q with q | q
    · exact .inr (.inr (.inr ⟨q, z⟩))
    · exact .inr (.inl ((List.mem_append.mp q).resolve_left z))
theorem run_len {st : Option St} {ds : List Dat} (h : runFn O fs st ds ≠ .stuck) : ds.length = fs.np := by
  by_cases q : ds.length = fs.np
  · exact q
  · exact absurd (if_neg q) h
/-- a list of one's own is given back -/
theorem ret_own (P : Pre G A F X Y outer s (lim + 1)) (hx : ∀ b ∈ X, b ∈ p'.xa) {v : Value} {d : Dat} (Z : OwnR (enCx G O A fd fa outer F X Y fs lim s) p' v d) : Rp (hideAll p'.s.heap (Y ++ (X ++ F))) v d ∧ ∀ o st xs, p'.xa = X → d = .list xs → StAt G (hb (enCx G O A fd fa outer F X Y fs lim s) p') p'.s.heap X o st → FrAt G X F Y s o st p'.s.heap v xs := by
  obtain ⟨a, vs, n, xs, rfl, rfl, eo, L⟩ := Z
  have le : s.heap.objs.size ≤ a := L.hE
  have na : a ∉ Y ++ (X ++ F) := fun q => by
    rcases List.mem_append.mp q with q | q
    · obtain ⟨o, e⟩ := P.y a q
      exact Nat.not_lt.mpr le (Heap.lt_size e)
    · rcases List.mem_append.mp q with q | q
      · exact L.nx (hx a q)
      · obtain ⟨o, _, _, e, _⟩ := P.ch.objs a q
        exact Nat.not_lt.mpr le (Heap.lt_size e)
  refine ⟨.list (vs := vs.toList) (n := n) (by rw [toL]; exact hid_to na L.e) (L.r.mono (exit_hb hx)), fun o st ys hX hy sa => ?_⟩
  cases hy
  have up : (hb (enCx G O A fd fa outer F X Y fs lim s) p').StaysIn (hideAll p'.s.heap (a :: (Y ++ (X ++ F)))) := fun b ob e => by
    obtain ⟨n1, e1⟩ := hid_mem (exit_hb hx b ob e)
    refine hid_to (fun q => (List.mem_cons.mp q).elim (fun q => ?_) n1) e1
    exact (hid_mem e).1 (hO b (by rw [eo]; exact List.mem_singleton.mpr q))
  exact ⟨a, n, vs, rfl, le, L.e, L.r.mono up, sa.mono up⟩
theorem pure_ok {id : Nat} (W : World0 G O id) (hq : nsIn G.K mainGlobals (G.fn id) = some (some (.ref fa))) (hk : keepIn G.K (.ref fa) = true) (he : Entry G fa fs id) (hs : fs.st = false) (hO : ∀ ds, O'.p id ds = outP (runFn O fs none ds)) : PureAt G O' id fa := by
  refine ⟨hq, hk, fun A F Y outer s vs ds P r => ?_⟩
  rw [hO]
  have base := fun ns => @enter G O id A fa outer F [] Y fs s [] W he P vs ds none (run_len ns) r ⟨rfl, rfl, hs⟩ ns
  cases eo : runFn O fs none ds with
  | stuck => trivial
  | exc x σ' =>
    refine base (by rw [eo]; exact fun q => nomatch q) (fun fd f σ₁ fv p' e => by rw [eo] at e; cases e) (fun fd x' σ₁ e p' q Z X => ?_)
    cases eo.symm.trans q
    exact ⟨e, _, _, rfl, Z.s, exit_kf Z.S, X.base (fun _ q => q) fun _ q => List.mem_cons_of_mem _ q, no_mem⟩
  | ok f σ' =>
    have ns : runFn O fs none ds ≠ .stuck := by rw [eo]; exact fun q => nomatch q
    cases f with
    | brk => trivial
    | next =>
      refine base ns (fun fd f σ₁ fv p' e Z F' => ?_) (fun fd x σ₁ e p' q => by rw [eo] at q; cases q)
      cases eo.symm.trans e
      cases F'
      exact ⟨.none, _, _, rfl, Z.s, exit_kf Z.S, .none, trivial⟩
    | ret d own =>
      refine base ns (fun fd f σ₁ fv p' e Z F' => ?_) (fun fd x σ₁ e p' q => by rw [eo] at q; cases q)
      cases eo.symm.trans e
      obtain ⟨v, rfl, F'⟩ := F'
      cases own with
      | false => exact ⟨v, _, _, rfl, Z.s, exit_kf Z.S, Rp.mono (exit_hb no_mem) F', trivial⟩
      | true => exact ⟨v, _, _, rfl, Z.s, exit_kf Z.S, (ret_own P no_mem F').1, trivial⟩
inductive OutQ (frsh : Bool) (f : Fl) (σ : ASt) (d : Dat) (st : St) : Prop
  | next (ef : f = .next) (ed : d = .none) (es : σ.st = some st) (hf : frsh = false)
  | ret (own : Bool) (ef : f = .ret d own) (es : σ.st = some st) (hf : frsh = true → own = true)
theorem outQ_inv {frsh : Bool} {f : Fl} {σ : ASt} {d : Dat} {st : St} (h : outQ frsh (.ok f σ) = .ok d st) : OutQ frsh f σ d st := by
  obtain ⟨a, b, c⟩ := σ
  cases f with
  | brk => cases h
  | next =>
    cases c with
    | none => cases h
    | some c => cases frsh <;> cases h; exact .next rfl rfl rfl rfl
  | ret d' own =>
    cases c with
    | none => cases h
    | some c =>
      have h : (if (frsh && !own) = true then ResS.stuck else .ok d' c) = .ok d st := h
      by_cases q : (frsh && !own) = true
      · rw [if_pos q] at h; cases h
      · rw [if_neg q] at h
        cases h
        refine .ret own rfl rfl fun e => ?_
        rw [e] at q
        cases own
        · exact absurd rfl q
        · rfl
theorem outQ_exc {frsh : Bool} {f : Fl} {σ : ASt} {x : Exn} (h : outQ frsh (.ok f σ) = .exc x) : False := by
  obtain ⟨a, b, c⟩ := σ
  cases f with
  | brk => cases h
  | next =>
    cases c with
    | none => cases h
    | some c => cases frsh <;> cases h
  | ret d' own =>
    cases c with
    | none => cases h
    | some c =>
      have h : (if (frsh && !own) = true then ResS.stuck else .ok d' c) = .exc x := h
      by_cases q : (frsh && !own) = true
      · rw [if_pos q] at h; cases h
      · rw [if_neg q] at h; cases h
theorem state_ok {id : Nat} (W : World0 G O id) (hm : G.isM id = true → MethAt G id fa) (hn : G.isM id = false → nsIn G.K mainGlobals (G.fn id) = some (some (.ref fa))) (hk : keepIn G.K (.ref fa) = true) (he : Entry G fa fs id) (hs : fs.st = true) (hO : ∀ st ds, O'.s id st ds = outS' (G.frsh id) O fs st ds) : StateAt G O' id fa := by
  refine ⟨hm, hn, hk, fun A F X Y outer s o st vs ds P hst r => ?_⟩
  rw [hO]
  have main : st ≠ .gone → StateGo G A F X Y s fa o vs (G.frsh id) (outQ (G.frsh id) (runFn O fs (some st) ds)) := by
    intro hne
    have hX0 := hst.ne hne
    have base := fun ns => @enter G O id A fa outer F X Y fs s [.ref o] W he P vs ds (some st) (run_len ns) r ⟨hs, hX0, o, rfl, hst⟩ ns
    cases eo : runFn O fs (some st) ds with
    | stuck => trivial
    | exc x σ' =>
      refine base (by rw [eo]; exact fun q => nomatch q) (fun fd f σ₁ fv p' e => by rw [eo] at e; cases e) (fun fd x' σ₁ e p' q Z XX => ?_)
      cases eo.symm.trans q
      obtain ⟨ex, _⟩ := Z.st.resolve_right hX0
      exact ⟨e, _, _, rfl, Z.s, exit_kf Z.S, XX.base (fun _ q => q) fun _ q => List.mem_cons_of_mem _ q, fun b q => (Z.S.xg b (ex ▸ q)).th⟩
    | ok f σ' =>
      cases e2 : outQ (G.frsh id) (.ok f σ') with
      | stuck => trivial
      | exc x => exact (outQ_exc e2).elim
      | ok d st' =>
        have I := outQ_inv e2
        refine base (by rw [eo]; exact fun q => nomatch q) (fun fd f' σ₁ fv p' e Z F' => ?_) (fun fd x σ₁ e p' q => by rw [eo] at q; cases q)
        cases eo.symm.trans e
        obtain ⟨ex, hsk⟩ := Z.st.resolve_right hX0
        have hxx : ∀ b ∈ X, b ∈ p'.xa := fun b q => ex ▸ q
        have th : There X p'.s.heap := fun b q => (Z.S.xg b (hxx b q)).th
        have stx : σ'.st = some st' → StAt G (hb (enCx G O A fd fa outer F X Y fs id s) p') p'.s.heap X o st' := fun e => by
          have := Z.S.st
          rw [e] at this
          obtain ⟨o', ne, h1, _, sa⟩ := this
          cases (hsk o rfl).symm.trans h1
          rw [ex] at sa
          exact sa
        cases I with
        | next ef ed es hf =>
          subst ef ed
          cases F'
          exact ⟨.none, _, _, rfl, Z.s, exit_kf Z.S, .none, th, (stx es).mono (exit_hb hxx), fun q => by rw [hf] at q; cases q⟩
        | ret own ef es hf =>
          subst ef
          obtain ⟨v, rfl, F'⟩ := F'
          cases own with
          | false => exact ⟨v, _, _, rfl, Z.s, exit_kf Z.S, Rp.mono (exit_hb hxx) F', th, (stx es).mono (exit_hb hxx), fun q => nomatch hf q⟩
          | true =>
            obtain ⟨r1, r2⟩ := ret_own P hxx F'
            exact ⟨v, _, _, rfl, Z.s, exit_kf Z.S, r1, th, (stx es).mono (exit_hb hxx), fun _ xs hd => r2 o st' xs ex hd (stx es)⟩
  unfold outS'
  cases st with
  | gone => trivial
  | rdr T i => exact main fun q => nomatch q
  | deck c m => exact main fun q => nomatch q
end
end Mine

namespace Mine
open PySem PySem.W PySem.Calls PyProof.Rows

/-! the reader is made -/
noncomputable def setE (sf attr : Str) (v : Expr) (st : Stmt) : Stmt := .Assign [.Attribute (.Name sf (kid (xk st 0) 0).pos) attr (xk st 0).pos] v st.pos
noncomputable def rdrN (b : List Stmt) : List Stmt := [setE "self" "text" (.Name "text" (xk (b.headD default) 1).pos) (b.headD default), setE "self" "at" (.Constant (.int 0) (nOf (xk (b.tail.headD default) 1)) (xk (b.tail.headD default) 1).pos) (b.tail.headD default)]
noncomputable def rdrFS : FS := ⟨["text"], 1, "self", true, []⟩
noncomputable def rdrB (G : Gl) (fI : Addr) : Bool := match fdAt G.K fI with
  | some fd => isSt fd && fdOk G fd rdrFS && fd.scope.names.lookup ("text" : Str) == some .local
  | none => false
noncomputable abbrev RdrEntry (G : Gl) (fI : Addr) : Prop := (rdrB G fI, (fdAt G.K fI).map fun fd => (bodyOf fd, bindsOf rdrFS.params fd)) = (true, (fdAt G.K fI).map fun fd => (rdrN (bodyOf fd), bindsAs rdrFS.params))
section
variable {G : Gl}
theorem rdr_at {fI : Addr} (he : RdrEntry G fI) : ∃ fd, IsFd G.K fI fd (rdrN (bodyOf fd)) ∧ FdFacts G fd rdrFS ∧ fd.scope.names.lookup ("text" : Str) = some .local := by
  obtain ⟨h1, h2⟩ := Prod.mk.inj he
  unfold rdrB at h1
  cases e : fdAt G.K fI with
  | none => rw [e] at h1; cases h1
  | some fd =>
    rw [e] at h1 h2
    have F := isFd e (and_l (and_l h1))
    obtain ⟨h3, h4⟩ := Prod.mk.inj (Option.some.inj h2)
    rw [h3] at F
    exact ⟨fd, F, fd_facts (and_r (and_l h1)) h4, eq_of_beq (and_r h1)⟩
theorem rdr_ok {fI : Addr} (hn : nsIn G.K mainGlobals "RuleReader" = some (some (.ref G.rC))) (hk : keepIn G.K (.ref G.rC) = true) (hm : makesIn G.K G.rC = true) (hi : findIn G.K (.ref G.rC) "__init__" = some (some (.ref fI))) (hf : typeIn G.K (.ref fI) = some (.type "function")) (he : RdrEntry G fI) (hd : hasDictIn G.K G.rC = true)
    (hs : RdrSet G) (ht : takerIn G.K G.rC "text" = some none) : MakesAt G "RuleReader" G.rC fun d => some (.rdr d 0) := by
  obtain ⟨fd, ⟨oc, od, osl, hl, hb⟩, D, hlt⟩ := rdr_at he
  suffices go : ∀ d, MakesSt G G.rC d (.rdr d 0) from ⟨hn, hk, fun d st q => by cases Option.some.inj q; exact ⟨(fun q => nomatch q), go d⟩⟩
  intro d A F Y outer s v P r
  have inn : G.K.In s.heap := P.gl.inn.keeps hid_le
  have hlim : s.heap.NoLimit := P.gl.top.nolimit.keeps hid_le
  have rm := P.rm
  have objs := P.ch.objs
  clear P
  obtain ⟨h, g, dd, tk, os⟩ := s
  dsimp only at objs r inn hlim ⊢
  refine make_core (makes_of inn hm) (looks_findIn inn hi) (fun self => bind_fn inn self hf) (.inl rfl) ?_
  have k0 : ∀ b o, h.get? b = some o → ((h.push emptyDict).push (instObj G.rC h.objs.size)).get? b = some o := fun b o e => Heap.get?_push_of_some _ (Heap.get?_push_of_some _ e)
  have ex : ((h.push emptyDict).push (instObj G.rC h.objs.size)).get? (h.objs.size + 1) = some (instObj G.rC h.objs.size) := by heap_get
  have ed : ((h.push emptyDict).push (instObj G.rC h.objs.size)).get? h.objs.size = some emptyDict := by heap_get
  have sz : ((h.push emptyDict).push (instObj G.rC h.objs.size)).objs.size = h.objs.size + 2 := by rw [Heap.size_push, Heap.size_push]
  generalize (h.push emptyDict).push (instObj G.rC h.objs.size) = H at k0 ex ed sz ⊢
  have rl : A.depth + 1 < recursionLimit := by have := rm.1; have : recursionLimit = 1000 := rfl; omega
  refine codeAny_call_cells (s := ⟨H, g, dd, tk, os⟩) (by rw [depth_under_kw]; exact rl) (k0 _ _ (inn _ _ hl)) rfl (hlim.keeps k0) (codeRec_of (inn.keeps k0) D.code) hb (D.binds [.ref (h.objs.size + 1), v] rfl) D.clo (fun x hx => ?_) (fun s₁ I => ?_) D.co D.gen D.kind
  · exact (D.kinds _ (List.of_mem_zip (a := x.1) (b := x.2) hx).1).imp id fun q => ⟨q, cellsFrom_has _ _ _ _ (lookup_mem q)⟩
  have hsf : fd.scope.names.lookup ("self" : Str) = some .local := D.skL rfl
  have hm1 : bindL (callEnvC fd H.objs.size fI).kindOf (rdrFS.params.zip [.ref (h.objs.size + 1), v]) (fun _ => none) "self" = some (.ref (h.objs.size + 1)) :=
    (bind_at (k := (callEnvC fd H.objs.size fI).kindOf) (bs := rdrFS.params.zip [.ref (h.objs.size + 1), v]) (m := fun _ => none) D.pnd List.mem_cons_self).1 hsf
  have hm2 : bindL (callEnvC fd H.objs.size fI).kindOf (rdrFS.params.zip [.ref (h.objs.size + 1), v]) (fun _ => none) "text" = some v :=
    (bind_at (k := (callEnvC fd H.objs.size fI).kindOf) (bs := rdrFS.params.zip [.ref (h.objs.size + 1), v]) (m := fun _ => none) D.pnd (List.mem_cons_of_mem _ List.mem_cons_self)).1 hlt
  revert hm1 hm2 I
  generalize bindL (callEnvC fd H.objs.size fI).kindOf (rdrFS.params.zip [.ref (h.objs.size + 1), v]) (fun _ => none) = m
  intro I hm1 hm2
  obtain ⟨h₁, tk₁, rfl, kp⟩ := I.done
  have ns := I.toInCall.ns
  have F0 : Fr h H.objs.size h₁ m := ⟨ns, fun b o e => kp b o (k0 b o e), by rw [sz]; omega⟩
  have gx : h.get? (h.objs.size + 1) = none := Heap.get?_none_of_le (Nat.le_succ _)
  have gd : h.get? h.objs.size = none := none_size _
  have N0 : News h H.objs.size h₁ [(h.objs.size + 1, instObj G.rC h.objs.size), (h.objs.size, dictOf [] 0)] := fun p hp => by
    rcases List.mem_cons.mp hp with rfl | hp
    · exact ⟨kp _ _ ex, fun q => by have q : h.objs.size + 1 = H.objs.size := q; omega, gx⟩
    · rw [List.mem_singleton.mp hp]
      exact ⟨kp _ _ ed, fun q => by have q : h.objs.size = H.objs.size := q; omega, gd⟩
  have envk : (callEnvC fd H.objs.size fI).scope.kind = .function := D.kind
  refine wpAny_execs_cons (plainObj_wpAny_Assign_Attribute (wpAny_Name (wpAny_loadName_local envk hlt ns hm2 (wpAny_Name (wpAny_loadName_local envk hsf ns hm1 ?_) rfl)) rfl) rfl)
  refine set_dict (s := ⟨h₁, g, dd, tk₁, os⟩) F0 inn N0 (InstAt.of_news N0 (.head _) (.tail _ (.head _))) rfl hs.set hs.over ht hd rfl rfl (.tail (by simp) (.head (fun _ h => nomatch h))) (show (1 : Nat) ≤ 1000 by decide) fun h₂ F2 N2 => ?_
  refine wpAny_execs_cons (plainObj_wpAny_Assign_Attribute (wpAny_Constant_int (wpAny_Name (wpAny_loadName_local envk hsf F2.ns hm1 ?_) rfl)) rfl)
  refine set_dict (s := ⟨h₂, g, dd, _, os⟩) F2 inn N2 (InstAt.of_news N2 (.head _) (.tail _ (.head _))) rfl hs.set hs.over hs.at_ hd rfl rfl (.tail (by simp) (.head (fun _ h => nomatch h))) (show (2 : Nat) ≤ 1000 by decide) fun h₃ F3 N3 => ?_
  refine wpAny_execs_nil ⟨rfl, h.objs.size + 1, [h.objs.size], h₃, _, rfl, rfl, .of F3.keep, fun b q => (List.mem_singleton.mp q) ▸ gd, fun b q => (List.mem_singleton.mp q) ▸ ⟨_, (N3 _ (.tail _ (.head _))).1⟩, h.objs.size, _, _, _, v, _, _, _, _, rfl, InstAt.of_news N3 (.head _) (.tail _ (.head _)), rfl, rfl, r.mono fun b o e => ?_⟩
  obtain ⟨n, e⟩ := hid_mem e
  exact hid_to (fun q => (List.mem_cons.mp q).elim (fun q => some_ne e gd q) n) (F3.keep _ _ e)
end
end Mine

namespace Mine
open PySem PySem.W PySem.Calls PyProof.Rows

/-! an exception of the program's own, whose class has an __init__ -/
noncomputable def excTail : List Value → Bool
  | .ref _ :: r => excTail r
  | l => l == [.type "Exception", .type "BaseException", .type "object"]
theorem excTail_ind {P : List Value → Prop} (h0 : P [.type "Exception", .type "BaseException", .type "object"]) (h1 : ∀ a l, P l → P (.ref a :: l)) : ∀ l, excTail l = true → P l
  | [], h => by cases h
  | v :: r, h => by
    cases v with
    | ref a => exact h1 a r (excTail_ind h0 h1 r h)
    | _ => rw [beq_iff_eq.mp (show (_ :: r == [.type "Exception", .type "BaseException", .type "object"]) = true from h)]; exact h0
theorem tail_has {x : String} {b : Bool} (hb : ([.type "Exception", .type "BaseException", .type "object"] : List Value).contains (.type x) = b) (l : List Value) (h : excTail l = true) : l.contains (.type x) = b :=
  excTail_ind (P := fun l => l.contains (.type x) = b) hb (fun a l h => by rw [List.contains_cons, h]; rfl) l h
theorem tail_refuse (self : Value) (l : List Value) (h : excTail l = true) : refuseLoop self "__setattr__" l = pure () :=
  excTail_ind (P := fun l => refuseLoop self "__setattr__" l = pure ()) (PySem.F.store_Exception.passes self) (fun a l h => by rw [refuseLoop_ref]; exact h) l h

structure ExcCls (K : Frag) (C : Addr) (cd : ClassData) (bm : List Value) : Prop where
  cls : clsIn K C = some cd
  mro : cd.mro = .ref C :: bm
  tail : excTail bm = true
  dict : cd.hasDict = true
  obj : ∃ nm q N bs hdct sn sub ab col dd k0 k1 k2 k3 k5, K.lookup C = some (excClassObj nm q C N bs bm hdct sn sub ab col dd k0 k1 k2 k3 k5 "Exception.__new__")
noncomputable def excIn (K : Frag) (C : Addr) : Bool := excTail (cdAt K C).mro.tail && (cdAt K C).hasDict
theorem excIn_inv {K : Frag} {C : Addr} (e : K.lookup C = some (exAt K C)) (q : excIn K C = true) : ∃ cd bm, ExcCls K C cd bm :=
  ⟨{ cdAt K C with mro := .ref C :: (cdAt K C).mro.tail, hasDel := false }, _, by unfold clsIn; rw [e]; rfl, rfl, and_l q, and_r q, _, _, _, _, _, _, _, _, _, _, _, _, _, _, _, e⟩

section
variable {prog : Program} {w : World} {A : Around} {E : Value → Shared → Prop} {R : Result → Shared → Prop} {h : Heap} {g : Array GenState} {d : Drawn} {t : Nat} {os : OsState} {K : Frag} {cd : ClassData}
variable {nm q : Str} {C N : Addr} {bs bm : List Value} {hdct : Bool} {sn : List Str} {sub : List Value} {ab : Bool} {col : Option Bool} {dd : Option Addr} {k0 k1 k2 k3 k5 : Option Value}

theorem exc_check_new {M : Model} {v : Value} {Q : Unit → Shared → Prop} (ht : excTail bm = true) (hC : h.get? C = some (excClassObj nm q C N bs bm hdct sn sub ab col dd k0 k1 k2 k3 k5 "Exception.__new__"))
    (hq : Q () ⟨h, g, d, t, os⟩) : wpAny M A (checkBuiltinCall "Exception.__new__" ⟨[.ref C, v], []⟩) Q E ⟨h, g, d, t, os⟩ := by
  have F := PySem.F.excBase_Exception
  have hcont : (Value.ref C :: bm).contains (.type "Exception") = true := by rw [List.contains_cons, tail_has F.hasB _ ht, Bool.or_true]
  have hstar := F.noStar
  simp only [checkBuiltinCall, F.newKind, F.newSplit, F.newRow]
  repeat (first | refine wpAny_loadPart_at hC ?_ | (refine wpAny_isSubtype_exc hC ?_; rw [hcont]) | refine wpAny_staticBase_exc hC ?_ | refine wpAny_madeBy_exc hC ?_ | simp only [bne_self_eq_false, Bool.false_eq_true, if_false] | wp_step)
  exact hq

theorem exc_new {v : Value} (ht : excTail bm = true) (hC : h.get? C = some (excClassObj nm q C N bs bm hdct sn sub ab col dd k0 k1 k2 k3 k5 "Exception.__new__"))
    (hq : R (.ok (.ret (.ref (h.objs.size + 1)))) ⟨(h.push { cls := .type "tuple", data := .seq #[v] }).push { cls := .ref C, data := .fields #[.ref h.objs.size, .none, .none, .none, .bool false, .none] }, g, d, t, os⟩) :
    codeAny (model prog w) A (.builtin "Exception.__new__" ⟨[.ref C, v], []⟩) R ⟨h, g, d, t, os⟩ := by
  have F := PySem.F.excBase_Exception
  have hrest : [v].length ≤ sizeLine := by rw [sizeLine_eq]; exact (show (1 : Nat) ≤ 16777216 by decide)
  have hends := F.ends
  have hcB : (Value.ref C :: bm).contains (.type "Exception") = true := by rw [List.contains_cons, tail_has F.hasB _ ht, Bool.or_true]
  have hcA : (Value.ref C :: bm).contains (.type "AttributeError") = false := by rw [List.contains_cons, tail_has F.noAttr _ ht]; rfl
  have hcN : (Value.ref C :: bm).contains (.type "NameError") = false := by rw [List.contains_cons, tail_has F.noName _ ht]; rfl
  refine codeAny_builtinAt F.entry ?_
  unfold Builtin.«BaseException.__new__»
  refine PySem.wpAt_bind ?_
  show PySem.wpAt _ _ _ (stack >>= _) _ _ _
  refine PySem.wpAt_bind (PySem.wpAt_stack fun p below => PySem.wpAt_of_wpAny ?_)
  wp_walk
  refine PySem.wpAt_of_wpAny ?_
  rw [F.owner]
  repeat (first | with_reducible refine wpAny_madeHere_exc F.canon hC ?_ | with_reducible refine wpAny_loadPart_at hC ?_ | (with_reducible refine wpAny_isSubtype_exc hC ?_; first | rw [hcB] | rw [hcA] | rw [hcN]) | wp_step)
  show R _ _
  rw [Heap.size_push]
  exact hq

theorem exc_call {v : Value} {fI : Addr} (X : K.In h) (c : ExcCls K C cd bm) (hcall : specialIn K (.ref C) "__call__" = some (some (.builtin "type.__call__"))) (htyp : instIn K (.ref C) (.type "type") = some true)
    (hi : findIn K (.ref C) "__init__" = some (some (.ref fI))) (hf : typeIn K (.ref fI) = some (.type "function"))
    (hq : codeAny (model prog w) (A.under (.builtin "type.__call__" ⟨[.ref C, v], []⟩)) (.call (.ref fI) ⟨[.ref (h.objs.size + 1), v], []⟩) (InitBack (h.objs.size + 1) R)
      ⟨(h.push { cls := .type "tuple", data := .seq #[v] }).push { cls := .ref C, data := .fields #[.ref h.objs.size, .none, .none, .none, .bool false, .none] }, g, d, t, os⟩) :
    codeAny (model prog w) A (.call (.ref C) ⟨[v], []⟩) R ⟨h, g, d, t, os⟩ := by
  have F := PySem.F.excBase_Exception
  obtain ⟨nm, q, N, bs, hdct, sn, sub, ab, col, dd, k0, k1, k2, k3, k5, hC⟩ := c.obj
  have hC := X _ _ hC
  have call : Looks (model prog w) h _ _ := looks_specialIn X hcall
  have typ : Looks (model prog w) h _ _ := looks_instIn X htyp
  have init : Looks (model prog w) h _ _ := looks_findIn X hi
  refine codeAny_of_tree ?_
  show wpAny _ _ (callAny (.ref C) _) _ _ _
  refine nd_load hC ?_
  show wpAny _ _ (callAny.viaDunder (.ref C) _) _ _ _
  unfold callAny.viaDunder
  refine wpAny_bind (call.at ?_)
  dsimp only
  rw [tc_bind]
  refine wpAny_bind (wpAny_pure (wpAny_bind (wpAny_pure ?_)))
  refine wpAny_pure (a := Fin.again (.call (.builtin "type.__call__") ⟨[.ref C, v], []⟩)) (And.intro rfl ?_)
  refine codeAny_call_builtin_at (Code.quiet_builtin _ (by decide +kernel)) entry_typeCall (check_slot tc_kind tc_split typ (tc_args _ _ _) ?_)
  repeat (first | with_reducible refine wpAny_loadPart_at hC ?_ | with_reducible refine wpAny_madeBy_exc hC ?_ | wp_step)
  refine codeAny_call_builtin_code (Code.quiet_builtin _ F.quiet) (exc_check_new c.tail hC ?_)
  refine exc_new c.tail hC ?_
  show wpAny _ _ _ _ _ _
  have k : ∀ b o, h.get? b = some o → ((h.push { cls := .type "tuple", data := .seq #[v] }).push { cls := .ref C, data := .fields #[.ref h.objs.size, .none, .none, .none, .bool false, .none] }).get? b = some o := fun b o e => Heap.get?_push_of_some _ (Heap.get?_push_of_some _ e)
  have hC₁ := k _ _ hC
  have hget : ((h.push { cls := .type "tuple", data := .seq #[v] }).push { cls := .ref C, data := .fields #[.ref h.objs.size, .none, .none, .none, .bool false, .none] }).get? (h.objs.size + 1) = some
      { cls := .ref C, data := .fields #[.ref h.objs.size, .none, .none, .none, .bool false, .none] } := by heap_get
  have hcC : (Value.ref C :: bm).contains (.ref C) = true := by simp
  unfold isInstance
  repeat (first | with_reducible refine wpAny_loadPart_at hget ?_ | (with_reducible refine wpAny_isSubtype_exc hC₁ ?_; rw [hcC]) | wp_step)
  show wpAny _ _ (typeLookup (.ref C) _) _ _ _
  refine (init.keeps k).at ?_
  refine wpAny_holding (wpAny_bind ((bind_fn (X.keeps k) (.ref (h.objs.size + 1)) hf).at ?_))
  refine wpAny_bind (wpAny_call ?_)
  refine codeAny_mono hq fun r s' z => ?_
  rcases r with e | (v | _ | _ | _) <;> first | exact z | exact z.elim | skip
  obtain ⟨rfl, z⟩ := z
  wp_walk
  exact z
end

section
open Builtin Builtin.ObjectAttr
section
variable {prog : Program} {w : World} {A : Around} {E : Value → Shared → Prop} {R : Result → Shared → Prop} {h : Heap} {g : Array GenState} {d : Drawn} {t : Nat} {os : OsState} {K : Frag} {cd : ClassData} {C x : Addr} {bm : List Value} {v : Value} {vs : Array Value} {name : Str}

/-- the first attribute of an exception's own -/
theorem exc_osa {tk : Tok} (X : K.In h) (c : ExcCls K C cd bm) (ht : takerIn K C name = some none) (hx : h.get? x = some ⟨.ref C, none, .fields vs, #[]⟩)
    (hq : ∀ h' dx hsh n, h'.get? x = some ⟨.ref C, some dx, .fields vs, #[]⟩ → h'.get? dx = some (dictOf [⟨hsh, .str name t, v⟩] n) → h.get? dx = none → (∀ b o, b ≠ x → h.get? b = some o → h'.get? b = some o) → R (.ok (.ret .none)) ⟨h', g, d, t + 1, os⟩) :
    codeAny (model prog w) A (.call (.builtin "object.__setattr__") ⟨[.ref x, .str name tk, v], []⟩) R ⟨h, g, d, t, os⟩ := by
  have SF := PySem.F.store_object
  have ne : cd.mro.isEmpty = false := by rw [c.mro]; rfl
  have I : InstAt h x ⟨.ref C, none, .fields vs, #[]⟩ C none := ⟨hx, rfl, rfl, trivial⟩
  have T : Looks (model prog w) h (typeOf (.ref x)) (.ref C) := I.type
  have sub : Looks (model prog w) h (isInstance (.ref x) (.type "object")) true := T.andThen (looks_mroIn X (by
    unfold mroIn; rw [c.cls, Option.bind_some, if_neg (by rw [ne]; decide), c.mro, List.contains_cons, tail_has (x := "object") (b := true) (by decide +kernel) _ c.tail, Bool.or_true]))
  refine codeAny_call_builtin SF.slot.plain SF.entry (@check_slot (model prog w) _ _ ⟨h, g, d, t, os⟩ "object.__setattr__" "object" "__setattr__" (.ref x) [.str name tk, v] [] _ SF.kind SF.split sub (SF.args (.ref x) (.str name tk) v) ?_)
  obtain ⟨attr, ha, hr⟩ := Option.bind_eq_some_iff.mp ht
  have hm : Looks (model prog w) h (mroOf (.ref C)) cd.mro := (looks_clsIn X c.cls).andThen .now
  have L3 : Looks (model prog w) h (storeTaker? attr) none := by
    cases attr with
    | none => exact .now
    | some a =>
      obtain ⟨b, hb, hb'⟩ := Option.map_eq_some_iff.mp hr
      refine (looks_takesIn X hb).andThen ?_
      cases b
      · exact .now
      · cases hb'
  rw [osa_eq, refuse_eq]
  refine wpAny_bind (wpAny_bind (T.at (wpAny_bind (hm.at ?_))))
  rw [c.mro, refuseLoop_ref, tail_refuse _ _ c.tail]
  refine wpAny_pure (wpAny_bind (T.at (wpAny_bind ((looks_findIn X ha).at (wpAny_bind (L3.at ?_))))))
  refine wpAny_bind (wpAny_pure (wpAny_bind (wpAny_bind (wpAny_loadPart hx (wpAny_bind ((looks_clsIn X c.cls).at ?_))))))
  rw [c.dict]
  have hxs : x ≠ h.objs.size := Nat.ne_of_lt (Heap.lt_size hx)
  refine wpAny_bind (wpAny_alloc' (wpAny_bind (wpAny_update' (Heap.get?_push_of_some _ hx) (wpAny_pure ?_))))
  have e1 := Heap.get?_update_self (fun o : Obj => { o with dict := some h.objs.size }) (Heap.get?_push_of_some { cls := .type "dict", data := .dict #[] } hx) rfl
  have e2 : ((h.push { cls := .type "dict", data := .dict #[] }).update x fun o => { o with dict := some h.objs.size }).get? h.objs.size = some (dictOf [] 0) :=
    (Heap.get?_update_other _ _ hxs).trans (Heap.get?_push_at rfl rfl)
  have k1 : ∀ b o, b ≠ x → h.get? b = some o → ((h.push { cls := .type "dict", data := .dict #[] }).update x fun o => { o with dict := some h.objs.size }).get? b = some o := fun b o n e =>
    (Heap.get?_update_other _ _ (Ne.symm n)).trans (Heap.get?_push_of_some _ e)
  have gd : h.get? h.objs.size = none := Heap.get?_none_of_le (Nat.le_refl _)
  generalize hdx : h.objs.size = dx at e1 e2 k1 gd hxs
  show wpAny _ _ (storeInDict dx (.str name tk) name v) _ _ _
  generalize ((h.push { cls := .type "dict", data := .dict #[] }).update x fun o => { o with dict := some dx }) = H at e1 e2 k1 ⊢
  refine wpAny_bind (wpAny_pure (wpAny_bind ?_))
  unfold nsSet
  refine wpAny_bind (wpAny_bind (wpAny_askSetting (wpAny_pure (wpAny_bind (wpAny_mkText (wpAny_bind (wpAny_loadPart e2 ?_)))))))
  dsimp only
  have e3 := Heap.get?_update_self (Obj.putName name (PyData.keyHash w.params name) (.str name t) v) e2 (by rw [putName_dict]; rfl)
  rw [putName_dict] at e3
  refine wpAny_updatePart e2 ?_
  refine wpAny_bind (wpAny_lookBehind e3 (by exact pastItsLine_dict (by rw [sizeLine_eq]; exact (show (1 : Nat) ≤ 16777216 + 1 by decide))) ?_)
  exact wpAny_pure (hq _ dx _ _ ((Heap.get?_update_other _ _ (Ne.symm hxs)).trans e1) e3 gd fun b o n e => by
    by_cases q : b = dx
    · subst q; rw [gd] at e; cases e
    · exact (Heap.get?_update_other _ _ (Ne.symm q)).trans (k1 b o n e))
end
end
noncomputable def excFd (K : Frag) (fd : FuncData) : Bool :=
  fd.scope.kind == .function && !fd.scope.isGenerator && !fd.scope.isCoroutine && codeIn K fd.code fd.qualname &&
  (fd.scope.names.all fun x => x.2 != .cell) && fd.scope.names.lookup ("self" : Str) == some .local && fd.scope.names.lookup ("told" : Str) == some .local
noncomputable def excN (b : List Stmt) : List Stmt := [setE "self" "told" (.Name "told" (xk (b.headD default) 1).pos) (b.headD default)]
noncomputable def excB (G : Gl) (fI : Addr) : Bool := match fdAt G.K fI with
  | some fd => isSt fd && excFd G.K fd
  | none => false
noncomputable def excBindsOf (K : Frag) (fd : FuncData) (S : Setting) (a b : Value) : Option (List (Str × Value)) := peek K S (bindArgs fd ⟨[a, b], []⟩)
noncomputable def excBindsAs (S : Setting) (a b : Value) : Option (List (Str × Value)) := some [("self", a), ("told", b)]
noncomputable abbrev ExcEntry (G : Gl) (fI : Addr) : Prop := (excB G fI, (fdAt G.K fI).map fun fd => (bodyOf fd, excBindsOf G.K fd)) = (true, (fdAt G.K fI).map fun fd => (excN (bodyOf fd), excBindsAs))
section
variable {G : Gl} {c : Nat}
theorem exc_ok {fI : Addr} (hn : nsIn G.K mainGlobals (G.xn c) = some (some (.ref (G.xc c)))) (hk : keepIn G.K (.ref (G.xc c)) = true) (hsh : ExcShape G.K (G.xc c)) (hx : excIn G.K (G.xc c) = true) (hfi : findIn G.K (.ref (G.xc c)) "__init__" = some (some (.ref fI))) (hf : typeIn G.K (.ref fI) = some (.type "function")) (he : ExcEntry G fI)
    (hcall : specialIn G.K (.ref (G.xc c)) "__call__" = some (some (.builtin "type.__call__"))) (htyp : instIn G.K (.ref (G.xc c)) (.type "type") = some true)
    (hs : findIn G.K (.ref (G.xc c)) "__setattr__" = some (some (.builtin "object.__setattr__"))) (ht : takerIn G.K (G.xc c) "told" = some none) : MkOk G c := by
  refine ⟨hn, hk, hsh, fun A F Y outer s v d P r => ?_⟩
  have inn : G.K.In s.heap := P.gl.inn.keeps hid_le
  have hlim : s.heap.NoLimit := P.gl.top.nolimit.keeps hid_le
  have objs := P.ch.objs
  have rm := P.rm
  clear P
  obtain ⟨cd, bm, cls⟩ := excIn_inv (Prod.mk.inj hsh).1 hx
  obtain ⟨h1, h2⟩ := Prod.mk.inj he
  unfold excB at h1
  cases e : fdAt G.K fI with
  | none => rw [e] at h1; cases h1
  | some fd =>
  rw [e] at h1 h2
  have F' := isFd e (and_l h1)
  obtain ⟨h2, hB⟩ := Prod.mk.inj (Option.some.inj h2)
  rw [h2] at F'
  obtain ⟨oc, od, osl, hl, hb⟩ := F'
  have h13 := and_r h1
  unfold excFd at h13
  have h12 := and_l h13
  have h11 := and_l h12
  have h4 := and_l h11
  have h3 := and_l h4
  have q1 := eq_of_beq (and_l (and_l h3))
  have q12 := eq_of_beq (and_r h12)
  have q13 := eq_of_beq (and_r h13)
  obtain ⟨h, g, dd, tk, os⟩ := s
  dsimp only at objs r inn hlim ⊢
  refine exc_call inn cls hcall htyp hfi hf ?_
  have k0 : ∀ b o, h.get? b = some o → ((h.push { cls := .type "tuple", data := .seq #[v] }).push { cls := .ref (G.xc c), data := .fields #[.ref h.objs.size, .none, .none, .none, .bool false, .none] }).get? b = some o := fun b o e => Heap.get?_push_of_some _ (Heap.get?_push_of_some _ e)
  have ex : ((h.push { cls := .type "tuple", data := .seq #[v] }).push { cls := .ref (G.xc c), data := .fields #[.ref h.objs.size, .none, .none, .none, .bool false, .none] }).get? (h.objs.size + 1) = some ⟨.ref (G.xc c), none, .fields #[.ref h.objs.size, .none, .none, .none, .bool false, .none], #[]⟩ := by heap_get
  generalize (h.push { cls := .type "tuple", data := .seq #[v] }).push { cls := .ref (G.xc c), data := .fields #[.ref h.objs.size, .none, .none, .none, .bool false, .none] } = H at k0 ex ⊢
  have rl : A.depth + 1 < recursionLimit := by have := rm.1; have : recursionLimit = 1000 := rfl; omega
  have gx : h.get? (h.objs.size + 1) = none := Heap.get?_none_of_le (Nat.le_succ _)
  refine codeAny_call_def (s := ⟨H, g, dd, tk, os⟩) (by rw [depth_under_kw]; exact rl) (k0 _ _ (inn _ _ hl)) rfl (hlim.keeps k0) (codeRec_of (inn.keeps k0) (and_r h4)) hb (kp_binds (inn.keeps k0) fun S => congrFun (congrFun (congrFun hB S) _) _) (fun x hx => bne_iff_ne.mp (List.all_eq_true.mp (and_r h11) x hx)) (fun x hx => ?_) (fun h₁ ns kp => ?_) ((Bool.not_eq_true' _).mp (and_r h3)) ((Bool.not_eq_true' _).mp (and_r (and_l h3))) q1
  · exact two (P := fun _ => True) (a := 0) (b := 0) (x := 0) List.mem_cons_self trivial trivial |> fun _ => (List.mem_cons.mp hx).elim (fun q => by rw [q]; exact q12) fun hx => by rw [List.mem_singleton.mp hx]; exact q13
  have envk : (callEnv fd H.objs.size fI).scope.kind = .function := q1
  have inn₁ : G.K.In h₁ := inn.keeps fun b o e => kp b o (k0 b o e)
  refine wpAny_execs_cons (plainObj_wpAny_Assign_Attribute (wpAny_Name (wpAny_loadName_local (v := v) envk q13 ns rfl (wpAny_Name (wpAny_loadName_local (v := .ref (h.objs.size + 1)) envk q12 ns rfl ?_) rfl)) rfl) rfl)
  refine set_plain (C := G.xc c) inn₁ (⟨kp _ _ ex, rfl, rfl, trivial⟩ : InstAt h₁ (h.objs.size + 1) _ (G.xc c) none) hs (exc_osa inn₁ cls ht (kp _ _ ex) fun h₂ dx hsh n e1 e2 e3 k2 => wpAny_execs_nil ?_)
  have kk : ∀ b o, h.get? b = some o → h₂.get? b = some o := fun b o e => k2 b o (some_ne e gx) (kp b o (k0 b o e))
  have gdx : h.get? dx = none := none_of (fun b o e => kp b o (k0 b o e)) e3
  refine ⟨rfl, h.objs.size + 1, h₂, _, rfl, rfl, .of kk, ⟨_, _, dx, _, _, _, v, _, e1, rfl, rfl, rfl, e2, rfl, rfl, r.mono kk, gx, gdx, fun q => ?_, rfl⟩⟩
  obtain ⟨o, _, _, e, _⟩ := objs dx q
  exact some_ne e gdx rfl
end
end Mine

namespace Mine
open PySem PySem.W PySem.Calls PyProof.Rows

/-! the deck is made -/
noncomputable def revE (c : MC) (k : Nat) (x : Expr) : Expr := .Subscript (nmE c k (kid x 0)) (.Slice none none (some (.UnaryOp .USub (.Constant (.int 1) (nOf (kid (kid (kid x 1) 2) 0)) (kid (kid (kid x 1) 2) 0).pos) (kid (kid x 1) 2).pos)) (kid x 1).pos) x.pos
noncomputable def dkRet (c : MC) (st : Stmt) : Stmt := .Return (some (.Dict [some (strE "cells" (kid (xk st 0) 0)), some (strE "mixed" (kid (xk st 0) 1))] [revE c 1 (kid (xk st 0) 2), nmE c 2 (kid (xk st 0) 3)] (xk st 0).pos)) st.pos
noncomputable def deckB (G : Gl) (fa : Addr) : Bool := match fdAt G.K fa with
  | some fd => isSt fd && fdOk G fd dkFS && okSL (mcOf G dkFS fd.scope 0) 31 dk2 (bodyOf fd) && (mcOf G dkFS fd.scope 0).isVar 1 && (mcOf G dkFS fd.scope 0).isVar 2
  | none => false
noncomputable abbrev DeckEntry (G : Gl) (fa : Addr) : Prop := (deckB G fa, (fdAt G.K fa).map fun fd => (bodyOf fd, bindsOf dkFS.params fd)) = (true, (fdAt G.K fa).map fun fd => (nrmL (mcOf G dkFS fd.scope 0) 31 dk2 (bodyOf fd) ++ [dkRet (mcOf G dkFS fd.scope 0) ((bodyOf fd).getD 2 default)], bindsAs dkFS.params))
theorem ints_map {ds : List Dat} : ∀ {l : List Int}, ints? ds = some l → ds = l.map Dat.int := by
  induction ds with
  | nil => intro l h; cases h; rfl
  | cons d ds ih =>
    intro l h
    cases d
    case int i =>
      obtain ⟨r, h2, rfl⟩ := Option.map_eq_some_iff.mp h
      rw [ih h2, List.map_cons]
    all_goals exact no_some h
section
variable {C : Cx} {rest : List Env}
/-- some statements, then others -/
theorem body_then {one : IS → ASt → Out Fl} {f : IS → Stmt → Stmt} {ok : IS → Stmt → Bool} {tl : List Stmt} {Q : Flow → Shared → Prop} {E : Value → Shared → Prop} (h1 : ∀ i st, ok i st = true → ∀ p σ, Sim C p σ → Snd C 1 (FlowIs C) p (one i σ) (exec (f i st) C.env)) (bs : List IS) : ∀ (ss : List Stmt) (p : Pt) (σ σ' : ASt), okB ok bs ss = true → Sim C p σ → exL one bs σ = .ok .next σ' →
    (∀ p', Sim C p' σ' → Aftr C 1 p p' → wpAny C.M C.A (execs tl C.env) Q E p'.s) → wpAny C.M C.A (execs (nB f bs ss ++ tl) C.env) Q E p.s := by
  induction bs with
  | nil => exact fun ss p σ σ' _ S e k => by cases e; exact k p S (.refl _ _ _)
  | cons b bs ih =>
    intro ss p σ σ' h S e k
    have e : (one b σ).bind (fun f σ₁ => match f with | .next => exL one bs σ₁ | f => .ok f σ₁) = .ok .next σ' := e
    have o := h1 b _ (and_l h) p σ S
    refine wpAny_execs_cons (o _ _ ?_)
    revert e
    cases one b σ with
    | stuck => exact fun e => nomatch e
    | exc => exact fun e => nomatch e
    | ok fl σ₁ =>
      intro e fv p₁ g
      have F := g.r
      cases fl with
      | brk => cases e
      | ret => cases e
      | next => cases F; exact ih ss.tail p₁ σ₁ σ' (and_r h) g.S e fun p' S' A => k p' S' (g.A.trans A)
theorem deckOf_inv {O : Orc} {f : Nat} {d : Dat} {st : St} (h : deckOf O f d = some st) : ∃ cs mx l, O.p f [d] = .ok (.tuple [.list cs, .int mx]) ∧ ints? cs = some l ∧ l.length ≤ 100 ∧ st = .deck l mx := by
  unfold deckOf at h
  split at h
  · rename_i cs mx e0
    cases hl : ints? cs with
    | none => rw [hl] at h; cases h
    | some l =>
      rw [hl] at h
      obtain ⟨hz, rfl⟩ := if_some h
      exact ⟨cs, mx, l, e0, hl, of_decide_eq_true hz, rfl⟩
  · cases h
end
section
variable {G : Gl}
theorem deck_ok {O O' : Orc} {fa : Addr} (W : World0 G O' 0) (hn : nsIn G.K mainGlobals (G.fn G.dk) = some (some (.ref fa))) (hk : keepIn G.K (.ref fa) = true) (he : DeckEntry G fa) (hO : ∀ ds, O.p G.dk ds = dkRes O' ds) : MakesAt G (G.fn G.dk) fa (deckOf O G.dk) := by
  refine ⟨hn, hk, fun d st hd => ?_⟩
  obtain ⟨cs, mx, l, e, hi, hlen, rfl⟩ := deckOf_inv hd
  refine ⟨(fun q => nomatch q), ?_⟩
  rw [hO] at e
  obtain ⟨d, va, vb, rs, e1, e, rfl⟩ := dkRes_inv e
  cases e1
  have hrs : rs = l.reverse.map Dat.int := by
    have := ints_map hi
    rw [List.map_reverse, ← this, List.reverse_reverse]
  have hrl : rs.length ≤ 100 := by rw [hrs, List.length_map, List.length_reverse]; exact hlen
  obtain ⟨h1, h2⟩ := Prod.mk.inj he
  unfold deckB at h1
  cases ef : fdAt G.K fa with
  | none => rw [ef] at h1; cases h1
  | some fd =>
  rw [ef] at h1 h2
  have F' := isFd ef (and_l (and_l (and_l (and_l h1))))
  obtain ⟨h2, hB⟩ := Prod.mk.inj (Option.some.inj h2)
  rw [h2] at F'
  obtain ⟨oc, od, osl, hl, hb'⟩ := F'
  have D := fd_facts (and_r (and_l (and_l (and_l h1)))) hB
  intro A F Y outer s v P r
  have inn : G.K.In s.heap := P.gl.inn.keeps hid_le
  have rl : A.depth < recursionLimit := by have := P.rm.1; have : recursionLimit = 1000 := rfl; omega
  refine codeAny_call_cells rl (inn _ _ hl) rfl (P.gl.top.nolimit.keeps hid_le) (codeRec_of inn D.code) hb' (D.binds [v] rfl) D.clo (fun x hx => ?_) (fun s₁ I => ?_) D.co D.gen D.kind
  · exact (D.kinds _ (List.of_mem_zip (a := x.1) (b := x.2) hx).1).imp id fun q => ⟨q, cellsFrom_has _ _ _ _ (lookup_mem q)⟩
  have hC := en_ok (fa := fa) (fs := dkFS) W D P I
  have S := en_sim (ovs := []) (st := none) W D P I rfl (.one r) ⟨rfl, rfl, rfl⟩
  obtain ⟨h₁, tk₁, rfl, _⟩ := I.done
  refine body_then (C := enCx G O' A fd fa outer F [] Y dkFS 0 s) (one := stepS O' IT (evE O' 40) (evS O' IT 30)) (fun i st h p σ S => step_st hC (stmts_sound 30) i h S) dk2 _ _ _ _ (and_r (and_l (and_l h1))) S e fun p' S' A' => ?_
  obtain ⟨s', m', oa', xa'⟩ := p'
  cases (S'.ow : oa' = [])
  cases (S'.st : xa' = [])
  have es' : s' = { s with heap := s'.heap, toks := s'.toks } := A'.s
  refine wpAny_execs_cons (wpAny_Return_some (wpAny_Dict_walk (knd := strKind G.prog G.w) rfl rfl (by simp) (by simp) ?_))
  obtain ⟨S₁, _⟩ := S'.push hC.toCxOk { cls := .type "dict", data := .dict #[] } s'.toks
  have D₁ := Heap.DictOf.new (knd := strKind G.prog G.w) s'.heap
  have sz1 : s'.heap.objs.size < (s'.heap.push { cls := .type "dict", data := .dict #[] }).objs.size := by rw [Heap.size_push]; omega
  have hs0 : s.heap.objs.size < s'.heap.objs.size := by obtain ⟨o, _, _, e, _⟩ := ns_dic S'.co.fr.ns; exact Heap.lt_size e
  have K := exit_kf S'
  generalize s'.heap.push { cls := .type "dict", data := .dict #[] } = H1 at S₁ D₁ sz1 ⊢
  obtain ⟨w1, hw1, r1⟩ := S₁.vs 1 _ rfl
  refine pairTrees_cons_walk (wpAny_Constant_str (Subscript_ (ld_var (s := { s' with heap := H1, toks := s'.toks + 1 }) hC.toCxOk S₁.co hw1 (and_r (and_l h1)) (wpAny_Slice (evalPart_none_step (evalPart_none_step (evalPart_some_step (UnaryOp_ (wpAny_Constant_int (neg_int ?_))))))))))
  obtain ⟨S₂, A₂⟩ := S₁.push hC.toCxOk { cls := .type "slice", data := .fields #[.none, .none, .int (-1) (s'.toks + 1 + 1)] } s'.toks
  have D₂ := D₁.push { cls := .type "slice", data := .fields #[.none, .none, .int (-1) (s'.toks + 1 + 1)] }
  obtain ⟨a1, vs1, na, rfl, la, qa⟩ := (A₂.rp r1).isList
  have la' := isList_of (of_hideAll _ la)
  refine tail_any la'.typeIs slot_list_getitem.lookup (wpAny_getItem_list_slice la' sl_push .none .none (.int _ _) (by decide) ?_ (by rw [qa.size, sizeLine_eq]; omega)) (ops := [_, _]) rfl
  rw [krv_pick]
  obtain ⟨S₃, _⟩ := S₂.push hC.toCxOk { cls := .type "list", data := .seq vs1.reverse.toArray } s'.toks
  have D₃ := D₂.push { cls := .type "list", data := .seq vs1.reverse.toArray }
  have L₃ : ((H1.push { cls := .type "slice", data := .fields #[.none, .none, .int (-1) (s'.toks + 1 + 1)] }).push { cls := .type "list", data := .seq vs1.reverse.toArray }).get? (H1.push { cls := .type "slice", data := .fields #[.none, .none, .int (-1) (s'.toks + 1 + 1)] }).objs.size = some (listOf vs1.reverse.toArray 0) := Heap.get?_push_size _ rfl
  have sz2 : H1.objs.size < (H1.push { cls := .type "slice", data := .fields #[.none, .none, .int (-1) (s'.toks + 1 + 1)] }).objs.size := by rw [Heap.size_push]; omega
  generalize hc : (H1.push { cls := .type "slice", data := .fields #[.none, .none, .int (-1) (s'.toks + 1 + 1)] }).objs.size = cc at L₃ sz2 ⊢
  generalize hH : (H1.push { cls := .type "slice", data := .fields #[.none, .none, .int (-1) (s'.toks + 1 + 1)] }).push { cls := .type "list", data := .seq vs1.reverse.toArray } = H3 at S₃ D₃ L₃ ⊢
  obtain ⟨w2, hw2, r3⟩ := S₃.vs 2 _ rfl
  obtain ⟨t2, rfl⟩ := r3.int_inv
  refine pairTrees_cons_walk ?_
  refine wpAny_Constant_str ?_
  refine ld_var (m := m') (v := .int mx t2) hC.toCxOk ?_ ?_ (and_r h1) ?_
  · exact S₃.co
  · exact hw2
  refine pairTrees_nil_walk ?_
  refine ⟨[("cells", .ref cc), ("mixed", .int mx t2)], ⟨strKind_is _ _ _ _, rfl, strKind_is _ _ _ _, rfl, trivial⟩, D₃, fun h'' D4 sb => ?_⟩
  have kn : ∀ b, b ≠ s'.heap.objs.size → h''.get? b = H3.get? b := fun b n => sb.2 b n
  have KX := exit_kf S₃
  have nn : ∀ b, s.heap.objs.size < b → s.heap.get? b = none := fun b h => Heap.get?_none_of_le (Nat.le_of_lt h)
  have ne : ∀ {b o}, s.heap.get? b = some o → b ≠ s'.heap.objs.size := fun e => Nat.ne_of_lt (Nat.lt_trans (Heap.lt_size e) hs0)
  have ccn : cc ≠ s'.heap.objs.size := Nat.ne_of_gt (Nat.lt_trans sz1 sz2)
  have ed : ∃ o, h''.get? s'.heap.objs.size = some o := let ⟨o, _, _, e, _⟩ := D4; ⟨o, e⟩
  rw [es']
  refine ⟨s'.heap.objs.size, [s'.heap.objs.size, cc], h'', _, rfl, rfl, ⟨fun b o n nF e => ?_, fun L hL o e => ?_⟩, fun b q => two (P := fun b => s.heap.get? b = none) q (nn _ hs0) (nn _ (Nat.lt_trans hs0 (Nat.lt_trans sz1 sz2))), fun b q => two (P := fun b => ∃ o, h''.get? b = some o) q ed ⟨_, (kn cc ccn).trans L₃⟩, cc, _, _, t2, rfl, D4, (kn cc ccn).trans L₃, ?_, hlen, Ne.symm ccn⟩
  · exact (kn b (ne e)).trans (KX.kp b o n nF e)
  · obtain ⟨sl, z⟩ := KX.sl L hL o e
    exact ⟨sl, (kn L (ne e)).trans z⟩
  · have := qa.reverse
    rw [hrs, List.map_reverse, List.reverse_reverse] at this
    exact this.ints
end
end Mine

namespace Mine
open PySem PySem.W PySem.Calls PyProof.Rows

/-! the plain law: the reader upon a list of codes -/
inductive PR (α : Type) where
  | ok (a : α) (i : Nat) (s : List Int)
  | err (p : Int)
  | stuck
noncomputable def PR.bind {α β : Type} (r : PR α) (f : α → Nat → List Int → PR β) : PR β := match r with
  | .ok a i s => f a i s
  | .err p => .err p
  | .stuck => .stuck

noncomputable abbrev rd (cs : List Int) (i : Nat) : St := .rdr (.list (cs.map Dat.int)) i
noncomputable abbrev lst (l : List Int) : Dat := .list (l.map Dat.int)

noncomputable def RelR {α : Type} (cs : List Int) (e : α → Dat) (o : ResS) : PR α → Prop
  | .ok a j s => cs.drop j = s ∧ o = .ok (e a) (rd cs j)
  | .err p => o = .exc ⟨0, .int p⟩
  | .stuck => True
noncomputable def RelE {α : Type} (cs : List Int) (vs : List (Option Dat)) (own : Option (Nat × List Dat)) (e : α → Dat) (o : Out Dat) : PR α → Prop
  | .ok a j s => cs.drop j = s ∧ o = .ok (e a) ⟨vs, own, some (rd cs j)⟩
  | .err p => ∃ σ, o = .exc ⟨0, .int p⟩ σ
  | .stuck => True

noncomputable def cont (o : Out Fl) (k kb : ASt → Out Fl) : Out Fl := o.bind fun f σ => match f with
  | .next => k σ
  | .brk => kb σ
  | .ret d w => .ok (.ret d w) σ
theorem cont_top (o : Out Fl) : cont o (fun σ => .ok .next σ) (fun σ => .ok .brk σ) = o := by
  cases o with
  | ok f σ => cases f <;> rfl
  | exc => rfl
  | stuck => rfl
theorem cont_cont (o : Out Fl) (k kb l lb : ASt → Out Fl) : cont (cont o k kb) l lb = cont o (fun σ => cont (k σ) l lb) fun σ => cont (kb σ) l lb := by
  cases o with
  | ok f σ => cases f <;> rfl
  | exc => rfl
  | stuck => rfl
theorem evS_cons {O : Orc} {it n : Nat} {s : IS} {r : List IS} {σ : ASt} : evS O it (n + 1) (s :: r) σ = cont (stepS O it (evE O 40) (evS O it n) s σ) (evS O it (n + 1) r) fun σ => .ok .brk σ := by
  show (stepS O it (evE O 40) (evS O it n) s σ).bind _ = _
  cases stepS O it (evE O 40) (evS O it n) s σ with
  | ok f σ => cases f <;> rfl
  | exc => rfl
  | stuck => rfl

/-- what runs on into k (or, at a break, into kb) meets r -/
noncomputable def Rn {α : Type} (cs : List Int) (fr : Bool) (e : α → Dat) (o : Out Fl) (k kb : ASt → Out Fl) (r : PR α) : Prop := RelR cs e (outQ fr (cont o k kb)) r
noncomputable abbrev Run {α : Type} (cs : List Int) (fr : Bool) (e : α → Dat) (O : Orc) (n : Nat) (ss : List IS) (σ : ASt) (k kb : ASt → Out Fl) (r : PR α) : Prop := Rn cs fr e (evS O IT n ss σ) k kb r

section
variable {α β : Type} {cs : List Int} {fr : Bool} {e : α → Dat} {O : Orc} {n : Nat} {ss : List IS} {σ σ₁ : ASt} {k kb : ASt → Out Fl} {r : PR α} {x : IE} {d : Dat}

theorem run_top (h : Run cs fr e O n ss σ (fun σ => .ok .next σ) (fun σ => .ok .brk σ) r) : RelR cs e (outQ fr (evS O IT n ss σ)) r := by unfold Run Rn at h; rwa [cont_top] at h
theorem run_cons {s : IS} (h : Rn cs fr e (stepS O IT (evE O 40) (evS O IT n) s σ) (fun σ => cont (evS O IT (n + 1) ss σ) k kb) kb r) : Run cs fr e O (n + 1) (s :: ss) σ k kb r := by
  unfold Run Rn; rw [evS_cons, cont_cont]; exact h
theorem run_nil (h : RelR cs e (outQ fr (k σ)) r) : Run cs fr e O (n + 1) [] σ k kb r := h
theorem rn_next (h : RelR cs e (outQ fr (k σ)) r) : Rn cs fr e (.ok .next σ) k kb r := h
/-- an expression at a statement's head -/
theorem rn_of {f : Dat → ASt → Out Fl} {o : Out Dat} (h : o = .ok d σ₁) (q : Rn cs fr e (f d σ₁) k kb r) : Rn cs fr e (o.bind f) k kb r := by rw [h]; exact q
theorem rn_rel {e' : β → Dat} {f : Dat → ASt → Out Fl} {o : Out Dat} {vs : List (Option Dat)} {own : Option (Nat × List Dat)} {q : PR β} {g : β → Nat → List Int → PR α} (h : RelE cs vs own e' o q)
    (hq : ∀ a j s, cs.drop j = s → Rn cs fr e (f (e' a) ⟨vs, own, some (rd cs j)⟩) k kb (g a j s)) : Rn cs fr e (o.bind f) k kb (q.bind g) := by
  cases q with
  | ok a j s => obtain ⟨h1, h2⟩ := h; rw [h2]; exact hq a j s h1
  | err p => obtain ⟨σ, h⟩ := h; rw [h]; exact rfl
  | stuck => trivial
theorem rel_bind {e : α → Dat} {e' : β → Dat} {f : Dat → ASt → Out Dat} {o : Out Dat} {vs vs' : List (Option Dat)} {own own' : Option (Nat × List Dat)} {q : PR β} {g : β → Nat → List Int → PR α} (h : RelE cs vs own e' o q)
    (hq : ∀ a j s, cs.drop j = s → RelE cs vs' own' e (f (e' a) ⟨vs, own, some (rd cs j)⟩) (g a j s)) : RelE cs vs' own' e (o.bind f) (q.bind g) := by
  cases q with
  | ok a j s => obtain ⟨h1, h2⟩ := h; rw [h2]; exact hq a j s h1
  | err p => obtain ⟨σ, h⟩ := h; rw [h]; exact ⟨_, rfl⟩
  | stuck => trivial
/-- a method called -/
theorem rel_call {f i : Nat} {args : List IE} {ds : List Dat} {vs : List (Option Dat)} {own : Option (Nat × List Dat)} (ha : evL (evE O n) args ⟨vs, own, some (rd cs i)⟩ = .ok ds ⟨vs, own, some (rd cs i)⟩) (h : RelR cs e (O.s f (rd cs i) ds) r) :
    RelE cs vs own e (evE O (n + 1) (.callM f args) ⟨vs, own, some (rd cs i)⟩) r := by
  have e0 : evE O (n + 1) (.callM f args) ⟨vs, own, some (rd cs i)⟩ = (evL (evE O n) args ⟨vs, own, some (rd cs i)⟩).bind fun ds σ₁ => match σ₁.st with
      | none => .stuck
      | some st => match O.s f st ds with
        | .ok d st' => .ok d { σ₁ with st := some st' }
        | .exc x => .exc x { σ₁ with st := some .gone }
        | .stuck => .stuck := rfl
  rw [e0, ha]
  show RelE cs vs own e (match O.s f (rd cs i) ds with
        | .ok d st' => Out.ok d ⟨vs, own, some st'⟩
        | .exc x => .exc x ⟨vs, own, some .gone⟩
        | .stuck => .stuck) r
  cases r with
  | ok a j s => obtain ⟨h1, h2⟩ := h; rw [h2]; exact ⟨h1, rfl⟩
  | err p => have h : O.s f (rd cs i) ds = _ := h; rw [h]; exact ⟨_, rfl⟩
  | stuck => trivial
/-- a loop's turns -/
theorem loop_f {t : ASt → Out Dat} {b : ASt → Out Fl} (h : t σ = .ok (.bool false) σ₁) (q : RelR cs e (outQ fr (k σ₁)) r) : Rn cs fr e (loopW t b (n + 1) σ) k kb r := by
  have e0 : loopW t b (n + 1) σ = (t σ).bind fun d σ₁ => match asB d with
    | none => .stuck
    | some false => .ok .next σ₁
    | some true => (b σ₁).bind fun f σ₂ => match f with
      | .next => loopW t b n σ₂
      | .brk => .ok .next σ₂
      | .ret d o => .ok (.ret d o) σ₂ := rfl
  rw [e0, h]; exact q
theorem loop_t {t : ASt → Out Dat} {b : ASt → Out Fl} (h : t σ = .ok (.bool true) σ₁) (q : Rn cs fr e (b σ₁) (fun σ => cont (loopW t b n σ) k kb) k r) : Rn cs fr e (loopW t b (n + 1) σ) k kb r := by
  have e0 : loopW t b (n + 1) σ = (t σ).bind fun d σ₁ => match asB d with
    | none => .stuck
    | some false => .ok .next σ₁
    | some true => (b σ₁).bind fun f σ₂ => match f with
      | .next => loopW t b n σ₂
      | .brk => .ok .next σ₂
      | .ret d o => .ok (.ret d o) σ₂ := rfl
  rw [e0, h]
  have e1 : (Out.ok (Dat.bool true) σ₁).bind (fun d σ₁ => match asB d with
    | none => .stuck
    | some false => .ok .next σ₁
    | some true => (b σ₁).bind fun f σ₂ => match f with
      | .next => loopW t b n σ₂
      | .brk => .ok .next σ₂
      | .ret d o => .ok (.ret d o) σ₂) = cont (b σ₁) (loopW t b n) fun σ => .ok .next σ := by
    show (b σ₁).bind _ = _
    cases b σ₁ with
    | ok f σ => cases f <;> rfl
    | exc => rfl
    | stuck => rfl
  rw [e1]
  unfold Rn at q ⊢
  rw [cont_cont]; exact q

/-! a statement each -/
variable {σ₂ : ASt} {T : Dat} {a b : Int} {j : Nat} {xs ys : List Dat} {sa sb : List IS} {c : Nat} {y : Dat}
theorem run_asg (h : evE O 40 x σ = .ok d σ₁) (q : Run cs fr e O (n + 1) ss (putVar j d σ₁) k kb r) : Run cs fr e O (n + 1) (.asg j x :: ss) σ k kb r := run_cons (rn_of (f := fun d σ₁ => .ok .next (putVar j d σ₁)) h (rn_next q))
theorem run_augAt (h0 : σ.st = some (.rdr T a)) (h : evE O 40 x σ = .ok (.int b) σ₁) (h1 : σ₁.st = some (.rdr T a)) (q : Run cs fr e O (n + 1) ss { σ₁ with st := some (.rdr T (a + b)) } k kb r) : Run cs fr e O (n + 1) (.augAt x :: ss) σ k kb r := by
  refine run_cons ?_
  simp only [stepS]
  rw [h0]
  refine rn_of h ?_
  simp only [h1]
  exact rn_next q
theorem run_ret (h : evE O 40 x σ = .ok d σ₁) (q : RelR cs e (outQ fr (.ok (.ret d false) σ₁)) r) : Run cs fr e O (n + 1) (.ret x :: ss) σ k kb r := run_cons (rn_of (f := fun d σ₁ => .ok (.ret d false) σ₁) h q)
theorem run_retN (q : RelR cs e (outQ fr (.ok (.ret .none false) σ)) r) : Run cs fr e O (n + 1) (.retN :: ss) σ k kb r := run_cons q
theorem run_retOwn (h : σ.own = some (j, xs)) (q : RelR cs e (outQ fr (.ok (.ret (.list xs) true) σ)) r) : Run cs fr e O (n + 1) (.retOwn j :: ss) σ k kb r := by
  refine run_cons ?_
  simp only [stepS]
  rw [h]
  dsimp only
  rw [if_pos rfl]
  exact q
theorem run_brk (q : RelR cs e (outQ fr (kb σ)) r) : Run cs fr e O (n + 1) (.brk :: ss) σ k kb r := run_cons q
theorem run_raise (h : evE O 40 x σ = .ok d σ₁) (q : RelR cs e (.exc ⟨c, d⟩) r) : Run cs fr e O (n + 1) (.raise c x :: ss) σ k kb r := run_cons (rn_of (f := fun d σ₁ => .exc ⟨c, d⟩ σ₁) h q)
theorem run_t (h : evE O 40 x σ = .ok (.bool true) σ₁) (q : Run cs fr e O n sa σ₁ (fun σ => cont (evS O IT (n + 1) ss σ) k kb) kb r) : Run cs fr e O (n + 1) (.ite x sa sb :: ss) σ k kb r :=
  run_cons (rn_of (f := fun x σ₁ => match asB x with | some true => evS O IT n sa σ₁ | some false => evS O IT n sb σ₁ | none => .stuck) h q)
theorem run_f (h : evE O 40 x σ = .ok (.bool false) σ₁) (q : Run cs fr e O n sb σ₁ (fun σ => cont (evS O IT (n + 1) ss σ) k kb) kb r) : Run cs fr e O (n + 1) (.ite x sa sb :: ss) σ k kb r :=
  run_cons (rn_of (f := fun x σ₁ => match asB x with | some true => evS O IT n sa σ₁ | some false => evS O IT n sb σ₁ | none => .stuck) h q)
theorem run_whl (q : Rn cs fr e (loopW (evE O 40 x) (evS O IT n sa) IT σ) (fun σ => cont (evS O IT (n + 1) ss σ) k kb) kb r) : Run cs fr e O (n + 1) (.whl x sa :: ss) σ k kb r := run_cons q
theorem run_app (h0 : σ.own = some (j, ys)) (h : evE O 40 x σ = .ok d σ₁) (h1 : σ₁.own = some (j, xs)) (hz : sz (xs.length + 1) = true) (q : Run cs fr e O (n + 1) ss { σ₁ with own := some (j, xs ++ [d]) } k kb r) : Run cs fr e O (n + 1) (.app j x :: ss) σ k kb r := by
  refine run_cons ?_
  simp only [stepS]
  rw [h0]
  dsimp only
  rw [if_pos rfl]
  refine rn_of h ?_
  simp only [h1, hz, decide_true, Bool.and_self, if_true]
  exact rn_next q
theorem run_ext {ds : List Dat} (h0 : σ.own = some (j, ys)) (h : evE O 40 x σ = .ok (.list ds) σ₁) (h1 : σ₁.own = some (j, xs)) (hz : sz (xs.length + ds.length) = true) (q : Run cs fr e O (n + 1) ss { σ₁ with own := some (j, xs ++ ds) } k kb r) : Run cs fr e O (n + 1) (.ext j x :: ss) σ k kb r := by
  refine run_cons ?_
  simp only [stepS]
  rw [h0]
  dsimp only
  rw [if_pos rfl]
  refine rn_of h ?_
  simp only [h1, hz, decide_true, Bool.and_self, if_true]
  exact rn_next q

/-! and with a call that may fail -/
variable {e' : β → Dat} {vs : List (Option Dat)} {own : Option (Nat × List Dat)} {q : PR β} {g : β → Nat → List Int → PR α} {qb : PR Bool} {gb : Bool → Nat → List Int → PR α}
theorem run_expr_rel (h : RelE cs vs own e' (evE O 40 x σ) q) (hq : ∀ a i s, cs.drop i = s → Run cs fr e O (n + 1) ss ⟨vs, own, some (rd cs i)⟩ k kb (g a i s)) : Run cs fr e O (n + 1) (.expr x :: ss) σ k kb (q.bind g) :=
  run_cons (rn_rel (f := fun _ σ₁ => .ok .next σ₁) h fun a i s hd => rn_next (hq a i s hd))
theorem run_asg_rel (h : RelE cs vs own e' (evE O 40 x σ) q) (hq : ∀ a i s, cs.drop i = s → Run cs fr e O (n + 1) ss (putVar j (e' a) ⟨vs, own, some (rd cs i)⟩) k kb (g a i s)) : Run cs fr e O (n + 1) (.asg j x :: ss) σ k kb (q.bind g) :=
  run_cons (rn_rel (f := fun d σ₁ => .ok .next (putVar j d σ₁)) h fun a i s hd => rn_next (hq a i s hd))
theorem run_ret_rel (h : RelE cs vs own e' (evE O 40 x σ) q) (hq : ∀ a i s, cs.drop i = s → RelR cs e (outQ fr (.ok (.ret (e' a) false) ⟨vs, own, some (rd cs i)⟩)) (g a i s)) : Run cs fr e O (n + 1) (.ret x :: ss) σ k kb (q.bind g) :=
  run_cons (rn_rel (f := fun d σ₁ => .ok (.ret d false) σ₁) h fun a i s hd => hq a i s hd)
theorem run_ite_rel (h : RelE cs vs own Dat.bool (evE O 40 x σ) qb) (ht : ∀ i s, cs.drop i = s → Run cs fr e O n sa ⟨vs, own, some (rd cs i)⟩ (fun σ => cont (evS O IT (n + 1) ss σ) k kb) kb (gb true i s))
    (hf : ∀ i s, cs.drop i = s → Run cs fr e O n sb ⟨vs, own, some (rd cs i)⟩ (fun σ => cont (evS O IT (n + 1) ss σ) k kb) kb (gb false i s)) : Run cs fr e O (n + 1) (.ite x sa sb :: ss) σ k kb (qb.bind gb) :=
  run_cons (rn_rel (f := fun x σ₁ => match asB x with | some true => evS O IT n sa σ₁ | some false => evS O IT n sb σ₁ | none => .stuck) h fun a i s hd => by
    cases a with
    | true => exact ht i s hd
    | false => exact hf i s hd)
theorem run_app_rel (h0 : σ.own = some (j, ys)) (h : RelE cs vs (some (j, xs)) e' (evE O 40 x σ) q) (hz : sz (xs.length + 1) = true) (hq : ∀ a i s, cs.drop i = s → Run cs fr e O (n + 1) ss ⟨vs, some (j, xs ++ [e' a]), some (rd cs i)⟩ k kb (g a i s)) : Run cs fr e O (n + 1) (.app j x :: ss) σ k kb (q.bind g) := by
  refine run_cons ?_
  simp only [stepS]
  rw [h0]
  dsimp only
  rw [if_pos rfl]
  refine rn_rel h fun a i s hd => ?_
  simp only [hz, decide_true, Bool.and_self, if_true]
  exact rn_next (hq a i s hd)
theorem loop_rel {t : ASt → Out Dat} {b : ASt → Out Fl} (h : RelE cs vs own Dat.bool (t σ) qb) (ht : ∀ i s, cs.drop i = s → Rn cs fr e (b ⟨vs, own, some (rd cs i)⟩) (fun σ => cont (loopW t b n σ) k kb) k (gb true i s))
    (hf : ∀ i s, cs.drop i = s → RelR cs e (outQ fr (k ⟨vs, own, some (rd cs i)⟩)) (gb false i s)) : Rn cs fr e (loopW t b (n + 1) σ) k kb (qb.bind gb) := by
  cases qb with
  | ok p i s =>
    obtain ⟨h1, h2⟩ := h
    cases p with
    | true => exact loop_t h2 (ht i s h1)
    | false => exact loop_f h2 (hf i s h1)
  | err p =>
    obtain ⟨σ', h⟩ := h
    have e0 : loopW t b (n + 1) σ = (t σ).bind fun d σ₁ => match asB d with
      | none => .stuck
      | some false => .ok .next σ₁
      | some true => (b σ₁).bind fun f σ₂ => match f with
        | .next => loopW t b n σ₂
        | .brk => .ok .next σ₂
        | .ret d o => .ok (.ret d o) σ₂ := rfl
    rw [e0, h]; exact rfl
  | stuck => trivial
end
end Mine

namespace Mine
open PySem PySem.W PySem.Calls PyProof.Rows

theorem lenD_ok {T : List Dat} (h : T.length ≤ 16000000) : lenD (.list T) = some T.length := by
  have : sz T.length = true := by unfold sz; rw [sizeLine_eq]; exact decide_eq_true (by omega)
  simp only [lenD, this, if_true]
theorem drop_lt {α : Type} {cs s : List α} {i : Nat} (hd : cs.drop i = s) : s.length = cs.length - i := by rw [← hd, List.length_drop]
theorem dropGet {α : Type} {cs r : List α} {c : α} {i : Nat} (hd : cs.drop i = c :: r) : cs[i]? = some c := by
  have := congrArg List.head? hd
  rwa [List.head?_drop] at this
theorem drop_tail {α : Type} {cs r : List α} {c : α} {i : Nat} (hd : cs.drop i = c :: r) : cs.drop (i + 1) = r := by
  rw [← List.drop_drop, hd]; rfl
theorem nth_ok {T : List Dat} {d : Dat} {i : Nat} (h : T.length ≤ 16000000) (e : T[i]? = some d) : nth T i = some d := by
  have : i < T.length := (List.getElem?_eq_some_iff.mp e).1
  unfold nth
  rw [if_pos (by omega), if_pos (by omega)]
  simpa using e

section
variable {O : Orc} {n : Nat} {cs s r : List Int} {c : Int} {i : Nat} {vs : List (Option Dat)} {own : Option (Nat × List Dat)}
theorem g_lt {T : Dat} {a : Int} : evE O (n + 3) (.cmp (.fld true) [.Lt] [.blt .len (.fld false)]) ⟨vs, own, some (.rdr T a)⟩ = (((ofO ((lenD T).map fun n => .int n) ⟨vs, own, some (.rdr T a)⟩ : Out Dat).bind fun d σ₁ => ofO (cmpD .Lt (.int a) d) σ₁).bind fun b σ₂ => .ok (.bool b) σ₂) := rfl
theorem g_ge {T : Dat} {a : Int} : evE O (n + 3) (.cmp (.fld true) [.GtE] [.blt .len (.fld false)]) ⟨vs, own, some (.rdr T a)⟩ = (((ofO ((lenD T).map fun n => .int n) ⟨vs, own, some (.rdr T a)⟩ : Out Dat).bind fun d σ₁ => ofO (cmpD .GtE (.int a) d) σ₁).bind fun b σ₂ => .ok (.bool b) σ₂) := rfl
theorem g_get {T : Dat} {a : Int} : evE O (n + 2) (.idx (.fld false) (.fld true)) ⟨vs, own, some (.rdr T a)⟩ = ofO (idxD T (.int a)) ⟨vs, own, some (.rdr T a)⟩ := rfl
theorem at_lt (hz : cs.length ≤ 16000000) (hd : cs.drop i = s) : evE O (n + 3) (.cmp (.fld true) [.Lt] [.blt .len (.fld false)]) ⟨vs, own, some (rd cs i)⟩ = .ok (.bool (!s.isEmpty)) ⟨vs, own, some (rd cs i)⟩ := by
  rw [g_lt, lenD_ok (by rwa [List.length_map])]
  have hl := drop_lt hd
  have : decide ((i : Int) < ((cs.map Dat.int).length : Int)) = !s.isEmpty := by
    rw [List.length_map]
    cases s with
    | nil => exact decide_eq_false (by simp at hl; omega)
    | cons => exact decide_eq_true (by simp at hl; omega)
  show Out.ok (Dat.bool (decide _)) _ = _
  rw [this]
theorem at_ge (hz : cs.length ≤ 16000000) (hd : cs.drop i = s) : evE O (n + 3) (.cmp (.fld true) [.GtE] [.blt .len (.fld false)]) ⟨vs, own, some (rd cs i)⟩ = .ok (.bool s.isEmpty) ⟨vs, own, some (rd cs i)⟩ := by
  rw [g_ge, lenD_ok (by rwa [List.length_map])]
  have hl := drop_lt hd
  have : decide (((cs.map Dat.int).length : Int) ≤ (i : Int)) = s.isEmpty := by
    rw [List.length_map]
    cases s with
    | nil => exact decide_eq_true (by simp at hl; omega)
    | cons => exact decide_eq_false (by simp at hl; omega)
  show Out.ok (Dat.bool (decide _)) _ = _
  rw [this]
theorem at_idx (hz : cs.length ≤ 16000000) (hd : cs.drop i = c :: r) : idxD (.list (cs.map Dat.int)) (.int i) = some (.int c) :=
  nth_ok (by rwa [List.length_map]) (by rw [List.getElem?_map, dropGet hd]; rfl)
theorem at_get (hz : cs.length ≤ 16000000) (hd : cs.drop i = c :: r) : evE O (n + 2) (.idx (.fld false) (.fld true)) ⟨vs, own, some (rd cs i)⟩ = .ok (.int c) ⟨vs, own, some (rd cs i)⟩ := by
  rw [g_get, at_idx hz hd]; rfl

theorem orc_s {id : Nat} {st : St} {ds : List Dat} : ∀ {m : Nat}, id < m → (orc m).s id st ds = sAt (orc id) id st ds
  | 0, h => absurd h (Nat.not_lt_zero _)
  | m + 1, h => by
    show (if id = m then sAt (orc m) m st ds else (orc m).s id st ds) = _
    split
    · rename_i q; subst q; rfl
    · rename_i q; exact orc_s (by omega)
theorem orc_p {id : Nat} {ds : List Dat} (h30 : id ≠ 30) : ∀ {m : Nat}, id < m → (orc m).p id ds = pAt (orc id) id ds
  | 0, h => absurd h (Nat.not_lt_zero _)
  | m + 1, h => by
    show (if id = m ∧ m ≠ 30 then pAt (orc m) m ds else (orc m).p id ds) = _
    split
    · rename_i q; obtain ⟨q, _⟩ := q; subst q; rfl
    · rename_i q; exact orc_p h30 (by omega)


/-! big steps -/
section
variable {O : Orc} {n : Nat} {a b t : IE} {x y z d : Dat} {p q : Bool} {σ σ₁ σ₂ σ₃ : ASt} {op : Operator} {c c' : CmpOp}
theorem ev_bin (h1 : evE O n a σ = .ok x σ₁) (h2 : evE O n b σ₁ = .ok y σ₂) (h3 : binD op x y = some z) : evE O (n + 1) (.bin op a b) σ = .ok z σ₂ := by
  show (evE O n a σ).bind _ = _
  rw [h1]; show (evE O n b σ₁).bind _ = _
  rw [h2]; show ofO (binD op x y) σ₂ = _
  rw [h3]; rfl
theorem ev_not (h1 : evE O n a σ = .ok (.bool p) σ₁) : evE O (n + 1) (.not a) σ = .ok (.bool !p) σ₁ := by
  show (evE O n a σ).bind _ = _
  rw [h1]; rfl
theorem ev_cmp (h1 : evE O n a σ = .ok x σ₁) (h2 : evE O n b σ₁ = .ok y σ₂) (h3 : cmpD c x y = some p) : evE O (n + 1) (.cmp a [c] [b]) σ = .ok (.bool p) σ₂ := by
  show (evE O n a σ).bind _ = _
  rw [h1]; show (((evE O n b σ₁).bind fun d σ₁ => ofO (cmpD c x d) σ₁) : Out Bool).bind _ = _
  rw [h2]; show (ofO (cmpD c x y) σ₂).bind _ = _
  rw [h3]; rfl
theorem ev_and_f (h1 : evE O n a σ = .ok (.bool false) σ₁) : evE O (n + 1) (.conn .And [a, b]) σ = .ok (.bool false) σ₁ := by
  show ((evE O n a σ).bind _ : Out Bool).bind _ = _
  rw [h1]; rfl
theorem ev_and_t (h1 : evE O n a σ = .ok (.bool true) σ₁) (h2 : evE O n b σ₁ = .ok (.bool q) σ₂) : evE O (n + 1) (.conn .And [a, b]) σ = .ok (.bool q) σ₂ := by
  show ((evE O n a σ).bind _ : Out Bool).bind _ = _
  rw [h1]; show ((evE O n b σ₁).bind _ : Out Bool).bind _ = _
  rw [h2]; cases q <;> rfl
theorem ev_or_t (h1 : evE O n a σ = .ok (.bool true) σ₁) : evE O (n + 1) (.conn .Or [a, b]) σ = .ok (.bool true) σ₁ := by
  show ((evE O n a σ).bind _ : Out Bool).bind _ = _
  rw [h1]; rfl
theorem ev_or_f (h1 : evE O n a σ = .ok (.bool false) σ₁) (h2 : evE O n b σ₁ = .ok (.bool q) σ₂) : evE O (n + 1) (.conn .Or [a, b]) σ = .ok (.bool q) σ₂ := by
  show ((evE O n a σ).bind _ : Out Bool).bind _ = _
  rw [h1]; show ((evE O n b σ₁).bind _ : Out Bool).bind _ = _
  rw [h2]; cases q <;> rfl
theorem ev_ite_t (h1 : evE O n t σ = .ok (.bool true) σ₁) (h2 : evE O n a σ₁ = .ok d σ₂) : evE O (n + 1) (.ite t a b) σ = .ok d σ₂ := by
  show (evE O n t σ).bind _ = _
  rw [h1]; exact h2
theorem ev_ite_f (h1 : evE O n t σ = .ok (.bool false) σ₁) (h2 : evE O n b σ₁ = .ok d σ₂) : evE O (n + 1) (.ite t a b) σ = .ok d σ₂ := by
  show (evE O n t σ).bind _ = _
  rw [h1]; exact h2
theorem ev_blt {f : Blt} (h1 : evE O n a σ = .ok x σ₁) (h3 : bltD f x = some z) : evE O (n + 1) (.blt f a) σ = .ok z σ₁ := by
  show (evE O n a σ).bind _ = _
  rw [h1]; show ofO (bltD f x) σ₁ = _
  rw [h3]; rfl
theorem ev_idx (h1 : evE O n a σ = .ok x σ₁) (h2 : evE O n b σ₁ = .ok y σ₂) (h3 : idxD x y = some z) : evE O (n + 1) (.idx a b) σ = .ok z σ₂ := by
  show (evE O n a σ).bind _ = _
  rw [h1]; show (evE O n b σ₁).bind _ = _
  rw [h2]; show ofO (idxD x y) σ₂ = _
  rw [h3]; rfl
theorem ev_callP1 {f : Nat} (h1 : evE O n a σ = .ok x σ₁) (h2 : O.p f [x] = .ok d) : evE O (n + 1) (.callP f [a]) σ = .ok d σ₁ := by
  show (evL (evE O n) [a] σ).bind _ = _
  unfold evL
  rw [h1]
  show (match O.p f [x] with | .ok d => Out.ok d σ₁ | .exc x => .exc x σ₁ | .stuck => .stuck) = _
  rw [h2]
end
noncomputable def chr1 (u : Nat) : Dat := .str ⟨#[u]⟩
noncomputable def hd? (s : List Int) (c : Int) : Bool := match s with
  | [] => false
  | x :: _ => x == c
section
variable {α : Type} {cs s r : List Int} {i m : Nat} {e : α → Dat} {O : Orc} {n : Nat} {x : IE} {d : Dat} {σ σ' : ASt} {fr : Bool}
theorem ret_of (h : evE O 40 x σ = .ok d σ') : outQ fr (evS O IT (n + 1) [.ret x] σ) = outQ fr (.ok (.ret d false) σ') := by
  rw [evS_cons]
  simp only [stepS]
  rw [h]; rfl
theorem sees_ok {u : Nat} (hm : 16 < m) (hz : cs.length ≤ 16000000) (hd : cs.drop i = s) : (orc m).s 16 (rd cs i) [chr1 u] = .ok (.bool (hd? s u)) (rd cs i) := by
  rw [orc_s hm]
  have h : evE (orc 16) 40 (.conn .And [.cmp (.fld true) [.Lt] [.blt .len (.fld false)], .cmp (.idx (.fld false) (.fld true)) [.Eq] [.blt .ord (.var 0)]]) ⟨[some (chr1 u)], none, some (rd cs i)⟩ = .ok (.bool (hd? s u)) ⟨[some (chr1 u)], none, some (rd cs i)⟩ := by
    cases s with
    | nil => exact ev_and_f (at_lt hz hd)
    | cons c r => exact ev_and_t (at_lt hz hd) (ev_cmp (at_get hz hd) (y := .int u) rfl rfl)
  exact ret_of (fr := false) (n := 30) h
end
end
end Mine

namespace Mine
open PySem PySem.W PySem.Calls PyProof.Rows

section
variable {O : Orc} {n : Nat} {a b t : IE} {x y z d : Dat} {p q : Bool} {σ σ₁ σ₂ σ₃ : ASt} {c c' : CmpOp} {u v w : IE}
theorem ev_cmp2 (h1 : evE O n a σ = .ok x σ) (h2 : evE O n b σ = .ok y σ) (h3 : evE O n t σ = .ok z σ) (h4 : cmpD c x y = some p) (h5 : cmpD c' y z = some q) : evE O (n + 1) (.cmp a [c, c'] [b, t]) σ = .ok (.bool (p && q)) σ := by
  show (evE O n a σ).bind _ = _
  rw [h1]; show (((evE O n b σ).bind fun d σ₁ => (ofO (cmpD c x d) σ₁).bind fun b σ₂ => if b then evChain (evE O n) d [c'] [t] σ₂ else .ok false σ₂) : Out Bool).bind _ = _
  rw [h2]; show (((ofO (cmpD c x y) σ).bind fun b σ₂ => if b then evChain (evE O n) y [c'] [t] σ₂ else .ok false σ₂) : Out Bool).bind _ = _
  rw [h4]
  cases p with
  | false => rfl
  | true =>
    show (((evE O n t σ).bind fun d σ₁ => ofO (cmpD c' y d) σ₁) : Out Bool).bind _ = _
    rw [h3]; show (ofO (cmpD c' y z) σ).bind _ = _
    rw [h5]; rfl
theorem ev_and (h1 : evE O n a σ = .ok (.bool p) σ) (h2 : evE O n b σ = .ok (.bool q) σ) : evE O (n + 1) (.conn .And [a, b]) σ = .ok (.bool (p && q)) σ := by
  cases p with
  | false => exact ev_and_f h1
  | true => exact ev_and_t h1 h2
theorem ev_or (h1 : evE O n a σ = .ok (.bool p) σ) (h2 : evE O n b σ = .ok (.bool q) σ) : evE O (n + 1) (.conn .Or [a, b]) σ = .ok (.bool (p || q)) σ := by
  cases p with
  | true => exact ev_or_t h1
  | false => exact ev_or_f h1 h2
theorem ev_or4 {p' q' : Bool} (h1 : evE O n a σ = .ok (.bool p) σ) (h2 : evE O n b σ = .ok (.bool q) σ) (h3 : evE O n u σ = .ok (.bool p') σ) (h4 : evE O n v σ = .ok (.bool q') σ) : evE O (n + 1) (.conn .Or [a, b, u, v]) σ = .ok (.bool (p || (q || (p' || q')))) σ := by
  show ((evE O n a σ).bind _ : Out Bool).bind _ = _
  rw [h1]
  cases p with
  | true => rfl
  | false =>
    show ((evE O n b σ).bind _ : Out Bool).bind _ = _
    rw [h2]
    cases q with
    | true => rfl
    | false =>
      show ((evE O n u σ).bind _ : Out Bool).bind _ = _
      rw [h3]
      cases p' with
      | true => rfl
      | false =>
        show ((evE O n v σ).bind _ : Out Bool).bind _ = _
        rw [h4]
        cases q' <;> rfl
theorem retP (h : evE O 40 a σ = .ok d σ₁) : outP (evS O IT (n + 1) [.ret a] σ) = .ok d := by
  rw [evS_cons]
  simp only [stepS]
  rw [h]; rfl
end

noncomputable def btw (a c b : Int) : Bool := decide (a ≤ c) && decide (c ≤ b)
noncomputable def isCode (c : Int) : Bool := btw 0 c 1114111
noncomputable def isSur (c : Int) : Bool := btw 55296 c 57343
noncomputable def isScal (c : Int) : Bool := isCode c && !isSur c
noncomputable def isBlank (c : Int) : Bool := ([32, 133, 8206, 8207, 8232, 8233] : List Int).any (fun y => y == c) || btw 9 c 13
noncomputable def isSign (c : Int) : Bool := btw 33 c 47 || (btw 58 c 64 || (btw 91 c 96 || btw 123 c 126))
section
variable {m : Nat} {c : Int}
theorem p_code (hm : 0 < m) : (orc m).p 0 [.int c] = .ok (.bool (isCode c)) := by
  rw [orc_p (by decide) hm]
  exact retP (n := 30) (ev_cmp2 (x := .int 0) (y := .int c) (z := .int 1114111) rfl rfl rfl rfl rfl)
theorem p_sur (hm : 1 < m) : (orc m).p 1 [.int c] = .ok (.bool (isSur c)) := by
  rw [orc_p (by decide) hm]
  exact retP (n := 30) (ev_cmp2 (x := .int 55296) (y := .int c) (z := .int 57343) rfl rfl rfl rfl rfl)
theorem p_scal (hm : 2 < m) : (orc m).p 2 [.int c] = .ok (.bool (isScal c)) := by
  rw [orc_p (by decide) hm]
  exact retP (n := 30) (ev_and (ev_callP1 (x := .int c) rfl (p_code (by decide))) (ev_not (ev_callP1 (x := .int c) rfl (p_sur (by decide)))))
theorem p_blank (hm : 13 < m) : (orc m).p 13 [.int c] = .ok (.bool (isBlank c)) := by
  rw [orc_p (by decide) hm]
  exact retP (n := 30) (ev_or (ev_cmp (x := .int c) (y := .tuple [.int 32, .int 133, .int 8206, .int 8207, .int 8232, .int 8233]) rfl rfl rfl) (ev_cmp2 (x := .int 9) (y := .int c) (z := .int 13) rfl rfl rfl rfl rfl))
theorem p_sign (hm : 14 < m) : (orc m).p 14 [.int c] = .ok (.bool (isSign c)) := by
  rw [orc_p (by decide) hm]
  exact retP (n := 30) (ev_or4 (ev_cmp2 (x := .int 33) (y := .int c) (z := .int 47) rfl rfl rfl rfl rfl) (ev_cmp2 (x := .int 58) (y := .int c) (z := .int 64) rfl rfl rfl rfl rfl)
    (ev_cmp2 (x := .int 91) (y := .int c) (z := .int 96) rfl rfl rfl rfl rfl) (ev_cmp2 (x := .int 123) (y := .int c) (z := .int 126) rfl rfl rfl rfl rfl))
end

noncomputable def pTakes (u : Nat) (i : Nat) (s : List Int) : PR Bool := match s with
  | [] => .ok false i []
  | c :: r => if c == (u : Int) then .ok true (i + 1) r else .ok false i (c :: r)
section
variable {cs s r : List Int} {i m u : Nat}
theorem takes_ok (hm : 17 < m) (hz : cs.length ≤ 16000000) (hd : cs.drop i = s) : RelR cs Dat.bool ((orc m).s 17 (rd cs i) [chr1 u]) (pTakes u i s) := by
  rw [orc_s hm]
  refine run_top (fr := false) (O := orc 17) (n := 31) (ss := f17.body) (σ := ⟨[some (chr1 u), none], none, some (rd cs i)⟩) ?_
  refine run_asg (d := .bool (hd? s u)) (σ₁ := ⟨[some (chr1 u), none], none, some (rd cs i)⟩) ?_ ?_
  · exact (rel_call (O := orc 17) (n := 39) (f := 16) (cs := cs) (i := i) (args := [.var 0]) (ds := [chr1 u]) (vs := [some (chr1 u), none]) (own := none) (e := Dat.bool) (r := .ok (hd? s u) i s) rfl ⟨hd, sees_ok (by decide) hz hd⟩).2
  refine run_augAt (b := if hd? s u then 1 else 0) rfl rfl rfl ?_
  refine run_ret (d := .bool (hd? s u)) rfl ?_
  cases s with
  | nil => exact ⟨hd, rfl⟩
  | cons c r =>
    show RelR cs Dat.bool (.ok (.bool (c == (u : Int))) (.rdr (.list (cs.map Dat.int)) (i + if c == (u : Int) then 1 else 0))) (if c == (u : Int) then .ok true (i + 1) r else .ok false i (c :: r))
    cases c == (u : Int) with
    | false => exact ⟨hd, rfl⟩
    | true => exact ⟨drop_tail hd, rfl⟩
end
end Mine

namespace Mine
open PySem PySem.W PySem.Calls PyProof.Rows

noncomputable def isStop (c : Int) : Bool := ([10, 12, 13, 133, 8232, 8233] : List Int).any fun y => y == c
noncomputable def pComment : Nat → Nat → List Int → PR Unit
  | 0, _, _ => .stuck
  | _ + 1, i, [] => .ok () i []
  | n + 1, i, c :: r => if isStop c then .ok () i (c :: r) else pComment n (i + 1) r
noncomputable def pSkip : Nat → Nat → List Int → PR Unit
  | 0, _, _ => .stuck
  | _ + 1, i, [] => .ok () i []
  | n + 1, i, c :: r => if c == 35 then (pComment IT i (c :: r)).bind fun _ j s => pSkip n j s else if isBlank c then pSkip n (i + 1) r else .ok () i (c :: r)
noncomputable abbrev noD (_ : Unit) : Dat := .none

section
variable {α : Type} {cs s r : List Int} {i m u n : Nat} {O : Orc} {vs : List (Option Dat)} {own : Option (Nat × List Dat)} {fr : Bool} {e : α → Dat} {k kb : ASt → Out Fl} {g : Nat → List Int → PR α} {v : Option Dat}
theorem rel_takes {x : Str} (hc : Dat.str x = chr1 u) (hm : 17 < m) (hz : cs.length ≤ 16000000) (hd : cs.drop i = s) : RelE cs vs own Dat.bool (evE (orc m) (n + 2) (.callM 17 [.const (.str x)]) ⟨vs, own, some (rd cs i)⟩) (pTakes u i s) :=
  rel_call (n := n + 1) (ds := [chr1 u]) (by rw [← hc]; rfl) (takes_ok hm hz hd)
theorem rel_not {qb : PR Bool} {σ : ASt} {x : IE} (h : RelE cs vs own Dat.bool (evE O n x σ) qb) : RelE cs vs own Dat.bool (evE O (n + 1) (.not x) σ) (qb.bind fun b i s => .ok (!b) i s) :=
  rel_bind (f := fun x σ₁ => ofO ((asB x).map fun b => Dat.bool !b) σ₁) h fun _ _ _ hd => ⟨hd, rfl⟩

noncomputable def tC : IE := .conn .And [.cmp (.fld true) [.Lt] [.blt .len (.fld false)], .cmp (.idx (.fld false) (.fld true)) [.NotIn] [.tup [.const (.int 10), .const (.int 12), .const (.int 13), .const (.int 133), .const (.int 8232), .const (.int 8233)]]]
theorem comment_ok (hz : cs.length ≤ 16000000) (hg : ∀ j s, cs.drop j = s → RelR cs e (outQ fr (k ⟨[v], none, some (rd cs j)⟩)) (g j s)) : ∀ f i s, cs.drop i = s →
    Rn cs fr e (loopW (evE (orc 15) 40 tC) (evS (orc 15) IT 28 [.augAt (.const (.int 1))]) f ⟨[v], none, some (rd cs i)⟩) k kb ((pComment f i s).bind fun _ j s => g j s)
  | 0, _, _, _ => trivial
  | f + 1, i, [], hd => loop_f (ev_and_f (at_lt hz hd)) (hg i [] hd)
  | f + 1, i, c :: r, hd => by
    have hp : evE (orc 15) 40 tC ⟨[v], none, some (rd cs i)⟩ = .ok (.bool (!isStop c)) ⟨[v], none, some (rd cs i)⟩ := ev_and_t (at_lt hz hd) (ev_cmp (at_get hz hd) (y := .tuple [.int 10, .int 12, .int 13, .int 133, .int 8232, .int 8233]) rfl rfl)
    show Rn cs fr e _ k kb ((if isStop c then PR.ok () i (c :: r) else pComment f (i + 1) r).bind fun _ j s => g j s)
    cases hs : isStop c with
    | true => rw [hs] at hp; exact loop_f hp (hg i _ hd)
    | false =>
      rw [hs] at hp
      exact loop_t hp (run_augAt (b := 1) rfl rfl rfl (run_nil (comment_ok hz hg f (i + 1) r (drop_tail hd))))

noncomputable def bK : List IS := [.asg 0 (.idx (.fld false) (.fld true)), .ite (.cmp (.var 0) [.Eq] [.blt .ord (.const (.str "#"))]) [.whl tC [.augAt (.const (.int 1))]] [.ite (.callP 13 [.var 0]) [.augAt (.const (.int 1))] [.retN]]]
theorem skip_loop (hz : cs.length ≤ 16000000) : ∀ f i s v, cs.drop i = s →
    Rn cs false noD (loopW (evE (orc 15) 40 (.cmp (.fld true) [.Lt] [.blt .len (.fld false)])) (evS (orc 15) IT 30 bK) f ⟨[v], none, some (rd cs i)⟩) (fun σ => .ok .next σ) (fun σ => .ok .brk σ) (pSkip f i s)
  | 0, _, _, _, _ => trivial
  | f + 1, i, [], v, hd => loop_f (at_lt hz hd) ⟨hd, rfl⟩
  | f + 1, i, c :: r, v, hd => by
    refine loop_t (at_lt hz hd) (run_asg (at_get hz hd) ?_)
    show Rn cs false noD _ _ _ (if c == 35 then (pComment IT i (c :: r)).bind fun _ j s => pSkip f j s else if isBlank c then pSkip f (i + 1) r else .ok () i (c :: r))
    have hp : evE (orc 15) 40 (.cmp (.var 0) [.Eq] [.blt .ord (.const (.str "#"))]) ⟨[some (.int c)], none, some (rd cs i)⟩ = .ok (.bool (c == 35)) ⟨[some (.int c)], none, some (rd cs i)⟩ := ev_cmp (x := .int c) (y := .int 35) rfl rfl rfl
    cases hs : c == 35 with
    | true =>
      rw [hs] at hp
      refine run_t hp (run_whl ?_)
      refine comment_ok (g := pSkip f) hz ?_ IT i (c :: r) hd
      exact fun j s h => skip_loop hz f j s _ h
    | false =>
      rw [hs] at hp
      refine run_f hp ?_
      have hb : evE (orc 15) 40 (.callP 13 [.var 0]) ⟨[some (.int c)], none, some (rd cs i)⟩ = .ok (.bool (isBlank c)) ⟨[some (.int c)], none, some (rd cs i)⟩ := ev_callP1 (x := .int c) rfl (p_blank (by decide))
      cases hs : isBlank c with
      | true =>
        rw [hs] at hb
        exact run_t hb (run_augAt (b := 1) rfl rfl rfl (run_nil (skip_loop hz f (i + 1) r _ (drop_tail hd))))
      | false =>
        rw [hs] at hb
        exact run_f hb (run_retN ⟨hd, rfl⟩)
theorem skip_ok (hm : 15 < m) (hz : cs.length ≤ 16000000) (hd : cs.drop i = s) : RelR cs noD ((orc m).s 15 (rd cs i) []) (pSkip IT i s) := by
  rw [orc_s hm]
  refine run_top (fr := false) (O := orc 15) (n := 31) (ss := f15.body) (σ := ⟨[none], none, some (rd cs i)⟩) ?_
  exact run_whl (skip_loop hz IT i s none hd)
end
end Mine

namespace Mine
open PySem PySem.W PySem.Calls PyProof.Rows

section
variable {α : Type} {cs : List Int} {fr : Bool} {e : α → Dat} {O : Orc} {n : Nat} {ss : List IS} {σ σ₁ σ₂ : ASt} {k kb : ASt → Out Fl} {r : PR α} {t x : IE} {d : Dat} {j : Nat} {ks : List Nat} {es : List IE} {ds : List Dat} {sa : List IS} {p : Bool} {res : Res}
theorem p_ite_ret (h : evE O 40 t σ = .ok (.bool p) σ) (h1 : evE O 40 x σ = .ok d σ) (h2 : outP (evS O IT (n + 2) ss σ) = res) : outP (evS O IT (n + 2) (.ite t [.ret x] [] :: ss) σ) = if p then .ok d else res := by
  rw [evS_cons]
  simp only [stepS]
  rw [h]
  cases p with
  | true =>
    show outP (cont (evS O IT (n + 1) [.ret x] σ) _ _) = _
    rw [evS_cons]
    simp only [stepS]
    rw [h1]; rfl
  | false => exact h2
theorem run_asgT (h : evL (evE O 40) es σ = .ok ds σ₁) (hp : putVars ks ds σ₁ = some σ₂) (q : Run cs fr e O (n + 1) ss σ₂ k kb r) : Run cs fr e O (n + 1) (.asgT ks es :: ss) σ k kb r := by
  refine run_cons ?_
  simp only [stepS]
  rw [h]
  show Rn cs fr e (match putVars ks ds σ₁ with | some σ₂ => .ok .next σ₂ | none => .stuck) _ _ _
  rw [hp]
  exact rn_next q
theorem loopF_nil {b : ASt → Out Fl} (q : RelR cs e (outQ fr (k σ)) r) : Rn cs fr e (loopF j b [] σ) k kb r := q
theorem loopF_cons {b : ASt → Out Fl} (q : Rn cs fr e (b (putVar j d σ)) (fun σ => cont (loopF j b ds σ) k kb) k r) : Rn cs fr e (loopF j b (d :: ds) σ) k kb r := by
  have e1 : loopF j b (d :: ds) σ = cont (b (putVar j d σ)) (loopF j b ds) fun σ => .ok .next σ := by
    show (b (putVar j d σ)).bind _ = _
    cases b (putVar j d σ) with
    | ok f σ => cases f <;> rfl
    | exc => rfl
    | stuck => rfl
  rw [e1]
  unfold Rn at q ⊢
  rw [cont_cont]; exact q
theorem run_forL (h : evE O 40 x σ = .ok d σ₁) (hi : itemsD d = some ds) (hz : sz ds.length = true) (q : Rn cs fr e (loopF j (evS O IT n sa) ds σ₁) (fun σ => cont (evS O IT (n + 1) ss σ) k kb) kb r) : Run cs fr e O (n + 1) (.forL j x sa :: ss) σ k kb r := by
  refine run_cons ?_
  simp only [stepS]
  rw [h]
  show Rn cs fr e (match itemsD d with | some ds => if sz ds.length then loopF j (evS O IT n sa) ds σ₁ else .stuck | none => .stuck) _ _ _
  rw [hi]
  dsimp only
  rw [if_pos hz]
  exact q
end

noncomputable def hexV (c : Int) : Option Int := if btw 48 c 57 then some (c - 48) else if btw 65 c 70 then some (c - 55) else if btw 97 c 102 then some (c - 87) else none
noncomputable def optD : Option Int → Dat
  | none => .none
  | some v => .int v
theorem p_hex {m : Nat} {c : Int} (hm : 7 < m) : (orc m).p 7 [.int c] = .ok (optD (hexV c)) := by
  rw [orc_p (by decide) hm]
  have : outP (evS (orc 7) IT 31 f7.body ⟨[some (.int c)], none, none⟩) = (if btw 48 c 57 then Res.ok (.int (c - 48)) else if btw 65 c 70 then .ok (.int (c - 55)) else if btw 97 c 102 then .ok (.int (c - 87)) else .ok .none) := p_ite_ret (n := 29) (ev_cmp2 (x := .int 48) (y := .int c) (z := .int 57) rfl rfl rfl rfl rfl) (ev_bin (x := .int c) (y := .int 48) rfl rfl rfl)
    (p_ite_ret (n := 29) (ev_cmp2 (x := .int 65) (y := .int c) (z := .int 70) rfl rfl rfl rfl rfl) (ev_bin (x := .int c) (y := .int 55) rfl rfl rfl)
      (p_ite_ret (n := 29) (ev_cmp2 (x := .int 97) (y := .int c) (z := .int 102) rfl rfl rfl rfl rfl) (ev_bin (x := .int c) (y := .int 87) rfl rfl rfl) (retP (n := 30) rfl)))
  refine Eq.trans this ?_
  unfold hexV
  cases btw 48 c 57 <;> cases btw 65 c 70 <;> cases btw 97 c 102 <;> rfl

theorem pick_ok {cs s : List Int} {i w : Nat} (hd : cs.drop i = s) : pickD (cs.map Dat.int) (some (i : Int)) (some ((i : Int) + w)) = (s.take w).map Dat.int := by
  have a1 : kms_lo (some (i : Int)) (cs.map Dat.int).length = min i cs.length := by
    unfold kms_lo
    dsimp only
    rw [if_neg (by omega), List.length_map]; rfl
  have a2 : kms_hi (some ((i : Int) + w)) (cs.map Dat.int).length = min (i + w) cs.length := by
    unfold kms_hi
    dsimp only
    rw [if_neg (by omega), List.length_map]; rfl
  unfold pickD
  rw [a1, a2, ← List.map_drop, ← List.map_take]
  congr 1
  have hl := drop_lt hd
  by_cases q : i ≤ cs.length
  · rw [Nat.min_eq_left q, hd]
    by_cases q2 : i + w ≤ cs.length
    · rw [Nat.min_eq_left q2, Nat.add_sub_cancel_left]
    · rw [Nat.min_eq_right (by omega), List.take_of_length_le (by omega), List.take_of_length_le (by omega)]
  · rw [Nat.min_eq_right (by omega), Nat.min_eq_right (by omega), Nat.sub_self, List.take_zero]
    have : s = [] := List.eq_nil_of_length_eq_zero (by omega)
    rw [this, List.take_nil]
theorem sl_ok {cs s : List Int} {i w : Nat} (hz : cs.length ≤ 16000000) (hd : cs.drop i = s) : slD (.list (cs.map Dat.int)) (some (i : Int)) (some ((i : Int) + w)) = some (lst (s.take w)) := by
  have : sz (cs.map Dat.int).length = true := by unfold sz; rw [sizeLine_eq, List.length_map]; exact decide_eq_true (by omega)
  unfold slD
  dsimp only
  rw [if_pos this, pick_ok hd]
theorem ev_sl {O : Orc} {n : Nat} {a b c : IE} {x z : Dat} {i j : Int} {σ : ASt} (h1 : evE O n a σ = .ok x σ) (h2 : evE O n b σ = .ok (.int i) σ) (h3 : evE O n c σ = .ok (.int j) σ) (h4 : slD x (some i) (some j) = some z) : evE O (n + 1) (.sl a (some b) (some c)) σ = .ok z σ := by
  have e0 : evE O (n + 1) (.sl a (some b) (some c)) σ = (evE O n a σ).bind fun x σ₁ => (evOpt (evE O n) (some b) σ₁).bind fun l σ₂ => (evOpt (evE O n) (some c) σ₂).bind fun r σ₃ => ofO (slD x l r) σ₃ := rfl
  rw [e0, h1]
  show ((evOpt (evE O n) (some b) σ).bind fun l σ₂ => (evOpt (evE O n) (some c) σ₂).bind fun r σ₃ => ofO (slD x l r) σ₃) = _
  simp only [evOpt]
  rw [h2]
  show ((((evE O n c σ).bind fun d σ₁ => match asI d with | some i => .ok (some i) σ₁ | none => .stuck) : Out (Option Int)).bind fun r σ₃ => ofO (slD x (some i) r) σ₃) = _
  rw [h3]
  show ofO (slD x (some i) (some j)) σ = _
  rw [h4]; rfl
end Mine

namespace Mine
open PySem PySem.W PySem.Calls PyProof.Rows

noncomputable def hexes (i : Nat) (rest : List Int) (pl : Int) : Int → List Int → PR Int
  | a, [] => .ok a i rest
  | a, c :: r => if small a then (match hexV c with
    | none => .err pl
    | some v => hexes i rest pl (16 * a + v) r) else .stuck
noncomputable def lenGe : Nat → List Int → Bool
  | 0, _ => true
  | _ + 1, [] => false
  | n + 1, _ :: r => lenGe n r
noncomputable def pFig (w : Nat) (i : Nat) (s : List Int) : PR Int := (hexes i s i 0 (s.take w)).bind fun v _ _ => if !lenGe w s || !isScal v then .err i else .ok v (i + w) (s.drop w)
noncomputable def pEsc (i : Nat) : List Int → PR Int
  | [] => .err i
  | c :: r => if c == 117 then pFig 4 (i + 1) r else if c == 85 then pFig 8 (i + 1) r else .ok c (i + 1) r
theorem lenGe_iff : ∀ {w : Nat} {s : List Int}, lenGe w s = decide (w ≤ s.length)
  | 0, _ => rfl
  | _ + 1, [] => rfl
  | w + 1, _ :: r => by
    show lenGe w r = _
    rw [lenGe_iff, List.length_cons]
    exact decide_eq_decide.mpr (by omega)

section
variable {α : Type} {cs s r : List Int} {i m u n : Nat} {fr : Bool} {e : α → Dat} {k kb : ASt → Out Fl} {v4 v5 : Option Dat} {c' w' : Option Dat}
noncomputable def bF : List IS := [.asg 5 (.callP 7 [.var 4]), .ite (.cmp (.var 5) [.Is] [.const .none]) [.raise 0 (.var 3)] [], .asg 2 (.bin .Add (.bin .Mult (.const (.int 16)) (.var 2)) (.var 5))]
theorem fig_loop {p : Int} {g : Int → Nat → List Int → PR α} (hg : ∀ a v4 v5, RelR cs e (outQ fr (k ⟨[c', w', some (.int a), some (.int p), v4, v5], none, some (rd cs i)⟩)) (g a i s)) : ∀ (l : List Int) (a : Int) (v4 v5 : Option Dat),
    Rn cs fr e (loopF 4 (evS (orc 18) IT 30 bF) (l.map Dat.int) ⟨[c', w', some (.int a), some (.int p), v4, v5], none, some (rd cs i)⟩) k kb ((hexes i s p a l).bind g)
  | [], a, v4, v5 => loopF_nil (hg a v4 v5)
  | c :: l, a, v4, v5 => by
    refine loopF_cons (run_asg (d := optD (hexV c)) (ev_callP1 (x := .int c) rfl (p_hex (by decide))) ?_)
    show Rn cs fr e _ _ _ ((if small a then (match hexV c with
      | none => PR.err p
      | some v => hexes i s p (16 * a + v) l) else .stuck).bind g)
    cases hs : small a with
    | false => trivial
    | true =>
      cases hv : hexV c with
      | none => exact run_t (by exact rfl) (run_raise (by exact rfl) rfl)
      | some v =>
        refine run_f (by exact rfl) (run_nil (run_asg (ev_bin (x := .int (16 * a)) (y := .int v) (ev_bin (x := .int 16) (y := .int a) rfl rfl ?_) rfl rfl) (run_nil ?_)))
        · show (if small 16 && small a then some (Dat.int (16 * a)) else none) = _
          rw [hs]; rfl
        · exact fig_loop hg l _ _ _

theorem len_ok (hz : cs.length ≤ 16000000) : bltD .len (.list (cs.map Dat.int)) = some (.int (cs.length : Int)) := by
  simp only [bltD]
  rw [lenD_ok (by rwa [List.length_map]), List.length_map]; rfl
noncomputable def tR : List IS := [.asgT [2, 3] [.const (.int 0), .fld true], .forL 4 (.sl (.fld false) (some (.fld true)) (some (.bin .Add (.fld true) (.var 1)))) bF,
  .ite (.conn .Or [.cmp (.bin .Add (.var 3) (.var 1)) [.Gt] [.blt .len (.fld false)], .not (.callP 2 [.var 2])]) [.raise 0 (.var 3)] [], .augAt (.var 1), .ret (.var 2)]
theorem fig_ok {w : Nat} {c0 : Option Dat} {v2 v3 : Option Dat} (hz : cs.length ≤ 16000000) (hd : cs.drop i = s) (hw : w ≤ 8) (h0 : 0 < w) : Run cs false Dat.int (orc 18) 31 tR ⟨[c0, some (.int w), v2, v3, v4, v5], none, some (rd cs i)⟩ (fun σ => .ok .next σ) (fun σ => .ok .brk σ) (pFig w i s) := by
  refine run_asgT (ds := [.int 0, .int i]) (σ₂ := ⟨[c0, some (.int w), some (.int 0), some (.int i), v4, v5], none, some (rd cs i)⟩) rfl rfl ?_
  refine run_forL (d := lst (s.take w)) (ds := (s.take w).map Dat.int) (σ₁ := ⟨[c0, some (.int w), some (.int 0), some (.int i), v4, v5], none, some (rd cs i)⟩) (ev_sl (x := .list (cs.map Dat.int)) (i := i) (j := (i : Int) + w) rfl rfl rfl (sl_ok hz hd)) rfl ?_ ?_
  · unfold sz
    rw [sizeLine_eq]
    exact decide_eq_true (by rw [List.length_map, List.length_take]; omega)
  refine fig_loop ?_ (s.take w) 0 v4 v5
  intro a v4 v5
  have h1 : evE (orc 18) 39 (.cmp (.bin .Add (.var 3) (.var 1)) [.Gt] [.blt .len (.fld false)]) ⟨[c0, some (.int w), some (.int a), some (.int i), v4, v5], none, some (rd cs i)⟩ = .ok (.bool (!lenGe w s)) ⟨[c0, some (.int w), some (.int a), some (.int i), v4, v5], none, some (rd cs i)⟩ := by
    refine ev_cmp (x := .int ((i : Int) + w)) (y := .int cs.length) rfl (ev_blt (x := .list (cs.map Dat.int)) rfl (len_ok hz)) ?_
    rw [lenGe_iff]
    show some (decide ((cs.length : Int) < (i : Int) + w)) = some (!decide (w ≤ s.length))
    rw [← decide_not]
    refine congrArg some (decide_eq_decide.mpr ?_)
    have := drop_lt hd
    omega
  have h2 := ev_or h1 (ev_not (ev_callP1 (a := .var 2) (x := .int a) (O := orc 18) (n := 37) (σ := ⟨[c0, some (.int w), some (.int a), some (.int i), v4, v5], none, some (rd cs i)⟩) rfl (p_scal (by decide))))
  show Rn cs false Dat.int _ _ _ (if !lenGe w s || !isScal a then PR.err (i : Int) else .ok a (i + w) (s.drop w))
  cases hb : !lenGe w s || !isScal a with
  | true =>
    rw [hb] at h2
    exact run_t h2 (run_raise (by exact rfl) rfl)
  | false =>
    rw [hb] at h2
    refine run_f h2 (run_nil (run_augAt (b := w) rfl rfl rfl (run_ret (d := .int a) rfl ⟨?_, rfl⟩)))
    rw [← hd, List.drop_drop]

theorem esc_ok (hm : 18 < m) (hz : cs.length ≤ 16000000) (hd : cs.drop i = s) : RelR cs Dat.int ((orc m).s 18 (rd cs i) []) (pEsc i s) := by
  rw [orc_s hm]
  refine run_top (fr := false) (O := orc 18) (n := 31) (ss := f18.body) (σ := ⟨[none, none, none, none, none, none], none, some (rd cs i)⟩) ?_
  cases s with
  | nil => exact run_t (at_ge hz hd) (run_raise (d := .int i) (by exact rfl) rfl)
  | cons c r =>
    refine run_f (at_ge hz hd) (run_nil (run_asg (at_get hz hd) (run_augAt (b := 1) rfl rfl rfl ?_)))
    have t : ∀ (x : Str) (u : Nat), Dat.str x = chr1 u → ∀ n, evE (orc 18) (n + 3) (.cmp (.var 0) [.Eq] [.blt .ord (.const (.str x))]) ⟨[some (.int c), none, none, none, none, none], none, some (rd cs (i + 1))⟩ = .ok (.bool (c == (u : Int))) ⟨[some (.int c), none, none, none, none, none], none, some (rd cs (i + 1))⟩ := fun x u h n =>
      ev_cmp (x := .int c) (y := .int u) rfl (ev_blt (x := chr1 u) (by rw [← h]; rfl) rfl) rfl
    have t1 := t "u" 117 rfl
    have t2 := t "U" 85 rfl
    show Rn cs false Dat.int _ _ _ (if c == 117 then pFig 4 (i + 1) r else if c == 85 then pFig 8 (i + 1) r else .ok c (i + 1) r)
    cases h1 : c == 117 with
    | true =>
      have t1 := t1 36
      rw [show (((117 : Nat) : Int)) = 117 from rfl, h1] at t1
      refine run_asg (d := .int (4 : Nat)) (ev_ite_t t1 rfl) (run_f (by exact rfl) (run_nil (fig_ok hz (drop_tail hd) (by decide) (by decide))))
    | false =>
      have t1 := t1 36
      rw [show (((117 : Nat) : Int)) = 117 from rfl, h1] at t1
      have t2 := t2 35
      cases h2 : c == 85 with
      | true =>
        rw [show (((85 : Nat) : Int)) = 85 from rfl, h2] at t2
        refine run_asg (d := .int (8 : Nat)) (ev_ite_f t1 (ev_ite_t t2 rfl)) (run_f (by exact rfl) (run_nil (fig_ok hz (drop_tail hd) (by decide) (by decide))))
      | false =>
        rw [show (((85 : Nat) : Int)) = 85 from rfl, h2] at t2
        exact run_asg (d := .int (0 : Nat)) (ev_ite_f t1 (ev_ite_f t2 rfl)) (run_t (by exact rfl) (run_ret (d := .int c) (by exact rfl) ⟨drop_tail hd, rfl⟩))
end
end Mine

namespace Mine
open PySem PySem.W PySem.Calls PyProof.Rows

/-- a list that is not too long -/
noncomputable def gd {α : Type} (n : Nat) (r : PR α) : PR α := if Nat.ble n 16000000 then r else .stuck
theorem gd_ok {α : Type} {n : Nat} {r : PR α} (h : n ≤ 16000000) : gd n r = r := if_pos (Nat.ble_eq.mpr h)
noncomputable def isTwo : List Int → Bool
  | a :: b :: _ => a == 39 && b == 39
  | _ => false
noncomputable def pDbl : Nat → List Int → Nat → List Int → PR (List Int)
  | 0, _, _, _ => .stuck
  | n + 1, acc, i, s => if isTwo s then gd (acc.length + 1) (pDbl n (acc ++ [39]) (i + 2) (s.drop 2)) else .ok acc i s
noncomputable def pQ : Nat → List Int → Nat → List Int → PR (List Int)
  | 0, _, _, _ => .stuck
  | n + 1, acc, i, s => (pTakes 39 i s).bind fun b i s => if b then .ok acc i s else match s with
    | [] => .err i
    | c :: r => gd (acc.length + 1) ((pDbl IT (acc ++ [c]) (i + 1) r).bind (pQ n))
noncomputable def pQuoted (i : Nat) (s : List Int) : PR (List Int) := (pTakes 39 i s).bind fun b i s => if b then .ok [39] i s else pQ IT [] i s

theorem sz_ok {n : Nat} (h : n ≤ 16000000) : sz n = true := by unfold sz; rw [sizeLine_eq]; exact decide_eq_true (by omega)
theorem two_ok {s : List Int} : cmpD .Eq (lst (s.take 2)) (lst [39, 39]) = some (isTwo s) := by
  match s with
  | [] => rfl
  | [a] => exact congrArg some (Bool.and_false (a == 39))
  | a :: b :: r => exact congrArg some (congrArg ((a == 39) && ·) (Bool.and_true (b == 39)))

section
variable {α β : Type} {cs s r : List Int} {i m u n : Nat} {fr : Bool} {e : α → Dat} {k kb : ASt → Out Fl}
theorem rn_gd {o : Out Fl} {q : PR α} (h : sz n = true → Rn cs fr e o k kb q) : Rn cs fr e o k kb (gd n q) := by
  unfold gd
  cases hn : Nat.ble n 16000000 with
  | true => exact h (sz_ok (Nat.ble_eq.mp hn))
  | false => trivial
theorem rn_gdb {o : Out Fl} {q : PR β} {g : β → Nat → List Int → PR α} (h : sz n = true → Rn cs fr e o k kb (q.bind g)) : Rn cs fr e o k kb ((gd n q).bind g) := by
  unfold gd
  cases hn : Nat.ble n 16000000 with
  | true => exact h (sz_ok (Nat.ble_eq.mp hn))
  | false => trivial
theorem bind_bind {α β γ : Type} (q : PR α) (f : α → Nat → List Int → PR β) (g : β → Nat → List Int → PR γ) : (q.bind f).bind g = q.bind fun a i s => (f a i s).bind g := by cases q <;> rfl
noncomputable def tD : IE := .cmp (.blt .list (.sl (.fld false) (some (.fld true)) (some (.bin .Add (.fld true) (.const (.int 2)))))) [.Eq] [.list [.blt .ord (.const (.str "'")), .blt .ord (.const (.str "'"))]]
theorem dbl_ok {g : List Int → Nat → List Int → PR α} (hz : cs.length ≤ 16000000) (hg : ∀ acc j s, cs.drop j = s → RelR cs e (outQ fr (k ⟨[none], some (0, acc.map Dat.int), some (rd cs j)⟩)) (g acc j s)) : ∀ f acc i s, cs.drop i = s →
    Rn cs fr e (loopW (evE (orc 19) 40 tD) (evS (orc 19) IT 29 [.app 0 (.blt .ord (.const (.str "'"))), .augAt (.const (.int 2))]) f ⟨[none], some (0, acc.map Dat.int), some (rd cs i)⟩) k kb ((pDbl f acc i s).bind g)
  | 0, _, _, _, _ => trivial
  | f + 1, acc, i, s, hd => by
    have h0 : evE (orc 19) 40 tD ⟨[none], some (0, acc.map Dat.int), some (rd cs i)⟩ = .ok (.bool (isTwo s)) ⟨[none], some (0, acc.map Dat.int), some (rd cs i)⟩ := by
      refine ev_cmp (x := lst (s.take 2)) (y := lst [39, 39]) (ev_blt (ev_sl (x := .list (cs.map Dat.int)) (i := i) (j := (i : Int) + (2 : Nat)) rfl rfl rfl (sl_ok hz hd)) ?_) rfl two_ok
      show (if sz ((s.take 2).map Dat.int).length then some (lst (s.take 2)) else none) = _
      rw [if_pos (sz_ok (by rw [List.length_map, List.length_take]; omega))]
    show Rn cs fr e _ k kb ((if isTwo s then gd (acc.length + 1) (pDbl f (acc ++ [39]) (i + 2) (s.drop 2)) else .ok acc i s).bind g)
    cases hs : isTwo s with
    | false => rw [hs] at h0; exact loop_f h0 (hg acc i s hd)
    | true =>
      rw [hs] at h0
      refine rn_gdb fun hz' => loop_t h0 (run_app (d := .int 39) rfl rfl rfl (by rw [List.length_map]; exact hz') (run_augAt (b := 2) rfl rfl rfl (run_nil ?_)))
      have := dbl_ok hz hg f (acc ++ [39]) (i + 2) (s.drop 2) (by rw [← List.drop_drop, hd])
      rw [List.map_append] at this
      exact this

noncomputable def bQ : List IS := [.ite (.cmp (.fld true) [.GtE] [.blt .len (.fld false)]) [.raise 0 (.fld true)] [], .app 0 (.idx (.fld false) (.fld true)), .augAt (.const (.int 1)), .whl tD [.app 0 (.blt .ord (.const (.str "'"))), .augAt (.const (.int 2))]]
theorem quote_loop (hz : cs.length ≤ 16000000) : ∀ f acc i s, cs.drop i = s →
    Rn cs false lst (loopW (evE (orc 19) 40 (.not (.callM 17 [.const (.str "'")]))) (evS (orc 19) IT 30 bQ) f ⟨[none], some (0, acc.map Dat.int), some (rd cs i)⟩) (fun σ => cont (evS (orc 19) IT 31 [.retOwn 0] σ) (fun σ => .ok .next σ) (fun σ => .ok .brk σ)) (fun σ => .ok .brk σ) (pQ f acc i s)
  | 0, _, _, _, _ => trivial
  | f + 1, acc, i, s, hd => by
    have h0 := rel_not (rel_takes (vs := [none]) (own := some (0, acc.map Dat.int)) (n := 37) (m := 19) (x := "'") (u := 39) rfl (by decide) hz hd)
    have e0 : pQ (f + 1) acc i s = ((pTakes 39 i s).bind fun b i s => .ok (!b) i s).bind fun b i s => if !b then .ok acc i s else match s with
      | [] => .err i
      | c :: r => gd (acc.length + 1) ((pDbl IT (acc ++ [c]) (i + 1) r).bind (pQ f)) := by
      show (pTakes 39 i s).bind _ = _
      cases pTakes 39 i s with
      | ok b i s => cases b <;> rfl
      | err => rfl
      | stuck => rfl
    rw [e0]
    refine loop_rel h0 (fun j s' hd' => ?_) fun j s' hd' => run_retOwn rfl ⟨hd', rfl⟩
    cases s' with
    | nil => exact run_t (at_ge hz hd') (run_raise (d := .int j) (by exact rfl) rfl)
    | cons c r =>
      refine rn_gd fun hz' => run_f (at_ge hz hd') (run_nil (run_app rfl (at_get hz hd') rfl (by rw [List.length_map]; exact hz') (run_augAt (b := 1) rfl rfl rfl (run_whl ?_))))
      have := dbl_ok (k := fun σ => cont (loopW (evE (orc 19) 40 (.not (.callM 17 [.const (.str "'")]))) (evS (orc 19) IT 30 bQ) f σ) (fun σ => cont (evS (orc 19) IT 31 [.retOwn 0] σ) (fun σ => .ok .next σ) (fun σ => .ok .brk σ)) (fun σ => .ok .brk σ)) (kb := fun σ => cont (evS (orc 19) IT 31 [.retOwn 0] σ) (fun σ => .ok .next σ) (fun σ => .ok .brk σ)) (g := pQ f) hz (fun acc j s h => quote_loop hz f acc j s h) IT (acc ++ [c]) (j + 1) r (drop_tail hd')
      rw [List.map_append] at this
      exact this
theorem quoted_ok (hm : 19 < m) (hz : cs.length ≤ 16000000) (hd : cs.drop i = s) : RelR cs lst ((orc m).s 19 (rd cs i) []) (pQuoted i s) := by
  rw [orc_s hm]
  refine run_top (fr := false) (O := orc 19) (n := 31) (ss := f19.body) (σ := ⟨[none], none, some (rd cs i)⟩) ?_
  refine run_ite_rel (rel_takes (vs := [none]) (own := none) (n := 38) (m := 19) (x := "'") (u := 39) rfl (by decide) hz hd) (fun j s' hd' => run_ret (d := lst [39]) (by exact rfl) ⟨hd', rfl⟩) fun j s' hd' => run_nil (run_cons (rn_next (run_whl ?_)))
  exact quote_loop hz IT [] j s' hd'
end
end Mine

namespace Mine
open PySem PySem.W PySem.Calls PyProof.Rows

noncomputable def pStr : Nat → List Int → Nat → List Int → PR (List Int)
  | 0, _, _, _ => .stuck
  | _ + 1, acc, i, [] => .ok acc i []
  | n + 1, acc, i, c :: r => (pTakes 39 i (c :: r)).bind fun b i s => if b then (pQuoted i s).bind fun q i s => gd (acc.length + q.length) (pStr n (acc ++ q) i s)
    else (pTakes 92 i s).bind fun b i s => if b then (pEsc i s).bind fun v i s => gd (acc.length + 1) (pStr n (acc ++ [v]) i s)
    else if isSign c || isBlank c then .ok acc i s else gd (acc.length + 1) (pStr n (acc ++ [c]) (i + 1) s.tail)
noncomputable def pString (i : Nat) (s : List Int) : PR (List Int) := (pSkip IT i s).bind fun _ i s => (pStr IT [] i s).bind fun acc j s => if acc.isEmpty then .err i else .ok acc j s

theorem drop_tl {cs s : List Int} {i : Nat} (hd : cs.drop i = s) : cs.drop (i + 1) = s.tail := by rw [← List.drop_drop, hd, List.drop_one]
theorem kqd_ints : ∀ {l : List Int} {n : Nat}, (l.map Dat.int).all (kqdOk n) = true
  | [], _ => rfl
  | _ :: l, n => by
    show (kqdOk n (.int _) && (l.map Dat.int).all (kqdOk n)) = true
    rw [kqd_ints]; cases n <;> rfl
theorem ownNil_ok {O : Orc} {n k : Nat} {vs : List (Option Dat)} {l : List Int} {st : Option St} : evE O (n + 1) (.ownNil k) ⟨vs, some (k, l.map Dat.int), st⟩ = .ok (.bool l.isEmpty) ⟨vs, some (k, l.map Dat.int), st⟩ := by
  have e0 : evE O (n + 1) (.ownNil k) ⟨vs, some (k, l.map Dat.int), st⟩ = if decide (k = k) && kqdOk 8 (lst l) then .ok (.bool (l.map Dat.int).isEmpty) ⟨vs, some (k, l.map Dat.int), st⟩ else .stuck := rfl
  have e1 : kqdOk 8 (lst l) = (l.map Dat.int).all (kqdOk 7) := rfl
  rw [e0, e1, kqd_ints, decide_eq_true rfl]
  cases l <;> rfl

section
variable {α β : Type} {cs s r : List Int} {i m u n : Nat} {fr : Bool} {e : α → Dat} {k kb : ASt → Out Fl}
theorem rel_call0 {f : Nat} {O : Orc} {vs : List (Option Dat)} {own : Option (Nat × List Dat)} {q : PR α} (h : RelR cs e (O.s f (rd cs i) []) q) : RelE cs vs own e (evE O (n + 1) (.callM f []) ⟨vs, own, some (rd cs i)⟩) q := rel_call (ds := []) rfl h

noncomputable def bS : List IS := [.asg 2 (.idx (.fld false) (.fld true)), .ite (.callM 17 [.const (.str "'")]) [.ext 0 (.callM 19 [])] [.ite (.callM 17 [.const (.str "\\")]) [.app 0 (.callM 18 [])] [.ite (.conn .Or [.callP 14 [.var 2], .callP 13 [.var 2]]) [.brk] [.app 0 (.var 2), .augAt (.const (.int 1))]]]]
theorem run_ext_rel {O : Orc} {ss : List IS} {σ : ASt} {j : Nat} {x : IE} {ys xs : List Dat} {vs : List (Option Dat)} {q : PR (List Int)} {g : List Int → Nat → List Int → PR α} (h0 : σ.own = some (j, ys)) (h : RelE cs vs (some (j, xs)) lst (evE O 40 x σ) q)
    (hq : ∀ a i s, cs.drop i = s → sz (xs.length + a.length) = true → Run cs fr e O (n + 1) ss ⟨vs, some (j, xs ++ a.map Dat.int), some (rd cs i)⟩ k kb (g a i s)) : Run cs fr e O (n + 1) (.ext j x :: ss) σ k kb (q.bind fun a i s => gd (xs.length + a.length) (g a i s)) := by
  refine run_cons ?_
  simp only [stepS]
  rw [h0]
  dsimp only
  rw [if_pos rfl]
  refine rn_rel h fun a i s hd => rn_gd fun hz => ?_
  simp only [List.length_map, hz, decide_true, Bool.and_self, if_true]
  exact rn_next (hq a i s hd hz)
theorem str_bind {f i : Nat} {acc r : List Int} {c : Int} {g : List Int → Nat → List Int → PR α} : (pStr (f + 1) acc i (c :: r)).bind g = (pTakes 39 i (c :: r)).bind fun b i s => if b then (pQuoted i s).bind fun q i s => gd (acc.length + q.length) ((pStr f (acc ++ q) i s).bind g)
      else (pTakes 92 i s).bind fun b i s => if b then (pEsc i s).bind fun v i s => gd (acc.length + 1) ((pStr f (acc ++ [v]) i s).bind g)
      else if isSign c || isBlank c then g acc i s else gd (acc.length + 1) ((pStr f (acc ++ [c]) (i + 1) s.tail).bind g) := by
    have gb : ∀ (n : Nat) (q : PR (List Int)), (gd n q).bind g = gd n (q.bind g) := fun n q => by unfold gd; split <;> rfl
    show PR.bind (PR.bind _ _) _ = _
    rw [bind_bind]
    congr 1; funext b i s
    cases b with
    | true =>
      show PR.bind (PR.bind _ _) _ = _
      rw [bind_bind]
      congr 1; funext q i s
      exact gb _ _
    | false =>
      show PR.bind (PR.bind _ _) _ = _
      rw [bind_bind]
      congr 1; funext b i s
      cases b with
      | true =>
        show PR.bind (PR.bind _ _) _ = _
        rw [bind_bind]
        congr 1; funext q i s
        exact gb _ _
      | false =>
        show (if isSign c || isBlank c then PR.ok acc i s else gd (acc.length + 1) (pStr f (acc ++ [c]) (i + 1) s.tail)).bind g = (if isSign c || isBlank c then g acc i s else gd (acc.length + 1) ((pStr f (acc ++ [c]) (i + 1) s.tail).bind g))
        cases isSign c || isBlank c with
        | true => rfl
        | false => exact gb _ _
theorem str_loop {v1 : Option Dat} {g : List Int → Nat → List Int → PR α} (hz : cs.length ≤ 16000000) (hg : ∀ acc v j s, cs.drop j = s → RelR cs e (outQ fr (k ⟨[none, v1, v], some (0, acc.map Dat.int), some (rd cs j)⟩)) (g acc j s)) : ∀ f acc i s v, cs.drop i = s →
    Rn cs fr e (loopW (evE (orc 20) 40 (.cmp (.fld true) [.Lt] [.blt .len (.fld false)])) (evS (orc 20) IT 30 bS) f ⟨[none, v1, v], some (0, acc.map Dat.int), some (rd cs i)⟩) k kb ((pStr f acc i s).bind g)
  | 0, _, _, _, _, _ => trivial
  | f + 1, acc, i, [], v, hd => loop_f (at_lt hz hd) (hg acc v i [] hd)
  | f + 1, acc, i, c :: r, v, hd => by
    refine loop_t (at_lt hz hd) (run_asg (at_get hz hd) ?_)
    rw [str_bind]
    have hl : (acc.map Dat.int).length = acc.length := List.length_map ..
    refine run_ite_rel (rel_takes (vs := [none, v1, some (.int c)]) (own := some (0, acc.map Dat.int)) (n := 38) (m := 20) (x := "'") (u := 39) rfl (by decide) hz hd) (fun j s' hd' => ?_) fun j s' hd' => ?_
    · have := run_ext_rel (j := 0) (n := 28) (ss := []) (cs := cs) (fr := fr) (e := e) (k := fun σ => cont (evS (orc 20) IT 30 [] σ) (fun σ => cont (loopW (evE (orc 20) 40 (.cmp (.fld true) [.Lt] [.blt .len (.fld false)])) (evS (orc 20) IT 30 bS) f σ) k kb) k) (kb := k) (O := orc 20) (x := .callM 19 []) (σ := ⟨[none, v1, some (.int c)], some (0, acc.map Dat.int), some (rd cs j)⟩) (vs := [none, v1, some (.int c)]) (xs := acc.map Dat.int) (g := fun q i s => (pStr f (acc ++ q) i s).bind g) rfl (rel_call0 (n := 39) (quoted_ok (by decide) hz hd')) fun q j s h _ => run_nil (by
        have := str_loop hz hg f (acc ++ q) j s (some (.int c)) h
        rw [List.map_append] at this
        exact this)
      rw [hl] at this
      exact this
    · refine run_ite_rel (rel_takes (vs := [none, v1, some (.int c)]) (own := some (0, acc.map Dat.int)) (n := 38) (m := 20) (x := "\\") (u := 92) rfl (by decide) hz hd') (fun j s' hd' => ?_) fun j s' hd' => ?_
      · refine run_cons ?_
        refine rn_rel (e' := Dat.int) (vs := [none, v1, some (.int c)]) (own := some (0, acc.map Dat.int)) (rel_call0 (n := 39) (f := 18) (O := orc 20) (esc_ok (by decide) hz hd')) fun w j s h => rn_gd fun hz' => ?_
        simp only [hl, hz', decide_true, Bool.and_self, if_true]
        have := str_loop hz hg f (acc ++ [w]) j s (some (.int c)) h
        rw [List.map_append] at this
        exact rn_next this
      · have h2 := ev_or (n := 39) (O := orc 20) (a := .callP 14 [.var 2]) (b := .callP 13 [.var 2]) (σ := ⟨[none, v1, some (.int c)], some (0, acc.map Dat.int), some (rd cs j)⟩) (ev_callP1 (x := .int c) rfl (p_sign (by decide))) (ev_callP1 (x := .int c) rfl (p_blank (by decide)))
        cases hb : isSign c || isBlank c with
        | true =>
          rw [hb] at h2
          exact run_t h2 (run_brk (hg acc _ j s' hd'))
        | false =>
          rw [hb] at h2
          refine run_f h2 (rn_gd fun hz' => run_app rfl (d := .int c) rfl rfl (by rw [hl]; exact hz') (run_augAt (b := 1) rfl rfl rfl (run_nil ?_)))
          have := str_loop hz hg f (acc ++ [c]) (j + 1) s'.tail (some (.int c)) (drop_tl hd')
          rw [List.map_append] at this
          exact this
theorem string_ok (hm : 20 < m) (hz : cs.length ≤ 16000000) (hd : cs.drop i = s) : RelR cs lst ((orc m).s 20 (rd cs i) []) (pString i s) := by
  rw [orc_s hm]
  refine run_top (fr := true) (O := orc 20) (n := 31) (ss := f20.body) (σ := ⟨[none, none, none], none, some (rd cs i)⟩) ?_
  refine run_expr_rel (rel_call0 (n := 39) (skip_ok (by decide) hz hd)) fun _ j s' hd' => run_cons (rn_next (run_whl ?_))
  refine str_loop (v1 := some (.int j)) (k := fun σ => cont (evS (orc 20) IT 31 [.ite (.ownNil 0) [.raise 0 (.var 1)] [], .retOwn 0] σ) (fun σ => .ok .next σ) fun σ => .ok .brk σ) (g := fun acc j' s => if acc.isEmpty then .err j else .ok acc j' s) hz (fun acc v j' s'' h => ?_) IT [] j s' none hd'
  have h1 := ownNil_ok (O := orc 20) (n := 39) (k := 0) (vs := [none, some (.int j), v]) (l := acc) (st := some (rd cs j'))
  cases ha : acc.isEmpty with
  | true =>
    rw [ha] at h1
    exact run_t (fr := true) (n := 30) h1 (run_raise (d := .int j) (by exact rfl) rfl)
  | false =>
    rw [ha] at h1
    exact run_f (fr := true) (n := 30) h1 (run_nil (run_retOwn rfl ⟨h, rfl⟩))
end
end Mine

namespace Mine
open PySem PySem.W PySem.Calls PyProof.Rows

noncomputable def bI (b : Bool) : Int := if b then 1 else 0
noncomputable def pBr (pl : Nat) : Nat → List Int → Int → Nat → List Int → PR (List Int)
  | 0, _, _, _, _ => .stuck
  | _ + 1, _, _, _, [] => .err pl
  | n + 1, acc, d, i, c :: r => if d + (bI (c == 91) - bI (c == 93)) == 0 then .ok acc (i + 1) r else gd (acc.length + 1) (pBr pl n (acc ++ [c]) (d + (bI (c == 91) - bI (c == 93))) (i + 1) r)
noncomputable def pBracket (i : Nat) (s : List Int) : PR (List Int) := pBr i IT [] 1 i s
noncomputable def strOf (w : List Int) : Option Str := match pAt (orc 4) 4 [lst w] with
  | .ok (.str x) => some x
  | _ => none
noncomputable def wStep (found : List Dat) (word : List Int) : Option (List Dat) := match (if word.isEmpty then binD .Add (.list found) (.list []) else (match strOf word with
    | some x => binD .Add (.list found) (.list [.str x])
    | none => none)) with
  | some (.list f) => some f
  | _ => none
noncomputable def wordsL : List Dat → List Int → List Int → Option (List Dat)
  | found, _, [] => some found
  | found, word, c :: r => if isBlank c then (match wStep found word with
    | some f => wordsL f [] r
    | none => none) else if sz (word.length + 1) then wordsL found (word ++ [c]) r else none
noncomputable def pWords (i : Nat) (s : List Int) : PR (List Dat) := (pBracket i s).bind fun l i s => if sz (l.length + 1) then (match wordsL [] [] (l ++ [32]) with
  | some ws => .ok ws i s
  | none => .stuck) else .stuck

section
variable {α β : Type} {cs s r : List Int} {i m u n : Nat} {fr : Bool} {e : α → Dat} {k kb : ASt → Out Fl}
theorem run_aug {O : Orc} {ss : List IS} {σ σ₁ : ASt} {j : Nat} {x : IE} {a b : Int} {q : PR α} (h0 : σ.vars[j]? = some (some (.int a))) (h : evE O 40 x σ = .ok (.int b) σ₁) (hq : Run cs fr e O (n + 1) ss (putVar j (.int (a + b)) σ₁) k kb q) : Run cs fr e O (n + 1) (.aug j .Add x :: ss) σ k kb q := by
  refine run_cons ?_
  simp only [stepS]
  rw [h0]
  exact rn_of h (rn_next hq)
noncomputable def bB : List IS := [.asg 3 (.idx (.fld false) (.fld true)), .augAt (.const (.int 1)), .aug 1 .Add (.bin .Sub (.blt .int (.cmp (.var 3) [.Eq] [.blt .ord (.const (.str "["))])) (.blt .int (.cmp (.var 3) [.Eq] [.blt .ord (.const (.str "]"))]))), .ite (.cmp (.var 1) [.Eq] [.const (.int 0)]) [.retOwn 0] [], .app 0 (.var 3)]
theorem br_loop {pl : Nat} (hz : cs.length ≤ 16000000) : ∀ f acc d i s v, cs.drop i = s →
    Rn cs false lst (loopW (evE (orc 21) 40 (.cmp (.fld true) [.Lt] [.blt .len (.fld false)])) (evS (orc 21) IT 30 bB) f ⟨[none, some (.int d), some (.int pl), v], some (0, acc.map Dat.int), some (rd cs i)⟩)
      (fun σ => cont (evS (orc 21) IT 31 [.raise 0 (.var 2)] σ) (fun σ => .ok .next σ) fun σ => .ok .brk σ) (fun σ => .ok .brk σ) (pBr pl f acc d i s)
  | 0, _, _, _, _, _, _ => trivial
  | f + 1, acc, d, i, [], v, hd => loop_f (at_lt hz hd) (run_raise (n := 30) (fr := false) (d := .int pl) (by exact rfl) rfl)
  | f + 1, acc, d, i, c :: r, v, hd => by
    refine loop_t (at_lt hz hd) (run_asg (at_get hz hd) (run_augAt (b := 1) rfl rfl rfl ?_))
    have hb : ∀ (x : Str) (u : Nat), Dat.str x = chr1 u → evE (orc 21) 39 (.blt .int (.cmp (.var 3) [.Eq] [.blt .ord (.const (.str x))])) ⟨[none, some (.int d), some (.int pl), some (.int c)], some (0, acc.map Dat.int), some (rd cs (i + 1))⟩ = .ok (.int (bI (c == (u : Int)))) ⟨[none, some (.int d), some (.int pl), some (.int c)], some (0, acc.map Dat.int), some (rd cs (i + 1))⟩ := fun x u h =>
      ev_blt (ev_cmp (x := .int c) (y := .int u) rfl (ev_blt (x := chr1 u) (by rw [← h]; rfl) rfl) rfl) rfl
    refine run_aug (a := d) (b := bI (c == 91) - bI (c == 93)) rfl (ev_bin (hb "[" 91 rfl) (hb "]" 93 rfl) rfl) ?_
    show Rn cs false lst _ _ _ (if d + (bI (c == 91) - bI (c == 93)) == 0 then .ok acc (i + 1) r else gd (acc.length + 1) (pBr pl f (acc ++ [c]) (d + (bI (c == 91) - bI (c == 93))) (i + 1) r))
    generalize d + (bI (c == 91) - bI (c == 93)) = d'
    have h0 : evE (orc 21) 40 (.cmp (.var 1) [.Eq] [.const (.int 0)]) ⟨[none, some (.int d'), some (.int pl), some (.int c)], some (0, acc.map Dat.int), some (rd cs (i + 1))⟩ = .ok (.bool (d' == 0)) ⟨[none, some (.int d'), some (.int pl), some (.int c)], some (0, acc.map Dat.int), some (rd cs (i + 1))⟩ := ev_cmp (x := .int d') (y := .int 0) rfl rfl rfl
    cases hs : d' == 0 with
    | true =>
      rw [hs] at h0
      exact run_t h0 (run_retOwn rfl ⟨drop_tail hd, rfl⟩)
    | false =>
      rw [hs] at h0
      refine run_f h0 (run_nil (rn_gd fun hz' => run_app rfl (d := .int c) rfl rfl (by rw [List.length_map]; exact hz') (run_nil ?_)))
      have := br_loop (pl := pl) hz f (acc ++ [c]) d' (i + 1) r (some (.int c)) (drop_tail hd)
      rw [List.map_append] at this
      exact this
theorem bracket_ok (hm : 21 < m) (hz : cs.length ≤ 16000000) (hd : cs.drop i = s) : RelR cs lst ((orc m).s 21 (rd cs i) []) (pBracket i s) := by
  rw [orc_s hm]
  refine run_top (fr := false) (O := orc 21) (n := 31) (ss := f21.body) (σ := ⟨[none, none, none, none], none, some (rd cs i)⟩) ?_
  exact run_cons (rn_next (run_whl (br_loop hz IT [] 1 i s none hd)))
end
end Mine

namespace Mine
open PySem PySem.W PySem.Calls PyProof.Rows

theorem obind_bind {α β γ : Type} (o : Out α) (f : α → ASt → Out β) (g : β → ASt → Out γ) : (o.bind f).bind g = o.bind fun a σ => (f a σ).bind g := by cases o <;> rfl
theorem neNil {w : List Int} : cmpD .NotEq (lst w) (.list []) = some (!w.isEmpty) := by
  have e1 : kqdOk 8 (lst w) = (w.map Dat.int).all (kqdOk 7) := rfl
  have e0 : cmpD .NotEq (lst w) (.list []) = if kqdOk 8 (lst w) && kqdOk 8 (.list []) then some (!PyData.eqv (kqdP (lst w)) (kqdP (.list []))) else none := rfl
  rw [e0, e1, kqd_ints]
  cases w <;> rfl
theorem p_str {m : Nat} {w : List Int} {x : Str} (hm : 4 < m) (h : strOf w = some x) : (orc m).p 4 [lst w] = .ok (.str x) := by
  rw [orc_p (by decide) hm]
  unfold strOf at h
  split at h
  · rename_i y e; cases h; exact e
  · cases h

theorem ev_list1 {O : Orc} {n : Nat} {a : IE} {σ σ₁ : ASt} {d : Dat} (h : evE O n a σ = .ok d σ₁) : evE O (n + 1) (.list [a]) σ = .ok (.list [d]) σ₁ := by
  have e0 : evE O (n + 1) (.list [a]) σ = (((evE O n a σ).bind fun d σ₁ => .ok [d] σ₁) : Out (List Dat)).bind fun ds σ₁ => if sz ds.length then .ok (.list ds) σ₁ else .stuck := rfl
  rw [e0, h]; rfl
section
variable {α β : Type} {cs s r : List Int} {i m u n : Nat} {fr : Bool} {e : α → Dat} {k kb : ASt → Out Fl}
noncomputable def bW : List IS := [.ite (.callP 13 [.var 2]) [.asg 0 (.bin .Add (.var 0) (.ite (.cmp (.var 1) [.NotEq] [.list []]) (.list [.callP 4 [.var 1]]) (.list []))), .asgNil 1] [.app 1 (.var 2)]]
theorem w_loop (hd : cs.drop i = s) : ∀ l found word v,
    Rn cs false Dat.list (loopF 2 (evS (orc 22) IT 30 bW) (l.map Dat.int) ⟨[some (.list found), none, v], some (1, word.map Dat.int), some (rd cs i)⟩) (fun σ => cont (evS (orc 22) IT 31 [.ret (.var 0)] σ) (fun σ => .ok .next σ) fun σ => .ok .brk σ) kb
      (match wordsL found word l with | some ws => .ok ws i s | none => .stuck)
  | [], found, word, v => loopF_nil (run_ret (fr := false) (n := 30) (d := .list found) (by exact rfl) ⟨hd, rfl⟩)
  | c :: l, found, word, v => by
    refine loopF_cons ?_
    have hb : evE (orc 22) 40 (.callP 13 [.var 2]) ⟨[some (.list found), none, some (.int c)], some (1, word.map Dat.int), some (rd cs i)⟩ = .ok (.bool (isBlank c)) ⟨[some (.list found), none, some (.int c)], some (1, word.map Dat.int), some (rd cs i)⟩ := ev_callP1 (x := .int c) rfl (p_blank (by decide))
    show Rn cs false Dat.list _ _ _ (match (if isBlank c then (match wStep found word with
      | some f => wordsL f [] l
      | none => none) else if sz (word.length + 1) then wordsL found (word ++ [c]) l else none) with | some ws => .ok ws i s | none => .stuck)
    cases hs : isBlank c with
    | false =>
      rw [hs] at hb
      cases hz : sz (word.length + 1) with
      | false => trivial
      | true =>
        refine run_f hb (run_app rfl (d := .int c) rfl rfl (by rw [List.length_map]; exact hz) (run_nil (run_nil ?_)))
        have := w_loop hd l found (word ++ [c]) (some (.int c))
        rw [List.map_append] at this
        exact this
    | true =>
      rw [hs] at hb
      cases hw : wStep found word with
      | none => trivial
      | some f =>
        refine run_t hb (run_asg (d := .list f) (σ₁ := ⟨[some (.list found), some (lst word), some (.int c)], none, some (rd cs i)⟩) ?_ (run_cons (rn_next (run_nil (run_nil ?_)))))
        · have hc : evE (orc 22) 38 (.cmp (.var 1) [.NotEq] [.list []]) ⟨[some (.list found), none, some (.int c)], some (1, word.map Dat.int), some (rd cs i)⟩ = .ok (.bool (!word.isEmpty)) ⟨[some (.list found), some (lst word), some (.int c)], none, some (rd cs i)⟩ := ev_cmp (x := lst word) (y := .list []) (σ₁ := ⟨[some (.list found), some (lst word), some (.int c)], none, some (rd cs i)⟩) (by exact rfl) (by exact rfl) neNil
          unfold wStep at hw
          cases he : word.isEmpty with
          | true =>
            rw [he] at hc hw
            split at hw
            · rename_i f' e1
              cases hw
              rw [if_pos rfl] at e1
              exact ev_bin (x := .list found) (by exact rfl) (ev_ite_f hc (by exact rfl)) e1
            · cases hw
          | false =>
            rw [he] at hc hw
            split at hw
            · rename_i f' e1
              cases hw
              rw [if_neg (by decide)] at e1
              cases ex : strOf word with
              | none => rw [ex] at e1; cases e1
              | some x =>
                rw [ex] at e1
                exact ev_bin (x := .list found) (by exact rfl) (ev_ite_t hc (ev_list1 (ev_callP1 (x := lst word) (by exact rfl) (p_str (by decide) ex)))) e1
            · cases hw
        · exact w_loop hd l f [] (some (.int c))
theorem words_ok (hm : 22 < m) (hz : cs.length ≤ 16000000) (hd : cs.drop i = s) : RelR cs Dat.list ((orc m).s 22 (rd cs i) []) (pWords i s) := by
  rw [orc_s hm]
  refine run_top (fr := false) (O := orc 22) (n := 31) (ss := f22.body) (σ := ⟨[none, none, none], none, some (rd cs i)⟩) ?_
  refine run_cons (rn_next (run_cons ?_))
  have e0 : ∀ σ, stepS (orc 22) IT (evE (orc 22) 40) (evS (orc 22) IT 30) (.forL 2 (.bin .Add (.callM 21 []) (.list [.const (.int 32)])) bW) σ = (evE (orc 22) 39 (.callM 21 []) σ).bind fun x σ₁ => (ofO (binD .Add x (.list [.int 32])) σ₁).bind fun x σ₁ => match itemsD x with
      | some ds => if sz ds.length then loopF 2 (evS (orc 22) IT 30 bW) ds σ₁ else .stuck
      | none => .stuck := fun σ => by
    have e1 : stepS (orc 22) IT (evE (orc 22) 40) (evS (orc 22) IT 30) (.forL 2 (.bin .Add (.callM 21 []) (.list [.const (.int 32)])) bW) σ = ((evE (orc 22) 39 (.callM 21 []) σ).bind fun x σ₁ => ofO (binD .Add x (.list [.int 32])) σ₁).bind fun x σ₁ => match itemsD x with
      | some ds => if sz ds.length then loopF 2 (evS (orc 22) IT 30 bW) ds σ₁ else .stuck
      | none => .stuck := rfl
    rw [e1, obind_bind]
  refine Eq.mpr (congrArg (fun o => Rn cs false Dat.list o _ _ _) (e0 _)) ?_
  refine rn_rel (rel_call0 (n := 38) (vs := [some (.list []), none, none]) (own := some (1, [])) (bracket_ok (by decide) hz hd)) fun l j s' hd' => ?_
  cases hs : sz (l.length + 1) with
  | false => trivial
  | true =>
    have h1 : binD .Add (lst l) (.list [.int 32]) = some (lst (l ++ [32])) := by
      show (if sz ((l.map Dat.int).length + 1) then some (Dat.list (l.map Dat.int ++ [.int 32])) else none) = _
      rw [List.length_map, hs, if_pos rfl]
      exact congrArg (fun x => some (Dat.list x)) (List.map_append (f := Dat.int) (l₁ := l) (l₂ := [32])).symm
    rw [h1]
    show Rn cs false Dat.list (if sz ((l ++ [32]).map Dat.int).length then loopF 2 (evS (orc 22) IT 30 bW) ((l ++ [32]).map Dat.int) _ else .stuck) _ _ _
    rw [List.length_map, List.length_append, show [(32 : Int)].length = 1 from rfl, hs, if_pos rfl]
    exact w_loop hd' (l ++ [32]) [] [] none
end
end Mine

namespace Mine
open PySem PySem.W PySem.Calls PyProof.Rows

inductive BK where
  | anchor (x : Dat)
  | bad
  | before (n : Int)
  | no
noncomputable def wordAt (w : Dat) : BK := match cmpD .NotIn w (.tuple [.str "1", .str "2", .str "3"]) with
  | some true => .bad
  | some false => (match bltD .ord w with
    | some (.int v) => .before (v - 48)
    | _ => .no)
  | none => .no
noncomputable def kindOf (ws : List Dat) : BK := match slD (.list ws) none (some 1) with
  | none => .no
  | some x => match cmpD .NotEq x (.list [.str "before"]) with
    | none => .no
    | some true => (match joinD " " (.list ws) with
      | some y => .anchor y
      | none => .no)
    | some false => match bltD .len (.list ws) with
      | some (.int k) => if k != 2 then .bad else (match idxD (.list ws) (.int 1) with
        | some w => wordAt w
        | none => .no)
      | _ => .no
noncomputable def pTail (n pl : Int) (i : Nat) (s : List Int) : PR Dat := (pString i s).bind fun l i s => gd l.length (.ok (.tuple [.str "reset", .tuple (l.map Dat.int), .int n, .int pl]) i s)
noncomputable def pReset (pl : Int) (i : Nat) (s : List Int) : PR Dat := (pSkip IT i s).bind fun _ i s => (pTakes 91 i s).bind fun b i s =>
  if b then (pWords i s).bind fun ws i s => match kindOf ws with
    | .anchor x => .ok (.tuple [.str "anchor", x, .int 0, .int pl]) i s
    | .bad => .err pl
    | .before n => (pSkip IT i s).bind fun _ i s => (pTakes 91 i s).bind fun b i s =>
      if b then (pWords i s).bind fun ws i s => (match joinD " " (.list ws) with
        | some x => .ok (.tuple [.str "anchor", x, .int n, .int pl]) i s
        | none => .stuck) else pTail n pl i s
    | .no => .stuck
  else pTail 0 pl i s

section
variable {α β : Type} {cs s r : List Int} {i m u n : Nat} {fr : Bool} {e : α → Dat} {k kb : ASt → Out Fl} {vs : List (Option Dat)} {own : Option (Nat × List Dat)} {O : Orc}
theorem rel_gd {o : Out Dat} {q : PR α} (h : sz n = true → RelE cs vs own e o q) : RelE cs vs own e o (gd n q) := by
  unfold gd
  cases hn : Nat.ble n 16000000 with
  | true => exact h (sz_ok (Nat.ble_eq.mp hn))
  | false => trivial
theorem rel_tup4 {a x v w : IE} {da dv dw : Dat} {q : PR Dat} {σ : ASt} (ha : evE O n a σ = .ok da σ) (hx : RelE cs vs own id (evE O n x σ) q) (hv : ∀ i, evE O n v ⟨vs, own, some (rd cs i)⟩ = .ok dv ⟨vs, own, some (rd cs i)⟩) (hw : ∀ i, evE O n w ⟨vs, own, some (rd cs i)⟩ = .ok dw ⟨vs, own, some (rd cs i)⟩) :
    RelE cs vs own id (evE O (n + 1) (.tup [a, x, v, w]) σ) (q.bind fun d i s => .ok (.tuple [da, d, dv, dw]) i s) := by
  have e0 : evE O (n + 1) (.tup [a, x, v, w]) σ = (((evE O n a σ).bind fun d1 σ₁ => ((evE O n x σ₁).bind fun d2 σ₂ => ((evE O n v σ₂).bind fun d3 σ₃ => ((evE O n w σ₃).bind fun d4 σ₄ => .ok [d4] σ₄).bind fun ds σ₄ => .ok (d3 :: ds) σ₄).bind fun ds σ₃ => .ok (d2 :: ds) σ₃).bind fun ds σ₂ => .ok (d1 :: ds) σ₂) : Out (List Dat)).bind fun ds σ₁ => if sz ds.length then .ok (.tuple ds) σ₁ else .stuck := rfl
  rw [e0, ha]
  cases q with
  | ok d j s =>
    obtain ⟨h1, h2⟩ := hx
    refine ⟨h1, ?_⟩
    show ((((evE O n x σ).bind _).bind _).bind _ : Out Dat) = _
    rw [h2]
    show (((((evE O n v _).bind _).bind _).bind _).bind _ : Out Dat) = _
    rw [hv]
    show ((((((evE O n w _).bind _).bind _).bind _).bind _).bind _ : Out Dat) = _
    rw [hw]; rfl
  | err p =>
    obtain ⟨σ', h⟩ := hx
    show ∃ σ', ((((evE O n x σ).bind _).bind _).bind _ : Out Dat) = _
    rw [h]
    exact ⟨σ', rfl⟩
  | stuck => trivial
theorem tail_ok {b pl : Int} {v2 : Option Dat} (hz : cs.length ≤ 16000000) (hd : cs.drop i = s) : Run cs false id (orc 23) 31 [.ret (.tup [.const (.str "reset"), .blt .tuple (.callM 20 []), .var 1, .var 0])] ⟨[some (.int pl), some (.int b), v2], none, some (rd cs i)⟩ k kb (pTail b pl i s) := by
  have h := rel_tup4 (n := 39) (O := orc 23) (cs := cs) (vs := [some (.int pl), some (.int b), v2]) (own := none) (a := .const (.str "reset")) (v := .var 1) (w := .var 0) (da := .str "reset") (dv := .int b) (dw := .int pl) (x := .blt .tuple (.callM 20 [])) (σ := ⟨[some (.int pl), some (.int b), v2], none, some (rd cs i)⟩) (q := (pString i s).bind fun l i s => gd l.length (.ok (.tuple (l.map Dat.int)) i s)) rfl
    (rel_bind (f := fun x σ₁ => ofO (bltD .tuple x) σ₁) (rel_call0 (n := 37) (string_ok (by decide) hz hd)) fun l j s hd' => rel_gd fun hz' => ⟨hd', by
      show ofO (if sz (l.map Dat.int).length then some (Dat.tuple (l.map Dat.int)) else none) _ = _
      rw [List.length_map, hz']; rfl⟩) (fun _ => rfl) fun _ => rfl
  rw [bind_bind] at h
  have e1 : pTail b pl i s = ((pString i s).bind fun l i s => (gd l.length (.ok (.tuple (l.map Dat.int)) i s)).bind fun d i s => .ok (.tuple [.str "reset", d, .int b, .int pl]) i s).bind fun d i s => .ok d i s := by
    rw [bind_bind]
    show (pString i s).bind _ = _
    congr 1; funext l i s
    show gd _ _ = _
    unfold gd; split <;> rfl
  rw [e1]
  exact run_ret_rel h fun d j s hd' => ⟨hd', rfl⟩
end
end Mine

namespace Mine
open PySem PySem.W PySem.Calls PyProof.Rows

section
variable {α β : Type} {cs s r : List Int} {i m u n : Nat} {fr : Bool} {e : α → Dat} {k kb : ASt → Out Fl} {vs : List (Option Dat)} {own : Option (Nat × List Dat)} {O : Orc}
theorem ev_sl0 {a c : IE} {x z : Dat} {j : Int} {σ : ASt} (h1 : evE O n a σ = .ok x σ) (h3 : evE O n c σ = .ok (.int j) σ) (h4 : slD x none (some j) = some z) : evE O (n + 1) (.sl a none (some c)) σ = .ok z σ := by
  have e0 : evE O (n + 1) (.sl a none (some c)) σ = (evE O n a σ).bind fun x σ₁ => (((evE O n c σ₁).bind fun d σ₁ => match asI d with | some i => .ok (some i) σ₁ | none => .stuck) : Out (Option Int)).bind fun r σ₃ => ofO (slD x none r) σ₃ := rfl
  rw [e0, h1]
  show ((((evE O n c σ).bind fun d σ₁ => match asI d with | some i => .ok (some i) σ₁ | none => .stuck) : Out (Option Int)).bind fun r σ₃ => ofO (slD x none r) σ₃) = _
  rw [h3]
  show ofO (slD x none (some j)) σ = _
  rw [h4]; rfl
theorem ev_join {a : IE} {x z : Dat} {sep : Str} {σ σ₁ : ASt} (h1 : evE O n a σ = .ok x σ₁) (h4 : joinD sep x = some z) : evE O (n + 1) (.join sep a) σ = .ok z σ₁ := by
  show (evE O n a σ).bind _ = _
  rw [h1]; show ofO (joinD sep x) σ₁ = _
  rw [h4]; rfl
theorem ev_tup4 {a b c d : IE} {da db dc dd : Dat} {σ : ASt} (ha : evE O n a σ = .ok da σ) (hb : evE O n b σ = .ok db σ) (hc : evE O n c σ = .ok dc σ) (hd : evE O n d σ = .ok dd σ) : evE O (n + 1) (.tup [a, b, c, d]) σ = .ok (.tuple [da, db, dc, dd]) σ := by
  have e0 : evE O (n + 1) (.tup [a, b, c, d]) σ = (((evE O n a σ).bind fun d1 σ₁ => ((evE O n b σ₁).bind fun d2 σ₂ => ((evE O n c σ₂).bind fun d3 σ₃ => ((evE O n d σ₃).bind fun d4 σ₄ => .ok [d4] σ₄).bind fun ds σ₄ => .ok (d3 :: ds) σ₄).bind fun ds σ₃ => .ok (d2 :: ds) σ₃).bind fun ds σ₂ => .ok (d1 :: ds) σ₂) : Out (List Dat)).bind fun ds σ₁ => if sz ds.length then .ok (.tuple ds) σ₁ else .stuck := rfl
  rw [e0, ha]
  show (((((evE O n b _).bind _).bind _).bind _) : Out Dat) = _
  rw [hb]
  show ((((((evE O n c _).bind _).bind _).bind _).bind _) : Out Dat) = _
  rw [hc]
  show (((((((evE O n d _).bind _).bind _).bind _).bind _).bind _) : Out Dat) = _
  rw [hd]; rfl

theorem reset_ok {pl : Int} (hm : 23 < m) (hz : cs.length ≤ 16000000) (hd : cs.drop i = s) : RelR cs id ((orc m).s 23 (rd cs i) [.int pl]) (pReset pl i s) := by
  rw [orc_s hm]
  refine run_top (fr := false) (O := orc 23) (n := 31) (ss := f23.body) (σ := ⟨[some (.int pl), none, none], none, some (rd cs i)⟩) ?_
  refine run_expr_rel (rel_call0 (n := 39) (skip_ok (by decide) hz hd)) fun _ i s hd => run_asg (d := .int 0) (by exact rfl) ?_
  refine run_ite_rel (rel_takes (vs := [some (.int pl), some (.int 0), none]) (own := none) (n := 38) (m := 23) (x := "[") (u := 91) rfl (by decide) hz hd) (fun i s hd => ?_) fun i s hd => run_nil (tail_ok (b := 0) hz hd)
  refine run_asg_rel (rel_call0 (n := 39) (words_ok (by decide) hz hd)) fun ws i s hd => ?_
  show Rn cs false id _ _ _ (match kindOf ws with
    | .anchor x => PR.ok (.tuple [.str "anchor", x, .int 0, .int pl]) i s
    | .bad => .err pl
    | .before n => (pSkip IT i s).bind fun _ i s => (pTakes 91 i s).bind fun b i s =>
      if b then (pWords i s).bind fun ws i s => (match joinD " " (.list ws) with
        | some x => .ok (.tuple [.str "anchor", x, .int n, .int pl]) i s
        | none => .stuck) else pTail n pl i s
    | .no => .stuck)
  unfold kindOf
  cases q1 : slD (.list ws) none (some 1) with
  | none => trivial
  | some x =>
  dsimp only
  have h1 := ev_sl0 (O := orc 23) (n := 38) (a := .var 2) (c := .const (.int 1)) (σ := ⟨[some (.int pl), some (.int 0), some (.list ws)], none, some (rd cs i)⟩) rfl rfl q1
  cases q2 : cmpD .NotEq x (.list [.str "before"]) with
  | none => trivial
  | some b =>
  have h2 := ev_cmp (b := .list [.const (.str "before")]) h1 rfl q2
  cases b with
  | true =>
    dsimp only
    cases q3 : joinD " " (.list ws) with
    | none => trivial
    | some y => exact run_t h2 (run_ret (ev_tup4 rfl (ev_join (a := .var 2) (x := .list ws) rfl q3) rfl rfl) ⟨hd, rfl⟩)
  | false =>
  dsimp only
  refine run_f h2 (run_nil ?_)
  cases q3 : bltD .len (.list ws) with
  | none => trivial
  | some kk =>
  cases kk with
  | int kk =>
    dsimp only
    have h3 := ev_cmp (O := orc 23) (n := 38) (a := .blt .len (.var 2)) (b := .const (.int 2)) (c := .NotEq) (y := .int 2) (p := kk != 2) (σ := ⟨[some (.int pl), some (.int 0), some (.list ws)], none, some (rd cs i)⟩) (ev_blt (x := .list ws) rfl q3) rfl rfl
    cases q4 : kk != 2 with
    | true =>
      rw [q4] at h3
      exact run_t (ev_or_t h3) (run_raise (d := .int pl) (by exact rfl) rfl)
    | false =>
      rw [q4] at h3
      rw [if_neg (by decide)]
      cases q5 : idxD (.list ws) (.int 1) with
      | none => trivial
      | some w =>
      dsimp only
      unfold wordAt
      have h4 : ∀ v1 n, evE (orc 23) (n + 2) (.idx (.var 2) (.const (.int 1))) ⟨[some (.int pl), v1, some (.list ws)], none, some (rd cs i)⟩ = .ok w ⟨[some (.int pl), v1, some (.list ws)], none, some (rd cs i)⟩ := fun v1 n => ev_idx (x := .list ws) rfl rfl q5
      cases q6 : cmpD .NotIn w (.tuple [.str "1", .str "2", .str "3"]) with
      | none => trivial
      | some b =>
      have h5 := ev_or_f h3 (ev_cmp (b := .tup [.const (.str "1"), .const (.str "2"), .const (.str "3")]) (h4 (some (.int 0)) 36) rfl q6)
      cases b with
      | true => exact run_t h5 (run_raise (d := .int pl) (by exact rfl) rfl)
      | false =>
        dsimp only
        refine run_f h5 (run_nil ?_)
        cases q7 : bltD .ord w with
        | none => trivial
        | some v =>
        cases v with
        | int v =>
          dsimp only
          refine run_asg (ev_bin (x := .int v) (y := .int 48) (ev_blt (h4 (some (.int 0)) 36) q7) rfl rfl) ?_
          refine run_expr_rel (rel_call0 (n := 39) (vs := [some (.int pl), some (.int (v - 48)), some (.list ws)]) (own := none) (skip_ok (by decide) hz hd)) fun _ i s hd => ?_
          refine run_ite_rel (rel_takes (vs := [some (.int pl), some (.int (v - 48)), some (.list ws)]) (own := none) (n := 38) (m := 23) (x := "[") (u := 91) rfl (by decide) hz hd) (fun i s hd => ?_) fun i s hd => run_nil (run_nil (tail_ok hz hd))
          have h8 := rel_tup4 (n := 39) (O := orc 23) (cs := cs) (vs := [some (.int pl), some (.int (v - 48)), some (.list ws)]) (own := none) (a := .const (.str "anchor")) (v := .var 1) (w := .var 0) (da := .str "anchor") (dv := .int (v - 48)) (dw := .int pl) (x := .join " " (.callM 22 [])) (σ := ⟨[some (.int pl), some (.int (v - 48)), some (.list ws)], none, some (rd cs i)⟩) (q := (pWords i s).bind fun ws i s => match joinD " " (.list ws) with
              | some x => .ok x i s
              | none => .stuck) rfl
            (rel_bind (f := fun x σ₁ => ofO (joinD " " x) σ₁) (rel_call0 (n := 37) (words_ok (by decide) hz hd)) fun l j s hd' => by
              cases joinD " " (.list l) with
              | none => trivial
              | some y => exact ⟨hd', rfl⟩) (fun _ => rfl) fun _ => rfl
          rw [bind_bind] at h8
          have e1 : ((pWords i s).bind fun ws i s => match joinD " " (.list ws) with
              | some x => PR.ok (Dat.tuple [.str "anchor", x, .int (v - 48), .int pl]) i s
              | none => .stuck) = ((pWords i s).bind fun ws i s => (match joinD " " (.list ws) with
              | some x => PR.ok x i s
              | none => .stuck).bind fun d i s => PR.ok (Dat.tuple [.str "anchor", d, .int (v - 48), .int pl]) i s).bind fun d i s => .ok d i s := by
            rw [bind_bind]
            show (pWords i s).bind _ = _
            congr 1; funext ws i s
            cases joinD " " (.list ws) <;> rfl
          show Rn cs false id _ _ _ ((pWords i s).bind fun ws i s => match joinD " " (.list ws) with
              | some x => PR.ok (Dat.tuple [.str "anchor", x, .int (v - 48), .int pl]) i s
              | none => .stuck)
          rw [e1]
          exact run_ret_rel h8 fun d j s hd' => ⟨hd', rfl⟩
        | _ => trivial
  | _ => trivial
end
end Mine

namespace Mine
open PySem PySem.W PySem.Calls PyProof.Rows

noncomputable def pLt : Nat → Int → Nat → List Int → PR Int
  | 0, _, _, _ => .stuck
  | n + 1, a, i, s => (pTakes 60 i s).bind fun b i s => if b then pLt n (a + 1) i s else .ok a i s
noncomputable def pStrength (pl : Int) (i : Nat) (s : List Int) : PR Int := (pTakes 61 i s).bind fun b i s => if b then .ok 0 i s else (pLt IT 0 i s).bind fun a i s => if !btw 1 a 3 then .err pl else .ok a i s
section
variable {α β : Type} {cs s r : List Int} {i m u n : Nat} {fr : Bool} {e : α → Dat} {k kb : ASt → Out Fl} {vs : List (Option Dat)} {own : Option (Nat × List Dat)} {O : Orc}
theorem lt_loop {pl : Int} {g : Int → Nat → List Int → PR α} (hz : cs.length ≤ 16000000) (hg : ∀ a j s, cs.drop j = s → RelR cs e (outQ fr (k ⟨[some (.int pl), some (.int a)], none, some (rd cs j)⟩)) (g a j s)) : ∀ f a i s, cs.drop i = s →
    Rn cs fr e (loopW (evE (orc 24) 40 (.callM 17 [.const (.str "<")])) (evS (orc 24) IT 30 [.aug 1 .Add (.const (.int 1))]) f ⟨[some (.int pl), some (.int a)], none, some (rd cs i)⟩) k kb ((pLt f a i s).bind g)
  | 0, _, _, _, _ => trivial
  | f + 1, a, i, s, hd => by
    have h0 := rel_takes (vs := [some (.int pl), some (.int a)]) (own := none) (n := 38) (m := 24) (x := "<") (u := 60) rfl (by decide) hz hd
    have e0 : (pLt (f + 1) a i s).bind g = (pTakes 60 i s).bind fun b i s => if b then (pLt f (a + 1) i s).bind g else g a i s := by
      show PR.bind (PR.bind _ _) _ = _
      rw [bind_bind]
      congr 1; funext b i s
      cases b <;> rfl
    rw [e0]
    refine loop_rel h0 (fun j s' hd' => run_aug (a := a) (b := 1) rfl (by exact rfl) (run_nil ?_)) fun j s' hd' => hg a j s' hd'
    exact lt_loop hz hg f (a + 1) j s' hd'
theorem strength_ok {pl : Int} (hm : 24 < m) (hz : cs.length ≤ 16000000) (hd : cs.drop i = s) : RelR cs Dat.int ((orc m).s 24 (rd cs i) [.int pl]) (pStrength pl i s) := by
  rw [orc_s hm]
  refine run_top (fr := false) (O := orc 24) (n := 31) (ss := f24.body) (σ := ⟨[some (.int pl), none], none, some (rd cs i)⟩) ?_
  refine run_ite_rel (rel_takes (vs := [some (.int pl), none]) (own := none) (n := 38) (m := 24) (x := "=") (u := 61) rfl (by decide) hz hd) (fun i s hd => run_ret (d := .int 0) (by exact rfl) ⟨hd, rfl⟩) fun i s hd => run_nil (run_asg (d := .int 0) (by exact rfl) (run_whl ?_))
  refine lt_loop (k := fun σ => cont (evS (orc 24) IT 31 [.ite (.not (.cmp (.const (.int 1)) [.LtE, .LtE] [.var 1, .const (.int 3)])) [.raise 0 (.var 0)] [], .ret (.var 1)] σ) (fun σ => .ok .next σ) fun σ => .ok .brk σ) hz (fun a j s' h => ?_) IT 0 i s hd
  have h1 := ev_not (ev_cmp2 (O := orc 24) (n := 38) (a := .const (.int 1)) (b := .var 1) (t := .const (.int 3)) (x := .int 1) (y := .int a) (z := .int 3) (c := .LtE) (c' := .LtE) (σ := ⟨[some (.int pl), some (.int a)], none, some (rd cs j)⟩) rfl rfl rfl rfl rfl)
  show RelR cs Dat.int _ (if !btw 1 a 3 then .err pl else .ok a j s')
  cases hb : btw 1 a 3 with
  | true =>
    rw [show (decide ((1 : Int) ≤ a) && decide (a ≤ 3)) = true from hb] at h1
    exact run_f (fr := false) (n := 30) h1 (run_nil (run_ret (d := .int a) (by exact rfl) ⟨h, rfl⟩))
  | false =>
    rw [show (decide ((1 : Int) ≤ a) && decide (a ≤ 3)) = false from hb] at h1
    exact run_t (fr := false) (n := 30) h1 (run_raise (d := .int pl) (by exact rfl) rfl)
end
end Mine

namespace Mine
open PySem PySem.W PySem.Calls PyProof.Rows

noncomputable def starE : IE := .compR (.var 0) (.bin .Add (.idxOwn 2 (.neg 1)) (.const (.int 1))) (.bin .Add (.idx (.var 3) (.const (.int 0))) (.const (.int 1))) (.callP 2 [.var 0])
noncomputable def starX : IE := .bin .Add starE (.sl (.var 3) (some (.const (.int 1))) none)
noncomputable def rangeC (a b : Int) : Option (List Dat) := if small a && small b && sz (b - a).toNat then evComp (evE (orc 25) 38) (.var 0) (some (.callP 2 [.var 0])) [] (rangeD a b) else none
noncomputable def starAdd (a b : Int) (ends : List Int) : Option (List Dat) := match rangeC (b + 1) (a + 1), slD (lst ends) (some 1) none with
  | some xs, some (.list ys) => if sz (xs.length + ys.length) then some (xs ++ ys) else none
  | _, _ => none
noncomputable def pStarLoop : Nat → List Dat → Nat → List Int → PR (List Dat)
  | 0, _, _, _ => .stuck
  | n + 1, found, i, s => (pTakes 45 i s).bind fun b i s => if b then (pString i s).bind fun ends i s => (match idxD (lst ends) (.int 0), idxD (.list found) (.int (-1)) with
      | some (.int a), some (.int b) => if a < b then .err i else (match starAdd a b ends with
        | some xs => if sz (found.length + xs.length) then pStarLoop n (found ++ xs) i s else .stuck
        | none => .stuck)
      | _, _ => .stuck) else .ok found i s
noncomputable def relElt : IE := .tup [.const (.str "relation"), .var 2, .tup [.var 0], .tup [], .tup [], .var 1]
noncomputable def relsOf (st pl : Int) (found : List Dat) : Option (List Dat) := if sz found.length then evComp (evE (orc 25) 39) relElt none [some (.int pl), some (.int st)] found else none
noncomputable def pStarred (st pl : Int) (i : Nat) (s : List Int) : PR (List Dat) := (pString i s).bind fun l i s => (pStarLoop IT (l.map Dat.int) i s).bind fun found i s => match relsOf st pl found with
  | some ds => .ok ds i s
  | none => .stuck

section
variable {α β : Type} {cs s r : List Int} {i m u n : Nat} {fr : Bool} {e : α → Dat} {k kb : ASt → Out Fl} {vs : List (Option Dat)} {own : Option (Nat × List Dat)} {O : Orc}
theorem run_asgCall {ss : List IS} {j f : Nat} {vs : List (Option Dat)} {own : Option (Nat × List Dat)} {q : PR (List Dat)} {g : List Dat → Nat → List Int → PR α} (hk : j < vs.length) (h : RelR cs Dat.list (O.s f (rd cs i) []) q)
    (hq : ∀ a i s, cs.drop i = s → Run cs fr e O (n + 1) ss (putOwn j a ⟨vs, own, some (rd cs i)⟩) k kb (g a i s)) : Run cs fr e O (n + 1) (.asgCall j f [] :: ss) ⟨vs, own, some (rd cs i)⟩ k kb (q.bind g) := by
  refine run_cons ?_
  have e0 : stepS O IT (evE O 40) (evS O IT n) (.asgCall j f []) ⟨vs, own, some (rd cs i)⟩ = match O.s f (rd cs i) [] with
        | .ok (.list xs) st' => if j < vs.length then .ok .next (putOwn j xs ⟨vs, own, some st'⟩) else .stuck
        | .exc x => .exc x ⟨vs, own, some .gone⟩
        | _ => .stuck := rfl
  rw [e0]
  cases q with
  | ok a i s =>
    obtain ⟨h1, h2⟩ := h
    rw [h2]
    dsimp only
    rw [if_pos hk]
    exact rn_next (hq a i s h1)
  | err p => have h : O.s f (rd cs i) [] = _ := h; rw [h]; exact rfl
  | stuck => trivial
theorem relR_map {o : ResS} {q : PR (List Int)} (h : RelR cs lst o q) : RelR cs Dat.list o (q.bind fun l i s => .ok (l.map Dat.int) i s) := by
  cases q <;> exact h

noncomputable def bT : List IS := [.asg 3 (.callM 20 []), .ite (.cmp (.idx (.var 3) (.const (.int 0))) [.Lt] [.idxOwn 2 (.neg 1)]) [.raise 0 (.fld true)] [], .ext 2 starX]
theorem ev_idxOwn {j : Nat} {x : IE} {y d : Dat} {xs : List Dat} {vs : List (Option Dat)} {st : Option St} (h1 : evE O n x ⟨vs, some (j, xs), st⟩ = .ok y ⟨vs, some (j, xs), st⟩) (h2 : idxD (.list xs) y = some d) : evE O (n + 1) (.idxOwn j x) ⟨vs, some (j, xs), st⟩ = .ok d ⟨vs, some (j, xs), st⟩ := by
  have e0 : evE O (n + 1) (.idxOwn j x) ⟨vs, some (j, xs), st⟩ = if j = j then (evE O n x ⟨vs, some (j, xs), st⟩).bind fun y σ₁ => (match σ₁.own with
      | some (j', xs) => if j' = j then ofO (idxD (.list xs) y) σ₁ else .stuck
      | none => .stuck) else .stuck := rfl
  rw [e0, if_pos rfl, h1]
  show (if j = j then ofO (idxD (.list xs) y) _ else .stuck) = _
  rw [if_pos rfl, h2]; rfl
theorem star_x {a b : Int} {ends : List Int} {found xs : List Dat} {v0 v1 v2 : Option Dat} {st : Option St} (ha : idxD (lst ends) (.int 0) = some (.int a)) (hb : idxD (.list found) (.int (-1)) = some (.int b)) (hx : starAdd a b ends = some xs) :
    evE (orc 25) 40 starX ⟨[v0, v1, v2, some (lst ends)], some (2, found), st⟩ = .ok (.list xs) ⟨[v0, v1, v2, some (lst ends)], some (2, found), st⟩ := by
  unfold starAdd at hx
  split at hx
  case h_2 => cases hx
  rename_i x1 y1 h1 h2
  split at hx
  case isFalse => cases hx
  rename_i hz
  cases hx
  unfold rangeC at h1
  split at h1
  case isFalse => cases h1
  rename_i hr
  refine ev_bin (x := .list x1) (y := .list y1) (σ₁ := ⟨[v0, v1, v2, some (lst ends)], some (2, found), st⟩) ?_ ?_ ?_
  · have e0 : ∀ σ, evE (orc 25) 39 starE σ = (evE (orc 25) 38 (.bin .Add (.idxOwn 2 (.neg 1)) (.const (.int 1))) σ).bind fun x σ₁ => (evE (orc 25) 38 (.bin .Add (.idx (.var 3) (.const (.int 0))) (.const (.int 1))) σ₁).bind fun y σ₂ => match asI x, asI y with
      | some a, some b => if small a && small b && sz (b - a).toNat then ofO ((evComp (evE (orc 25) 38) (.var 0) (some (.callP 2 [.var 0])) [] (rangeD a b)).map .list) σ₂ else .stuck
      | _, _ => .stuck := fun _ => rfl
    rw [e0, ev_bin (x := .int b) (y := .int 1) (z := .int (b + 1)) (ev_idxOwn (y := .int (-1)) rfl hb) rfl rfl]
    show (evE (orc 25) 38 (.bin .Add (.idx (.var 3) (.const (.int 0))) (.const (.int 1))) ⟨[v0, v1, v2, some (lst ends)], some (2, found), st⟩).bind _ = _
    rw [ev_bin (x := .int a) (y := .int 1) (z := .int (a + 1)) (ev_idx (x := lst ends) (y := .int 0) rfl rfl ha) rfl rfl]
    show (if small (b + 1) && small (a + 1) && sz (a + 1 - (b + 1)).toNat then ofO ((evComp (evE (orc 25) 38) (.var 0) (some (.callP 2 [.var 0])) [] (rangeD (b + 1) (a + 1))).map Dat.list) _ else .stuck) = _
    rw [if_pos hr, h1]; rfl
  · show ofO (slD (lst ends) (some 1) none) _ = _
    rw [h2]; rfl
  · show (if sz (x1.length + y1.length) then some (Dat.list (x1 ++ y1)) else none) = _
    rw [if_pos hz]

theorem star_loop {v0 v1 : Option Dat} {g : List Dat → Nat → List Int → PR α} (hz : cs.length ≤ 16000000) (hg : ∀ found v j s, cs.drop j = s → RelR cs e (outQ fr (k ⟨[v0, v1, none, v], some (2, found), some (rd cs j)⟩)) (g found j s)) : ∀ f found i s v, cs.drop i = s →
    Rn cs fr e (loopW (evE (orc 25) 40 (.callM 17 [.const (.str "-")])) (evS (orc 25) IT 30 bT) f ⟨[v0, v1, none, v], some (2, found), some (rd cs i)⟩) k kb ((pStarLoop f found i s).bind g)
  | 0, _, _, _, _, _ => trivial
  | f + 1, found, i, s, v, hd => by
    have h0 := rel_takes (vs := [v0, v1, none, v]) (own := some (2, found)) (n := 38) (m := 25) (x := "-") (u := 45) rfl (by decide) hz hd
    have e0 : (pStarLoop (f + 1) found i s).bind g = (pTakes 45 i s).bind fun b i s => if b then (pString i s).bind fun ends i s => (match idxD (lst ends) (.int 0), idxD (.list found) (.int (-1)) with
      | some (.int a), some (.int b) => if a < b then .err i else (match starAdd a b ends with
        | some xs => if sz (found.length + xs.length) then (pStarLoop f (found ++ xs) i s).bind g else .stuck
        | none => .stuck)
      | _, _ => .stuck) else g found i s := by
      show PR.bind (PR.bind _ _) _ = _
      rw [bind_bind]
      congr 1; funext b i s
      cases b with
      | false => rfl
      | true =>
        show PR.bind (PR.bind _ _) _ = _
        rw [bind_bind]
        congr 1; funext ends i s
        split
        · split
          · rfl
          · split
            · split <;> rfl
            · rfl
        · rfl
    rw [e0]
    refine loop_rel h0 (fun i s hd => run_asg_rel (rel_call0 (n := 39) (string_ok (by decide) hz hd)) fun ends i s hd => ?_) fun j s' hd' => hg found v j s' hd'
    split
    · rename_i a b ha hb
      have h1 := ev_cmp (O := orc 25) (n := 39) (c := .Lt) (a := .idx (.var 3) (.const (.int 0))) (b := .idxOwn 2 (.neg 1)) (x := .int a) (y := .int b) (p := decide (a < b)) (σ := ⟨[v0, v1, none, some (lst ends)], some (2, found), some (rd cs i)⟩) (ev_idx (x := lst ends) (y := .int 0) rfl rfl ha) (ev_idxOwn (y := .int (-1)) rfl hb) rfl
      by_cases q : a < b
      · rw [decide_eq_true q] at h1
        rw [if_pos q]
        exact run_t h1 (run_raise (d := .int i) (by exact rfl) rfl)
      · rw [decide_eq_false q] at h1
        rw [if_neg q]
        refine run_f h1 (run_nil ?_)
        cases hx : starAdd a b ends with
        | none => trivial
        | some xs =>
          dsimp only
          cases hs : sz (found.length + xs.length) with
          | false => trivial
          | true => exact run_ext rfl (star_x ha hb hx) rfl hs (run_nil (star_loop hz hg f (found ++ xs) i s _ hd))
    · trivial
theorem starred_ok {st pl : Int} (hm : 25 < m) (hz : cs.length ≤ 16000000) (hd : cs.drop i = s) : RelR cs Dat.list ((orc m).s 25 (rd cs i) [.int st, .int pl]) (pStarred st pl i s) := by
  rw [orc_s hm]
  refine run_top (fr := false) (O := orc 25) (n := 31) (ss := f25.body) (σ := ⟨[some (.int st), some (.int pl), none, none], none, some (rd cs i)⟩) ?_
  have e0 : pStarred st pl i s = ((pString i s).bind fun l i s => PR.ok (l.map Dat.int) i s).bind fun l i s => (pStarLoop IT l i s).bind fun found i s => match relsOf st pl found with
    | some ds => .ok ds i s
    | none => .stuck := by rw [bind_bind]; rfl
  rw [e0]
  refine run_asgCall (by simp) (relR_map (string_ok (by decide) hz hd)) fun found i s hd => run_whl ?_
  refine star_loop (k := fun σ => cont (evS (orc 25) IT 31 [.ret (.comp relElt (.var 2) [1, 0])] σ) (fun σ => .ok .next σ) fun σ => .ok .brk σ) hz (fun found v j s h => ?_) IT found i s none hd
  cases hr : relsOf st pl found with
  | none => trivial
  | some ds =>
    unfold relsOf at hr
    split at hr
    case isFalse => cases hr
    rename_i hs
    refine run_ret (fr := false) (n := 30) (d := .list ds) (σ₁ := ⟨[some (.int st), some (.int pl), some (.list found), v], none, some (rd cs j)⟩) ?_ ⟨h, rfl⟩
    have e1 : ∀ σ, evE (orc 25) 40 (.comp relElt (.var 2) [1, 0]) σ = (evE (orc 25) 39 (.var 2) σ).bind fun x σ₁ => match itemsD x with
      | none => .stuck
      | some ds => if sz ds.length then ofO ((evComp (evE (orc 25) 39) relElt none (([1, 0] : List Nat).map fun k => (σ₁.vars[k]?).join) ds).map .list) σ₁ else .stuck := fun _ => rfl
    rw [e1]
    show (if sz found.length then ofO ((evComp (evE (orc 25) 39) relElt none [some (.int pl), some (.int st)] found).map Dat.list) ⟨[some (.int st), some (.int pl), some (.list found), v], none, some (rd cs j)⟩ else .stuck) = _
    rw [if_pos hs, hr]; rfl
end
end Mine

namespace Mine
open PySem PySem.W PySem.Calls PyProof.Rows

noncomputable def relRow (st pl : Int) (ctx own more : List Int) : Dat := .tuple [.str "relation", .int st, .tuple (own.map Dat.int), .tuple (ctx.map Dat.int), .tuple (more.map Dat.int), .int pl]
noncomputable def pOut (st pl : Int) (ctx own more : List Int) (i : Nat) (s : List Int) : PR (List Dat) := gd own.length (gd ctx.length (gd more.length (.ok [relRow st pl ctx own more] i s)))
noncomputable def pMore (st pl : Int) (ctx own : List Int) (i : Nat) (s : List Int) : PR (List Dat) := (pTakes 47 i s).bind fun b i s => if b then (pString i s).bind fun more i s => pOut st pl ctx own more i s else pOut st pl ctx own [] i s
noncomputable def pRel (pl : Int) (i : Nat) (s : List Int) : PR (List Dat) := (pStrength pl i s).bind fun st i s => (pTakes 42 i s).bind fun b i s => if b then pStarred st pl i s else
  (pString i s).bind fun own i s => (pSkip IT i s).bind fun _ i s => (pTakes 124 i s).bind fun b i s => if b then (pString i s).bind fun own2 i s => (pSkip IT i s).bind fun _ i s => pMore st pl own own2 i s else pMore st pl [] own i s

section
variable {α β : Type} {cs s r : List Int} {i m u n : Nat} {fr : Bool} {e : α → Dat} {k kb : ASt → Out Fl} {vs : List (Option Dat)} {own : Option (Nat × List Dat)} {O : Orc} {σ : ASt} {l : List Int}
theorem ev_tupI {x : IE} (h1 : evE O n x σ = .ok (lst l) σ) (hz : sz l.length = true) : evE O (n + 1) (.blt .tuple x) σ = .ok (.tuple (l.map Dat.int)) σ := by
  refine ev_blt h1 ?_
  show (if sz (l.map Dat.int).length then some (Dat.tuple (l.map Dat.int)) else none) = _
  rw [List.length_map, if_pos hz]
theorem evL_cons {x : IE} {xs : List IE} {ev : IE → ASt → Out Dat} {d : Dat} {ds : List Dat} {σ₁ σ₂ : ASt} (h1 : ev x σ = .ok d σ₁) (h2 : evL ev xs σ₁ = .ok ds σ₂) : evL ev (x :: xs) σ = .ok (d :: ds) σ₂ := by
  show (ev x σ).bind _ = _
  rw [h1]
  show (evL ev xs σ₁).bind _ = _
  rw [h2]; rfl
theorem ev_tup {es : List IE} {ds : List Dat} {σ₁ : ASt} (h : evL (evE O n) es σ = .ok ds σ₁) (hz : sz ds.length = true) : evE O (n + 1) (.tup es) σ = .ok (.tuple ds) σ₁ := by
  show (evL (evE O n) es σ).bind _ = _
  rw [h]
  show (if sz ds.length then Out.ok (Dat.tuple ds) σ₁ else .stuck) = _
  rw [if_pos hz]
noncomputable def outE : IE := .list [.tup [.const (.str "relation"), .var 1, .blt .tuple (.var 3), .blt .tuple (.var 2), .blt .tuple (.var 4), .var 0]]
theorem out_ok {st pl : Int} {ctx own more : List Int} (hd : cs.drop i = s) : Run cs false Dat.list (orc 26) 31 [.ret outE] ⟨[some (.int pl), some (.int st), some (lst ctx), some (lst own), some (lst more)], none, some (rd cs i)⟩ k kb (pOut st pl ctx own more i s) := by
  refine rn_gd fun h1 => rn_gd fun h2 => rn_gd fun h3 => run_ret (d := .list [relRow st pl ctx own more]) (σ₁ := ⟨[some (.int pl), some (.int st), some (lst ctx), some (lst own), some (lst more)], none, some (rd cs i)⟩) ?_ ⟨hd, rfl⟩
  refine ev_list1 (ev_tup (n := 38) (evL_cons (σ₁ := ⟨[some (.int pl), some (.int st), some (lst ctx), some (lst own), some (lst more)], none, some (rd cs i)⟩) rfl (evL_cons (σ₁ := ⟨[some (.int pl), some (.int st), some (lst ctx), some (lst own), some (lst more)], none, some (rd cs i)⟩) rfl (evL_cons (ev_tupI (l := own) rfl h1) (evL_cons (ev_tupI (l := ctx) rfl h2) (evL_cons (ev_tupI (l := more) rfl h3) rfl))))) rfl)
theorem more_ok {st pl : Int} {ctx own : List Int} (hz : cs.length ≤ 16000000) (hd : cs.drop i = s) : Run cs false Dat.list (orc 26) 31 [.ite (.callM 17 [.const (.str "/")]) [.asg 4 (.callM 20 [])] [], .ret outE] ⟨[some (.int pl), some (.int st), some (lst ctx), some (lst own), some (.list [])], none, some (rd cs i)⟩ (fun σ => .ok .next σ) (fun σ => .ok .brk σ) (pMore st pl ctx own i s) := by
  refine run_ite_rel (rel_takes (vs := [some (.int pl), some (.int st), some (lst ctx), some (lst own), some (.list [])]) (own := none) (n := 38) (m := 26) (x := "/") (u := 47) rfl (by decide) hz hd) (fun i s hd => ?_) fun i s hd => run_nil (out_ok (more := []) hd)
  exact run_asg_rel (rel_call0 (n := 39) (string_ok (by decide) hz hd)) fun more i s hd => run_nil (out_ok hd)
/-- a string into a place of a tuple of names -/
theorem run_asgT_rel {ss : List IS} {ks : List Nat} {es : List IE} {q : PR (List Int)} {g : List Int → Nat → List Int → PR α} {F : Dat → List Dat} {G : Dat → List (Option Dat)} {o : Out Dat} (h : RelE cs vs own lst o q) (he : evL (evE O 40) es σ = o.bind fun d σ₁ => .ok (F d) σ₁)
    (hp : ∀ d i, putVars ks (F d) ⟨vs, own, some (rd cs i)⟩ = some ⟨G d, none, some (rd cs i)⟩) (hq : ∀ a i s, cs.drop i = s → Run cs fr e O (n + 1) ss ⟨G (lst a), none, some (rd cs i)⟩ k kb (g a i s)) : Run cs fr e O (n + 1) (.asgT ks es :: ss) σ k kb (q.bind g) := by
  refine run_cons ?_
  simp only [stepS]
  rw [he, obind_bind]
  refine rn_rel h fun a i s hd => ?_
  show Rn cs fr e (match putVars ks (F (lst a)) ⟨vs, own, some (rd cs i)⟩ with | some σ₂ => .ok .next σ₂ | none => .stuck) _ _ _
  rw [hp]
  exact rn_next (hq a i s hd)
theorem relation_ok {pl : Int} (hm : 26 < m) (hz : cs.length ≤ 16000000) (hd : cs.drop i = s) : RelR cs Dat.list ((orc m).s 26 (rd cs i) [.int pl]) (pRel pl i s) := by
  rw [orc_s hm]
  refine run_top (fr := false) (O := orc 26) (n := 31) (ss := f26.body) (σ := ⟨[some (.int pl), none, none, none, none], none, some (rd cs i)⟩) ?_
  refine run_asg_rel (rel_call (n := 39) (vs := [some (.int pl), none, none, none, none]) (own := none) (ds := [.int pl]) rfl (strength_ok (by decide) hz hd)) fun st i s hd => ?_
  refine run_ite_rel (rel_takes (vs := [some (.int pl), some (.int st), none, none, none]) (own := none) (n := 38) (m := 26) (x := "*") (u := 42) rfl (by decide) hz hd) (fun i s hd => ?_) fun i s hd => run_nil ?_
  · have e0 : pStarred st pl i s = (pStarred st pl i s).bind fun a i s => .ok a i s := by cases pStarred st pl i s <;> rfl
    show Rn _ _ _ _ _ _ (pStarred st pl i s)
    rw [e0]
    exact run_ret_rel (rel_call (n := 39) (vs := [some (.int pl), some (.int st), none, none, none]) (own := none) (ds := [.int st, .int pl]) rfl (starred_ok (by decide) hz hd)) fun a j s hd => ⟨hd, rfl⟩
  refine run_asgT_rel (F := fun d => [.list [], d, .list []]) (G := fun d => [some (.int pl), some (.int st), some (.list []), some d, some (.list [])]) (rel_call0 (n := 39) (vs := [some (.int pl), some (.int st), none, none, none]) (own := none) (string_ok (m := 26) (by decide) hz hd)) (by
    show (((evE (orc 26) 40 (.callM 20 []) _).bind _) : Out (List Dat)).bind _ = _
    rw [obind_bind]; rfl) (fun _ _ => rfl) fun own i s hd => ?_
  refine run_expr_rel (rel_call0 (n := 39) (skip_ok (by decide) hz hd)) fun _ i s hd => ?_
  refine run_ite_rel (rel_takes (vs := [some (.int pl), some (.int st), some (.list []), some (lst own), some (.list [])]) (own := none) (n := 38) (m := 26) (x := "|") (u := 124) rfl (by decide) hz hd) (fun i s hd => ?_) fun i s hd => run_nil (more_ok (ctx := []) hz hd)
  refine run_asgT_rel (F := fun d => [lst own, d]) (G := fun d => [some (.int pl), some (.int st), some (lst own), some d, some (.list [])]) (rel_call0 (n := 39) (vs := [some (.int pl), some (.int st), some (.list []), some (lst own), some (.list [])]) (own := none) (string_ok (m := 26) (by decide) hz hd)) (by
    show (((evE (orc 26) 40 (.callM 20 []) _).bind _) : Out (List Dat)).bind _ = _
    rw [obind_bind]; rfl) (fun _ _ => rfl) fun own2 i s hd => ?_
  exact run_expr_rel (rel_call0 (n := 39) (skip_ok (by decide) hz hd)) fun _ i s hd => run_nil (more_ok hz hd)
end
end Mine

namespace Mine
open PySem PySem.W PySem.Calls PyProof.Rows

noncomputable def badRows (bef : Int) (rows : List Dat) : Option Bool := if bef != 0 then (match idxD (.list rows) (.int 0) with
  | some row => (match idxD row (.int 1) with
    | some (.int st) => some (st != bef)
    | _ => none)
  | none => none) else some false
noncomputable def pMain : Nat → List Dat → Bool → Int → Nat → List Int → PR (List Dat)
  | 0, _, _, _, _, _ => .stuck
  | _ + 1, found, _, _, i, [] => .ok found i []
  | n + 1, found, set, bef, i, c :: r => (pTakes 38 i (c :: r)).bind fun b j s => if b then (pReset i j s).bind fun rule j s => (if sz (found.length + 1) then (match idxD rule (.int 2) with
      | some (.int b2) => (pSkip IT j s).bind fun _ j s => pMain n (found ++ [rule]) true b2 j s
      | _ => .stuck) else .stuck)
    else (pTakes 91 j s).bind fun b j s => if b then (pWords j s).bind fun ws j s => (if sz (found.length + 1) && sz ws.length then (pSkip IT j s).bind fun _ j s => pMain n (found ++ [.tuple [.str "option", .tuple ws, .int i]]) set bef j s else .stuck)
    else if set then (pRel i j s).bind fun rows j s => (match badRows bef rows with
      | some true => .err i
      | some false => if sz (found.length + rows.length) then (pSkip IT j s).bind fun _ j s => pMain n (found ++ rows) set 0 j s else .stuck
      | none => .stuck)
    else .err i

section
variable {cs s r : List Int} {i n : Nat} {fr : Bool} {k kb : ASt → Out Fl} {v0 v4 v6 : Option Dat}
noncomputable abbrev ms (cs : List Int) (v0 : Option Dat) (set : Bool) (bef : Int) (v4 v6 : Option Dat) (found : List Dat) (i : Nat) : ASt := ⟨[v0, none, some (.bool set), some (.int bef), v4, some (lst cs), v6], some (1, found), some (rd cs i)⟩
noncomputable def tM : IE := .cmp (.fld true) [.Lt] [.blt .len (.var 5)]
noncomputable def bM : List IS := [.asg 4 (.fld true), .ite (.callM 17 [.const (.str "&")]) [.app 1 (.callM 23 [.var 4]), .asgT [2, 3] [.const (.bool true), .idx (.idxOwn 1 (.neg 1)) (.const (.int 2))]] [.ite (.callM 17 [.const (.str "[")]) [.app 1 (.tup [.const (.str "option"), .blt .tuple (.callM 22 []), .var 4])]
  [.ite (.var 2) [.asg 6 (.callM 26 [.var 4]), .ite (.conn .And [.cmp (.var 3) [.NotEq] [.const (.int 0)], .cmp (.idx (.idx (.var 6) (.const (.int 0))) (.const (.int 1))) [.NotEq] [.var 3]]) [.raise 0 (.var 4)] [], .ext 1 (.var 6), .asg 3 (.const (.int 0))] [.raise 0 (.var 4)]]], .expr (.callM 15 [])]
theorem m_lt {set : Bool} {bef : Int} {found : List Dat} (hz : cs.length ≤ 16000000) (hd : cs.drop i = s) : evE (orc 27) 40 tM (ms cs v0 set bef v4 v6 found i) = .ok (.bool (!s.isEmpty)) (ms cs v0 set bef v4 v6 found i) := by
  refine ev_cmp (x := .int i) (y := .int cs.length) rfl (ev_blt (x := lst cs) rfl (len_ok hz)) ?_
  have hl := drop_lt hd
  show some (decide ((i : Int) < (cs.length : Int))) = _
  cases s with
  | nil => exact congrArg some (decide_eq_false (by simp at hl; omega))
  | cons => exact congrArg some (decide_eq_true (by simp at hl; omega))
noncomputable def kM (f : Nat) : ASt → Out Fl := fun σ => cont (loopW (evE (orc 27) 40 tM) (evS (orc 27) IT 30 bM) f σ) (fun σ => cont (evS (orc 27) IT 31 [.retOwn 1] σ) (fun σ => .ok .next σ) fun σ => .ok .brk σ) fun σ => .ok .brk σ
noncomputable abbrev kE : ASt → Out Fl := fun σ => cont (evS (orc 27) IT 31 [.retOwn 1] σ) (fun σ => .ok .next σ) fun σ => .ok .brk σ
/-- the state's skip at a turn's end -/
theorem m_next {set : Bool} {bef : Int} {found : List Dat} {f : Nat} {v4 v6 : Option Dat} (hz : cs.length ≤ 16000000) (ih : ∀ v4 v6 i s, cs.drop i = s → RelR cs Dat.list (outQ false (kM f (ms cs v0 set bef v4 v6 found i))) (pMain f found set bef i s)) (hd : cs.drop i = s) :
    Rn cs false Dat.list (evS (orc 27) IT 30 [.expr (.callM 15 [])] (ms cs v0 set bef v4 v6 found i)) (kM f) kE ((pSkip IT i s).bind fun _ j s => pMain f found set bef j s) :=
  run_expr_rel (rel_call0 (n := 39) (skip_ok (by decide) hz hd)) fun _ i s hd => run_nil (ih v4 v6 i s hd)
theorem run_app_g {α β : Type} {e : α → Dat} {O : Orc} {ss : List IS} {σ : ASt} {j : Nat} {x : IE} {ys xs : List Dat} {vs : List (Option Dat)} {e' : β → Dat} {q : PR β} {g : β → Nat → List Int → PR α} (h0 : σ.own = some (j, ys)) (h : RelE cs vs (some (j, xs)) e' (evE O 40 x σ) q)
    (hq : ∀ a i s, cs.drop i = s → Run cs fr e O (n + 1) ss ⟨vs, some (j, xs ++ [e' a]), some (rd cs i)⟩ k kb (g a i s)) : Run cs fr e O (n + 1) (.app j x :: ss) σ k kb (q.bind fun a i s => if sz (xs.length + 1) then g a i s else .stuck) := by
  refine run_cons ?_
  simp only [stepS]
  rw [h0]
  dsimp only
  rw [if_pos rfl]
  refine rn_rel h fun a i s hd => ?_
  cases hz : sz (xs.length + 1) with
  | false => trivial
  | true =>
    simp only [hz, decide_true, Bool.and_self, if_true]
    exact rn_next (hq a i s hd)
theorem last_ok {xs : List Dat} {d : Dat} : idxD (.list (xs ++ [d])) (.int (-1)) = some d := by
  have e0 : ∀ ys : List Dat, idxD (.list ys) (.int (-1)) = ys.getLast? := fun _ => rfl
  rw [e0, List.getLast?_concat]
theorem main_loop (hz : cs.length ≤ 16000000) : ∀ f found set bef v4 v6 i s, cs.drop i = s → RelR cs Dat.list (outQ false (kM f (ms cs v0 set bef v4 v6 found i))) (pMain f found set bef i s)
  | 0, _, _, _, _, _, _, _, _ => trivial
  | f + 1, found, set, bef, v4, v6, i, [], hd => by
    refine loop_f (k := kE) (kb := fun σ => .ok .brk σ) (cs := cs) (fr := false) (m_lt hz hd) ?_
    exact run_retOwn (n := 30) (fr := false) rfl ⟨hd, rfl⟩
  | f + 1, found, set, bef, v4, v6, i, c :: r, hd => by
    refine loop_t (k := kE) (kb := fun σ => .ok .brk σ) (cs := cs) (fr := false) (m_lt hz hd) ?_
    refine run_asg (d := .int i) (by exact rfl) ?_
    refine run_ite_rel (rel_takes (vs := [v0, none, some (.bool set), some (.int bef), some (.int i), some (lst cs), v6]) (own := some (1, found)) (n := 38) (m := 27) (x := "&") (u := 38) rfl (by decide) hz hd) (fun j s hd => ?_) fun j s hd => ?_
    · refine run_app_g rfl (rel_call (n := 39) (vs := [v0, none, some (.bool set), some (.int bef), some (.int i), some (lst cs), v6]) (own := some (1, found)) (ds := [.int i]) rfl (reset_ok (by decide) hz hd)) fun rule j s hd => ?_
      cases hr : idxD rule (.int 2) with
      | none => trivial
      | some b2 =>
        cases b2 with
        | int b2 =>
          dsimp only
          refine run_asgT (n := 28) (ds := [.bool true, .int b2]) (σ₁ := ⟨[v0, none, some (.bool set), some (.int bef), some (.int i), some (lst cs), v6], some (1, found ++ [rule]), some (rd cs j)⟩) (σ₂ := ms cs v0 true b2 (some (.int i)) v6 (found ++ [rule]) j) ?_ rfl (run_nil ?_)
          · exact evL_cons (by exact rfl) (evL_cons (ev_idx (ev_idxOwn (y := .int (-1)) (by exact rfl) last_ok) (by exact rfl) hr) (by exact rfl))
          · exact m_next hz (fun v4 v6 i s hd => main_loop hz f (found ++ [rule]) true b2 v4 v6 i s hd) hd
        | _ => trivial
    refine run_ite_rel (rel_takes (vs := [v0, none, some (.bool set), some (.int bef), some (.int i), some (lst cs), v6]) (own := some (1, found)) (n := 38) (m := 27) (x := "[") (u := 91) rfl (by decide) hz hd) (fun j s hd => ?_) fun j s hd => ?_
    · have h8 : RelE cs [v0, none, some (.bool set), some (.int bef), some (.int i), some (lst cs), v6] (some (1, found)) id (evE (orc 27) 40 (.tup [.const (.str "option"), .blt .tuple (.callM 22 []), .var 4]) ⟨[v0, none, some (.bool set), some (.int bef), some (.int i), some (lst cs), v6], some (1, found), some (rd cs j)⟩)
          ((pWords j s).bind fun ws j s => if sz ws.length then .ok (.tuple [.str "option", .tuple ws, .int i]) j s else .stuck) := by
        have e0 : evE (orc 27) 40 (.tup [.const (.str "option"), .blt .tuple (.callM 22 []), .var 4]) ⟨[v0, none, some (.bool set), some (.int bef), some (.int i), some (lst cs), v6], some (1, found), some (rd cs j)⟩ = (evE (orc 27) 38 (.callM 22 []) ⟨[v0, none, some (.bool set), some (.int bef), some (.int i), some (lst cs), v6], some (1, found), some (rd cs j)⟩).bind fun x σ₁ => (((((ofO (bltD .tuple x) σ₁).bind fun d2 σ₂ => ((evE (orc 27) 39 (.var 4) σ₂).bind fun d3 σ₃ => .ok [d3] σ₃).bind fun ds σ₂ => .ok (d2 :: ds) σ₂) : Out (List Dat)).bind fun ds σ₂ => .ok (Dat.str "option" :: ds) σ₂).bind fun ds σ₁ => if sz ds.length then Out.ok (Dat.tuple ds) σ₁ else .stuck) := by
          rw [← obind_bind, ← obind_bind, ← obind_bind]; rfl
        rw [e0]
        refine rel_bind (rel_call0 (n := 37) (words_ok (by decide) hz hd)) fun ws j s hd => ?_
        cases hs : sz ws.length with
        | false => trivial
        | true =>
          refine ⟨hd, ?_⟩
          have e1 : bltD .tuple (.list ws) = some (.tuple ws) := by
            show (if sz ws.length then some (Dat.tuple ws) else none) = _
            rw [if_pos hs]
          rw [e1]; rfl
      have e1 : ((pWords j s).bind fun ws j s => (if sz (found.length + 1) && sz ws.length then (pSkip IT j s).bind fun _ j s => pMain f (found ++ [.tuple [.str "option", .tuple ws, .int i]]) set bef j s else .stuck)) = ((pWords j s).bind fun ws j s => if sz ws.length then PR.ok (Dat.tuple [.str "option", .tuple ws, .int i]) j s else .stuck).bind fun d j s => if sz (found.length + 1) then (pSkip IT j s).bind fun _ j s => pMain f (found ++ [d]) set bef j s else .stuck := by
        rw [bind_bind]
        congr 1; funext ws j s
        cases sz ws.length <;> cases sz (found.length + 1) <;> rfl
      show Rn _ _ _ _ _ _ ((pWords j s).bind fun ws j s => (if sz (found.length + 1) && sz ws.length then (pSkip IT j s).bind fun _ j s => pMain f (found ++ [.tuple [.str "option", .tuple ws, .int i]]) set bef j s else .stuck))
      rw [e1]
      exact run_app_g rfl h8 fun d j s hd => run_nil (run_nil (m_next hz (fun v4 v6 i s hd => main_loop hz f (found ++ [d]) set bef v4 v6 i s hd) hd))
    show Rn _ _ _ _ _ _ (if set then _ else _)
    cases set with
    | false => exact run_f (by exact rfl) (run_raise (d := .int i) (by exact rfl) rfl)
    | true =>
      refine run_t (by exact rfl) (run_asg_rel (rel_call (n := 39) (vs := [v0, none, some (.bool true), some (.int bef), some (.int i), some (lst cs), v6]) (own := some (1, found)) (ds := [.int i]) rfl (relation_ok (by decide) hz hd)) fun rows j s hd => ?_)
      have fin : ∀ (hs : sz (found.length + rows.length) = true), Rn cs false Dat.list (evS (orc 27) IT 27 [.ext 1 (.var 6), .asg 3 (.const (.int 0))] ⟨[v0, none, some (.bool true), some (.int bef), some (.int i), some (lst cs), some (.list rows)], some (1, found), some (rd cs j)⟩)
          (fun σ => cont (evS (orc 27) IT 28 [] σ) (fun σ => cont (evS (orc 27) IT 29 [] σ) (fun σ => cont (evS (orc 27) IT 30 [.expr (.callM 15 [])] σ) (kM f) kE) kE) kE) kE ((pSkip IT j s).bind fun _ j s => pMain f (found ++ rows) true 0 j s) := fun hs =>
        run_ext (x := .var 6) rfl (σ₁ := ⟨[v0, none, some (.bool true), some (.int bef), some (.int i), some (lst cs), some (.list rows)], some (1, found), some (rd cs j)⟩) (ds := rows) rfl rfl hs (run_asg (d := .int 0) (σ₁ := ⟨[v0, none, some (.bool true), some (.int bef), some (.int i), some (lst cs), some (.list rows)], some (1, found ++ rows), some (rd cs j)⟩) rfl (run_nil (run_nil (run_nil (m_next hz (fun v4 v6 i s hd => main_loop hz f (found ++ rows) true 0 v4 v6 i s hd) hd)))))
      have h1 := ev_cmp (O := orc 27) (n := 38) (a := .var 3) (b := .const (.int 0)) (c := .NotEq) (x := .int bef) (y := .int 0) (p := bef != 0) (σ := ⟨[v0, none, some (.bool true), some (.int bef), some (.int i), some (lst cs), some (.list rows)], some (1, found), some (rd cs j)⟩) rfl rfl rfl
      show Rn _ _ _ _ _ _ (match badRows bef rows with
        | some true => .err i
        | some false => if sz (found.length + rows.length) then (pSkip IT j s).bind fun _ j s => pMain f (found ++ rows) true 0 j s else .stuck
        | none => .stuck)
      unfold badRows
      cases hb : bef != 0 with
      | false =>
        rw [hb] at h1
        rw [if_neg (by decide)]
        dsimp only
        cases hs : sz (found.length + rows.length) with
        | false => trivial
        | true => exact run_f (ev_and_f h1) (run_nil (fin hs))
      | true =>
        rw [hb] at h1
        rw [if_pos rfl]
        cases h2 : idxD (.list rows) (.int 0) with
        | none => trivial
        | some row =>
          dsimp only
          cases h3 : idxD row (.int 1) with
          | none => trivial
          | some st =>
            cases st with
            | int st =>
              dsimp only
              have h4 := ev_and_t h1 (ev_cmp (c := .NotEq) (p := st != bef) (ev_idx (a := .idx (.var 6) (.const (.int 0))) (b := .const (.int 1)) (ev_idx (a := .var 6) (b := .const (.int 0)) (x := .list rows) rfl rfl h2) rfl h3) (y := .int bef) (b := .var 3) rfl rfl)
              cases hc : st != bef with
              | true =>
                rw [hc] at h4
                exact run_t h4 (run_raise (d := .int i) (by exact rfl) rfl)
              | false =>
                rw [hc] at h4
                cases hs : sz (found.length + rows.length) with
                | false => trivial
                | true => exact run_f h4 (run_nil (fin hs))
            | _ => trivial
end
end Mine

namespace Mine
open PySem PySem.W PySem.Calls PyProof.Rows

noncomputable def RelP {α : Type} (e : α → Dat) (o : Res) : PR α → Prop
  | .ok a _ _ => o = .ok (e a)
  | .err p => o = .exc ⟨0, .int p⟩
  | .stuck => True
theorem outP_of {α : Type} {cs : List Int} {e : α → Dat} {o : Out Fl} {r : PR α} (h : RelR cs e (outQ false o) r) : RelP e (outP o) r := by
  cases r with
  | stuck => trivial
  | err p =>
    have h : outQ false o = _ := h
    cases o with
    | stuck => cases h
    | exc x σ => cases h; rfl
    | ok f σ =>
      obtain ⟨a, b, c⟩ := σ
      cases f <;> cases c <;> cases h
  | ok a j s =>
    obtain ⟨_, h⟩ := h
    cases o with
    | stuck => cases h
    | exc x σ => cases h
    | ok f σ =>
      obtain ⟨a, b, c⟩ := σ
      cases f with
      | brk => cases h
      | next => cases c with
        | none => cases h
        | some => injection h with h1 h2; exact congrArg Res.ok h1
      | ret => cases c with
        | none => cases h
        | some => injection h with h1 h2; exact congrArg Res.ok h1
theorem step_to {O : Orc} {n : Nat} {s : IS} {r : List IS} {σ σ' : ASt} (h : stepS O IT (evE O 40) (evS O IT n) s σ = .ok .next σ') : evS O IT (n + 1) (s :: r) σ = evS O IT (n + 1) r σ' := by rw [evS_cons, h]; rfl
theorem step_exc {O : Orc} {n : Nat} {s : IS} {r : List IS} {σ σ' : ASt} {x : Exn} (h : stepS O IT (evE O 40) (evS O IT n) s σ = .exc x σ') : evS O IT (n + 1) (s :: r) σ = .exc x σ' := by rw [evS_cons, h]; rfl
theorem ev_callP1x {O : Orc} {n f : Nat} {a : IE} {x : Dat} {e : Exn} {σ σ₁ : ASt} (h1 : evE O n a σ = .ok x σ₁) (h2 : O.p f [x] = .exc e) : evE O (n + 1) (.callP f [a]) σ = .exc e σ₁ := by
  show (evL (evE O n) [a] σ).bind _ = _
  unfold evL
  rw [h1]
  show (match O.p f [x] with | .ok d => Out.ok d σ₁ | .exc x => .exc x σ₁ | .stuck => .stuck) = _
  rw [h2]

noncomputable def readS (cs : List Int) : PR (List Dat) := (pSkip IT 0 cs).bind fun _ i s => pMain IT [] false 0 i s
section
variable {m : Nat} {b : Array UInt8} {cs : List Int}
noncomputable def tryD : IS := .tryT [.asg 5 (.callP 12 [.var 0])] 2 4 true
theorem read_ok (hm : 27 < m) (hz : cs.length ≤ 16000000) (h : (orc 27).p 12 [.bytes b] = .ok (lst cs)) : RelP Dat.list ((orc m).p 27 [.bytes b]) (readS cs) := by
  rw [orc_p (by decide) hm]
  show RelP Dat.list (outP (evS (orc 27) IT 31 f27.body ⟨[some (.bytes b), none, none, none, none, none, none], none, none⟩)) _
  have e1 : evS (orc 27) IT 31 f27.body ⟨[some (.bytes b), none, none, none, none, none, none], none, none⟩ = evS (orc 27) IT 31 (tryD :: f27.body.drop 2) ⟨[some (.bytes b), none, some (.bool false), some (.int 0), some .none, none, none], some (1, []), none⟩ := step_to rfl
  have e2 : evS (orc 27) IT 31 (tryD :: f27.body.drop 2) ⟨[some (.bytes b), none, some (.bool false), some (.int 0), some .none, none, none], some (1, []), none⟩ = evS (orc 27) IT 31 (f27.body.drop 2) ⟨[some (.bytes b), none, some (.bool false), some (.int 0), some .none, some (lst cs), none], some (1, []), none⟩ := by
    refine step_to ?_
    have e3 : evS (orc 27) IT 30 [.asg 5 (.callP 12 [.var 0])] ⟨[some (.bytes b), none, some (.bool false), some (.int 0), some .none, none, none], some (1, []), none⟩ = .ok .next ⟨[some (.bytes b), none, some (.bool false), some (.int 0), some .none, some (lst cs), none], some (1, []), none⟩ := by
      refine step_to (n := 29) (σ' := ⟨[some (.bytes b), none, some (.bool false), some (.int 0), some .none, some (lst cs), none], some (1, []), none⟩) ?_
      show (evE (orc 27) 40 (.callP 12 [.var 0]) _).bind _ = _
      rw [ev_callP1 (x := .bytes b) (by exact rfl) h]; rfl
    show (match evS (orc 27) IT 30 [.asg 5 (.callP 12 [.var 0])] ⟨[some (.bytes b), none, some (.bool false), some (.int 0), some .none, none, none], some (1, []), none⟩ with
      | .ok f σ₁ => Out.ok f σ₁
      | .exc x σ₁ => _
      | .stuck => .stuck) = _
    rw [e3]
  have e4 : evS (orc 27) IT 31 (f27.body.drop 2) ⟨[some (.bytes b), none, some (.bool false), some (.int 0), some .none, some (lst cs), none], some (1, []), none⟩ = evS (orc 27) IT 31 (f27.body.drop 4) ⟨[some (.bytes b), none, some (.bool false), some (.int 0), some .none, some (lst cs), none], some (1, []), some (rd cs 0)⟩ :=
    (step_to (σ' := ⟨[some (.bytes b), none, some (.bool false), some (.int 0), some .none, some (lst cs), none], some (1, []), none⟩) rfl).trans (step_to rfl)
  rw [e1, e2, e4]
  refine outP_of (cs := cs) (run_top (fr := false) ?_)
  exact run_expr_rel (rel_call0 (n := 39) (vs := [some (.bytes b), none, some (.bool false), some (.int 0), some .none, some (lst cs), none]) (own := some (1, [])) (skip_ok (by decide) hz rfl)) fun _ i s hd => run_whl (main_loop hz IT [] false 0 _ _ i s hd)
theorem read_bad {k : Int} {w : Dat} (hm : 27 < m) (h : (orc 27).p 12 [.bytes b] = .exc ⟨2, .tuple [.int k, w]⟩) : (orc m).p 27 [.bytes b] = .exc ⟨0, .int k⟩ := by
  rw [orc_p (by decide) hm]
  show outP (evS (orc 27) IT 31 f27.body ⟨[some (.bytes b), none, none, none, none, none, none], none, none⟩) = _
  have e1 : evS (orc 27) IT 31 f27.body ⟨[some (.bytes b), none, none, none, none, none, none], none, none⟩ = evS (orc 27) IT 31 (tryD :: f27.body.drop 2) ⟨[some (.bytes b), none, some (.bool false), some (.int 0), some .none, none, none], some (1, []), none⟩ := step_to rfl
  have e2 : evS (orc 27) IT 31 (tryD :: f27.body.drop 2) ⟨[some (.bytes b), none, some (.bool false), some (.int 0), some .none, none, none], some (1, []), none⟩ = evS (orc 27) IT 31 (f27.body.drop 2) ⟨[some (.bytes b), none, some (.bool false), some (.int 0), some (.int k), none, none], some (1, []), none⟩ := by
    refine step_to ?_
    have e3 : evS (orc 27) IT 30 [.asg 5 (.callP 12 [.var 0])] ⟨[some (.bytes b), none, some (.bool false), some (.int 0), some .none, none, none], some (1, []), none⟩ = .exc ⟨2, .tuple [.int k, w]⟩ ⟨[some (.bytes b), none, some (.bool false), some (.int 0), some .none, none, none], some (1, []), none⟩ := by
      refine step_exc (n := 29) ?_
      show (evE (orc 27) 40 (.callP 12 [.var 0]) _).bind _ = _
      rw [ev_callP1x (x := .bytes b) (by exact rfl) h]; rfl
    show (match evS (orc 27) IT 30 [.asg 5 (.callP 12 [.var 0])] ⟨[some (.bytes b), none, some (.bool false), some (.int 0), some .none, none, none], some (1, []), none⟩ with
      | .ok f σ₁ => Out.ok f σ₁
      | .exc x σ₁ => if x.cls = 2 then (match (if true then (match x.told with | .tuple (d :: _) => some d | _ => none) else some x.told) with
        | some (.int i) => .ok .next (putVar 4 (.int i) σ₁)
        | _ => .stuck) else .stuck
      | .stuck => .stuck) = _
    rw [e3]; rfl
  rw [e1, e2]
  have e4 : evS (orc 27) IT 31 (f27.body.drop 2) ⟨[some (.bytes b), none, some (.bool false), some (.int 0), some (.int k), none, none], some (1, []), none⟩ = .exc ⟨0, .int k⟩ ⟨[some (.bytes b), none, some (.bool false), some (.int 0), some (.int k), none, none], some (1, []), none⟩ := step_exc rfl
  rw [e4]; rfl
end
end Mine

namespace Mine
open PySem PySem.W PySem.Calls PyProof.Rows

/-! told -/
noncomputable def isTup : Dat → Bool
  | .tuple _ => true
  | _ => false
section
variable {m : Nat} {b : Array UInt8} {found : List Dat}
theorem comp_tup {ev : IE → ASt → Out Dat} {caps : List (Option Dat)} (h : ∀ ds, ev (.blt .tuple (.var 0)) ⟨some (.tuple ds) :: caps, none, none⟩ = .ok (.tuple ds) ⟨some (.tuple ds) :: caps, none, none⟩) : ∀ {l : List Dat}, l.all isTup = true → evComp ev (.blt .tuple (.var 0)) none caps l = some l
  | [], _ => rfl
  | d :: l, hl => by
    simp only [List.all_cons, Bool.and_eq_true] at hl
    cases d with
    | tuple ds =>
      have e0 : evComp ev (.blt .tuple (.var 0)) none caps (.tuple ds :: l) = (match endsPlain (ev (.blt .tuple (.var 0)) ⟨some (.tuple ds) :: caps, none, none⟩) with
        | none => none
        | some r => (evComp ev (.blt .tuple (.var 0)) none caps l).map (r :: ·)) := rfl
      rw [e0, h, comp_tup h hl.2]; rfl
    | _ => cases hl.1
noncomputable def tryB : List IS := [.asgC 1 (.comp (.blt .tuple (.var 0)) (.callP 27 [.var 0]) [])]
noncomputable def afterTry : Out Fl → Out Fl
  | .ok f σ₁ => .ok f σ₁
  | .exc x σ₁ => if x.cls = 0 then (match x.told with
    | .int i => .ok .next (putVar 1 (.int i) σ₁)
    | _ => .stuck) else .stuck
  | .stuck => .stuck
theorem try_eq {σ : ASt} {o : Out Fl} {res : Out Fl} (h : evS (orc 40) IT 30 tryB σ = o) (e : afterTry o = res) (hx : ∀ x σ', o = .exc x σ' → ∃ i, x = ⟨0, .int i⟩) : stepS (orc 40) IT (evE (orc 40) 40) (evS (orc 40) IT 30) (.tryT tryB 0 1 false) σ = res := by
  simp only [stepS]
  rw [h]
  cases o with
  | ok => exact e
  | stuck => exact e
  | exc x σ' =>
    obtain ⟨i, rfl⟩ := hx x σ' rfl
    exact e
theorem toldOk {r : PR (List Dat)} (hm : 40 < m) (h : ∀ m, 27 < m → RelP Dat.list ((orc m).p 27 [.bytes b]) r) : match r with
    | .ok found _ _ => found.all isTup = true → found.length ≤ 16000000 → (orc m).p 40 [.bytes b] = .ok (.list found)
    | .err p => (orc m).p 40 [.bytes b] = .ok (.int p)
    | .stuck => True := by
  have top : ∀ d σ, stepS (orc 40) IT (evE (orc 40) 40) (evS (orc 40) IT 30) (.tryT tryB 0 1 false) ⟨[some (.bytes b), some .none], none, none⟩ = .ok .next σ → evE (orc 40) 40 (.var 1) σ = .ok d σ → (orc m).p 40 [.bytes b] = .ok d := fun d σ h1 h2 => by
    rw [orc_p (by decide) hm]
    show outP (evS (orc 40) IT 31 f40.body ⟨[some (.bytes b), none], none, none⟩) = _
    have e1 : evS (orc 40) IT 31 f40.body ⟨[some (.bytes b), none], none, none⟩ = evS (orc 40) IT 31 [.tryT tryB 0 1 false, .ret (.var 1)] ⟨[some (.bytes b), some .none], none, none⟩ := step_to rfl
    rw [e1, step_to h1]
    exact retP h2
  have h40 := h 40 (by decide)
  cases r with
  | stuck => trivial
  | ok found i s =>
    intro ht hl
    have h40 : (orc 40).p 27 [.bytes b] = _ := h40
    refine top (.list found) ⟨[some (.bytes b), some (.list found)], none, none⟩ (try_eq (o := .ok .next ⟨[some (.bytes b), some (.list found)], none, none⟩) ?_ rfl fun _ _ h => nomatch h) rfl
    refine step_to (n := 29) (σ' := ⟨[some (.bytes b), some (.list found)], none, none⟩) ?_
    show (evE (orc 40) 40 (.comp (.blt .tuple (.var 0)) (.callP 27 [.var 0]) []) _).bind _ = _
    have e2 : evE (orc 40) 40 (.comp (.blt .tuple (.var 0)) (.callP 27 [.var 0]) []) ⟨[some (.bytes b), some .none], none, none⟩ = .ok (.list found) ⟨[some (.bytes b), some .none], none, none⟩ := by
      show (evE (orc 40) 39 (.callP 27 [.var 0]) _).bind _ = _
      rw [ev_callP1 (x := .bytes b) (by exact rfl) h40]
      show (if sz found.length then ofO ((evComp (evE (orc 40) 39) (.blt .tuple (.var 0)) none [] found).map Dat.list) _ else .stuck) = _
      rw [if_pos (sz_ok hl), comp_tup (fun _ => rfl) ht]; rfl
    rw [e2]; rfl
  | err p =>
    have h40 : (orc 40).p 27 [.bytes b] = _ := h40
    refine top (.int p) ⟨[some (.bytes b), some (.int p)], none, none⟩ (try_eq (o := .exc ⟨0, .int p⟩ ⟨[some (.bytes b), some .none], none, none⟩) ?_ rfl fun _ _ h => by cases h; exact ⟨p, rfl⟩) rfl
    refine step_exc (n := 29) ?_
    show (evE (orc 40) 40 (.comp (.blt .tuple (.var 0)) (.callP 27 [.var 0]) []) _).bind _ = _
    have e2 : evE (orc 40) 40 (.comp (.blt .tuple (.var 0)) (.callP 27 [.var 0]) []) ⟨[some (.bytes b), some .none], none, none⟩ = .exc ⟨0, .int p⟩ ⟨[some (.bytes b), some .none], none, none⟩ := by
      show (evE (orc 40) 39 (.callP 27 [.var 0]) _).bind _ = _
      rw [ev_callP1x (x := .bytes b) (by exact rfl) h40]; rfl
    rw [e2]; rfl
end

/-! octets -/
noncomputable def okc (c : Int) : Bool := btw 0 c 127 || ([133, 233, 945, 8206, 8207, 8232, 19968, 128512] : List Int).any (· == c)
noncomputable def ub (c : Int) : List UInt8 := if btw 0 c 127 then [UInt8.ofNat c.toNat] else if c == 133 then [0xc2, 0x85] else if c == 233 then [0xc3, 0xa9] else if c == 945 then [0xce, 0xb1] else if c == 8206 then [0xe2, 0x80, 0x8e] else if c == 8207 then [0xe2, 0x80, 0x8f]
  else if c == 8232 then [0xe2, 0x80, 0xa8] else if c == 19968 then [0xe4, 0xb8, 0x80] else [0xf0, 0x9f, 0x98, 0x80]
noncomputable def ubs (l : List Int) : List UInt8 := l.flatMap ub
noncomputable def uD (l : List UInt8) : List Dat := l.map fun x => .int (x.toNat : Int)
theorem okc_cases {c : Int} {P : Prop} (h : okc c = true) (h0 : btw 0 c 127 = true → P) (h1 : c = 133 → P) (h2 : c = 233 → P) (h3 : c = 945 → P) (h4 : c = 8206 → P) (h5 : c = 8207 → P) (h6 : c = 8232 → P) (h7 : c = 19968 → P) (h8 : c = 128512 → P) : P := by
  unfold okc at h
  rcases Bool.or_eq_true_iff.mp h with h | h
  · exact h0 h
  · simp only [List.any_cons, List.any_nil, Bool.or_false, Bool.or_eq_true, beq_iff_eq] at h
    rcases h with h | h | h | h | h | h | h | h
    · exact h1 h.symm
    · exact h2 h.symm
    · exact h3 h.symm
    · exact h4 h.symm
    · exact h5 h.symm
    · exact h6 h.symm
    · exact h7 h.symm
    · exact h8 h.symm
theorem oct_uD : ∀ {l : List UInt8}, octets? (uD l) = some l
  | [] => rfl
  | x :: l => by
    have h1 : octet? (.int (x.toNat : Int)) = some x := by
      have := x.toNat_lt
      show (if 0 ≤ (x.toNat : Int) ∧ (x.toNat : Int) < 256 then some (UInt8.ofNat (x.toNat : Int).toNat) else none) = _
      rw [if_pos (by omega)]
      simp
    show (match octet? (.int (x.toNat : Int)), octets? (uD l) with | some x, some xs => some (x :: xs) | _, _ => none) = _
    rw [h1, oct_uD]
end Mine

namespace Mine
open PySem PySem.W PySem.Calls PyProof.Rows

section
variable {O : Orc} {n j : Nat} {t x : IE} {a b : List IS} {σ σ₁ : ASt} {o : Out Fl} {vs : List (Option Dat)} {acc ds : List Dat} {st : Option St} {d : Dat}
theorem st_t (h : evE O 40 t σ = .ok (.bool true) σ₁) (h2 : evS O IT n a σ₁ = o) : stepS O IT (evE O 40) (evS O IT n) (.ite t a b) σ = o := by
  show (evE O 40 t σ).bind _ = _
  rw [h]; exact h2
theorem st_f (h : evE O 40 t σ = .ok (.bool false) σ₁) (h2 : evS O IT n b σ₁ = o) : stepS O IT (evE O 40) (evS O IT n) (.ite t a b) σ = o := by
  show (evE O 40 t σ).bind _ = _
  rw [h]; exact h2
theorem one_of {s : IS} (h : stepS O IT (evE O 40) (evS O IT n) s σ = .ok .next σ₁) : evS O IT (n + 1) [s] σ = .ok .next σ₁ := step_to h
theorem st_appE (h : evE O 40 x ⟨vs, some (j, acc), st⟩ = .ok d ⟨vs, some (j, acc), st⟩) (hz : sz (acc.length + 1) = true) : stepS O IT (evE O 40) (evS O IT n) (.app j x) ⟨vs, some (j, acc), st⟩ = .ok .next ⟨vs, some (j, acc ++ [d]), st⟩ := by
  have e0 : stepS O IT (evE O 40) (evS O IT n) (.app j x) ⟨vs, some (j, acc), st⟩ = if j = j then (evE O 40 x ⟨vs, some (j, acc), st⟩).bind fun d σ₁ => (match σ₁.own with
      | some (j', xs) => if j' = j && sz (xs.length + 1) then .ok .next { σ₁ with own := some (j, xs ++ [d]) } else .stuck
      | none => .stuck) else .stuck := rfl
  rw [e0, if_pos rfl, h]
  show (if decide (j = j) && sz (acc.length + 1) then Out.ok Fl.next _ else .stuck) = _
  rw [hz, decide_eq_true rfl]; rfl
theorem st_extE (h : evE O 40 x ⟨vs, some (j, acc), st⟩ = .ok (.list ds) ⟨vs, some (j, acc), st⟩) (hz : sz (acc.length + ds.length) = true) : stepS O IT (evE O 40) (evS O IT n) (.ext j x) ⟨vs, some (j, acc), st⟩ = .ok .next ⟨vs, some (j, acc ++ ds), st⟩ := by
  have e0 : stepS O IT (evE O 40) (evS O IT n) (.ext j x) ⟨vs, some (j, acc), st⟩ = if j = j then (evE O 40 x ⟨vs, some (j, acc), st⟩).bind fun d σ₁ => (match σ₁.own, d with
      | some (j', xs), .list ds => if j' = j && sz (xs.length + ds.length) then .ok .next { σ₁ with own := some (j, xs ++ ds) } else .stuck
      | _, _ => .stuck) else .stuck := rfl
  rw [e0, if_pos rfl, h]
  show (if decide (j = j) && sz (acc.length + ds.length) then Out.ok Fl.next _ else .stuck) = _
  rw [hz, decide_eq_true rfl]; rfl
theorem loopF_step {k : Nat} {f : ASt → Out Fl} (h : f (putVar k d σ) = .ok .next σ₁) : loopF k f (d :: ds) σ = loopF k f ds σ₁ := by
  show (f (putVar k d σ)).bind _ = _
  rw [h]; rfl
theorem stForL {k : Nat} {σ' : ASt} (h : evE O 40 x σ = .ok d σ₁) (hi : itemsD d = some ds) (hz : sz ds.length = true) (h2 : loopF k (evS O IT n a) ds σ₁ = .ok .next σ') : stepS O IT (evE O 40) (evS O IT n) (.forL k x a) σ = .ok .next σ' := by
  show (evE O 40 x σ).bind _ = _
  rw [h]
  show (match itemsD d with | some ds => if sz ds.length then loopF k (evS O IT n a) ds σ₁ else .stuck | none => .stuck) = _
  rw [hi]
  dsimp only
  rw [if_pos hz, h2]
end

theorem ub_ascii {c : Int} (h : btw 0 c 127 = true) : ub c = [UInt8.ofNat c.toNat] ∧ uD (ub c) = [.int c] := by
  have e : ub c = [UInt8.ofNat c.toNat] := by unfold ub; rw [if_pos h]
  refine ⟨e, ?_⟩
  rw [e]
  simp only [btw, Bool.and_eq_true, decide_eq_true_eq] at h
  show [Dat.int ((UInt8.ofNat c.toNat).toNat : Int)] = _
  have : (UInt8.ofNat c.toNat).toNat = c.toNat := by
    rw [UInt8.toNat_ofNat']
    omega
  rw [this, Int.toNat_of_nonneg h.1]
theorem ub_len {c : Int} (h : okc c = true) : (ub c).length ≤ 4 := by
  refine okc_cases h (fun q => ?_) ?_ ?_ ?_ ?_ ?_ ?_ ?_ ?_ <;> first | (intro q; subst q; decide) | (rw [(ub_ascii q).1]; exact Nat.le_of_ble_eq_true rfl)
noncomputable def b34 : List IS := [.ite (.cmp (.var 2) [.Lt] [.const (.int 128)]) [.app 1 (.var 2)] [.ite (.cmp (.var 2) [.Lt] [.const (.int 2048)]) [.ext 1 (.list [.bin .Add (.const (.int 192)) (.bin .FloorDiv (.var 2) (.const (.int 64))), .bin .Add (.const (.int 128)) (.bin .Mod (.var 2) (.const (.int 64)))])]
  [.ite (.cmp (.var 2) [.Lt] [.const (.int 65536)]) [.ext 1 (.list [.bin .Add (.const (.int 224)) (.bin .FloorDiv (.var 2) (.const (.int 4096))), .bin .Add (.const (.int 128)) (.bin .Mod (.bin .FloorDiv (.var 2) (.const (.int 64))) (.const (.int 64))), .bin .Add (.const (.int 128)) (.bin .Mod (.var 2) (.const (.int 64)))])]
  [.ext 1 (.list [.bin .Add (.const (.int 240)) (.bin .FloorDiv (.var 2) (.const (.int 262144))), .bin .Add (.const (.int 128)) (.bin .Mod (.bin .FloorDiv (.var 2) (.const (.int 4096))) (.const (.int 64))), .bin .Add (.const (.int 128)) (.bin .Mod (.bin .FloorDiv (.var 2) (.const (.int 64))) (.const (.int 64))), .bin .Add (.const (.int 128)) (.bin .Mod (.var 2) (.const (.int 64)))])]]]]
theorem oct_step {O : Orc} {c : Int} {acc : List Dat} {v : Option Dat} (h : okc c = true) (hl : acc.length ≤ 15000000) : evS O IT 30 b34 ⟨[v, none, some (.int c)], some (1, acc), none⟩ = .ok .next ⟨[v, none, some (.int c)], some (1, acc ++ uD (ub c)), none⟩ := by
  have s2 : ∀ {a b : Dat}, sz (acc.length + [a, b].length) = true := fun {a b} => sz_ok (by show acc.length + 2 ≤ _; omega)
  have s3 : ∀ {a b c : Dat}, sz (acc.length + [a, b, c].length) = true := fun {a b c} => sz_ok (by show acc.length + 3 ≤ _; omega)
  have s4 : ∀ {a b c d : Dat}, sz (acc.length + [a, b, c, d].length) = true := fun {a b c d} => sz_ok (by show acc.length + 4 ≤ _; omega)
  refine okc_cases h (fun q => ?_) (fun q => ?_) (fun q => ?_) (fun q => ?_) (fun q => ?_) (fun q => ?_) (fun q => ?_) (fun q => ?_) (fun q => ?_)
  · rw [(ub_ascii q).2]
    simp only [btw, Bool.and_eq_true, decide_eq_true_eq] at q
    refine one_of (st_t (ev_cmp (x := .int c) (y := .int 128) (p := true) rfl rfl ?_) (one_of (st_appE rfl (sz_ok (by omega)))))
    exact congrArg some (decide_eq_true (by omega))
  · subst q; exact one_of (st_f rfl (one_of (st_t rfl (one_of (st_extE rfl s2)))))
  · subst q; exact one_of (st_f rfl (one_of (st_t rfl (one_of (st_extE rfl s2)))))
  · subst q; exact one_of (st_f rfl (one_of (st_t rfl (one_of (st_extE rfl s2)))))
  · subst q; exact one_of (st_f rfl (one_of (st_f rfl (one_of (st_t rfl (one_of (st_extE rfl s3)))))))
  · subst q; exact one_of (st_f rfl (one_of (st_f rfl (one_of (st_t rfl (one_of (st_extE rfl s3)))))))
  · subst q; exact one_of (st_f rfl (one_of (st_f rfl (one_of (st_t rfl (one_of (st_extE rfl s3)))))))
  · subst q; exact one_of (st_f rfl (one_of (st_f rfl (one_of (st_t rfl (one_of (st_extE rfl s3)))))))
  · subst q; exact one_of (st_f rfl (one_of (st_f rfl (one_of (st_f rfl (one_of (st_extE rfl s4)))))))
theorem uD_app {a b : List UInt8} : uD (a ++ b) = uD a ++ uD b := List.map_append
theorem ubs_cons {c : Int} {l : List Int} : ubs (c :: l) = ub c ++ ubs l := rfl
theorem oct_loop {O : Orc} {v : Option Dat} : ∀ {l : List Int} {acc : List Dat} {w : Option Dat}, l.all okc = true → acc.length + 4 * l.length ≤ 15000000 → ∃ w', loopF 2 (evS O IT 30 b34) (l.map Dat.int) ⟨[v, none, w], some (1, acc), none⟩ = .ok .next ⟨[v, none, w'], some (1, acc ++ uD (ubs l)), none⟩
  | [], acc, w, _, _ => ⟨w, by show Out.ok Fl.next _ = _; rw [show uD (ubs []) = [] from rfl, List.append_nil]⟩
  | c :: l, acc, w, h, hl => by
    simp only [List.all_cons, Bool.and_eq_true] at h
    rw [List.length_cons] at hl
    have h4 := ub_len h.1
    obtain ⟨w', e⟩ := oct_loop (O := O) (v := v) (l := l) (acc := acc ++ uD (ub c)) (w := some (.int c)) h.2 (by
      rw [List.length_append, show (uD (ub c)).length = (ub c).length from List.length_map ..]; omega)
    refine ⟨w', (loopF_step (oct_step h.1 (by omega))).trans (e.trans ?_)⟩
    rw [ubs_cons, uD_app, List.append_assoc]
theorem p_oct {m : Nat} {l : List Int} (hm : 34 < m) (h : l.all okc = true) (hl : l.length ≤ 1000000) : (orc m).p 34 [lst l] = .ok (.bytes (ubs l).toArray) := by
  rw [orc_p (by decide) hm]
  show outP (evS (orc 34) IT 31 f34.body ⟨[some (lst l), none, none], none, none⟩) = _
  have e1 : evS (orc 34) IT 31 f34.body ⟨[some (lst l), none, none], none, none⟩ = evS (orc 34) IT 31 [.forL 2 (.var 0) b34, .ret (.blt .bytes (.var 1))] ⟨[some (lst l), none, none], some (1, []), none⟩ := step_to rfl
  obtain ⟨w, e2⟩ := oct_loop (O := orc 34) (v := some (lst l)) (w := none) (acc := []) h (by show 0 + _ ≤ _; omega)
  rw [e1, step_to (stForL (d := lst l) (ds := l.map Dat.int) rfl rfl (sz_ok (by rw [List.length_map]; omega)) e2)]
  refine retP (n := 30) (ev_blt (x := .list (uD (ubs l))) (by exact rfl) ?_)
  show (if sz (uD (ubs l)).length then (octets? (uD (ubs l))).map fun l => Dat.bytes l.toArray else none) = _
  have hb : ∀ {l : List Int}, l.all okc = true → (ubs l).length ≤ 4 * l.length := fun {l} h => by
    induction l with
    | nil => exact Nat.le_refl _
    | cons c l ih =>
      simp only [List.all_cons, Bool.and_eq_true] at h
      have := ih h.2
      have := ub_len h.1
      rw [ubs_cons, List.length_append, List.length_cons]; omega
  rw [if_pos (sz_ok (by rw [show (uD (ubs l)).length = (ubs l).length from List.length_map ..]; have := hb h; omega)), oct_uD]; rfl
end Mine

namespace Mine
open PySem PySem.W PySem.Calls PyProof.Rows

theorem p_u8 {m : Nat} {c : Int} (hm : 8 < m) (h : okc c = true) : (orc m).p 8 [.int c] = .ok (.list (uD (ub c))) := by
  rw [orc_p (by decide) hm]
  refine okc_cases h (fun q => ?_) (fun q => ?_) (fun q => ?_) (fun q => ?_) (fun q => ?_) (fun q => ?_) (fun q => ?_) (fun q => ?_) (fun q => ?_)
  · rw [(ub_ascii q).2]
    simp only [btw, Bool.and_eq_true, decide_eq_true_eq] at q
    have : evE (orc 8) 40 (.cmp (.var 0) [.Lt] [.const (.int 128)]) ⟨[some (.int c), none], none, none⟩ = .ok (.bool true) ⟨[some (.int c), none], none, none⟩ := ev_cmp (x := .int c) (y := .int 128) rfl rfl (congrArg some (decide_eq_true (by omega)))
    show outP (evS (orc 8) IT 31 f8.body ⟨[some (.int c), none], none, none⟩) = _
    have e := p_ite_ret (n := 29) (x := .list [.var 0]) (d := .list [.int c]) (ss := f8.body.drop 1) this rfl rfl
    exact e
  · subst q; rfl
  · subst q; rfl
  · subst q; rfl
  · subst q; rfl
  · subst q; rfl
  · subst q; rfl
  · subst q; rfl
  · subst q; rfl
theorem okc_scal {c : Int} (h : okc c = true) : isScal c = true := by
  refine okc_cases h (fun q => ?_) (fun q => ?_) (fun q => ?_) (fun q => ?_) (fun q => ?_) (fun q => ?_) (fun q => ?_) (fun q => ?_) (fun q => ?_)
  · simp only [btw, Bool.and_eq_true, decide_eq_true_eq] at q
    unfold isScal isCode isSur btw
    rw [decide_eq_true q.1, decide_eq_true (show c ≤ 1114111 by omega), decide_eq_false (show ¬ 55296 ≤ c by omega)]; rfl
  all_goals (subst q; rfl)
noncomputable def b9 : List IS := [.ite (.not (.callP 2 [.var 2])) [.raise 1 (.var 2)] [], .ext 1 (.callP 8 [.var 2])]
theorem enc_step {c : Int} {acc : List Dat} {v : Option Dat} (h : okc c = true) (hl : acc.length ≤ 15000000) : evS (orc 9) IT 30 b9 ⟨[v, none, some (.int c)], some (1, acc), none⟩ = .ok .next ⟨[v, none, some (.int c)], some (1, acc ++ uD (ub c)), none⟩ := by
  have h1 := ev_not (ev_callP1 (O := orc 9) (n := 38) (a := .var 2) (x := .int c) (σ := ⟨[v, none, some (.int c)], some (1, acc), none⟩) rfl (p_scal (by decide)))
  rw [okc_scal h] at h1
  refine (step_to (n := 29) (st_f h1 rfl)).trans (one_of (st_extE (ev_callP1 (x := .int c) rfl (p_u8 (by decide) h)) (sz_ok ?_)))
  have := ub_len h
  rw [show (uD (ub c)).length = (ub c).length from List.length_map ..]; omega
theorem enc_loop {v : Option Dat} : ∀ {l : List Int} {acc : List Dat} {w : Option Dat}, l.all okc = true → acc.length + 4 * l.length ≤ 15000000 → ∃ w', loopF 2 (evS (orc 9) IT 30 b9) (l.map Dat.int) ⟨[v, none, w], some (1, acc), none⟩ = .ok .next ⟨[v, none, w'], some (1, acc ++ uD (ubs l)), none⟩
  | [], acc, w, _, _ => ⟨w, by show Out.ok Fl.next _ = _; rw [show uD (ubs []) = [] from rfl, List.append_nil]⟩
  | c :: l, acc, w, h, hl => by
    simp only [List.all_cons, Bool.and_eq_true] at h
    rw [List.length_cons] at hl
    have h4 := ub_len h.1
    obtain ⟨w', e⟩ := enc_loop (v := v) (l := l) (acc := acc ++ uD (ub c)) (w := some (.int c)) h.2 (by
      rw [List.length_append, show (uD (ub c)).length = (ub c).length from List.length_map ..]; omega)
    refine ⟨w', (loopF_step (enc_step h.1 (by omega))).trans (e.trans ?_)⟩
    rw [ubs_cons, uD_app, List.append_assoc]
theorem ubs_len : ∀ {l : List Int}, l.all okc = true → (ubs l).length ≤ 4 * l.length
  | [], _ => Nat.le_refl _
  | c :: l, h => by
    simp only [List.all_cons, Bool.and_eq_true] at h
    have := ubs_len h.2
    have := ub_len h.1
    rw [ubs_cons, List.length_append, List.length_cons]; omega
theorem bytes_ok {l : List Int} (h : l.all okc = true) (hl : l.length ≤ 1000000) : bltD .bytes (.list (uD (ubs l))) = some (.bytes (ubs l).toArray) := by
  show (if sz (uD (ubs l)).length then (octets? (uD (ubs l))).map fun l => Dat.bytes l.toArray else none) = _
  rw [if_pos (sz_ok (by rw [show (uD (ubs l)).length = (ubs l).length from List.length_map ..]; have := ubs_len h; omega)), oct_uD]; rfl
theorem p_enc {m : Nat} {l : List Int} (hm : 9 < m) (h : l.all okc = true) (hl : l.length ≤ 1000000) : (orc m).p 9 [lst l] = .ok (.bytes (ubs l).toArray) := by
  rw [orc_p (by decide) hm]
  show outP (evS (orc 9) IT 31 f9.body ⟨[some (lst l), none, none], none, none⟩) = _
  have e1 : evS (orc 9) IT 31 f9.body ⟨[some (lst l), none, none], none, none⟩ = evS (orc 9) IT 31 [.forL 2 (.var 0) b9, .ret (.blt .bytes (.var 1))] ⟨[some (lst l), none, none], some (1, []), none⟩ := step_to rfl
  obtain ⟨w, e2⟩ := enc_loop (v := some (lst l)) (w := none) (acc := []) h (by show 0 + _ ≤ _; omega)
  rw [e1, step_to (stForL (d := lst l) (ds := l.map Dat.int) rfl rfl (sz_ok (by rw [List.length_map]; omega)) e2)]
  exact retP (n := 30) (ev_blt (x := .list (uD (ubs l))) (by exact rfl) (bytes_ok h hl))

/-! signs -/
noncomputable def cpsD (x : Str) : List Dat := x.cps.toList.map fun (c : Nat) => .int (c : Int)
theorem comp_ord {ev : IE → ASt → Out Dat} (h : ∀ u : Nat, ev (.blt .ord (.var 0)) ⟨[some (chr1 u)], none, none⟩ = .ok (.int u) ⟨[some (chr1 u)], none, none⟩) : ∀ {l : List Nat}, evComp ev (.blt .ord (.var 0)) none [] (l.map fun c => .str ⟨#[c]⟩) = some (l.map fun c => .int c)
  | [] => rfl
  | c :: l => by
    have e0 : evComp ev (.blt .ord (.var 0)) none [] (chr1 c :: l.map fun c => .str ⟨#[c]⟩) = (match endsPlain (ev (.blt .ord (.var 0)) ⟨[some (chr1 c)], none, none⟩) with
        | none => none
        | some r => (evComp ev (.blt .ord (.var 0)) none [] (l.map fun c => .str ⟨#[c]⟩)).map (r :: ·)) := rfl
    show evComp ev (.blt .ord (.var 0)) none [] (chr1 c :: l.map fun c => .str ⟨#[c]⟩) = _
    rw [e0, h, comp_ord h]; rfl
theorem ord_comp {O : Orc} {x : Str} (hl : x.cps.size ≤ 16000000) : evE O 40 (.comp (.blt .ord (.var 0)) (.var 0) []) ⟨[some (.str x)], none, none⟩ = .ok (.list (cpsD x)) ⟨[some (.str x)], none, none⟩ := by
  show (if sz (strChars x).length then ofO ((evComp (evE O 39) (.blt .ord (.var 0)) none [] (strChars x)).map Dat.list) _ else .stuck) = _
  rw [if_pos (sz_ok (by unfold strChars; rw [List.length_map]; exact hl))]
  unfold strChars
  rw [comp_ord fun _ => rfl]; rfl
theorem p_cps {m : Nat} {x : Str} (hm : 3 < m) (hl : x.cps.size ≤ 16000000) : (orc m).p 3 [.str x] = .ok (.list (cpsD x)) := by
  rw [orc_p (by decide) hm]
  exact retP (n := 30) (ord_comp hl)
theorem p_signs {m : Nat} {x : Str} (hm : 33 < m) (hl : x.cps.size ≤ 16000000) : (orc m).p 33 [.str x] = .ok (.list (cpsD x)) := by
  rw [orc_p (by decide) hm]
  exact retP (n := 30) (ord_comp hl)
end Mine

namespace Mine
open PySem PySem.W PySem.Calls PyProof.Rows

noncomputable abbrev byt (bs : List UInt8) : Dat := .bytes bs.toArray
theorem b_idx {bs r : List UInt8} {x : UInt8} {i : Nat} (hz : bs.length ≤ 16000000) (hd : bs.drop i = x :: r) : idxD (byt bs) (.int (i : Int)) = some (.int (x.toNat : Int)) := by
  have hg := dropGet hd
  have hi : i < bs.length := (List.getElem?_eq_some_iff.mp hg).1
  show (if 0 ≤ (i : Int) ∧ (i : Int) < bs.toArray.size ∧ sz bs.toArray.size then some (Dat.int ((bs.toArray.toList.getD (i : Int).toNat 0).toNat : Int)) else none) = _
  rw [if_pos ⟨by omega, by simpa using hi, sz_ok (by simpa using hz)⟩]
  simp [List.getD, hg]
theorem b_len {bs : List UInt8} (hz : bs.length ≤ 16000000) : bltD .len (byt bs) = some (.int (bs.length : Int)) := by
  have e0 : lenD (byt bs) = some bs.length := by
    show (if sz bs.toArray.size then some bs.toArray.size else none) = _
    rw [if_pos (sz_ok (by simpa using hz)), List.size_toArray]
  simp only [bltD]
  rw [e0]; rfl
noncomputable def bP : List IS := [.ite (.cmp (.bin .Add (.var 1) (.var 7)) [.GtE] [.blt .len (.var 0)]) [.ret (.tup [.var 7, .const .none, .glob 8])] [], .asg 8 (.idx (.var 0) (.bin .Add (.var 1) (.var 7))), .ite (.not (.cmp (.var 4) [.LtE, .LtE] [.var 8, .var 5])) [.ret (.tup [.var 7, .const .none, .glob 7])] [],
  .asg 6 (.bin .BitOr (.bin .LShift (.var 6) (.const (.int 6))) (.bin .BitAnd (.var 8) (.const (.int 63)))), .asgT [4, 5] [.const (.int 128), .const (.int 191)]]
section
variable {bs r : List UInt8} {x : UInt8} {i : Nat}
noncomputable abbrev ps (bs : List UInt8) (i : Nat) (L : Option Dat) (mn lo hi cd : Int) (v7 v8 : Option Dat) : ASt := ⟨[some (byt bs), some (.int i), L, some (.int mn), some (.int lo), some (.int hi), some (.int cd), v7, v8], none, none⟩
theorem piece_turn {k : Nat} {L v8 : Option Dat} {mn lo hi cd a b cd' : Int} (hz : bs.length ≤ 16000000) (hd : bs.drop (i + k) = x :: r) (h1 : btw lo (x.toNat : Int) hi = true)
    (h2 : binD .LShift (.int cd) (.int 6) = some (.int a)) (h3 : binD .BitAnd (.int (x.toNat : Int)) (.int 63) = some (.int b)) (h4 : binD .BitOr (.int a) (.int b) = some (.int cd')) :
    evS (orc 11) IT 30 bP (ps bs i L mn lo hi cd (some (.int (k : Int))) v8) = .ok .next (ps bs i L mn 128 191 cd' (some (.int (k : Int))) (some (.int (x.toNat : Int)))) := by
  have hl : i + k < bs.length := (List.getElem?_eq_some_iff.mp (dropGet hd)).1
  have e1 : evE (orc 11) 40 (.cmp (.bin .Add (.var 1) (.var 7)) [.GtE] [.blt .len (.var 0)]) (ps bs i L mn lo hi cd (some (.int (k : Int))) v8) = .ok (.bool false) (ps bs i L mn lo hi cd (some (.int (k : Int))) v8) :=
    ev_cmp (x := .int ((i : Int) + k)) (y := .int bs.length) (ev_bin (x := .int i) (y := .int k) rfl rfl rfl) (ev_blt (x := byt bs) rfl (b_len hz)) (congrArg some (decide_eq_false (by omega)))
  have e2 : evE (orc 11) 40 (.idx (.var 0) (.bin .Add (.var 1) (.var 7))) (ps bs i L mn lo hi cd (some (.int (k : Int))) v8) = .ok (.int x.toNat) (ps bs i L mn lo hi cd (some (.int (k : Int))) v8) :=
    ev_idx (x := byt bs) (y := .int ((i + k : Nat) : Int)) rfl (ev_bin (x := .int i) (y := .int k) rfl rfl rfl) (b_idx hz hd)
  have e3 := ev_not (ev_cmp2 (O := orc 11) (n := 38) (a := .var 4) (b := .var 8) (t := .var 5) (x := .int lo) (y := .int x.toNat) (z := .int hi) (c := .LtE) (c' := .LtE) (σ := ps bs i L mn lo hi cd (some (.int (k : Int))) (some (.int x.toNat))) rfl rfl rfl rfl rfl)
  rw [show (decide (lo ≤ (x.toNat : Int)) && decide ((x.toNat : Int) ≤ hi)) = true from h1] at e3
  have e4 : evE (orc 11) 40 (.bin .BitOr (.bin .LShift (.var 6) (.const (.int 6))) (.bin .BitAnd (.var 8) (.const (.int 63)))) (ps bs i L mn lo hi cd (some (.int (k : Int))) (some (.int x.toNat))) = .ok (.int cd') (ps bs i L mn lo hi cd (some (.int (k : Int))) (some (.int x.toNat))) :=
    ev_bin (ev_bin (x := .int cd) (y := .int 6) rfl rfl h2) (ev_bin (x := .int x.toNat) (y := .int 63) rfl rfl h3) h4
  refine (step_to (n := 29) (st_f e1 rfl)).trans ((step_to (n := 29) (σ' := ps bs i L mn lo hi cd (some (.int (k : Int))) (some (.int x.toNat))) ?_).trans ((step_to (n := 29) (st_f e3 rfl)).trans ((step_to (n := 29) (σ' := ps bs i L mn lo hi cd' (some (.int (k : Int))) (some (.int x.toNat))) ?_).trans (one_of rfl))))
  · show (evE (orc 11) 40 _ _).bind _ = _
    rw [e2]; rfl
  · show (evE (orc 11) 40 _ _).bind _ = _
    rw [e4]; rfl
theorem piece_gen {m : Nat} {mn lo hi c0 c : Int} {hi' lo' : Int} {v7 v8 : Option Dat} (hm : 11 < m) (hz : bs.length ≤ 16000000) (hd : bs.drop i = x :: r) (hl : (orc 11).p 10 [.int x.toNat] = .ok (.tuple [.int mn, .int lo, .int hi])) (h1 : (mn == 1) = false) (h2 : binD .RShift (.int 127) (.int mn) = some (.int lo'))
    (h3 : binD .BitAnd (.int x.toNat) (.int lo') = some (.int c0)) (hs : small mn = true) (hr : sz (mn - 1).toNat = true) (hp : loopF 7 (evS (orc 11) IT 30 bP) (rangeD 1 mn) (ps bs i (some (.tuple [.int mn, .int lo, .int hi])) mn lo hi c0 none none) = .ok .next (ps bs i (some (.tuple [.int mn, .int lo, .int hi])) mn 128 hi' c v7 v8)) :
    (orc m).p 11 [byt bs, .int i] = .ok (.tuple [.int mn, .int c, .str ""]) := by
  rw [orc_p (by decide) hm]
  show outP (evS (orc 11) IT 31 f11.body ⟨[some (byt bs), some (.int i), none, none, none, none, none, none, none], none, none⟩) = _
  have e1 : ∀ vs, evE (orc 11) 39 (.idx (.var 0) (.var 1)) ⟨some (byt bs) :: some (.int i) :: vs, none, none⟩ = .ok (.int x.toNat) ⟨some (byt bs) :: some (.int i) :: vs, none, none⟩ := fun vs => ev_idx (x := byt bs) (y := .int i) rfl rfl (b_idx hz hd)
  have s1 : evS (orc 11) IT 31 f11.body ⟨[some (byt bs), some (.int i), none, none, none, none, none, none, none], none, none⟩ = evS (orc 11) IT 31 (f11.body.drop 1) ⟨[some (byt bs), some (.int i), some (.tuple [.int mn, .int lo, .int hi]), none, none, none, none, none, none], none, none⟩ := by
    refine step_to ?_
    show (evE (orc 11) 40 _ _).bind _ = _
    rw [ev_callP1 (e1 _) hl]; rfl
  have s2 : evS (orc 11) IT 31 (f11.body.drop 1) ⟨[some (byt bs), some (.int i), some (.tuple [.int mn, .int lo, .int hi]), none, none, none, none, none, none], none, none⟩ = evS (orc 11) IT 31 (f11.body.drop 3) ⟨[some (byt bs), some (.int i), some (.tuple [.int mn, .int lo, .int hi]), some (.int mn), some (.int lo), some (.int hi), none, none, none], none, none⟩ :=
    (step_to (st_f rfl rfl)).trans (step_to rfl)
  have s3 : evS (orc 11) IT 31 (f11.body.drop 3) ⟨[some (byt bs), some (.int i), some (.tuple [.int mn, .int lo, .int hi]), some (.int mn), some (.int lo), some (.int hi), none, none, none], none, none⟩ = evS (orc 11) IT 31 (f11.body.drop 4) ⟨[some (byt bs), some (.int i), some (.tuple [.int mn, .int lo, .int hi]), some (.int mn), some (.int lo), some (.int hi), none, none, none], none, none⟩ := by
    have := ev_cmp (O := orc 11) (n := 39) (a := .var 3) (b := .const (.int 1)) (c := .Eq) (x := .int mn) (y := .int 1) (p := mn == 1) (σ := ⟨[some (byt bs), some (.int i), some (.tuple [.int mn, .int lo, .int hi]), some (.int mn), some (.int lo), some (.int hi), none, none, none], none, none⟩) rfl rfl rfl
    rw [h1] at this
    exact step_to (st_f this rfl)
  have s4 : evS (orc 11) IT 31 (f11.body.drop 4) ⟨[some (byt bs), some (.int i), some (.tuple [.int mn, .int lo, .int hi]), some (.int mn), some (.int lo), some (.int hi), none, none, none], none, none⟩ = evS (orc 11) IT 31 (f11.body.drop 5) (ps bs i (some (.tuple [.int mn, .int lo, .int hi])) mn lo hi c0 none none) := by
    refine step_to ?_
    show (evE (orc 11) 40 _ _).bind _ = _
    rw [ev_bin (e1 _) (ev_bin (x := .int 127) (y := .int mn) rfl rfl h2) h3]; rfl
  have s5 : evS (orc 11) IT 31 (f11.body.drop 5) (ps bs i (some (.tuple [.int mn, .int lo, .int hi])) mn lo hi c0 none none) = evS (orc 11) IT 31 (f11.body.drop 6) (ps bs i (some (.tuple [.int mn, .int lo, .int hi])) mn 128 hi' c v7 v8) := by
    refine step_to ?_
    show (if small 1 && small mn && sz (mn - 1).toNat then loopF 7 (evS (orc 11) IT 30 bP) (rangeD 1 mn) (ps bs i (some (.tuple [.int mn, .int lo, .int hi])) mn lo hi c0 none none) else .stuck) = _
    rw [hs, hr, hp]; rfl
  rw [s1, s2, s3, s4, s5]
  exact retP (n := 30) (by exact rfl)
end
end Mine

namespace Mine
open PySem PySem.W PySem.Calls PyProof.Rows

section
variable {bs r : List UInt8} {x : UInt8} {i m : Nat}
theorem p_lead {o : Int} {m : Nat} (hm : 10 < m) (h : o < 128) : (orc m).p 10 [.int o] = .ok (.tuple [.int 1, .int 0, .int 0]) := by
  rw [orc_p (by decide) hm]
  have h0 : evE (orc 10) 40 (.cmp (.var 0) [.Lt] [.const (.int 128)]) ⟨[some (.int o)], none, none⟩ = .ok (.bool true) ⟨[some (.int o)], none, none⟩ := ev_cmp (x := .int o) (y := .int 128) rfl rfl (congrArg some (decide_eq_true h))
  exact p_ite_ret (n := 29) (x := .tup [.const (.int 1), .const (.int 0), .const (.int 0)]) (ss := f10.body.drop 1) h0 rfl rfl
theorem piece_ascii (hm : 11 < m) (hz : bs.length ≤ 16000000) (hd : bs.drop i = x :: r) (hx : (x.toNat : Int) < 128) : (orc m).p 11 [byt bs, .int i] = .ok (.tuple [.int 1, .int x.toNat, .str ""]) := by
  rw [orc_p (by decide) hm]
  show outP (evS (orc 11) IT 31 f11.body ⟨[some (byt bs), some (.int i), none, none, none, none, none, none, none], none, none⟩) = _
  have e1 : ∀ vs n, evE (orc 11) (n + 2) (.idx (.var 0) (.var 1)) ⟨some (byt bs) :: some (.int i) :: vs, none, none⟩ = .ok (.int x.toNat) ⟨some (byt bs) :: some (.int i) :: vs, none, none⟩ := fun vs n => ev_idx (x := byt bs) (y := .int i) rfl rfl (b_idx hz hd)
  have s1 : evS (orc 11) IT 31 f11.body ⟨[some (byt bs), some (.int i), none, none, none, none, none, none, none], none, none⟩ = evS (orc 11) IT 31 (f11.body.drop 1) ⟨[some (byt bs), some (.int i), some (.tuple [.int 1, .int 0, .int 0]), none, none, none, none, none, none], none, none⟩ := by
    refine step_to ?_
    show (evE (orc 11) 40 _ _).bind _ = _
    rw [ev_callP1 (e1 _ 37) (p_lead (by decide) hx)]; rfl
  have s2 : evS (orc 11) IT 31 (f11.body.drop 1) ⟨[some (byt bs), some (.int i), some (.tuple [.int 1, .int 0, .int 0]), none, none, none, none, none, none], none, none⟩ = evS (orc 11) IT 31 (f11.body.drop 3) ⟨[some (byt bs), some (.int i), some (.tuple [.int 1, .int 0, .int 0]), some (.int 1), some (.int 0), some (.int 0), none, none, none], none, none⟩ :=
    (step_to (st_f rfl rfl)).trans (step_to rfl)
  rw [s1, s2]
  have e3 : evE (orc 11) 40 (.tup [.const (.int 1), .idx (.var 0) (.var 1), .const (.str "")]) ⟨[some (byt bs), some (.int i), some (.tuple [.int 1, .int 0, .int 0]), some (.int 1), some (.int 0), some (.int 0), none, none, none], none, none⟩ = .ok (.tuple [.int 1, .int x.toNat, .str ""]) ⟨[some (byt bs), some (.int i), some (.tuple [.int 1, .int 0, .int 0]), some (.int 1), some (.int 0), some (.int 0), none, none, none], none, none⟩ :=
    ev_tup (evL_cons (by exact rfl) (evL_cons (e1 _ 37) (by exact rfl))) rfl
  have e4 : evS (orc 11) IT 30 [.ret (.tup [.const (.int 1), .idx (.var 0) (.var 1), .const (.str "")])] ⟨[some (byt bs), some (.int i), some (.tuple [.int 1, .int 0, .int 0]), some (.int 1), some (.int 0), some (.int 0), none, none, none], none, none⟩ = .ok (.ret (.tuple [.int 1, .int x.toNat, .str ""]) false) ⟨[some (byt bs), some (.int i), some (.tuple [.int 1, .int 0, .int 0]), some (.int 1), some (.int 0), some (.int 0), none, none, none], none, none⟩ := by
    rw [evS_cons]
    show cont ((evE (orc 11) 40 _ _).bind _) _ _ = _
    rw [e3]; rfl
  show outP (evS (orc 11) IT 31 (.ite (.cmp (.var 3) [.Eq] [.const (.int 1)]) [.ret (.tup [.const (.int 1), .idx (.var 0) (.var 1), .const (.str "")])] [] :: f11.body.drop 4) _) = _
  rw [evS_cons, st_t rfl e4]; rfl
theorem piece_ff {m : Nat} (hm : 11 < m) (hz : bs.length ≤ 16000000) (hd : bs.drop i = 255 :: r) : (orc m).p 11 [byt bs, .int i] = .ok (.tuple [.int 1, .none, .str "an octet that never stands"]) := by
  rw [orc_p (by decide) hm]
  show outP (evS (orc 11) IT 31 f11.body ⟨[some (byt bs), some (.int i), none, none, none, none, none, none, none], none, none⟩) = _
  have e1 : ∀ vs n, evE (orc 11) (n + 2) (.idx (.var 0) (.var 1)) ⟨some (byt bs) :: some (.int i) :: vs, none, none⟩ = .ok (.int 255) ⟨some (byt bs) :: some (.int i) :: vs, none, none⟩ := fun vs n => ev_idx (x := byt bs) (y := .int i) rfl rfl (b_idx hz hd)
  have s1 : evS (orc 11) IT 31 f11.body ⟨[some (byt bs), some (.int i), none, none, none, none, none, none, none], none, none⟩ = evS (orc 11) IT 31 (f11.body.drop 1) ⟨[some (byt bs), some (.int i), some .none, none, none, none, none, none, none], none, none⟩ := by
    refine step_to ?_
    show (evE (orc 11) 40 _ _).bind _ = _
    rw [ev_callP1 (d := .none) (e1 _ 37) rfl]; rfl
  have e3 : evE (orc 11) 40 (.tup [.const (.int 1), .const .none, .ite (.cmp (.idx (.var 0) (.var 1)) [.Lt] [.const (.int 192)]) (.glob 5) (.glob 6)]) ⟨[some (byt bs), some (.int i), some .none, none, none, none, none, none, none], none, none⟩ = .ok (.tuple [.int 1, .none, .str "an octet that never stands"]) ⟨[some (byt bs), some (.int i), some .none, none, none, none, none, none, none], none, none⟩ :=
    ev_tup (evL_cons (by exact rfl) (evL_cons (by exact rfl) (evL_cons (ev_ite_f (ev_cmp (p := false) (e1 _ 35) (by exact rfl) (by exact rfl)) (by exact rfl)) (by exact rfl)))) rfl
  have e4 : evS (orc 11) IT 30 [.ret (.tup [.const (.int 1), .const .none, .ite (.cmp (.idx (.var 0) (.var 1)) [.Lt] [.const (.int 192)]) (.glob 5) (.glob 6)])] ⟨[some (byt bs), some (.int i), some .none, none, none, none, none, none, none], none, none⟩ = .ok (.ret (.tuple [.int 1, .none, .str "an octet that never stands"]) false) ⟨[some (byt bs), some (.int i), some .none, none, none, none, none, none, none], none, none⟩ := by
    rw [evS_cons]
    show cont ((evE (orc 11) 40 _ _).bind _) _ _ = _
    rw [e3]; rfl
  rw [s1]
  show outP (evS (orc 11) IT 31 (.ite (.cmp (.var 2) [.Is] [.const .none]) [.ret (.tup [.const (.int 1), .const .none, .ite (.cmp (.idx (.var 0) (.var 1)) [.Lt] [.const (.int 192)]) (.glob 5) (.glob 6)])] [] :: f11.body.drop 2) _) = _
  rw [evS_cons, st_t rfl e4]; rfl
theorem piece2 {x y : UInt8} {c0 c a b : Int} (hm : 11 < m) (hz : bs.length ≤ 16000000) (hd : bs.drop i = x :: y :: r) (hl : (orc 11).p 10 [.int x.toNat] = .ok (.tuple [.int 2, .int 128, .int 191])) (h3 : binD .BitAnd (.int x.toNat) (.int 31) = some (.int c0))
    (h1 : btw 128 (y.toNat : Int) 191 = true) (h2 : binD .LShift (.int c0) (.int 6) = some (.int a)) (h4 : binD .BitAnd (.int (y.toNat : Int)) (.int 63) = some (.int b)) (h5 : binD .BitOr (.int a) (.int b) = some (.int c)) : (orc m).p 11 [byt bs, .int i] = .ok (.tuple [.int 2, .int c, .str ""]) := by
  refine piece_gen (lo' := 31) (c0 := c0) (hi' := 191) (v7 := some (.int (1 : Nat))) (v8 := some (.int y.toNat)) hm hz hd hl rfl rfl h3 rfl rfl ?_
  exact loopF_step (piece_turn (k := 1) hz (drop_tail hd) h1 h2 h4 h5)
theorem piece3 {x y z : UInt8} {lo hi c0 c1 c a b a' b' : Int} (hm : 11 < m) (hz : bs.length ≤ 16000000) (hd : bs.drop i = x :: y :: z :: r) (hl : (orc 11).p 10 [.int x.toNat] = .ok (.tuple [.int 3, .int lo, .int hi])) (h3 : binD .BitAnd (.int x.toNat) (.int 15) = some (.int c0))
    (h1 : btw lo (y.toNat : Int) hi = true) (h2 : binD .LShift (.int c0) (.int 6) = some (.int a)) (h4 : binD .BitAnd (.int (y.toNat : Int)) (.int 63) = some (.int b)) (h5 : binD .BitOr (.int a) (.int b) = some (.int c1))
    (g1 : btw 128 (z.toNat : Int) 191 = true) (g2 : binD .LShift (.int c1) (.int 6) = some (.int a')) (g4 : binD .BitAnd (.int (z.toNat : Int)) (.int 63) = some (.int b')) (g5 : binD .BitOr (.int a') (.int b') = some (.int c)) : (orc m).p 11 [byt bs, .int i] = .ok (.tuple [.int 3, .int c, .str ""]) := by
  refine piece_gen (lo' := 15) (c0 := c0) (hi' := 191) (v7 := some (.int (2 : Nat))) (v8 := some (.int z.toNat)) hm hz hd hl rfl rfl h3 rfl rfl ?_
  refine (loopF_step (piece_turn (k := 1) hz (drop_tail hd) h1 h2 h4 h5)).trans ?_
  exact loopF_step (piece_turn (k := 2) hz (drop_tail (drop_tail hd)) g1 g2 g4 g5)
theorem piece4 {x y z w : UInt8} {lo hi c0 c1 c2 c a b a' b' a'' b'' : Int} (hm : 11 < m) (hz : bs.length ≤ 16000000) (hd : bs.drop i = x :: y :: z :: w :: r) (hl : (orc 11).p 10 [.int x.toNat] = .ok (.tuple [.int 4, .int lo, .int hi])) (h3 : binD .BitAnd (.int x.toNat) (.int 7) = some (.int c0))
    (h1 : btw lo (y.toNat : Int) hi = true) (h2 : binD .LShift (.int c0) (.int 6) = some (.int a)) (h4 : binD .BitAnd (.int (y.toNat : Int)) (.int 63) = some (.int b)) (h5 : binD .BitOr (.int a) (.int b) = some (.int c1))
    (g1 : btw 128 (z.toNat : Int) 191 = true) (g2 : binD .LShift (.int c1) (.int 6) = some (.int a')) (g4 : binD .BitAnd (.int (z.toNat : Int)) (.int 63) = some (.int b')) (g5 : binD .BitOr (.int a') (.int b') = some (.int c2))
    (k1 : btw 128 (w.toNat : Int) 191 = true) (k2 : binD .LShift (.int c2) (.int 6) = some (.int a'')) (k4 : binD .BitAnd (.int (w.toNat : Int)) (.int 63) = some (.int b'')) (k5 : binD .BitOr (.int a'') (.int b'') = some (.int c)) : (orc m).p 11 [byt bs, .int i] = .ok (.tuple [.int 4, .int c, .str ""]) := by
  refine piece_gen (lo' := 7) (c0 := c0) (hi' := 191) (v7 := some (.int (3 : Nat))) (v8 := some (.int w.toNat)) hm hz hd hl rfl rfl h3 rfl rfl ?_
  refine (loopF_step (piece_turn (k := 1) hz (drop_tail hd) h1 h2 h4 h5)).trans ?_
  refine (loopF_step (piece_turn (k := 2) hz (drop_tail (drop_tail hd)) g1 g2 g4 g5)).trans ?_
  exact loopF_step (piece_turn (k := 3) hz (drop_tail (drop_tail (drop_tail hd))) k1 k2 k4 k5)
theorem piece_ok {c : Int} (hm : 11 < m) (hz : bs.length ≤ 16000000) (h : okc c = true) (hd : bs.drop i = ub c ++ r) : (orc m).p 11 [byt bs, .int i] = .ok (.tuple [.int ((ub c).length : Int), .int c, .str ""]) := by
  refine okc_cases h (fun q => ?_) (fun q => ?_) (fun q => ?_) (fun q => ?_) (fun q => ?_) (fun q => ?_) (fun q => ?_) (fun q => ?_) (fun q => ?_)
  · obtain ⟨e1, e2⟩ := ub_ascii q
    rw [e1] at hd e2 ⊢
    have e2 : Dat.int ((UInt8.ofNat c.toNat).toNat : Int) = .int c := by injection e2
    rw [← e2]
    refine piece_ascii hm hz hd ?_
    injection e2 with e2
    rw [e2]
    simp only [btw, Bool.and_eq_true, decide_eq_true_eq] at q
    omega
  · subst q; exact piece2 hm hz hd rfl rfl rfl rfl rfl rfl
  · subst q; exact piece2 hm hz hd rfl rfl rfl rfl rfl rfl
  · subst q; exact piece2 hm hz hd rfl rfl rfl rfl rfl rfl
  · subst q; exact piece3 hm hz hd rfl rfl rfl rfl rfl rfl rfl rfl rfl rfl
  · subst q; exact piece3 hm hz hd rfl rfl rfl rfl rfl rfl rfl rfl rfl rfl
  · subst q; exact piece3 hm hz hd rfl rfl rfl rfl rfl rfl rfl rfl rfl rfl
  · subst q; exact piece3 hm hz hd rfl rfl rfl rfl rfl rfl rfl rfl rfl rfl
  · subst q; exact piece4 hm hz hd rfl rfl rfl rfl rfl rfl rfl rfl rfl rfl rfl rfl rfl rfl
end
end Mine

namespace Mine
open PySem PySem.W PySem.Calls PyProof.Rows

section
variable {bs r : List UInt8} {i m : Nat}
theorem ev_callP2 {O : Orc} {n f : Nat} {a b : IE} {x y d : Dat} {σ : ASt} (h1 : evE O n a σ = .ok x σ) (h2 : evE O n b σ = .ok y σ) (h3 : O.p f [x, y] = .ok d) : evE O (n + 1) (.callP f [a, b]) σ = .ok d σ := by
  show (evL (evE O n) [a, b] σ).bind _ = _
  rw [evL_cons h1 (evL_cons h2 rfl)]
  show (match O.p f [x, y] with | .ok d => Out.ok d σ | .exc x => .exc x σ | .stuck => .stuck) = _
  rw [h3]
theorem loopW_t {t : ASt → Out Dat} {b : ASt → Out Fl} {k : Nat} {σ σ₁ σ₂ : ASt} (h : t σ = .ok (.bool true) σ₁) (h2 : b σ₁ = .ok .next σ₂) : loopW t b (k + 1) σ = loopW t b k σ₂ := by
  show (t σ).bind _ = _
  rw [h]
  show (b σ₁).bind _ = _
  rw [h2]; rfl
theorem loopW_f {t : ASt → Out Dat} {b : ASt → Out Fl} {k : Nat} {σ σ₁ : ASt} (h : t σ = .ok (.bool false) σ₁) : loopW t b (k + 1) σ = .ok .next σ₁ := by
  show (t σ).bind _ = _
  rw [h]; rfl
theorem loopW_x {t : ASt → Out Dat} {b : ASt → Out Fl} {k : Nat} {σ σ₁ σ₂ : ASt} {x : Exn} (h : t σ = .ok (.bool true) σ₁) (h2 : b σ₁ = .exc x σ₂) : loopW t b (k + 1) σ = .exc x σ₂ := by
  show (t σ).bind _ = _
  rw [h]
  show (b σ₁).bind _ = _
  rw [h2]; rfl
noncomputable def t12 : IE := .cmp (.var 2) [.Lt] [.blt .len (.var 0)]
noncomputable def b12 : List IS := [.asgU [3, 4, 5] (.callP 11 [.var 0, .var 2]), .ite (.cmp (.var 4) [.Is] [.const .none]) [.raise 2 (.tup [.var 2, .var 5])] [], .app 1 (.var 4), .asg 2 (.bin .Add (.var 2) (.var 3))]
noncomputable abbrev ds12 (bs : List UInt8) (i : Nat) (v3 v4 v5 : Option Dat) (acc : List Dat) : ASt := ⟨[some (byt bs), none, some (.int i), v3, v4, v5], some (1, acc), none⟩
theorem dec_t {v3 v4 v5 : Option Dat} {acc : List Dat} {b : Bool} (hz : bs.length ≤ 16000000) (h : decide ((i : Int) < (bs.length : Int)) = b) : evE (orc 12) 40 t12 (ds12 bs i v3 v4 v5 acc) = .ok (.bool b) (ds12 bs i v3 v4 v5 acc) :=
  ev_cmp (x := .int i) (y := .int bs.length) rfl (ev_blt (x := byt bs) rfl (b_len hz)) (congrArg some h)
theorem dec_loop {k : Nat} (hz : bs.length ≤ 16000000) : ∀ {l : List Int} {i : Nat} {v3 v4 v5 : Option Dat} {acc : List Dat}, l.all okc = true → acc.length + l.length ≤ 16000000 → bs.drop i = ubs l ++ r →
    ∃ v3' v4' v5', loopW (evE (orc 12) 40 t12) (evS (orc 12) IT 30 b12) (k + l.length) (ds12 bs i v3 v4 v5 acc) = loopW (evE (orc 12) 40 t12) (evS (orc 12) IT 30 b12) k (ds12 bs (i + (ubs l).length) v3' v4' v5' (acc ++ l.map Dat.int))
  | [], i, v3, v4, v5, acc, _, _, _ => ⟨v3, v4, v5, by rw [List.map_nil, List.append_nil]; rfl⟩
  | c :: l, i, v3, v4, v5, acc, h, hl, hd => by
    simp only [List.all_cons, Bool.and_eq_true] at h
    rw [List.length_cons] at hl
    rw [ubs_cons, List.append_assoc] at hd
    have hne : 0 < (ub c).length := by
      refine okc_cases h.1 (fun q => ?_) ?_ ?_ ?_ ?_ ?_ ?_ ?_ ?_ <;> first | (intro q; subst q; decide) | (rw [(ub_ascii q).1]; exact Nat.le_of_ble_eq_true rfl)
    have hlt : decide ((i : Int) < (bs.length : Int)) = true := by
      have := drop_lt hd
      rw [List.length_append] at this
      exact decide_eq_true (by omega)
    obtain ⟨v3', v4', v5', e⟩ := dec_loop (k := k) hz (l := l) (i := i + (ub c).length) (v3 := some (.int (ub c).length)) (v4 := some (.int c)) (v5 := some (.str "")) (acc := acc ++ [.int c]) h.2 (by rw [List.length_append, List.length_singleton]; omega) (by rw [← List.drop_drop, hd, List.drop_left])
    refine ⟨v3', v4', v5', ?_⟩
    refine (loopW_t (k := k + l.length) (σ₂ := ds12 bs (i + (ub c).length) (some (.int (ub c).length)) (some (.int c)) (some (.str "")) (acc ++ [.int c])) (dec_t hz hlt) ?_).trans ?_
    · refine (step_to (n := 29) (σ' := ds12 bs i (some (.int (ub c).length)) (some (.int c)) (some (.str "")) acc) ?_).trans ((step_to (n := 29) (st_f (by exact rfl) rfl)).trans ((step_to (n := 29) (st_appE (d := .int c) (by exact rfl) (sz_ok (by omega)))).trans (one_of (by exact rfl))))
      show (evE (orc 12) 40 (.callP 11 [.var 0, .var 2]) _).bind _ = _
      rw [ev_callP2 (x := byt bs) (y := .int i) (by exact rfl) (by exact rfl) (piece_ok (by decide) hz h.1 hd)]; rfl
    · rw [e, ubs_cons, List.length_append, List.append_assoc, Nat.add_assoc]; rfl
theorem dec_start {l : List Int} {k : Nat} (hk : IT = k + l.length) (hl : l.length ≤ 1000000) (hz : (ubs l ++ r).length ≤ 16000000) (h : l.all okc = true) : ∃ v3 v4 v5, evS (orc 12) IT 31 f12.body ⟨[some (byt (ubs l ++ r)), none, none, none, none, none], none, none⟩ =
    cont (loopW (evE (orc 12) 40 t12) (evS (orc 12) IT 30 b12) k (ds12 (ubs l ++ r) (ubs l).length v3 v4 v5 (l.map Dat.int))) (evS (orc 12) IT 31 [.retOwn 1]) fun σ => .ok .brk σ := by
  obtain ⟨v3, v4, v5, e⟩ := dec_loop (bs := ubs l ++ r) (r := r) (k := k) hz (l := l) (i := 0) (v3 := none) (v4 := none) (v5 := none) (acc := []) h (by show 0 + _ ≤ _; omega) rfl
  refine ⟨v3, v4, v5, ?_⟩
  have s1 : evS (orc 12) IT 31 f12.body ⟨[some (byt (ubs l ++ r)), none, none, none, none, none], none, none⟩ = evS (orc 12) IT 31 [.whl t12 b12, .retOwn 1] (ds12 (ubs l ++ r) 0 none none none []) := step_to rfl
  rw [s1, evS_cons]
  show cont (loopW (evE (orc 12) 40 t12) (evS (orc 12) IT 30 b12) IT _) _ _ = _
  rw [Nat.zero_add] at e
  exact congrArg (fun o => cont o _ _) ((congrArg (fun n => loopW (evE (orc 12) 40 t12) (evS (orc 12) IT 30 b12) n _) hk).trans e)
theorem p_dec {l : List Int} (hm : 12 < m) (hl : l.length ≤ 4000) (h : l.all okc = true) : (orc m).p 12 [byt (ubs l)] = .ok (lst l) := by
  rw [orc_p (by decide) hm]
  have h4 := ubs_len h
  obtain ⟨k, hk⟩ : ∃ k, IT = k + 1 + l.length := ⟨4095 - l.length, by show 4096 = _; omega⟩
  obtain ⟨v3, v4, v5, e⟩ := dec_start (r := []) hk (by omega) (by rw [List.append_nil]; omega) h
  rw [List.append_nil] at e
  show outP (evS (orc 12) IT 31 f12.body ⟨[some (byt (ubs l)), none, none, none, none, none], none, none⟩) = _
  rw [e, loopW_f (dec_t (by omega) (decide_eq_false (by omega)))]
  rfl
theorem p_bad {l : List Int} (hm : 12 < m) (hl : l.length ≤ 4000) (h : l.all okc = true) : (orc m).p 12 [byt (ubs l ++ [255])] = .exc ⟨2, .tuple [.int ((ubs l).length : Int), .str "an octet that never stands"]⟩ := by
  rw [orc_p (by decide) hm]
  have h4 := ubs_len h
  have hz : (ubs l ++ [255]).length ≤ 16000000 := by rw [List.length_append, List.length_singleton]; omega
  obtain ⟨k, hk⟩ : ∃ k, IT = k + 1 + l.length := ⟨4095 - l.length, by show 4096 = _; omega⟩
  obtain ⟨v3, v4, v5, e⟩ := dec_start (r := [255]) hk (by omega) hz h
  show outP (evS (orc 12) IT 31 f12.body ⟨[some (byt (ubs l ++ [255])), none, none, none, none, none], none, none⟩) = _
  have hx : evS (orc 12) IT 30 b12 (ds12 (ubs l ++ [255]) (ubs l).length v3 v4 v5 (l.map Dat.int)) = .exc ⟨2, .tuple [.int ((ubs l).length : Int), .str "an octet that never stands"]⟩ (ds12 (ubs l ++ [255]) (ubs l).length (some (.int 1)) (some .none) (some (.str "an octet that never stands")) (l.map Dat.int)) := by
    refine (step_to (n := 29) (σ' := ds12 (ubs l ++ [255]) (ubs l).length (some (.int 1)) (some .none) (some (.str "an octet that never stands")) (l.map Dat.int)) ?_).trans (step_exc (n := 29) (st_t (by exact rfl) rfl))
    show (evE (orc 12) 40 (.callP 11 [.var 0, .var 2]) _).bind _ = _
    rw [ev_callP2 (x := byt (ubs l ++ [255])) (y := .int (ubs l).length) (by exact rfl) (by exact rfl) (piece_ff (r := []) (by decide) hz List.drop_left)]; rfl
  rw [e, loopW_x (dec_t hz (decide_eq_true (by rw [List.length_append, List.length_singleton]; omega))) hx]
  rfl
end
end Mine

namespace Mine
open PySem PySem.W PySem.Calls PyProof.Rows

/-! what is written, read by the spec -/
noncomputable def letters : List Int := [97, 98, 99, 122, 48, 233, 945, 19968, 128512]
noncomputable def letters' : List Int := [97, 98, 99, 122, 48, 233, 945, 19968, 128512, 120, 121]
noncomputable def odds : List (List Int × List Int) := [([39, 38, 39], [38]), ([39, 60, 32, 39], [60, 32]), ([92, 60], [60]), ([39, 39], [39]), ([39, 97, 39, 39, 98, 39], [97, 39, 98]), ([92, 117, 48, 48, 54, 49], [97]), ([92, 85, 48, 48, 48, 49, 70, 54, 48, 48], [128512])]
noncomputable def gaps : List (List Int) := [[], [32], [9, 32], [10], [133], [8206], [8207], [8232], [13], [11, 12]]
section
variable {acc r : List Int} {n i : Nat}
theorem dbl_stop (h : hd? r 39 = false) : pDbl (n + 1) acc i (39 :: r) = .ok acc i (39 :: r) := by
  have e : isTwo (39 :: r) = hd? r 39 := by cases r <;> rfl
  show (if isTwo (39 :: r) then _ else _) = _
  rw [e, h]; rfl
theorem str_letter {c : Int} (hc : c ∈ letters') (ha : acc.length ≤ 1000) : pStr (n + 1) acc i (c :: r) = pStr n (acc ++ [c]) (i + 1) r := by
  have g : gd (acc.length + 1) (pStr n (acc ++ [c]) (i + 1) r) = pStr n (acc ++ [c]) (i + 1) r := gd_ok (by omega)
  simp only [letters', List.mem_cons, List.not_mem_nil, or_false] at hc
  rcases hc with h | h | h | h | h | h | h | h | h | h | h <;> (subst h; exact g)
theorem quoted1 (h : hd? r 39 = false) : pQuoted i (38 :: 39 :: r) = .ok [38] (i + 2) r := by
  show ((pDbl IT [38] (i + 1) (39 :: r)).bind (pQ 4095)) = _
  rw [show IT = 4095 + 1 from rfl, dbl_stop h]; rfl
theorem quoted2 (h : hd? r 39 = false) : pQuoted i (60 :: 32 :: 39 :: r) = .ok [60, 32] (i + 3) r := by
  show ((pDbl IT [60, 32] (i + 1 + 1) (39 :: r)).bind (pQ 4094)) = _
  rw [show IT = 4095 + 1 from rfl, dbl_stop h]; rfl
theorem quoted3 (h : hd? r 39 = false) : pQuoted i (97 :: 39 :: 39 :: 98 :: 39 :: r) = .ok [97, 39, 98] (i + 5) r := by
  show ((pDbl IT [97, 39, 98] (i + 1 + 2 + 1) (39 :: r)).bind (pQ 4094)) = _
  rw [show IT = 4095 + 1 from rfl, dbl_stop h]; rfl
theorem str_quote {q s' : List Int} {j : Nat} (h : pQuoted (i + 1) r = .ok q j s') (ha : acc.length + q.length ≤ 16000000) : pStr (n + 1) acc i (39 :: r) = pStr n (acc ++ q) j s' := by
  show (pQuoted (i + 1) r).bind _ = _
  rw [h]; exact gd_ok ha
theorem str_esc {v : Int} {s' : List Int} {j : Nat} (h : pEsc (i + 1) r = .ok v j s') (ha : acc.length ≤ 1000) : pStr (n + 1) acc i (92 :: r) = pStr n (acc ++ [v]) j s' := by
  show (pEsc (i + 1) r).bind _ = _
  rw [h]; exact gd_ok (by omega)
theorem str_odd {o : List Int × List Int} (ho : o ∈ odds) (h : hd? r 39 = false) (ha : acc.length ≤ 1000) : pStr (n + 1) acc i (o.1 ++ r) = pStr n (acc ++ o.2) (i + o.1.length) r := by
  simp only [odds, List.mem_cons, List.not_mem_nil, or_false] at ho
  rcases ho with q | q | q | q | q | q | q <;> subst q
  · exact str_quote (quoted1 h) (by show acc.length + 1 ≤ _; omega)
  · exact str_quote (quoted2 h) (by show acc.length + 2 ≤ _; omega)
  · exact str_esc rfl ha
  · exact str_quote (q := [39]) rfl (by show acc.length + 1 ≤ _; omega)
  · exact str_quote (quoted3 h) (by show acc.length + 3 ≤ _; omega)
  · exact str_esc rfl ha
  · exact str_esc rfl ha
/-- what a string ends at -/
noncomputable def stp : List Int → Bool
  | [] => true
  | c :: _ => (c != 39 && c != 92) && (isSign c || isBlank c)
theorem takes_no {u : Nat} (h : hd? r u = false) : pTakes u i r = .ok false i r := by
  cases r with
  | nil => rfl
  | cons c r =>
    show (if c == (u : Int) then _ else _) = _
    rw [show (c == (u : Int)) = false from h]; rfl
theorem str_stop (h : stp r = true) : pStr (n + 1) acc i r = .ok acc i r := by
  cases r with
  | nil => rfl
  | cons c r =>
    simp only [stp, Bool.and_eq_true, bne_iff_ne, ne_eq] at h
    obtain ⟨⟨h1, h2⟩, h3⟩ := h
    have e1 : pTakes 39 i (c :: r) = .ok false i (c :: r) := takes_no (beq_eq_false_iff_ne.mpr h1)
    have e2 : pTakes 92 i (c :: r) = .ok false i (c :: r) := takes_no (beq_eq_false_iff_ne.mpr h2)
    show (pTakes 39 i (c :: r)).bind _ = _
    rw [e1]
    show (pTakes 92 i (c :: r)).bind _ = _
    rw [e2]
    show (if isSign c || isBlank c then _ else _) = _
    rw [h3]; rfl
theorem stp_hd (h : stp r = true) : hd? r 39 = false := by
  cases r with
  | nil => rfl
  | cons c r =>
    simp only [stp, Bool.and_eq_true, bne_iff_ne, ne_eq] at h
    exact beq_eq_false_iff_ne.mpr h.1.1
noncomputable def StrF (w s : List Int) : Prop := (∃ c ∈ letters, w = [c] ∧ s = [c]) ∨ (∃ c ∈ letters, ∃ d ∈ letters, w = [c, d] ∧ s = [c, d]) ∨ (∃ c ∈ letters, ∃ o ∈ odds, w = c :: o.1 ∧ s = c :: o.2) ∨ (∃ c ∈ letters, ∃ o ∈ odds, w = o.1 ++ [c] ∧ s = o.2 ++ [c]) ∨ ∃ o ∈ odds, w = o.1 ∧ s = o.2
theorem let_sub {c : Int} (h : c ∈ letters) : c ∈ letters' := by
  simp only [letters, letters', List.mem_cons, List.not_mem_nil, or_false] at h ⊢
  rcases h with h | h | h | h | h | h | h | h | h <;> simp [h]
theorem let_hd {c : Int} (h : c ∈ letters) : hd? (c :: r) 39 = false := by
  simp only [letters, List.mem_cons, List.not_mem_nil, or_false] at h
  rcases h with h | h | h | h | h | h | h | h | h <;> (subst h; rfl)
theorem str_ok {w s : List Int} (h : StrF w s) (hr : stp r = true) : pStr IT [] i (w ++ r) = .ok s (i + w.length) r := by
  rcases h with ⟨c, hc, rfl, rfl⟩ | ⟨c, hc, d, hd, rfl, rfl⟩ | ⟨c, hc, o, ho, rfl, rfl⟩ | ⟨c, hc, o, ho, rfl, rfl⟩ | ⟨o, ho, rfl, rfl⟩
  · exact (str_letter (n := 4095) (let_sub hc) (Nat.zero_le _)).trans (str_stop (n := 4094) hr)
  · exact (str_letter (n := 4095) (let_sub hc) (Nat.zero_le _)).trans ((str_letter (n := 4094) (let_sub hd) (Nat.le_of_ble_eq_true rfl)).trans (str_stop (n := 4093) hr))
  · refine (str_letter (n := 4095) (let_sub hc) (Nat.zero_le _)).trans ((str_odd (n := 4094) ho (stp_hd hr) (Nat.le_of_ble_eq_true rfl)).trans ((str_stop (n := 4093) hr).trans ?_))
    rw [List.length_cons, Nat.add_assoc, Nat.add_comm 1]; rfl
  · rw [List.append_assoc]
    refine (str_odd (n := 4095) (r := c :: r) ho (let_hd hc) (Nat.zero_le _)).trans ((str_letter (n := 4094) (let_sub hc) ?_).trans ((str_stop (n := 4093) hr).trans ?_))
    · simp only [odds, List.mem_cons, List.not_mem_nil, or_false] at ho
      rcases ho with q | q | q | q | q | q | q <;> (subst q; decide)
    · rw [List.length_append, Nat.add_assoc]; rfl
  · exact (str_odd (n := 4095) ho (stp_hd hr) (Nat.zero_le _)).trans (str_stop (n := 4094) hr)
/-- what no skip passes -/
noncomputable def nb : List Int → Bool
  | [] => true
  | c :: _ => c != 35 && !isBlank c
theorem skip_stop (h : nb r = true) : pSkip (n + 1) i r = .ok () i r := by
  cases r with
  | nil => rfl
  | cons c r =>
    simp only [nb, Bool.and_eq_true, bne_iff_ne, ne_eq, Bool.not_eq_true'] at h
    show (if c == 35 then _ else if isBlank c then _ else _) = _
    rw [beq_eq_false_iff_ne.mpr h.1, h.2]; rfl
theorem skip_gap {g : List Int} (hg : g ∈ gaps) (h : nb r = true) : pSkip IT i (g ++ r) = .ok () (i + g.length) r := by
  simp only [gaps, List.mem_cons, List.not_mem_nil, or_false] at hg
  rcases hg with q | q | q | q | q | q | q | q | q | q <;> subst q
  · exact skip_stop (n := 4095) h
  · exact skip_stop (n := 4094) h
  · exact skip_stop (n := 4093) h
  · exact skip_stop (n := 4094) h
  · exact skip_stop (n := 4094) h
  · exact skip_stop (n := 4094) h
  · exact skip_stop (n := 4094) h
  · exact skip_stop (n := 4094) h
  · exact skip_stop (n := 4094) h
  · exact skip_stop (n := 4093) h
theorem nb_str {w s : List Int} (h : StrF w s) : nb (w ++ r) = true ∧ hd? (w ++ r) 91 = false ∧ hd? (w ++ r) 60 = false ∧ hd? (w ++ r) 42 = false ∧ s.isEmpty = false ∧ s.length ≤ 4 := by
  have hl : ∀ {c : Int} {x : List Int}, c ∈ letters → nb (c :: x) = true ∧ hd? (c :: x) 91 = false ∧ hd? (c :: x) 60 = false ∧ hd? (c :: x) 42 = false := fun {c x} hc => by
    simp only [letters, List.mem_cons, List.not_mem_nil, or_false] at hc
    rcases hc with h | h | h | h | h | h | h | h | h <;> (subst h; exact ⟨rfl, rfl, rfl, rfl⟩)
  have ho : ∀ {o : List Int × List Int} {x : List Int}, o ∈ odds → (nb (o.1 ++ x) = true ∧ hd? (o.1 ++ x) 91 = false ∧ hd? (o.1 ++ x) 60 = false ∧ hd? (o.1 ++ x) 42 = false) ∧ (o.2.isEmpty = false ∧ o.2.length ≤ 3) := fun {o x} ho => by
    simp only [odds, List.mem_cons, List.not_mem_nil, or_false] at ho
    rcases ho with q | q | q | q | q | q | q <;> (subst q; exact ⟨⟨rfl, rfl, rfl, rfl⟩, rfl, by decide⟩)
  rcases h with ⟨c, hc, rfl, rfl⟩ | ⟨c, hc, d, hd, rfl, rfl⟩ | ⟨c, hc, o, hoo, rfl, rfl⟩ | ⟨c, hc, o, hoo, rfl, rfl⟩ | ⟨o, hoo, rfl, rfl⟩
  · obtain ⟨a, b, c, d⟩ := hl (x := r) hc; exact ⟨a, b, c, d, rfl, Nat.le_of_ble_eq_true rfl⟩
  · obtain ⟨a, b, c, d⟩ := hl (x := d :: r) hc; exact ⟨a, b, c, d, rfl, Nat.le_of_ble_eq_true rfl⟩
  · obtain ⟨a, b, c, d⟩ := hl (x := o.1 ++ r) hc
    have := (ho (x := r) hoo).2.2
    exact ⟨a, b, c, d, rfl, by rw [List.length_cons]; omega⟩
  · obtain ⟨⟨a, b, c', d⟩, e, f⟩ := ho (x := [c] ++ r) hoo
    rw [List.append_assoc]
    refine ⟨a, b, c', d, ?_, by rw [List.length_append, List.length_singleton]; omega⟩
    cases h : o.2 with
    | nil => rfl
    | cons => rfl
  · obtain ⟨⟨a, b, c, d⟩, e, f⟩ := ho (x := r) hoo
    exact ⟨a, b, c, d, e, by omega⟩
/-- w is read as the string s -/
structure SW (w s : List Int) : Prop where
  rd : ∀ (i : Nat) (r : List Int), stp r = true → pStr IT [] i (w ++ r) = .ok s (i + w.length) r
  nbs : ∀ r : List Int, nb (w ++ r) = true ∧ hd? (w ++ r) 91 = false ∧ hd? (w ++ r) 60 = false ∧ hd? (w ++ r) 42 = false ∧ s.isEmpty = false ∧ s.length ≤ 4
theorem sw_of {w s : List Int} (h : StrF w s) : SW w s := ⟨fun _ _ hr => str_ok h hr, fun _ => nb_str h⟩
theorem string_sp {g w s : List Int} (hg : g ∈ gaps) (h : SW w s) (hr : stp r = true) : pString i (g ++ (w ++ r)) = .ok s (i + g.length + w.length) r := by
  unfold pString
  rw [skip_gap hg (h.nbs r).1]
  show (pStr IT [] (i + g.length) (w ++ r)).bind _ = _
  rw [h.rd _ _ hr]
  show (if s.isEmpty then _ else _) = _
  rw [(h.nbs r).2.2.2.2.1]; rfl
end
end Mine

namespace Mine
open PySem PySem.W PySem.Calls PyProof.Rows

/-- "[first regular]" behind its bracket, "[before n]" behind its bracket -/
noncomputable def cFR : List Int := [102, 105, 114, 115, 116, 32, 114, 101, 103, 117, 108, 97, 114, 93]
noncomputable def cBf (n : Int) : List Int := [98, 101, 102, 111, 114, 101, 32, 48 + n, 93]
noncomputable def rReset (s : List Int) (b pl : Int) : Dat := .tuple [.str "reset", .tuple (s.map Dat.int), .int b, .int pl]
noncomputable def rAnchor (b pl : Int) : Dat := .tuple [.str "anchor", .str "first regular", .int b, .int pl]
section
variable {r g g2 w s : List Int} {i : Nat} {pl b : Int}
theorem ok_bind {α β : Type} {a : α} {f : α → Nat → List Int → PR β} {s : List Int} : (PR.ok a i s).bind f = f a i s := rfl
theorem takes_yes {u : Nat} {c : Int} (h : (c == (u : Int)) = true) : pTakes u i (c :: r) = .ok true (i + 1) r := by
  show (if c == (u : Int) then _ else _) = _
  rw [h]; rfl
theorem tail_sp (hg : g ∈ gaps) (h : SW w s) (hr : stp r = true) : pTail b pl i (g ++ (w ++ r)) = .ok (rReset s b pl) (i + g.length + w.length) r := by
  unfold pTail
  rw [string_sp hg h hr]
  exact gd_ok (by have := (SW.nbs h (r)).2.2.2.2.2; omega)
theorem nil_gap : ([] : List Int) ∈ gaps := List.mem_cons_self ..
theorem reset1 (hg : g ∈ gaps) (h : SW w s) (hr : stp r = true) : pReset pl i (g ++ (w ++ r)) = .ok (rReset s 0 pl) (i + g.length + w.length) r := by
  unfold pReset
  rw [skip_gap hg (SW.nbs h _).1]
  show (pTakes 91 (i + g.length) (w ++ r)).bind _ = _
  rw [takes_no (SW.nbs h _).2.1]
  exact tail_sp (g := []) nil_gap h hr
theorem words_fr : pWords i (cFR ++ r) = .ok [.str "first", .str "regular"] (i + 14) r := by kernel_rfl
theorem reset2 (hg : g ∈ gaps) : pReset pl i (g ++ (91 :: (cFR ++ r))) = .ok (rAnchor 0 pl) (i + g.length + 1 + 14) r := by
  unfold pReset
  rw [skip_gap hg rfl, ok_bind, takes_yes rfl, ok_bind, if_pos rfl, words_fr]
  kernel_rfl
theorem before_go (hg : g ∈ gaps) (hg2 : g2 ∈ gaps) (hb : b = 1 ∨ b = 2 ∨ b = 3) (hr : nb r = true) : pReset pl i (g ++ (91 :: (cBf b ++ (g2 ++ r)))) = (pTakes 91 (i + g.length + 1 + 9 + g2.length) r).bind fun t i s =>
      if t then (pWords i s).bind fun ws i s => (match joinD " " (.list ws) with
        | some x => .ok (.tuple [.str "anchor", x, .int b, .int pl]) i s
        | none => .stuck) else pTail b pl i s := by
  have hw : pWords (i + g.length + 1) (cBf b ++ (g2 ++ r)) = .ok [.str "before", .str ⟨#[(48 + b).toNat]⟩] (i + g.length + 1 + 9) (g2 ++ r) := by rcases hb with h | h | h <;> (subst h; kernel_rfl)
  have hk : kindOf [.str "before", .str ⟨#[(48 + b).toNat]⟩] = .before b := by rcases hb with h | h | h <;> (subst h; kernel_rfl)
  unfold pReset
  rw [skip_gap hg rfl, ok_bind, takes_yes rfl, ok_bind, if_pos rfl, hw]
  show (match kindOf [.str "before", .str ⟨#[(48 + b).toNat]⟩] with
    | .anchor x => PR.ok (Dat.tuple [.str "anchor", x, .int 0, .int pl]) (i + g.length + 1 + 9) (g2 ++ r)
    | .bad => .err pl
    | .before n => (pSkip IT (i + g.length + 1 + 9) (g2 ++ r)).bind fun _ i s => (pTakes 91 i s).bind fun b i s =>
      if b then (pWords i s).bind fun ws i s => (match joinD " " (.list ws) with
        | some x => .ok (.tuple [.str "anchor", x, .int n, .int pl]) i s
        | none => .stuck) else pTail n pl i s
    | .no => .stuck) = _
  rw [hk]
  dsimp only
  rw [skip_gap hg2 hr]; rfl
theorem reset3 (hg : g ∈ gaps) (hg2 : g2 ∈ gaps) (hb : b = 1 ∨ b = 2 ∨ b = 3) (h : SW w s) (hr : stp r = true) : pReset pl i (g ++ (91 :: (cBf b ++ (g2 ++ (w ++ r))))) = .ok (rReset s b pl) (i + g.length + 1 + 9 + g2.length + w.length) r := by
  rw [before_go hg hg2 hb (SW.nbs h _).1, takes_no (SW.nbs h _).2.1]
  exact tail_sp (g := []) nil_gap h hr
theorem reset4 (hg : g ∈ gaps) (hg2 : g2 ∈ gaps) (hb : b = 1 ∨ b = 2 ∨ b = 3) : pReset pl i (g ++ (91 :: (cBf b ++ (g2 ++ (91 :: (cFR ++ r)))))) = .ok (rAnchor b pl) (i + g.length + 1 + 9 + g2.length + 1 + 14) r := by
  rw [before_go hg hg2 hb rfl]
  rw [takes_yes rfl, ok_bind, if_pos rfl, words_fr]
  kernel_rfl

/-! the relation -/
/-- the signs of a strength -/
noncomputable def cSt (st : Int) : List Int := if st = 0 then [61] else List.replicate st.toNat 60
theorem lt_no {n : Nat} {a : Int} (h : hd? r 60 = false) : pLt (n + 1) a i r = .ok a i r := by
  show (pTakes 60 i r).bind _ = _
  rw [takes_no h]; rfl
theorem strength_sp {st : Int} (hs : st = 0 ∨ st = 1 ∨ st = 2 ∨ st = 3) (hr : hd? r 60 = false) : pStrength pl i (cSt st ++ r) = .ok st (i + (cSt st).length) r := by
  rcases hs with h | h | h | h <;> subst h
  · rfl
  · show ((pLt (4094 + 1) 1 (i + 1) r).bind fun a i s => if !btw 1 a 3 then .err pl else .ok a i s) = _
    rw [lt_no hr]; rfl
  · show ((pLt (4093 + 1) 2 (i + 2) r).bind fun a i s => if !btw 1 a 3 then .err pl else .ok a i s) = _
    rw [lt_no hr]; rfl
  · show ((pLt (4092 + 1) 3 (i + 3) r).bind fun a i s => if !btw 1 a 3 then .err pl else .ok a i s) = _
    rw [lt_no hr]; rfl
/-- the starred words: what is written, and the codes -/
noncomputable def stars : List (List Int × List Int) := [([97, 122], [97, 122]), ([97, 45, 99], [97, 98, 99]), ([48, 97, 45, 98], [48, 97, 98]), ([120, 45, 121, 98], [120, 121, 98])]
noncomputable def rStar (st pl c : Int) : Dat := .tuple [.str "relation", .int st, .tuple [.int c], .tuple [], .tuple [], .int pl]
theorem rels_ok {st : Int} {l : List Int} (hl : l.length ≤ 1000) : relsOf st pl (l.map Dat.int) = some (l.map (rStar st pl)) := by
  unfold relsOf
  rw [if_pos (sz_ok (by rw [List.length_map]; omega))]
  clear hl
  induction l with
  | nil => rfl
  | cons c l ih =>
    have e0 : evComp (evE (orc 25) 39) relElt none [some (.int pl), some (.int st)] (.int c :: l.map Dat.int) = (match endsPlain (evE (orc 25) 39 relElt ⟨[some (.int c), some (.int pl), some (.int st)], none, none⟩) with
        | none => none
        | some r => (evComp (evE (orc 25) 39) relElt none [some (.int pl), some (.int st)] (l.map Dat.int)).map (r :: ·)) := rfl
    show evComp (evE (orc 25) 39) relElt none [some (.int pl), some (.int st)] (.int c :: l.map Dat.int) = _
    rw [e0, ih]; rfl
end
end Mine

namespace Mine
open PySem PySem.W PySem.Calls PyProof.Rows

section
variable {r r' g g2 g3 w w2 s s2 tail more : List Int} {i k len : Nat} {pl b st : Int}
theorem let_nb {c : Int} (h : c ∈ letters') : nb (c :: r) = true := by
  simp only [letters', List.mem_cons, List.not_mem_nil, or_false] at h
  rcases h with h | h | h | h | h | h | h | h | h | h | h <;> (subst h; rfl)
theorem string_1 {c : Int} (hg : g ∈ gaps) (hc : c ∈ letters') (hr : stp r = true) : pString i (g ++ (c :: r)) = .ok [c] (i + g.length + 1) r := by
  unfold pString
  rw [skip_gap hg (let_nb hc), ok_bind, show IT = 4095 + 1 from rfl, str_letter hc (Nat.zero_le _), show 4095 = 4094 + 1 from rfl, str_stop hr]; rfl
theorem string_2 {c d : Int} (hg : g ∈ gaps) (hc : c ∈ letters') (hd : d ∈ letters') (hr : stp r = true) : pString i (g ++ (c :: d :: r)) = .ok [c, d] (i + g.length + 2) r := by
  unfold pString
  rw [skip_gap hg (let_nb hc), ok_bind, show IT = 4095 + 1 from rfl, str_letter hc (Nat.zero_le _), show 4095 = 4094 + 1 from rfl, str_letter hd (Nat.le_of_ble_eq_true rfl), show 4094 = 4093 + 1 from rfl, str_stop hr]; rfl
theorem star_stop {n : Nat} {found : List Dat} (h : hd? r 45 = false) : pStarLoop (n + 1) found i r = .ok found i r := by
  show (pTakes 45 i r).bind _ = _
  rw [takes_no h]; rfl
theorem star_go {n j : Nat} {found xs : List Dat} {x ends : List Int} {a b : Int} (h : pString (i + 1) x = .ok ends j r) (ha : idxD (lst ends) (.int 0) = some (.int a)) (hb : idxD (.list found) (.int (-1)) = some (.int b)) (hlt : decide (a < b) = false) (hx : starAdd a b ends = some xs) (hz : sz (found.length + xs.length) = true) :
    pStarLoop (n + 1) found i (45 :: x) = pStarLoop n (found ++ xs) j r := by
  show (pString (i + 1) x).bind _ = _
  rw [h]
  show (match idxD (lst ends) (.int 0), idxD (.list found) (.int (-1)) with
      | some (.int a), some (.int b) => if a < b then PR.err j else (match starAdd a b ends with
        | some xs => if sz (found.length + xs.length) then pStarLoop n (found ++ xs) j r else .stuck
        | none => .stuck)
      | _, _ => PR.stuck) = _
  rw [ha, hb]
  dsimp only
  rw [if_neg (of_decide_eq_false hlt), hx]
  dsimp only
  rw [if_pos hz]
theorem star_end {l l' : List Int} {x : List Int} {j j' : Nat} (h : pString i x = .ok l j r) (hl : pStarLoop IT (l.map Dat.int) j r = .ok (l'.map Dat.int) j' r') (hn : l'.length ≤ 1000) : pStarred st pl i x = .ok (l'.map (rStar st pl)) j' r' := by
  unfold pStarred
  rw [h, ok_bind, hl, ok_bind, rels_ok hn]
theorem starred_sp {o : List Int × List Int} (ho : o ∈ stars) (hg : g ∈ gaps) (hr : stp r = true) (hd : hd? r 45 = false) : pStarred st pl i (g ++ (o.1 ++ r)) = .ok (o.2.map (rStar st pl)) (i + g.length + o.1.length) r := by
  simp only [stars, List.mem_cons, List.not_mem_nil, or_false] at ho
  rcases ho with q | q | q | q <;> subst q
  · exact star_end (l := [97, 122]) (string_2 hg (by decide) (by decide) hr) (star_stop (n := 4095) hd) (Nat.le_of_ble_eq_true rfl)
  · exact star_end (l := [97]) (l' := [97, 98, 99]) (string_1 hg (by decide) rfl) ((star_go (n := 4095) (xs := [.int 98, .int 99]) (string_1 (g := []) nil_gap (by decide) hr) rfl rfl rfl (by kernel_rfl) rfl).trans (star_stop (n := 4094) hd)) (Nat.le_of_ble_eq_true rfl)
  · exact star_end (l := [48, 97]) (l' := [48, 97, 98]) (string_2 hg (by decide) (by decide) rfl) ((star_go (n := 4095) (xs := [.int 98]) (string_1 (g := []) nil_gap (by decide) hr) rfl rfl rfl (by kernel_rfl) rfl).trans (star_stop (n := 4094) hd)) (Nat.le_of_ble_eq_true rfl)
  · exact star_end (l := [120]) (l' := [120, 121, 98]) (string_1 hg (by decide) rfl) ((star_go (n := 4095) (xs := [.int 121, .int 98]) (string_2 (g := []) nil_gap (by decide) (by decide) hr) rfl rfl rfl (by kernel_rfl) rfl).trans (star_stop (n := 4094) hd)) (Nat.le_of_ble_eq_true rfl)

/-- what may stand behind a rule -/
structure Aft (r : List Int) (k : Nat) (r' : List Int) : Prop where
  st : stp r = true
  dash : hd? r 45 = false
  sk : ∀ i, pSkip IT i r = .ok () (i + k) r'
  sk' : ∀ j, pSkip IT j r' = .ok () j r'
  bar : hd? r' 124 = false
  slash : hd? r' 47 = false
noncomputable def TlF (tail more r' : List Int) (len : Nat) : Prop := stp tail = true ∧ ∀ j, ∃ j1 t1, pSkip IT j tail = .ok () j1 t1 ∧ hd? t1 124 = false ∧ ∀ st pl ctx own, ctx.length ≤ 4 → own.length ≤ 4 → ∃ j2 t2, pMore st pl ctx own j1 t1 = .ok [relRow st pl ctx own more] j2 t2 ∧ pSkip IT j2 t2 = .ok () (j + len) r'
theorem out_go {ctx own : List Int} (h1 : ctx.length ≤ 4) (h2 : own.length ≤ 4) (h3 : more.length ≤ 4) : pOut st pl ctx own more i r = .ok [relRow st pl ctx own more] i r := by
  unfold pOut
  rw [gd_ok (by omega), gd_ok (by omega), gd_ok (by omega)]
theorem tl_no (h : Aft r k r') : TlF r [] r' k := ⟨h.st, fun j => ⟨_, _, h.sk j, h.bar, fun st pl ctx own h1 h2 => ⟨j + k, r', by
    unfold pMore
    rw [takes_no h.slash, ok_bind, if_neg (by decide), out_go h1 h2 (Nat.zero_le _)], h.sk' _⟩⟩⟩
theorem stp_gap {c : Int} (hg : g ∈ gaps) (h : stp (c :: r) = true) : stp (g ++ (c :: r)) = true := by
  simp only [gaps, List.mem_cons, List.not_mem_nil, or_false] at hg
  rcases hg with q | q | q | q | q | q | q | q | q | q <;> subst q
  · exact h
  all_goals rfl
theorem tl_yes (hg : g ∈ gaps) (hg2 : g2 ∈ gaps) (hw : SW w s) (h : Aft r k r') : TlF (g ++ (47 :: (g2 ++ (w ++ r)))) s r' (g.length + 1 + g2.length + w.length + k) := ⟨stp_gap hg rfl, fun j => ⟨_, _, skip_gap hg rfl, rfl, fun st pl ctx own h1 h2 => ⟨j + g.length + 1 + g2.length + w.length, r, by
    unfold pMore
    rw [takes_yes rfl, ok_bind, if_pos rfl, string_sp hg2 hw h.st, ok_bind, out_go h1 h2 (SW.nbs hw (r)).2.2.2.2.2], by
    rw [h.sk]
    congr 1; omega⟩⟩⟩
theorem gap_hd {c : Int} {u : Nat} (hg : g ∈ gaps) (hu : u = 60 ∨ u = 42) (h : hd? (c :: r) u = false) : hd? (g ++ (c :: r)) u = false := by
  simp only [gaps, List.mem_cons, List.not_mem_nil, or_false] at hg
  rcases hg with q | q | q | q | q | q | q | q | q | q <;> subst q
  · exact h
  all_goals (rcases hu with h | h <;> (subst h; rfl))
theorem gs_hd {u : Nat} (hg : g ∈ gaps) (hu : u = 60 ∨ u = 42) (h : hd? r u = false) : hd? (g ++ r) u = false := by
  cases r with
  | cons c r => exact gap_hd hg hu h
  | nil =>
    rw [List.append_nil]
    simp only [gaps, List.mem_cons, List.not_mem_nil, or_false] at hg
    rcases hg with q | q | q | q | q | q | q | q | q | q <;> (subst q; rcases hu with h | h <;> (subst h; rfl))
theorem rel_star {o : List Int × List Int} (hs : st = 0 ∨ st = 1 ∨ st = 2 ∨ st = 3) (ho : o ∈ stars) (hg : g ∈ gaps) (hr : stp r = true) (hd : hd? r 45 = false) : pRel pl i (cSt st ++ (42 :: (g ++ (o.1 ++ r)))) = .ok (o.2.map (rStar st pl)) (i + (cSt st).length + 1 + g.length + o.1.length) r := by
  unfold pRel
  rw [strength_sp hs rfl, ok_bind, takes_yes rfl, ok_bind, if_pos rfl, starred_sp ho hg hr hd]
theorem rel_1 (hs : st = 0 ∨ st = 1 ∨ st = 2 ∨ st = 3) (hg : g ∈ gaps) (hw : SW w s) (ht : TlF tail more r' len) : ∃ j2 t2, pRel pl i (cSt st ++ (g ++ (w ++ tail))) = .ok [relRow st pl [] s more] j2 t2 ∧ pSkip IT j2 t2 = .ok () (i + (cSt st).length + g.length + w.length + len) r' := by
  obtain ⟨j1, t1, h1, h2, h3⟩ := ht.2 (i + (cSt st).length + g.length + w.length)
  have nw := SW.nbs hw (tail)
  obtain ⟨j2, t2, h4, h5⟩ := h3 st pl [] s (Nat.zero_le _) nw.2.2.2.2.2
  refine ⟨j2, t2, ?_, h5⟩
  unfold pRel
  rw [strength_sp hs (gs_hd hg (.inl rfl) nw.2.2.1), ok_bind, takes_no (gs_hd hg (.inr rfl) nw.2.2.2.1), ok_bind, if_neg (by decide), string_sp hg hw ht.1, ok_bind, h1, ok_bind, takes_no h2, ok_bind, if_neg (by decide), h4]
theorem rel_2 (hs : st = 0 ∨ st = 1 ∨ st = 2 ∨ st = 3) (hg : g ∈ gaps) (hw : SW w s) (hg2 : g2 ∈ gaps) (hg3 : g3 ∈ gaps) (hw2 : SW w2 s2) (ht : TlF tail more r' len) :
    ∃ j2 t2, pRel pl i (cSt st ++ (g ++ (w ++ (g2 ++ (124 :: (g3 ++ (w2 ++ tail))))))) = .ok [relRow st pl s s2 more] j2 t2 ∧ pSkip IT j2 t2 = .ok () (i + (cSt st).length + g.length + w.length + g2.length + 1 + g3.length + w2.length + len) r' := by
  obtain ⟨j1, t1, h1, h2, h3⟩ := ht.2 (i + (cSt st).length + g.length + w.length + g2.length + 1 + g3.length + w2.length)
  have nw := SW.nbs hw (g2 ++ (124 :: (g3 ++ (w2 ++ tail))))
  obtain ⟨j2, t2, h4, h5⟩ := h3 st pl s s2 nw.2.2.2.2.2 (SW.nbs hw2 (tail)).2.2.2.2.2
  refine ⟨j2, t2, ?_, h5⟩
  unfold pRel
  rw [strength_sp hs (gs_hd hg (.inl rfl) nw.2.2.1), ok_bind, takes_no (gs_hd hg (.inr rfl) nw.2.2.2.1), ok_bind, if_neg (by decide), string_sp hg hw (stp_gap hg2 rfl), ok_bind, skip_gap hg2 rfl, ok_bind, takes_yes rfl, ok_bind, if_pos rfl, string_sp hg3 hw2 ht.1, ok_bind, h1, ok_bind, h4]
end
end Mine

namespace Mine
open PySem PySem.W PySem.Calls PyProof.Rows

/-! the bodies that a turn writes -/
noncomputable def cs_as : List Int := [97, 108, 116, 101, 114, 110, 97, 116, 101, 32, 115, 104, 105, 102, 116, 101, 100]
noncomputable def cs_b2 : List Int := [98, 97, 99, 107, 119, 97, 114, 100, 115, 32, 50]
noncomputable def cs_st : List Int := [115, 116, 114, 101, 110, 103, 116, 104]
noncomputable def opts : List (List Int × List Dat) := [(cs_as, [.str "alternate", .str "shifted"]), (cs_b2, [.str "backwards", .str "2"]), (cs_st, [.str "strength"])]
noncomputable def rOpt (ws : List Dat) (pl : Int) : Dat := .tuple [.str "option", .tuple ws, .int pl]
noncomputable def st4 (st : Int) : Prop := st = 0 ∨ st = 1 ∨ st = 2 ∨ st = 3
noncomputable def b3 (b : Int) : Prop := b = 1 ∨ b = 2 ∨ b = 3
inductive Tl : List Int → List Int → Prop
  | no : Tl [] []
  | yes {g g2 w s : List Int} (hg : g ∈ gaps) (hg2 : g2 ∈ gaps) (hw : SW w s) : Tl (g ++ (47 :: (g2 ++ w))) s
inductive Hd : List Int → List Int → Prop
  | no : Hd [] []
  | yes {g g2 w s : List Int} (hg : g ∈ gaps) (hg2 : g2 ∈ gaps) (hw : SW w s) : Hd (g ++ (w ++ (g2 ++ [124]))) s
inductive BodyF : Bool → Int → List Int → (Int → List Dat) → Bool → Int → Prop
  | opt {set : Bool} {bef : Int} {o : List Int × List Dat} (h : o ∈ opts) : BodyF set bef (91 :: (o.1 ++ [93])) (fun pl => [rOpt o.2 pl]) set bef
  | res {set : Bool} {bef : Int} {g w s : List Int} (hg : g ∈ gaps) (hw : SW w s) : BodyF set bef (38 :: (g ++ w)) (fun pl => [rReset s 0 pl]) true 0
  | anc {set : Bool} {bef : Int} {g : List Int} (hg : g ∈ gaps) : BodyF set bef (38 :: (g ++ (91 :: cFR))) (fun pl => [rAnchor 0 pl]) true 0
  | resB {set : Bool} {bef b : Int} {g g2 w s : List Int} (hg : g ∈ gaps) (hg2 : g2 ∈ gaps) (hb : b3 b) (hw : SW w s) : BodyF set bef (38 :: (g ++ (91 :: (cBf b ++ (g2 ++ w))))) (fun pl => [rReset s b pl]) true b
  | ancB {set : Bool} {bef b : Int} {g g2 : List Int} (hg : g ∈ gaps) (hg2 : g2 ∈ gaps) (hb : b3 b) : BodyF set bef (38 :: (g ++ (91 :: (cBf b ++ (g2 ++ (91 :: cFR)))))) (fun pl => [rAnchor b pl]) true b
  | star {bef st : Int} {g : List Int} {o : List Int × List Int} (hs : st4 st) (hb : bef = 0 ∨ st = bef) (hg : g ∈ gaps) (ho : o ∈ stars) : BodyF true bef (cSt st ++ (42 :: (g ++ o.1))) (fun pl => o.2.map (rStar st pl)) true 0
  | rel {bef st : Int} {h g w s t ctx more : List Int} (hs : st4 st) (hb : bef = 0 ∨ st = bef) (hh : Hd h ctx) (hg : g ∈ gaps) (hw : SW w s) (ht : Tl t more) : BodyF true bef (cSt st ++ (h ++ (g ++ (w ++ t)))) (fun pl => [relRow st pl ctx s more]) true 0

section
variable {r r' w : List Int} {i k n : Nat} {set set' : Bool} {bef bef' b : Int} {found rows : List Dat} {rf : Int → List Dat}
theorem main_opt {o : List Int × List Dat} (ho : o ∈ opts) (h : Aft r k r') (hf : found.length ≤ 1000) : pMain (n + 1) found set bef i (91 :: (o.1 ++ (93 :: r))) = pMain n (found ++ [rOpt o.2 i]) set bef (i + (o.1.length + 2) + k) r' := by
  have e : pWords (i + 1) (o.1 ++ (93 :: r)) = .ok o.2 (i + (o.1.length + 2)) r ∧ o.2.length ≤ 2 := by
    simp only [opts, List.mem_cons, List.not_mem_nil, or_false] at ho
    rcases ho with q | q | q <;> subst q
    · exact ⟨by kernel_rfl, Nat.le_refl _⟩
    · exact ⟨by kernel_rfl, Nat.le_refl _⟩
    · exact ⟨by kernel_rfl, by decide⟩
  show (pWords (i + 1) (o.1 ++ (93 :: r))).bind _ = _
  rw [e.1, ok_bind, sz_ok (by omega), sz_ok (by have := e.2; omega)]
  show (pSkip IT _ r).bind _ = _
  rw [h.sk]; rfl
theorem main_res {s t : List Int} {rule : Dat} {j : Nat} (hp : pReset i (i + 1) s = .ok rule j r) (hb : idxD rule (.int 2) = some (.int b)) (h : Aft r k r') (hf : found.length ≤ 1000) : pMain (n + 1) found set bef i (38 :: s) = pMain n (found ++ [rule]) true b (j + k) r' := by
  show (pReset i (i + 1) s).bind _ = _
  rw [hp, ok_bind, sz_ok (by omega), hb]
  show (pSkip IT _ r).bind _ = _
  rw [h.sk]; rfl
theorem bad_no {st : Int} {row : Dat} (hr : idxD row (.int 1) = some (.int st)) (hb : bef = 0 ∨ st = bef) : badRows bef (row :: rows) = some false := by
  rcases hb with rfl | rfl
  · rfl
  · unfold badRows
    show (if (st != 0) = true then (match idxD row (.int 1) with | some (.int s) => some (s != st) | _ => none) else some false) = _
    rw [hr]
    show (if (st != 0) = true then some (st != st) else some false) = _
    rw [bne_self_eq_false]
    exact ite_self _
theorem main_rel {st c : Int} {s t2 : List Int} {row : Dat} {j2 j : Nat} (hc : c = 61 ∨ c = 60) (hp : pRel i i (c :: s) = .ok (row :: rows) j2 t2) (hs : pSkip IT j2 t2 = .ok () j r') (hr : idxD row (.int 1) = some (.int st)) (hb : bef = 0 ∨ st = bef) (hf : found.length + rows.length ≤ 1000) :
    pMain (n + 1) found true bef i (c :: s) = pMain n (found ++ (row :: rows)) true 0 j r' := by
  have e : pMain (n + 1) found true bef i (c :: s) = (pRel i i (c :: s)).bind fun rows j s => (match badRows bef rows with
      | some true => .err i
      | some false => if sz (found.length + rows.length) then (pSkip IT j s).bind fun _ j s => pMain n (found ++ rows) true 0 j s else .stuck
      | none => .stuck) := by rcases hc with h | h <;> (subst h; rfl)
  rw [e, hp, ok_bind, bad_no hr hb]
  show (if sz (found.length + (rows.length + 1)) then _ else _) = _
  rw [sz_ok (by omega), if_pos rfl, hs]; rfl
theorem cst_hd {st : Int} (hs : st4 st) : ∃ c s, cSt st = c :: s ∧ (c = 61 ∨ c = 60) := by
  rcases hs with h | h | h | h <;> subst h
  · exact ⟨_, _, rfl, .inl rfl⟩
  · exact ⟨_, _, rfl, .inr rfl⟩
  · exact ⟨_, _, rfl, .inr rfl⟩
  · exact ⟨_, _, rfl, .inr rfl⟩
theorem tl_of {t more : List Int} (h : Tl t more) (ha : Aft r k r') : TlF (t ++ r) more r' (t.length + k) := by
  cases h with
  | no => rw [List.nil_append, List.length_nil, Nat.zero_add]; exact tl_no ha
  | yes hg hg2 hw =>
    have := tl_yes hg hg2 hw ha
    simp only [List.append_assoc, List.cons_append, List.length_append, List.length_cons] at this ⊢
    rwa [show ∀ a b c : Nat, a + (b + c + 1) + k = a + 1 + b + c + k from fun _ _ _ => by omega]
theorem main_body (h : BodyF set bef w rf set' bef') (ha : Aft r k r') (hf : found.length ≤ 900) : pMain (n + 1) found set bef i (w ++ r) = pMain n (found ++ rf i) set' bef' (i + w.length + k) r' := by
  cases h with
  | opt ho => simpa only [List.cons_append, List.append_assoc, List.nil_append, List.length_cons, List.length_append, List.length_nil] using main_opt (n := n) ho ha (by omega)
  | res hg hw =>
    have := main_res (n := n) (set := set) (bef := bef) (found := found) (t := []) (reset1 (pl := i) (i := i + 1) hg hw ha.st) rfl ha (by omega)
    simp only [List.cons_append, List.append_assoc, List.length_cons, List.length_append]
    rw [this]
    congr 1; omega
  | anc hg =>
    have := main_res (n := n) (set := set) (bef := bef) (found := found) (t := []) (reset2 (pl := i) (i := i + 1) (r := r) hg) rfl ha (by omega)
    simp only [List.cons_append, List.append_assoc, List.length_cons, List.length_append]
    rw [this]
    congr 1; show _ = i + (_ + (14 + 1) + 1) + k; omega
  | resB hg hg2 hb hw =>
    have := main_res (n := n) (set := set) (bef := bef) (found := found) (t := []) (reset3 (pl := i) (i := i + 1) hg hg2 hb hw ha.st) rfl ha (by omega)
    simp only [List.cons_append, List.append_assoc, List.length_cons, List.length_append]
    rw [this]
    congr 1; show _ = i + (_ + (9 + _ + 1) + 1) + k; omega
  | ancB hg hg2 hb =>
    have := main_res (n := n) (set := set) (bef := bef) (found := found) (t := []) (reset4 (pl := i) (i := i + 1) (r := r) hg hg2 hb) rfl ha (by omega)
    simp only [List.cons_append, List.append_assoc, List.length_cons, List.length_append]
    rw [this]
    congr 1; show _ = i + (_ + (9 + (_ + (14 + 1)) + 1) + 1) + k; omega
  | star hs hb hg ho =>
    rename_i st g o
    obtain ⟨c, s, e, hc⟩ := cst_hd hs
    have := rel_star (pl := i) (i := i) hs ho hg ha.st ha.dash
    obtain ⟨c0, l, e0, hl⟩ : ∃ c0 l, o.2 = c0 :: l ∧ l.length ≤ 2 := by
      simp only [stars, List.mem_cons, List.not_mem_nil, or_false] at ho
      rcases ho with q | q | q | q <;> subst q
      · exact ⟨_, _, rfl, by decide⟩
      · exact ⟨_, _, rfl, by decide⟩
      · exact ⟨_, _, rfl, by decide⟩
      · exact ⟨_, _, rfl, by decide⟩
    rw [e0] at this ⊢
    rw [e] at this ⊢
    have := main_rel (n := n) (bef := bef) (found := found) (st := st) hc this (ha.sk _) rfl hb (by rw [List.length_map]; omega)
    simp only [List.cons_append, List.append_assoc, List.length_cons, List.length_append] at this ⊢
    refine this.trans ?_
    show _ = pMain n _ true 0 _ r'
    congr 1; omega
  | rel hs hb hh hg hw ht =>
    rename_i st h g w s t ctx more
    obtain ⟨c, s', e, hc⟩ := cst_hd hs
    have ht := tl_of ht ha
    cases hh with
    | no =>
      obtain ⟨j2, t2, h1, h2⟩ := rel_1 (pl := i) (i := i) hs hg hw ht
      rw [e] at h1 h2 ⊢
      have := main_rel (n := n) (bef := bef) (found := found) (st := st) hc h1 h2 rfl hb (by show _ + 0 ≤ _; omega)
      simp only [List.cons_append, List.append_assoc, List.length_cons, List.length_append, List.nil_append, List.length_nil] at this ⊢
      refine this.trans ?_
      congr 1; omega
    | yes hg1 hg3 hw1 =>
      obtain ⟨j2, t2, h1, h2⟩ := rel_2 (pl := i) (i := i) hs hg1 hw1 hg3 hg hw ht
      rw [e] at h1 h2 ⊢
      have := main_rel (n := n) (bef := bef) (found := found) (st := st) hc h1 h2 rfl hb (by show _ + 0 ≤ _; omega)
      simp only [List.cons_append, List.append_assoc, List.length_cons, List.length_append, List.nil_append, List.length_nil] at this ⊢
      refine this.trans ?_
      congr 1; omega
end
end Mine

namespace Mine
open PySem PySem.W PySem.Calls PyProof.Rows

/-! what is written by rules_octets, and that it reads as the same -/
noncomputable def tab : List Int := [97, 98, 99, 122, 48, 233, 945, 19968, 128512, 120, 121, 38, 60, 32, 39]
/-- how a code is written -/
noncomputable def escc (c : Int) : List Int := if c = 38 then [92, 85, 48, 48, 48, 48, 48, 48, 50, 54] else if c = 60 then [92, 85, 48, 48, 48, 48, 48, 48, 51, 67] else if c = 32 then [92, 85, 48, 48, 48, 48, 48, 48, 50, 48] else if c = 39 then [92, 85, 48, 48, 48, 48, 48, 48, 50, 55] else [c]
noncomputable def escs (s : List Int) : List Int := s.flatMap escc
structure CO (s : List Int) : Prop where
  mem : ∀ c ∈ s, c ∈ tab
  ne : s ≠ []
  le : s.length ≤ 4
theorem tab_cases {c : Int} (h : c ∈ tab) : c ∈ letters' ∨ c = 38 ∨ c = 60 ∨ c = 32 ∨ c = 39 := (by decide +kernel : ∀ c ∈ tab, c ∈ letters' ∨ c = 38 ∨ c = 60 ∨ c = 32 ∨ c = 39) c h
theorem escc_let {c : Int} (h : c ∈ letters') : escc c = [c] := (by decide +kernel : ∀ c ∈ letters', escc c = [c]) c h
section
variable {s acc r : List Int} {n i : Nat}
theorem esc_one {c : Int} (h : c ∈ tab) (ha : acc.length ≤ 1000) : pStr (n + 1) acc i (escc c ++ r) = pStr n (acc ++ [c]) (i + (escc c).length) r := by
  rcases tab_cases h with h | h | h | h | h
  · rw [escc_let h]; exact str_letter h ha
  all_goals (subst h; exact str_esc (by kernel_rfl) ha)
theorem escs_read : ∀ {s acc : List Int} {n i : Nat}, (∀ c ∈ s, c ∈ tab) → acc.length + s.length ≤ 1000 → stp r = true → pStr (n + s.length + 1) acc i (escs s ++ r) = .ok (acc ++ s) (i + (escs s).length) r
  | [], acc, n, i, _, _, hr => by rw [List.append_nil]; exact str_stop hr
  | c :: s, acc, n, i, h, hl, hr => by
    rw [List.length_cons] at hl
    have e := escs_read (s := s) (acc := acc ++ [c]) (n := n) (i := i + (escc c).length) (fun d hd => h d (.tail _ hd)) (by rw [List.length_append, List.length_singleton]; omega) hr
    have e1 : escs (c :: s) = escc c ++ escs s := rfl
    rw [e1, List.append_assoc, List.length_cons, ← Nat.add_assoc, esc_one (h c (.head _)) (by omega), e, List.append_assoc, List.length_append, Nat.add_assoc]; rfl
theorem sw_esc (h : CO s) : SW (escs s) s := by
  refine ⟨fun i r hr => ?_, fun r => ?_⟩
  · have := h.le
    obtain ⟨k, hk⟩ : ∃ k, IT = k + s.length + 1 := ⟨4095 - s.length, by show 4096 = _; omega⟩
    rw [hk]
    exact escs_read h.mem (by show 0 + _ ≤ _; omega) hr
  · cases hs : s with
    | nil => exact absurd hs h.ne
    | cons c s' =>
      have e1 : escs (c :: s') ++ r = escc c ++ (escs s' ++ r) := by show (escc c ++ escs s') ++ r = _; rw [List.append_assoc]
      rw [e1]
      have hl := h.le
      rw [hs] at hl
      rcases tab_cases (h.mem c (by rw [hs]; exact .head _)) with q | q | q | q | q
      · rw [escc_let q]
        simp only [letters', List.mem_cons, List.not_mem_nil, or_false] at q
        rcases q with q | q | q | q | q | q | q | q | q | q | q <;> (subst q; exact ⟨rfl, rfl, rfl, rfl, rfl, hl⟩)
      all_goals (subst q; exact ⟨rfl, rfl, rfl, rfl, rfl, hl⟩)
end

/-- a row: what is written, and the rule but for its place -/
noncomputable abbrev Row := List Int × List Dat
noncomputable def rl (r : Row) (pl : Int) : Dat := .tuple (r.2 ++ [.int pl])
noncomputable abbrev tup (l : List Int) : Dat := .tuple (l.map Dat.int)
noncomputable def bpre (b : Int) : List Int := if b = 0 then [32] else 91 :: (cBf b ++ [32])
noncomputable def hdw (ctx : List Int) : List Int := if ctx = [] then [] else 32 :: (escs ctx ++ [32, 124])
noncomputable def tlw (more : List Int) : List Int := if more = [] then [] else 32 :: 47 :: 32 :: escs more
noncomputable def rowRel (st : Int) (ctx own more : List Int) : Row := (cSt st ++ (hdw ctx ++ (32 :: (escs own ++ tlw more))), [.str "relation", .int st, tup own, tup ctx, tup more])
noncomputable def rowRes (b : Int) (s : List Int) : Row := (38 :: (bpre b ++ escs s), [.str "reset", tup s, .int b])
noncomputable def rowAnc (b : Int) : Row := (38 :: (bpre b ++ (91 :: cFR)), [.str "anchor", .str "first regular", .int b])
noncomputable def rowOpt (o : List Int × List Dat) : Row := (91 :: (o.1 ++ [93]), [.str "option", .tuple o.2])
noncomputable def CO0 (s : List Int) : Prop := s = [] ∨ CO s
inductive RowF : Bool → Int → Row → Bool → Int → Prop
  | opt {set : Bool} {bef : Int} {o : List Int × List Dat} (h : o ∈ opts) : RowF set bef (rowOpt o) set bef
  | res {set : Bool} {bef b : Int} {s : List Int} (hb : b = 0 ∨ b3 b) (hs : CO s) : RowF set bef (rowRes b s) true b
  | anc {set : Bool} {bef b : Int} (hb : b = 0 ∨ b3 b) : RowF set bef (rowAnc b) true b
  | rel {bef st : Int} {ctx own more : List Int} (hs : st4 st) (hb : bef = 0 ∨ st = bef) (hc : CO0 ctx) (ho : CO own) (hm : CO0 more) : RowF true bef (rowRel st ctx own more) true 0
inductive RStep : Bool → Int → List Row → Bool → Int → Prop
  | nil {set : Bool} {bef : Int} : RStep set bef [] set bef
  | cons {set s1 s2 : Bool} {bef b1 b2 : Int} {r : Row} {rs : List Row} (h : RowF set bef r s1 b1) (t : RStep s1 b1 rs s2 b2) : RStep set bef (r :: rs) s2 b2
theorem RStep.one {set s1 : Bool} {bef b1 : Int} {r : Row} (h : RowF set bef r s1 b1) : RStep set bef [r] s1 b1 := .cons h .nil
theorem RStep.append {set s1 s2 : Bool} {bef b1 b2 : Int} {rs ts : List Row} (h : RStep set bef rs s1 b1) (t : RStep s1 b1 ts s2 b2) : RStep set bef (rs ++ ts) s2 b2 := by
  induction h with
  | nil => exact t
  | cons h _ ih => exact .cons h (ih t)
theorem gap32 : ([32] : List Int) ∈ gaps := .tail _ (.head _)
theorem hdw_hd {ctx : List Int} (h : CO0 ctx) : Hd (hdw ctx) ctx := by
  rcases h with rfl | h
  · exact .no
  · unfold hdw
    rw [if_neg h.ne]
    exact .yes (g := [32]) (g2 := [32]) gap32 gap32 (sw_esc h)
theorem tlw_tl {more : List Int} (h : CO0 more) : Tl (tlw more) more := by
  rcases h with rfl | h
  · exact .no
  · unfold tlw
    rw [if_neg h.ne]
    exact .yes (g := [32]) (g2 := [32]) gap32 gap32 (sw_esc h)
theorem RowF.body {set s1 : Bool} {bef b1 : Int} {r : Row} (h : RowF set bef r s1 b1) : BodyF set bef r.1 (fun pl => [rl r pl]) s1 b1 := by
  cases h with
  | opt h => exact .opt h
  | res hb hs =>
    rcases hb with rfl | hb
    · exact .res (g := [32]) gap32 (sw_esc hs)
    · have e : ∀ b, b3 b → bpre b = [] ++ (91 :: (cBf b ++ [32])) := fun b h => by unfold bpre; rcases h with h | h | h <;> (subst h; rfl)
      have := BodyF.resB (set := set) (bef := bef) (g := []) (g2 := [32]) nil_gap gap32 hb (sw_esc hs)
      unfold rowRes
      rw [e _ hb]
      simp only [List.nil_append, List.cons_append, List.append_assoc] at this ⊢
      exact this
  | anc hb =>
    rcases hb with rfl | hb
    · exact .anc (g := [32]) gap32
    · have e : ∀ b, b3 b → bpre b = [] ++ (91 :: (cBf b ++ [32])) := fun b h => by unfold bpre; rcases h with h | h | h <;> (subst h; rfl)
      have := BodyF.ancB (set := set) (bef := bef) (g := []) (g2 := [32]) nil_gap gap32 hb
      unfold rowAnc
      rw [e _ hb]
      simp only [List.nil_append, List.cons_append, List.append_assoc] at this ⊢
      exact this
  | rel hs hb hc ho hm => exact .rel (g := [32]) hs hb (hdw_hd hc) gap32 (sw_esc ho) (tlw_tl hm)
/-- the rows, joined -/
noncomputable def wj : List Row → List Int
  | [] => []
  | [r] => r.1
  | r :: rs => r.1 ++ (10 :: wj rs)

/-! what a turn begins with -/
noncomputable def pres : List (List Int) := [[], [32], [10], [35, 120, 38, 39, 60, 91, 10], [35, 60, 13]]
noncomputable def BH (w : List Int) : Prop := ∃ c t, w = c :: t ∧ (c = 38 ∨ c = 91 ∨ c = 60 ∨ c = 61)
section
variable {r r' w : List Int} {i k n : Nat} {set set' : Bool} {bef bef' b : Int} {found rows : List Dat} {rf : Int → List Dat}
theorem BodyF.bh (h : BodyF set bef w rf set' bef') : BH w := by
  cases h with
  | opt => exact ⟨_, _, rfl, .inr (.inl rfl)⟩
  | star hs => obtain ⟨c, s, e, h⟩ := cst_hd hs; rw [e]; exact ⟨_, _, rfl, by omega⟩
  | rel hs => obtain ⟨c, s, e, h⟩ := cst_hd hs; rw [e]; exact ⟨_, _, rfl, by omega⟩
  | _ => exact ⟨_, _, rfl, .inl rfl⟩
theorem pre_aft {pre : List Int} (hp : pre ∈ pres) (hb : BH w) : Aft (pre ++ (w ++ r)) pre.length (w ++ r) := by
  obtain ⟨c, t, rfl, hc⟩ := hb
  have hn : nb (c :: t ++ r) = true ∧ stp (c :: t ++ r) = true ∧ hd? (c :: t ++ r) 45 = false ∧ hd? (c :: t ++ r) 124 = false ∧ hd? (c :: t ++ r) 47 = false := by rcases hc with h | h | h | h <;> (subst h; exact ⟨rfl, rfl, rfl, rfl, rfl⟩)
  generalize c :: t ++ r = x at hn
  obtain ⟨n1, n2, n3, n4, n5⟩ := hn
  have sk' : ∀ j, pSkip IT j x = .ok () j x := fun j => skip_stop (n := 4095) n1
  simp only [pres, List.mem_cons, List.not_mem_nil, or_false] at hp
  rcases hp with q | q | q | q | q <;> subst q
  · exact ⟨n2, n3, fun j => sk' j, sk', n4, n5⟩
  · exact ⟨rfl, rfl, fun j => skip_gap gap32 n1, sk', n4, n5⟩
  · exact ⟨rfl, rfl, fun j => skip_gap (g := [10]) (by decide) n1, sk', n4, n5⟩
  · exact ⟨rfl, rfl, fun j => (show _ = pSkip 4094 (j + 7) x by kernel_rfl).trans (skip_stop (n := 4093) n1), sk', n4, n5⟩
  · exact ⟨rfl, rfl, fun j => (show _ = pSkip 4094 (j + 3) x by kernel_rfl).trans (skip_stop (n := 4093) n1), sk', n4, n5⟩
theorem aft_nil : Aft [] 0 [] := ⟨rfl, rfl, fun _ => rfl, fun _ => rfl, rfl, rfl⟩
theorem wj_bh {rs : List Row} {t : Row} (h : RStep set bef (t :: rs) set' bef') : BH (wj (t :: rs)) := by
  cases h with
  | cons h _ =>
    obtain ⟨c, x, e, hc⟩ := h.body.bh
    cases rs with
    | nil => exact ⟨c, x, e, hc⟩
    | cons => exact ⟨c, x ++ _, by show t.1 ++ _ = _; rw [e]; rfl, hc⟩
noncomputable def dropP : Dat → Dat
  | .tuple ds => .tuple ds.dropLast
  | d => d
theorem drop_rl {r : Row} {pl : Int} : dropP (rl r pl) = .tuple r.2 := by
  show Dat.tuple (r.2 ++ [Dat.int pl]).dropLast = _
  rw [List.dropLast_concat]
/-- rules of these rows, at some places -/
inductive Du : List Dat → List Row → Prop
  | nil : Du [] []
  | cons {r : Row} {pl : Int} {ds : List Dat} {rs : List Row} (t : Du ds rs) : Du (rl r pl :: ds) (r :: rs)
theorem Du.append {ds es : List Dat} {rs ts : List Row} (h : Du ds rs) (t : Du es ts) : Du (ds ++ es) (rs ++ ts) := by
  induction h with
  | nil => exact t
  | cons _ ih => exact .cons ih
theorem Du.of {rs : List Row} {pl : Int} : Du (rs.map (rl · pl)) rs := by
  induction rs with
  | nil => exact .nil
  | cons r rs ih => exact .cons ih
theorem Du.len {ds : List Dat} {rs : List Row} (h : Du ds rs) : ds.length = rs.length := by
  induction h with
  | nil => rfl
  | cons _ ih => rw [List.length_cons, List.length_cons, ih]
theorem Du.drop {ds : List Dat} {rs : List Row} (h : Du ds rs) : ds.map dropP = rs.map fun r => .tuple r.2 := by
  induction h with
  | nil => rfl
  | cons _ ih => rw [List.map_cons, List.map_cons, ih, drop_rl]
theorem reread : ∀ {rs : List Row} {set : Bool} {bef : Int} {found : List Dat} {i : Nat}, RStep set bef rs set' bef' → found.length + rs.length ≤ 900 → ∃ ds j, pMain (n + 1 + rs.length) found set bef i (wj rs) = .ok (found ++ ds) j [] ∧ Du ds rs
  | [], set, bef, found, i, _, _ => ⟨[], i, by rw [List.append_nil]; rfl, .nil⟩
  | [t], set, bef, found, i, h, hl => by
    cases h with
    | cons h q =>
      rw [List.length_cons] at hl
      have := main_body (n := n + 1) (i := i) (found := found) h.body aft_nil (by omega)
      rw [List.append_nil] at this
      exact ⟨[rl t i], _, this, .cons .nil⟩
  | t :: t2 :: rs, set, bef, found, i, h, hl => by
    cases h with
    | cons h q =>
      rw [List.length_cons] at hl
      have ha := pre_aft (r := []) (pre := [10]) (by decide) (wj_bh q)
      rw [List.append_nil] at ha
      have := main_body (n := n + 1 + (t2 :: rs).length) (i := i) (found := found) h.body ha (by omega)
      obtain ⟨ds, j, e, d⟩ := reread (found := found ++ [rl t i]) (i := i + t.1.length + [(10 : Int)].length) q (by rw [List.length_append, List.length_singleton]; omega)
      exact ⟨rl t i :: ds, j, by rw [List.append_assoc] at e; exact this.trans e, .cons d⟩
end
end Mine

namespace Mine
open PySem PySem.W PySem.Calls PyProof.Rows

/-! rules_octets writes the rows -/
noncomputable def sOf (w : List Int) : Str := ⟨(w.map Int.toNat).toArray⟩
theorem sOf_app (a b : List Int) : sOf a ++ sOf b = sOf (a ++ b) := Str.ext' (by show (sOf a).cps ++ (sOf b).cps = _; simp [sOf])
theorem sOf_len (w : List Int) : (sOf w).length = w.length := by simp [sOf, Str.length]
theorem addS {a b : List Int} (h : a.length + b.length ≤ 100000) : binD .Add (.str (sOf a)) (.str (sOf b)) = some (.str (sOf (a ++ b))) := by
  show (if sz ((sOf a).length + (sOf b).length) then some (Dat.str (sOf a ++ sOf b)) else none) = _
  rw [sOf_len, sOf_len, if_pos (sz_ok (by omega)), sOf_app]
section
variable {O : Orc} {n m : Nat} {x y : IE} {σ σ₁ σ₂ : ASt} {a b c : List Int}
theorem ev_adds (h1 : evE O n x σ = .ok (.str (sOf a)) σ) (h2 : evE O n y σ = .ok (.str (sOf b)) σ) (h : a.length + b.length ≤ 100000) : evE O (n + 1) (.bin .Add x y) σ = .ok (.str (sOf (a ++ b))) σ := ev_bin h1 h2 (addS h)
noncomputable def e28 : IE := .bin .Add (.bin .Add (.bin .Add (.var 1) (.const (.str "\\U"))) (.bin .Mult (.const (.str "0")) (.bin .Sub (.const (.int 8)) (.blt .len (.callP 6 [.var 2]))))) (.callP 5 [.callP 6 [.var 2]])
noncomputable def b28 : List IS := [.ite (.conn .Or [.callP 14 [.var 2], .callP 13 [.var 2]]) [.asg 1 e28] [.asg 1 (.bin .Add (.var 1) (.callP 4 [.list [.var 2]]))]]
theorem e28_ok {v : Option Dat} {c : Int} {d : List Int} (ha : a.length ≤ 90000) (hd : d.length = 4) (h2 : evE (orc 28) 38 (.bin .Mult (.const (.str "0")) (.bin .Sub (.const (.int 8)) (.blt .len (.callP 6 [.var 2])))) ⟨[v, some (.str (sOf a)), some (.int c)], none, none⟩ = .ok (.str (sOf [48, 48, 48, 48])) ⟨[v, some (.str (sOf a)), some (.int c)], none, none⟩)
    (h3 : evE (orc 28) 39 (.callP 5 [.callP 6 [.var 2]]) ⟨[v, some (.str (sOf a)), some (.int c)], none, none⟩ = .ok (.str (sOf d)) ⟨[v, some (.str (sOf a)), some (.int c)], none, none⟩) : evE (orc 28) 40 e28 ⟨[v, some (.str (sOf a)), some (.int c)], none, none⟩ = .ok (.str (sOf (a ++ ([92, 85] ++ ([48, 48, 48, 48] ++ d))))) ⟨[v, some (.str (sOf a)), some (.int c)], none, none⟩ := by
  have := ev_adds (ev_adds (ev_adds (O := orc 28) (n := 37) (x := .var 1) (y := .const (.str "\\U")) (a := a) (b := [92, 85]) (σ := ⟨[v, some (.str (sOf a)), some (.int c)], none, none⟩) rfl (by kernel_rfl) (by show _ + 2 ≤ _; omega)) h2 (by rw [List.length_append]; show _ + 2 + 4 ≤ _; omega))
      h3 (by rw [List.length_append, List.length_append, hd]; show _ + 2 + 4 + 4 ≤ _; omega)
  rwa [List.append_assoc, List.append_assoc] at this
theorem rs_step {v : Option Dat} {c : Int} (hc : c ∈ tab) (ha : a.length ≤ 90000) : evS (orc 28) IT 30 b28 ⟨[v, some (.str (sOf a)), some (.int c)], none, none⟩ = .ok .next ⟨[v, some (.str (sOf (a ++ escc c))), some (.int c)], none, none⟩ := by
  have h0 := ev_or (O := orc 28) (n := 39) (a := .callP 14 [.var 2]) (b := .callP 13 [.var 2]) (σ := ⟨[v, some (.str (sOf a)), some (.int c)], none, none⟩) (ev_callP1 (x := .int c) rfl (p_sign (by decide))) (ev_callP1 (x := .int c) rfl (p_blank (by decide)))
  have go : ∀ {x : IE} {n : Nat} {w : List Int}, evE (orc 28) 40 x ⟨[v, some (.str (sOf a)), some (.int c)], none, none⟩ = .ok (.str (sOf w)) ⟨[v, some (.str (sOf a)), some (.int c)], none, none⟩ → evS (orc 28) IT (n + 1) [.asg 1 x] ⟨[v, some (.str (sOf a)), some (.int c)], none, none⟩ = .ok .next ⟨[v, some (.str (sOf w)), some (.int c)], none, none⟩ := fun h => one_of (by
    show (evE (orc 28) 40 _ _).bind _ = _
    rw [h]; rfl)
  rcases tab_cases hc with h | h | h | h | h
  · rw [escc_let h]
    have h1 : (isSign c || isBlank c) = false ∧ strOf [c] = some (sOf [c]) := by
      simp only [letters', List.mem_cons, List.not_mem_nil, or_false] at h
      rcases h with h | h | h | h | h | h | h | h | h | h | h <;> (subst h; exact ⟨rfl, by kernel_rfl⟩)
    rw [h1.1] at h0
    exact one_of (st_f h0 (go (ev_adds rfl (ev_callP1 (x := lst [c]) (ev_list1 rfl) (p_str (by decide) h1.2)) (by show _ + 1 ≤ _; omega))))
  · subst h; exact one_of (st_t h0 (go (e28_ok (d := [48, 48, 50, 54]) ha rfl (by kernel_rfl) (by kernel_rfl))))
  · subst h; exact one_of (st_t h0 (go (e28_ok (d := [48, 48, 51, 67]) ha rfl (by kernel_rfl) (by kernel_rfl))))
  · subst h; exact one_of (st_t h0 (go (e28_ok (d := [48, 48, 50, 48]) ha rfl (by kernel_rfl) (by kernel_rfl))))
  · subst h; exact one_of (st_t h0 (go (e28_ok (d := [48, 48, 50, 55]) ha rfl (by kernel_rfl) (by kernel_rfl))))
theorem rs_loop {v : Option Dat} : ∀ {s : List Int} {a : List Int} {w : Option Dat}, (∀ c ∈ s, c ∈ tab) → a.length + 10 * s.length ≤ 90000 → ∃ w', loopF 2 (evS (orc 28) IT 30 b28) (s.map Dat.int) ⟨[v, some (.str (sOf a)), w], none, none⟩ = .ok .next ⟨[v, some (.str (sOf (a ++ escs s))), w'], none, none⟩
  | [], a, w, _, _ => ⟨w, by rw [show escs [] = [] from rfl, List.append_nil]; rfl⟩
  | c :: s, a, w, h, hl => by
    rw [List.length_cons] at hl
    have hc := h c (.head _)
    have h10 : (escc c).length ≤ 10 := by
      rcases tab_cases hc with h | h | h | h | h
      · rw [escc_let h]; exact Nat.le_of_ble_eq_true rfl
      all_goals (subst h; exact Nat.le_of_ble_eq_true rfl)
    obtain ⟨w', e⟩ := rs_loop (v := v) (s := s) (a := a ++ escc c) (w := some (.int c)) (fun d hd => h d (.tail _ hd)) (by rw [List.length_append]; omega)
    exact ⟨w', (loopF_step (rs_step hc (by omega))).trans (e.trans (by rw [List.append_assoc]; rfl))⟩
theorem p_rs {s : List Int} (hm : 28 < m) (hs : ∀ c ∈ s, c ∈ tab) (hl : s.length ≤ 4) : (orc m).p 28 [tup s] = .ok (.str (sOf (escs s))) := by
  rw [orc_p (by decide) hm]
  show outP (evS (orc 28) IT 31 f28.body ⟨[some (tup s), none, none], none, none⟩) = _
  have e1 : evS (orc 28) IT 31 f28.body ⟨[some (tup s), none, none], none, none⟩ = evS (orc 28) IT 31 [.forL 2 (.var 0) b28, .ret (.var 1)] ⟨[some (tup s), some (.str (sOf [])), none], none, none⟩ := step_to rfl
  obtain ⟨w, e2⟩ := rs_loop (v := some (tup s)) (w := none) (s := s) (a := []) hs (by show 0 + _ ≤ _; omega)
  rw [e1, step_to (stForL (d := tup s) (ds := s.map Dat.int) rfl rfl (sz_ok (by rw [List.length_map]; omega)) e2)]
  exact retP (n := 30) (by exact rfl)
theorem p_rs0 {s : List Int} (hm : 28 < m) (h : CO0 s) : (orc m).p 28 [tup s] = .ok (.str (sOf (escs s))) := by
  rcases h with rfl | h
  · exact p_rs hm (fun _ h => nomatch h) (Nat.zero_le _)
  · exact p_rs hm h.mem h.le
theorem escs_len : ∀ {s : List Int}, (∀ c ∈ s, c ∈ tab) → (escs s).length ≤ 10 * s.length
  | [], _ => Nat.le_refl _
  | c :: s, h => by
    have h10 : (escc c).length ≤ 10 := by
      rcases tab_cases (h c (.head _)) with h | h | h | h | h
      · rw [escc_let h]; exact Nat.le_of_ble_eq_true rfl
      all_goals (subst h; exact Nat.le_of_ble_eq_true rfl)
    have := escs_len fun d hd => h d (.tail _ hd)
    show (escc c ++ escs s).length ≤ _
    rw [List.length_append, List.length_cons]; omega
theorem CO0.len {s : List Int} (h : CO0 s) : (escs s).length ≤ 40 := by
  rcases h with rfl | h
  · exact Nat.zero_le _
  · have := escs_len h.mem
    have := h.le
    omega
end
end Mine

namespace Mine
open PySem PySem.W PySem.Calls PyProof.Rows

noncomputable abbrev i2 (k : Int) : IE := .idx (.var 2) (.const (.int k))
noncomputable def eOpt : IE := .bin .Add (.bin .Add (.const (.str "[")) (.join " " (i2 1))) (.const (.str "]"))
noncomputable def eSt : IE := .ite (.cmp (i2 1) [.Eq] [.const (.int 0)]) (.const (.str "=")) (.bin .Mult (.const (.str "<")) (i2 1))
noncomputable def eRow : IE := .bin .Add (.bin .Add (.bin .Add (.var 3) (.const (.str " "))) (.ite (.cmp (i2 3) [.NotEq] [.tup []]) (.bin .Add (.callP 28 [i2 3]) (.const (.str " | "))) (.const (.str "")))) (.callP 28 [i2 2])
noncomputable def eMore : IE := .bin .Add (.var 3) (.ite (.cmp (i2 4) [.NotEq] [.tup []]) (.bin .Add (.const (.str " / ")) (.callP 28 [i2 4])) (.const (.str "")))
noncomputable def eGoal : IE := .ite (.cmp (i2 0) [.Eq] [.const (.str "reset")]) (.callP 28 [i2 1]) (.bin .Add (.bin .Add (.const (.str "[")) (i2 1)) (.const (.str "]")))
noncomputable def eBef : IE := .ite (.cmp (i2 2) [.NotEq] [.const (.int 0)]) (.bin .Add (.bin .Add (.const (.str "[before ")) (.blt .str (i2 2))) (.const (.str "] "))) (.const (.str " "))
noncomputable def eRes : IE := .bin .Add (.bin .Add (.const (.str "&")) eBef) (.var 4)
noncomputable def b29 : List IS := [.ite (.cmp (i2 0) [.Eq] [.const (.str "option")]) [.app 1 eOpt] [.ite (.cmp (i2 0) [.Eq] [.const (.str "relation")]) [.asg 3 eSt, .asg 3 eRow, .app 1 eMore] [.asg 4 eGoal, .app 1 eRes]]]
noncomputable abbrev ws (v : Option Dat) (r : Row) (pl : Int) (v3 v4 : Option Dat) (acc : List Dat) : ASt := ⟨[v, none, some (rl r pl), v3, v4], some (1, acc), none⟩
section
variable {v v3 v4 : Option Dat} {r : Row} {pl : Int} {acc : List Dat} {s : List Int} {set set' : Bool} {bef bef' : Int}
theorem neTup {w : List Int} : cmpD .NotEq (tup w) (.tuple []) = some (!w.isEmpty) := by
  have e1 : kqdOk 8 (tup w) = (w.map Dat.int).all (kqdOk 7) := rfl
  have e0 : cmpD .NotEq (tup w) (.tuple []) = if kqdOk 8 (tup w) && kqdOk 8 (.tuple []) then some (!PyData.eqv (kqdP (tup w)) (kqdP (.tuple []))) else none := rfl
  rw [e0, e1, kqd_ints]
  cases w <;> rfl
theorem wr_opt {o : List Int × List Dat} (ho : o ∈ opts) (ha : acc.length ≤ 1000) : evS (orc 29) IT 30 b29 (ws v (rowOpt o) pl v3 v4 acc) = .ok .next (ws v (rowOpt o) pl v3 v4 (acc ++ [.str (sOf (rowOpt o).1)])) := by
  refine one_of (st_t (ev_cmp (x := .str "option") (y := .str "option") (p := true) rfl rfl (by kernel_rfl)) (one_of (st_appE ?_ (sz_ok (by omega)))))
  simp only [opts, List.mem_cons, List.not_mem_nil, or_false] at ho
  rcases ho with q | q | q <;> (subst q; kernel_rfl)
theorem wr_goal {b : Int} {k : Str} {d : Dat} {w : List Int} (hk : cmpD .Eq (.str k) (.str "option") = some false ∧ cmpD .Eq (.str k) (.str "relation") = some false) (hb : b = 0 ∨ b3 b) (hw : w.length ≤ 50)
    (hg : evE (orc 29) 40 eGoal (ws v (38 :: (bpre b ++ w), [.str k, d, .int b]) pl v3 v4 acc) = .ok (.str (sOf w)) (ws v (38 :: (bpre b ++ w), [.str k, d, .int b]) pl v3 v4 acc)) (ha : acc.length ≤ 1000) :
    evS (orc 29) IT 30 b29 (ws v (38 :: (bpre b ++ w), [.str k, d, .int b]) pl v3 v4 acc) = .ok .next (ws v (38 :: (bpre b ++ w), [.str k, d, .int b]) pl v3 (some (.str (sOf w))) (acc ++ [.str (sOf (38 :: (bpre b ++ w)))])) := by
  refine one_of (st_f (ev_cmp (x := .str k) (y := .str "option") (p := false) rfl rfl hk.1) (one_of (st_f (ev_cmp (x := .str k) (y := .str "relation") (p := false) rfl rfl hk.2) ((step_to (n := 27) (σ' := ws v (38 :: (bpre b ++ w), [.str k, d, .int b]) pl v3 (some (.str (sOf w))) acc) ?_).trans (one_of (st_appE ?_ (sz_ok (by omega))))))))
  · show (evE (orc 29) 40 eGoal _).bind _ = _
    rw [hg]; rfl
  · have hl : (bpre b).length ≤ 20 := by rcases hb with h | h | h | h <;> (subst h; decide)
    have h2 : evE (orc 29) 38 eBef (ws v (38 :: (bpre b ++ w), [.str k, d, .int b]) pl v3 (some (.str (sOf w))) acc) = .ok (.str (sOf (bpre b))) (ws v (38 :: (bpre b ++ w), [.str k, d, .int b]) pl v3 (some (.str (sOf w))) acc) := by
      rcases hb with h | h | h | h <;> (subst h; kernel_rfl)
    exact ev_adds (ev_adds (a := [38]) (by kernel_rfl) h2 (by show 1 + _ ≤ _; omega)) rfl (by show ([38] ++ bpre b).length + _ ≤ _; rw [List.length_append]; show 1 + _ + _ ≤ _; omega)
theorem wr_rel {st : Int} {ctx own more : List Int} (hs : st4 st) (hc : CO0 ctx) (ho : CO own) (hm : CO0 more) (ha : acc.length ≤ 1000) : ∃ v3', evS (orc 29) IT 30 b29 (ws v (rowRel st ctx own more) pl v3 v4 acc) = .ok .next (ws v (rowRel st ctx own more) pl v3' v4 (acc ++ [.str (sOf (rowRel st ctx own more).1)])) := by
  generalize hr : rowRel st ctx own more = r
  have l1 := hc.len
  have l2 := CO0.len (.inr ho)
  have l3 := hm.len
  have l4 : (cSt st).length ≤ 3 := by rcases hs with h | h | h | h <;> (subst h; decide)
  have g : ∀ {v3 : Option Dat} {k : Int} {n : Nat} {d : Dat}, idxD (rl r pl) (.int k) = some d → evE (orc 29) (n + 2) (i2 k) (ws v r pl v3 v4 acc) = .ok d (ws v r pl v3 v4 acc) := fun h => ev_idx (x := rl r pl) rfl rfl h
  have r2 : ∀ {s : List Int} {k : Int} {n : Nat} {v3 : Option Dat}, CO0 s → idxD (rl r pl) (.int k) = some (tup s) → evE (orc 29) (n + 3) (.callP 28 [i2 k]) (ws v r pl v3 v4 acc) = .ok (.str (sOf (escs s))) (ws v r pl v3 v4 acc) := fun hs h => ev_callP1 (g h) (p_rs0 (by decide) hs)
  have x2 : idxD (rl r pl) (.int 2) = some (tup own) := by rw [← hr]; rfl
  have x3 : idxD (rl r pl) (.int 3) = some (tup ctx) := by rw [← hr]; rfl
  have x4 : idxD (rl r pl) (.int 4) = some (tup more) := by rw [← hr]; rfl
  have s1 : evE (orc 29) 40 eSt (ws v r pl v3 v4 acc) = .ok (.str (sOf (cSt st))) (ws v r pl v3 v4 acc) := by
    rw [← hr]
    rcases hs with h | h | h | h <;> (subst h; kernel_rfl)
  have s2 : evE (orc 29) 40 eRow (ws v r pl (some (.str (sOf (cSt st)))) v4 acc) = .ok (.str (sOf (cSt st ++ (hdw ctx ++ (32 :: escs own))))) (ws v r pl (some (.str (sOf (cSt st)))) v4 acc) := by
    have h1 : evE (orc 29) 38 (.ite (.cmp (i2 3) [.NotEq] [.tup []]) (.bin .Add (.callP 28 [i2 3]) (.const (.str " | "))) (.const (.str ""))) (ws v r pl (some (.str (sOf (cSt st)))) v4 acc) = .ok (.str (sOf (if ctx = [] then [] else escs ctx ++ [32, 124, 32]))) (ws v r pl (some (.str (sOf (cSt st)))) v4 acc) := by
      have h0 := ev_cmp (O := orc 29) (n := 36) (b := .tup []) (c := .NotEq) (y := .tuple []) (g (n := 34) (v3 := some (.str (sOf (cSt st)))) x3) rfl neTup
      cases ctx with
      | nil => exact ev_ite_f h0 (by kernel_rfl)
      | cons c l => exact ev_ite_t h0 (ev_adds (r2 hc x3) (b := [32, 124, 32]) (by kernel_rfl) (by show _ + 3 ≤ _; omega))
    have e : cSt st ++ (hdw ctx ++ (32 :: escs own)) = ((cSt st ++ [32]) ++ (if ctx = [] then [] else escs ctx ++ [32, 124, 32])) ++ escs own := by
      unfold hdw
      split <;> simp
    have hl : (if ctx = [] then [] else escs ctx ++ [32, 124, 32]).length ≤ 43 := by
      split
      · exact Nat.zero_le _
      · rw [List.length_append]; show _ + 3 ≤ _; omega
    rw [e]
    exact ev_adds (ev_adds (ev_adds (n := 37) (a := cSt st) (b := [32]) rfl (by kernel_rfl) (by show _ + 1 ≤ _; omega)) h1 (by rw [List.length_append]; show _ + 1 + _ ≤ _; omega)) (r2 (.inr ho) x2) (by rw [List.length_append, List.length_append]; show _ + 1 + _ + _ ≤ _; omega)
  have s3 : evE (orc 29) 40 eMore (ws v r pl (some (.str (sOf (cSt st ++ (hdw ctx ++ (32 :: escs own)))))) v4 acc) = .ok (.str (sOf r.1)) (ws v r pl (some (.str (sOf (cSt st ++ (hdw ctx ++ (32 :: escs own)))))) v4 acc) := by
    have h1 : evE (orc 29) 39 (.ite (.cmp (i2 4) [.NotEq] [.tup []]) (.bin .Add (.const (.str " / ")) (.callP 28 [i2 4])) (.const (.str ""))) (ws v r pl (some (.str (sOf (cSt st ++ (hdw ctx ++ (32 :: escs own)))))) v4 acc) = .ok (.str (sOf (tlw more))) (ws v r pl (some (.str (sOf (cSt st ++ (hdw ctx ++ (32 :: escs own)))))) v4 acc) := by
      have h0 := ev_cmp (O := orc 29) (n := 37) (b := .tup []) (c := .NotEq) (y := .tuple []) (g (n := 35) (v3 := some (.str (sOf (cSt st ++ (hdw ctx ++ (32 :: escs own)))))) x4) rfl neTup
      cases more with
      | nil => exact ev_ite_f h0 (by kernel_rfl)
      | cons c l => exact ev_ite_t h0 (ev_adds (a := [32, 47, 32]) (by kernel_rfl) (r2 hm x4) (Nat.le_trans (Nat.add_le_add_left l3 3) (by decide)))
    have e : r.1 = (cSt st ++ (hdw ctx ++ (32 :: escs own))) ++ tlw more := by
      rw [← hr]
      show cSt st ++ (hdw ctx ++ (32 :: (escs own ++ tlw more))) = _
      simp
    have hl1 : (hdw ctx).length ≤ 43 := by unfold hdw; split; exact Nat.zero_le _; rw [List.length_cons, List.length_append]; show _ + 2 + 1 ≤ _; omega
    have hl2 : (tlw more).length ≤ 43 := by unfold tlw; split; exact Nat.zero_le _; simp only [List.length_cons]; omega
    rw [e]
    exact ev_adds rfl h1 (by rw [List.length_append, List.length_append, List.length_cons]; omega)
  have asg : ∀ {x : IE} {n : Nat} {w : List Int} {v3 : Option Dat}, evE (orc 29) 40 x (ws v r pl v3 v4 acc) = .ok (.str (sOf w)) (ws v r pl v3 v4 acc) → stepS (orc 29) IT (evE (orc 29) 40) (evS (orc 29) IT n) (.asg 3 x) (ws v r pl v3 v4 acc) = .ok .next (ws v r pl (some (.str (sOf w))) v4 acc) := fun h => by
    show (evE (orc 29) 40 _ _).bind _ = _
    rw [h]; rfl
  have z0 : idxD (rl r pl) (.int 0) = some (.str "relation") := by rw [← hr]; rfl
  refine ⟨some (.str (sOf (cSt st ++ (hdw ctx ++ (32 :: escs own))))), ?_⟩
  exact one_of (st_f (ev_cmp (y := .str "option") (p := false) (g z0) rfl (by kernel_rfl)) (one_of (st_t (ev_cmp (y := .str "relation") (p := true) (g z0) rfl (by kernel_rfl)) ((step_to (n := 27) (asg s1)).trans ((step_to (n := 27) (asg s2)).trans (one_of (st_appE s3 (sz_ok (by omega)))))))))
theorem wr_row (h : RowF set bef r set' bef') (ha : acc.length ≤ 1000) : ∃ v3' v4', evS (orc 29) IT 30 b29 (ws v r pl v3 v4 acc) = .ok .next (ws v r pl v3' v4' (acc ++ [.str (sOf r.1)])) := by
  cases h with
  | opt ho => exact ⟨_, _, wr_opt ho ha⟩
  | rel hs hb hc ho hm =>
    obtain ⟨v3', e⟩ := wr_rel (v := v) (v3 := v3) (v4 := v4) (pl := pl) hs hc ho hm ha
    exact ⟨_, _, e⟩
  | res hb hs =>
    have := CO0.len (.inr hs)
    exact ⟨_, _, wr_goal (k := "reset") ⟨by kernel_rfl, by kernel_rfl⟩ hb (by omega) (ev_ite_t (ev_cmp (x := .str "reset") (y := .str "reset") (p := true) rfl rfl (by kernel_rfl)) (ev_callP1 (x := tup _) rfl (p_rs0 (by decide) (.inr hs)))) ha⟩
  | anc hb => exact ⟨_, _, wr_goal (k := "anchor") (d := .str "first regular") ⟨by kernel_rfl, by kernel_rfl⟩ hb (by decide) (ev_ite_f (ev_cmp (x := .str "anchor") (y := .str "reset") (p := false) rfl rfl (by kernel_rfl)) (by kernel_rfl)) ha⟩
end
end Mine

namespace Mine
open PySem PySem.W PySem.Calls PyProof.Rows

theorem okc_app {a b : List Int} : (a ++ b).all okc = (a.all okc && b.all okc) := List.all_append
theorem tab_okc {c : Int} (h : c ∈ tab) : (escc c).all okc = true ∧ okc c = true := by
  rcases tab_cases h with h | h | h | h | h
  · rw [escc_let h]
    simp only [letters', List.mem_cons, List.not_mem_nil, or_false] at h
    rcases h with h | h | h | h | h | h | h | h | h | h | h <;> (subst h; exact ⟨rfl, rfl⟩)
  all_goals (subst h; exact ⟨rfl, rfl⟩)
theorem escs_okc : ∀ {s : List Int}, (∀ c ∈ s, c ∈ tab) → (escs s).all okc = true
  | [], _ => rfl
  | c :: s, h => by
    show (escc c ++ escs s).all okc = true
    rw [okc_app, (tab_okc (h c (.head _))).1, escs_okc fun d hd => h d (.tail _ hd)]; rfl
theorem CO0.okc {s : List Int} (h : CO0 s) : (escs s).all okc = true := by
  rcases h with rfl | h
  · rfl
  · exact escs_okc h.mem
/-- what is known of a row -/
structure RowOk (r : Row) : Prop where
  okc : r.1.all okc = true
  len : r.1.length ≤ 200
  kqd : r.2.all (kqdOk 6) = true
theorem RowF.fine {set s1 : Bool} {bef b1 : Int} {r : Row} (h : RowF set bef r s1 b1) : RowOk r := by
  cases h with
  | opt h =>
    simp only [opts, List.mem_cons, List.not_mem_nil, or_false] at h
    rcases h with q | q | q <;> (subst q; exact ⟨by kernel_rfl, by decide, by kernel_rfl⟩)
  | res hb hs =>
    rename_i s
    have hl := CO0.len (.inr hs)
    have hk : (bpre b1).all okc = true ∧ (bpre b1).length ≤ 20 := by rcases hb with h | h | h | h <;> (subst h; exact ⟨rfl, by decide⟩)
    refine ⟨?_, ?_, ?_⟩
    · show (okc 38 && (bpre b1 ++ escs s).all okc) = true
      rw [okc_app, hk.1, CO0.okc (.inr hs)]; rfl
    · show (bpre b1 ++ escs s).length + 1 ≤ _
      rw [List.length_append]; omega
    · show (kqdOk 6 (.str "reset") && ((s.map Dat.int).all (kqdOk 5) && true)) = true
      rw [kqd_ints]; kernel_rfl
  | anc hb => rcases hb with h | h | h | h <;> (subst h; exact ⟨rfl, by decide, by kernel_rfl⟩)
  | rel hs hb hc ho hm =>
    rename_i st ctx own more
    have l1 := hc.len
    have l2 := CO0.len (.inr ho)
    have l3 := hm.len
    have hk : (cSt st).all okc = true ∧ (cSt st).length ≤ 3 := by rcases hs with h | h | h | h <;> (subst h; exact ⟨rfl, by decide⟩)
    have h1 : (hdw ctx).all okc = true ∧ (hdw ctx).length ≤ 43 := by
      unfold hdw
      split
      · exact ⟨rfl, Nat.zero_le _⟩
      · refine ⟨?_, by rw [List.length_cons, List.length_append]; exact Nat.le_trans (Nat.add_le_add_right (Nat.add_le_add_right l1 2) 1) (by decide)⟩
        show (okc 32 && (escs ctx ++ [32, 124]).all okc) = true
        rw [okc_app, hc.okc]; rfl
    have h3 : (tlw more).all okc = true ∧ (tlw more).length ≤ 43 := by
      unfold tlw
      split
      · exact ⟨rfl, Nat.zero_le _⟩
      · refine ⟨?_, Nat.le_trans (Nat.add_le_add_right l3 3) (by decide)⟩
        show (okc 32 && (okc 47 && (okc 32 && (escs more).all okc))) = true
        rw [hm.okc]; rfl
    refine ⟨?_, ?_, ?_⟩
    · show (cSt st ++ (hdw ctx ++ (32 :: (escs own ++ tlw more)))).all okc = true
      rw [okc_app, okc_app, List.all_cons, okc_app, hk.1, h1.1, h3.1, CO0.okc (.inr ho)]; rfl
    · show (cSt st ++ (hdw ctx ++ (32 :: (escs own ++ tlw more)))).length ≤ _
      rw [List.length_append, List.length_append, List.length_cons, List.length_append]; omega
    · show (kqdOk 6 (.str "relation") && (kqdOk 6 (.int st) && ((own.map Dat.int).all (kqdOk 5) && ((ctx.map Dat.int).all (kqdOk 5) && ((more.map Dat.int).all (kqdOk 5) && true))))) = true
      rw [kqd_ints, kqd_ints, kqd_ints]; kernel_rfl
noncomputable def Wrt (r : Row) : Prop := ∃ set bef s1 b1, RowF set bef r s1 b1
theorem RStep.wrt {set s1 : Bool} {bef b1 : Int} {rs : List Row} (h : RStep set bef rs s1 b1) : ∀ r ∈ rs, Wrt r := by
  induction h with
  | nil => exact fun _ h => nomatch h
  | cons h _ ih =>
    intro r hr
    rcases List.mem_cons.mp hr with rfl | hr
    · exact ⟨_, _, _, _, h⟩
    · exact ih r hr
theorem Wrt.fine {r : Row} (h : Wrt r) : RowOk r := let ⟨_, _, _, _, h⟩ := h; h.fine
theorem wj_ok : ∀ {rs : List Row}, (∀ r ∈ rs, Wrt r) → (wj rs).all okc = true ∧ (wj rs).length ≤ 201 * rs.length
  | [], _ => ⟨rfl, Nat.zero_le _⟩
  | [r], h => by
    have := (h r (.head _)).fine
    exact ⟨this.okc, Nat.le_trans this.len (show 200 ≤ 201 * 1 by decide)⟩
  | r :: r2 :: rs, h => by
    have a := (h r (.head _)).fine
    obtain ⟨b1, b2⟩ := wj_ok fun x hx => h x (.tail _ hx)
    refine ⟨?_, ?_⟩
    · show (r.1 ++ (10 :: wj (r2 :: rs))).all okc = true
      rw [okc_app, a.okc, List.all_cons, b1]; rfl
    · show (r.1 ++ (10 :: wj (r2 :: rs))).length ≤ _
      rw [List.length_append, List.length_cons, List.length_cons (a := r)]
      have := a.len
      omega
noncomputable abbrev rowS (rs : List Row) : List Dat := rs.map fun r => .str (sOf r.1)
section
variable {rs : List Row} {m : Nat} {ds : List Dat}
theorem strs_rows : ∀ {rs : List Row}, strs? (rowS rs) = some (rs.map fun r => sOf r.1)
  | [] => rfl
  | r :: rs => by
    show (strs? (rowS rs)).map _ = _
    rw [strs_rows]; rfl
theorem join_rows : ∀ {rs : List Row}, Str.join "\n" (rs.map fun r => sOf r.1) = sOf (wj rs)
  | [] => rfl
  | [r] => rfl
  | r :: r2 :: rs => by
    show sOf r.1 ++ "\n" ++ Str.join "\n" ((r2 :: rs).map fun r => sOf r.1) = sOf (r.1 ++ (10 :: wj (r2 :: rs)))
    rw [join_rows, show (Str.ofString "\n") = sOf [10] by kernel_rfl, sOf_app, sOf_app, List.append_assoc]; rfl
theorem joinRows (h : ∀ r ∈ rs, Wrt r) (hl : rs.length ≤ 900) : joinD "\n" (.list (rowS rs)) = some (.str (sOf (wj rs))) := by
  have hs : ∀ {rs : List Row}, (∀ r ∈ rs, Wrt r) → ((rs.map fun r => sOf r.1).map (·.length)).sum ≤ 200 * rs.length := fun {rs} h => by
    induction rs with
    | nil => exact Nat.zero_le _
    | cons r rs ih =>
      have := ih fun x hx => h x (.tail _ hx)
      have := (h r (.head _)).fine.len
      rw [List.map_cons, List.map_cons, List.sum_cons, List.length_cons, sOf_len]; omega
  have h0 := hs h
  have e : joinD "\n" (.list (rowS rs)) = match strs? (rowS rs) with
    | some xs => if decide ((1 : Nat) ≤ 64) && decide ((xs.map (·.length)).sum + xs.length * 64 ≤ 16777216) then some (.str (Txt.join "\n" xs)) else none
    | none => none := rfl
  rw [e, strs_rows]
  show (if decide ((1 : Nat) ≤ 64) && decide (((rs.map fun r => sOf r.1).map (·.length)).sum + (rs.map fun r => sOf r.1).length * 64 ≤ 16777216) then some (Dat.str (Txt.join "\n" (rs.map fun r => sOf r.1))) else none) = _
  rw [List.length_map, if_pos (by rw [Bool.and_eq_true]; exact ⟨rfl, decide_eq_true (by omega)⟩)]
  exact congrArg (fun x => some (Dat.str x)) ((StrLaws.glued_eq_join _ _).trans join_rows)
theorem wr_loop {v : Option Dat} : ∀ {ds : List Dat} {rs : List Row}, Du ds rs → ∀ {acc : List Dat} {w v3 v4 : Option Dat}, (∀ r ∈ rs, Wrt r) → acc.length + rs.length ≤ 900 → ∃ w' v3' v4', loopF 2 (evS (orc 29) IT 30 b29) ds ⟨[v, none, w, v3, v4], some (1, acc), none⟩ = .ok .next ⟨[v, none, w', v3', v4'], some (1, acc ++ rowS rs), none⟩ := fun h => by
  induction h with
  | nil => exact fun {acc w v3 v4} _ _ => ⟨w, v3, v4, by rw [show rowS [] = [] from rfl, List.append_nil]; rfl⟩
  | cons _ ih =>
    rename_i r pl ds rs _
    intro acc w v3 v4 hw hl
    rw [List.length_cons] at hl
    obtain ⟨_, _, _, _, hr⟩ := hw r (.head _)
    obtain ⟨a3, a4, e1⟩ := wr_row (v := v) (v3 := v3) (v4 := v4) (pl := pl) (acc := acc) hr (by omega)
    obtain ⟨w', b3, b4, e2⟩ := ih (acc := acc ++ [.str (sOf r.1)]) (w := some (rl r pl)) (v3 := a3) (v4 := a4) (fun x hx => hw x (.tail _ hx)) (by rw [List.length_append, List.length_singleton]; omega)
    exact ⟨w', b3, b4, (loopF_step e1).trans (e2.trans (by rw [List.append_assoc]; rfl))⟩
theorem cps_sOf {w : List Int} (h : w.all okc = true) : cpsD (sOf w) = w.map Dat.int := by
  have hn : ∀ {w : List Int}, w.all okc = true → ((w.map Int.toNat).map fun (c : Nat) => Dat.int (c : Int)) = w.map Dat.int := fun {w} h => by
    induction w with
    | nil => rfl
    | cons c w ih =>
      simp only [List.all_cons, Bool.and_eq_true] at h
      have h0 : 0 ≤ c := okc_cases h.1 (fun q => by simp only [btw, Bool.and_eq_true, decide_eq_true_eq] at q; exact q.1) (fun q => by omega) (fun q => by omega) (fun q => by omega) (fun q => by omega) (fun q => by omega) (fun q => by omega) (fun q => by omega) (fun q => by omega)
      rw [List.map_cons, List.map_cons, List.map_cons, ih h.2, Int.toNat_of_nonneg h0]
  exact hn h
theorem p_ro (hm : 29 < m) (hd : Du ds rs) (h : ∀ r ∈ rs, Wrt r) (hl : rs.length ≤ 15) : (orc m).p 29 [.list ds] = .ok (.bytes (ubs (wj rs)).toArray) := by
  rw [orc_p (by decide) hm]
  show outP (evS (orc 29) IT 31 f29.body ⟨[some (.list ds), none, none, none, none], none, none⟩) = _
  have e1 : evS (orc 29) IT 31 f29.body ⟨[some (.list ds), none, none, none, none], none, none⟩ = evS (orc 29) IT 31 [.forL 2 (.var 0) b29, .ret (.callP 9 [.callP 3 [.join "\n" (.var 1)]])] ⟨[some (.list ds), none, none, none, none], some (1, []), none⟩ := step_to rfl
  obtain ⟨w, v3, v4, e2⟩ := wr_loop (v := some (.list ds)) hd (w := none) (v3 := none) (v4 := none) (acc := []) h (by show 0 + _ ≤ _; omega)
  rw [e1, step_to (stForL (d := .list ds) (ds := ds) rfl rfl (sz_ok (by rw [hd.len]; omega)) e2)]
  obtain ⟨k1, k2⟩ := wj_ok h
  have hs : (sOf (wj rs)).cps.size = (wj rs).length := sOf_len _
  refine retP (n := 30) (ev_callP1 (x := lst (wj rs)) (σ₁ := ⟨[some (.list ds), some (.list (rowS rs)), w, v3, v4], none, none⟩) (ev_callP1 (x := .str (sOf (wj rs))) (ev_join (x := .list (rowS rs)) (by exact rfl) (joinRows h (by omega))) ?_) (p_enc (by decide) k1 (by omega)))
  rw [p_cps (by decide) (by rw [hs]; omega), cps_sOf k1]
end
end Mine

namespace Mine
open PySem PySem.W PySem.Calls PyProof.Rows

/-! the generator: what an expression yields, whatever the deck -/
noncomputable def Dk : St → Prop
  | .deck _ mixed => 0 ≤ mixed ∧ mixed < 2147483647
  | _ => False
noncomputable def Evo (own : Option (Nat × List Dat)) (O : Orc) (n : Nat) (x : IE) (vs : List (Option Dat)) (P : Dat → Prop) : Prop := ∀ st, Dk st → ∃ d st', evE O n x ⟨vs, own, some st⟩ = .ok d ⟨vs, own, some st'⟩ ∧ Dk st' ∧ P d
noncomputable abbrev Ev (O : Orc) (n : Nat) (x : IE) (vs : List (Option Dat)) (P : Dat → Prop) : Prop := Evo none O n x vs P
noncomputable def GenS (f : Nat) (ds : List Dat) (P : Dat → Prop) : Prop := ∀ m, f < m → ∀ st, Dk st → ∃ d st', (orc m).s f st ds = .ok d st' ∧ Dk st' ∧ P d
noncomputable def IsL (p : List Int → Prop) (d : Dat) : Prop := ∃ l, d = lst l ∧ p l
/-- what runs ends in a return of what is P -/
noncomputable def WP (o : Out Fl) (P : Dat → Prop) : Prop := ∃ d w vs own st, o = .ok (.ret d w) ⟨vs, own, some st⟩ ∧ Dk st ∧ P d
noncomputable abbrev kB : ASt → Out Fl := fun σ => .ok .brk σ
noncomputable abbrev kN : ASt → Out Fl := fun σ => .ok .next σ
noncomputable abbrev WPc (O : Orc) (n : Nat) (ss : List IS) (σ : ASt) (k kb : ASt → Out Fl) (P : Dat → Prop) : Prop := WP (cont (evS O IT n ss σ) k kb) P
section
variable {O : Orc} {n m j f : Nat} {x y t : IE} {vs : List (Option Dat)} {own : Option (Nat × List Dat)} {st : St} {P Q R : Dat → Prop} {ss sa sb : List IS} {σ : ASt} {k kb : ASt → Out Fl} {d : Dat} {op : Operator}
theorem ev1_pure (h : ∀ st, evE O n x ⟨vs, own, some st⟩ = .ok d ⟨vs, own, some st⟩) (hp : P d) : Evo own O n x vs P := fun st hs => ⟨d, st, h st, hs, hp⟩
theorem ev1_mono (h : Evo own O n x vs P) (q : ∀ d, P d → Q d) : Evo own O n x vs Q := fun st hs => let ⟨d, s, a, b, c⟩ := h st hs; ⟨d, s, a, b, q d c⟩
theorem ev1_bin (h1 : Evo own O n x vs P) (h2 : Evo own O n y vs Q) (h : ∀ a b, P a → Q b → ∃ z, binD op a b = some z ∧ R z) : Evo own O (n + 1) (.bin op x y) vs R := fun st hs => by
  obtain ⟨a, s1, e1, k1, p1⟩ := h1 st hs
  obtain ⟨b, s2, e2, k2, p2⟩ := h2 s1 k1
  obtain ⟨z, e3, p3⟩ := h a b p1 p2
  exact ⟨z, s2, ev_bin e1 e2 e3, k2, p3⟩
theorem addL {a b : List Int} (h : a.length + b.length ≤ 100000) : binD .Add (lst a) (lst b) = some (lst (a ++ b)) := by
  show (if sz ((a.map Dat.int).length + (b.map Dat.int).length) then some (Dat.list (a.map Dat.int ++ b.map Dat.int)) else none) = _
  rw [List.length_map, List.length_map, if_pos (sz_ok (by omega)), ← List.map_append]
noncomputable def Sm (p : List Int → Prop) : Prop := ∀ l, p l → l.length ≤ 20000
theorem ev1_add {p q r : List Int → Prop} (h1 : Evo own O n x vs (IsL p)) (h2 : Evo own O n y vs (IsL q)) (h : ∀ a b, p a → q b → a.length + b.length ≤ 100000 ∧ r (a ++ b)) : Evo own O (n + 1) (.bin .Add x y) vs (IsL r) :=
  ev1_bin h1 h2 fun _ _ ⟨a, e1, p1⟩ ⟨b, e2, p2⟩ => by subst e1 e2; exact ⟨_, addL (h a b p1 p2).1, _, rfl, (h a b p1 p2).2⟩
theorem ev_callS {args : List IE} {ds : List Dat} {st st' st2 : St} (ha : evL (evE O n) args ⟨vs, own, some st⟩ = .ok ds ⟨vs, own, some st'⟩) (hs : Dk st) (h : O.s f st' ds = .ok d st2) : evE O (n + 1) (.callS f args) ⟨vs, own, some st⟩ = .ok d ⟨vs, own, some st2⟩ := by
  cases st with
  | rdr => exact hs.elim
  | gone => exact hs.elim
  | deck c mx =>
    show (evL (evE O n) args _).bind _ = _
    rw [ha]
    show (match O.s f st' ds with
        | .ok d st' => Out.ok d ⟨vs, own, some st'⟩
        | .exc x => .exc x ⟨vs, own, some .gone⟩
        | .stuck => .stuck) = _
    rw [h]
theorem ev1_callS {args : List IE} {ds : List Dat} (ha : ∀ st, evL (evE (orc m) n) args ⟨vs, own, some st⟩ = .ok ds ⟨vs, own, some st⟩) (hm : f < m) (h : GenS f ds P) : Evo own (orc m) (n + 1) (.callS f args) vs P := fun st hs => by
  obtain ⟨d, s2, e, k2, p⟩ := h m hm st hs
  exact ⟨d, s2, ev_callS (ha st) hs e, k2, p⟩
theorem ev1_callS1 (ha : Evo own (orc m) n x vs Q) (hm : f < m) (h : ∀ d, Q d → GenS f [d] P) : Evo own (orc m) (n + 1) (.callS f [x]) vs P := fun st hs => by
  obtain ⟨a, s1, e1, k1, p1⟩ := ha st hs
  obtain ⟨d, s2, e, k2, p⟩ := h a p1 m hm s1 k1
  exact ⟨d, s2, ev_callS (evL_cons e1 rfl) hs e, k2, p⟩
theorem ev1_idx (h1 : Evo own O n x vs P) (h2 : Evo own O n y vs Q) (h : ∀ a b, P a → Q b → ∃ z, idxD a b = some z ∧ R z) : Evo own O (n + 1) (.idx x y) vs R := fun st hs => by
  obtain ⟨a, s1, e1, k1, p1⟩ := h1 st hs
  obtain ⟨b, s2, e2, k2, p2⟩ := h2 s1 k1
  obtain ⟨z, e3, p3⟩ := h a b p1 p2
  exact ⟨z, s2, ev_idx e1 e2 e3, k2, p3⟩
theorem ev1_eq0 {i : Int} (h : Evo own O n x vs fun d => ∃ v, d = .int v) : Evo own O (n + 1) (.cmp x [.Eq] [.const (.int i)]) vs fun d => ∃ b, d = .bool b := fun st hs => by
  obtain ⟨a, s1, e1, k1, v, rfl⟩ := h st hs
  cases n with
  | zero => cases e1
  | succ n => exact ⟨_, s1, ev_cmp e1 (y := .int i) rfl rfl, k1, _, rfl⟩

/-! statements -/
theorem wp_nil (h : WP (k σ) P) : WPc O (n + 1) [] σ k kb P := h
theorem wp_cons {s : IS} {σ' : ASt} (h : stepS O IT (evE O 40) (evS O IT n) s σ = .ok .next σ') (q : WPc O (n + 1) ss σ' k kb P) : WPc O (n + 1) (s :: ss) σ k kb P := by
  unfold WPc
  rw [evS_cons, h]; exact q
theorem wp_asg (h : Ev O 40 x vs Q) (hs : Dk st) (q : ∀ d st', Q d → Dk st' → WPc O (n + 1) ss ⟨vs.set j (some d), none, some st'⟩ k kb P) : WPc O (n + 1) (.asg j x :: ss) ⟨vs, none, some st⟩ k kb P := by
  obtain ⟨d, s1, e1, k1, p1⟩ := h st hs
  refine wp_cons ?_ (q d s1 p1 k1)
  show (evE O 40 x _).bind _ = _
  rw [e1]; rfl
theorem wp_asgU {js : List Nat} (h : Evo own O 40 x vs Q) (hs : Dk st) (q : ∀ d st', Q d → Dk st' → ∃ ds σ₂, d = .tuple ds ∧ putVars js ds ⟨vs, own, some st'⟩ = some σ₂ ∧ WPc O (n + 1) ss σ₂ k kb P) : WPc O (n + 1) (.asgU js x :: ss) ⟨vs, own, some st⟩ k kb P := by
  obtain ⟨d, s1, e1, k1, p1⟩ := h st hs
  obtain ⟨ds, σ₂, rfl, e2, q⟩ := q d s1 p1 k1
  refine wp_cons ?_ q
  show (evE O 40 x _).bind _ = _
  rw [e1]
  show (match putVars js ds ⟨vs, own, some s1⟩ with | some σ₂ => Out.ok Fl.next σ₂ | none => .stuck) = _
  rw [e2]
theorem wp_asgT2 {js : List Nat} (h : Ev O 40 x vs Q) (h2 : Ev O 40 y vs R) (hs : Dk st) (q : ∀ d e st', Q d → R e → Dk st' → ∃ σ₂, putVars js [d, e] ⟨vs, none, some st'⟩ = some σ₂ ∧ WPc O (n + 1) ss σ₂ k kb P) : WPc O (n + 1) (.asgT js [x, y] :: ss) ⟨vs, none, some st⟩ k kb P := by
  obtain ⟨d, s1, e1, k1, p1⟩ := h st hs
  obtain ⟨e, s2, e2, k2, p2⟩ := h2 s1 k1
  obtain ⟨σ₂, e3, q⟩ := q d e s2 p1 p2 k2
  refine wp_cons ?_ q
  show (evL (evE O 40) [x, y] _).bind _ = _
  rw [evL_cons e1 (evL_cons e2 rfl)]
  show (match putVars js [d, e] ⟨vs, none, some s2⟩ with | some σ₂ => Out.ok Fl.next σ₂ | none => .stuck) = _
  rw [e3]
theorem wp_ret (h : Ev O 40 x vs P) (hs : Dk st) : WPc O (n + 1) (.ret x :: ss) ⟨vs, none, some st⟩ k kb P := by
  obtain ⟨d, s1, e1, k1, p1⟩ := h st hs
  refine ⟨d, false, vs, none, s1, ?_, k1, p1⟩
  rw [evS_cons]
  show cont (cont ((evE O 40 x _).bind _) _ _) _ _ = _
  rw [e1]; rfl
theorem wp_if {b : Bool} {σ' : ASt} (h : evE O 40 t σ = .ok (.bool b) σ') (q : WPc O n (if b then sa else sb) σ' (fun σ => cont (evS O IT (n + 1) ss σ) k kb) kb P) : WPc O (n + 1) (.ite t sa sb :: ss) σ k kb P := by
  unfold WPc at q ⊢
  rw [evS_cons, cont_cont]
  show WP (cont ((evE O 40 t σ).bind _) _ _) _
  rw [h]
  cases b <;> exact q
theorem wp_ite (h : Evo own O 40 t vs fun d => ∃ b, d = .bool b) (hs : Dk st) (q1 : ∀ st', Dk st' → WPc O n sa ⟨vs, own, some st'⟩ (fun σ => cont (evS O IT (n + 1) ss σ) k kb) kb P) (q2 : ∀ st', Dk st' → WPc O n sb ⟨vs, own, some st'⟩ (fun σ => cont (evS O IT (n + 1) ss σ) k kb) kb P) : WPc O (n + 1) (.ite t sa sb :: ss) ⟨vs, own, some st⟩ k kb P := by
  obtain ⟨d, s1, e1, k1, b, rfl⟩ := h st hs
  refine wp_if e1 ?_
  cases b with
  | true => exact q1 s1 k1
  | false => exact q2 s1 k1
theorem gen_of {fs : FS} {ds : List Dat} (h30 : fsAt f = some fs) (hf : fs.st = true ∧ ds.length = fs.np ∧ (f == 20) = false) (h : ∀ st, Dk st → WPc (orc f) 31 fs.body ⟨ds.map some ++ List.replicate (fs.names.length - fs.np) none, none, some st⟩ kN kB P) : GenS f ds P := fun m hm st hs => by
  obtain ⟨d, w, vs, own, s2, e, k2, p⟩ := h st hs
  refine ⟨d, s2, ?_, k2, p⟩
  rw [orc_s hm]
  unfold sAt
  rw [h30]
  show (if fs.st then outS' (f == 20) (orc f) fs st ds else .stuck) = _
  rw [if_pos hf.1, hf.2.2]
  rw [cont_top] at e
  have e2 : runFn (orc f) fs (some st) ds = .ok (.ret d w) ⟨vs, own, some s2⟩ := by unfold runFn; rw [if_pos hf.2.1]; exact e
  cases st with
  | rdr => exact hs.elim
  | gone => exact hs.elim
  | deck c mx =>
    show outQ false (runFn (orc f) fs (some (.deck c mx)) ds) = _
    rw [e2]; rfl
end
noncomputable def IsI (many : Int) (d : Dat) : Prop := ∃ v, d = .int v ∧ 0 ≤ v ∧ v < many
theorem modD {a b : Int} (h : 0 < b) : binD .Mod (.int a) (.int b) = some (.int (Int.fmod a b)) := by
  show (if decide (0 < b) then some (Dat.int (Int.fmod a b)) else none) = _
  rw [if_pos (decide_eq_true h)]
theorem smallI {a : Int} (h : 0 ≤ a) (h2 : a < 1000000000000) : small a = true := decide_eq_true (by omega)
theorem g_draw {many : Int} (h : 0 < many) : GenS 31 [.int many] (IsI many) := by
  refine gen_of rfl ⟨rfl, rfl, rfl⟩ fun st hs => ?_
  have fm : ∀ a, IsI many (.int (Int.fmod a many)) := fun a => ⟨_, rfl, Int.fmod_nonneg_of_pos _ h, Int.fmod_lt_of_pos _ h⟩
  cases st with
  | rdr => exact hs.elim
  | gone => exact hs.elim
  | deck cells mixed =>
    have hn : evE (orc 31) 40 .deckNe ⟨[some (.int many)], none, some (.deck cells mixed)⟩ = .ok (.bool (!cells.isEmpty)) ⟨[some (.int many)], none, some (.deck cells mixed)⟩ := rfl
    refine wp_if hn ?_
    rcases List.eq_nil_or_concat cells with rfl | ⟨l, c, rfl⟩
    · have e1 : evE (orc 31) 40 (.bin .Mod (.bin .Add (.bin .Mult .deckMixed (.const (.int 16807))) (.const (.int 29))) (.const (.int 2147483647))) ⟨[some (.int many)], none, some (.deck [] mixed)⟩ = .ok (.int (Int.fmod (mixed * 16807 + 29) 2147483647)) ⟨[some (.int many)], none, some (.deck [] mixed)⟩ := by
        refine ev_bin (ev_bin (ev_bin (x := .int mixed) (y := .int 16807) (z := .int (mixed * 16807)) rfl rfl ?_) rfl rfl) rfl (modD (by decide))
        show (if small mixed && small 16807 then some (Dat.int (mixed * 16807)) else none) = _
        rw [smallI hs.1 (by have := hs.2; omega)]; rfl
      have h1 := Int.fmod_nonneg_of_pos (mixed * 16807 + 29) (b := 2147483647) (by decide)
      have h2 := Int.fmod_lt_of_pos (mixed * 16807 + 29) (b := 2147483647) (by decide)
      generalize Int.fmod (mixed * 16807 + 29) 2147483647 = mx at e1 h1 h2
      refine wp_nil (wp_cons (σ' := ⟨[some (.int many)], none, some (.deck [] mx)⟩) ?_ ?_)
      · show (evE (orc 31) 40 _ _).bind _ = _
        rw [e1]; rfl
      · refine ⟨.int (Int.fmod (Int.fdiv mx 64) many), false, [some (.int many)], none, .deck [] mx, ?_, ⟨h1, h2⟩, fm _⟩
        rw [evS_cons]
        show cont (cont ((evE (orc 31) 40 (.bin .Mod (.bin .FloorDiv .deckMixed (.const (.int 64))) (.var 0)) _).bind _) _ _) _ _ = _
        rw [ev_bin (ev_bin (x := .int mx) (y := .int 64) (z := .int (Int.fdiv mx 64)) (σ₁ := ⟨[some (.int many)], none, some (.deck [] mx)⟩) rfl rfl ?_) (y := .int many) rfl (modD h)]
        · rfl
        · show (if small mx && small 64 && decide ((0 : Int) < 64) then some (Dat.int (Int.fdiv mx 64)) else none) = _
          rw [smallI h1 (by omega)]; rfl
    · have e0 : (!(l.concat c).isEmpty) = true := by simp
      rw [e0]
      refine ⟨.int (Int.fmod c many), false, [some (.int many)], none, .deck l mixed, ?_, hs, fm _⟩
      show cont (evS (orc 31) IT 30 [.ret (.bin .Mod .deckPop (.var 0))] _) _ _ = _
      rw [evS_cons]
      show cont (cont ((evE (orc 31) 40 (.bin .Mod .deckPop (.var 0)) _).bind _) _ _) _ _ = _
      rw [ev_bin (x := .int c) (σ₁ := ⟨[some (.int many)], none, some (.deck l mixed)⟩) ?_ (y := .int many) rfl (modD h)]
      · rfl
      · show (match (l.concat c).getLast? with
          | some c' => Out.ok (Dat.int c') ⟨[some (.int many)], none, some (.deck (l.concat c).dropLast mixed)⟩
          | none => .stuck) = _
        rw [List.concat_eq_append, List.getLast?_concat, List.dropLast_concat]
theorem g_pick {d : Dat} {ds : List Dat} (hd : d = .list ds ∨ d = .tuple ds) (h1 : 0 < ds.length) (h2 : ds.length ≤ 1000) : GenS 32 [d] (· ∈ ds) := by
  refine gen_of rfl ⟨rfl, rfl, rfl⟩ fun st hs => wp_ret (ev1_idx (P := (· = d)) (Q := IsI ds.length) (ev1_pure (fun _ => rfl) rfl) (ev1_callS (ds := [.int ds.length]) (fun st => ?_) (by decide) (g_draw (by omega))) fun a b e1 e2 => ?_) hs
  · refine evL_cons (ev_blt (x := d) rfl ?_) rfl
    rcases hd with rfl | rfl <;> (simp only [bltD, lenD]; rw [if_pos (sz_ok (by omega))]; rfl)
  · subst e1
    obtain ⟨v, rfl, h3, h4⟩ := e2
    have e : nth ds v = ds[v.toNat]? := by unfold nth; rw [if_pos h3, if_pos (by omega)]
    have hl : v.toNat < ds.length := by omega
    refine ⟨ds[v.toNat], ?_, List.getElem_mem hl⟩
    rcases hd with rfl | rfl <;> (show nth ds v = _; rw [e, List.getElem?_eq_getElem hl])
theorem g_gap : GenS 35 [] (IsL (· ∈ gaps)) := by
  refine gen_of rfl ⟨rfl, rfl, rfl⟩ fun st hs => wp_ret (ev1_mono (ev1_callS (ds := [.list [lst [], lst [32], lst [32], lst [9, 32], lst [10], lst [133], lst [8206], lst [8207], lst [8232], lst [13], lst [11, 12]]]) (fun _ => by exact rfl) (by decide) (g_pick (.inl rfl) (by decide) (by decide))) fun d hd => ?_) hs
  simp only [List.mem_cons, List.not_mem_nil, or_false] at hd
  rcases hd with h | h | h | h | h | h | h | h | h | h | h <;> (subst h; exact ⟨_, rfl, by decide⟩)
end Mine

namespace Mine
open PySem PySem.W PySem.Calls PyProof.Rows

/-- a string of the generator's -/
structure SG (w s : List Int) : Prop where
  sw : SW w s
  co : CO s
  okc : w.all okc = true
  len : w.length ≤ 20
theorem sg_of {w s : List Int} (h : StrF w s) : SG w s := by
  have hl : ∀ c ∈ letters, c ∈ tab ∧ okc c = true := by decide
  have ho : ∀ o ∈ odds, (∀ c ∈ o.2, c ∈ tab) ∧ o.2 ≠ [] ∧ o.2.length ≤ 3 ∧ o.1.all okc = true ∧ o.1.length ≤ 10 := by decide
  refine ⟨sw_of h, ?_, ?_, ?_⟩
  · rcases h with ⟨c, hc, rfl, rfl⟩ | ⟨c, hc, d, hd, rfl, rfl⟩ | ⟨c, hc, o, hoo, rfl, rfl⟩ | ⟨c, hc, o, hoo, rfl, rfl⟩ | ⟨o, hoo, rfl, rfl⟩
    · exact ⟨fun x hx => by rw [List.mem_singleton.mp hx]; exact (hl c hc).1, List.cons_ne_nil _ _, by show 1 ≤ 4; decide⟩
    · refine ⟨fun x hx => ?_, List.cons_ne_nil _ _, by show 2 ≤ 4; decide⟩
      simp only [List.mem_cons, List.not_mem_nil, or_false] at hx
      rcases hx with rfl | rfl
      · exact (hl _ hc).1
      · exact (hl _ hd).1
    · refine ⟨fun x hx => ?_, List.cons_ne_nil _ _, by rw [List.length_cons]; have := (ho o hoo).2.2.1; omega⟩
      rcases List.mem_cons.mp hx with rfl | hx
      · exact (hl _ hc).1
      · exact (ho o hoo).1 x hx
    · refine ⟨fun x hx => ?_, by simp, by rw [List.length_append]; have := (ho o hoo).2.2.1; show _ + 1 ≤ 4; omega⟩
      rcases List.mem_append.mp hx with hx | hx
      · exact (ho o hoo).1 x hx
      · rw [List.mem_singleton.mp hx]; exact (hl c hc).1
    · exact ⟨(ho o hoo).1, (ho o hoo).2.1, by have := (ho o hoo).2.2.1; omega⟩
  · rcases h with ⟨c, hc, rfl, rfl⟩ | ⟨c, hc, d, hd, rfl, rfl⟩ | ⟨c, hc, o, hoo, rfl, rfl⟩ | ⟨c, hc, o, hoo, rfl, rfl⟩ | ⟨o, hoo, rfl, rfl⟩
    · rw [List.all_cons, (hl c hc).2]; rfl
    · rw [List.all_cons, List.all_cons, (hl c hc).2, (hl d hd).2]; rfl
    · rw [List.all_cons, (hl c hc).2, (ho o hoo).2.2.2.1]; rfl
    · rw [okc_app, (ho o hoo).2.2.2.1, List.all_cons, (hl c hc).2]; rfl
    · exact (ho o hoo).2.2.2.1
  · rcases h with ⟨c, hc, rfl, rfl⟩ | ⟨c, hc, d, hd, rfl, rfl⟩ | ⟨c, hc, o, hoo, rfl, rfl⟩ | ⟨c, hc, o, hoo, rfl, rfl⟩ | ⟨o, hoo, rfl, rfl⟩
    · show 1 ≤ 20; decide
    · show 2 ≤ 20; decide
    · rw [List.length_cons]; have := (ho o hoo).2.2.2.2; omega
    · rw [List.length_append]; have := (ho o hoo).2.2.2.2; show _ + 1 ≤ 20; omega
    · have := (ho o hoo).2.2.2.2; omega
theorem gap_ok {g : List Int} (h : g ∈ gaps) : g.all okc = true ∧ g.length ≤ 2 := by
  have : ∀ g ∈ gaps, g.all okc = true ∧ g.length ≤ 2 := by decide
  exact this g h
noncomputable def IsStr (d : Dat) : Prop := ∃ w s, d = .tuple [lst w, lst s] ∧ SG w s
noncomputable def OddD (d : Dat) : Prop := ∃ x o, o ∈ odds ∧ d = .tuple [.str x, lst o.2] ∧ cpsD x = o.1.map Dat.int ∧ x.cps.size ≤ 1000
section
variable {O : Orc} {m n : Nat} {x y : IE} {σ : ASt} {a b : List Int}
theorem ev_addl (h1 : evE O n x σ = .ok (lst a) σ) (h2 : evE O n y σ = .ok (lst b) σ) (h : a.length + b.length ≤ 100000) : evE O (n + 1) (.bin .Add x y) σ = .ok (lst (a ++ b)) σ := ev_bin h1 h2 (addL h)
theorem ev_signs {x : IE} {t : Str} (hm : 33 < m) (h1 : evE (orc m) n x σ = .ok (.str t) σ) (hc : cpsD t = a.map Dat.int) (hl : t.cps.size ≤ 1000) : evE (orc m) (n + 1) (.callP 33 [x]) σ = .ok (lst a) σ := by
  refine ev_callP1 h1 ?_
  rw [p_signs hm (by omega), hc]
theorem ev_tup2 {d e : Dat} (h1 : evE O n x σ = .ok d σ) (h2 : evE O n y σ = .ok e σ) : evE O (n + 1) (.tup [x, y]) σ = .ok (.tuple [d, e]) σ := ev_tup (evL_cons h1 (evL_cons h2 rfl)) rfl
end
theorem near_ok : GenS 32 [tup letters] fun d => ∃ c ∈ letters, d = .int c := fun m hm st hs => by
  obtain ⟨d, s, e, k, p⟩ := g_pick (ds := letters.map Dat.int) (.inr rfl) (by decide) (by decide) m hm st hs
  obtain ⟨c, hc, h⟩ := List.mem_map.mp p
  exact ⟨d, s, e, k, c, hc, h.symm⟩
theorem odd_mem {d : Dat} (hd : d ∈ [Dat.tuple [.str "'&'", lst [38]], .tuple [.str "'< '", lst [60, 32]], .tuple [.str "\\<", lst [60]], .tuple [.str "''", lst [39]], .tuple [.str "'a''b'", lst [97, 39, 98]], .tuple [.str "\\u0061", lst [97]], .tuple [.str "\\U0001F600", lst [128512]]]) : OddD d := by
  simp only [List.mem_cons, List.not_mem_nil, or_false] at hd
  rcases hd with h | h | h | h | h | h | h <;> subst h
  · exact ⟨_, _, .head _, rfl, by kernel_rfl, by decide +kernel⟩
  · exact ⟨_, _, .tail _ (.head _), rfl, by kernel_rfl, by decide +kernel⟩
  · exact ⟨_, _, .tail _ (.tail _ (.head _)), rfl, by kernel_rfl, by decide +kernel⟩
  · exact ⟨_, _, .tail _ (.tail _ (.tail _ (.head _))), rfl, by kernel_rfl, by decide +kernel⟩
  · exact ⟨_, _, .tail _ (.tail _ (.tail _ (.tail _ (.head _)))), rfl, by kernel_rfl, by decide +kernel⟩
  · exact ⟨_, _, .tail _ (.tail _ (.tail _ (.tail _ (.tail _ (.head _))))), rfl, by kernel_rfl, by decide +kernel⟩
  · exact ⟨_, _, .tail _ (.tail _ (.tail _ (.tail _ (.tail _ (.tail _ (.head _)))))), rfl, by kernel_rfl, by decide +kernel⟩
end Mine

namespace Mine
open PySem PySem.W PySem.Calls PyProof.Rows

theorem g_string : GenS 36 [] IsStr := by
  refine gen_of rfl ⟨rfl, rfl, rfl⟩ fun st hs => ?_
  refine wp_asgT2 (ev1_callS (ds := [tup letters]) (fun _ => by exact rfl) (by decide) near_ok) (ev1_callS (ds := [.int 6]) (fun _ => by exact rfl) (by decide) (g_draw (by decide))) hs ?_
  rintro _ _ st ⟨c, hc, rfl⟩ ⟨w, rfl, _, _⟩ hs
  refine ⟨_, rfl, ?_⟩
  refine wp_ite (ev1_pure (d := .bool (decide (w < 3))) (fun _ => by exact ev_cmp (x := .int w) (y := .int 3) rfl rfl rfl) ⟨_, rfl⟩) hs (fun st hs => ?_) fun st hs => wp_nil ?_
  · refine wp_asg (Q := fun d => ∃ l, d = lst l ∧ SG l l) ?_ hs ?_
    · intro st hs
      have h0 := ev_cmp (O := orc 36) (n := 38) (a := .var 1) (b := .const (.int 2)) (c := .Eq) (x := .int w) (y := .int 2) (p := w == 2) (σ := ⟨[some (.int c), some (.int w), none, none], none, some st⟩) rfl rfl rfl
      cases hw : w == 2 with
      | false => rw [hw] at h0; exact ⟨_, st, ev_ite_f h0 (ev_list1 (by exact rfl)), hs, [c], rfl, sg_of (.inl ⟨c, hc, rfl, rfl⟩)⟩
      | true =>
        rw [hw] at h0
        obtain ⟨_, s1, e1, k1, d, hd, rfl⟩ := ev1_callS (m := 36) (n := 37) (f := 32) (args := [.glob 11]) (vs := [some (.int c), some (.int w), none, none]) (ds := [tup letters]) (fun _ => by exact rfl) (by decide) near_ok st hs
        refine ⟨_, s1, ev_ite_t h0 ?_, k1, [c, d], rfl, sg_of (.inr (.inl ⟨c, hc, d, hd, rfl, rfl⟩))⟩
        show (evL (evE (orc 36) 38) [.var 0, .callS 32 [.glob 11]] _).bind _ = _
        rw [evL_cons (d := .int c) (by exact rfl) (evL_cons e1 rfl)]; rfl
    · rintro _ st ⟨l, rfl, hl⟩ hs
      exact wp_ret (ev1_pure (fun _ => by exact ev_tup2 (d := lst l) (e := lst l) rfl rfl) ⟨_, _, rfl, hl⟩) hs
  refine wp_asg (Q := OddD) (ev1_mono (ev1_callS (fun _ => by exact rfl) (by decide) (g_pick (.inl rfl) (by decide) (by decide))) fun _ => odd_mem) hs ?_
  rintro _ st ⟨x, o, ho, rfl, hx, hl⟩ hs
  have e0 : ∀ st, evE (orc 36) 37 (.idx (.var 2) (.const (.int 0))) ⟨[some (.int c), some (.int w), some (.tuple [.str x, lst o.2]), none], none, some st⟩ = .ok (.str x) ⟨[some (.int c), some (.int w), some (.tuple [.str x, lst o.2]), none], none, some st⟩ := fun _ => rfl
  have e1 : ∀ n st, evE (orc 36) (n + 3) (.idx (.var 2) (.const (.int 1))) ⟨[some (.int c), some (.int w), some (.tuple [.str x, lst o.2]), none], none, some st⟩ = .ok (lst o.2) ⟨[some (.int c), some (.int w), some (.tuple [.str x, lst o.2]), none], none, some st⟩ := fun _ _ => rfl
  have e0' : ∀ st, evE (orc 36) 38 (.idx (.var 2) (.const (.int 0))) ⟨[some (.int c), some (.int w), some (.tuple [.str x, lst o.2]), none], none, some st⟩ = .ok (.str x) ⟨[some (.int c), some (.int w), some (.tuple [.str x, lst o.2]), none], none, some st⟩ := fun _ => rfl
  have ec : ∀ n st, evE (orc 36) (n + 2) (.list [.var 0]) ⟨[some (.int c), some (.int w), some (.tuple [.str x, lst o.2]), none], none, some st⟩ = .ok (lst [c]) ⟨[some (.int c), some (.int w), some (.tuple [.str x, lst o.2]), none], none, some st⟩ := fun _ _ => ev_list1 (by exact rfl)
  have ol : o.1.length ≤ 10 ∧ o.2.length ≤ 3 := by
    have : ∀ o ∈ odds, o.1.length ≤ 10 ∧ o.2.length ≤ 3 := by decide
    exact this o ho
  refine wp_ite (ev1_pure (d := .bool (w == 3)) (fun _ => by exact ev_cmp (x := .int w) (y := .int 3) rfl rfl rfl) ⟨_, rfl⟩) hs (fun st hs => ?_) fun st hs => wp_nil ?_
  · exact wp_ret (ev1_pure (fun st => by exact ev_tup2 (ev_addl (ec _ st) (ev_signs (by decide) (e0 st) hx hl) (by show 1 + _ ≤ _; omega)) (ev_addl (ec _ st) (e1 _ st) (by show 1 + _ ≤ _; omega))) ⟨_, _, rfl, sg_of (.inr (.inr (.inl ⟨c, hc, o, ho, rfl, rfl⟩)))⟩) hs
  refine wp_ite (ev1_pure (d := .bool (w == 4)) (fun _ => by exact ev_cmp (x := .int w) (y := .int 4) rfl rfl rfl) ⟨_, rfl⟩) hs (fun st hs => ?_) fun st hs => wp_nil ?_
  · exact wp_ret (ev1_pure (fun st => by exact ev_tup2 (ev_addl (ev_signs (by decide) (e0 st) hx hl) (ec _ st) (by show _ + 1 ≤ _; omega)) (ev_addl (e1 _ st) (ec _ st) (by show _ + 1 ≤ _; omega))) ⟨_, _, rfl, sg_of (.inr (.inr (.inr (.inl ⟨c, hc, o, ho, rfl, rfl⟩))))⟩) hs
  · exact wp_ret (ev1_pure (fun st => by exact ev_tup2 (ev_signs (by decide) (e0' st) hx hl) (e1 _ st)) ⟨_, _, rfl, sg_of (.inr (.inr (.inr (.inr ⟨o, ho, rfl, rfl⟩))))⟩) hs

/-- what a turn writes -/
structure Item (set : Bool) (bef : Int) (w : List Int) (rs : List Row) (set' : Bool) (bef' : Int) : Prop where
  body : BodyF set bef w (fun pl => rs.map (rl · pl)) set' bef'
  rows : RStep set bef rs set' bef'
  okc : w.all okc = true
  len : w.length ≤ 200
  few : rs.length ≤ 3
theorem all_cons {c : Int} {w : List Int} (h : w.all okc = true) (hc : okc c = true) : (c :: w).all okc = true := by rw [List.all_cons, h, hc]; rfl
theorem all_app {a b : List Int} (h : a.all okc = true) (h2 : b.all okc = true) : (a ++ b).all okc = true := by rw [okc_app, h, h2]; rfl
/-- what a reset begins with -/
inductive RP : List Int → Int → Prop
  | no {g : List Int} (h : g ∈ gaps) : RP (38 :: g) 0
  | yes {g g2 : List Int} {b : Int} (h : g ∈ gaps) (h2 : g2 ∈ gaps) (hb : b3 b) : RP (38 :: (g ++ (91 :: (cBf b ++ g2)))) b
theorem cbf_ok {b : Int} (hb : b3 b) : (cBf b).all okc = true ∧ (cBf b).length = 9 := by rcases hb with h | h | h <;> (subst h; exact ⟨rfl, rfl⟩)
theorem RP.fine {w : List Int} {b : Int} (h : RP w b) : w.all okc = true ∧ w.length ≤ 20 ∧ (b = 0 ∨ b3 b) := by
  cases h with
  | no h => exact ⟨all_cons (gap_ok h).1 rfl, by have := (gap_ok h).2; rw [List.length_cons]; omega, .inl rfl⟩
  | yes h h2 hb =>
    have g1 := gap_ok h
    have g2 := gap_ok h2
    have k := cbf_ok hb
    exact ⟨all_cons (all_app g1.1 (all_cons (all_app k.1 g2.1) rfl)) rfl, by simp only [List.length_cons, List.length_append]; omega, .inr hb⟩
theorem RP.anc {w : List Int} {b : Int} {set : Bool} {bef : Int} (h : RP w b) : Item set bef (w ++ (91 :: cFR)) [rowAnc b] true b := by
  have f := h.fine
  refine ⟨?_, .one (.anc f.2.2), all_app f.1 rfl, by rw [List.length_append]; show _ + 15 ≤ _; omega, by show 1 ≤ 3; decide⟩
  cases h with
  | no h => exact .anc h
  | yes h h2 hb =>
    have := BodyF.ancB (set := set) (bef := bef) h h2 hb
    simp only [List.cons_append, List.append_assoc] at this ⊢
    exact this
theorem RP.res {w x s : List Int} {b : Int} {set : Bool} {bef : Int} (h : RP w b) (hx : SG x s) : Item set bef (w ++ x) [rowRes b s] true b := by
  have f := h.fine
  refine ⟨?_, .one (.res f.2.2 hx.co), all_app f.1 hx.okc, by rw [List.length_append]; have := hx.len; omega, by show 1 ≤ 3; decide⟩
  cases h with
  | no h => exact .res h hx.sw
  | yes h h2 hb =>
    have := BodyF.resB (set := set) (bef := bef) h h2 hb hx.sw
    simp only [List.cons_append, List.append_assoc] at this ⊢
    exact this
noncomputable def IsRes (pl : Int) (d : Dat) : Prop := ∃ w r b, d = .tuple [lst w, rl r pl, .int b] ∧ (b = 0 ∨ b3 b) ∧ ∀ set bef, Item set bef w [r] true b
noncomputable def bDom (d : Dat) : Prop := ∃ b, d = .int b ∧ (b = 0 ∨ b3 b)
theorem b_mem {d : Dat} (hd : d ∈ [Dat.int 0, .int 0, .int 0, .int 1, .int 2, .int 3]) : bDom d := by
  simp only [List.mem_cons, List.not_mem_nil, or_false] at hd
  rcases hd with h | h | h | h | h | h <;> subst h
  · exact ⟨_, rfl, .inl rfl⟩
  · exact ⟨_, rfl, .inl rfl⟩
  · exact ⟨_, rfl, .inl rfl⟩
  · exact ⟨_, rfl, .inr (.inl rfl)⟩
  · exact ⟨_, rfl, .inr (.inr (.inl rfl))⟩
  · exact ⟨_, rfl, .inr (.inr (.inr rfl))⟩
theorem g_gapE {m n : Nat} {own : Option (Nat × List Dat)} {vs : List (Option Dat)} (hm : 35 < m) : Evo own (orc m) (n + 1) (.callS 35 []) vs (IsL (· ∈ gaps)) := ev1_callS (ds := []) (fun _ => rfl) hm g_gap
theorem g_strE {m n : Nat} {own : Option (Nat × List Dat)} {vs : List (Option Dat)} (hm : 36 < m) : Evo own (orc m) (n + 1) (.callS 36 []) vs IsStr := ev1_callS (ds := []) (fun _ => rfl) hm g_string
theorem g_drawE {m n : Nat} {own : Option (Nat × List Dat)} {vs : List (Option Dat)} {k : Int} (hm : 31 < m) (hk : 0 < k) : Evo own (orc m) (n + 2) (.callS 31 [.const (.int k)]) vs (IsI k) := ev1_callS (ds := [.int k]) (fun _ => rfl) hm (g_draw hk)
theorem g_draw0 {m n : Nat} {own : Option (Nat × List Dat)} {vs : List (Option Dat)} {k i : Int} (hm : 31 < m) (hk : 0 < k) : Evo own (orc m) (n + 3) (.cmp (.callS 31 [.const (.int k)]) [.Eq] [.const (.int i)]) vs fun d => ∃ b, d = .bool b := ev1_eq0 (ev1_mono (g_drawE hm hk) fun _ ⟨v, h, _⟩ => ⟨v, h⟩)
theorem g_reset {pl : Int} : GenS 37 [.int pl] (IsRes pl) := by
  refine gen_of rfl ⟨rfl, rfl, rfl⟩ fun st hs => ?_
  refine wp_asgT2 (Q := IsL fun l => ∃ g ∈ gaps, l = 38 :: g) (R := bDom) (ev1_add (p := (· = [38])) (ev1_pure (d := lst [38]) (fun _ => by exact rfl) ⟨_, rfl, rfl⟩) (g_gapE (by decide)) fun a b ha hb => ?_) (ev1_mono (ev1_callS (ds := [.list [.int 0, .int 0, .int 0, .int 1, .int 2, .int 3]]) (fun _ => by exact rfl) (by decide) (g_pick (.inl rfl) (by decide) (by decide))) fun _ => b_mem) hs ?_
  · subst ha; exact ⟨by have := (gap_ok hb).2; show 1 + _ ≤ _; omega, _, hb, rfl⟩
  rintro _ _ st ⟨_, rfl, g, hg, rfl⟩ ⟨b, rfl, hb⟩ hs
  refine ⟨_, rfl, ?_⟩
  have rest : ∀ w st, RP w b → Dk st → WPc (orc 37) 31 (f37.body.drop 2) ⟨[some (.int pl), some (lst w), some (.int b), none, none], none, some st⟩ kN kB (IsRes pl) := by
    intro w st hw hs
    have hf := hw.fine
    refine wp_ite (g_draw0 (by decide) (by decide)) hs (fun st hs => ?_) fun st hs => wp_nil ?_
    · refine wp_ret (ev1_pure (d := .tuple [lst (w ++ (91 :: cFR)), rl (rowAnc b) pl, .int b]) (fun st => ?_) ⟨_, _, _, rfl, hb, fun _ _ => hw.anc⟩) hs
      exact ev_tup (evL_cons (ev_addl (a := w) rfl (by kernel_rfl) (by show _ + 15 ≤ _; omega)) (evL_cons (by exact rfl) (by exact rfl))) rfl
    refine wp_asgU (g_strE (by decide)) hs ?_
    rintro _ st ⟨x, s, rfl, hx⟩ hs
    refine ⟨_, _, rfl, rfl, wp_ret (ev1_pure (d := .tuple [lst (w ++ x), rl (rowRes b s) pl, .int b]) (fun st => ?_) ⟨_, _, _, rfl, hb, fun _ _ => hw.res hx⟩) hs⟩
    exact ev_tup (evL_cons (ev_addl (a := w) (b := x) rfl rfl (by have := hx.len; omega)) (evL_cons (ev_tup (n := 38) (evL_cons (d := .str "reset") rfl (evL_cons (ev_tupI (l := s) rfl (sz_ok (by have := hx.co.le; omega))) rfl)) rfl) (by exact rfl))) rfl
  rcases hb with rfl | hb
  · exact wp_if (b := false) rfl (wp_nil (rest _ st (.no hg) hs))
  · have hp : evE (orc 37) 40 (.cmp (.var 2) [.Gt] [.const (.int 0)]) ⟨[some (.int pl), some (lst (38 :: g)), some (.int b), none, none], none, some st⟩ = .ok (.bool true) ⟨[some (.int pl), some (lst (38 :: g)), some (.int b), none, none], none, some st⟩ := by rcases hb with h | h | h <;> (subst h; rfl)
    refine wp_if hp (wp_asg (Q := IsL fun l => RP l b) (ev1_add (p := (· = 38 :: (g ++ (91 :: cBf b)))) (ev1_pure (d := lst (38 :: (g ++ (91 :: cBf b)))) (fun st => ?_) ⟨_, rfl, rfl⟩) (g_gapE (by decide)) fun a c ha hc => ?_) hs ?_)
    · refine ev_addl (n := 38) (a := 38 :: g) (b := 91 :: cBf b) rfl ?_ ?_
      · rcases hb with h | h | h <;> (subst h; kernel_rfl)
      · have := (gap_ok hg).2
        have := (cbf_ok hb).2
        simp only [List.length_cons]; omega
    · subst ha
      have := (gap_ok hg).2
      have := (gap_ok hc).2
      have := (cbf_ok hb).2
      refine ⟨by simp only [List.length_cons, List.length_append]; omega, ?_⟩
      rw [List.cons_append, List.append_assoc, List.cons_append]
      exact .yes hg hc hb
    · rintro _ st ⟨l, rfl, hl⟩ hs
      exact wp_nil (rest l st hl hs)
end Mine

namespace Mine
open PySem PySem.W PySem.Calls PyProof.Rows

noncomputable def IsRel (pl bef : Int) (d : Dat) : Prop := ∃ w rs, d = .tuple [lst w, .list (rs.map (rl · pl))] ∧ Item true bef w rs true 0
noncomputable def StD (d : Dat) : Prop := ∃ x y o, o ∈ stars ∧ d = .tuple [.str x, .str y] ∧ cpsD x = o.1.map Dat.int ∧ cpsD y = o.2.map Dat.int ∧ x.cps.size ≤ 1000 ∧ y.cps.size ≤ 1000
theorem star_mem {d : Dat} (hd : d ∈ [Dat.tuple [.str "az", .str "az"], .tuple [.str "a-c", .str "abc"], .tuple [.str "0a-b", .str "0ab"], .tuple [.str "x-yb", .str "xyb"]]) : StD d := by
  simp only [List.mem_cons, List.not_mem_nil, or_false] at hd
  rcases hd with h | h | h | h <;> subst h
  · exact ⟨_, _, _, .head _, rfl, by kernel_rfl, by kernel_rfl, by decide +kernel, by decide +kernel⟩
  · exact ⟨_, _, _, .tail _ (.head _), rfl, by kernel_rfl, by kernel_rfl, by decide +kernel, by decide +kernel⟩
  · exact ⟨_, _, _, .tail _ (.tail _ (.head _)), rfl, by kernel_rfl, by kernel_rfl, by decide +kernel, by decide +kernel⟩
  · exact ⟨_, _, _, .tail _ (.tail _ (.tail _ (.head _))), rfl, by kernel_rfl, by kernel_rfl, by decide +kernel, by decide +kernel⟩
theorem comp_rel {O : Orc} {n : Nat} {st pl : Int} : ∀ {l : List Int}, evComp (evE O (n + 3)) relElt none [some (.int pl), some (.int st)] (l.map Dat.int) = some (l.map (rStar st pl))
  | [] => rfl
  | c :: l => by
    have e0 : evComp (evE O (n + 3)) relElt none [some (.int pl), some (.int st)] (.int c :: l.map Dat.int) = (match endsPlain (evE O (n + 3) relElt ⟨[some (.int c), some (.int pl), some (.int st)], none, none⟩) with
        | none => none
        | some r => (evComp (evE O (n + 3)) relElt none [some (.int pl), some (.int st)] (l.map Dat.int)).map (r :: ·)) := rfl
    show evComp (evE O (n + 3)) relElt none [some (.int pl), some (.int st)] (.int c :: l.map Dat.int) = _
    rw [e0, comp_rel]; rfl
noncomputable def rStarRow (st c : Int) : Row := rowRel st [] [c] []
theorem star_rows {st : Int} (hs : st4 st) : ∀ {l : List Int} {bef : Int}, (∀ c ∈ l, c ∈ tab) → l ≠ [] → (bef = 0 ∨ st = bef) → RStep true bef (l.map (rStarRow st)) true 0
  | [], _, _, h, _ => absurd rfl h
  | [c], _, h, _, hb => .one (.rel hs hb (.inl rfl) ⟨h, List.cons_ne_nil _ _, by show 1 ≤ 4; decide⟩ (.inl rfl))
  | c :: d :: l, _, h, _, hb => .cons (.rel hs hb (.inl rfl) ⟨fun x hx => by rw [List.mem_singleton.mp hx]; exact h c (.head _), List.cons_ne_nil _ _, by show 1 ≤ 4; decide⟩ (.inl rfl)) (star_rows hs (fun x hx => h x (.tail _ hx)) (List.cons_ne_nil _ _) (.inl rfl))
theorem cst_ok {st : Int} (hs : st4 st) : (cSt st).all okc = true ∧ (cSt st).length ≤ 3 := by rcases hs with h | h | h | h <;> (subst h; exact ⟨rfl, by decide⟩)
theorem star_item {st bef : Int} {g : List Int} {o : List Int × List Int} (hs : st4 st) (hb : bef = 0 ∨ st = bef) (hg : g ∈ gaps) (ho : o ∈ stars) : Item true bef (cSt st ++ [42] ++ g ++ o.1) (o.2.map (rStarRow st)) true 0 := by
  have : ∀ o ∈ stars, (∀ c ∈ o.2, c ∈ tab) ∧ o.2 ≠ [] ∧ o.2.length ≤ 3 ∧ o.1.all okc = true ∧ o.1.length ≤ 10 := by decide
  obtain ⟨k1, k2, k3, k4, k5⟩ := this o ho
  have c := cst_ok hs
  have k := gap_ok hg
  refine ⟨?_, star_rows hs k1 k2 hb, all_app (all_app (all_app c.1 rfl) k.1) k4, ?_, by rw [List.length_map]; exact k3⟩
  · have e : (fun pl => (o.2.map (rStarRow st)).map (rl · pl)) = fun pl => o.2.map (rStar st pl) := funext fun pl => by rw [List.map_map]; rfl
    rw [e, List.append_assoc, List.append_assoc]
    exact .star hs hb hg ho
  · simp only [List.length_append]
    show _ + 1 + _ + _ ≤ _
    omega
/-- the context's part, the part behind the stroke -/
structure HG (h ctx : List Int) : Prop where
  hd : Hd h ctx
  co : CO0 ctx
  okc : h.all okc = true
  len : h.length ≤ 30
structure TG (t more : List Int) : Prop where
  tl : Tl t more
  co : CO0 more
  okc : t.all okc = true
  len : t.length ≤ 30
theorem CO0.le {s : List Int} (h : CO0 s) : s.length ≤ 4 := by
  rcases h with rfl | h
  · exact Nat.zero_le _
  · exact h.le
theorem hg_yes {g g2 w s : List Int} (hg : g ∈ gaps) (hg2 : g2 ∈ gaps) (hw : SG w s) : HG (g ++ (w ++ (g2 ++ [124]))) s := by
  have k := gap_ok hg
  have k2 := gap_ok hg2
  have l := hw.len
  exact ⟨.yes hg hg2 hw.sw, .inr hw.co, all_app k.1 (all_app hw.okc (all_app k2.1 rfl)), by simp only [List.length_append]; show _ + (_ + (_ + 1)) ≤ _; omega⟩
theorem tg_yes {g g2 w s : List Int} (hg : g ∈ gaps) (hg2 : g2 ∈ gaps) (hw : SG w s) : TG (g ++ (47 :: (g2 ++ w))) s := by
  have k := gap_ok hg
  have k2 := gap_ok hg2
  have l := hw.len
  exact ⟨.yes hg hg2 hw.sw, .inr hw.co, all_app k.1 (all_cons (all_app k2.1 hw.okc) rfl), by simp only [List.length_append, List.length_cons]; omega⟩
theorem rel_item {st bef : Int} {h ctx g w s t more : List Int} (hs : st4 st) (hb : bef = 0 ∨ st = bef) (hh : HG h ctx) (hg : g ∈ gaps) (hw : SG w s) (ht : TG t more) : Item true bef (cSt st ++ (h ++ (g ++ (w ++ t)))) [rowRel st ctx s more] true 0 := by
  have c := cst_ok hs
  have k := gap_ok hg
  have l1 := hh.len
  have l2 := ht.len
  have l3 := hw.len
  exact ⟨.rel hs hb hh.hd hg hw.sw ht.tl, .one (.rel hs hb hh.co hw.co ht.co), all_app c.1 (all_app hh.okc (all_app k.1 (all_app hw.okc ht.okc))), by simp only [List.length_append]; omega, by show 1 ≤ 3; decide⟩
theorem g_rel {pl bef : Int} (hb : bef = 0 ∨ b3 bef) : GenS 38 [.int pl, .int bef] (IsRel pl bef) := by
  refine gen_of rfl ⟨rfl, rfl, rfl⟩ fun st hs => ?_
  refine wp_asg (Q := fun d => ∃ s, d = .int s ∧ st4 s ∧ (bef = 0 ∨ s = bef)) ?_ hs ?_
  · intro st hs
    rcases hb with rfl | hb
    · obtain ⟨_, s1, e, k, v, rfl, h1, h2⟩ := g_drawE (m := 38) (n := 37) (k := 4) (vs := [some (.int pl), some (.int 0), none, none, none, none, none, none, none, none, none]) (by decide) (by decide) st hs
      exact ⟨_, s1, ev_ite_f (by exact rfl) e, k, v, rfl, by unfold st4; omega, .inl rfl⟩
    · have e0 : evE (orc 38) 39 (.cmp (.var 1) [.Gt] [.const (.int 0)]) ⟨[some (.int pl), some (.int bef), none, none, none, none, none, none, none, none, none], none, some st⟩ = .ok (.bool true) ⟨[some (.int pl), some (.int bef), none, none, none, none, none, none, none, none, none], none, some st⟩ := by rcases hb with h | h | h <;> (subst h; rfl)
      exact ⟨.int bef, st, ev_ite_t e0 (by exact rfl), hs, bef, rfl, .inr hb, .inr rfl⟩
  rintro _ st ⟨s, rfl, h4, hb⟩ hs
  refine wp_asg (Q := fun d => d = lst (cSt s)) (ev1_pure (fun st => ?_) rfl) hs ?_
  · rcases h4 with h | h | h | h <;> (subst h; kernel_rfl)
  rintro _ st rfl hs
  have c := cst_ok h4
  refine wp_ite (g_draw0 (by decide) (by decide)) hs (fun st hs => ?_) fun st hs => wp_nil ?_
  · refine wp_asgU (Q := StD) (ev1_mono (ev1_callS (fun _ => by exact rfl) (by decide) (g_pick (.inl rfl) (by decide) (by decide))) fun _ => star_mem) hs ?_
    rintro _ st ⟨x, y, o, ho, rfl, hx, hy, lx, ly⟩ hs
    refine ⟨_, _, rfl, rfl, ?_⟩
    have hc : ∀ st, evE (orc 38) 40 (.comp relElt (.callP 33 [.var 9]) [0, 2]) ⟨[some (.int pl), some (.int bef), some (.int s), some (lst (cSt s)), none, none, none, none, some (.str x), some (.str y), none], none, some st⟩ = .ok (.list (o.2.map (rStar s pl))) ⟨[some (.int pl), some (.int bef), some (.int s), some (lst (cSt s)), none, none, none, none, some (.str x), some (.str y), none], none, some st⟩ := fun st => by
      show (evE (orc 38) 39 (.callP 33 [.var 9]) _).bind _ = _
      rw [ev_signs (by decide) (by exact rfl) hy ly]
      show (if sz (o.2.map Dat.int).length then ofO ((evComp (evE (orc 38) 39) relElt none [some (.int pl), some (.int s)] (o.2.map Dat.int)).map Dat.list) _ else .stuck) = _
      have : ∀ o ∈ stars, o.2.length ≤ 3 := by decide
      rw [if_pos (sz_ok (by rw [List.length_map]; have := this o ho; omega)), comp_rel]; rfl
    refine wp_cons (σ' := ⟨[some (.int pl), some (.int bef), some (.int s), some (lst (cSt s)), none, none, none, none, some (.str x), some (.str y), some (.list (o.2.map (rStar s pl)))], none, some st⟩) ?_ ?_
    · show (evE (orc 38) 40 (.comp relElt (.callP 33 [.var 9]) [0, 2]) ⟨[some (.int pl), some (.int bef), some (.int s), some (lst (cSt s)), none, none, none, none, some (.str x), some (.str y), none], none, some st⟩).bind _ = _
      rw [hc]; rfl
    refine wp_ret (P := IsRel pl bef) ?_ hs
    intro st hs
    obtain ⟨_, s1, e1, k1, w, rfl, g, hg, rfl⟩ := ev1_add (p := (· = cSt s ++ [42] ++ [])) (q := (· ∈ gaps)) (r := fun l => ∃ g ∈ gaps, l = cSt s ++ [42] ++ g) (ev1_pure (own := none) (O := orc 38) (n := 37) (x := .bin .Add (.var 3) (.list [.const (.int 42)])) (vs := [some (.int pl), some (.int bef), some (.int s), some (lst (cSt s)), none, none, none, none, some (.str x), some (.str y), some (.list (o.2.map (rStar s pl)))]) (d := lst (cSt s ++ [42] ++ [])) (fun st => by
        rw [List.append_nil]
        exact ev_addl (a := cSt s) (b := [42]) rfl rfl (by show _ + 1 ≤ _; omega)) ⟨_, rfl, rfl⟩) (g_gapE (by decide)) (fun a b ha hb => by subst ha; have := (gap_ok hb).2; rw [List.append_nil]; exact ⟨by rw [List.length_append]; show _ + 1 + _ ≤ _; omega, b, hb, rfl⟩) st hs
    have : ∀ o ∈ stars, o.1.length ≤ 10 := by decide
    have lo := this o ho
    refine ⟨_, s1, ev_tup (evL_cons (ev_bin e1 (ev_signs (m := 38) (n := 37) (x := .var 8) (by decide) (by exact rfl) hx lx) (addL (by simp only [List.length_append]; have := (gap_ok hg).2; show _ + 1 + _ + _ ≤ _; omega))) (evL_cons (by exact rfl) (by exact rfl))) rfl, k1, _, _, ?_, star_item h4 hb hg ho⟩
    rw [List.map_map]; rfl
  refine wp_cons (σ' := ⟨[some (.int pl), some (.int bef), some (.int s), some (lst (cSt s)), some (tup []), some (tup []), none, none, none, none, none], none, some st⟩) rfl ?_
  have rest2 : ∀ h ctx g w own t more v6 v9 st, HG h ctx → g ∈ gaps → SG w own → TG t more → Dk st → WPc (orc 38) 31 (f38.body.drop 8) ⟨[some (.int pl), some (.int bef), some (.int s), some (lst (cSt s ++ (h ++ (g ++ (w ++ t))))), some (tup ctx), some (tup more), v6, some (lst own), none, v9, none], none, some st⟩ kN kB (IsRel pl bef) := by
    intro h ctx g w own t more v6 v9 st hh hg hw ht hs
    refine wp_ret (ev1_pure (d := .tuple [lst (cSt s ++ (h ++ (g ++ (w ++ t)))), .list [rl (rowRel s ctx own more) pl]]) (fun st => ?_) ⟨_, [rowRel s ctx own more], rfl, rel_item h4 hb hh hg hw ht⟩) hs
    exact ev_tup2 rfl (ev_list1 (ev_tup (n := 37) (evL_cons (d := .str "relation") rfl (evL_cons (d := .int s) rfl (evL_cons (ev_tupI (l := own) rfl (sz_ok (by have := hw.co.le; omega))) (evL_cons (d := tup ctx) rfl (evL_cons (d := tup more) rfl (evL_cons (d := .int pl) rfl rfl)))))) rfl))
  have rest : ∀ h ctx v6 v9 st, HG h ctx → Dk st → WPc (orc 38) 31 (f38.body.drop 5) ⟨[some (.int pl), some (.int bef), some (.int s), some (lst (cSt s ++ h)), some (tup ctx), some (tup []), v6, none, none, v9, none], none, some st⟩ kN kB (IsRel pl bef) := by
    intro h ctx v6 v9 st hh hs
    have l1 := hh.len
    refine wp_asgU (g_strE (by decide)) hs ?_
    rintro _ st ⟨w, own, rfl, hw⟩ hs
    have l2 := hw.len
    refine ⟨_, _, rfl, rfl, ?_⟩
    refine wp_asg (Q := IsL fun l => ∃ g ∈ gaps, l = cSt s ++ (h ++ (g ++ (w ++ [])))) (ev1_add (p := fun l => ∃ g ∈ gaps, l = cSt s ++ h ++ g) (q := (· = w)) (ev1_add (p := (· = cSt s ++ h)) (ev1_pure (fun _ => by exact rfl) ⟨_, rfl, rfl⟩) (g_gapE (by decide)) fun a b ha hb => ?_) (ev1_pure (fun _ => by exact rfl) ⟨_, rfl, rfl⟩) fun a b ha hb => ?_) hs ?_
    · subst ha; have := (gap_ok hb).2; exact ⟨by rw [List.length_append]; omega, b, hb, rfl⟩
    · obtain ⟨g, hg, rfl⟩ := ha; subst hb; have := (gap_ok hg).2; exact ⟨by simp only [List.length_append]; omega, g, hg, by simp only [List.append_assoc, List.append_nil]⟩
    rintro _ st ⟨_, rfl, g, hg, rfl⟩ hs
    have l3 := (gap_ok hg).2
    refine wp_ite (g_draw0 (by decide) (by decide)) hs (fun st hs => ?_) fun st hs => wp_nil (rest2 h ctx g w own [] [] _ _ st hh hg hw ⟨.no, .inl rfl, rfl, Nat.zero_le _⟩ hs)
    refine wp_asgU (g_strE (by decide)) hs ?_
    rintro _ st ⟨x, more, rfl, hx⟩ hs
    have l4 := hx.len
    refine ⟨_, _, rfl, rfl, ?_⟩
    refine wp_asgT2 (Q := IsL fun l => ∃ g1 ∈ gaps, ∃ g2 ∈ gaps, l = cSt s ++ (h ++ (g ++ (w ++ (g1 ++ (47 :: (g2 ++ x))))))) (R := (· = tup more))
      (ev1_add (p := fun l => ∃ g1 ∈ gaps, ∃ g2 ∈ gaps, l = cSt s ++ (h ++ (g ++ (w ++ []))) ++ g1 ++ [47] ++ g2) (q := (· = x)) (ev1_add (p := fun l => ∃ g1 ∈ gaps, l = cSt s ++ (h ++ (g ++ (w ++ []))) ++ g1 ++ [47]) (ev1_add (p := fun l => ∃ g1 ∈ gaps, l = cSt s ++ (h ++ (g ++ (w ++ []))) ++ g1) (q := (· = [47])) (ev1_add (p := (· = cSt s ++ (h ++ (g ++ (w ++ []))))) (ev1_pure (fun _ => by exact rfl) ⟨_, rfl, rfl⟩) (g_gapE (by decide)) fun a b ha hb => ?_) (ev1_pure (fun _ => by exact rfl) ⟨_, rfl, rfl⟩) fun a b ha hb => ?_) (g_gapE (by decide)) fun a b ha hb => ?_) (ev1_pure (fun _ => by exact rfl) ⟨_, rfl, rfl⟩) fun a b ha hb => ?_)
      (ev1_pure (fun _ => ev_tupI (l := more) rfl (sz_ok (by have := hx.co.le; omega))) rfl) hs ?_
    · subst ha; have := (gap_ok hb).2; exact ⟨by simp only [List.length_append, List.length_nil]; omega, b, hb, rfl⟩
    · obtain ⟨g1, hg1, rfl⟩ := ha; subst hb; have := (gap_ok hg1).2; exact ⟨by simp only [List.length_append, List.length_nil, List.length_cons]; omega, g1, hg1, rfl⟩
    · obtain ⟨g1, hg1, rfl⟩ := ha; have := (gap_ok hg1).2; have := (gap_ok hb).2; exact ⟨by simp only [List.length_append, List.length_nil, List.length_cons]; omega, g1, hg1, b, hb, rfl⟩
    · obtain ⟨g1, hg1, g2, hg2, rfl⟩ := ha; subst hb; have := (gap_ok hg1).2; have := (gap_ok hg2).2; exact ⟨by simp only [List.length_append, List.length_nil, List.length_cons]; omega, g1, hg1, g2, hg2, by simp only [List.append_assoc, List.append_nil, List.cons_append, List.nil_append]⟩
    rintro _ _ st ⟨_, rfl, g1, hg1, g2, hg2, rfl⟩ rfl hs
    exact ⟨_, rfl, wp_nil (rest2 h ctx g w own _ more _ _ st hh hg hw (tg_yes hg1 hg2 hx) hs)⟩
  refine wp_ite (g_draw0 (by decide) (by decide)) hs (fun st hs => ?_) fun st hs => wp_nil ?_
  · refine wp_asgU (g_strE (by decide)) hs ?_
    rintro _ st ⟨w, x, rfl, hw⟩ hs
    have l1 := hw.len
    refine ⟨_, _, rfl, rfl, ?_⟩
    refine wp_asgT2 (Q := IsL fun l => ∃ g1 ∈ gaps, ∃ g2 ∈ gaps, l = cSt s ++ (g1 ++ (w ++ (g2 ++ [124])))) (R := (· = tup x))
      (ev1_add (p := fun l => ∃ g1 ∈ gaps, ∃ g2 ∈ gaps, l = cSt s ++ g1 ++ w ++ g2) (q := (· = [124])) (ev1_add (p := fun l => ∃ g1 ∈ gaps, l = cSt s ++ g1 ++ w) (ev1_add (p := fun l => ∃ g1 ∈ gaps, l = cSt s ++ g1) (q := (· = w)) (ev1_add (p := (· = cSt s)) (ev1_pure (fun _ => by exact rfl) ⟨_, rfl, rfl⟩) (g_gapE (by decide)) fun a b ha hb => ?_) (ev1_pure (fun _ => by exact rfl) ⟨_, rfl, rfl⟩) fun a b ha hb => ?_) (g_gapE (by decide)) fun a b ha hb => ?_) (ev1_pure (fun _ => by exact rfl) ⟨_, rfl, rfl⟩) fun a b ha hb => ?_)
      (ev1_pure (fun _ => ev_tupI (l := x) rfl (sz_ok (by have := hw.co.le; omega))) rfl) hs ?_
    · subst ha; have := (gap_ok hb).2; exact ⟨by omega, b, hb, rfl⟩
    · obtain ⟨g1, hg1, rfl⟩ := ha; subst hb; have := (gap_ok hg1).2; exact ⟨by simp only [List.length_append]; omega, g1, hg1, rfl⟩
    · obtain ⟨g1, hg1, rfl⟩ := ha; have := (gap_ok hg1).2; have := (gap_ok hb).2; exact ⟨by simp only [List.length_append]; omega, g1, hg1, b, hb, rfl⟩
    · obtain ⟨g1, hg1, g2, hg2, rfl⟩ := ha; subst hb; have := (gap_ok hg1).2; have := (gap_ok hg2).2; exact ⟨by simp only [List.length_append, List.length_nil, List.length_cons]; omega, g1, hg1, g2, hg2, by simp only [List.append_assoc]⟩
    rintro _ _ st ⟨_, rfl, g1, hg1, g2, hg2, rfl⟩ rfl hs
    exact ⟨_, rfl, wp_nil (rest _ x _ _ st (hg_yes hg1 hg2 hw) hs)⟩
  · have := rest [] [] none none st ⟨.no, .inl rfl, rfl, Nat.zero_le _⟩ hs
    rw [List.append_nil] at this
    exact this
end Mine

namespace Mine
open PySem PySem.W PySem.Calls PyProof.Rows

/-- what _law_made makes -/
inductive Made : List Int → List Dat → List Row → Bool → Int → Nat → Prop
  | nil : Made [] [] [] false 0 0
  | snoc {codes pre w : List Int} {due : List Dat} {rs rs' : List Row} {set set' : Bool} {bef bef' : Int} {t : Nat} (h : Made codes due rs set bef t) (hp : pre ∈ pres) (hi : Item set bef w rs' set' bef') :
      Made (codes ++ pre ++ w) (due ++ rs'.map (rl · ((codes ++ pre).length : Nat))) (rs ++ rs') set' bef' (t + 1)
theorem RStep.dom {set s1 : Bool} {bef b1 : Int} {rs : List Row} (h : RStep set bef rs s1 b1) : (bef = 0 ∨ b3 bef) → (b1 = 0 ∨ b3 b1) := by
  induction h with
  | nil => exact id
  | cons h _ ih =>
    intro q
    refine ih ?_
    cases h with
    | opt => exact q
    | res hb => exact hb
    | anc hb => exact hb
    | rel => exact .inl rfl
theorem pre_ok {pre : List Int} (h : pre ∈ pres) : pre.all okc = true ∧ pre.length ≤ 7 := by
  have : ∀ g ∈ pres, g.all okc = true ∧ g.length ≤ 7 := by decide
  exact this pre h
structure MadeOk (codes : List Int) (due : List Dat) (rs : List Row) (set : Bool) (bef : Int) (t : Nat) : Prop where
  rows : RStep false 0 rs set bef
  du : Du due rs
  okc : codes.all okc = true
  len : codes.length ≤ 210 * t
  few : rs.length ≤ 3 * t
theorem Made.ok {codes : List Int} {due : List Dat} {rs : List Row} {set : Bool} {bef : Int} {t : Nat} (h : Made codes due rs set bef t) : MadeOk codes due rs set bef t := by
  induction h with
  | nil => exact ⟨.nil, .nil, rfl, Nat.le_refl _, Nat.le_refl _⟩
  | snoc _ hp hi ih =>
    have p := pre_ok hp
    have := hi.len
    have := hi.few
    have := ih.len
    have := ih.few
    exact ⟨ih.rows.append hi.rows, ih.du.append .of, all_app (all_app ih.okc p.1) hi.okc, by rw [List.length_append, List.length_append]; omega, by rw [List.length_append]; omega⟩
section
variable {O : Orc} {n j f i : Nat} {x y t a b : IE} {vs : List (Option Dat)} {own : Option (Nat × List Dat)} {st : St} {P Q R : Dat → Prop} {ss sa sb : List IS} {σ σ₂ σ₆ σ₇ σ' : ASt} {k kb : ASt → Out Fl} {d : Dat} {op : Operator} {xs ys ds ds' : List Dat} {es es' : List IE} {ks ks' : List Nat}
theorem wp_asgO (h : Evo (some (i, xs)) O 40 x vs Q) (hj : i ≠ j) (hs : Dk st) (q : ∀ d st', Q d → Dk st' → WPc O (n + 1) ss ⟨vs.set j (some d), some (i, xs), some st'⟩ k kb P) : WPc O (n + 1) (.asg j x :: ss) ⟨vs, some (i, xs), some st⟩ k kb P := by
  obtain ⟨d, s1, e1, k1, p1⟩ := h st hs
  refine wp_cons ?_ (q d s1 p1 k1)
  show (evE O 40 x _).bind _ = _
  rw [e1]
  show Out.ok Fl.next (⟨vs.set j (some d), if i = j then none else some (i, xs), some s1⟩ : ASt) = _
  rw [if_neg hj]
theorem dst_asgTO (h1 : evL (evE O 40) es σ = .ok ds σ) (h2 : evE O 40 a σ = .ok (.list xs) σ₂) (h3 : evE O 40 b σ₂ = .ok (.list ys) σ₂) (hz : sz (xs.length + ys.length) = true) (hs : es'.all simpleE = true) (h4 : evL (evE O 40) es' σ₂ = .ok ds' σ₂) (h5 : putVars ks ds (freeze σ₂) = some σ₆) (h6 : putVars ks' ds' σ₆ = some σ₇) (h7 : j < σ₇.vars.length) (h8 : putOwn j (xs ++ ys) σ₇ = σ') :
    stepS O IT (evE O 40) (evS O IT n) (.asgTO ks es j (some (a, b)) ks' es') σ = .ok .next σ' := by
  subst h8
  show (evL (evE O 40) es σ).bind _ = _
  rw [h1]
  show ((((evE O 40 a σ).bind fun x σ₂ => (evE O 40 b σ₂).bind fun y σ₃ => match x, y with
          | .list xs, .list ys => if sz (xs.length + ys.length) then .ok (xs ++ ys) σ₃ else .stuck
          | _, _ => .stuck) : Out (List Dat)).bind fun xs σ₄ => if es'.all simpleE then
      (evL (evE O 40) es' σ₄).bind fun ds' σ₅ => (match putVars ks ds (freeze σ₅) with
        | some σ₆ => (match putVars ks' ds' σ₆ with
          | some σ₇ => if j < σ₇.vars.length then Out.ok Fl.next (putOwn j xs σ₇) else .stuck
          | none => .stuck)
        | none => .stuck) else .stuck) = _
  rw [h2]
  show ((((evE O 40 b σ₂).bind fun y σ₃ => match Dat.list xs, y with
          | .list xs, .list ys => if sz (xs.length + ys.length) then .ok (xs ++ ys) σ₃ else .stuck
          | _, _ => .stuck) : Out (List Dat)).bind _) = _
  rw [h3]
  show ((if sz (xs.length + ys.length) then Out.ok (xs ++ ys) σ₂ else .stuck).bind _) = _
  rw [if_pos hz]
  show (if es'.all simpleE then (evL (evE O 40) es' σ₂).bind _ else _) = _
  rw [if_pos hs, h4]
  show (match putVars ks ds (freeze σ₂) with
        | some σ₆ => (match putVars ks' ds' σ₆ with
          | some σ₇ => if j < σ₇.vars.length then Out.ok Fl.next (putOwn j (xs ++ ys) σ₇) else .stuck
          | none => .stuck)
        | none => .stuck) = _
  rw [h5]
  show (match putVars ks' ds' σ₆ with
          | some σ₇ => if j < σ₇.vars.length then Out.ok Fl.next (putOwn j (xs ++ ys) σ₇) else .stuck
          | none => .stuck) = _
  rw [h6]
  exact if_pos h7
theorem wp_loop {b : ASt → Out Fl} (q : WP (cont (b (putVar j d σ)) (fun σ => cont (loopF j b ds σ) k kb) k) P) : WP (cont (loopF j b (d :: ds) σ) k kb) P := by
  have e1 : loopF j b (d :: ds) σ = cont (b (putVar j d σ)) (loopF j b ds) fun σ => .ok .next σ := by
    show (b (putVar j d σ)).bind _ = _
    cases b (putVar j d σ) with
    | ok f σ => cases f <;> rfl
    | exc => rfl
    | stuck => rfl
  rw [e1, cont_cont]; exact q
end
noncomputable abbrev mkS (codes : List Int) (due : List Dat) (set : Bool) (bef : Int) (v4 v5 v6 v7 v8 v9 : Option Dat) (st : St) : ASt := ⟨[some (lst codes), none, some (.int bef), some (.bool set), v4, v5, v6, v7, v8, v9], some (1, due), some st⟩
noncomputable def preE : IE := .list [.list [], .list [.const (.int 32)], .list [.const (.int 10)], .callP 33 [.const (.str "#x&'<[\n")], .callP 33 [.const (.str "#<\r")]]
noncomputable def bTurn : List IS := [.asg 0 (.bin .Add (.var 0) (.callS 32 [preE])), .asg 5 (.callS 31 [.const (.int 5)]), .ite (.cmp (.var 5) [.Eq] [.const (.int 0)]) [.asg 6 (.callS 32 [.list [.const (.str "alternate shifted"), .const (.str "backwards 2"), .const (.str "strength")]]), .app 1 (.tup [.const (.str "option"), .blt .tuple (.split (.var 6) " "), .blt .len (.var 0)]), .asg 0 (.bin .Add (.var 0) (.callP 33 [.bin .Add (.bin .Add (.const (.str "[")) (.var 6)) (.const (.str "]"))]))]
  [.ite (.conn .Or [.cmp (.var 5) [.Eq] [.const (.int 1)], .not (.var 3)]) [.asgU [7, 8, 2] (.callS 37 [.blt .len (.var 0)]), .asgTO [0] [.bin .Add (.var 0) (.var 7)] 1 (some (.var 1, .list [.var 8])) [3] [.const (.bool true)]]
    [.asgU [7, 9] (.callS 38 [.blt .len (.var 0), .var 2]), .asgTO [0] [.bin .Add (.var 0) (.var 7)] 1 (some (.var 1, .var 9)) [2] [.const (.int 0)]]]]
theorem pre_mem {d : Dat} (hd : d ∈ [lst [], lst [32], lst [10], lst [35, 120, 38, 39, 60, 91, 10], lst [35, 60, 13]]) : IsL (· ∈ pres) d := by
  simp only [List.mem_cons, List.not_mem_nil, or_false] at hd
  rcases hd with h | h | h | h | h <;> (subst h; exact ⟨_, rfl, by decide⟩)
theorem opt_mem {d : Dat} (hd : d ∈ [Dat.str "alternate shifted", .str "backwards 2", .str "strength"]) : ∃ o ∈ opts, d = .str (sOf o.1) := by
  simp only [List.mem_cons, List.not_mem_nil, or_false] at hd
  rcases hd with h | h | h <;> subst h
  · exact ⟨_, .head _, congrArg Dat.str (by kernel_rfl)⟩
  · exact ⟨_, .tail _ (.head _), congrArg Dat.str (by kernel_rfl)⟩
  · exact ⟨_, .tail _ (.tail _ (.head _)), congrArg Dat.str (by kernel_rfl)⟩
theorem opt_item {o : List Int × List Dat} {set : Bool} {bef : Int} (ho : o ∈ opts) : Item set bef (91 :: (o.1 ++ [93])) [rowOpt o] set bef := by
  have f := (RowF.opt (set := set) (bef := bef) ho).fine
  exact ⟨.opt ho, .one (.opt ho), f.okc, f.len, by show 1 ≤ 3; decide⟩
theorem Item.made {codes l w : List Int} {due : List Dat} {rs rs' : List Row} {set set' : Bool} {bef bef' : Int} {t : Nat} {pre : List Int} (hi : Item set bef w rs' set' bef') (h : Made codes due rs set bef t) (hp : pre ∈ pres) (hl : l = codes ++ pre) : Made (l ++ w) (due ++ rs'.map (rl · (l.length : Nat))) (rs ++ rs') set' bef' (t + 1) := by
  subst hl; exact .snoc h hp hi
end Mine

namespace Mine
open PySem PySem.W PySem.Calls PyProof.Rows

section
variable {codes l : List Int} {due : List Dat} {rs : List Row} {set : Bool} {bef : Int} {t : Nat} {v4 v5 v6 v7 v8 v9 : Option Dat} {st : St} {k kb : ASt → Out Fl} {P : Dat → Prop}
noncomputable def Kont (t : Nat) (k : ASt → Out Fl) (P : Dat → Prop) : Prop := ∀ codes due rs set bef v4 v5 v6 v7 v8 v9 st, Made codes due rs set bef t → Dk st → WP (k (mkS codes due set bef v4 v5 v6 v7 v8 v9 st)) P
theorem len_l {n : Nat} {due : List Dat} {st : St} {v2 v3 v4 v5 v6 v7 v8 v9 : Option Dat} (hl : l.length ≤ 5000) : evE (orc 39) (n + 2) (.blt .len (.var 0)) ⟨[some (lst l), none, v2, v3, v4, v5, v6, v7, v8, v9], some (1, due), some st⟩ = .ok (.int l.length) ⟨[some (lst l), none, v2, v3, v4, v5, v6, v7, v8, v9], some (1, due), some st⟩ := ev_blt (x := lst l) rfl (len_ok (by omega))
theorem turn_opt (h : Made codes due rs set bef t) (ht : t ≤ 5) (hk : Kont (t + 1) k P) {pre : List Int} (hp : pre ∈ pres) (hl : l = codes ++ pre) (hs : Dk st) : WPc (orc 39) 29 [.asg 6 (.callS 32 [.list [.const (.str "alternate shifted"), .const (.str "backwards 2"), .const (.str "strength")]]), .app 1 (.tup [.const (.str "option"), .blt .tuple (.split (.var 6) " "), .blt .len (.var 0)]), .asg 0 (.bin .Add (.var 0) (.callP 33 [.bin .Add (.bin .Add (.const (.str "[")) (.var 6)) (.const (.str "]"))]))]
    (mkS l due set bef v4 v5 v6 v7 v8 v9 st) (fun σ => cont (evS (orc 39) IT 30 [] σ) k kb) kb P := by
  have ok := h.ok
  have l1 := ok.len
  have l2 := ok.few
  have l3 := (pre_ok hp).2
  have hll : l.length ≤ 5000 := by rw [hl, List.length_append]; omega
  refine wp_asgO (Q := fun d => ∃ o ∈ opts, d = .str (sOf o.1)) (ev1_mono (ev1_callS (ds := [.list [.str "alternate shifted", .str "backwards 2", .str "strength"]]) (fun _ => by exact rfl) (by decide) (g_pick (.inl rfl) (by decide) (by decide))) fun _ => opt_mem) (by decide) hs ?_
  rintro _ st ⟨o, ho, rfl⟩ hs
  have e1 : evE (orc 39) 40 (.tup [.const (.str "option"), .blt .tuple (.split (.var 6) " "), .blt .len (.var 0)]) (mkS l due set bef v4 v5 (some (.str (sOf o.1))) v7 v8 v9 st) = .ok (rl (rowOpt o) l.length) (mkS l due set bef v4 v5 (some (.str (sOf o.1))) v7 v8 v9 st) := by
    refine ev_tup (evL_cons (d := .str "option") rfl (evL_cons (d := .tuple o.2) ?_ (evL_cons (len_l hll) rfl))) rfl
    simp only [opts, List.mem_cons, List.not_mem_nil, or_false] at ho
    rcases ho with q | q | q <;> (subst q; kernel_rfl)
  have e2 : ∀ due, evE (orc 39) 39 (.callP 33 [.bin .Add (.bin .Add (.const (.str "[")) (.var 6)) (.const (.str "]"))]) (mkS l due set bef v4 v5 (some (.str (sOf o.1))) v7 v8 v9 st) = .ok (lst (91 :: (o.1 ++ [93]))) (mkS l due set bef v4 v5 (some (.str (sOf o.1))) v7 v8 v9 st) := by
    simp only [opts, List.mem_cons, List.not_mem_nil, or_false] at ho
    intro due
    rcases ho with q | q | q <;> (subst q; kernel_rfl)
  have hi := opt_item (set := set) (bef := bef) ho
  refine wp_cons (st_appE e1 (sz_ok (by rw [ok.du.len]; omega))) (wp_cons (σ' := mkS (l ++ (91 :: (o.1 ++ [93]))) (due ++ [rl (rowOpt o) l.length]) set bef v4 v5 (some (.str (sOf o.1))) v7 v8 v9 st) ?_ (wp_nil (wp_nil (hk _ _ _ _ _ _ _ _ _ _ _ st (hi.made h hp hl) hs))))
  show (evE (orc 39) 40 (.bin .Add (.var 0) _) _).bind _ = _
  rw [ev_bin (x := lst l) rfl (e2 _) (addL (by have := hi.len; omega))]; rfl
theorem turn_res (h : Made codes due rs set bef t) (ht : t ≤ 5) (hk : Kont (t + 1) k P) {pre : List Int} (hp : pre ∈ pres) (hl : l = codes ++ pre) (hs : Dk st) : WPc (orc 39) 28 [.asgU [7, 8, 2] (.callS 37 [.blt .len (.var 0)]), .asgTO [0] [.bin .Add (.var 0) (.var 7)] 1 (some (.var 1, .list [.var 8])) [3] [.const (.bool true)]]
    (mkS l due set bef v4 v5 v6 v7 v8 v9 st) (fun σ => cont (evS (orc 39) IT 29 [] σ) (fun σ => cont (evS (orc 39) IT 30 [] σ) k kb) kb) kb P := by
  have ok := h.ok
  have l1 := ok.len
  have l2 := ok.few
  have l3 := (pre_ok hp).2
  have hll : l.length ≤ 5000 := by rw [hl, List.length_append]; omega
  refine wp_asgU (Q := IsRes l.length) (ev1_callS (ds := [.int l.length]) (fun st => evL_cons (len_l hll) rfl) (by decide) g_reset) hs ?_
  rintro _ st ⟨w, r, b, rfl, _, hi⟩ hs
  have hi := hi set bef
  have hw := hi.len
  refine ⟨_, _, rfl, (by exact rfl), wp_cons (σ' := mkS (l ++ w) (due ++ [rl r l.length]) true b v4 v5 v6 (some (lst w)) (some (rl r l.length)) v9 st) ?_ (wp_nil (wp_nil (wp_nil (hk _ _ _ _ _ _ _ _ _ _ _ st (hi.made h hp hl) hs))))⟩
  exact dst_asgTO (ds := [lst (l ++ w)]) (evL_cons (ev_bin (x := lst l) (y := lst w) rfl rfl (addL (by omega))) rfl) (xs := due) (by exact rfl) (ys := [rl r l.length]) (ev_list1 (by exact rfl)) (sz_ok (by rw [ok.du.len]; show _ + 1 ≤ _; omega)) rfl (by exact rfl) (by exact rfl) (by exact rfl) (by show 1 < 10; decide) (by exact rfl)
theorem turn_rel (h : Made codes due rs true bef t) (ht : t ≤ 5) (hk : Kont (t + 1) k P) {pre : List Int} (hp : pre ∈ pres) (hl : l = codes ++ pre) (hs : Dk st) : WPc (orc 39) 28 [.asgU [7, 9] (.callS 38 [.blt .len (.var 0), .var 2]), .asgTO [0] [.bin .Add (.var 0) (.var 7)] 1 (some (.var 1, .var 9)) [2] [.const (.int 0)]]
    (mkS l due true bef v4 v5 v6 v7 v8 v9 st) (fun σ => cont (evS (orc 39) IT 29 [] σ) (fun σ => cont (evS (orc 39) IT 30 [] σ) k kb) kb) kb P := by
  have ok := h.ok
  have l1 := ok.len
  have l2 := ok.few
  have l3 := (pre_ok hp).2
  have hll : l.length ≤ 5000 := by rw [hl, List.length_append]; omega
  refine wp_asgU (Q := IsRel l.length bef) (ev1_callS (ds := [.int l.length, .int bef]) (fun st => evL_cons (len_l hll) (evL_cons (by exact rfl) rfl)) (by decide) (g_rel (ok.rows.dom (.inl rfl)))) hs ?_
  rintro _ st ⟨w, rs', rfl, hi⟩ hs
  have hw := hi.len
  have hf := hi.few
  refine ⟨_, _, rfl, (by exact rfl), wp_cons (σ' := mkS (l ++ w) (due ++ rs'.map (rl · l.length)) true 0 v4 v5 v6 (some (lst w)) v8 (some (.list (rs'.map (rl · l.length)))) st) ?_ (wp_nil (wp_nil (wp_nil (hk _ _ _ _ _ _ _ _ _ _ _ st (hi.made h hp hl) hs))))⟩
  exact dst_asgTO (ds := [lst (l ++ w)]) (evL_cons (ev_bin (x := lst l) (y := lst w) rfl rfl (addL (by omega))) rfl) (xs := due) (by exact rfl) (ys := rs'.map (rl · l.length)) (by exact rfl) (sz_ok (by rw [ok.du.len, List.length_map]; omega)) rfl (by exact rfl) (by exact rfl) (by exact rfl) (by show 1 < 10; decide) (by exact rfl)
theorem turn_ok (h : Made codes due rs set bef t) (ht : t ≤ 5) (hk : Kont (t + 1) k P) (hs : Dk st) : WPc (orc 39) 30 bTurn (mkS codes due set bef v4 v5 v6 v7 v8 v9 st) k kb P := by
  have l1 := h.ok.len
  refine wp_asgO (Q := IsL fun l => ∃ pre ∈ pres, l = codes ++ pre) (ev1_add (p := (· = codes)) (q := (· ∈ pres)) (ev1_pure (fun _ => by exact rfl) ⟨_, rfl, rfl⟩) (ev1_mono (ev1_callS (ds := [.list [lst [], lst [32], lst [10], lst [35, 120, 38, 39, 60, 91, 10], lst [35, 60, 13]]]) (fun _ => by kernel_rfl) (by decide) (g_pick (.inl rfl) (by decide) (by decide))) fun _ => pre_mem) fun a b ha hb => ?_) (by decide) hs ?_
  · subst ha; have := (pre_ok hb).2; exact ⟨by omega, b, hb, rfl⟩
  rintro _ st ⟨l, rfl, pre, hp, hl⟩ hs
  refine wp_asgO (Q := IsI 5) (g_drawE (by decide) (by decide)) (by decide) hs ?_
  rintro _ st ⟨w, rfl, _, _⟩ hs
  have h0 := ev_cmp (O := orc 39) (n := 39) (a := .var 5) (b := .const (.int 0)) (c := .Eq) (x := .int w) (y := .int 0) (p := w == 0) (σ := mkS l due set bef v4 (some (.int w)) v6 v7 v8 v9 st) rfl rfl rfl
  cases hw : w == 0 with
  | true =>
    rw [hw] at h0
    exact wp_if h0 (turn_opt h ht hk hp hl hs)
  | false =>
    rw [hw] at h0
    refine wp_if h0 ?_
    have h1 := ev_or (O := orc 39) (n := 39) (a := .cmp (.var 5) [.Eq] [.const (.int 1)]) (b := .not (.var 3)) (p := w == 1) (q := !set) (σ := mkS l due set bef v4 (some (.int w)) v6 v7 v8 v9 st) (ev_cmp (x := .int w) (y := .int 1) rfl rfl rfl) (ev_not rfl)
    cases hc : (w == 1 || !set) with
    | true =>
      rw [hc] at h1
      exact wp_if h1 (turn_res h ht hk hp hl hs)
    | false =>
      rw [hc] at h1
      have : set = true := by cases set with
        | true => rfl
        | false => rw [Bool.not_false, Bool.or_true] at hc; cases hc
      subst this
      exact wp_if h1 (turn_rel h ht hk hp hl hs)
end
noncomputable def IsMade (d : Dat) : Prop := ∃ codes due rs set bef t, d = .tuple [lst codes, .list due] ∧ Made codes due rs set bef t ∧ t ≤ 5
theorem made_loop {k kb : ASt → Out Fl} {P : Dat → Prop} (hk : ∀ t, t ≤ 5 → Kont t k P) : ∀ (ds : List Dat) (codes : List Int) (due : List Dat) (rs : List Row) (set : Bool) (bef : Int) (t : Nat) (v4 v5 v6 v7 v8 v9 : Option Dat) (st : St), Made codes due rs set bef t → t + ds.length ≤ 5 → Dk st → WP (cont (loopF 4 (evS (orc 39) IT 30 bTurn) ds (mkS codes due set bef v4 v5 v6 v7 v8 v9 st)) k kb) P
  | [], codes, due, rs, set, bef, t, v4, v5, v6, v7, v8, v9, st, h, hl, hs => hk t hl codes due rs set bef v4 v5 v6 v7 v8 v9 st h hs
  | d :: ds, codes, due, rs, set, bef, t, v4, v5, v6, v7, v8, v9, st, h, hl, hs => by
    rw [List.length_cons] at hl
    refine wp_loop ?_
    refine turn_ok (v4 := some d) (k := fun σ => cont (loopF 4 (evS (orc 39) IT 30 bTurn) ds σ) k kb) h (by omega) (fun codes due rs set bef v4 v5 v6 v7 v8 v9 st h hs => made_loop hk ds codes due rs set bef (t + 1) v4 v5 v6 v7 v8 v9 st h (by omega) hs) hs
theorem g_made : GenS 39 [] IsMade := by
  refine gen_of rfl ⟨rfl, rfl, rfl⟩ fun st hs => ?_
  refine wp_cons (σ' := mkS [] [] false 0 none none none none none none st) rfl ?_
  obtain ⟨_, s1, e1, k1, v, rfl, h1, h2⟩ := g_drawE (own := some (1, [])) (m := 39) (n := 38) (k := 6) (vs := [some (lst []), none, some (.int 0), some (.bool false), none, none, none, none, none, none]) (by decide) (by decide) st hs
  unfold WPc
  show WP (cont (evS (orc 39) IT 31 (.forR 4 none (.callS 31 [.const (.int 6)]) bTurn :: [.ret (.tup [.var 0, .var 1])]) _) _ _) _
  rw [evS_cons, cont_cont]
  show WP (cont ((evE (orc 39) 40 (.callS 31 [.const (.int 6)]) _).bind _) _ _) _
  rw [e1]
  show WP (cont (if small 0 && small v && sz (v - 0).toNat then loopF 4 (evS (orc 39) IT 30 bTurn) (rangeD 0 v) (mkS [] [] false 0 none none none none none none s1) else .stuck) _ _) _
  rw [smallI h1 (by omega), sz_ok (by omega), if_pos (show (small 0 && true && true) = true from rfl)]
  refine made_loop ?_ (rangeD 0 v) [] [] [] false 0 0 none none none none none none s1 .nil (by unfold rangeD; rw [List.length_map, List.length_range]; omega) k1
  intro t ht codes due rs set bef v4 v5 v6 v7 v8 v9 st h hs
  refine ⟨.tuple [lst codes, .list due], false, [some (lst codes), some (.list due), some (.int bef), some (.bool set), v4, v5, v6, v7, v8, v9], none, st, rfl, hs, _, _, _, _, _, _, rfl, h, ht⟩
end Mine

namespace Mine
open PySem PySem.W PySem.Calls PyProof.Rows

/-! what is made is read as it is due; the ends that are none -/
theorem made_read {codes : List Int} {due : List Dat} {rs : List Row} {set : Bool} {bef : Int} {t : Nat} (h : Made codes due rs set bef t) (ht : t ≤ 5) : ∀ {r r' : List Int} {k n : Nat}, Aft r k r' → ((pSkip IT 0 (codes ++ r)).bind fun _ j s => pMain (n + t) [] false 0 j s) = pMain n due set bef (codes.length + k) r' := by
  induction h with
  | nil => intro r r' k n ha; show ((pSkip IT 0 r).bind _) = _; rw [ha.sk]; rfl
  | snoc h hp hi ih =>
    rename_i codes pre w due rs rs' set set' bef bef' t
    intro r r' k n ha
    have hb := main_body (n := n) (i := codes.length + pre.length) (found := due) hi.body ha (by rw [h.ok.du.len]; have := h.ok.few; omega)
    have := ih (by omega) (n := n + 1) (pre_aft (r := r) hp hi.body.bh)
    rw [List.append_assoc, List.append_assoc, show n + (t + 1) = n + 1 + t by omega, this, hb, show (codes ++ pre ++ w).length = codes.length + pre.length + w.length by rw [List.length_append, List.length_append], List.length_append]
theorem aft10 {x : List Int} (h1 : nb x = true) (h2 : hd? x 124 = false) (h3 : hd? x 47 = false) : Aft (10 :: x) 1 x := ⟨rfl, rfl, fun _ => skip_gap (g := [10]) (by decide) h1, fun _ => skip_stop (n := 4095) h1, h2, h3⟩
noncomputable def endw : List (Str × List Int × Nat) := [("& ", [38, 32], 2), ("&<a", [38, 60, 97], 1), ("&a < ", [38, 97, 32, 60, 32], 5), ("&a<b | ", [38, 97, 60, 98, 32, 124, 32], 7), ("&a<b/", [38, 97, 60, 98, 47], 5), ("&a <<<< b", [38, 97, 32, 60, 60, 60, 60, 32, 98], 3), ("&[before 4]a<b", [38, 91, 98, 101, 102, 111, 114, 101, 32, 52, 93, 97, 60, 98], 0), ("&[before 1]a<<b", [38, 91, 98, 101, 102, 111, 114, 101, 32, 49, 93, 97, 60, 60, 98], 12), ("&a<'b", [38, 97, 60, 39, 98], 5), ("[alternate", [91, 97, 108, 116, 101, 114, 110, 97, 116, 101], 1), ("&a<\\u00", [38, 97, 60, 92, 117, 48, 48], 5), ("!", [33], 0), ("a<b", [97, 60, 98], 0), ("&a<\\uD800", [38, 97, 60, 92, 117, 68, 56, 48, 48], 5), ("&a<\\", [38, 97, 60, 92], 4)]
section
variable {r : List Int} {i n : Nat} {set : Bool} {bef : Int} {found : List Dat}
theorem let_sw {c : Int} (h : c ∈ letters) : SW [c] [c] := sw_of (.inl ⟨c, h, rfl, rfl⟩)
/-- "&a", and a relation that errs -/
theorem end_rel {pre w : List Int} {p : Int} {j : Nat} (hf : found.length ≤ 900) (hp : pre ∈ pres) (hb : BH (60 :: w)) (hj : i + 2 + pre.length = j) (hr : pRel j j (60 :: w) = .err p) : pMain (n + 3) found set bef i (38 :: 97 :: (pre ++ (60 :: w))) = .err p := by
  have ha := pre_aft (r := []) hp hb
  rw [List.append_nil] at ha
  have := main_body (n := n + 2) (set := set) (bef := bef) (i := i) (found := found) (.res (g := []) nil_gap (let_sw (c := 97) (by decide))) ha hf
  refine this.trans ?_
  show pMain (n + 2) _ true 0 (i + 2 + pre.length) _ = _
  rw [hj]
  show (pRel j j (60 :: w)).bind _ = _
  rw [hr]; rfl
theorem bh60 {w : List Int} : BH (60 :: w) := ⟨_, _, rfl, .inr (.inr (.inl rfl))⟩
theorem end_err (hf : found.length ≤ 900) {e : Str × List Int × Nat} (he : e ∈ endw) : pMain (n + 3) found set bef i e.2.1 = .err ((i + e.2.2 : Nat) : Int) := by
  simp only [endw, List.mem_cons, List.not_mem_nil, or_false] at he
  rcases he with q | q | q | q | q | q | q | q | q | q | q | q | q | q | q <;> subst q
  · kernel_rfl
  · kernel_rfl
  · exact end_rel (pre := [32]) (w := [32]) hf (.tail _ (.head _)) bh60 rfl (by kernel_rfl)
  · exact end_rel (pre := []) (w := [98, 32, 124, 32]) hf (.head _) bh60 rfl (by kernel_rfl)
  · exact end_rel (pre := []) (w := [98, 47]) hf (.head _) bh60 rfl (by kernel_rfl)
  · exact end_rel (pre := [32]) (w := [60, 60, 60, 32, 98]) hf (.tail _ (.head _)) bh60 rfl (by kernel_rfl)
  · kernel_rfl
  · have := main_body (n := n + 2) (set := set) (bef := bef) (i := i) (found := found) (r := [60, 60, 98]) (r' := [60, 60, 98]) (k := 0) (.resB (g := []) (g2 := []) nil_gap nil_gap (.inl rfl) (let_sw (c := 97) (by decide))) ⟨rfl, rfl, fun _ => rfl, fun _ => rfl, rfl, rfl⟩ hf
    refine this.trans ?_
    show pMain (n + 2) (found ++ [rReset [97] 1 i]) true 1 (i + 12) [60, 60, 98] = _
    kernel_rfl
  · exact end_rel (pre := []) (w := [39, 98]) hf (.head _) bh60 rfl (by kernel_rfl)
  · kernel_rfl
  · exact end_rel (pre := []) (w := [92, 117, 48, 48]) hf (.head _) bh60 rfl (by kernel_rfl)
  · cases set <;> kernel_rfl
  · cases set <;> kernel_rfl
  · exact end_rel (pre := []) (w := [92, 117, 68, 56, 48, 48]) hf (.head _) bh60 rfl (by kernel_rfl)
  · exact end_rel (pre := []) (w := [92]) hf (.head _) bh60 rfl (by kernel_rfl)
end
theorem end_aft {e : Str × List Int × Nat} (he : e ∈ endw) : Aft (10 :: e.2.1) 1 e.2.1 ∧ cpsD e.1 = e.2.1.map Dat.int ∧ e.1.cps.size ≤ 1000 ∧ e.2.1.all okc = true ∧ e.2.1.length ≤ 100 := by
  simp only [endw, List.mem_cons, List.not_mem_nil, or_false] at he
  rcases he with q | q | q | q | q | q | q | q | q | q | q | q | q | q | q <;> (subst q; exact ⟨aft10 rfl rfl rfl, by kernel_rfl, by decide +kernel, rfl, by show _ ≤ 100; decide⟩)
theorem read_made {codes : List Int} {due : List Dat} {rs : List Row} {set : Bool} {bef : Int} {t : Nat} (h : Made codes due rs set bef t) (ht : t ≤ 5) : readS codes = .ok due codes.length [] := by
  have e := made_read h ht (n := 4096 - t) aft_nil
  rw [List.append_nil, show 4096 - t + t = IT by show _ = 4096; omega] at e
  refine e.trans ?_
  obtain ⟨k, hk⟩ : ∃ k, 4096 - t = k + 1 := ⟨4095 - t, by omega⟩
  rw [hk]; rfl
theorem read_end {codes : List Int} {due : List Dat} {rs : List Row} {set : Bool} {bef : Int} {t : Nat} (h : Made codes due rs set bef t) (ht : t ≤ 5) {e : Str × List Int × Nat} (he : e ∈ endw) : readS (codes ++ (10 :: e.2.1)) = .err ((codes.length + 1 + e.2.2 : Nat) : Int) := by
  have q := made_read h ht (n := 4096 - t) (end_aft he).1
  rw [show 4096 - t + t = IT by show _ = 4096; omega] at q
  refine q.trans ?_
  obtain ⟨k, hk⟩ : ∃ k, 4096 - t = k + 3 := ⟨4093 - t, by omega⟩
  rw [hk]
  exact end_err (by rw [h.ok.du.len]; have := h.ok.few; omega) he
end Mine

namespace Mine
open PySem PySem.W PySem.Calls PyProof.Rows

section
variable {cs codes : List Int} {found due ds : List Dat} {rs : List Row} {set : Bool} {bef p : Int} {t i m : Nat} {s : List Int} {d : Dat}
theorem told_rel (hok : cs.all okc = true) (hl : cs.length ≤ 4000) : ∀ m, 27 < m → RelP Dat.list ((orc m).p 27 [byt (ubs cs)]) (readS cs) := fun _ hm => read_ok hm (by omega) (p_dec (by decide) hl hok)
theorem dtold_ok (hm : 40 < m) (hok : cs.all okc = true) (hl : cs.length ≤ 4000) (h : readS cs = .ok found i s) (ht : found.all isTup = true) (hf : found.length ≤ 1000) : (orc m).p 40 [byt (ubs cs)] = .ok (.list found) := by
  have h2 := told_rel hok hl
  rw [h] at h2
  exact toldOk (r := .ok found i s) hm h2 ht (by omega)
theorem told_err (hm : 40 < m) (hok : cs.all okc = true) (hl : cs.length ≤ 4000) (h : readS cs = .err p) : (orc m).p 40 [byt (ubs cs)] = .ok (.int p) := by
  have h2 := told_rel hok hl
  rw [h] at h2
  exact toldOk (r := .err p) hm h2
theorem told_bad (hm : 40 < m) (hok : cs.all okc = true) (hl : cs.length ≤ 4000) : (orc m).p 40 [byt (ubs cs ++ [255])] = .ok (.int (ubs cs).length) :=
  toldOk (r := .err (ubs cs).length) hm fun _ hm => read_bad hm (p_bad (by decide) hl hok)
theorem du_tup (h : Du ds rs) : ds.all isTup = true := by
  induction h with
  | nil => rfl
  | cons _ ih => rw [List.all_cons, ih]; rfl
theorem du_kqd (h : Du ds rs) (hw : ∀ r ∈ rs, Wrt r) : kqdOk 8 (.list ds) = true ∧ kqdOk 8 (.list (ds.map dropP)) = true := by
  have e0 : ∀ ds, kqdOk 8 (.list ds) = ds.all (kqdOk 7) := fun _ => rfl
  rw [e0, e0]
  induction h with
  | nil => exact ⟨rfl, rfl⟩
  | cons _ ih =>
    rename_i r pl ds rs _
    have k := (hw r (.head _)).fine.kqd
    obtain ⟨a, b⟩ := ih fun x hx => hw x (.tail _ hx)
    refine ⟨?_, ?_⟩
    · rw [List.all_cons, a]
      show ((r.2 ++ [Dat.int pl]).all (kqdOk 6) && true) = true
      rw [List.all_append, k]; rfl
    · rw [List.map_cons, List.all_cons, b, drop_rl]
      show (r.2.all (kqdOk 6) && true) = true
      rw [k]; rfl
theorem eq_self (h : kqdOk 8 (.list ds) = true) : cmpD .Eq (.list ds) (.list ds) = some true ∧ cmpD .NotEq (.list ds) (.list ds) = some false := by
  have e1 : cmpD .Eq (.list ds) (.list ds) = if kqdOk 8 (.list ds) && kqdOk 8 (.list ds) then some (PyData.eqv (kqdP (.list ds)) (kqdP (.list ds))) else none := rfl
  have e2 : cmpD .NotEq (.list ds) (.list ds) = if kqdOk 8 (.list ds) && kqdOk 8 (.list ds) then some (!PyData.eqv (kqdP (.list ds)) (kqdP (.list ds))) else none := rfl
  have r := PySem.SeqAt.eqv_refl _ (kqd_lay 8 _ h).1
  rw [e1, e2, h, r]; exact ⟨rfl, rfl⟩
theorem comp_drop {O : Orc} {n : Nat} : ∀ {ds : List Dat} {rs : List Row}, Du ds rs → (∀ r ∈ rs, r.2.length ≤ 10) → evComp (evE O (n + 3)) (.sl (.var 0) none (some (.neg 1))) none [] ds = some (ds.map dropP) := fun h => by
  induction h with
  | nil => exact fun _ => rfl
  | cons _ ih =>
    rename_i r pl ds rs _
    intro hw
    have hl := hw r (.head _)
    have e0 : evComp (evE O (n + 3)) (.sl (.var 0) none (some (.neg 1))) none [] (rl r pl :: ds) = (match endsPlain (evE O (n + 3) (.sl (.var 0) none (some (.neg 1))) ⟨[some (rl r pl)], none, none⟩) with
        | none => none
        | some r => (evComp (evE O (n + 3)) (.sl (.var 0) none (some (.neg 1))) none [] ds).map (r :: ·)) := rfl
    have e1 : slD (rl r pl) none (some (-1)) = some (.tuple r.2) := by
      show (if sz (r.2 ++ [Dat.int pl]).length && true && true && !(r.2 ++ [Dat.int pl]).isEmpty then some (Dat.tuple (r.2 ++ [Dat.int pl]).dropLast) else none) = _
      rw [sz_ok (by rw [List.length_append]; show _ + 1 ≤ _; omega), List.dropLast_concat]
      cases r.2 <;> rfl
    rw [e0, ev_sl0 (x := rl r pl) (j := -1) rfl rfl e1, ih fun x hx => hw x (.tail _ hx), List.map_cons, drop_rl]; rfl
theorem row_len {r : Row} (h : Wrt r) : r.2.length ≤ 10 := by
  obtain ⟨_, _, _, _, h⟩ := h
  cases h <;> exact Nat.le_of_ble_eq_true rfl
end
end Mine

namespace Mine
open PySem PySem.W PySem.Calls PyProof.Rows

noncomputable def endD : List Dat := endw.map fun e => .tuple [.str e.1, .int e.2.2]
section
variable {codes : List Int} {due : List Dat} {rs : List Row} {set : Bool} {bef : Int} {t : Nat}
theorem ev_oct {m n : Nat} {x : IE} {σ : ASt} {l : List Int} (hm : 34 < m) (h1 : evE (orc m) n x σ = .ok (lst l) σ) (h : l.all okc = true) (hl : l.length ≤ 4000) : evE (orc m) (n + 1) (.callP 34 [x]) σ = .ok (byt (ubs l)) σ := ev_callP1 h1 (p_oct hm h (by omega))
theorem g_ends (h : Made codes due rs set bef t) (ht : t ≤ 5) : GenS 41 [lst codes] (· = .bool true) := by
  have ok := h.ok
  have l1 := ok.len
  refine gen_of rfl ⟨rfl, rfl, rfl⟩ fun st hs => ?_
  refine wp_cons (σ' := ⟨[some (lst codes), some (.list (endD.take 7)), none, none, none], none, some st⟩) (by kernel_rfl) ?_
  refine wp_cons (σ' := ⟨[some (lst codes), some (.list endD), none, none, none], none, some st⟩) (by kernel_rfl) ?_
  refine wp_asgU (Q := (· ∈ endD)) (ev1_callS (ds := [.list endD]) (fun _ => by exact rfl) (by decide) (g_pick (.inl rfl) (by decide) (by decide))) hs ?_
  rintro d st hd hs
  obtain ⟨e, he, rfl⟩ := List.mem_map.mp hd
  obtain ⟨_, e2, e3, e4, e5⟩ := end_aft he
  refine ⟨_, _, rfl, rfl, ?_⟩
  have hw : (codes ++ (10 :: e.2.1)).all okc = true := all_app ok.okc (all_cons e4 rfl)
  have hl : (codes ++ (10 :: e.2.1)).length ≤ 4000 := by rw [List.length_append, List.length_cons]; omega
  have hw1 : (codes ++ [10]).all okc = true := all_app ok.okc rfl
  have hl1 : (codes ++ [10]).length ≤ 4000 := by rw [List.length_append]; show _ + 1 ≤ _; omega
  have c1 : evE (orc 41) 40 (.cmp (.callP 40 [.callP 34 [.bin .Add (.bin .Add (.var 0) (.list [.const (.int 10)])) (.callP 33 [.var 2])]]) [.NotEq] [.bin .Add (.bin .Add (.blt .len (.var 0)) (.const (.int 1))) (.var 3)]) ⟨[some (lst codes), some (.list endD), some (.str e.1), some (.int e.2.2), none], none, some st⟩ = .ok (.bool false) ⟨[some (lst codes), some (.list endD), some (.str e.1), some (.int e.2.2), none], none, some st⟩ := by
    have p1 := ev_addl (O := orc 41) (n := 36) (a := codes ++ [10]) (b := e.2.1) (x := .bin .Add (.var 0) (.list [.const (.int 10)])) (y := .callP 33 [.var 2]) (σ := ⟨[some (lst codes), some (.list endD), some (.str e.1), some (.int e.2.2), none], none, some st⟩) (ev_addl rfl rfl (by show _ + 1 ≤ _; omega)) (ev_signs (by decide) (by exact rfl) e2 e3) (by omega)
    rw [List.append_assoc, List.singleton_append] at p1
    refine ev_cmp (x := .int ((codes.length + 1 + e.2.2 : Nat) : Int)) (y := .int ((codes.length : Int) + 1 + e.2.2)) (ev_callP1 (ev_oct (by decide) p1 hw hl) (told_err (by decide) hw hl (read_end h ht he))) (ev_bin (ev_bin (x := .int codes.length) (y := .int 1) (ev_blt (x := lst codes) rfl (len_ok (by omega))) rfl rfl) rfl rfl) ?_
    show some (((codes.length + 1 + e.2.2 : Nat) : Int) != (codes.length : Int) + 1 + e.2.2) = _
    rw [show ((codes.length + 1 + e.2.2 : Nat) : Int) = (codes.length : Int) + 1 + e.2.2 by omega, bne_self_eq_false]
  refine wp_if c1 (wp_nil ?_)
  refine wp_asg (Q := fun d => d = byt (ubs (codes ++ [10]))) (ev1_pure (fun st => ev_oct (by decide) (ev_addl (a := codes) (b := [10]) rfl rfl (by show _ + 1 ≤ _; omega)) hw1 hl1) rfl) hs ?_
  rintro _ st rfl hs
  have l4 := ubs_len hw1
  refine wp_ret (ev1_pure (fun st => ?_) rfl) hs
  have q1 : binD .Add (byt (ubs (codes ++ [10]))) (.bytes #[255]) = some (byt (ubs (codes ++ [10]) ++ [255])) := by
    show (if sz ((ubs (codes ++ [10])).toArray.size + 1) then some (Dat.bytes ((ubs (codes ++ [10])).toArray ++ #[255])) else none) = _
    rw [if_pos (sz_ok (by rw [List.size_toArray]; omega))]
    simp [byt]
  refine ev_and_t (ev_cmp (p := true) (ev_callP1 (ev_bin (x := byt (ubs (codes ++ [10]))) (y := .bytes #[255]) rfl rfl q1) (told_bad (by decide) hw1 hl1)) (ev_blt (x := byt (ubs (codes ++ [10]))) rfl (b_len (by omega))) ?_) (ev_cmp (x := .int 1) (y := .int 1) (p := true) (ev_callP1 (x := .bytes #[32, 60, 97]) rfl (told_err (cs := [32, 60, 97]) (by decide) rfl (by decide) (by kernel_rfl))) rfl rfl)
  show some (((ubs (codes ++ [10])).length : Int) == ((ubs (codes ++ [10])).length : Int)) = _
  rw [beq_self_eq_true]
end

/-! the deck -/
theorem orc_deck {ds : List Dat} : ∀ {m : Nat}, (orc m).p 30 ds = dkRes orcB ds
  | 0 => rfl
  | m + 1 => by
    show (if 30 = m ∧ m ≠ 30 then pAt (orc m) m ds else (orc m).p 30 ds) = _
    rw [if_neg (fun h => h.2 h.1.symm), orc_deck]
theorem ints_of : ∀ {l : List Int}, ints? (l.map Dat.int) = some l
  | [] => rfl
  | x :: l => by
    show (ints? (l.map Dat.int)).map (x :: ·) = _
    rw [ints_of]; rfl
theorem comp_int {ev : IE → ASt → Out Dat} (h : ∀ i : Int, ev (.blt .int (.var 0)) ⟨[some (.int i)], none, none⟩ = .ok (.int i) ⟨[some (.int i)], none, none⟩) : ∀ {l : List Int}, evComp ev (.blt .int (.var 0)) none [] (l.map Dat.int) = some (l.map Dat.int)
  | [] => rfl
  | c :: l => by
    have e0 : evComp ev (.blt .int (.var 0)) none [] (.int c :: l.map Dat.int) = (match endsPlain (ev (.blt .int (.var 0)) ⟨[some (.int c)], none, none⟩) with
        | none => none
        | some r => (evComp ev (.blt .int (.var 0)) none [] (l.map Dat.int)).map (r :: ·)) := rfl
    show evComp ev (.blt .int (.var 0)) none [] (.int c :: l.map Dat.int) = _
    rw [e0, h, comp_int h]; rfl
noncomputable def bDk : List IS := [.asg 2 (.bin .Mod (.bin .Add (.bin .Mult (.var 2) (.const (.int 31))) (.var 3)) (.const (.int 1000003)))]
theorem dk_loop {v0 v1 : Option Dat} : ∀ {l : List Int} {mx : Int} {v : Option Dat}, 0 ≤ mx ∧ mx < 2147483647 → ∃ mx' v', loopF 3 (evS orcB IT 30 bDk) (l.map Dat.int) ⟨[v0, v1, some (.int mx), v], none, none⟩ = .ok .next ⟨[v0, v1, some (.int mx'), v'], none, none⟩ ∧ 0 ≤ mx' ∧ mx' < 2147483647
  | [], mx, v, h => ⟨mx, v, rfl, h⟩
  | c :: l, mx, v, h => by
    have h1 := Int.fmod_nonneg_of_pos (mx * 31 + c) (b := 1000003) (by decide)
    have h2 := Int.fmod_lt_of_pos (mx * 31 + c) (b := 1000003) (by decide)
    obtain ⟨mx', v', e, k⟩ := dk_loop (l := l) (mx := Int.fmod (mx * 31 + c) 1000003) (v := some (.int c)) (v0 := v0) (v1 := v1) ⟨h1, by omega⟩
    refine ⟨mx', v', (loopF_step (one_of ?_)).trans e, k⟩
    show (evE orcB 40 _ _).bind _ = _
    rw [ev_bin (ev_bin (ev_bin (x := .int mx) (y := .int 31) (z := .int (mx * 31)) (σ₁ := ⟨[v0, v1, some (.int mx), some (.int c)], none, none⟩) rfl rfl ?_) (y := .int c) rfl rfl) (y := .int 1000003) rfl (modD (by decide))]
    · rfl
    · show (if small mx && small 31 then some (Dat.int (mx * 31)) else none) = _
      rw [smallI h.1 (by omega)]; rfl
theorem deck_ok' {sc : List Int} (hl : sc.length ≤ 1000) : ∃ st, deckOf (orc 42) 30 (lst sc) = some st ∧ Dk st := by
  have e1 : evS orcB IT 31 dk2 (dkSt (lst sc)) = evS orcB IT 31 (dk2.drop 1) ⟨[some (lst sc), some (lst (sc.take 40)), some (.int 59), none], none, none⟩ := by
    refine step_to ?_
    have hs : slD (lst sc) none (some 40) = some (lst (sc.take 40)) := by
      have e : pickD (sc.map Dat.int) none (some 40) = (sc.take 40).map Dat.int := by
        have a2 : kms_hi (some 40) (sc.map Dat.int).length = min 40 sc.length := by
          unfold kms_hi
          dsimp only
          rw [if_neg (by omega), List.length_map]; rfl
        have a1 : kms_lo none (sc.map Dat.int).length = 0 := rfl
        unfold pickD
        rw [a1, a2, List.drop_zero, Nat.sub_zero, ← List.map_take]
        by_cases q : 40 ≤ sc.length
        · rw [Nat.min_eq_left q]
        · rw [Nat.min_eq_right (by omega), List.take_of_length_le (Nat.le_refl _), List.take_of_length_le (by omega)]
      unfold slD
      dsimp only
      rw [if_pos (sz_ok (by rw [List.length_map]; omega)), e]
    have h1 : evE orcB 40 (.comp (.blt .int (.var 0)) (.sl (.var 0) none (some (.const (.int 40)))) []) (dkSt (lst sc)) = .ok (lst (sc.take 40)) (dkSt (lst sc)) := by
      show (evE orcB 39 (.sl (.var 0) none (some (.const (.int 40)))) _).bind _ = _
      rw [ev_sl0 (n := 38) (x := lst sc) (j := 40) rfl rfl hs]
      show (if sz ((sc.take 40).map Dat.int).length then ofO ((evComp (evE orcB 39) (.blt .int (.var 0)) none [] ((sc.take 40).map Dat.int)).map Dat.list) _ else .stuck) = _
      rw [if_pos (sz_ok (by rw [List.length_map, List.length_take]; omega)), comp_int fun _ => rfl]; rfl
    show (evL (evE orcB 40) [.comp (.blt .int (.var 0)) (.sl (.var 0) none (some (.const (.int 40)))) [], .const (.int 59)] (dkSt (lst sc))).bind _ = _
    rw [evL_cons h1 (evL_cons (d := .int 59) (σ₁ := dkSt (lst sc)) rfl rfl)]; rfl
  obtain ⟨mx, v, e2, k⟩ := dk_loop (l := sc.take 40) (mx := 59) (v := none) (v0 := some (lst sc)) (v1 := some (lst (sc.take 40))) ⟨by decide, by decide⟩
  have e3 : evS orcB IT 31 dk2 (dkSt (lst sc)) = .ok .next ⟨[some (lst sc), some (lst (sc.take 40)), some (.int mx), v], none, none⟩ := by
    rw [e1]
    exact one_of (stForL (d := lst (sc.take 40)) (ds := (sc.take 40).map Dat.int) rfl rfl (sz_ok (by rw [List.length_map, List.length_take]; omega)) e2)
  have e4 : dkRes orcB [lst sc] = .ok (.tuple [.list ((sc.take 40).map Dat.int).reverse, .int mx]) := dkRes_of ⟨_, _, _, _, rfl, e3, rfl⟩
  refine ⟨.deck (sc.take 40).reverse mx, ?_, k⟩
  unfold deckOf
  rw [orc_deck, e4, ← List.map_reverse]
  dsimp only
  rw [ints_of]
  dsimp only
  rw [if_pos (decide_eq_true (by rw [List.length_reverse, List.length_take]; omega))]

/-- the law's value -/
theorem law_true {sc : List Int} (hl : sc.length ≤ 1000) {m : Nat} (hm : 42 < m) : (orc m).p 42 [lst sc] = .ok (.bool true) := by
  obtain ⟨st, e0, hs⟩ := deck_ok' hl
  have main : WPc (orc 42) 31 f42.body ⟨[some (lst sc), none, none, none], none, none⟩ kN kB (· = .bool true) := by
    refine wp_cons (σ' := ⟨[some (lst sc), none, none, none], none, some st⟩) ?_ ?_
    · show (match deckOf (orc 42) 30 (lst sc) with
        | some st => Out.ok Fl.next (⟨[some (lst sc), none, none, none], none, some st⟩ : ASt)
        | none => .stuck) = _
      rw [e0]
    refine wp_asgU (Q := IsMade) (ev1_callS (ds := []) (fun _ => by exact rfl) (by decide) g_made) hs ?_
    rintro _ st ⟨codes, due, rs, set, bef, t, rfl, h, ht⟩ hs
    have ok := h.ok
    have l1 := ok.len
    have l2 := ok.few
    have hw := ok.rows.wrt
    have kq := du_kqd ok.du hw
    refine ⟨_, _, rfl, rfl, ?_⟩
    obtain ⟨_, st2, c2, hs2, rfl⟩ := ev1_callS1 (own := none) (m := 42) (n := 37) (f := 41) (x := .var 1) (vs := [some (lst sc), some (lst codes), some (.list due), none]) (Q := (· = lst codes)) (ev1_pure (fun _ => by exact rfl) rfl) (by decide) (fun _ q => by subst q; exact g_ends h ht) st hs
    have c1 : evE (orc 42) 39 (.cmp (.callP 40 [.callP 34 [.var 1]]) [.NotEq] [.var 2]) ⟨[some (lst sc), some (lst codes), some (.list due), none], none, some st⟩ = .ok (.bool false) ⟨[some (lst sc), some (lst codes), some (.list due), none], none, some st⟩ :=
      ev_cmp (x := .list due) (y := .list due) (ev_callP1 (ev_oct (l := codes) (by decide) (by exact rfl) ok.okc (by omega)) (dtold_ok (by decide) ok.okc (by omega) (read_made h ht) (du_tup ok.du) (by rw [ok.du.len]; omega))) rfl (eq_self kq.1).2
    refine wp_if (ev_or_f c1 (ev_not c2)) (wp_nil ?_)
    have hj := wj_ok hw
    obtain ⟨ds, j, e3, hd⟩ := reread (n := 4095 - rs.length) (found := []) (i := 0) ok.rows (by show 0 + _ ≤ _; omega)
    have hr : readS (wj rs) = .ok ds j [] := by
      rw [show 4095 - rs.length + 1 + rs.length = IT by show _ = 4096; omega] at e3
      have hn : nb (wj rs) = true := by
        cases rs with
        | nil => rfl
        | cons r rs =>
          obtain ⟨c, x, e, hc⟩ := wj_bh ok.rows
          rw [e]
          rcases hc with q | q | q | q <;> (subst q; rfl)
      show (pSkip IT 0 (wj rs)).bind _ = _
      rw [show IT = 4095 + 1 from rfl, skip_stop hn, ok_bind]
      exact e3
    have kd := du_kqd hd hw
    refine wp_asg (Q := fun d => d = .list ds) (ev1_pure (fun st => ev_callP1 (ev_callP1 (x := .list due) (by exact rfl) (p_ro (by decide) ok.du hw (by omega))) (dtold_ok (by decide) hj.1 (by omega) hr (du_tup hd) (by rw [hd.len]; omega))) rfl) hs2 ?_
    rintro _ st rfl hs
    have cp : ∀ (k : Nat) (es : List Dat), Du es rs → ∀ σ, evE (orc 42) 38 (.var k) σ = .ok (.list es) σ → evE (orc 42) 39 (.comp (.sl (.var 0) none (some (.neg 1))) (.var k) []) σ = .ok (.list (rs.map fun r => .tuple r.2)) σ := fun k es hd σ he => by
      show (evE (orc 42) 38 (.var k) σ).bind _ = _
      rw [he]
      show (if sz es.length then ofO ((evComp (evE (orc 42) 38) (.sl (.var 0) none (some (.neg 1))) none [] es).map Dat.list) σ else .stuck) = _
      rw [if_pos (sz_ok (by rw [hd.len]; omega)), comp_drop hd fun r hr => row_len (hw r hr), hd.drop]; rfl
    have k2 := kd.2
    rw [hd.drop] at k2
    exact wp_ret (ev1_pure (fun st => ev_cmp (cp 3 ds hd _ (by exact rfl)) (cp 2 due ok.du _ (by exact rfl)) (eq_self k2).1) rfl) hs
  obtain ⟨d, w, vs, own, st, e, _, rfl⟩ := main
  rw [orc_p (by decide) hm]
  rw [cont_top] at e
  show outP (evS (orc 42) IT 31 f42.body ⟨[some (lst sc), none, none, none], none, none⟩) = _
  rw [e]; rfl
end Mine

namespace Mine
open PySem PySem.W PySem.Calls PyProof.Rows

/-! the text's own world -/
noncomputable def FN : List Str := (["is_code", "is_surrogate", "is_scalar", "codes_of", "str_of", "ascii_of", "hex_code", "hex_value", "utf8_octets", "encode_utf8", "utf8_lead", "utf8_piece", "decode_utf8", "rule_is_blank", "rule_is_sign", "skip", "sees", "takes", "escaped", "quoted", "string", "bracket", "words", "reset", "strength", "starred", "relation", "read_rules", "rule_string", "rules_octets", "_law_deck", "_law_draw", "_law_pick", "_law_signs", "_law_octets", "_law_gap", "_law_string", "_law_reset", "_law_relation", "_law_made", "_law_told", "_law_ends_right", "law"] : List String).map Str.ofString
noncomputable def GN : List Str := (["MAX_CODE", "HIGH_FIRST", "LOW_LAST", "HEX_DIGITS", "LEAST_HEX", "UTF8_ALONE", "UTF8_NEVER", "UTF8_BROKEN", "UTF8_SHORT", "UTF8_TRAIL", "UTF8_PLANE", "_law_letters"] : List String).map Str.ofString
noncomputable def GlO (w : World) (mg mb : Str → Option Value) : Gl :=
  { prog := PySem.Challenge.rw_nt0025_01.row.prog, w, K := pre.heap_1 w.params, p := Mine.q, loose := looseW Mine.q [Str.ofString "UniError"], mg, mb, rC := 269,
    fn := fun n => FN.getD n "", isM := fun n => Nat.ble 15 n && Nat.ble n 26, isS := fun n => match fsAt n with | some f => f.st | none => true, frsh := fun n => n == 20, gn := fun n => GN.getD n "",
    xc := fun n => ([69, 57, 45] : List Nat).getD n 0, xn := fun n => (["BadRule", "BadCode", "BadEncoding"] : List Str).getD n "", dk := 30 }
noncomputable def faP (G : Gl) (id : Nat) : Addr := match nsIn G.K mainGlobals (G.fn id) with | some (some (.ref a)) => a | _ => 0
noncomputable def faM (G : Gl) (id : Nat) : Addr := match findIn G.K (.ref G.rC) (G.fn id) with | some (some (.ref a)) => a | _ => 0
section
variable {w : World} {mg mb : Str → Option Value}
theorem bne_ne {a b : Str} (h : (a == b) = false) : a ≠ b := fun q => by rw [q, beq_self_eq_true] at h; cases h
/-- a function that stands at the text's top -/
structure TopFn (G : Gl) (id : Nat) (fs : FS) : Prop where
  ns : nsIn G.K mainGlobals (G.fn id) = some (some (.ref (faP G id)))
  keep : keepIn G.K (.ref (faP G id)) = true
  en : Entry G (faP G id) fs id
structure MethFn (G : Gl) (id : Nat) (fs : FS) : Prop where
  m : MethAt G id (faM G id)
  keep : keepIn G.K (.ref (faM G id)) = true
  en : Entry G (faM G id) fs id
theorem en0 : TopFn (GlO w mg mb) 0 f0 := ⟨by kernel_rfl, by kernel_rfl, by kernel_rfl⟩
theorem en1 : TopFn (GlO w mg mb) 1 f1 := ⟨by kernel_rfl, by kernel_rfl, by kernel_rfl⟩
theorem en2 : TopFn (GlO w mg mb) 2 f2 := ⟨by kernel_rfl, by kernel_rfl, by kernel_rfl⟩
theorem en3 : TopFn (GlO w mg mb) 3 f3 := ⟨by kernel_rfl, by kernel_rfl, by kernel_rfl⟩
theorem en4 : TopFn (GlO w mg mb) 4 f4 := ⟨by kernel_rfl, by kernel_rfl, by kernel_rfl⟩
theorem en5 : TopFn (GlO w mg mb) 5 f5 := ⟨by kernel_rfl, by kernel_rfl, by kernel_rfl⟩
theorem en6 : TopFn (GlO w mg mb) 6 f6 := ⟨by kernel_rfl, by kernel_rfl, by kernel_rfl⟩
theorem en7 : TopFn (GlO w mg mb) 7 f7 := ⟨by kernel_rfl, by kernel_rfl, by kernel_rfl⟩
theorem en8 : TopFn (GlO w mg mb) 8 f8 := ⟨by kernel_rfl, by kernel_rfl, by kernel_rfl⟩
theorem en9 : TopFn (GlO w mg mb) 9 f9 := ⟨by kernel_rfl, by kernel_rfl, by kernel_rfl⟩
theorem en10 : TopFn (GlO w mg mb) 10 f10 := ⟨by kernel_rfl, by kernel_rfl, by kernel_rfl⟩
theorem en11 : TopFn (GlO w mg mb) 11 f11 := ⟨by kernel_rfl, by kernel_rfl, by kernel_rfl⟩
theorem en12 : TopFn (GlO w mg mb) 12 f12 := ⟨by kernel_rfl, by kernel_rfl, by kernel_rfl⟩
theorem en13 : TopFn (GlO w mg mb) 13 f13 := ⟨by kernel_rfl, by kernel_rfl, by kernel_rfl⟩
theorem en14 : TopFn (GlO w mg mb) 14 f14 := ⟨by kernel_rfl, by kernel_rfl, by kernel_rfl⟩
theorem en15 : MethFn (GlO w mg mb) 15 f15 := ⟨⟨by kernel_rfl, by kernel_rfl, by kernel_rfl, bne_ne (by kernel_rfl), bne_ne (by kernel_rfl)⟩, by kernel_rfl, by kernel_rfl⟩
theorem en16 : MethFn (GlO w mg mb) 16 f16 := ⟨⟨by kernel_rfl, by kernel_rfl, by kernel_rfl, bne_ne (by kernel_rfl), bne_ne (by kernel_rfl)⟩, by kernel_rfl, by kernel_rfl⟩
theorem en17 : MethFn (GlO w mg mb) 17 f17 := ⟨⟨by kernel_rfl, by kernel_rfl, by kernel_rfl, bne_ne (by kernel_rfl), bne_ne (by kernel_rfl)⟩, by kernel_rfl, by kernel_rfl⟩
theorem en18 : MethFn (GlO w mg mb) 18 f18 := ⟨⟨by kernel_rfl, by kernel_rfl, by kernel_rfl, bne_ne (by kernel_rfl), bne_ne (by kernel_rfl)⟩, by kernel_rfl, by kernel_rfl⟩
theorem en19 : MethFn (GlO w mg mb) 19 f19 := ⟨⟨by kernel_rfl, by kernel_rfl, by kernel_rfl, bne_ne (by kernel_rfl), bne_ne (by kernel_rfl)⟩, by kernel_rfl, by kernel_rfl⟩
theorem en20 : MethFn (GlO w mg mb) 20 f20 := ⟨⟨by kernel_rfl, by kernel_rfl, by kernel_rfl, bne_ne (by kernel_rfl), bne_ne (by kernel_rfl)⟩, by kernel_rfl, by kernel_rfl⟩
theorem en21 : MethFn (GlO w mg mb) 21 f21 := ⟨⟨by kernel_rfl, by kernel_rfl, by kernel_rfl, bne_ne (by kernel_rfl), bne_ne (by kernel_rfl)⟩, by kernel_rfl, by kernel_rfl⟩
theorem en22 : MethFn (GlO w mg mb) 22 f22 := ⟨⟨by kernel_rfl, by kernel_rfl, by kernel_rfl, bne_ne (by kernel_rfl), bne_ne (by kernel_rfl)⟩, by kernel_rfl, by kernel_rfl⟩
theorem en23 : MethFn (GlO w mg mb) 23 f23 := ⟨⟨by kernel_rfl, by kernel_rfl, by kernel_rfl, bne_ne (by kernel_rfl), bne_ne (by kernel_rfl)⟩, by kernel_rfl, by kernel_rfl⟩
theorem en24 : MethFn (GlO w mg mb) 24 f24 := ⟨⟨by kernel_rfl, by kernel_rfl, by kernel_rfl, bne_ne (by kernel_rfl), bne_ne (by kernel_rfl)⟩, by kernel_rfl, by kernel_rfl⟩
theorem en25 : MethFn (GlO w mg mb) 25 f25 := ⟨⟨by kernel_rfl, by kernel_rfl, by kernel_rfl, bne_ne (by kernel_rfl), bne_ne (by kernel_rfl)⟩, by kernel_rfl, by kernel_rfl⟩
theorem en26 : MethFn (GlO w mg mb) 26 f26 := ⟨⟨by kernel_rfl, by kernel_rfl, by kernel_rfl, bne_ne (by kernel_rfl), bne_ne (by kernel_rfl)⟩, by kernel_rfl, by kernel_rfl⟩
theorem en27 : TopFn (GlO w mg mb) 27 f27 := ⟨by kernel_rfl, by kernel_rfl, by kernel_rfl⟩
theorem en28 : TopFn (GlO w mg mb) 28 f28 := ⟨by kernel_rfl, by kernel_rfl, by kernel_rfl⟩
theorem en29 : TopFn (GlO w mg mb) 29 f29 := ⟨by kernel_rfl, by kernel_rfl, by kernel_rfl⟩
theorem en31 : TopFn (GlO w mg mb) 31 f31 := ⟨by kernel_rfl, by kernel_rfl, by kernel_rfl⟩
theorem en32 : TopFn (GlO w mg mb) 32 f32 := ⟨by kernel_rfl, by kernel_rfl, by kernel_rfl⟩
theorem en33 : TopFn (GlO w mg mb) 33 f33 := ⟨by kernel_rfl, by kernel_rfl, by kernel_rfl⟩
theorem en34 : TopFn (GlO w mg mb) 34 f34 := ⟨by kernel_rfl, by kernel_rfl, by kernel_rfl⟩
theorem en35 : TopFn (GlO w mg mb) 35 f35 := ⟨by kernel_rfl, by kernel_rfl, by kernel_rfl⟩
theorem en36 : TopFn (GlO w mg mb) 36 f36 := ⟨by kernel_rfl, by kernel_rfl, by kernel_rfl⟩
theorem en37 : TopFn (GlO w mg mb) 37 f37 := ⟨by kernel_rfl, by kernel_rfl, by kernel_rfl⟩
theorem en38 : TopFn (GlO w mg mb) 38 f38 := ⟨by kernel_rfl, by kernel_rfl, by kernel_rfl⟩
theorem en39 : TopFn (GlO w mg mb) 39 f39 := ⟨by kernel_rfl, by kernel_rfl, by kernel_rfl⟩
theorem en40 : TopFn (GlO w mg mb) 40 f40 := ⟨by kernel_rfl, by kernel_rfl, by kernel_rfl⟩
theorem en41 : TopFn (GlO w mg mb) 41 f41 := ⟨by kernel_rfl, by kernel_rfl, by kernel_rfl⟩
theorem en42 : TopFn (GlO w mg mb) 42 f42 := ⟨by kernel_rfl, by kernel_rfl, by kernel_rfl⟩
end
end Mine
namespace Mine
open PySem PySem.W PySem.Calls PyProof.Rows

/-! what the text's top gives -/
theorem inti_inv {o : Option (Option Value)} {n : Int} (h : (match o with | some (some (.int i _)) => i == n | _ => false) = true) : ∃ t, o = some (some (.int n t)) := by
  split at h
  · rename_i i t; exact ⟨t, by rw [eq_of_beq h]⟩
  · cases h
theorem stri_inv {o : Option (Option Value)} {n : Str} (h : (match o with | some (some (.str i _)) => i == n | _ => false) = true) : ∃ t, o = some (some (.str n t)) := by
  split at h
  · rename_i i t; exact ⟨t, by rw [eq_of_beq h]⟩
  · cases h
theorem byti_inv {o : Option (Option Value)} {n : Array UInt8} (h : (match o with | some (some (.bytes i _)) => i == n | _ => false) = true) : ∃ t, o = some (some (.bytes n t)) := by
  split at h
  · rename_i i t; exact ⟨t, by rw [eq_of_beq h]⟩
  · cases h
section
variable {w : World} {mg mb : Str → Option Value}
theorem g_int {x : Str} {n : Int} (h : (match nsIn (GlO w mg mb).K mainGlobals x with | some (some (.int i _)) => i == n | _ => false) = true) : ∃ v, nsIn (GlO w mg mb).K mainGlobals x = some (some v) ∧ ∀ h, (GlO w mg mb).K.In h → Rp h v (.int n) := let ⟨t, e⟩ := inti_inv h; ⟨_, e, fun _ _ => .int _ _⟩
theorem g_str {x : Str} {n : Str} (h : (match nsIn (GlO w mg mb).K mainGlobals x with | some (some (.str i _)) => i == n | _ => false) = true) : ∃ v, nsIn (GlO w mg mb).K mainGlobals x = some (some v) ∧ ∀ h, (GlO w mg mb).K.In h → Rp h v (.str n) := let ⟨t, e⟩ := stri_inv h; ⟨_, e, fun _ _ => .str _ _⟩
theorem g_byt {x : Str} {n : Array UInt8} (h : (match nsIn (GlO w mg mb).K mainGlobals x with | some (some (.bytes i _)) => i == n | _ => false) = true) : ∃ v, nsIn (GlO w mg mb).K mainGlobals x = some (some v) ∧ ∀ h, (GlO w mg mb).K.In h → Rp h v (.bytes n) := let ⟨t, e⟩ := byti_inv h; ⟨_, e, fun _ _ => .bytes _ _⟩
noncomputable def tupA (K : Frag) (x : Str) : Addr := match nsIn K mainGlobals x with | some (some (.ref a)) => a | _ => 0
noncomputable def tupO (K : Frag) (a : Addr) : Obj := match K.lookup a with | some o => o | none => ⟨.none, none, .plain, #[]⟩
noncomputable def tupL (o : Obj) : List Value := match o.data with | .seq vs _ => vs.toList | _ => []
noncomputable def tupN (o : Obj) : Nat := match o.data with | .seq _ n => n | _ => 0
noncomputable def intOf (v : Value) : Int := match v with | .int i _ => i | _ => 0
noncomputable def isInt (v : Value) : Bool := match v with | .int _ _ => true | _ => false
theorem ints_rp {h : Heap} : ∀ {vs : List Value}, vs.all isInt = true → RpL h vs (vs.map fun v => .int (intOf v))
  | [], _ => .nil
  | v :: vs, q => by
    have q := Bool.and_eq_true_iff.mp (List.all_cons (l := vs) ▸ q)
    refine .cons ?_ (ints_rp q.2)
    cases v
    case int => exact .int _ _
    all_goals exact nomatch q.1
theorem g_consts (j : Nat) (d : Dat) (hd : gv j = some d) : ∃ v, nsIn (GlO w mg mb).K mainGlobals ((GlO w mg mb).gn j) = some (some v) ∧ ∀ h, (GlO w mg mb).K.In h → Rp h v d := by
  match j with
  | 0 => cases hd; exact g_int (by kernel_rfl)
  | 1 => cases hd; exact g_int (by kernel_rfl)
  | 2 => cases hd; exact g_int (by kernel_rfl)
  | 3 => cases hd; exact g_byt (by kernel_rfl)
  | 4 => cases hd; exact g_int (by kernel_rfl)
  | 5 => cases hd; exact g_str (by kernel_rfl)
  | 6 => cases hd; exact g_str (by kernel_rfl)
  | 7 => cases hd; exact g_str (by kernel_rfl)
  | 8 => cases hd; exact g_str (by kernel_rfl)
  | 9 => cases hd; exact g_int (by kernel_rfl)
  | 10 => cases hd; exact g_int (by kernel_rfl)
  | 11 =>
    cases hd
    have e1 : nsIn (GlO w mg mb).K mainGlobals ((GlO w mg mb).gn 11) = some (some (.ref (tupA (GlO w mg mb).K ((GlO w mg mb).gn 11)))) := by kernel_rfl
    have e2 : (GlO w mg mb).K.lookup (tupA (GlO w mg mb).K ((GlO w mg mb).gn 11)) = some (tupO (GlO w mg mb).K (tupA (GlO w mg mb).K ((GlO w mg mb).gn 11))) := by kernel_rfl
    have e3 : (tupO (GlO w mg mb).K (tupA (GlO w mg mb).K ((GlO w mg mb).gn 11))).cls = .type "tuple" := by kernel_rfl
    have e4 : (tupO (GlO w mg mb).K (tupA (GlO w mg mb).K ((GlO w mg mb).gn 11))).data = .seq (tupL (tupO (GlO w mg mb).K (tupA (GlO w mg mb).K ((GlO w mg mb).gn 11)))).toArray (tupN (tupO (GlO w mg mb).K (tupA (GlO w mg mb).K ((GlO w mg mb).gn 11)))) := by kernel_rfl
    have e5 : (tupL (tupO (GlO w mg mb).K (tupA (GlO w mg mb).K ((GlO w mg mb).gn 11)))).all isInt = true := by kernel_rfl
    have e6 : (tupL (tupO (GlO w mg mb).K (tupA (GlO w mg mb).K ((GlO w mg mb).gn 11)))).map intOf = [97, 98, 99, 122, 48, 233, 945, 19968, 128512] := by kernel_rfl
    refine ⟨_, e1, fun h X => .tuple (X _ _ e2) e3 e4 ?_⟩
    have := ints_rp (h := h) e5
    have e7 := congrArg (List.map Dat.int) e6
    rw [List.map_map] at e7
    refine (show _ = [Dat.int 97, .int 98, .int 99, .int 122, .int 48, .int 233, .int 945, .int 19968, .int 128512] from e7) ▸ this
  | n + 12 => cases hd
theorem g_blt (b : Blt) : nsIn (GlO w mg mb).K mainGlobals (match b with | .len => "len" | .ord => "ord" | .chr => "chr" | .int => "int" | .str => "str" | .bytes => "bytes" | .list => "list" | .tuple => "tuple") = some none := by
  cases b <;> kernel_rfl
theorem g_rset : RdrSet (GlO w mg mb) := ⟨by kernel_rfl, by kernel_rfl, by kernel_rfl⟩
theorem g_mkr : MakesAt (GlO w mg mb) "RuleReader" (GlO w mg mb).rC fun d => some (.rdr d 0) := rdr_ok (fI := 184) (by kernel_rfl) (by kernel_rfl) (by kernel_rfl) (by kernel_rfl) (by kernel_rfl) (by kernel_rfl) (by kernel_rfl) g_rset (by kernel_rfl)
theorem g_mkx {c : Nat} (hc : c < 3) : MkOk (GlO w mg mb) c := by
  match c, hc with
  | 0, _ => exact exc_ok (fI := 29) (by kernel_rfl) (by kernel_rfl) (by kernel_rfl) (by kernel_rfl) (by kernel_rfl) (by kernel_rfl) (by kernel_rfl) (by kernel_rfl) (by kernel_rfl) (by kernel_rfl) (by kernel_rfl)
  | 1, _ => exact exc_ok (fI := 29) (by kernel_rfl) (by kernel_rfl) (by kernel_rfl) (by kernel_rfl) (by kernel_rfl) (by kernel_rfl) (by kernel_rfl) (by kernel_rfl) (by kernel_rfl) (by kernel_rfl) (by kernel_rfl)
  | 2, _ => exact exc_ok (fI := 29) (by kernel_rfl) (by kernel_rfl) (by kernel_rfl) (by kernel_rfl) (by kernel_rfl) (by kernel_rfl) (by kernel_rfl) (by kernel_rfl) (by kernel_rfl) (by kernel_rfl) (by kernel_rfl)
  | n + 3, h => exact absurd h (by omega)
theorem g_xget {c : Nat} (hc : c < 3) : ExcGet (GlO w mg mb).K ((GlO w mg mb).xc c) := by
  match c, hc with
  | 0, _ => exact ⟨by kernel_rfl, by kernel_rfl, by kernel_rfl, by kernel_rfl, by kernel_rfl⟩
  | 1, _ => exact ⟨by kernel_rfl, by kernel_rfl, by kernel_rfl, by kernel_rfl, by kernel_rfl⟩
  | 2, _ => exact ⟨by kernel_rfl, by kernel_rfl, by kernel_rfl, by kernel_rfl, by kernel_rfl⟩
  | n + 3, h => exact absurd h (by omega)
theorem g_rcls : hasDictIn (GlO w mg mb).K (GlO w mg mb).rC = true ∧ RdrCls (GlO w mg mb) "text" ∧ RdrCls (GlO w mg mb) "at" := ⟨by kernel_rfl, ⟨by kernel_rfl, by kernel_rfl⟩, ⟨by kernel_rfl, by kernel_rfl⟩⟩
theorem g_dk : nsIn (GlO w mg mb).K mainGlobals ((GlO w mg mb).fn (GlO w mg mb).dk) = some (some (.ref (faP (GlO w mg mb) 30))) ∧ keepIn (GlO w mg mb).K (.ref (faP (GlO w mg mb) 30)) = true ∧ DeckEntry (GlO w mg mb) (faP (GlO w mg mb) 30) := ⟨by kernel_rfl, by kernel_rfl, by kernel_rfl⟩
end
end Mine
namespace Mine
open PySem PySem.W PySem.Calls PyProof.Rows

/-! every function of the text, one upon the other -/
theorem FnOk.to {G : Gl} {O O' : Orc} {id : Nat} (x : FnOk G O id) (hp : O'.p id = O.p id) (hs : O'.s id = O.s id) : FnOk G O' id :=
  ⟨fun q => let ⟨fa, P⟩ := x.pure q; ⟨fa, P.ns, P.keep, fun A F Y outer s vs ds p r => by rw [hp]; exact P.go A F Y outer s vs ds p r⟩,
   fun q => let ⟨fa, P⟩ := x.state q; ⟨fa, P.meth, P.ns, P.keep, fun A F X Y outer s o st vs ds p h r => by rw [hs]; exact P.go A F X Y outer s o st vs ds p h r⟩⟩
theorem orc_dk : ∀ n ds, (orc n).p 30 ds = dkRes orcB ds
  | 0, ds => (if_pos rfl : (if 30 = 30 then dkRes orcB ds else .stuck) = _)
  | n + 1, ds => (if_neg fun q : 30 = n ∧ n ≠ 30 => q.2 q.1.symm).trans (orc_dk n ds)
theorem orc_g : ∀ n, (orc n).g = gv
  | 0 => rfl
  | _ + 1 => rfl
section
variable {w : World} {mg mb : Str → Option Value}
theorem g_w {O : Orc} {lim : Nat} (hg : O.g = gv) (hf : ∀ id, id < lim → FnOk (GlO w mg mb) O id) (hd : ∃ fa, MakesAt (GlO w mg mb) ((GlO w mg mb).fn (GlO w mg mb).dk) fa (deckOf O (GlO w mg mb).dk)) : World0 (GlO w mg mb) O lim :=
  ⟨fun j d h => g_consts j d (hg ▸ h), hf, g_blt, by kernel_rfl, g_rcls.1, g_rcls.2.1, g_rcls.2.2, fun c h => g_mkx h, g_mkr, hd, g_rset, fun c h => g_xget h⟩
theorem g_wB : World0 (GlO w mg mb) orcB 0 := g_w rfl (fun id h => absurd h (Nat.not_lt_zero id)) ⟨_, g_dk.1, g_dk.2.1, fun d st h => nomatch h⟩
theorem g_mkd {O : Orc} (h : ∀ ds, O.p 30 ds = dkRes orcB ds) : ∃ fa, MakesAt (GlO w mg mb) ((GlO w mg mb).fn (GlO w mg mb).dk) fa (deckOf O (GlO w mg mb).dk) := ⟨_, deck_ok (O := O) (O' := orcB) g_wB g_dk.1 g_dk.2.1 g_dk.2.2 h⟩
theorem w_0 : World0 (GlO w mg mb) (orc 0) 0 := g_w rfl (fun id h => absurd h (Nat.not_lt_zero id)) (g_mkd (orc_dk 0))
theorem w_step {n : Nat} (W : World0 (GlO w mg mb) (orc n) n) (F : FnOk (GlO w mg mb) (orc (n + 1)) n) : World0 (GlO w mg mb) (orc (n + 1)) (n + 1) :=
  g_w rfl (fun id h => if e : id = n then e ▸ F else (W.fns id (Nat.lt_of_le_of_ne (Nat.le_of_lt_succ h) e)).to (funext fun ds => if_neg fun q => e q.1) (funext fun st => funext fun ds => if_neg e)) (g_mkd (orc_dk (n + 1)))
theorem p_at {id : Nat} {fs : FS} (hf : fsAt id = some fs) (h0 : fs.st = false) (h30 : id ≠ 30) (ds : List Dat) : (orc (id + 1)).p id ds = outP (runFn (orc id) fs none ds) := by
  refine (if_pos ⟨rfl, h30⟩).trans ?_
  unfold pAt
  rw [hf]
  show (if fs.st = true then _ else _) = _
  rw [h0]
  rfl
theorem s_at {id : Nat} {fs : FS} (hf : fsAt id = some fs) (h0 : fs.st = true) (st : St) (ds : List Dat) : (orc (id + 1)).s id st ds = outS' (id == 20) (orc id) fs st ds := by
  refine (if_pos rfl).trans ?_
  unfold sAt
  rw [hf]
  exact if_pos h0
theorem isS_at {id : Nat} {fs : FS} (hf : fsAt id = some fs) : (GlO w mg mb).isS id = fs.st := by
  show (match fsAt id with | some f => f.st | none => true) = _
  rw [hf]
theorem fn_top {id : Nat} {fs : FS} (W : World0 (GlO w mg mb) (orc id) id) (t : TopFn (GlO w mg mb) id fs) (hf : fsAt id = some fs) (hm : (GlO w mg mb).isM id = false) (h30 : id ≠ 30) : FnOk (GlO w mg mb) (orc (id + 1)) id :=
  ⟨fun q => ⟨_, pure_ok W t.ns t.keep t.en ((isS_at hf).symm.trans q) (p_at hf ((isS_at hf).symm.trans q) h30)⟩,
   fun q => ⟨_, state_ok W (fun z => Bool.noConfusion (hm.symm.trans z)) (fun _ => t.ns) t.keep t.en ((isS_at hf).symm.trans q) (s_at hf ((isS_at hf).symm.trans q))⟩⟩
theorem fn_meth {id : Nat} {fs : FS} (W : World0 (GlO w mg mb) (orc id) id) (t : MethFn (GlO w mg mb) id fs) (hf : fsAt id = some fs) (hm : (GlO w mg mb).isM id = true) (hs : fs.st = true) : FnOk (GlO w mg mb) (orc (id + 1)) id :=
  ⟨fun q => Bool.noConfusion (hs.symm.trans ((isS_at hf).symm.trans q)),
   fun q => ⟨_, state_ok W (fun _ => t.m) (fun z => Bool.noConfusion (hm.symm.trans z)) t.keep t.en hs (s_at hf hs)⟩⟩
theorem fn_dk : FnOk (GlO w mg mb) (orc 31) 30 := ⟨fun q => (by cases q), fun _ => ⟨_, (fun z => nomatch z), (fun _ => g_dk.1), g_dk.2.1, fun _ _ _ _ _ _ _ _ _ _ _ _ _ => trivial⟩⟩
theorem w_1 : World0 (GlO w mg mb) (orc 1) 1 := w_step w_0 (fn_top w_0 en0 rfl rfl (by decide))
theorem w_2 : World0 (GlO w mg mb) (orc 2) 2 := w_step w_1 (fn_top w_1 en1 rfl rfl (by decide))
theorem w_3 : World0 (GlO w mg mb) (orc 3) 3 := w_step w_2 (fn_top w_2 en2 rfl rfl (by decide))
theorem w_4 : World0 (GlO w mg mb) (orc 4) 4 := w_step w_3 (fn_top w_3 en3 rfl rfl (by decide))
theorem w_5 : World0 (GlO w mg mb) (orc 5) 5 := w_step w_4 (fn_top w_4 en4 rfl rfl (by decide))
theorem w_6 : World0 (GlO w mg mb) (orc 6) 6 := w_step w_5 (fn_top w_5 en5 rfl rfl (by decide))
theorem w_7 : World0 (GlO w mg mb) (orc 7) 7 := w_step w_6 (fn_top w_6 en6 rfl rfl (by decide))
theorem w_8 : World0 (GlO w mg mb) (orc 8) 8 := w_step w_7 (fn_top w_7 en7 rfl rfl (by decide))
theorem w_9 : World0 (GlO w mg mb) (orc 9) 9 := w_step w_8 (fn_top w_8 en8 rfl rfl (by decide))
theorem w_10 : World0 (GlO w mg mb) (orc 10) 10 := w_step w_9 (fn_top w_9 en9 rfl rfl (by decide))
theorem w_11 : World0 (GlO w mg mb) (orc 11) 11 := w_step w_10 (fn_top w_10 en10 rfl rfl (by decide))
theorem w_12 : World0 (GlO w mg mb) (orc 12) 12 := w_step w_11 (fn_top w_11 en11 rfl rfl (by decide))
theorem w_13 : World0 (GlO w mg mb) (orc 13) 13 := w_step w_12 (fn_top w_12 en12 rfl rfl (by decide))
theorem w_14 : World0 (GlO w mg mb) (orc 14) 14 := w_step w_13 (fn_top w_13 en13 rfl rfl (by decide))
theorem w_15 : World0 (GlO w mg mb) (orc 15) 15 := w_step w_14 (fn_top w_14 en14 rfl rfl (by decide))
theorem w_16 : World0 (GlO w mg mb) (orc 16) 16 := w_step w_15 (fn_meth w_15 en15 rfl rfl rfl)
theorem w_17 : World0 (GlO w mg mb) (orc 17) 17 := w_step w_16 (fn_meth w_16 en16 rfl rfl rfl)
theorem w_18 : World0 (GlO w mg mb) (orc 18) 18 := w_step w_17 (fn_meth w_17 en17 rfl rfl rfl)
theorem w_19 : World0 (GlO w mg mb) (orc 19) 19 := w_step w_18 (fn_meth w_18 en18 rfl rfl rfl)
theorem w_20 : World0 (GlO w mg mb) (orc 20) 20 := w_step w_19 (fn_meth w_19 en19 rfl rfl rfl)
theorem w_21 : World0 (GlO w mg mb) (orc 21) 21 := w_step w_20 (fn_meth w_20 en20 rfl rfl rfl)
theorem w_22 : World0 (GlO w mg mb) (orc 22) 22 := w_step w_21 (fn_meth w_21 en21 rfl rfl rfl)
theorem w_23 : World0 (GlO w mg mb) (orc 23) 23 := w_step w_22 (fn_meth w_22 en22 rfl rfl rfl)
theorem w_24 : World0 (GlO w mg mb) (orc 24) 24 := w_step w_23 (fn_meth w_23 en23 rfl rfl rfl)
theorem w_25 : World0 (GlO w mg mb) (orc 25) 25 := w_step w_24 (fn_meth w_24 en24 rfl rfl rfl)
theorem w_26 : World0 (GlO w mg mb) (orc 26) 26 := w_step w_25 (fn_meth w_25 en25 rfl rfl rfl)
theorem w_27 : World0 (GlO w mg mb) (orc 27) 27 := w_step w_26 (fn_meth w_26 en26 rfl rfl rfl)
theorem w_28 : World0 (GlO w mg mb) (orc 28) 28 := w_step w_27 (fn_top w_27 en27 rfl rfl (by decide))
theorem w_29 : World0 (GlO w mg mb) (orc 29) 29 := w_step w_28 (fn_top w_28 en28 rfl rfl (by decide))
theorem w_30 : World0 (GlO w mg mb) (orc 30) 30 := w_step w_29 (fn_top w_29 en29 rfl rfl (by decide))
theorem w_31 : World0 (GlO w mg mb) (orc 31) 31 := w_step w_30 fn_dk
theorem w_32 : World0 (GlO w mg mb) (orc 32) 32 := w_step w_31 (fn_top w_31 en31 rfl rfl (by decide))
theorem w_33 : World0 (GlO w mg mb) (orc 33) 33 := w_step w_32 (fn_top w_32 en32 rfl rfl (by decide))
theorem w_34 : World0 (GlO w mg mb) (orc 34) 34 := w_step w_33 (fn_top w_33 en33 rfl rfl (by decide))
theorem w_35 : World0 (GlO w mg mb) (orc 35) 35 := w_step w_34 (fn_top w_34 en34 rfl rfl (by decide))
theorem w_36 : World0 (GlO w mg mb) (orc 36) 36 := w_step w_35 (fn_top w_35 en35 rfl rfl (by decide))
theorem w_37 : World0 (GlO w mg mb) (orc 37) 37 := w_step w_36 (fn_top w_36 en36 rfl rfl (by decide))
theorem w_38 : World0 (GlO w mg mb) (orc 38) 38 := w_step w_37 (fn_top w_37 en37 rfl rfl (by decide))
theorem w_39 : World0 (GlO w mg mb) (orc 39) 39 := w_step w_38 (fn_top w_38 en38 rfl rfl (by decide))
theorem w_40 : World0 (GlO w mg mb) (orc 40) 40 := w_step w_39 (fn_top w_39 en39 rfl rfl (by decide))
theorem w_41 : World0 (GlO w mg mb) (orc 41) 41 := w_step w_40 (fn_top w_40 en40 rfl rfl (by decide))
theorem w_42 : World0 (GlO w mg mb) (orc 42) 42 := w_step w_41 (fn_top w_41 en41 rfl rfl (by decide))
theorem law_at : ∃ fa, PureAt (GlO w mg mb) (orc 43) 42 fa := (fn_top w_42 en42 rfl rfl (by decide)).pure rfl
end
end Mine
set_option maxHeartbeats 8000000
namespace Mine
open PySem PySem.W PySem.Calls PyProof.Rows

/-! the law's own walk -/
theorem well_list {P : Params} {h : Heap} {l : Addr} {vs : List Value} {xs : List WData} (hW : Well P h (.ref l) (.list xs)) (hL : h.IsList l vs.toArray) : h.get? l = some { cls := .type "list", data := .seq vs.toArray } := by
  cases hW with
  | list e q =>
    obtain ⟨o, e', c, n, d⟩ := hL
    rw [e] at e'
    cases Option.some.inj e'
    injection d with d1
    rw [e, d1]
theorem fin_law {w : World} {s₁ : Shared} {mg mb : Str → Option Value} {fa l : Addr} {vs : List Value} {is : List Int} {nm : Str} {R : Result → Shared → Prop} (hnm : nm = (GlO w mg mb).fn 42) (KX : (pre.heap_1 w.params).In s₁.heap) (T : TopRead Mine.q (looseW Mine.q [Str.ofString "UniError"]) mg mb s₁.heap) (hmg : mg nm = some (.ref fa))
    (hL : s₁.heap.get? l = some { cls := .type "list", data := .seq vs.toArray }) (hI : IntsAre vs is) (hn : is.length ≤ 1000) (k : ∀ h' tk, (∀ b o, s₁.heap.get? b = some o → h'.get? b = some o) → R (.ok (.ret (.bool true))) { s₁ with heap := h', toks := tk }) :
    codeAny (model PySem.Challenge.rw_nt0025_01.row.prog w) callerA (.call (.ref fa) ⟨[.ref l], []⟩) R s₁ := by
  obtain ⟨fa', P⟩ := @law_at w mg mb
  have e : fa' = fa := by
    have := mg_of KX T.g P.ns
    rw [← hnm, hmg] at this
    cases this
    rfl
  subst e
  have pre : Pre (GlO w mg mb) callerA [] [] [] [] s₁ 43 := ⟨⟨rfl, rfl, (fun _ h => nomatch h), (fun _ h => nomatch h)⟩, (fun _ h => nomatch h), (fun _ h => nomatch h), (fun _ h => nomatch h), ⟨by decide, by decide⟩, ⟨KX, T⟩⟩
  have go := P.go callerA [] [] [] s₁ [.ref l] [lst is] pre (.cons (.list hL (RpL.of_ints hI)) .nil)
  rw [law_true hn (by decide)] at go
  refine codeAny_mono go fun r s' ⟨v, h', tk, er, es, kf, rv, _⟩ => ?_
  cases rv
  subst er
  subst es
  exact k h' tk fun b o e => kf.kp b o (fun q => nomatch q) (fun q => nomatch q) e
theorem fin : PySem.Challenge.rw_nt0025_01.Holds := by
  refine holds_law said fun sd => ?_
  refine holds_open (q := Mine.q) (loose := [Str.ofString "UniError"]) (Xt := Xt) (XP := XL Mine.q []) (Yf := Hook.obs Hk) (Ya := Hook.val Hk) (YP := Hook.says Hk) (N := 5286) hl (Hook.of Hk) (Hook.keeps Hk) (fun s e => xl_of s (Bool.and_eq_true_iff.mp e).1) XL.keeps (by rfl) (by rfl) (by rfl) (fun s e => recFacts_of (Bool.and_eq_true_iff.mp e).2) (by rfl) sd (by decide +kernel) ⟨rfl, rfl, rfl, rfl, rfl, by decide +kernel⟩ ?hw ?hc
  case hw => w_witness2
  case hc =>
    intro w s₀ s₁ mg mb G Y fa o pm cd doc dV kV ho hd hcd hD hmg hg args vals as hpre hlay hrd hwl hlo
    have KX := kIn_of Y
    refine Ground.open G ?_
    intro T B D TE TW
    clear hD hcd hd ho
    wrow_args hpre hlay hrd hwl hlo
    all_goals (first | refine callC_kw (enter_call ?_) | refine enter_call ?_ | refine callC_kw (enter_callW ?_) | refine enter_callW ?_ | w_how)
    rename_i w5 _ _ _ _ _ _ _ _ _ _ hL ra w1 r0 hI hr hc _
    refine fin_law rfl KX (topRead_of T) hmg (well_list w1 hL) hI (by omega) fun h' tk kp => GoodW.toG ⟨.inl ⟨.bool true, .bool true, [], rfl, fun cls => rfl, .bool _, ?post, fun _ => ⟨.nil, (fun _ q => nomatch q)⟩⟩, kp, rfl, hg⟩
    kernel_rfl
end Mine

theorem PySem.Challenge.cw_nt0025_01_holds : PySem.Challenge.rw_nt0025_01.Holds :=
  Mine.fin
