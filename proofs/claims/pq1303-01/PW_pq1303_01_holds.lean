import PyProof.Rows.All
import Wide.All
import OpenK.AllK
import Wide.FinOn
import PyProof.AttrMissHeap
import PyProof.DictTable
import PyProof.EnumStmt
import PyProof.ExcArgs
import PyProof.ExcBaseAll.Exception
import PyProof.ExcInit
import PyProof.InstStoreFacts
import PyProof.NsDelKeeps
import PyProof.Rows.ListMulArg
import KE.BytesMake
import KE.KDictLaws
import KE.KDictList
import Lean
import PySem.Challenge.RW_pq1303_01
set_option Elab.async false
section
open PySem PySem.W PyProof.Rows
set_option Elab.async false
set_option tactic.hygienic false
set_option maxRecDepth 100000
set_option maxHeartbeats 8000000
namespace Mine

noncomputable def topRunT (tb : String → Option Builtin) (p : Program) (w : World) (n₀ : Nat) (ann : Option Value) : Nat → SharedT → Thread → Option SharedT
  | 0, _, _ => none
  | n + 1, s, t => match through t with
    | true => some s
    | false => match stepOk n₀ ann t with
      | false => none
      | true => match stepT (denote tb) p w s t with
        | some (s', t') => topRunT tb p w n₀ ann n s' t'
        | none => none
theorem topRunT_of {tb : String → Option Builtin} {p : Program} {w : World} {n₀ : Nat} {ann : Option Value} : ∀ {n : Nat} {s s' : SharedT} {t : Thread}, topRunT tb p w n₀ ann n s t = some s' → topRun tb p w n₀ ann n s.abs t = some s'.abs
  | 0, _, _, _, h => by cases h
  | n + 1, s, s', t, h => by
    unfold topRunT at h
    unfold topRun
    cases he : through t with
    | true => rw [he] at h; cases h; rfl
    | false =>
      rw [he] at h
      cases hk : stepOk n₀ ann t with
      | false => rw [hk] at h; cases h
      | true =>
        rw [hk] at h
        cases hs : stepT (denote tb) p w s t with
        | none => rw [hs] at h; cases h
        | some r => obtain ⟨s₂, t₂⟩ := r; rw [hs] at h; rw [stepT_spec hs]; exact topRunT_of h

/-- as LeftO.of_pieces, the run and the looks in one, the state behind the top not named -/
theorem leftO_of {p q : Program} {loose : List Str} {Xt : Shared → Bool} {α : Type} {Yf : Shared → α} {Ya : World → α} {N : Nat} {g0 : Bool} {H₀ : Params → Heap} {T₀ : Params → BT} {n₀ : Nat} {life : Params → Life} {gs₀ : Array GenState} {d₀ : Drawn} {k₀ : Nat} {m₀ : Nat} {ann : Option Value}
    (open_ : ∀ w : World, (fencedOpening treeTable p w N).map (fun s => (s.heap, s.gens, s.drawn, s.toks)) = some (H₀ w.params, gs₀, d₀, k₀))
    (tree : ∀ w : World, absHeap (T₀ w.params) n₀ (life w.params) = H₀ w.params)
    (size : ∀ w : World, ((H₀ w.params).isNs mainGlobals && gs₀.size == 0, (H₀ w.params).objs.size, (H₀ w.params).nsMap mainGlobals "__annotations__") = (true, m₀, ann))
    (looks : ∀ w : World, (fun os => (topRunT treeTable p w m₀ ann N ⟨T₀ w.params, n₀, life w.params, gs₀, d₀, k₀, os⟩ (topStub p)).map fun s => ((staticsOk (importedModules p.main.body) (H₀ w.params) s.abs.heap && namesBound p s.abs.heap && gensDone s.abs && laidKept (H₀ w.params) s.abs.heap),
        openSeen q loose (importedModules p.main.body) Xt g0 s.abs, Yf s.abs)) = fun _ => some (true, openGood q loose, Ya w)) : LeftO p q loose Xt Yf Ya N g0 := fun w => by
  obtain ⟨⟨h, gs, d, k, os⟩, e, e'⟩ := Option.map_eq_some_iff.mp (open_ w)
  obtain ⟨rfl, rfl, rfl, rfl⟩ : h = H₀ w.params ∧ gs = gs₀ ∧ d = d₀ ∧ k = k₀ := by simpa using e'
  obtain ⟨z1, z2, z3⟩ : _ ∧ _ ∧ _ := by simpa only [Prod.mk.injEq] using size w
  obtain ⟨s₁, r, l⟩ := Option.map_eq_some_iff.mp (congrFun (looks w) os)
  obtain ⟨l1, l2, l3⟩ : _ ∧ _ ∧ _ := by simpa only [Prod.mk.injEq] using l
  have r := topRunT_of r
  have e0 : (SharedT.abs ⟨T₀ w.params, n₀, life w.params, gs, d, k, os⟩) = ⟨H₀ w.params, gs, d, k, os⟩ := by
    show Shared.mk (absHeap (T₀ w.params) n₀ (life w.params)) gs d k os = _
    rw [tree w]
  rw [e0] at r
  have t : topFrom treeTable p w N ⟨H₀ w.params, gs, d, k, os⟩ = some s₁.abs := by
    unfold topFrom
    dsimp only
    rw [z1, z2, z3, r]
    show (match staticsOk (importedModules p.main.body) (H₀ w.params) s₁.abs.heap && namesBound p s₁.abs.heap && gensDone s₁.abs && laidKept (H₀ w.params) s₁.abs.heap with | true => _ | false => _) = _
    rw [l1]
  unfold openEnds
  rw [e]
  show (topFrom treeTable p w N _).map _ = _
  rw [t]
  exact congrArg some (Prod.ext l2 l3)

noncomputable def bt0 (P : Params) : BT := ((boot_heap P).objs.toList.zipIdx).foldl (fun t x => t.ins x.2 x.1) .nil
noncomputable def life0 (P : Params) : Life := (boot_heap P).life
abbrev prog : Program := PySem.Challenge.pw_pq1303_01
noncomputable def V : Program := view prog [0, 2, 3, 4, 5, 6, 7, 8, 9, 10, 11, 12, 13, 14, 15, 17, 18, 19, 20, 21, 22, 24, 25, 26, 27, 28, 29, 30, 31, 33, 34, 35, 37, 38, 40, 41, 42, 43, 44, 45, 46, 47, 48, 49, 50, 51, 52, 53, 54, 55]
noncomputable def loose : List Str := [Str.ofString "UniError", Str.ofString "_law_sorts"]
noncomputable def stAt (i : Nat) : Stmt := (prog.main.body[i]?).getD default
noncomputable def stIn (i j : Nat) : Stmt := match stAt i with | .ClassDef (body := b) .. => (b[j]?).getD default | _ => default
noncomputable def fnName (s : Stmt) : Str := match s with | .FunctionDef n .. => n | _ => default
noncomputable def fnArgs (s : Stmt) : Arguments := match s with | .FunctionDef (args := a) .. => a | _ => default
noncomputable def fnBody (s : Stmt) : List Stmt := match s with | .FunctionDef (body := b) .. => b | _ => []
noncomputable def fnScope (s : Stmt) : Scope := match s with | .FunctionDef (scope := sc) .. => sc | _ => default
noncomputable def fnD (s : Stmt) (qual : Str) (dV pm cd : Value) : Obj := ⟨.type "function", none, .func (fnOf (fnName s) qual (fnArgs s) (fnBody s) (fnScope s) dV .none .none pm none cd .none), #[]⟩
noncomputable def K (P : Params) : Frag := [
  (1, ⟨(.type "dict"), none, (.dict #[⟨PyData.keyHash P (Str.ofString "builtins"), (.str (Str.ofString "builtins") 162), (.ref 4)⟩, ⟨PyData.keyHash P (Str.ofString "__main__"), (.str (Str.ofString "__main__") 163), (.ref 5)⟩] 2), #[]⟩),
  (2, ⟨.none, none, (.dict #[⟨PyData.keyHash P (Str.ofString "type.__subclasses__.Exception.0"), (.str (Str.ofString "type.__subclasses__.Exception.0") 229), (.int (39) 0)⟩, ⟨PyData.keyHash P (Str.ofString "type.__subclasses__.Exception.n"), (.str (Str.ofString "type.__subclasses__.Exception.n") 230), (.int (1) 0)⟩] 2), #[]⟩),
  (3, ⟨(.type "dict"), none, (.dict #[⟨PyData.keyHash P (Str.ofString "__name__"), (.str (Str.ofString "__name__") 165), (.str (Str.ofString "law_pq1303_01") 607)⟩, ⟨PyData.keyHash P (Str.ofString "__doc__"), (.str (Str.ofString "__doc__") 166), .none⟩, ⟨PyData.keyHash P (Str.ofString "__package__"), (.str (Str.ofString "__package__") 167), .none⟩, ⟨PyData.keyHash P (Str.ofString "__loader__"), (.str (Str.ofString "__loader__") 168), (.builtin "__main__.__loader__#opaque")⟩, ⟨PyData.keyHash P (Str.ofString "__spec__"), (.str (Str.ofString "__spec__") 169), .none⟩, ⟨PyData.keyHash P (Str.ofString "__annotations__"), (.str (Str.ofString "__annotations__") 170), (.ref 6)⟩, ⟨PyData.keyHash P (Str.ofString "__builtins__"), (.str (Str.ofString "__builtins__") 171), (.ref 4)⟩, ⟨PyData.keyHash P (Str.ofString "__file__"), (.str (Str.ofString "__file__") 173), (.str (Str.ofString "/claim/cut.py") 172)⟩, ⟨PyData.keyHash P (Str.ofString "__cached__"), (.str (Str.ofString "__cached__") 174), .none⟩, ⟨PyData.keyHash P (Str.ofString "_wall"), (.str (Str.ofString "_wall") 193), (.ref 21)⟩, ⟨PyData.keyHash P (Str.ofString "MAX_CODE"), (.str (Str.ofString "MAX_CODE") 197), (.int (1114111) 196)⟩, ⟨PyData.keyHash P (Str.ofString "HEX_DIGITS"), (.str (Str.ofString "HEX_DIGITS") 199), (.bytes #[48, 49, 50, 51, 52, 53, 54, 55, 56, 57, 65, 66, 67, 68, 69, 70] 198)⟩, ⟨PyData.keyHash P (Str.ofString "LEAST_HEX"), (.str (Str.ofString "LEAST_HEX") 201), (.int (4) 200)⟩, ⟨PyData.keyHash P (Str.ofString "MOST_HEX"), (.str (Str.ofString "MOST_HEX") 203), (.int (6) 202)⟩, ⟨PyData.keyHash P (Str.ofString "UniError"), (.str (Str.ofString "UniError") 232), (.ref 39)⟩, ⟨PyData.keyHash P (Str.ofString "BadCode"), (.str (Str.ofString "BadCode") 248), (.ref 52)⟩, ⟨PyData.keyHash P (Str.ofString "BadRow"), (.str (Str.ofString "BadRow") 264), (.ref 64)⟩, ⟨PyData.keyHash P (Str.ofString "codes_of"), (.str (Str.ofString "codes_of") 270), (.ref 71)⟩, ⟨PyData.keyHash P (Str.ofString "octets_of_ascii"), (.str (Str.ofString "octets_of_ascii") 279), (.ref 78)⟩, ⟨PyData.keyHash P (Str.ofString "ascii_of"), (.str (Str.ofString "ascii_of") 285), (.ref 83)⟩, ⟨PyData.keyHash P (Str.ofString "hex_code"), (.str (Str.ofString "hex_code") 294), (.ref 90)⟩, ⟨PyData.keyHash P (Str.ofString "hex_value"), (.str (Str.ofString "hex_value") 301), (.ref 97)⟩, ⟨PyData.keyHash P (Str.ofString "code_of_hex"), (.str (Str.ofString "code_of_hex") 311), (.ref 104)⟩, ⟨PyData.keyHash P (Str.ofString "place_by_half"), (.str (Str.ofString "place_by_half") 322), (.ref 111)⟩, ⟨PyData.keyHash P (Str.ofString "UCD_BLANKS"), (.str (Str.ofString "UCD_BLANKS") 326), (.bytes #[32, 9, 13] 325)⟩, ⟨PyData.keyHash P (Str.ofString "UCD_MARK"), (.str (Str.ofString "UCD_MARK") 328), (.bytes #[239, 187, 191] 327)⟩, ⟨PyData.keyHash P (Str.ofString "ucd_lines"), (.str (Str.ofString "ucd_lines") 336), (.ref 118)⟩, ⟨PyData.keyHash P (Str.ofString "rows_of"), (.str (Str.ofString "rows_of") 342), (.ref 123)⟩, ⟨PyData.keyHash P (Str.ofString "code_of_field"), (.str (Str.ofString "code_of_field") 350), (.ref 130)⟩, ⟨PyData.keyHash P (Str.ofString "word_of_field"), (.str (Str.ofString "word_of_field") 358), (.ref 137)⟩, ⟨PyData.keyHash P (Str.ofString "JOINING_TYPES"), (.str (Str.ofString "JOINING_TYPES") 367), (.ref 138)⟩, ⟨PyData.keyHash P (Str.ofString "JOINING_THROUGH"), (.str (Str.ofString "JOINING_THROUGH") 371), (.ref 139)⟩, ⟨PyData.keyHash P (Str.ofString "ucdmore_fields"), (.str (Str.ofString "ucdmore_fields") 384), (.ref 146)⟩, ⟨PyData.keyHash P (Str.ofString "ucdmore_check_once"), (.str (Str.ofString "ucdmore_check_once") 393), (.ref 153)⟩, ⟨PyData.keyHash P (Str.ofString "ucdmore_put"), (.str (Str.ofString "ucdmore_put") 405), (.ref 160)⟩, ⟨PyData.keyHash P (Str.ofString "read_joining"), (.str (Str.ofString "read_joining") 422), (.ref 167)⟩, ⟨PyData.keyHash P (Str.ofString "ucdmore_told"), (.str (Str.ofString "ucdmore_told") 436), (.ref 174)⟩, ⟨PyData.keyHash P (Str.ofString "joining_octets"), (.str (Str.ofString "joining_octets") 449), (.ref 181)⟩, ⟨PyData.keyHash P (Str.ofString "range_are_like"), (.str (Str.ofString "range_are_like") 457), (.ref 186)⟩, ⟨PyData.keyHash P (Str.ofString "RangeMap"), (.str (Str.ofString "RangeMap") 525), (.ref 229)⟩, ⟨PyData.keyHash P (Str.ofString "range_rows"), (.str (Str.ofString "range_rows") 537), (.ref 240)⟩, ⟨PyData.keyHash P (Str.ofString "data_defaults"), (.str (Str.ofString "data_defaults") 547), (.ref 247)⟩, ⟨PyData.keyHash P (Str.ofString "Data"), (.str (Str.ofString "Data") 606), (.ref 285)⟩, ⟨PyData.keyHash P (Str.ofString "_law_deck"), (.str (Str.ofString "_law_deck") 614), (.ref 294)⟩, ⟨PyData.keyHash P (Str.ofString "_law_draw"), (.str (Str.ofString "_law_draw") 624), (.ref 301)⟩, ⟨PyData.keyHash P (Str.ofString "_law_pick"), (.str (Str.ofString "_law_pick") 632), (.ref 308)⟩, ⟨PyData.keyHash P (Str.ofString "_law_kinds"), (.str (Str.ofString "_law_kinds") 638), (.ref 315)⟩, ⟨PyData.keyHash P (Str.ofString "_law_sorts"), (.str (Str.ofString "_law_sorts") 645), (.ref 316)⟩, ⟨PyData.keyHash P (Str.ofString "_law_codes"), (.str (Str.ofString "_law_codes") 655), (.ref 323)⟩, ⟨PyData.keyHash P (Str.ofString "_law_is_passed"), (.str (Str.ofString "_law_is_passed") 661), (.ref 328)⟩, ⟨PyData.keyHash P (Str.ofString "_law_data"), (.str (Str.ofString "_law_data") 671), (.ref 335)⟩, ⟨PyData.keyHash P (Str.ofString "_law_hex"), (.str (Str.ofString "_law_hex") 679), (.ref 342)⟩, ⟨PyData.keyHash P (Str.ofString "_law_octets"), (.str (Str.ofString "_law_octets") 685), (.ref 347)⟩, ⟨PyData.keyHash P (Str.ofString "_law_joins"), (.str (Str.ofString "_law_joins") 691), (.ref 352)⟩, ⟨PyData.keyHash P (Str.ofString "_law_written_right"), (.str (Str.ofString "_law_written_right") 705), (.ref 359)⟩, ⟨PyData.keyHash P (Str.ofString "_law_line"), (.str (Str.ofString "_law_line") 717), (.ref 366)⟩, ⟨PyData.keyHash P (Str.ofString "_law_spoilt"), (.str (Str.ofString "_law_spoilt") 726), (.ref 373)⟩, ⟨PyData.keyHash P (Str.ofString "_law_read_right"), (.str (Str.ofString "_law_read_right") 745), (.ref 380)⟩, ⟨PyData.keyHash P (Str.ofString "law"), (.str (Str.ofString "law") 755), (.ref 387)⟩] 59), #[]⟩),
  (20, ⟨(.type "code"), none, (.fields #[(.str (Str.ofString "_wall") 187), (.str (Str.ofString "_wall") 188), (.str (Str.ofString "/claim/cut.py") 189), (.int (1) 0), (.int (1) 0), (.int (0) 0), (.int (0) 0), (.int (3) 0), (.ref 15), (.bool true), (.int (181) 0), (.ref 16), .none, (.ref 17), (.ref 18), (.ref 19), (.int (191) 0), (.int (1) 0), (.str (Str.ofString "/claim/cut.py") 192)]), #[]⟩),
  (21, fnD (stAt 0) (Str.ofString "_wall") .none (.str (Str.ofString "__main__") 164) (.ref 20)),
  (29, ⟨(.type "tuple"), none, (.seq #[.none] 0), #[]⟩),
  (35, ⟨(.type "code"), none, (.fields #[(.str (Str.ofString "__init__") 216), (.str (Str.ofString "UniError.__init__") 217), (.str (Str.ofString "/claim/cut.py") 218), (.int (11) 0), (.int (2) 0), (.int (0) 0), (.int (0) 0), (.int (3) 0), (.ref 30), (.bool true), (.int (181) 0), (.ref 31), .none, (.ref 32), (.ref 33), (.ref 34), (.int (221) 0), (.int (11) 0), (.str (Str.ofString "/claim/cut.py") 222)]), #[]⟩),
  (36, fnD (stIn 6 0) (Str.ofString "UniError.__init__") (.ref 29) (.str (Str.ofString "unicore.base") 194) (.ref 35)),
  (38, ⟨(.type "dict"), none, (.dict #[⟨PyData.keyHash P (Str.ofString "__module__"), (.str (Str.ofString "__module__") 211), (.str (Str.ofString "unicore.base") 194)⟩, ⟨PyData.keyHash P (Str.ofString "__firstlineno__"), (.str (Str.ofString "__firstlineno__") 215), (.int (9) 214)⟩, ⟨PyData.keyHash P (Str.ofString "__init__"), (.str (Str.ofString "__init__") 223), (.ref 36)⟩, ⟨PyData.keyHash P (Str.ofString "__static_attributes__"), (.str (Str.ofString "__static_attributes__") 225), (.ref 37)⟩, ⟨PyData.keyHash P (Str.ofString "__weakref__"), (.str (Str.ofString "__weakref__") 227), (.ref 40)⟩, ⟨PyData.keyHash P (Str.ofString "__doc__"), (.str (Str.ofString "__doc__") 228), .none⟩] 3), #[]⟩),
  (39, ⟨(.type "type"), none, (.cls { name := (Str.ofString "UniError"), bases := [(.type "Exception")], mro := [(.ref 39), (.type "Exception"), (.type "BaseException"), (.type "object")], ns := 38, qualname := (Str.ofString "UniError"), hasDict := true, slotNames := [], subclasses := [(.ref 52), (.ref 64)], abstract := false, collection := none, hasDel := false }), #[(some (.ref 22)), none, (some (.str (Str.ofString "UniError") 204)), (some (.str (Str.ofString "UniError") 212)), (some (.builtin "Exception.__new__")), (some (.bool true))]⟩),
  (40, ⟨(.type "getset_descriptor"), none, (.fields #[(.str (Str.ofString "__weakref__") 226), (.ref 39), (.builtin "ExceptionGroup.__weakref__"), .none]), #[]⟩),
  (51, ⟨(.type "dict"), none, (.dict #[⟨PyData.keyHash P (Str.ofString "__module__"), (.str (Str.ofString "__module__") 240), (.str (Str.ofString "unicore.base") 194)⟩, ⟨PyData.keyHash P (Str.ofString "__firstlineno__"), (.str (Str.ofString "__firstlineno__") 244), (.int (13) 243)⟩, ⟨PyData.keyHash P (Str.ofString "__static_attributes__"), (.str (Str.ofString "__static_attributes__") 245), (.ref 50)⟩, ⟨PyData.keyHash P (Str.ofString "__doc__"), (.str (Str.ofString "__doc__") 246), .none⟩] 2), #[]⟩),
  (52, ⟨(.type "type"), none, (.cls { name := (Str.ofString "BadCode"), bases := [(.ref 39)], mro := [(.ref 52), (.ref 39), (.type "Exception"), (.type "BaseException"), (.type "object")], ns := 51, qualname := (Str.ofString "BadCode"), hasDict := true, slotNames := [], subclasses := [], abstract := false, collection := none, hasDel := false }), #[(some (.ref 43)), none, (some (.str (Str.ofString "BadCode") 233)), (some (.str (Str.ofString "BadCode") 241)), (some (.builtin "Exception.__new__")), (some (.bool true))]⟩),
  (63, ⟨(.type "dict"), none, (.dict #[⟨PyData.keyHash P (Str.ofString "__module__"), (.str (Str.ofString "__module__") 256), (.str (Str.ofString "unicore.base") 194)⟩, ⟨PyData.keyHash P (Str.ofString "__firstlineno__"), (.str (Str.ofString "__firstlineno__") 260), (.int (15) 259)⟩, ⟨PyData.keyHash P (Str.ofString "__static_attributes__"), (.str (Str.ofString "__static_attributes__") 261), (.ref 62)⟩, ⟨PyData.keyHash P (Str.ofString "__doc__"), (.str (Str.ofString "__doc__") 262), .none⟩] 2), #[]⟩),
  (64, ⟨(.type "type"), none, (.cls { name := (Str.ofString "BadRow"), bases := [(.ref 39)], mro := [(.ref 64), (.ref 39), (.type "Exception"), (.type "BaseException"), (.type "object")], ns := 63, qualname := (Str.ofString "BadRow"), hasDict := true, slotNames := [], subclasses := [], abstract := false, collection := none, hasDel := false }), #[(some (.ref 55)), none, (some (.str (Str.ofString "BadRow") 249)), (some (.str (Str.ofString "BadRow") 257)), (some (.builtin "Exception.__new__")), (some (.bool true))]⟩),
  (70, ⟨(.type "code"), none, (.fields #[(.str (Str.ofString "codes_of") 265), (.str (Str.ofString "codes_of") 266), (.str (Str.ofString "/claim/cut.py") 267), (.int (17) 0), (.int (1) 0), (.int (0) 0), (.int (0) 0), (.int (3) 0), (.ref 67), (.bool true), (.int (181) 0), (.ref 68), .none, .none, .none, (.ref 69), (.int (268) 0), (.int (17) 0), (.str (Str.ofString "/claim/cut.py") 269)]), #[]⟩),
  (71, fnD (stAt 9) (Str.ofString "codes_of") .none (.str (Str.ofString "unicore.base") 194) (.ref 70)),
  (77, ⟨(.type "code"), none, (.fields #[(.str (Str.ofString "octets_of_ascii") 271), (.str (Str.ofString "octets_of_ascii") 272), (.str (Str.ofString "/claim/cut.py") 273), (.int (19) 0), (.int (1) 0), (.int (0) 0), (.int (0) 0), (.int (3) 0), (.ref 72), (.bool true), (.int (181) 0), (.ref 73), .none, (.ref 74), (.ref 75), (.ref 76), (.int (277) 0), (.int (19) 0), (.str (Str.ofString "/claim/cut.py") 278)]), #[]⟩),
  (78, fnD (stAt 10) (Str.ofString "octets_of_ascii") .none (.str (Str.ofString "unicore.base") 194) (.ref 77)),
  (82, ⟨(.type "code"), none, (.fields #[(.str (Str.ofString "ascii_of") 280), (.str (Str.ofString "ascii_of") 281), (.str (Str.ofString "/claim/cut.py") 282), (.int (25) 0), (.int (1) 0), (.int (0) 0), (.int (0) 0), (.int (3) 0), (.ref 79), (.bool true), (.int (181) 0), (.ref 80), .none, .none, .none, (.ref 81), (.int (283) 0), (.int (25) 0), (.str (Str.ofString "/claim/cut.py") 284)]), #[]⟩),
  (83, fnD (stAt 11) (Str.ofString "ascii_of") .none (.str (Str.ofString "unicore.base") 194) (.ref 82)),
  (89, ⟨(.type "code"), none, (.fields #[(.str (Str.ofString "hex_code") 286), (.str (Str.ofString "hex_code") 287), (.str (Str.ofString "/claim/cut.py") 288), (.int (30) 0), (.int (1) 0), (.int (0) 0), (.int (0) 0), (.int (3) 0), (.ref 84), (.bool true), (.int (181) 0), (.ref 85), .none, (.ref 86), (.ref 87), (.ref 88), (.int (292) 0), (.int (30) 0), (.str (Str.ofString "/claim/cut.py") 293)]), #[]⟩),
  (90, fnD (stAt 12) (Str.ofString "hex_code") .none (.str (Str.ofString "unicore.base") 194) (.ref 89)),
  (96, ⟨(.type "code"), none, (.fields #[(.str (Str.ofString "hex_value") 295), (.str (Str.ofString "hex_value") 296), (.str (Str.ofString "/claim/cut.py") 297), (.int (37) 0), (.int (1) 0), (.int (0) 0), (.int (0) 0), (.int (3) 0), (.ref 91), (.bool true), (.int (181) 0), (.ref 92), .none, (.ref 93), (.ref 94), (.ref 95), (.int (299) 0), (.int (37) 0), (.str (Str.ofString "/claim/cut.py") 300)]), #[]⟩),
  (97, fnD (stAt 13) (Str.ofString "hex_value") .none (.str (Str.ofString "unicore.base") 194) (.ref 96)),
  (103, ⟨(.type "code"), none, (.fields #[(.str (Str.ofString "code_of_hex") 302), (.str (Str.ofString "code_of_hex") 303), (.str (Str.ofString "/claim/cut.py") 304), (.int (45) 0), (.int (1) 0), (.int (0) 0), (.int (0) 0), (.int (3) 0), (.ref 98), (.bool true), (.int (181) 0), (.ref 99), .none, (.ref 100), (.ref 101), (.ref 102), (.int (309) 0), (.int (45) 0), (.str (Str.ofString "/claim/cut.py") 310)]), #[]⟩),
  (104, fnD (stAt 14) (Str.ofString "code_of_hex") .none (.str (Str.ofString "unicore.base") 194) (.ref 103)),
  (110, ⟨(.type "code"), none, (.fields #[(.str (Str.ofString "place_by_half") 312), (.str (Str.ofString "place_by_half") 313), (.str (Str.ofString "/claim/cut.py") 314), (.int (57) 0), (.int (2) 0), (.int (0) 0), (.int (0) 0), (.int (3) 0), (.ref 105), (.bool true), (.int (181) 0), (.ref 106), .none, (.ref 107), (.ref 108), (.ref 109), (.int (320) 0), (.int (57) 0), (.str (Str.ofString "/claim/cut.py") 321)]), #[]⟩),
  (111, fnD (stAt 15) (Str.ofString "place_by_half") .none (.str (Str.ofString "unicore.base") 194) (.ref 110)),
  (117, ⟨(.type "code"), none, (.fields #[(.str (Str.ofString "ucd_lines") 329), (.str (Str.ofString "ucd_lines") 330), (.str (Str.ofString "/claim/cut.py") 331), (.int (70) 0), (.int (1) 0), (.int (0) 0), (.int (0) 0), (.int (3) 0), (.ref 112), (.bool true), (.int (181) 0), (.ref 113), .none, (.ref 114), (.ref 115), (.ref 116), (.int (334) 0), (.int (70) 0), (.str (Str.ofString "/claim/cut.py") 335)]), #[]⟩),
  (118, fnD (stAt 19) (Str.ofString "ucd_lines") .none (.str (Str.ofString "unicore.ucdrows") 323) (.ref 117)),
  (122, ⟨(.type "code"), none, (.fields #[(.str (Str.ofString "rows_of") 337), (.str (Str.ofString "rows_of") 338), (.str (Str.ofString "/claim/cut.py") 339), (.int (73) 0), (.int (1) 0), (.int (0) 0), (.int (0) 0), (.int (3) 0), (.ref 119), (.bool true), (.int (181) 0), (.ref 120), .none, .none, .none, (.ref 121), (.int (340) 0), (.int (73) 0), (.str (Str.ofString "/claim/cut.py") 341)]), #[]⟩),
  (123, fnD (stAt 20) (Str.ofString "rows_of") .none (.str (Str.ofString "unicore.ucdrows") 323) (.ref 122)),
  (129, ⟨(.type "code"), none, (.fields #[(.str (Str.ofString "code_of_field") 343), (.str (Str.ofString "code_of_field") 344), (.str (Str.ofString "/claim/cut.py") 345), (.int (83) 0), (.int (2) 0), (.int (0) 0), (.int (0) 0), (.int (3) 0), (.ref 124), (.bool true), (.int (181) 0), (.ref 125), .none, (.ref 126), (.ref 127), (.ref 128), (.int (348) 0), (.int (83) 0), (.str (Str.ofString "/claim/cut.py") 349)]), #[]⟩),
  (130, fnD (stAt 21) (Str.ofString "code_of_field") .none (.str (Str.ofString "unicore.ucdrows") 323) (.ref 129)),
  (136, ⟨(.type "code"), none, (.fields #[(.str (Str.ofString "word_of_field") 351), (.str (Str.ofString "word_of_field") 352), (.str (Str.ofString "/claim/cut.py") 353), (.int (90) 0), (.int (2) 0), (.int (0) 0), (.int (0) 0), (.int (3) 0), (.ref 131), (.bool true), (.int (181) 0), (.ref 132), .none, (.ref 133), (.ref 134), (.ref 135), (.int (356) 0), (.int (90) 0), (.str (Str.ofString "/claim/cut.py") 357)]), #[]⟩),
  (137, fnD (stAt 22) (Str.ofString "word_of_field") .none (.str (Str.ofString "unicore.ucdrows") 323) (.ref 136)),
  (138, ⟨(.type "tuple"), none, (.seq #[(.str (Str.ofString "R") 361), (.str (Str.ofString "L") 362), (.str (Str.ofString "D") 363), (.str (Str.ofString "C") 364), (.str (Str.ofString "U") 365), (.str (Str.ofString "T") 366)] 0), #[]⟩),
  (139, ⟨(.type "tuple"), none, (.seq #[(.str (Str.ofString "Mn") 368), (.str (Str.ofString "Me") 369), (.str (Str.ofString "Cf") 370)] 0), #[]⟩),
  (145, ⟨(.type "code"), none, (.fields #[(.str (Str.ofString "ucdmore_fields") 372), (.str (Str.ofString "ucdmore_fields") 373), (.str (Str.ofString "/claim/cut.py") 374), (.int (98) 0), (.int (3) 0), (.int (0) 0), (.int (0) 0), (.int (3) 0), (.ref 140), (.bool true), (.int (181) 0), (.ref 141), .none, (.ref 142), (.ref 143), (.ref 144), (.int (382) 0), (.int (98) 0), (.str (Str.ofString "/claim/cut.py") 383)]), #[]⟩),
  (146, fnD (stAt 26) (Str.ofString "ucdmore_fields") .none (.str (Str.ofString "unicore.ucdmore") 359) (.ref 145)),
  (152, ⟨(.type "code"), none, (.fields #[(.str (Str.ofString "ucdmore_check_once") 385), (.str (Str.ofString "ucdmore_check_once") 386), (.str (Str.ofString "/claim/cut.py") 387), (.int (107) 0), (.int (3) 0), (.int (0) 0), (.int (0) 0), (.int (3) 0), (.ref 147), (.bool true), (.int (181) 0), (.ref 148), .none, (.ref 149), (.ref 150), (.ref 151), (.int (391) 0), (.int (107) 0), (.str (Str.ofString "/claim/cut.py") 392)]), #[]⟩),
  (153, fnD (stAt 27) (Str.ofString "ucdmore_check_once") .none (.str (Str.ofString "unicore.ucdmore") 359) (.ref 152)),
  (159, ⟨(.type "code"), none, (.fields #[(.str (Str.ofString "ucdmore_put") 394), (.str (Str.ofString "ucdmore_put") 395), (.str (Str.ofString "/claim/cut.py") 396), (.int (111) 0), (.int (3) 0), (.int (0) 0), (.int (0) 0), (.int (3) 0), (.ref 154), (.bool true), (.int (181) 0), (.ref 155), .none, (.ref 156), (.ref 157), (.ref 158), (.int (403) 0), (.int (111) 0), (.str (Str.ofString "/claim/cut.py") 404)]), #[]⟩),
  (160, fnD (stAt 28) (Str.ofString "ucdmore_put") .none (.str (Str.ofString "unicore.ucdmore") 359) (.ref 159)),
  (166, ⟨(.type "code"), none, (.fields #[(.str (Str.ofString "read_joining") 406), (.str (Str.ofString "read_joining") 407), (.str (Str.ofString "/claim/cut.py") 408), (.int (114) 0), (.int (2) 0), (.int (0) 0), (.int (0) 0), (.int (3) 0), (.ref 161), (.bool true), (.int (181) 0), (.ref 162), .none, (.ref 163), (.ref 164), (.ref 165), (.int (420) 0), (.int (114) 0), (.str (Str.ofString "/claim/cut.py") 421)]), #[]⟩),
  (167, fnD (stAt 29) (Str.ofString "read_joining") .none (.str (Str.ofString "unicore.ucdmore") 359) (.ref 166)),
  (173, ⟨(.type "code"), none, (.fields #[(.str (Str.ofString "ucdmore_told") 423), (.str (Str.ofString "ucdmore_told") 424), (.str (Str.ofString "/claim/cut.py") 425), (.int (126) 0), (.int (3) 0), (.int (0) 0), (.int (0) 0), (.int (3) 0), (.ref 168), (.bool true), (.int (181) 0), (.ref 169), .none, (.ref 170), (.ref 171), (.ref 172), (.int (434) 0), (.int (126) 0), (.str (Str.ofString "/claim/cut.py") 435)]), #[]⟩),
  (174, fnD (stAt 30) (Str.ofString "ucdmore_told") .none (.str (Str.ofString "unicore.ucdmore") 359) (.ref 173)),
  (180, ⟨(.type "code"), none, (.fields #[(.str (Str.ofString "joining_octets") 437), (.str (Str.ofString "joining_octets") 438), (.str (Str.ofString "/claim/cut.py") 439), (.int (132) 0), (.int (1) 0), (.int (0) 0), (.int (0) 0), (.int (3) 0), (.ref 175), (.bool true), (.int (181) 0), (.ref 176), .none, (.ref 177), (.ref 178), (.ref 179), (.int (447) 0), (.int (132) 0), (.str (Str.ofString "/claim/cut.py") 448)]), #[]⟩),
  (181, fnD (stAt 31) (Str.ofString "joining_octets") .none (.str (Str.ofString "unicore.ucdmore") 359) (.ref 180)),
  (185, ⟨(.type "code"), none, (.fields #[(.str (Str.ofString "range_are_like") 452), (.str (Str.ofString "range_are_like") 453), (.str (Str.ofString "/claim/cut.py") 454), (.int (141) 0), (.int (2) 0), (.int (0) 0), (.int (0) 0), (.int (3) 0), (.ref 182), (.bool true), (.int (181) 0), (.ref 183), .none, .none, .none, (.ref 184), (.int (455) 0), (.int (141) 0), (.str (Str.ofString "/claim/cut.py") 456)]), #[]⟩),
  (186, fnD (stAt 33) (Str.ofString "range_are_like") .none (.str (Str.ofString "unicore.ranges") 450) (.ref 185)),
  (199, ⟨(.type "code"), none, (.fields #[(.str (Str.ofString "__init__") 470), (.str (Str.ofString "RangeMap.__init__") 471), (.str (Str.ofString "/claim/cut.py") 472), (.int (147) 0), (.int (2) 0), (.int (0) 0), (.int (0) 0), (.int (3) 0), (.ref 194), (.bool true), (.int (181) 0), (.ref 195), .none, (.ref 196), (.ref 197), (.ref 198), (.int (475) 0), (.int (147) 0), (.str (Str.ofString "/claim/cut.py") 476)]), #[]⟩),
  (200, fnD (stIn 34 0) (Str.ofString "RangeMap.__init__") .none (.str (Str.ofString "unicore.ranges") 450) (.ref 199)),
  (206, ⟨(.type "code"), none, (.fields #[(.str (Str.ofString "get") 478), (.str (Str.ofString "RangeMap.get") 479), (.str (Str.ofString "/claim/cut.py") 480), (.int (152) 0), (.int (2) 0), (.int (0) 0), (.int (0) 0), (.int (3) 0), (.ref 201), (.bool true), (.int (181) 0), (.ref 202), .none, (.ref 203), (.ref 204), (.ref 205), (.int (483) 0), (.int (152) 0), (.str (Str.ofString "/claim/cut.py") 484)]), #[]⟩),
  (207, fnD (stIn 34 1) (Str.ofString "RangeMap.get") .none (.str (Str.ofString "unicore.ranges") 450) (.ref 206)),
  (213, ⟨(.type "code"), none, (.fields #[(.str (Str.ofString "put") 486), (.str (Str.ofString "RangeMap.put") 487), (.str (Str.ofString "/claim/cut.py") 488), (.int (155) 0), (.int (4) 0), (.int (0) 0), (.int (0) 0), (.int (3) 0), (.ref 208), (.bool true), (.int (181) 0), (.ref 209), .none, (.ref 210), (.ref 211), (.ref 212), (.int (498) 0), (.int (155) 0), (.str (Str.ofString "/claim/cut.py") 499)]), #[]⟩),
  (214, fnD (stIn 34 2) (Str.ofString "RangeMap.put") .none (.str (Str.ofString "unicore.ranges") 450) (.ref 213)),
  (218, ⟨(.type "code"), none, (.fields #[(.str (Str.ofString "ranges") 501), (.str (Str.ofString "RangeMap.ranges") 502), (.str (Str.ofString "/claim/cut.py") 503), (.int (171) 0), (.int (1) 0), (.int (0) 0), (.int (0) 0), (.int (3) 0), (.ref 215), (.bool true), (.int (181) 0), (.ref 216), .none, .none, .none, (.ref 217), (.int (504) 0), (.int (171) 0), (.str (Str.ofString "/claim/cut.py") 505)]), #[]⟩),
  (219, fnD (stIn 34 3) (Str.ofString "RangeMap.ranges") .none (.str (Str.ofString "unicore.ranges") 450) (.ref 218)),
  (225, ⟨(.type "code"), none, (.fields #[(.str (Str.ofString "set_of") 507), (.str (Str.ofString "RangeMap.set_of") 508), (.str (Str.ofString "/claim/cut.py") 509), (.int (174) 0), (.int (2) 0), (.int (0) 0), (.int (0) 0), (.int (3) 0), (.ref 220), (.bool true), (.int (181) 0), (.ref 221), .none, (.ref 222), (.ref 223), (.ref 224), (.int (512) 0), (.int (174) 0), (.str (Str.ofString "/claim/cut.py") 513)]), #[]⟩),
  (226, fnD (stIn 34 4) (Str.ofString "RangeMap.set_of") .none (.str (Str.ofString "unicore.ranges") 450) (.ref 225)),
  (228, ⟨(.type "dict"), none, (.dict #[⟨PyData.keyHash P (Str.ofString "__module__"), (.str (Str.ofString "__module__") 465), (.str (Str.ofString "unicore.ranges") 450)⟩, ⟨PyData.keyHash P (Str.ofString "__firstlineno__"), (.str (Str.ofString "__firstlineno__") 469), (.int (145) 468)⟩, ⟨PyData.keyHash P (Str.ofString "__init__"), (.str (Str.ofString "__init__") 477), (.ref 200)⟩, ⟨PyData.keyHash P (Str.ofString "get"), (.str (Str.ofString "get") 485), (.ref 207)⟩, ⟨PyData.keyHash P (Str.ofString "put"), (.str (Str.ofString "put") 500), (.ref 214)⟩, ⟨PyData.keyHash P (Str.ofString "ranges"), (.str (Str.ofString "ranges") 506), (.ref 219)⟩, ⟨PyData.keyHash P (Str.ofString "set_of"), (.str (Str.ofString "set_of") 514), (.ref 226)⟩, ⟨PyData.keyHash P (Str.ofString "__static_attributes__"), (.str (Str.ofString "__static_attributes__") 518), (.ref 227)⟩, ⟨PyData.keyHash P (Str.ofString "__dict__"), (.str (Str.ofString "__dict__") 520), (.ref 230)⟩, ⟨PyData.keyHash P (Str.ofString "__weakref__"), (.str (Str.ofString "__weakref__") 522), (.ref 231)⟩, ⟨PyData.keyHash P (Str.ofString "__doc__"), (.str (Str.ofString "__doc__") 523), .none⟩] 4), #[]⟩),
  (229, ⟨(.type "type"), none, (.cls { name := (Str.ofString "RangeMap"), bases := [(.type "object")], mro := [(.ref 229), (.type "object")], ns := 228, qualname := (Str.ofString "RangeMap"), hasDict := true, slotNames := [], subclasses := [], abstract := false, collection := none, hasDel := false }), #[none, none, (some (.str (Str.ofString "RangeMap") 458)), (some (.str (Str.ofString "RangeMap") 466)), (some (.builtin "object.__new__")), (some (.bool true))]⟩),
  (230, ⟨(.type "getset_descriptor"), none, (.fields #[(.str (Str.ofString "__dict__") 519), (.ref 229), (.builtin "function.__dict__"), (.builtin "function.__dict__#set")]), #[]⟩),
  (231, ⟨(.type "getset_descriptor"), none, (.fields #[(.str (Str.ofString "__weakref__") 521), (.ref 229), (.builtin "ExceptionGroup.__weakref__"), .none]), #[]⟩),
  (239, ⟨(.type "code"), none, (.fields #[(.str (Str.ofString "range_rows") 526), (.str (Str.ofString "range_rows") 527), (.str (Str.ofString "/claim/cut.py") 528), (.int (176) 0), (.int (1) 0), (.int (0) 0), (.int (0) 0), (.int (3) 0), (.ref 234), (.bool true), (.int (181) 0), (.ref 235), .none, (.ref 236), (.ref 237), (.ref 238), (.int (535) 0), (.int (176) 0), (.str (Str.ofString "/claim/cut.py") 536)]), #[]⟩),
  (240, fnD (stAt 35) (Str.ofString "range_rows") .none (.str (Str.ofString "unicore.ranges") 450) (.ref 239)),
  (246, ⟨(.type "code"), none, (.fields #[(.str (Str.ofString "data_defaults") 540), (.str (Str.ofString "data_defaults") 541), (.str (Str.ofString "/claim/cut.py") 542), (.int (183) 0), (.int (0) 0), (.int (0) 0), (.int (0) 0), (.int (3) 0), (.ref 241), (.bool true), (.int (181) 0), (.ref 242), .none, (.ref 243), (.ref 244), (.ref 245), (.int (545) 0), (.int (183) 0), (.str (Str.ofString "/claim/cut.py") 546)]), #[]⟩),
  (247, fnD (stAt 37) (Str.ofString "data_defaults") .none (.str (Str.ofString "unicore.data") 538) (.ref 246)),
  (260, ⟨(.type "code"), none, (.fields #[(.str (Str.ofString "__init__") 560), (.str (Str.ofString "Data.__init__") 561), (.str (Str.ofString "/claim/cut.py") 562), (.int (197) 0), (.int (1) 0), (.int (0) 0), (.int (0) 0), (.int (3) 0), (.ref 255), (.bool true), (.int (181) 0), (.ref 256), .none, (.ref 257), (.ref 258), (.ref 259), (.int (564) 0), (.int (197) 0), (.str (Str.ofString "/claim/cut.py") 565)]), #[]⟩),
  (261, fnD (stIn 38 0) (Str.ofString "Data.__init__") .none (.str (Str.ofString "unicore.data") 538) (.ref 260)),
  (267, ⟨(.type "code"), none, (.fields #[(.str (Str.ofString "put") 567), (.str (Str.ofString "Data.put") 568), (.str (Str.ofString "/claim/cut.py") 569), (.int (203) 0), (.int (5) 0), (.int (0) 0), (.int (0) 0), (.int (3) 0), (.ref 262), (.bool true), (.int (181) 0), (.ref 263), .none, (.ref 264), (.ref 265), (.ref 266), (.int (575) 0), (.int (203) 0), (.str (Str.ofString "/claim/cut.py") 576)]), #[]⟩),
  (268, fnD (stIn 38 1) (Str.ofString "Data.put") .none (.str (Str.ofString "unicore.data") 538) (.ref 267)),
  (274, ⟨(.type "code"), none, (.fields #[(.str (Str.ofString "get") 578), (.str (Str.ofString "Data.get") 579), (.str (Str.ofString "/claim/cut.py") 580), (.int (206) 0), (.int (3) 0), (.int (0) 0), (.int (0) 0), (.int (3) 0), (.ref 269), (.bool true), (.int (181) 0), (.ref 270), .none, (.ref 271), (.ref 272), (.ref 273), (.int (584) 0), (.int (206) 0), (.str (Str.ofString "/claim/cut.py") 585)]), #[]⟩),
  (275, fnD (stIn 38 2) (Str.ofString "Data.get") .none (.str (Str.ofString "unicore.data") 538) (.ref 274)),
  (281, ⟨(.type "code"), none, (.fields #[(.str (Str.ofString "map_of") 587), (.str (Str.ofString "Data.map_of") 588), (.str (Str.ofString "/claim/cut.py") 589), (.int (211) 0), (.int (2) 0), (.int (0) 0), (.int (0) 0), (.int (3) 0), (.ref 276), (.bool true), (.int (181) 0), (.ref 277), .none, (.ref 278), (.ref 279), (.ref 280), (.int (592) 0), (.int (211) 0), (.str (Str.ofString "/claim/cut.py") 593)]), #[]⟩),
  (282, fnD (stIn 38 3) (Str.ofString "Data.map_of") .none (.str (Str.ofString "unicore.data") 538) (.ref 281)),
  (284, ⟨(.type "dict"), none, (.dict #[⟨PyData.keyHash P (Str.ofString "__module__"), (.str (Str.ofString "__module__") 555), (.str (Str.ofString "unicore.data") 538)⟩, ⟨PyData.keyHash P (Str.ofString "__firstlineno__"), (.str (Str.ofString "__firstlineno__") 559), (.int (195) 558)⟩, ⟨PyData.keyHash P (Str.ofString "__init__"), (.str (Str.ofString "__init__") 566), (.ref 261)⟩, ⟨PyData.keyHash P (Str.ofString "put"), (.str (Str.ofString "put") 577), (.ref 268)⟩, ⟨PyData.keyHash P (Str.ofString "get"), (.str (Str.ofString "get") 586), (.ref 275)⟩, ⟨PyData.keyHash P (Str.ofString "map_of"), (.str (Str.ofString "map_of") 594), (.ref 282)⟩, ⟨PyData.keyHash P (Str.ofString "__static_attributes__"), (.str (Str.ofString "__static_attributes__") 599), (.ref 283)⟩, ⟨PyData.keyHash P (Str.ofString "__dict__"), (.str (Str.ofString "__dict__") 601), (.ref 286)⟩, ⟨PyData.keyHash P (Str.ofString "__weakref__"), (.str (Str.ofString "__weakref__") 603), (.ref 287)⟩, ⟨PyData.keyHash P (Str.ofString "__doc__"), (.str (Str.ofString "__doc__") 604), .none⟩] 4), #[]⟩),
  (285, ⟨(.type "type"), none, (.cls { name := (Str.ofString "Data"), bases := [(.type "object")], mro := [(.ref 285), (.type "object")], ns := 284, qualname := (Str.ofString "Data"), hasDict := true, slotNames := [], subclasses := [], abstract := false, collection := none, hasDel := false }), #[none, none, (some (.str (Str.ofString "Data") 548)), (some (.str (Str.ofString "Data") 556)), (some (.builtin "object.__new__")), (some (.bool true))]⟩),
  (286, ⟨(.type "getset_descriptor"), none, (.fields #[(.str (Str.ofString "__dict__") 600), (.ref 285), (.builtin "function.__dict__"), (.builtin "function.__dict__#set")]), #[]⟩),
  (287, ⟨(.type "getset_descriptor"), none, (.fields #[(.str (Str.ofString "__weakref__") 602), (.ref 285), (.builtin "ExceptionGroup.__weakref__"), .none]), #[]⟩),
  (293, ⟨(.type "code"), none, (.fields #[(.str (Str.ofString "_law_deck") 609), (.str (Str.ofString "_law_deck") 610), (.str (Str.ofString "/claim/cut.py") 611), (.int (216) 0), (.int (1) 0), (.int (0) 0), (.int (0) 0), (.int (3) 0), (.ref 290), (.bool true), (.int (181) 0), (.ref 291), .none, .none, .none, (.ref 292), (.int (612) 0), (.int (216) 0), (.str (Str.ofString "/claim/cut.py") 613)]), #[]⟩),
  (294, fnD (stAt 40) (Str.ofString "_law_deck") .none (.str (Str.ofString "law_pq1303_01") 607) (.ref 293)),
  (300, ⟨(.type "code"), none, (.fields #[(.str (Str.ofString "_law_draw") 615), (.str (Str.ofString "_law_draw") 616), (.str (Str.ofString "/claim/cut.py") 617), (.int (221) 0), (.int (2) 0), (.int (0) 0), (.int (0) 0), (.int (3) 0), (.ref 295), (.bool true), (.int (181) 0), (.ref 296), .none, (.ref 297), (.ref 298), (.ref 299), (.int (622) 0), (.int (221) 0), (.str (Str.ofString "/claim/cut.py") 623)]), #[]⟩),
  (301, fnD (stAt 41) (Str.ofString "_law_draw") .none (.str (Str.ofString "law_pq1303_01") 607) (.ref 300)),
  (307, ⟨(.type "code"), none, (.fields #[(.str (Str.ofString "_law_pick") 625), (.str (Str.ofString "_law_pick") 626), (.str (Str.ofString "/claim/cut.py") 627), (.int (233) 0), (.int (2) 0), (.int (0) 0), (.int (0) 0), (.int (3) 0), (.ref 302), (.bool true), (.int (181) 0), (.ref 303), .none, (.ref 304), (.ref 305), (.ref 306), (.int (630) 0), (.int (233) 0), (.str (Str.ofString "/claim/cut.py") 631)]), #[]⟩),
  (308, fnD (stAt 42) (Str.ofString "_law_pick") .none (.str (Str.ofString "law_pq1303_01") 607) (.ref 307)),
  (314, ⟨(.type "code"), none, (.fields #[(.str (Str.ofString "_law_kinds") 633), (.str (Str.ofString "_law_kinds") 634), (.str (Str.ofString "/claim/cut.py") 635), (.int (235) 0), (.int (0) 0), (.int (0) 0), (.int (0) 0), (.int (3) 0), (.ref 309), (.bool true), (.int (181) 0), (.ref 310), .none, (.ref 311), (.ref 312), (.ref 313), (.int (636) 0), (.int (235) 0), (.str (Str.ofString "/claim/cut.py") 637)]), #[]⟩),
  (315, fnD (stAt 43) (Str.ofString "_law_kinds") .none (.str (Str.ofString "law_pq1303_01") 607) (.ref 314)),
  (316, ⟨(.type "list"), none, (.seq #[(.str (Str.ofString "R") 639), (.str (Str.ofString "L") 640), (.str (Str.ofString "D") 641), (.str (Str.ofString "C") 642), (.str (Str.ofString "U") 643), (.str (Str.ofString "T") 644)] 0), #[]⟩),
  (322, ⟨(.type "code"), none, (.fields #[(.str (Str.ofString "_law_codes") 646), (.str (Str.ofString "_law_codes") 647), (.str (Str.ofString "/claim/cut.py") 648), (.int (238) 0), (.int (0) 0), (.int (0) 0), (.int (0) 0), (.int (3) 0), (.ref 317), (.bool true), (.int (181) 0), (.ref 318), .none, (.ref 319), (.ref 320), (.ref 321), (.int (653) 0), (.int (238) 0), (.str (Str.ofString "/claim/cut.py") 654)]), #[]⟩),
  (323, fnD (stAt 45) (Str.ofString "_law_codes") .none (.str (Str.ofString "law_pq1303_01") 607) (.ref 322)),
  (327, ⟨(.type "code"), none, (.fields #[(.str (Str.ofString "_law_is_passed") 656), (.str (Str.ofString "_law_is_passed") 657), (.str (Str.ofString "/claim/cut.py") 658), (.int (243) 0), (.int (1) 0), (.int (0) 0), (.int (0) 0), (.int (3) 0), (.ref 324), (.bool true), (.int (181) 0), (.ref 325), .none, .none, .none, (.ref 326), (.int (659) 0), (.int (243) 0), (.str (Str.ofString "/claim/cut.py") 660)]), #[]⟩),
  (328, fnD (stAt 46) (Str.ofString "_law_is_passed") .none (.str (Str.ofString "law_pq1303_01") 607) (.ref 327)),
  (334, ⟨(.type "code"), none, (.fields #[(.str (Str.ofString "_law_data") 662), (.str (Str.ofString "_law_data") 663), (.str (Str.ofString "/claim/cut.py") 664), (.int (245) 0), (.int (0) 0), (.int (0) 0), (.int (0) 0), (.int (3) 0), (.ref 329), (.bool true), (.int (181) 0), (.ref 330), .none, (.ref 331), (.ref 332), (.ref 333), (.int (669) 0), (.int (245) 0), (.str (Str.ofString "/claim/cut.py") 670)]), #[]⟩),
  (335, fnD (stAt 47) (Str.ofString "_law_data") .none (.str (Str.ofString "law_pq1303_01") 607) (.ref 334)),
  (341, ⟨(.type "code"), none, (.fields #[(.str (Str.ofString "_law_hex") 672), (.str (Str.ofString "_law_hex") 673), (.str (Str.ofString "/claim/cut.py") 674), (.int (250) 0), (.int (1) 0), (.int (0) 0), (.int (0) 0), (.int (3) 0), (.ref 336), (.bool true), (.int (181) 0), (.ref 337), .none, (.ref 338), (.ref 339), (.ref 340), (.int (677) 0), (.int (250) 0), (.str (Str.ofString "/claim/cut.py") 678)]), #[]⟩),
  (342, fnD (stAt 48) (Str.ofString "_law_hex") .none (.str (Str.ofString "law_pq1303_01") 607) (.ref 341)),
  (346, ⟨(.type "code"), none, (.fields #[(.str (Str.ofString "_law_octets") 680), (.str (Str.ofString "_law_octets") 681), (.str (Str.ofString "/claim/cut.py") 682), (.int (255) 0), (.int (1) 0), (.int (0) 0), (.int (0) 0), (.int (3) 0), (.ref 343), (.bool true), (.int (181) 0), (.ref 344), .none, .none, .none, (.ref 345), (.int (683) 0), (.int (255) 0), (.str (Str.ofString "/claim/cut.py") 684)]), #[]⟩),
  (347, fnD (stAt 49) (Str.ofString "_law_octets") .none (.str (Str.ofString "law_pq1303_01") 607) (.ref 346)),
  (351, ⟨(.type "code"), none, (.fields #[(.str (Str.ofString "_law_joins") 686), (.str (Str.ofString "_law_joins") 687), (.str (Str.ofString "/claim/cut.py") 688), (.int (257) 0), (.int (1) 0), (.int (0) 0), (.int (0) 0), (.int (3) 0), (.ref 348), (.bool true), (.int (181) 0), (.ref 349), .none, .none, .none, (.ref 350), (.int (689) 0), (.int (257) 0), (.str (Str.ofString "/claim/cut.py") 690)]), #[]⟩),
  (352, fnD (stAt 50) (Str.ofString "_law_joins") .none (.str (Str.ofString "law_pq1303_01") 607) (.ref 351)),
  (358, ⟨(.type "code"), none, (.fields #[(.str (Str.ofString "_law_written_right") 692), (.str (Str.ofString "_law_written_right") 693), (.str (Str.ofString "/claim/cut.py") 694), (.int (259) 0), (.int (1) 0), (.int (0) 0), (.int (0) 0), (.int (3) 0), (.ref 353), (.bool true), (.int (181) 0), (.ref 354), .none, (.ref 355), (.ref 356), (.ref 357), (.int (703) 0), (.int (259) 0), (.str (Str.ofString "/claim/cut.py") 704)]), #[]⟩),
  (359, fnD (stAt 51) (Str.ofString "_law_written_right") .none (.str (Str.ofString "law_pq1303_01") 607) (.ref 358)),
  (365, ⟨(.type "code"), none, (.fields #[(.str (Str.ofString "_law_line") 706), (.str (Str.ofString "_law_line") 707), (.str (Str.ofString "/claim/cut.py") 708), (.int (274) 0), (.int (3) 0), (.int (0) 0), (.int (0) 0), (.int (3) 0), (.ref 360), (.bool true), (.int (181) 0), (.ref 361), .none, (.ref 362), (.ref 363), (.ref 364), (.int (715) 0), (.int (274) 0), (.str (Str.ofString "/claim/cut.py") 716)]), #[]⟩),
  (366, fnD (stAt 52) (Str.ofString "_law_line") .none (.str (Str.ofString "law_pq1303_01") 607) (.ref 365)),
  (372, ⟨(.type "code"), none, (.fields #[(.str (Str.ofString "_law_spoilt") 718), (.str (Str.ofString "_law_spoilt") 719), (.str (Str.ofString "/claim/cut.py") 720), (.int (279) 0), (.int (2) 0), (.int (0) 0), (.int (0) 0), (.int (3) 0), (.ref 367), (.bool true), (.int (181) 0), (.ref 368), .none, (.ref 369), (.ref 370), (.ref 371), (.int (724) 0), (.int (279) 0), (.str (Str.ofString "/claim/cut.py") 725)]), #[]⟩),
  (373, fnD (stAt 53) (Str.ofString "_law_spoilt") .none (.str (Str.ofString "law_pq1303_01") 607) (.ref 372)),
  (379, ⟨(.type "code"), none, (.fields #[(.str (Str.ofString "_law_read_right") 727), (.str (Str.ofString "_law_read_right") 728), (.str (Str.ofString "/claim/cut.py") 729), (.int (284) 0), (.int (1) 0), (.int (0) 0), (.int (0) 0), (.int (3) 0), (.ref 374), (.bool true), (.int (181) 0), (.ref 375), .none, (.ref 376), (.ref 377), (.ref 378), (.int (743) 0), (.int (284) 0), (.str (Str.ofString "/claim/cut.py") 744)]), #[]⟩),
  (380, fnD (stAt 54) (Str.ofString "_law_read_right") .none (.str (Str.ofString "law_pq1303_01") 607) (.ref 379)),
  (386, ⟨(.type "code"), none, (.fields #[(.str (Str.ofString "law") 746), (.str (Str.ofString "law") 747), (.str (Str.ofString "/claim/cut.py") 748), (.int (306) 0), (.int (1) 0), (.int (0) 0), (.int (0) 0), (.int (3) 0), (.ref 381), (.bool true), (.int (181) 0), (.ref 382), .none, (.ref 383), (.ref 384), (.ref 385), (.int (753) 0), (.int (306) 0), (.str (Str.ofString "/claim/cut.py") 754)]), #[]⟩),
  (387, fnD (stAt 55) (Str.ofString "law") .none (.str (Str.ofString "law_pq1303_01") 607) (.ref 386))]
noncomputable def Kas : List Addr := [1, 2, 3, 20, 21, 29, 35, 36, 38, 39, 40, 51, 52, 63, 64, 70, 71, 77, 78, 82, 83, 89, 90, 96, 97, 103, 104, 110, 111, 117, 118, 122, 123, 129, 130, 136, 137, 138, 139, 145, 146, 152, 153, 159, 160, 166, 167, 173, 174, 180, 181, 185, 186, 199, 200, 206, 207, 213, 214, 218, 219, 225, 226, 228, 229, 230, 231, 239, 240, 246, 247, 260, 261, 267, 268, 274, 275, 281, 282, 284, 285, 286, 287, 293, 294, 300, 301, 307, 308, 314, 315, 316, 322, 323, 327, 328, 334, 335, 341, 342, 346, 347, 351, 352, 358, 359, 365, 366, 372, 373, 379, 380, 386, 387]
noncomputable def hook : Hook := kHook K Kas (fun _ => by kernel_rfl)
abbrev row : OpenRow := PySem.Challenge.rw_pq1303_01.row
noncomputable def Xt (s : Shared) : Bool := xlAt V [] s && recOk (RowW.records row.toRowW) s
theorem bt0_abs (w : World) : absHeap (bt0 w.params) 11 (life0 w.params) = boot_heap w.params := by kernel_rfl
theorem size0 (w : World) : ((boot_heap w.params).isNs mainGlobals && (Array.mk [] : Array GenState).size == 0, (boot_heap w.params).objs.size, (boot_heap w.params).nsMap mainGlobals "__annotations__") = (true, 11, some (.ref 6)) := by kernel_rfl
theorem open0 (w : World) : (fencedOpening treeTable row.prog w 5330).map (fun s => (s.heap, s.gens, s.drawn, s.toks)) = some (boot_heap w.params, Array.mk [], boot_drawn, boot_toks) :=
  boot_open (by kernel_rfl) (by kernel_rfl) (fun _ => by kernel_rfl) w
theorem looks (w : World) : (fun os => (topRunT treeTable row.prog w 11 (some (.ref 6)) 5330 ⟨bt0 w.params, 11, life0 w.params, Array.mk [], boot_drawn, boot_toks, os⟩ (topStub row.prog)).map fun s => ((staticsOk (importedModules row.prog.main.body) (boot_heap w.params) s.abs.heap && namesBound row.prog s.abs.heap && gensDone s.abs && laidKept (boot_heap w.params) s.abs.heap),
        openSeen V loose (importedModules row.prog.main.body) Xt true s.abs, hook.obs s.abs)) = fun _ => some (true, openGood V loose, hook.val w) := by kernel_rfl
theorem left : LeftO row.prog V loose Xt hook.obs hook.val 5330 := leftO_of open0 bt0_abs size0 looks
end Mine
end
section
open PySem PySem.W PySem.Calls PyProof.Rows
set_option Elab.async false
set_option tactic.hygienic false
set_option maxRecDepth 100000
set_option linter.unusedVariables false
set_option genSizeOf false
set_option genInjectivity false
namespace Mine

/-- pure values -/
inductive D where
  | none | bool (b : Bool) | int (i : Int) | str (s : Str) | bytes (b : List Nat) | tup (ds : List D) | lst (ds : List D) | rng (a : Int) (n : Nat) | slc (lo hi st : Option Int) | val (v : Value)
  deriving Inhabited

theorem opq {α β : Type} (P : α → β → Prop) {G : Prop} (h : ∀ J : α → β → Prop, (∀ a b, J a b ↔ P a b) → G) : G := h P fun _ _ => Iff.rfl
theorem gP {P : Prop} (h : ∀ G : Prop, (P → G) → G) : P := h P id
noncomputable def Sub (I h : Heap) : Prop := ∀ b o, I.get? b = some o → h.get? b = some o
theorem Sub.refl (h : Heap) : Sub h h := fun _ _ e => e
theorem Sub.trans {a b c : Heap} (x : Sub a b) (y : Sub b c) : Sub a c := fun p o e => y p o (x p o e)
theorem Sub.push (h : Heap) (o : Obj) : Sub h (h.push o) := fun _ _ e => Heap.get?_push_of_some o e

mutual
inductive Rep (I : Heap) : Value → D → Prop
  | none : Rep I .none .none
  | bool (b : Bool) : Rep I (.bool b) (.bool b)
  | int (i : Int) (t : Tok) : Rep I (.int i t) (.int i)
  | str (s : Str) (t : Tok) : Rep I (.str s t) (.str s)
  | bytes (b : Array UInt8) (t : Tok) (l : List Nat) (e : b.toList.map UInt8.toNat = l) : Rep I (.bytes b t) (.bytes l)
  | val (v : Value) : Rep I v (.val v)
  | tup (a : Addr) (vs : Array Value) (ds : List D) : IsTup I a vs → Reps I vs.toList ds → Rep I (.ref a) (.tup ds)
  | lst (a : Addr) (vs : Array Value) (ds : List D) : I.IsList a vs → Reps I vs.toList ds → Rep I (.ref a) (.lst ds)
  | rng (r : Addr) (a b : Int) (n : Nat) (t u v : Tok) : IsRange I r a b 1 t u v → n = (b - a).toNat → (-(2 ^ 62) ≤ a ∧ a < 2 ^ 62 ∧ -(2 ^ 62) ≤ b ∧ b < 2 ^ 62) → Rep I (.ref r) (.rng a n)
  | slc (a : Addr) (l u t : Value) (lo hi st : Option Int) : I.IsSliceOf a l u t → IsPart l lo → IsPart u hi → IsPart t st → Rep I (.ref a) (.slc lo hi st)
inductive Reps (I : Heap) : List Value → List D → Prop
  | nil : Reps I [] []
  | cons {v d vs ds} : Rep I v d → Reps I vs ds → Reps I (v :: vs) (d :: ds)
end
noncomputable def Rep.Inv (v : Value) : D → Prop
  | .none => v = .none
  | .bool b => v = .bool b
  | .int i => ∃ t, v = .int i t
  | .str s => ∃ t, v = .str s t
  | .bytes l => ∃ b t, v = .bytes b t ∧ b.toList.map UInt8.toNat = l
  | .val u => v = u
  | _ => True
theorem Rep.inv {I : Heap} {v : Value} {d : D} (r : Rep I v d) : Rep.Inv v d := by
  cases r with
  | none => exact rfl
  | bool b => exact rfl
  | int i t => exact ⟨_, rfl⟩
  | str s t => exact ⟨_, rfl⟩
  | bytes b t l e => exact ⟨_, _, rfl, e⟩
  | val v => exact rfl
  | tup => exact trivial
  | lst => exact trivial
  | rng => exact trivial
  | slc => exact trivial
noncomputable def Rep.Inv2 (I : Heap) (v : Value) : D → Prop
  | .tup ds => ∃ a vs, v = .ref a ∧ IsTup I a vs ∧ Reps I vs.toList ds
  | .lst ds => ∃ a vs, v = .ref a ∧ I.IsList a vs ∧ Reps I vs.toList ds
  | .rng a n => ∃ r b t u w, v = .ref r ∧ IsRange I r a b 1 t u w ∧ n = (b - a).toNat ∧ (-(2 ^ 62) ≤ a ∧ a < 2 ^ 62 ∧ -(2 ^ 62) ≤ b ∧ b < 2 ^ 62)
  | _ => True
theorem Rep.inv2 {I : Heap} {v : Value} {d : D} (r : Rep I v d) : Rep.Inv2 I v d := by
  cases r with
  | tup a vs ds x y => exact ⟨a, vs, rfl, x, y⟩
  | lst a vs ds x y => exact ⟨a, vs, rfl, x, y⟩
  | rng r a b n t u w x e z => exact ⟨r, b, t, u, w, rfl, x, e, z⟩
  | _ => exact trivial
theorem Rep.tI {I : Heap} {v : Value} {ds : List D} (r : Rep I v (.tup ds)) : ∃ a vs, v = .ref a ∧ IsTup I a vs ∧ Reps I vs.toList ds := r.inv2
theorem Rep.lI {I : Heap} {v : Value} {ds : List D} (r : Rep I v (.lst ds)) : ∃ a vs, v = .ref a ∧ I.IsList a vs ∧ Reps I vs.toList ds := r.inv2
theorem Rep.rI {I : Heap} {v : Value} {a : Int} {n : Nat} (r : Rep I v (.rng a n)) : ∃ r b t u w, v = .ref r ∧ IsRange I r a b 1 t u w ∧ n = (b - a).toNat ∧ (-(2 ^ 62) ≤ a ∧ a < 2 ^ 62 ∧ -(2 ^ 62) ≤ b ∧ b < 2 ^ 62) := r.inv2
theorem Rep.nI {I : Heap} {v : Value} (r : Rep I v .none) : v = .none := r.inv
theorem Rep.bI {I : Heap} {v : Value} {b : Bool} (r : Rep I v (.bool b)) : v = .bool b := r.inv
theorem Rep.iI {I : Heap} {v : Value} {i : Int} (r : Rep I v (.int i)) : ∃ t, v = .int i t := r.inv
theorem Rep.sI {I : Heap} {v : Value} {i : Str} (r : Rep I v (.str i)) : ∃ t, v = .str i t := r.inv
theorem Rep.vI {I : Heap} {v u : Value} (r : Rep I v (.val u)) : v = u := r.inv
theorem Rep.yI {I : Heap} {v : Value} {l : List Nat} (r : Rep I v (.bytes l)) : ∃ b t, v = .bytes b t ∧ b.toList.map UInt8.toNat = l := r.inv
noncomputable def Reps.Inv (I : Heap) (vs : List Value) : List D → Prop
  | [] => vs = []
  | d :: ds => ∃ v vs', vs = v :: vs' ∧ Rep I v d ∧ Reps I vs' ds
theorem Reps.inv {I : Heap} {vs : List Value} {ds : List D} (r : Reps I vs ds) : Reps.Inv I vs ds := by
  cases r with
  | nil => exact rfl
  | cons a b => exact ⟨_, _, rfl, a, b⟩
theorem Reps.nilI {I : Heap} {vs : List Value} (r : Reps I vs []) : vs = [] := r.inv
theorem Reps.consI {I : Heap} {vs : List Value} {d : D} {ds : List D} (r : Reps I vs (d :: ds)) : ∃ v vs', vs = v :: vs' ∧ Rep I v d ∧ Reps I vs' ds := r.inv
theorem Reps.ind {I : Heap} {P : List Value → List D → Prop} (h0 : P [] []) (h1 : ∀ v d vs ds, Rep I v d → Reps I vs ds → P vs ds → P (v :: vs) (d :: ds)) {vs : List Value} : ∀ {ds : List D}, Reps I vs ds → P vs ds := by
  induction vs with
  | nil =>
    intro ds r
    cases ds with
    | nil => exact h0
    | cons d ds => obtain ⟨_, _, e, _⟩ := r.consI; cases e
  | cons v vs ih =>
    intro ds r
    cases ds with
    | nil => have e := r.nilI; cases e
    | cons d ds => obtain ⟨_, _, e, a, b⟩ := r.consI; cases e; exact h1 _ _ _ _ a b (ih b)
theorem IsTup.sub {I J : Heap} (k : Sub I J) {a vs} (x : IsTup I a vs) : IsTup J a vs := let ⟨o, ho, r⟩ := x; ⟨o, k _ _ ho, r⟩
theorem IsList.sub {I J : Heap} (k : Sub I J) {a vs} (x : I.IsList a vs) : J.IsList a vs := let ⟨o, ho, r⟩ := x; ⟨o, k _ _ ho, r⟩
theorem Rep.sub {I J : Heap} (k : Sub I J) {v : Value} {d : D} (r : Rep I v d) : Rep J v d :=
  Rep.rec (motive_1 := fun v d _ => Rep J v d) (motive_2 := fun vs ds _ => Reps J vs ds) .none .bool .int .str .bytes .val (fun a vs ds x _ y => .tup a vs ds (IsTup.sub k x) y) (fun a vs ds x _ y => .lst a vs ds (IsList.sub k x) y)
    (fun r a b n t u v x e z => .rng r a b n t u v (k _ _ x) e z) (fun a l u t lo hi st x p q r => .slc a l u t lo hi st (x.imp fun _ z => ⟨k _ _ z.1, z.2⟩) p q r) .nil (fun _ _ x y => .cons x y) r
theorem Reps.sub {I J : Heap} (k : Sub I J) {vs : List Value} {ds : List D} (r : Reps I vs ds) : Reps J vs ds := Reps.ind .nil (fun _ _ _ _ x _ y => .cons (x.sub k) y) r
theorem Reps.length {I : Heap} {vs : List Value} {ds : List D} (r : Reps I vs ds) : vs.length = ds.length := Reps.ind (P := fun vs ds => vs.length = ds.length) rfl (fun _ _ _ _ _ _ y => congrArg (· + 1) y) r
theorem Reps.append {I : Heap} {vs ws : List Value} {ds es : List D} (r : Reps I vs ds) (z : Reps I ws es) : Reps I (vs ++ ws) (ds ++ es) := Reps.ind (P := fun vs ds => Reps I (vs ++ ws) (ds ++ es)) z (fun _ _ _ _ x _ y => .cons x y) r
theorem Reps.get {I : Heap} {vs : List Value} {ds : List D} {i : Nat} {d : D} (r : Reps I vs ds) (e : ds[i]? = some d) : ∃ v, vs[i]? = some v ∧ Rep I v d :=
  Reps.ind (P := fun vs ds => ∀ i : Nat, ds[i]? = some d → ∃ v, vs[i]? = some v ∧ Rep I v d) (fun i e => nomatch e) (fun v d' vs ds x _ y i => match i with
    | 0 => fun e => ⟨v, rfl, Option.some.inj e ▸ x⟩
    | i + 1 => y i) r i e
theorem Reps.take {I : Heap} {vs : List Value} {ds : List D} (n : Nat) (r : Reps I vs ds) : Reps I (vs.take n) (ds.take n) :=
  Reps.ind (P := fun vs ds => ∀ n : Nat, Reps I (vs.take n) (ds.take n)) (fun n => by rw [List.take_nil, List.take_nil]; exact .nil) (fun _ _ _ _ x _ y n => match n with
    | 0 => .nil
    | n + 1 => .cons x (y n)) r n
theorem Reps.drop {I : Heap} {vs : List Value} {ds : List D} (n : Nat) (r : Reps I vs ds) : Reps I (vs.drop n) (ds.drop n) :=
  Reps.ind (P := fun vs ds => ∀ n : Nat, Reps I (vs.drop n) (ds.drop n)) (fun n => by rw [List.drop_nil, List.drop_nil]; exact .nil) (fun _ _ _ _ x r y n => match n with
    | 0 => .cons x r
    | n + 1 => y n) r n
theorem Reps.reverse {I : Heap} {vs : List Value} {ds : List D} (r : Reps I vs ds) : Reps I vs.reverse ds.reverse :=
  Reps.ind (P := fun vs ds => Reps I vs.reverse ds.reverse) .nil (fun _ _ _ _ x _ y => by rw [List.reverse_cons, List.reverse_cons]; exact y.append (.cons x .nil)) r
theorem Reps.set {I : Heap} {vs : List Value} {ds : List D} (n : Nat) {v : Value} {d : D} (r : Reps I vs ds) (z : Rep I v d) : Reps I (vs.set n v) (ds.set n d) :=
  Reps.ind (P := fun vs ds => ∀ n : Nat, Reps I (vs.set n v) (ds.set n d)) (fun n => .nil) (fun _ _ _ _ x r y n => match n with
    | 0 => .cons z r
    | n + 1 => .cons x (y n)) r n

/-- what an owned object is -/
inductive Sh where
  | list (ds : List D)
  | dictS (kvs : List (Str × D))
  | dictI (kvs : List (Int × D))
  | loc (ns : List Str) (vs : List (Option D))
  | inst (C dx : Addr)
  | ats (ns : List Str) (vs : List (Option D))
  | it (d : D) (i : Nat)
  | obj (o : Obj)
  | exc (C : Addr) (dx : Option Addr) (tb : Option Addr)
  | tb
  | cell (d : D)
abbrev Ent := Addr × Sh
abbrev Led := List Ent

noncomputable def isNs (m : Str → Option Value) (o : Obj) : Prop := ∃ es ep, o.data = .dict es ep ∧ StrKeys es ∧ ∀ x, nsFind es x = m x
theorem ns_of {h : Heap} {a : Addr} {m : Str → Option Value} (x : ∃ o, h.get? a = some o ∧ isNs m o) : h.Ns a m :=
  let ⟨o, ho, es, ep, r⟩ := x; ⟨o, es, ep, ho, r⟩
theorem isNs_of {h : Heap} {a : Addr} {m : Str → Option Value} (x : h.Ns a m) : ∃ o, h.get? a = some o ∧ isNs m o :=
  let ⟨o, es, ep, ho, r⟩ := x; ⟨o, ho, es, ep, r⟩

noncomputable def isNs1 (m : Str → Option Value) (o : Obj) : Prop := ∃ es ep, o.data = .dict es ep ∧ StrKeys es ∧ UniqKeys es ∧ ∀ x, nsFind es x = m x
theorem isNs1.ns {m : Str → Option Value} {o : Obj} (x : isNs1 m o) : isNs m o := let ⟨es, ep, a, b, _, d⟩ := x; ⟨es, ep, a, b, d⟩
theorem ns1_of {h : Heap} {a : Addr} {m : Str → Option Value} (x : ∃ o, h.get? a = some o ∧ isNs1 m o) : h.Ns1 a m :=
  let ⟨o, ho, es, ep, r⟩ := x; ⟨o, es, ep, ho, r⟩
theorem isNs1_of {h : Heap} {a : Addr} {m : Str → Option Value} (x : h.Ns1 a m) : ∃ o, h.get? a = some o ∧ isNs1 m o :=
  let ⟨o, es, ep, ho, r⟩ := x; ⟨o, ho, es, ep, r⟩
/-- the frame's names -/
inductive Locs (I : Heap) (m : Str → Option Value) : List Str → List (Option D) → Prop
  | nil : Locs I m [] []
  | none {x ns vs} : m x = none → Locs I m ns vs → Locs I m (x :: ns) (none :: vs)
  | some {x v d ns vs} : m x = some v → Rep I v d → Locs I m ns vs → Locs I m (x :: ns) (some d :: vs)
theorem Locs.sub {I J : Heap} (k : Sub I J) {m} {ns vs} (r : Locs I m ns vs) : Locs J m ns vs := by
  induction r with
  | nil => exact .nil
  | none e _ ih => exact .none e ih
  | some e x _ ih => exact .some e (x.sub k) ih

/-- the pairs of a dict, by its kind of key -/
inductive RepKV (I : Heap) {κ : Type} : List (κ × Value) → List (κ × D) → Prop
  | nil : RepKV I [] []
  | cons {k v d r s} : Rep I v d → RepKV I r s → RepKV I ((k, v) :: r) ((k, d) :: s)
theorem RepKV.sub {I J : Heap} (k : Sub I J) {κ : Type} {r : List (κ × Value)} {s} (z : RepKV I r s) : RepKV J r s := by
  induction z with
  | nil => exact .nil
  | cons x _ ih => exact .cons (x.sub k) ih

noncomputable def dictO {κ : Type} [DecidableEq κ] {w : World} (knd : KeyKind prog w κ) (kvs : List (κ × Value)) (o : Obj) : Prop :=
  ∃ es ep, o.ExactDict ∧ o.data = .dict es ep ∧ KeysOf knd es ∧ Pairs knd es.toList kvs ∧ (kvs.map (·.1)).Nodup
theorem dictOf_iff {κ : Type} [DecidableEq κ] {w : World} {knd : KeyKind prog w κ} {kvs : List (κ × Value)} {h : Heap} {a : Addr} : h.DictOf knd a kvs ↔ ∃ o, h.get? a = some o ∧ dictO knd kvs o :=
  ⟨fun ⟨o, es, ep, h1, r⟩ => ⟨o, h1, es, ep, r⟩, fun ⟨o, h1, es, ep, r⟩ => ⟨o, es, ep, h1, r⟩⟩

inductive ItObj (I : Heap) : D → Nat → Obj → Prop
  | lst {a vs ds i o} : I.IsList a vs → Reps I vs.toList ds → o.cls = .type "list_iterator" → o.data = .fields #[.ref a, .int i 0] → ItObj I (.lst ds) i o
  | tup {a vs ds} {i : Nat} {o} : IsTup I a vs → Reps I vs.toList ds → o.cls = .type "tuple_iterator" → o.data = .fields #[.ref a, .int i 0] → ItObj I (.tup ds) i o
  | rng {a n i o} : o = { cls := .type "range_iterator", dict := none, data := .fields #[rawInt (a + (i : Nat) * 1), rawInt ((n : Int) - (i : Nat)), rawInt 1], slots := #[] } → ItObj I (.rng a n) i o
  | str {s T t i o} : (T = "str_ascii_iterator" ∨ T = "str_iterator") → o.cls = .type T → o.data = .fields #[.str s t, .int i 0] → ItObj I (.str s) i o
  | bytes {b : Array UInt8} {l t i o} : b.toList.map UInt8.toNat = l → o.cls = .type "bytes_iterator" → o.data = .fields #[.bytes b t, .int i 0] → ItObj I (.bytes l) i o
theorem ItObj.sub {I J : Heap} (k : Sub I J) {d i o} (x : ItObj I d i o) : ItObj J d i o := by
  cases x with
  | lst a b c d => exact .lst (IsList.sub k a) (b.sub k) c d
  | tup a b c d => exact .tup (IsTup.sub k a) (b.sub k) c d
  | rng e => exact .rng e
  | str a b c => exact .str a b c
  | bytes a b c => exact .bytes a b c

noncomputable def Meets (w : World) (I : Heap) : Sh → Obj → Prop
  | .list ds, o => ∃ vs n, o = { cls := .type "list", data := .seq vs n } ∧ Reps I vs.toList ds
  | .dictS kvs, o => ∃ vs, dictO (strKind prog w) vs o ∧ RepKV I vs kvs
  | .dictI kvs, o => ∃ vs, dictO (intKind prog w) vs o ∧ RepKV I vs kvs
  | .loc ns vs, o => ∃ m, isNs m o ∧ Locs I m ns vs
  | .ats ns vs, o => ∃ m, isNs1 m o ∧ Locs I m ns vs ∧ ∀ x, x ∉ ns → m x = none
  | .inst C dx, o => o.cls = .ref C ∧ o.dict = some dx ∧ o.data = .plain
  | .it d i, o => ItObj I d i o
  | .obj o', o => o = o'
  | .exc C dx tb, o => o.cls = .ref C ∧ o.dict = dx ∧ ∃ a c d e f, (C = 52 → c = .none) ∧ o.data = .fields #[a, (match tb with | none => .none | some T => .ref T), c, d, e, f]
  | .tb, o => ∃ a b c d rest, o.data = .fields ([a, b, c, d] ++ rest).toArray
  | .cell d, o => ∃ v, o.data = .cell (some v) ∧ Rep I v d
theorem Meets.sub {w : World} {I J : Heap} (k : Sub I J) {sh : Sh} {o : Obj} (x : Meets w I sh o) : Meets w J sh o := by
  cases sh with
  | list ds => obtain ⟨vs, n, c, d⟩ := x; exact ⟨vs, n, c, d.sub k⟩
  | dictS kvs => obtain ⟨vs, a, b⟩ := x; exact ⟨vs, a, b.sub k⟩
  | dictI kvs => obtain ⟨vs, a, b⟩ := x; exact ⟨vs, a, b.sub k⟩
  | loc ns vs => obtain ⟨m, a, b⟩ := x; exact ⟨m, a, b.sub k⟩
  | ats ns vs => obtain ⟨m, a, b, c⟩ := x; exact ⟨m, a, b.sub k, c⟩
  | it d i => exact ItObj.sub k x
  | inst | obj | exc | tb => exact x
  | cell d => obtain ⟨v, a, b⟩ := x; exact ⟨v, a, b.sub k⟩

/-- the ledger: I is the frozen part; each entry is owned and stands in the heap -/
structure Own (w : World) (I : Heap) (R : Led) (h : Heap) : Prop where
  sub : Sub I h
  has : ∀ p ∈ R, ∃ o, h.get? p.1 = some o ∧ Meets w I p.2 o
  out : ∀ p ∈ R, I.get? p.1 = none
  nd : (R.map (·.1)).Nodup

/-- the entry stands in the list -/
inductive Has (e : Ent) : Led → Prop
  | head {r} : Has e (e :: r)
  | tail {x r} : Has e r → Has e (x :: r)
theorem Has.h1 {x0 e : Ent} {r : Led} : Has e (x0 :: e :: r) := .tail (.head)
theorem Has.h2 {x0 x1 e : Ent} {r : Led} : Has e (x0 :: x1 :: e :: r) := .tail (.tail (.head))
theorem Has.h3 {x0 x1 x2 e : Ent} {r : Led} : Has e (x0 :: x1 :: x2 :: e :: r) := .tail (.tail (.tail (.head)))
theorem Has.h4 {x0 x1 x2 x3 e : Ent} {r : Led} : Has e (x0 :: x1 :: x2 :: x3 :: e :: r) := .tail (.tail (.tail (.tail (.head))))
theorem Has.t5 {x0 x1 x2 x3 x4 e : Ent} {r : Led} (h : Has e r) : Has e (x0 :: x1 :: x2 :: x3 :: x4 :: r) := .tail (.tail (.tail (.tail (.tail (h)))))
theorem Has.mem {e : Ent} {R : Led} (h : Has e R) : e ∈ R := by
  induction h with
  | head => exact .head _
  | tail _ ih => exact .tail _ ih
theorem Has.app {e : Ent} {R : Led} (h : Has e R) (H : Led) : Has e (R ++ H) := by
  induction h with
  | head => exact .head
  | tail _ ih => exact .tail ih

/-- one entry's word changed -/
inductive Upd (a : Addr) (P P' : Sh) : Led → Led → Prop
  | head {r} : Upd a P P' ((a, P) :: r) ((a, P') :: r)
  | tail {x r r'} : Upd a P P' r r' → Upd a P P' (x :: r) (x :: r')
theorem Upd.h1 {a : Addr} {P P' : Sh} {x0 : Ent} {r : Led} : Upd a P P' (x0 :: (a, P) :: r) (x0 :: (a, P') :: r) := .tail (.head)
theorem Upd.h2 {a : Addr} {P P' : Sh} {x0 x1 : Ent} {r : Led} : Upd a P P' (x0 :: x1 :: (a, P) :: r) (x0 :: x1 :: (a, P') :: r) := .tail (.tail (.head))
theorem Upd.h3 {a : Addr} {P P' : Sh} {x0 x1 x2 : Ent} {r : Led} : Upd a P P' (x0 :: x1 :: x2 :: (a, P) :: r) (x0 :: x1 :: x2 :: (a, P') :: r) := .tail (.tail (.tail (.head)))
theorem Upd.h4 {a : Addr} {P P' : Sh} {x0 x1 x2 x3 : Ent} {r : Led} : Upd a P P' (x0 :: x1 :: x2 :: x3 :: (a, P) :: r) (x0 :: x1 :: x2 :: x3 :: (a, P') :: r) := .tail (.tail (.tail (.tail (.head))))
theorem Upd.t5 {a : Addr} {P P' : Sh} {x0 x1 x2 x3 x4 : Ent} {r r' : Led} (h : Upd a P P' r r') : Upd a P P' (x0 :: x1 :: x2 :: x3 :: x4 :: r) (x0 :: x1 :: x2 :: x3 :: x4 :: r') := .tail (.tail (.tail (.tail (.tail (h)))))
theorem Upd.app {a : Addr} {P P' : Sh} {R R' : Led} (u : Upd a P P' R R') (H : Led) : Upd a P P' (R ++ H) (R' ++ H) := by
  induction u with
  | head => exact .head
  | tail _ ih => exact .tail ih
theorem Upd.has {a : Addr} {P P' : Sh} {R R' : Led} (u : Upd a P P' R R') : Has (a, P) R := by
  induction u with
  | head => exact .head
  | tail _ ih => exact .tail ih
theorem Upd.map {a : Addr} {P P' : Sh} {R R' : Led} (u : Upd a P P' R R') : R'.map (·.1) = R.map (·.1) := by
  induction u with
  | head => rfl
  | tail _ ih => simp [ih]
theorem Upd.mem {a : Addr} {P P' : Sh} {R R' : Led} (u : Upd a P P' R R') (nd : (R.map (·.1)).Nodup) : ∀ p ∈ R', (p = (a, P') ∨ (p ∈ R ∧ p.1 ≠ a)) := by
  induction u with
  | head =>
    intro p hp
    rcases List.mem_cons.mp hp with rfl | hp
    · exact .inl rfl
    · refine .inr ⟨.tail _ hp, fun e => ?_⟩
      simp only [List.map_cons, List.nodup_cons] at nd
      exact nd.1 (e ▸ List.mem_map_of_mem hp)
  | tail u ih =>
    intro p hp
    simp only [List.map_cons, List.nodup_cons] at nd
    rcases List.mem_cons.mp hp with rfl | hp
    · refine .inr ⟨.head _, fun e => nd.1 ?_⟩
      exact e ▸ List.mem_map_of_mem u.has.mem
    · exact (ih nd.2 p hp).imp id fun x => ⟨.tail _ x.1, x.2⟩

/-- one entry taken out -/
inductive Rem (e : Ent) : Led → Led → Prop
  | head {r} : Rem e (e :: r) r
  | tail {x r r'} : Rem e r r' → Rem e (x :: r) (x :: r')
theorem Rem.perm {e : Ent} {R R' : Led} (u : Rem e R R') : R.Perm (e :: R') := by
  induction u with
  | head => exact .refl _
  | tail _ ih => exact (ih.cons _).trans (.swap _ _ _)
theorem Rem.app {e : Ent} {R R' : Led} (u : Rem e R R') (H : Led) : Rem e (R ++ H) (R' ++ H) := by
  induction u with
  | head => exact .head
  | tail _ ih => exact .tail ih

section
variable {w : World} {I h h' : Heap} {R R' : Led} {a : Addr} {P P' : Sh}
theorem Own.get (O : Own w I R h) (m : Has (a, P) R) : ∃ o, h.get? a = some o ∧ Meets w I P o := O.has _ m.mem
theorem Own.upd (O : Own w I R h) (u : Upd a P P' R R') (hs : ∀ b o, b ≠ a → h.get? b = some o → h'.get? b = some o) (hp : ∃ o, h'.get? a = some o ∧ Meets w I P' o) : Own w I R' h' := by
  refine ⟨fun b o e => hs b o (fun q => ?_) (O.sub b o e), fun p hp' => ?_, fun p hp' => ?_, by rw [u.map]; exact O.nd⟩
  · have := O.out _ u.has.mem
    rw [q] at e; rw [this] at e; cases e
  · rcases u.mem O.nd p hp' with rfl | ⟨m, ne⟩
    · exact hp
    · obtain ⟨o, ho, q⟩ := O.has p m
      exact ⟨o, hs _ _ ne ho, q⟩
  · rcases u.mem O.nd p hp' with rfl | ⟨m, _⟩
    · exact O.out (a, P) u.has.mem
    · exact O.out p m
theorem Own.ext (O : Own w I R h) (k : Sub h h') : Own w I R h' :=
  ⟨O.sub.trans k, fun p hp => let ⟨o, ho, q⟩ := O.has p hp; ⟨o, k _ _ ho, q⟩, O.out, O.nd⟩
theorem Own.extNew (O : Own w I R h) (k : Sub h h') (hn : h.get? a = none) (hp : ∃ o, h'.get? a = some o ∧ Meets w I P o) : Own w I ((a, P) :: R) h' := by
  have O' := O.ext k
  refine ⟨O'.sub, fun p hm => ?_, fun p hm => ?_, ?_⟩
  · rcases List.mem_cons.mp hm with rfl | hm
    · exact hp
    · exact O'.has p hm
  · rcases List.mem_cons.mp hm with rfl | hm
    · cases q : I.get? a with
      | none => rfl
      | some x => rw [O.sub _ _ q] at hn; cases hn
    · exact O'.out p hm
  · simp only [List.map_cons, List.nodup_cons]
    refine ⟨fun m => ?_, O.nd⟩
    obtain ⟨p, hp, e⟩ := List.mem_map.mp m
    obtain ⟨x, hx, _⟩ := O.has p hp
    rw [e, hn] at hx; cases hx
theorem none_at_size (h : Heap) : h.get? h.objs.size = none := by
  cases q : h.get? h.objs.size with
  | none => rfl
  | some o => exact absurd (Heap.lt_size q) (Nat.lt_irrefl _)
theorem Own.push (O : Own w I R h) {o : Obj} (hp : Meets w I P o) (hf : o.isFreed = false := by rfl) : Own w I ((h.objs.size, P) :: R) (h.push o) :=
  O.extNew (Sub.push h o) (none_at_size h) ⟨o, Heap.get?_push_size _ hf, hp⟩
theorem Own.drop {e : Ent} (O : Own w I (e :: R) h) : Own w I R h :=
  ⟨O.sub, fun p hp => O.has p (.tail _ hp), fun p hp => O.out p (.tail _ hp), (List.nodup_cons.mp O.nd).2⟩
theorem Own.perm (O : Own w I R h) (p : R.Perm R') : Own w I R' h :=
  ⟨O.sub, fun x hx => O.has x (p.mem_iff.mpr hx), fun x hx => O.out x (p.mem_iff.mpr hx), (p.map _).nodup_iff.mp O.nd⟩
/-- all that is not owned is frozen -/
theorem Own.rest (O : Own w I R h) : ∃ I', Sub I I' ∧ Own w I' R h ∧ ∀ b o, h.get? b = some o → b ∉ R.map (·.1) → I'.get? b = some o := by
  have nm : ∀ b o, I.get? b = some o → b ∉ R.map (·.1) := fun b o q m => by
    obtain ⟨p, hp, rfl⟩ := List.mem_map.mp m
    rw [O.out p hp] at q; cases q
  have k : Sub I (hideAll h (R.map (·.1))) := fun b o q => hideAll_get _ (O.sub b o q) (nm b o q)
  exact ⟨hideAll h (R.map (·.1)), k, ⟨fun b o q => of_hideAll _ q, fun p hp => let ⟨o, ho, q⟩ := O.has p hp; ⟨o, ho, q.sub k⟩, fun p hp => hideAll_none _ (List.mem_map_of_mem hp), O.nd⟩, fun b o e n => hideAll_get _ e n⟩
/-- a part of what is owned is frozen too -/
theorem Own.freeze {e : Ent} (O : Own w I (e :: R) h) : ∃ I', Sub I I' ∧ Own w I' R h ∧ ∃ o, I'.get? e.1 = some o ∧ Meets w I' e.2 o := by
  obtain ⟨I', k, O', f⟩ := O.drop.rest
  obtain ⟨o, ho, q⟩ := O.has e (.head _)
  exact ⟨I', k, O', o, f _ _ ho (List.nodup_cons.mp O.nd).1, q.sub k⟩
end

end Mine
end
section
open PySem PySem.W PySem.Calls PyProof.Rows
set_option Elab.async false
set_option tactic.hygienic false
set_option maxRecDepth 100000
set_option linter.unusedVariables false
namespace Mine

structure Cx where
  w : World
  mg : Str → Option Value
  mb : Str → Option Value
  s₀ : Shared
abbrev Cx.M (c : Cx) : Model := model prog c.w

structure Wd (c : Cx) (I : Heap) : Prop where
  kin : (K c.w.params).In I
  g : I.Ns mainGlobals c.mg
  b : I.Ns builtinsNs c.mb
  nolimit : I.NoLimit
  builtins : ∀ x : Str, x ≠ "__name__" → c.mb x = bootBuiltins x
theorem Wd.sub {c : Cx} {I J : Heap} (W : Wd c I) (k : Sub I J) : Wd c J := ⟨W.kin.keeps k, W.g.keeps k, W.b.keeps k, W.nolimit.keeps k, W.builtins⟩

noncomputable def FrOk (A : Around) (R : Led) : Prop :=
  ∃ fs, A.frames = some fs ∧ ∀ e ∈ fs, e.scope.kind ≠ .module ∧ ∃ L ns vs, e.frame = some L ∧ (L, Sh.loc ns vs) ∈ R
structure St (c : Cx) (A : Around) (I : Heap) (R : Led) (s : Shared) : Prop where
  own : Own c.w I R s.heap
  wd : Wd c I
  gens : s.gens = c.s₀.gens
  drawn : s.drawn = c.s₀.drawn
  os : s.os = c.s₀.os
  fr : FrOk A R

theorem FrOk.mono {A : Around} {R R' : Led} (f : FrOk A R) (k : ∀ L ns vs, (L, Sh.loc ns vs) ∈ R → ∃ ns' vs', (L, Sh.loc ns' vs') ∈ R') : FrOk A R' := by
  obtain ⟨fs, e, h⟩ := f
  refine ⟨fs, e, fun x hx => ?_⟩
  refine gP fun Gq hGq => ?_
  obtain ⟨a, L, ns, vs, b, d⟩ := h x hx
  refine hGq ?_
  clear hGq
  obtain ⟨ns', vs', d'⟩ := k L ns vs d
  exact ⟨a, L, ns', vs', b, d'⟩

section
variable {c : Cx} {A : Around} {I : Heap} {R R' : Led} {s : Shared} {a : Addr} {P P' : Sh}
theorem St.get (H : St c A I R s) (m : Has (a, P) R) : ∃ o, s.heap.get? a = some o ∧ Meets c.w I P o := H.own.get m
theorem St.toks (H : St c A I R s) (t : Nat) : St c A I R { s with toks := t } := ⟨H.own, H.wd, H.gens, H.drawn, H.os, H.fr⟩
theorem St.up (H : St c A I R s) : Sub I s.heap := H.own.sub
theorem St.ext {h' : Heap} (H : St c A I R s) (k : Sub s.heap h') (t : Nat) : St c A I R { s with heap := h', toks := t } := ⟨H.own.ext k, H.wd, H.gens, H.drawn, H.os, H.fr⟩
theorem St.around {A' : Around} (H : St c A I R s) (e : A'.frames = A.frames) : St c A' I R s := ⟨H.own, H.wd, H.gens, H.drawn, H.os, by obtain ⟨fs, h1, h2⟩ := H.fr; exact ⟨fs, e.trans h1, h2⟩⟩
theorem St.extNew {h' : Heap} (H : St c A I R s) (k : Sub s.heap h') (hn : s.heap.get? a = none) (hp : ∃ o, h'.get? a = some o ∧ Meets c.w I P o) (t : Nat) : St c A I ((a, P) :: R) { s with heap := h', toks := t } :=
  ⟨H.own.extNew k hn hp, H.wd, H.gens, H.drawn, H.os, H.fr.mono fun L ns vs m => ⟨ns, vs, .tail _ m⟩⟩
theorem St.push (H : St c A I R s) {o : Obj} (hp : Meets c.w I P o) (t : Nat) (hf : o.isFreed = false := by rfl) : St c A I ((s.heap.objs.size, P) :: R) { s with heap := s.heap.push o, toks := t } :=
  H.extNew (Sub.push _ _) (none_at_size _) ⟨o, Heap.get?_push_size _ hf, hp⟩ t
/-- a new object, frozen at once -/
theorem St.pushI (H : St c A I R s) {o : Obj} (t : Nat) (hf : o.isFreed = false := by rfl) : ∃ I', Sub I I' ∧ I'.get? s.heap.objs.size = some o ∧ St c A I' R { s with heap := s.heap.push o, toks := t } := by
  have O := H.own.ext (Sub.push s.heap o)
  refine gP fun Gq hGq => ?_
  obtain ⟨I', k, O', f⟩ := O.rest
  refine hGq ?_
  clear hGq
  refine ⟨I', k, f _ _ (Heap.get?_push_size _ hf) fun m => ?_, O', H.wd.sub k, H.gens, H.drawn, H.os, H.fr⟩
  obtain ⟨p, hp, e⟩ := List.mem_map.mp m
  obtain ⟨x, hx, _⟩ := H.own.has p hp
  rw [e, none_at_size] at hx; cases hx
/-- the heap grew, and all new is frozen -/
theorem St.extI {h' : Heap} (H : St c A I R s) (k : Sub s.heap h') (t : Nat) : ∃ I', Sub I I' ∧ (∀ b o, s.heap.get? b = none → h'.get? b = some o → I'.get? b = some o) ∧ St c A I' R { s with heap := h', toks := t } := by
  have O := H.own.ext k
  refine gP fun Gq hGq => ?_
  obtain ⟨I', k', O', f⟩ := O.rest
  refine hGq ?_
  clear hGq
  refine ⟨I', k', fun b o hn ho => f _ _ ho fun m => ?_, O', H.wd.sub k', H.gens, H.drawn, H.os, H.fr⟩
  obtain ⟨p, hp, e⟩ := List.mem_map.mp m
  obtain ⟨x, hx, _⟩ := H.own.has p hp
  rw [e, hn] at hx; cases hx
noncomputable def Sh.isLoc : Sh → Bool | .loc .. => true | _ => false
theorem Upd.locs {R R' : Led} (u : Upd a P P' R R') (e : P.isLoc = true → P'.isLoc = true) : ∀ L ns vs, (L, Sh.loc ns vs) ∈ R → ∃ ns' vs', (L, Sh.loc ns' vs') ∈ R' := by
  induction u with
  | head =>
    intro L ns vs m
    rcases List.mem_cons.mp m with q | q
    · obtain ⟨rfl, rfl⟩ := Prod.mk.inj q
      cases P' with
      | loc ns' vs' => exact ⟨ns', vs', .head _⟩
      | _ => exact absurd (e rfl) (by simp [Sh.isLoc])
    · exact ⟨ns, vs, .tail _ q⟩
  | tail u ih =>
    intro L ns vs m
    rcases List.mem_cons.mp m with q | q
    · exact ⟨ns, vs, q ▸ .head _⟩
    · obtain ⟨n', v', z⟩ := ih L ns vs q
      exact ⟨n', v', .tail _ z⟩
theorem St.upd {h' : Heap} (H : St c A I R s) (u : Upd a P P' R R') (hs : ∀ b o, b ≠ a → s.heap.get? b = some o → h'.get? b = some o) (hp : ∃ o, h'.get? a = some o ∧ Meets c.w I P' o) (t : Nat)
    (e : P.isLoc = true → P'.isLoc = true := by first | (intro h; cases h) | exact id) : St c A I R' { s with heap := h', toks := t } :=
  ⟨H.own.upd u hs hp, H.wd, H.gens, H.drawn, H.os, H.fr.mono (u.locs e)⟩
theorem SameBut.at {a : Addr} {h h' : Heap} (k : Heap.SameBut a h h') : ∀ b o, b ≠ a → h.get? b = some o → h'.get? b = some o := fun b o ne e => (k.2 b ne).trans e
theorem St.drop {e : Ent} (H : St c A I (e :: R) s) (hl : e.2.isLoc = false) : St c A I R s := ⟨H.own.drop, H.wd, H.gens, H.drawn, H.os, H.fr.mono fun L ns vs m => by
  rcases List.mem_cons.mp m with q | q
  · rw [← q] at hl; cases hl
  · exact ⟨ns, vs, q⟩⟩
theorem St.perm (H : St c A I R s) (p : R.Perm R') : St c A I R' s := ⟨H.own.perm p, H.wd, H.gens, H.drawn, H.os, H.fr.mono fun L ns vs m => ⟨ns, vs, p.mem_iff.mp m⟩⟩
theorem St.freeze {e : Ent} (H : St c A I (e :: R) s) (hl : e.2.isLoc = false) : ∃ I', Sub I I' ∧ St c A I' R s ∧ ∃ o, I'.get? e.1 = some o ∧ Meets c.w I' e.2 o :=
  let ⟨I', k, O, x⟩ := H.own.freeze; ⟨I', k, ⟨O, H.wd.sub k, H.gens, H.drawn, H.os, (H.drop hl).fr⟩, x⟩
end

/-- what comes out: a pure value and a ledger -/
noncomputable def PG (c : Cx) (A : Around) (I : Heap) (H : Led) {β δ : Type} (Rel : Heap → β → δ → Prop) (Q : δ → Led → Prop) : β → Shared → Prop :=
  fun v s' => ∃ I' R' d, Sub I I' ∧ St c A I' (R' ++ H) s' ∧ Rel I' v d ∧ Q d R'
noncomputable def tbL : Option Addr → Led
  | some T => [(T, .tb)]
  | none => []
noncomputable def excLed (e C dx : Addr) (told : D) (tb : Option Addr) : Led := (e, .exc C (some dx) tb) :: (dx, .ats ["told"] [some told]) :: tbL tb
noncomputable def PX (c : Cx) (A : Around) (I : Heap) (H : Led) (X : Addr → D → Led → Prop) : Value → Shared → Prop :=
  fun v s' => ∃ I' R' e C dx tb told, v = .ref e ∧ Sub I I' ∧ St c A I' (excLed e C dx told tb ++ R' ++ H) s' ∧ X C told R'
theorem PX.sub {c : Cx} {A : Around} {I J : Heap} {H : Led} {X : Addr → D → Led → Prop} {v : Value} {s : Shared} (x : PX c A J H X v s) (k : Sub I J) : PX c A I H X v s := by
  refine gP fun Gq hGq => ?_
  obtain ⟨I', R', e, C, dx, tb, told, a, b, r⟩ := x
  refine hGq ?_
  clear hGq
  exact ⟨I', R', e, C, dx, tb, told, a, k.trans b, r⟩
theorem PG.sub {c : Cx} {A : Around} {I J : Heap} {H : Led} {β δ : Type} {Rel : Heap → β → δ → Prop} {Q : δ → Led → Prop} {v : β} {s : Shared} (x : PG c A J H Rel Q v s) (k : Sub I J) : PG c A I H Rel Q v s := by
  refine gP fun Gq hGq => ?_
  obtain ⟨I', R', d, b, r⟩ := x
  refine hGq ?_
  clear hGq
  exact ⟨I', R', d, k.trans b, r⟩
theorem PG.mono {c : Cx} {A : Around} {I : Heap} {H : Led} {β δ : Type} {Rel : Heap → β → δ → Prop} {Q Q' : δ → Led → Prop} {v : β} {s : Shared} (x : PG c A I H Rel Q v s) (k : ∀ d R, Q d R → Q' d R) : PG c A I H Rel Q' v s := by
  refine gP fun Gq hGq => ?_
  obtain ⟨I', R', d, b, r, t, u⟩ := x
  refine hGq ?_
  clear hGq
  exact ⟨I', R', d, b, r, t, k _ _ u⟩
theorem PX.mono {c : Cx} {A : Around} {I : Heap} {H : Led} {X X' : Addr → D → Led → Prop} {v : Value} {s : Shared} (x : PX c A I H X v s) (k : ∀ C d R, X C d R → X' C d R) : PX c A I H X' v s := by
  refine gP fun Gq hGq => ?_
  obtain ⟨I', R', e, C, dx, tb, told, a, b, r, z⟩ := x
  refine hGq ?_
  clear hGq
  exact ⟨I', R', e, C, dx, tb, told, a, b, r, k _ _ _ z⟩

theorem PG.elim {c : Cx} {A : Around} {I : Heap} {H : Led} {β δ : Type} {Rel : Heap → β → δ → Prop} {Q : δ → Led → Prop} {v : β} {s : Shared} {G : Prop} (z : PG c A I H Rel Q v s)
    (k : ∀ I' R' d, Sub I I' → St c A I' (R' ++ H) s → Rel I' v d → Q d R' → G) : G := by
  refine gP fun Gq hGq => ?_
  obtain ⟨I', R', d, a, b, r, q⟩ := z
  refine hGq ?_
  clear hGq
  exact k I' R' d a b r q
theorem PX.elim {c : Cx} {A : Around} {I : Heap} {H : Led} {X : Addr → D → Led → Prop} {v : Value} {s : Shared} {G : Prop} (z : PX c A I H X v s)
    (k : ∀ I' R' e C dx tb told, v = .ref e → Sub I I' → St c A I' (excLed e C dx told tb ++ R' ++ H) s → X C told R' → G) : G := by
  obtain ⟨I', R', e, C, dx, tb, told, a, b, h, x⟩ := z
  exact k I' R' e C dx tb told a b h x
/-- a tree under the ledger R, the rest H owned aside -/
abbrev Run (c : Cx) (A : Around) (I : Heap) (H : Led) {β δ : Type} (t : Sem β) (Rel : Heap → β → δ → Prop) (Q : δ → Led → Prop) (X : Addr → D → Led → Prop) (s : Shared) : Prop :=
  wpAny c.M A t (PG c A I H Rel Q) (PX c A I H X) s
theorem Run.sub {c : Cx} {A : Around} {I J : Heap} {H : Led} {β δ : Type} {t : Sem β} {Rel : Heap → β → δ → Prop} {Q : δ → Led → Prop} {X : Addr → D → Led → Prop} {s : Shared} (x : Run c A J H t Rel Q X s) (k : Sub I J) : Run c A I H t Rel Q X s :=
  wpAny_mono x (fun _ _ y => y.sub k) fun _ _ y => y.sub k
theorem Run.then {c : Cx} {A : Around} {I : Heap} {H : Led} {β β' δ δ' : Type} {t : Sem β} {f : β → Sem β'} {Rel : Heap → β → δ → Prop} {Rel' : Heap → β' → δ' → Prop} {Q : δ → Led → Prop} {Q' : δ' → Led → Prop} {X : Addr → D → Led → Prop} {s : Shared}
    (x : Run c A I H t Rel Q X s) (k : ∀ I1 R1 d v s1, Sub I I1 → St c A I1 (R1 ++ H) s1 → Rel I1 v d → Q d R1 → Run c A I1 H (f v) Rel' Q' X s1) :
    wpAny c.M A t (fun v s1 => Run c A I H (f v) Rel' Q' X s1) (PX c A I H X) s :=
  wpAny_mono x (fun v s1 zz => PG.elim zz fun I1 R1 d k1 hs r q => (k I1 R1 d v s1 k1 hs r q).sub k1) fun _ _ y => y
/-- the same, whatever comes behind -/
theorem Run.and {c : Cx} {A : Around} {I : Heap} {H : Led} {β δ : Type} {t : Sem β} {Rel : Heap → β → δ → Prop} {Q : δ → Led → Prop} {X : Addr → D → Led → Prop} {s : Shared} {Z : β → Shared → Prop}
    {J : Heap} (x : Run c A J H t Rel Q X s) (kJ : Sub I J) (k : ∀ I1 R1 d v s1, Sub J I1 → Sub I I1 → St c A I1 (R1 ++ H) s1 → Rel I1 v d → Q d R1 → Z v s1) :
    wpAny c.M A t Z (PX c A I H X) s :=
  wpAny_mono x (fun v s1 zz => PG.elim zz fun I1 R1 d k1 hs r q => k I1 R1 d v s1 k1 (kJ.trans k1) hs r q) fun _ _ y => PX.sub y kJ

structure Ev (c : Cx) (A : Around) (env : Env) (e : Expr) (R : Led) (Q : D → Led → Prop) (X : Addr → D → Led → Prop) : Prop where
  run : ∀ I H s, St c A I (R ++ H) s → Run c A I H (eval e env) Rep Q X s
structure Tst (c : Cx) (A : Around) (env : Env) (e : Expr) (R : Led) (Q : Bool → Led → Prop) (X : Addr → D → Led → Prop) : Prop where
  run : ∀ I H s, St c A I (R ++ H) s → Run c A I H (isTrue e env (eval e env)) (fun _ b b' => b = b') Q X s
structure Bin (c : Cx) (A : Around) (op : Operator) (d1 d2 : D) (R : Led) (Q : D → Led → Prop) (X : Addr → D → Led → Prop) : Prop where
  run : ∀ I H s v1 v2, St c A I (R ++ H) s → Rep I v1 d1 → Rep I v2 d2 → Run c A I H (binaryOp op v1 v2) Rep Q X s
structure Cmp (c : Cx) (A : Around) (op : CmpOp) (d1 d2 : D) (R : Led) (Q : D → Led → Prop) (X : Addr → D → Led → Prop) : Prop where
  run : ∀ I H s v1 v2, St c A I (R ++ H) s → Rep I v1 d1 → Rep I v2 d2 → Run c A I H (compareOp op v1 v2) Rep Q X s
structure Tru (c : Cx) (A : Around) (d : D) (R : Led) (Q : Bool → Led → Prop) (X : Addr → D → Led → Prop) : Prop where
  run : ∀ I H s v, St c A I (R ++ H) s → Rep I v d → Run c A I H (truthy v) (fun _ b b' => b = b') Q X s
structure Cal (c : Cx) (A : Around) (f : Value) (ds : List D) (R : Led) (Q : D → Led → Prop) (X : Addr → D → Led → Prop) : Prop where
  run : ∀ I H s vs, St c A I (R ++ H) s → Reps I vs ds → Run c A I H (call f vs) Rep Q X s

inductive Fl | next | brk | cont | ret (d : D)
inductive RelF (I : Heap) : Flow → Fl → Prop
  | next : RelF I .next .next
  | brk : RelF I .brk .brk
  | cont : RelF I .cont .cont
  | ret {v d} : Rep I v d → RelF I (.ret v) (.ret d)
structure Ex (c : Cx) (A : Around) (env : Env) (body : List Stmt) (R : Led) (Q : Fl → Led → Prop) (X : Addr → D → Led → Prop) : Prop where
  run : ∀ I H s, St c A I (R ++ H) s → Run c A I H (execs body env) RelF Q X s

/-- what a global name stands for -/
noncomputable def GlobIs (x : Str) (d : D) : Prop := ∀ c I, Wd c I → ∃ v, (c.mg x = some v ∨ (c.mg x = none ∧ c.mb x = some v)) ∧ Rep I v d
structure FE (env : Env) (L : Addr) (ns : List Str) (gl : List (Str × D)) : Prop where
  kind : env.scope.kind = .function
  loc : env.locals = L
  glob : env.globals = mainGlobals
  bui : env.builtins = builtinsNs
  locals : ∀ x ∈ ns, env.kindOf x = some .local
  globals : ∀ p ∈ gl, env.kindOf p.1 = some .globalImplicit ∧ GlobIs p.1 p.2
  nd : ns.Nodup
  nodebug : ∀ x ∈ ns ++ gl.map (·.1), (x == ("__debug__" : Str)) = false

/-- a def's own frame, not a comprehension's -/
noncomputable def FN (env : Env) (L : Addr) (sc : Scope) : Prop := ∃ (qual : Str) (f : Addr) (cd : Value) (cs : List (Str × Addr)), env = { envOf qual sc L f cd with cells := cs }
theorem FN.frame {env : Env} {L : Addr} {sc : Scope} (h : FN env L sc) : env.frame = some L := by obtain ⟨a, b, c, d, rfl⟩ := h; rfl
inductive LocAt : List Str → List (Option D) → Str → D → Prop
  | here {x ns d vs} : LocAt (x :: ns) (some d :: vs) x d
  | there {x y ns u d vs} : LocAt ns vs x d → LocAt (y :: ns) (u :: vs) x d
theorem LocAt.h1 {y0 x : Str} {ns : List Str} {u0 : Option D} {d : D} {vs : List (Option D)} : LocAt (y0 :: x :: ns) (u0 :: some d :: vs) x d := .there (.here)
theorem LocAt.h2 {y0 y1 x : Str} {ns : List Str} {u0 u1 : Option D} {d : D} {vs : List (Option D)} : LocAt (y0 :: y1 :: x :: ns) (u0 :: u1 :: some d :: vs) x d := .there (.there (.here))
theorem LocAt.h3 {y0 y1 y2 x : Str} {ns : List Str} {u0 u1 u2 : Option D} {d : D} {vs : List (Option D)} : LocAt (y0 :: y1 :: y2 :: x :: ns) (u0 :: u1 :: u2 :: some d :: vs) x d := .there (.there (.there (.here)))
theorem LocAt.h4 {y0 y1 y2 y3 x : Str} {ns : List Str} {u0 u1 u2 u3 : Option D} {d : D} {vs : List (Option D)} : LocAt (y0 :: y1 :: y2 :: y3 :: x :: ns) (u0 :: u1 :: u2 :: u3 :: some d :: vs) x d := .there (.there (.there (.there (.here))))
theorem LocAt.t5 {y0 y1 y2 y3 y4 x : Str} {ns : List Str} {u0 u1 u2 u3 u4 : Option D} {d : D} {vs : List (Option D)} (h : LocAt ns vs x d) : LocAt (y0 :: y1 :: y2 :: y3 :: y4 :: ns) (u0 :: u1 :: u2 :: u3 :: u4 :: vs) x d := .there (.there (.there (.there (.there (h)))))
theorem LocAt.at {names : List Str} {vals : List (Option D)} {x : Str} {v : D} (h : LocAt names vals x v) : x ∈ names ∧ ∀ {I : Heap} {m : Str → Option Value}, Locs I m names vals → ∃ u, m x = Option.some u ∧ Rep I u v := by
  induction h with
  | here => exact ⟨.head _, fun l => by cases l with | some a b c => exact ⟨_, a, b⟩⟩
  | there _ ih => exact ⟨.tail _ ih.1, fun l => by cases l with | some a b c => exact ih.2 c | none a c => exact ih.2 c⟩
inductive LocSet : List Str → List (Option D) → Str → D → List (Option D) → Prop
  | here {x ns u d vs} : LocSet (x :: ns) (u :: vs) x d (some d :: vs)
  | there {x y ns u d vs vs'} : LocSet ns vs x d vs' → LocSet (y :: ns) (u :: vs) x d (u :: vs')
theorem LocSet.h1 {y0 x : Str} {ns : List Str} {u0 u : Option D} {d : D} {vs : List (Option D)} : LocSet (y0 :: x :: ns) (u0 :: u :: vs) x d (u0 :: some d :: vs) := .there (.here)
theorem LocSet.h2 {y0 y1 x : Str} {ns : List Str} {u0 u1 u : Option D} {d : D} {vs : List (Option D)} : LocSet (y0 :: y1 :: x :: ns) (u0 :: u1 :: u :: vs) x d (u0 :: u1 :: some d :: vs) := .there (.there (.here))
theorem LocSet.h3 {y0 y1 y2 x : Str} {ns : List Str} {u0 u1 u2 u : Option D} {d : D} {vs : List (Option D)} : LocSet (y0 :: y1 :: y2 :: x :: ns) (u0 :: u1 :: u2 :: u :: vs) x d (u0 :: u1 :: u2 :: some d :: vs) := .there (.there (.there (.here)))
theorem LocSet.h4 {y0 y1 y2 y3 x : Str} {ns : List Str} {u0 u1 u2 u3 u : Option D} {d : D} {vs : List (Option D)} : LocSet (y0 :: y1 :: y2 :: y3 :: x :: ns) (u0 :: u1 :: u2 :: u3 :: u :: vs) x d (u0 :: u1 :: u2 :: u3 :: some d :: vs) := .there (.there (.there (.there (.here))))
theorem LocSet.t5 {y0 y1 y2 y3 y4 x : Str} {ns : List Str} {u0 u1 u2 u3 u4 : Option D} {d : D} {vs vs' : List (Option D)} (h : LocSet ns vs x d vs') : LocSet (y0 :: y1 :: y2 :: y3 :: y4 :: ns) (u0 :: u1 :: u2 :: u3 :: u4 :: vs) x d (u0 :: u1 :: u2 :: u3 :: u4 :: vs') := .there (.there (.there (.there (.there (h)))))
theorem Locs.other {I : Heap} {m : Str → Option Value} {x : Str} {v : Value} {ns vs} (l : Locs I m ns vs) (n : x ∉ ns) : Locs I (fun y => if y = x then Option.some v else m y) ns vs := by
  induction l with
  | nil => exact .nil
  | none e r ih =>
    have n := not_or.mp (mt List.mem_cons.mpr n)
    exact .none (by rw [if_neg (Ne.symm n.1)]; exact e) (ih n.2)
  | some e z r ih =>
    have n := not_or.mp (mt List.mem_cons.mpr n)
    exact .some (by rw [if_neg (Ne.symm n.1)]; exact e) z (ih n.2)
theorem LocSet.at {names : List Str} {vals vals' : List (Option D)} {x : Str} {d : D} (h : LocSet names vals x d vals') : x ∈ names ∧ (names.Nodup → ∀ {I : Heap} {m : Str → Option Value} {v : Value}, Locs I m names vals → Rep I v d → Locs I (fun y => if y = x then Option.some v else m y) names vals') := by
  induction h with
  | @here x ns u d vs =>
    refine ⟨.head _, fun nd {I m v} l r => ?_⟩
    rw [List.nodup_cons] at nd
    have l' : Locs I m ns vs := by cases l with | some a b c => exact c | none a c => exact c
    exact .some (if_pos rfl) r (l'.other nd.1)
  | @there x y ns u d vs vs' _ ih =>
    refine ⟨.tail _ ih.1, fun nd {I m v} l r => ?_⟩
    rw [List.nodup_cons] at nd
    have ne : y ≠ x := fun e => nd.1 (e ▸ ih.1)
    cases l with
    | some a b cc => exact .some (by rw [if_neg ne]; exact a) b (ih.2 nd.2 cc r)
    | none a cc => exact .none (by rw [if_neg ne]; exact a) (ih.2 nd.2 cc r)
inductive GlAt : List (Str × D) → Str → D → Prop
  | here {x d l} : GlAt ((x, d) :: l) x d
  | there {x d p l} : GlAt l x d → GlAt (p :: l) x d
theorem GlAt.mem {l : List (Str × D)} {x : Str} {d : D} (h : GlAt l x d) : (x, d) ∈ l := by
  induction h with
  | here => exact .head _
  | there _ ih => exact .tail _ ih

section
variable {c : Cx} {A : Around} {env : Env} {L : Addr} {ns : List Str} {vs vs' : List (Option D)} {gl : List (Str × D)} {R R0 R' : Led} {Q : D → Led → Prop} {X : Addr → D → Led → Prop}

theorem ev_loc {x : Str} {pos : Pos} {d : D} (fe : FE env L ns gl) (hm : Has (L, .loc ns vs) R) (hl : LocAt ns vs x d) (h : Q d R) : Ev c A env (.Name x pos) R Q X := by
  constructor
  intro I H s hs
  refine gP fun Gq hGq => ?_
  obtain ⟨o, ho, m, hm, hq⟩ := hs.get (hm.app H)
  refine hGq ?_
  clear hGq
  have N : s.heap.Ns env.locals m := by rw [fe.loc]; exact ns_of ⟨o, ho, hm⟩
  obtain ⟨hx, f⟩ := hl.at
  obtain ⟨u, hu, r⟩ := f hq
  exact wpAny_Name (wpAny_loadName_local fe.kind (fe.locals x hx) N hu ⟨I, _, d, Sub.refl _, hs, r, h⟩) (fe.nodebug x (List.mem_append_left _ hx))
theorem ev_glob {x : Str} {pos : Pos} {d : D} (fe : FE env L ns gl) (hx : GlAt gl x d) (h : Q d R) : Ev c A env (.Name x pos) R Q X := by
  constructor
  intro I H s hs
  obtain ⟨k, g⟩ := fe.globals _ hx.mem
  obtain ⟨v, e, r⟩ := g c I hs.wd
  have hg : s.heap.Ns env.globals c.mg := by rw [fe.glob]; exact hs.wd.g.keeps hs.up
  have hb : s.heap.Ns env.builtins c.mb := by rw [fe.bui]; exact hs.wd.b.keeps hs.up
  have nd := fe.nodebug x (List.mem_append_right _ (List.mem_map_of_mem hx.mem))
  have fin : PG c A I H Rep Q v s := ⟨I, _, d, Sub.refl _, hs, r, h⟩
  rcases e with e | ⟨e1, e2⟩
  · exact Name_function_global fe.kind k (loadGlobal_global hg e fin) nd
  · exact Name_function_global fe.kind k (loadGlobal_builtin hg e1 hb e2 fin) nd
/-- a store of a local -/
theorem store_loc {x : Str} {d : D} {v : Value} {Z : Unit → Shared → Prop} {E : Value → Shared → Prop} {I : Heap} {H : Led} {s : Shared} (fe : FE env L ns gl) (hu : Upd L (.loc ns vs) (.loc ns vs') R R') (hl : LocSet ns vs x d vs') (hs : St c A I (R ++ H) s) (r : Rep I v d)
    (h : ∀ s', St c A I (R' ++ H) s' → Z () s') : wpAny c.M A (storeName env x v) Z E s := by
  refine gP fun Gq hGq => ?_
  obtain ⟨o, ho, m, hm, hq⟩ := hs.get (hu.app H).has
  refine hGq ?_
  clear hGq
  have N : s.heap.Ns env.locals m := by rw [fe.loc]; exact ns_of ⟨o, ho, hm⟩
  obtain ⟨hx, f⟩ := hl.at
  refine wpAny_storeName_local (fe.locals x hx) N (fun h' hn' hk => h _ ?_) ?_
  · rw [fe.loc] at hn' hk
    obtain ⟨o', ho', hm'⟩ := isNs_of hn'
    exact hs.upd (P' := .loc ns vs') (hu.app H) (SameBut.at hk) ⟨o', ho', _, hm', f fe.nd hq r⟩ _ (fun _ => rfl)
  · rw [fe.kind]; rfl

theorem ev_int {i k pos} (h : Q (.int i) R) : Ev c A env (.Constant (.int i) k pos) R Q X :=
  .mk fun I H s hs => wpAny_Constant_int ⟨I, R, _, Sub.refl _, hs.toks _, .int _ _, h⟩
theorem ev_str {x : Str} {k pos} (h : Q (.str x) R) : Ev c A env (.Constant (.str x) k pos) R Q X :=
  .mk fun I H s hs => wpAny_Constant_str ⟨I, R, _, Sub.refl _, hs.toks _, .str _ _, h⟩
theorem ev_bytes {x : List UInt8} {k pos} {l : List Nat} (h : Q (.bytes l) R) (e : x.map UInt8.toNat = l := by with_unfolding_all rfl) : Ev c A env (.Constant (.bytes x) k pos) R Q X :=
  .mk fun I H s hs => fun _ _ _ => ⟨I, R, _, Sub.refl _, hs.toks _, .bytes _ _ _ (by rw [List.toList_toArray]; exact e), h⟩
theorem ev_bool {b k pos} (h : Q (.bool b) R) : Ev c A env (.Constant (.bool b) k pos) R Q X :=
  .mk fun I H s hs => wpAny_Constant_bool ⟨I, R, _, Sub.refl _, hs, .bool _, h⟩
theorem ev_none {k pos} (h : Q .none R) : Ev c A env (.Constant .none k pos) R Q X :=
  .mk fun I H s hs => wpAny_Constant_none ⟨I, R, _, Sub.refl _, hs, .none, h⟩

@[reducible] noncomputable def kBin2 (c : Cx) (A : Around) (op : Operator) (d1 : D) (Q : D → Led → Prop) (X : Addr → D → Led → Prop) : D → Led → Prop := fun d2 R2 => Bin c A op d1 d2 R2 Q X
@[reducible] noncomputable def kBin (c : Cx) (A : Around) (env : Env) (op : Operator) (r : Expr) (Q : D → Led → Prop) (X : Addr → D → Led → Prop) : D → Led → Prop := fun d1 R1 => Ev c A env r R1 (kBin2 c A op d1 Q X) X
@[reducible] noncomputable def kCmp2 (c : Cx) (A : Around) (op : CmpOp) (d1 : D) (Q : D → Led → Prop) (X : Addr → D → Led → Prop) : D → Led → Prop := fun d2 R2 => Cmp c A op d1 d2 R2 Q X
@[reducible] noncomputable def kCmp (c : Cx) (A : Around) (env : Env) (op : CmpOp) (r : Expr) (Q : D → Led → Prop) (X : Addr → D → Led → Prop) : D → Led → Prop := fun d1 R1 => Ev c A env r R1 (kCmp2 c A op d1 Q X) X
@[reducible] noncomputable def kTru (c : Cx) (A : Around) (Qb : Bool → Led → Prop) (X : Addr → D → Led → Prop) : D → Led → Prop := fun d R1 => Tru c A d R1 Qb X
@[reducible] noncomputable def kIfE (c : Cx) (A : Around) (env : Env) (x y : Expr) (Q : D → Led → Prop) (X : Addr → D → Led → Prop) : Bool → Led → Prop := fun b R1 => (b = true → Ev c A env x R1 Q X) ∧ (b = false → Ev c A env y R1 Q X)
@[reducible] noncomputable def kAnd2 (c : Cx) (A : Around) (env : Env) (y : Expr) (d : D) (Q : D → Led → Prop) (X : Addr → D → Led → Prop) : Bool → Led → Prop := fun b R2 => (b = true → Ev c A env y R2 Q X) ∧ (b = false → Q d R2)
@[reducible] noncomputable def kAnd (c : Cx) (A : Around) (env : Env) (y : Expr) (Q : D → Led → Prop) (X : Addr → D → Led → Prop) : D → Led → Prop := fun d R1 => Tru c A d R1 (kAnd2 c A env y d Q X) X
@[reducible] noncomputable def kOr2 (c : Cx) (A : Around) (env : Env) (y : Expr) (d : D) (Q : D → Led → Prop) (X : Addr → D → Led → Prop) : Bool → Led → Prop := fun b R2 => (b = true → Q d R2) ∧ (b = false → Ev c A env y R2 Q X)
@[reducible] noncomputable def kOr (c : Cx) (A : Around) (env : Env) (y : Expr) (Q : D → Led → Prop) (X : Addr → D → Led → Prop) : D → Led → Prop := fun d R1 => Tru c A d R1 (kOr2 c A env y d Q X) X
@[reducible] noncomputable def kNot (Qb : Bool → Led → Prop) : Bool → Led → Prop := fun b R1 => Qb (!b) R1
@[reducible] noncomputable def kTAnd (c : Cx) (A : Around) (env : Env) (rest : List Expr) (pos : Pos) (Qb : Bool → Led → Prop) (X : Addr → D → Led → Prop) : Bool → Led → Prop := fun b R1 => (b = true → Tst c A env (.BoolOp .And rest pos) R1 Qb X) ∧ (b = false → Qb false R1)
@[reducible] noncomputable def kTOr (c : Cx) (A : Around) (env : Env) (rest : List Expr) (pos : Pos) (Qb : Bool → Led → Prop) (X : Addr → D → Led → Prop) : Bool → Led → Prop := fun b R1 => (b = true → Qb true R1) ∧ (b = false → Tst c A env (.BoolOp .Or rest pos) R1 Qb X)
theorem ev_bin {op l r pos} (h : Ev c A env l R (kBin c A env op r Q X) X) : Ev c A env (.BinOp l op r pos) R Q X := .mk fun I H s hs =>
  wpAny_BinOp ((h.run I H s hs).and (Sub.refl _) fun I1 R1 d1 v1 s1 _ k1 hs1 r1 q1 => (q1.run I1 H s1 hs1).and k1 fun I2 R2 d2 v2 s2 k2 k hs2 r2 q2 => Run.sub (q2.run I2 H s2 v1 v2 hs2 (r1.sub k2) r2) k)
theorem ev_cmp {op l r pos} (h : Ev c A env l R (kCmp c A env op r Q X) X) (hm : behindInMarks op r = false := by with_unfolding_all rfl) : Ev c A env (.Compare l [op] [r] pos) R Q X := .mk fun I H s hs =>
  wpAny_Compare1 ((h.run I H s hs).and (Sub.refl _) fun I1 R1 d1 v1 s1 _ k1 hs1 r1 q1 => (q1.run I1 H s1 hs1).and k1 fun I2 R2 d2 v2 s2 k2 k hs2 r2 q2 => Run.sub (q2.run I2 H s2 v1 v2 hs2 (r1.sub k2) r2) k) hm
theorem ev_ifexp {test body orelse pos} (h : Tst c A env test R (kIfE c A env body orelse Q X) X) : Ev c A env (.IfExp test body orelse pos) R Q X := .mk fun I H s hs =>
  wpAny_IfExp ((h.run I H s hs).and (Sub.refl _) fun I1 R1 b b' s1 _ k1 hs1 r1 q1 => by
    subst r1
    cases b' with
    | true => rw [if_pos rfl]; exact Run.sub ((q1.1 rfl).run I1 H s1 hs1) k1
    | false => rw [if_neg (by simp)]; exact Run.sub ((q1.2 rfl).run I1 H s1 hs1) k1)
theorem ev_and {x y pos} (h : Ev c A env x R (kAnd c A env y Q X) X) : Ev c A env (.BoolOp .And [x, y] pos) R Q X := .mk fun I H s hs =>
  wpAny_And2 ((h.run I H s hs).and (Sub.refl _) fun I1 R1 d v s1 _ k1 hs1 r1 q1 => wpAny_mono (q1.run I1 H s1 v hs1 r1) (fun b s2 zz => PG.elim zz fun I2 R2 b' k2 hs2 r2 q2 => by
    subst r2
    cases b with
    | true => rw [if_pos rfl]; exact Run.sub ((q2.1 rfl).run I2 H s2 hs2) (k1.trans k2)
    | false => rw [if_neg (by simp)]; exact ⟨I2, R2, d, k1.trans k2, hs2, r1.sub k2, q2.2 rfl⟩) fun _ _ z => PX.sub z k1)
theorem ev_or {x y pos} (h : Ev c A env x R (kOr c A env y Q X) X) : Ev c A env (.BoolOp .Or [x, y] pos) R Q X := .mk fun I H s hs =>
  wpAny_Or2 ((h.run I H s hs).and (Sub.refl _) fun I1 R1 d v s1 _ k1 hs1 r1 q1 => wpAny_mono (q1.run I1 H s1 v hs1 r1) (fun b s2 zz => PG.elim zz fun I2 R2 b' k2 hs2 r2 q2 => by
    subst r2
    cases b with
    | false => rw [if_neg (by simp)]; exact Run.sub ((q2.2 rfl).run I2 H s2 hs2) (k1.trans k2)
    | true => rw [if_pos rfl]; exact ⟨I2, R2, d, k1.trans k2, hs2, r1.sub k2, q2.1 rfl⟩) fun _ _ z => PX.sub z k1)
theorem ev_unary {op x pos} (h : Ev c A env x R (fun d R1 => ∀ I H s v, St c A I (R1 ++ H) s → Rep I v d → Run c A I H (unaryOp op v) Rep Q X s) X) : Ev c A env (.UnaryOp op x pos) R Q X := .mk fun I H s hs =>
  wpAny_UnaryOp ((h.run I H s hs).then fun I1 R1 d v s1 k1 hs1 r1 q1 => q1 I1 H s1 v hs1 r1)

-- tests
variable {Qb : Bool → Led → Prop}
theorem ts_cmp {op l r pos} (h : Ev c A env l R (kCmp c A env op r (kTru c A Qb X) X) X) (hm : behindInMarks op r = false := by with_unfolding_all rfl) : Tst c A env (.Compare l [op] [r] pos) R Qb X := .mk fun I H s hs =>
  wpAny_isTrue_Compare1 ((h.run I H s hs).and (Sub.refl _) fun I1 R1 d1 v1 s1 _ k1 hs1 r1 q1 => (q1.run I1 H s1 hs1).and k1 fun I2 R2 d2 v2 s2 k2 k hs2 r2 q2 => (q2.run I2 H s2 v1 v2 hs2 (r1.sub k2) r2).and k fun I3 R3 d3 v3 s3 _ k' hs3 r3 q3 => Run.sub (q3.run I3 H s3 v3 hs3 r3) k') hm
theorem ts_not {x pos} (h : Tst c A env x R (kNot Qb) X) : Tst c A env (.UnaryOp .Not x pos) R Qb X := .mk fun I H s hs =>
  wpAny_isTrue_Not (wpAny_mono (h.run I H s hs) (fun b s1 zz => PG.elim zz fun I1 R1 d k1 hs1 r q => ⟨I1, R1, !d, k1, hs1, by rw [r], q⟩) fun _ _ z => z)
theorem ts_and {x rest pos} (h : Tst c A env x R (kTAnd c A env rest pos Qb X) X) : Tst c A env (.BoolOp .And (x :: rest) pos) R Qb X := .mk fun I H s hs =>
  isTrue_and ((h.run I H s hs).and (Sub.refl _) fun I1 R1 b b' s1 _ k1 hs1 r1 q1 => by
    subst r1
    cases b' with
    | true => rw [if_pos rfl]; exact Run.sub ((q1.1 rfl).run I1 H s1 hs1) k1
    | false => rw [if_neg (by simp)]; exact ⟨I1, R1, false, k1, hs1, rfl, q1.2 rfl⟩)
theorem ts_or {x rest pos} (h : Tst c A env x R (kTOr c A env rest pos Qb X) X) : Tst c A env (.BoolOp .Or (x :: rest) pos) R Qb X := .mk fun I H s hs =>
  isTrue_or ((h.run I H s hs).and (Sub.refl _) fun I1 R1 b b' s1 _ k1 hs1 r1 q1 => by
    subst r1
    cases b' with
    | false => rw [if_neg (by simp)]; exact Run.sub ((q1.2 rfl).run I1 H s1 hs1) k1
    | true => rw [if_pos rfl]; exact ⟨I1, R1, true, k1, hs1, rfl, q1.1 rfl⟩)
theorem ts_and_nil {pos} (h : Qb true R) : Tst c A env (.BoolOp .And [] pos) R Qb X := .mk fun I H s hs => isTrue_and_nil ⟨I, R, true, Sub.refl _, hs, rfl, h⟩
theorem ts_or_nil {pos} (h : Qb false R) : Tst c A env (.BoolOp .Or [] pos) R Qb X := .mk fun I H s hs => isTrue_or_nil ⟨I, R, false, Sub.refl _, hs, rfl, h⟩
theorem ts_val {e : Expr} (h : Ev c A env e R (kTru c A Qb X) X) (he : ∀ whole : Sem Value, isTrue e env whole = (do let v ← whole; standAt e.pos; holding [v] (truthy v)) := by intro _; with_unfolding_all rfl) : Tst c A env e R Qb X := .mk fun I H s hs =>
  isTrue_plain ((h.run I H s hs).then fun I1 R1 d v s1 k1 hs1 r1 q1 => q1.run I1 H s1 v hs1 r1) (he _)
theorem tr_bool {b : Bool} (h : Qb b R) : Tru c A (.bool b) R Qb X := .mk fun I H s v hs r => by
  (first | obtain ⟨_, rfl⟩ := Rep.iI r | obtain ⟨_, rfl⟩ := Rep.sI r | obtain rfl := Rep.vI r | obtain rfl := Rep.bI r | obtain rfl := Rep.nI r | cases r); exact wpAny_truthy_bool ⟨I, R, _, Sub.refl _, hs, rfl, h⟩

-- int operations
variable {i j : Int}
theorem bi_add (h : Q (.int (i + j)) R) : Bin c A .Add (.int i) (.int j) R Q X := .mk fun I H s _ _ hs r1 r2 => by (first | obtain ⟨_, rfl⟩ := Rep.iI r1 | obtain ⟨_, rfl⟩ := Rep.sI r1 | obtain rfl := Rep.vI r1 | obtain rfl := Rep.bI r1 | obtain rfl := Rep.nI r1 | cases r1); (first | obtain ⟨_, rfl⟩ := Rep.iI r2 | obtain ⟨_, rfl⟩ := Rep.sI r2 | obtain rfl := Rep.vI r2 | obtain rfl := Rep.bI r2 | obtain rfl := Rep.nI r2 | cases r2); exact PyProof.Rows.add_int ⟨I, R, _, Sub.refl _, hs.toks _, .int _ _, h⟩
theorem bi_sub (h : Q (.int (i - j)) R) : Bin c A .Sub (.int i) (.int j) R Q X := .mk fun I H s _ _ hs r1 r2 => by (first | obtain ⟨_, rfl⟩ := Rep.iI r1 | obtain ⟨_, rfl⟩ := Rep.sI r1 | obtain rfl := Rep.vI r1 | obtain rfl := Rep.bI r1 | obtain rfl := Rep.nI r1 | cases r1); (first | obtain ⟨_, rfl⟩ := Rep.iI r2 | obtain ⟨_, rfl⟩ := Rep.sI r2 | obtain rfl := Rep.vI r2 | obtain rfl := Rep.bI r2 | obtain rfl := Rep.nI r2 | cases r2); exact PyProof.Rows.sub_int ⟨I, R, _, Sub.refl _, hs.toks _, .int _ _, h⟩
end
end Mine
end
section
open PySem PySem.W PySem.Calls PyProof.Rows
set_option Elab.async false
set_option tactic.hygienic false
set_option maxRecDepth 100000
set_option linter.unusedVariables false
namespace Mine

theorem nodup_key {α β : Type} {R : List (α × β)} {a : α} {b b' : β} (nd : (R.map (·.1)).Nodup) (h : (a, b) ∈ R) (h' : (a, b') ∈ R) : b = b' := by
  induction R with
  | nil => cases h
  | cons x r ih =>
    simp only [List.map_cons, List.nodup_cons] at nd
    rcases List.mem_cons.mp h with q | q <;> rcases List.mem_cons.mp h' with q' | q'
    · rw [← q] at q'; cases q'; rfl
    · exact absurd (List.mem_map_of_mem (f := (·.1)) q') (by rw [← q] at nd; exact nd.1)
    · exact absurd (List.mem_map_of_mem (f := (·.1)) q) (by rw [← q'] at nd; exact nd.1)
    · exact ih nd.2 q q'

-- arguments
structure Args (c : Cx) (A : Around) (env : Env) (es : List Expr) (R : Led) (Q : List D → Led → Prop) (X : Addr → D → Led → Prop) : Prop where
  run : ∀ I H s pos, St c A I (R ++ H) s → Run c A I H (spliced (backTo pos (starEach es env))) Reps Q X s
/-- what may be called by its own tree -/
inductive Cable : Value → Prop
  | builtin (id : String) : Cable (.builtin id)
  | typ (T : String) : Cable (.type T)
  | ref (f : Addr) : (∀ P, keepIn (K P) (.ref f) = true) → Cable (.ref f)
/-- the method of that name -/
noncomputable def GetM (c : Cx) (d : D) (name : Str) (R : Led) (f : Value) : Prop :=
  ∀ (A : Around) I H s v (pl : Sem Bool) (Z : Value × List Value → Shared → Prop) (E : Value → Shared → Prop), St c A I (R ++ H) s → Rep I v d → Z (f, [v]) s → wpAny c.M A (getMethod v name pl) Z E s

section
variable {c : Cx} {A : Around} {env : Env} {L : Addr} {ns : List Str} {vs vs' : List (Option D)} {gl : List (Str × D)} {R R0 R' : Led} {Q : D → Led → Prop} {X : Addr → D → Led → Prop}

@[reducible] noncomputable def kArg2 (Q : List D → Led → Prop) (d : D) : List D → Led → Prop := fun ds R2 => Q (d :: ds) R2
@[reducible] noncomputable def kArg (c : Cx) (A : Around) (env : Env) (rest : List Expr) (Q : List D → Led → Prop) (X : Addr → D → Led → Prop) : D → Led → Prop := fun d R1 => Args c A env rest R1 (kArg2 Q d) X
@[reducible] noncomputable def kCal (c : Cx) (A : Around) (f : Value) (Q : D → Led → Prop) (X : Addr → D → Led → Prop) : List D → Led → Prop := fun ds R2 => Cal c A f ds R2 Q X
@[reducible] noncomputable def kCall (c : Cx) (A : Around) (env : Env) (es : List Expr) (Q : D → Led → Prop) (X : Addr → D → Led → Prop) : D → Led → Prop := fun d R1 => ∃ f, d = .val f ∧ Cable f ∧ Args c A env es R1 (kCal c A f Q X) X
theorem args_nil {Q : List D → Led → Prop} (h : Q [] R) : Args c A env [] R Q X := .mk fun I H s pos hs => spliced_none ⟨I, R, [], Sub.refl _, hs, .nil, h⟩
theorem args_cons {e : Expr} {rest : List Expr} {Q : List D → Led → Prop} (h : Ev c A env e R (kArg c A env rest Q X) X)
    (he : starEach (e :: rest) env = (false, eval e env) :: starEach rest env := by with_unfolding_all rfl) : Args c A env (e :: rest) R Q X := .mk fun I H s pos hs =>
  spliced_more ((h.run I H s hs).and (Sub.refl _) fun I1 R1 d v s1 _ k1 hs1 r1 q1 => wpAny_mono (q1.run I1 H s1 pos hs1) (fun vs s2 zz => PG.elim zz fun I2 R2 ds k2 hs2 r2 q2 => ⟨I2, R2, d :: ds, k1.trans k2, hs2, .cons (r1.sub k2) r2, q2⟩) fun _ _ z => PX.sub z k1) he

theorem callWith_c {f : Value} {first : List Value} {trees : List (Bool × Sem Value)} {pos : Pos} {Z : Value → Shared → Prop} {E : Value → Shared → Prop} {s : Shared} {I : Heap} {H : Led} {Qs : List D → Led → Prop} (hc : Cable f) (hplain : trees.any (·.1) = false)
    (h : Run c A I H (spliced trees) Reps Qs X s) (hE : ∀ e s, PX c A I H X e s → E e s)
    (k : ∀ I1 R1 ds vs s1, Sub I I1 → St c A I1 (R1 ++ H) s1 → Reps I1 vs ds → Qs ds R1 → wpAny c.M A (call f (first ++ vs)) Z E s1) :
    wpAny c.M A (callWith pos f first trees []) Z E s := by
  have args : ∀ {Y : PySem.Args → Shared → Prop}, (∀ I1 R1 ds vs s1, Sub I I1 → St c A I1 (R1 ++ H) s1 → Reps I1 vs ds → Qs ds R1 → Y ⟨vs, []⟩ s1) → wpAny c.M A (evalArgs f true trees []) Y E s := by
    intro Y hY
    have h' : wpAny c.M A (spliced trees) (fun vs s1 => Y ⟨vs, []⟩ s1) E s := wpAny_mono h (fun vs s1 zz => PG.elim zz fun I1 R1 ds k1 hs r q => hY I1 R1 ds vs s1 k1 hs r q) hE
    cases trees with
    | nil => exact fun Γ p hΓ => evalArgs_nil3 (show Y ⟨[], []⟩ s from h' Γ p hΓ) Γ p hΓ
    | cons t ts =>
      obtain ⟨b, x⟩ := t
      simp only [List.any_cons, Bool.or_eq_false_iff] at hplain
      obtain rfl : b = false := hplain.1
      exact evalArgs_plain h'
  cases hc with
  | builtin id => exact callWith_builtin hplain (args fun I1 R1 ds vs s1 k1 hs r q => k I1 R1 ds vs s1 k1 hs r q)
  | typ T => exact PyProof.Rows.callWith_type hplain (args fun I1 R1 ds vs s1 k1 hs r q => k I1 R1 ds vs s1 k1 hs r q)
  | ref f hk => exact callWith_of (by rw [hplain]; rfl) (keeps_K (hk c.w.params)) (args fun I1 R1 ds vs s1 k1 hs r q => ⟨hs.wd.kin.keeps hs.up, k I1 R1 ds vs s1 k1 hs r q⟩)
theorem ev_call {x : Str} {np pos : Pos} {es : List Expr} (h : Ev c A env (.Name x np) R (kCall c A env es Q X) X)
    (hplain : ∀ env, (starEach es env).any (·.1) = false := by intro _; with_unfolding_all rfl) : Ev c A env (.Call (.Name x np) es [] pos) R Q X := .mk fun I H s hs =>
  wpAny_Call_NameR ((h.run I H s hs).and (Sub.refl _) fun I1 R1 d v s1 _ k1 hs1 r1 ⟨f, q1, hc, q2⟩ => by
    subst q1; (first | obtain ⟨_, rfl⟩ := Rep.iI r1 | obtain ⟨_, rfl⟩ := Rep.sI r1 | obtain rfl := Rep.vI r1 | obtain rfl := Rep.bI r1 | obtain rfl := Rep.nI r1 | cases r1)
    refine callWith_c hc ?_ (q2.run I1 H s1 pos hs1) (fun _ _ z => PX.sub z k1) fun I2 R2 ds vs s2 k2 hs2 r2 q3 => Run.sub (q3.run I2 H s2 vs hs2 r2) (k1.trans k2)
    have := hplain env
    unfold backTo; rw [List.any_map]; simpa using this)

theorem meth_road {o : Expr} {name : Str} {apos pos : Pos} {es : List Expr} {Z : Value → Shared → Prop} {E : Value → Shared → Prop} {s : Shared}
    (hbase : attributeBase o name env (eval o env) = eval o env)
    (hfew : ((starEach es env).all (fun x => !x.1) && decide (es.length < 30)) = true) (hline : (apos.endLine == pos.line) = true)
    (h : wpAny c.M A (eval o env) (fun ov s1 => ∀ pl, wpAny c.M A (getMethod ov name pl) (fun r s2 => wpAny c.M A (callWith pos r.1 r.2 (backTo pos (starEach es env)) []) Z E s2) E s1) E s) :
    wpAny c.M A (eval (.Call (.Attribute o name apos) es [] pos) env) Z E s := by
  rw [arm_eval_Call, hbase]
  refine wpAny_bind (wpAny_mono h (fun ov s₁ h₁ => wpAny_bind (wpAny_standAt ?_)) fun _ _ e => e)
  have hform : methodCallForm (es.length + ([] : List Keyword).length) (backTo pos (starEach es env)) (backToKw pos (keywordEach [] env)) = true := by
    simp only [Bool.and_eq_true, decide_eq_true_eq] at hfew
    show ((backTo pos (starEach es env)).all (fun x => !x.1) && (backToKw pos (keywordEach [] env)).all (fun x => x.1.isSome) && decide (es.length + ([] : List Keyword).length + (if ([] : List Keyword).isEmpty then 0 else 1) < 30)) = true
    have e1 : (backTo pos (starEach es env)).all (fun x => !x.1) = true := by
      unfold backTo; rw [List.all_map]; simpa using hfew.1
    rw [e1]
    have e0 : backToKw pos (keywordEach [] env) = [] := by with_unfolding_all rfl
    rw [e0]
    simp only [List.all_nil, List.length_nil, List.isEmpty_nil, if_true, Bool.true_and, decide_eq_true_eq]
    lia
  have hpos : methodCallPos true o env apos pos = pure pos := by unfold methodCallPos; simp [hline]
  unfold methodCall
  rw [hform]
  exact wpAny_bind (wpAny_holding (wpAny_mono (h₁ _) (fun r s₂ h₂ => wpAny_bind (wpAny_of_eq hpos h₂)) fun _ _ z => z))

@[reducible] noncomputable def kMet (c : Cx) (A : Around) (f : Value) (d : D) (Q : D → Led → Prop) (X : Addr → D → Led → Prop) : List D → Led → Prop := fun ds R2 => Cal c A f (d :: ds) R2 Q X
@[reducible] noncomputable def kMeth (c : Cx) (A : Around) (env : Env) (name : Str) (es : List Expr) (Q : D → Led → Prop) (X : Addr → D → Led → Prop) : D → Led → Prop := fun d R1 => ∃ f, GetM c d name R1 f ∧ Cable f ∧ Args c A env es R1 (kMet c A f d Q X) X
theorem ev_meth {o : Expr} {name : Str} {apos pos : Pos} {es : List Expr} (h : Ev c A env o R (kMeth c A env name es Q X) X)
    (hbase : attributeBase o name env (eval o env) = eval o env := by with_unfolding_all rfl)
    (hfew : ((starEach es env).all (fun x => !x.1) && decide (es.length < 30)) = true := by with_unfolding_all rfl) (hline : (apos.endLine == pos.line) = true := by with_unfolding_all rfl) :
    Ev c A env (.Call (.Attribute o name apos) es [] pos) R Q X := .mk fun I H s hs =>
  meth_road hbase hfew hline ((h.run I H s hs).and (Sub.refl _) fun I1 R1 d v s1 _ k1 hs1 r1 ⟨f, gm, hc, q2⟩ => fun pl => gm A I1 H s1 v pl _ _ hs1 r1 (by
    refine callWith_c hc ?_ (q2.run I1 H s1 pos hs1) (fun _ _ z => PX.sub z k1) fun I2 R2 ds vs s2 k2 hs2 r2 q3 => Run.sub (q3.run I2 H s2 (v :: vs) hs2 (.cons (r1.sub k2) r2)) (k1.trans k2)
    simp only [Bool.and_eq_true] at hfew
    have e := hfew.1
    unfold backTo; rw [List.any_map]
    rw [List.any_eq_false]
    intro x hx
    have := List.all_eq_true.mp e x hx
    simpa using this))

-- exceptions on their way
theorem funFrames {I : Heap} {R : Led} {s : Shared} {fs : List Env} (hs : St c A I R s) (h : ∀ e ∈ fs, e.scope.kind ≠ .module ∧ ∃ L ns vs, e.frame = some L ∧ (L, Sh.loc ns vs) ∈ R) : s.heap.FunFrames I fs := by
  induction fs with
  | nil => trivial
  | cons e r ih =>
    refine gP fun Gq hGq => ?_
    obtain ⟨a, L, ns, vs, b, d⟩ := h e (.head _)
    refine hGq ?_
    clear hGq
    refine gP fun Gq hGq => ?_
    obtain ⟨o, ho, m, ⟨es, ep, hd, _⟩, _⟩ := hs.own.has _ d
    refine hGq ?_
    clear hGq
    exact ⟨a, ⟨L, o, b, hs.own.out _ d, ho, fun vs q => by rw [hd] at q; cases q⟩, ih fun x hx => h x (.tail _ hx)⟩
theorem St.slots {I : Heap} {R : Led} {s : Shared} {fs : List Env} {h' : Heap} (hs : St c A I R s) (h : ∀ e ∈ fs, e.scope.kind ≠ .module ∧ ∃ L ns vs, e.frame = some L ∧ (L, Sh.loc ns vs) ∈ R)
    (k : Heap.SlotsOnly (fs.filterMap (·.frame)) s.heap h') (t : Nat) : St c A I R { s with heap := h', toks := t } := by
  have isl : ∀ b, b ∈ fs.filterMap (·.frame) → ∃ ns vs, (b, Sh.loc ns vs) ∈ R := fun b hb => by
    obtain ⟨e, he, q⟩ := List.mem_filterMap.mp hb
    refine gP fun Gq hGq => ?_
    obtain ⟨_, L, ns, vs, b', d⟩ := h e he
    refine hGq ?_
    clear hGq
    rw [b'] at q; cases q
    exact ⟨ns, vs, d⟩
  refine ⟨⟨fun b o e => ?_, fun p hp => ?_, hs.own.out, hs.own.nd⟩, hs.wd, hs.gens, hs.drawn, hs.os, hs.fr⟩
  · by_cases q : b ∈ fs.filterMap (·.frame)
    · obtain ⟨ns, vs, d⟩ := isl b q
      have := hs.own.out _ d
      rw [show I.get? b = none from this] at e; cases e
    · exact (k.2.1 b q).trans (hs.own.sub b o e)
  · obtain ⟨o, ho, q⟩ := hs.own.has p hp
    by_cases z : p.1 ∈ fs.filterMap (·.frame)
    · obtain ⟨ns, vs, d⟩ := isl _ z
      obtain ⟨sl, hsl⟩ := k.2.2 _ _ ho
      have e2 : p.2 = .loc ns vs := by
        have nd := hs.own.nd
        obtain ⟨a, b⟩ := p
        exact nodup_key nd hp d
      rw [e2] at q ⊢
      refine gP fun Gq hGq => ?_
      obtain ⟨m, ⟨es, ep, hd, r⟩, l⟩ := q
      refine hGq ?_
      clear hGq
      exact ⟨_, hsl, m, ⟨es, ep, hd, r⟩, l⟩
    · exact ⟨o, (k.2.1 _ z).trans ho, q⟩
end
end Mine
end
section
open PySem PySem.W PySem.Calls PyProof.Rows
set_option Elab.async false
set_option tactic.hygienic false
set_option maxRecDepth 100000
set_option linter.unusedVariables false
namespace Mine
theorem lookup_reverse {β : Type} {l : List (Str × β)} (nd : (l.map (·.1)).Nodup) (x : Str) : l.reverse.lookup x = l.lookup x := by
  induction l with
  | nil => rfl
  | cons p l ih =>
    obtain ⟨a, b⟩ := p
    simp only [List.map_cons, List.nodup_cons] at nd
    rw [List.reverse_cons, List.lookup_append, ih nd.2, List.lookup_cons]
    by_cases q : x = a
    · subst q
      have : l.lookup x = none := by
        rw [List.lookup_eq_none_iff]
        intro p hp
        exact bne_iff_ne.mpr fun e => nd.1 (e ▸ List.mem_map_of_mem hp)
      simp [this]
    · simp only [List.lookup_cons, beq_eq_false_iff_ne.mpr q, List.lookup_nil, Option.or_none]

section
variable {c : Cx} {A : Around} {env : Env} {L : Addr} {ns : List Str} {vs vs' : List (Option D)} {gl : List (Str × D)} {R R0 R' : Led} {Q : D → Led → Prop} {X : Addr → D → Led → Prop}

noncomputable def tbV (tb : Option Addr) : Value := match tb with | none => .none | some T => .ref T
theorem set_exc {I : Heap} {s : Shared} {e C : Addr} {dx tb : Option Addr} {T : Addr} {Z : Unit → Shared → Prop} {E : Value → Shared → Prop} (hs : St c A I R s) (u : Upd e (.exc C dx tb) (.exc C dx (some T)) R R')
    (h : ∀ s', St c A I R' s' → Z () s') : wpAny c.M A (setField (.ref e) 1 (.ref T)) Z E s := by
  refine gP fun Gq hGq => ?_
  obtain ⟨oe, hoe, hcls, hdict, a0, c0, d0, e0, f0, hc52, hd⟩ := hs.get u.has
  refine hGq ?_
  clear hGq
  refine wpAny_setField hoe hd (by simp) (h _ ?_)
  have hd₃ := Obj.data_mapFields hd (·.setIfInBounds 1 (Value.ref T))
  refine hs.upd u (fun b o ne e => (Heap.get?_update_other _ _ (Ne.symm ne)).trans e) ⟨_, Heap.get?_update_self _ hoe (Obj.isFreed_of_fields hd₃), ?_⟩ _
  refine gP fun Gq hGq => ?_
  obtain ⟨ocls, odict, odata, oslots⟩ := oe
  refine hGq ?_
  clear hGq
  dsimp only at hd hcls hdict; subst hd
  exact ⟨hcls, hdict, a0, c0, d0, e0, f0, hc52, rfl⟩
theorem set_tb {I : Heap} {s : Shared} {T : Addr} {x : Value} {Z : Unit → Shared → Prop} {E : Value → Shared → Prop} (hs : St c A I R s) (u : Upd T .tb .tb R R')
    (h : ∀ s', St c A I R' s' → Z () s') : wpAny c.M A (setField (.ref T) 3 x) Z E s := by
  refine gP fun Gq hGq => ?_
  obtain ⟨oe, hoe, a0, b0, c0, d0, rest, hd⟩ := hs.get u.has
  refine hGq ?_
  clear hGq
  refine wpAny_setField hoe hd (by simp) (h _ ?_)
  have hd₃ := Obj.data_mapFields hd (·.setIfInBounds 3 x)
  refine hs.upd u (fun b o ne e => (Heap.get?_update_other _ _ (Ne.symm ne)).trans e) ⟨_, Heap.get?_update_self _ hoe (Obj.isFreed_of_fields hd₃), a0, b0, c0, x, rest, ?_⟩ _
  rw [hd₃]; rfl
theorem get_exc {I : Heap} {s : Shared} {e C : Addr} {dx tb : Option Addr} {Z : Value → Shared → Prop} {E : Value → Shared → Prop} (hs : St c A I R s) (u : Has (e, .exc C dx tb) R)
    (h : Z (tbV tb) s) : wpAny c.M A (field (.ref e) 1) Z E s := by
  refine gP fun Gq hGq => ?_
  obtain ⟨oe, hoe, hcls, hdict, a0, c0, d0, e0, f0, hc52, hd⟩ := hs.get u
  refine hGq ?_
  clear hGq
  exact wpAny_field hoe hd (x := tbV tb) rfl h
theorem get_tb {I : Heap} {s : Shared} {T : Addr} {Z : Value → Shared → Prop} {E : Value → Shared → Prop} (hs : St c A I R s) (u : Has (T, .tb) R)
    (h : ∀ v, Z v s) : wpAny c.M A (field (.ref T) 3) Z E s := by
  refine gP fun Gq hGq => ?_
  obtain ⟨oe, hoe, a0, b0, c0, d0, rest, hd⟩ := hs.get u
  refine hGq ?_
  clear hGq
  exact wpAny_field hoe hd (x := d0) rfl (h _)

/-- the frame is noted on the exception -/
theorem note {I : Heap} {H : Led} {s : Shared} {e C dx : Addr} {told : D} {tb : Option Addr} {Z : Unit → Shared → Prop} {E : Value → Shared → Prop}
    (hs : St c A I (excLed e C dx told tb ++ R ++ H) s) (hfr : ∃ outer, A.frames = some (env :: outer)) (hf : env.frame = some L)
    (h : ∀ T s', St c A I (excLed e C dx told (some T) ++ R ++ H) s' → Z () s') : wpAny c.M A (noteFrame (.ref e) env) Z E s := by
  obtain ⟨outer, hA⟩ := hfr
  unfold noteFrame
  simp only [hf]
  -- the entry made
  have fin : ∀ (s : Shared) (head : Value) (hadNext : Bool), St c A I (excLed e C dx told tb ++ R ++ H) s →
      wpAny c.M A (do setField (.ref e) 1 (← EntryCells.newEntry head (← frameOf env) .none (rawInt L) .none (← entryPlaceOf L hadNext))) Z E s := by
    intro s head hadNext hs
    obtain ⟨fs, hA', hfs⟩ := hs.fr
    obtain rfl : fs = env :: outer := by rw [hA] at hA'; exact (Option.some.inj hA').symm
    refine wpAny_bind (wpAny_frameOf_fun hA (funFrames hs hfs) hf fun h1 hk1 => wpAny_bind (wpAny_entryPlaceOf fun pl hpl => ?_))
    have hs1 := hs.slots hfs hk1 s.toks
    refine wpAny_bind ?_
    unfold EntryCells.newEntry newFields
    refine wpAny_newObj_type ?_ (hpl.sizeOk5 _ _ _ _ _)
    have hs2 : St c A I ((h1.objs.size, .tb) :: (excLed e C dx told tb ++ R ++ H)) { s with heap := h1.push _, toks := s.toks } := hs1.push (o := { cls := .type "traceback", dict := none, data := .fields ([head, .ref L, .none, rawInt L, .none] ++ (if pl.isEmpty then List.replicate 6 Value.none else pl)).toArray }) (P := .tb) ⟨head, .ref L, .none, rawInt L, .none :: (if pl.isEmpty then List.replicate 6 Value.none else pl), rfl⟩ s.toks
    refine set_exc (dx := some dx) (tb := tb) (R' := (h1.objs.size, .tb) :: (e, .exc C (some dx) (some h1.objs.size)) :: (dx, .ats ["told"] [some told]) :: (tbL tb ++ R ++ H)) hs2 (.tail (by unfold excLed; exact .head)) fun s3 hs3 => h h1.objs.size s3 ?_
    cases tb with
    | none =>
      refine hs3.perm ?_
      exact (List.Perm.swap _ _ _).trans ((List.Perm.swap _ _ _).cons _)
    | some T0 =>
      have hs4 : St c A I ((T0, .tb) :: (h1.objs.size, .tb) :: (e, .exc C (some dx) (some h1.objs.size)) :: (dx, .ats ["told"] [some told]) :: (R ++ H)) s3 := by
        refine hs3.perm ?_
        refine List.Perm.trans ?_ (List.perm_middle (l₁ := [(h1.objs.size, Sh.tb), (e, .exc C (some dx) (some h1.objs.size)), (dx, .ats ["told"] [some told])]))
        exact .refl _
      refine (hs4.drop rfl).perm ?_
      exact (List.Perm.swap _ _ _).trans ((List.Perm.swap _ _ _).cons _)
  have hexc : Has (e, Sh.exc C (some dx) tb) (excLed e C dx told tb ++ R ++ H) := by unfold excLed; exact .head
  refine wpAny_bind (get_exc hs hexc ?_)
  cases tb with
  | none =>
    rw [if_neg (by simp [tbV])]
    exact fin s _ _ hs
  | some T =>
    rw [if_pos (by simp [tbV])]
    have htb : Has (T, Sh.tb) (excLed e C dx told (some T) ++ R ++ H) := by unfold excLed; exact .tail (.tail .head)
    refine wpAny_bind (get_tb hs htb fun v => ?_)
    by_cases q : (v == rawInt L) = true
    · rw [if_pos q]
      exact wpAny_pure (h T s hs)
    · rw [if_neg q]
      refine wpAny_bind (set_tb hs (R' := excLed e C dx told (some T) ++ R ++ H) (by unfold excLed; exact .tail (.tail .head)) fun s2 hs2 => fin s2 _ _ hs2)

theorem flight {I : Heap} {H : Led} {s : Shared} {e C dx : Addr} {told : D} {T : Addr} {fl : Option Addr} {Z : Unit → Shared → Prop} {E : Value → Shared → Prop}
    (hs : St c A I (excLed e C dx told (some T) ++ R ++ H) s) (h : ∀ s', St c A I (excLed e C dx told (some T) ++ R ++ H) s' → Z () s') : wpAny c.M A (setFlight (.ref e) fl) Z E s := by
  have hexc : Has (e, Sh.exc C (some dx) (some T)) (excLed e C dx told (some T) ++ R ++ H) := by unfold excLed; exact .head
  unfold setFlight
  refine wpAny_bind (get_exc hs hexc ?_)
  rw [if_pos (by simp [tbV])]
  exact set_tb hs (R' := excLed e C dx told (some T) ++ R ++ H) (by unfold excLed; exact .tail (.tail .head)) fun s2 hs2 => h s2 hs2

/-- an exception passes a loop -/
theorem px_loop {I : Heap} {H : Led} {s : Shared} {v : Value} (hx : PX c A I H X v s) (hfr : ∃ outer, A.frames = some (env :: outer)) (hf : env.frame = some L) : notedBy c.M A env (cameBackBy c.M A env (PX c A I H X)) v s := by
  refine gP fun Gq hGq => ?_
  obtain ⟨I', R', e, C, dx, tb, told, rfl, k, hs, x⟩ := hx
  refine hGq ?_
  clear hGq
  unfold notedBy
  refine note hs hfr hf fun T s' hs' => ?_
  unfold cameBackBy
  have hexc : Has (e, Sh.exc C (some dx) (some T)) (excLed e C dx told (some T) ++ R' ++ H) := by unfold excLed; exact .head
  refine wpAny_bind (get_exc hs' hexc ?_)
  rw [if_neg (by simp [tbV])]
  exact flight hs' fun s'' hs'' => ⟨I', R', e, C, dx, some T, told, rfl, k, hs'', x⟩
theorem px_noted {I : Heap} {H : Led} {s : Shared} {v : Value} (hx : PX c A I H X v s) (hfr : ∃ outer, A.frames = some (env :: outer)) (hf : env.frame = some L) : notedBy c.M A env (PX c A I H X) v s := by
  refine gP fun Gq hGq => ?_
  obtain ⟨I', R', e, C, dx, tb, told, rfl, k, hs, x⟩ := hx
  refine hGq ?_
  clear hGq
  exact note hs hfr hf fun T s' hs' => ⟨I', R', e, C, dx, some T, told, rfl, k, hs', x⟩

theorem FrOk.leave {env : Env} {L : Addr} {ns vs} {R1 : Led} {R : Led} (hf : env.frame = some L) (f0 : FrOk A R) (hn : L ∉ R.map (·.1)) (f : FrOk (A.deeper env) ((L, .loc ns vs) :: R1)) : FrOk A R1 := by
  obtain ⟨fs, e, h⟩ := f0
  obtain ⟨fs', e', h'⟩ := f
  obtain rfl : fs' = env :: fs := by
    have : (A.deeper env).frames = some (env :: fs) := by show A.frames.map (env :: ·) = _; rw [e]; rfl
    rw [this] at e'; exact (Option.some.inj e').symm
  refine ⟨fs, e, fun x hx => ?_⟩
  refine gP fun Gq hGq => ?_
  obtain ⟨a, L1, n1, v1, b1, d1⟩ := h x hx
  refine hGq ?_
  clear hGq
  refine gP fun Gq hGq => ?_
  obtain ⟨_, L2, n2, v2, b2, d2⟩ := h' x (.tail _ hx)
  refine hGq ?_
  clear hGq
  rw [b1] at b2; cases b2
  refine ⟨a, L1, n2, v2, b1, ?_⟩
  rcases List.mem_cons.mp d2 with q | q
  · obtain ⟨rfl, _⟩ := Prod.mk.inj q
    exact absurd (List.mem_map_of_mem (f := (·.1)) d1) hn
  · exact q
theorem St.leave {I0 I : Heap} {s0 s : Shared} {R1 : Led} (hf : env.frame = some L) (hs0 : St c A I0 R s0) (hn : s0.heap.get? L = none) (hs : St c (A.deeper env) I ((L, .loc ns vs) :: R1) s) : St c A I R1 s :=
  ⟨hs.own.drop, hs.wd, hs.gens, hs.drawn, hs.os, FrOk.leave hf hs0.fr (fun m => by
    obtain ⟨p, hp, q⟩ := List.mem_map.mp m
    obtain ⟨o, ho, _⟩ := hs0.own.has p hp
    rw [q, hn] at ho; cases ho) hs.fr⟩

/-- there is room for n more frames -/
structure Rm (A : Around) (n : Nat) : Prop where
  depth : A.depth + n < recursionLimit
  units : A.units + 8 * n < cLine
  handled : A.handled = none
theorem Rm.deeper {A : Around} {n : Nat} (h : Rm A (n + 1)) (env : Env) : Rm (A.deeper env) n := ⟨by have := h.depth; show A.depth + 1 + n < _; lia, by have := h.units; show A.units + 3 + 8 * n < _; lia, h.handled⟩
theorem Rm.less {A : Around} {n m : Nat} (h : Rm A n) (k : m ≤ n) : Rm A m := ⟨by have := h.depth; lia, by have := h.units; lia, h.handled⟩

/-- some of the ledger let go -/
inductive Drops : Led → Led → Prop
  | nil {R : Led} : Drops R R
  | keep {e : Ent} {R R' : Led} : Drops R R' → Drops (e :: R) (e :: R')
  | drop {a : Addr} {sh : Sh} {R R' : Led} : Sh.isLoc sh = false → Drops R R' → Drops ((a, sh) :: R) R'
theorem St.drops {I : Heap} {s : Shared} {S T : Led} (d : Drops S T) : ∀ {P H : Led}, St c A I (P ++ (S ++ H)) s → St c A I (P ++ (T ++ H)) s := by
  induction d with
  | nil => intro P H h; exact h
  | @keep e S T _ ih =>
    intro P H h
    have := @ih (P ++ [e]) H (by simpa using h)
    simpa using this
  | @drop a sh S T hl _ ih =>
    intro P H h
    have h2 : St c A I ((a, sh) :: (P ++ (S ++ H))) s := h.perm List.perm_middle
    exact ih (h2.drop hl)
theorem St.drops0 {I : Heap} {s : Shared} {S T H : Led} (d : Drops S T) (h : St c A I (S ++ H) s) : St c A I (T ++ H) s := St.drops d (P := []) h
/-- what a def gives back -/
noncomputable def Back (L : Addr) (Q : D → Led → Prop) (fl : Fl) (R : Led) : Prop := ∃ ns vs Ra R1, Rem (L, .loc ns vs) R Ra ∧ Drops Ra R1 ∧ Q (match fl with | .ret d => d | _ => .none) R1
noncomputable def BackX (L : Addr) (X : Addr → D → Led → Prop) (C : Addr) (d : D) (R : Led) : Prop := ∃ ns vs Ra R1, Rem (L, .loc ns vs) R Ra ∧ Drops Ra R1 ∧ X C d R1

theorem locs_of {I : Heap} {rest : List Str} {ps : List Str} {vals : List Value} {ds : List D} (r : Reps I vals ds) (hl : ps.length = ds.length) (nd : (ps ++ rest).Nodup) {m : Str → Option Value} (hm : ∀ x, m x = ((ps.zip vals).lookup x)) : Locs I m (ps ++ rest) (ds.map some ++ List.replicate rest.length none) := by
  induction ps generalizing vals ds m with
  | nil =>
    obtain rfl : ds = [] := List.eq_nil_of_length_eq_zero hl.symm
    have : ∀ (l : List Str), Locs I m l (List.replicate l.length none) := by
      intro l
      induction l with
      | nil => exact .nil
      | cons x r ih => exact .none (by rw [hm]; rfl) ih
    simpa using this rest
  | cons p ps ih =>
    cases ds with
    | nil => cases hl
    | cons d ds =>
      refine gP fun Gq hGq => ?_
      obtain ⟨v, vs, rfl, x, y⟩ := r.consI
      refine hGq ?_
      clear hGq
      simp only [List.cons_append, List.nodup_cons] at nd
      have ih := ih y (Nat.succ.inj hl) nd.2 (m := fun z => (ps.zip vs).lookup z) (fun _ => rfl)
      refine .some (v := v) ?_ x ?_
      · rw [hm]; simp
      · have : m = fun y => if y = p then Option.some v else (ps.zip vs).lookup y := by
          funext y
          rw [hm, List.zip_cons_cons, List.lookup_cons]
          by_cases q : y = p
          · simp [q]
          · simp [q, beq_eq_false_iff_ne.mpr q]
        rw [this]
        exact ih.other nd.1

/-- what stands in the scope of a def -/
noncomputable def feOk (scope : Scope) (ns : List Str) (gl : List (Str × D)) : Bool :=
  scope.kind == .function && (ns.all fun x => scope.names.lookup x == some .local) && (gl.all fun p => scope.names.lookup p.1 == some .globalImplicit) && decide ns.Nodup && ((ns ++ gl.map (·.1)).all fun x => !(x == ("__debug__" : Str))) &&
    (scope.names.all fun x => x.2 != .cell) && !scope.isCoroutine && !scope.isGenerator
theorem fe_of {qual : Str} {scope : Scope} {L f : Addr} {cd : Value} {ns : List Str} {gl : List (Str × D)} (e : feOk scope ns gl = true) (hg : ∀ p ∈ gl, GlobIs p.1 p.2) : FE (envOf qual scope L f cd) L ns gl := by
  unfold feOk at e
  simp only [Bool.and_eq_true, List.all_eq_true, decide_eq_true_eq, beq_iff_eq, Bool.not_eq_true'] at e
  refine gP fun Gq hGq => ?_
  obtain ⟨⟨⟨⟨⟨⟨⟨k, a⟩, b⟩, nd⟩, d⟩, _⟩, _⟩, _⟩ := e
  refine hGq ?_
  clear hGq
  exact ⟨k, rfl, rfl, rfl, fun x hx => a x hx, fun p hp => ⟨b p hp, hg p hp⟩, nd, fun x hx => d x hx⟩

/-- a call, as a code -/
structure CalC (c : Cx) (A : Around) (f : Value) (ds : List D) (R : Led) (Q : D → Led → Prop) (X : Addr → D → Led → Prop) : Prop where
  run : ∀ I H s vs, St c A I (R ++ H) s → Reps I vs ds → codeAny c.M A (.call f ⟨vs, []⟩) (fun r s' => match r with | .ok (.ret v) => PG c A I H Rep Q v s' | .ok _ => False | .error e => PX c A I H X e s') s
theorem CalC.cal {f : Value} {ds : List D} (h : CalC c A f ds R Q X) : Cal c A f ds R Q X := .mk fun I H s vs hs r => wpAny_call (h.run I H s vs hs r)
theorem cal_fnP {f : Addr} {st : Stmt} {qual : Str} {dV pm cd : Value} {ps rest : List Str} {ds : List D} (P : Around → Prop) (hdep : A.depth < recursionLimit) (hP : ∀ env, P (A.deeper env))
    (hK : ∀ P, (K P).lookup f = some (fnD st qual dV pm cd)) (hcd : ∀ P, codeIn (K P) cd qual = true)
    (hbind : ∀ (s : Shared) (vals : List Value), (K c.w.params).In s.heap → vals.length = ps.length → BindsTo s (fnOf (fnName st) qual (fnArgs st) (fnBody st) (fnScope st) dV .none .none pm none cd .none) ⟨vals, []⟩ (ps.zip vals))
    (hlen : ps.length = ds.length) (hfe : feOk (fnScope st) (ps ++ rest) gl = true) (hg : ∀ p ∈ gl, GlobIs p.1 p.2)
    (h : ∀ (env : Env) (A' : Around) (L : Addr), FE env L (ps ++ rest) gl → FN env L (fnScope st) → P A' → (∃ outer, A'.frames = some (env :: outer)) →
      Ex c A' env (fnBody st) ((L, .loc (ps ++ rest) (ds.map some ++ List.replicate rest.length none)) :: R) (Back L Q) (BackX L X)) :
    CalC c A (.ref f) ds R Q X := by
  constructor
  intro I H s vals hs hr
  have hX := hs.wd.kin.keeps hs.up
  have hfe' := hfe
  unfold feOk at hfe'
  simp only [Bool.and_eq_true, List.all_eq_true, decide_eq_true_eq, beq_iff_eq, Bool.not_eq_true', bne_iff_ne, ne_eq] at hfe'
  refine gP fun Gq hGq => ?_
  obtain ⟨⟨⟨⟨⟨⟨⟨hk, hloc⟩, _⟩, nd⟩, _⟩, hcell⟩, hco⟩, hgen⟩ := hfe'
  refine hGq ?_
  clear hGq
  have hlen' : vals.length = ps.length := by rw [hlen]; exact hr.length
  refine (codeAny_call_def (fd := fnOf (fnName st) qual (fnArgs st) (fnBody st) (fnScope st) dV .none .none pm none cd .none) (body := fnBody st) (binds := ps.zip vals) hdep
    (hX _ _ (hK _)) rfl (hs.wd.nolimit.keeps hs.up) (codeRec_of hX (hcd _)) rfl (hbind _ vals hX hlen') (fun x hx => hcell x hx) (fun x hx => hloc x.1 (List.mem_append_left _ (List.of_mem_zip hx).1)) (fun h₁ hns hk₁ => ?_) hco hgen hk)
  obtain ⟨o', ho', hm'⟩ := isNs_of hns
  have fe : FE (envOf qual (fnScope st) s.heap.objs.size f cd) s.heap.objs.size (ps ++ rest) gl := fe_of hfe hg
  obtain ⟨fs, hfs, hfs'⟩ := hs.fr
  have hfr : (A.deeper (envOf qual (fnScope st) s.heap.objs.size f cd)).frames = some (envOf qual (fnScope st) s.heap.objs.size f cd :: fs) := by show A.frames.map _ = _; rw [hfs]; rfl
  have rev : ∀ x, (ps.zip vals).reverse.lookup x = (ps.zip vals).lookup x := by
    have ndp : ((ps.zip vals).map (·.1)).Nodup := by
      rw [List.map_fst_zip (by lia)]; exact (List.nodup_append.mp nd).1
    intro x
    exact lookup_reverse ndp x
  have hs1 := hs.extNew (a := s.heap.objs.size) (h' := h₁) (P := .loc (ps ++ rest) (ds.map some ++ List.replicate rest.length none)) hk₁ (none_at_size _) ⟨o', ho', _, hm', locs_of hr hlen nd rev⟩ (s.toks + (ps.zip vals).length)
  have hs2 : St c (A.deeper (envOf qual (fnScope st) s.heap.objs.size f cd)) I (((s.heap.objs.size, .loc (ps ++ rest) (ds.map some ++ List.replicate rest.length none)) :: R) ++ H) { s with heap := h₁, toks := s.toks + (ps.zip vals).length } :=
    ⟨hs1.own, hs1.wd, hs1.gens, hs1.drawn, hs1.os, by
      refine ⟨_, hfr, fun e he => ?_⟩
      rcases List.mem_cons.mp he with rfl | he
      · exact ⟨by show (fnScope st).kind ≠ _; rw [hk]; decide, _, _, _, rfl, .head _⟩
      · refine gP fun Gq hGq => ?_
        obtain ⟨a, L1, n1, v1, b1, d1⟩ := hfs' e he
        refine hGq ?_
        clear hGq
        exact ⟨a, L1, n1, v1, b1, .tail _ d1⟩⟩
  refine wpAny_mono ((h _ _ _ fe ⟨qual, f, cd, [], rfl⟩ (hP _) ⟨_, hfr⟩).run I H _ hs2) (fun fl s' x => ?_) fun e s' x => ?_
  · refine gP fun Gq hGq => ?_
    obtain ⟨I', R', d, k, hs', r, ns1, vs1, Ra, R1, hrem, hdr, q⟩ := x
    refine hGq ?_
    clear hGq
    have z := St.drops0 hdr (St.leave (hf := rfl) hs (none_at_size _) (hs'.perm (hrem.app H).perm))
    cases r with
    | next => exact ⟨I', R1, _, k, z, .none, q⟩
    | brk => exact ⟨I', R1, _, k, z, .none, q⟩
    | cont => exact ⟨I', R1, _, k, z, .none, q⟩
    | ret r => exact ⟨I', R1, _, k, z, r, q⟩
  · refine gP fun Gq hGq => ?_
    obtain ⟨I', R', e, C, dx, tb, told, rfl, k, hs', ns1, vs1, Ra, R1, hrem, hdr, q⟩ := x
    refine hGq ?_
    clear hGq
    unfold leaving
    refine wpAny_bind (note hs' ⟨_, hfr⟩ rfl fun T s2 hs2 => flight hs2 fun s3 hs3 => ?_)
    have hs4 : St c (A.deeper (envOf qual (fnScope st) s.heap.objs.size f cd)) I' ((s.heap.objs.size, .loc ns1 vs1) :: (excLed e C dx told (some T) ++ Ra ++ H)) s3 := by
      refine hs3.perm ?_
      have p1 := ((hrem.app H).perm).append_left (excLed e C dx told (some T))
      rw [← List.append_assoc] at p1
      refine p1.trans ?_
      simp only [List.append_assoc, List.cons_append]
      exact List.perm_middle
    have hs5 := St.leave (hf := rfl) hs (none_at_size _) hs4
    rw [List.append_assoc] at hs5
    have hs6 := St.drops hdr (P := excLed e C dx told (some T)) hs5
    rw [← List.append_assoc] at hs6
    exact ⟨I', R1, e, C, dx, some T, told, rfl, k, hs6, q⟩
theorem cal_fn {f : Addr} {st : Stmt} {qual : Str} {dV pm cd : Value} {ps rest : List Str} {ds : List D} {n : Nat} (rm : Rm A (n + 1))
    (hK : ∀ P, (K P).lookup f = some (fnD st qual dV pm cd)) (hcd : ∀ P, codeIn (K P) cd qual = true)
    (hbind : ∀ vals : List Value, vals.length = ps.length → bindArgs (fnOf (fnName st) qual (fnArgs st) (fnBody st) (fnScope st) dV .none .none pm none cd .none) ⟨vals, []⟩ = pure (ps.zip vals))
    (hlen : ps.length = ds.length) (hfe : feOk (fnScope st) (ps ++ rest) gl = true) (hg : ∀ p ∈ gl, GlobIs p.1 p.2)
    (h : ∀ (env : Env) (A' : Around) (L : Addr), FE env L (ps ++ rest) gl → FN env L (fnScope st) → Rm A' n → (∃ outer, A'.frames = some (env :: outer)) →
      Ex c A' env (fnBody st) ((L, .loc (ps ++ rest) (ds.map some ++ List.replicate rest.length none)) :: R) (Back L Q) (BackX L X)) :
    CalC c A (.ref f) ds R Q X := cal_fnP (fun A' => Rm A' n) (by have := rm.depth; lia) (fun env => rm.deeper env) hK hcd (fun s vals _ hv => BindsTo.of_eq (hbind vals hv)) hlen hfe hg h
end
end Mine
end
section
open PySem PySem.W PySem.Calls PyProof.Rows
set_option Elab.async false
set_option tactic.hygienic false
set_option maxRecDepth 100000
set_option linter.unusedVariables false
namespace Mine

/-- what a loop over it gives -/
inductive Items : D → List D → Prop
  | lst {ds} : Items (.lst ds) ds
  | tup {ds} : Items (.tup ds) ds
  | rng {a : Int} {n : Nat} : Items (.rng a n) ((List.range n).map fun i : Nat => D.int (a + (i : Int)))
  | bytes {l : List Nat} : Items (.bytes l) (l.map fun n : Nat => D.int (n : Int))
  | str {s : Str} : Items (.str s) (s.cps.toList.map fun n : Nat => D.str ⟨#[n]⟩)

noncomputable def Items.Inv (ds : List D) : D → Prop
  | .lst xs => ds = xs
  | .tup xs => ds = xs
  | .rng a n => ds = (List.range n).map fun i : Nat => D.int (a + (i : Int))
  | .bytes l => ds = l.map fun n : Nat => D.int (n : Int)
  | .str s => ds = s.cps.toList.map fun n : Nat => D.str ⟨#[n]⟩
  | _ => False
theorem Items.inv {d : D} {ds : List D} (h : Items d ds) : Items.Inv ds d := by
  cases h with
  | _ => exact rfl
section
variable {c : Cx} {A : Around} {env : Env} {L : Addr} {ns : List Str} {vs vs' : List (Option D)} {gl : List (Str × D)} {R R0 R' : Led} {Q : D → Led → Prop} {X : Addr → D → Led → Prop}

theorem iter_ok {I : Heap} {s : Shared} {v : Value} {d : D} {ds : List D} {Z : Value → Shared → Prop} {E : Value → Shared → Prop} (hs : St c A I R s) (r : Rep I v d) (hi : Items d ds)
    (h : ∀ it s', St c A I ((it, .it d 0) :: R) s' → Z (.ref it) s') : wpAny c.M A (pyIter v) Z E s := by
  cases hi with
  | lst =>
    obtain ⟨a, vs, rfl, x, y⟩ := r.lI
    exact wpAny_pyIter_list (IsList.sub hs.up x) (h _ _ (hs.push (P := .it (.lst ds) 0) (ItObj.lst x y rfl rfl) s.toks))
  | tup =>
    obtain ⟨a, vs, rfl, x, y⟩ := r.tI
    exact wpAny_pyIter_tuple (IsTup.sub hs.up x) (h _ _ (hs.push (P := .it (.tup ds) 0) (ItObj.tup x y rfl rfl) s.toks))
  | @rng a n =>
    obtain ⟨r, b, t, u, v, rfl, x, e, z⟩ := r.rI
    refine wpAny_pyIter_range (hs.up _ _ x) (small_one z.1 z.2.1 z.2.2.1 z.2.2.2) (h _ _ (hs.push (P := .it (.rng a n) 0) (ItObj.rng ?_) s.toks))
    rw [rangeSize_one]
    have e1 : a + ((0 : Nat) : Int) * 1 = a := by simp
    have e2 : (n : Int) - ((0 : Nat) : Int) = if a < b then b - a else 0 := by split <;> lia
    rw [e1, e2]
  | @bytes l =>
    obtain ⟨b, t, rfl, e⟩ := r.yI
    exact KBw.pyIter_bytes (h _ _ (hs.push (P := .it (.bytes l) 0) (ItObj.bytes e rfl rfl) s.toks))
  | @str x =>
    obtain ⟨t, rfl⟩ := r.sI
    · refine wpAny_pyIter_strU (h _ _ (hs.push (P := .it (.str x) 0) (o := { cls := .type (strIterType x), data := .fields #[.str x t, .int 0 0] }) (ItObj.str (T := strIterType x) ?_ rfl rfl) s.toks))
      unfold strIterType; split <;> simp

theorem next_ok {I : Heap} {s : Shared} {it : Addr} {d x : D} {ds : List D} {i : Nat} {Z : Option Value → Shared → Prop} {E : Value → Shared → Prop} (hs : St c A I R s) (u : Upd it (.it d i) (.it d (i + 1)) R R') (hi : Items d ds) (hx : ds[i]? = some x)
    (h : ∀ v s', Rep I v x → St c A I R' s' → Z (some v) s') : wpAny c.M A (pyNext (.ref it)) Z E s := by
  obtain ⟨o, ho, m⟩ := hs.get u.has
  cases m with
  | lst a b c1 d1 =>
    obtain rfl := (show ds = _ from hi.inv)
    obtain ⟨v, hv, r⟩ := b.get hx
    refine wpAny_pyNext_list_item ⟨o, ho, c1, d1⟩ (IsList.sub hs.up a) (x := v) (by simpa using hv) fun h' ⟨o', ho', c', d'⟩ k => h v _ r (hs.upd u (SameBut.at k) ⟨o', ho', .lst a b c' d'⟩ s.toks)
  | tup a b c1 d1 =>
    obtain rfl := (show ds = _ from hi.inv)
    obtain ⟨v, hv, r⟩ := b.get hx
    refine wpAny_pyNext_tuple_item ⟨o, ho, c1, d1⟩ (IsTup.sub hs.up a) (x := v) (by simpa using hv) fun h' ⟨o', ho', c', d'⟩ k => h v _ r (hs.upd u (SameBut.at k) ⟨o', ho', .tup a b c' d'⟩ s.toks)
  | @rng a n _ _ e =>
    obtain rfl := (show ds = _ from hi.inv)
    simp only [List.getElem?_map, Option.map_eq_some_iff] at hx
    obtain ⟨j, hj, rfl⟩ := hx
    obtain ⟨hj1, hj2⟩ := List.getElem?_eq_some_iff.mp hj
    simp only [List.getElem_range] at hj2
    subst hj2
    simp only [List.length_range] at hj1
    subst e
    refine wpAny_pyNext_range_item ho (by lia) fun h' k1 k => ?_
    have e1 : a + (i : Int) * 1 = a + (i : Int) := by lia
    refine h _ _ (by rw [e1]; exact .int _ _) (hs.upd u (SameBut.at k) ⟨_, k1, .rng ?_⟩ _)
    have e2 : a + (i : Int) * 1 + 1 = a + ((i + 1 : Nat) : Int) * 1 := by lia
    have e3 : (n : Int) - (i : Int) - 1 = (n : Int) - ((i + 1 : Nat) : Int) := by lia
    rw [e2, e3]
  | @str x T t _ _ a b d1 =>
    obtain rfl := (show ds = _ from hi.inv)
    simp only [List.getElem?_map, Option.map_eq_some_iff] at hx
    obtain ⟨n, hn, rfl⟩ := hx
    have hn' : x.cps[i]? = some n := by simpa using hn
    rcases a with rfl | rfl
    · exact wpAny_pyNext_ascii_item ⟨o, ho, b, d1⟩ hn' fun h' ⟨o', ho', c', d'⟩ k => h _ _ (.str _ _) (hs.upd u (SameBut.at k) ⟨o', ho', .str (.inl rfl) c' d'⟩ _)
    · exact wpAny_pyNext_wide_item ⟨o, ho, b, d1⟩ hn' fun h' ⟨o', ho', c', d'⟩ k => h _ _ (.str _ _) (hs.upd u (SameBut.at k) ⟨o', ho', .str (.inr rfl) c' d'⟩ _)
  | @bytes b l t _ _ e c1 d1 =>
    obtain rfl := (show ds = _ from hi.inv)
    simp only [List.getElem?_map, Option.map_eq_some_iff] at hx
    obtain ⟨n, hn, rfl⟩ := hx
    subst e
    simp only [List.getElem?_map, Option.map_eq_some_iff] at hn
    obtain ⟨u8, hu, rfl⟩ := hn
    exact KBw.next_item ⟨o, ho, c1, d1⟩ (by simpa using hu) fun h' ⟨o', ho', c', d'⟩ k => h _ _ (.int _ _) (hs.upd u (SameBut.at k) ⟨o', ho', .bytes rfl c' d'⟩ _)

theorem next_end {I : Heap} {s : Shared} {it : Addr} {d : D} {ds : List D} {i : Nat} {Z : Option Value → Shared → Prop} {E : Value → Shared → Prop} (hh : A.handled = none) (hs : St c A I ((it, .it d i) :: R) s) (hi : Items d ds) (hx : ds.length ≤ i)
    (h : ∀ s', St c A I R s' → Z none s') : wpAny c.M A (pyNext (.ref it)) Z E s := by
  obtain ⟨o, ho, m⟩ := hs.get .head
  have fin : ∀ h', Heap.ExtBut it s.heap h' → Z none { s with heap := h' } := fun h' k => h _ (by
    have nit : ∀ p ∈ R, p.1 ≠ it := fun p hp e => (List.nodup_cons.mp hs.own.nd).1 (List.mem_map.mpr ⟨p, hp, e⟩)
    have hd := hs.drop rfl
    refine ⟨⟨fun b o e => k b o (fun q => ?_) (hd.own.sub b o e), fun p hp => ?_, hd.own.out, hd.own.nd⟩, hd.wd, hd.gens, hd.drawn, hd.os, hd.fr⟩
    · have := hs.own.out _ (.head _)
      rw [q, this] at e; cases e
    · obtain ⟨o, ho, q⟩ := hd.own.has p hp
      exact ⟨o, k _ _ (nit p hp) ho, q⟩)
  cases m with
  | lst a b c1 d1 =>
    obtain rfl := (show ds = _ from hi.inv)
    refine wpAny_pyNext_list_end hh ⟨o, ho, c1, d1⟩ (IsList.sub hs.up a) ?_ fin
    have := b.length
    rw [Array.length_toList] at this
    exact Array.getElem?_eq_none (by lia)
  | tup a b c1 d1 =>
    obtain rfl := (show ds = _ from hi.inv)
    refine wpAny_pyNext_tuple_end hh ⟨o, ho, c1, d1⟩ (IsTup.sub hs.up a) ?_ fin
    have := b.length
    rw [Array.length_toList] at this
    exact Array.getElem?_eq_none (by lia)
  | @rng a n _ _ e =>
    obtain rfl := (show ds = _ from hi.inv)
    simp only [List.length_map, List.length_range] at hx
    subst e
    exact wpAny_pyNext_range_end hh ho (by lia) fin
  | @str x T t _ _ a b d1 =>
    obtain rfl := (show ds = _ from hi.inv)
    simp only [List.length_map] at hx
    have hn' : x.cps[i]? = none := Array.getElem?_eq_none (by simpa using hx)
    rcases a with rfl | rfl
    · exact wpAny_pyNext_ascii_end hh ⟨o, ho, b, d1⟩ hn' fin
    · exact wpAny_pyNext_wide_end hh ⟨o, ho, b, d1⟩ hn' fin
  | @bytes b l t _ _ e c1 d1 =>
    obtain rfl := (show ds = _ from hi.inv)
    subst e
    simp only [List.length_map] at hx
    exact KBw.next_end hh ⟨o, ho, c1, d1⟩ (Array.getElem?_eq_none (by simpa using hx)) fin

theorem letOwned {I : Heap} {s : Shared} {it : Addr} {d : D} {i : Nat} {target : Expr} {v : Value} {Z : Unit → Shared → Prop} {E : Value → Shared → Prop} (hs : St c A I R s) (u : Has (it, .it d i) R) (h : Z () s) : wpAny c.M A (letOwnedTupleGo target (.ref it) v) Z E s := by
  obtain ⟨o, ho, m⟩ := hs.get u
  have fin : (∃ T, o.cls = .type T ∧ T ∉ ["enumerate", "zip", "dict_itemiterator", "dict_reverseitemiterator", "odict_iterator", "itertools.zip_longest", "itertools.pairwise"]) → wpAny c.M A (letOwnedTupleGo target (.ref it) v) Z E s := by
    rintro ⟨T, hT, hn⟩
    have tup : ∀ r : Addr, wpAny c.M A (letOwnedTupleGo (.Tuple [] 0 default) (.ref it) (.ref r)) Z E s := fun r => by
      refine wpAny_bind (wpAny_load ho ?_)
      obtain ⟨oc, od, odata, osl⟩ := o
      dsimp only at hT; subst hT
      have hf : ["enumerate", "zip", "dict_itemiterator", "dict_reverseitemiterator", "odict_iterator", "itertools.zip_longest", "itertools.pairwise"].contains T = false := by
        rw [Bool.eq_false_iff]; intro q; exact hn (List.contains_iff_mem.mp q)
      cases odata <;> first | exact wpAny_pure h | skip
      dsimp only
      rw [hf, Bool.false_and, if_neg (by simp)]
      exact wpAny_pure h
    cases target with
    | Tuple a b p => cases v <;> first | exact wpAny_pure h | exact tup _
    | List a p => cases v <;> first | exact wpAny_pure h | exact tup _
    | _ => exact wpAny_pure h
  cases m with
  | lst a b c1 d1 => exact fin ⟨_, c1, by decide⟩
  | tup a b c1 d1 => exact fin ⟨_, c1, by decide⟩
  | rng e => subst e; exact fin ⟨_, rfl, by decide⟩
  | str a b d1 => rcases a with rfl | rfl <;> exact fin ⟨_, b, by decide⟩
  | bytes e c1 d1 => exact fin ⟨_, c1, by decide⟩
end
end Mine
end
section
open PySem PySem.W PySem.Calls PyProof.Rows
set_option Elab.async false
set_option tactic.hygienic false
set_option maxRecDepth 100000
set_option linter.unusedVariables false
namespace Mine

structure Sx (c : Cx) (A : Around) (env : Env) (st : Stmt) (R : Led) (Q : Fl → Led → Prop) (X : Addr → D → Led → Prop) : Prop where
  run : ∀ I H s, St c A I (R ++ H) s → Run c A I H (exec st env) RelF Q X s
noncomputable def UnitR (_ : Heap) (_ _ : Unit) : Prop := True
structure Asg (c : Cx) (A : Around) (env : Env) (target : Expr) (d : D) (R : Led) (Q : Led → Prop) (X : Addr → D → Led → Prop) : Prop where
  run : ∀ I H s v, St c A I (R ++ H) s → Rep I v d → Run c A I H (assign target env v) UnitR (fun _ R => Q R) X s
structure Asgs (c : Cx) (A : Around) (env : Env) (targets : List Expr) (ds : List D) (R : Led) (Q : Led → Prop) (X : Addr → D → Led → Prop) : Prop where
  run : ∀ I H s vals, St c A I (R ++ H) s → Reps I vals ds → Run c A I H (assignInOrder (targets.map fun t => assign t env) vals) UnitR (fun _ R => Q R) X s
structure SetI (c : Cx) (A : Around) (o i v : D) (R : Led) (Q : Led → Prop) (X : Addr → D → Led → Prop) : Prop where
  run : ∀ I H s ov iv vv, St c A I (R ++ H) s → Rep I ov o → Rep I iv i → Rep I vv v → Run c A I H (setItem ov iv vv) UnitR (fun _ R => Q R) X s
structure SetA (c : Cx) (A : Around) (o : D) (name : Str) (v : D) (R : Led) (Q : Led → Prop) (X : Addr → D → Led → Prop) : Prop where
  run : ∀ I H s ov vv, St c A I (R ++ H) s → Rep I ov o → Rep I vv v → Run c A I H (setAttr ov name vv) UnitR (fun _ R => Q R) X s
/-- and on with the rest -/
noncomputable def Thn (c : Cx) (A : Around) (env : Env) (rest : List Stmt) (Q : Fl → Led → Prop) (X : Addr → D → Led → Prop) (fl : Fl) (R : Led) : Prop :=
  match fl with | .next => Ex c A env rest R Q X | fl => Q fl R

section
variable {c : Cx} {A : Around} {env : Env} {L : Addr} {sc : Scope} {ns : List Str} {vs vs' : List (Option D)} {gl : List (Str × D)} {R R0 R' : Led} {Q : Fl → Led → Prop} {X : Addr → D → Led → Prop}

theorem ex_nil (h : Q .next R) : Ex c A env [] R Q X := .mk fun I H s hs => wpAny_execs_nil ⟨I, R, _, Sub.refl _, hs, .next, h⟩
theorem ex_cons {st rest} (h : Sx c A env st R (Thn c A env rest Q X) X) : Ex c A env (st :: rest) R Q X := .mk fun I H s hs =>
  wpAny_execs_cons ((h.run I H s hs).and (Sub.refl _) fun I1 R1 fl f s1 _ k1 hs1 r1 q1 => by
    cases r1 with
    | next => exact Run.sub (q1.run I1 H s1 hs1) k1
    | brk => exact ⟨I1, R1, _, k1, hs1, .brk, q1⟩
    | cont => exact ⟨I1, R1, _, k1, hs1, .cont, q1⟩
    | ret r => exact ⟨I1, R1, _, k1, hs1, .ret r, q1⟩)
theorem Ex.mono {body} {Q' : Fl → Led → Prop} (h : Ex c A env body R Q X) (k : ∀ fl R, Q fl R → Q' fl R) : Ex c A env body R Q' X := .mk fun I H s hs => wpAny_mono (h.run I H s hs) (fun _ _ x => x.mono k) fun _ _ x => x
theorem Ev.mono {e} {Q Q' : D → Led → Prop} (h : Ev c A env e R Q X) (k : ∀ d R, Q d R → Q' d R) : Ev c A env e R Q' X := .mk fun I H s hs => wpAny_mono (h.run I H s hs) (fun _ _ x => x.mono k) fun _ _ x => x

noncomputable def Sto (L : Addr) (ns : List Str) (x : Str) (d : D) (R : Led) (Q : Led → Prop) : Prop := ∃ vs vs' R2, Upd L (.loc ns vs) (.loc ns vs') R R2 ∧ LocSet ns vs x d vs' ∧ Q R2
theorem sto {x : Str} {d : D} {Q : Led → Prop} (u : Upd L (.loc ns vs) (.loc ns vs') R R') (h : LocSet ns vs x d vs') (q : Q R') : Sto L ns x d R Q := ⟨vs, vs', R', u, h, q⟩
theorem sto_run {x : Str} {d : D} {v : Value} {Q : Led → Prop} {I : Heap} {H : Led} {s : Shared} {E : Value → Shared → Prop} {Z : Unit → Shared → Prop} (fe : FE env L ns gl) (hs : St c A I (R ++ H) s) (r : Rep I v d) (h : Sto L ns x d R Q)
    (k : ∀ R' s', St c A I (R' ++ H) s' → Q R' → Z () s') : wpAny c.M A (storeName env x v) Z E s := by
  refine gP fun Gq hGq => ?_
  obtain ⟨vs, vs', R2, u, hl, q⟩ := h
  refine hGq ?_
  clear hGq
  exact store_loc fe u hl hs r fun s' hs' => k _ s' hs' q

@[reducible] noncomputable def kSto (L : Addr) (ns : List Str) (x : Str) (Q : Fl → Led → Prop) : D → Led → Prop := fun d R1 => Sto L ns x d R1 (Q .next)
@[reducible] noncomputable def kAsgs (c : Cx) (A : Around) (env : Env) (ts : List Expr) (ds : List D) (Q : Led → Prop) (X : Addr → D → Led → Prop) : Led → Prop := fun R1 => Asgs c A env ts ds R1 Q X
@[reducible] noncomputable def kRet (Q : Fl → Led → Prop) : D → Led → Prop := fun d R1 => Q (.ret d) R1
@[reducible] noncomputable def kExp (Q : Fl → Led → Prop) : D → Led → Prop := fun _ R1 => Q .next R1
@[reducible] noncomputable def kAt2 (c : Cx) (A : Around) (attr : Str) (v : D) (Q : Fl → Led → Prop) (X : Addr → D → Led → Prop) : D → Led → Prop := fun od R2 => SetA c A od attr v R2 (Q .next) X
@[reducible] noncomputable def kAt (c : Cx) (A : Around) (env : Env) (o : Expr) (attr : Str) (Q : Fl → Led → Prop) (X : Addr → D → Led → Prop) : D → Led → Prop := fun v R1 => Ev c A env o R1 (kAt2 c A attr v Q X) X
@[reducible] noncomputable def kSu3 (c : Cx) (A : Around) (v od : D) (Q : Fl → Led → Prop) (X : Addr → D → Led → Prop) : D → Led → Prop := fun id R3 => SetI c A od id v R3 (Q .next) X
@[reducible] noncomputable def kSu2 (c : Cx) (A : Around) (env : Env) (i : Expr) (v : D) (Q : Fl → Led → Prop) (X : Addr → D → Led → Prop) : D → Led → Prop := fun od R2 => Ev c A env i R2 (kSu3 c A v od Q X) X
@[reducible] noncomputable def kSu (c : Cx) (A : Around) (env : Env) (o i : Expr) (Q : Fl → Led → Prop) (X : Addr → D → Led → Prop) : D → Led → Prop := fun v R1 => Ev c A env o R1 (kSu2 c A env i v Q X) X
@[reducible] noncomputable def kIf (c : Cx) (A : Around) (env : Env) (body orelse : List Stmt) (Q : Fl → Led → Prop) (X : Addr → D → Led → Prop) : Bool → Led → Prop := fun b R1 => (b = true → Ex c A env body R1 Q X) ∧ (b = false → Ex c A env orelse R1 Q X)
@[reducible] noncomputable def kTpl (c : Cx) (A : Around) (env : Env) (elts : List Expr) (k : Nat) (tpos : Pos) (Q : Fl → Led → Prop) (X : Addr → D → Led → Prop) : D → Led → Prop := fun d R1 => Asg c A env (.Tuple elts k tpos) d R1 (Q .next) X
theorem sx_name {x pos' value pos} (fe : FE env L ns gl) (h : Ev c A env value R (kSto L ns x Q) X) (hs : ∀ env, swapsWith value (some (.Name x pos')) pos.line env = pure false := by intro _; with_unfolding_all rfl) : Sx c A env (.Assign [.Name x pos'] value pos) R Q X := .mk fun I H s hst =>
  wpAny_Assign_Name ((h.run I H s hst).and (Sub.refl _) fun I1 R1 d v s1 _ k1 hs1 r1 q1 => sto_run fe hs1 r1 q1 fun R' s' hs' q => ⟨I1, R', .next, k1, hs', .next, q⟩) (hs env)

theorem asg_name {x pos d} {Q : Led → Prop} (fe : FE env L ns gl) (h : Sto L ns x d R Q) : Asg c A env (.Name x pos) d R Q X := .mk fun I H s v hs r =>
  wpAny_assign_Name (sto_run fe hs r h fun R' s' hs' q => ⟨I, R', (), Sub.refl _, hs', trivial, q⟩)
theorem asgs_nil {Q : Led → Prop} (h : Q R) : Asgs c A env [] [] R Q X := .mk fun I H s vals hs r => by
  (first | obtain ⟨_, rfl⟩ := Rep.iI r | obtain ⟨_, rfl⟩ := Rep.sI r | obtain rfl := Rep.vI r | obtain rfl := Rep.bI r | obtain rfl := Rep.nI r | cases r); exact wpAny_assignInOrder_none ⟨I, R, (), Sub.refl _, hs, trivial, h⟩
theorem asgs_cons {t ts d ds} {Q : Led → Prop} (h : Asg c A env t d R (kAsgs c A env ts ds Q X) X) : Asgs c A env (t :: ts) (d :: ds) R Q X := .mk fun I H s vals hs r => by
  cases r with
  | cons r1 rs => exact wpAny_assignInOrder_more ((h.run I H s _ hs r1).and (Sub.refl _) fun I1 R1 _ _ s1 _ k1 hs1 _ q1 => Run.sub (q1.run I1 H s1 _ hs1 (rs.sub k1)) k1)
theorem asg_tuple {elts k pos ds} {Q : Led → Prop} (hh : A.handled = none) (h : Asgs c A env elts ds R Q X) (hn : elts.length = ds.length := by with_unfolding_all rfl)
    (he : ∀ env, assignEach elts env = elts.map fun t => (false, assign t env) := by intro _; with_unfolding_all rfl) : Asg c A env (.Tuple elts k pos) (.tup ds) R Q X := .mk fun I H s v hs r => by
  cases r with
  | tup a vs ds x y =>
    have hl := y.length
    rw [Array.length_toList] at hl
    refine wpAny_assign_Tuple hh (IsTup.sub hs.up x) (by rw [he, List.length_map]; lia) (by rw [he]; simp [List.findIdx?_map, List.findIdx?_eq_none_iff]) fun h' k => ?_
    have hs' := hs.ext (h' := h') (fun b o e => k b o (fun q => by rw [q, none_at_size] at e; cases e) e) s.toks
    have z := h.run I H _ vs.toList hs' y
    rw [he, List.map_map]
    exact z
theorem sx_tuple {elts k tpos value pos} (h : Ev c A env value R (kTpl c A env elts k tpos Q X) X) (hs : swapsWithSole [.Tuple elts k tpos] value pos.line env = pure false := by rfl)
    (hw : swappedStores [.Tuple elts k tpos] value env = pure none := by rfl) : Sx c A env (.Assign [.Tuple elts k tpos] value pos) R Q X := .mk fun I H s hst =>
  Assign_Tuple ((h.run I H s hst).and (Sub.refl _) fun I1 R1 d v s1 _ k1 hs1 r1 q1 => wpAny_mono (q1.run I1 H s1 v hs1 r1) (fun _ s2 zz => PG.elim zz fun I2 R2 _ k2 hs2 _ q2 => ⟨I2, R2, .next, k1.trans k2, hs2, .next, q2⟩) fun _ _ y => PX.sub y k1) hs hw
/-- the names of a display, stored from the right -/
noncomputable def Stos (L : Addr) (ns : List Str) : List Str → List D → Led → (Led → Prop) → Prop
  | x :: xs, d :: ds, R, Q => Sto L ns x d R (fun R1 => Stos L ns xs ds R1 Q)
  | _, _, R, Q => Q R
theorem sx_swapped {elts k tpos value pos} {names : List Str} (fe : FE env L ns gl) (fn : FN env L sc) (hh : A.handled = none) (h : Ev c A env value R (fun d R1 => ∃ ds, d = .tup ds ∧ ds.length = names.length ∧ Stos L ns names.reverse ds.reverse R1 (Q .next)) X)
    (hs : ∀ env, swapsWithSole [.Tuple elts k tpos] value pos.line env = pure false := by intro _; rfl)
    (hw : ∀ (qual : Str) (f : Addr) (cd : Value) (cs : List (Str × Addr)), swappedStores [.Tuple elts k tpos] value { envOf qual sc L f cd with cells := cs } = pure (some names) := by intro _ _ _ _; rfl) : Sx c A env (.Assign [.Tuple elts k tpos] value pos) R Q X := .mk fun I H s hst =>
  Assign_Tuple_swapped ((h.run I H s hst).and (Sub.refl _) fun I1 R1 d v s1 _ k1 hs1 r1 ⟨ds, q0, hlen, q1⟩ => by
    subst q0
    cases r1 with
    | tup a vs ds x y =>
      have hl := y.length
      rw [Array.length_toList] at hl
      rw [← hlen, ← hl]
      refine wpAny_unpackItems_tuple hh (IsTup.sub hs1.up x) fun h' kk => ?_
      have hs' := hs1.ext (h' := h') (fun b o e => kk b o (fun q => by rw [q, none_at_size] at e; cases e) e) s1.toks
      have go : ∀ (xs : List Str) (ds : List D) (vals : List Value) (R1 : Led) (s : Shared), Reps I1 vals ds → ds.length = xs.length → St c A I1 (R1 ++ H) s → Stos L ns xs ds R1 (Q .next) →
          wpAny c.M A (assignInOrder (xs.map fun n => bindName env n) vals) (fun _ => PG c A I H RelF Q .next) (PX c A I H X) s := by
        intro xs
        induction xs with
        | nil =>
          intro ds vals R1 s r e hs q
          cases ds with
          | cons _ _ => cases e
          | nil => (first | obtain ⟨_, rfl⟩ := Rep.iI r | obtain ⟨_, rfl⟩ := Rep.sI r | obtain rfl := Rep.vI r | obtain rfl := Rep.bI r | obtain rfl := Rep.nI r | cases r); exact wpAny_assignInOrder_none ⟨I1, R1, .next, k1, hs, .next, q⟩
        | cons x xs ih =>
          intro ds vals R1 s r e hs q
          cases r with
          | nil => cases e
          | cons r rs =>
            exact wpAny_assignInOrder_more (wpAny_bindName (sto_run fe hs r q fun R' s' hs' q' => ih _ _ R' s' rs (by simpa using e) hs' q'))
      exact go names.reverse ds.reverse vs.toList.reverse R1 _ y.reverse (by simpa using hlen) hs' q1) (hs env) (by obtain ⟨a, b, cd, d, rfl⟩ := fn; exact hw a b cd d)
theorem sx_sub {o i pos' value pos} (h : Ev c A env value R (kSu c A env o i Q X) X)
    (hs : ∀ env, swapsWith value (some (.Subscript o i pos')) pos.line env = pure false := by intro _; with_unfolding_all rfl) : Sx c A env (.Assign [.Subscript o i pos'] value pos) R Q X := .mk fun I H s hst =>
  wpAny_Assign_Subscript ((h.run I H s hst).and (Sub.refl _) fun I1 R1 d v s1 _ k1 hs1 r1 q1 => (q1.run I1 H s1 hs1).and k1 fun I2 R2 od ov s2 k2 k2' hs2 r2 q2 => (q2.run I2 H s2 hs2).and k2' fun I3 R3 id iv s3 k3 k3' hs3 r3 q3 =>
    wpAny_mono (q3.run I3 H s3 ov iv v hs3 (r2.sub k3) r3 (r1.sub (k2.trans k3))) (fun _ s4 zz => PG.elim zz fun I4 R4 _ k4 hs4 _ q4 => ⟨I4, R4, .next, k3'.trans k4, hs4, .next, q4⟩) fun _ _ y => PX.sub y k3') (hs env)
theorem sx_attr {o attr pos' value pos} (h : Ev c A env value R (kAt c A env o attr Q X) X)
    (hs : ∀ env, swapsWith value (some (.Attribute o attr pos')) pos.line env = pure false := by intro _; with_unfolding_all rfl) : Sx c A env (.Assign [.Attribute o attr pos'] value pos) R Q X := .mk fun I H s hst =>
  plainObj_wpAny_Assign_Attribute ((h.run I H s hst).and (Sub.refl _) fun I1 R1 d v s1 _ k1 hs1 r1 q1 => (q1.run I1 H s1 hs1).and k1 fun I2 R2 od ov s2 k2 k2' hs2 r2 q2 =>
    wpAny_mono (q2.run I2 H s2 ov v hs2 r2 (r1.sub k2)) (fun _ s4 zz => PG.elim zz fun I4 R4 _ k4 hs4 _ q4 => ⟨I4, R4, .next, k2'.trans k4, hs4, .next, q4⟩) fun _ _ y => PX.sub y k2') (hs env)
theorem sx_expr {e pos} (fe : FE env L ns gl) (h : Ev c A env e R (kExp Q) X) (hs : ∀ env, swapsWith e none pos.line env = pure false := by intro _; with_unfolding_all rfl) : Sx c A env (.Expr e pos) R Q X := .mk fun I H s hst =>
  wpAny_Expr_any ((h.run I H s hst).and (Sub.refl _) fun I1 R1 d v s1 _ k1 hs1 r1 q1 => ⟨I1, R1, .next, k1, hs1, .next, q1⟩) (by unfold interactive; rw [fe.kind]; rfl) (hs env)
theorem sx_return {e pos} (h : Ev c A env e R (kRet Q) X) : Sx c A env (.Return (some e) pos) R Q X := .mk fun I H s hst =>
  wpAny_Return_some ((h.run I H s hst).and (Sub.refl _) fun I1 R1 d v s1 _ k1 hs1 r1 q1 => ⟨I1, R1, .ret d, k1, hs1, .ret r1, q1⟩)
theorem sx_return_none {pos} (h : Q (.ret .none) R) : Sx c A env (.Return none pos) R Q X := .mk fun I H s hst => wpAny_Return_none ⟨I, R, .ret .none, Sub.refl _, hst, .ret .none, h⟩
theorem sx_if {test body orelse pos} (h : Tst c A env test R (kIf c A env body orelse Q X) X) : Sx c A env (.If test body orelse pos) R Q X := .mk fun I H s hs =>
  wpAny_If ((h.run I H s hs).and (Sub.refl _) fun I1 R1 b b' s1 _ k1 hs1 r1 q1 => by
    subst r1
    cases b' with
    | true => rw [if_pos rfl]; exact Run.sub ((q1.1 rfl).run I1 H s1 hs1) k1
    | false => rw [if_neg (by simp)]; exact Run.sub ((q1.2 rfl).run I1 H s1 hs1) k1)

theorem Run.andE {J : Heap} {H : Led} {β δ : Type} {t : Sem β} {Rel : Heap → β → δ → Prop} {Q : δ → Led → Prop} {s : Shared} {Z : β → Shared → Prop} {E : Value → Shared → Prop}
    (x : Run c A J H t Rel Q X s) (hE : ∀ e s, PX c A J H X e s → E e s) (k : ∀ I1 R1 d v s1, Sub J I1 → St c A I1 (R1 ++ H) s1 → Rel I1 v d → Q d R1 → Z v s1) : wpAny c.M A t Z E s :=
  wpAny_mono x (fun v s1 zz => PG.elim zz fun I1 R1 d k1 hs r q => k I1 R1 d v s1 k1 hs r q) hE
/-- what a turn must bring -/
noncomputable def Turn (Q : Fl → Led → Prop) (J : Led → Prop) (fl : Fl) (R : Led) : Prop := match fl with | .next | .cont => J R | .brk => Q .next R | .ret d => Q (.ret d) R
theorem sx_while {test body pos} (fn : FN env L sc) (hfr : ∃ outer, A.frames = some (env :: outer)) (J : Nat → Led → Prop) (n : Nat) (h0 : J n R)
    (turn : ∀ n R, J n R → Tst c A env test R (fun b R1 => (b = true → Ex c A env body R1 (Turn Q fun R2 => ∃ m, m < n ∧ J m R2) X) ∧ (b = false → Q .next R1)) X) : Sx c A env (.While test body [] pos) R Q X := .mk fun I H s hs => by
  refine opq (fun (n : Nat) (s : Shared) => ∃ I1 R1, Sub I I1 ∧ St c A I1 (R1 ++ H) s ∧ J n R1) fun Z hZ => ?_
  refine wpAny_While (codeAny_whileLoop Z (fun n s zz => ?_) n ((hZ _ _).mpr ⟨I, R, Sub.refl _, hs, h0⟩))
  refine gP fun Gq hGq => ?_
  obtain ⟨I1, R1, k1, hs1, j⟩ := (hZ _ _).mp zz
  refine hGq ?_
  clear hGq
  refine ((turn n R1 j).run I1 H s hs1).andE (fun e s x => px_loop (PX.sub x k1) hfr fn.frame) fun I2 R2 b b' s2 k2 hs2 r2 q2 => ?_
  subst r2
  have k2' := k1.trans k2
  cases b' with
  | true =>
    rw [if_pos rfl]
    refine wpAny_mono ((q2.1 rfl).run I2 H s2 hs2) (fun f s3 zz => PG.elim zz fun I3 R3 fl k3 hs3 r3 q3 => ?_) fun e s x => px_loop (PX.sub x k2') hfr fn.frame
    cases r3 with
    | next => obtain ⟨m, lt, j'⟩ := q3; exact ⟨m, lt, (hZ _ _).mpr ⟨I3, R3, k2'.trans k3, hs3, j'⟩⟩
    | cont => obtain ⟨m, lt, j'⟩ := q3; exact ⟨m, lt, (hZ _ _).mpr ⟨I3, R3, k2'.trans k3, hs3, j'⟩⟩
    | brk => exact ⟨I3, R3, .next, k2'.trans k3, hs3, .next, q3⟩
    | ret r => exact ⟨I3, R3, _, k2'.trans k3, hs3, .ret r, q3⟩
  | false =>
    rw [if_neg (by simp)]
    exact wpAny_execs_nil ⟨I2, R2, .next, k2', hs2, .next, q2.2 rfl⟩

theorem forLoop_op {w : World} {B : Around} {target : Expr} {it : Value} {body : List Stmt} {ev : Env} {Rr : Result → Shared → Prop} {s : Shared} (Z : Nat → Shared → Prop)
    (turn : ∀ n s, Z n s → ∀ (P : Option Value → Shared → Prop) (F : Flow → Shared → Prop) (E : Value → Shared → Prop), (∀ s', Rr (.ok .next) s' → P none s') →
      (∀ v s', wpAny (model prog w) B (letOwnedTupleGo target it v) (fun _ s1 => wpAny (model prog w) B (assign target ev v) (fun _ s2 => wpAny (model prog w) B (execs body ev) F E s2) E s1) E s' → P (some v) s') →
      (∀ m s', m < n → Z m s' → F .next s' ∧ F .cont s') → (∀ s', Rr (.ok .next) s' → F .brk s') → (∀ v s', Rr (.ok (.ret v)) s' → F (.ret v) s') →
      (∀ e s', notedBy (model prog w) B ev (fun e s' => Rr (.error e) s') e s' → E e s') → wpAny (model prog w) B (pyNext it) P E s)
    (n : Nat) (h : Z n s) : codeAny (model prog w) B (.forLoop target it body [] ev) Rr s :=
  codeAny_forLoop_any Z (fun n s z => turn n s z _ _ _ (fun s' x => wpAny_execs_nil x) (fun v s' x => x) (fun m s' lt y => ⟨⟨m, lt, y⟩, ⟨m, lt, y⟩⟩) (fun _ x => x) (fun _ _ x => x) (fun _ _ x => x)) n h
@[reducible] noncomputable def kBody (c : Cx) (A : Around) (env : Env) (body : List Stmt) (Q : Fl → Led → Prop) (J : Nat → Led → Prop) (i : Nat) (X : Addr → D → Led → Prop) : Led → Prop := fun R3 => Ex c A env body R3 (Turn Q (J (i + 1))) X
@[reducible] noncomputable def kFor (c : Cx) (A : Around) (env : Env) (target : Expr) (body : List Stmt) (Q : Fl → Led → Prop) (X : Addr → D → Led → Prop) : D → Led → Prop := fun d R1 => ∃ items, Items d items ∧ ∃ J : Nat → Led → Prop, J 0 R1 ∧
      (∀ i x R2, items[i]? = some x → J i R2 → Asg c A env target x R2 (kBody c A env body Q J i X) X) ∧ (∀ R2, J items.length R2 → Q .next R2)
theorem sx_for {target iter body pos} (fn : FN env L sc) (hfr : ∃ outer, A.frames = some (env :: outer)) (hh : A.handled = none)
    (h : Ev c A env iter R (kFor c A env target body Q X) X)
    (hf : ∀ env x, foldedSetIterable iter env x = pure x := by intro _ _; rfl) : Sx c A env (.For target iter body [] pos) R Q X := .mk fun I H s hs => by
  refine wpAny_For ((h.run I H s hs).and (Sub.refl _) fun I1 R1 d v s1 _ k1 hs1 r1 zz => ?_) (hf env)
  refine gP fun G hG => ?_
  obtain ⟨items, hi, J, j0, turn, done⟩ := zz
  refine hG (iter_ok hs1 r1 hi fun it s2 hs2 => ?_)
  clear hG G
  have pm : ∀ (R2 : Led) (sh : Sh), ((it, sh) :: (R2 ++ H)).Perm (R2 ++ (it, sh) :: H) := fun R2 sh => List.perm_middle.symm
  refine opq (fun (n : Nat) (s : Shared) => ∃ I2 R2 i, Sub I I2 ∧ St c A I2 ((it, .it d i) :: (R2 ++ H)) s ∧ J i R2 ∧ i ≤ items.length ∧ n = items.length - i) fun Z hZ => ?_
  refine forLoop_op Z (fun n s3 zz P F E hP0 hP1 hF hB hR hE => ?_) items.length ((hZ _ _).mpr ⟨I1, R1, 0, k1, hs2, j0, Nat.zero_le _, rfl⟩)
  refine gP fun G hG => ?_
  obtain ⟨I2, R2, i, k2, hs3, j, le, en⟩ := (hZ _ _).mp zz
  refine hG ?_
  clear hG G zz
  rcases Nat.lt_or_ge i items.length with lt | ge
  · refine next_ok hs3 (R' := (it, .it d (i + 1)) :: (R2 ++ H)) .head hi (x := items[i]) (List.getElem?_eq_getElem lt) fun v s4 r4 hs4 => hP1 _ _ ?_
    refine letOwned hs4 .head ?_
    have hs5 := hs4.perm (pm R2 _)
    refine ((turn i _ R2 (List.getElem?_eq_getElem lt) j).run I2 ((it, .it d (i + 1)) :: H) s4 v hs5 r4).andE (fun e s x => hE _ _ (px_out k2 x)) fun I3 R3 _ _ s5 k3 hs6 _ q => ?_
    refine wpAny_mono (q.run I3 _ s5 hs6) (fun f s6 zz => PG.elim zz fun I4 R4 fl k4 hs7 r7 q7 => ?_) fun e s x => hE _ _ (px_out (k2.trans k3) x)
    have hs8 := hs7.perm (pm R4 (.it d (i + 1))).symm
    cases r7 with
    | next => exact (hF (items.length - (i + 1)) _ (by omega) ((hZ _ _).mpr ⟨I4, R4, i + 1, (k2.trans k3).trans k4, hs8, q7, lt, rfl⟩)).1
    | cont => exact (hF (items.length - (i + 1)) _ (by omega) ((hZ _ _).mpr ⟨I4, R4, i + 1, (k2.trans k3).trans k4, hs8, q7, lt, rfl⟩)).2
    | brk => exact hB _ ⟨I4, R4, .next, (k2.trans k3).trans k4, hs8.drop rfl, .next, q7⟩
    | ret r => exact hR _ _ ⟨I4, R4, _, (k2.trans k3).trans k4, hs8.drop rfl, .ret r, q7⟩
  · obtain rfl : i = items.length := by omega
    exact next_end hh hs3 hi (Nat.le_refl _) fun s4 hs4 => hP0 _ ⟨I2, R2, .next, k2, hs4, .next, done R2 j⟩
where
  px_out {I2 : Heap} {it : Addr} {d : D} {i : Nat} {e : Value} {s : Shared} {I : Heap} {H : Led} (k2 : Sub I I2) (x : PX c A I2 ((it, .it d i) :: H) X e s) : notedBy c.M A env (cameBackBy c.M A env (PX c A I H X)) e s := by
    refine px_loop ?_ hfr fn.frame
    refine gP fun Gq hGq => ?_
    obtain ⟨I', R', e, C, dx, tb, told, rfl, k, hs', x⟩ := x
    refine hGq ?_
    clear hGq
    have hs2 : St c A I' ((it, .it d i) :: (excLed e C dx told tb ++ R' ++ H)) s := hs'.perm List.perm_middle
    exact ⟨I', R', e, C, dx, tb, told, rfl, k2.trans k, hs2.drop rfl, x⟩
end
end Mine
end
section
open PySem PySem.W PySem.Calls PyProof.Rows
set_option Elab.async false
set_option tactic.hygienic false
set_option maxRecDepth 100000
set_option linter.unusedVariables false
namespace Mine

/-- a list, frozen or owned -/
noncomputable def LV (R : Led) (d : D) (ds : List D) : Prop := d = .lst ds ∨ ∃ a, d = .val (.ref a) ∧ Has (a, .list ds) R

structure Sub2 (c : Cx) (A : Around) (value slice : Expr) (o i : D) (R : Led) (Q : D → Led → Prop) (X : Addr → D → Led → Prop) : Prop where
  run : ∀ I H s ov iv, St c A I (R ++ H) s → Rep I ov o → Rep I iv i → Run c A I H (subscriptTail value slice ov iv) Rep Q X s

theorem noPylong_mid {x y : Int} (h : y.natAbs < 4294967296) : Builtin.divisionGoesByPylong x y = false := by
  refine PyProof.noPylong_of_log2 ?_
  by_cases h0 : y.natAbs = 0
  · rw [h0]; decide +kernel
  · have h30 : y.natAbs.log2 < 32 := (Nat.log2_lt h0).mpr h
    lia

section
variable {c : Cx} {A : Around} {env : Env} {L : Addr} {sc : Scope} {ns : List Str} {vs vs' : List (Option D)} {gl : List (Str × D)} {R R0 R' : Led} {Q : D → Led → Prop} {X : Addr → D → Led → Prop}

theorem LV.at {I : Heap} {H : Led} {s : Shared} {d : D} {ds : List D} {v : Value} (hs : St c A I (R ++ H) s) (r : Rep I v d) (l : LV R d ds) :
    ∃ a vs, v = .ref a ∧ s.heap.IsList a vs ∧ Reps I vs.toList ds ∧ vs.size = ds.length := by
  rcases l with rfl | ⟨a, rfl, m⟩
  · obtain ⟨a, vs, rfl, x, y⟩ := r.lI
    exact ⟨a, vs, rfl, IsList.sub hs.up x, y, by simpa using y.length⟩
  · (first | obtain ⟨_, rfl⟩ := Rep.iI r | obtain ⟨_, rfl⟩ := Rep.sI r | obtain rfl := Rep.vI r | obtain rfl := Rep.bI r | obtain rfl := Rep.nI r | cases r)
    refine gP fun Gq hGq => ?_
    obtain ⟨o, ho, vs, n, rfl, y⟩ := hs.get (m.app H)
    refine hGq ?_
    clear hGq
    exact ⟨a, vs, rfl, ⟨_, ho, rfl, n, rfl⟩, y, by simpa using y.length⟩

@[reducible] noncomputable def kSb2 (c : Cx) (A : Around) (value slice : Expr) (d1 : D) (Q : D → Led → Prop) (X : Addr → D → Led → Prop) : D → Led → Prop := fun d2 R2 => Sub2 c A value slice d1 d2 R2 Q X
@[reducible] noncomputable def kSb (c : Cx) (A : Around) (env : Env) (value slice : Expr) (Q : D → Led → Prop) (X : Addr → D → Led → Prop) : D → Led → Prop := fun d1 R1 => Ev c A env slice R1 (kSb2 c A value slice d1 Q X) X
theorem ev_sub {value slice pos} (h : Ev c A env value R (kSb c A env value slice Q X) X) : Ev c A env (.Subscript value slice pos) R Q X := .mk fun I H s hs =>
  Subscript_ ((h.run I H s hs).and (Sub.refl _) fun I1 R1 d1 v1 s1 _ k1 hs1 r1 q1 => (q1.run I1 H s1 hs1).and k1 fun I2 R2 d2 v2 s2 k2 k hs2 r2 q2 => Run.sub (q2.run I2 H s2 v1 v2 hs2 (r1.sub k2) r2) k)

-- ints
section
variable {i j : Int}
theorem bi_mul (hm : IntMulOk i j) (h : Q (.int (i * j)) R) : Bin c A .Mult (.int i) (.int j) R Q X := .mk fun I H s _ _ hs r1 r2 => by
  (first | obtain ⟨_, rfl⟩ := Rep.iI r1 | obtain ⟨_, rfl⟩ := Rep.sI r1 | obtain rfl := Rep.vI r1 | obtain rfl := Rep.bI r1 | obtain rfl := Rep.nI r1 | cases r1); (first | obtain ⟨_, rfl⟩ := Rep.iI r2 | obtain ⟨_, rfl⟩ := Rep.sI r2 | obtain rfl := Rep.vI r2 | obtain rfl := Rep.bI r2 | obtain rfl := Rep.nI r2 | cases r2); exact PyProof.Rows.mul_int ⟨I, R, _, Sub.refl _, hs.toks _, .int _ _, h⟩ hm
theorem bi_mod (hj : 0 < j) (h : Q (.int (i % j)) R) : Bin c A .Mod (.int i) (.int j) R Q X := .mk fun I H s _ _ hs r1 r2 => by
  (first | obtain ⟨_, rfl⟩ := Rep.iI r1 | obtain ⟨_, rfl⟩ := Rep.sI r1 | obtain rfl := Rep.vI r1 | obtain rfl := Rep.bI r1 | obtain rfl := Rep.nI r1 | cases r1); (first | obtain ⟨_, rfl⟩ := Rep.iI r2 | obtain ⟨_, rfl⟩ := Rep.sI r2 | obtain rfl := Rep.vI r2 | obtain rfl := Rep.bI r2 | obtain rfl := Rep.nI r2 | cases r2)
  refine mod_int' (by lia) ⟨I, R, _, Sub.refl _, hs.toks _, .int _ _, ?_⟩
  rw [Int.fmod_eq_emod_of_nonneg _ (by lia)]; exact h
theorem bi_div (hj : 0 < j) (hj' : j < 4294967296) (h : Q (.int (i / j)) R) : Bin c A .FloorDiv (.int i) (.int j) R Q X := .mk fun I H s _ _ hs r1 r2 => by
  (first | obtain ⟨_, rfl⟩ := Rep.iI r1 | obtain ⟨_, rfl⟩ := Rep.sI r1 | obtain rfl := Rep.vI r1 | obtain rfl := Rep.bI r1 | obtain rfl := Rep.nI r1 | cases r1); (first | obtain ⟨_, rfl⟩ := Rep.iI r2 | obtain ⟨_, rfl⟩ := Rep.sI r2 | obtain rfl := Rep.vI r2 | obtain rfl := Rep.bI r2 | obtain rfl := Rep.nI r2 | cases r2)
  refine PyProof.Rows.floordiv_int (by lia) ⟨I, R, _, Sub.refl _, hs.toks _, .int _ _, ?_⟩ (.inl (noPylong_mid (by lia)))
  rw [Int.fdiv_eq_ediv_of_nonneg _ (by lia)]; exact h
theorem bi_and15 (hi : 0 ≤ i) (h : Q (.int (i % 16)) R) : Bin c A .BitAnd (.int i) (.int 15) R Q X := .mk fun I H s _ _ hs r1 r2 => by
  (first | obtain ⟨_, rfl⟩ := Rep.iI r1 | obtain ⟨_, rfl⟩ := Rep.sI r1 | obtain rfl := Rep.vI r1 | obtain rfl := Rep.bI r1 | obtain rfl := Rep.nI r1 | cases r1); (first | obtain ⟨_, rfl⟩ := Rep.iI r2 | obtain ⟨_, rfl⟩ := Rep.sI r2 | obtain rfl := Rep.vI r2 | obtain rfl := Rep.bI r2 | obtain rfl := Rep.nI r2 | cases r2)
  refine PyProof.Rows.and_int ⟨I, R, _, Sub.refl _, hs.toks _, .int _ _, ?_⟩
  rw [bitAnd_pp hi (by decide)]
  have : (i.toNat &&& (15 : Int).toNat : Nat) = i.toNat % 16 := by
    show i.toNat &&& (2 ^ 4 - 1) = _
    rw [Nat.and_two_pow_sub_one_eq_mod]
  rw [this]
  have e : ((i.toNat % 16 : Nat) : Int) = i % 16 := by lia
  rw [e]; exact h
theorem bi_shr4 (h : Q (.int (i / 16)) R) : Bin c A .RShift (.int i) (.int 4) R Q X := .mk fun I H s _ _ hs r1 r2 => by
  (first | obtain ⟨_, rfl⟩ := Rep.iI r1 | obtain ⟨_, rfl⟩ := Rep.sI r1 | obtain rfl := Rep.vI r1 | obtain rfl := Rep.bI r1 | obtain rfl := Rep.nI r1 | cases r1); (first | obtain ⟨_, rfl⟩ := Rep.iI r2 | obtain ⟨_, rfl⟩ := Rep.sI r2 | obtain rfl := Rep.vI r2 | obtain rfl := Rep.bI r2 | obtain rfl := Rep.nI r2 | cases r2)
  refine PyProof.Rows.rshift_int (by decide) ⟨I, R, _, Sub.refl _, hs.toks _, .int _ _, ?_⟩
  rw [Int.fdiv_eq_ediv_of_nonneg _ (by decide)]; exact h
theorem cm_lt (h : Q (.bool (decide (i < j))) R) : Cmp c A .Lt (.int i) (.int j) R Q X := .mk fun I H s _ _ hs r1 r2 => by (first | obtain ⟨_, rfl⟩ := Rep.iI r1 | obtain ⟨_, rfl⟩ := Rep.sI r1 | obtain rfl := Rep.vI r1 | obtain rfl := Rep.bI r1 | obtain rfl := Rep.nI r1 | cases r1); (first | obtain ⟨_, rfl⟩ := Rep.iI r2 | obtain ⟨_, rfl⟩ := Rep.sI r2 | obtain rfl := Rep.vI r2 | obtain rfl := Rep.bI r2 | obtain rfl := Rep.nI r2 | cases r2); exact PyProof.Rows.lt_int ⟨I, R, _, Sub.refl _, hs, .bool _, h⟩
theorem cm_gt (h : Q (.bool (decide (j < i))) R) : Cmp c A .Gt (.int i) (.int j) R Q X := .mk fun I H s _ _ hs r1 r2 => by (first | obtain ⟨_, rfl⟩ := Rep.iI r1 | obtain ⟨_, rfl⟩ := Rep.sI r1 | obtain rfl := Rep.vI r1 | obtain rfl := Rep.bI r1 | obtain rfl := Rep.nI r1 | cases r1); (first | obtain ⟨_, rfl⟩ := Rep.iI r2 | obtain ⟨_, rfl⟩ := Rep.sI r2 | obtain rfl := Rep.vI r2 | obtain rfl := Rep.bI r2 | obtain rfl := Rep.nI r2 | cases r2); exact PyProof.Rows.gt_int ⟨I, R, _, Sub.refl _, hs, .bool _, h⟩
theorem cm_le (h : Q (.bool (decide (i ≤ j))) R) : Cmp c A .LtE (.int i) (.int j) R Q X := .mk fun I H s _ _ hs r1 r2 => by (first | obtain ⟨_, rfl⟩ := Rep.iI r1 | obtain ⟨_, rfl⟩ := Rep.sI r1 | obtain rfl := Rep.vI r1 | obtain rfl := Rep.bI r1 | obtain rfl := Rep.nI r1 | cases r1); (first | obtain ⟨_, rfl⟩ := Rep.iI r2 | obtain ⟨_, rfl⟩ := Rep.sI r2 | obtain rfl := Rep.vI r2 | obtain rfl := Rep.bI r2 | obtain rfl := Rep.nI r2 | cases r2); exact PyProof.Rows.le_int ⟨I, R, _, Sub.refl _, hs, .bool _, h⟩
theorem cm_ge (h : Q (.bool (decide (j ≤ i))) R) : Cmp c A .GtE (.int i) (.int j) R Q X := .mk fun I H s _ _ hs r1 r2 => by (first | obtain ⟨_, rfl⟩ := Rep.iI r1 | obtain ⟨_, rfl⟩ := Rep.sI r1 | obtain rfl := Rep.vI r1 | obtain rfl := Rep.bI r1 | obtain rfl := Rep.nI r1 | cases r1); (first | obtain ⟨_, rfl⟩ := Rep.iI r2 | obtain ⟨_, rfl⟩ := Rep.sI r2 | obtain rfl := Rep.vI r2 | obtain rfl := Rep.bI r2 | obtain rfl := Rep.nI r2 | cases r2); exact PyProof.Rows.ge_int ⟨I, R, _, Sub.refl _, hs, .bool _, h⟩
theorem cm_eq (h : Q (.bool (i == j)) R) : Cmp c A .Eq (.int i) (.int j) R Q X := .mk fun I H s _ _ hs r1 r2 => by (first | obtain ⟨_, rfl⟩ := Rep.iI r1 | obtain ⟨_, rfl⟩ := Rep.sI r1 | obtain rfl := Rep.vI r1 | obtain rfl := Rep.bI r1 | obtain rfl := Rep.nI r1 | cases r1); (first | obtain ⟨_, rfl⟩ := Rep.iI r2 | obtain ⟨_, rfl⟩ := Rep.sI r2 | obtain rfl := Rep.vI r2 | obtain rfl := Rep.bI r2 | obtain rfl := Rep.nI r2 | cases r2); exact PyProof.Rows.eq_int ⟨I, R, _, Sub.refl _, hs, .bool _, h⟩
theorem cm_ne (h : Q (.bool (i != j)) R) : Cmp c A .NotEq (.int i) (.int j) R Q X := .mk fun I H s _ _ hs r1 r2 => by (first | obtain ⟨_, rfl⟩ := Rep.iI r1 | obtain ⟨_, rfl⟩ := Rep.sI r1 | obtain rfl := Rep.vI r1 | obtain rfl := Rep.bI r1 | obtain rfl := Rep.nI r1 | cases r1); (first | obtain ⟨_, rfl⟩ := Rep.iI r2 | obtain ⟨_, rfl⟩ := Rep.sI r2 | obtain rfl := Rep.vI r2 | obtain rfl := Rep.bI r2 | obtain rfl := Rep.nI r2 | cases r2); exact PyProof.Rows.ne_int ⟨I, R, _, Sub.refl _, hs, .bool _, h⟩
end
-- strs
theorem bi_addS {x y : Str} (hz : x.length + y.length ≤ sizeLine) (h : Q (.str (x ++ y)) R) : Bin c A .Add (.str x) (.str y) R Q X := .mk fun I H s _ _ hs r1 r2 => by
  (first | obtain ⟨_, rfl⟩ := Rep.iI r1 | obtain ⟨_, rfl⟩ := Rep.sI r1 | obtain rfl := Rep.vI r1 | obtain rfl := Rep.bI r1 | obtain rfl := Rep.nI r1 | cases r1); (first | obtain ⟨_, rfl⟩ := Rep.iI r2 | obtain ⟨_, rfl⟩ := Rep.sI r2 | obtain rfl := Rep.vI r2 | obtain rfl := Rep.bI r2 | obtain rfl := Rep.nI r2 | cases r2); exact PyProof.Rows.add_str (fun t' tk => ⟨I, R, _, Sub.refl _, hs.toks _, .str _ _, h⟩) hz
theorem cm_eqS {x y : Str} (h : Q (.bool (x == y)) R) : Cmp c A .Eq (.str x) (.str y) R Q X := .mk fun I H s _ _ hs r1 r2 => by (first | obtain ⟨_, rfl⟩ := Rep.iI r1 | obtain ⟨_, rfl⟩ := Rep.sI r1 | obtain rfl := Rep.vI r1 | obtain rfl := Rep.bI r1 | obtain rfl := Rep.nI r1 | cases r1); (first | obtain ⟨_, rfl⟩ := Rep.iI r2 | obtain ⟨_, rfl⟩ := Rep.sI r2 | obtain rfl := Rep.vI r2 | obtain rfl := Rep.bI r2 | obtain rfl := Rep.nI r2 | cases r2); exact PyProof.Rows.eq_str ⟨I, R, _, Sub.refl _, hs, .bool _, h⟩
theorem cm_neS {x y : Str} (h : Q (.bool (x != y)) R) : Cmp c A .NotEq (.str x) (.str y) R Q X := .mk fun I H s _ _ hs r1 r2 => by (first | obtain ⟨_, rfl⟩ := Rep.iI r1 | obtain ⟨_, rfl⟩ := Rep.sI r1 | obtain rfl := Rep.vI r1 | obtain rfl := Rep.bI r1 | obtain rfl := Rep.nI r1 | cases r1); (first | obtain ⟨_, rfl⟩ := Rep.iI r2 | obtain ⟨_, rfl⟩ := Rep.sI r2 | obtain rfl := Rep.vI r2 | obtain rfl := Rep.bI r2 | obtain rfl := Rep.nI r2 | cases r2); exact PyProof.Rows.ne_str ⟨I, R, _, Sub.refl _, hs, .bool _, h⟩
theorem seqIndex_nat {k : Int} {n : Nat} (h0 : 0 ≤ k) (h1 : k < n) : seqIndex? k n = some k.toNat := by
  unfold seqIndex?
  have h2 : ¬ k < 0 := by lia
  simp only [h2, if_false]
  rw [if_pos (by first | exact ⟨h0, h1⟩ | (simp only [Bool.and_eq_true, decide_eq_true_eq]; exact ⟨h0, h1⟩))]
theorem su_str {value slice : Expr} {x : Str} {k : Int} {n : Nat} (h0 : 0 ≤ k) (h1 : k < 2 ^ 62) (hc : x.cps.toList[k.toNat]? = some n) (h : Q (.str ⟨#[n]⟩) R)
    (hs : ∀ o i, subscripted slice false o i = operate [o, i] (getItem o i) := by intro _ _; rfl) : Sub2 c A value slice (.str x) (.int k) R Q X := .mk fun I H s _ _ hst r1 r2 => by
  (first | obtain ⟨_, rfl⟩ := Rep.iI r1 | obtain ⟨_, rfl⟩ := Rep.sI r1 | obtain rfl := Rep.vI r1 | obtain rfl := Rep.bI r1 | obtain rfl := Rep.nI r1 | cases r1); (first | obtain ⟨_, rfl⟩ := Rep.iI r2 | obtain ⟨_, rfl⟩ := Rep.sI r2 | obtain rfl := Rep.vI r2 | obtain rfl := Rep.bI r2 | obtain rfl := Rep.nI r2 | cases r2)
  have hc' : x.cps[k.toNat]? = some n := by simpa using hc
  have lt : k.toNat < x.cps.size := (Array.getElem?_eq_some_iff.mp hc').1
  refine tail_any (typeIs_str _ _ _) slot_str_getitem.lookup (PyProof.Rows.getItem_str (c := n) (by simp only [Bool.or_eq_false_iff, decide_eq_false_iff_not]; constructor <;> lia) ?_ ⟨I, R, _, Sub.refl _, hst.toks _, .str _ _, h⟩) (hs _ _)
  rw [show x.length = x.cps.size from rfl, seqIndex_nat h0 (by lia), Option.bind_some]; exact hc'
theorem su_list {value slice : Expr} {d x : D} {ds : List D} {k : Int} (l : LV R d ds) (h0 : 0 ≤ k) (h1 : k < 2 ^ 62) (hx : ds[k.toNat]? = some x) (h : Q x R)
    (hs : ∀ o i, subscripted slice false o i = operate [o, i] (getItem o i) := by intro _ _; rfl) : Sub2 c A value slice d (.int k) R Q X := .mk fun I H s _ _ hst r1 r2 => by
  (first | obtain ⟨_, rfl⟩ := Rep.iI r2 | obtain ⟨_, rfl⟩ := Rep.sI r2 | obtain rfl := Rep.vI r2 | obtain rfl := Rep.bI r2 | obtain rfl := Rep.nI r2 | cases r2)
  refine gP fun Gq hGq => ?_
  obtain ⟨a, vs, rfl, hl, y, _⟩ := l.at hst r1
  refine hGq ?_
  clear hGq
  obtain ⟨v, hv, r⟩ := y.get hx
  exact tail_any hl.typeIs slot_list_getitem.lookup (wpAny_getItem_list hl h0 (by lia) (by simpa using hv) ⟨I, R, _, Sub.refl _, hst, r, h⟩) (hs _ _)
theorem su_tup {value slice : Expr} {x : D} {ds : List D} {k : Int} (h0 : 0 ≤ k) (h1 : k < 2 ^ 62) (hx : ds[k.toNat]? = some x) (h : Q x R)
    (hs : ∀ o i, subscripted slice false o i = operate [o, i] (getItem o i) := by intro _ _; rfl) : Sub2 c A value slice (.tup ds) (.int k) R Q X := .mk fun I H s _ _ hst r1 r2 => by
  (first | obtain ⟨_, rfl⟩ := Rep.iI r2 | obtain ⟨_, rfl⟩ := Rep.sI r2 | obtain rfl := Rep.vI r2 | obtain rfl := Rep.bI r2 | obtain rfl := Rep.nI r2 | cases r2)
  obtain ⟨a, vs, rfl, ht, y⟩ := r1.tI
  obtain ⟨v, hv, r⟩ := y.get hx
  have lt : k.toNat < vs.toList.length := (List.getElem?_eq_some_iff.mp hv).1
  rw [Array.length_toList] at lt
  refine gP fun Gq hGq => ?_
  obtain ⟨o, ho, hc, n, hd⟩ := IsTup.sub hst.up ht
  refine hGq ?_
  clear hGq
  refine tail_any ⟨o, ho, hc⟩ slot_tuple_getitem.lookup (PyProof.Rows.getItem_tuple (IsTup.sub hst.up ht) (by lia) (by lia) (seqIndex_nat h0 (by lia)) (by simpa using hv) ⟨I, R, _, Sub.refl _, hst, r, h⟩) (hs _ _)
end
end Mine
end
section
open PySem PySem.W PySem.Calls PyProof.Rows
set_option Elab.async false
set_option tactic.hygienic false
set_option maxRecDepth 100000
set_option linter.unusedVariables false
namespace Mine
section
variable {c : Cx} {A : Around} {env : Env} {L : Addr} {sc : Scope} {ns : List Str} {vs vs' : List (Option D)} {gl : List (Str × D)} {R R0 R' : Led} {Q : D → Led → Prop} {X : Addr → D → Led → Prop}

/-- a new list: owned, or frozen at once -/
noncomputable def NewL (Q : D → Led → Prop) (ds : List D) (R : Led) : Prop := Q (.lst ds) R ∨ ∀ a, Q (.val (.ref a)) ((a, .list ds) :: R)
theorem newl_f {ds : List D} (h : Q (.lst ds) R) : NewL Q ds R := .inl h
theorem newl_o {ds : List D} (h : ∀ a, Q (.val (.ref a)) ((a, .list ds) :: R)) : NewL Q ds R := .inr h
theorem NewL.at {I : Heap} {H : Led} {s : Shared} {vs : List Value} {ds : List D} (hs : St c A I (R ++ H) s) (y : Reps I vs ds) (h : NewL Q ds R) (t : Nat) :
    PG c A I H Rep Q (.ref s.heap.objs.size) { s with heap := s.heap.push { cls := .type "list", data := .seq vs.toArray }, toks := t } := by
  rcases h with h | h
  · refine gP fun Gq hGq => ?_
    obtain ⟨I', k, e, hs'⟩ := hs.pushI (o := { cls := .type "list", data := .seq vs.toArray }) t
    refine hGq ?_
    clear hGq
    exact ⟨I', R, _, k, hs', .lst _ vs.toArray ds ⟨_, e, rfl, _, rfl⟩ (y.sub k), h⟩
  · exact ⟨I, _, _, Sub.refl _, hs.push (P := .list ds) ⟨vs.toArray, 0, rfl, y⟩ t, .val _, h _⟩
theorem newTup {I : Heap} {H : Led} {s : Shared} {vs : List Value} {ds : List D} (hs : St c A I (R ++ H) s) (y : Reps I vs ds) (h : Q (.tup ds) R) (t : Nat) :
    PG c A I H Rep Q (.ref s.heap.objs.size) { s with heap := s.heap.push { cls := .type "tuple", data := .seq vs.toArray }, toks := t } := by
  refine gP fun Gq hGq => ?_
  obtain ⟨I', k, e, hs'⟩ := hs.pushI (o := { cls := .type "tuple", data := .seq vs.toArray }) t
  refine hGq ?_
  clear hGq
  exact ⟨I', R, _, k, hs', .tup _ vs.toArray ds ⟨_, e, rfl, _, rfl⟩ (y.sub k), h⟩

theorem sizeLine_is : sizeLine = 16777216 := by rw [sizeLine_eq]
-- displays
@[reducible] noncomputable def kTup (Q : D → Led → Prop) : List D → Led → Prop := fun ds R1 => ds.length ≤ 1000 ∧ Q (.tup ds) R1
@[reducible] noncomputable def kLst (Q : D → Led → Prop) : List D → Led → Prop := fun ds R1 => ds.length ≤ 1000 ∧ NewL Q ds R1
theorem ev_tuple {elts k pos} (h : Args c A env elts R (kTup Q) X) : Ev c A env (.Tuple elts k pos) R Q X := .mk fun I H s hs =>
  wpAny_Tuple ((h.run I H s pos hs).and (Sub.refl _) fun I1 R1 ds vs s1 _ k1 hs1 r1 ⟨q0, q1⟩ => ⟨by rw [r1.length]; rw [sizeLine_is]; lia, PG.sub (newTup hs1 r1 q1 s1.toks) k1⟩)
theorem ev_list {elts pos} (h : Args c A env elts R (kLst Q) X) : Ev c A env (.List elts pos) R Q X := .mk fun I H s hs =>
  wpAny_List ((h.run I H s pos hs).and (Sub.refl _) fun I1 R1 ds vs s1 _ k1 hs1 r1 ⟨q0, q1⟩ => ⟨by rw [r1.length]; rw [sizeLine_is]; lia, PG.sub (NewL.at hs1 r1 q1 s1.toks) k1⟩)
-- slices
theorem ev_slice {lower upper step : Option Expr} {pos} {lo hi st : Option Int}
    (h : ∀ I H s, St c A I (R ++ H) s → wpAny c.M A (evalPart lower env) (fun l s1 => wpAny c.M A (evalPart upper env) (fun u s2 => wpAny c.M A (evalPart step env) (fun t s3 => ∃ I', Sub I I' ∧ St c A I' (R ++ H) s3 ∧ IsPart l lo ∧ IsPart u hi ∧ IsPart t st) (PX c A I H X) s2) (PX c A I H X) s1) (PX c A I H X) s)
    (q : Q (.slc lo hi st) R) : Ev c A env (.Slice lower upper step pos) R Q X := .mk fun I H s hs =>
  wpAny_Slice (wpAny_mono (h I H s hs) (fun l s1 h1 => wpAny_mono h1 (fun u s2 h2 => wpAny_mono h2 (fun t s3 ⟨I', k, hs3, p1, p2, p3⟩ => by
    refine gP fun Gq hGq => ?_
    obtain ⟨I2, k2, e, hs'⟩ := hs3.pushI (o := { cls := .type "slice", data := .fields #[l, u, t] }) s3.toks
    refine hGq ?_
    clear hGq
    exact ⟨I2, R, _, k.trans k2, hs', .slc _ l u t lo hi st ⟨_, e, rfl, rfl⟩ p1 p2 p3, q⟩) fun _ _ z => z) fun _ _ z => z) fun _ _ z => z)
/-- a part of a slice: not there, or an expression that keeps the ledger -/
noncomputable def Prt (c : Cx) (A : Around) (env : Env) (R : Led) (X : Addr → D → Led → Prop) : Option Expr → Option Int → Prop
  | none, none => True
  | some e, some i => Ev c A env e R (fun d R' => d = .int i ∧ R' = R) X
  | _, _ => False
theorem Prt.run {e : Option Expr} {i : Option Int} {I : Heap} {H : Led} {s : Shared} {Z : Value → Shared → Prop} (p : Prt c A env R X e i) (hs : St c A I (R ++ H) s) {J : Heap} (kJ : Sub J I)
    (h : ∀ I' v s', Sub I I' → St c A I' (R ++ H) s' → IsPart v i → Z v s') : wpAny c.M A (evalPart e env) Z (PX c A J H X) s := by
  cases e with
  | none => cases i with
    | none => exact wpAny_evalPart_none (h I _ _ (Sub.refl _) hs .none)
    | some i => exact p.elim
  | some e => cases i with
    | none => exact p.elim
    | some i => exact wpAny_evalPart_some ((Ev.run p I H s hs).and kJ fun I1 R1 d v s1 k1 _ hs1 r1 ⟨q1, q2⟩ => by subst q1 q2; (first | obtain ⟨_, rfl⟩ := Rep.iI r1 | obtain ⟨_, rfl⟩ := Rep.sI r1 | obtain rfl := Rep.vI r1 | obtain rfl := Rep.bI r1 | obtain rfl := Rep.nI r1 | cases r1); exact h I1 _ _ k1 hs1 (.int _ _))
theorem ev_slc {lower upper step : Option Expr} {pos} {lo hi st : Option Int} (h1 : Prt c A env R X lower lo) (h2 : Prt c A env R X upper hi) (h3 : Prt c A env R X step st)
    (q : Q (.slc lo hi st) R) : Ev c A env (.Slice lower upper step pos) R Q X :=
  ev_slice (fun I H s hs => h1.run hs (Sub.refl _) fun I1 l s1 k1 hs1 p1 => h2.run hs1 k1 fun I2 u s2 k2 hs2 p2 => h3.run hs2 (k1.trans k2) fun I3 t s3 k3 hs3 p3 => ⟨I3, (k1.trans k2).trans k3, hs3, p1, p2, p3⟩) q

/-- what a slice takes of a list -/
noncomputable def cut {α : Type} (xs : List α) (lo hi : Option Int) : List α := (xs.drop (lo.elim 0 (clipAt xs.length))).take (hi.elim xs.length (clipAt xs.length) - lo.elim 0 (clipAt xs.length))
theorem Reps.cut {I : Heap} {vs : List Value} {ds : List D} (h : Reps I vs ds) (lo hi : Option Int) : Reps I (cut vs lo hi) (cut ds lo hi) := by
  unfold Mine.cut
  rw [h.length]
  exact (h.drop _).take _
theorem su_slice {value slice : Expr} {d : D} {ds : List D} {lo hi : Option Int} (l : LV R d ds) (hz : ds.length ≤ sizeLine) (h : NewL Q (cut ds lo hi) R)
    (hs : ∀ o i, subscripted slice false o i = operate [i, o] (getItem o i) := by intro _ _; rfl) : Sub2 c A value slice d (.slc lo hi none) R Q X := .mk fun I H s _ _ hst r1 r2 => by
  refine gP fun Gq hGq => ?_
  obtain ⟨a, vs, rfl, hl, y, hsz⟩ := l.at hst r1
  refine hGq ?_
  clear hGq
  cases r2 with
  | slc b l u t lo hi st x p1 p2 p3 =>
    refine gP fun Gq hGq => ?_
    obtain ⟨o, ho, hc, hd⟩ := x
    refine hGq ?_
    clear hGq
    refine tail_any hl.typeIs slot_list_getitem.lookup (wpAny_getItem_list_slice hl ⟨o, hst.up _ _ ho, hc, hd⟩ p1 p2 p3 (by simp) ?_ (by lia)) (hs _ _)
    rw [slicePick_plain]
    have := NewL.at hst (y.cut lo hi) h s.toks
    unfold cut at this
    rw [Array.length_toList] at this
    exact this
theorem su_rev {value slice : Expr} {d : D} {ds : List D} (l : LV R d ds) (hz : ds.length ≤ sizeLine) (h : NewL Q ds.reverse R)
    (hs : ∀ o i, subscripted slice false o i = operate [o, i] (getItem o i) := by intro _ _; rfl) : Sub2 c A value slice d (.slc none none (some (-1))) R Q X := .mk fun I H s _ _ hst r1 r2 => by
  refine gP fun Gq hGq => ?_
  obtain ⟨a, vs, rfl, hl, y, hsz⟩ := l.at hst r1
  refine hGq ?_
  clear hGq
  cases r2 with
  | slc b l u t lo hi st x p1 p2 p3 =>
    refine gP fun Gq hGq => ?_
    obtain ⟨o, ho, hc, hd⟩ := x
    refine hGq ?_
    clear hGq
    refine tail_any hl.typeIs slot_list_getitem.lookup (wpAny_getItem_list_slice hl ⟨o, hst.up _ _ ho, hc, hd⟩ p1 p2 p3 (by simp) ?_ (by lia)) (hs _ _)
    have e : slicePick vs none none (some (-1)) = vs.toList.reverse.toArray := krv_pick vs
    rw [e]
    exact NewL.at hst y.reverse h s.toks
-- concat, repeat
theorem bi_addL {d1 d2 : D} {xs ys : List D} (l1 : LV R d1 xs) (l2 : LV R d2 ys) (hz : xs.length + ys.length ≤ sizeLine) (h : NewL Q (xs ++ ys) R) : Bin c A .Add d1 d2 R Q X := .mk fun I H s _ _ hst r1 r2 => by
  refine gP fun Gq hGq => ?_
  obtain ⟨a, vs, rfl, hl, y, hsz⟩ := l1.at hst r1
  refine hGq ?_
  clear hGq
  refine gP fun Gq hGq => ?_
  obtain ⟨b, ws, rfl, hl2, y2, hsz2⟩ := l2.at hst r2
  refine hGq ?_
  clear hGq
  refine gP fun Gq hGq => ?_
  obtain ⟨⟨cls, dd, data, sl⟩, ho, hc, n, hd⟩ := id hl
  refine hGq ?_
  clear hGq
  refine gP fun Gq hGq => ?_
  obtain ⟨⟨cls2, dd2, data2, sl2⟩, ho2, hc2, n2, hd2⟩ := id hl2
  refine hGq ?_
  clear hGq
  simp only at hc hd hc2 hd2
  subst hc hd hc2 hd2
  refine concat_meets ⟨_, ho, rfl⟩ ⟨_, ho2, rfl⟩ noFill_list_add seq_list_add PySem.F.slot_list_add PySem.F.entry_list_add (PySem.F.args_list_add_2 _ _) (list_addW a b vs ws n n2 dd dd2 sl sl2 (by lia)) ⟨ho, ho2, ?_⟩
  have e : vs ++ ws = (vs.toList ++ ws.toList).toArray := by simp
  rw [e]
  exact NewL.at hst (y.append y2) h s.toks
-- len
theorem ca_lenL {d : D} {ds : List D} (l : LV R d ds) (hz : ds.length ≤ sizeLine) (h : Q (.int (ds.length : Int)) R) : Cal c A (.builtin "len") [d] R Q X := .mk fun I H s _ hst r => by
  obtain ⟨_, _, rfl, r1, rs⟩ := Reps.consI r
  obtain rfl := Reps.nilI rs
  refine gP fun Gq hGq => ?_
  obtain ⟨a, vs, rfl, hl, y, hsz⟩ := l.at hst r1
  refine hGq ?_
  clear hGq
  refine PyProof.Rows.len_list hl (by rw [sizeLine_is] at hz; lia) ⟨I, R, _, Sub.refl _, hst.toks _, ?_, h⟩
  rw [hsz]; exact .int _ _
-- append, pop
theorem gm_list {a : Addr} {ds : List D} {name : Str} {id : String} (m : Has (a, .list ds) R) (slot : Slot "list" name id) (hty : typeOf (.builtin id) = pure (.type "method_descriptor")) (pa : PlainAttrs "list") : GetM c (.val (.ref a)) name R (.builtin id) := by
  intro A I H s v pl Z E hs r hz
  (first | obtain ⟨_, rfl⟩ := Rep.iI r | obtain ⟨_, rfl⟩ := Rep.sI r | obtain rfl := Rep.vI r | obtain rfl := Rep.bI r | obtain rfl := Rep.nI r | cases r)
  refine gP fun Gq hGq => ?_
  obtain ⟨o, ho, vs, n, rfl, y⟩ := hs.get (m.app H)
  refine hGq ?_
  clear hGq
  exact getMethod_builtin ⟨_, ho, rfl⟩ pa slot hty (fun b e => by cases e; exact ⟨_, ho, rfl⟩) hz
theorem gm_append {a : Addr} {ds : List D} (m : Has (a, .list ds) R) : GetM c (.val (.ref a)) "append" R (.builtin "list.append") := by
  intro A I H s v pl Z E hs r hz
  (first | obtain ⟨_, rfl⟩ := Rep.iI r | obtain ⟨_, rfl⟩ := Rep.sI r | obtain rfl := Rep.vI r | obtain rfl := Rep.bI r | obtain rfl := Rep.nI r | cases r)
  refine gP fun Gq hGq => ?_
  obtain ⟨o, ho, vs, n, rfl, y⟩ := hs.get (m.app H)
  refine hGq ?_
  clear hGq
  exact getMethod_list_append ho rfl rfl hz
theorem ca_append {a : Addr} {ds : List D} {x : D} (u : Upd a (.list ds) (.list (ds ++ [x])) R R') (hz : ds.length < sizeLine) (h : Q .none R') : Cal c A (.builtin "list.append") [.val (.ref a), x] R Q X := .mk fun I H s _ hst r => by
  obtain ⟨_, _, rfl, r1, rs⟩ := Reps.consI r
  obtain ⟨_, _, rfl, r2, rs⟩ := Reps.consI rs
  obtain rfl := Reps.nilI rs; (first | obtain ⟨_, rfl⟩ := Rep.iI r1 | obtain ⟨_, rfl⟩ := Rep.sI r1 | obtain rfl := Rep.vI r1 | obtain rfl := Rep.bI r1 | obtain rfl := Rep.nI r1 | cases r1)
  refine gP fun Gq hGq => ?_
  obtain ⟨o, ho, vs, n, rfl, y⟩ := hst.get (u.has.app H)
  refine hGq ?_
  clear hGq
  have hl := y.length
  rw [Array.length_toList] at hl
  refine wpAny_list_append_plain ⟨n, ho⟩ (fun h' ⟨n', e'⟩ k => ⟨I, R', .none, Sub.refl _, hst.upd (u.app H) (SameBut.at k) ⟨_, e', _, n', rfl, ?_⟩ s.toks, .none, h⟩) (by lia)
  rw [Array.toList_push]
  exact y.append (.cons r2 .nil)
theorem ca_pop {a : Addr} {ds : List D} {x : D} (u : Upd a (.list (ds ++ [x])) (.list ds) R R') (hz : ds.length < sizeLine) (h : Q x R') : Cal c A (.builtin "list.pop") [.val (.ref a)] R Q X := .mk fun I H s _ hst r => by
  obtain ⟨_, _, rfl, r1, rs⟩ := Reps.consI r
  obtain rfl := Reps.nilI rs; (first | obtain ⟨_, rfl⟩ := Rep.iI r1 | obtain ⟨_, rfl⟩ := Rep.sI r1 | obtain rfl := Rep.vI r1 | obtain rfl := Rep.bI r1 | obtain rfl := Rep.nI r1 | cases r1)
  refine gP fun Gq hGq => ?_
  obtain ⟨o, ho, vs, n, rfl, y⟩ := hst.get (u.has.app H)
  refine hGq ?_
  clear hGq
  have hl := y.length
  rw [Array.length_toList, List.length_append, List.length_singleton] at hl
  obtain ⟨v, hv, rv⟩ := y.get (i := ds.length) (d := x) (by simp)
  refine call_meets PySem.F.slot_list_pop ⟨_, ho, rfl⟩ PySem.F.entry_list_pop (PySem.F.args_list_pop_1 _) (MeetsSeq.list_pop_last a vs n v (by rw [hl, Nat.add_sub_cancel]; simpa using hv) (by lia)) ⟨ho, ?_⟩
  have e := Heap.get?_update_self (h := s.heap) (Obj.mapSeq fun xs => xs.eraseIdxIfInBounds (vs.size - 1)) ho (by rfl)
  refine ⟨I, R', x, Sub.refl _, hst.upd (u.app H) (fun b o ne e => (Heap.get?_update_other _ _ (Ne.symm ne)).trans e) ⟨_, e, _, _, rfl, ?_⟩ s.toks, rv, h⟩
  have z := y.take ds.length
  have e2 : (vs.eraseIdxIfInBounds (vs.size - 1)).toList = vs.toList.take ds.length := by
    unfold Array.eraseIdxIfInBounds
    rw [dif_pos (by lia), Array.toList_eraseIdx, List.eraseIdx_eq_take_drop_succ]
    have : vs.size - 1 = ds.length := by lia
    rw [this, List.drop_of_length_le (by rw [Array.length_toList]; lia), List.append_nil]
  rw [e2]
  simpa using z
theorem ca_pop_at {a : Addr} {ds : List D} {x : D} {k : Int} (u : Upd a (.list ds) (.list (ds.eraseIdx k.toNat)) R R') (h0 : 0 ≤ k) (hx : ds[k.toNat]? = some x) (hz : ds.length ≤ sizeLine) (h : Q x R') : Cal c A (.builtin "list.pop") [.val (.ref a), .int k] R Q X := .mk fun I H s _ hst r => by
  obtain ⟨_, _, rfl, r1, rs⟩ := Reps.consI r
  obtain ⟨_, _, rfl, r2, rs⟩ := Reps.consI rs
  obtain rfl := Reps.nilI rs; (first | obtain ⟨_, rfl⟩ := Rep.iI r1 | obtain ⟨_, rfl⟩ := Rep.sI r1 | obtain rfl := Rep.vI r1 | obtain rfl := Rep.bI r1 | obtain rfl := Rep.nI r1 | cases r1); (first | obtain ⟨_, rfl⟩ := Rep.iI r2 | obtain ⟨_, rfl⟩ := Rep.sI r2 | obtain rfl := Rep.vI r2 | obtain rfl := Rep.bI r2 | obtain rfl := Rep.nI r2 | cases r2)
  refine gP fun Gq hGq => ?_
  obtain ⟨o, ho, vs, n, rfl, y⟩ := hst.get (u.has.app H)
  refine hGq ?_
  clear hGq
  have hl := y.length
  rw [Array.length_toList] at hl
  obtain ⟨v, hv, rv⟩ := y.get hx
  have lt : k.toNat < vs.size := by have := (List.getElem?_eq_some_iff.mp hv).1; rwa [Array.length_toList] at this
  have lt2 : vs.size ≤ 16777216 := by rw [sizeLine_is] at hz; lia
  refine call_meets PySem.F.slot_list_pop ⟨_, ho, rfl⟩ PySem.F.entry_list_pop (PySem.F.args_list_pop_2 _ _) (MeetsSeq.list_pop_at a vs n k _ k.toNat v (by unfold Builtin.List.listFitsIndex; simp; lia) (seqIndex_nat h0 (by lia)) (by simpa using hv) (by lia)) ⟨ho, ?_⟩
  have e := Heap.get?_update_self (h := s.heap) (Obj.mapSeq fun xs => xs.eraseIdxIfInBounds k.toNat) ho (by rfl)
  refine ⟨I, R', x, Sub.refl _, hst.upd (u.app H) (fun b o ne e => (Heap.get?_update_other _ _ (Ne.symm ne)).trans e) ⟨_, e, _, _, rfl, ?_⟩ s.toks, rv, h⟩
  have e2 : (vs.eraseIdxIfInBounds k.toNat).toList = vs.toList.take k.toNat ++ vs.toList.drop (k.toNat + 1) := by
    unfold Array.eraseIdxIfInBounds
    rw [dif_pos (by lia), Array.toList_eraseIdx, List.eraseIdx_eq_take_drop_succ]
  rw [e2, List.eraseIdx_eq_take_drop_succ]
  exact (y.take _).append (y.drop _)
end
end Mine
end
section
open PySem PySem.W PySem.Calls PyProof.Rows
set_option Elab.async false
set_option tactic.hygienic false
set_option maxRecDepth 100000
set_option linter.unusedVariables false
namespace Mine

noncomputable def getOk (K : Frag) (C : Addr) (name : Str) : Bool := plainGet K C name && hasDictIn K C && (match findIn K (.ref C) name with | some attr => noGet K attr | none => false)
noncomputable def methOk (K : Frag) (C : Addr) (name : Str) (f : Addr) : Bool := plainGet K C name && hasDictIn K C && findIn K (.ref C) name == some (some (.ref f)) && isFn K (.ref f)
noncomputable def setOk (K : Frag) (C : Addr) (name : Str) : Bool := findIn K (.ref C) "__setattr__" == some (some (.builtin "object.__setattr__")) && plainOver K C && takerIn K C name == some none && hasDictIn K C
noncomputable def newOk (K : Frag) (C f : Addr) : Bool := makesIn K C && findIn K (.ref C) "__init__" == some (some (.ref f)) && typeIn K (.ref f) == some (.type "function")

structure Att (c : Cx) (A : Around) (d : D) (name : Str) (R : Led) (Q : D → Led → Prop) (X : Addr → D → Led → Prop) : Prop where
  run : ∀ I H s v, St c A I (R ++ H) s → Rep I v d → Run c A I H (getAttr v name true) Rep Q X s
/-- a value that is no built-in's word -/
noncomputable def noB : D → Bool
  | .val (.ref _) => true
  | .val _ => false
  | _ => true

theorem uniq_nil : UniqKeys #[] := by
  rw [UniqKeys.iff_keys]; exact .nil
theorem lookIn_ns {m : Str → Option Value} {o : Obj} (h : isNs m o) (x : Str) : lookIn x o = some (m x) := by
  refine gP fun Gq hGq => ?_
  obtain ⟨es, ep, hd, hk, hf⟩ := h
  refine hGq ?_
  clear hGq
  unfold lookIn
  rw [hd]
  dsimp only
  have e : es.toList.find? (fun e => e.key.isStr x) = es.find? (fun e => e.key.isStr x) := by rw [Array.find?_toList]
  have e2 : nsFind es x = (es.find? (fun e => e.key.isStr x)).map (·.val) := rfl
  rw [e, ← hf x, e2]
  cases q : es.find? (fun e => e.key.isStr x) with
  | some en => rfl
  | none =>
    have : es.toList.any (·.refKey) = false := by
      rw [List.any_eq_false]
      intro en hen
      obtain ⟨n, t, hn⟩ := hk en (Array.mem_toList_iff.mp hen)
      unfold DictEntry.refKey
      rw [hn]; simp
    rw [this]; rfl

section
variable {c : Cx} {A : Around} {env : Env} {L : Addr} {sc : Scope} {ns : List Str} {vs vs' : List (Option D)} {gl : List (Str × D)} {R R0 R' : Led} {Q : D → Led → Prop} {X : Addr → D → Led → Prop} {x C dx : Addr}

theorem inst_at {I : Heap} {s : Shared} (hs : St c A I R s) (m1 : Has (x, .inst C dx) R) (m2 : Has (dx, .ats ns vs) R) :
    ∃ ox od m, InstAt s.heap x ox C (some od) ∧ ox.dict = some dx ∧ s.heap.get? x = some ox ∧ s.heap.get? dx = some od ∧ isNs1 m od ∧ Locs I m ns vs ∧ (∀ y, y ∉ ns → m y = none) ∧ ox.data = .plain := by
  refine gP fun Gq hGq => ?_
  obtain ⟨ox, hx, c1, c2, c3⟩ := hs.get m1
  refine hGq ?_
  clear hGq
  refine gP fun Gq hGq => ?_
  obtain ⟨od, hd, m, h1, h2, h3⟩ := hs.get m2
  refine hGq ?_
  clear hGq
  refine ⟨ox, od, m, ⟨hx, c1, ?_, ?_⟩, c2, hx, hd, h1, h2, h3, c3⟩
  · unfold notCls; rw [c3]
  · rw [c2]; exact hd
@[reducible] noncomputable def kAtr (c : Cx) (A : Around) (attr : Str) (Q : D → Led → Prop) (X : Addr → D → Led → Prop) : D → Led → Prop := fun d R1 => Att c A d attr R1 Q X
theorem ev_attr {value attr pos} (h : Ev c A env value R (kAtr c A attr Q X) X)
    (he : ∀ env, eval (.Attribute value attr pos) env = (do
      let o ← eval value env
      standAt pos.atName
      let r ← holding [o] (getAttr o attr true)
      letTemporaryGo value o r
      pure r) := by intro _; with_unfolding_all rfl) : Ev c A env (.Attribute value attr pos) R Q X := .mk fun I H s hs =>
  Attribute_any_ ((h.run I H s hs).and (Sub.refl _) fun I1 R1 d v s1 _ k1 hs1 r1 q1 => Run.sub (q1.run I1 H s1 v hs1 r1) k1) (he env)
set_option tactic.hygienic true in
theorem at_own {name : Str} {d : D} (m1 : Has (x, .inst C dx) R) (m2 : Has (dx, .ats ns vs) R) (ok : ∀ P, getOk (K P) C name = true) (l : LocAt ns vs name d) (hb : noB d = true) (h : Q d R) : Att c A (.val (.ref x)) name R Q X := by
  constructor
  intro I H s v hs r
  (first | obtain ⟨_, rfl⟩ := Rep.iI r | obtain ⟨_, rfl⟩ := Rep.sI r | obtain rfl := Rep.vI r | obtain rfl := Rep.bI r | obtain rfl := Rep.nI r | cases r)
  have hX := hs.wd.kin.keeps hs.up
  refine gP fun Gq hGq => ?_
  obtain ⟨ox, od, m, ia, hd, hx, hdx, hns, hl, _, _⟩ := inst_at hs (m1.app H) (m2.app H)
  refine hGq ?_
  clear hGq
  obtain ⟨u, hu, ru⟩ := l.at.2 hl
  have ok := ok c.w.params
  unfold getOk at ok
  simp only [Bool.and_eq_true] at ok
  obtain ⟨⟨hg, hh⟩, h3⟩ := ok
  split at h3
  · rename_i attr ha
    refine get_value hX ia (plainGet_of hg).1 (findObj_own hh ha h3 (by rw [lookIn_ns hns.ns, hu])) ?_ ⟨I, R, d, Sub.refl _, hs.toks _, ru, h⟩
    cases ru <;> first | rfl | skip
    cases u <;> first | rfl | cases hb
  · cases h3
theorem gm_inst {name : Str} {f : Addr} (m1 : Has (x, .inst C dx) R) (m2 : Has (dx, .ats ns vs) R) (ok : ∀ P, methOk (K P) C name f = true) (hn : name ∉ ns) : GetM c (.val (.ref x)) name R (.ref f) := by
  intro A I H s v pl Z E hs r hz
  (first | obtain ⟨_, rfl⟩ := Rep.iI r | obtain ⟨_, rfl⟩ := Rep.sI r | obtain rfl := Rep.vI r | obtain rfl := Rep.bI r | obtain rfl := Rep.nI r | cases r)
  have hX := hs.wd.kin.keeps hs.up
  refine gP fun Gq hGq => ?_
  obtain ⟨ox, od, m, ia, hd, hx, hdx, hns, hl, hno, _⟩ := inst_at hs (m1.app H) (m2.app H)
  refine hGq ?_
  clear hGq
  have ok := ok c.w.params
  unfold methOk at ok
  simp only [Bool.and_eq_true, beq_iff_eq] at ok
  refine gP fun Gq hGq => ?_
  obtain ⟨⟨⟨hg, hh⟩, hf⟩, ht⟩ := ok
  refine hGq ?_
  clear hGq
  exact method_fn hX ia (plainGet_of hg).1 (plainGet_of hg).2 hf (beq_iff_eq.mp ht) (by show (lookIn name od).map _ = _; rw [lookIn_ns hns.ns, hno name hn]; rfl) hz
theorem sa_own {name : Str} {d : D} {Q : Led → Prop} (hz : ns.length ≤ 1000) (m1 : Has (x, .inst C dx) R) (u : Upd dx (.ats ns vs) (.ats ns vs') R R') (l : LocSet ns vs name d vs') (nd : ns.Nodup) (ok : ∀ P, setOk (K P) C name = true) (h : Q R') : SetA c A (.val (.ref x)) name d R Q X := by
  constructor
  intro I H s ov vv hs r1 r2
  (first | obtain ⟨_, rfl⟩ := Rep.iI r1 | obtain ⟨_, rfl⟩ := Rep.sI r1 | obtain rfl := Rep.vI r1 | obtain rfl := Rep.bI r1 | obtain rfl := Rep.nI r1 | cases r1)
  have hX := hs.wd.kin.keeps hs.up
  refine gP fun Gq hGq => ?_
  obtain ⟨ox, od, m, ia, hd, hx, hdx, hns, hl, hno, _⟩ := inst_at hs (m1.app H) (u.has.app H)
  refine hGq ?_
  clear hGq
  have ok := ok c.w.params
  unfold setOk at ok
  simp only [Bool.and_eq_true, beq_iff_eq] at ok
  refine gP fun Gq hGq => ?_
  obtain ⟨⟨⟨h1, h2⟩, h3⟩, h4⟩ := ok
  refine hGq ?_
  clear hGq
  refine set_plain hX ia h1 (osa_open (s := { s with toks := s.toks + 1 }) hX ia h2 h3 fun b => ?_)
  obtain ⟨cd, hc, hd'⟩ := any_some h4
  refine gP fun Gq hGq => ?_
  obtain ⟨oc, odi, oda, osl⟩ := ox
  refine hGq ?_
  clear hGq
  have hcl := ia.cls
  dsimp only at hcl hd
  subst hcl hd
  refine wpAny_bind (wpAny_pure (wpAny_bind (wpAny_bind (wpAny_loadPart hx (wpAny_bind ((looks_clsIn hX hc) _ _ _ _ (fun _ _ e => e) ?_))))))
  rw [hd']
  refine wpAny_pure (a := some dx) (wpAny_bind (wpAny_pure (wpAny_bind ?_)))
  refine wpAny_nsSet1 (m := m) (ns1_of ⟨od, hdx, hns⟩) fun h' hn' hk => ?_
  have wi : Within (fun y => if y = name then some vv else m y) ns := fun y hy => by
    by_cases e : y = name
    · exact e ▸ l.at.1
    · simp only [if_neg e] at hy
      exact Classical.byContradiction fun q => hy (hno y q)
  refine gP fun Gq hGq => ?_
  obtain ⟨oD, esD, epD, hoD, hdD, hcD⟩ := hn'.count wi
  refine hGq ?_
  clear hGq
  refine wpAny_bind (wpAny_lookBehind hoD (by rw [hdD]; exact pastItsLine_dict (by rw [sizeLine_is]; lia)) ?_)
  refine wpAny_pure (show PG c A I H UnitR (fun _ R => Q R) () _ from ⟨I, R', (), Sub.refl _, hs.upd (u.app H) (SameBut.at hk) ?_ _, trivial, h⟩)
  obtain ⟨o', ho', hm'⟩ := isNs1_of hn'
  refine ⟨o', ho', _, hm', l.at.2 nd hl r2, fun y hy => ?_⟩
  have : y ≠ name := fun e => hy (e ▸ l.at.1)
  simp only [if_neg this]
  exact hno y hy
/-- the class called -/
theorem Rm.make {A : Around} {n : Nat} (h : Rm A (n + 1)) (C : Addr) (rest : List Value) : Rm (A.under (.builtin "type.__call__" ⟨.ref C :: rest, []⟩)) n :=
  ⟨by have := h.depth; rw [depth_under_make]; lia, by have := h.units; show A.units + 1 + 8 * n < _; lia, h.handled⟩
theorem ca_new {f : Addr} {ds : List D} {nms : List Str} {n : Nat} (rm : Rm A (n + 1)) (ok : ∀ P, newOk (K P) C f = true)
    (h : ∀ A' x dx, Rm A' n → CalC c A' (.ref f) (.val (.ref x) :: ds) ((x, .inst C dx) :: (dx, .ats nms (List.replicate nms.length none)) :: R) (fun d R1 => d = .none ∧ Q (.val (.ref x)) R1) X) : Cal c A (.ref C) ds R Q X := by
  constructor
  intro I H s vals hs r
  refine gP fun Gq hGq => ?_
  obtain ⟨hh, g, d, t, os⟩ := s
  refine hGq ?_
  clear hGq
  have hX := hs.wd.kin.keeps hs.up
  have ok := ok c.w.params
  unfold newOk at ok
  simp only [Bool.and_eq_true, beq_iff_eq] at ok
  obtain ⟨⟨h1, h2⟩, h3⟩ := ok
  refine wpAny_call (make_core (makes_of hX h1) (looks_findIn hX h2) (fun self => bind_fn hX self h3) (.inl rfl) ?_)
  have hs1 := hs.push (o := emptyDict) (P := .ats nms (List.replicate nms.length none)) ⟨fun _ => none, ⟨#[], 0, rfl, fun e he => by simp at he, uniq_nil, fun _ => rfl⟩, by
    have : ∀ (l : List Str), Locs I (fun _ => none) l (List.replicate l.length none) := by
      intro l
      induction l with
      | nil => exact .nil
      | cons x r ih => exact .none rfl ih
    exact this nms, fun _ _ => rfl⟩ t
  have hs2 := hs1.push (o := instObj C hh.objs.size) (P := .inst C hh.objs.size) ⟨rfl, rfl, rfl⟩ t
  have e : (hh.push emptyDict).objs.size = hh.objs.size + 1 := Heap.size_push ..
  dsimp only at hs2
  rw [e] at hs2
  have hs3 := hs2.around (A' := A.under (.builtin "type.__call__" ⟨.ref C :: vals, []⟩)) rfl
  have z := (h _ _ _ (rm.make C vals)).run I H _ (.ref (hh.objs.size + 1) :: vals) hs3 (.cons (.val _) r)
  refine codeAny_mono z fun r s' y => ?_
  rcases r with e | (v | _ | _ | _)
  · refine gP fun Gq hGq => ?_
    obtain ⟨I', R', e, C', dx', tb, told, a, b, cc, dd⟩ := y
    refine hGq ?_
    clear hGq
    exact ⟨I', R', e, C', dx', tb, told, a, b, cc.around rfl, dd⟩
  · exact y
  · exact y
  · exact y
  · refine gP fun Gq hGq => ?_
    obtain ⟨I', R1, d, k, hs', rr, q0, q1⟩ := y
    refine hGq ?_
    clear hGq
    subst q0
    cases rr
    exact ⟨rfl, I', R1, _, k, hs'.around rfl, .val _, q1⟩
end
end Mine
end
section
open PySem PySem.W PySem.Calls PyProof.Rows
set_option Elab.async false
set_option tactic.hygienic false
set_option maxRecDepth 100000
set_option linter.unusedVariables false
set_option linter.unusedSectionVars false
namespace Mine

noncomputable def look {κ : Type} [DecidableEq κ] (kvs : List (κ × D)) (k : κ) : Option D := (kvs.find? fun kv => kv.1 = k).map (·.2)
noncomputable def put {κ : Type} [DecidableEq κ] (kvs : List (κ × D)) (k : κ) (d : D) : List (κ × D) :=
  if kvs.any (fun kv => kv.1 = k) then kvs.map (fun kv => if kv.1 = k then (kv.1, d) else kv) else kvs ++ [(k, d)]

section
variable {I : Heap} {κ : Type} [DecidableEq κ]
theorem RepKV.look {vs : List (κ × Value)} {kvs : List (κ × D)} (h : RepKV I vs kvs) (k : κ) : (∀ d, look kvs k = some d → ∃ v, valueAt vs k = some v ∧ Rep I v d) ∧ (look kvs k = none → valueAt vs k = none) := by
  induction h with
  | nil => exact ⟨fun d e => by simp [Mine.look] at e, fun _ => rfl⟩
  | @cons k' v d r s x _ ih =>
    unfold Mine.look valueAt at ih ⊢
    by_cases e : k' = k
    · subst e
      simp only [List.find?_cons, decide_true, Option.map_some]
      exact ⟨fun d' e => ⟨v, rfl, by cases e; exact x⟩, fun e => by cases e⟩
    · simp only [List.find?_cons, decide_eq_false e]
      exact ih
theorem RepKV.keys {vs : List (κ × Value)} {kvs : List (κ × D)} (h : RepKV I vs kvs) : vs.map (·.1) = kvs.map (·.1) := by
  induction h with
  | nil => rfl
  | cons x _ ih => simp [ih]
theorem RepKV.length {vs : List (κ × Value)} {kvs : List (κ × D)} (h : RepKV I vs kvs) : vs.length = kvs.length := by
  have := congrArg List.length h.keys; simpa using this
theorem RepKV.append {vs vs' : List (κ × Value)} {kvs kvs' : List (κ × D)} (h : RepKV I vs kvs) (h' : RepKV I vs' kvs') : RepKV I (vs ++ vs') (kvs ++ kvs') := by
  induction h with
  | nil => exact h'
  | cons x _ ih => exact .cons x ih
theorem RepKV.mapput {vs : List (κ × Value)} {kvs : List (κ × D)} {k : κ} {v : Value} {d : D} (h : RepKV I vs kvs) (r : Rep I v d) :
    RepKV I (vs.map fun kv => if kv.1 = k then (kv.1, v) else kv) (kvs.map fun kv => if kv.1 = k then (kv.1, d) else kv) := by
  induction h with
  | nil => exact .nil
  | @cons k2 v2 d2 r2 s2 x2 _ ih2 =>
    simp only [List.map_cons]
    by_cases e2 : k2 = k
    · simp only [e2, if_true]; exact .cons r ih2
    · simp only [e2, if_false]; exact .cons x2 ih2
theorem RepKV.put {vs : List (κ × Value)} {kvs : List (κ × D)} {k : κ} {v : Value} {d : D} (h : RepKV I vs kvs) (r : Rep I v d) : RepKV I (stored vs k v) (put kvs k d) := by
  have ek : ∀ (l : List (κ × Value)), (l.any fun kv => decide (kv.1 = k)) = (l.map (·.1)).any (fun x => decide (x = k)) := fun l => by rw [List.any_map]; rfl
  have ek' : ∀ (l : List (κ × D)), (l.any fun kv => decide (kv.1 = k)) = (l.map (·.1)).any (fun x => decide (x = k)) := fun l => by rw [List.any_map]; rfl
  unfold stored Mine.put
  rw [ek, ek', h.keys]
  split
  · exact h.mapput r
  · exact h.append (.cons r .nil)
theorem put_length (kvs : List (κ × D)) (k : κ) (d : D) : (put kvs k d).length ≤ kvs.length + 1 := by
  unfold put; split <;> simp
end

section
variable {c : Cx} {A : Around} {env : Env} {L : Addr} {sc : Scope} {ns : List Str} {vs vs' : List (Option D)} {gl : List (Str × D)} {R R0 R' : Led} {Q : D → Led → Prop} {X : Addr → D → Led → Prop} {a : Addr}

theorem St.noSys {I : Heap} {s : Shared} {P : Sh} (hs : St c A I R s) (m : Has (a, P) R) : (a == sysModules) = false := by
  rw [beq_eq_false_iff_ne]
  rintro rfl
  have h1 := hs.own.out _ m.mem
  have h2 : (K c.w.params).lookup sysModules = some _ := rfl
  have h3 := hs.wd.kin _ _ h2
  rw [show I.get? sysModules = none from h1] at h3; cases h3

/-- a kind of key -/
structure KK (κ : Type) [DecidableEq κ] where
  knd : ∀ w : World, KeyKind prog w κ
  val : κ → D
  sh : List (κ × D) → Sh
  isk : ∀ {w I v k}, Rep I v (val k) → (knd w).is k v = true
  meets : ∀ {w I kvs o}, Meets w I (sh kvs) o ↔ ∃ vs, dictO (knd w) vs o ∧ RepKV I vs kvs
  noLoc : ∀ kvs, (sh kvs).isLoc = false
noncomputable def kS : KK Str := ⟨fun w => strKind prog w, .str, .dictS, fun r => by (first | obtain ⟨_, rfl⟩ := Rep.iI r | obtain ⟨_, rfl⟩ := Rep.sI r | obtain rfl := Rep.vI r | obtain rfl := Rep.bI r | obtain rfl := Rep.nI r | cases r); show (_ == _) = true; simp, Iff.rfl, fun _ => rfl⟩
noncomputable def kI : KK Int := ⟨fun w => intKind prog w, .int, .dictI, fun r => by (first | obtain ⟨_, rfl⟩ := Rep.iI r | obtain ⟨_, rfl⟩ := Rep.sI r | obtain rfl := Rep.vI r | obtain rfl := Rep.bI r | obtain rfl := Rep.nI r | cases r); show (_ == _) = true; simp, Iff.rfl, fun _ => rfl⟩

section
variable {κ : Type} [DecidableEq κ] {kk : KK κ} {kvs : List (κ × D)} {k : κ} {d : D}
theorem KK.at {I : Heap} {s : Shared} (hs : St c A I R s) (m : Has (a, kk.sh kvs) R) : ∃ vs, s.heap.DictOf (kk.knd c.w) a vs ∧ RepKV I vs kvs := by
  obtain ⟨o, ho, h⟩ := hs.get m
  obtain ⟨vs, h1, h2⟩ := kk.meets.mp h
  exact ⟨vs, dictOf_iff.mpr ⟨o, ho, h1⟩, h2⟩
theorem KK.set {I : Heap} {s : Shared} {h' : Heap} {vs : List (κ × Value)} {kvs' : List (κ × D)} (hs : St c A I R s) (u : Upd a (kk.sh kvs) (kk.sh kvs') R R') (h1 : h'.DictOf (kk.knd c.w) a vs) (h2 : Heap.SameBut a s.heap h') (r : RepKV I vs kvs') (t : Nat) :
    St c A I R' { s with heap := h', toks := t } := by
  obtain ⟨o, ho, hd⟩ := dictOf_iff.mp h1
  exact hs.upd u (SameBut.at h2) ⟨o, ho, kk.meets.mpr ⟨vs, hd, r⟩⟩ t (by rw [kk.noLoc]; intro e; cases e)
theorem ev_dict0 {pos} (h : ∀ a, Q (.val (.ref a)) ((a, kk.sh []) :: R)) : Ev c A env (.Dict [] [] pos) R Q X := .mk fun I H s hs =>
  wpAny_Dict_empty ⟨I, _, _, Sub.refl _, hs.push (P := kk.sh []) (kk.meets.mpr ⟨[], ⟨#[], 0, ⟨rfl, rfl, rfl⟩, rfl, (fun e he => by simp at he), .nil, List.nodup_nil⟩, .nil⟩) s.toks, .val _, h _⟩
theorem si_dict {Q : Led → Prop} (u : Upd a (kk.sh kvs) (kk.sh (put kvs k d)) R R') (hz : kvs.length ≤ 1000) (h : Q R') : SetI c A (.val (.ref a)) (kk.val k) d R Q X := .mk fun I H s ov iv vv hs r1 r2 r3 => by
  (first | obtain ⟨_, rfl⟩ := Rep.iI r1 | obtain ⟨_, rfl⟩ := Rep.sI r1 | obtain rfl := Rep.vI r1 | obtain rfl := Rep.bI r1 | obtain rfl := Rep.nI r1 | cases r1)
  obtain ⟨vs, h1, h2⟩ := KK.at hs (u.has.app H)
  exact wpAny_setItem_pairs (kk.isk r2) h1 (fun h' h3 h4 => ⟨I, R', (), Sub.refl _, KK.set hs (u.app H) h3 h4 (h2.put r3) _, trivial, h⟩) (by rw [h2.length, sizeLine_is]; lia)
theorem su_dict {value slice : Expr} (m : Has (a, kk.sh kvs) R) (hl : look kvs k = some d) (h : Q d R)
    (hs : ∀ o i, subscripted slice false o i = operate [o, i] (getItem o i) := by intro _ _; rfl) : Sub2 c A value slice (.val (.ref a)) (kk.val k) R Q X := .mk fun I H s _ _ hst r1 r2 => by
  (first | obtain ⟨_, rfl⟩ := Rep.iI r1 | obtain ⟨_, rfl⟩ := Rep.sI r1 | obtain rfl := Rep.vI r1 | obtain rfl := Rep.bI r1 | obtain rfl := Rep.nI r1 | cases r1)
  obtain ⟨vs, h1, h2⟩ := KK.at hst (m.app H)
  obtain ⟨v, hv, r⟩ := (h2.look k).1 d hl
  exact tail_any h1.typeIs slot_dict_getitem.lookup (wpAny_getItem_of (kk.isk r2) h1.mapOf hv ⟨I, R, d, Sub.refl _, hst.toks _, r, h⟩) (hs _ _)
theorem cm_in (m : Has (a, kk.sh kvs) R) (h : Q (.bool (look kvs k).isSome) R) : Cmp c A .In (kk.val k) (.val (.ref a)) R Q X := .mk fun I H s _ _ hs r1 r2 => by
  (first | obtain ⟨_, rfl⟩ := Rep.iI r2 | obtain ⟨_, rfl⟩ := Rep.sI r2 | obtain rfl := Rep.vI r2 | obtain rfl := Rep.bI r2 | obtain rfl := Rep.nI r2 | cases r2)
  obtain ⟨vs, h1, h2⟩ := KK.at hs (m.app H)
  refine wpAny_in_of (kk.isk r1) (hs.noSys (m.app H)) h1.mapOf ⟨I, R, _, Sub.refl _, hs.toks _, .bool _, ?_⟩
  have := h2.look k
  cases q : look kvs k with
  | none => rw [this.2 q]; rw [q] at h; exact h
  | some d => obtain ⟨v, hv, _⟩ := this.1 d q; rw [hv]; rw [q] at h; exact h
theorem cm_notin (m : Has (a, kk.sh kvs) R) (h : Q (.bool (!(look kvs k).isSome)) R) : Cmp c A .NotIn (kk.val k) (.val (.ref a)) R Q X := .mk fun I H s _ _ hs r1 r2 => by
  (first | obtain ⟨_, rfl⟩ := Rep.iI r2 | obtain ⟨_, rfl⟩ := Rep.sI r2 | obtain rfl := Rep.vI r2 | obtain rfl := Rep.bI r2 | obtain rfl := Rep.nI r2 | cases r2)
  obtain ⟨vs, h1, h2⟩ := KK.at hs (m.app H)
  refine wpAny_notIn_of (kk.isk r1) (hs.noSys (m.app H)) h1.mapOf ⟨I, R, _, Sub.refl _, hs.toks _, .bool _, ?_⟩
  have := h2.look k
  cases q : look kvs k with
  | none => rw [this.2 q]; rw [q] at h; exact h
  | some d => obtain ⟨v, hv, _⟩ := this.1 d q; rw [hv]; rw [q] at h; exact h
theorem gm_dict {name : Str} {id : String} (m : Has (a, kk.sh kvs) R) (slot : Slot "dict" name id) (hty : typeOf (.builtin id) = pure (.type "method_descriptor")) (pa : PlainAttrs "dict") : GetM c (.val (.ref a)) name R (.builtin id) := by
  intro A I H s v pl Z E hs r hz
  (first | obtain ⟨_, rfl⟩ := Rep.iI r | obtain ⟨_, rfl⟩ := Rep.sI r | obtain rfl := Rep.vI r | obtain rfl := Rep.bI r | obtain rfl := Rep.nI r | cases r)
  obtain ⟨vs, h1, h2⟩ := KK.at hs (m.app H)
  refine gP fun Gq hGq => ?_
  obtain ⟨o, es, ep, ho, he, _⟩ := h1
  refine hGq ?_
  clear hGq
  exact getMethod_builtin ⟨o, ho, he.1⟩ pa slot hty (fun b e => by cases e; exact ⟨_, ho, he.2.1⟩) hz
theorem ca_get (m : Has (a, kk.sh kvs) R) (h : Q ((look kvs k).getD .none) R) : Cal c A (.builtin "dict.get") [.val (.ref a), kk.val k] R Q X := .mk fun I H s _ hs r => by
  obtain ⟨_, _, rfl, r1, rs⟩ := Reps.consI r
  obtain ⟨_, _, rfl, r2, rs⟩ := Reps.consI rs
  obtain rfl := Reps.nilI rs; (first | obtain ⟨_, rfl⟩ := Rep.iI r1 | obtain ⟨_, rfl⟩ := Rep.sI r1 | obtain rfl := Rep.vI r1 | obtain rfl := Rep.bI r1 | obtain rfl := Rep.nI r1 | cases r1)
  obtain ⟨vs, h1, h2⟩ := KK.at hs (m.app H)
  refine call_meetsIn PySem.F.slot_dict_get h1.typeIs PySem.F.entry_dict_get (PySem.F.args_dict_get_2 _ _) (meets_dict_get (kk.knd c.w) a (kk.isk r2) (hs.noSys (m.app H))) ⟨_, h1.mapOf, ?_⟩
  have := h2.look k
  refine ⟨I, R, _, Sub.refl _, hs.toks _, ?_, h⟩
  cases q : look kvs k with
  | none => rw [this.2 q]; exact .none
  | some d => obtain ⟨v, hv, r⟩ := this.1 d q; rw [hv]; exact r
end
end
end Mine
end
section
open PySem PySem.W PySem.Calls PyProof.Rows
set_option Elab.async false
set_option tactic.hygienic false
set_option maxRecDepth 100000
set_option linter.unusedVariables false
set_option linter.unusedSectionVars false
namespace Mine
/-- nothing is raised -/
noncomputable def NoX : Addr → D → Led → Prop := fun _ _ _ => False
section
variable {c : Cx} {A : Around} {env : Env} {L : Addr} {sc : Scope} {ns : List Str} {vs vs' : List (Option D)} {gl : List (Str × D)} {R R0 R' : Led} {Q : D → Led → Prop} {X : Addr → D → Led → Prop} {a : Addr}

theorem PX.no {I : Heap} {H : Led} {v : Value} {s : Shared} {P : Prop} (h : PX c A I H NoX v s) : P := by
  obtain ⟨_, _, _, _, _, _, _, _, _, _, x⟩ := h; exact x.elim

theorem compLoop_any {elt target iter : Expr} {ifs : List Expr} {scope : Scope} {pos : Pos} {it acc : Value} {env : Env} {Rr : Result → Shared → Prop} (J : Nat → Shared → Prop)
    (turn : ∀ n s, J n s → wpAny c.M A (pyNext it) (fun r s₁ => match r with
      | none => Rr (.ok .next) s₁
      | some v => wpAny c.M A (letOwnedTupleGo target it v) (fun _ s₁' => wpAny c.M A (assign target env v) (fun _ s₂ =>
          wpAny c.M A (forIn ifs true fun c r => if r = true then do let ok ← isTrue c env (eval c env); pure (ForInStep.yield ok) else pure (ForInStep.yield r)) (fun ok s₃ =>
            if ok = true then wpAny c.M A (eval elt env) (fun x s₄ => wpAny c.M A (call (.builtin "list.append") [acc, x]) (fun _ s₅ => ∃ m, m < n ∧ J m s₅) (fun _ _ => False) s₄) (fun _ _ => False) s₃
            else ∃ m, m < n ∧ J m s₃) (fun _ _ => False) s₂) (fun _ _ => False) s₁') (fun _ _ => False) s₁) (fun _ _ => False) s)
    (n : Nat) (s : Shared) (h : J n s) : codeAny c.M A (.compLoop (.ListComp elt [⟨target, iter, ifs, 0⟩] scope pos) 0 it acc env) Rr s := by
  refine codeAny_loop rfl J (fun n s hI => ?_) n h
  show wpAny _ A ((compTurn (.ListComp elt [⟨target, iter, ifs, 0⟩] scope pos) 0 it acc env).onRaise (fun x => do noteFrame x env; theTreesLotGoes x)) _ _ s
  refine wpAny_noted ?_
  rw [compTurn_list]
  refine wpAny_bind (wpAny_standAt (wpAny_bind (wpAny_mono (turn n s hI) (fun r s₁ h₁ => ?_) fun _ _ h' => h'.elim)))
  cases r with
  | none => exact wpAny_pure h₁
  | some v =>
    refine wpAny_bind (wpAny_mono h₁ (fun _ s₁' h₁' => ?_) fun _ _ h' => h'.elim)
    refine wpAny_bind (wpAny_mono h₁' (fun _ s₂ h₂ => ?_) fun _ _ h' => h'.elim)
    refine wpAny_bind (wpAny_mono h₂ (fun ok s₃ h₃ => ?_) fun _ _ h' => h'.elim)
    cases ok with
    | true =>
      rw [if_pos rfl] at h₃
      simp only [if_true]
      exact wpAny_bind (wpAny_bind (wpAny_mono h₃ (fun x s₄ h₄ => wpAny_bind (wpAny_mono h₄ (fun _ s₅ h₅ => wpAny_pure (wpAny_pure ⟨rfl, h₅⟩)) fun _ _ h' => h'.elim)) fun _ _ h' => h'.elim))
    | false =>
      rw [if_neg (by simp)] at h₃
      simp only [Bool.false_eq_true, if_false]
      exact wpAny_pure ⟨rfl, h₃⟩

theorem NewL.of {I : Heap} {H : Led} {s : Shared} {ds : List D} (hs : St c A I ((a, .list ds) :: (R ++ H)) s) (h : NewL Q ds R) : PG c A I H Rep Q (.ref a) s := by
  rcases h with h | h
  · refine gP fun Gq hGq => ?_
    obtain ⟨I', k, hs', o, ho, vs, n, rfl, y⟩ := hs.freeze rfl
    refine hGq ?_
    clear hGq
    exact ⟨I', R, _, k, hs', .lst _ vs ds ⟨_, ho, rfl, n, rfl⟩ y, h⟩
  · exact ⟨I, _, _, Sub.refl _, hs, .val _, h _⟩

/-- the tests of a comprehension: none, or one -/
noncomputable def Tests (c : Cx) (A : Around) (env : Env) (ifs : List Expr) (R : Led) (Q : Bool → Led → Prop) : Prop :=
  match ifs with
  | [] => Q true R
  | [t] => Tst c A env t R Q NoX
  | _ => False
theorem tests_run {ifs : List Expr} {I : Heap} {H : Led} {s : Shared} {Qb : Bool → Led → Prop} (h : Tests c A env ifs R Qb) (hs : St c A I (R ++ H) s) :
    Run c A I H (forIn ifs true fun c r => if r = true then do let ok ← isTrue c env (eval c env); pure (ForInStep.yield ok) else pure (ForInStep.yield r)) (fun _ b b' => b = b') Qb NoX s := by
  match ifs, h with
  | [], h => exact wpAny_tests_nil ⟨I, R, true, Sub.refl _, hs, rfl, h⟩
  | [t], h => exact wpAny_tests_one (h.run I H s hs)

noncomputable def compNs (scope : Scope) (cns : List Str) (cl : List (Str × Addr)) (env : Env) (gl : List (Str × D)) : Prop :=
  (∀ C, FE (compEnvC scope cl C env) C cns gl)
/-- the state of a comprehension's own names: some values -/
noncomputable def CLoc (C : Addr) (cns : List Str) (P : Led → Prop) (R : Led) : Prop := ∃ cvs R', cvs.length = cns.length ∧ Rem (C, .loc cns cvs) R R' ∧ P R'
theorem Upd.pre {a : Addr} {P P' : Sh} {R R' : Led} (u : Upd a P P' R R') : ∀ S : Led, Upd a P P' (S ++ R) (S ++ R')
  | [] => u
  | _ :: S => .tail (Upd.pre u S)
theorem Has.pre {e : Ent} {R : Led} (u : Has e R) : ∀ S : Led, Has e (S ++ R)
  | [] => u
  | _ :: S => .tail (Has.pre u S)
theorem St.forget {I I0 : Heap} {s s0 : Shared} {C : Addr} {sh : Sh} {h' : Heap} {R0 R : Led} (hs : St c A I ((C, sh) :: R) s) (hs0 : St c A I0 R0 s0) (hn : s0.heap.get? C = none) (k : ∀ b o, b ≠ C → s.heap.get? b = some o → h'.get? b = some o) : St c A I R { s with heap := h' } := by
  have hnot : C ∉ R0.map (·.1) := fun m => by
    obtain ⟨p, hp, q⟩ := List.mem_map.mp m
    obtain ⟨o, ho, _⟩ := hs0.own.has p hp
    rw [q, hn] at ho; cases ho
  have nC : ∀ p ∈ R, p.1 ≠ C := fun p hp e => (List.nodup_cons.mp hs.own.nd).1 (List.mem_map.mpr ⟨p, hp, e⟩)
  refine ⟨⟨fun b o e => k b o (fun q => ?_) (hs.own.sub b o e), fun p hp => ?_, fun p hp => hs.own.out p (.tail _ hp), (List.nodup_cons.mp hs.own.nd).2⟩, hs.wd, hs.gens, hs.drawn, hs.os, ?_⟩
  · have := hs.own.out _ (.head _)
    rw [q, this] at e; cases e
  · obtain ⟨o, ho, q⟩ := hs.own.has p (.tail _ hp)
    exact ⟨o, k _ _ (nC p hp) ho, q⟩
  · obtain ⟨fs, e, h⟩ := hs0.fr
    obtain ⟨fs', e', h'⟩ := hs.fr
    obtain rfl : fs' = fs := by rw [e] at e'; exact (Option.some.inj e').symm
    refine ⟨fs', e, fun x hx => ?_⟩
    refine gP fun Gq hGq => ?_
    obtain ⟨a, L1, n1, v1, b1, d1⟩ := h x hx
    refine hGq ?_
    clear hGq
    refine gP fun Gq hGq => ?_
    obtain ⟨_, L2, n2, v2, b2, d2⟩ := h' x hx
    refine hGq ?_
    clear hGq
    rw [b1] at b2; cases b2
    refine ⟨a, L1, n2, v2, b1, ?_⟩
    rcases List.mem_cons.mp d2 with q | q
    · obtain ⟨rfl, _⟩ := Prod.mk.inj q
      exact absurd (List.mem_map_of_mem (f := (·.1)) d1) hnot
    · exact q
theorem iter_self {I : Heap} {s : Shared} {it : Addr} {d : D} {i : Nat} {Z : Value → Shared → Prop} {E : Value → Shared → Prop} (hs : St c A I R s) (u : Has (it, .it d i) R) (h : Z (.ref it) s) : wpAny c.M A (pyIter (.ref it)) Z E s := by
  obtain ⟨o, ho, m⟩ := hs.get u
  cases m with
  | lst a b c1 d1 => exact wpAny_pyIter_listiter ⟨o, ho, c1, d1⟩ h
  | tup a b c1 d1 => exact wpAny_pyIter_tupleiter ⟨o, ho, c1, d1⟩ h
  | rng e => subst e; exact wpAny_pyIter_rangeiter ho h
  | str a b d1 => rcases a with rfl | rfl <;> first | exact wpAny_pyIter_striter_ascii ⟨o, ho, b, d1⟩ h | exact wpAny_pyIter_striter_wide ⟨o, ho, b, d1⟩ h
  | bytes e c1 d1 => exact KBw.pyIter_self ⟨o, ho, c1, d1⟩ h
/-- what the turns of a comprehension do -/
noncomputable def CTurn (c : Cx) (A : Around) (env : Env) (target elt : Expr) (ifs : List Expr) (scope : Scope) (cl : List (Str × Addr)) (cns : List Str) (items : List D) (J : Nat → List D → Led → Prop) : Prop :=
  ∀ i x acc R2 cvs C, items[i]? = some x → J i acc R2 → acc.length ≤ i → cvs.length = cns.length → Asg c A (compEnvC scope cl C env) target x ((C, .loc cns cvs) :: R2) (fun R3 =>
    Tests c A (compEnvC scope cl C env) ifs R3 (fun b R4 => (b = true → Ev c A (compEnvC scope cl C env) elt R4 (fun d => CLoc C cns (J (i + 1) (acc ++ [d]))) NoX) ∧ (b = false → CLoc C cns (J (i + 1) acc) R4))) NoX
theorem comp_run {elt target iter : Expr} {ifs : List Expr} {scope : Scope} {pos : Pos} {cl : List (Str × Addr)} {cns : List Str} {items : List D} {J : Nat → List D → Led → Prop} {d : D} {I : Heap} {H R1 : Led} {it D' C : Addr} {s : Shared} {cvs : List (Option D)}
    (hh : A.handled = none) (hi : Items d items) (hlen : items.length ≤ 100000) (turn : CTurn c A env target elt ifs scope cl cns items J) (j0 : J 0 [] R1) (hcvs : cvs.length = cns.length)
    (hs : St c A I (((C, .loc cns cvs) :: R1) ++ ((it, .it d 0) :: (D', .list []) :: H)) s) (Rr : Result → Shared → Prop)
    (fin : ∀ I2 acc R2 cvs s4, Sub I I2 → J items.length acc R2 → St c A I2 ((C, .loc cns cvs) :: (D', .list acc) :: (R2 ++ H)) s4 → Rr (.ok .next) s4) :
    codeAny c.M A (.compStart (.ListComp elt [⟨target, iter, ifs, 0⟩] scope pos) 0 (.ref it) (.ref D') (compEnvC scope cl C env)) Rr s := by
  have main : codeAny c.M A (.compLoop (.ListComp elt [⟨target, iter, ifs, 0⟩] scope pos) 0 (.ref it) (.ref D') (compEnvC scope cl C env)) Rr s := by
    refine opq (fun (n : Nat) (s : Shared) => ∃ I2 R2 acc i cvs, Sub I I2 ∧ cvs.length = cns.length ∧ St c A I2 (((C, .loc cns cvs) :: R2) ++ ((it, .it d i) :: (D', .list acc) :: H)) s ∧ J i acc R2 ∧ acc.length ≤ i ∧ i ≤ items.length ∧ n = items.length - i) fun Z hZ => ?_
    refine compLoop_any Z (fun n s3 zz => ?_) items.length s ((hZ _ _).mpr ⟨I, R1, [], 0, cvs, Sub.refl _, hcvs, hs, j0, Nat.le_refl _, Nat.zero_le _, rfl⟩)
    refine gP fun G hG => ?_
    obtain ⟨I2, R2, acc, i, cvs, k2, hc, hs3, j, hal, le, en⟩ := (hZ _ _).mp zz
    refine hG ?_
    clear hG G zz
    rcases Nat.lt_or_ge i items.length with lt | ge
    · refine next_ok hs3 (R' := ((C, .loc cns cvs) :: R2) ++ ((it, .it d (i + 1)) :: (D', .list acc) :: H)) (Upd.pre .head _) hi (x := items[i]) (List.getElem?_eq_getElem lt) fun v s4 r4 hs4 => ?_
      refine letOwned hs4 (Has.pre .head _) ?_
      refine ((turn i _ acc R2 cvs C (List.getElem?_eq_getElem lt) j hal hc).run I2 _ s4 v hs4 r4).andE (fun e s x => x.no) fun I3 R3 _ _ s5 k3 hs5 _ q => ?_
      refine (tests_run q hs5).andE (fun e s x => x.no) fun I4 R4 b b' s6 k4 hs6 r6 q6 => ?_
      subst r6
      cases b' with
      | false =>
        rw [if_neg (by simp)]
        refine gP fun Gq hGq => ?_
        obtain ⟨cvs', R', hc', hrem, j'⟩ := q6.2 rfl
        refine hGq ?_
        clear hGq
        exact ⟨items.length - (i + 1), by lia, (hZ _ _).mpr ⟨I4, R', acc, i + 1, cvs', (k2.trans k3).trans k4, hc', hs6.perm (hrem.app _).perm, j', by lia, lt, rfl⟩⟩
      | true =>
        rw [if_pos rfl]
        refine ((q6.1 rfl).run I4 _ s6 hs6).andE (fun e s x => x.no) fun I5 R5 d5 v5 s7 k5 hs7 r7 zz => ?_
        refine gP fun Gq hGq => ?_
        obtain ⟨cvs', R', hc', hrem, j'⟩ := zz
        refine hGq ?_
        clear hGq
        have p1 : (R5 ++ ((it, .it d (i + 1)) :: (D', .list acc) :: H)).Perm ([(D', .list acc)] ++ (((C, .loc cns cvs') :: R') ++ ((it, .it d (i + 1)) :: H))) := by
          refine (hrem.app _).perm.trans ?_
          have : ((C, Sh.loc cns cvs') :: (R' ++ (it, Sh.it d (i + 1)) :: (D', Sh.list acc) :: H)).Perm ((D', Sh.list acc) :: ((C, Sh.loc cns cvs') :: (R' ++ (it, Sh.it d (i + 1)) :: H))) := by
            refine List.Perm.trans ?_ (List.Perm.swap _ _ _)
            refine List.Perm.cons _ ?_
            refine List.Perm.trans (List.Perm.append_left R' (List.Perm.swap _ _ _)) List.perm_middle
          exact this
        refine ((ca_append (c := c) (A := A) (X := NoX) (R := [(D', .list acc)]) (R' := [(D', .list (acc ++ [d5]))]) (Q := fun d R => R = [(D', .list (acc ++ [d5]))]) (x := d5) .head (by rw [sizeLine_is]; lia) rfl).run I5 _ s7 [.ref D', v5] (hs7.perm p1) (.cons (.val _) (.cons r7 .nil))).andE (fun e s x => x.no) fun I6 R6 d6 v6 s8 k6 hs8 _ q8 => ?_
        subst q8
        refine ⟨items.length - (i + 1), by lia, (hZ _ _).mpr ⟨I6, R', acc ++ [d5], i + 1, cvs', ((k2.trans k3).trans (k4.trans k5)).trans k6, hc', hs8.perm ?_, j', by simp; lia, lt, rfl⟩⟩
        have : ((D', Sh.list (acc ++ [d5])) :: ((C, Sh.loc cns cvs') :: (R' ++ (it, Sh.it d (i + 1)) :: H))).Perm ((C, Sh.loc cns cvs') :: (R' ++ (it, Sh.it d (i + 1)) :: (D', Sh.list (acc ++ [d5])) :: H)) := by
          refine (List.Perm.swap _ _ _).trans (List.Perm.cons _ ?_)
          exact List.Perm.trans List.perm_middle.symm (List.Perm.append_left R' (List.Perm.swap _ _ _))
        exact this
    · obtain rfl : i = items.length := by lia
      have p1 : (((C, .loc cns cvs) :: R2) ++ ((it, .it d items.length) :: (D', .list acc) :: H)).Perm ((it, Sh.it d items.length) :: ((C, Sh.loc cns cvs) :: (D', Sh.list acc) :: (R2 ++ H))) := by
        refine List.perm_middle.trans (List.Perm.cons _ ?_)
        exact List.Perm.cons _ List.perm_middle
      exact next_end hh (hs3.perm p1) hi (Nat.le_refl _) fun s4 hs4 => fin I2 acc R2 cvs s4 k2 j hs4
  exact codeAny_compStart_list main (iter_self hs (Has.pre .head _) main)

theorem comp_open {elt target iter : Expr} {ifs : List Expr} {scope : Scope} {pos ppos : Pos} {cl : List (Str × Addr)} {cns : List Str} {use : Option (Value → Sem Unit)} {Qv : Value → Shared → Prop} {I : Heap} {H : Led} {s : Shared} (hh : A.handled = none)
    (hclos : closureFor scope env = pure cl) (hkind : scope.kind = .function) (hnames : ∀ x ∈ scope.names, x.2 = .local → scope.names.lookup x.1 = some .local) (hcell : ∀ x ∈ scope.names, x.2 ≠ .cell)
    {Qd : List D → Led → Prop} (hbui : env.builtins = builtinsNs)
    (h : Ev c A env iter R (fun d R1 => ∃ items, Items d items ∧ items.length ≤ 100000 ∧ ∃ J : Nat → List D → Led → Prop, J 0 [] R1 ∧ CTurn c A env target elt ifs scope cl cns items J ∧ (∀ acc R2, J items.length acc R2 → Qd acc R2)) X)
    (hf : ∀ env x, foldedSetIterable iter env x = pure x) (hs : St c A I (R ++ H) s)
    (fin : ∀ I0 R0 I2 acc R2 cvs s0 s4 C D', Sub I I2 → St c A I0 R0 s0 → s0.heap.get? C = none → Qd acc R2 → St c A I2 ((C, .loc cns cvs) :: (D', .list acc) :: (R2 ++ H)) s4 → compPost c.M A (PX c A I H X) use Qv (.ref D') C (.ok .next) s4) :
    wpAny c.M A (comprehension (.ListComp elt [⟨target, iter, ifs, 0⟩] scope pos) scope env ppos (newList []) false (eval iter env) use) Qv (PX c A I H X) s := by
  refine wpAny_comprehension_free (g := ⟨target, iter, ifs, 0⟩) (gs := []) rfl (hf env) hclos hkind hnames ?_
  refine (h.run I H s hs).and (Sub.refl _) fun I1 R1 d v s1 _ k1 hs1 r1 zz => ?_
  refine gP fun Gq hGq => ?_
  obtain ⟨items, hi, hlen, J, j0, turn, done⟩ := zz
  refine hGq ?_
  clear hGq
  refine iter_ok hs1 r1 hi fun it s2 hs2 => ?_
  refine wpAny_newObj_type (wpAny_newFunctionEnv hcell (by intro y hy; simp at hy) (fun h₁ hns₁ hsb₁ => ?_) hkind)
  have hs3 := hs2.push (o := { cls := .type "list", data := .seq ([] : List Value).toArray }) (P := .list []) ⟨#[], 0, rfl, .nil⟩ s2.toks
  have none_locs : ∀ (l : List Str), Locs I1 (fun _ => none) l (List.replicate l.length none) := by
    intro l
    induction l with
    | nil => exact .nil
    | cons x r ih => exact .none rfl ih
  have hs4 : St c A I1 (((s2.heap.push { cls := .type "list", data := .seq ([] : List Value).toArray }).objs.size, .loc cns (List.replicate cns.length none)) :: (s2.heap.objs.size, .list []) :: (it, .it d 0) :: (R1 ++ H)) { s2 with heap := h₁, toks := s2.toks + 0 } := by
    refine hs3.extNew (h' := h₁) (fun b o e => ?_) (none_at_size _) ?_ _
    · refine hsb₁.extBut b o (fun q => ?_) (Heap.get?_push_of_some _ e)
      have := Heap.lt_size e
      rw [q] at this; exact Nat.lt_irrefl _ this
    · obtain ⟨o', ho', hm'⟩ := isNs_of hns₁
      exact ⟨o', ho', _, hm', none_locs cns⟩
  have hnone := none_at_size (s2.heap.push { cls := .type "list", data := .seq ([] : List Value).toArray })
  refine comp_run (cvs := List.replicate cns.length none) hh hi hlen turn j0 (by simp) (hs4.perm ?_) _ fun I2 acc R2 cvs s4 k2 j hs5 => fin _ _ I2 acc R2 cvs _ s4 _ _ (k1.trans k2) hs3 hnone (done _ _ j) hs5
  refine List.Perm.cons _ ?_
  refine (List.Perm.swap _ _ _).trans ?_
  refine List.Perm.trans (List.Perm.cons _ List.perm_middle.symm) ?_
  exact List.perm_middle.symm

/-- a comprehension's own conditions -/
structure CompOk (scope : Scope) (env : Env) (cl : List (Str × Addr)) : Prop where
  clos : closureFor scope env = pure cl
  kind : scope.kind = .function
  names : ∀ x ∈ scope.names, x.2 = .local → scope.names.lookup x.1 = some .local
  cell : ∀ x ∈ scope.names, x.2 ≠ .cell
theorem ev_comp {elt target iter : Expr} {ifs : List Expr} {scope : Scope} {pos : Pos} (cl : List (Str × Addr)) (cns : List Str) (hh : A.handled = none) (fe : FE env L ns gl) (ok : CompOk scope env cl)
    (h : Ev c A env iter R (fun d R1 => ∃ items, Items d items ∧ items.length ≤ 100000 ∧ ∃ J : Nat → List D → Led → Prop, J 0 [] R1 ∧ CTurn c A env target elt ifs scope cl cns items J ∧ (∀ acc R2, J items.length acc R2 → NewL Q acc R2)) X)
    (hf : ∀ env x, foldedSetIterable iter env x = pure x := by intro _ _; rfl) : Ev c A env (.ListComp elt [⟨target, iter, ifs, 0⟩] scope pos) R Q X := .mk fun I H s hs => by
  rw [arm_eval_ListComp]
  refine comp_open (cns := cns) hh ok.clos ok.kind ok.names ok.cell (Qd := NewL Q) fe.bui h hf hs fun I0 R0 I2 acc R2 cvs s0 s4 C D' k hs0 hn q hs4 => ?_
  refine gP fun Gq hGq => ?_
  obtain ⟨o, ho, m, hm, _⟩ := hs4.get .head
  refine hGq ?_
  clear hGq
  exact ⟨m, ns_of ⟨o, ho, hm⟩, fun h' hsb => PG.sub (NewL.of (hs4.forget hs0 hn (SameBut.at hsb)) q) k⟩
theorem sx_comp {elt target iter : Expr} {ifs : List Expr} {scope : Scope} {pos pos' spos : Pos} {y : Str} {Q : Fl → Led → Prop} (cl : List (Str × Addr)) (cns : List Str) (hh : A.handled = none) (fe : FE env L ns gl) (ok : CompOk scope env cl)
    (h : Ev c A env iter R (fun d R1 => ∃ items, Items d items ∧ items.length ≤ 100000 ∧ ∃ J : Nat → List D → Led → Prop, J 0 [] R1 ∧ CTurn c A env target elt ifs scope cl cns items J ∧ (∀ acc R2, J items.length acc R2 → NewL (fun d R3 => Sto L ns y d R3 (Q .next)) acc R2)) X)
    (hsw : swapsWith (.ListComp elt [⟨target, iter, ifs, 0⟩] scope pos) (some (.Name y pos')) spos.line env = pure true)
    (hf : ∀ env x, foldedSetIterable iter env x = pure x := by intro _ _; rfl) : Sx c A env (.Assign [.Name y pos'] (.ListComp elt [⟨target, iter, ifs, 0⟩] scope pos) spos) R Q X := .mk fun I H s hs => by
  rw [exec_Assign_Name_used _ _ _ _ hsw]
  refine wpAny_bind (wpAny_standAt (wpAny_bind ?_))
  show wpAny _ A (do let _ ← comprehension (.ListComp elt [⟨target, iter, ifs, 0⟩] scope pos) scope env _ (newList []) false (eval iter env) (some (assign (.Name y pos') env))) _ _ s
  refine wpAny_bind (wpAny_mono (comp_open (cns := cns) (Qv := fun _ s' => PG c A I H RelF Q .next s') hh ok.clos ok.kind ok.names ok.cell (Qd := NewL (fun d R3 => Sto L ns y d R3 (Q .next))) fe.bui h hf hs fun I0 R0 I2 acc R2 cvs s0 s4 C D' k hs0 hn q hs4 => ?_) (fun _ s' hq => wpAny_pure (wpAny_pure hq)) fun _ _ e => e)
  show wpAny _ A (assign (.Name y pos') env (.ref D')) _ _ _
  have fin : ∀ I3 (d : D) R3, Sub I2 I3 → St c A I3 ((C, .loc cns cvs) :: (R3 ++ H)) s4 → Rep I3 (.ref D') d → Sto L ns y d R3 (Q .next) → wpAny c.M A (assign (.Name y pos') env (.ref D')) (fun _ s'' => ∃ m, s''.heap.Ns C m ∧ ∀ h', Heap.SameBut C s''.heap h' → PG c A I H RelF Q .next { s'' with heap := h' }) (PX c A I H X) s4 := by
    intro I3 d R3 k3 hs5 r ⟨vs, vs', R4, u, hl, qq⟩
    refine wpAny_assign_Name (store_loc (R' := (C, .loc cns cvs) :: R4) fe (.tail u) hl hs5 r fun s5 hs6 => ?_)
    refine gP fun Gq hGq => ?_
    obtain ⟨o, ho, m, hm, _⟩ := hs6.get .head
    refine hGq ?_
    clear hGq
    exact ⟨m, ns_of ⟨o, ho, hm⟩, fun h' hsb => ⟨I3, R4, .next, k.trans k3, hs6.forget hs0 hn (SameBut.at hsb), .next, qq⟩⟩
  rcases q with q | q
  · have hs5 : St c A I2 ((D', .list acc) :: ((C, .loc cns cvs) :: (R2 ++ H))) s4 := hs4.perm (List.Perm.swap _ _ _)
    refine gP fun Gq hGq => ?_
    obtain ⟨I', k', hs6, o, ho, vs, n, rfl, yy⟩ := hs5.freeze rfl
    refine hGq ?_
    clear hGq
    exact fin I' _ R2 k' hs6 (.lst _ vs acc ⟨_, ho, rfl, n, rfl⟩ yy) q
  · exact fin I2 _ ((D', .list acc) :: R2) (Sub.refl _) hs4 (.val _) (q D')
end
end Mine
end
section
open PySem PySem.W PySem.Calls PyProof.Rows
set_option Elab.async false
set_option tactic.hygienic false
set_option maxRecDepth 100000
set_option linter.unusedVariables false
set_option linter.unusedSectionVars false
namespace Mine
structure CE (env : Env) (ps : List Str) (ad : Str → Addr) : Prop where
  atp : ∀ p ∈ ps, (env.kindOf p = some .cell ∨ env.kindOf p = some .free) ∧ env.cells.lookup p = some (ad p) ∧ (p == ("__debug__" : Str)) = false ∧ (p == ("__classdict__" : Str)) = false
/-- the entries of the cells -/
noncomputable def cellsLed (ad : Str → Addr) : List Str → List D → Led
  | p :: ps, d :: ds => (ad p, .cell d) :: cellsLed ad ps ds
  | _, _ => []
inductive RemCells (ad : Str → Addr) : List Str → Led → Led → Prop
  | nil {R} : RemCells ad [] R R
  | cons {p ps d R R1 R2} : Rem (ad p, .cell d) R R1 → RemCells ad ps R1 R2 → RemCells ad (p :: ps) R R2

theorem closureFor_of {scope : Scope} {env : Env} {ad : Str → Addr} (h : ∀ x ∈ scope.names, x.2 = .free → env.cells.lookup x.1 = some (ad x.1)) :
    closureFor scope env = pure (((scope.names.filter fun x => x.2 == .free).map fun x => (x.1, ad x.1)).reverse) := by
  have key : ∀ (f : Str × NameKind → List (Str × Addr) → Sem (ForInStep (List (Str × Addr)))) (hf : ∀ n k cs, f (n, k) cs = if k == .free then (do let a ← cellOf env n; pure (ForInStep.yield ((n, a) :: cs))) else pure (ForInStep.yield cs))
      (names : List (Str × NameKind)) (acc : List (Str × Addr)), (∀ x ∈ names, x.2 = .free → env.cells.lookup x.1 = some (ad x.1)) →
      forIn names acc f = (pure (((names.filter fun x => x.2 == .free).map fun x => (x.1, ad x.1)).reverse ++ acc) : Sem _) := by
    intro f hf names
    induction names with
    | nil => intro acc _; simp
    | cons x r ih =>
      intro acc hx
      obtain ⟨n, k⟩ := x
      rw [List.forIn_cons, hf]
      cases hk : (k == NameKind.free) with
      | true =>
        have e := hx (n, k) (.head _) (beq_iff_eq.mp hk)
        dsimp only at e
        rw [if_pos rfl]
        unfold cellOf
        rw [e]
        simp only [pure_bind]
        rw [ih _ fun y hy => hx y (.tail _ hy)]
        simp [hk]
      | false =>
        rw [if_neg (by simp)]
        simp only [pure_bind]
        rw [ih _ fun y hy => hx y (.tail _ hy)]
        simp [hk]
  simp only [closureFor]
  refine (bind_pure _).trans ((key _ (fun n k cs => ?_) scope.names [] h).trans (by simp))
  dsimp only

section
variable {c : Cx} {A : Around} {env : Env} {L : Addr} {sc : Scope} {ns : List Str} {vs vs' : List (Option D)} {gl : List (Str × D)} {R R0 R' : Led} {Q : D → Led → Prop} {X : Addr → D → Led → Prop} {a : Addr}

theorem ev_cell {x : Str} {pos : Pos} {d : D} {ps : List Str} {ad : Str → Addr} (fe : FE env L ns gl) (ce : CE env ps ad) (hx : x ∈ ps) (m : Has (ad x, .cell d) R) (h : Q d R) : Ev c A env (.Name x pos) R Q X := by
  constructor
  intro I H s hs
  refine gP fun Gq hGq => ?_
  obtain ⟨k, e, nd, nc⟩ := ce.atp x hx
  refine hGq ?_
  clear hGq
  refine gP fun Gq hGq => ?_
  obtain ⟨o, ho, v, hd, r⟩ := hs.get (m.app H)
  refine hGq ?_
  clear hGq
  have fin : PG c A I H Rep Q v s := ⟨I, R, d, Sub.refl _, hs, r, h⟩
  rcases k with k | k
  · exact wpAny_Name (wpAny_loadName_cell fe.kind k e ⟨o, ho, hd⟩ fin) nd
  · exact wpAny_Name (wpAny_loadName_free fe.kind k e ⟨o, ho, hd⟩ fin nc) nd

theorem St.extNews {I : Heap} {s : Shared} {h' : Heap} {es : Led} (H : St c A I R s) (k : Sub s.heap h') (hn : ∀ p ∈ es, s.heap.get? p.1 = none) (nd : (es.map (·.1)).Nodup) (hp : ∀ p ∈ es, ∃ o, h'.get? p.1 = some o ∧ Meets c.w I p.2 o) (t : Nat) :
    St c A I (es ++ R) { s with heap := h', toks := t } := by
  have O := H.own.ext k
  refine ⟨⟨O.sub, fun p hm => ?_, fun p hm => ?_, ?_⟩, H.wd, H.gens, H.drawn, H.os, H.fr.mono fun L ns vs m => ⟨ns, vs, List.mem_append_right _ m⟩⟩
  · rcases List.mem_append.mp hm with hm | hm
    · exact hp p hm
    · exact O.has p hm
  · rcases List.mem_append.mp hm with hm | hm
    · cases q : I.get? p.1 with
      | none => rfl
      | some x => have := hn p hm; rw [H.own.sub _ _ q] at this; cases this
    · exact O.out p hm
  · rw [List.map_append, List.nodup_append]
    refine ⟨nd, O.nd, fun x hx y hy e => ?_⟩
    subst e
    obtain ⟨p, hp', rfl⟩ := List.mem_map.mp hx
    obtain ⟨p2, hp2, e⟩ := List.mem_map.mp hy
    obtain ⟨o, ho, _⟩ := H.own.has p2 hp2
    rw [e, hn p hp'] at ho; cases ho

theorem bindC_all {kindOf : Str → Option NameKind} : ∀ (binds : List (Str × Value)) (m : Str → Option Value), (∀ x ∈ binds, kindOf x.1 = some .cell) → (binds.map (·.1)).Nodup → ∀ n v, (n, v) ∈ binds → bindC kindOf binds m n = some v
  | [], _, _, _, _, _, h => by cases h
  | (k, u) :: r, m, hk, nd, n, v, hm => by
    unfold bindC
    have h1 := hk (k, u) (.head _)
    dsimp only at h1
    rw [if_neg (by rw [h1]; decide)]
    simp only [List.map_cons, List.nodup_cons] at nd
    rcases List.mem_cons.mp hm with e | e
    · cases e
      have stay : ∀ (b : List (Str × Value)) (m : Str → Option Value), (∀ x ∈ b, kindOf x.1 = some .cell) → k ∉ b.map (·.1) → m k = some u → bindC kindOf b m k = some u := by
        intro b
        induction b with
        | nil => intro m _ _ e; exact e
        | cons y r ih =>
          intro m hb hn e
          obtain ⟨k2, u2⟩ := y
          unfold bindC
          have h2 := hb (k2, u2) (.head _)
          dsimp only at h2
          rw [if_neg (by rw [h2]; decide)]
          simp only [List.map_cons, List.mem_cons, not_or] at hn
          refine ih _ (fun x hx => hb x (.tail _ hx)) hn.2 ?_
          rw [if_neg hn.1]; exact e
      exact stay r _ (fun x hx => hk x (.tail _ hx)) nd.1 (if_pos rfl)
    · exact bindC_all r _ (fun x hx => hk x (.tail _ hx)) nd.2 n v e

/-- what stands in the scope of a def whose parameters are cells -/
noncomputable def feOkC (scope : Scope) (ps : List Str) (gl : List (Str × D)) : Bool :=
  scope.kind == .function && (ps.all fun x => scope.names.lookup x == some .cell) && (gl.all fun p => scope.names.lookup p.1 == some .globalImplicit) && decide ps.Nodup && ((ps ++ gl.map (·.1)).all fun x => !(x == ("__debug__" : Str)) && !(x == ("__classdict__" : Str))) &&
    !scope.isCoroutine && !scope.isGenerator && (ps.all fun x => ((cellsFrom 0 scope.names []).lookup x).isSome)
theorem cellsFrom_some (x : Str) : ∀ (names : List (Str × NameKind)) (n m : Nat) (acc acc' : List (Str × Addr)), (acc.lookup x).isSome = (acc'.lookup x).isSome → ((cellsFrom n names acc).lookup x).isSome = ((cellsFrom m names acc').lookup x).isSome
  | [], _, _, _, _, h => h
  | (name, kind) :: r, n, m, acc, acc', h => by
    unfold cellsFrom
    split
    · refine cellsFrom_some x r _ _ _ _ ?_
      simp only [List.lookup_cons]
      split <;> first | rfl | exact h
    · exact cellsFrom_some x r _ _ _ _ h
noncomputable def BackC (L : Addr) (ps : List Str) (ad : Str → Addr) (Q : D → Led → Prop) (fl : Fl) (R : Led) : Prop := ∃ ns vs Ra Rb R1, Rem (L, .loc ns vs) R Ra ∧ RemCells ad ps Ra Rb ∧ Drops Rb R1 ∧ Q (match fl with | .ret d => d | _ => .none) R1
noncomputable def BackXC (L : Addr) (ps : List Str) (ad : Str → Addr) (X : Addr → D → Led → Prop) (C : Addr) (d : D) (R : Led) : Prop := ∃ ns vs Ra Rb R1, Rem (L, .loc ns vs) R Ra ∧ RemCells ad ps Ra Rb ∧ Drops Rb R1 ∧ X C d R1
theorem RemCells.perm {ad : Str → Addr} {ps : List Str} {R R1 : Led} (h : RemCells ad ps R R1) : ∃ ds, R.Perm (cellsLed ad ps ds ++ R1) ∧ ds.length = ps.length := by
  induction h with
  | nil => exact ⟨[], .refl _, rfl⟩
  | @cons p ps d R R1 R2 r _ ih =>
    obtain ⟨ds, ih, hl⟩ := ih
    exact ⟨d :: ds, r.perm.trans (ih.cons _), by simp [hl]⟩
theorem St.dropCells {I : Heap} {s : Shared} {ad : Str → Addr} : ∀ {ps : List Str} {ds : List D}, St c A I (cellsLed ad ps ds ++ R) s → St c A I R s
  | [], _, h => h
  | _ :: _, [], h => h
  | p :: ps, d :: ds, h => St.dropCells (ps := ps) (ds := ds) (h.drop rfl)

theorem mem_cellsLed {ad : Str → Addr} : ∀ {ps : List Str} {ds : List D} {e : Ent}, e ∈ cellsLed ad ps ds → ∃ (i : Nat) (p : Str) (d : D), ps[i]? = some p ∧ ds[i]? = some d ∧ e = (ad p, .cell d)
  | [], _, _, h => by simp [cellsLed] at h
  | _ :: _, [], _, h => by simp [cellsLed] at h
  | p :: ps, d :: ds, e, h => by
    unfold cellsLed at h
    rcases List.mem_cons.mp h with h | h
    · exact ⟨0, p, d, rfl, rfl, h⟩
    · refine gP fun Gq hGq => ?_
      obtain ⟨i, p', d', h1, h2, h3⟩ := mem_cellsLed (ps := ps) (ds := ds) h
      refine hGq ?_
      clear hGq
      exact ⟨i + 1, p', d', h1, h2, h3⟩
theorem cellsLed_nd {ad : Str → Addr} : ∀ {ps : List Str} {ds : List D}, ps.Nodup → (∀ p ∈ ps, ∀ q ∈ ps, ad p = ad q → p = q) → ((cellsLed ad ps ds).map (·.1)).Nodup
  | [], _, _, _ => by simp [cellsLed]
  | _ :: _, [], _, _ => by simp [cellsLed]
  | p :: ps, d :: ds, nd, inj => by
    simp only [List.nodup_cons] at nd
    simp only [cellsLed, List.map_cons, List.nodup_cons]
    refine ⟨fun m => ?_, cellsLed_nd (ps := ps) (ds := ds) nd.2 fun p hp q hq => inj p (.tail _ hp) q (.tail _ hq)⟩
    obtain ⟨e, he, q⟩ := List.mem_map.mp m
    refine gP fun Gq hGq => ?_
    obtain ⟨i, p', d', h1, h2, rfl⟩ := mem_cellsLed he
    refine hGq ?_
    clear hGq
    have hp' : p' ∈ ps := List.mem_of_getElem? h1
    exact nd.1 (inj p' (.tail _ hp') p (.head _) q ▸ hp')

theorem cal_fnC {f : Addr} {st : Stmt} {qual : Str} {dV pm cd : Value} {ps : List Str} {ds : List D} {n : Nat} (rm : Rm A (n + 1))
    (hK : ∀ P, (K P).lookup f = some (fnD st qual dV pm cd)) (hcd : ∀ P, codeIn (K P) cd qual = true)
    (hbind : ∀ vals : List Value, vals.length = ps.length → bindArgs (fnOf (fnName st) qual (fnArgs st) (fnBody st) (fnScope st) dV .none .none pm none cd .none) ⟨vals, []⟩ = pure (ps.zip vals))
    (hlen : ps.length = ds.length) (hfe : feOkC (fnScope st) ps gl = true) (hg : ∀ p ∈ gl, GlobIs p.1 p.2)
    (h : ∀ (env : Env) (A' : Around) (L : Addr) (ad : Str → Addr), FE env L [] gl → CE env ps ad → FN env L (fnScope st) → Rm A' n → (∃ outer, A'.frames = some (env :: outer)) →
      Ex c A' env (fnBody st) ((L, .loc [] []) :: (cellsLed ad ps ds ++ R)) (BackC L ps ad Q) (BackXC L ps ad X)) :
    CalC c A (.ref f) ds R Q X := by
  constructor
  intro I H s vals hs hr
  have hX := hs.wd.kin.keeps hs.up
  have hfe' := hfe
  unfold feOkC at hfe'
  simp only [Bool.and_eq_true, List.all_eq_true, decide_eq_true_eq, beq_iff_eq, Bool.not_eq_true', bne_iff_ne, ne_eq] at hfe'
  refine gP fun Gq hGq => ?_
  obtain ⟨⟨⟨⟨⟨⟨⟨hk, hcell⟩, hglob⟩, nd⟩, hdbg⟩, hco⟩, hgen⟩, hsome⟩ := hfe'
  refine hGq ?_
  clear hGq
  have hlen' : vals.length = ps.length := by rw [hlen]; exact hr.length
  have hsome' : ∀ x ∈ ps, ((cellsFrom (s.heap.objs.size + 1) (fnScope st).names []).lookup x).isSome = true := fun x hx => by
    rw [cellsFrom_some x _ (s.heap.objs.size + 1) 0 [] [] rfl]; exact hsome x hx
  refine codeAny_call_cells (fd := fnOf (fnName st) qual (fnArgs st) (fnBody st) (fnScope st) dV .none .none pm none cd .none) (body := fnBody st) (binds := ps.zip vals) (by have := rm.depth; lia)
    (hX _ _ (hK _)) rfl (hs.wd.nolimit.keeps hs.up) (codeRec_of hX (hcd _)) rfl (hbind vals hlen') rfl (fun x hx => .inr ⟨hcell x.1 (List.of_mem_zip hx).1, hsome' x.1 (List.of_mem_zip hx).1⟩) (fun s₁ hin => ?_) hco hgen hk
  set_option pp.all false in
  let ad : Str → Addr := fun x => (((cellsFrom (s.heap.objs.size + 1) (fnScope st).names []).lookup x).getD 0)
  have had : ∀ x ∈ ps, (cellsFrom (s.heap.objs.size + 1) (fnScope st).names []).lookup x = some (ad x) := fun x hx => by
    obtain ⟨a, ha⟩ := Option.isSome_iff_exists.mp (hsome' x hx)
    show _ = some (((cellsFrom (s.heap.objs.size + 1) (fnScope st).names []).lookup x).getD 0)
    rw [ha]; rfl
  let env : Env := callEnvC (fnOf (fnName st) qual (fnArgs st) (fnBody st) (fnScope st) dV .none .none pm none cd .none) s.heap.objs.size f
  have henv : env = { envOf qual (fnScope st) s.heap.objs.size f cd with cells := cellsFrom (s.heap.objs.size + 1) (fnScope st).names [] } := rfl
  have hkof : ∀ x, env.kindOf x = (fnScope st).names.lookup x := fun x => rfl
  have fe : FE env s.heap.objs.size [] gl := ⟨hk, rfl, rfl, rfl, fun x hx => absurd hx (by simp), fun p hp => ⟨hglob p hp, hg p hp⟩, .nil, fun x hx => (hdbg x (List.mem_append_right _ (by simpa using hx))).1⟩
  have ce : CE env ps ad := ⟨fun p hp => ⟨.inl (hcell p hp), had p hp, (hdbg p (List.mem_append_left _ hp)).1, (hdbg p (List.mem_append_left _ hp)).2⟩⟩
  obtain ⟨fs, hfs, hfs'⟩ := hs.fr
  have hfr : (A.deeper env).frames = some (env :: fs) := by show A.frames.map _ = _; rw [hfs]; rfl
  -- the heap grew
  obtain ⟨h₁, tk, e1⟩ := hin.toInCall.same
  have keep : Sub s.heap s₁.heap := fun b o e => hin.toInCall.keep b o e
  have hbm : ((ps.zip vals).map (·.1)) = ps := List.map_fst_zip (by lia)
  have inj : ∀ p ∈ ps, ∀ q ∈ ps, ad p = ad q → p = q := fun p hp q hq e => by
    have h1 := mem_of_lookup (had p hp)
    have h2 := mem_of_lookup (had q hq)
    rw [e] at h1
    exact name_of_addr hin.apart h1 h2
  have hs1 : St c A I (((s.heap.objs.size, .loc [] []) :: cellsLed ad ps ds) ++ (R ++ H)) s₁ := by
    obtain ⟨o', ho', hm'⟩ := isNs_of hin.toInCall.ns
    subst e1
    refine hs.extNews (es := (s.heap.objs.size, .loc [] []) :: cellsLed ad ps ds) keep (fun p hp => ?_) ?_ (fun p hp => ?_) tk
    · rcases List.mem_cons.mp hp with rfl | hp
      · exact none_at_size _
      · refine gP fun Gq hGq => ?_
        obtain ⟨i, p', d', h1, h2, rfl⟩ := mem_cellsLed hp
        refine hGq ?_
        clear hGq
        have lt := hin.above p' _ (mem_of_lookup (had p' (List.mem_of_getElem? h1)))
        cases q : s.heap.get? (ad p') with
        | none => rfl
        | some o => exact absurd (Heap.lt_size q) (Nat.not_lt.mpr (Nat.le_of_lt lt))
    · simp only [List.map_cons, List.nodup_cons]
      refine ⟨fun m => ?_, cellsLed_nd nd inj⟩
      obtain ⟨e, he, q⟩ := List.mem_map.mp m
      refine gP fun Gq hGq => ?_
      obtain ⟨i, p', d', h1, h2, rfl⟩ := mem_cellsLed he
      refine hGq ?_
      clear hGq
      have lt := hin.above p' _ (mem_of_lookup (had p' (List.mem_of_getElem? h1)))
      exact Nat.lt_irrefl _ (q ▸ lt : s.heap.objs.size < s.heap.objs.size)
    · rcases List.mem_cons.mp hp with rfl | hp
      · exact ⟨o', ho', _, hm', .nil⟩
      · refine gP fun Gq hGq => ?_
        obtain ⟨i, p', d', h1, h2, rfl⟩ := mem_cellsLed hp
        refine hGq ?_
        clear hGq
        obtain ⟨v, hv, r⟩ := hr.get h2
        have hz : (p', v) ∈ ps.zip vals := by
          have : (ps.zip vals)[i]? = some (p', v) := by rw [List.getElem?_zip_eq_some]; exact ⟨h1, hv⟩
          exact List.mem_of_getElem? this
        obtain ⟨o, ho, hd⟩ := hin.cell p' _ (had p' (List.mem_of_getElem? h1))
        refine ⟨o, ho, v, ?_, r⟩
        rw [hd, bindC_all _ _ (fun x hx => by rw [hkof]; exact hcell x.1 (List.of_mem_zip hx).1) (by rw [hbm]; exact nd) p' v hz]
  have hs2 : St c (A.deeper env) I (((s.heap.objs.size, .loc [] []) :: (cellsLed ad ps ds ++ R)) ++ H) s₁ := by
    have := hs1
    rw [← List.append_assoc] at this
    refine ⟨this.own, this.wd, this.gens, this.drawn, this.os, _, hfr, fun e he => ?_⟩
    rcases List.mem_cons.mp he with rfl | he
    · exact ⟨by show (fnScope st).kind ≠ _; rw [hk]; decide, _, _, _, rfl, .head _⟩
    · refine gP fun Gq hGq => ?_
      obtain ⟨a, L1, n1, v1, b1, d1⟩ := hfs' e he
      refine hGq ?_
      clear hGq
      refine ⟨a, L1, n1, v1, b1, .tail _ ?_⟩
      show _ ∈ (cellsLed ad ps ds ++ R) ++ H
      rw [List.append_assoc]
      exact List.mem_append_right _ d1
  refine wpAny_mono ((h env _ _ ad fe ce ⟨qual, f, cd, _, henv⟩ (rm.deeper _) ⟨_, hfr⟩).run I H _ hs2) (fun fl s' x => ?_) fun e s' x => ?_
  · refine gP fun Gq hGq => ?_
    obtain ⟨I', R', d, k, hs', r, ns1, vs1, Ra, Rb, R1, hrem, hcs, hdr, q⟩ := x
    refine hGq ?_
    clear hGq
    obtain ⟨ds', hp, _⟩ := hcs.perm
    have p1 : (R' ++ H).Perm (cellsLed ad ps ds' ++ ((s.heap.objs.size, .loc ns1 vs1) :: (Rb ++ H))) := by
      refine (hrem.app H).perm.trans ?_
      refine List.Perm.trans (List.Perm.cons _ (hp.append_right H)) ?_
      rw [List.append_assoc]
      exact List.perm_middle.symm
    have z := St.drops0 hdr (St.leave (hf := rfl) hs (none_at_size _) (St.dropCells (hs'.perm p1)))
    cases r with
    | next => exact ⟨I', R1, _, k, z, .none, q⟩
    | brk => exact ⟨I', R1, _, k, z, .none, q⟩
    | cont => exact ⟨I', R1, _, k, z, .none, q⟩
    | ret r => exact ⟨I', R1, _, k, z, r, q⟩
  · refine gP fun Gq hGq => ?_
    obtain ⟨I', R', e, C, dx, tb, told, rfl, k, hs', ns1, vs1, Ra, Rb, R1, hrem, hcs, hdr, q⟩ := x
    refine hGq ?_
    clear hGq
    unfold leaving
    refine wpAny_bind (note hs' ⟨_, hfr⟩ rfl fun T s2 hs2 => flight hs2 fun s3 hs3 => ?_)
    obtain ⟨ds', hp, _⟩ := hcs.perm
    have p1 : (R' ++ H).Perm (cellsLed ad ps ds' ++ ((s.heap.objs.size, .loc ns1 vs1) :: (Rb ++ H))) := by
      refine (hrem.app H).perm.trans ?_
      refine List.Perm.trans (List.Perm.cons _ (hp.append_right H)) ?_
      rw [List.append_assoc]
      exact List.perm_middle.symm
    have hs4 : St c (A.deeper env) I' (cellsLed ad ps ds' ++ ((s.heap.objs.size, .loc ns1 vs1) :: (excLed e C dx told (some T) ++ Rb ++ H))) s3 := by
      refine hs3.perm ?_
      rw [List.append_assoc]
      refine List.Perm.trans (List.Perm.append_left _ p1) ?_
      refine List.perm_append_comm_assoc .. |>.trans ?_
      refine List.Perm.append_left _ ?_
      rw [List.append_assoc]
      exact List.perm_middle
    have hs5 := St.leave (hf := rfl) hs (none_at_size _) (St.dropCells hs4)
    rw [List.append_assoc] at hs5
    have hs6 := St.drops hdr (P := excLed e C dx told (some T)) hs5
    rw [← List.append_assoc] at hs6
    exact ⟨I', R1, e, C, dx, some T, told, rfl, k, hs6, q⟩
end
end Mine
end
section
open PySem PySem.W PySem.Calls PyProof.Rows
set_option Elab.async false
set_option tactic.hygienic false
set_option maxRecDepth 100000
set_option linter.unusedVariables false
set_option linter.unusedSectionVars false
namespace Mine
theorem lookup_relabel_glob {env : Env} {names : List (Str × NameKind)} {x : Str} (h : names.lookup x = some .globalImplicit) :
    (names.map fun (n, k) => if (k == NameKind.free && env.scope.kind == .function && env.kindOf n == some .cell) then (n, NameKind.cell) else (n, k)).lookup x = some .globalImplicit := by
  induction names with
  | nil => simp at h
  | cons p r ih =>
    obtain ⟨n, k⟩ := p
    show List.lookup x ((if (k == NameKind.free && env.scope.kind == .function && env.kindOf n == some .cell) = true then (n, NameKind.cell) else (n, k)) :: _) = _
    cases hx : x == n with
    | true =>
      simp only [List.lookup_cons, hx] at h
      cases h
      simp [List.lookup_cons, hx]
    | false =>
      simp only [List.lookup_cons, hx] at h
      by_cases hc : (k == NameKind.free && env.scope.kind == .function && env.kindOf n == some .cell) = true
      · rw [if_pos hc]; simp only [List.lookup_cons, hx]; exact ih h
      · rw [if_neg hc]; simp only [List.lookup_cons, hx]; exact ih h
theorem lookup_relabel_free {env : Env} {names : List (Str × NameKind)} {x : Str} (h : names.lookup x = some .free) :
    (names.map fun (n, k) => if (k == NameKind.free && env.scope.kind == .function && env.kindOf n == some .cell) then (n, NameKind.cell) else (n, k)).lookup x = some .cell ∨
    (names.map fun (n, k) => if (k == NameKind.free && env.scope.kind == .function && env.kindOf n == some .cell) then (n, NameKind.cell) else (n, k)).lookup x = some .free := by
  induction names with
  | nil => simp at h
  | cons p r ih =>
    obtain ⟨n, k⟩ := p
    show List.lookup x ((if (k == NameKind.free && env.scope.kind == .function && env.kindOf n == some .cell) = true then (n, NameKind.cell) else (n, k)) :: _) = _ ∨ List.lookup x ((if (k == NameKind.free && env.scope.kind == .function && env.kindOf n == some .cell) = true then (n, NameKind.cell) else (n, k)) :: _) = _
    cases hx : x == n with
    | true =>
      simp only [List.lookup_cons, hx] at h
      cases h
      by_cases hc : (NameKind.free == NameKind.free && env.scope.kind == .function && env.kindOf n == some .cell) = true
      · rw [if_pos hc]; simp only [List.lookup_cons, hx]; simp
      · rw [if_neg hc]; simp only [List.lookup_cons, hx]; simp
    | false =>
      simp only [List.lookup_cons, hx] at h
      by_cases hc : (k == NameKind.free && env.scope.kind == .function && env.kindOf n == some .cell) = true
      · rw [if_pos hc]; simp only [List.lookup_cons, hx]; exact ih h
      · rw [if_neg hc]; simp only [List.lookup_cons, hx]; exact ih h

/-- of a comprehension's scope: its own names, the globals, the names from around -/
noncomputable def compOk (scope : Scope) (cns : List Str) (gl : List (Str × D)) (frees : List Str) : Bool :=
  scope.kind == .function && (cns.all fun x => scope.names.lookup x == some .local) && (gl.all fun p => scope.names.lookup p.1 == some .globalImplicit) && decide cns.Nodup && ((cns ++ gl.map (·.1) ++ frees).all fun x => !(x == ("__debug__" : Str)) && !(x == ("__classdict__" : Str))) &&
    (scope.names.all fun x => x.2 != .cell) && (scope.names.all fun x => x.2 != .local || scope.names.lookup x.1 == some .local) && ((scope.names.filter fun x => x.2 == .free).map (·.1) == frees) && (frees.all fun x => scope.names.lookup x == some .free)
-- a part of the ledger for a callee
inductive Takes : Led → Led → Led → Prop
  | nil {R} : Takes [] R R
  | cons {e es R R1 R2} : Rem e R R1 → Takes es R1 R2 → Takes (e :: es) R R2
section
variable {c : Cx} {A : Around} {env : Env} {L : Addr} {sc : Scope} {ns : List Str} {vs vs' : List (Option D)} {gl gl' : List (Str × D)} {R R0 R1 R' : Led} {Q : D → Led → Prop} {X : Addr → D → Led → Prop} {a : Addr}
noncomputable def freesOf (ad : Str → Addr) (frees : List Str) : List (Str × Addr) := (frees.map fun x => (x, ad x)).reverse
theorem lookup_frees {ad : Str → Addr} : ∀ {frees : List Str} {x : Str}, x ∈ frees → (freesOf ad frees).lookup x = some (ad x) := by
  intro frees x hx
  have : ∀ (l : List (Str × Addr)), (∀ p ∈ l, p.2 = ad p.1) → x ∈ l.map (·.1) → l.lookup x = some (ad x) := by
    intro l
    induction l with
    | nil => intro _ h; simp at h
    | cons p r ih =>
      intro h m
      obtain ⟨k, v⟩ := p
      have h1 := h (k, v) (.head _)
      dsimp only at h1
      rw [List.lookup_cons]
      cases e : x == k with
      | true => rw [beq_iff_eq.mp e, h1]
      | false =>
        simp only [List.map_cons, List.mem_cons] at m
        rcases m with m | m
        · rw [m] at e; simp at e
        · exact ih (fun p hp => h p (.tail _ hp)) m
  refine this _ (fun p hp => ?_) ?_
  · unfold freesOf at hp
    rw [List.mem_reverse, List.mem_map] at hp
    obtain ⟨y, _, rfl⟩ := hp; rfl
  · unfold freesOf
    rw [List.map_reverse, List.mem_reverse, List.map_map]
    exact List.mem_map.mpr ⟨x, hx, rfl⟩
theorem comp_ok {scope : Scope} {cns frees ps : List Str} {ad : Str → Addr} (e : compOk scope cns gl' frees = true) (hps : frees ⊆ ps) (ce : CE env ps ad) : CompOk scope env (freesOf ad frees) := by
  unfold compOk at e
  simp only [Bool.and_eq_true, List.all_eq_true, decide_eq_true_eq, beq_iff_eq, Bool.not_eq_true', bne_iff_ne, ne_eq, Bool.or_eq_true] at e
  refine gP fun Gq hGq => ?_
  obtain ⟨⟨⟨⟨⟨⟨⟨⟨k, a⟩, b⟩, nd⟩, d⟩, hc⟩, hl⟩, hf⟩, hff⟩ := e
  refine hGq ?_
  clear hGq
  refine ⟨?_, k, fun x hx h => (hl x hx).resolve_left fun z => z h, fun x hx h => hc x hx h⟩
  have hfr : ∀ x ∈ scope.names, x.2 = .free → x.1 ∈ frees := fun x hx h => by
    rw [← hf]
    exact List.mem_map.mpr ⟨x, List.mem_filter.mpr ⟨hx, by rw [h]; rfl⟩, rfl⟩
  refine (closureFor_of fun x hx h => (ce.atp _ (hps (hfr x hx h))).2.1).trans ?_
  unfold freesOf
  rw [← hf, List.map_map]
  rfl
theorem comp_fe {scope : Scope} {cns frees : List Str} {cl : List (Str × Addr)} {C : Addr} (fe : FE env L ns gl) (e : compOk scope cns gl' frees = true) (hg : ∀ p ∈ gl', GlobIs p.1 p.2) : FE (compEnvC scope cl C env) C cns gl' := by
  unfold compOk at e
  simp only [Bool.and_eq_true, List.all_eq_true, decide_eq_true_eq, beq_iff_eq, Bool.not_eq_true', bne_iff_ne, ne_eq, Bool.or_eq_true] at e
  refine gP fun Gq hGq => ?_
  obtain ⟨⟨⟨⟨⟨⟨⟨⟨k, a⟩, b⟩, nd⟩, d⟩, hc⟩, hl⟩, hf⟩, hff⟩ := e
  refine hGq ?_
  clear hGq
  exact ⟨k, rfl, fe.glob, fe.bui, fun x hx => lookup_relabel_local (a x hx), fun p hp => ⟨lookup_relabel_glob (b p hp), hg p hp⟩, nd, fun x hx => (d x (List.mem_append_left _ hx)).1⟩
theorem comp_ce {scope : Scope} {cns frees : List Str} {ad : Str → Addr} {C : Addr} (e : compOk scope cns gl' frees = true) : CE (compEnvC scope (freesOf ad frees) C env) frees ad := by
  unfold compOk at e
  simp only [Bool.and_eq_true, List.all_eq_true, decide_eq_true_eq, beq_iff_eq, Bool.not_eq_true', bne_iff_ne, ne_eq, Bool.or_eq_true] at e
  refine gP fun Gq hGq => ?_
  obtain ⟨⟨⟨⟨⟨⟨⟨⟨k, a⟩, b⟩, nd⟩, d⟩, hc⟩, hl⟩, hf⟩, hff⟩ := e
  refine hGq ?_
  clear hGq
  exact ⟨fun x hx => ⟨lookup_relabel_free (hff x hx), lookup_frees hx, d x (List.mem_append_right _ hx)⟩⟩
theorem ce_none : CE env [] fun _ => 0 := ⟨fun x hx => absurd hx (by simp)⟩

theorem Takes.perm {es R R1 : Led} (h : Takes es R R1) : R.Perm (es ++ R1) := by
  induction h with
  | nil => exact .refl _
  | cons r _ ih => exact r.perm.trans (ih.cons _)
theorem Takes.app {es fs R R1 R2 : Led} (h : Takes es R R1) (k : Takes fs R1 R2) : Takes (es ++ fs) R R2 := by
  induction h with
  | nil => exact k
  | cons r _ ih => exact .cons r (ih k)
theorem Takes.all : ∀ (R : Led) {S : Led}, Takes R (R ++ S) S
  | [], _ => .nil
  | _ :: R, _ => .cons .head (Takes.all R)
theorem Cal.frame {f : Value} {ds : List D} {Q0 : D → Led → Prop} {X0 : Addr → D → Led → Prop} (h : Cal c A f ds R0 Q0 X0) (p : Takes R0 R R1) (k : ∀ d R', Q0 d R' → Q d (R' ++ R1)) (kx : ∀ C d R', X0 C d R' → X C d (R' ++ R1)) : Cal c A f ds R Q X := by
  constructor
  intro I H s vs hs hr
  have hs' : St c A I (R0 ++ (R1 ++ H)) s := by
    rw [← List.append_assoc]; exact hs.perm (p.perm.append_right H)
  refine wpAny_mono (h.run I (R1 ++ H) s vs hs' hr) (fun v s1 zz => PG.elim zz fun I1 R' d k1 hs1 r q => ⟨I1, R' ++ R1, d, k1, by rw [List.append_assoc]; exact hs1, r, k _ _ q⟩) fun v s1 zz => ?_
  refine gP fun Gq hGq => ?_
  obtain ⟨I1, R', e, C, dx, tb, told, e1, k1, hs1, x⟩ := zz
  refine hGq ?_
  clear hGq
  refine ⟨I1, R' ++ R1, e, C, dx, tb, told, e1, k1, ?_, kx _ _ _ x⟩
  have : excLed e C dx told tb ++ (R' ++ R1) ++ H = excLed e C dx told tb ++ R' ++ (R1 ++ H) := by simp
  rw [this]; exact hs1
theorem Cal.mono {f : Value} {ds : List D} {Q0 : D → Led → Prop} {X0 : Addr → D → Led → Prop} (h : Cal c A f ds R Q0 X0) (k : ∀ d R', Q0 d R' → Q d R') (kx : ∀ C d R', X0 C d R' → X C d R') : Cal c A f ds R Q X := by
  constructor
  intro I H s vs hs hr
  exact wpAny_mono (h.run I H s vs hs hr) (fun _ _ x => x.mono k) fun _ _ x => x.mono kx
theorem Cal.nox {f : Value} {ds : List D} (h : Cal c A f ds R Q NoX) : Cal c A f ds R Q X := h.mono (fun _ _ x => x) fun _ _ _ x => x.elim
end

-- what the globals are
noncomputable def isS (s : Str) : Value → Bool
  | .str t _ => s == t
  | _ => false
theorem isS_ok {I : Heap} {s : Str} {v : Value} (h : isS s v = true) : Rep I v (.str s) := by
  cases v with
  | str t k => obtain rfl := eq_of_beq (show (s == t) = true from h); exact .str _ _
  | _ => cases h
noncomputable def isI (i : Int) : Value → Bool
  | .int j _ => i == j
  | _ => false
theorem isI_ok {I : Heap} {i : Int} {v : Value} (h : isI i v = true) : Rep I v (.int i) := by
  cases v with
  | int t k => obtain rfl := eq_of_beq (show (i == t) = true from h); exact .int _ _
  | _ => cases h
noncomputable def isRef (b : Addr) : Value → Bool
  | .ref a => a == b
  | _ => false
theorem isRef_ok {b : Addr} {v : Value} (h : isRef b v = true) : v = .ref b := by
  cases v with
  | ref a => rw [eq_of_beq (show (a == b) = true from h)]
  | _ => cases h
noncomputable def isBui (b : String) : Value → Bool
  | .builtin a => a == b
  | _ => false
theorem isBui_ok {b : String} {v : Value} (h : isBui b v = true) : v = .builtin b := by
  cases v with
  | builtin a => rw [eq_of_beq (show (a == b) = true from h)]
  | _ => cases h
noncomputable def isTyp (b : String) : Value → Bool
  | .type a => a == b
  | _ => false
theorem isTyp_ok {b : String} {v : Value} (h : isTyp b v = true) : v = .type b := by
  cases v with
  | type a => rw [eq_of_beq (show (a == b) = true from h)]
  | _ => cases h
noncomputable def isV (v : Value) : Value → Bool
  | .ref b => isRef b v
  | .builtin b => isBui b v
  | .type b => isTyp b v
  | _ => false
theorem isV_ok {v u : Value} (h : isV v u = true) : v = u := by
  cases u with
  | ref b => exact isRef_ok h
  | builtin b => exact isBui_ok h
  | type b => exact isTyp_ok h
  | _ => cases h
noncomputable def isY (l : List Nat) : Value → Bool
  | .bytes b _ => b.toList.map UInt8.toNat == l
  | _ => false
theorem isY_ok {I : Heap} {l : List Nat} {v : Value} (h : isY l v = true) : Rep I v (.bytes l) := by
  cases v with
  | bytes b k => exact .bytes _ _ _ (eq_of_beq (show (b.toList.map UInt8.toNat == l) = true from h))
  | _ => cases h
noncomputable def repA (v : Value) : D → Bool
  | .none => v == .none
  | .bool b => v == .bool b
  | .int i => isI i v
  | .str s => isS s v
  | .bytes l => isY l v
  | .val u => isV v u
  | _ => false
theorem repA_ok {I : Heap} {v : Value} {d : D} (h : repA v d = true) : Rep I v d := by
  cases d with
  | none => obtain rfl := eq_of_beq (show (v == .none) = true from h); exact .none
  | bool b => obtain rfl := eq_of_beq (show (v == .bool b) = true from h); exact .bool b
  | int i => exact isI_ok h
  | str s => exact isS_ok h
  | bytes l => exact isY_ok h
  | val u => obtain rfl := isV_ok h; exact .val _
  | _ => cases h
noncomputable def repAs : List Value → List D → Bool
  | [], [] => true
  | v :: vs, d :: ds => repA v d && repAs vs ds
  | _, _ => false
theorem repAs_ok {I : Heap} {vs : List Value} {ds : List D} (h : repAs vs ds = true) : Reps I vs ds := by
  induction vs generalizing ds with
  | nil =>
    cases ds with
    | nil => exact .nil
    | cons => cases h
  | cons v vs ih =>
    cases ds with
    | nil => cases h
    | cons d ds =>
      have h := (Bool.and_eq_true _ _).mp (show (repA v d && repAs vs ds) = true from h)
      exact .cons (repA_ok h.1) (ih h.2)
noncomputable def seqD : Data → Option (Array Value)
  | .seq vs _ => some vs
  | _ => none
theorem seqD_ok {d : Data} {vs : Array Value} (h : seqD d = some vs) : ∃ n, d = .seq vs n := by
  cases d with
  | seq ws n => exact ⟨n, by rw [Option.some.inj (show some ws = some vs from h)]⟩
  | _ => cases h
noncomputable def seqO (cv : String) : Option Obj → Option (Array Value)
  | some o => if isTyp cv o.cls then seqD o.data else none
  | none => none
noncomputable def seqOf (K : Frag) (cv : String) : Value → Option (Array Value)
  | .ref a => seqO cv (K.lookup a)
  | _ => none
theorem seqOf_ok {K : Frag} {cv : String} {v : Value} {vs : Array Value} (h : seqOf K cv v = some vs) : ∃ a o n, v = .ref a ∧ K.lookup a = some o ∧ o.cls = .type cv ∧ o.data = .seq vs n := by
  cases v with
  | ref a =>
    have h : seqO cv (K.lookup a) = some vs := h
    cases e : K.lookup a with
    | none => rw [e] at h; cases h
    | some o =>
      rw [e] at h
      have h : (if isTyp cv o.cls then seqD o.data else none) = some vs := h
      by_cases q : isTyp cv o.cls = true
      · rw [if_pos q] at h
        obtain ⟨n, hd⟩ := seqD_ok h
        exact ⟨a, o, n, rfl, e, isTyp_ok q, hd⟩
      · rw [if_neg q] at h; cases h
  | _ => cases h
noncomputable def repO (ds : List D) : Option (Array Value) → Bool
  | some vs => repAs vs.toList ds
  | none => false
theorem repO_ok {I : Heap} {o : Option (Array Value)} {ds : List D} (h : repO ds o = true) : ∃ vs, o = some vs ∧ Reps I vs.toList ds := by
  cases o with
  | none => cases h
  | some vs => exact ⟨vs, rfl, repAs_ok h⟩
noncomputable def repB (K : Frag) (v : Value) : D → Bool
  | .tup ds => repO ds (seqOf K "tuple" v)
  | .lst ds => repO ds (seqOf K "list" v)
  | d => repA v d
theorem repB_ok {K : Frag} {I : Heap} (hK : K.In I) {v : Value} {d : D} (h : repB K v d = true) : Rep I v d := by
  cases d with
  | tup ds =>
    obtain ⟨vs, e, r⟩ := repO_ok (I := I) h
    refine gP fun Gq hGq => ?_
    obtain ⟨a, o, n, rfl, e1, e2, e3⟩ := seqOf_ok e
    refine hGq ?_
    clear hGq
    exact .tup a vs ds ⟨_, hK _ _ e1, e2, n, e3⟩ r
  | lst ds =>
    obtain ⟨vs, e, r⟩ := repO_ok (I := I) h
    refine gP fun Gq hGq => ?_
    obtain ⟨a, o, n, rfl, e1, e2, e3⟩ := seqOf_ok e
    refine hGq ?_
    clear hGq
    exact .lst a vs ds ⟨_, hK _ _ e1, e2, n, e3⟩ r
  | _ => exact repA_ok h
noncomputable def globOk (K : Frag) (x : Str) (d : D) : Bool := match nsIn K mainGlobals x with
  | some (some v) => repB K v d
  | some none => (match bootBuiltins x with | some v => !(x == ("__name__" : Str)) && repB K v d | none => false)
  | none => false
set_option tactic.hygienic true in
theorem globOk_is {x : Str} {d : D} (h : ∀ P, globOk (K P) x d = true) : GlobIs x d := by
  intro c I hw
  have h := h c.w.params
  unfold globOk at h
  split at h
  · rename_i v e
    exact ⟨v, .inl (mg_of hw.kin hw.g e), repB_ok hw.kin h⟩
  · rename_i e
    split at h
    · rename_i v e2
      simp only [Bool.and_eq_true, Bool.not_eq_true', beq_eq_false_iff_ne, ne_eq] at h
      exact ⟨v, .inr ⟨mg_none_of hw.kin hw.g e, (hw.builtins x h.1).trans e2⟩, repB_ok hw.kin h.2⟩
    · cases h
  · cases h
end Mine
end
section
open PySem PySem.W PySem.Calls PyProof.Rows PySem.MeetsSeq PySem.SeqAt PySem.EqNone
set_option Elab.async false
set_option tactic.hygienic false
set_option maxRecDepth 100000
set_option linter.unusedVariables false
set_option linter.unusedSectionVars false
namespace Mine
section
variable {c : Cx} {A : Around} {env : Env} {L : Addr} {sc : Scope} {ns : List Str} {vs vs' : List (Option D)} {gl gl' : List (Str × D)} {R R0 R1 R' : Led} {Q : D → Led → Prop} {Qb : Bool → Led → Prop} {X : Addr → D → Led → Prop} {a : Addr} {n : Nat}

-- is None
theorem cm_isN : Q (.bool true) R → Cmp c A .Is .none .none R Q X := fun h => .mk fun I H s _ _ hs r1 r2 => by
  (first | obtain ⟨_, rfl⟩ := Rep.iI r1 | obtain ⟨_, rfl⟩ := Rep.sI r1 | obtain rfl := Rep.vI r1 | obtain rfl := Rep.bI r1 | obtain rfl := Rep.nI r1 | cases r1); (first | obtain ⟨_, rfl⟩ := Rep.iI r2 | obtain ⟨_, rfl⟩ := Rep.sI r2 | obtain rfl := Rep.vI r2 | obtain rfl := Rep.bI r2 | obtain rfl := Rep.nI r2 | cases r2); exact wpAny_is_plain rfl ⟨I, R, _, Sub.refl _, hs, .bool _, h⟩
theorem cm_isI {i : Int} : Q (.bool false) R → Cmp c A .Is (.int i) .none R Q X := fun h => .mk fun I H s _ _ hs r1 r2 => by
  (first | obtain ⟨_, rfl⟩ := Rep.iI r1 | obtain ⟨_, rfl⟩ := Rep.sI r1 | obtain rfl := Rep.vI r1 | obtain rfl := Rep.bI r1 | obtain rfl := Rep.nI r1 | cases r1); (first | obtain ⟨_, rfl⟩ := Rep.iI r2 | obtain ⟨_, rfl⟩ := Rep.sI r2 | obtain rfl := Rep.vI r2 | obtain rfl := Rep.bI r2 | obtain rfl := Rep.nI r2 | cases r2); exact wpAny_is_plain rfl ⟨I, R, _, Sub.refl _, hs, .bool _, h⟩
-- chains
@[reducible] noncomputable def kChB (c : Cx) (A : Around) (env : Env) (op2 : CmpOp) (r2 : Expr) (d2 d : D) (Q : D → Led → Prop) (X : Addr → D → Led → Prop) : Bool → Led → Prop := fun b R4 => (b = true → Ev c A env r2 R4 (kCmp2 c A op2 d2 Q X) X) ∧ (b = false → Q d R4)
@[reducible] noncomputable def kCh3 (c : Cx) (A : Around) (env : Env) (op2 : CmpOp) (r2 : Expr) (d2 : D) (Q : D → Led → Prop) (X : Addr → D → Led → Prop) : D → Led → Prop := fun d R3 => Tru c A d R3 (kChB c A env op2 r2 d2 d Q X) X
@[reducible] noncomputable def kCh2 (c : Cx) (A : Around) (env : Env) (op1 op2 : CmpOp) (r2 : Expr) (d1 : D) (Q : D → Led → Prop) (X : Addr → D → Led → Prop) : D → Led → Prop := fun d2 R2 => Cmp c A op1 d1 d2 R2 (kCh3 c A env op2 r2 d2 Q X) X
@[reducible] noncomputable def kCh (c : Cx) (A : Around) (env : Env) (op1 : CmpOp) (r1 : Expr) (op2 : CmpOp) (r2 : Expr) (Q : D → Led → Prop) (X : Addr → D → Led → Prop) : D → Led → Prop := fun d1 R1 => Ev c A env r1 R1 (kCh2 c A env op1 op2 r2 d1 Q X) X
@[reducible] noncomputable def kTcB (c : Cx) (A : Around) (env : Env) (op2 : CmpOp) (r2 : Expr) (d2 : D) (Qb : Bool → Led → Prop) (X : Addr → D → Led → Prop) : Bool → Led → Prop := fun b R4 => (b = true → Ev c A env r2 R4 (kCmp2 c A op2 d2 (kTru c A Qb X) X) X) ∧ (b = false → Qb false R4)
@[reducible] noncomputable def kTc2 (c : Cx) (A : Around) (env : Env) (op1 op2 : CmpOp) (r2 : Expr) (d1 : D) (Qb : Bool → Led → Prop) (X : Addr → D → Led → Prop) : D → Led → Prop := fun d2 R2 => Cmp c A op1 d1 d2 R2 (kTru c A (kTcB c A env op2 r2 d2 Qb X) X) X
@[reducible] noncomputable def kTc (c : Cx) (A : Around) (env : Env) (op1 : CmpOp) (r1 : Expr) (op2 : CmpOp) (r2 : Expr) (Qb : Bool → Led → Prop) (X : Addr → D → Led → Prop) : D → Led → Prop := fun d1 R1 => Ev c A env r1 R1 (kTc2 c A env op1 op2 r2 d1 Qb X) X
theorem ts_chain {l op1 r1 op2 r2 pos} (h : Ev c A env l R (kTc c A env op1 r1 op2 r2 Qb X) X)
    (hm : lastMarks [op1, op2] [r1, r2] = false := by with_unfolding_all rfl) : Tst c A env (.Compare l [op1, op2] [r1, r2] pos) R Qb X := .mk fun I H s hs =>
  isTrue_chain ((h.run I H s hs).and (Sub.refl _) fun I1 R1 d1 v1 s1 _ k1 hs1 e1 q1 => test_link ((q1.run I1 H s1 hs1).and k1 fun I2 R2 d2 v2 s2 k2 k2' hs2 e2 q2 =>
    (q2.run I2 H s2 v1 v2 hs2 (e1.sub k2) e2).and k2' fun I3 R3 d3 v3 s3 k3 k3' hs3 e3 q3 => (q3.run I3 H s3 v3 hs3 e3).and k3' fun I4 R4 b b' s4 k4 k4' hs4 e4 q4 => by
      subst e4
      cases b' with
      | false => rw [if_neg (by simp)]; exact ⟨I4, R4, false, k4', hs4, rfl, q4.2 rfl⟩
      | true =>
        rw [if_pos rfl]
        refine test_last (((q4.1 rfl).run I4 H s4 hs4).and k4' fun I5 R5 d5 v5 s5 k5 k5' hs5 e5 q5 => (q5.run I5 H s5 v2 v5 hs5 (e2.sub (k3.trans (k4.trans k5))) e5).and k5' fun I6 R6 d6 v6 s6 k6 k6' hs6 e6 q6 => Run.sub (q6.run I6 H s6 v6 hs6 e6) k6'))) hm
theorem ev_chain {l op1 r1 op2 r2 pos} (h : Ev c A env l R (kCh c A env op1 r1 op2 r2 Q X) X)
    (hm : lastMarks [op1, op2] [r1, r2] = false := by with_unfolding_all rfl) : Ev c A env (.Compare l [op1, op2] [r1, r2] pos) R Q X := .mk fun I H s hs =>
  Compare_chain ((h.run I H s hs).and (Sub.refl _) fun I1 R1 d1 v1 s1 _ k1 hs1 e1 q1 => chain_link ((q1.run I1 H s1 hs1).and k1 fun I2 R2 d2 v2 s2 k2 k2' hs2 e2 q2 =>
    (q2.run I2 H s2 v1 v2 hs2 (e1.sub k2) e2).and k2' fun I3 R3 d3 v3 s3 k3 k3' hs3 e3 q3 => (q3.run I3 H s3 v3 hs3 e3).and k3' fun I4 R4 b b' s4 k4 k4' hs4 e4 q4 => by
      subst e4
      cases b' with
      | false => rw [if_neg (by simp)]; exact ⟨I4, R4, d3, k4', hs4, e3.sub k4, q4.2 rfl⟩
      | true =>
        rw [if_pos rfl]
        refine chain_last (((q4.1 rfl).run I4 H s4 hs4).and k4' fun I5 R5 d5 v5 s5 k5 k5' hs5 e5 q5 => Run.sub (q5.run I5 H s5 v2 v5 hs5 (e2.sub (k3.trans (k4.trans k5))) e5) k5'))) hm

-- lists of strs compared
theorem str_items {I : Heap} {vs : List Value} {xs : List Str} (r : Reps I vs (xs.map .str)) (j : Nat) (v : Value) (e : vs[j]? = some v) : ∃ x t, xs[j]? = some x ∧ v = .str x t := by
  induction xs generalizing vs j with
  | nil => rw [Reps.nilI r] at e; cases e
  | cons x xs ih =>
    obtain ⟨v0, ws, rfl, r0, rs⟩ := Reps.consI r
    cases j with
    | zero =>
      obtain rfl := Option.some.inj e
      obtain ⟨t, rfl⟩ := Rep.sI r0
      exact ⟨x, t, rfl, rfl⟩
    | succ j => exact ih rs j e
theorem strs_eq {xs ys : List Str} (hl : xs.length = ys.length) {e : Nat → Bool} (he : ∀ (j : Nat) (x y : Str), xs[j]? = some x → ys[j]? = some y → e j = (x.cps.toList == y.cps.toList)) : (List.range xs.length).all e = (xs == ys) := by
  rw [Bool.eq_iff_iff, List.all_eq_true, beq_iff_eq]
  constructor
  · intro h
    refine List.ext_getElem? fun j => ?_
    rcases Nat.lt_or_ge j xs.length with lt | ge
    · have h1 := h j (List.mem_range.mpr lt)
      have e1 := List.getElem?_eq_getElem lt
      have e2 := List.getElem?_eq_getElem (l := ys) (hl ▸ lt)
      rw [he j _ _ e1 e2, beq_iff_eq] at h1
      rw [e1, e2]
      congr 1
      have : xs[j].cps = ys[j].cps := Array.toList_inj.mp h1
      cases hx : xs[j]; cases hy : ys[j]
      rw [hx, hy] at this
      exact congrArg _ this
    · rw [List.getElem?_eq_none ge, List.getElem?_eq_none (hl ▸ ge)]
  · rintro rfl j hj
    have e1 := List.getElem?_eq_getElem (List.mem_range.mp hj)
    rw [he j _ _ e1 e1]; simp
theorem lists_eqAt {I : Heap} {H : Led} {s : Shared} {A' : Around} {vs ws : Array Value} {xs ys : List Str} (y1 : Reps I vs.toList (xs.map .str)) (y2 : Reps I ws.toList (ys.map .str)) :
    ∃ e : Nat → Bool, (∀ j (h1 : j < vs.size) (h2 : j < ws.size), EqAt A' s vs[j] ws[j] (e j)) ∧ (xs.length = ys.length → (List.range vs.size).all e = (xs == ys)) := by
  refine ⟨fun j => match xs[j]?, ys[j]? with | some x, some y => x.cps.toList == y.cps.toList | _, _ => true, fun j h1 h2 => ?_, fun hl => ?_⟩
  · obtain ⟨x, t, e1, e2⟩ := str_items y1 j vs[j] (by simp [h1])
    obtain ⟨y, u, e3, e4⟩ := str_items y2 j ws[j] (by simp [h2])
    dsimp only
    rw [e1, e3, e2, e4]
    exact (PySem.SeqRoads2.EqGives.str x y t u).at _ _
  · have : vs.size = xs.length := by have := y1.length; simpa using this
    rw [this]
    exact strs_eq hl fun j x y e1 e2 => by rw [e1, e2]
theorem cm_eqSL {d1 d2 : D} {xs ys : List Str} (rm : Rm A n) (l1 : LV R d1 (xs.map .str)) (l2 : LV R d2 (ys.map .str)) (h : Q (.bool (xs == ys)) R) : Cmp c A .Eq d1 d2 R Q X := .mk fun I H s _ _ hst r1 r2 => by
  obtain ⟨a, vs, rfl, hl, y, hsz⟩ := l1.at hst r1
  obtain ⟨b, ws, rfl, hl2, y2, hsz2⟩ := l2.at hst r2
  rw [List.length_map] at hsz hsz2
  have hu : A.units < cLine := by have := rm.units; lia
  by_cases q : xs.length = ys.length
  · obtain ⟨e, he, hall⟩ := lists_eqAt (H := H) (s := s) (A' := A.in1) y y2
    refine eq_listAt hl hl2 (by lia) hu he ?_
    rw [hall q]; exact ⟨I, R, _, Sub.refl _, hst, .bool _, h⟩
  · refine eq_list_lengthsAt hl hl2 (by rw [bne_iff_ne]; lia) hu ⟨I, R, _, Sub.refl _, hst, .bool false, ?_⟩
    rwa [show (xs == ys) = false from beq_eq_false_iff_ne.mpr fun e => q (by rw [e])] at h
theorem cm_neSL {d1 d2 : D} {xs ys : List Str} (rm : Rm A n) (l1 : LV R d1 (xs.map .str)) (l2 : LV R d2 (ys.map .str)) (h : Q (.bool (xs != ys)) R) : Cmp c A .NotEq d1 d2 R Q X := .mk fun I H s _ _ hst r1 r2 => by
  obtain ⟨a, vs, rfl, hl, y, hsz⟩ := l1.at hst r1
  obtain ⟨b, ws, rfl, hl2, y2, hsz2⟩ := l2.at hst r2
  rw [List.length_map] at hsz hsz2
  have hu : A.units < cLine := by have := rm.units; lia
  show wpAny _ A (richCompare .NotEq (.ref a) (.ref b)) _ _ s
  by_cases q : xs.length = ys.length
  · obtain ⟨e, he, hall⟩ := lists_eqAt (H := H) (s := s) (A' := A.in1) y y2
    refine RcNeAt.lists hl hl2 (by lia) hu he _ _ _ _ ?_
    rw [hall q]; exact ⟨I, R, _, Sub.refl _, hst, .bool _, h⟩
  · refine RcNeAt.lists_lengths hl hl2 (by rw [bne_iff_ne]; lia) hu _ _ _ _ ⟨I, R, _, Sub.refl _, hst, .bool true, ?_⟩
    rwa [show (xs != ys) = true from bne_iff_ne.mpr fun e => q (by rw [e])] at h
/-- not the empty list -/
theorem cm_neNil {d1 d2 : D} {ds : List D} (rm : Rm A n) (l1 : LV R d1 ds) (l2 : LV R d2 []) (h : Q (.bool (!ds.isEmpty)) R) : Cmp c A .NotEq d1 d2 R Q X := .mk fun I H s _ _ hst r1 r2 => by
  obtain ⟨a, vs, rfl, hl, y, hsz⟩ := l1.at hst r1
  obtain ⟨b, ws, rfl, hl2, y2, hsz2⟩ := l2.at hst r2
  have hu : A.units < cLine := by have := rm.units; lia
  show wpAny _ A (richCompare .NotEq (.ref a) (.ref b)) _ _ s
  cases ds with
  | nil =>
    refine RcNeAt.lists (e := fun _ => true) hl hl2 (by simp_all) hu (fun j h1 h2 => by simp [hsz] at h1) _ _ _ _ ?_
    have : vs.size = 0 := by simpa using hsz
    rw [this]
    exact ⟨I, R, _, Sub.refl _, hst, .bool _, h⟩
  | cons x r =>
    refine RcNeAt.lists_lengths hl hl2 (by rw [bne_iff_ne, hsz, hsz2]; simp) hu _ _ _ _ ⟨I, R, _, Sub.refl _, hst, .bool true, ?_⟩
    exact h
-- in a tuple of strs
theorem any_strs {I : Heap} {vs : List Value} {ys : List Str} (x : Str) (r : Reps I vs (ys.map .str)) : vs.any (fun v => match v with | .str y _ => y.cps.toList == x.cps.toList | _ => false) = ys.contains x := by
  induction ys generalizing vs with
  | nil => rw [Reps.nilI r]; rfl
  | cons y ys ih =>
    obtain ⟨v0, ws, rfl, r0, rs⟩ := Reps.consI r
    obtain ⟨t, rfl⟩ := Rep.sI r0
    rw [List.any_cons, ih rs, List.contains_cons]
    congr 1
    rw [Bool.eq_iff_iff, beq_iff_eq, beq_iff_eq]
    constructor
    · intro h
      have : y.cps = x.cps := Array.toList_inj.mp h
      cases y; cases x; exact congrArg _ this.symm
    · rintro rfl; rfl
theorem cm_inT {x : Str} {ys : List Str} (h : Q (.bool (ys.contains x)) R) : Cmp c A .In (.str x) (.tup (ys.map .str)) R Q X := .mk fun I H s _ _ hst r1 r2 => by
  (first | obtain ⟨_, rfl⟩ := Rep.iI r1 | obtain ⟨_, rfl⟩ := Rep.sI r1 | obtain rfl := Rep.vI r1 | obtain rfl := Rep.bI r1 | obtain rfl := Rep.nI r1 | cases r1)
  obtain ⟨a, vs, rfl, ht, y⟩ := r2.tI
  refine in_tupleAt (fun v => match v with | .str y _ => y.cps.toList == x.cps.toList | _ => false) (IsTup.sub hst.up ht) (fun v hv => ?_) ?_
  · obtain ⟨j, hj, e⟩ := List.mem_iff_getElem.mp (Array.mem_toList_iff.mpr hv)
    obtain ⟨z, t, _, rfl⟩ := str_items y j v (by rw [List.getElem?_eq_getElem hj, e])
    exact (PySem.SeqRoads2.EqGives.str z x t _).at _ _
  · rw [← Array.any_toList, any_strs x y]
    exact ⟨I, R, _, Sub.refl _, hst, .bool _, h⟩
theorem cm_notinT {x : Str} {ys : List Str} (h : Q (.bool (!ys.contains x)) R) : Cmp c A .NotIn (.str x) (.tup (ys.map .str)) R Q X := .mk fun I H s _ _ hst r1 r2 => by
  (first | obtain ⟨_, rfl⟩ := Rep.iI r1 | obtain ⟨_, rfl⟩ := Rep.sI r1 | obtain rfl := Rep.vI r1 | obtain rfl := Rep.bI r1 | obtain rfl := Rep.nI r1 | cases r1)
  obtain ⟨a, vs, rfl, ht, y⟩ := r2.tI
  refine notIn_tupleAt (fun v => match v with | .str y _ => y.cps.toList == x.cps.toList | _ => false) (IsTup.sub hst.up ht) (fun v hv => ?_) ?_
  · obtain ⟨j, hj, e⟩ := List.mem_iff_getElem.mp (Array.mem_toList_iff.mpr hv)
    obtain ⟨z, t, _, rfl⟩ := str_items y j v (by rw [List.getElem?_eq_getElem hj, e])
    exact (PySem.SeqRoads2.EqGives.str z x t _).at _ _
  · rw [← Array.any_toList, any_strs x y]
    exact ⟨I, R, _, Sub.refl _, hst, .bool _, h⟩
-- bools
theorem cm_eqB {a b : Bool} (h : Q (.bool (a == b)) R) : Cmp c A .Eq (.bool a) (.bool b) R Q X := .mk fun I H s _ _ hst r1 r2 => by
  (first | obtain ⟨_, rfl⟩ := Rep.iI r1 | obtain ⟨_, rfl⟩ := Rep.sI r1 | obtain rfl := Rep.vI r1 | obtain rfl := Rep.bI r1 | obtain rfl := Rep.nI r1 | cases r1); (first | obtain ⟨_, rfl⟩ := Rep.iI r2 | obtain ⟨_, rfl⟩ := Rep.sI r2 | obtain rfl := Rep.vI r2 | obtain rfl := Rep.bI r2 | obtain rfl := Rep.nI r2 | cases r2)
  exact RcAt.bool_bool a b _ _ _ _ ⟨I, R, _, Sub.refl _, hst, .bool _, h⟩
theorem cm_eqNI {i : Int} (h : Q (.bool false) R) : Cmp c A .Eq .none (.int i) R Q X := .mk fun I H s _ _ hst r1 r2 => by
  (first | obtain ⟨_, rfl⟩ := Rep.iI r1 | obtain ⟨_, rfl⟩ := Rep.sI r1 | obtain rfl := Rep.vI r1 | obtain rfl := Rep.bI r1 | obtain rfl := Rep.nI r1 | cases r1); (first | obtain ⟨_, rfl⟩ := Rep.iI r2 | obtain ⟨_, rfl⟩ := Rep.sI r2 | obtain rfl := Rep.vI r2 | obtain rfl := Rep.bI r2 | obtain rfl := Rep.nI r2 | cases r2)
  exact eq_none_int ⟨I, R, _, Sub.refl _, hst, .bool _, h⟩
-- builtins
theorem ca_ord {k : Nat} (h : Q (.int k) R) : Cal c A (.builtin "ord") [.str ⟨#[k]⟩] R Q X := .mk fun I H s _ hst r => by
  obtain ⟨_, _, rfl, r1, rs⟩ := Reps.consI r; obtain rfl := Reps.nilI rs; (first | obtain ⟨_, rfl⟩ := Rep.iI r1 | obtain ⟨_, rfl⟩ := Rep.sI r1 | obtain rfl := Rep.vI r1 | obtain rfl := Rep.bI r1 | obtain rfl := Rep.nI r1 | cases r1); exact P.ord_of_char ⟨I, R, _, Sub.refl _, hst.toks _, .int _ _, h⟩
theorem ca_chr {i : Int} (h0 : 0 ≤ i) (h1 : i ≤ 1114111) (h : Q (.str ⟨#[i.toNat]⟩) R) : Cal c A (.builtin "chr") [.int i] R Q X := .mk fun I H s _ hst r => by
  obtain ⟨_, _, rfl, r1, rs⟩ := Reps.consI r; obtain rfl := Reps.nilI rs; (first | obtain ⟨_, rfl⟩ := Rep.iI r1 | obtain ⟨_, rfl⟩ := Rep.sI r1 | obtain rfl := Rep.vI r1 | obtain rfl := Rep.bI r1 | obtain rfl := Rep.nI r1 | cases r1); exact chr_of_range h0 h1 ⟨I, R, _, Sub.refl _, hst.toks _, .str _ _, h⟩
theorem ca_int {i : Int} (h : Q (.int i) R) : Cal c A (.type "int") [.int i] R Q X := .mk fun I H s _ hst r => by
  obtain ⟨_, _, rfl, r1, rs⟩ := Reps.consI r; obtain rfl := Reps.nilI rs; (first | obtain ⟨_, rfl⟩ := Rep.iI r1 | obtain ⟨_, rfl⟩ := Rep.sI r1 | obtain rfl := Rep.vI r1 | obtain rfl := Rep.bI r1 | obtain rfl := Rep.nI r1 | cases r1); exact call_int_int ⟨I, R, _, Sub.refl _, hst, .int _ _, h⟩
theorem ca_max {i j : Int} (rm : Rm A n) (h : Q (.int (max i j)) R) : Cal c A (.builtin "max") [.int i, .int j] R Q X := .mk fun I H s _ hst r => by
  obtain ⟨_, _, rfl, r1, rs⟩ := Reps.consI r; obtain ⟨_, _, rfl, r2, rs⟩ := Reps.consI rs; obtain rfl := Reps.nilI rs; (first | obtain ⟨_, rfl⟩ := Rep.iI r1 | obtain ⟨_, rfl⟩ := Rep.sI r1 | obtain rfl := Rep.vI r1 | obtain rfl := Rep.bI r1 | obtain rfl := Rep.nI r1 | cases r1); (first | obtain ⟨_, rfl⟩ := Rep.iI r2 | obtain ⟨_, rfl⟩ := Rep.sI r2 | obtain rfl := Rep.vI r2 | obtain rfl := Rep.bI r2 | obtain rfl := Rep.nI r2 | cases r2); exact max_two_ints rm.handled fun h' tk k => ⟨I, R, .int (max i j), Sub.refl _, hst.ext k tk, by
    split
    · rw [show max i j = j by lia]; exact .int _ _
    · rw [show max i j = i by lia]; exact .int _ _, h⟩
theorem ca_min {i j : Int} (rm : Rm A n) (h : Q (.int (min i j)) R) : Cal c A (.builtin "min") [.int i, .int j] R Q X := .mk fun I H s _ hst r => by
  obtain ⟨_, _, rfl, r1, rs⟩ := Reps.consI r; obtain ⟨_, _, rfl, r2, rs⟩ := Reps.consI rs; obtain rfl := Reps.nilI rs; (first | obtain ⟨_, rfl⟩ := Rep.iI r1 | obtain ⟨_, rfl⟩ := Rep.sI r1 | obtain rfl := Rep.vI r1 | obtain rfl := Rep.bI r1 | obtain rfl := Rep.nI r1 | cases r1); (first | obtain ⟨_, rfl⟩ := Rep.iI r2 | obtain ⟨_, rfl⟩ := Rep.sI r2 | obtain rfl := Rep.vI r2 | obtain rfl := Rep.bI r2 | obtain rfl := Rep.nI r2 | cases r2); exact min_two_ints rm.handled fun h' tk k => ⟨I, R, .int (min i j), Sub.refl _, hst.ext k tk, by
    split
    · rw [show min i j = j by lia]; exact .int _ _
    · rw [show min i j = i by lia]; exact .int _ _, h⟩
theorem ca_isS {x : Str} {T : String} (hT : T = "tuple" ∨ T = "bool") (h : Q (.bool false) R) : Cal c A (.builtin "isinstance") [.str x, .val (.type T)] R Q X := .mk fun I H s _ hst r => by
  obtain ⟨_, _, rfl, r1, rs⟩ := Reps.consI r; obtain ⟨_, _, rfl, r2, rs⟩ := Reps.consI rs
  obtain rfl := Reps.nilI rs; (first | obtain ⟨_, rfl⟩ := Rep.iI r1 | obtain ⟨_, rfl⟩ := Rep.sI r1 | obtain rfl := Rep.vI r1 | obtain rfl := Rep.bI r1 | obtain rfl := Rep.nI r1 | cases r1); (first | obtain ⟨_, rfl⟩ := Rep.iI r2 | obtain ⟨_, rfl⟩ := Rep.sI r2 | obtain rfl := Rep.vI r2 | obtain rfl := Rep.bI r2 | obtain rfl := Rep.nI r2 | cases r2)
  rcases hT with rfl | rfl
  · exact call_isinstance (isinstance_false_str (by decide +kernel) F.isi_meta_tuple F.sub_str_tuple) (show PG c A I H Rep Q _ _ from ⟨I, R, _, Sub.refl _, hst.toks _, .bool _, h⟩)
  · exact call_isinstance (isinstance_false_str (by decide +kernel) F.isi_meta_bool F.sub_str_bool) (show PG c A I H Rep Q _ _ from ⟨I, R, _, Sub.refl _, hst.toks _, .bool _, h⟩)
theorem St.rngI {I : Heap} {H : Led} {s : Shared} {a b : Int} {t u v : Tok} (hs : St c A I (R ++ H) s) (h0 : -(2 ^ 62) ≤ a ∧ a < 2 ^ 62 ∧ -(2 ^ 62) ≤ b ∧ b < 2 ^ 62) (h : Q (.rng a (b - a).toNat) R) (k : Nat) :
    PG c A I H Rep Q (.ref s.heap.objs.size) { s with heap := s.heap.push { cls := .type "range", data := .fields #[.int a t, .int b u, .int 1 v] }, toks := k } := by
  obtain ⟨I', k1, e, hs'⟩ := hs.pushI (o := { cls := .type "range", data := .fields #[.int a t, .int b u, .int 1 v] }) k
  exact ⟨I', R, _, k1, hs', .rng _ a b _ t u v e rfl h0, h⟩
theorem ca_range1 {i : Int} (h1 : -(2 ^ 62) ≤ i) (h2 : i < 2 ^ 62) (h : Q (.rng 0 i.toNat) R) : Cal c A (.type "range") [.int i] R Q X := .mk fun I H s _ hst r => by
  obtain ⟨_, _, rfl, r1, rs⟩ := Reps.consI r
  obtain rfl := Reps.nilI rs; (first | obtain ⟨_, rfl⟩ := Rep.iI r1 | obtain ⟨_, rfl⟩ := Rep.sI r1 | obtain rfl := Rep.vI r1 | obtain rfl := Rep.bI r1 | obtain rfl := Rep.nI r1 | cases r1)
  refine call_range_1 (St.rngI hst ⟨by lia, by lia, h1, h2⟩ (by rw [Int.sub_zero]; exact h) _)
theorem ca_range2 {i j : Int} (h0 : -(2 ^ 62) ≤ i ∧ i < 2 ^ 62 ∧ -(2 ^ 62) ≤ j ∧ j < 2 ^ 62) (h : Q (.rng i (j - i).toNat) R) : Cal c A (.type "range") [.int i, .int j] R Q X := .mk fun I H s _ hst r => by
  obtain ⟨_, _, rfl, r1, rs⟩ := Reps.consI r
  obtain ⟨_, _, rfl, r2, rs⟩ := Reps.consI rs
  obtain rfl := Reps.nilI rs; (first | obtain ⟨_, rfl⟩ := Rep.iI r1 | obtain ⟨_, rfl⟩ := Rep.sI r1 | obtain rfl := Rep.vI r1 | obtain rfl := Rep.bI r1 | obtain rfl := Rep.nI r1 | cases r1); (first | obtain ⟨_, rfl⟩ := Rep.iI r2 | obtain ⟨_, rfl⟩ := Rep.sI r2 | obtain rfl := Rep.vI r2 | obtain rfl := Rep.bI r2 | obtain rfl := Rep.nI r2 | cases r2)
  exact call_range_2 (St.rngI hst h0 h _)
end
end Mine
end
section
open PySem PySem.W PySem.Calls PyProof.Rows PySem.Builtin
set_option Elab.async false
set_option tactic.hygienic false
set_option maxRecDepth 100000
set_option linter.unusedVariables false
set_option linter.unusedSectionVars false
namespace Mine
-- facts of the bytes methods
theorem slot_find : Slot "bytes" "find" "bytes.find" :=
  .of (owner := "bytes") (n := "find") (by rw [typeLookup_type, builtinLookup_eq_fast]; kernel_rfl) (by decide +kernel) (by decide +kernel) (by decide +kernel)
    (by first | exact .inl (by decide +kernel) | exact .inr (by decide +kernel)) (by rw [isSubtype_type]; kernel_rfl)
theorem type_find : typeOf (.builtin "bytes.find") = pure (.type "method_descriptor") := by show builtinType _ = _; rw [builtinType_eq_fast]; kernel_rfl
theorem entry_find : entryFor table "bytes.find" = some Builtin.«bytes.find» := entryFor_of_tree (by kernel_rfl)
theorem args_find (a b : Value) : argsOk "bytes.find" ⟨[a, b], []⟩ := by
  unfold argsOk; rw [signature?_of (id := "bytes.find") (n := ['d', 'n', 'i', 'f']) (o := ['s', 'e', 't', 'y', 'b']) (by kernel_rfl) FB.owner_bytes]; kernel_rfl
theorem slot_strip : Slot "bytes" "strip" "bytes.strip" :=
  .of (owner := "bytes") (n := "strip") (by rw [typeLookup_type, builtinLookup_eq_fast]; kernel_rfl) (by decide +kernel) (by decide +kernel) (by decide +kernel)
    (by first | exact .inl (by decide +kernel) | exact .inr (by decide +kernel)) (by rw [isSubtype_type]; kernel_rfl)
theorem type_strip : typeOf (.builtin "bytes.strip") = pure (.type "method_descriptor") := by show builtinType _ = _; rw [builtinType_eq_fast]; kernel_rfl
theorem entry_strip : entryFor table "bytes.strip" = some Builtin.«bytes.strip» := entryFor_of_tree (by kernel_rfl)
theorem args_strip (a b : Value) : argsOk "bytes.strip" ⟨[a, b], []⟩ := by
  unfold argsOk; rw [signature?_of (id := "bytes.strip") (n := ['p', 'i', 'r', 't', 's']) (o := ['s', 'e', 't', 'y', 'b']) (by kernel_rfl) FB.owner_bytes]; kernel_rfl
theorem slot_split : Slot "bytes" "split" "bytes.split" :=
  .of (owner := "bytes") (n := "split") (by rw [typeLookup_type, builtinLookup_eq_fast]; kernel_rfl) (by decide +kernel) (by decide +kernel) (by decide +kernel)
    (by first | exact .inl (by decide +kernel) | exact .inr (by decide +kernel)) (by rw [isSubtype_type]; kernel_rfl)
theorem type_split : typeOf (.builtin "bytes.split") = pure (.type "method_descriptor") := by show builtinType _ = _; rw [builtinType_eq_fast]; kernel_rfl
theorem entry_split : entryFor table "bytes.split" = some Builtin.«bytes.split» := entryFor_of_tree (by kernel_rfl)
theorem args_split (a b : Value) : argsOk "bytes.split" ⟨[a, b], []⟩ := by
  unfold argsOk; rw [signature?_of (id := "bytes.split") (n := ['t', 'i', 'l', 'p', 's']) (o := ['s', 'e', 't', 'y', 'b']) (by kernel_rfl) FB.owner_bytes]; kernel_rfl
theorem slot_join : Slot "bytes" "join" "bytes.join" :=
  .of (owner := "bytes") (n := "join") (by rw [typeLookup_type, builtinLookup_eq_fast]; kernel_rfl) (by decide +kernel) (by decide +kernel) (by decide +kernel)
    (by first | exact .inl (by decide +kernel) | exact .inr (by decide +kernel)) (by rw [isSubtype_type]; kernel_rfl)
theorem type_join : typeOf (.builtin "bytes.join") = pure (.type "method_descriptor") := by show builtinType _ = _; rw [builtinType_eq_fast]; kernel_rfl
theorem entry_join : entryFor table "bytes.join" = some Builtin.«bytes.join» := entryFor_of_tree (by kernel_rfl)
theorem args_join (a b : Value) : argsOk "bytes.join" ⟨[a, b], []⟩ := by
  unfold argsOk; rw [signature?_of (id := "bytes.join") (n := ['n', 'i', 'o', 'j']) (o := ['s', 'e', 't', 'y', 'b']) (by kernel_rfl) FB.owner_bytes]; kernel_rfl

section
variable {b d : Array UInt8} {t u : Tok}
theorem searchArgs_eq : Bytes.searchArgs .bytes "find" ⟨[.bytes b t, .bytes d u], []⟩ = pure (b, d, if (b.size : Int) < d.size then none else some (0, b.size)) := by
  unfold Bytes.searchArgs
  have h1 : ∀ id, selfAndSome id "find" 1 3 ⟨[.bytes b t, .bytes d u], []⟩ = pure (.bytes b t, [.bytes d u]) := fun id => by kernel_rfl
  dsimp only
  rw [h1]
  simp only [pure_bind]
  have h2 : ∀ (i : Nat) , Bytes.bound? [Value.bytes d u][i + 1]? = pure none := fun i => rfl
  have h3 : Bytes.payload (.bytes b t) = pure b := rfl
  rw [h2 0, h2 1]
  simp only [pure_bind]
  show (Bytes.buffer? _ (.bytes d u) >>= fun r => _) = _
  rw [KBy.buffer_eq, pure_bind]
  dsimp only
  rw [h3, pure_bind]
  unfold Bytes.window
  simp only [Option.getD_none]
  have e : ¬ ((b.size : Int) < 0) := by lia
  simp [if_neg e, Int.min_self]
theorem retInt_ok {M : Model} {A : Around} {E : Value → Shared → Prop} {s : Shared} {i : Int} {Q : Value → Shared → Prop} (hq : Q (.int i s.toks) { s with toks := s.toks + 1 }) : wpAny M A (retInt i) (fun fin s' => ∃ v, fin = .done (.ret v) ∧ Q v s') E s :=
  wpAny_bind (wpAny_mkInt (wpAny_pure ⟨_, rfl, hq⟩))
theorem gives_find (h : d.size ≤ b.size) : Gives («bytes.find» ⟨[.bytes b t, .bytes d u], []⟩) (.int (match Bytes.find? b d 0 b.size with | some i => (i : Int) | none => -1)) := by
  refine .of_wp fun M A E s Q hq => ?_
  show wpAny M A (Bytes.searchArgs .bytes "find" ⟨[.bytes b t, .bytes d u], []⟩ >>= fun r => _) _ E s
  rw [searchArgs_eq, pure_bind]
  rw [if_neg (by lia)]
  dsimp only
  rw [Option.bind_some]
  simp only [Bool.false_eq_true, if_false]
  cases e : Bytes.find? b d 0 b.size with
  | some i =>
    rw [e] at hq
    exact retInt_ok hq
  | none =>
    rw [e] at hq
    exact wpAny_bind (wpAny_rule (retInt_ok hq))
noncomputable def stripL {α : Type} (p : α → Bool) (l : List α) : List α := ((l.dropWhile p).reverse.dropWhile p).reverse
theorem stripL_length {α : Type} (p : α → Bool) (l : List α) : (stripL p l).length ≤ l.length := by
  unfold stripL
  rw [List.length_reverse]
  refine Nat.le_trans (List.dropWhile_sublist p).length_le ?_
  rw [List.length_reverse]
  exact (List.dropWhile_sublist p).length_le
theorem stripL_same {α : Type} (p : α → Bool) (l : List α) (h : (stripL p l).length = l.length) : stripL p l = l := by
  have h1 : (l.dropWhile p).length = l.length := by
    have a := (List.dropWhile_sublist (l := l) p).length_le
    have b : (stripL p l).length ≤ (l.dropWhile p).length := by
      unfold stripL
      rw [List.length_reverse]
      refine Nat.le_trans (List.dropWhile_sublist p).length_le ?_
      rw [List.length_reverse]; exact Nat.le_refl _
    lia
  have e1 : l.dropWhile p = l := (List.dropWhile_sublist p).eq_of_length h1
  unfold stripL at h ⊢
  rw [e1] at h ⊢
  rw [List.length_reverse] at h
  have e2 : l.reverse.dropWhile p = l.reverse := (List.dropWhile_sublist p).eq_of_length (by rw [h, List.length_reverse])
  rw [e2, List.reverse_reverse]
theorem meets_strip (hz : b.size ≤ sizeLine) : PySem.Meets («bytes.strip» ⟨[.bytes b t, .bytes d u], []⟩) (fun _ R s => ∀ t' k, R (.ok (.ret (.bytes (stripL d.contains b.toList).toArray t'))) { s with toks := k }) := by
  refine PySem.Meets.of_wp fun prog w A R s hS => ?_
  show wpAny _ _ (Bytes.stripM .bytes "strip" true true ⟨[.bytes b t, .bytes d u], []⟩) _ _ s
  unfold Bytes.stripM
  have h1 : ∀ id, selfAndSome id "strip" 0 1 ⟨[.bytes b t, .bytes d u], []⟩ = pure (.bytes b t, [.bytes d u]) := fun id => by kernel_rfl
  have h3 : Bytes.payload (.bytes b t) = pure b := rfl
  have h4 : ∀ id, Bytes.bytesLike id (.bytes d u) = pure d := fun id => by
    unfold Bytes.bytesLike
    rw [KBy.buffer_eq]; rfl
  dsimp only
  rw [h1, pure_bind]
  dsimp only
  rw [h4, pure_bind, pure_bind, h3, pure_bind]
  simp only [if_true]
  have e : (((b.toList.dropWhile d.contains).reverse.dropWhile d.contains).reverse) = stripL d.contains b.toList := rfl
  rw [e]
  by_cases q : (stripL d.contains b.toList).length = b.size
  · rw [if_pos (by simpa using q)]
    have e2 := stripL_same d.contains b.toList (by simpa using q)
    refine wpAny_bind (wpAny_rule ?_)
    unfold Bytes.Kind.same
    simp only [beq_self_eq_true, if_true]
    refine wpAny_bind (wpAny_bind (wpAny_typeOf (typeIs_bytes s b t) ?_))
    rw [if_pos (by rfl)]
    refine wpAny_pure (wpAny_pure ⟨_, rfl, ?_⟩)
    have := hS t s.toks
    rw [e2] at this
    exact this
  · rw [if_neg (by simpa using q)]
    refine wpAny_bind (wpAny_mkBytes (wpAny_pure ⟨_, rfl, hS _ _⟩) ?_)
    have := stripL_length d.contains b.toList
    simp at this ⊢
    lia
theorem meets_starts : PySem.Meets («bytes.startswith» ⟨[.bytes b t, .bytes d u], []⟩) (fun _ R s => ∀ k, R (.ok (.ret (.bool (if (b.size : Int) < d.size then false else b.extract 0 d.size == d)))) { s with toks := k }) := by
  refine PySem.Meets.of_wp fun prog w A R s hS => ?_
  show wpAny _ _ (Bytes.tailMatchM .bytes "startswith" false ⟨[.bytes b t, .bytes d u], []⟩) _ _ s
  unfold Bytes.tailMatchM
  have h1 : ∀ id, selfAndSome id "startswith" 1 3 ⟨[.bytes b t, .bytes d u], []⟩ = pure (.bytes b t, [.bytes d u]) := fun id => by kernel_rfl
  have h3 : Bytes.payload (.bytes b t) = pure b := rfl
  have h2 : ∀ (i : Nat) , Bytes.bound? [Value.bytes d u][i + 1]? = pure none := fun i => rfl
  have h5 : isInstance (.bytes d u) (.type "tuple") = pure false := by
    have e : isInstance (.bytes d u) (.type "tuple") = isSubtype (.type "bytes") (.type "tuple") := rfl
    rw [e, isSubtype_type]; kernel_rfl
  dsimp only
  rw [h1, pure_bind]
  dsimp only
  rw [h2 0, h2 1, pure_bind, pure_bind, h3, pure_bind]
  dsimp only [List.headD_cons]
  rw [h5, pure_bind]
  simp only [Bool.false_eq_true, if_false]
  rw [KBy.buffer_eq, pure_bind]
  dsimp only
  unfold Bytes.window
  have e : ¬ ((b.size : Int) < 0) := by lia
  simp only [Option.getD_none, if_neg e, Int.min_self]
  refine wpAny_pure ⟨_, rfl, ?_⟩
  have := hS s.toks
  simpa using this
end
end Mine
end
section
open PySem PySem.W PySem.Calls PyProof.Rows PySem.Builtin
set_option Elab.async false
set_option tactic.hygienic false
set_option maxRecDepth 100000
set_option linter.unusedVariables false
set_option linter.unusedSectionVars false
namespace Mine
/-- the pieces between the separators -/
noncomputable def splitL {α : Type} [BEq α] (x : α) : List α → List (List α)
  | [] => [[]]
  | y :: r => if y == x then [] :: splitL x r else (match splitL x r with | p :: ps => (y :: p) :: ps | [] => [[y]])
theorem splitL_ne {α : Type} [BEq α] (x : α) (l : List α) : splitL x l ≠ [] := by
  cases l with
  | nil => simp [splitL]
  | cons y r => unfold splitL; split <;> (try simp); split <;> simp
noncomputable def addHead {α : Type} (p : List α) : List (List α) → List (List α)
  | q :: qs => (p ++ q) :: qs
  | [] => [p]
theorem addHead_nil {α : Type} {l : List (List α)} (h : l ≠ []) : addHead [] l = l := by cases l with | nil => exact absurd rfl h | cons => simp [addHead]
noncomputable def posOf (x : UInt8) : List UInt8 → Nat → List Nat
  | [], _ => []
  | y :: r, k => if y == x then k :: posOf x r (k + 1) else posOf x r (k + 1)
theorem posOf_length (x : UInt8) : ∀ (l : List UInt8) (k : Nat), (posOf x l k).length ≤ l.length
  | [], _ => Nat.le_refl _
  | y :: r, k => by
    unfold posOf
    have := posOf_length x r (k + 1)
    split <;> simp <;> lia
theorem extract_one {b : Array UInt8} {x : UInt8} {i : Nat} {y : UInt8} (h : b.toList[i]? = some y) : (b.extract i (i + 1) == #[x]) = (y == x) := by
  have hi : i < b.size := by have := (List.getElem?_eq_some_iff.mp h).1; simpa using this
  have e : b.extract i (i + 1) = #[y] := by
    apply Array.toList_inj.mp
    rw [Array.toList_extract]
    simp only [List.extract_eq_take_drop, Nat.add_sub_cancel_left]
    rw [List.drop_eq_getElem_cons (by simpa using hi)]
    have := (List.getElem?_eq_some_iff.mp h).2
    simp [this]
  rw [e]
  rw [Bool.eq_iff_iff, beq_iff_eq, beq_iff_eq]
  exact ⟨fun h => by simpa using h, fun h => by rw [h]⟩

theorem occ_one (b : Array UInt8) (x : UInt8) : Bytes.occurrences b #[x] 0 b.size = posOf x b.toList 0 := by
  unfold Bytes.occurrences
  have key : ∀ (rest : List UInt8) (k : Nat) (acc : List Nat × Nat), b.toList.drop k = rest → acc.2 ≤ k →
      ((List.range' k rest.length).foldl (fun (acc : List Nat × Nat) (i : Nat) => if (i ≥ acc.2 && b.extract i (i + (#[x] : Array UInt8).size) == #[x]) = true then (i :: acc.1, i + (#[x] : Array UInt8).size) else acc) acc).1 = (posOf x rest k).reverse ++ acc.1 := by
    intro rest
    induction rest with
    | nil => intro k acc _ _; simp [posOf]
    | cons y r ih =>
      intro k acc hd hle
      have hy : b.toList[k]? = some y := by
        have := congrArg List.head? hd
        rw [List.head?_drop] at this
        exact this
      have hr : b.toList.drop (k + 1) = r := by
        have := congrArg List.tail hd
        rwa [List.tail_drop, List.tail_cons] at this
      rw [List.length_cons, List.range'_succ, List.foldl_cons]
      have e1 : (#[x] : Array UInt8).size = 1 := rfl
      rw [e1] at ih ⊢
      rw [extract_one hy]
      have hge : decide (k ≥ acc.2) = true := decide_eq_true hle
      rw [hge, Bool.true_and]
      unfold posOf
      cases q : (y == x) with
      | true =>
        rw [if_pos rfl, ih (k + 1) _ hr (Nat.le_refl _)]
        simp
      | false =>
        rw [if_neg (by simp), ih (k + 1) _ hr (by lia)]
        simp
  have := key b.toList 0 ([], 0) (by simp) (Nat.le_refl _)
  have e2 : ((List.range (b.size + 1 - (0 + (#[x] : Array UInt8).size))).map (· + 0)) = List.range' 0 b.toList.length := by
    have : (b.size + 1 - (0 + (#[x] : Array UInt8).size)) = b.size := by show b.size + 1 - (0 + 1) = _; lia
    rw [this, List.range_eq_range']; simp
  dsimp only
  rw [e2, this]
  simp

theorem between_one (b : Array UInt8) (x : UInt8) : (Bytes.between b 1 (posOf x b.toList 0)).map Array.toList = splitL x b.toList := by
  unfold Bytes.between
  have key : ∀ (rest : List UInt8) (k last : Nat) (parts : Array (Array UInt8)), b.toList.drop k = rest → last ≤ k → k ≤ b.size →
      (((((posOf x rest k).foldl (fun (q : Array (Array UInt8) × Nat) (p : Nat) => (q.1.push (b.extract q.2 p), p + 1)) (parts, last)).1.push
        (b.extract ((posOf x rest k).foldl (fun (q : Array (Array UInt8) × Nat) (p : Nat) => (q.1.push (b.extract q.2 p), p + 1)) (parts, last)).2 b.size)).toList).map Array.toList)
      = parts.toList.map Array.toList ++ addHead ((b.toList.drop last).take (k - last)) (splitL x rest) := by
    intro rest
    induction rest with
    | nil =>
      intro k last parts hd hle hk
      have hk2 : k = b.size := by
        have := congrArg List.length hd
        simp at this; lia
      subst hk2
      simp [posOf, splitL, addHead, List.extract_eq_take_drop]
    | cons y r ih =>
      intro k last parts hd hle hk
      have hlt : k < b.size := by
        have := congrArg List.length hd
        simp at this; lia
      have hy : b.toList[k]? = some y := by
        have := congrArg List.head? hd
        rw [List.head?_drop] at this
        exact this
      have hr : b.toList.drop (k + 1) = r := by
        have := congrArg List.tail hd
        rwa [List.tail_drop, List.tail_cons] at this
      unfold posOf splitL
      cases q : (y == x) with
      | true =>
        rw [if_pos rfl, if_pos rfl, List.foldl_cons]
        rw [ih (k + 1) (k + 1) _ hr (Nat.le_refl _) hlt]
        simp only [Nat.sub_self, List.take_zero]
        rw [addHead_nil (splitL_ne x r)]
        simp [addHead, List.extract_eq_take_drop]
      | false =>
        rw [if_neg (by simp), if_neg (by simp)]
        rw [ih (k + 1) last _ hr (by lia) hlt]
        congr 1
        have e : (b.toList.drop last).take (k + 1 - last) = (b.toList.drop last).take (k - last) ++ [y] := by
          have : k + 1 - last = (k - last) + 1 := by lia
          rw [this, List.take_add_one]
          congr 1
          rw [List.getElem?_drop]
          have : last + (k - last) = k := by lia
          rw [this, hy]; rfl
        rw [e]
        cases h : splitL x r with
        | nil => exact absurd h (splitL_ne x r)
        | cons p ps => simp [addHead]
  have := key b.toList 0 0 #[] (by simp) (Nat.le_refl _) (Nat.zero_le _)
  simp only [Array.toList_empty, List.map_nil, List.nil_append, Nat.sub_self, List.take_zero] at this
  rw [addHead_nil (splitL_ne x _)] at this
  exact this
/-- the values are those bytes -/
inductive BytesAre : List Value → List (List UInt8) → Prop
  | nil : BytesAre [] []
  | cons {b : Array UInt8} {t vs ps} : BytesAre vs ps → BytesAre (.bytes b t :: vs) (b.toList :: ps)
theorem mapM_new {M : Model} {A : Around} {E : Value → Shared → Prop} : ∀ (bs : List (Array UInt8)) (s : Shared) (Q : List Value → Shared → Prop), (∀ b ∈ bs, b.size ≤ sizeLine) → (∀ vs k, BytesAre vs (bs.map Array.toList) → Q vs { s with toks := k }) → wpAny M A (bs.mapM Bytes.Kind.bytes.new) Q E s
  | [], s, Q, _, h => by rw [List.mapM_nil]; exact wpAny_pure (h [] s.toks .nil)
  | b :: r, s, Q, hz, h => by
    rw [List.mapM_cons]
    refine wpAny_bind (wpAny_mkBytes (wpAny_bind (mapM_new r _ _ (fun x hx => hz x (.tail _ hx)) fun vs k hvs => wpAny_pure (h _ k (.cons hvs)))) (hz b (.head _)))
section
variable {b d : Array UInt8} {t u : Tok}
set_option tactic.hygienic true in
theorem parts_small {α : Type} [BEq α] (x : α) (l : List α) : (∀ p ∈ splitL x l, p.length ≤ l.length) ∧ (splitL x l).length ≤ l.length + 1 := by
  induction l with
  | nil => simp [splitL]
  | cons y r ih =>
    obtain ⟨h1, h2⟩ := ih
    unfold splitL
    split
    · refine ⟨fun p hp => ?_, by simp; lia⟩
      rcases List.mem_cons.mp hp with rfl | hp
      · simp
      · have := h1 p hp; simp; lia
    · split
      · rename_i p ps e
        rw [e] at h1 h2
        refine ⟨fun q hq => ?_, by simp at h2 ⊢; lia⟩
        rcases List.mem_cons.mp hq with rfl | hq
        · have := h1 p (.head _); simp; lia
        · have := h1 q (.tail _ hq); simp; lia
      · simp
theorem splitL_none {x : UInt8} : ∀ (l : List UInt8) (k : Nat), posOf x l k = [] → splitL x l = [l]
  | [], _, _ => rfl
  | y :: r, k, h => by
    unfold posOf at h
    unfold splitL
    cases q : (y == x) with
    | true => rw [q, if_pos rfl] at h; cases h
    | false =>
      rw [q, if_neg (by simp)] at h
      rw [if_neg (by simp), splitL_none r _ h]
theorem meets_split {x : UInt8} (hz : b.size < sizeLine) : PySem.Meets («bytes.split» ⟨[.bytes b t, .bytes #[x] u], []⟩) (fun _ R s =>
    ∀ vs k, BytesAre vs (splitL x b.toList) → R (.ok (.ret (.ref s.heap.objs.size))) { s with heap := s.heap.push { cls := .type "list", data := .seq vs.toArray }, toks := k }) := by
  refine PySem.Meets.of_wp fun prog w A R s hS => ?_
  show wpAny _ _ (Bytes.splitM .bytes "split" false ⟨[.bytes b t, .bytes #[x] u], []⟩) _ _ s
  unfold Bytes.splitM
  have h3 : Bytes.payload (.bytes b t) = pure b := rfl
  have h4 : ∀ id, Bytes.bytesLike id (.bytes #[x] u) = pure #[x] := fun id => by
    unfold Bytes.bytesLike
    rw [KBy.buffer_eq]; rfl
  have h5 : ∀ id, Bytes.bindOptional id "split" ["sep", "maxsplit"] [.bytes #[x] u] [] = pure [some (.bytes #[x] u), none] := fun id => by kernel_rfl
  dsimp only
  rw [h5, pure_bind]
  dsimp only
  rw [pure_bind, h3, pure_bind]
  rw [h4, pure_bind]
  have e0 : (#[x] : Array UInt8).isEmpty = false := rfl
  rw [e0, if_neg (by simp)]
  have e1 : ((Bytes.occurrences b #[x] 0 b.size).take (if (-1 : Int) < 0 then b.size + 1 else (-1 : Int).toNat)) = posOf x b.toList 0 := by
    rw [occ_one, if_pos (by decide)]
    refine List.take_of_length_le ?_
    have := posOf_length x b.toList 0
    simp at this; lia
  simp only [Bool.false_eq_true, if_false]
  rw [e1]
  have sz : ∀ p ∈ splitL x b.toList, p.length ≤ b.size := fun p hp => by have := (parts_small x b.toList).1 p hp; simpa using this
  have nn : (splitL x b.toList).length ≤ b.size + 1 := by have := (parts_small x b.toList).2; simpa using this
  cases hp : posOf x b.toList 0 with
  | nil =>
    rw [if_pos (show ([] : List Nat).isEmpty = true from rfl)]
    refine wpAny_bind (wpAny_rule ?_)
    unfold Bytes.Kind.same
    simp only [beq_self_eq_true, if_true]
    refine wpAny_bind (wpAny_bind (wpAny_typeOf (typeIs_bytes s b t) ?_))
    rw [if_pos (by rfl)]
    refine wpAny_pure (wpAny_bind (wpAny_newList (wpAny_pure ⟨_, rfl, ?_⟩) ?_))
    · refine hS _ s.toks ?_
      rw [splitL_none _ _ hp]
      exact .cons .nil
    · rw [sizeLine_is]; simp
  | cons p ps =>
    rw [if_neg (show ¬ ((p :: ps).isEmpty = true) by simp), ← hp]
    have e2 := between_one b x
    have e3 : (#[x] : Array UInt8).size = 1 := rfl
    rw [e3]
    refine wpAny_bind (mapM_new _ s _ (fun y hy => ?_) fun vs k hvs => ?_)
    · have := sz y.toList (by rw [← e2]; exact List.mem_map_of_mem hy)
      simp at this; lia
    · rw [e2] at hvs
      refine wpAny_bind (wpAny_newList (wpAny_pure ⟨_, rfl, hS vs k hvs⟩) ?_)
      have : vs.length = (splitL x b.toList).length := by
        clear hS hp
        generalize splitL x b.toList = ps at hvs
        induction hvs with
        | nil => rfl
        | cons _ ih => simp [ih]
      lia
end
end Mine
end
section
open PySem PySem.W PySem.Calls PyProof.Rows PySem.Builtin
set_option Elab.async false
set_option tactic.hygienic false
set_option maxRecDepth 100000
set_option linter.unusedVariables false
set_option linter.unusedSectionVars false
namespace Mine
theorem forIn_inv {M : Model} {A : Around} {E : Value → Shared → Prop} {α β : Type} {f : α → β → Sem (ForInStep β)} {s : Shared} {Q : β → Shared → Prop} (J : List α → β → Prop)
    (step : ∀ x r acc, J (x :: r) acc → wpAny M A (f x acc) (fun st s' => s' = s ∧ ∃ acc', st = .yield acc' ∧ J r acc') E s) (l : List α) (acc : β) (j : J l acc) (h : ∀ acc, J [] acc → Q acc s) : wpAny M A (forIn l acc f) Q E s := by
  induction l generalizing acc with
  | nil => rw [List.forIn_nil]; exact wpAny_pure (h acc j)
  | cons x r ih =>
    rw [List.forIn_cons]
    refine wpAny_bind (wpAny_mono (step x r acc j) (fun st s' zz => ?_) fun _ _ e => e)
    obtain ⟨rfl, acc', rfl, j'⟩ := zz
    exact ih acc' j'
theorem take_quiet {id : String} {b : Array UInt8} {t : Tok} : Bytes.takeBufferQuiet? id (.bytes b t) 0 = pure (some (b, none)) := by
  unfold Bytes.takeBufferQuiet? Bytes.takeBuffer?
  rw [KBy.special_eq KBy.look_buffer, KBy.own_buffer]
  have e : ∀ full, Bytes.buffer? id (.bytes b t) full = pure (some b) := fun full => by
    unfold Bytes.buffer?
    rw [KBy.special_eq KBy.look_buffer, KBy.own_buffer, KBy.own_release]
    kernel_rfl
  rw [e]
  rfl
theorem joinLetGo_ok {M : Model} {A : Around} {E : Value → Shared → Prop} {s : Shared} {Q : Unit → Shared → Prop} {keep : List Value} (h : Q () s) : ∀ (taken : List (Value × Option Value)), (∀ p ∈ taken, p.1.onHeap = false ∧ p.2 = none) → wpAny M A (Bytes.joinLetGo taken keep) Q E s
  | [], _ => wpAny_pure h
  | (x, w) :: r, hp => by
    have e : w = none := (hp (x, w) (.head _)).2
    subst e
    unfold Bytes.joinLetGo
    refine wpAny_bind (wpAny_letGo ?_)
    exact joinLetGo_ok h r fun p hp' => hp p (.tail _ hp')
section
variable {b d : Array UInt8} {t u : Tok}
theorem BytesAre.at {vs : List Value} {ps : List (List UInt8)} (h : BytesAre vs ps) : vs.length = ps.length ∧ ∀ i, i < vs.length → ∃ b t, vs.toArray.getD i Value.none = .bytes b t ∧ ps[i]? = some b.toList := by
  induction h with
  | nil => exact ⟨rfl, fun i hi => by simp at hi⟩
  | @cons b t vs ps _ ih =>
    refine ⟨by simp [ih.1], fun i hi => ?_⟩
    cases i with
    | zero => exact ⟨b, t, by simp, rfl⟩
    | succ i =>
      refine gP fun Gq hGq => ?_
      obtain ⟨b', t', e1, e2⟩ := ih.2 i (by simpa using hi)
      refine hGq ?_
      clear hGq
      refine ⟨b', t', ?_, by simpa using e2⟩
      simpa [Array.getD_eq_getD_getElem?] using e1
noncomputable def joinB {α : Type} (sep : List α) : List (List α) → List α
  | [] => []
  | [p] => p
  | p :: q :: r => p ++ sep ++ joinB sep (q :: r)
theorem joinB_cons {α : Type} (sep p : List α) : ∀ r, joinB sep (p :: r) = p ++ r.flatMap (sep ++ ·)
  | [] => by simp [joinB]
  | q :: r => by
    rw [joinB, joinB_cons sep q r]; simp
theorem joined_is (sep : Array UInt8) (parts : List (Array UInt8)) : (Bytes.joined sep parts).toList = joinB sep.toList (parts.map Array.toList) := by
  unfold Bytes.joined
  have key : ∀ (l : List (Array UInt8)) (k : Nat) (out : Array UInt8), 0 < k → ((l.zipIdx k).foldl (fun out (q : Array UInt8 × Nat) => (if q.2 > 0 then out ++ sep else out) ++ q.1) out).toList = out.toList ++ (l.map Array.toList).flatMap (sep.toList ++ ·) := by
    intro l
    induction l with
    | nil => intro k out _; simp
    | cons p r ih =>
      intro k out hk
      rw [List.zipIdx_cons, List.foldl_cons, ih (k + 1) _ (by lia)]
      simp [hk]
  cases parts with
  | nil => simp [joinB]
  | cons p r =>
    rw [List.zipIdx_cons, List.foldl_cons]
    have := key r (0 + 1) ((if (p, 0).2 > 0 then #[] ++ sep else #[]) ++ (p, 0).1) (by lia)
    refine this.trans ?_
    rw [List.map_cons, joinB_cons]
    simp
theorem joinB_length {α : Type} (sep : List α) : ∀ ps : List (List α), (joinB sep ps).length = (ps.map List.length).sum + sep.length * (ps.length - 1)
  | [] => rfl
  | [p] => by simp [joinB]
  | p :: q :: r => by
    rw [joinB, List.length_append, List.length_append, joinB_length sep (q :: r)]
    simp only [List.map_cons, List.sum_cons, List.length_cons, Nat.add_sub_cancel]
    rw [Nat.mul_succ]
    lia
theorem foldl_sizes (parts : List (Array UInt8)) (k : Nat) : parts.foldl (fun x1 x2 => x1 + x2.size) k = k + ((parts.map Array.toList).map List.length).sum := by
  induction parts generalizing k with
  | nil => simp
  | cons p r ih => rw [List.foldl_cons, ih]; simp; lia
theorem meets_join {l : Addr} {vs : List Value} {ps : List (List UInt8)} (hb : BytesAre vs ps) (hz : ∀ n, n = (ps.map List.length).sum + b.size * (ps.length - 1) → n ≤ sizeLine) : PySem.Meets («bytes.join» ⟨[.bytes b t, .ref l], []⟩) (fun _ R s =>
    s.heap.IsList l vs.toArray ∧ ∀ t k, R (.ok (.ret (.bytes (joinB b.toList ps).toArray t))) { s with toks := k }) := by
  refine PySem.Meets.of_wp fun prog w A R s hS => ?_
  obtain ⟨hl, hS⟩ := hS
  show wpAny _ _ (Bytes.joinM .bytes ⟨[.bytes b t, .ref l], []⟩) _ _ s
  unfold Bytes.joinM
  have h1 : ∀ id, selfAndOne id ⟨[.bytes b t, .ref l], []⟩ = pure (.bytes b t, .ref l) := fun id => by kernel_rfl
  have h3 : Bytes.payload (.bytes b t) = pure b := rfl
  refine gP fun Gq hGq => ?_
  obtain ⟨o, ho, hc, n, hdata⟩ := id hl
  refine hGq ?_
  clear hGq
  have items : ∀ {Q : Option (Array Value) → Shared → Prop} {E}, Q (some vs.toArray) s → wpAny (model prog w) A.in1 (seqItems? (.ref l)) Q E s := fun h => by
    unfold seqItems?
    refine wpAny_bind (wpAny_load ho ?_)
    rw [hdata]
    exact wpAny_pure h
  refine wpAny_bind (wpAny_of_eq (h1 _) ?_)
  refine bm_if_true (c := (Bytes.Kind.bytes == Bytes.Kind.bytes)) rfl ?_
  refine wpAny_bind ?_
  unfold Bytes.joinItems
  refine wpAny_bind (wpAny_typeOf hl.typeIs ?_)
  refine bm_if_true rfl ?_
  refine wpAny_pure ?_
  refine wpAny_bind (items ?_)
  refine bm_if_true (c := (Bytes.Kind.bytes == Bytes.Kind.bytes)) rfl ?_
  have hat := hb.at
  have key : ∀ (f : Nat → Array (Array UInt8) × List (Value × Option Value) → Sem (ForInStep (Array (Array UInt8) × List (Value × Option Value)))) (Q : Array (Array UInt8) × List (Value × Option Value) → Shared → Prop) (E : Value → Shared → Prop),
      (∀ i acc bi ti, i < vs.length → vs.toArray.getD i Value.none = .bytes bi ti → (∀ p ∈ acc.2, p.1.onHeap = false ∧ p.2 = none) → wpAny (model prog w) A.in1 (f i acc) (fun st s' => s' = s ∧ st = .yield (acc.1.push bi, acc.2 ++ [(.bytes bi ti, none)])) E s) →
      (∀ parts taken, parts.toList.map Array.toList = ps → (∀ p ∈ taken, p.1.onHeap = false ∧ p.2 = none) → Q (parts, taken) s) →
      wpAny (model prog w) A.in1 (forIn [:vs.toArray.size] (#[], []) f) Q E s := by
    intro f Q E hf hQ
    rw [Std.Legacy.Range.forIn_eq_forIn_range']
    have hsz : (Std.Legacy.Range.size [:vs.toArray.size]) = vs.length := by simp [Std.Legacy.Range.size]
    rw [hsz]
    refine forIn_inv (fun rem acc => ∃ i, rem = List.range' i (vs.length - i) ∧ i ≤ vs.length ∧ acc.1.toList.map Array.toList = ps.take i ∧ (∀ p ∈ acc.2, p.1.onHeap = false ∧ p.2 = none)) ?step _ _ ⟨0, by simp, Nat.zero_le _, by simp, by simp⟩ ?fin
    case step =>
      intro x r acc ⟨i, er, hi, h1, h2⟩
      have hlt : i < vs.length := by
        rcases Nat.lt_or_ge i vs.length with h | h
        · exact h
        · rw [Nat.sub_eq_zero_of_le h] at er; simp at er
      have e2 : vs.length - i = (vs.length - (i + 1)) + 1 := by lia
      rw [e2, List.range'_succ] at er
      obtain ⟨rfl, rfl⟩ := List.cons.inj er
      refine gP fun Gq hGq => ?_
      obtain ⟨bi, ti, e3, e4⟩ := hat.2 x hlt
      refine hGq ?_
      clear hGq
      refine wpAny_mono (hf x acc bi ti hlt e3 h2) (fun st s' ⟨e5, e6⟩ => ⟨e5, _, e6, x + 1, rfl, hlt, ?_, fun p hp => ?_⟩) fun _ _ e => e
      · rw [List.take_add_one, e4, ← h1]; simp
      · rcases List.mem_append.mp hp with hp | hp
        · exact h2 p hp
        · rw [List.mem_singleton] at hp; subst hp; exact ⟨rfl, rfl⟩
    case fin =>
      intro acc ⟨i, er, hi, h1, h2⟩
      have hge : i = vs.length := by
        rcases Nat.lt_or_ge i vs.length with h | h
        · have e2 : vs.length - i = (vs.length - (i + 1)) + 1 := by lia
          rw [e2, List.range'_succ] at er; cases er
        · lia
      refine hQ acc.1 acc.2 ?_ h2
      rw [h1, List.take_of_length_le (by have := hat.1; lia)]
  have jn : ∀ (parts : Array (Array UInt8)), parts.toList.map Array.toList = ps → (Bytes.joined b parts.toList) = (joinB b.toList ps).toArray := by
    intro parts e
    apply Array.toList_inj.mp
    rw [joined_is, e]
  have jl := joinB_length b.toList ps
  have jz : (joinB b.toList ps).toArray.size ≤ sizeLine := hz _ (by simpa using jl)
  have sm : ∀ (parts : Array (Array UInt8)), parts.toList.map Array.toList = ps → Array.foldl (fun x1 x2 => x1 + x2.size) (b.size * (parts.size - 1)) parts ≤ sizeLine := by
    intro parts e
    rw [← Array.foldl_toList, foldl_sizes, e]
    refine hz _ ?_
    have : parts.size = ps.length := by rw [← e]; simp
    rw [this]; lia
  rcases vs with _ | ⟨v, _ | ⟨v2, r⟩⟩
  case cons.nil =>
    cases hb with | @cons b1 t1 _ _ h =>
    cases h
    refine wpAny_bind (wpAny_typeOf (typeIs_bytes s b1 t1) ?_)
    refine bm_if_true rfl ?_
    refine wpAny_bind (wpAny_rule ?_)
    exact wpAny_pure ⟨_, rfl, hS t1 s.toks⟩
  all_goals
    refine wpAny_bind (key _ _ _ (fun i acc bi ti hi ei h2 => ?_) fun parts taken h1 h2 => ?_)
    · refine wpAny_bind (items ?_)
      refine bm_if_false (c := (Bytes.Kind.bytes == Bytes.Kind.bytearray || acc.2.any fun x => x.1.onHeap)) ?_ ?_
      · rw [Bool.or_eq_false_iff]
        refine ⟨rfl, ?_⟩
        rw [List.any_eq_false]
        intro p hp; rw [(h2 p hp).1]; simp
      rw [ei]
      refine wpAny_bind (wpAny_holding (wpAny_of_eq take_quiet ?_))
      refine wpAny_bind (items ?_)
      refine bm_if_false (by simp) ?_
      exact wpAny_pure ⟨rfl, rfl⟩
    · refine wpAny_bind (wpAny_of_eq h3 ?_)
      refine bm_if_false ?_ ?_
      · have := sm parts h1
        unfold Bytes.tooLong
        simp only [gt_iff_lt, decide_eq_false_iff_not, Nat.not_lt]
        exact this
      refine wpAny_bind (wpAny_mkBytes ?_ (by rw [jn parts h1]; exact jz))
      refine wpAny_bind (wpAny_holding (wpAny_point ?_))
      refine wpAny_bind (joinLetGo_ok ?_ taken h2)
      refine wpAny_pure ⟨_, rfl, ?_⟩
      rw [jn parts h1]
      exact hS _ _
end
end Mine
end
section
open PySem PySem.W PySem.Calls PyProof.Rows PySem.Builtin
set_option Elab.async false
set_option tactic.hygienic false
set_option maxRecDepth 100000
set_option linter.unusedVariables false
set_option linter.unusedSectionVars false
namespace Mine
abbrev un (b : Array UInt8) : List Nat := b.toList.map UInt8.toNat
theorem un_inj {a b : List UInt8} (h : a.map UInt8.toNat = b.map UInt8.toNat) : a = b :=
  List.map_inj_right (fun x y e => UInt8.toNat_inj.mp e) |>.mp h
theorem un_beq (a b : List UInt8) : (a == b) = (a.map UInt8.toNat == b.map UInt8.toNat) := by
  rw [Bool.eq_iff_iff, beq_iff_eq, beq_iff_eq]
  exact ⟨fun h => by rw [h], un_inj⟩
noncomputable def findN (x : Nat) (l : List Nat) : Int := match l.findIdx? (· == x) with | some i => (i : Int) | none => -1
theorem find_one (b : Array UInt8) (x : UInt8) : Bytes.find? b #[x] 0 b.size = (un b).findIdx? (· == x.toNat) := by
  unfold Bytes.find?
  have key : ∀ (rest : List UInt8) (k : Nat), b.toList.drop k = rest →
      (List.range' k rest.length).find? (fun i => b.extract i (i + (#[x] : Array UInt8).size) == #[x]) = ((rest.map UInt8.toNat).findIdx? (· == x.toNat)).map (· + k) := by
    intro rest
    induction rest with
    | nil => intro k _; simp
    | cons y r ih =>
      intro k hd
      have hy : b.toList[k]? = some y := by
        have := congrArg List.head? hd
        rw [List.head?_drop] at this
        exact this
      have hr : b.toList.drop (k + 1) = r := by
        have := congrArg List.tail hd
        rwa [List.tail_drop, List.tail_cons] at this
      have e1 : (#[x] : Array UInt8).size = 1 := rfl
      rw [e1] at ih ⊢
      rw [List.length_cons, List.range'_succ, List.find?_cons, extract_one hy, List.map_cons, List.findIdx?_cons]
      have e2 : (y.toNat == x.toNat) = (y == x) := by
        rw [Bool.eq_iff_iff, beq_iff_eq, beq_iff_eq]; exact UInt8.toNat_inj
      rw [e2]
      cases q : (y == x) with
      | true => simp
      | false =>
        simp only [Bool.false_eq_true, if_false]
        rw [ih (k + 1) hr, Option.map_map]
        congr 1
        funext i; simp; lia
  have e2 : ((List.range (b.size + 1 - (0 + (#[x] : Array UInt8).size))).map (· + 0)) = List.range' 0 b.toList.length := by
    have : (b.size + 1 - (0 + (#[x] : Array UInt8).size)) = b.size := by show b.size + 1 - (0 + 1) = _; lia
    rw [this, List.range_eq_range']; simp
  rw [e2, key b.toList 0 (by simp)]
  simp
section
variable {c : Cx} {A : Around} {env : Env} {L : Addr} {sc : Scope} {ns : List Str} {vs vs' : List (Option D)} {gl gl' : List (Str × D)} {R R0 R1 R' : Led} {Q : D → Led → Prop} {Qb : Bool → Led → Prop} {X : Addr → D → Led → Prop} {a : Addr} {n : Nat} {l m : List Nat}
theorem gm_by {name : Str} {id : String} (slot : Slot "bytes" name id) (hty : typeOf (.builtin id) = pure (.type "method_descriptor")) : GetM c (.bytes l) name R (.builtin id) := by
  intro A I H s v pl Z E hs r hz
  (first | obtain ⟨_, rfl⟩ := Rep.iI r | obtain ⟨_, rfl⟩ := Rep.sI r | obtain rfl := Rep.vI r | obtain rfl := Rep.bI r | obtain rfl := Rep.nI r | cases r)
  exact getMethod_builtin (typeIs_bytes _ _ _) FB.plainAttrs_bytes slot hty (fun b e => by cases e) hz
theorem un_size {b : Array UInt8} {l : List Nat} (e : b.toList.map UInt8.toNat = l) : b.size = l.length := by rw [← e]; simp
theorem one_of {b : Array UInt8} {x : Nat} (e : b.toList.map UInt8.toNat = [x]) : ∃ u : UInt8, b = #[u] ∧ u.toNat = x := by
  have hl : b.toList.length = 1 := by have := congrArg List.length e; simpa using this
  match h : b.toList, hl with
  | [u], _ =>
    rw [h] at e
    refine ⟨u, Array.toList_inj.mp (by rw [h]), by simpa using e⟩
theorem ca_find {x : Nat} (hz : l ≠ []) (h : Q (.int (findN x l)) R) : Cal c A (.builtin "bytes.find") [.bytes l, .bytes [x]] R Q X := .mk fun I H s _ hst r => by
  obtain ⟨_, _, rfl, r1, rs⟩ := Reps.consI r; obtain ⟨_, _, rfl, r2, rs⟩ := Reps.consI rs
  obtain rfl := Reps.nilI rs
  obtain ⟨b, t, rfl, e1⟩ := Rep.yI r1
  obtain ⟨d, u, rfl, e2⟩ := Rep.yI r2
  obtain ⟨y, rfl, rfl⟩ := one_of e2
  have hb : 1 ≤ b.size := by rw [un_size e1]; cases l with | nil => exact absurd rfl hz | cons => simp
  refine call_gives slot_find (typeIs_bytes _ _ _) entry_find (args_find _ _) (gives_find hb) (show PG c A I H Rep Q _ _ from ⟨I, R, _, Sub.refl _, hst.toks _, .int _ _, ?_⟩)
  rw [find_one]
  have : un b = l := e1
  rw [this]; exact h
theorem ca_find0 {x : Nat} (h : Q (.int (-1)) R) : Cal c A (.builtin "bytes.find") [.bytes [], .bytes [x]] R Q X := .mk fun I H s _ hst r => by
  obtain ⟨_, _, rfl, r1, rs⟩ := Reps.consI r; obtain ⟨_, _, rfl, r2, rs⟩ := Reps.consI rs
  obtain rfl := Reps.nilI rs
  obtain ⟨b, t, rfl, e1⟩ := Rep.yI r1
  obtain ⟨d, u, rfl, e2⟩ := Rep.yI r2
  obtain ⟨y, rfl, rfl⟩ := one_of e2
  have hb : b = #[] := by have := un_size e1; simpa using this
  subst hb
  have g : Gives («bytes.find» ⟨[.bytes #[] t, .bytes #[y] u], []⟩) (.int (-1)) := by
    refine .of_wp fun M A E s Q hq => ?_
    show wpAny M A (Bytes.searchArgs .bytes "find" ⟨[.bytes #[] t, .bytes #[y] u], []⟩ >>= fun r => _) _ E s
    rw [searchArgs_eq, pure_bind]
    exact wpAny_bind (wpAny_rule (retInt_ok hq))
  exact call_gives slot_find (typeIs_bytes _ _ _) entry_find (args_find _ _) g (show PG c A I H Rep Q _ _ from ⟨I, R, _, Sub.refl _, hst.toks _, .int _ _, h⟩)
theorem ca_starts (h : Q (.bool (l.take m.length == m)) R) : Cal c A (.builtin "bytes.startswith") [.bytes l, .bytes m] R Q X := .mk fun I H s _ hst r => by
  obtain ⟨_, _, rfl, r1, rs⟩ := Reps.consI r; obtain ⟨_, _, rfl, r2, rs⟩ := Reps.consI rs
  obtain rfl := Reps.nilI rs
  obtain ⟨b, t, rfl, e1⟩ := Rep.yI r1
  obtain ⟨d, u, rfl, e2⟩ := Rep.yI r2
  refine call_meets FB.slot_bytes_startswith (typeIs_bytes _ _ _) FB.entry_bytes_startswith (FB.args_bytes_startswith_2 _ _) meets_starts fun k => ⟨I, R, _, Sub.refl _, hst.toks _, .bool _, ?_⟩
  have e : (if (b.size : Int) < d.size then false else b.extract 0 d.size == d) = (l.take m.length == m) := by
    rw [un_size e1, un_size e2, ← e1, ← e2]
    simp only [List.length_map]
    rw [← List.map_take, ← un_beq]
    rw [Bool.eq_iff_iff, beq_iff_eq]
    constructor
    · intro h
      split at h
      · cases h
      · rw [beq_iff_eq] at h
        have := congrArg Array.toList h
        rw [Array.toList_extract] at this
        simpa [List.extract_eq_take_drop] using this
    · intro h
      have hl := congrArg List.length h
      rw [List.length_take] at hl
      rw [if_neg (by simp at hl ⊢; lia), beq_iff_eq]
      apply Array.toList_inj.mp
      rw [Array.toList_extract]
      simpa [List.extract_eq_take_drop] using h
  rw [e]; exact h
theorem drop_un {p : UInt8 → Bool} {q : Nat → Bool} (h : ∀ x, p x = q x.toNat) : ∀ l : List UInt8, (l.dropWhile p).map UInt8.toNat = (l.map UInt8.toNat).dropWhile q
  | [] => rfl
  | x :: r => by
    rw [List.map_cons, List.dropWhile_cons, List.dropWhile_cons, ← h x]
    split
    · exact drop_un h r
    · rfl
theorem strip_un {p : UInt8 → Bool} {q : Nat → Bool} (h : ∀ x, p x = q x.toNat) (l : List UInt8) : (stripL p l).map UInt8.toNat = stripL q (l.map UInt8.toNat) := by
  unfold stripL
  rw [List.map_reverse, drop_un h, List.map_reverse, drop_un h]
theorem ca_strip (hz : l.length ≤ sizeLine) (h : Q (.bytes (stripL m.contains l)) R) : Cal c A (.builtin "bytes.strip") [.bytes l, .bytes m] R Q X := .mk fun I H s _ hst r => by
  obtain ⟨_, _, rfl, r1, rs⟩ := Reps.consI r; obtain ⟨_, _, rfl, r2, rs⟩ := Reps.consI rs
  obtain rfl := Reps.nilI rs
  obtain ⟨b, t, rfl, e1⟩ := Rep.yI r1
  obtain ⟨d, u, rfl, e2⟩ := Rep.yI r2
  refine call_meets slot_strip (typeIs_bytes _ _ _) entry_strip (args_strip _ _) (meets_strip (by rw [un_size e1]; exact hz)) fun t' k => ⟨I, R, _, Sub.refl _, hst.toks _, .bytes _ _ _ ?_, h⟩
  rw [List.toList_toArray, strip_un (q := m.contains) (fun x => ?_), e1]
  rw [Bool.eq_iff_iff, Array.contains_iff_mem, List.contains_iff_mem, ← e2, List.mem_map, ← Array.mem_toList_iff]
  exact ⟨fun hx => ⟨x, hx, rfl⟩, fun ⟨y, hy, e⟩ => UInt8.toNat_inj.mp e ▸ hy⟩
theorem split_un (x : UInt8) : ∀ l : List UInt8, (splitL x l).map (·.map UInt8.toNat) = splitL x.toNat (l.map UInt8.toNat)
  | [] => rfl
  | y :: r => by
    have ih := split_un x r
    have e2 : (y.toNat == x.toNat) = (y == x) := by
      rw [Bool.eq_iff_iff, beq_iff_eq, beq_iff_eq]; exact UInt8.toNat_inj
    rw [List.map_cons, splitL, splitL, e2, ← ih]
    split
    · simp
    · cases splitL x r <;> simp
theorem BytesAre.reps {I : Heap} {vs : List Value} {ps : List (List UInt8)} (h : BytesAre vs ps) : Reps I vs (ps.map fun p => D.bytes (p.map UInt8.toNat)) := by
  induction h with
  | nil => exact .nil
  | cons _ ih => exact .cons (.bytes _ _ _ rfl) ih
theorem ca_split {x : Nat} (hz : l.length < sizeLine) (h : NewL Q ((splitL x l).map .bytes) R) : Cal c A (.builtin "bytes.split") [.bytes l, .bytes [x]] R Q X := .mk fun I H s _ hst r => by
  obtain ⟨_, _, rfl, r1, rs⟩ := Reps.consI r; obtain ⟨_, _, rfl, r2, rs⟩ := Reps.consI rs
  obtain rfl := Reps.nilI rs
  obtain ⟨b, t, rfl, e1⟩ := Rep.yI r1
  obtain ⟨d, u, rfl, e2⟩ := Rep.yI r2
  obtain ⟨y, rfl, rfl⟩ := one_of e2
  refine call_meets slot_split (typeIs_bytes _ _ _) entry_split (args_split _ _) (meets_split (by rw [un_size e1]; exact hz)) fun vs k hvs => ?_
  refine NewL.at hst ?_ h k
  have := hvs.reps (I := I)
  rw [← e1, ← split_un, List.map_map]
  exact this
theorem reps_bytes {I : Heap} {vs : List Value} {ps : List (List Nat)} (r : Reps I vs (ps.map .bytes)) : ∃ qs, BytesAre vs qs ∧ qs.map (·.map UInt8.toNat) = ps := by
  induction ps generalizing vs with
  | nil => rw [Reps.nilI r]; exact ⟨[], .nil, rfl⟩
  | cons p ps ih =>
    obtain ⟨v0, ws, rfl, r0, rs⟩ := Reps.consI r
    obtain ⟨qs, h1, h2⟩ := ih rs
    obtain ⟨b, t, rfl, e⟩ := Rep.yI r0
    exact ⟨_, .cons h1, by rw [List.map_cons, h2, e]⟩
theorem join_un (sep : List UInt8) : ∀ ps : List (List UInt8), (joinB sep ps).map UInt8.toNat = joinB (sep.map UInt8.toNat) (ps.map (·.map UInt8.toNat))
  | [] => rfl
  | [p] => rfl
  | p :: q :: r => by
    rw [joinB, List.map_append, List.map_append, join_un sep (q :: r)]
    rfl
theorem ca_join {d : D} {ps : List (List Nat)} (lv : LV R d (ps.map .bytes)) (hz : (joinB l ps).length ≤ sizeLine) (h : Q (.bytes (joinB l ps)) R) : Cal c A (.builtin "bytes.join") [.bytes l, d] R Q X := .mk fun I H s _ hst r => by
  obtain ⟨_, _, rfl, r1, rs⟩ := Reps.consI r; obtain ⟨_, _, rfl, r2, rs⟩ := Reps.consI rs
  obtain rfl := Reps.nilI rs
  obtain ⟨b, t, rfl, e1⟩ := Rep.yI r1
  obtain ⟨a, vs, rfl, hl, y, hsz⟩ := lv.at hst r2
  obtain ⟨qs, h1, h2⟩ := reps_bytes y
  refine call_meets slot_join (typeIs_bytes _ _ _) entry_join (args_join _ _) (meets_join h1 (fun n hn => ?_)) ⟨hl, fun t' k => ⟨I, R, _, Sub.refl _, hst.toks _, .bytes _ _ _ ?_, h⟩⟩
  · rw [hn]
    refine Nat.le_trans (Nat.le_of_eq ?_) hz
    rw [joinB_length, ← h2, un_size e1]
    simp only [List.length_map]
    congr 2
    rw [List.map_map]; congr 1; funext x; simp
  · rw [List.toList_toArray, join_un, h2, e1]
end
end Mine
end
section
open PySem PySem.W PySem.Calls PyProof.Rows PySem.Builtin
set_option Elab.async false
set_option tactic.hygienic false
set_option maxRecDepth 100000
set_option linter.unusedVariables false
set_option linter.unusedSectionVars false
namespace Mine
section
variable {c : Cx} {A : Around} {env : Env} {L : Addr} {sc : Scope} {ns : List Str} {vs vs' : List (Option D)} {gl gl' : List (Str × D)} {R R0 R1 R' : Led} {Q : D → Led → Prop} {Qb : Bool → Led → Prop} {X : Addr → D → Led → Prop} {a : Addr} {n : Nat} {l m : List Nat}
theorem ca_lenB (hz : l.length ≤ 1000000000) (h : Q (.int (l.length : Int)) R) : Cal c A (.builtin "len") [.bytes l] R Q X := .mk fun I H s _ hst r => by
  obtain ⟨_, _, rfl, r1, rs⟩ := Reps.consI r
  obtain rfl := Reps.nilI rs
  obtain ⟨b, t, rfl, e1⟩ := Rep.yI r1
  refine len_bytes (by rw [un_size e1]; lia) ⟨I, R, _, Sub.refl _, hst.toks _, ?_, h⟩
  rw [un_size e1]; exact .int _ _
theorem ca_lenS {x : Str} (hz : x.length ≤ 1000000000) (h : Q (.int (x.length : Int)) R) : Cal c A (.builtin "len") [.str x] R Q X := .mk fun I H s _ hst r => by
  obtain ⟨_, _, rfl, r1, rs⟩ := Reps.consI r
  obtain rfl := Reps.nilI rs
  (first | obtain ⟨_, rfl⟩ := Rep.iI r1 | obtain ⟨_, rfl⟩ := Rep.sI r1 | obtain rfl := Rep.vI r1 | obtain rfl := Rep.bI r1 | obtain rfl := Rep.nI r1 | cases r1)
  exact PySem.P.len_str (by lia) ⟨I, R, _, Sub.refl _, hst.toks _, .int _ _, h⟩
theorem su_bytesI {value slice : Expr} {k : Int} {x : Nat} (h0 : 0 ≤ k) (hz : l.length ≤ 1000000000) (hx : l[k.toNat]? = some x) (h : Q (.int (x : Int)) R)
    (hs : ∀ o i, subscripted slice false o i = operate [o, i] (getItem o i) := by intro _ _; rfl) : Sub2 c A value slice (.bytes l) (.int k) R Q X := .mk fun I H s _ _ hst r1 r2 => by
  (first | obtain ⟨_, rfl⟩ := Rep.iI r2 | obtain ⟨_, rfl⟩ := Rep.sI r2 | obtain rfl := Rep.vI r2 | obtain rfl := Rep.bI r2 | obtain rfl := Rep.nI r2 | cases r2)
  obtain ⟨b, t, rfl, e1⟩ := Rep.yI r1
  have lt : k.toNat < l.length := (List.getElem?_eq_some_iff.mp hx).1
  have hb : b = b.toList.toArray := by simp
  have hl : b.toList.length = l.length := by rw [← e1]; simp
  refine tail_any (typeIs_bytes _ _ _) FB.slot_bytes_getitem.lookup ?_ (hs _ _)
  rw [hb]
  refine getItem_bytes (l := b.toList) (by lia) h0 (by lia) ⟨I, R, _, Sub.refl _, hst.toks _, ?_, h⟩
  have : (b.toList.getD k.toNat 0).toNat = x := by
    rw [← e1] at hx
    rw [List.getElem?_map, Option.map_eq_some_iff] at hx
    obtain ⟨u, hu, rfl⟩ := hx
    rw [List.getD_eq_getElem?_getD, hu]; rfl
  rw [this]; exact .int _ _
theorem un_cut {b : Array UInt8} (e1 : b.toList.map UInt8.toNat = l) (lo hi : Option Int) : (KBy.picked b lo hi).toList.map UInt8.toNat = cut l lo hi := by
  rw [KBc.picked_eq, List.toList_toArray, ← e1]
  unfold cut
  simp only [List.length_map, Array.length_toList, List.map_take, List.map_drop]
theorem su_bytesS {value slice : Expr} {lo hi : Option Int} (hz : l.length ≤ sizeLine) (h : Q (.bytes (cut l lo hi)) R)
    (hs : ∀ o i, subscripted slice false o i = operate [i, o] (getItem o i) := by intro _ _; rfl) : Sub2 c A value slice (.bytes l) (.slc lo hi none) R Q X := .mk fun I H s _ _ hst r1 r2 => by
  obtain ⟨b, t, rfl, e1⟩ := Rep.yI r1
  cases r2 with | slc q lv uv tv lo hi st x p1 p2 p3 =>
  cases p3
  obtain ⟨o, ho, hc, hd⟩ := x
  have hsz : (KBy.picked b lo hi).size ≤ sizeLine := by
    have := KBc.size_picked_le b lo hi
    rw [un_size e1] at this; lia
  exact tail_any (typeIs_bytes _ _ _) FB.slot_bytes_getitem.lookup (getItem_meets (typeIs_bytes _ _ _) (by decide) FB.slot_bytes_getitem FB.entry_bytes_getitem (FB.args_bytes_getitem_2 _ _) (KBc.meets_slice2 b t _ p1 p2)
    ⟨⟨o, hst.up _ _ ho, hc, hd⟩, hsz, fun t' k => (show PG c A I H Rep Q _ _ from ⟨I, R, _, Sub.refl _, hst.toks _, .bytes _ _ _ (un_cut e1 lo hi), h⟩)⟩) (hs _ _)
/-- the last of a list -/
theorem su_last {value slice : Expr} {d x : D} {ds : List D} (lv : LV R d (ds ++ [x])) (hz : ds.length ≤ 1000000000) (h : Q x R)
    (hs : ∀ o i, subscripted slice false o i = operate [o, i] (getItem o i) := by intro _ _; rfl) : Sub2 c A value slice d (.int (-1)) R Q X := .mk fun I H s _ _ hst r1 r2 => by
  (first | obtain ⟨_, rfl⟩ := Rep.iI r2 | obtain ⟨_, rfl⟩ := Rep.sI r2 | obtain rfl := Rep.vI r2 | obtain rfl := Rep.bI r2 | obtain rfl := Rep.nI r2 | cases r2)
  obtain ⟨a, vs, rfl, hl, y, hsz⟩ := lv.at hst r1
  rw [List.length_append, List.length_singleton] at hsz
  obtain ⟨v, hv, r⟩ := y.get (i := ds.length) (d := x) (by simp)
  have fin : PG c A I H Rep Q v s := ⟨I, R, _, Sub.refl _, hst, r, h⟩
  have ej : ((-1 : Int) + (vs.size : Int)).toNat = ds.length := by lia
  exact tail_any hl.typeIs slot_list_getitem.lookup (wpAny_getItem_list_neg (k := -1) hl (by decide) (by lia) (by decide) (by rw [ej]; simpa using hv) fin) (hs _ _)
theorem cm_eqBy (h : Q (.bool (l == m)) R) : Cmp c A .Eq (.bytes l) (.bytes m) R Q X := .mk fun I H s _ _ hst r1 r2 => by
  obtain ⟨b, t, rfl, e1⟩ := Rep.yI r1
  obtain ⟨d, u, rfl, e2⟩ := Rep.yI r2
  refine eq_bytes ⟨I, R, _, Sub.refl _, hst, .bool _, ?_⟩
  rw [un_beq, e1, e2]; exact h
theorem cm_neBy (h : Q (.bool (l != m)) R) : Cmp c A .NotEq (.bytes l) (.bytes m) R Q X := .mk fun I H s _ _ hst r1 r2 => by
  obtain ⟨b, t, rfl, e1⟩ := Rep.yI r1
  obtain ⟨d, u, rfl, e2⟩ := Rep.yI r2
  refine ne_bytes ⟨I, R, _, Sub.refl _, hst, .bool _, ?_⟩
  rw [show (b.toList != d.toList) = !(b.toList == d.toList) from rfl, un_beq, e1, e2]; exact h
theorem bi_addBy (hz : l.length + m.length ≤ 16777216) (h : Q (.bytes (l ++ m)) R) : Bin c A .Add (.bytes l) (.bytes m) R Q X := .mk fun I H s _ _ hst r1 r2 => by
  obtain ⟨b, t, rfl, e1⟩ := Rep.yI r1
  obtain ⟨d, u, rfl, e2⟩ := Rep.yI r2
  refine KBy.add_bytes (by rw [un_size e1, un_size e2]; exact hz) fun t' k => ⟨I, R, _, Sub.refl _, hst.toks _, .bytes _ _ _ ?_, h⟩
  rw [Array.toList_append, List.map_append, e1, e2]
theorem reps_ints {I : Heap} {vs : List Value} {ns : List Int} (r : Reps I vs (ns.map .int)) : IntsAre vs ns := by
  induction ns generalizing vs with
  | nil => rw [Reps.nilI r]; exact .nil
  | cons n ns ih =>
    obtain ⟨v0, ws, rfl, r0, rs⟩ := Reps.consI r
    obtain ⟨t, rfl⟩ := Rep.iI r0
    exact .cons _ _ (ih rs)
theorem ca_bytesL {d : D} {ks : List Nat} (rm : Rm A n) (lv : LV R d (ks.map fun k : Nat => D.int (k : Int))) (hk : ∀ k ∈ ks, k < 256) (hz : ks.length ≤ sizeLine) (h : Q (.bytes ks) R) : Cal c A (.type "bytes") [d] R Q X := .mk fun I H s _ hst r => by
  obtain ⟨_, _, rfl, r1, rs⟩ := Reps.consI r
  obtain rfl := Reps.nilI rs
  obtain ⟨a, vs, rfl, hl, y, hsz⟩ := lv.at hst r1
  have y' : Reps I vs.toList ((ks.map fun k : Nat => (k : Int)).map .int) := by rw [List.map_map]; exact y
  refine call_bytes_ints (vs := vs.toList) (by simpa using hl) (reps_ints y') (fun n hn => ?_) (by rw [List.length_map] at hsz; rw [Array.length_toList]; lia) rm.handled fun h' t k hk' => ⟨I, R, _, Sub.refl _, hst.ext hk' k, .bytes _ _ _ ?_, h⟩
  · obtain ⟨k, hk2, rfl⟩ := List.mem_map.mp hn
    have := hk k hk2; lia
  · unfold byteArr
    rw [List.toList_toArray, List.map_map, List.map_map]
    refine (List.map_congr_left (g := fun k => k) fun k hk2 => ?_).trans (List.map_id' _)
    have := hk k hk2
    show ((k : Int).toNat.toUInt8).toNat = k
    rw [Int.toNat_natCast]
    show k % 256 = k
    lia
-- str.join
theorem gm_str {x : Str} {name : Str} {id : String} (slot : Slot "str" name id) (hty : typeOf (.builtin id) = pure (.type "method_descriptor")) (pa : PlainAttrs "str") : GetM c (.str x) name R (.builtin id) := by
  intro A I H s v pl Z E hs r hz
  (first | obtain ⟨_, rfl⟩ := Rep.iI r | obtain ⟨_, rfl⟩ := Rep.sI r | obtain rfl := Rep.vI r | obtain rfl := Rep.bI r | obtain rfl := Rep.nI r | cases r)
  exact getMethod_builtin (typeIs_str _ _ _) pa slot hty (fun b e => by cases e) hz
theorem reps_strs {I : Heap} {vs : List Value} {xs : List Str} (r : Reps I vs (xs.map .str)) : ∃ l : List (Str × Tok), PySem.strValues l = vs ∧ l.map (·.1) = xs := by
  induction xs generalizing vs with
  | nil => exact ⟨[], (Reps.nilI r).symm, rfl⟩
  | cons x xs ih =>
    obtain ⟨v0, ws, rfl, r0, rs⟩ := Reps.consI r
    obtain ⟨l, rfl, rfl⟩ := ih rs
    obtain ⟨t, rfl⟩ := Rep.sI r0
    exact ⟨(x, t) :: l, rfl, rfl⟩
noncomputable def gluedS (sep : Str) (xs : List Str) : Str := ⟨(joinB sep.cps.toList (xs.map (·.cps.toList))).toArray⟩
theorem glued_is (sep : Str) (xs : List Str) : Builtin.Str.glued sep xs = gluedS sep xs := by
  unfold Builtin.Str.glued gluedS
  congr 1
  apply Array.toList_inj.mp
  rw [List.toList_toArray]
  cases xs with
  | nil => rfl
  | cons x r =>
    rw [List.map_cons, joinB_cons]
    have key : ∀ (l : List Str) (acc : Array Nat), (l.foldl (fun acc p => acc ++ sep.cps ++ p.cps) acc).toList = acc.toList ++ (l.map (·.cps.toList)).flatMap (sep.cps.toList ++ ·) := by
      intro l
      induction l with
      | nil => intro acc; simp
      | cons y l ih => intro acc; rw [List.foldl_cons, ih]; simp
    have := key r x.cps
    simpa using this
theorem ca_joinS {sep : Str} {d : D} {xs : List Str} (lv : LV R d (xs.map .str)) (hz : (xs.map fun x => x.length + sep.length).sum ≤ 16777216) (h : Q (.str (gluedS sep xs)) R) : Cal c A (.builtin "str.join") [.str sep, d] R Q X := .mk fun I H s _ hst r => by
  obtain ⟨_, _, rfl, r1, rs⟩ := Reps.consI r; obtain ⟨_, _, rfl, r2, rs⟩ := Reps.consI rs
  obtain rfl := Reps.nilI rs; obtain ⟨tk, rfl⟩ := Rep.sI r1
  obtain ⟨a, vs, rfl, hl, y, hsz⟩ := lv.at hst r2
  obtain ⟨l, h1, h2⟩ := reps_strs y
  have hf : ∀ (l : List Str) (k : Nat), l.foldl (fun x1 x2 => x1 + x2.length + sep.length) k = k + (l.map fun x => x.length + sep.length).sum := by
    intro l
    induction l with
    | nil => intro k; simp
    | cons x r ih => intro k; rw [List.foldl_cons, ih]; simp; lia
  have hg : (Builtin.Str.glued sep xs).length ≤ (xs.map fun x => x.length + sep.length).sum := by
    rw [glued_is]
    show ((joinB sep.cps.toList (xs.map (·.cps.toList))).toArray).size ≤ _
    rw [List.size_toArray, joinB_length]
    have a1 : ∀ l : List Str, (l.map fun x => x.length + sep.length).sum = ((l.map (·.cps.toList)).map List.length).sum + sep.length * l.length := by
      intro l
      induction l with
      | nil => simp
      | cons x r ih => simp only [List.map_cons, List.sum_cons, List.length_cons, Nat.mul_succ, ih]; rw [show x.length = x.cps.toList.length by simp [Str.length]]; lia
    rw [a1]
    have : sep.cps.toList.length = sep.length := by simp [Str.length]
    rw [this, List.length_map]
    have := Nat.mul_le_mul_left sep.length (Nat.sub_le xs.length 1)
    lia
  have hgl : ∀ t k, PG c A I H Rep Q (.str (Builtin.Str.glued sep xs) t) { s with toks := k } := fun t k => ⟨I, R, _, Sub.refl _, hst.toks _, .str _ _, by rw [glued_is]; exact h⟩
  refine call_meets PySem.F.slot_str_join (typeIs_str _ _ _) PySem.F.entry_str_join (PySem.F.args_str_join_2 _ _) (PySem.meets_str_join_list sep tk a l ?_) ⟨by rw [h1]; simpa using hl, ?_⟩
  · unfold Builtin.Str.tooLong
    rw [decide_eq_false_iff_not, h2, ← Array.foldl_toList, List.toList_toArray, hf, sizeLine_is]
    lia
  · subst h2
    clear hf h1
    cases l with
    | nil => exact ⟨by rw [sizeLine_is]; simp [Builtin.Str.glued, Str.length, Str.empty], hgl _ _⟩
    | cons p l =>
      cases l with
      | nil =>
        have e : Builtin.Str.glued sep [p.1] = p.1 := by cases hp : p.1; rw [Builtin.Str.glued]; simp
        have := hgl p.2 s.toks
        rw [List.map_cons, List.map_nil, e] at this
        exact this
      | cons q r => exact ⟨by rw [sizeLine_is]; exact Nat.le_trans hg hz, hgl _ _⟩
end
end Mine
end
section
open PySem PySem.W PySem.Calls PyProof.Rows
set_option Elab.async false
set_option tactic.hygienic false
set_option maxRecDepth 100000
set_option linter.unusedVariables false
namespace Mine
noncomputable def joiningTypes : List Str := ["R", "L", "D", "C", "U", "T"]
noncomputable def joiningThrough : List Str := ["Mn", "Me", "Cf"]
noncomputable def globs : List (Str × D) := [
  (Str.ofString "codes_of", D.val (.ref 71)),
  (Str.ofString "BadCode", D.val (.ref 52)),
  (Str.ofString "bytes", D.val (.type "bytes")),
  (Str.ofString "len", D.val (.builtin "len")),
  (Str.ofString "LEAST_HEX", D.int 4),
  (Str.ofString "HEX_DIGITS", D.bytes [48, 49, 50, 51, 52, 53, 54, 55, 56, 57, 65, 66, 67, 68, 69, 70]),
  (Str.ofString "MOST_HEX", D.int 6),
  (Str.ofString "hex_value", D.val (.ref 97)),
  (Str.ofString "MAX_CODE", D.int 1114111),
  (Str.ofString "UCD_MARK", D.bytes [239, 187, 191]),
  (Str.ofString "enumerate", D.val (.type "enumerate")),
  (Str.ofString "ucd_lines", D.val (.ref 118)),
  (Str.ofString "UCD_BLANKS", D.bytes [32, 9, 13]),
  (Str.ofString "BadRow", D.val (.ref 64)),
  (Str.ofString "code_of_hex", D.val (.ref 104)),
  (Str.ofString "ascii_of", D.val (.ref 83)),
  (Str.ofString "rows_of", D.val (.ref 123)),
  (Str.ofString "JOINING_THROUGH", D.tup (joiningThrough.map .str)),
  (Str.ofString "ucdmore_fields", D.val (.ref 146)),
  (Str.ofString "code_of_field", D.val (.ref 130)),
  (Str.ofString "word_of_field", D.val (.ref 137)),
  (Str.ofString "ucdmore_check_once", D.val (.ref 153)),
  (Str.ofString "JOINING_TYPES", D.tup (joiningTypes.map .str)),
  (Str.ofString "ucdmore_put", D.val (.ref 160)),
  (Str.ofString "range", D.val (.type "range")),
  (Str.ofString "dict", D.val (.type "dict")),
  (Str.ofString "ucdmore_told", D.val (.ref 174)),
  (Str.ofString "sorted", D.val (.builtin "sorted")),
  (Str.ofString "hex_code", D.val (.ref 90)),
  (Str.ofString "octets_of_ascii", D.val (.ref 78)),
  (Str.ofString "isinstance", D.val (.builtin "isinstance")),
  (Str.ofString "tuple", D.val (.type "tuple")),
  (Str.ofString "all", D.val (.builtin "all")),
  (Str.ofString "bool", D.val (.type "bool")),
  (Str.ofString "place_by_half", D.val (.ref 111)),
  (Str.ofString "max", D.val (.builtin "max")),
  (Str.ofString "min", D.val (.builtin "min")),
  (Str.ofString "range_are_like", D.val (.ref 186)),
  (Str.ofString "range_rows", D.val (.ref 240)),
  (Str.ofString "data_defaults", D.val (.ref 247)),
  (Str.ofString "RangeMap", D.val (.ref 229)),
  (Str.ofString "_law_draw", D.val (.ref 301)),
  (Str.ofString "_law_kinds", D.val (.ref 315)),
  (Str.ofString "list", D.val (.type "list")),
  (Str.ofString "Data", D.val (.ref 285)),
  (Str.ofString "_law_codes", D.val (.ref 323)),
  (Str.ofString "_law_data", D.val (.ref 335)),
  (Str.ofString "_law_pick", D.val (.ref 308)),
  (Str.ofString "_law_sorts", D.lst (joiningTypes.map .str)),
  (Str.ofString "_law_is_passed", D.val (.ref 328)),
  (Str.ofString "_law_hex", D.val (.ref 342)),
  (Str.ofString "_law_joins", D.val (.ref 352)),
  (Str.ofString "joining_octets", D.val (.ref 181)),
  (Str.ofString "_law_octets", D.val (.ref 347)),
  (Str.ofString "read_joining", D.val (.ref 167)),
  (Str.ofString "_law_line", D.val (.ref 366)),
  (Str.ofString "_law_spoilt", D.val (.ref 373)),
  (Str.ofString "_law_deck", D.val (.ref 294)),
  (Str.ofString "_law_written_right", D.val (.ref 359)),
  (Str.ofString "_law_read_right", D.val (.ref 380)),
  (Str.ofString "ord", D.val (.builtin "ord")),
  (Str.ofString "chr", D.val (.builtin "chr")),
  (Str.ofString "int", D.val (.type "int"))]
theorem globs_ok : ∀ P, (globs.all fun p => globOk (K P) p.1 p.2) = true := by intro P; kernel_rfl
theorem glob_at {x : Str} {d : D} (i : Nat) (h : globs[i]? = some (x, d)) : GlobIs x d :=
  globOk_is fun P => List.all_eq_true.mp (globs_ok P) _ (List.mem_of_getElem? h)
theorem len0 {P : List Value → Prop} (h : P []) (vals : List Value) (e : vals.length = 0) : P vals := by rw [List.length_eq_zero_iff.mp e]; exact h
theorem lenS {n : Nat} {P : List Value → Prop} (h : ∀ a vs, vs.length = n → P (a :: vs)) (vals : List Value) (e : vals.length = n + 1) : P vals := by
  obtain ⟨a, vs, rfl⟩ := List.exists_cons_of_length_eq_add_one e
  exact h a vs (by simpa using e)
theorem len1 {P : List Value → Prop} (h : ∀ a, P [a]) : ∀ vals : List Value, vals.length = 1 → P vals := lenS fun a => len0 (h a)
theorem len2 {P : List Value → Prop} (h : ∀ a b, P [a, b]) : ∀ vals : List Value, vals.length = 2 → P vals := lenS fun a => lenS fun b => len0 (h a b)
theorem len3 {P : List Value → Prop} (h : ∀ a b c, P [a, b, c]) : ∀ vals : List Value, vals.length = 3 → P vals := lenS fun a => lenS fun b => lenS fun c => len0 (h a b c)
theorem len4 {P : List Value → Prop} (h : ∀ a b c d, P [a, b, c, d]) : ∀ vals : List Value, vals.length = 4 → P vals := lenS fun a => lenS fun b => lenS fun c => lenS fun d => len0 (h a b c d)
theorem len5 {P : List Value → Prop} (h : ∀ a b c d e, P [a, b, c, d, e]) : ∀ vals : List Value, vals.length = 5 → P vals := lenS fun a => lenS fun b => lenS fun c => lenS fun d => lenS fun e => len0 (h a b c d e)
inductive Globs : List (Str × D) → Prop
  | nil : Globs []
  | cons {x d l} : GlobIs x d → Globs l → Globs ((x, d) :: l)
theorem Globs.mem {l : List (Str × D)} (h : Globs l) : ∀ p ∈ l, GlobIs p.1 p.2 := by
  induction h with
  | nil => intro p hp; cases hp
  | cons g _ ih => intro p hp; exact (List.mem_cons.mp hp).elim (fun e => e ▸ g) (ih p)
theorem cal_fn2 {c : Cx} {A : Around} {gl : List (Str × D)} {R : Led} {Q : D → Led → Prop} {X : Addr → D → Led → Prop} {f : Addr} {st : Stmt} {qual : Str} {dV pm cd : Value} {ps rest : List Str} {ds : List D} {n : Nat} (ns0 : List Str) (vs0 : List (Option D)) (rm : Rm A (n + 1))
    (hK : ∀ P, (K P).lookup f = some (fnD st qual dV pm cd)) (hcd : ∀ P, codeIn (K P) cd qual = true)
    (hbind : ∀ vals : List Value, vals.length = ps.length → bindArgs (fnOf (fnName st) qual (fnArgs st) (fnBody st) (fnScope st) dV .none .none pm none cd .none) ⟨vals, []⟩ = pure (ps.zip vals))
    (hlen : ps.length = ds.length) (hfe : feOk (fnScope st) (ps ++ rest) gl = true) (hg : ∀ p ∈ gl, GlobIs p.1 p.2) (h1 : ps ++ rest = ns0) (h2 : ds.map some ++ List.replicate rest.length none = vs0)
    (h : ∀ (env : Env) (A' : Around) (L : Addr), FE env L ns0 gl → FN env L (fnScope st) → Rm A' n → (∃ outer, A'.frames = some (env :: outer)) →
      Ex c A' env (fnBody st) ((L, .loc ns0 vs0) :: R) (Back L Q) (BackX L X)) : CalC c A (.ref f) ds R Q X := by
  subst h1 h2
  exact cal_fn rm hK hcd hbind hlen hfe hg h
theorem cal_fnC2 {c : Cx} {A : Around} {gl : List (Str × D)} {R : Led} {Q : D → Led → Prop} {X : Addr → D → Led → Prop} {f : Addr} {st : Stmt} {qual : Str} {dV pm cd : Value} {ps : List Str} {ds : List D} {n : Nat} (R0 : (Str → Addr) → Led) (rm : Rm A (n + 1))
    (hK : ∀ P, (K P).lookup f = some (fnD st qual dV pm cd)) (hcd : ∀ P, codeIn (K P) cd qual = true)
    (hbind : ∀ vals : List Value, vals.length = ps.length → bindArgs (fnOf (fnName st) qual (fnArgs st) (fnBody st) (fnScope st) dV .none .none pm none cd .none) ⟨vals, []⟩ = pure (ps.zip vals))
    (hlen : ps.length = ds.length) (hfe : feOkC (fnScope st) ps gl = true) (hg : ∀ p ∈ gl, GlobIs p.1 p.2) (h2 : ∀ ad, cellsLed ad ps ds ++ R = R0 ad)
    (h : ∀ (env : Env) (A' : Around) (L : Addr) (ad : Str → Addr), FE env L [] gl → CE env ps ad → FN env L (fnScope st) → Rm A' n → (∃ outer, A'.frames = some (env :: outer)) →
      Ex c A' env (fnBody st) ((L, .loc [] []) :: R0 ad) (BackC L ps ad Q) (BackXC L ps ad X)) : CalC c A (.ref f) ds R Q X := by
  refine cal_fnC rm hK hcd hbind hlen hfe hg fun env A' L ad a b d e f => ?_
  rw [h2]; exact h env A' L ad a b d e f
theorem g_codes_of : GlobIs "codes_of" (D.val (.ref 71)) := glob_at 0 rfl
theorem g_BadCode : GlobIs "BadCode" (D.val (.ref 52)) := glob_at 1 rfl
theorem g_bytes : GlobIs "bytes" (D.val (.type "bytes")) := glob_at 2 rfl
theorem g_len : GlobIs "len" (D.val (.builtin "len")) := glob_at 3 rfl
theorem g_LEAST_HEX : GlobIs "LEAST_HEX" (D.int 4) := glob_at 4 rfl
theorem g_HEX_DIGITS : GlobIs "HEX_DIGITS" (D.bytes [48, 49, 50, 51, 52, 53, 54, 55, 56, 57, 65, 66, 67, 68, 69, 70]) := glob_at 5 rfl
theorem g_MOST_HEX : GlobIs "MOST_HEX" (D.int 6) := glob_at 6 rfl
theorem g_hex_value : GlobIs "hex_value" (D.val (.ref 97)) := glob_at 7 rfl
theorem g_MAX_CODE : GlobIs "MAX_CODE" (D.int 1114111) := glob_at 8 rfl
theorem g_UCD_MARK : GlobIs "UCD_MARK" (D.bytes [239, 187, 191]) := glob_at 9 rfl
theorem g_enumerate : GlobIs "enumerate" (D.val (.type "enumerate")) := glob_at 10 rfl
theorem g_ucd_lines : GlobIs "ucd_lines" (D.val (.ref 118)) := glob_at 11 rfl
theorem g_UCD_BLANKS : GlobIs "UCD_BLANKS" (D.bytes [32, 9, 13]) := glob_at 12 rfl
theorem g_BadRow : GlobIs "BadRow" (D.val (.ref 64)) := glob_at 13 rfl
theorem g_code_of_hex : GlobIs "code_of_hex" (D.val (.ref 104)) := glob_at 14 rfl
theorem g_ascii_of : GlobIs "ascii_of" (D.val (.ref 83)) := glob_at 15 rfl
theorem g_rows_of : GlobIs "rows_of" (D.val (.ref 123)) := glob_at 16 rfl
theorem g_JOINING_THROUGH : GlobIs "JOINING_THROUGH" (D.tup (joiningThrough.map .str)) := glob_at 17 rfl
theorem g_ucdmore_fields : GlobIs "ucdmore_fields" (D.val (.ref 146)) := glob_at 18 rfl
theorem g_code_of_field : GlobIs "code_of_field" (D.val (.ref 130)) := glob_at 19 rfl
theorem g_word_of_field : GlobIs "word_of_field" (D.val (.ref 137)) := glob_at 20 rfl
theorem g_ucdmore_check_once : GlobIs "ucdmore_check_once" (D.val (.ref 153)) := glob_at 21 rfl
theorem g_JOINING_TYPES : GlobIs "JOINING_TYPES" (D.tup (joiningTypes.map .str)) := glob_at 22 rfl
theorem g_ucdmore_put : GlobIs "ucdmore_put" (D.val (.ref 160)) := glob_at 23 rfl
theorem g_range : GlobIs "range" (D.val (.type "range")) := glob_at 24 rfl
theorem g_dict : GlobIs "dict" (D.val (.type "dict")) := glob_at 25 rfl
theorem g_ucdmore_told : GlobIs "ucdmore_told" (D.val (.ref 174)) := glob_at 26 rfl
theorem g_sorted : GlobIs "sorted" (D.val (.builtin "sorted")) := glob_at 27 rfl
theorem g_hex_code : GlobIs "hex_code" (D.val (.ref 90)) := glob_at 28 rfl
theorem g_octets_of_ascii : GlobIs "octets_of_ascii" (D.val (.ref 78)) := glob_at 29 rfl
theorem g_isinstance : GlobIs "isinstance" (D.val (.builtin "isinstance")) := glob_at 30 rfl
theorem g_tuple : GlobIs "tuple" (D.val (.type "tuple")) := glob_at 31 rfl
theorem g_all : GlobIs "all" (D.val (.builtin "all")) := glob_at 32 rfl
theorem g_bool : GlobIs "bool" (D.val (.type "bool")) := glob_at 33 rfl
theorem g_place_by_half : GlobIs "place_by_half" (D.val (.ref 111)) := glob_at 34 rfl
theorem g_max : GlobIs "max" (D.val (.builtin "max")) := glob_at 35 rfl
theorem g_min : GlobIs "min" (D.val (.builtin "min")) := glob_at 36 rfl
theorem g_range_are_like : GlobIs "range_are_like" (D.val (.ref 186)) := glob_at 37 rfl
theorem g_range_rows : GlobIs "range_rows" (D.val (.ref 240)) := glob_at 38 rfl
theorem g_data_defaults : GlobIs "data_defaults" (D.val (.ref 247)) := glob_at 39 rfl
theorem g_RangeMap : GlobIs "RangeMap" (D.val (.ref 229)) := glob_at 40 rfl
theorem g_law_draw : GlobIs "_law_draw" (D.val (.ref 301)) := glob_at 41 rfl
theorem g_law_kinds : GlobIs "_law_kinds" (D.val (.ref 315)) := glob_at 42 rfl
theorem g_list : GlobIs "list" (D.val (.type "list")) := glob_at 43 rfl
theorem g_Data : GlobIs "Data" (D.val (.ref 285)) := glob_at 44 rfl
theorem g_law_codes : GlobIs "_law_codes" (D.val (.ref 323)) := glob_at 45 rfl
theorem g_law_data : GlobIs "_law_data" (D.val (.ref 335)) := glob_at 46 rfl
theorem g_law_pick : GlobIs "_law_pick" (D.val (.ref 308)) := glob_at 47 rfl
theorem g_law_sorts : GlobIs "_law_sorts" (D.lst (joiningTypes.map .str)) := glob_at 48 rfl
theorem g_law_is_passed : GlobIs "_law_is_passed" (D.val (.ref 328)) := glob_at 49 rfl
theorem g_law_hex : GlobIs "_law_hex" (D.val (.ref 342)) := glob_at 50 rfl
theorem g_law_joins : GlobIs "_law_joins" (D.val (.ref 352)) := glob_at 51 rfl
theorem g_joining_octets : GlobIs "joining_octets" (D.val (.ref 181)) := glob_at 52 rfl
theorem g_law_octets : GlobIs "_law_octets" (D.val (.ref 347)) := glob_at 53 rfl
theorem g_read_joining : GlobIs "read_joining" (D.val (.ref 167)) := glob_at 54 rfl
theorem g_law_line : GlobIs "_law_line" (D.val (.ref 366)) := glob_at 55 rfl
theorem g_law_spoilt : GlobIs "_law_spoilt" (D.val (.ref 373)) := glob_at 56 rfl
theorem g_law_deck : GlobIs "_law_deck" (D.val (.ref 294)) := glob_at 57 rfl
theorem g_law_written_right : GlobIs "_law_written_right" (D.val (.ref 359)) := glob_at 58 rfl
theorem g_law_read_right : GlobIs "_law_read_right" (D.val (.ref 380)) := glob_at 59 rfl
theorem g_ord : GlobIs "ord" (D.val (.builtin "ord")) := glob_at 60 rfl
theorem g_chr : GlobIs "chr" (D.val (.builtin "chr")) := glob_at 61 rfl
theorem g_int : GlobIs "int" (D.val (.type "int")) := glob_at 62 rfl
section
variable {c : Cx} {A : Around} {R : Led} {Q : D → Led → Prop} {X : Addr → D → Led → Prop} {n : Nat}
theorem call_codes_of {d0 : D} (rm : Rm A (n + 1)) (h : ∀ (env : Env) (A' : Around) (L : Addr), FE env L ["signs"] [] → FN env L (fnScope (stAt 9)) → Rm A' n → (∃ outer, A'.frames = some (env :: outer)) →
    Ex c A' env (fnBody (stAt 9)) ((L, .loc ["signs"] [some d0]) :: R) (Back L Q) (BackX L X)) : CalC c A (.ref 71) [d0] R Q X :=
  cal_fn2 ["signs"] [some d0] (st := stAt 9) (qual := "codes_of") (dV := .none) (pm := .str (Str.ofString "unicore.base") 194) (cd := .ref 70) (ps := ["signs"]) (rest := []) (gl := []) rm (by intro P; kernel_rfl) (by intro P; kernel_rfl) (len1 fun a0 => by kernel_rfl) rfl (by kernel_rfl) (Globs.mem .nil) rfl rfl h
theorem call_octets_of_ascii {d0 : D} (rm : Rm A (n + 1)) (h : ∀ (env : Env) (A' : Around) (L : Addr), FE env L ["signs", "numbers", "number"] [(Str.ofString "codes_of", D.val (.ref 71)), (Str.ofString "BadCode", D.val (.ref 52)), (Str.ofString "bytes", D.val (.type "bytes"))] → FN env L (fnScope (stAt 10)) → Rm A' n → (∃ outer, A'.frames = some (env :: outer)) →
    Ex c A' env (fnBody (stAt 10)) ((L, .loc ["signs", "numbers", "number"] [some d0, none, none]) :: R) (Back L Q) (BackX L X)) : CalC c A (.ref 78) [d0] R Q X :=
  cal_fn2 ["signs", "numbers", "number"] [some d0, none, none] (st := stAt 10) (qual := "octets_of_ascii") (dV := .none) (pm := .str (Str.ofString "unicore.base") 194) (cd := .ref 77) (ps := ["signs"]) (rest := ["numbers", "number"]) (gl := [(Str.ofString "codes_of", D.val (.ref 71)), (Str.ofString "BadCode", D.val (.ref 52)), (Str.ofString "bytes", D.val (.type "bytes"))]) rm (by intro P; kernel_rfl) (by intro P; kernel_rfl) (len1 fun a0 => by kernel_rfl) rfl (by kernel_rfl) (Globs.mem (.cons g_codes_of (.cons g_BadCode (.cons g_bytes .nil)))) rfl rfl h
theorem call_ascii_of {d0 : D} (rm : Rm A (n + 1)) (h : ∀ (env : Env) (A' : Around) (L : Addr), FE env L ["octets", "octet"] [(Str.ofString "BadCode", D.val (.ref 52))] → FN env L (fnScope (stAt 11)) → Rm A' n → (∃ outer, A'.frames = some (env :: outer)) →
    Ex c A' env (fnBody (stAt 11)) ((L, .loc ["octets", "octet"] [some d0, none]) :: R) (Back L Q) (BackX L X)) : CalC c A (.ref 83) [d0] R Q X :=
  cal_fn2 ["octets", "octet"] [some d0, none] (st := stAt 11) (qual := "ascii_of") (dV := .none) (pm := .str (Str.ofString "unicore.base") 194) (cd := .ref 82) (ps := ["octets"]) (rest := ["octet"]) (gl := [(Str.ofString "BadCode", D.val (.ref 52))]) rm (by intro P; kernel_rfl) (by intro P; kernel_rfl) (len1 fun a0 => by kernel_rfl) rfl (by kernel_rfl) (Globs.mem (.cons g_BadCode .nil)) rfl rfl h
theorem call_hex_code {d0 : D} (rm : Rm A (n + 1)) (h : ∀ (env : Env) (A' : Around) (L : Addr), FE env L ["code", "found", "rest"] [(Str.ofString "len", D.val (.builtin "len")), (Str.ofString "LEAST_HEX", D.int 4), (Str.ofString "HEX_DIGITS", D.bytes [48, 49, 50, 51, 52, 53, 54, 55, 56, 57, 65, 66, 67, 68, 69, 70]), (Str.ofString "bytes", D.val (.type "bytes"))] → FN env L (fnScope (stAt 12)) → Rm A' n → (∃ outer, A'.frames = some (env :: outer)) →
    Ex c A' env (fnBody (stAt 12)) ((L, .loc ["code", "found", "rest"] [some d0, none, none]) :: R) (Back L Q) (BackX L X)) : CalC c A (.ref 90) [d0] R Q X :=
  cal_fn2 ["code", "found", "rest"] [some d0, none, none] (st := stAt 12) (qual := "hex_code") (dV := .none) (pm := .str (Str.ofString "unicore.base") 194) (cd := .ref 89) (ps := ["code"]) (rest := ["found", "rest"]) (gl := [(Str.ofString "len", D.val (.builtin "len")), (Str.ofString "LEAST_HEX", D.int 4), (Str.ofString "HEX_DIGITS", D.bytes [48, 49, 50, 51, 52, 53, 54, 55, 56, 57, 65, 66, 67, 68, 69, 70]), (Str.ofString "bytes", D.val (.type "bytes"))]) rm (by intro P; kernel_rfl) (by intro P; kernel_rfl) (len1 fun a0 => by kernel_rfl) rfl (by kernel_rfl) (Globs.mem (.cons g_len (.cons g_LEAST_HEX (.cons g_HEX_DIGITS (.cons g_bytes .nil))))) rfl rfl h
theorem call_hex_value {d0 : D} (rm : Rm A (n + 1)) (h : ∀ (env : Env) (A' : Around) (L : Addr), FE env L ["octet"] [] → FN env L (fnScope (stAt 13)) → Rm A' n → (∃ outer, A'.frames = some (env :: outer)) →
    Ex c A' env (fnBody (stAt 13)) ((L, .loc ["octet"] [some d0]) :: R) (Back L Q) (BackX L X)) : CalC c A (.ref 97) [d0] R Q X :=
  cal_fn2 ["octet"] [some d0] (st := stAt 13) (qual := "hex_value") (dV := .none) (pm := .str (Str.ofString "unicore.base") 194) (cd := .ref 96) (ps := ["octet"]) (rest := []) (gl := []) rm (by intro P; kernel_rfl) (by intro P; kernel_rfl) (len1 fun a0 => by kernel_rfl) rfl (by kernel_rfl) (Globs.mem .nil) rfl rfl h
theorem call_code_of_hex {d0 : D} (rm : Rm A (n + 1)) (h : ∀ (env : Env) (A' : Around) (L : Addr), FE env L ["octets", "number", "octet", "digit"] [(Str.ofString "len", D.val (.builtin "len")), (Str.ofString "MOST_HEX", D.int 6), (Str.ofString "BadCode", D.val (.ref 52)), (Str.ofString "hex_value", D.val (.ref 97)), (Str.ofString "MAX_CODE", D.int 1114111)] → FN env L (fnScope (stAt 14)) → Rm A' n → (∃ outer, A'.frames = some (env :: outer)) →
    Ex c A' env (fnBody (stAt 14)) ((L, .loc ["octets", "number", "octet", "digit"] [some d0, none, none, none]) :: R) (Back L Q) (BackX L X)) : CalC c A (.ref 104) [d0] R Q X :=
  cal_fn2 ["octets", "number", "octet", "digit"] [some d0, none, none, none] (st := stAt 14) (qual := "code_of_hex") (dV := .none) (pm := .str (Str.ofString "unicore.base") 194) (cd := .ref 103) (ps := ["octets"]) (rest := ["number", "octet", "digit"]) (gl := [(Str.ofString "len", D.val (.builtin "len")), (Str.ofString "MOST_HEX", D.int 6), (Str.ofString "BadCode", D.val (.ref 52)), (Str.ofString "hex_value", D.val (.ref 97)), (Str.ofString "MAX_CODE", D.int 1114111)]) rm (by intro P; kernel_rfl) (by intro P; kernel_rfl) (len1 fun a0 => by kernel_rfl) rfl (by kernel_rfl) (Globs.mem (.cons g_len (.cons g_MOST_HEX (.cons g_BadCode (.cons g_hex_value (.cons g_MAX_CODE .nil)))))) rfl rfl h
theorem call_place_by_half {d0 d1 : D} (rm : Rm A (n + 1)) (h : ∀ (env : Env) (A' : Around) (L : Addr), FE env L ["firsts", "number", "low", "high", "middle"] [(Str.ofString "len", D.val (.builtin "len"))] → FN env L (fnScope (stAt 15)) → Rm A' n → (∃ outer, A'.frames = some (env :: outer)) →
    Ex c A' env (fnBody (stAt 15)) ((L, .loc ["firsts", "number", "low", "high", "middle"] [some d0, some d1, none, none, none]) :: R) (Back L Q) (BackX L X)) : CalC c A (.ref 111) [d0, d1] R Q X :=
  cal_fn2 ["firsts", "number", "low", "high", "middle"] [some d0, some d1, none, none, none] (st := stAt 15) (qual := "place_by_half") (dV := .none) (pm := .str (Str.ofString "unicore.base") 194) (cd := .ref 110) (ps := ["firsts", "number"]) (rest := ["low", "high", "middle"]) (gl := [(Str.ofString "len", D.val (.builtin "len"))]) rm (by intro P; kernel_rfl) (by intro P; kernel_rfl) (len2 fun a0 a1 => by kernel_rfl) rfl (by kernel_rfl) (Globs.mem (.cons g_len .nil)) rfl rfl h
theorem call_ucd_lines {d0 : D} (rm : Rm A (n + 1)) (h : ∀ (env : Env) (A' : Around) (L : Addr), FE env L ["octets", "bare"] [(Str.ofString "UCD_MARK", D.bytes [239, 187, 191]), (Str.ofString "len", D.val (.builtin "len"))] → FN env L (fnScope (stAt 19)) → Rm A' n → (∃ outer, A'.frames = some (env :: outer)) →
    Ex c A' env (fnBody (stAt 19)) ((L, .loc ["octets", "bare"] [some d0, none]) :: R) (Back L Q) (BackX L X)) : CalC c A (.ref 118) [d0] R Q X :=
  cal_fn2 ["octets", "bare"] [some d0, none] (st := stAt 19) (qual := "ucd_lines") (dV := .none) (pm := .str (Str.ofString "unicore.ucdrows") 323) (cd := .ref 117) (ps := ["octets"]) (rest := ["bare"]) (gl := [(Str.ofString "UCD_MARK", D.bytes [239, 187, 191]), (Str.ofString "len", D.val (.builtin "len"))]) rm (by intro P; kernel_rfl) (by intro P; kernel_rfl) (len1 fun a0 => by kernel_rfl) rfl (by kernel_rfl) (Globs.mem (.cons g_UCD_MARK (.cons g_len .nil))) rfl rfl h
theorem call_rows_of {d0 : D} (rm : Rm A (n + 1)) (h : ∀ (env : Env) (A' : Around) (L : Addr), FE env L ["octets", "found", "at", "line", "cut", "body", "remark", "fields"] [(Str.ofString "enumerate", D.val (.type "enumerate")), (Str.ofString "ucd_lines", D.val (.ref 118)), (Str.ofString "UCD_BLANKS", D.bytes [32, 9, 13])] → FN env L (fnScope (stAt 20)) → Rm A' n → (∃ outer, A'.frames = some (env :: outer)) →
    Ex c A' env (fnBody (stAt 20)) ((L, .loc ["octets", "found", "at", "line", "cut", "body", "remark", "fields"] [some d0, none, none, none, none, none, none, none]) :: R) (Back L Q) (BackX L X)) : CalC c A (.ref 123) [d0] R Q X :=
  cal_fn2 ["octets", "found", "at", "line", "cut", "body", "remark", "fields"] [some d0, none, none, none, none, none, none, none] (st := stAt 20) (qual := "rows_of") (dV := .none) (pm := .str (Str.ofString "unicore.ucdrows") 323) (cd := .ref 122) (ps := ["octets"]) (rest := ["found", "at", "line", "cut", "body", "remark", "fields"]) (gl := [(Str.ofString "enumerate", D.val (.type "enumerate")), (Str.ofString "ucd_lines", D.val (.ref 118)), (Str.ofString "UCD_BLANKS", D.bytes [32, 9, 13])]) rm (by intro P; kernel_rfl) (by intro P; kernel_rfl) (len1 fun a0 => by kernel_rfl) rfl (by kernel_rfl) (Globs.mem (.cons g_enumerate (.cons g_ucd_lines (.cons g_UCD_BLANKS .nil)))) rfl rfl h
theorem call_code_of_field {d0 d1 : D} (rm : Rm A (n + 1)) (h : ∀ (env : Env) (A' : Around) (L : Addr), FE env L ["field", "number"] [(Str.ofString "len", D.val (.builtin "len")), (Str.ofString "BadRow", D.val (.ref 64)), (Str.ofString "code_of_hex", D.val (.ref 104)), (Str.ofString "BadCode", D.val (.ref 52))] → FN env L (fnScope (stAt 21)) → Rm A' n → (∃ outer, A'.frames = some (env :: outer)) →
    Ex c A' env (fnBody (stAt 21)) ((L, .loc ["field", "number"] [some d0, some d1]) :: R) (Back L Q) (BackX L X)) : CalC c A (.ref 130) [d0, d1] R Q X :=
  cal_fn2 ["field", "number"] [some d0, some d1] (st := stAt 21) (qual := "code_of_field") (dV := .none) (pm := .str (Str.ofString "unicore.ucdrows") 323) (cd := .ref 129) (ps := ["field", "number"]) (rest := []) (gl := [(Str.ofString "len", D.val (.builtin "len")), (Str.ofString "BadRow", D.val (.ref 64)), (Str.ofString "code_of_hex", D.val (.ref 104)), (Str.ofString "BadCode", D.val (.ref 52))]) rm (by intro P; kernel_rfl) (by intro P; kernel_rfl) (len2 fun a0 a1 => by kernel_rfl) rfl (by kernel_rfl) (Globs.mem (.cons g_len (.cons g_BadRow (.cons g_code_of_hex (.cons g_BadCode .nil))))) rfl rfl h
theorem call_word_of_field {d0 d1 : D} (rm : Rm A (n + 1)) (h : ∀ (env : Env) (A' : Around) (L : Addr), FE env L ["field", "number"] [(Str.ofString "ascii_of", D.val (.ref 83)), (Str.ofString "BadCode", D.val (.ref 52)), (Str.ofString "BadRow", D.val (.ref 64))] → FN env L (fnScope (stAt 22)) → Rm A' n → (∃ outer, A'.frames = some (env :: outer)) →
    Ex c A' env (fnBody (stAt 22)) ((L, .loc ["field", "number"] [some d0, some d1]) :: R) (Back L Q) (BackX L X)) : CalC c A (.ref 137) [d0, d1] R Q X :=
  cal_fn2 ["field", "number"] [some d0, some d1] (st := stAt 22) (qual := "word_of_field") (dV := .none) (pm := .str (Str.ofString "unicore.ucdrows") 323) (cd := .ref 136) (ps := ["field", "number"]) (rest := []) (gl := [(Str.ofString "ascii_of", D.val (.ref 83)), (Str.ofString "BadCode", D.val (.ref 52)), (Str.ofString "BadRow", D.val (.ref 64))]) rm (by intro P; kernel_rfl) (by intro P; kernel_rfl) (len2 fun a0 a1 => by kernel_rfl) rfl (by kernel_rfl) (Globs.mem (.cons g_ascii_of (.cons g_BadCode (.cons g_BadRow .nil)))) rfl rfl h
theorem call_ucdmore_fields {d0 d1 d2 : D} (rm : Rm A (n + 1)) (h : ∀ (env : Env) (A' : Around) (L : Addr), FE env L ["octets", "least", "most", "found", "number", "fields", "remark"] [(Str.ofString "rows_of", D.val (.ref 123)), (Str.ofString "len", D.val (.builtin "len")), (Str.ofString "BadRow", D.val (.ref 64))] → FN env L (fnScope (stAt 26)) → Rm A' n → (∃ outer, A'.frames = some (env :: outer)) →
    Ex c A' env (fnBody (stAt 26)) ((L, .loc ["octets", "least", "most", "found", "number", "fields", "remark"] [some d0, some d1, some d2, none, none, none, none]) :: R) (Back L Q) (BackX L X)) : CalC c A (.ref 146) [d0, d1, d2] R Q X :=
  cal_fn2 ["octets", "least", "most", "found", "number", "fields", "remark"] [some d0, some d1, some d2, none, none, none, none] (st := stAt 26) (qual := "ucdmore_fields") (dV := .none) (pm := .str (Str.ofString "unicore.ucdmore") 359) (cd := .ref 145) (ps := ["octets", "least", "most"]) (rest := ["found", "number", "fields", "remark"]) (gl := [(Str.ofString "rows_of", D.val (.ref 123)), (Str.ofString "len", D.val (.builtin "len")), (Str.ofString "BadRow", D.val (.ref 64))]) rm (by intro P; kernel_rfl) (by intro P; kernel_rfl) (len3 fun a0 a1 a2 => by kernel_rfl) rfl (by kernel_rfl) (Globs.mem (.cons g_rows_of (.cons g_len (.cons g_BadRow .nil)))) rfl rfl h
theorem call_ucdmore_check_once {d0 d1 d2 : D} (rm : Rm A (n + 1)) (h : ∀ (env : Env) (A' : Around) (L : Addr), FE env L ["codes", "number", "code"] [(Str.ofString "BadRow", D.val (.ref 64))] → FN env L (fnScope (stAt 27)) → Rm A' n → (∃ outer, A'.frames = some (env :: outer)) →
    Ex c A' env (fnBody (stAt 27)) ((L, .loc ["codes", "number", "code"] [some d0, some d1, some d2]) :: R) (Back L Q) (BackX L X)) : CalC c A (.ref 153) [d0, d1, d2] R Q X :=
  cal_fn2 ["codes", "number", "code"] [some d0, some d1, some d2] (st := stAt 27) (qual := "ucdmore_check_once") (dV := .none) (pm := .str (Str.ofString "unicore.ucdmore") 359) (cd := .ref 152) (ps := ["codes", "number", "code"]) (rest := []) (gl := [(Str.ofString "BadRow", D.val (.ref 64))]) rm (by intro P; kernel_rfl) (by intro P; kernel_rfl) (len3 fun a0 a1 a2 => by kernel_rfl) rfl (by kernel_rfl) (Globs.mem (.cons g_BadRow .nil)) rfl rfl h
theorem call_ucdmore_put {d0 d1 d2 : D} (rm : Rm A (n + 1)) (h : ∀ (env : Env) (A' : Around) (L : Addr), FE env L ["data", "name", "puts", "first", "last", "value"] [] → FN env L (fnScope (stAt 28)) → Rm A' n → (∃ outer, A'.frames = some (env :: outer)) →
    Ex c A' env (fnBody (stAt 28)) ((L, .loc ["data", "name", "puts", "first", "last", "value"] [some d0, some d1, some d2, none, none, none]) :: R) (Back L Q) (BackX L X)) : CalC c A (.ref 160) [d0, d1, d2] R Q X :=
  cal_fn2 ["data", "name", "puts", "first", "last", "value"] [some d0, some d1, some d2, none, none, none] (st := stAt 28) (qual := "ucdmore_put") (dV := .none) (pm := .str (Str.ofString "unicore.ucdmore") 359) (cd := .ref 159) (ps := ["data", "name", "puts"]) (rest := ["first", "last", "value"]) (gl := []) rm (by intro P; kernel_rfl) (by intro P; kernel_rfl) (len3 fun a0 a1 a2 => by kernel_rfl) rfl (by kernel_rfl) (Globs.mem .nil) rfl rfl h
theorem call_read_joining {d0 d1 : D} (rm : Rm A (n + 1)) (h : ∀ (env : Env) (A' : Around) (L : Addr), FE env L ["octets", "data", "puts", "known", "first", "last", "category", "number", "fields", "code", "sort"] [(Str.ofString "JOINING_THROUGH", D.tup (joiningThrough.map .str)), (Str.ofString "ucdmore_fields", D.val (.ref 146)), (Str.ofString "code_of_field", D.val (.ref 130)), (Str.ofString "word_of_field", D.val (.ref 137)), (Str.ofString "ucdmore_check_once", D.val (.ref 153)), (Str.ofString "JOINING_TYPES", D.tup (joiningTypes.map .str)), (Str.ofString "BadRow", D.val (.ref 64)), (Str.ofString "ucdmore_put", D.val (.ref 160))] → FN env L (fnScope (stAt 29)) → Rm A' n → (∃ outer, A'.frames = some (env :: outer)) →
    Ex c A' env (fnBody (stAt 29)) ((L, .loc ["octets", "data", "puts", "known", "first", "last", "category", "number", "fields", "code", "sort"] [some d0, some d1, none, none, none, none, none, none, none, none, none]) :: R) (Back L Q) (BackX L X)) : CalC c A (.ref 167) [d0, d1] R Q X :=
  cal_fn2 ["octets", "data", "puts", "known", "first", "last", "category", "number", "fields", "code", "sort"] [some d0, some d1, none, none, none, none, none, none, none, none, none] (st := stAt 29) (qual := "read_joining") (dV := .none) (pm := .str (Str.ofString "unicore.ucdmore") 359) (cd := .ref 166) (ps := ["octets", "data"]) (rest := ["puts", "known", "first", "last", "category", "number", "fields", "code", "sort"]) (gl := [(Str.ofString "JOINING_THROUGH", D.tup (joiningThrough.map .str)), (Str.ofString "ucdmore_fields", D.val (.ref 146)), (Str.ofString "code_of_field", D.val (.ref 130)), (Str.ofString "word_of_field", D.val (.ref 137)), (Str.ofString "ucdmore_check_once", D.val (.ref 153)), (Str.ofString "JOINING_TYPES", D.tup (joiningTypes.map .str)), (Str.ofString "BadRow", D.val (.ref 64)), (Str.ofString "ucdmore_put", D.val (.ref 160))]) rm (by intro P; kernel_rfl) (by intro P; kernel_rfl) (len2 fun a0 a1 => by kernel_rfl) rfl (by kernel_rfl) (Globs.mem (.cons g_JOINING_THROUGH (.cons g_ucdmore_fields (.cons g_code_of_field (.cons g_word_of_field (.cons g_ucdmore_check_once (.cons g_JOINING_TYPES (.cons g_BadRow (.cons g_ucdmore_put .nil))))))))) rfl rfl h
theorem call_ucdmore_told {d0 d1 d2 : D} (rm : Rm A (n + 1)) (h : ∀ (env : Env) (A' : Around) (L : Addr), FE env L ["data", "name", "nothing", "found", "first", "last", "value", "code"] [(Str.ofString "range", D.val (.type "range"))] → FN env L (fnScope (stAt 30)) → Rm A' n → (∃ outer, A'.frames = some (env :: outer)) →
    Ex c A' env (fnBody (stAt 30)) ((L, .loc ["data", "name", "nothing", "found", "first", "last", "value", "code"] [some d0, some d1, some d2, none, none, none, none, none]) :: R) (Back L Q) (BackX L X)) : CalC c A (.ref 174) [d0, d1, d2] R Q X :=
  cal_fn2 ["data", "name", "nothing", "found", "first", "last", "value", "code"] [some d0, some d1, some d2, none, none, none, none, none] (st := stAt 30) (qual := "ucdmore_told") (dV := .none) (pm := .str (Str.ofString "unicore.ucdmore") 359) (cd := .ref 173) (ps := ["data", "name", "nothing"]) (rest := ["found", "first", "last", "value", "code"]) (gl := [(Str.ofString "range", D.val (.type "range"))]) rm (by intro P; kernel_rfl) (by intro P; kernel_rfl) (len3 fun a0 a1 a2 => by kernel_rfl) rfl (by kernel_rfl) (Globs.mem (.cons g_range .nil)) rfl rfl h
theorem call_joining_octets {d0 : D} (rm : Rm A (n + 1)) (h : ∀ (env : Env) (A' : Around) (L : Addr), FE env L ["data", "sorts", "rows", "first", "last", "category", "code"] [(Str.ofString "dict", D.val (.type "dict")), (Str.ofString "ucdmore_told", D.val (.ref 174)), (Str.ofString "JOINING_THROUGH", D.tup (joiningThrough.map .str)), (Str.ofString "range", D.val (.type "range")), (Str.ofString "sorted", D.val (.builtin "sorted")), (Str.ofString "hex_code", D.val (.ref 90)), (Str.ofString "octets_of_ascii", D.val (.ref 78))] → FN env L (fnScope (stAt 31)) → Rm A' n → (∃ outer, A'.frames = some (env :: outer)) →
    Ex c A' env (fnBody (stAt 31)) ((L, .loc ["data", "sorts", "rows", "first", "last", "category", "code"] [some d0, none, none, none, none, none, none]) :: R) (Back L Q) (BackX L X)) : CalC c A (.ref 181) [d0] R Q X :=
  cal_fn2 ["data", "sorts", "rows", "first", "last", "category", "code"] [some d0, none, none, none, none, none, none] (st := stAt 31) (qual := "joining_octets") (dV := .none) (pm := .str (Str.ofString "unicore.ucdmore") 359) (cd := .ref 180) (ps := ["data"]) (rest := ["sorts", "rows", "first", "last", "category", "code"]) (gl := [(Str.ofString "dict", D.val (.type "dict")), (Str.ofString "ucdmore_told", D.val (.ref 174)), (Str.ofString "JOINING_THROUGH", D.tup (joiningThrough.map .str)), (Str.ofString "range", D.val (.type "range")), (Str.ofString "sorted", D.val (.builtin "sorted")), (Str.ofString "hex_code", D.val (.ref 90)), (Str.ofString "octets_of_ascii", D.val (.ref 78))]) rm (by intro P; kernel_rfl) (by intro P; kernel_rfl) (len1 fun a0 => by kernel_rfl) rfl (by kernel_rfl) (Globs.mem (.cons g_dict (.cons g_ucdmore_told (.cons g_JOINING_THROUGH (.cons g_range (.cons g_sorted (.cons g_hex_code (.cons g_octets_of_ascii .nil)))))))) rfl rfl h
theorem call_range_are_like {d0 d1 : D} (rm : Rm A (n + 1)) (h : ∀ (env : Env) (A' : Around) (L : Addr) (ad : Str → Addr), FE env L [] [(Str.ofString "isinstance", D.val (.builtin "isinstance")), (Str.ofString "tuple", D.val (.type "tuple")), (Str.ofString "len", D.val (.builtin "len")), (Str.ofString "all", D.val (.builtin "all")), (Str.ofString "range", D.val (.type "range")), (Str.ofString "bool", D.val (.type "bool"))] → CE env ["one", "other"] ad → FN env L (fnScope (stAt 33)) → Rm A' n → (∃ outer, A'.frames = some (env :: outer)) →
    Ex c A' env (fnBody (stAt 33)) ((L, .loc [] []) :: (ad "one", .cell d0) :: (ad "other", .cell d1) :: R) (BackC L ["one", "other"] ad Q) (BackXC L ["one", "other"] ad X)) : CalC c A (.ref 186) [d0, d1] R Q X :=
  cal_fnC2 (fun ad => (ad "one", .cell d0) :: (ad "other", .cell d1) :: R) (st := stAt 33) (qual := "range_are_like") (dV := .none) (pm := .str (Str.ofString "unicore.ranges") 450) (cd := .ref 185) (ps := ["one", "other"]) (gl := [(Str.ofString "isinstance", D.val (.builtin "isinstance")), (Str.ofString "tuple", D.val (.type "tuple")), (Str.ofString "len", D.val (.builtin "len")), (Str.ofString "all", D.val (.builtin "all")), (Str.ofString "range", D.val (.type "range")), (Str.ofString "bool", D.val (.type "bool"))]) rm (by intro P; kernel_rfl) (by intro P; kernel_rfl) (len2 fun a0 a1 => by kernel_rfl) rfl (by kernel_rfl) (Globs.mem (.cons g_isinstance (.cons g_tuple (.cons g_len (.cons g_all (.cons g_range (.cons g_bool .nil))))))) (fun _ => rfl) h
theorem call_RangeMap_init {d0 d1 : D} (rm : Rm A (n + 1)) (h : ∀ (env : Env) (A' : Around) (L : Addr), FE env L ["self", "default"] [] → FN env L (fnScope (stIn 34 0)) → Rm A' n → (∃ outer, A'.frames = some (env :: outer)) →
    Ex c A' env (fnBody (stIn 34 0)) ((L, .loc ["self", "default"] [some d0, some d1]) :: R) (Back L Q) (BackX L X)) : CalC c A (.ref 200) [d0, d1] R Q X :=
  cal_fn2 ["self", "default"] [some d0, some d1] (st := stIn 34 0) (qual := "RangeMap.__init__") (dV := .none) (pm := .str (Str.ofString "unicore.ranges") 450) (cd := .ref 199) (ps := ["self", "default"]) (rest := []) (gl := []) rm (by intro P; kernel_rfl) (by intro P; kernel_rfl) (len2 fun a0 a1 => by kernel_rfl) rfl (by kernel_rfl) (Globs.mem .nil) rfl rfl h
theorem call_RangeMap_get {d0 d1 : D} (rm : Rm A (n + 1)) (h : ∀ (env : Env) (A' : Around) (L : Addr), FE env L ["self", "code"] [(Str.ofString "place_by_half", D.val (.ref 111))] → FN env L (fnScope (stIn 34 1)) → Rm A' n → (∃ outer, A'.frames = some (env :: outer)) →
    Ex c A' env (fnBody (stIn 34 1)) ((L, .loc ["self", "code"] [some d0, some d1]) :: R) (Back L Q) (BackX L X)) : CalC c A (.ref 207) [d0, d1] R Q X :=
  cal_fn2 ["self", "code"] [some d0, some d1] (st := stIn 34 1) (qual := "RangeMap.get") (dV := .none) (pm := .str (Str.ofString "unicore.ranges") 450) (cd := .ref 206) (ps := ["self", "code"]) (rest := []) (gl := [(Str.ofString "place_by_half", D.val (.ref 111))]) rm (by intro P; kernel_rfl) (by intro P; kernel_rfl) (len2 fun a0 a1 => by kernel_rfl) rfl (by kernel_rfl) (Globs.mem (.cons g_place_by_half .nil)) rfl rfl h
theorem call_RangeMap_put {d0 d1 d2 d3 : D} (rm : Rm A (n + 1)) (h : ∀ (env : Env) (A' : Around) (L : Addr), FE env L ["self", "first", "last", "value", "low", "high", "behind", "starts", "values"] [(Str.ofString "max", D.val (.builtin "max")), (Str.ofString "min", D.val (.builtin "min")), (Str.ofString "MAX_CODE", D.int 1114111), (Str.ofString "place_by_half", D.val (.ref 111)), (Str.ofString "range_are_like", D.val (.ref 186))] → FN env L (fnScope (stIn 34 2)) → Rm A' n → (∃ outer, A'.frames = some (env :: outer)) →
    Ex c A' env (fnBody (stIn 34 2)) ((L, .loc ["self", "first", "last", "value", "low", "high", "behind", "starts", "values"] [some d0, some d1, some d2, some d3, none, none, none, none, none]) :: R) (Back L Q) (BackX L X)) : CalC c A (.ref 214) [d0, d1, d2, d3] R Q X :=
  cal_fn2 ["self", "first", "last", "value", "low", "high", "behind", "starts", "values"] [some d0, some d1, some d2, some d3, none, none, none, none, none] (st := stIn 34 2) (qual := "RangeMap.put") (dV := .none) (pm := .str (Str.ofString "unicore.ranges") 450) (cd := .ref 213) (ps := ["self", "first", "last", "value"]) (rest := ["low", "high", "behind", "starts", "values"]) (gl := [(Str.ofString "max", D.val (.builtin "max")), (Str.ofString "min", D.val (.builtin "min")), (Str.ofString "MAX_CODE", D.int 1114111), (Str.ofString "place_by_half", D.val (.ref 111)), (Str.ofString "range_are_like", D.val (.ref 186))]) rm (by intro P; kernel_rfl) (by intro P; kernel_rfl) (len4 fun a0 a1 a2 a3 => by kernel_rfl) rfl (by kernel_rfl) (Globs.mem (.cons g_max (.cons g_min (.cons g_MAX_CODE (.cons g_place_by_half (.cons g_range_are_like .nil)))))) rfl rfl h
theorem call_RangeMap_ranges {d0 : D} (rm : Rm A (n + 1)) (h : ∀ (env : Env) (A' : Around) (L : Addr) (ad : Str → Addr), FE env L [] [(Str.ofString "range_rows", D.val (.ref 240))] → CE env ["self"] ad → FN env L (fnScope (stIn 34 3)) → Rm A' n → (∃ outer, A'.frames = some (env :: outer)) →
    Ex c A' env (fnBody (stIn 34 3)) ((L, .loc [] []) :: (ad "self", .cell d0) :: R) (BackC L ["self"] ad Q) (BackXC L ["self"] ad X)) : CalC c A (.ref 219) [d0] R Q X :=
  cal_fnC2 (fun ad => (ad "self", .cell d0) :: R) (st := stIn 34 3) (qual := "RangeMap.ranges") (dV := .none) (pm := .str (Str.ofString "unicore.ranges") 450) (cd := .ref 218) (ps := ["self"]) (gl := [(Str.ofString "range_rows", D.val (.ref 240))]) rm (by intro P; kernel_rfl) (by intro P; kernel_rfl) (len1 fun a0 => by kernel_rfl) rfl (by kernel_rfl) (Globs.mem (.cons g_range_rows .nil)) (fun _ => rfl) h
theorem call_range_rows {d0 : D} (rm : Rm A (n + 1)) (h : ∀ (env : Env) (A' : Around) (L : Addr), FE env L ["range_map", "starts", "found", "at", "value", "last"] [(Str.ofString "enumerate", D.val (.type "enumerate")), (Str.ofString "len", D.val (.builtin "len")), (Str.ofString "MAX_CODE", D.int 1114111)] → FN env L (fnScope (stAt 35)) → Rm A' n → (∃ outer, A'.frames = some (env :: outer)) →
    Ex c A' env (fnBody (stAt 35)) ((L, .loc ["range_map", "starts", "found", "at", "value", "last"] [some d0, none, none, none, none, none]) :: R) (Back L Q) (BackX L X)) : CalC c A (.ref 240) [d0] R Q X :=
  cal_fn2 ["range_map", "starts", "found", "at", "value", "last"] [some d0, none, none, none, none, none] (st := stAt 35) (qual := "range_rows") (dV := .none) (pm := .str (Str.ofString "unicore.ranges") 450) (cd := .ref 239) (ps := ["range_map"]) (rest := ["starts", "found", "at", "value", "last"]) (gl := [(Str.ofString "enumerate", D.val (.type "enumerate")), (Str.ofString "len", D.val (.builtin "len")), (Str.ofString "MAX_CODE", D.int 1114111)]) rm (by intro P; kernel_rfl) (by intro P; kernel_rfl) (len1 fun a0 => by kernel_rfl) rfl (by kernel_rfl) (Globs.mem (.cons g_enumerate (.cons g_len (.cons g_MAX_CODE .nil)))) rfl rfl h
theorem call_data_defaults (rm : Rm A (n + 1)) (h : ∀ (env : Env) (A' : Around) (L : Addr), FE env L ["found", "name"] [] → FN env L (fnScope (stAt 37)) → Rm A' n → (∃ outer, A'.frames = some (env :: outer)) →
    Ex c A' env (fnBody (stAt 37)) ((L, .loc ["found", "name"] [none, none]) :: R) (Back L Q) (BackX L X)) : CalC c A (.ref 247) [] R Q X :=
  cal_fn2 ["found", "name"] [none, none] (st := stAt 37) (qual := "data_defaults") (dV := .none) (pm := .str (Str.ofString "unicore.data") 538) (cd := .ref 246) (ps := []) (rest := ["found", "name"]) (gl := []) rm (by intro P; kernel_rfl) (by intro P; kernel_rfl) (len0 (by kernel_rfl)) rfl (by kernel_rfl) (Globs.mem .nil) rfl rfl h
theorem call_Data_init {d0 : D} (rm : Rm A (n + 1)) (h : ∀ (env : Env) (A' : Around) (L : Addr), FE env L ["self"] [(Str.ofString "data_defaults", D.val (.ref 247))] → FN env L (fnScope (stIn 38 0)) → Rm A' n → (∃ outer, A'.frames = some (env :: outer)) →
    Ex c A' env (fnBody (stIn 38 0)) ((L, .loc ["self"] [some d0]) :: R) (Back L Q) (BackX L X)) : CalC c A (.ref 261) [d0] R Q X :=
  cal_fn2 ["self"] [some d0] (st := stIn 38 0) (qual := "Data.__init__") (dV := .none) (pm := .str (Str.ofString "unicore.data") 538) (cd := .ref 260) (ps := ["self"]) (rest := []) (gl := [(Str.ofString "data_defaults", D.val (.ref 247))]) rm (by intro P; kernel_rfl) (by intro P; kernel_rfl) (len1 fun a0 => by kernel_rfl) rfl (by kernel_rfl) (Globs.mem (.cons g_data_defaults .nil)) rfl rfl h
theorem call_Data_put {d0 d1 d2 d3 d4 : D} (rm : Rm A (n + 1)) (h : ∀ (env : Env) (A' : Around) (L : Addr), FE env L ["self", "name", "first", "last", "value"] [] → FN env L (fnScope (stIn 38 1)) → Rm A' n → (∃ outer, A'.frames = some (env :: outer)) →
    Ex c A' env (fnBody (stIn 38 1)) ((L, .loc ["self", "name", "first", "last", "value"] [some d0, some d1, some d2, some d3, some d4]) :: R) (Back L Q) (BackX L X)) : CalC c A (.ref 268) [d0, d1, d2, d3, d4] R Q X :=
  cal_fn2 ["self", "name", "first", "last", "value"] [some d0, some d1, some d2, some d3, some d4] (st := stIn 38 1) (qual := "Data.put") (dV := .none) (pm := .str (Str.ofString "unicore.data") 538) (cd := .ref 267) (ps := ["self", "name", "first", "last", "value"]) (rest := []) (gl := []) rm (by intro P; kernel_rfl) (by intro P; kernel_rfl) (len5 fun a0 a1 a2 a3 a4 => by kernel_rfl) rfl (by kernel_rfl) (Globs.mem .nil) rfl rfl h
theorem call_Data_get {d0 d1 d2 : D} (rm : Rm A (n + 1)) (h : ∀ (env : Env) (A' : Around) (L : Addr), FE env L ["self", "name", "code"] [] → FN env L (fnScope (stIn 38 2)) → Rm A' n → (∃ outer, A'.frames = some (env :: outer)) →
    Ex c A' env (fnBody (stIn 38 2)) ((L, .loc ["self", "name", "code"] [some d0, some d1, some d2]) :: R) (Back L Q) (BackX L X)) : CalC c A (.ref 275) [d0, d1, d2] R Q X :=
  cal_fn2 ["self", "name", "code"] [some d0, some d1, some d2] (st := stIn 38 2) (qual := "Data.get") (dV := .none) (pm := .str (Str.ofString "unicore.data") 538) (cd := .ref 274) (ps := ["self", "name", "code"]) (rest := []) (gl := []) rm (by intro P; kernel_rfl) (by intro P; kernel_rfl) (len3 fun a0 a1 a2 => by kernel_rfl) rfl (by kernel_rfl) (Globs.mem .nil) rfl rfl h
theorem call_Data_map_of {d0 d1 : D} (rm : Rm A (n + 1)) (h : ∀ (env : Env) (A' : Around) (L : Addr), FE env L ["self", "name"] [(Str.ofString "RangeMap", D.val (.ref 229))] → FN env L (fnScope (stIn 38 3)) → Rm A' n → (∃ outer, A'.frames = some (env :: outer)) →
    Ex c A' env (fnBody (stIn 38 3)) ((L, .loc ["self", "name"] [some d0, some d1]) :: R) (Back L Q) (BackX L X)) : CalC c A (.ref 282) [d0, d1] R Q X :=
  cal_fn2 ["self", "name"] [some d0, some d1] (st := stIn 38 3) (qual := "Data.map_of") (dV := .none) (pm := .str (Str.ofString "unicore.data") 538) (cd := .ref 281) (ps := ["self", "name"]) (rest := []) (gl := [(Str.ofString "RangeMap", D.val (.ref 229))]) rm (by intro P; kernel_rfl) (by intro P; kernel_rfl) (len2 fun a0 a1 => by kernel_rfl) rfl (by kernel_rfl) (Globs.mem (.cons g_RangeMap .nil)) rfl rfl h
theorem call_law_deck {d0 : D} (rm : Rm A (n + 1)) (h : ∀ (env : Env) (A' : Around) (L : Addr), FE env L ["script", "cell", "cells", "mixed"] [] → FN env L (fnScope (stAt 40)) → Rm A' n → (∃ outer, A'.frames = some (env :: outer)) →
    Ex c A' env (fnBody (stAt 40)) ((L, .loc ["script", "cell", "cells", "mixed"] [some d0, none, none, none]) :: R) (Back L Q) (BackX L X)) : CalC c A (.ref 294) [d0] R Q X :=
  cal_fn2 ["script", "cell", "cells", "mixed"] [some d0, none, none, none] (st := stAt 40) (qual := "_law_deck") (dV := .none) (pm := .str (Str.ofString "law_pq1303_01") 607) (cd := .ref 293) (ps := ["script"]) (rest := ["cell", "cells", "mixed"]) (gl := []) rm (by intro P; kernel_rfl) (by intro P; kernel_rfl) (len1 fun a0 => by kernel_rfl) rfl (by kernel_rfl) (Globs.mem .nil) rfl rfl h
theorem call_law_draw {d0 d1 : D} (rm : Rm A (n + 1)) (h : ∀ (env : Env) (A' : Around) (L : Addr), FE env L ["deck", "below", "figure", "cell"] [] → FN env L (fnScope (stAt 41)) → Rm A' n → (∃ outer, A'.frames = some (env :: outer)) →
    Ex c A' env (fnBody (stAt 41)) ((L, .loc ["deck", "below", "figure", "cell"] [some d0, some d1, none, none]) :: R) (Back L Q) (BackX L X)) : CalC c A (.ref 301) [d0, d1] R Q X :=
  cal_fn2 ["deck", "below", "figure", "cell"] [some d0, some d1, none, none] (st := stAt 41) (qual := "_law_draw") (dV := .none) (pm := .str (Str.ofString "law_pq1303_01") 607) (cd := .ref 300) (ps := ["deck", "below"]) (rest := ["figure", "cell"]) (gl := []) rm (by intro P; kernel_rfl) (by intro P; kernel_rfl) (len2 fun a0 a1 => by kernel_rfl) rfl (by kernel_rfl) (Globs.mem .nil) rfl rfl h
theorem call_law_pick {d0 d1 : D} (rm : Rm A (n + 1)) (h : ∀ (env : Env) (A' : Around) (L : Addr), FE env L ["deck", "some"] [(Str.ofString "_law_draw", D.val (.ref 301)), (Str.ofString "len", D.val (.builtin "len"))] → FN env L (fnScope (stAt 42)) → Rm A' n → (∃ outer, A'.frames = some (env :: outer)) →
    Ex c A' env (fnBody (stAt 42)) ((L, .loc ["deck", "some"] [some d0, some d1]) :: R) (Back L Q) (BackX L X)) : CalC c A (.ref 308) [d0, d1] R Q X :=
  cal_fn2 ["deck", "some"] [some d0, some d1] (st := stAt 42) (qual := "_law_pick") (dV := .none) (pm := .str (Str.ofString "law_pq1303_01") 607) (cd := .ref 307) (ps := ["deck", "some"]) (rest := []) (gl := [(Str.ofString "_law_draw", D.val (.ref 301)), (Str.ofString "len", D.val (.builtin "len"))]) rm (by intro P; kernel_rfl) (by intro P; kernel_rfl) (len2 fun a0 a1 => by kernel_rfl) rfl (by kernel_rfl) (Globs.mem (.cons g_law_draw (.cons g_len .nil))) rfl rfl h
theorem call_law_kinds (rm : Rm A (n + 1)) (h : ∀ (env : Env) (A' : Around) (L : Addr), FE env L [] [] → FN env L (fnScope (stAt 43)) → Rm A' n → (∃ outer, A'.frames = some (env :: outer)) →
    Ex c A' env (fnBody (stAt 43)) ((L, .loc [] []) :: R) (Back L Q) (BackX L X)) : CalC c A (.ref 315) [] R Q X :=
  cal_fn2 [] [] (st := stAt 43) (qual := "_law_kinds") (dV := .none) (pm := .str (Str.ofString "law_pq1303_01") 607) (cd := .ref 314) (ps := []) (rest := []) (gl := []) rm (by intro P; kernel_rfl) (by intro P; kernel_rfl) (len0 (by kernel_rfl)) rfl (by kernel_rfl) (Globs.mem .nil) rfl rfl h
theorem call_law_codes (rm : Rm A (n + 1)) (h : ∀ (env : Env) (A' : Around) (L : Addr), FE env L ["found", "first", "last", "kind"] [(Str.ofString "_law_kinds", D.val (.ref 315)), (Str.ofString "list", D.val (.type "list")), (Str.ofString "range", D.val (.type "range"))] → FN env L (fnScope (stAt 45)) → Rm A' n → (∃ outer, A'.frames = some (env :: outer)) →
    Ex c A' env (fnBody (stAt 45)) ((L, .loc ["found", "first", "last", "kind"] [none, none, none, none]) :: R) (Back L Q) (BackX L X)) : CalC c A (.ref 323) [] R Q X :=
  cal_fn2 ["found", "first", "last", "kind"] [none, none, none, none] (st := stAt 45) (qual := "_law_codes") (dV := .none) (pm := .str (Str.ofString "law_pq1303_01") 607) (cd := .ref 322) (ps := []) (rest := ["found", "first", "last", "kind"]) (gl := [(Str.ofString "_law_kinds", D.val (.ref 315)), (Str.ofString "list", D.val (.type "list")), (Str.ofString "range", D.val (.type "range"))]) rm (by intro P; kernel_rfl) (by intro P; kernel_rfl) (len0 (by kernel_rfl)) rfl (by kernel_rfl) (Globs.mem (.cons g_law_kinds (.cons g_list (.cons g_range .nil)))) rfl rfl h
theorem call_law_is_passed {d0 : D} (rm : Rm A (n + 1)) (h : ∀ (env : Env) (A' : Around) (L : Addr) (ad : Str → Addr), FE env L [] [(Str.ofString "_law_kinds", D.val (.ref 315))] → CE env ["code"] ad → FN env L (fnScope (stAt 46)) → Rm A' n → (∃ outer, A'.frames = some (env :: outer)) →
    Ex c A' env (fnBody (stAt 46)) ((L, .loc [] []) :: (ad "code", .cell d0) :: R) (BackC L ["code"] ad Q) (BackXC L ["code"] ad X)) : CalC c A (.ref 328) [d0] R Q X :=
  cal_fnC2 (fun ad => (ad "code", .cell d0) :: R) (st := stAt 46) (qual := "_law_is_passed") (dV := .none) (pm := .str (Str.ofString "law_pq1303_01") 607) (cd := .ref 327) (ps := ["code"]) (gl := [(Str.ofString "_law_kinds", D.val (.ref 315))]) rm (by intro P; kernel_rfl) (by intro P; kernel_rfl) (len1 fun a0 => by kernel_rfl) rfl (by kernel_rfl) (Globs.mem (.cons g_law_kinds .nil)) (fun _ => rfl) h
theorem call_law_data (rm : Rm A (n + 1)) (h : ∀ (env : Env) (A' : Around) (L : Addr), FE env L ["data", "first", "last", "kind"] [(Str.ofString "Data", D.val (.ref 285)), (Str.ofString "_law_kinds", D.val (.ref 315))] → FN env L (fnScope (stAt 47)) → Rm A' n → (∃ outer, A'.frames = some (env :: outer)) →
    Ex c A' env (fnBody (stAt 47)) ((L, .loc ["data", "first", "last", "kind"] [none, none, none, none]) :: R) (Back L Q) (BackX L X)) : CalC c A (.ref 335) [] R Q X :=
  cal_fn2 ["data", "first", "last", "kind"] [none, none, none, none] (st := stAt 47) (qual := "_law_data") (dV := .none) (pm := .str (Str.ofString "law_pq1303_01") 607) (cd := .ref 334) (ps := []) (rest := ["data", "first", "last", "kind"]) (gl := [(Str.ofString "Data", D.val (.ref 285)), (Str.ofString "_law_kinds", D.val (.ref 315))]) rm (by intro P; kernel_rfl) (by intro P; kernel_rfl) (len0 (by kernel_rfl)) rfl (by kernel_rfl) (Globs.mem (.cons g_Data (.cons g_law_kinds .nil))) rfl rfl h
theorem call_law_hex {d0 : D} (rm : Rm A (n + 1)) (h : ∀ (env : Env) (A' : Around) (L : Addr), FE env L ["code", "found"] [(Str.ofString "len", D.val (.builtin "len"))] → FN env L (fnScope (stAt 48)) → Rm A' n → (∃ outer, A'.frames = some (env :: outer)) →
    Ex c A' env (fnBody (stAt 48)) ((L, .loc ["code", "found"] [some d0, none]) :: R) (Back L Q) (BackX L X)) : CalC c A (.ref 342) [d0] R Q X :=
  cal_fn2 ["code", "found"] [some d0, none] (st := stAt 48) (qual := "_law_hex") (dV := .none) (pm := .str (Str.ofString "law_pq1303_01") 607) (cd := .ref 341) (ps := ["code"]) (rest := ["found"]) (gl := [(Str.ofString "len", D.val (.builtin "len"))]) rm (by intro P; kernel_rfl) (by intro P; kernel_rfl) (len1 fun a0 => by kernel_rfl) rfl (by kernel_rfl) (Globs.mem (.cons g_len .nil)) rfl rfl h
theorem call_law_octets {d0 : D} (rm : Rm A (n + 1)) (h : ∀ (env : Env) (A' : Around) (L : Addr), FE env L ["text"] [(Str.ofString "bytes", D.val (.type "bytes"))] → FN env L (fnScope (stAt 49)) → Rm A' n → (∃ outer, A'.frames = some (env :: outer)) →
    Ex c A' env (fnBody (stAt 49)) ((L, .loc ["text"] [some d0]) :: R) (Back L Q) (BackX L X)) : CalC c A (.ref 347) [d0] R Q X :=
  cal_fn2 ["text"] [some d0] (st := stAt 49) (qual := "_law_octets") (dV := .none) (pm := .str (Str.ofString "law_pq1303_01") 607) (cd := .ref 346) (ps := ["text"]) (rest := []) (gl := [(Str.ofString "bytes", D.val (.type "bytes"))]) rm (by intro P; kernel_rfl) (by intro P; kernel_rfl) (len1 fun a0 => by kernel_rfl) rfl (by kernel_rfl) (Globs.mem (.cons g_bytes .nil)) rfl rfl h
theorem call_law_joins {d0 : D} (rm : Rm A (n + 1)) (h : ∀ (env : Env) (A' : Around) (L : Addr) (ad : Str → Addr), FE env L [] [(Str.ofString "_law_codes", D.val (.ref 323))] → CE env ["data"] ad → FN env L (fnScope (stAt 50)) → Rm A' n → (∃ outer, A'.frames = some (env :: outer)) →
    Ex c A' env (fnBody (stAt 50)) ((L, .loc [] []) :: (ad "data", .cell d0) :: R) (BackC L ["data"] ad Q) (BackXC L ["data"] ad X)) : CalC c A (.ref 352) [d0] R Q X :=
  cal_fnC2 (fun ad => (ad "data", .cell d0) :: R) (st := stAt 50) (qual := "_law_joins") (dV := .none) (pm := .str (Str.ofString "law_pq1303_01") 607) (cd := .ref 351) (ps := ["data"]) (gl := [(Str.ofString "_law_codes", D.val (.ref 323))]) rm (by intro P; kernel_rfl) (by intro P; kernel_rfl) (len1 fun a0 => by kernel_rfl) rfl (by kernel_rfl) (Globs.mem (.cons g_law_codes .nil)) (fun _ => rfl) h
theorem call_law_written_right {d0 : D} (rm : Rm A (n + 1)) (h : ∀ (env : Env) (A' : Around) (L : Addr), FE env L ["deck", "data", "rows", "code", "sort", "was", "told", "other"] [(Str.ofString "_law_data", D.val (.ref 335)), (Str.ofString "_law_codes", D.val (.ref 323)), (Str.ofString "_law_pick", D.val (.ref 308)), (Str.ofString "_law_sorts", D.lst (joiningTypes.map .str)), (Str.ofString "_law_is_passed", D.val (.ref 328)), (Str.ofString "_law_hex", D.val (.ref 342)), (Str.ofString "_law_joins", D.val (.ref 352)), (Str.ofString "bytes", D.val (.type "bytes")), (Str.ofString "joining_octets", D.val (.ref 181)), (Str.ofString "_law_octets", D.val (.ref 347)), (Str.ofString "read_joining", D.val (.ref 167))] → FN env L (fnScope (stAt 51)) → Rm A' n → (∃ outer, A'.frames = some (env :: outer)) →
    Ex c A' env (fnBody (stAt 51)) ((L, .loc ["deck", "data", "rows", "code", "sort", "was", "told", "other"] [some d0, none, none, none, none, none, none, none]) :: R) (Back L Q) (BackX L X)) : CalC c A (.ref 359) [d0] R Q X :=
  cal_fn2 ["deck", "data", "rows", "code", "sort", "was", "told", "other"] [some d0, none, none, none, none, none, none, none] (st := stAt 51) (qual := "_law_written_right") (dV := .none) (pm := .str (Str.ofString "law_pq1303_01") 607) (cd := .ref 358) (ps := ["deck"]) (rest := ["data", "rows", "code", "sort", "was", "told", "other"]) (gl := [(Str.ofString "_law_data", D.val (.ref 335)), (Str.ofString "_law_codes", D.val (.ref 323)), (Str.ofString "_law_pick", D.val (.ref 308)), (Str.ofString "_law_sorts", D.lst (joiningTypes.map .str)), (Str.ofString "_law_is_passed", D.val (.ref 328)), (Str.ofString "_law_hex", D.val (.ref 342)), (Str.ofString "_law_joins", D.val (.ref 352)), (Str.ofString "bytes", D.val (.type "bytes")), (Str.ofString "joining_octets", D.val (.ref 181)), (Str.ofString "_law_octets", D.val (.ref 347)), (Str.ofString "read_joining", D.val (.ref 167))]) rm (by intro P; kernel_rfl) (by intro P; kernel_rfl) (len1 fun a0 => by kernel_rfl) rfl (by kernel_rfl) (Globs.mem (.cons g_law_data (.cons g_law_codes (.cons g_law_pick (.cons g_law_sorts (.cons g_law_is_passed (.cons g_law_hex (.cons g_law_joins (.cons g_bytes (.cons g_joining_octets (.cons g_law_octets (.cons g_read_joining .nil)))))))))))) rfl rfl h
theorem call_law_line {d0 d1 d2 : D} (rm : Rm A (n + 1)) (h : ∀ (env : Env) (A' : Around) (L : Addr), FE env L ["deck", "code", "sort", "gap", "end", "fields"] [(Str.ofString "_law_pick", D.val (.ref 308)), (Str.ofString "_law_hex", D.val (.ref 342))] → FN env L (fnScope (stAt 52)) → Rm A' n → (∃ outer, A'.frames = some (env :: outer)) →
    Ex c A' env (fnBody (stAt 52)) ((L, .loc ["deck", "code", "sort", "gap", "end", "fields"] [some d0, some d1, some d2, none, none, none]) :: R) (Back L Q) (BackX L X)) : CalC c A (.ref 366) [d0, d1, d2] R Q X :=
  cal_fn2 ["deck", "code", "sort", "gap", "end", "fields"] [some d0, some d1, some d2, none, none, none] (st := stAt 52) (qual := "_law_line") (dV := .none) (pm := .str (Str.ofString "law_pq1303_01") 607) (cd := .ref 365) (ps := ["deck", "code", "sort"]) (rest := ["gap", "end", "fields"]) (gl := [(Str.ofString "_law_pick", D.val (.ref 308)), (Str.ofString "_law_hex", D.val (.ref 342))]) rm (by intro P; kernel_rfl) (by intro P; kernel_rfl) (len3 fun a0 a1 a2 => by kernel_rfl) rfl (by kernel_rfl) (Globs.mem (.cons g_law_pick (.cons g_law_hex .nil))) rfl rfl h
theorem call_law_spoilt {d0 d1 : D} (rm : Rm A (n + 1)) (h : ∀ (env : Env) (A' : Around) (L : Addr), FE env L ["deck", "used", "bad"] [(Str.ofString "_law_draw", D.val (.ref 301)), (Str.ofString "_law_hex", D.val (.ref 342)), (Str.ofString "_law_pick", D.val (.ref 308))] → FN env L (fnScope (stAt 53)) → Rm A' n → (∃ outer, A'.frames = some (env :: outer)) →
    Ex c A' env (fnBody (stAt 53)) ((L, .loc ["deck", "used", "bad"] [some d0, some d1, none]) :: R) (Back L Q) (BackX L X)) : CalC c A (.ref 373) [d0, d1] R Q X :=
  cal_fn2 ["deck", "used", "bad"] [some d0, some d1, none] (st := stAt 53) (qual := "_law_spoilt") (dV := .none) (pm := .str (Str.ofString "law_pq1303_01") 607) (cd := .ref 372) (ps := ["deck", "used"]) (rest := ["bad"]) (gl := [(Str.ofString "_law_draw", D.val (.ref 301)), (Str.ofString "_law_hex", D.val (.ref 342)), (Str.ofString "_law_pick", D.val (.ref 308))]) rm (by intro P; kernel_rfl) (by intro P; kernel_rfl) (len2 fun a0 a1 => by kernel_rfl) rfl (by kernel_rfl) (Globs.mem (.cons g_law_draw (.cons g_law_hex (.cons g_law_pick .nil)))) rfl rfl h
theorem call_law_read_right {d0 : D} (rm : Rm A (n + 1)) (h : ∀ (env : Env) (A' : Around) (L : Addr), FE env L ["deck", "lines", "left", "told", "turn", "code", "data", "end", "due", "other", "number", "was", "e"] [(Str.ofString "_law_codes", D.val (.ref 323)), (Str.ofString "range", D.val (.type "range")), (Str.ofString "_law_draw", D.val (.ref 301)), (Str.ofString "_law_pick", D.val (.ref 308)), (Str.ofString "len", D.val (.builtin "len")), (Str.ofString "_law_sorts", D.lst (joiningTypes.map .str)), (Str.ofString "_law_line", D.val (.ref 366)), (Str.ofString "_law_data", D.val (.ref 335)), (Str.ofString "read_joining", D.val (.ref 167)), (Str.ofString "_law_octets", D.val (.ref 347)), (Str.ofString "_law_is_passed", D.val (.ref 328)), (Str.ofString "_law_joins", D.val (.ref 352)), (Str.ofString "_law_spoilt", D.val (.ref 373)), (Str.ofString "sorted", D.val (.builtin "sorted")), (Str.ofString "BadRow", D.val (.ref 64))] → FN env L (fnScope (stAt 54)) → Rm A' n → (∃ outer, A'.frames = some (env :: outer)) →
    Ex c A' env (fnBody (stAt 54)) ((L, .loc ["deck", "lines", "left", "told", "turn", "code", "data", "end", "due", "other", "number", "was", "e"] [some d0, none, none, none, none, none, none, none, none, none, none, none, none]) :: R) (Back L Q) (BackX L X)) : CalC c A (.ref 380) [d0] R Q X :=
  cal_fn2 ["deck", "lines", "left", "told", "turn", "code", "data", "end", "due", "other", "number", "was", "e"] [some d0, none, none, none, none, none, none, none, none, none, none, none, none] (st := stAt 54) (qual := "_law_read_right") (dV := .none) (pm := .str (Str.ofString "law_pq1303_01") 607) (cd := .ref 379) (ps := ["deck"]) (rest := ["lines", "left", "told", "turn", "code", "data", "end", "due", "other", "number", "was", "e"]) (gl := [(Str.ofString "_law_codes", D.val (.ref 323)), (Str.ofString "range", D.val (.type "range")), (Str.ofString "_law_draw", D.val (.ref 301)), (Str.ofString "_law_pick", D.val (.ref 308)), (Str.ofString "len", D.val (.builtin "len")), (Str.ofString "_law_sorts", D.lst (joiningTypes.map .str)), (Str.ofString "_law_line", D.val (.ref 366)), (Str.ofString "_law_data", D.val (.ref 335)), (Str.ofString "read_joining", D.val (.ref 167)), (Str.ofString "_law_octets", D.val (.ref 347)), (Str.ofString "_law_is_passed", D.val (.ref 328)), (Str.ofString "_law_joins", D.val (.ref 352)), (Str.ofString "_law_spoilt", D.val (.ref 373)), (Str.ofString "sorted", D.val (.builtin "sorted")), (Str.ofString "BadRow", D.val (.ref 64))]) rm (by intro P; kernel_rfl) (by intro P; kernel_rfl) (len1 fun a0 => by kernel_rfl) rfl (by kernel_rfl) (Globs.mem (.cons g_law_codes (.cons g_range (.cons g_law_draw (.cons g_law_pick (.cons g_len (.cons g_law_sorts (.cons g_law_line (.cons g_law_data (.cons g_read_joining (.cons g_law_octets (.cons g_law_is_passed (.cons g_law_joins (.cons g_law_spoilt (.cons g_sorted (.cons g_BadRow .nil)))))))))))))))) rfl rfl h
theorem call_law {d0 : D} (rm : Rm A (n + 1)) (h : ∀ (env : Env) (A' : Around) (L : Addr), FE env L ["script", "deck", "data", "other"] [(Str.ofString "_law_deck", D.val (.ref 294)), (Str.ofString "_law_data", D.val (.ref 335)), (Str.ofString "read_joining", D.val (.ref 167)), (Str.ofString "joining_octets", D.val (.ref 181)), (Str.ofString "_law_joins", D.val (.ref 352)), (Str.ofString "len", D.val (.builtin "len")), (Str.ofString "_law_written_right", D.val (.ref 359)), (Str.ofString "_law_read_right", D.val (.ref 380))] → FN env L (fnScope (stAt 55)) → Rm A' n → (∃ outer, A'.frames = some (env :: outer)) →
    Ex c A' env (fnBody (stAt 55)) ((L, .loc ["script", "deck", "data", "other"] [some d0, none, none, none]) :: R) (Back L Q) (BackX L X)) : CalC c A (.ref 387) [d0] R Q X :=
  cal_fn2 ["script", "deck", "data", "other"] [some d0, none, none, none] (st := stAt 55) (qual := "law") (dV := .none) (pm := .str (Str.ofString "law_pq1303_01") 607) (cd := .ref 386) (ps := ["script"]) (rest := ["deck", "data", "other"]) (gl := [(Str.ofString "_law_deck", D.val (.ref 294)), (Str.ofString "_law_data", D.val (.ref 335)), (Str.ofString "read_joining", D.val (.ref 167)), (Str.ofString "joining_octets", D.val (.ref 181)), (Str.ofString "_law_joins", D.val (.ref 352)), (Str.ofString "len", D.val (.builtin "len")), (Str.ofString "_law_written_right", D.val (.ref 359)), (Str.ofString "_law_read_right", D.val (.ref 380))]) rm (by intro P; kernel_rfl) (by intro P; kernel_rfl) (len1 fun a0 => by kernel_rfl) rfl (by kernel_rfl) (Globs.mem (.cons g_law_deck (.cons g_law_data (.cons g_read_joining (.cons g_joining_octets (.cons g_law_joins (.cons g_len (.cons g_law_written_right (.cons g_law_read_right .nil))))))))) rfl rfl h
end
end Mine
end
section
open PySem PySem.W PySem.Calls PyProof.Rows
set_option Elab.async false
set_option tactic.hygienic false
set_option maxRecDepth 100000
set_option linter.unusedVariables false
namespace Mine
/-- the walk's table: a word, then the steps that it tries -/
def wTab : List String := ("h:=Has.head|=Has.h1|=Has.h2|=Has.h3|=Has.h4|+Has.t5 h
u:=Upd.head|=Upd.h1|=Upd.h2|=Upd.h3|=Upd.h4|+Upd.t5 u
r:=Rem.head|+Rem.tail r
l:=LocAt.here|=LocAt.h1|=LocAt.h2|=LocAt.h3|=LocAt.h4|+LocAt.t5 l
ls:=LocSet.here|=LocSet.h1|=LocSet.h2|=LocSet.h3|=LocSet.h4|+LocSet.t5 ls
g:=GlAt.here|+GlAt.there g
mem:=List.mem_cons_self|+List.mem_cons_of_mem mem
d:=Drops.nil|+Drops.keep d|+Drops.drop U d
rc:=RemCells.nil|+RemCells.cons r rc
tk:=Takes.nil|+Takes.cons r tk
out:+back_ret A r d|+back_next A r d|+backc_ret A r rc d
cab:=Cable.builtin _|=Cable.typ _|=Cable.ref _ K
lv:=lv_f|=lv_o h
gm:=gm_append h|=gm_list h PySem.F.slot_list_pop PySem.F.type_list_pop PySem.F.plainAttrs_list|=gm_S h PySem.F.slot_dict_get PySem.F.type_dict_get PySem.F.plainAttrs_dict|=gm_I h PySem.F.slot_dict_setdefault PySem.F.type_dict_setdefault PySem.F.plainAttrs_dict|=gm_by slot_find type_find|=gm_by slot_strip type_strip|=gm_by slot_split type_split|=gm_by slot_join type_join|=gm_by FB.slot_bytes_startswith FB.type_bytes_startswith|=gm_str PySem.F.slot_str_join PySem.F.type_str_join PySem.F.plainAttrs_str|=gm_rm_get h h D|=gm_rm_put h h D|=gm_rm_ranges h h D|=gm_data_put h h D|=gm_data_get h h D|=gm_data_map_of h h D
nm:ev_loc A h l ?|ev_glob A g ?|ev_cell A A mem h ?
ct:ev_int ?|ev_str ?|ev_none ?|ev_bool ?|ev_bytes ?
cp:ev_cmp ?|ev_chain ?
ca:ev_call ?|ev_meth ?
ev:/Ev 3 Expr.Name 2 nm|/Ev 3 Expr.Constant 3 ct|/Ev 3 Expr.Call 4 ca|/Ev 3 Expr.Compare 4 cp|ev_bin ?|ev_sub ?|ev_attr ?|ev_tuple ?|ev_list ?|ev_and ?|ev_or ?|ev_neg ?
cm:cm_lt ?|cm_gt ?|cm_le ?|cm_ge ?|cm_eq ?|cm_ne ?|cm_eqS ?|cm_neS ?|cm_eqB ?|cm_eqBy ?|cm_neBy ?|cm_isN ?|cm_isI ?|cm_eqNI ?
bi:bi_add ?|bi_sub ?
ar:args_cons ?|args_nil ?
cal:ca_int ?|ca_ord ?
ts:ts_cmp ?|ts_chain ?|ts_not ?|ts_and_nil ?|ts_or_nil ?|ts_val ?
ex:ex_cons ?|ex_nil ?
th:thn_next ?|thn_ret ?|thn_brk ?|thn_cont ?
sx:sx_name A ?|sx_return ?|sx_expr A ?|sx_sub ?|sx_attr ?|sx_return_none ?
tu:turn_next ?|turn_cont ?|turn_brk ?|turn_ret ?
as:asg_name A ?|asg_tupleR A ?
asgs:asgs_cons ?|asgs_nil ?
att:at_own h h get_rm_starts l U ?|at_own h h get_rm_values l U ?|at_own h h get_rm_default l U ?|at_own h h get_data_maps l U ?|at_own h h get_data_defaults l U ?
seta:sa_own2 set_rm_starts h u ls D D ?|sa_own2 set_rm_values h u ls D D ?|sa_own2 set_rm_default h u ls D D ?|sa_own2 set_data_maps h u ls D D ?|sa_own2 set_data_defaults h u ls D D ?|sa_own2 set_data_properties h u ls D D ?|sa_own2 set_data_words h u ls D D ?
st:/Ev 7 ev|/Ex 7 ex|/Thn 8 th|/Sx 7 sx|/Sto 6 sto u ls ?|/Cmp 8 cm|/Tru 6 tr_bool ?|/Bin 8 bi|/Args 7 ar|/kCall 8 ce|/kMeth 9 me|/Cal 7 cal|/Tst 7 ts|br_true ?|br_false ?|/Turn 4 tu|/Asg 8 as|/Asgs 8 asgs|/Att 7 att|/SetA 8 seta|/CLoc 4 cloc r rfl ?|/NewL 3 newl_f ?|prs_cons ?|prs_nil ?|key_str ?
ife:ev_ifexp ?
if:sx_if ?
bo:ts_and ?|ts_or ?
ce:callee cab ?
me:methd gm cab ?
rz3:backx ? r d").splitOn "\n"
def wTac (t : String) : Lean.MacroM Lean.Syntax.Tactic :=
  if t == "A" then `(tactic| assumption) else if t == "D" then `(tactic| with_unfolding_all decide) else if t == "U" then `(tactic| with_unfolding_all rfl) else if t == "K" then `(tactic| (intro P; kernel_rfl)) else `(tactic| walk_at $(Lean.quote t))
def wArg (t : String) : Lean.MacroM Lean.Term :=
  if t == "_" then `(_) else if t == "?" then `(?_) else if t == "rfl" || t.contains '_' then pure (Lean.mkIdent t.toName) else do
    let a ← wTac t
    `(by $a:tactic)
def wApp (w : String) (r : List String) : Lean.MacroM Lean.Term := do
  let a ← r.mapM wArg
  pure (Lean.Syntax.mkApp (Lean.mkIdent w.toName) a.toArray)
def wTwo (a b : Lean.Syntax.Tactic) : Lean.MacroM Lean.Syntax.Tactic := `(tactic| ($a:tactic; $b:tactic))
def wSeq (a : Lean.Syntax.Tactic) (r : List String) : Lean.MacroM Lean.Syntax.Tactic := do
  let b ← r.mapM wTac
  b.foldlM wTwo a
def wRow : List String → Lean.MacroM Lean.Syntax.Tactic
  | [] => Lean.Macro.throwUnsupported
  | w :: r => do
    if w.startsWith "+" then
      let a ← `(tactic| apply $(Lean.mkIdent (w.drop 1).toString.toName))
      wSeq a r
    else if r.isEmpty && !w.startsWith "=" then wTac w
    else
      let e ← wApp (if w.startsWith "=" then (w.drop 1).toString else w) r
      `(tactic| refine $e)
def wHead (h n : String) : Lean.MacroM Lean.Term := wApp h (List.replicate n.toNat! "_")
def wGuard (p : Lean.Term) (t : Lean.Syntax.Tactic) : Lean.MacroM Lean.Syntax.Tactic := do
  let g ← `(tactic| guard_target =~ $p)
  wTwo g t
def wAlt : List String → Lean.MacroM Lean.Syntax.Tactic
  | w :: r => do
    if w == "/Ev" then
      match r with
      | [_, m, k, x] =>
        let e ← wHead m k
        let h ← wArg "_"
        let t ← wTac x
        wGuard (Lean.Syntax.mkApp (Lean.mkIdent `Ev) #[h, h, h, e, h, h, h]) t
      | n :: r =>
        let p ← wHead "Ev" n
        let t ← wRow r
        wGuard p t
      | [] => Lean.Macro.throwUnsupported
    else if w.startsWith "/" then
      match r with
      | n :: r =>
        let p ← wHead (w.drop 1).toString n
        let t ← wRow r
        wGuard p t
      | [] => Lean.Macro.throwUnsupported
    else wRow (w :: r)
  | [] => Lean.Macro.throwUnsupported
def wGo (w : String) : Lean.MacroM Lean.Syntax :=
  match wTab.find? fun l => l.startsWith (w ++ ":") with
  | none => Lean.Macro.throwUnsupported
  | some l => do
    let ts ← (((l.drop (w.length + 1)).toString.splitOn "|").map fun x => x.splitOn " ").mapM wAlt
    let ts := ts.toArray
    `(tactic| with_reducible first $[| $ts:tactic]*)
section
variable {c : Cx} {A : Around} {env : Env} {L : Addr} {R R1 : Led} {Q : D → Led → Prop} {X : Addr → D → Led → Prop}
theorem asg_tupleR {elts k pos ds} {n : Nat} {Q : Led → Prop} (rm : Rm A n) (h : Asgs c A env elts ds R Q X) (hn : elts.length = ds.length := by with_unfolding_all rfl)
    (he : ∀ env, assignEach elts env = elts.map fun t => (false, assign t env) := by intro _; with_unfolding_all rfl) : Asg c A env (.Tuple elts k pos) (.tup ds) R Q X := asg_tuple rm.handled h hn he
theorem thn_next {rest R} {Q : Fl → Led → Prop} (h : Ex c A env rest R Q X) : Thn c A env rest Q X .next R := h
theorem thn_ret {rest d R} {Q : Fl → Led → Prop} (h : Q (.ret d) R) : Thn c A env rest Q X (.ret d) R := h
theorem thn_brk {rest R} {Q : Fl → Led → Prop} (h : Q .brk R) : Thn c A env rest Q X .brk R := h
theorem thn_cont {rest R} {Q : Fl → Led → Prop} (h : Q .cont R) : Thn c A env rest Q X .cont R := h
theorem turn_next {J R} {Q : Fl → Led → Prop} (h : J R) : Turn Q J .next R := h
theorem turn_cont {J R} {Q : Fl → Led → Prop} (h : J R) : Turn Q J .cont R := h
theorem turn_brk {J R} {Q : Fl → Led → Prop} (h : Q .next R) : Turn Q J .brk R := h
theorem turn_ret {J d R} {Q : Fl → Led → Prop} (h : Q (.ret d) R) : Turn Q J (.ret d) R := h
theorem back_ret {d R ns vs Ra R1} (h : Q d R1) (r : Rem (L, .loc ns vs) R Ra) (dr : Drops Ra R1) : Back L Q (.ret d) R := ⟨ns, vs, Ra, R1, r, dr, h⟩
theorem back_next {R ns vs Ra R1} (h : Q .none R1) (r : Rem (L, .loc ns vs) R Ra) (dr : Drops Ra R1) : Back L Q .next R := ⟨ns, vs, Ra, R1, r, dr, h⟩
theorem backc_ret {ps ad d R ns vs Ra Rb R1} (h : Q d R1) (r : Rem (L, .loc ns vs) R Ra) (rc : RemCells ad ps Ra Rb) (dr : Drops Rb R1) : BackC L ps ad Q (.ret d) R := ⟨ns, vs, Ra, Rb, R1, r, rc, dr, h⟩
theorem backx {C d R ns vs Ra R1} (h : X C d R1) (r : Rem (L, .loc ns vs) R Ra) (dr : Drops Ra R1) : BackX L X C d R := ⟨ns, vs, Ra, R1, r, dr, h⟩
theorem br_true {P P' : Prop} (h : P) : (true = true → P) ∧ (true = false → P') := And.intro (fun _ => h) (fun e => Bool.noConfusion e)
theorem br_false {P P' : Prop} (h : P') : (false = true → P) ∧ (false = false → P') := And.intro (fun e => Bool.noConfusion e) (fun _ => h)
theorem callee {v : Value} {es : List Expr} (cab : Cable v) (h : Args c A env es R (kCal c A v Q X) X) : kCall c A env es Q X (.val v) R := ⟨v, rfl, cab, h⟩
theorem methd {d : D} {name : Str} {f : Value} {es : List Expr} (gm : GetM c d name R f) (cab : Cable f) (h : Args c A env es R (kMet c A f d Q X) X) : kMeth c A env name es Q X d R := ⟨f, gm, cab, h⟩
theorem ev_neg {i : Int} {k p pos} (h : Q (.int (-i)) R) : Ev c A env (.UnaryOp .USub (.Constant (.int i) k p) pos) R Q X :=
  ev_unary (ev_int fun I H s v hs r => by (first | obtain ⟨_, rfl⟩ := Rep.iI r | obtain ⟨_, rfl⟩ := Rep.sI r | obtain rfl := Rep.vI r | obtain rfl := Rep.bI r | obtain rfl := Rep.nI r | cases r); exact PyProof.Rows.neg_int ⟨I, R, _, Sub.refl _, hs.toks _, .int _ _, h⟩)
end
theorem lv_f {R : Led} {ds : List D} : LV R (.lst ds) ds := .inl rfl
theorem lv_o {R : Led} {a : Addr} {ds : List D} (m : Has (a, .list ds) R) : LV R (.val (.ref a)) ds := .inr ⟨a, rfl, m⟩
theorem tst_cut {e : Expr} {Qb : Bool → Led → Prop} (β : Bool) (h : Tst c A env e R (fun b R' => b = β ∧ R' = R) NoX) (k : Qb β R) : Tst c A env e R Qb X :=
  ⟨fun I H s hs => wpAny_mono (h.run I H s hs) (fun _ _ z => z.mono fun b R' ⟨e1, e2⟩ => by subst e1 e2; exact k) fun _ _ z => z.no⟩
/-- posts and invariants kept behind a name: the terms stay small -/
theorem opx (P : Addr → D → Led → Prop) {G : Prop} (h : ∀ J : Addr → D → Led → Prop, (∀ C d R, J C d R ↔ P C d R) → G) : G := h P fun _ _ _ => Iff.rfl
theorem Cal.gen {f : Value} {ds : List D} {Q0 : D → Led → Prop} (h : ∀ Q : D → Led → Prop, (∀ d R', Q0 d R' → Q d R') → Cal c A f ds R Q X) : Cal c A f ds R Q0 X := h Q0 fun _ _ x => x
theorem Sx.gq {st : Stmt} {Q0 : Fl → Led → Prop} (h : ∀ Q : Fl → Led → Prop, (∀ fl R', Q0 fl R' → Q fl R') → Sx c A env st R Q X) : Sx c A env st R Q0 X := h Q0 fun _ _ x => x
theorem ev_cut {e : Expr} (d : D) (h : Ev c A env e R (fun b R' => b = d ∧ R' = R) NoX) (k : Q d R) : Ev c A env e R Q X :=
  ⟨fun I H s hs => wpAny_mono (h.run I H s hs) (fun _ _ z => z.mono fun b R' ⟨e1, e2⟩ => by subst e1 e2; exact k) fun _ _ z => z.no⟩
theorem sx_cut {st : Stmt} {Q : Fl → Led → Prop} (R1 : Led) (h : Sx c A env st R (fun fl R' => fl = .next ∧ R' = R1) NoX) (k : Q .next R1) : Sx c A env st R Q X :=
  ⟨fun I H s hs => wpAny_mono (h.run I H s hs) (fun _ _ z => z.mono fun b R' ⟨e1, e2⟩ => by subst e1 e2; exact k) fun _ _ z => z.no⟩
theorem tests_nil {Qb : Bool → Led → Prop} (h : Qb true R) : Tests c A env [] R Qb := h
theorem tests_one {t : Expr} {Qb : Bool → Led → Prop} (h : Tst c A env t R Qb NoX) : Tests c A env [t] R Qb := h
theorem cloc {C : Addr} {cns : List Str} {cvs : List (Option D)} {R R' : Led} {P : Led → Prop} (r : Rem (C, .loc cns cvs) R R') (hl : cvs.length = cns.length) (h : P R') : CLoc C cns P R := ⟨cvs, R', hl, r, h⟩
/-- a comprehension that keeps the ledger and takes each item -/
theorem ev_map {elt iter : Expr} {target : Expr} {scope : Scope} {pos : Pos} {ns ps : List Str} {gl : List (Str × D)} {ad : Str → Addr} {n : Nat} (cns : List Str) (gl' : List (Str × D)) (frees : List Str) (rm : Rm A n) (fe : FE env L ns gl) (ce : CE env ps ad) (ok : compOk scope cns gl' frees = true) (hps : frees ⊆ ps) (hg : ∀ p ∈ gl', GlobIs p.1 p.2)
    (h : Ev c A env iter R (fun d R1 => ∃ items out : List D, Items d items ∧ items.length ≤ 100000 ∧ out.length = items.length ∧
      (∀ (i : Nat) (x y : D) (cvs : List (Option D)) (C : Addr) (env' : Env), items[i]? = some x → out[i]? = some y → cvs.length = cns.length → FE env' C cns gl' → CE env' frees ad → Asg c A env' target x ((C, .loc cns cvs) :: R1) (fun R3 => Ev c A env' elt R3 (fun d => CLoc C cns (fun R4 => d = y ∧ R4 = R1)) NoX) NoX) ∧
      NewL Q out R1) X)
    (hf : ∀ env x, foldedSetIterable iter env x = pure x) : Ev c A env (.ListComp elt [⟨target, iter, [], 0⟩] scope pos) R Q X := by
  refine ev_comp (freesOf ad frees) cns rm.handled fe (comp_ok ok hps ce) (h.mono fun d R1 zz => ?_) hf
  refine gP fun Gq hGq => ?_
  obtain ⟨items, out, hi, hl, ho, turn, q⟩ := zz
  refine hGq ?_
  clear hGq
  refine ⟨items, hi, hl, fun i acc R2 => R2 = R1 ∧ acc = out.take i, ⟨rfl, by simp⟩, ?_, ?_⟩
  · rintro i x acc R2 cvs C hx ⟨rfl, rfl⟩ hal hc
    have lt := (List.getElem?_eq_some_iff.mp hx).1
    have hy : out[i]? = some (out[i]'(by lia)) := List.getElem?_eq_getElem _
    refine ⟨fun I H s v hs r => wpAny_mono ((turn i x _ cvs C _ hx hy hc (comp_fe fe ok hg) (comp_ce ok)).run I H s v hs r) (fun v s' z => z.mono fun _ R3 z3 => ?_) fun _ _ z => z⟩
    refine tests_nil (br_true ?_)
    refine z3.mono fun d R4 zz => ?_
    refine gP fun Gq hGq => ?_
    obtain ⟨cvs', R', h1, h2, h3, h4⟩ := zz
    refine hGq ?_
    clear hGq
    refine ⟨cvs', R', h1, h2, h4, ?_⟩
    rw [List.take_add_one, hy, h3]; rfl
  · rintro acc R2 ⟨rfl, rfl⟩
    rw [List.take_of_length_le (by lia)]; exact q
theorem sa_own2 {x C dx : Addr} {ns : List Str} {vs vs' : List (Option D)} {name : Str} {d : D} {R R' : Led} {Q : Led → Prop} (ok : ∀ P, setOk (K P) C name = true) (m1 : Has (x, .inst C dx) R) (u : Upd dx (.ats ns vs) (.ats ns vs') R R') (l : LocSet ns vs name d vs') (hz : ns.length ≤ 1000) (nd : ns.Nodup) (h : Q R') : SetA c A (.val (.ref x)) name d R Q X := sa_own hz m1 u l nd ok h
@[reducible] noncomputable def kSw2b (L : Addr) (ns : List Str) (x : Str) (d1 : D) (Q : Fl → Led → Prop) : Led → Prop := fun R2 => Sto L ns x d1 R2 (Q .next)
@[reducible] noncomputable def kSw2 (L : Addr) (ns : List Str) (x y : Str) (Q : Fl → Led → Prop) : D → Led → Prop := fun d R1 => ∃ d1 d2, d = .tup [d1, d2] ∧ Sto L ns y d2 R1 (kSw2b L ns x d1 Q)
theorem sx_swap2 {elts k tpos value pos} {ns : List Str} {gl : List (Str × D)} {sc : Scope} {n : Nat} {Q : Fl → Led → Prop} (x y : Str) (fe : FE env L ns gl) (fn : FN env L sc) (rm : Rm A n)
    (h : Ev c A env value R (kSw2 L ns x y Q) X)
    (hs : ∀ env, swapsWithSole [.Tuple elts k tpos] value pos.line env = pure false)
    (hw : ∀ (qual : Str) (f : Addr) (cd : Value) (cs : List (Str × Addr)), swappedStores [.Tuple elts k tpos] value { envOf qual sc L f cd with cells := cs } = pure (some [x, y])) : Sx c A env (.Assign [.Tuple elts k tpos] value pos) R Q X :=
  sx_swapped (names := [x, y]) fe fn rm.handled (h.mono fun d R1 ⟨d1, d2, e, h1⟩ => ⟨[d1, d2], e, rfl, h1⟩) hs hw
theorem cut_to {α : Type} (xs : List α) (k : Nat) : cut xs none (some (k : Int)) = xs.take k := by
  unfold cut
  simp only [Option.elim_none, Option.elim_some, List.drop_zero, Nat.sub_zero]
  rw [clipAt_nat]
  rcases Nat.le_total k xs.length with h | h
  · rw [Nat.min_eq_left h]
  · rw [Nat.min_eq_right h, List.take_length, List.take_of_length_le h]
theorem cut_from {α : Type} (xs : List α) (k : Nat) : cut xs (some (k : Int)) none = xs.drop k := by
  unfold cut
  simp only [Option.elim_none, Option.elim_some]
  rw [clipAt_nat]
  rcases Nat.le_total k xs.length with h | h
  · rw [Nat.min_eq_left h, List.take_of_length_le (by simp)]
  · rw [Nat.min_eq_right h, List.drop_length, List.drop_of_length_le h]; simp
theorem ca_new2 {f C : Addr} {ds : List D} {nms : List Str} {n : Nat} (vs0 : List (Option D)) (rm : Rm A (n + 1)) (ok : ∀ P, newOk (K P) C f = true) (hv : List.replicate nms.length none = vs0)
    (h : ∀ A' x dx, Rm A' n → CalC c A' (.ref f) (.val (.ref x) :: ds) ((x, .inst C dx) :: (dx, .ats nms vs0) :: R) (fun d R1 => d = .none ∧ Q (.val (.ref x)) R1) X) : Cal c A (.ref C) ds R Q X := by
  subst hv; exact ca_new rm ok h
-- the classes' own
theorem meth_rm_get : ∀ P, methOk (K P) 229 "get" 207 = true := by intro P; kernel_rfl
theorem meth_rm_put : ∀ P, methOk (K P) 229 "put" 214 = true := by intro P; kernel_rfl
theorem meth_rm_ranges : ∀ P, methOk (K P) 229 "ranges" 219 = true := by intro P; kernel_rfl
theorem meth_data_put : ∀ P, methOk (K P) 285 "put" 268 = true := by intro P; kernel_rfl
theorem meth_data_get : ∀ P, methOk (K P) 285 "get" 275 = true := by intro P; kernel_rfl
theorem meth_data_map_of : ∀ P, methOk (K P) 285 "map_of" 282 = true := by intro P; kernel_rfl
theorem get_rm_default : ∀ P, getOk (K P) 229 "default" = true := by intro P; kernel_rfl
theorem get_rm_starts : ∀ P, getOk (K P) 229 "starts" = true := by intro P; kernel_rfl
theorem get_rm_values : ∀ P, getOk (K P) 229 "values" = true := by intro P; kernel_rfl
theorem get_data_defaults : ∀ P, getOk (K P) 285 "defaults" = true := by intro P; kernel_rfl
theorem get_data_maps : ∀ P, getOk (K P) 285 "maps" = true := by intro P; kernel_rfl
theorem set_rm_default : ∀ P, setOk (K P) 229 "default" = true := by intro P; kernel_rfl
theorem set_rm_starts : ∀ P, setOk (K P) 229 "starts" = true := by intro P; kernel_rfl
theorem set_rm_values : ∀ P, setOk (K P) 229 "values" = true := by intro P; kernel_rfl
theorem set_data_defaults : ∀ P, setOk (K P) 285 "defaults" = true := by intro P; kernel_rfl
theorem set_data_maps : ∀ P, setOk (K P) 285 "maps" = true := by intro P; kernel_rfl
theorem set_data_properties : ∀ P, setOk (K P) 285 "properties" = true := by intro P; kernel_rfl
theorem set_data_words : ∀ P, setOk (K P) 285 "words" = true := by intro P; kernel_rfl
theorem new_rm : ∀ P, newOk (K P) 229 200 = true := by intro P; kernel_rfl
theorem new_data : ∀ P, newOk (K P) 285 261 = true := by intro P; kernel_rfl
end Mine
end
section
open PySem PySem.W PySem.Calls PyProof.Rows
set_option Elab.async false
set_option tactic.hygienic false
set_option maxRecDepth 100000
set_option linter.unusedVariables false
set_option linter.unusedSectionVars false
namespace Mine
abbrev enumO (it : Addr) (i : Int) (old : Value) : Obj := { cls := .type "enumerate", dict := none, data := .fields #[.none, .bool false, .ref it, rawInt i, .none, old], slots := #[] }
abbrev enumOut (it : Addr) (i : Int) (item : Value) (a : Addr) : Obj := { cls := .type "enumerate", dict := none, data := .fields #[rawInt a, .bool false, .ref it, rawInt i, .none, item], slots := #[] }
section
variable {c : Cx} {A : Around} {env : Env} {L : Addr} {sc : Scope} {ns : List Str} {gl : List (Str × D)} {n : Nat} {R R0 R1 R2 : Led} {X : Addr → D → Led → Prop} {a b : Addr} {P P' S S' : Sh}
theorem St.two {I : Heap} {s : Shared} {h' : Heap} (H : St c A I ((a, P) :: (b, S) :: R) s) (hs : ∀ x o, x ≠ a → x ≠ b → s.heap.get? x = some o → h'.get? x = some o) (hp : ∃ o, h'.get? a = some o ∧ Meets c.w I P' o) (hq : ∃ o, h'.get? b = some o ∧ Meets c.w I S' o)
    (e1 : P.isLoc = false) (e2 : S.isLoc = false) (t : Nat) : St c A I ((a, P') :: (b, S') :: R) { s with heap := h', toks := t } := by
  have nd := H.own.nd
  simp only [List.map_cons, List.nodup_cons, List.mem_cons, not_or] at nd
  have na : ∀ p ∈ R, p.1 ≠ a := fun p hp e => nd.1.2 (e ▸ List.mem_map_of_mem hp)
  have nb : ∀ p ∈ R, p.1 ≠ b := fun p hp e => nd.2.1 (e ▸ List.mem_map_of_mem hp)
  refine ⟨⟨fun x o e => hs x o (fun q => ?_) (fun q => ?_) (H.own.sub x o e), fun p hm => ?_, fun p hm => ?_, ?_⟩, H.wd, H.gens, H.drawn, H.os, H.fr.mono fun L ns vs m => ?_⟩
  · have := H.own.out _ (.head _)
    rw [q, this] at e; cases e
  · have := H.own.out _ (.tail _ (.head _))
    rw [q, this] at e; cases e
  · rcases List.mem_cons.mp hm with rfl | hm
    · exact hp
    · rcases List.mem_cons.mp hm with rfl | hm
      · exact hq
      · obtain ⟨o, ho, q⟩ := H.own.has p (.tail _ (.tail _ hm))
        exact ⟨o, hs _ _ (na p hm) (nb p hm) ho, q⟩
  · rcases List.mem_cons.mp hm with rfl | hm
    · exact H.own.out (a, P) (.head _)
    · rcases List.mem_cons.mp hm with rfl | hm
      · exact H.own.out (b, S) (.tail _ (.head _))
      · exact H.own.out p (.tail _ (.tail _ hm))
  · exact H.own.nd
  · rcases List.mem_cons.mp m with q | q
    · have := (Prod.mk.inj q).2; rw [← this] at e1; cases e1
    · rcases List.mem_cons.mp q with q | q
      · have := (Prod.mk.inj q).2; rw [← this] at e2; cases e2
      · exact ⟨ns, vs, .tail _ (.tail _ q)⟩
theorem St.take {I : Heap} {s : Shared} {o : Obj} {t : Addr} (H : St c A I R s) (ho : s.heap.get? t = some o) (hn : t ∉ R.map (·.1)) : ∃ I', Sub I I' ∧ I'.get? t = some o ∧ St c A I' R s := by
  refine gP fun Gq hGq => ?_
  obtain ⟨I', k, O, f⟩ := H.own.rest
  refine hGq ?_
  clear hGq
  exact ⟨I', k, f _ _ ho hn, O, H.wd.sub k, H.gens, H.drawn, H.os, H.fr⟩
theorem ca_enum {ds : List D} {Q : D → Led → Prop} (h : ∀ e it, Q (.val (.ref e)) ((e, .obj (enumO it 0 .none)) :: (it, .it (.lst ds) 0) :: R)) : Cal c A (.type "enumerate") [.lst ds] R Q X := .mk fun I H s _ hst r => by
  refine gP fun Gq hGq => ?_
  obtain ⟨_, _, rfl, r1, rs⟩ := Reps.consI r
  refine hGq ?_
  clear hGq
  obtain rfl := Reps.nilI rs
  obtain ⟨a, vs, rfl, hl, y⟩ := r1.lI
  refine call_enumerate_list (IsList.sub hst.up hl) fun h' he hit hsz hk => ?_
  have n0 := none_at_size s.heap
  have n1 : s.heap.get? (s.heap.objs.size + 1) = none := by
    cases q : s.heap.get? (s.heap.objs.size + 1) with
    | none => rfl
    | some o => exact absurd (Heap.lt_size q) (Nat.not_lt.mpr (Nat.le_succ _))
  have hs1 := hst.extNews (es := [(s.heap.objs.size + 1, .obj (enumO s.heap.objs.size 0 .none)), (s.heap.objs.size, .it (.lst ds) 0)]) (h' := h') hk
    (fun p hp => by
      simp only [List.mem_cons, List.not_mem_nil, or_false] at hp
      rcases hp with rfl | rfl
      · exact n1
      · exact n0) (by simp) (fun p hp => by
      simp only [List.mem_cons, List.not_mem_nil, or_false] at hp
      rcases hp with rfl | rfl
      · exact ⟨_, he, rfl⟩
      · refine gP fun Gq hGq => ?_
        obtain ⟨o, ho, h1, h2⟩ := hit
        refine hGq ?_
        clear hGq
        exact ⟨o, ho, .lst hl y h1 h2⟩) s.toks
  exact ⟨I, _, _, Sub.refl _, hs1, .val _, h _ _⟩
theorem sx_for_enum {elts k tpos iter body pos} {Q : Fl → Led → Prop} (fn : FN env L sc) (hfr : ∃ outer, A.frames = some (env :: outer)) (rm : Rm A n)
    (h : Ev c A env iter R (fun d R1 => ∃ e it ds R2, d = .val (.ref e) ∧ R1 = (e, .obj (enumO it 0 .none)) :: (it, .it (.lst ds) 0) :: R2 ∧ ∃ J : Nat → Led → Prop, J 0 R2 ∧
      (∀ i x R2, ds[i]? = some x → J i R2 → Asg c A env (.Tuple elts k tpos) (.tup [.int (i : Int), x]) R2 (fun R3 => Ex c A env body R3 (Turn Q (J (i + 1))) X) X) ∧ (∀ R2, J ds.length R2 → Q .next R2)) X)
    (hf : ∀ env x, foldedSetIterable iter env x = pure x := by intro _ _; rfl) : Sx c A env (.For (.Tuple elts k tpos) iter body [] pos) R Q X := .mk fun I H s hs => by
  refine wpAny_For ((h.run I H s hs).and (Sub.refl _) fun I1 R1 d v s1 _ k1 hs1 r1 zz => ?_) (hf env)
  refine gP fun G hG => ?_
  obtain ⟨e, it, ds, R2, e1, e2, J, j0, turn, done⟩ := zz
  refine hG ?_
  clear hG G
  subst e1 e2
  (first | obtain ⟨_, rfl⟩ := Rep.iI r1 | obtain ⟨_, rfl⟩ := Rep.sI r1 | obtain rfl := Rep.vI r1 | obtain rfl := Rep.bI r1 | obtain rfl := Rep.nI r1 | cases r1)
  obtain ⟨o, ho, ho2⟩ := hs1.get .head
  cases ho2
  refine wpAny_pyIter_enum ho ?_
  have pm : ∀ (R2 : Led) (x y : Ent), (x :: y :: (R2 ++ H)).Perm (R2 ++ x :: y :: H) := fun R2 x y => (List.Perm.cons _ List.perm_middle.symm).trans List.perm_middle.symm
  refine opq (fun (n : Nat) (s : Shared) => ∃ (I2 : Heap) (R2 : Led) (i : Nat) (old : Value), Sub I I2 ∧ St c A I2 ((e, .obj (enumO it (i : Int) old)) :: (it, .it (.lst ds) i) :: (R2 ++ H)) s ∧ J i R2 ∧ i ≤ ds.length ∧ n = ds.length - i) fun Z hZ => ?_
  refine forLoop_op Z (fun n s3 zz P F E hP0 hP1 hF hB hR hE => ?_) ds.length ((hZ _ _).mpr ⟨I1, R2, 0, .none, k1, hs1, j0, Nat.zero_le _, rfl⟩)
  refine gP fun G hG => ?_
  obtain ⟨I2, R2, i, old, k2, hs3, j, le, en⟩ := (hZ _ _).mp zz
  refine hG ?_
  clear hG G zz
  have hne : e ≠ it := by
    have := hs3.own.nd
    simp only [List.map_cons, List.nodup_cons, List.mem_cons, not_or] at this
    exact this.1.1
  obtain ⟨o1, ho1, q1⟩ := hs3.get .head
  cases q1
  obtain ⟨o2, ho2, q2⟩ := hs3.get (.tail .head)
  cases q2 with | @lst a vs _ _ _ hl y c1 d1 =>
  rcases Nat.lt_or_ge i ds.length with lt | ge
  · obtain ⟨v, hv, r⟩ := y.get (List.getElem?_eq_getElem lt)
    refine wpAny_pyNext_enum_item ho1 ⟨o2, ho2, c1, d1⟩ (IsList.sub hs3.up hl) (x := v) (by simpa using hv) hne fun h' heo hit' htup hsz hk => ?_
    have hs4 : St c A I2 ((e, .obj (enumOut it ((i : Int) + 1) v s3.heap.objs.size)) :: (it, .it (.lst ds) (i + 1)) :: (R2 ++ H)) { s3 with heap := h', toks := s3.toks + 1 } := by
      refine hs3.two (P' := .obj (enumOut it ((i : Int) + 1) v s3.heap.objs.size)) (S' := .it (.lst ds) (i + 1)) hk ⟨_, heo, rfl⟩ ?_ rfl rfl _
      refine gP fun Gq hGq => ?_
      obtain ⟨o', ho', h1, h2⟩ := hit'
      refine hGq ?_
      clear hGq
      exact ⟨o', ho', .lst hl y h1 h2⟩
    have hnot : s3.heap.objs.size ∉ ((e, Sh.obj (enumOut it ((i : Int) + 1) v s3.heap.objs.size)) :: (it, Sh.it (.lst ds) (i + 1)) :: (R2 ++ H)).map (·.1) := fun m => by
      have m' : s3.heap.objs.size ∈ ((e, Sh.obj (enumO it (i : Int) old)) :: (it, Sh.it (.lst ds) i) :: (R2 ++ H)).map (·.1) := by simpa using m
      obtain ⟨p, hp, q⟩ := List.mem_map.mp m'
      obtain ⟨x, hx, _⟩ := hs3.own.has p hp
      rw [q, none_at_size] at hx; cases hx
    refine gP fun Gq hGq => ?_
    obtain ⟨I3, k3, hI3, hs5⟩ := hs4.take htup hnot
    refine hGq ?_
    clear hGq
    refine hP1 _ _ ?_
    refine wpAny_letOwnedTupleGo_enum (s := { s3 with heap := h', toks := s3.toks + 1 }) heo fun h'' he'' hsb => ?_
    have hs6 : St c A I3 ((e, .obj (enumO it ((i : Int) + 1) v)) :: (it, .it (.lst ds) (i + 1)) :: (R2 ++ H)) { s3 with heap := h'', toks := s3.toks + 1 } := hs5.upd (P' := .obj (enumO it ((i : Int) + 1) v)) .head (SameBut.at hsb) ⟨_, he'', rfl⟩ _
    have r2 : Rep I3 (.ref s3.heap.objs.size) (.tup [.int (i : Int), ds[i]]) := .tup _ #[.int i s3.toks, v] _ ⟨_, hI3, rfl, _, rfl⟩ (.cons (.int _ _) (.cons (r.sub k3) .nil))
    have k3' := k2.trans k3
    have hs7 := hs6.perm (pm R2 _ _)
    refine ((turn i _ R2 (List.getElem?_eq_getElem lt) j).run I3 _ _ _ hs7 r2).andE (fun e s x => hE _ _ (px_out2 k3' x)) fun I4 R3 _ _ s5 k4 hs8 _ q => ?_
    refine wpAny_mono (q.run I4 _ s5 hs8) (fun f s6 zz => PG.elim zz fun I5 R4 fl k5 hs9 r7 q7 => ?_) fun e s x => hE _ _ (px_out2 (k3'.trans k4) x)
    have hs10 := hs9.perm (pm R4 _ _).symm
    have e4 : ((i : Int) + 1) = ((i + 1 : Nat) : Int) := rfl
    rw [e4] at hs10
    cases r7 with
    | next => exact (hF (ds.length - (i + 1)) _ (by omega) ((hZ _ _).mpr ⟨I5, R4, i + 1, v, (k3'.trans k4).trans k5, hs10, q7, lt, rfl⟩)).1
    | cont => exact (hF (ds.length - (i + 1)) _ (by omega) ((hZ _ _).mpr ⟨I5, R4, i + 1, v, (k3'.trans k4).trans k5, hs10, q7, lt, rfl⟩)).2
    | brk => exact hB _ ⟨I5, R4, .next, (k3'.trans k4).trans k5, (hs10.drop rfl).drop rfl, .next, q7⟩
    | ret r => exact hR _ _ ⟨I5, R4, _, (k3'.trans k4).trans k5, (hs10.drop rfl).drop rfl, .ret r, q7⟩
  · obtain rfl : i = ds.length := by omega
    have hsz := y.length
    rw [Array.length_toList] at hsz
    refine wpAny_pyNext_enum_end rm.handled ho1 ⟨o2, ho2, c1, d1⟩ (IsList.sub hs3.up hl) (Array.getElem?_eq_none (by omega)) fun h' hk => ?_
    have hs4 : St c A I2 (R2 ++ H) { s3 with heap := h' } := by
      have hd := (hs3.drop rfl)
      have nit : ∀ p ∈ R2 ++ H, p.1 ≠ it := fun p hp e => (List.nodup_cons.mp hd.own.nd).1 (List.mem_map.mpr ⟨p, hp, e⟩)
      have hd2 := hd.drop rfl
      refine ⟨⟨fun b o e => hk b o (fun q => ?_) (hd2.own.sub b o e), fun p hp => ?_, hd2.own.out, hd2.own.nd⟩, hd2.wd, hd2.gens, hd2.drawn, hd2.os, hd2.fr⟩
      · have := hd.own.out _ (.head _)
        rw [q, this] at e; cases e
      · obtain ⟨o, ho, q⟩ := hd2.own.has p hp
        exact ⟨o, hk _ _ (nit p hp) ho, q⟩
    exact hP0 _ ⟨I2, R2, .next, k2, hs4, .next, done R2 j⟩
where
  px_out2 {I2 : Heap} {e : Value} {s : Shared} {I : Heap} {H : Led} {x1 : Addr} {o1 : Obj} {y1 : Addr} {d1 : D} {i1 : Nat} (k2 : Sub I I2) (z : PX c A I2 ((x1, .obj o1) :: (y1, .it d1 i1) :: H) X e s) : notedBy c.M A env (cameBackBy c.M A env (PX c A I H X)) e s := by
    refine px_loop ?_ hfr fn.frame
    refine gP fun Gq hGq => ?_
    obtain ⟨I', R', e, C, dx, tb, told, rfl, k, hs', z⟩ := z
    refine hGq ?_
    clear hGq
    have hs2 : St c A I' ((x1, .obj o1) :: (y1, .it d1 i1) :: (excLed e C dx told tb ++ R' ++ H)) s := hs'.perm ((List.perm_middle).trans (List.Perm.cons _ List.perm_middle))
    exact ⟨I', R', e, C, dx, tb, told, rfl, k2.trans k, (hs2.drop rfl).drop rfl, z⟩
end
end Mine
end
section
open PySem PySem.W PySem.Calls PyProof.Rows
set_option Elab.async false
set_option tactic.hygienic false
set_option maxRecDepth 100000
set_option linter.unusedVariables false
set_option linter.unusedSectionVars false
namespace Mine
section
variable {c : Cx} {A : Around} {env : Env} {L : Addr} {R R0 R1 R2 : Led} {Q : D → Led → Prop} {X : Addr → D → Led → Prop}
/-- an owned list that is handed over as a frozen one -/
noncomputable def Frz (Q : D → Led → Prop) (d : D) (R : Led) : Prop := ∃ a ds R', d = .val (.ref a) ∧ Rem (a, .list ds) R R' ∧ Q (.lst ds) R'
theorem pg_frz {I : Heap} {H : Led} {v : Value} {s : Shared} (h : PG c A I H Rep (Frz Q) v s) : PG c A I H Rep Q v s := by
  refine gP fun Gq hGq => ?_
  obtain ⟨I1, R1, d, k, hs, r, a, ds, R', rfl, hr, q⟩ := h
  refine hGq ?_
  clear hGq
  (first | obtain ⟨_, rfl⟩ := Rep.iI r | obtain ⟨_, rfl⟩ := Rep.sI r | obtain rfl := Rep.vI r | obtain rfl := Rep.bI r | obtain rfl := Rep.nI r | cases r)
  refine gP fun Gq hGq => ?_
  obtain ⟨I2, k2, hs2, o, ho, vs, n, rfl, y⟩ := (hs.perm (hr.app H).perm).freeze rfl
  refine hGq ?_
  clear hGq
  exact ⟨I2, R', _, k.trans k2, hs2, .lst a vs ds ⟨_, ho, rfl, n, rfl⟩ y, q⟩
theorem Cal.frz {f : Value} {ds : List D} (h : Cal c A f ds R (Frz Q) X) : Cal c A f ds R Q X := ⟨fun I H s vs hs r => wpAny_mono (h.run I H s vs hs r) (fun _ _ z => pg_frz z) fun _ _ z => z⟩
theorem Ev.frz {e : Expr} (h : Ev c A env e R (Frz Q) X) : Ev c A env e R Q X := ⟨fun I H s hs => wpAny_mono (h.run I H s hs) (fun _ _ z => pg_frz z) fun _ _ z => z⟩
theorem frz {a : Addr} {ds : List D} {R R' : Led} (h : Q (.lst ds) R') (r : Rem (a, .list ds) R R') : Frz Q (.val (.ref a)) R := ⟨a, ds, R', rfl, r, h⟩
/-- a comprehension that keeps the ledger and takes some items -/
theorem ev_filt {elt iter t : Expr} {target : Expr} {scope : Scope} {pos : Pos} {ns ps : List Str} {gl : List (Str × D)} {ad : Str → Addr} {n : Nat} (cns : List Str) (gl' : List (Str × D)) (frees : List Str) (rm : Rm A n) (fe : FE env L ns gl) (ce : CE env ps ad) (ok : compOk scope cns gl' frees = true) (hps : frees ⊆ ps) (hg : ∀ p ∈ gl', GlobIs p.1 p.2)
    (h : Ev c A env iter R (fun d R1 => ∃ (items : List D) (p : D → Bool) (f : D → D), Items d items ∧ items.length ≤ 100000 ∧
      (∀ (i : Nat) (x : D) (cvs : List (Option D)) (C : Addr) (env' : Env), items[i]? = some x → cvs.length = cns.length → FE env' C cns gl' → CE env' frees ad → Asg c A env' target x ((C, .loc cns cvs) :: R1) (fun R3 => Tst c A env' t R3 (fun b R4 => b = p x ∧ (b = true → Ev c A env' elt R4 (fun d => CLoc C cns (fun R5 => d = f x ∧ R5 = R1)) NoX) ∧ (b = false → CLoc C cns (fun R5 => R5 = R1) R4)) NoX) NoX) ∧
      NewL Q ((items.filter p).map f) R1) X)
    (hf : ∀ env x, foldedSetIterable iter env x = pure x) : Ev c A env (.ListComp elt [⟨target, iter, [t], 0⟩] scope pos) R Q X := by
  refine ev_comp (freesOf ad frees) cns rm.handled fe (comp_ok ok hps ce) (h.mono fun d R1 zz => ?_) hf
  refine gP fun Gq hGq => ?_
  obtain ⟨items, p, f, hi, hl, turn, q⟩ := zz
  refine hGq ?_
  clear hGq
  refine ⟨items, hi, hl, fun i acc R2 => R2 = R1 ∧ acc = ((items.take i).filter p).map f, ⟨rfl, by simp⟩, ?_, ?_⟩
  · rintro i x acc R2 cvs C hx ⟨rfl, rfl⟩ hal hc
    refine ⟨fun I H s v hs r => wpAny_mono ((turn i x cvs C _ hx hc (comp_fe fe ok hg) (comp_ce ok)).run I H s v hs r) (fun v s' z => z.mono fun _ R3 z3 => ?_) fun _ _ z => z⟩
    refine tests_one ⟨fun I H s hs => wpAny_mono (z3.run I H s hs) (fun v s' z => z.mono fun b R4 zz => ?_) fun _ _ z => z⟩
    obtain ⟨e, z4, z5⟩ := zz
    refine ⟨fun hb => (z4 hb).mono fun d R5 zz => ?_, fun hb => ?_⟩
    · refine gP fun Gq hGq => ?_
      obtain ⟨cvs', R', h1, h2, h3, h4⟩ := zz
      refine hGq ?_
      clear hGq
      refine ⟨cvs', R', h1, h2, h4, ?_⟩
      rw [List.take_add_one, hx, List.filter_append, List.map_append]
      have : p x = true := by rw [← e]; exact hb
      simp [this, h3]
    · refine gP fun Gq hGq => ?_
      obtain ⟨cvs', R', h1, h2, h3⟩ := z5 hb
      refine hGq ?_
      clear hGq
      refine ⟨cvs', R', h1, h2, h3, ?_⟩
      rw [List.take_add_one, hx, List.filter_append, List.map_append]
      have : p x = false := by rw [← e]; exact hb
      simp [this]
  · rintro acc R2 ⟨rfl, rfl⟩
    rw [List.take_of_length_le (Nat.le_refl _)]; exact q
end
end Mine
end
section
open PySem PySem.W PySem.Calls PyProof.Rows
set_option Elab.async false
set_option tactic.hygienic false
set_option maxRecDepth 100000
set_option linter.unusedVariables false
set_option linter.unusedSectionVars false
namespace Mine
section
variable {c : Cx} {A : Around} {env : Env} {L : Addr} {R R0 R1 R2 : Led} {Q : D → Led → Prop} {X : Addr → D → Led → Prop} {κ : Type} [DecidableEq κ] {kk : KK κ}
inductive PairsR (kk : KK κ) (I : Heap) : List (Value × Value) → List (κ × D) → Prop
  | nil : PairsR kk I [] []
  | cons {k v key d r s} : Rep I k (kk.val key) → Rep I v d → PairsR kk I r s → PairsR kk I ((k, v) :: r) ((key, d) :: s)
theorem PairsR.sub {I J : Heap} (k : Sub I J) {r s} (h : PairsR kk I r s) : PairsR kk J r s := by
  induction h with
  | nil => exact .nil
  | cons a b c ih => exact .cons (a.sub k) (b.sub k) ih
/-- the pairs of a dict display -/
structure Prs (c : Cx) (A : Around) (env : Env) (kk : KK κ) (keys : List (Option Expr)) (values : List Expr) (R : Led) (Q : List (κ × D) → Led → Prop) (X : Addr → D → Led → Prop) : Prop where
  run : ∀ I H s pos, St c A I (R ++ H) s → Run c A I H (evalPairs (pairTrees keys values env pos)) (PairsR kk) Q X s
theorem prs_nil {Q : List (κ × D) → Led → Prop} (h : Q [] R) : Prs c A env kk [] [] R Q X := ⟨fun I H s pos hs => pairTrees_nil_walk ⟨I, R, [], Sub.refl _, hs, .nil, h⟩⟩
theorem prs_cons {k v : Expr} {ks : List (Option Expr)} {vs : List Expr} {Q : List (κ × D) → Led → Prop} (h : Ev c A env k R (fun dk R1 => ∃ key, dk = kk.val key ∧ Ev c A env v R1 (fun d R2 => Prs c A env kk ks vs R2 (fun r R3 => Q ((key, d) :: r) R3) X) X) X) : Prs c A env kk (some k :: ks) (v :: vs) R Q X := ⟨fun I H s pos hs =>
  pairTrees_cons_walk ((h.run I H s hs).and (Sub.refl _) fun I1 R1 d1 v1 s1 _ k1 hs1 r1 ⟨key, e, q1⟩ => (q1.run I1 H s1 hs1).and k1 fun I2 R2 d2 v2 s2 k2 k2' hs2 r2 q2 => by
    subst e
    exact wpAny_mono (q2.run I2 H s2 pos hs2) (fun vs s3 zz => PG.elim zz fun I3 R3 d3 k3 hs3 r3 q3 => ⟨I3, R3, _, k2'.trans k3, hs3, .cons (r1.sub (k2.trans k3)) (r2.sub k3) r3, q3⟩) fun _ _ z => PX.sub z k2')⟩
noncomputable def putAll (kvs : List (κ × D)) (more : List (κ × D)) : List (κ × D) := more.foldl (fun acc kv => put acc kv.1 kv.2) kvs
theorem pairs_carry {I : Heap} {w : World} : ∀ {vs : List (Value × Value)} {kvs : List (κ × D)}, PairsR kk I vs kvs → ∃ ws : List (κ × Value), Carries (kk.knd w) vs ws ∧ RepKV I ws kvs
  | _, _, .nil => ⟨[], trivial, .nil⟩
  | _, _, .cons (key := key) (v := v) a b c => by
    obtain ⟨ws, h1, h2⟩ := pairs_carry (w := w) c
    exact ⟨(key, v) :: ws, ⟨kk.isk a, rfl, h1⟩, .cons b h2⟩
theorem merged_rep {I : Heap} {ws : List (κ × Value)} {kvs : List (κ × D)} {acc : List (κ × Value)} {acc' : List (κ × D)} (z : RepKV I ws kvs) (h : RepKV I acc acc') : RepKV I (merged acc ws) (putAll acc' kvs) := by
  induction z generalizing acc acc' with
  | nil => exact h
  | @cons k v d r s x y ih => exact ih (acc := stored _ k _) (acc' := put _ k _) (h.put x)
theorem ev_dict (kk : KK κ) {keys : List (Option Expr)} {values : List Expr} {pos : Pos} (h : Prs c A env kk keys values R (fun kvs R1 => ∀ a, Q (.val (.ref a)) ((a, kk.sh (putAll [] kvs)) :: R1)) X)
    (hall : keys.all (·.isSome) = true) (hl : keys.length = values.length) (h0 : keys ≠ []) (hlen : keys.length ≤ 15) : Ev c A env (.Dict keys values pos) R Q X := ⟨fun I H s hs => by
  refine wpAny_Dict_walk (knd := kk.knd c.w) hall hl h0 hlen ?_
  have hs1 : St c A I ((s.heap.objs.size, kk.sh []) :: (R ++ H)) { s with heap := s.heap.push { cls := .type "dict", data := .dict #[] }, toks := s.toks } :=
    hs.push (P := kk.sh []) (kk.meets.mpr ⟨[], ⟨#[], 0, ⟨rfl, rfl, rfl⟩, rfl, (fun e he => by simp at he), .nil, List.nodup_nil⟩, .nil⟩) s.toks
  have hs2 := hs1.perm (List.perm_middle (l₁ := R) (l₂ := H) (a := (s.heap.objs.size, kk.sh ([] : List (κ × D))))).symm
  refine wpAny_mono (h.run I ((s.heap.objs.size, kk.sh []) :: H) _ pos hs2) (fun vs s3 zz => PG.elim zz fun I3 R3 kvs k3 hs3 r3 q3 => ?_) fun e s3 z => ?_
  · obtain ⟨ws, h1, h2⟩ := pairs_carry (w := c.w) r3
    have hs4 := hs3.perm (List.perm_middle (l₁ := R3) (l₂ := H) (a := (s.heap.objs.size, kk.sh ([] : List (κ × D)))))
    obtain ⟨ws0, hd, hr⟩ := KK.at hs4 .head
    cases hr
    refine ⟨ws, h1, hd, fun h' hm hsb => ?_⟩
    exact ⟨I3, _, _, k3, KK.set (kvs := []) hs4 .head hm hsb (merged_rep h2 .nil) _, .val _, q3 _⟩
  · refine gP fun Gq hGq => ?_
    obtain ⟨I', R', e, C, dx, tb, told, rfl, k, hs', x⟩ := z
    refine hGq ?_
    clear hGq
    have hs5 : St c A I' ((s.heap.objs.size, kk.sh ([] : List (κ × D))) :: (excLed e C dx told tb ++ R' ++ H)) s3 := hs'.perm List.perm_middle
    exact ⟨I', R', e, C, dx, tb, told, rfl, k, hs5.drop (kk.noLoc []), x⟩⟩
theorem key_str {x : Str} {P : Str → Prop} (h : P x) : ∃ key, D.str x = kS.val key ∧ P key := ⟨x, rfl, h⟩
variable {R' : Led} {a : Addr} {d : D}
theorem si_S {kvs : List (Str × D)} {k : Str} {Q : Led → Prop} (u : Upd a (.dictS kvs) (.dictS (put kvs k d)) R R') (hz : kvs.length ≤ 1000) (h : Q R') : SetI c A (.val (.ref a)) (.str k) d R Q X := si_dict (kk := kS) u hz h
theorem si_I {kvs : List (Int × D)} {k : Int} {Q : Led → Prop} (u : Upd a (.dictI kvs) (.dictI (put kvs k d)) R R') (hz : kvs.length ≤ 1000) (h : Q R') : SetI c A (.val (.ref a)) (.int k) d R Q X := si_dict (kk := kI) u hz h
theorem su_S {value slice : Expr} {kvs : List (Str × D)} {k : Str} (m : Has (a, .dictS kvs) R) (hl : look kvs k = some d) (h : Q d R) (hs : ∀ o i, subscripted slice false o i = operate [o, i] (getItem o i)) : Sub2 c A value slice (.val (.ref a)) (.str k) R Q X := su_dict (kk := kS) m hl h hs
theorem su_I {value slice : Expr} {kvs : List (Int × D)} {k : Int} (m : Has (a, .dictI kvs) R) (hl : look kvs k = some d) (h : Q d R) (hs : ∀ o i, subscripted slice false o i = operate [o, i] (getItem o i)) : Sub2 c A value slice (.val (.ref a)) (.int k) R Q X := su_dict (kk := kI) m hl h hs
theorem in_S {kvs : List (Str × D)} {k : Str} (m : Has (a, .dictS kvs) R) (h : Q (.bool (look kvs k).isSome) R) : Cmp c A .In (.str k) (.val (.ref a)) R Q X := cm_in (kk := kS) m h
theorem in_I {kvs : List (Int × D)} {k : Int} (m : Has (a, .dictI kvs) R) (h : Q (.bool (look kvs k).isSome) R) : Cmp c A .In (.int k) (.val (.ref a)) R Q X := cm_in (kk := kI) m h
theorem notin_S {kvs : List (Str × D)} {k : Str} (m : Has (a, .dictS kvs) R) (h : Q (.bool (!(look kvs k).isSome)) R) : Cmp c A .NotIn (.str k) (.val (.ref a)) R Q X := cm_notin (kk := kS) m h
theorem get_S {kvs : List (Str × D)} {k : Str} (m : Has (a, .dictS kvs) R) (h : Q ((look kvs k).getD .none) R) : Cal c A (.builtin "dict.get") [.val (.ref a), .str k] R Q X := ca_get (kk := kS) m h
theorem gm_S {kvs : List (Str × D)} {name : Str} {id : String} (m : Has (a, .dictS kvs) R) (slot : Slot "dict" name id) (hty : typeOf (.builtin id) = pure (.type "method_descriptor")) (pa : PlainAttrs "dict") : GetM c (.val (.ref a)) name R (.builtin id) := gm_dict (kk := kS) m slot hty pa
theorem gm_I {kvs : List (Int × D)} {name : Str} {id : String} (m : Has (a, .dictI kvs) R) (slot : Slot "dict" name id) (hty : typeOf (.builtin id) = pure (.type "method_descriptor")) (pa : PlainAttrs "dict") : GetM c (.val (.ref a)) name R (.builtin id) := gm_dict (kk := kI) m slot hty pa
theorem ev_dict0S {pos} (h : ∀ a, Q (.val (.ref a)) ((a, .dictS []) :: R)) : Ev c A env (.Dict [] [] pos) R Q X := ev_dict0 (kk := kS) h
theorem ev_dict0I {pos} (h : ∀ a, Q (.val (.ref a)) ((a, .dictI []) :: R)) : Ev c A env (.Dict [] [] pos) R Q X := ev_dict0 (kk := kI) h
end
end Mine
end
section
open PySem PySem.W PySem.Calls PyProof.Rows
set_option Elab.async false
set_option tactic.hygienic false
set_option maxRecDepth 100000
set_option linter.unusedVariables false
set_option linter.unusedSectionVars false
namespace Mine
section
variable {c : Cx} {A : Around} {env : Env} {L : Addr} {R R0 R1 R2 R' : Led} {Q : D → Led → Prop} {X : Addr → D → Led → Prop} {a : Addr} {P P' : Sh}
theorem Upd.rest (u : Upd a P P' R R') : ∃ S : Led, R.Perm ((a, P) :: S) ∧ R'.Perm ((a, P') :: S) := by
  induction u with
  | @head r => exact ⟨r, .refl _, .refl _⟩
  | @tail x r r' _ ih =>
    obtain ⟨S, h1, h2⟩ := ih
    exact ⟨x :: S, (h1.cons x).trans (.swap _ _ _), (h2.cons x).trans (.swap _ _ _)⟩
/-- a callee that needs two entries and changes the second -/
theorem Cal.at2 {f : Value} {ds : List D} {e : Ent} {d0 : D} (h : Cal c A f ds [e, (a, P)] (fun d R' => d = d0 ∧ R' = [e, (a, P')]) NoX) (m : Has e R) (u : Upd a P P' R R') (hne : e.2 ≠ P) (k : Q d0 R') : Cal c A f ds R Q X := by
  constructor
  intro I H s vs hs hr
  have hne' : e.1 ≠ a := fun q => by
    have h1 := (m.app H).mem
    have h2 := (u.has.app H).mem
    rw [show e = (e.1, e.2) from rfl, q] at h1
    exact hne (nodup_key hs.own.nd h1 h2)
  obtain ⟨S, h1, h2⟩ := u.rest
  have hm : e ∈ S := by
    have := h1.mem_iff.mp m.mem
    rcases List.mem_cons.mp this with q | q
    · exact absurd (by rw [q]) hne'
    · exact q
  obtain ⟨S1, S2, rfl⟩ := List.append_of_mem hm
  have p1 : R.Perm ([e, (a, P)] ++ (S1 ++ S2)) := h1.trans ((List.Perm.cons _ List.perm_middle).trans (.swap _ _ _))
  have p2 : ([e, (a, P')] ++ (S1 ++ S2)).Perm R' := ((h2.trans ((List.Perm.cons _ List.perm_middle).trans (.swap _ _ _))).symm)
  have hs' : St c A I ([e, (a, P)] ++ ((S1 ++ S2) ++ H)) s := by
    rw [← List.append_assoc]; exact hs.perm (p1.append_right H)
  refine wpAny_mono (h.run I _ s vs hs' hr) (fun v s1 zz => PG.elim zz fun I1 R3 d k1 hs1 r q => ?_) fun _ _ z => z.no
  obtain ⟨rfl, rfl⟩ := q
  refine ⟨I1, R', _, k1, hs1.perm ?_, r, k⟩
  rw [← List.append_assoc]; exact p2.append_right H
end
end Mine
end
section
open PySem PySem.W PySem.Calls PyProof.Rows
set_option Elab.async false
set_option tactic.hygienic false
set_option maxRecDepth 100000
set_option linter.unusedVariables false
set_option linter.unusedSectionVars false
namespace Mine
section
variable {c : Cx} {A : Around} {env : Env} {L : Addr} {R R0 R1 R2 R' : Led} {Q : D → Led → Prop} {X : Addr → D → Led → Prop} {n : Nat}
theorem reps_of {I : Heap} : ∀ {vs : List Value} {ds : List D}, vs.length = ds.length → (∀ (i : Nat) (v : Value) (d : D), vs[i]? = some v → ds[i]? = some d → Rep I v d) → Reps I vs ds
  | [], [], _, _ => .nil
  | v :: vs, d :: ds, hl, h => .cons (h 0 v d rfl rfl) (reps_of (by simpa using hl) fun i v' d' h1 h2 => h (i + 1) v' d' h1 h2)
theorem ca_listRange {a : Int} {k : Nat} (rm : Rm A n) (hk : k ≤ 16777216) (h : Q (.lst ((List.range k).map fun i : Nat => .int (a + (i : Int)))) R) : Cal c A (.type "list") [.rng a k] R Q X := .mk fun I H s _ hst r => by
  refine gP fun Gq hGq => ?_
  obtain ⟨_, _, rfl, r1, rs⟩ := Reps.consI r
  refine hGq ?_
  clear hGq
  obtain rfl := Reps.nilI rs
  obtain ⟨r, b, t, u, v, rfl, x, e, z⟩ := r1.rI
  refine call_list_range rm.handled (hst.up _ _ x) (small_one z.1 z.2.1 z.2.2.1 z.2.2.2) (n := k) (by rw [rangeSize_one]; split <;> lia) hk fun h' tk acc' c' hkeep hl hi => ?_
  have hs1 := hst.ext (h' := h') hkeep tk
  obtain ⟨I', k1, hI, hs2⟩ := hs1.take hl (fun m => by
    obtain ⟨p, hp, q⟩ := List.mem_map.mp m
    obtain ⟨o, ho, _⟩ := hst.own.has p hp
    rw [q, none_at_size] at ho; cases ho)
  refine ⟨I', R, _, k1, hs2, .lst _ acc' _ ⟨_, hI, rfl, c', rfl⟩ (reps_of ?_ fun i v d h1 h2 => ?_), h⟩
  · have := hi.1; simp [this]
  · rw [List.getElem?_map, Option.map_eq_some_iff] at h2
    obtain ⟨j, hj, rfl⟩ := h2
    obtain ⟨hj1, hj2⟩ := List.getElem?_eq_some_iff.mp hj
    simp only [List.getElem_range] at hj2
    subst hj2
    obtain ⟨t', e'⟩ := hi.2 i v (by simpa using h1)
    rw [e']
    have : a + (i : Int) * 1 = a + (i : Int) := by lia
    rw [this]; exact .int _ _
end
end Mine
end
section
open PySem PySem.W PySem.Calls PyProof.Rows PySem.Builtin PySem.Builtin.ObjectAttr
set_option Elab.async false
set_option tactic.hygienic false
set_option maxRecDepth 100000
set_option linter.unusedVariables false
set_option linter.unusedSectionVars false
namespace Mine
abbrev bmB : List Value := [.type "Exception", .type "BaseException", .type "object"]
abbrev bmE : List Value := .ref 39 :: bmB
abbrev badO (nm : Str) (C N : Addr) (k0 k2 k3 : Option Value) : Obj := excClassObj nm nm C N [.ref 39] bmE true [] [] false none none k0 none k2 k3 (some (.bool true)) "Exception.__new__"
/-- one of the two classes of exceptions -/
structure Bad (C : Addr) : Prop where
  obj : ∃ nm N k0 k2 k3, ∀ P, (K P).lookup C = some (badO nm C N k0 k2 k3)
  init : ∀ P, findIn (K P) (.ref C) "__init__" = some (some (.ref 36))
  seta : ∀ P, findIn (K P) (.ref C) "__setattr__" = some (some (.builtin "object.__setattr__"))
  tak : ∀ P, takerIn (K P) C "told" = some none
  told : ∀ P, findIn (K P) (.ref C) "told" = some none
  geta : ∀ P, findIn (K P) (.ref C) "__getattribute__" = some (some (.builtin "BaseException.__getattribute__"))
  getr : ∀ P, findIn (K P) (.ref C) "__getattr__" = some none
  keep : ∀ P, keepIn (K P) (.ref C) = true
theorem bad52 : Bad 52 := ⟨⟨"BadCode", 51, some (.ref 43), some (.str (Str.ofString "BadCode") 233), some (.str (Str.ofString "BadCode") 241), by intro P; kernel_rfl⟩, by intro P; kernel_rfl, by intro P; kernel_rfl, by intro P; kernel_rfl, by intro P; kernel_rfl, by intro P; kernel_rfl, by intro P; kernel_rfl, by intro P; kernel_rfl⟩
theorem bad64 : Bad 64 := ⟨⟨"BadRow", 63, some (.ref 55), some (.str (Str.ofString "BadRow") 249), some (.str (Str.ofString "BadRow") 257), by intro P; kernel_rfl⟩, by intro P; kernel_rfl, by intro P; kernel_rfl, by intro P; kernel_rfl, by intro P; kernel_rfl, by intro P; kernel_rfl, by intro P; kernel_rfl, by intro P; kernel_rfl⟩

section
variable {w : World} {M : Model} {A : Around} {E : Value → Shared → Prop} {h : Heap} {g : Array GenState} {d : Drawn} {t : Nat} {os : OsState} {nm : Str} {C N : Addr} {k0 k2 k3 : Option Value} {rest : List Value}
theorem bm_has {X : String} (hX : bmB.contains (.type X) = true) : (Value.ref C :: bmE).contains (.type X) = true := by
  rw [List.contains_cons, List.contains_cons, hX, Bool.or_true, Bool.or_true]
theorem bm_no {X : String} (hX : bmB.contains (.type X) = false) : (Value.ref C :: bmE).contains (.type X) = false := by
  rw [List.contains_cons, List.contains_cons, hX]; rfl
theorem bad_check_new {Q : Unit → Shared → Prop} (hC : h.get? C = some (badO nm C N k0 k2 k3)) (hq : Q () ⟨h, g, d, t, os⟩) : wpAny M A (checkBuiltinCall "Exception.__new__" ⟨.ref C :: rest, []⟩) Q E ⟨h, g, d, t, os⟩ := by
  have F := PySem.F.excBase_Exception
  have hcont : (Value.ref C :: bmE).contains (.type "Exception") = true := bm_has F.hasB
  have hstar := F.noStar
  simp only [checkBuiltinCall, F.newKind, F.newSplit, F.newRow]
  repeat (first | refine wpAny_loadPart_at hC ?_ | (refine wpAny_isSubtype_exc hC ?_; rw [hcont]) | refine wpAny_staticBase_exc hC ?_ | refine wpAny_madeBy_exc hC ?_ | simp only [bne_self_eq_false, Bool.false_eq_true, if_false] | wp_step)
  exact hq
theorem bad_new {R : Result → Shared → Prop} (hC : h.get? C = some (badO nm C N k0 k2 k3)) (hrest : rest.length ≤ 1000)
    (hq : R (.ok (.ret (.ref (h.objs.size + 1)))) ⟨(h.push { cls := .type "tuple", data := .seq rest.toArray }).push { cls := .ref C, data := .fields #[.ref h.objs.size, .none, .none, .none, .bool false, .none] }, g, d, t, os⟩) :
    codeAny (model prog w) A (.builtin "Exception.__new__" ⟨.ref C :: rest, []⟩) R ⟨h, g, d, t, os⟩ := by
  have F := PySem.F.excBase_Exception
  have hends := F.ends
  have hcB : (Value.ref C :: bmE).contains (.type "Exception") = true := bm_has F.hasB
  have hcA : (Value.ref C :: bmE).contains (.type "AttributeError") = false := bm_no F.noAttr
  have hcN : (Value.ref C :: bmE).contains (.type "NameError") = false := bm_no F.noName
  have hrest : rest.length ≤ sizeLine := by rw [sizeLine_is]; lia
  refine codeAny_builtinAt F.entry ?_
  unfold Builtin.«BaseException.__new__»
  refine PySem.wpAt_bind ?_
  show PySem.wpAt _ _ _ (stack >>= _) _ _ _
  refine PySem.wpAt_bind (PySem.wpAt_stack fun p below => PySem.wpAt_of_wpAny ?_)
  wp_walk
  refine PySem.wpAt_of_wpAny ?_
  rw [F.owner]
  repeat (first | with_reducible refine wpAny_madeHere_exc F.canon hC ?_ | with_reducible refine wpAny_loadPart_at hC ?_ | (with_reducible refine wpAny_isSubtype_exc hC ?_; first | rw [hcB] | rw [hcA] | rw [hcN]) | wp_step)
  show R _ _
  rw [Heap.size_push]
  exact hq
theorem bad_type_call {Q : Fin → Shared → Prop} (B : Bad C) (X : (K w.params).In h) (hC : h.get? C = some (badO nm C N k0 k2 k3)) (hrest : rest.length ≤ 1000)
    (hq : ∀ h' e, Heap.MadeExcOf h h' e (.ref C) rest → wpAny (model prog w) A (call (.ref 36) (.ref e :: rest)) (fun r s' => r = .none ∧ Q (.done (.ret (.ref e))) s') E ⟨h', g, d, t, os⟩) :
    wpAny (model prog w) A (Builtin.«type.__call__» ⟨.ref C :: rest, []⟩) Q E ⟨h, g, d, t, os⟩ := by
  have F := PySem.F.excBase_Exception
  repeat (first | with_reducible refine wpAny_loadPart_at hC ?_ | with_reducible refine wpAny_madeBy_exc hC ?_ | wp_step)
  refine codeAny_call_builtin_code (Code.quiet_builtin _ F.quiet) (bad_check_new hC ?_)
  refine bad_new hC hrest ?_
  show wpAny _ _ _ _ _ _
  have k : ∀ b o, h.get? b = some o → ((h.push { cls := .type "tuple", data := .seq rest.toArray }).push { cls := .ref C, data := .fields #[.ref h.objs.size, .none, .none, .none, .bool false, .none] }).get? b = some o :=
    fun b o e => Heap.get?_push_of_some _ (Heap.get?_push_of_some _ e)
  have X₁ := X.keeps k
  have hC₁ := k _ _ hC
  have hget : ((h.push { cls := .type "tuple", data := .seq rest.toArray }).push
      { cls := .ref C, data := .fields #[.ref h.objs.size, .none, .none, .none, .bool false, .none] }).get? (h.objs.size + 1) = some
      { cls := .ref C, data := .fields #[.ref h.objs.size, .none, .none, .none, .bool false, .none] } := by heap_get
  have hcC : (Value.ref C :: bmE).contains (.ref C) = true := by simp
  unfold isInstance
  repeat (first | with_reducible refine wpAny_loadPart_at hget ?_ | (with_reducible refine wpAny_isSubtype_exc hC₁ ?_; rw [hcC]) | wp_step)
  show wpAny _ _ (typeLookup (.ref C) _) _ _ _
  refine (looks_findIn X₁ (B.init w.params)).at ?_
  refine wpAny_holding (wpAny_bind ?_)
  unfold bindSpecial
  have h36 : (K w.params).lookup 36 = some (fnD (stIn 6 0) "UniError.__init__" (.ref 29) (.str (Str.ofString "unicore.base") 194) (.ref 35)) := rfl
  refine wpAny_bind (wpAny_typeOf (T := "function") ⟨_, X₁ _ _ h36, rfl⟩ ?_)
  rw [if_pos (by decide)]
  refine wpAny_pure (wpAny_bind (wpAny_mono (hq _ (h.objs.size + 1) ⟨k, Heap.get?_none_of_le (Nat.le_succ _), h.objs.size, hget, Heap.get?_none_of_le (Nat.le_refl _), ?_⟩) (fun r s' hr => ?_) fun _ _ x => x))
  · exact Heap.get?_push_of_some _ (Heap.get?_push_at rfl rfl)
  · obtain ⟨rfl, hQ⟩ := hr
    wp_walk
    exact hQ
theorem bad_call {Q : Value → Shared → Prop} (B : Bad C) (X : (K w.params).In h) (hrest : rest.length ≤ 1000)
    (hq : ∀ h' e, Heap.MadeExcOf h h' e (.ref C) rest → wpAny (model prog w) (A.under (.builtin "type.__call__" ⟨.ref C :: rest, []⟩)) (call (.ref 36) (.ref e :: rest)) (fun r s' => r = .none ∧ Q (.ref e) s') E ⟨h', g, d, t, os⟩) :
    wpAny (model prog w) A (call (.ref C) rest) Q E ⟨h, g, d, t, os⟩ := by
  refine gP fun Gq hGq => ?_
  obtain ⟨nm, N, k0, k2, k3, hO⟩ := B.obj
  refine hGq ?_
  clear hGq
  have hC := X _ _ (hO w.params)
  have f1 := tc_lookup
  have f2 := tc_bind (.ref C)
  have hT : (⟨h, g, d, t, os⟩ : Shared).TypeIs (.ref C) "type" := ⟨_, hC, rfl⟩
  refine wpAny_call (codeAny_of_tree ?_)
  show wpAny _ _ (callAny (.ref C) _) _ _ _
  repeat (any_goals (first | assumption | with_reducible refine wpAny_loadPart_at hC ?_ | wp_step))
  refine ⟨rfl, ?_⟩
  refine codeAny_call_builtin_at (Code.quiet_builtin _ (by decide +kernel)) entry_typeCall (wpAny_check_type_call_sub hC (bad_type_call B X hC hrest fun h' e hm => ?_))
  exact hq h' e hm
end

section
variable {w : World} {A : Around} {E : Value → Shared → Prop} {s : Shared} {x C : Addr} {ox : Obj}
theorem osa_exc {tk : Tok} {v : Value} {R : Result → Shared → Prop} (B : Bad C) (X : (K w.params).In s.heap) (I : InstAt s.heap x ox C none)
    (h : ∀ b, wpAny (model prog w) A.in1 (storeInOwnDict (.ref x) (.ref C) (.str "told" tk) "told" v b) (fun fin s' => match fin with | .done f => R (.ok f) s' | .again c' => c'.quiet = true ∧ codeAny (model prog w) A c' R s') (fun e s' => R (.error e) s') s) :
    codeAny (model prog w) A (.call (.builtin "object.__setattr__") ⟨[.ref x, .str "told" tk, v], []⟩) R s := by
  have SF := PySem.F.store_object
  refine gP fun Gq hGq => ?_
  obtain ⟨nm, N, k0, k2, k3, hO⟩ := B.obj
  refine hGq ?_
  clear hGq
  have hc : clsIn (K w.params) C = some { name := nm, bases := [.ref 39], mro := .ref C :: bmE, ns := N, qualname := nm, hasDict := true, slotNames := [], subclasses := [], abstract := false, collection := none, hasDel := false } := by
    unfold clsIn; rw [hO w.params]
  have sub : Looks (model prog w) s.heap (isInstance (.ref x) (.type "object")) true := I.type.andThen (looks_mroIn X (by unfold mroIn; rw [hc, Option.bind_some]; show (some ((Value.ref C :: bmE).contains (.type "object"))) = _; rw [bm_has (by decide)]))
  refine codeAny_call_builtin SF.slot.plain SF.entry (@check_slot (model prog w) _ _ s "object.__setattr__" "object" "__setattr__" (.ref x) [.str "told" tk, v] [] _ SF.kind SF.split sub (SF.args (.ref x) (.str "told" tk) v) ?_)
  obtain ⟨attr, ha, hr⟩ := Option.bind_eq_some_iff.mp (B.tak w.params)
  have hm : Looks (model prog w) s.heap (mroOf (.ref C)) (.ref C :: bmE) := (looks_clsIn X hc).andThen .now
  have L3 : Looks (model prog w) s.heap (storeTaker? attr) none := by
    cases attr with
    | none => exact .now
    | some a =>
      obtain ⟨b, hb, hq⟩ := Option.map_eq_some_iff.mp hr
      refine (looks_takesIn X hb).andThen ?_
      cases b with
      | true => cases hq
      | false => exact .now
  rw [osa_eq, refuse_eq]
  refine wpAny_bind (wpAny_bind (I.type.here (wpAny_bind (hm.here ?_))))
  rw [refuseLoop_ref, refuseLoop_ref, PySem.F.store_Exception.passes]
  refine wpAny_pure (wpAny_bind (I.type.here (wpAny_bind ((looks_findIn X ha).here (wpAny_bind (L3.here ?_))))))
  exact h _
end

section
variable {c : Cx} {A : Around} {env : Env} {L : Addr} {R R0 R1 R2 R' : Led} {X : Addr → D → Led → Prop} {a : Addr} {n : Nat} {C e : Addr} {d : D}
theorem sa_told {Rx : Addr → Led} {Q : Led → Prop} (B : Bad C) (u : ∀ dx, Upd e (.exc C none none) (.exc C (some dx) none) R (Rx dx)) (h : ∀ dx, Q ((dx, .ats ["told"] [some d]) :: Rx dx)) : SetA c A (.val (.ref e)) "told" d R Q X := by
  constructor
  intro I H s ov vv hs r1 r2
  (first | obtain ⟨_, rfl⟩ := Rep.iI r1 | obtain ⟨_, rfl⟩ := Rep.sI r1 | obtain rfl := Rep.vI r1 | obtain rfl := Rep.bI r1 | obtain rfl := Rep.nI r1 | cases r1)
  have hX := hs.wd.kin.keeps hs.up
  refine gP fun Gq hGq => ?_
  obtain ⟨ox, hx, hcl, hdi, a0, c0, d0, e0, f0, hc52, hda⟩ := hs.get ((u 0).has.app H)
  refine hGq ?_
  clear hGq
  refine gP fun Gq hGq => ?_
  obtain ⟨nm, N, k0, k2, k3, hO⟩ := B.obj
  refine hGq ?_
  clear hGq
  have hc : clsIn (K c.w.params) C = some { name := nm, bases := [.ref 39], mro := .ref C :: bmE, ns := N, qualname := nm, hasDict := true, slotNames := [], subclasses := [], abstract := false, collection := none, hasDel := false } := by
    unfold clsIn; rw [hO c.w.params]
  have ia : InstAt s.heap e ox C none := ⟨hx, hcl, by unfold notCls; rw [hda], by rw [hdi]; trivial⟩
  refine set_plain hX ia (B.seta _) (osa_exc (s := { s with toks := s.toks + 1 }) B hX ia fun b => ?_)
  refine gP fun Gq hGq => ?_
  obtain ⟨oc, odi, oda, osl⟩ := ox
  refine hGq ?_
  clear hGq
  dsimp only at hcl hdi hda
  subst hcl hdi hda
  have hx₁ : (s.heap.push { cls := .type "dict", data := .dict #[] }).get? e = some ⟨.ref C, none, .fields #[a0, .none, c0, d0, e0, f0], osl⟩ := Heap.get?_push_of_some _ hx
  have hxs : e ≠ s.heap.objs.size := Nat.ne_of_lt (Heap.lt_size hx)
  refine wpAny_bind (wpAny_pure (wpAny_bind (wpAny_bind (wpAny_loadPart hx (wpAny_bind ((looks_clsIn hX hc) _ _ _ _ (fun _ _ e => e) ?_))))))
  simp only [Bool.not_true, Bool.false_eq_true, if_false]
  rw [if_neg (by simp [typeHasDict])]
  refine wpAny_bind (wpAny_alloc' ?_)
  refine wpAny_bind (wpAny_update' hx₁ ?_)
  refine wpAny_pure (wpAny_bind ?_)
  have hgd : ((s.heap.push { cls := .type "dict", data := .dict #[] }).update e fun o => { cls := o.cls, dict := some s.heap.objs.size, data := o.data, slots := o.slots }).get? s.heap.objs.size
      = some { cls := .type "dict", data := .dict #[] } :=
    (Heap.get?_update_ne _ _ _ _ hxs.symm).trans (Heap.get?_push_at rfl rfl)
  have hnd : ((s.heap.push { cls := .type "dict", data := .dict #[] }).update e fun o => { cls := o.cls, dict := some s.heap.objs.size, data := o.data, slots := o.slots }).Ns1 s.heap.objs.size (fun _ => none) :=
    .of_empty ⟨_, #[], _, hgd, rfl, fun e he => absurd he (by simp), fun _ => rfl⟩
  unfold newKeyGuard
  refine (wpAny_pure (wpAny_bind (wpAny_nsSet1 hnd fun h' hn' hsb => ?_)))
  refine gP fun Gq hGq => ?_
  obtain ⟨oD, esD, epD, hoD, hdD, hcD⟩ := hn'.count (Within.cons "told" vv Within.nil)
  refine hGq ?_
  clear hGq
  refine wpAny_bind (wpAny_lookBehind hoD (by rw [hdD]; exact pastItsLine_dict (Nat.le_trans hcD (by rw [List.length_cons, List.length_nil, sizeLine_eq]; lia))) ?_)
  have hx' : h'.get? e = some ⟨.ref C, some s.heap.objs.size, .fields #[a0, .none, c0, d0, e0, f0], osl⟩ :=
    (hsb.2 e hxs).trans (Heap.get?_update_self _ hx₁ rfl)
  have keep : ∀ b o, b ≠ e → s.heap.get? b = some o → h'.get? b = some o := fun b o hbe hb =>
    (hsb.2 b (Nat.ne_of_lt (Heap.lt_size hb))).trans ((Heap.get?_update_ne _ _ _ _ hbe).trans (Heap.get?_push_of_some _ hb))
  refine wpAny_pure (show PG c A I H UnitR (fun _ R => Q R) () _ from ?_)
  have hu := (u s.heap.objs.size).app H
  have O1 : Own c.w I (Rx s.heap.objs.size ++ H) h' := hs.own.upd hu keep ⟨_, hx', rfl, rfl, a0, c0, d0, e0, f0, hc52, rfl⟩
  have hs1 : St c A I (Rx s.heap.objs.size ++ H) { s with heap := h' } := hs.upd (h' := h') hu keep ⟨_, hx', rfl, rfl, a0, c0, d0, e0, f0, hc52, rfl⟩ _
  obtain ⟨o', ho', hm'⟩ := isNs1_of hn'
  have hout : I.get? s.heap.objs.size = none := by
    cases q : I.get? s.heap.objs.size with
    | none => rfl
    | some z => have := hs.own.sub _ _ q; rw [none_at_size] at this; cases this
  have hnot : s.heap.objs.size ∉ (Rx s.heap.objs.size ++ H).map (·.1) := fun m => by
    rw [hu.map] at m
    obtain ⟨p, hp, q⟩ := List.mem_map.mp m
    obtain ⟨z, hz, _⟩ := hs.own.has p hp
    rw [q, none_at_size] at hz; cases hz
  refine ⟨I, _, (), Sub.refl _, ⟨⟨O1.sub, fun p hp => ?_, fun p hp => ?_, ?_⟩, hs1.wd, hs1.gens, hs1.drawn, hs1.os, hs1.fr.mono fun L ns vs m => ⟨ns, vs, .tail _ m⟩⟩, trivial, h s.heap.objs.size⟩
  · rcases List.mem_cons.mp hp with rfl | hp
    · refine ⟨o', ho', _, hm', .some (v := vv) (if_pos rfl) r2 .nil, fun y hy => ?_⟩
      have : y ≠ "told" := fun q => hy (by rw [q]; exact .head _)
      simp only [if_neg this]
    · exact O1.has p hp
  · rcases List.mem_cons.mp hp with rfl | hp
    · exact hout
    · exact O1.out p hp
  · exact List.nodup_cons.mpr ⟨hnot, O1.nd⟩
end
end Mine
end
section
open PySem PySem.W PySem.Calls PyProof.Rows PySem.Builtin PySem.Builtin.ObjectAttr
set_option Elab.async false
set_option tactic.hygienic false
set_option maxRecDepth 100000
set_option linter.unusedVariables false
set_option maxHeartbeats 400000
set_option linter.unusedSectionVars false
namespace Mine
section
variable {c : Cx} {A : Around} {env : Env} {L : Addr} {sc : Scope} {ns : List Str} {vs vs' : List (Option D)} {gl : List (Str × D)} {R R0 R1 R2 R' : Led} {Q : D → Led → Prop} {X : Addr → D → Led → Prop} {a : Addr} {n : Nat} {C e dx : Addr} {d : D} {tb : Option Addr}
theorem f_exc_init (B : Bad C) (hdep : A.depth < recursionLimit) :
    CalC c A (.ref 36) [.val (.ref e), d] ((e, .exc C none none) :: R) (fun d0 R1 => d0 = .none ∧ ∃ dx, R1 = (dx, .ats ["told"] [some d]) :: (e, .exc C (some dx) none) :: R) NoX :=
  cal_fnP (fun _ => True) hdep (fun _ => trivial) (st := stIn 6 0) (qual := "UniError.__init__") (dV := .ref 29) (pm := .str (Str.ofString "unicore.base") 194) (cd := .ref 35) (ps := ["self", "told"]) (rest := []) (gl := [])
    (by intro P; kernel_rfl) (by intro P; kernel_rfl) (fun s vals hX hv => by
      refine len2 (P := fun vals => BindsTo s _ ⟨vals, []⟩ ((["self", "told"] : List Str).zip vals)) (fun a0 a1 => ?_) vals hv
      exact BindsTo.of_defaults (T := 29) rfl (hX 29 _ rfl) rfl rfl rfl) rfl (by kernel_rfl) (fun p hp => nomatch hp) fun env A' L fe fn _ hfr => by
    conv => arg 4; whnf
    refine ex_cons (sx_attr (ev_loc fe .head (.there .here) (ev_loc fe .head .here (sa_told B (fun dx => .tail .head) fun dx => ?_))) (hs := by intro _; rfl))
    exact ex_nil ⟨_, _, _, _, .tail .head, .nil, rfl, dx, rfl⟩
theorem ca_bad (B : Bad C) (hdep : A.depth + 1 < recursionLimit) (h : ∀ e dx, Q (.val (.ref e)) ((dx, .ats ["told"] [some d]) :: (e, .exc C (some dx) none) :: R)) : Cal c A (.ref C) [d] R Q X := by
  constructor
  intro I H s vals hs r
  refine gP fun Gq hGq => ?_
  obtain ⟨hh, g, dr, t, os⟩ := s
  refine hGq ?_
  clear hGq
  have hX := hs.wd.kin.keeps hs.up
  have hlen : vals.length = 1 := by rw [r.length]; rfl
  refine bad_call B hX (by omega) fun h' e hm => ?_
  refine gP fun Gq hGq => ?_
  obtain ⟨tt, ht, _, _⟩ := hm.there
  refine hGq ?_
  clear hGq
  have hs1 : St c A I ((e, .exc C none none) :: (R ++ H)) ⟨h', g, dr, t, os⟩ := hs.extNew (h' := h') (P := .exc C none none) hm.keeps hm.new ⟨_, ht, rfl, rfl, _, _, _, _, _, fun _ => rfl, rfl⟩ t
  have hs2 := hs1.around (A' := A.under (.builtin "type.__call__" ⟨.ref C :: vals, []⟩)) rfl
  have z := (f_exc_init (c := c) (e := e) (d := d) (R := R) (A := A.under (.builtin "type.__call__" ⟨.ref C :: vals, []⟩)) B (by rw [depth_under_make]; omega)).cal.run I H _ (.ref e :: vals) hs2 (.cons (.val _) r)
  refine wpAny_mono z (fun v s' y => ?_) fun _ _ y => y.no
  refine gP fun Gq hGq => ?_
  obtain ⟨I', R1, d0, k, hs', rr, rfl, dx, rfl⟩ := y
  refine hGq ?_
  clear hGq
  cases rr
  exact ⟨rfl, I', _, _, k, hs'.around rfl, .val _, h e dx⟩
theorem ga_slot : Slot "Exception" "__getattribute__" "BaseException.__getattribute__" := .of (owner := "BaseException") (n := "__getattribute__") (by rw [typeLookup_type, builtinLookup_eq_fast]; kernel_rfl) (by decide +kernel) (by decide +kernel) (by decide +kernel)
    (by first | exact .inl (by decide +kernel) | exact .inr (by decide +kernel)) (by rw [isSubtype_type]; kernel_rfl)
theorem ga_kind : builtinKind "BaseException.__getattribute__" = some .slot := by decide +kernel
theorem ga_split : splitId "BaseException.__getattribute__" = some ("BaseException", "__getattribute__") := by decide +kernel
theorem told_call {w : World} {hp : Heap} {g : Array GenState} {dr : Drawn} {t : Nat} {os : OsState} {tk : Tok} {u : Value} {ob : Obj} {od : Option Obj} {Rr : Result → Shared → Prop} (B : Bad C) (hX : (K w.params).In hp) (ia : InstAt hp e ob C od) (hf : findObj (K w.params) C od "told" = some (.value u))
    (hq : Rr (.ok (.ret u)) ⟨hp, g, dr, t, os⟩) : codeAny (model prog w) A (.call (.builtin "BaseException.__getattribute__") ⟨[.ref e, .str "told" tk], []⟩) Rr ⟨hp, g, dr, t, os⟩ := by
  refine gP fun Gq hGq => ?_
  obtain ⟨nm, N, k0, k2, k3, hO⟩ := B.obj
  refine hGq ?_
  clear hGq
  have hc : clsIn (K w.params) C = some { name := nm, bases := [.ref 39], mro := .ref C :: bmE, ns := N, qualname := nm, hasDict := true, slotNames := [], subclasses := [], abstract := false, collection := none, hasDel := false } := by
    unfold clsIn; rw [hO w.params]
  have sub : Looks (model prog w) hp (isInstance (.ref e) (.type "BaseException")) true := ia.type.andThen (looks_mroIn hX (by unfold mroIn; rw [hc, Option.bind_some]; show (some ((Value.ref C :: bmE).contains (.type "BaseException"))) = _; rw [bm_has (by decide)]))
  have L0 := ia.type (M := model prog w)
  have L1 := looks_find (M := model prog w) hX ia hf
  refine codeAny_call_builtin ga_slot.plain F.entry_bexc_ga (@check_slot (model prog w) _ _ ⟨hp, g, dr, t, os⟩ "BaseException.__getattribute__" "BaseException" "__getattribute__" (.ref e) [.str "told" tk] [] _ ga_kind ga_split sub (F.args_bexc_ga (.ref e) (.str "told" tk)) ?_)
  show wpAny _ _ (Builtin.«object.__getattribute__» ⟨[.ref e, .str "told" tk], []⟩) _ _ _
  unfold Builtin.«object.__getattribute__»
  refine wpAny_bind (wpAny_of_eq (a := (.ref e, [.str "told" tk])) (by rfl) ?_)
  refine wpAny_bind (wpAny_of_eq (a := ("told" : Str)) (by rfl) ?_)
  refine wpAny_bind (L0.at (wpAny_bind (L1.at ?_)))
  exact wpAny_pure hq
/-- the attribute told -/
theorem at_told (B : Bad C) (m1 : Has (e, .exc C (some dx) tb) R) (m2 : Has (dx, .ats ["told"] [some d]) R) (hb : noB d = true) (h : Q d R) : Att c A (.val (.ref e)) "told" R Q X := by
  constructor
  intro I H s v hs r
  (first | obtain ⟨_, rfl⟩ := Rep.iI r | obtain ⟨_, rfl⟩ := Rep.sI r | obtain rfl := Rep.vI r | obtain rfl := Rep.bI r | obtain rfl := Rep.nI r | cases r)
  have hX := hs.wd.kin.keeps hs.up
  refine gP fun Gq hGq => ?_
  obtain ⟨ox, hx, hcl, hdi, a0, c0, d0, e0, f0, hc52, hda⟩ := hs.get (m1.app H)
  refine hGq ?_
  clear hGq
  refine gP fun Gq hGq => ?_
  obtain ⟨od, hd, m, hm1, hm2, hm3⟩ := hs.get (m2.app H)
  refine hGq ?_
  clear hGq
  refine gP fun Gq hGq => ?_
  obtain ⟨nm, N, k0, k2, k3, hO⟩ := B.obj
  refine hGq ?_
  clear hGq
  have hc : clsIn (K c.w.params) C = some { name := nm, bases := [.ref 39], mro := .ref C :: bmE, ns := N, qualname := nm, hasDict := true, slotNames := [], subclasses := [], abstract := false, collection := none, hasDel := false } := by
    unfold clsIn; rw [hO c.w.params]
  have ia : InstAt s.heap e ox C (some od) := ⟨hx, hcl, by unfold notCls; rw [hda], by rw [hdi]; exact hd⟩
  cases hm2 with
  | @some _ u _ _ _ hu ru _ =>
  have hf : findObj (K c.w.params) C (some od) "told" = some (.value u) := findObj_own (by unfold hasDictIn; rw [hc]; rfl) (B.told c.w.params) rfl (by rw [lookIn_ns hm1.ns, hu])
  have hh : handedIn u = true := by
    cases ru <;> first | rfl | skip
    cases u <;> first | rfl | cases hb
  refine gP fun Gq hGq => ?_
  obtain ⟨hp, g, dr, t, os⟩ := s
  refine hGq ?_
  clear hGq
  have L0 := ia.type (M := model prog c.w)
  have L2 := looks_findIn (M := model prog c.w) hX (B.geta c.w.params)
  have L3 := looks_findIn (M := model prog c.w) hX (B.getr c.w.params)
  have hx2 : (Value.builtin "BaseException.__getattribute__" == Value.builtin "object.__getattribute__") = false := by decide +kernel
  have hx1 : (onTheHeap (Value.ref C) && Value.builtin "BaseException.__getattribute__" == Value.builtin "object.__getattribute__") = false := by rw [hx2]; rfl
  have hx0 : (true && onTheHeap (Value.builtin "BaseException.__getattribute__")) = false := rfl
  refine wpAny_bind (wpAny_mkText ?_)
  unfold getAttrBy
  refine wpAny_holding (wpAny_bind (L0.at (wpAny_bind (L2.at ?_))))
  dsimp only
  rw [hx1, if_neg (by simp)]
  unfold getAttrByItsOwn hookBefore
  rw [show onTheHeap (Value.ref C) = true from rfl, if_pos rfl]
  refine wpAny_bind (L3.at ?_)
  unfold callGetattribute
  rw [hx0, if_neg (by simp)]
  unfold boundAndCalled
  rw [ga_slot.bind]
  refine wpAny_bind (wpAny_attempt (wpAny_holding (wpAny_bind (wpAny_pure (wpAny_call (told_call B hX ia hf ?_))))))
  show wpAny _ _ (handedOut u) _ _ _
  rw [handedOut_of hh]
  exact wpAny_pure ⟨I, R, d, Sub.refl _, hs.toks _, ru, h⟩
end
end Mine
end
section
open PySem PySem.W PySem.Calls PyProof.Rows PySem.Builtin PySem.Builtin.ObjectAttr
set_option Elab.async false
set_option tactic.hygienic false
set_option maxRecDepth 100000
set_option maxHeartbeats 1000000
set_option linter.unusedVariables false
set_option linter.unusedSectionVars false
namespace Mine
section
variable {c : Cx} {A : Around} {env : Env} {L : Addr} {sc : Scope} {ns : List Str} {vs vs' : List (Option D)} {gl : List (Str × D)} {R R0 R1 R2 R' : Led} {X : Addr → D → Led → Prop} {a : Addr} {n : Nat} {C e dx : Addr} {d : D} {tb : Option Addr}
theorem entry_unchain : entryFor table "proto.unchain" = some Builtin.«proto.unchain» := entryFor_of_tree (by kernel_rfl)
/-- what an exception just made is -/
noncomputable def Rais (A : Around) (X : Addr → D → Led → Prop) (d : D) (R : Led) : Prop := ∃ x C dx told R2, d = .val (.ref x) ∧ R = (dx, .ats ["told"] [some told]) :: (x, .exc C (some dx) none) :: R2 ∧ Bad C ∧ (A.handled = none ∨ ∃ h0 dx0 tb0, A.handled = some (.ref h0) ∧ C ≠ 52 ∧ Has (h0, .exc 52 dx0 tb0) R2) ∧ X C told R2
theorem sx_raise {ex : Expr} {pos : Pos} {Q : Fl → Led → Prop} (h : Ev c A env ex R (Rais A X) X) : Sx c A env (.Raise (some ex) none pos) R Q X := .mk fun I H s hs => by
  rw [arm_exec_Raise]
  refine wpAny_bind (wpAny_standAt ?_)
  rw [show evalOpt (some ex) env = some (eval ex env) by with_unfolding_all rfl, show evalOpt none env = none by with_unfolding_all rfl]
  simp only [Option.map_some, Option.map_none]
  unfold raiseStmt
  refine wpAny_bind (wpAny_bind ((h.run I H s hs).and (Sub.refl _) fun I1 R1 d v s1 _ k1 hs1 r1 zz => wpAny_bind (wpAny_standAt (wpAny_pure ?_))))
  refine gP fun Gq hGq => ?_
  obtain ⟨x, C, dx, told, R2, e1, e2, B, hand, hx⟩ := zz
  refine hGq ?_
  clear hGq
  subst e1 e2
  (first | obtain ⟨_, rfl⟩ := Rep.iI r1 | obtain ⟨_, rfl⟩ := Rep.sI r1 | obtain rfl := Rep.vI r1 | obtain rfl := Rep.bI r1 | obtain rfl := Rep.nI r1 | cases r1)
  have hX := hs1.wd.kin.keeps hs1.up
  refine gP fun Gq hGq => ?_
  obtain ⟨ox, he, hcl, hdi, a0, c0, d0, e0, f0, hc52, hda⟩ := hs1.get (R := _) (a := x) (P := .exc C (some dx) none) (.tail .head)
  refine hGq ?_
  clear hGq
  refine gP fun Gq hGq => ?_
  obtain ⟨oc, odi, oda, osl⟩ := ox
  refine hGq ?_
  clear hGq
  dsimp only at hcl hdi hda
  subst hcl hdi hda
  refine gP fun Gq hGq => ?_
  obtain ⟨nm, N, k0, k2, k3, hO⟩ := B.obj
  refine hGq ?_
  clear hGq
  have hC := hX _ _ (hO c.w.params)
  have hcB : (Value.ref C :: bmE).contains (.type "BaseException") = true := bm_has (by decide)
  refine gP fun Gq hGq => ?_
  obtain ⟨hp, g, dr, t, os⟩ := s1
  refine hGq ?_
  clear hGq
  dsimp only at he hC
  repeat (first | with_reducible refine wpAny_loadPart_at he ?_ | with_reducible refine wpAny_loadPart_at hC ?_ | (with_reducible refine wpAny_isSubtype_exc hC ?_; rw [hcB]) | wp_step)
  have fin : ∀ s', St c A I1 ((dx, .ats ["told"] [some told]) :: (x, .exc C (some dx) none) :: (R2 ++ H)) s' → PX c A I H X (.ref x) s' := fun s' hs' => by
    refine ⟨I1, R2, x, C, dx, none, told, rfl, k1, hs'.perm ?_, hx⟩
    unfold excLed tbL
    exact .swap _ _ _
  unfold raiseNew
  refine wpAny_bind (wpAny_handled ?_)
  rcases hand with hn | ⟨h0, dx0, tb0, hh, hne, hm⟩
  · rw [hn]
    exact wpAny_bind (wpAny_pure (wpAny_throw (fin _ hs1)))
  · rw [hh]
    refine gP fun Gq hGq => ?_
    obtain ⟨o0, ho0, hcl0, hdi0, a1, c1, d1, e1, f1, hc1, hda1⟩ := hs1.get (R := _) (a := h0) (P := .exc 52 dx0 tb0) (.tail (.tail (hm.app H)))
    refine hGq ?_
    clear hGq
    obtain rfl := hc1 rfl
    have hxh : h0 ≠ x := fun q => by
      have := hs1.own.nd
      simp only [List.cons_append, List.map_cons, List.nodup_cons, List.mem_cons, not_or] at this
      exact this.2.1 (q ▸ List.mem_map_of_mem (f := (·.1)) (hm.app H).mem)
    have hb : (Value.ref h0 != Value.ref x) = true := by simpa using hxh
    dsimp only
    rw [if_pos hb]
    refine wpAny_bind (wpAny_holding (wpAny_runValue (codeAny_builtin entry_unchain ?_)))
    unfold Builtin.«proto.unchain»
    refine wpAny_bind (wpAny_field ho0 hda1 (x := .none) rfl ?_)
    refine wpAny_pure ?_
    have hset := wpAny_setField (M := model prog c.w) (A := A) (E := PX c A I H X) (i := 2) (x := .ref h0) (Q := fun _ s' => St c A I1 ((dx, .ats ["told"] [some told]) :: (x, .exc C (some dx) none) :: (R2 ++ H)) s') (s := ⟨hp, g, dr, t, os⟩) he rfl (by simp) ?_
    · exact wpAny_bind (wpAny_mono hset (fun _ s' z => wpAny_throw (fin s' z)) fun _ _ z => z)
    · have hd₃ := Obj.data_mapFields (o := ⟨.ref C, some dx, .fields #[a0, .none, c0, d0, e0, f0], osl⟩) (vs := #[a0, .none, c0, d0, e0, f0]) rfl (·.setIfInBounds 2 (Value.ref h0))
      refine hs1.upd (R' := (dx, .ats ["told"] [some told]) :: (x, .exc C (some dx) none) :: (R2 ++ H)) (P' := .exc C (some dx) none) (.tail .head) (fun b o ne e => (Heap.get?_update_other _ _ (Ne.symm ne)).trans e) ⟨_, Heap.get?_update_self _ he (Obj.isFreed_of_fields hd₃), rfl, rfl, a0, .ref h0, d0, e0, f0, fun q => absurd q hne, rfl⟩ _

theorem px_mark {I : Heap} {H : Led} {v : Value} {s : Shared} {m : Option Value} (hx : PX c (A.mark m) I H X v s) (hfr : ∃ outer, A.frames = some (env :: outer)) (hf : env.frame = some L) :
    notedBy c.M (A.mark m) env (cameBackBy c.M A env (PX c A I H X)) v s := by
  refine gP fun Gq hGq => ?_
  obtain ⟨I', R', e, C, dx, tb, told, rfl, k, hs, x⟩ := hx
  refine hGq ?_
  clear hGq
  unfold notedBy
  refine note hs hfr hf fun T s' hs' => ?_
  unfold cameBackBy
  have hs' := hs'.around (A' := A) rfl
  have hexc : Has (e, Sh.exc C (some dx) (some T)) (excLed e C dx told (some T) ++ R' ++ H) := by unfold excLed; exact .head
  refine wpAny_bind (get_exc hs' hexc ?_)
  rw [if_neg (by simp [tbV])]
  exact flight hs' fun s'' hs'' => ⟨I', R', e, C, dx, some T, told, rfl, k, hs'', x⟩
/-- the clause fits -/
theorem fits {x : Str} {np pos : Pos} {I : Heap} {H : Led} {s : Shared} {told : D} {T : Addr} {Rr : Result → Shared → Prop} (fe : FE env L ns gl) (hg : GlAt gl x (.val (.ref C))) (B : Bad C)
    (hs : St c A I (excLed e C dx told (some T) ++ R ++ H) s) (h : ∀ I' s', Sub I I' → St c A I' (excLed e C dx told (some T) ++ R ++ H) s' → Rr (.ok .brk) s') :
    codeAny c.M A (.handlers (.ref e) [.ExceptHandler (some (.Name x np)) none [] pos] env) Rr s := by
  refine codeAny_handlers_test ?_
  refine Run.andE ((ev_glob (c := c) (A := A) (X := NoX) (R := excLed e C dx told (some T) ++ R) (Q := fun d R' => d = .val (.ref C) ∧ R' = excLed e C dx told (some T) ++ R) fe hg ⟨rfl, rfl⟩).run I H s hs) (fun e s z => z.no) fun I1 R1 d v s1 k1 hs1 r1 ⟨e1, e2⟩ => ?_
  subst e1 e2
  (first | obtain ⟨_, rfl⟩ := Rep.iI r1 | obtain ⟨_, rfl⟩ := Rep.sI r1 | obtain rfl := Rep.vI r1 | obtain rfl := Rep.bI r1 | obtain rfl := Rep.nI r1 | cases r1)
  have hX := hs1.wd.kin.keeps hs1.up
  refine gP fun Gq hGq => ?_
  obtain ⟨nm, N, k0, k2, k3, hO⟩ := B.obj
  refine hGq ?_
  clear hGq
  have hC := hX _ _ (hO c.w.params)
  obtain ⟨ox, he, hcl, -⟩ := hs1.get (a := e) (P := .exc C (some dx) (some T)) (by unfold excLed; exact .head)
  have hb : bmE.contains (.type "BaseException") = true := by decide +kernel
  refine gP fun Gq hGq => ?_
  obtain ⟨hp, g, dr, t, os⟩ := s1
  refine hGq ?_
  clear hGq
  refine wpAny_excMatches_sub_self hC he hcl hb ?_
  exact h I1 _ k1 hs1
theorem sx_try {x : Str} {np hpos pos : Pos} {body suite : List Stmt} {b0 : Stmt} {Q : Fl → Led → Prop} {X0 : Addr → D → Led → Prop} (C : Addr) (fe : FE env L ns gl) (fn : FN env L sc) (hfr : ∃ outer, A.frames = some (env :: outer)) (hg : GlAt gl x (.val (.ref C))) (B : Bad C)
    (h : Ex c A env body R Q X0)
    (k : ∀ C' told R1, X0 C' told R1 → C' = C ∧ ∀ e dx T, Ex c (A.mark (some (.ref e))) env (b0 :: suite) (excLed e C dx told (some T) ++ R1) Q X) :
    Sx c A env (.Try body [.ExceptHandler (some (.Name x np)) none (b0 :: suite) hpos] [] [] pos) R Q X := .mk fun I H s hs => by
  refine wpAny_Try_except (wpAny_mono (h.run I H s hs) (fun f s1 z => ?_) fun e s1 z => ?_)
  · refine gP fun Gq hGq => ?_
    obtain ⟨I1, R1, fl, k1, hs1, r, q⟩ := z
    refine hGq ?_
    clear hGq
    cases r with
    | next => exact wpAny_execs_nil ⟨I1, R1, .next, k1, hs1, .next, q⟩
    | brk => exact ⟨I1, R1, _, k1, hs1, .brk, q⟩
    | cont => exact ⟨I1, R1, _, k1, hs1, .cont, q⟩
    | ret r => exact ⟨I1, R1, _, k1, hs1, .ret r, q⟩
  · refine gP fun Gq hGq => ?_
    obtain ⟨I', R', e, C', dx, tb, told, rfl, k1, hs', x0⟩ := z
    refine hGq ?_
    clear hGq
    obtain ⟨rfl, hk⟩ := k _ _ _ x0
    refine note hs' hfr fn.frame fun T s2 hs2 => flight hs2 fun s3 hs3 => ?_
    have hs4 := hs3.around (A' := A.mark (some (.ref e))) rfl
    refine wpAny_handleBy_cons (fits fe hg B hs4 fun I4 s4 k4 hs5 => ?_) (by intro q; cases q)
    refine codeAny_handlers_suite (flight hs5 fun s5 hs6 => ?_)
    refine wpAny_mono ((hk e dx T).run I4 H s5 hs6) (fun f s6 z => ?_) fun y s6 z => ?_
    · refine gP fun Gq hGq => ?_
      obtain ⟨I6, R6, fl, k6, hs7, r, q⟩ := z
      refine hGq ?_
      clear hGq
      exact ⟨I6, R6, fl, (k1.trans k4).trans k6, hs7.around rfl, r, q⟩
    · exact px_mark (PX.sub z (k1.trans k4)) hfr fn.frame

inductive LocPut : List Str → List (Option D) → Str → Option D → List (Option D) → Prop
  | here {x ns u d vs} : LocPut (x :: ns) (u :: vs) x d (d :: vs)
  | there {x y ns u d vs vs'} : LocPut ns vs x d vs' → LocPut (y :: ns) (u :: vs) x d (u :: vs')
theorem Locs.otherO {I : Heap} {m : Str → Option Value} {x : Str} {v : Option Value} {ns vs} (l : Locs I m ns vs) (n : x ∉ ns) : Locs I (fun y => if y = x then v else m y) ns vs := by
  induction l with
  | nil => exact .nil
  | none e r ih =>
    have n := not_or.mp (mt List.mem_cons.mpr n)
    exact .none (by rw [if_neg (Ne.symm n.1)]; exact e) (ih n.2)
  | some e z r ih =>
    have n := not_or.mp (mt List.mem_cons.mpr n)
    exact .some (by rw [if_neg (Ne.symm n.1)]; exact e) z (ih n.2)
theorem LocPut.at {names : List Str} {vals vals' : List (Option D)} {x : Str} {u : Option Value} (h : LocPut names vals x (u.map .val) vals') : x ∈ names ∧ (names.Nodup → ∀ {I : Heap} {m : Str → Option Value}, Locs I m names vals → Locs I (fun y => if y = x then u else m y) names vals') := by
  generalize hd : u.map D.val = d at h
  induction h with
  | @here x ns w d vs =>
    refine ⟨.head _, fun nd {I m} l => ?_⟩
    rw [List.nodup_cons] at nd
    have l' : Locs I m ns vs := by cases l with | some a b c => exact c | none a c => exact c
    subst hd
    cases u with
    | none => exact .none (if_pos rfl) (l'.otherO nd.1)
    | some u => exact .some (if_pos rfl) (.val u) (l'.otherO nd.1)
  | @there x y ns w d vs vs' _ ih =>
    have ih := ih hd
    refine ⟨.tail _ ih.1, fun nd {I m} l => ?_⟩
    rw [List.nodup_cons] at nd
    have ne : y ≠ x := fun e => nd.1 (e ▸ ih.1)
    cases l with
    | some a b cc => exact .some (by rw [if_neg ne]; exact a) b (ih.2 nd.2 cc)
    | none a cc => exact .none (by rw [if_neg ne]; exact a) (ih.2 nd.2 cc)
theorem sx_try_as {x nm : Str} {np hpos pos : Pos} {body suite : List Stmt} {b0 : Stmt} {Q : Fl → Led → Prop} {X0 : Addr → D → Led → Prop} (C : Addr) (fe : FE env L ns gl) (fn : FN env L sc) (hfr : ∃ outer, A.frames = some (env :: outer)) (hg : GlAt gl x (.val (.ref C))) (B : Bad C)
    (h : Ex c A env body R Q X0)
    (k : ∀ C' told R1, X0 C' told R1 → C' = C ∧ ∀ e dx T, Sto L ns nm (.val (.ref e)) (excLed e C dx told (some T) ++ R1) fun R2 => Ex c (A.mark (some (.ref e))) env (b0 :: suite) R2 (fun fl R3 => ∃ vs, ∀ od, ∃ vs' R4, LocPut ns vs nm od vs' ∧ Upd L (.loc ns vs) (.loc ns vs') R3 R4 ∧ Q fl R4) NoX) :
    Sx c A env (.Try body [.ExceptHandler (some (.Name x np)) (some nm) (b0 :: suite) hpos] [] [] pos) R Q X := .mk fun I H s hs => by
  refine wpAny_Try_except (wpAny_mono (h.run I H s hs) (fun f s1 z => ?_) fun e s1 z => ?_)
  · refine gP fun Gq hGq => ?_
    obtain ⟨I1, R1, fl, k1, hs1, r, q⟩ := z
    refine hGq ?_
    clear hGq
    cases r with
    | next => exact wpAny_execs_nil ⟨I1, R1, .next, k1, hs1, .next, q⟩
    | brk => exact ⟨I1, R1, _, k1, hs1, .brk, q⟩
    | cont => exact ⟨I1, R1, _, k1, hs1, .cont, q⟩
    | ret r => exact ⟨I1, R1, _, k1, hs1, .ret r, q⟩
  · refine gP fun Gq hGq => ?_
    obtain ⟨I', R', e, C', dx, tb, told, rfl, k1, hs', x0⟩ := z
    refine hGq ?_
    clear hGq
    obtain ⟨rfl, hk⟩ := k _ _ _ x0
    refine note hs' hfr fn.frame fun T s2 hs2 => flight hs2 fun s3 hs3 => ?_
    have hs4 := hs3.around (A' := A.mark (some (.ref e))) rfl
    refine wpAny_handleBy_cons (fits fe hg B hs4 fun I4 s4 k4 hs5 => ?_) (by intro q; cases q)
    refine codeAny_handlers_suite_as (flight hs5 fun s5 hs6 => ?_)
    refine sto_run (d := .val (.ref e)) fe hs6 (.val _) (hk e dx T) fun R6 s6 hs7 q6 => ?_
    refine (q6.run I4 H s6 hs7).andE (fun y s z => z.no) fun I7 R7 fl f s7 k7 hs8 r7 ⟨vs, hv⟩ => ?_
    refine gP fun Gq hGq => ?_
    obtain ⟨vs0', R40, hp0, hu0, -⟩ := hv none
    refine hGq ?_
    clear hGq
    have hs9 := hs8.around (A' := A) rfl
    refine gP fun Gq hGq => ?_
    obtain ⟨o, ho, m, hm, hl⟩ := hs9.get (hu0.has.app H)
    refine hGq ?_
    clear hGq
    have N : s7.heap.Ns env.locals m := by rw [fe.loc]; exact ns_of ⟨o, ho, hm⟩
    have hin : nm ∈ ns := (LocPut.at (u := none) hp0).1
    show wpAny c.M A (do bindName env nm .none; unbindBehindTheSuite env nm hpos) _ _ s7
    refine wpAny_nameGoes_keeps (fe.locals nm hin) N (by rw [fe.kind]; rfl) fun h' v hn' hk' => ?_
    rw [fe.loc] at hn' hk'
    refine gP fun Gq hGq => ?_
    obtain ⟨vs', R4, hp, hu, q⟩ := hv (v.map .val)
    refine hGq ?_
    clear hGq
    obtain ⟨o', ho', hm'⟩ := isNs_of hn'
    exact ⟨I7, R4, fl, (k1.trans k4).trans k7, hs9.upd (P' := .loc ns vs') (hu.app H) (SameBut.at hk') ⟨o', ho', _, hm', (LocPut.at hp).2 fe.nd hl⟩ _ (fun _ => rfl), r7, q⟩
theorem raise_at {C : Addr} {d : D} {Rr : Led} {Xr : Addr → D → Led → Prop} (B : Bad C) (rm : Rm A (n + 1)) (hx : Xr C d Rr) : Cal c A (.ref C) [d] Rr (Rais A Xr) Xr :=
  ca_bad B (by have := rm.depth; omega) fun e dx => ⟨e, C, dx, d, Rr, rfl, rfl, B, .inl rm.handled, hx⟩
theorem raise_in {C : Addr} {d : D} {Rr : Led} {h0 : Addr} {dx0 tb0 : Option Addr} {Xr : Addr → D → Led → Prop} (B : Bad C) (rm : Rm A (n + 1)) (hne : C ≠ 52) (hm : Has (h0, .exc 52 dx0 tb0) Rr) (hx : Xr C d Rr) : Cal c (A.mark (some (.ref h0))) (.ref C) [d] Rr (Rais (A.mark (some (.ref h0))) Xr) Xr :=
  ca_bad B (by have := rm.depth; show A.depth + 1 < _; lia) fun e dx => ⟨e, C, dx, d, Rr, rfl, rfl, B, .inr ⟨h0, dx0, tb0, rfl, hne, hm⟩, hx⟩
end
end Mine
end
section
open PySem PySem.W PySem.Calls PyProof.Rows PySem.Builtin
set_option Elab.async false
set_option tactic.hygienic false
set_option maxRecDepth 100000
set_option maxHeartbeats 1000000
set_option linter.unusedVariables false
set_option linter.unusedSectionVars false
namespace Mine
section
variable {c : Cx} {A : Around} {env : Env} {L : Addr} {sc : Scope} {ns : List Str} {vs vs' : List (Option D)} {gl : List (Str × D)} {R R0 R1 R2 R' : Led} {Q : D → Led → Prop} {X : Addr → D → Led → Prop} {a : Addr} {n : Nat} {d : D}
theorem Reps.flat {I : Heap} {vs : List Value} {ds : List D} (h : Reps I vs ds) : ∀ k, Reps I (List.replicate k vs).flatten (List.replicate k ds).flatten
  | 0 => .nil
  | k + 1 => by rw [List.replicate_succ, List.replicate_succ, List.flatten_cons, List.flatten_cons]; exact h.append (Reps.flat h k)
theorem bi_mulL {ds : List D} {x : Int} (l : LV R d ds) (h0 : 0 ≤ x) (hhi : x < 100000) (hz : ds.length ≤ 100) (h : NewL Q (List.replicate x.toNat ds).flatten R) : Bin c A .Mult d (.int x) R Q X := .mk fun I H s _ _ hst r1 r2 => by
  refine gP fun Gq hGq => ?_
  obtain ⟨a, vs, rfl, hl, y, hsz⟩ := l.at hst r1
  refine hGq ?_
  clear hGq
  obtain ⟨u, rfl⟩ := Rep.iI r2
  refine gP fun Gq hGq => ?_
  obtain ⟨⟨cls, dd, data, sl⟩, ho, hcl, k, hd⟩ := id hl
  refine hGq ?_
  clear hGq
  simp only at hcl hd
  subst hcl hd
  have hm : vs.size * x.toNat ≤ 100 * 100000 := Nat.mul_le_mul (by lia) (by lia)
  refine wpAny_binaryOp_repeat_ref (T := "list") (U := "int") (by decide) ⟨_, ho, rfl⟩ (fun s' => typeIs_int s' x u) noFill_list_mul F.fills_int_mul F.slot_int_rmul repeat_list F.slot_int_index.lookup
    (call_meets F.slot_int_rmul (typeIs_int s x u) F.entry_int_rmul (F.args_int_rmul_2 _ _) (lm_int_rmul_list_any x u a vs k dd sl)
      ⟨ho, rfl, ⟨_, ho, rfl⟩, call_meets F.slot_list_mul ⟨_, ho, rfl⟩ F.entry_list_mul (F.args_list_mul_2 _ _)
        (lm_list_mul_any a vs k dd sl x u (by simp [Builtin.List.listFitsIndex]; lia) (by lia) (by simp [Builtin.List.listTooLong, sizeLine]; lia))
        ⟨ho, ?_⟩⟩)
  have e : List.foldl (fun x1 x2 => x1 ++ x2) #[] (List.replicate (if vs.isEmpty = true then 0 else x.toNat) vs) = (List.replicate x.toNat vs.toList).flatten.toArray := by
    exact listMul_foldl_if vs x.toNat
  rw [e]
  exact NewL.at hst (y.flat _) h s.toks
theorem ca_setdefault {kvs : List (Int × D)} {k : Int} (u : Upd a (.dictI kvs) (.dictI (match look kvs k with | some _ => kvs | none => put kvs k d)) R R') (hz : kvs.length ≤ 1000) (h : ∀ v, Q v R') : Cal c A (.builtin "dict.setdefault") [.val (.ref a), .int k, d] R Q X := .mk fun I H s _ hst r => by
  obtain ⟨_, _, rfl, r1, rs⟩ := Reps.consI r; obtain ⟨_, _, rfl, r2, rs⟩ := Reps.consI rs; obtain ⟨_, _, rfl, r3, rs⟩ := Reps.consI rs
  obtain rfl := Reps.nilI rs; (first | obtain ⟨_, rfl⟩ := Rep.iI r1 | obtain ⟨_, rfl⟩ := Rep.sI r1 | obtain rfl := Rep.vI r1 | obtain rfl := Rep.bI r1 | obtain rfl := Rep.nI r1 | cases r1); obtain ⟨t, rfl⟩ := Rep.iI r2
  obtain ⟨vs, h1, h2⟩ := KK.at (kk := kI) hst (u.has.app H)
  refine call_meetsIn PySem.F.slot_dict_setdefault h1.typeIs PySem.F.entry_dict_setdefault (PySem.F.args_dict_setdefault_3 _ _ _) (kt_meets_setdefault (kI.knd c.w) a (kI.isk (I := I) (k := k) (.int k t)) (hst.noSys (u.has.app H)) _)
    ⟨vs, h1, by rw [h2.length, sizeLine_is]; lia, fun v hv => ?_, fun hn h' h3 h4 => ?_⟩
  · have hl := h2.look k
    cases q : look kvs k with
    | none => rw [hl.2 q] at hv; cases hv
    | some d0 =>
      obtain ⟨v0, hv0, r0⟩ := hl.1 d0 q
      rw [hv0] at hv; cases hv
      rw [q] at u
      have z := KK.set (kk := kI) (kvs' := kvs) (h' := s.heap) hst (u.app H) h1 (.refl ..) h2 (s.toks + 1)
      exact ⟨I, R', d0, Sub.refl _, z, r0, h _⟩
  · have hl := h2.look k
    cases q : look kvs k with
    | some d0 => obtain ⟨v0, hv0, _⟩ := hl.1 d0 q; rw [hv0] at hn; cases hn
    | none =>
      rw [q] at u
      exact ⟨I, R', d, Sub.refl _, KK.set (kk := kI) hst (u.app H) h3 h4 (h2.put r3) _, r3, h _⟩

theorem bytes_slot_bytes : typeLookup (.type "bytes") "__bytes__" = pure (some (.builtin "bytes.__bytes__")) := by rw [typeLookup_type, builtinLookup_eq_fast]; kernel_rfl
theorem bytes_again {w : World} {s : Shared} {b : Array UInt8} {t : Tok} {Q₁ : Value → Shared → Prop} {E : Value → Shared → Prop} (h : Q₁ (.bytes b t) s) :
    codeAny (model prog w) A (.call (.builtin "bytes.__new__") ⟨[.type "bytes", .bytes b t], []⟩) (wants Q₁ E) s := by
  refine codeAny_of_tree ?_
  show wpAny _ A.in1 (do checkBuiltinCall "bytes.__new__" ⟨[.type "bytes", .bytes b t], []⟩; again (.builtin "bytes.__new__" ⟨[.type "bytes", .bytes b t], []⟩)) _ _ s
  refine wpAny_bind (wpAny_of_eq (F.bm_newCall _) (wpAny_pure ⟨plainId_quiet F.bm_plain _, codeAny_builtin F.bm_entry ?_⟩))
  rw [Around.under_plainId F.bm_plain _]
  unfold Builtin.«bytes.__new__»
  refine wpAny_bind (wpAny_of_eq (a := true) rfl ?_)
  refine bm_if_false rfl ?_
  refine wpAny_bind (wpAny_of_eq F.bm_sub ?_)
  refine bm_if_false rfl ?_
  refine wpAny_bind (wpAny_of_eq (F.bm_bind _) ?_)
  refine wpAny_bind (wpAny_of_eq (a := ()) rfl ?_)
  refine wpAny_bind (wpAny_of_eq (a := ()) rfl ?_)
  refine bm_if_false rfl ?_
  refine wpAny_bind (wpAny_specialOf (typeIs_bytes s b t) bytes_slot_bytes ?_)
  refine wpAny_bind (wpAny_rule ?_)
  refine wpAny_bind (wpAny_typeOf (typeIs_bytes s b t) ?_)
  refine bm_if_true (by rfl) ?_
  exact wpAny_pure h
theorem ca_bytesB {l : List Nat} (h : Q (.bytes l) R) : Cal c A (.type "bytes") [.bytes l] R Q X := .mk fun I H s _ hst r => by
  refine gP fun Gq hGq => ?_
  obtain ⟨_, _, rfl, r1, rs⟩ := Reps.consI r
  refine hGq ?_
  clear hGq
  obtain rfl := Reps.nilI rs
  refine gP fun Gq hGq => ?_
  obtain ⟨b, t, rfl, e1⟩ := Rep.yI r1
  refine hGq ?_
  clear hGq
  refine callType_codes (Q₁ := fun obj s₁ => obj = .bytes b t ∧ s₁ = s) F.bm_called (F.bm_typeCall _) F.entry_object_init (bytes_again ⟨rfl, rfl⟩) fun obj s₁ h₁ => ?_
  obtain ⟨rfl, rfl⟩ := h₁
  exact ⟨typeIs_bytes _ _ _, F.args_object_init_2 _ _, object_init_meets F.bm_called.init.lookup F.bm_called.made (by decide) prog c.w A.in1 _ s₁ ⟨typeIs_bytes _ _ _, rfl, ⟨I, R, _, Sub.refl _, hst, .bytes _ _ _ e1, h⟩⟩⟩

theorem collectD {w : World} {s : Shared} {κ : Type} [DecidableEq κ] {knd : KeyKind prog w κ} {d : Addr} {kvs : List (κ × Value)} {Rr : List Value → Shared → Prop} {E : Value → Shared → Prop} (hh : A.handled = none) (lo : (d == sysModules) = false) (hm : s.heap.DictOf knd d kvs) (hz : kvs.length ≤ 1000)
    (h : ∀ (h' : Heap) (tk : Nat) (vs : List Value), (∀ b o, s.heap.get? b = some o → h'.get? b = some o) → vs.length = kvs.length → (∀ (j : Nat) (v : Value), vs[j]? = some v → ∃ k x, kvs[j]? = some (k, x) ∧ knd.is k v = true) → Rr vs { s with heap := h', toks := tk }) :
    wpAny (model prog w) A (collect (.ref d)) Rr E s := by
  refine gP fun Gq hGq => ?_
  obtain ⟨o, es, ep, ho, hc, hdat, hk, hp, hn⟩ := hm
  refine hGq ?_
  clear hGq
  have hat : s.heap.DictAt knd d kvs ep := ⟨o, es, ho, hc, hdat, hk, hp, hn⟩
  have hd : d < s.heap.objs.size := Heap.lt_size ho
  unfold collect
  refine wpAny_bind (wpAny_runValue (codeAny_builtin entry_proto_collect' ?_))
  rw [Around.under_plainId PySem.F.plain_proto_collect _]
  show wpAny _ A.in1 (newList [] >>= fun l => again (.builtin "list.__iadd__" ⟨[l, .ref d], []⟩)) _ _ s
  refine wpAny_bind (wpAny_newObj_type ?_)
  refine wpAny_pure ⟨plainId_quiet PySem.F.plain_list_iadd _, codeAny_builtin entry_list_iadd' ?_⟩
  rw [Around.under_plainId PySem.F.plain_list_iadd _]
  have hS₁ : (s.heap.push { cls := .type "list", data := .seq ([] : List Value).toArray }).get? s.heap.objs.size = some { cls := .type "list", data := .seq #[] } := Heap.get?_push_size _ rfl
  show wpAny _ A.in1 (Builtin.List.listExtendWith (.ref s.heap.objs.size) (.ref d) (.ref s.heap.objs.size)) _ _ _
  have key := kdl_extend (A := A) (s := { s with heap := s.heap.push { cls := .type "list", data := .seq ([] : List Value).toArray } })
    (R := fun (q : Result) (s' : Shared) => ∃ (h' : Heap) (tk : Nat) (acc' : Array Value) (c' : Nat), q = .ok (.ret (.ref s.heap.objs.size)) ∧ s' = { s with heap := h', toks := tk } ∧
      (∀ b o, s.heap.get? b = some o → h'.get? b = some o) ∧ h'.get? s.heap.objs.size = some { cls := .type "list", dict := none, data := .seq acc' c', slots := #[] } ∧ ItemsOf (fun i v => ∃ k x, kvs[i]? = some (k, x) ∧ knd.is k v = true) acc' kvs.length)
    (kdl_dict (knd := knd) (kvs := kvs) (ep := ep) lo) hh (hat.push _) s.heap.objs.size (Nat.ne_of_gt hd) (Nat.ne_of_gt hd) (.ref s.heap.objs.size) 0 hS₁
    (fun h' tk acc' c' hk hS' hacc => ⟨h', tk, acc', c', rfl, rfl, fun b o e => hk b o (Nat.ne_of_lt (Heap.lt_size e)) (Heap.get?_push_of_some _ e), hS', hacc⟩) (by rw [sizeLine_is]; lia)
  refine wpAny_mono key (fun fin s' x => ?_) fun e s' x => ?_
  · cases fin with
    | done f =>
      refine gP fun Gq hGq => ?_
      obtain ⟨h', tk, acc', c', e, rfl, hk, hS', hacc⟩ := x
      refine hGq ?_
      clear hGq
      cases e
      show wpAny _ A (load s.heap.objs.size >>= _) _ _ _
      refine wpAny_bind (wpAny_load hS' ?_)
      refine wpAny_pure ?_
      exact h h' tk acc'.toList hk (by rw [Array.length_toList]; exact hacc.1) fun j v e => hacc.2 j v (by rw [← Array.getElem?_toList]; exact e)
    | again c₁ =>
      refine ⟨x.1, codeAny_mono x.2 fun q s₂ y => ?_⟩
      refine gP fun Gq hGq => ?_
      obtain ⟨h', tk, acc', c', rfl, rfl, hk, hS', hacc⟩ := y
      refine hGq ?_
      clear hGq
      show wpAny _ A (load s.heap.objs.size >>= _) _ _ _
      refine wpAny_bind (wpAny_load hS' ?_)
      refine wpAny_pure ?_
      exact h h' tk acc'.toList hk (by rw [Array.length_toList]; exact hacc.1) fun j v e => hacc.2 j v (by rw [← Array.getElem?_toList]; exact e)
  · refine gP fun Gq hGq => ?_
    obtain ⟨_, _, _, _, e, _⟩ := x
    refine hGq ?_
    clear hGq
    cases e
theorem is_int {w : World} {k : Int} {v : Value} (h : (intKind prog w).is k v = true) : ∃ t, v = .int k t := by
  cases v with
  | int i t =>
    have e : i = k := by simpa using (show (i == k) = true from h)
    exact ⟨t, by rw [e]⟩
  | _ => exact absurd h (by intro q; cases q)
theorem ints_of {w : World} {vs : List Value} {kvs : List (Int × Value)} (hl : vs.length = kvs.length) (h : ∀ (j : Nat) (v : Value), vs[j]? = some v → ∃ k x, kvs[j]? = some (k, x) ∧ (intKind prog w).is k v = true) : IntsAre vs (kvs.map (·.1)) := by
  induction vs generalizing kvs with
  | nil =>
    cases kvs with
    | nil => exact .nil
    | cons => cases hl
  | cons v vs ih =>
    cases kvs with
    | nil => cases hl
    | cons p kvs =>
      refine gP fun Gq hGq => ?_
      obtain ⟨k, x, e, hk⟩ := h 0 v rfl
      refine hGq ?_
      clear hGq
      obtain rfl := Option.some.inj e
      obtain ⟨t, rfl⟩ := is_int hk
      exact .cons _ _ (ih (Nat.succ.inj hl) fun j v' e => h (j + 1) v' e)
theorem ints_rep {I : Heap} {vs : List Value} {ns : List Int} (h : IntsAre vs ns) : Reps I vs (ns.map .int) := by
  induction h with
  | nil => exact .nil
  | cons n t _ ih => exact .cons (.int _ _) ih
theorem ca_sortedD {kvs : List (Int × D)} (hh : A.handled = none) (m : Has (a, .dictI kvs) R) (hz : kvs.length < 64) (h : ∀ ns' : List Int, ns'.Perm (kvs.map (·.1)) → ns'.Pairwise (· ≤ ·) → NewL Q (ns'.map .int) R) : Cal c A (.builtin "sorted") [.val (.ref a)] R Q X := .mk fun I H s _ hst r => by
  refine gP fun Gq hGq => ?_
  obtain ⟨_, _, rfl, r1, rs⟩ := Reps.consI r
  refine hGq ?_
  clear hGq
  obtain rfl := Reps.nilI rs; (first | obtain ⟨_, rfl⟩ := Rep.iI r1 | obtain ⟨_, rfl⟩ := Rep.sI r1 | obtain rfl := Rep.vI r1 | obtain rfl := Rep.bI r1 | obtain rfl := Rep.nI r1 | cases r1)
  obtain ⟨vs0, h1, h2⟩ := KK.at (kk := kI) hst (m.app H)
  refine call_function_entry kind_sorted plain_sorted entry_sorted (args_sorted1 _) ?_
  unfold Builtin.«sorted»
  refine wpAny_bind (m := checkCount "sorted" 1 1 _) (wpAny_pure ?_)
  refine wpAny_bind (collectD (A := A.in1) (knd := intKind prog c.w) hh (hst.noSys (m.app H)) h1 (by rw [h2.length]; lia) fun h' tk vs hk hl hG => ?_)
  have hI := ints_of hl hG
  have hvl : vs.length < 64 := by rw [hl, h2.length]; exact hz
  refine wpAny_bind (wpAny_newList ?_)
  have hoL : (h'.push (seqObj "list" vs.toArray 0)).get? h'.objs.size = some (seqObj "list" vs.toArray 0) := Heap.get?_push_size _ rfl
  show wpAny _ _ _ _ _ { s with heap := h'.push (seqObj "list" vs.toArray 0), toks := tk }
  refine wpAny_bind (wpAny_holding (wpAny_call_entry slot_list_sort ⟨_, hoL, rfl⟩ entry_list_sort (list_sort_tree hoL hI hvl fun out ns' a1 a2 a3 => ⟨_, rfl, ?_⟩) (args_list_sort _)))
  refine wpAny_pure ⟨_, rfl, ?_⟩
  obtain ⟨e, he⟩ := sortedHeap_at (out := out) hoL
  have hnone : s.heap.get? h'.objs.size = none := by
    cases q : s.heap.get? h'.objs.size with
    | none => rfl
    | some o => have := hk _ _ q; rw [none_at_size] at this; cases this
  have keep : ∀ b o, s.heap.get? b = some o → (sortedHeap (h'.push (seqObj "list" vs.toArray 0)) h'.objs.size vs out).get? b = some o := fun b o e => by
    have e1 := hk b o e
    have lt := Heap.lt_size e1
    rw [sortedHeap_old (Nat.ne_of_lt lt) (by rw [size_push']; exact Nat.lt_succ_of_lt lt)]
    exact Heap.get?_push_of_some _ e1
  have hs1 := hst.extNew (a := h'.objs.size) (h' := sortedHeap (h'.push (seqObj "list" vs.toArray 0)) h'.objs.size vs out) (P := .list (ns'.map .int)) keep hnone ⟨_, he, out, e, rfl, ints_rep a1⟩ tk
  exact NewL.of hs1 (h ns' (by rw [← h2.keys]; exact a2) a3)
end
end Mine
end
section
open PySem PySem.W PySem.Calls PyProof.Rows PySem.Builtin
set_option Elab.async false
set_option tactic.hygienic false
set_option maxRecDepth 100000
set_option maxHeartbeats 1000000
set_option linter.unusedVariables false
set_option linter.unusedSectionVars false
namespace Mine
section
variable {c : Cx} {A : Around} {env : Env} {L : Addr} {sc : Scope} {ns : List Str} {vs vs' : List (Option D)} {gl : List (Str × D)} {R R0 R1 R2 R' : Led} {Q : D → Led → Prop} {X : Addr → D → Led → Prop} {a : Addr} {n : Nat} {d : D}
theorem list_no_keys : typeLookup (.type "list") "keys" = pure none := by rw [typeLookup_type, builtinLookup_eq_fast]; kernel_rfl
theorem nokeys {w : World} {s : Shared} {xs : Array Value} {k : Nat} {E : Value → Shared → Prop} {Z : Option Value → Shared → Prop} (hx : s.heap.get? a = some { cls := .type "list", data := .seq xs k }) (hA : A.handled = none)
    (h : ∀ h' tk, (∀ b o, s.heap.get? b = some o → h'.get? b = some o) → Z none { s with heap := h', toks := tk }) : wpAny (model prog w) A (getAttr? (.ref a) "keys") Z E s := by
  refine gP fun Gq hGq => ?_
  obtain ⟨hp, g, dr, tk, os⟩ := s
  refine hGq ?_
  clear hGq
  have hT : ∀ tk', (⟨hp, g, dr, tk', os⟩ : Shared).TypeIs (.ref a) "list" := fun _ => ⟨_, hx, rfl⟩
  have f1 := sub_AttributeError
  have f3 := F.slot_list_getattribute.lookup
  have f4 := F.slot_list_getattribute.bind (.ref a)
  have f5 := am_list_getattr_none
  have hmiss := list_no_keys
  unfold getAttr? getAttrBy? getAttrBy
  repeat (any_goals (first | assumption | exact hT _ | ((with_reducible show wpAny _ _ (call (Value.builtin "list.__getattribute__") _ _) _ _ _); refine call_meets F.slot_list_getattribute (hT _) am_entry_list_getattribute (F.args_list_getattribute_2 _ _) (meets_getattribute_miss_list a xs k #[] "keys" _ hmiss (by decide +kernel) (by decide +kernel)) ⟨hx, hA, fun h' tk' e hx' => ?_⟩) | wp_step))
  obtain ⟨t', u', he⟩ := hx'.there
  show wpAny _ _ (getattributeRaised _ _ _ _ _ _ _) _ _ _
  unfold getattributeRaised
  repeat (any_goals (first | assumption | wp_step))
  exact h _ _ hx'.keeps

theorem entry_dloop : entryFor table "dict.update.loop" = some Builtin.«dict.update.loop» := entryFor_of_tree (by kernel_rfl)
theorem plain_dloop : plainId "dict.update.loop" = true := by decide +kernel
abbrev prI (p : Int × D) : D := .tup [.int p.1, p.2]
theorem two_items {I : Heap} {vs : List Value} {k : Int} {x : D} (h : Reps I vs [.int k, x]) : ∃ t v, vs = [.int k t, v] ∧ Rep I v x := by
  cases h with | cons h1 h2 => cases h2 with | cons h2 h3 => cases h3; cases h1; exact ⟨_, _, rfl, h2⟩
theorem dict_loop {Rr : Result → Shared → Prop} {dt it : Addr} {pairs : List (Int × D)} (hh : A.handled = none) (hlen : pairs.length ≤ 1000) : ∀ (m i : Nat) (kvs : List (Int × D)) (I : Heap) (s : Shared) (t : Tok), pairs.length - i = m → i ≤ pairs.length → kvs.length ≤ i →
    St c A I ((dt, .dictI kvs) :: (it, .it (.lst (pairs.map prI)) i) :: R) s →
    (∀ I' s', Sub I I' → St c A I' ((dt, .dictI (putAll kvs (pairs.drop i))) :: R) s' → Rr (.ok (.ret .none)) s') → codeAny c.M A (.builtin "dict.update.loop" ⟨[.ref dt, .ref it, .int i t, .none], []⟩) Rr s := by
  intro m
  induction m with
  | zero =>
    intro i kvs I s t hm hi hk hs h
    obtain rfl : i = pairs.length := by lia
    refine codeAny_builtin entry_dloop ?_
    rw [Around.under_plainId plain_dloop _]
    show wpAny _ A.in1 (pyNext (.ref it) >>= _) _ _ s
    have hs1 := (hs.perm (List.Perm.swap _ _ _)).around (A' := A.in1) rfl
    refine wpAny_bind (next_end hh hs1 .lst (by rw [List.length_map]; exact Nat.le_refl _) fun s4 hs4 => ?_)
    show wpAny _ _ (Builtin.Dict.addKeywords dt [] >>= _) _ _ _
    refine wpAny_bind (wpAny_pure (wpAny_pure (h I s4 (Sub.refl _) ?_)))
    rw [List.drop_length]
    exact hs4.around rfl
  | succ m ih =>
    intro i kvs I s t hm hi hk hs h
    have lt : i < pairs.length := by lia
    refine codeAny_builtin entry_dloop ?_
    rw [Around.under_plainId plain_dloop _]
    show wpAny _ A.in1 (pyNext (.ref it) >>= _) _ _ s
    have hs1 := hs.around (A' := A.in1) rfl
    refine wpAny_bind (next_ok hs1 (R' := (dt, .dictI kvs) :: (it, .it (.lst (pairs.map prI)) (i + 1)) :: R) (.tail .head) .lst (x := prI pairs[i]) (by rw [List.getElem?_map, List.getElem?_eq_getElem lt]; rfl) fun v s4 r4 hs4 => ?_)
    cases r4 with | tup a vs ds ht hr =>
    refine gP fun Gq hGq => ?_
    obtain ⟨t1, v1, hv, r1⟩ := two_items hr
    refine hGq ?_
    clear hGq
    refine gP fun Gq hGq => ?_
    obtain ⟨o, ho, hc, n, hd⟩ := IsTup.sub hs4.up ht
    refine hGq ?_
    clear hGq
    dsimp only
    refine wpAny_bind (wpAny_holding (wpAny_bind (wpAny_tryCatch ?_)))
    unfold Builtin.Dict.pairItems
    refine wpAny_bind (wpAny_typeOf (T := "tuple") ⟨o, ho, hc⟩ ?_)
    rw [if_pos (by decide)]
    refine wpAny_bind (wpAny_seqItems ho hd (wpAny_pure ?_))
    show wpAny _ _ (match vs.toList with | [k, v] => _ | l => _) _ _ _
    rw [hv]
    obtain ⟨kv0, h1, h2⟩ := KK.at (kk := kI) hs4 .head
    refine (wpAny_holding (wpAny_dictSet_pairs (knd := intKind prog c.w) (k := pairs[i].1) (kI.isk (I := I) (.int _ _)) h1 (fun h' h3 h4 => ?_) (by rw [h2.length, sizeLine_is]; lia)))
    have hs5 : St c A I ((dt, .dictI (put kvs pairs[i].1 pairs[i].2)) :: (it, .it (.lst (pairs.map prI)) (i + 1)) :: R) { s4 with heap := h', toks := s4.toks + 1 } :=
      (KK.set (kk := kI) (kvs' := put kvs pairs[i].1 pairs[i].2) hs4 .head h3 h4 (h2.put r1) _).around rfl
    refine wpAny_pure ⟨plainId_quiet plain_dloop _, ?_⟩
    have := ih (i + 1) (put kvs pairs[i].1 pairs[i].2) I _ 0 (by lia) lt (by have := put_length kvs pairs[i].1 pairs[i].2; lia) hs5 fun I' s' k' hs' => h I' s' k' (by rw [List.drop_eq_getElem_cons lt]; exact hs')
    exact this

theorem ca_dictL {l : Addr} {pairs : List (Int × D)} (hh : A.handled = none) (hlen : pairs.length ≤ 1000) (m : Rem (l, .list (pairs.map prI)) R R1) (h : ∀ dt, Q (.val (.ref dt)) ((dt, .dictI (putAll [] pairs)) :: R1)) : Cal c A (.type "dict") [.val (.ref l)] R Q X := .mk fun I H s _ hst r => by
  refine gP fun Gq hGq => ?_
  obtain ⟨_, _, rfl, r1, rs⟩ := Reps.consI r
  refine hGq ?_
  clear hGq
  obtain rfl := Reps.nilI rs; (first | obtain ⟨_, rfl⟩ := Rep.iI r1 | obtain ⟨_, rfl⟩ := Rep.sI r1 | obtain rfl := Rep.vI r1 | obtain rfl := Rep.bI r1 | obtain rfl := Rep.nI r1 | cases r1)
  refine callType_codes (Q₁ := fun obj s₁ => obj = .ref s.heap.objs.size ∧ s₁ = { s with heap := s.heap.push { cls := .type "dict", data := .dict #[] } }) F.kt_called_dict (F.kt_typeCall_dict_1 _) F.entry_dict_init (kt_code_dict_new _ ⟨rfl, rfl⟩) ?_
  rintro obj s₁ ⟨rfl, rfl⟩
  have hs0 : St c A I ((l, .list (pairs.map prI)) :: (R1 ++ H)) s := hst.perm (m.app H).perm
  have hs1 : St c A I ((s.heap.objs.size, .dictI []) :: (l, .list (pairs.map prI)) :: (R1 ++ H)) { s with heap := s.heap.push { cls := .type "dict", data := .dict #[] }, toks := s.toks } :=
    hs0.push (P := .dictI []) (kI.meets.mpr ⟨[], ⟨#[], 0, ⟨rfl, rfl, rfl⟩, rfl, (fun e he => by simp at he), .nil, List.nodup_nil⟩, .nil⟩) s.toks
  have hnew : (s.heap.push { cls := .type "dict", data := .dict #[] }).DictOf (intKind prog c.w) s.heap.objs.size [] := Heap.DictOf.new s.heap
  refine ⟨hnew.typeIs, F.args_dict_init_2 _ _, ?_⟩
  unfold Builtin.«dict.__init__»
  refine wpAny_bind ?_
  unfold Builtin.Dict.selfAndRest
  refine wpAny_bind (wpAny_notOrdered_dict hnew.typeIs ?_)
  show wpAny _ _ (pure (s.heap.objs.size, [Value.ref l])) _ _ _
  refine wpAny_pure ?_
  show wpAny _ _ (Builtin.Dict.updateFrom "dict.__init__" s.heap.objs.size (.ref l) [] .none) _ _ _
  unfold Builtin.Dict.updateFrom
  refine gP fun Gq hGq => ?_
  obtain ⟨o, ho, vs, n, rfl, y⟩ := hs1.get (a := l) (P := .list (pairs.map prI)) (.tail .head)
  refine hGq ?_
  clear hGq
  refine wpAny_bind (wpAny_typeOf (T := "list") ⟨_, ho, rfl⟩ ?_)
  rw [if_pos (by decide)]
  refine wpAny_bind (nokeys ho hh fun h' tk k => ?_)
  have hs2 : St c A I ((l, .list (pairs.map prI)) :: (s.heap.objs.size, .dictI []) :: (R1 ++ H)) { s with heap := h', toks := tk } := (hs1.ext k tk).perm (.swap _ _ _)
  refine gP fun Gq hGq => ?_
  obtain ⟨I', k', hs3, o2, ho2, vs2, n2, rfl, y2⟩ := hs2.freeze rfl
  refine hGq ?_
  clear hGq
  rw [if_pos (by rfl)]
  refine wpAny_bind (wpAny_rule ?_)
  refine wpAny_bind (iter_ok (hs3.around (A' := A.in1.in1) rfl) (.lst l vs2 _ ⟨_, ho2, rfl, n2, rfl⟩ y2) .lst fun it s3 hs4 => ?_)
  have hs5 := (hs4.perm (.swap _ _ _)).around (A' := A.in1) rfl
  refine wpAny_pure ⟨plainId_quiet plain_dloop _, ?_⟩
  exact dict_loop (A := A.in1) hh hlen _ 0 [] I' s3 _ rfl (Nat.zero_le _) (Nat.le_refl _) hs5 fun I2 s' k2 hs6 => ⟨rfl, ⟨I2, (s.heap.objs.size, .dictI (putAll [] pairs)) :: R1, _, k'.trans k2, hs6.around rfl, .val _, h _⟩⟩
theorem gm_rm_get {x dx : Addr} {nms : List Str} {nvs : List (Option D)} (m1 : Has (x, .inst 229 dx) R) (m2 : Has (dx, .ats nms nvs) R) (hn : ("get" : Str) ∉ nms) : GetM c (.val (.ref x)) "get" R (.ref 207) := gm_inst m1 m2 meth_rm_get hn
theorem gm_rm_put {x dx : Addr} {nms : List Str} {nvs : List (Option D)} (m1 : Has (x, .inst 229 dx) R) (m2 : Has (dx, .ats nms nvs) R) (hn : ("put" : Str) ∉ nms) : GetM c (.val (.ref x)) "put" R (.ref 214) := gm_inst m1 m2 meth_rm_put hn
theorem gm_rm_ranges {x dx : Addr} {nms : List Str} {nvs : List (Option D)} (m1 : Has (x, .inst 229 dx) R) (m2 : Has (dx, .ats nms nvs) R) (hn : ("ranges" : Str) ∉ nms) : GetM c (.val (.ref x)) "ranges" R (.ref 219) := gm_inst m1 m2 meth_rm_ranges hn
theorem gm_data_put {x dx : Addr} {nms : List Str} {nvs : List (Option D)} (m1 : Has (x, .inst 285 dx) R) (m2 : Has (dx, .ats nms nvs) R) (hn : ("put" : Str) ∉ nms) : GetM c (.val (.ref x)) "put" R (.ref 268) := gm_inst m1 m2 meth_data_put hn
theorem gm_data_get {x dx : Addr} {nms : List Str} {nvs : List (Option D)} (m1 : Has (x, .inst 285 dx) R) (m2 : Has (dx, .ats nms nvs) R) (hn : ("get" : Str) ∉ nms) : GetM c (.val (.ref x)) "get" R (.ref 275) := gm_inst m1 m2 meth_data_get hn
theorem gm_data_map_of {x dx : Addr} {nms : List Str} {nvs : List (Option D)} (m1 : Has (x, .inst 285 dx) R) (m2 : Has (dx, .ats nms nvs) R) (hn : ("map_of" : Str) ∉ nms) : GetM c (.val (.ref x)) "map_of" R (.ref 282) := gm_inst m1 m2 meth_data_map_of hn
end
end Mine
end
section
open PySem PySem.W PySem.Calls PyProof.Rows
set_option maxRecDepth 100000
set_option maxHeartbeats 4000000
set_option linter.unusedVariables false
set_option tactic.hygienic false
namespace Mine
local macro_rules | `(tactic| walk_at $s:str) => wGo s.getString
local macro_rules | `(tactic| walk_at "go") => `(tactic| repeat walk_at "st")
local macro_rules | `(tactic| walk_at "has") => `(tactic| first | walk_at "h" | walk_at "u" | walk_at "r" | walk_at "l" | walk_at "ls" | walk_at "g" | walk_at "mem" | walk_at "tk" | walk_at "rc")
local macro_rules | `(tactic| walk_at "rz") => `(tactic| ((with_reducible refine sx_raise ?_); (walk_at "go"); (with_reducible refine raise_at (by first | exact bad52 | exact bad64) (by assumption) ?_); (walk_at "rz3")))
section
variable {c : Cx} {A : Around} {env : Env} {L : Addr} {n : Nat} {R R0 R1 R2 : Led} {Q : D → Led → Prop} {X : Addr → D → Led → Prop}
noncomputable def hexVal (o : Int) : D := if 48 ≤ o ∧ o ≤ 57 then .int (o - 48) else if 65 ≤ o ∧ o ≤ 70 then .int (o - 55) else if 97 ≤ o ∧ o ≤ 102 then .int (o - 87) else .none
theorem f_hex_value {o : Int} (rm : Rm A (n + 1)) (h : Q (hexVal o) R) : Cal c A (.ref 97) [.int o] R Q X := by
  refine CalC.cal (call_hex_value rm fun env A' L fe fn rm' hfr => ?_)
  conv => arg 4; whnf
  repeat' first | walk_at "st" | walk_at "if" | ((with_reducible refine And.intro (fun hb => ?_) (fun hb => ?_)) <;> (simp only [decide_eq_true_eq, decide_eq_false_iff_not, Bool.not_eq_true', Bool.not_eq_false', beq_iff_eq, bne_iff_ne, beq_eq_false_iff_ne, bne_eq_false_iff_eq, ne_eq] at hb))
  all_goals (simp only [hexVal] at h; repeat' split at h) <;> first | walk_at "out" | (exfalso; lia)
/-- where the number stands among rising ones -/
noncomputable def pbh (starts : List Int) (x : Int) : Int := ((starts.countP (· ≤ x) : Nat) : Int) - 1
theorem countP_split {starts : List Int} {x : Int} {k : Nat} (hk : k ≤ starts.length) (h1 : ∀ i y, starts[i]? = some y → i < k → y ≤ x) (h2 : ∀ i y, starts[i]? = some y → k ≤ i → x < y) : starts.countP (· ≤ x) = k := by
  induction starts generalizing k with
  | nil => simp at hk; simp [hk]
  | cons a r ih =>
    rw [List.countP_cons]
    cases k with
    | zero =>
      have h3 := h2 0 a rfl (Nat.le_refl _)
      rw [ih (k := 0) (Nat.zero_le _) (fun i y e lt => absurd lt (Nat.not_lt_zero _)) (fun i y e _ => h2 (i + 1) y e (Nat.zero_le _))]
      simp; lia
    | succ k =>
      have h3 := h1 0 a rfl (Nat.succ_pos _)
      rw [ih (k := k) (by simpa using hk) (fun i y e lt => h1 (i + 1) y e (Nat.succ_lt_succ lt)) (fun i y e le => h2 (i + 1) y e (Nat.succ_le_succ le))]
      simp [h3]
theorem f_place_by_half {starts : List Int} {x : Int} (rm : Rm A (n + 1)) (hz : starts.length ≤ 100000) (hs : starts.Pairwise (· ≤ ·)) (h : Q (.int (pbh starts x)) R) : Cal c A (.ref 111) [.lst (starts.map .int), .int x] R Q X := by
  refine CalC.cal (call_place_by_half rm fun env A' L fe fn rm' hfr => ?_)
  conv => arg 4; whnf
  walk_at "go"
  refine ca_lenL (by walk_at "lv") (by rw [sizeLine_is, List.length_map]; lia) ?_
  walk_at "go"
  rw [List.length_map]
  refine sx_while fn hfr (fun k R' => ∃ (lo hi : Nat) (m : Option D), R' = (L, .loc ["firsts", "number", "low", "high", "middle"] [some (.lst (starts.map .int)), some (.int x), some (.int lo), some (.int hi), m]) :: R ∧
    lo ≤ hi ∧ hi ≤ starts.length ∧ k = hi - lo ∧ (∀ i y, starts[i]? = some y → i < lo → y ≤ x) ∧ (∀ i y, starts[i]? = some y → hi ≤ i → x < y)) starts.length
    ⟨0, starts.length, none, rfl, Nat.zero_le _, Nat.le_refl _, rfl, fun i y _ h => absurd h (Nat.not_lt_zero _), fun i y e h => by have := (List.getElem?_eq_some_iff.mp e).1; lia⟩ ?_
  rintro k R' ⟨lo, hi, m, rfl, h1, h2, h3, h4, h5⟩
  walk_at "go"
  refine ⟨fun hb => ?_, fun hb => ?_⟩ <;> simp only [decide_eq_true_eq, decide_eq_false_iff_not] at hb
  · walk_at "go"
    refine bi_div (by decide) (by decide) ?_
    walk_at "go"
    have e : ((lo : Int) + (hi : Int)) / 2 = ((lo + hi) / 2 : Nat) := by lia
    rw [e]
    walk_at "if"
    walk_at "go"
    have lt : (lo + hi) / 2 < starts.length := by lia
    refine su_list (ds := starts.map .int) (x := .int starts[(lo + hi) / 2]) (by walk_at "lv") (by lia) (by lia) (by rw [Int.toNat_natCast, List.getElem?_map, List.getElem?_eq_getElem lt]; rfl) ?_
    walk_at "go"
    refine ⟨fun hc => ?_, fun hc => ?_⟩ <;> simp only [decide_eq_true_eq, decide_eq_false_iff_not] at hc <;> walk_at "go"
    · refine ⟨hi - ((lo + hi) / 2 + 1), by lia, (lo + hi) / 2 + 1, hi, _, rfl, by lia, h2, rfl, fun i y e lt' => ?_, h5⟩
      have lt2 := (List.getElem?_eq_some_iff.mp e).1
      have e2 := (List.getElem?_eq_some_iff.mp e).2
      have := (List.pairwise_iff_getElem.mp hs) i ((lo + hi) / 2) lt2 lt
      rcases Nat.lt_or_ge i ((lo + hi) / 2) with q | q
      · have := this q; lia
      · have : i = (lo + hi) / 2 := by lia
        subst this; lia
    · refine ⟨(lo + hi) / 2 - lo, by lia, lo, (lo + hi) / 2, _, rfl, by lia, by lia, rfl, h4, fun i y e le' => ?_⟩
      have lt2 := (List.getElem?_eq_some_iff.mp e).1
      have e2 := (List.getElem?_eq_some_iff.mp e).2
      have := (List.pairwise_iff_getElem.mp hs) ((lo + hi) / 2) i lt lt2
      rcases Nat.lt_or_ge ((lo + hi) / 2) i with q | q
      · have := this q; lia
      · have : i = (lo + hi) / 2 := by lia
        subst this; lia
  · walk_at "go"
    have e : lo = hi := by lia
    subst e
    have := countP_split (x := x) h2 h4 h5
    rw [pbh, this] at h
    walk_at "out"
end
section
variable {c : Cx} {A : Around} {env : Env} {L : Addr} {n : Nat} {R R0 R1 R2 : Led} {Q : D → Led → Prop} {X : Addr → D → Led → Prop}
theorem f_codes_of {x : Str} (rm : Rm A (n + 1)) (hz : x.cps.size ≤ 100000) (h : Q (.lst (x.cps.toList.map fun k : Nat => .int (k : Int))) R) : Cal c A (.ref 71) [.str x] R Q X := by
  refine CalC.cal (call_codes_of rm fun env A' L fe fn rm' hfr => ?_)
  conv => arg 4; whnf
  walk_at "go"
  refine ev_map ["sign"] [("ord", .val (.builtin "ord"))] [] rm' fe ce_none (by kernel_rfl) (by simp) (Globs.mem (.cons g_ord .nil)) ?_ (by intro _ _; rfl)
  walk_at "go"
  refine ⟨_, x.cps.toList.map fun k : Nat => .int (k : Int), .str, by simpa using hz, by simp, fun i a y cvs C env' h1 h2 h3 fe' ce' => ?_, ?_⟩
  · match cvs, h3 with
    | [v], _ =>
      rw [List.getElem?_map, Option.map_eq_some_iff] at h1
      obtain ⟨k, hk, rfl⟩ := h1
      rw [List.getElem?_map, hk] at h2
      cases h2
      walk_at "go"
      exact ⟨rfl, rfl⟩
  · walk_at "go"
    walk_at "out"
noncomputable def hexDigs : List Nat := [48, 49, 50, 51, 52, 53, 54, 55, 56, 57, 65, 66, 67, 68, 69, 70]
noncomputable def hexDig (k : Nat) : Nat := hexDigs.getD k 0
noncomputable def hexLoop : Nat → Nat → List Nat → List Nat
  | 0, _, acc => acc
  | f + 1, rest, acc => if 0 < rest ∨ acc.length < 4 then hexLoop f (rest / 16) (acc ++ [hexDig (rest % 16)]) else acc
/-- the code in hex, four signs at least -/
noncomputable def hexB (code : Nat) : List Nat := (hexLoop 6 code []).reverse
theorem hexDig_at (k : Nat) (h : k < 16) : hexDigs[k]? = some (hexDig k) := by
  have : ∀ k < 16, hexDigs[k]? = some (hexDig k) := by decide
  exact this k h
theorem hexDig_lt (k : Nat) (h : k < 16) : hexDig k < 256 := by
  have : ∀ k < 16, hexDig k < 256 := by decide
  exact this k h
theorem f_hex_code {code : Nat} (rm : Rm A (n + 1)) (hz : code < 16777216) (h : Q (.bytes (hexB code)) R) : Cal c A (.ref 90) [.int (code : Int)] R Q X := by
  refine CalC.cal (call_hex_code rm fun env A' L fe fn rm' hfr => ?_)
  conv => arg 4; whnf
  walk_at "go"
  refine ⟨by decide, newl_o fun a => ?_⟩
  walk_at "go"
  refine sx_while fn hfr (fun k R' => ∃ (acc : List Nat) (r : Nat), R' = (a, .list (acc.map fun k : Nat => .int (k : Int))) :: (L, .loc ["code", "found", "rest"] [some (.int code), some (.val (.ref a)), some (.int (r : Int))]) :: R ∧
    hexLoop k r acc = hexLoop 6 code [] ∧ r < 16 ^ k ∧ 4 ≤ acc.length + k ∧ acc.length + k = 6 ∧ ∀ y ∈ acc, y < 256) 6 ⟨[], code, rfl, rfl, by lia, by simp, by simp, by simp⟩ ?_
  rintro k R' ⟨acc, r, rfl, h1, h2, h3, h4, h5⟩
  have hlen : acc.length ≤ 6 := by lia
  refine tst_cut (decide (0 < r ∨ acc.length < 4)) ?_ ?_
  · walk_at "bo"
    walk_at "go"
    refine ⟨fun hb => ?_, fun hb => ?_⟩ <;> simp only [decide_eq_true_eq, decide_eq_false_iff_not] at hb
    · walk_at "go"
      exact ⟨by simp; lia, rfl⟩
    · walk_at "bo"
      walk_at "go"
      refine ca_lenL (by walk_at "lv") (by rw [sizeLine_is, List.length_map]; lia) ?_
      walk_at "go"
      refine ⟨fun hb => ?_, fun hb => ?_⟩ <;> simp only [decide_eq_true_eq, decide_eq_false_iff_not, List.length_map] at hb <;> walk_at "go" <;> exact ⟨by simp; lia, rfl⟩
  refine ⟨fun hb => ?_, fun hb => ?_⟩ <;> simp only [decide_eq_true_eq, decide_eq_false_iff_not] at hb
  · walk_at "go"
    refine bi_and15 (by lia) ?_
    have e1 : (r : Int) % 16 = ((r % 16 : Nat) : Int) := by lia
    rw [e1]
    refine su_bytesI (x := hexDig (r % 16)) (by lia) (by decide) (by rw [Int.toNat_natCast]; exact hexDig_at _ (Nat.mod_lt _ (by decide))) ?_
    walk_at "go"
    refine ca_append (by walk_at "u") (by rw [sizeLine_is, List.length_map]; lia) ?_
    walk_at "go"
    refine bi_shr4 ?_
    have e2 : (r : Int) / 16 = ((r / 16 : Nat) : Int) := by lia
    rw [e2]
    walk_at "go"
    cases k with
    | zero => simp at h2; lia
    | succ k =>
      refine ⟨k, Nat.lt_succ_self _, acc ++ [hexDig (r % 16)], r / 16, by rw [List.map_append]; rfl, ?_, ?_, by simp; lia, by simp; lia, fun y hy => ?_⟩
      · rw [← h1, hexLoop, if_pos hb]
      · rw [Nat.pow_succ] at h2; lia
      · rcases List.mem_append.mp hy with hy | hy
        · exact h5 y hy
        · rw [List.mem_singleton] at hy; subst hy; exact hexDig_lt _ (Nat.mod_lt _ (by decide))
  · walk_at "go"
    refine ev_slc (lo := none) (hi := none) (st := some (-1)) trivial trivial ?_ ?_
    · show Ev _ _ _ _ _ _ _
      walk_at "go"
      exact ⟨rfl, rfl⟩
    refine su_rev (by walk_at "lv") (by rw [sizeLine_is, List.length_map]; lia) ?_
    walk_at "go"
    have e3 : acc = hexLoop 6 code [] := by
      rw [← h1]
      cases k with
      | zero => rfl
      | succ k => rw [hexLoop, if_neg hb]
    rw [← List.map_reverse]
    refine ca_bytesL rm' (by walk_at "lv") (fun y hy => h5 y (List.mem_reverse.mp hy)) (by rw [sizeLine_is, List.length_reverse]; lia) ?_
    rw [e3]
    unfold hexB at h
    walk_at "go"
    walk_at "out"
end
section
variable {c : Cx} {A : Around} {env : Env} {L : Addr} {n : Nat} {R R0 R1 R2 : Led} {Q : D → Led → Prop} {X : Addr → D → Led → Prop}
theorem f_range_are_like {x y : Str} (rm : Rm A (n + 1)) (h : Q (.bool (x == y)) R) : Cal c A (.ref 186) [.str x, .str y] R Q X := by
  refine CalC.cal (call_range_are_like rm fun env A' L ad fe ce fn rm' hfr => ?_)
  conv => arg 4; whnf
  walk_at "go"
  walk_at "if"
  walk_at "bo"
  walk_at "go"
  refine ca_isS (.inl rfl) ?_
  walk_at "go"
  refine ⟨fun hb => ?_, fun hb => ?_⟩
  · walk_at "go"
    refine ca_isS (.inr rfl) ?_
    walk_at "go"
    refine ca_isS (.inr rfl) ?_
    walk_at "go"
    rw [hb] at h
    rw [show (false == false) = true from rfl]
    walk_at "out"
  · rw [hb] at h ⊢
    walk_at "go"
    walk_at "out"
abbrev rmI (x dx : Addr) : Ent := (x, .inst 229 dx)
abbrev rmA (dx : Addr) (dflt : Str) (starts : List Int) (values : List Str) : Ent := (dx, .ats ["default", "starts", "values"] [some (.str dflt), some (.lst (starts.map .int)), some (.lst (values.map .str))])
theorem f_rm_new {d : Str} (rm : Rm A (n + 2)) (h : ∀ x dx, Q (.val (.ref x)) (rmI x dx :: rmA dx d [0] [d] :: R)) : Cal c A (.ref 229) [.str d] R Q X := by
  refine ca_new2 (nms := ["default", "starts", "values"]) (n := n + 1) [none, none, none] rm new_rm rfl fun A1 x dx rm1 => ?_
  refine call_RangeMap_init rm1 fun env A' L fe fn rm' hfr => ?_
  conv => arg 4; whnf
  walk_at "go"
  refine ⟨by decide, ?_⟩
  walk_at "go"
  refine ⟨by simp, ?_⟩
  walk_at "go"
  have h := h x dx
  refine back_next ?_ (by walk_at "r") .nil
  exact ⟨rfl, h⟩
theorem f_rm_get {x dx : Addr} {dflt v : Str} {starts : List Int} {values : List Str} {code : Int} (rm : Rm A (n + 2)) (m1 : Has (x, .inst 229 dx) R) (m2 : Has (dx, .ats ["default", "starts", "values"] [some (.str dflt), some (.lst (starts.map .int)), some (.lst (values.map .str))]) R)
    (hz : starts.length ≤ 100000) (hs : starts.Pairwise (· ≤ ·)) (h0 : 0 ≤ pbh starts code) (hv : values[(pbh starts code).toNat]? = some v) (h : Q (.str v) R) : Cal c A (.ref 207) [.val (.ref x), .int code] R Q X := by
  refine CalC.cal (call_RangeMap_get rm fun env A' L fe fn rm' hfr => ?_)
  conv => arg 4; whnf
  walk_at "go"
  refine at_own (.tail m1) (.tail m2) get_rm_values (by walk_at "l") rfl ?_
  walk_at "go"
  refine at_own (.tail m1) (.tail m2) get_rm_starts (by walk_at "l") rfl ?_
  walk_at "go"
  refine f_place_by_half rm' hz hs ?_
  have lt : pbh starts code < 2 ^ 62 := by
    unfold pbh
    have := List.countP_le_length (p := fun y => decide (y ≤ code)) (l := starts)
    lia
  refine su_list (x := .str v) (by walk_at "lv") h0 lt (by rw [List.getElem?_map, hv]; rfl) ?_
  walk_at "go"
  walk_at "out"
end
section
variable {c : Cx} {A : Around} {env : Env} {L : Addr} {n : Nat} {R R0 R1 R2 : Led} {Q : D → Led → Prop} {X : Addr → D → Led → Prop}
/-- a range put over a range map -/
noncomputable def rmPut (starts : List Int) (values : List Str) (first last : Int) (value : Str) : List Int × List Str :=
  let low := starts.countP (· ≤ first - 1)
  let high := starts.countP (· ≤ last + 1)
  let behind := values.getD (high - 1) value
  let st := if last < 1114111 ∧ ¬ behind = value then [first, last + 1] else [first]
  let vl := if last < 1114111 ∧ ¬ behind = value then [value, behind] else [value]
  let join := 0 < low ∧ values.getD (low - 1) "" = value
  (starts.take low ++ (if join then st.drop 1 else st) ++ starts.drop high, values.take low ++ (if join then vl.drop 1 else vl) ++ values.drop high)
theorem f_rm_put {x dx : Addr} {dflt value : Str} {starts : List Int} {values : List Str} {first last : Int} (rm : Rm A (n + 2)) (h0 : 0 ≤ first) (h1 : first ≤ last) (h2 : last ≤ 1114111)
    (hz : starts.length ≤ 10000) (hl : values.length = starts.length) (hs : starts.Pairwise (· ≤ ·)) (hh : 0 < starts.countP (· ≤ last + 1))
    (h : Q .none (rmI x dx :: rmA dx dflt (rmPut starts values first last value).1 (rmPut starts values first last value).2 :: R)) : Cal c A (.ref 214) [.val (.ref x), .int first, .int last, .str value] (rmI x dx :: rmA dx dflt starts values :: R) Q X := by
  refine CalC.cal (call_RangeMap_put rm fun env A' L fe fn rm' hfr => ?_)
  conv => arg 4; whnf
  walk_at "go"
  refine sx_swap2 "first" "last" fe fn rm' ?_ (by intro _; rfl) (by intro _ _ _ _; rfl)
  walk_at "go"
  refine ca_max rm' ?_
  walk_at "go"
  refine ca_min rm' ?_
  walk_at "go"
  refine ⟨by simp, ?_⟩
  refine ⟨_, _, rfl, ?_⟩
  have e1 : max first 0 = first := by lia
  have e2 : min last 1114111 = last := by lia
  rw [e1, e2]
  walk_at "go"
  walk_at "if"
  walk_at "go"
  refine ⟨fun hb => ?_, fun hb => ?_⟩ <;> simp only [decide_eq_true_eq, decide_eq_false_iff_not] at hb
  · lia
  walk_at "go"
  refine f_place_by_half rm' (by lia) hs ?_
  walk_at "go"
  refine f_place_by_half rm' (by lia) hs ?_
  have e3 : ∀ y : Int, pbh starts y + 1 = ((starts.countP (· ≤ y) : Nat) : Int) := fun y => by unfold pbh; lia
  walk_at "go"
  rw [e3, e3]
  have hlow : starts.countP (· ≤ first - 1) ≤ starts.length := List.countP_le_length
  have hhigh : starts.countP (· ≤ last + 1) ≤ starts.length := List.countP_le_length
  have hmono : starts.countP (· ≤ first - 1) ≤ starts.countP (· ≤ last + 1) := List.countP_mono_left fun y _ hy => by simp at hy ⊢; lia
  unfold rmPut at h
  generalize hlo : starts.countP (· ≤ first - 1) = lo at hlow hmono h ⊢
  generalize hhi : starts.countP (· ≤ last + 1) = hi at hhigh hh hmono h ⊢
  dsimp only at h
  walk_at "go"
  have e4 : (hi : Int) - 1 = ((hi - 1 : Nat) : Int) := by lia
  rw [e4]
  have lt4 : hi - 1 < values.length := by lia
  refine su_list (x := .str (values.getD (hi - 1) value)) (by walk_at "lv") (by lia) (by lia) (by rw [Int.toNat_natCast, List.getElem?_map, List.getElem?_eq_getElem lt4, List.getD_eq_getElem?_getD, List.getElem?_eq_getElem lt4]; rfl) ?_
  generalize hbe : values.getD (hi - 1) value = behind at h ⊢
  walk_at "go"
  refine sx_swap2 "starts" "values" fe fn rm' ?_ (by intro _; rfl) (by intro _ _ _ _; rfl)
  walk_at "go"
  refine ⟨by simp, newl_o fun sa => ?_⟩
  walk_at "go"
  refine ⟨by simp, newl_o fun va => ?_⟩
  walk_at "go"
  refine ⟨by simp, _, _, rfl, ?_⟩
  walk_at "go"
  let ns : List Str := ["self", "first", "last", "value", "low", "high", "behind", "starts", "values"]
  generalize hst : (if last < 1114111 ∧ ¬ behind = value then [first, last + 1] else [first]) = st at h
  generalize hvl : (if last < 1114111 ∧ ¬ behind = value then [value, behind] else [value]) = vl at h
  have lst : st.length ≤ 2 := by rw [← hst]; split <;> simp
  have lvl : vl.length ≤ 2 := by rw [← hvl]; split <;> simp
  refine sx_cut ((va, .list (vl.map .str)) :: (sa, .list (st.map .int)) :: (L, .loc ["self", "first", "last", "value", "low", "high", "behind", "starts", "values"] [some (.val (.ref x)), some (.int first), some (.int last), some (.str value), some (.int (lo : Int)), some (.int (hi : Int)), some (.str behind), some (.val (.ref sa)), some (.val (.ref va))]) :: rmI x dx :: rmA dx dflt starts values :: R) ?_ ?_
  · walk_at "if"
    refine tst_cut (decide (last < 1114111 ∧ ¬ behind = value)) ?_ ?_
    · walk_at "bo"
      walk_at "go"
      refine ⟨fun hc => ?_, fun hc => ?_⟩ <;> simp only [decide_eq_true_eq, decide_eq_false_iff_not] at hc
      · walk_at "bo"
        walk_at "go"
        refine f_range_are_like rm' ?_
        walk_at "go"
        refine ⟨fun hd => ?_, fun hd => ?_⟩
        · walk_at "go"
          refine ⟨?_, rfl⟩
          simp at hd; simp [hc, hd]
        · refine ⟨?_, rfl⟩
          simp at hd; simp [hd]
      · exact ⟨by simp [hc], rfl⟩
    refine ⟨fun hc => ?_, fun hc => ?_⟩ <;> simp only [decide_eq_true_eq, decide_eq_false_iff_not] at hc
    · rw [if_pos hc] at hst hvl
      subst hst hvl
      walk_at "go"
      refine ca_append (by walk_at "u") (by rw [sizeLine_is]; simp) ?_
      walk_at "go"
      refine ca_append (by walk_at "u") (by rw [sizeLine_is]; simp) ?_
      walk_at "go"
      exact ⟨rfl, rfl⟩
    · rw [if_neg hc] at hst hvl
      subst hst hvl
      walk_at "go"
      exact ⟨rfl, rfl⟩
  walk_at "go"
  walk_at "if"
  refine tst_cut (decide (0 < lo ∧ values.getD (lo - 1) "" = value)) ?_ ?_
  · walk_at "bo"
    walk_at "go"
    refine ⟨fun hc => ?_, fun hc => ?_⟩ <;> simp only [decide_eq_true_eq, decide_eq_false_iff_not] at hc
    · walk_at "bo"
      walk_at "go"
      have e5 : (lo : Int) - 1 = ((lo - 1 : Nat) : Int) := by lia
      rw [e5]
      have lt5 : lo - 1 < values.length := by lia
      refine su_list (x := .str (values.getD (lo - 1) "")) (by walk_at "lv") (by lia) (by lia) (by rw [Int.toNat_natCast, List.getElem?_map, List.getElem?_eq_getElem lt5, List.getD_eq_getElem?_getD, List.getElem?_eq_getElem lt5]; rfl) ?_
      walk_at "go"
      refine f_range_are_like rm' ?_
      walk_at "go"
      refine ⟨fun hd => ?_, fun hd => ?_⟩
      · walk_at "go"
        refine ⟨?_, rfl⟩
        have hc' : 0 < lo := by lia
        simp at hd; simp [hc', hd]
      · refine ⟨?_, rfl⟩
        simp at hd; simp [hd]
    · exact ⟨by have : ¬ 0 < lo := by lia
                simp [this], rfl⟩
  refine ⟨fun hc => ?_, fun hc => ?_⟩ <;> simp only [decide_eq_true_eq, decide_eq_false_iff_not] at hc
  · rw [if_pos hc, if_pos hc] at h
    walk_at "go"
    refine sx_swap2 "starts" "values" fe fn rm' ?_ (by intro _; rfl) (by intro _ _ _ _; rfl)
    walk_at "go"
    refine ev_slc (lo := some 1) (hi := none) (st := none) ?_ trivial trivial ?_
    · show Ev _ _ _ _ _ _ _
      walk_at "go"
      exact ⟨rfl, rfl⟩
    refine su_slice (by walk_at "lv") (by rw [sizeLine_is, List.length_map]; lia) ?_
    walk_at "go"
    refine ev_slc (lo := some 1) (hi := none) (st := none) ?_ trivial trivial ?_
    · show Ev _ _ _ _ _ _ _
      walk_at "go"
      exact ⟨rfl, rfl⟩
    refine su_slice (by walk_at "lv") (by rw [sizeLine_is, List.length_map]; lia) ?_
    walk_at "go"
    refine ⟨by simp, _, _, rfl, ?_⟩
    rw [show (1 : Int) = ((1 : Nat) : Int) from rfl, cut_from, cut_from, ← List.map_drop, ← List.map_drop]
    have lst1 : (st.drop 1).length ≤ 2 := by rw [List.length_drop]; lia
    have lvl1 : (vl.drop 1).length ≤ 2 := by rw [List.length_drop]; lia
    generalize st.drop 1 = st1 at h lst1 ⊢
    generalize vl.drop 1 = vl1 at h lvl1 ⊢
    walk_at "go"
    refine ev_slc (lo := none) (hi := some (lo : Int)) (st := none) trivial ?_ trivial ?_
    · show Ev _ _ _ _ _ _ _
      walk_at "go"
      exact ⟨rfl, rfl⟩
    refine su_slice (by walk_at "lv") (by rw [sizeLine_is, List.length_map]; lia) ?_
    walk_at "go"
    refine bi_addL (by walk_at "lv") (by walk_at "lv") (by rw [sizeLine_is, cut_to]; simp; lia) ?_
    walk_at "go"
    refine ev_slc (lo := some (hi : Int)) (hi := none) (st := none) ?_ trivial trivial ?_
    · show Ev _ _ _ _ _ _ _
      walk_at "go"
      exact ⟨rfl, rfl⟩
    refine su_slice (by walk_at "lv") (by rw [sizeLine_is, List.length_map]; lia) ?_
    walk_at "go"
    refine bi_addL (by walk_at "lv") (by walk_at "lv") (by rw [sizeLine_is, cut_to, cut_from]; simp; lia) ?_
    walk_at "go"
    refine ev_slc (lo := none) (hi := some (lo : Int)) (st := none) trivial ?_ trivial ?_
    · show Ev _ _ _ _ _ _ _
      walk_at "go"
      exact ⟨rfl, rfl⟩
    refine su_slice (by walk_at "lv") (by rw [sizeLine_is, List.length_map]; lia) ?_
    walk_at "go"
    refine bi_addL (by walk_at "lv") (by walk_at "lv") (by rw [sizeLine_is, cut_to]; simp; lia) ?_
    walk_at "go"
    refine ev_slc (lo := some (hi : Int)) (hi := none) (st := none) ?_ trivial trivial ?_
    · show Ev _ _ _ _ _ _ _
      walk_at "go"
      exact ⟨rfl, rfl⟩
    refine su_slice (by walk_at "lv") (by rw [sizeLine_is, List.length_map]; lia) ?_
    walk_at "go"
    refine bi_addL (by walk_at "lv") (by walk_at "lv") (by rw [sizeLine_is, cut_to, cut_from]; simp; lia) ?_
    walk_at "go"
    simp only [cut_to, cut_from, ← List.map_take, ← List.map_drop, ← List.map_append]
    refine back_next h (by walk_at "r") (by walk_at "d")
  · rw [if_neg hc, if_neg hc] at h
    walk_at "go"
    refine ev_slc (lo := none) (hi := some (lo : Int)) (st := none) trivial ?_ trivial ?_
    · show Ev _ _ _ _ _ _ _
      walk_at "go"
      exact ⟨rfl, rfl⟩
    refine su_slice (by walk_at "lv") (by rw [sizeLine_is, List.length_map]; lia) ?_
    walk_at "go"
    refine bi_addL (by walk_at "lv") (by walk_at "lv") (by rw [sizeLine_is, cut_to]; simp; lia) ?_
    walk_at "go"
    refine ev_slc (lo := some (hi : Int)) (hi := none) (st := none) ?_ trivial trivial ?_
    · show Ev _ _ _ _ _ _ _
      walk_at "go"
      exact ⟨rfl, rfl⟩
    refine su_slice (by walk_at "lv") (by rw [sizeLine_is, List.length_map]; lia) ?_
    walk_at "go"
    refine bi_addL (by walk_at "lv") (by walk_at "lv") (by rw [sizeLine_is, cut_to, cut_from]; simp; lia) ?_
    walk_at "go"
    refine ev_slc (lo := none) (hi := some (lo : Int)) (st := none) trivial ?_ trivial ?_
    · show Ev _ _ _ _ _ _ _
      walk_at "go"
      exact ⟨rfl, rfl⟩
    refine su_slice (by walk_at "lv") (by rw [sizeLine_is, List.length_map]; lia) ?_
    walk_at "go"
    refine bi_addL (by walk_at "lv") (by walk_at "lv") (by rw [sizeLine_is, cut_to]; simp; lia) ?_
    walk_at "go"
    refine ev_slc (lo := some (hi : Int)) (hi := none) (st := none) ?_ trivial trivial ?_
    · show Ev _ _ _ _ _ _ _
      walk_at "go"
      exact ⟨rfl, rfl⟩
    refine su_slice (by walk_at "lv") (by rw [sizeLine_is, List.length_map]; lia) ?_
    walk_at "go"
    refine bi_addL (by walk_at "lv") (by walk_at "lv") (by rw [sizeLine_is, cut_to, cut_from]; simp; lia) ?_
    walk_at "go"
    simp only [cut_to, cut_from, ← List.map_take, ← List.map_drop, ← List.map_append]
    refine back_next h (by walk_at "r") (by walk_at "d")
end
section
variable {c : Cx} {A : Around} {env : Env} {L : Addr} {n : Nat} {R R0 R1 R2 : Led} {Q : D → Led → Prop} {X : Addr → D → Led → Prop}
abbrev rowD (r : Int × Int × Str) : D := .tup [.int r.1, .int r.2.1, .str r.2.2]
noncomputable def rmRows (starts : List Int) (values : List Str) : List (Int × Int × Str) :=
  (List.range values.length).map fun i => (starts.getD i 0, (if i + 1 < starts.length then starts.getD (i + 1) 0 - 1 else 1114111), values.getD i "")
theorem f_range_rows {x dx : Addr} {dflt : Str} {starts : List Int} {values : List Str} (rm : Rm A (n + 1)) (m1 : Has (x, .inst 229 dx) R) (m2 : Has (rmA dx dflt starts values) R)
    (hz : starts.length ≤ 10000) (hl : values.length = starts.length) (h : Q (.lst ((rmRows starts values).map rowD)) R) : Cal c A (.ref 240) [.val (.ref x)] R Q X := by
  refine Cal.frz (CalC.cal (call_range_rows rm fun env A' L fe fn rm' hfr => ?_))
  conv => arg 4; whnf
  walk_at "go"
  refine sx_swap2 "starts" "found" fe fn rm' ?_ (by intro _; rfl) (by intro _ _ _ _; rfl)
  walk_at "go"
  refine at_own (.tail m1) (.tail m2) get_rm_starts (by walk_at "l") rfl ?_
  walk_at "go"
  refine ⟨by simp, newl_o fun a => ?_⟩
  walk_at "go"
  refine ⟨by simp, _, _, rfl, ?_⟩
  walk_at "go"
  refine sx_for_enum fn hfr rm' ?_ (by intro _ _; rfl)
  walk_at "go"
  refine at_own (.tail (.tail m1)) (.tail (.tail m2)) get_rm_values (by walk_at "l") rfl ?_
  walk_at "go"
  refine ca_enum fun e it => opq (fun (i : Nat) (R' : Led) => ∃ u v w, R' = (a, .list (((rmRows starts values).take i).map rowD)) :: (L, .loc ["range_map", "starts", "found", "at", "value", "last"] [some (.val (.ref x)), some (.lst (starts.map .int)), some (.val (.ref a)), u, v, w]) :: R) fun J hJ => ?_
  refine ⟨e, it, _, _, rfl, rfl, J, (hJ _ _).mpr ⟨_, _, _, rfl⟩, ?_, ?_⟩
  · intro i y R' hi hjj
    obtain ⟨u, v, w, rfl⟩ := (hJ _ _).mp hjj
    clear hjj
    rw [List.getElem?_map, Option.map_eq_some_iff] at hi
    obtain ⟨val, hi, rfl⟩ := hi
    have lt : i < values.length := (List.getElem?_eq_some_iff.mp hi).1
    walk_at "go"
    refine ev_cut (.int (if i + 1 < starts.length then starts.getD (i + 1) 0 - 1 else 1114111)) ?_ ?_
    · walk_at "ife"
      walk_at "go"
      refine ca_lenL (by walk_at "lv") (by rw [sizeLine_is, List.length_map]; lia) ?_
      walk_at "go"
      rw [List.length_map]
      refine ⟨fun hb => ?_, fun hb => ?_⟩ <;> simp only [decide_eq_true_eq, decide_eq_false_iff_not] at hb
      · walk_at "go"
        have e1 : (i : Int) + 1 = ((i + 1 : Nat) : Int) := by lia
        rw [e1]
        have lt1 : i + 1 < starts.length := by lia
        refine su_list (x := .int (starts.getD (i + 1) 0)) (by walk_at "lv") (by lia) (by lia) (by rw [Int.toNat_natCast, List.getElem?_map, List.getElem?_eq_getElem lt1, List.getD_eq_getElem?_getD, List.getElem?_eq_getElem lt1]; rfl) ?_
        walk_at "go"
        exact ⟨by rw [if_pos lt1], rfl⟩
      · walk_at "go"
        exact ⟨by rw [if_neg (by lia)], rfl⟩
    walk_at "go"
    refine su_list (x := .int (starts.getD i 0)) (by walk_at "lv") (by lia) (by lia) (by rw [Int.toNat_natCast, List.getElem?_map, List.getElem?_eq_getElem (by lia), List.getD_eq_getElem?_getD, List.getElem?_eq_getElem (by lia)]; rfl) ?_
    walk_at "go"
    refine ⟨by simp, ?_⟩
    walk_at "go"
    refine ca_append (by walk_at "u") (by rw [sizeLine_is, List.length_map, List.length_take]; lia) ?_
    walk_at "go"
    have this : (rmRows starts values)[i]? = some (starts.getD i 0, (if i + 1 < starts.length then starts.getD (i + 1) 0 - 1 else 1114111), val) := by
      unfold rmRows
      rw [List.getElem?_map, List.getElem?_range lt, Option.map_some, List.getD_eq_getElem?_getD (l := values), hi]; rfl
    have e9 : ((rmRows starts values).take (i + 1)).map rowD = ((rmRows starts values).take i).map rowD ++ [.tup [.int (starts.getD i 0), .int (if i + 1 < starts.length then starts.getD (i + 1) 0 - 1 else 1114111), .str val]] := by
      rw [List.take_add_one, this, List.map_append]; rfl
    refine (hJ _ _).mpr ?_
    simp only [e9]
    exact ⟨_, _, _, rfl⟩
  · intro R' hjj
    obtain ⟨u, v, w, rfl⟩ := (hJ _ _).mp hjj
    clear hjj hJ
    rw [List.length_map, List.take_of_length_le (by unfold rmRows; simp)]
    walk_at "go"
    exact back_ret (frz h (by walk_at "r")) (by walk_at "r") .nil
end
section
variable {c : Cx} {A : Around} {env : Env} {L : Addr} {n : Nat} {R R0 R1 R2 : Led} {Q : D → Led → Prop} {X : Addr → D → Led → Prop}
noncomputable def rmRanges (dflt : Str) (starts : List Int) (values : List Str) : List (Int × Int × Str) := (rmRows starts values).filter fun r => !(r.2.2 == dflt)
noncomputable def rowP (dflt : Str) : D → Bool
  | .tup [_, _, .str v] => !(v == dflt)
  | _ => false
theorem rowP_filter (dflt : Str) : ∀ rows : List (Int × Int × Str), (rows.map rowD).filter (rowP dflt) = (rows.filter fun r => !(r.2.2 == dflt)).map rowD
  | [] => rfl
  | r :: rows => by
    rw [List.map_cons, List.filter_cons, List.filter_cons, rowP_filter dflt rows]
    show (if (!(r.2.2 == dflt)) = true then _ else _) = _
    split <;> simp
theorem f_rm_ranges {x dx : Addr} {dflt : Str} {starts : List Int} {values : List Str} (rm : Rm A (n + 2)) (m1 : Has (rmI x dx) R) (m2 : Has (rmA dx dflt starts values) R)
    (hz : starts.length ≤ 10000) (hl : values.length = starts.length) (h : Q (.lst ((rmRanges dflt starts values).map rowD)) R) : Cal c A (.ref 219) [.val (.ref x)] R Q X := by
  refine CalC.cal (call_RangeMap_ranges rm fun env A' L ad fe ce fn rm' hfr => ?_)
  conv => arg 4; whnf
  walk_at "go"
  refine ev_filt ["row"] [("range_are_like", .val (.ref 186))] ["self"] rm' fe ce (by kernel_rfl) (by simp) (Globs.mem (.cons g_range_are_like .nil)) ?_ (by intro _ _; rfl)
  walk_at "go"
  refine f_range_rows rm' (.tail (.tail m1)) (.tail (.tail m2)) hz hl ?_
  refine ⟨_, rowP dflt, fun d => d, .lst, by unfold rmRows; simp; lia, fun i y cvs C env' hi h3 fe' ce' => ?_, ?_⟩
  · match cvs, h3 with
    | [v], _ =>
      rw [List.getElem?_map, Option.map_eq_some_iff] at hi
      obtain ⟨r, hr, rfl⟩ := hi
      walk_at "go"
      refine su_tup (k := 2) (x := .str r.2.2) (by decide) (by decide) rfl ?_
      walk_at "go"
      refine at_own (.tail (.tail (.tail m1))) (.tail (.tail (.tail m2))) get_rm_default (by walk_at "l") rfl ?_
      walk_at "go"
      refine f_range_are_like rm' ?_
      walk_at "go"
      refine ⟨rfl, fun hb => ?_, fun hb => ?_⟩
      · walk_at "go"
        exact ⟨rfl, rfl⟩
      · exact cloc (by walk_at "r") rfl rfl
  · unfold rmRanges at h
    rw [rowP_filter, List.map_id']
    walk_at "go"
    walk_at "out"
end
section
variable {c : Cx} {A : Around} {env : Env} {L : Addr} {n : Nat} {R R0 R1 R2 : Led} {Q : D → Led → Prop} {X : Addr → D → Led → Prop}
noncomputable def dkeys1 : List Str := ["gcb", "wb", "sb"]
noncomputable def dkeys2 : List Str := ["ex", "sd", "cased", "ci", "ep", "di", "ids", "idc", "xids", "xidc", "pat_syn", "pat_ws", "idst"]
noncomputable def dkeys3 : List Str := ["dm", "uc", "lc", "tc", "cf", "bm", "bpb", "scx", "nt", "nv", "name", "conf", "nfkc_cf"]
noncomputable def dkeys4 : List Str := ["suc", "slc", "stc", "alias"]
noncomputable def dflt0 : List (Str × D) := putAll [] [("gc", .str "Cn"), ("ccc", .int 0), ("bc", .str "L"), ("lb", .str "XX"), ("ea", .str "N"), ("sc", .str "Zzzz"), ("jt", .str "U"), ("incb", .str "None")]
noncomputable def dflt1 : List (Str × D) := dkeys1.foldl (fun acc k => put acc k (.str "Other")) dflt0
noncomputable def dflt2 : List (Str × D) := dkeys2.foldl (fun acc k => put acc k (.bool false)) dflt1
noncomputable def dflt3 : List (Str × D) := dkeys3.foldl (fun acc k => put acc k .none) dflt2
noncomputable def dflt4 : List (Str × D) := dkeys4.foldl (fun acc k => put acc k (.tup [])) dflt3
noncomputable def dflts : List (Str × D) := put dflt4 "idna" (.tup [.str "disallowed", .tup []])
theorem put_all_length (ks : List Str) (d : D) (base : List (Str × D)) : (ks.foldl (fun acc k => put acc k d) base).length ≤ base.length + ks.length := by
  induction ks generalizing base with
  | nil => simp
  | cons k r ih =>
    rw [List.foldl_cons, List.length_cons]
    have := ih (put base k d)
    have := put_length base k d
    lia
theorem dl0 : dflt0.length ≤ 20 := by decide +kernel
theorem dl1 : dflt1.length ≤ 25 := by have := put_all_length dkeys1 (.str "Other") dflt0; have := dl0; have : dkeys1.length = 3 := rfl; unfold dflt1; lia
theorem dl2 : dflt2.length ≤ 40 := by have := put_all_length dkeys2 (.bool false) dflt1; have := dl1; have : dkeys2.length = 13 := rfl; unfold dflt2; lia
theorem dl3 : dflt3.length ≤ 55 := by have := put_all_length dkeys3 .none dflt2; have := dl2; have : dkeys3.length = 13 := rfl; unfold dflt3; lia
theorem dl4 : dflt4.length ≤ 60 := by have := put_all_length dkeys4 (.tup []) dflt3; have := dl3; have : dkeys4.length = 4 := rfl; unfold dflt4; lia
theorem f_data_defaults (rm : Rm A (n + 1)) (h : ∀ a, Q (.val (.ref a)) ((a, .dictS dflts) :: R)) : Cal c A (.ref 247) [] R Q X := by
  refine CalC.cal (call_data_defaults rm fun env A' L fe fn rm' hfr => ?_)
  conv => arg 4; whnf
  walk_at "go"
  refine ev_dict kS ?_ (by rfl) (by rfl) (by simp) (by decide)
  walk_at "go"
  intro a
  walk_at "go"
  change Sx c A' env _ ((a, Sh.dictS dflt0) :: _) _ _
  refine sx_for fn hfr rm'.handled ?_ (by intro _ _; rfl)
  walk_at "go"
  refine opq (fun (i : Nat) (R' : Led) => ∃ v, R' = (a, .dictS ((dkeys1.take i).foldl (fun acc k => put acc k (.str "Other")) dflt0)) :: (L, .loc ["found", "name"] [some (.val (.ref a)), v]) :: R) fun J hJ => ?_
  refine ⟨by simp, _, .tup, J, (hJ _ _).mpr ⟨_, rfl⟩, ?_, ?_⟩
  · intro i x R' hi hjj
    obtain ⟨v, rfl⟩ := (hJ _ _).mp hjj
    clear hjj
    change (dkeys1.map D.str)[i]? = some x at hi
    rw [List.getElem?_map, Option.map_eq_some_iff] at hi
    obtain ⟨k, hk, rfl⟩ := hi
    walk_at "go"
    refine si_S (k := k) (by walk_at "u") (by have := put_all_length (dkeys1.take i) (.str "Other") dflt0; have : (dkeys1.take i).length ≤ 13 := Nat.le_trans (List.length_take_le' _ _) (by decide); have : (dflt0 : List (Str × D)).length ≤ 60 := Nat.le_trans dl0 (by decide); lia) ?_
    walk_at "go"
    have e9 : (dkeys1.take (i + 1)).foldl (fun acc k => put acc k (.str "Other")) dflt0 = put ((dkeys1.take i).foldl (fun acc k => put acc k (.str "Other")) dflt0) k (.str "Other") := by
      rw [List.take_add_one, hk, List.foldl_append]; rfl
    refine (hJ _ _).mpr ?_
    simp only [e9]
    exact ⟨_, rfl⟩
  intro R' hjj
  obtain ⟨v, rfl⟩ := (hJ _ _).mp hjj
  clear hjj hJ
  rw [show (dkeys1.take (List.length _)) = dkeys1 from rfl]
  walk_at "go"
  change Sx c A' env _ ((a, Sh.dictS dflt1) :: _) _ _
  refine sx_for fn hfr rm'.handled ?_ (by intro _ _; rfl)
  walk_at "go"
  refine opq (fun (i : Nat) (R' : Led) => ∃ v, R' = (a, .dictS ((dkeys2.take i).foldl (fun acc k => put acc k (.bool false)) dflt1)) :: (L, .loc ["found", "name"] [some (.val (.ref a)), v]) :: R) fun J hJ => ?_
  refine ⟨by simp, _, .tup, J, (hJ _ _).mpr ⟨_, rfl⟩, ?_, ?_⟩
  · intro i x R' hi hjj
    obtain ⟨v, rfl⟩ := (hJ _ _).mp hjj
    clear hjj
    change (dkeys2.map D.str)[i]? = some x at hi
    rw [List.getElem?_map, Option.map_eq_some_iff] at hi
    obtain ⟨k, hk, rfl⟩ := hi
    walk_at "go"
    refine si_S (k := k) (by walk_at "u") (by have := put_all_length (dkeys2.take i) (.bool false) dflt1; have : (dkeys2.take i).length ≤ 13 := Nat.le_trans (List.length_take_le' _ _) (by decide); have : (dflt1 : List (Str × D)).length ≤ 60 := Nat.le_trans dl1 (by decide); lia) ?_
    walk_at "go"
    have e9 : (dkeys2.take (i + 1)).foldl (fun acc k => put acc k (.bool false)) dflt1 = put ((dkeys2.take i).foldl (fun acc k => put acc k (.bool false)) dflt1) k (.bool false) := by
      rw [List.take_add_one, hk, List.foldl_append]; rfl
    refine (hJ _ _).mpr ?_
    simp only [e9]
    exact ⟨_, rfl⟩
  intro R' hjj
  obtain ⟨v, rfl⟩ := (hJ _ _).mp hjj
  clear hjj hJ
  rw [show (dkeys2.take (List.length _)) = dkeys2 from rfl]
  walk_at "go"
  change Sx c A' env _ ((a, Sh.dictS dflt2) :: _) _ _
  refine sx_for fn hfr rm'.handled ?_ (by intro _ _; rfl)
  walk_at "go"
  refine opq (fun (i : Nat) (R' : Led) => ∃ v, R' = (a, .dictS ((dkeys3.take i).foldl (fun acc k => put acc k .none) dflt2)) :: (L, .loc ["found", "name"] [some (.val (.ref a)), v]) :: R) fun J hJ => ?_
  refine ⟨by simp, _, .tup, J, (hJ _ _).mpr ⟨_, rfl⟩, ?_, ?_⟩
  · intro i x R' hi hjj
    obtain ⟨v, rfl⟩ := (hJ _ _).mp hjj
    clear hjj
    change (dkeys3.map D.str)[i]? = some x at hi
    rw [List.getElem?_map, Option.map_eq_some_iff] at hi
    obtain ⟨k, hk, rfl⟩ := hi
    walk_at "go"
    refine si_S (k := k) (by walk_at "u") (by have := put_all_length (dkeys3.take i) .none dflt2; have : (dkeys3.take i).length ≤ 13 := Nat.le_trans (List.length_take_le' _ _) (by decide); have : (dflt2 : List (Str × D)).length ≤ 60 := Nat.le_trans dl2 (by decide); lia) ?_
    walk_at "go"
    have e9 : (dkeys3.take (i + 1)).foldl (fun acc k => put acc k .none) dflt2 = put ((dkeys3.take i).foldl (fun acc k => put acc k .none) dflt2) k .none := by
      rw [List.take_add_one, hk, List.foldl_append]; rfl
    refine (hJ _ _).mpr ?_
    simp only [e9]
    exact ⟨_, rfl⟩
  intro R' hjj
  obtain ⟨v, rfl⟩ := (hJ _ _).mp hjj
  clear hjj hJ
  rw [show (dkeys3.take (List.length _)) = dkeys3 from rfl]
  walk_at "go"
  change Sx c A' env _ ((a, Sh.dictS dflt3) :: _) _ _
  refine sx_for fn hfr rm'.handled ?_ (by intro _ _; rfl)
  walk_at "go"
  refine opq (fun (i : Nat) (R' : Led) => ∃ v, R' = (a, .dictS ((dkeys4.take i).foldl (fun acc k => put acc k (.tup [])) dflt3)) :: (L, .loc ["found", "name"] [some (.val (.ref a)), v]) :: R) fun J hJ => ?_
  refine ⟨by simp, _, .tup, J, (hJ _ _).mpr ⟨_, rfl⟩, ?_, ?_⟩
  · intro i x R' hi hjj
    obtain ⟨v, rfl⟩ := (hJ _ _).mp hjj
    clear hjj
    change (dkeys4.map D.str)[i]? = some x at hi
    rw [List.getElem?_map, Option.map_eq_some_iff] at hi
    obtain ⟨k, hk, rfl⟩ := hi
    walk_at "go"
    refine ⟨by simp, ?_⟩
    walk_at "go"
    refine si_S (k := k) (by walk_at "u") (by have := put_all_length (dkeys4.take i) (.tup []) dflt3; have : (dkeys4.take i).length ≤ 13 := Nat.le_trans (List.length_take_le' _ _) (by decide); have : (dflt3 : List (Str × D)).length ≤ 60 := Nat.le_trans dl3 (by decide); lia) ?_
    walk_at "go"
    have e9 : (dkeys4.take (i + 1)).foldl (fun acc k => put acc k (.tup [])) dflt3 = put ((dkeys4.take i).foldl (fun acc k => put acc k (.tup [])) dflt3) k (.tup []) := by
      rw [List.take_add_one, hk, List.foldl_append]; rfl
    refine (hJ _ _).mpr ?_
    simp only [e9]
    exact ⟨_, rfl⟩
  intro R' hjj
  obtain ⟨v, rfl⟩ := (hJ _ _).mp hjj
  clear hjj hJ
  rw [show (dkeys4.take (List.length _)) = dkeys4 from rfl]
  walk_at "go"
  refine ⟨by simp, ?_⟩
  change Args c A' env _ ((a, Sh.dictS dflt4) :: _) _ _
  walk_at "go"
  refine ⟨by simp, ?_⟩
  walk_at "go"
  refine si_S (k := "idna") (by walk_at "u") (by have := dl4; lia) ?_
  walk_at "go"
  have h := h a
  unfold dflts at h
  walk_at "out"
end
section
variable {c : Cx} {A : Around} {env : Env} {L : Addr} {n : Nat} {R R0 R1 R2 : Led} {Q : D → Led → Prop} {X : Addr → D → Led → Prop}
set_option tactic.hygienic true in
theorem look_put {κ : Type} [DecidableEq κ] (kvs : List (κ × D)) (k : κ) (d : D) : look (put kvs k d) k = some d := by
  unfold put
  split
  · rename_i h
    unfold look
    induction kvs with
    | nil => simp at h
    | cons x r ih =>
      rw [List.map_cons, List.find?_cons]
      by_cases e : x.1 = k
      · simp [e]
      · simp only [e, if_false, decide_false]
        refine ih ?_
        simpa [e] using h
  · rename_i h
    unfold look
    rw [List.find?_append]
    have : kvs.find? (fun kv => decide (kv.1 = k)) = none := by
      rw [List.find?_eq_none]
      intro x hx
      simp only [List.any_eq_true, not_exists, not_and] at h
      exact h x hx
    rw [this]; simp
structure DA where
  (x dx df mp pr wo : Addr)
noncomputable abbrev dI (p : DA) : Ent := (p.x, .inst 285 p.dx)
noncomputable abbrev dA (p : DA) : Ent := (p.dx, .ats ["defaults", "maps", "properties", "words"] [some (.val (.ref p.df)), some (.val (.ref p.mp)), some (.val (.ref p.pr)), some (.val (.ref p.wo))])
noncomputable abbrev dF (p : DA) : Ent := (p.df, .dictS dflts)
noncomputable abbrev dM (p : DA) (maps : List (Str × D)) : Ent := (p.mp, .dictS maps)
theorem f_data_new (rm : Rm A (n + 3)) (h : ∀ p : DA, Q (.val (.ref p.x)) (dM p [] :: dF p :: dI p :: dA p :: R)) : Cal c A (.ref 285) [] R Q X := by
  refine ca_new2 (nms := ["defaults", "maps", "properties", "words"]) (n := n + 2) [none, none, none, none] rm new_data rfl fun A1 x dx rm1 => ?_
  refine call_Data_init rm1 fun env A' L fe fn rm' hfr => ?_
  conv => arg 4; whnf
  walk_at "go"
  refine f_data_defaults rm' fun df => ?_
  walk_at "go"
  refine ev_dict0S fun mp => ?_
  walk_at "go"
  refine ev_dict0S fun pr => ?_
  walk_at "go"
  refine ev_dict0S fun wo => ?_
  walk_at "go"
  exact back_next ⟨rfl, h ⟨x, dx, df, mp, pr, wo⟩⟩ (by walk_at "r") (.drop rfl (.drop rfl .nil))
theorem f_map_has {p : DA} {maps : List (Str × D)} {name : Str} {r : Addr} (rm : Rm A (n + 1)) (m1 : Has (dI p) R) (m2 : Has (dA p) R) (m3 : Has (dM p maps) R) (hl : look maps name = some (.val (.ref r))) (h : Q (.val (.ref r)) R) : Cal c A (.ref 282) [.val (.ref p.x), .str name] R Q X := by
  refine CalC.cal (call_Data_map_of rm fun env A' L fe fn rm' hfr => ?_)
  conv => arg 4; whnf
  walk_at "go"
  walk_at "if"
  walk_at "go"
  refine at_own (.tail m1) (.tail m2) get_data_maps (by walk_at "l") rfl ?_
  refine notin_S (.tail m3) ?_
  rw [hl]
  walk_at "go"
  refine ⟨fun hb => (by cases hb), fun _ => ?_⟩
  walk_at "go"
  refine at_own (.tail m1) (.tail m2) get_data_maps (by walk_at "l") rfl ?_
  walk_at "go"
  refine su_S (.tail m3) hl ?_ (by intro _ _; rfl)
  walk_at "go"
  walk_at "out"
theorem f_map_new {p : DA} {maps : List (Str × D)} {name d : Str} (rm : Rm A (n + 3)) (hl : look maps name = none) (hd : look dflts name = some (.str d)) (hz : maps.length ≤ 900)
    (h : ∀ r dr, Q (.val (.ref r)) (rmI r dr :: rmA dr d [0] [d] :: dM p (put maps name (.val (.ref r))) :: dF p :: dI p :: dA p :: R)) : Cal c A (.ref 282) [.val (.ref p.x), .str name] (dM p maps :: dF p :: dI p :: dA p :: R) Q X := by
  refine CalC.cal (call_Data_map_of rm fun env A' L fe fn rm' hfr => ?_)
  conv => arg 4; whnf
  walk_at "go"
  walk_at "if"
  walk_at "go"
  refine notin_S (by walk_at "h") ?_
  rw [hl]
  walk_at "go"
  refine ⟨fun _ => ?_, fun hb => (by cases hb)⟩
  walk_at "go"
  refine get_S (by walk_at "h") ?_
  rw [hd]
  walk_at "go"
  refine f_rm_new rm' fun r dr => ?_
  walk_at "go"
  refine si_S (k := name) (by walk_at "u") (by lia) ?_
  walk_at "go"
  refine su_S (by walk_at "h") (d := .val (.ref r)) ?_ ?_ (by intro _ _; rfl)
  · exact look_put _ _ _
  walk_at "go"
  have h := h r dr
  walk_at "out"
end
section
variable {c : Cx} {A : Around} {env : Env} {L : Addr} {n : Nat} {R R0 R1 R2 : Led} {Q : D → Led → Prop} {X : Addr → D → Led → Prop}
theorem f_rm_put_at {x dx : Addr} {dflt value : Str} {starts : List Int} {values : List Str} {first last : Int} (rm : Rm A (n + 2)) (h0 : 0 ≤ first) (h1 : first ≤ last) (h2 : last ≤ 1114111)
    (hz : starts.length ≤ 10000) (hl : values.length = starts.length) (hs : starts.Pairwise (· ≤ ·)) (hh : 0 < starts.countP (· ≤ last + 1)) (m : Has (rmI x dx) R)
    (u : Upd dx (rmA dx dflt starts values).2 (rmA dx dflt (rmPut starts values first last value).1 (rmPut starts values first last value).2).2 R R1) (h : Q .none R1) : Cal c A (.ref 214) [.val (.ref x), .int first, .int last, .str value] R Q X :=
  Cal.at2 (f_rm_put (R := []) rm h0 h1 h2 hz hl hs hh ⟨rfl, rfl⟩) m u (fun e => by cases e) h
theorem f_data_put {p : DA} {maps : List (Str × D)} {name : Str} {x dx : Addr} {dflt value : Str} {starts : List Int} {values : List Str} {first last : Int} (rm : Rm A (n + 3)) (h0 : 0 ≤ first) (h1 : first ≤ last) (h2 : last ≤ 1114111)
    (hz : starts.length ≤ 10000) (hl : values.length = starts.length) (hs : starts.Pairwise (· ≤ ·)) (hh : 0 < starts.countP (· ≤ last + 1)) (m1 : Has (dI p) R) (m2 : Has (dA p) R) (m3 : Has (dM p maps) R) (hk : look maps name = some (.val (.ref x))) (m : Has (rmI x dx) R)
    (u : Upd dx (rmA dx dflt starts values).2 (rmA dx dflt (rmPut starts values first last value).1 (rmPut starts values first last value).2).2 R R1) (h : Q .none R1) : Cal c A (.ref 268) [.val (.ref p.x), .str name, .int first, .int last, .str value] R Q X := by
  refine CalC.cal (call_Data_put rm fun env A' L fe fn rm' hfr => ?_)
  conv => arg 4; whnf
  refine ex_cons (sx_expr fe ?_ (hs := by intro _; rfl))
  refine ev_meth ?_ (hbase := by with_unfolding_all rfl) (hfew := by with_unfolding_all rfl) (hline := by with_unfolding_all rfl)
  refine ev_meth ?_ (hbase := by with_unfolding_all rfl) (hfew := by with_unfolding_all rfl) (hline := by with_unfolding_all rfl)
  walk_at "go"
  refine methd (gm_inst (.tail m1) (.tail m2) meth_data_map_of (by decide)) (by walk_at "cab") ?_
  walk_at "go"
  refine f_map_has rm' (.tail m1) (.tail m2) (.tail m3) hk ?_
  refine methd (gm_inst (.tail m) (.tail u.has) meth_rm_put (by decide)) (by walk_at "cab") ?_
  walk_at "go"
  refine f_rm_put_at rm' h0 h1 h2 hz hl hs hh (.tail m) (.tail u) ?_
  walk_at "go"
  walk_at "out"
theorem f_data_get {p : DA} {maps : List (Str × D)} {name : Str} {x dx : Addr} {dflt v : Str} {starts : List Int} {values : List Str} {code : Int} (rm : Rm A (n + 3)) (m1 : Has (dI p) R) (m2 : Has (dA p) R) (m3 : Has (dM p maps) R) (hk : look maps name = some (.val (.ref x))) (m : Has (rmI x dx) R) (mA : Has (rmA dx dflt starts values) R)
    (hz : starts.length ≤ 100000) (hs : starts.Pairwise (· ≤ ·)) (h0 : 0 ≤ pbh starts code) (hv : values[(pbh starts code).toNat]? = some v) (h : Q (.str v) R) : Cal c A (.ref 275) [.val (.ref p.x), .str name, .int code] R Q X := by
  refine CalC.cal (call_Data_get rm fun env A' L fe fn rm' hfr => ?_)
  conv => arg 4; whnf
  walk_at "go"
  walk_at "if"
  walk_at "go"
  refine at_own (.tail m1) (.tail m2) get_data_maps (by walk_at "l") rfl ?_
  refine in_S (.tail m3) ?_
  rw [hk]
  walk_at "go"
  refine ⟨fun _ => ?_, fun hb => (by cases hb)⟩
  refine ex_cons (sx_return ?_)
  refine ev_meth ?_ (hbase := by with_unfolding_all rfl) (hfew := by with_unfolding_all rfl) (hline := by with_unfolding_all rfl)
  walk_at "go"
  refine at_own (.tail m1) (.tail m2) get_data_maps (by walk_at "l") rfl ?_
  walk_at "go"
  refine su_S (.tail m3) hk ?_ (by intro _ _; rfl)
  refine methd (gm_inst (.tail m) (.tail mA) meth_rm_get (by decide)) (by walk_at "cab") ?_
  walk_at "go"
  refine f_rm_get rm' (.tail m) (.tail mA) hz hs h0 hv ?_
  walk_at "go"
  walk_at "out"
theorem f_data_get0 {p : DA} {maps : List (Str × D)} {name v : Str} {code : Int} (rm : Rm A (n + 3)) (m1 : Has (dI p) R) (m2 : Has (dA p) R) (m3 : Has (dM p maps) R) (mF : Has (dF p) R) (hk : look maps name = none) (hv : look dflts name = some (.str v)) (h : Q (.str v) R) : Cal c A (.ref 275) [.val (.ref p.x), .str name, .int code] R Q X := by
  refine CalC.cal (call_Data_get rm fun env A' L fe fn rm' hfr => ?_)
  conv => arg 4; whnf
  walk_at "go"
  walk_at "if"
  walk_at "go"
  refine at_own (.tail m1) (.tail m2) get_data_maps (by walk_at "l") rfl ?_
  refine in_S (.tail m3) ?_
  rw [hk]
  walk_at "go"
  refine ⟨fun hb => (by cases hb), fun _ => ?_⟩
  walk_at "go"
  refine at_own (.tail m1) (.tail m2) get_data_defaults (by walk_at "l") rfl ?_
  refine methd (gm_S (.tail mF) PySem.F.slot_dict_get PySem.F.type_dict_get PySem.F.plainAttrs_dict) (by walk_at "cab") ?_
  walk_at "go"
  refine get_S (.tail mF) ?_
  rw [hv]
  walk_at "go"
  show Back L Q (.ret (.str v)) _
  walk_at "out"
end
section
variable {c : Cx} {A : Around} {env : Env} {L : Addr} {n : Nat} {R R0 R1 R2 : Led} {Q : D → Led → Prop} {X : Addr → D → Led → Prop}
noncomputable abbrev deckD (cl : Addr) (m t : Int) : Sh := .dictS [("cells", .val (.ref cl)), ("mixed", .int m), ("turn", .int t)]
set_option tactic.hygienic true in
theorem mul_ok {i j : Int} (hi : i.natAbs < 9223372036854775808) : IntMulOk i j := by
  refine IntMulOk.of_left ?_
  unfold Builtin.Int.intBits
  split
  · decide
  · rename_i h0
    have : i.natAbs.log2 < 63 := (Nat.log2_lt (by simpa using h0)).mpr hi
    lia
theorem f_draw {dk cl : Addr} {m t below : Int} {cells : List Int} (rm : Rm A (n + 1)) (hb : 0 < below) (hb2 : below < 4294967296) (hm : 0 ≤ m) (hm2 : m < 2147483587) (ht : 0 ≤ t) (ht2 : t < 1000000) (hz : cells.length ≤ 1000) :
    Cal c A (.ref 301) [.val (.ref dk), .int below] [(dk, deckD cl m t), (cl, .list (cells.map .int))] (fun d R' => ∃ (v : Int) (cs : List Int), d = .int v ∧ 0 ≤ v ∧ v < below ∧ cs.length ≤ cells.length ∧ R' = [(dk, deckD cl m (t + 1)), (cl, .list (cs.map D.int))]) NoX := by
  refine CalC.cal (call_law_draw rm fun env A' L fe fn rm' hfr => ?_)
  conv => arg 4; whnf
  walk_at "go"
  refine su_S (k := "turn") (d := .int t) (by walk_at "h") (by rfl) ?_ (by intro _ _; rfl)
  walk_at "go"
  refine si_S (k := "turn") (by walk_at "u") (by simp) ?_
  change Thn c A' env _ _ _ Fl.next ((L, _) :: (dk, deckD cl m (t + 1)) :: _)
  walk_at "go"
  refine su_S (k := "mixed") (d := .int m) (by walk_at "h") (by rfl) ?_ (by intro _ _; rfl)
  walk_at "go"
  refine su_S (k := "turn") (d := .int (t + 1)) (by walk_at "h") (by rfl) ?_ (by intro _ _; rfl)
  refine bi_mul (mul_ok (by decide)) ?_
  walk_at "go"
  refine su_S (k := "turn") (d := .int (t + 1)) (by walk_at "h") (by rfl) ?_ (by intro _ _; rfl)
  refine bi_mul (mul_ok (by lia)) ?_
  walk_at "go"
  have hq : 0 ≤ m + 65521 * (t + 1) * (t + 1) := by
    have : 0 ≤ 65521 * (t + 1) * (t + 1) := Int.mul_nonneg (by lia) (by lia)
    lia
  generalize m + 65521 * (t + 1) * (t + 1) = fig at hq ⊢
  walk_at "if"
  walk_at "go"
  refine su_S (k := "cells") (d := .val (.ref cl)) (by walk_at "h") (by rfl) ?_ (by intro _ _; rfl)
  walk_at "go"
  refine ⟨by simp, newl_f ?_⟩
  refine cm_neNil rm' (by walk_at "lv") lv_f ?_
  walk_at "go"
  refine ⟨fun hc => ?_, fun hc => ?_⟩
  · obtain ⟨cs, c1, rfl⟩ : ∃ cs c1, cells = cs ++ [c1] := by
      rcases List.eq_nil_or_concat cells with rfl | ⟨cs, c1, rfl⟩
      · simp at hc
      · exact ⟨cs, c1, by simp⟩
    clear hc
    rw [List.map_append, List.map_cons, List.map_nil]
    rw [List.length_append, List.length_singleton] at hz
    refine ex_cons (sx_name fe ?_ (hs := by intro _; rfl))
    refine ev_meth ?_ (hbase := by with_unfolding_all rfl) (hfew := by with_unfolding_all rfl) (hline := by with_unfolding_all rfl)
    walk_at "go"
    refine su_S (k := "cells") (d := .val (.ref cl)) (by walk_at "h") (by rfl) ?_ (by intro _ _; rfl)
    refine methd (gm_list (ds := cs.map .int ++ [.int c1]) (by walk_at "h") PySem.F.slot_list_pop PySem.F.type_list_pop PySem.F.plainAttrs_list) (by walk_at "cab") ?_
    walk_at "go"
    refine ca_pop (ds := cs.map .int) (x := .int c1) (by walk_at "u") (by rw [sizeLine_is, List.length_map]; lia) ?_
    walk_at "go"
    walk_at "if"
    walk_at "go"
    refine ⟨fun hd => ?_, fun hd => ?_⟩
    · refine ex_cons (sx_expr fe ?_ (hs := by intro _; rfl))
      refine ev_meth ?_ (hbase := by with_unfolding_all rfl) (hfew := by with_unfolding_all rfl) (hline := by with_unfolding_all rfl)
      walk_at "go"
      refine su_S (k := "cells") (d := .val (.ref cl)) (by walk_at "h") (by rfl) ?_ (by intro _ _; rfl)
      refine methd (gm_append (by walk_at "h")) (by walk_at "cab") ?_
      walk_at "go"
      refine bi_div hb hb2 ?_
      walk_at "go"
      refine ca_append (ds := cs.map .int) (by walk_at "u") (by rw [sizeLine_is, List.length_map]; lia) ?_
      walk_at "go"
      refine bi_mod hb ?_
      walk_at "go"
      refine back_ret ⟨c1 % below, cs ++ [c1 / below], rfl, Int.emod_nonneg _ (by lia), Int.emod_lt_of_pos _ hb, by simp, ?_⟩ (by walk_at "r") .nil
      rw [List.map_append]; rfl
    · walk_at "go"
      refine bi_mod (by decide) ?_
      walk_at "go"
      walk_at "go"
      refine bi_mod (by decide) ?_
      walk_at "go"
      refine bi_mul (mul_ok (by lia)) ?_
      walk_at "go"
      refine bi_mod (by decide) ?_
      walk_at "go"
      generalize hf1 : _ % (2147483647 : Int) = f1
      have g1 : 0 ≤ f1 ∧ f1 < 2147483647 := by rw [← hf1]; lia
      refine bi_mul (mul_ok (by lia)) ?_
      walk_at "go"
      refine bi_mod (by decide) ?_
      walk_at "go"
      generalize hf2 : _ % (2147483587 : Int) = f2
      have g2 : 0 ≤ f2 ∧ f2 < 2147483587 := by rw [← hf2]; lia
      refine bi_mul (mul_ok (by lia)) ?_
      walk_at "go"
      refine bi_mod (by decide) ?_
      walk_at "go"
      refine bi_div (by decide) (by decide) ?_
      walk_at "go"
      refine bi_mod hb ?_
      walk_at "go"
      exact back_ret ⟨_, cs, rfl, Int.emod_nonneg _ (by lia), Int.emod_lt_of_pos _ hb, by simp, rfl⟩ (by walk_at "r") .nil
  · walk_at "go"
    refine bi_mod (by decide) ?_
    walk_at "go"
    refine bi_mul (mul_ok (by lia)) ?_
    walk_at "go"
    refine bi_mod (by decide) ?_
    walk_at "go"
    generalize hf1 : _ % (2147483647 : Int) = f1
    have g1 : 0 ≤ f1 ∧ f1 < 2147483647 := by rw [← hf1]; lia
    refine bi_mul (mul_ok (by lia)) ?_
    walk_at "go"
    refine bi_mod (by decide) ?_
    walk_at "go"
    generalize hf2 : _ % (2147483587 : Int) = f2
    have g2 : 0 ≤ f2 ∧ f2 < 2147483587 := by rw [← hf2]; lia
    refine bi_mul (mul_ok (by lia)) ?_
    walk_at "go"
    refine bi_mod (by decide) ?_
    walk_at "go"
    refine bi_div (by decide) (by decide) ?_
    walk_at "go"
    refine bi_mod hb ?_
    walk_at "go"
    exact back_ret ⟨_, cells, rfl, Int.emod_nonneg _ (by lia), Int.emod_lt_of_pos _ hb, Nat.le_refl _, rfl⟩ (by walk_at "r") .nil
end
section
variable {c : Cx} {A : Around} {env : Env} {L : Addr} {n : Nat} {R R0 R1 R2 : Led} {Q : D → Led → Prop} {X : Addr → D → Led → Prop}
theorem f_pick {dk cl : Addr} {m t : Int} {cells : List Int} {ds : List D} (rm : Rm A (n + 2)) (hb : 0 < ds.length) (hb2 : ds.length ≤ 1000) (hm : 0 ≤ m) (hm2 : m < 2147483587) (ht : 0 ≤ t) (ht2 : t < 1000000) (hz : cells.length ≤ 1000) :
    Cal c A (.ref 308) [.val (.ref dk), .lst ds] [(dk, deckD cl m t), (cl, .list (cells.map .int))] (fun d R' => ∃ (cs : List Int), d ∈ ds ∧ cs.length ≤ cells.length ∧ R' = [(dk, deckD cl m (t + 1)), (cl, .list (cs.map D.int))]) NoX := by
  refine CalC.cal (call_law_pick rm fun env A' L fe fn rm' hfr => ?_)
  conv => arg 4; whnf
  walk_at "go"
  refine ca_lenL (by walk_at "lv") (by rw [sizeLine_is]; lia) ?_
  walk_at "go"
  refine Cal.frame (f_draw (below := (ds.length : Int)) rm' (by lia) (by lia) hm hm2 ht ht2 hz) (.cons (.tail .head) (.cons (.tail .head) .nil)) ?_ (fun _ _ _ h => h.elim)
  rintro d R' ⟨v, cs, rfl, h0, h1, h2, rfl⟩
  have lt : v.toNat < ds.length := by lia
  refine su_list (x := ds[v.toNat]) (by walk_at "lv") h0 (by lia) (List.getElem?_eq_getElem lt) ?_
  walk_at "go"
  exact back_ret ⟨cs, List.getElem_mem lt, h2, rfl⟩ (.tail (.tail .head)) .nil
noncomputable def kinds : List (Int × Int × Str) := [(97, 99, "Ll"), (768, 770, "Mn"), (1160, 1160, "Me"), (1574, 1578, "Lo"), (8204, 8205, "Cf"), (119552, 119552, "Mn")]
theorem f_kinds (rm : Rm A (n + 1)) (h : Q (.lst (kinds.map rowD)) R) : Cal c A (.ref 315) [] R Q X := by
  refine CalC.cal (call_law_kinds rm fun env A' L fe fn rm' hfr => ?_)
  conv => arg 4; whnf
  walk_at "go"
  iterate 6 (refine ⟨by simp, ?_⟩; walk_at "go")
  refine ⟨by simp, newl_f ?_⟩
  walk_at "go"
  exact back_ret h (by walk_at "r") .nil
end
section
variable {c : Cx} {A : Around} {env : Env} {L : Addr} {n : Nat} {R R0 R1 R2 : Led} {Q : D → Led → Prop} {X : Addr → D → Led → Prop}
theorem f_octets {x : Str} (rm : Rm A (n + 1)) (hz : x.cps.size ≤ 100000) (hx : ∀ k ∈ x.cps.toList, k < 256) (h : Q (.bytes x.cps.toList) R) : Cal c A (.ref 347) [.str x] R Q X := by
  refine CalC.cal (call_law_octets rm fun env A' L fe fn rm' hfr => ?_)
  conv => arg 4; whnf
  walk_at "go"
  refine ev_map ["sign"] [("ord", .val (.builtin "ord"))] [] rm' fe ce_none (by kernel_rfl) (by simp) (Globs.mem (.cons g_ord .nil)) ?_ (by intro _ _; rfl)
  walk_at "go"
  refine ⟨_, x.cps.toList.map fun k : Nat => .int (k : Int), .str, by simpa using hz, by simp, fun i a y cvs C env' h1 h2 h3 fe' ce' => ?_, ?_⟩
  · match cvs, h3 with
    | [v], _ =>
      rw [List.getElem?_map, Option.map_eq_some_iff] at h1
      obtain ⟨k, hk, rfl⟩ := h1
      rw [List.getElem?_map, hk] at h2
      cases h2
      walk_at "go"
      exact ⟨rfl, rfl⟩
  · refine newl_f ?_
    walk_at "go"
    refine ca_bytesL rm' (by walk_at "lv") hx (by rw [sizeLine_is, Array.length_toList]; lia) ?_
    walk_at "go"
    walk_at "out"
noncomputable def strOf (l : List Nat) : Str := ⟨l.toArray⟩
theorem f_hex {code : Nat} (rm : Rm A (n + 1)) (hz : code < 16777216) (h : Q (.str (strOf (hexB code))) R) : Cal c A (.ref 342) [.int (code : Int)] R Q X := by
  refine CalC.cal (call_law_hex rm fun env A' L fe fn rm' hfr => ?_)
  conv => arg 4; whnf
  walk_at "go"
  refine sx_while fn hfr (fun k R' => ∃ (acc : List Nat) (r : Nat), R' = (L, .loc ["code", "found"] [some (.int (r : Int)), some (.str (strOf acc.reverse))]) :: R ∧
    hexLoop k r acc = hexLoop 6 code [] ∧ r < 16 ^ k ∧ 4 ≤ acc.length + k ∧ acc.length + k = 6) 6 ⟨[], code, rfl, rfl, by lia, by simp, by simp⟩ ?_
  rintro k R' ⟨acc, r, rfl, h1, h2, h3, h4⟩
  have hlen : acc.length ≤ 6 := by lia
  have hs : (strOf acc.reverse).length = acc.length := by simp [strOf, Str.length]
  refine tst_cut (decide (0 < r ∨ acc.length < 4)) ?_ ?_
  · walk_at "bo"
    walk_at "go"
    refine ⟨fun hb => ?_, fun hb => ?_⟩ <;> simp only [decide_eq_true_eq, decide_eq_false_iff_not] at hb
    · walk_at "go"
      exact ⟨by simp; lia, rfl⟩
    · walk_at "bo"
      walk_at "go"
      refine ca_lenS (by rw [hs]; lia) ?_
      walk_at "go"
      rw [hs]
      refine ⟨fun hb => ?_, fun hb => ?_⟩ <;> simp only [decide_eq_true_eq, decide_eq_false_iff_not] at hb <;> walk_at "go" <;> exact ⟨by simp; lia, rfl⟩
  refine ⟨fun hb => ?_, fun hb => ?_⟩ <;> simp only [decide_eq_true_eq, decide_eq_false_iff_not] at hb
  · walk_at "go"
    refine sx_swap2 "found" "code" fe fn rm' ?_ (by intro _; rfl) (by intro _ _ _ _; rfl)
    walk_at "go"
    refine bi_mod (by decide) ?_
    have e1 : (r : Int) % 16 = ((r % 16 : Nat) : Int) := by lia
    rw [e1]
    refine su_str (n := hexDig (r % 16)) (by lia) (by lia) ?_ ?_
    · rw [Int.toNat_natCast]
      have : ∀ k < 16, (Str.ofString "0123456789ABCDEF").cps.toList[k]? = some (hexDig k) := by decide +kernel
      exact this _ (Nat.mod_lt _ (by decide))
    walk_at "go"
    refine bi_addS (by rw [hs, sizeLine_is]; simp [Str.length]; lia) ?_
    walk_at "go"
    refine bi_div (by decide) (by decide) ?_
    have e2 : (r : Int) / 16 = ((r / 16 : Nat) : Int) := by lia
    rw [e2]
    walk_at "go"
    refine ⟨by simp, _, _, rfl, ?_⟩
    have e3 : (⟨#[hexDig (r % 16)]⟩ : Str) ++ strOf acc.reverse = strOf (acc ++ [hexDig (r % 16)]).reverse := by
      rw [List.reverse_append]
      show (⟨#[hexDig (r % 16)] ++ acc.reverse.toArray⟩ : Str) = ⟨_⟩
      congr 1
      simp
    rw [e3]
    walk_at "go"
    cases k with
    | zero => simp at h2; lia
    | succ k =>
      refine ⟨k, Nat.lt_succ_self _, acc ++ [hexDig (r % 16)], r / 16, rfl, ?_, ?_, by simp; lia, by simp; lia⟩
      · rw [← h1, hexLoop, if_pos hb]
      · rw [Nat.pow_succ] at h2; lia
  · walk_at "go"
    have e3 : acc = hexLoop 6 code [] := by
      rw [← h1]
      cases k with
      | zero => rfl
      | succ k => rw [hexLoop, if_neg hb]
    unfold hexB at h
    rw [← e3] at h
    walk_at "out"
end
section
variable {c : Cx} {A : Around} {env : Env} {L : Addr} {n : Nat} {R R0 R1 R2 : Led} {Q : D → Led → Prop} {X : Addr → D → Led → Prop}
noncomputable def rowCodes (r : Int × Int × Str) : List Int := (List.range (r.2.1 + 1 - r.1).toNat).map fun i : Nat => r.1 + (i : Int)
noncomputable def codes : List Int := kinds.flatMap rowCodes
theorem f_codes (rm : Rm A (n + 2)) (h : Q (.lst (codes.map .int)) R) : Cal c A (.ref 323) [] R Q X := by
  refine CalC.cal (call_law_codes rm fun env A' L fe fn rm' hfr => ?_)
  conv => arg 4; whnf
  walk_at "go"
  refine ⟨by simp, newl_f ?_⟩
  walk_at "go"
  refine sx_for fn hfr rm'.handled ?_ (by intro _ _; rfl)
  walk_at "go"
  refine f_kinds rm' ?_
  refine opq (fun (i : Nat) (R' : Led) => ∃ u v w, R' = (L, .loc ["found", "first", "last", "kind"] [some (.lst (((kinds.take i).flatMap rowCodes).map .int)), u, v, w]) :: R) fun J hJ => ?_
  refine ⟨_, .lst, J, (hJ _ _).mpr ⟨_, _, _, rfl⟩, ?_, ?_⟩
  · intro i x R' hi hjj
    obtain ⟨u, v, w, rfl⟩ := (hJ _ _).mp hjj
    clear hjj
    rw [List.getElem?_map, Option.map_eq_some_iff] at hi
    obtain ⟨r, hr, rfl⟩ := hi
    have hb : 0 ≤ r.1 ∧ r.1 < 200000 ∧ 0 ≤ r.2.1 ∧ r.2.1 < 200000 ∧ (rowCodes r).length ≤ 5 := by
      have : ∀ r ∈ kinds, 0 ≤ r.1 ∧ r.1 < 200000 ∧ 0 ≤ r.2.1 ∧ r.2.1 < 200000 ∧ (rowCodes r).length ≤ 5 := by decide +kernel
      exact this r (List.mem_of_getElem? hr)
    walk_at "go"
    refine ca_range2 ⟨by omega, by omega, by omega, by omega⟩ ?_
    walk_at "go"
    refine ca_listRange rm' (by omega) ?_
    have e1 : ((List.range (r.2.1 + 1 - r.1).toNat).map fun i : Nat => D.int (r.1 + (i : Int))) = (rowCodes r).map .int := by unfold rowCodes; rw [List.map_map]; rfl
    rw [e1]
    have hl : ((kinds.take i).flatMap rowCodes).length ≤ 15 := by
      have : ∀ j ≤ 6, ((kinds.take j).flatMap rowCodes).length ≤ 15 := by decide +kernel
      have lt := (List.getElem?_eq_some_iff.mp hr).1
      exact this i (Nat.le_of_lt lt)
    refine bi_addL (by walk_at "lv") (by walk_at "lv") (by rw [sizeLine_is]; simp only [List.length_map]; omega) (newl_f ?_)
    walk_at "go"
    have e9 : ((kinds.take (i + 1)).flatMap rowCodes).map D.int = ((kinds.take i).flatMap rowCodes).map D.int ++ (rowCodes r).map D.int := by
      rw [List.take_add_one, hr, List.flatMap_append, List.map_append]; simp
    refine (hJ _ _).mpr ?_
    simp only [e9]
    exact ⟨_, _, _, rfl⟩
  · intro R' hjj
    obtain ⟨u, v, w, rfl⟩ := (hJ _ _).mp hjj
    clear hjj hJ
    rw [List.length_map, List.take_length]
    walk_at "go"
    exact back_ret h (by walk_at "r") .nil
end
section
variable {c : Cx} {A : Around} {env : Env} {L : Addr} {n : Nat} {R R0 R1 R2 : Led} {Q : D → Led → Prop} {X : Addr → D → Led → Prop}
noncomputable def passR (code : Int) (r : Int × Int × Str) : Bool := decide (r.1 ≤ code ∧ code ≤ r.2.1) && joiningThrough.contains r.2.2
noncomputable def passP (code : Int) : D → Bool
  | .tup [.int f, .int l, .str k] => passR code (f, l, k)
  | _ => false
noncomputable def thirdD : D → D
  | .tup [_, _, x] => x
  | _ => .none
noncomputable def passed (code : Int) : Bool := kinds.any (passR code)
theorem passP_any (code : Int) : ∀ rows : List (Int × Int × Str), (!(((rows.map rowD).filter (passP code)).map thirdD).isEmpty) = rows.any (passR code)
  | [] => rfl
  | r :: rows => by
    rw [List.map_cons, List.filter_cons, List.any_cons, ← passP_any code rows]
    show (!(List.map thirdD (if passR code r = true then _ else _)).isEmpty) = _
    cases passR code r <;> simp
theorem f_is_passed {code : Int} (rm : Rm A (n + 2)) (h : Q (.bool (passed code)) R) : Cal c A (.ref 328) [.int code] R Q X := by
  refine CalC.cal (call_law_is_passed rm fun env A' L ad fe ce fn rm' hfr => ?_)
  conv => arg 4; whnf
  walk_at "go"
  refine ev_filt ["first", "last", "kind"] [] ["code"] rm' fe ce (by kernel_rfl) (by simp) (Globs.mem .nil) ?_ (by intro _ _; rfl)
  walk_at "go"
  refine f_kinds rm' ?_
  refine ⟨_, passP code, thirdD, .lst, by simp [kinds], fun i y cvs C env' hi h3 fe' ce' => ?_, ?_⟩
  · match cvs, h3 with
    | [v1, v2, v3], _ =>
      rw [List.getElem?_map, Option.map_eq_some_iff] at hi
      obtain ⟨r, hr, rfl⟩ := hi
      walk_at "go"
      refine tst_cut (passR code r) ?_ ⟨rfl, fun hb => ?_, fun hb => ?_⟩
      · walk_at "bo"
        walk_at "go"
        refine ⟨fun hc => ?_, fun hc => ?_⟩ <;> simp only [decide_eq_true_eq, decide_eq_false_iff_not] at hc
        · walk_at "go"
          refine ⟨fun hd => ?_, fun hd => ?_⟩ <;> simp only [decide_eq_true_eq, decide_eq_false_iff_not] at hd
          · walk_at "bo"
            walk_at "go"
            refine ⟨by simp, ?_⟩
            refine cm_inT (ys := joiningThrough) ?_
            walk_at "go"
            refine ⟨fun he => ?_, fun he => ?_⟩
            · walk_at "go"
              exact ⟨by unfold passR; rw [he]; simp [hc, hd], rfl⟩
            · exact ⟨by unfold passR; rw [he]; simp, rfl⟩
          · walk_at "go"
            exact ⟨by unfold passR; simp [hd], rfl⟩
        · walk_at "go"
          exact ⟨by unfold passR; simp [hc], rfl⟩
      · walk_at "go"
        exact ⟨rfl, rfl⟩
      · exact cloc (by walk_at "r") rfl rfl
  · refine newl_f ?_
    walk_at "go"
    refine ⟨by simp, newl_f ?_⟩
    refine cm_neNil rm' lv_f lv_f ?_
    rw [passP_any]
    unfold passed at h
    walk_at "go"
    walk_at "out"
end
section
variable {c : Cx} {A : Around} {env : Env} {L : Addr} {n : Nat} {R R0 R1 R2 : Led} {Q : D → Led → Prop} {X : Addr → D → Led → Prop}
theorem f_deck {xs : List Int} (rm : Rm A (n + 1)) (hz : xs.length ≤ 1000) (h : ∀ (dk cl : Addr) (m : Int) (cs : List Int), 0 ≤ m → m < 2147483587 → cs.length ≤ 24 → Q (.val (.ref dk)) ((dk, deckD cl m 0) :: (cl, .list (cs.map D.int)) :: R)) : Cal c A (.ref 294) [.lst (xs.map .int)] R Q X := by
  refine CalC.cal (call_law_deck rm fun env A' L fe fn rm' hfr => ?_)
  conv => arg 4; whnf
  walk_at "go"
  refine sx_swap2 "cells" "mixed" fe fn rm' ?_ (by intro _; rfl) (by intro _ _ _ _; rfl)
  walk_at "go"
  refine ev_map ["cell"] [("int", .val (.type "int"))] [] rm' fe ce_none (by kernel_rfl) (by simp) (Globs.mem (.cons g_int .nil)) ?_ (by intro _ _; rfl)
  walk_at "go"
  refine ev_slc (lo := none) (hi := some ((24 : Nat) : Int)) (st := none) trivial ?_ trivial ?_
  · show Ev _ _ _ _ _ _ _
    walk_at "go"
    exact ⟨rfl, rfl⟩
  refine su_slice (by walk_at "lv") (by rw [sizeLine_is, List.length_map]; lia) ?_
  rw [cut_to, ← List.map_take]
  have hl : (xs.take 24).length ≤ 24 := by rw [List.length_take]; lia
  generalize xs.take 24 = ys at hl ⊢
  walk_at "go"
  refine ⟨_, ys.map .int, .lst, by rw [List.length_map]; lia, rfl, fun i x y cvs C env' h1 h2 h3 fe' ce' => ?_, ?_⟩
  · match cvs, h3 with
    | [v], _ =>
      rw [List.getElem?_map, Option.map_eq_some_iff] at h1
      obtain ⟨k, hk, rfl⟩ := h1
      rw [List.getElem?_map, hk] at h2
      cases h2
      walk_at "go"
      exact ⟨rfl, rfl⟩
  refine newl_f ?_
  walk_at "go"
  refine ⟨by simp, _, _, rfl, ?_⟩
  walk_at "go"
  refine sx_for fn hfr rm'.handled ?_ (by intro _ _; rfl)
  walk_at "go"
  refine opq (fun (i : Nat) (R' : Led) => ∃ (v : Option D) (m : Int), 0 ≤ m ∧ m < 2147483587 ∧ R' = (L, .loc ["script", "cell", "cells", "mixed"] [some (.lst (xs.map .int)), v, some (.lst (ys.map .int)), some (.int m)]) :: R) fun J hJ => ?_
  refine ⟨_, .lst, J, (hJ _ _).mpr ⟨_, _, by decide, by decide, rfl⟩, ?_, ?_⟩
  · intro i x R' hi hjj
    obtain ⟨v, m, h0, h1, rfl⟩ := (hJ _ _).mp hjj
    clear hjj
    rw [List.getElem?_map, Option.map_eq_some_iff] at hi
    obtain ⟨k, hk, rfl⟩ := hi
    walk_at "go"
    refine bi_mul (mul_ok (by lia)) ?_
    walk_at "go"
    refine bi_mod (by decide) ?_
    walk_at "go"
    refine bi_mod (by decide) ?_
    walk_at "go"
    exact (hJ _ _).mpr ⟨_, _, Int.emod_nonneg _ (by decide), Int.emod_lt_of_pos _ (by decide), rfl⟩
  · intro R' hjj
    obtain ⟨v, m, h0, h1, rfl⟩ := (hJ _ _).mp hjj
    clear hjj hJ
    walk_at "go"
    refine ev_dict kS ?_ (by rfl) (by rfl) (by simp) (by decide)
    walk_at "go"
    refine ev_slc (lo := none) (hi := none) (st := some (-1)) trivial trivial ?_ ?_
    · show Ev _ _ _ _ _ _ _
      walk_at "go"
      exact ⟨rfl, rfl⟩
    refine su_rev (by walk_at "lv") (by rw [sizeLine_is, List.length_map]; lia) (newl_o fun cl => ?_)
    walk_at "go"
    intro dk
    walk_at "go"
    have h := h dk cl m ys.reverse h0 h1 (by rw [List.length_reverse]; exact hl)
    rw [List.map_reverse] at h
    exact back_ret h (.tail (.tail .head)) .nil
end
section
variable {c : Cx} {A : Around} {env : Env} {L : Addr} {n : Nat} {R R0 R1 R2 : Led} {Q : D → Led → Prop} {X : Addr → D → Led → Prop}
theorem f_octets_of_ascii {x : Str} (rm : Rm A (n + 2)) (hz : x.cps.size ≤ 100000) (hx : ∀ k ∈ x.cps.toList, k ≤ 127) (h : Q (.bytes x.cps.toList) R) : Cal c A (.ref 78) [.str x] R Q X := by
  refine CalC.cal (call_octets_of_ascii rm fun env A' L fe fn rm' hfr => ?_)
  conv => arg 4; whnf
  walk_at "go"
  refine f_codes_of rm' hz ?_
  walk_at "go"
  refine sx_for fn hfr rm'.handled ?_ (by intro _ _; rfl)
  walk_at "go"
  refine opq (fun (i : Nat) (R' : Led) => ∃ (v : Option D), R' = (L, .loc ["signs", "numbers", "number"] [some (.str x), some (.lst (x.cps.toList.map fun k : Nat => .int (k : Int))), v]) :: R) fun J hJ => ?_
  refine ⟨_, .lst, J, (hJ _ _).mpr ⟨_, rfl⟩, ?_, ?_⟩
  · intro i y R' hi hjj
    obtain ⟨v, rfl⟩ := (hJ _ _).mp hjj
    clear hjj
    rw [List.getElem?_map, Option.map_eq_some_iff] at hi
    obtain ⟨k, hk, rfl⟩ := hi
    have := hx k (List.mem_of_getElem? hk)
    walk_at "go"
    walk_at "if"
    walk_at "go"
    refine ⟨fun hb => ?_, fun hb => ?_⟩ <;> simp only [decide_eq_true_eq, decide_eq_false_iff_not] at hb
    · lia
    walk_at "go"
    exact (hJ _ _).mpr ⟨_, rfl⟩
  · intro R' hjj
    obtain ⟨v, rfl⟩ := (hJ _ _).mp hjj
    clear hjj hJ
    walk_at "go"
    refine ca_bytesL rm' (by walk_at "lv") (fun k hk => by have := hx k hk; lia) (by rw [sizeLine_is, Array.length_toList]; lia) ?_
    walk_at "go"
    walk_at "out"
theorem glued_chars (l : List Nat) : gluedS "" (l.map fun k => (⟨#[k]⟩ : Str)) = strOf l := by
  unfold gluedS strOf
  congr 1
  congr 1
  induction l with
  | nil => rfl
  | cons k r ih =>
    cases r with
    | nil => rfl
    | cons j r =>
      simp only [List.map_cons] at ih ⊢
      rw [joinB, ih]
      rfl
theorem f_ascii_of {l : List Nat} (rm : Rm A (n + 1)) (hz : l.length ≤ 100000) (hx : ∀ k ∈ l, k ≤ 127) (h : Q (.str (strOf l)) R) : Cal c A (.ref 83) [.bytes l] R Q X := by
  refine CalC.cal (call_ascii_of rm fun env A' L fe fn rm' hfr => ?_)
  conv => arg 4; whnf
  walk_at "go"
  refine sx_for fn hfr rm'.handled ?_ (by intro _ _; rfl)
  walk_at "go"
  refine opq (fun (i : Nat) (R' : Led) => ∃ (v : Option D), R' = (L, .loc ["octets", "octet"] [some (.bytes l), v]) :: R) fun J hJ => ?_
  refine ⟨_, .bytes, J, (hJ _ _).mpr ⟨_, rfl⟩, ?_, ?_⟩
  · intro i y R' hi hjj
    obtain ⟨v, rfl⟩ := (hJ _ _).mp hjj
    clear hjj
    rw [List.getElem?_map, Option.map_eq_some_iff] at hi
    obtain ⟨k, hk, rfl⟩ := hi
    have := hx k (List.mem_of_getElem? hk)
    walk_at "go"
    walk_at "if"
    walk_at "go"
    refine ⟨fun hb => ?_, fun hb => ?_⟩ <;> simp only [decide_eq_true_eq, decide_eq_false_iff_not] at hb
    · lia
    walk_at "go"
    exact (hJ _ _).mpr ⟨_, rfl⟩
  · intro R' hjj
    obtain ⟨v, rfl⟩ := (hJ _ _).mp hjj
    clear hjj hJ
    walk_at "go"
    refine ev_map ["octet"] [("chr", .val (.builtin "chr"))] [] rm' fe ce_none (by kernel_rfl) (by simp) (Globs.mem (.cons g_chr .nil)) ?_ (by intro _ _; rfl)
    walk_at "go"
    refine ⟨_, (l.map fun k => (⟨#[k]⟩ : Str)).map .str, .bytes, by rw [List.length_map]; exact hz, by simp, fun i x y cvs C env' h1 h2 h3 fe' ce' => ?_, ?_⟩
    · match cvs, h3 with
      | [v], _ =>
        rw [List.getElem?_map, Option.map_eq_some_iff] at h1
        obtain ⟨k, hk, rfl⟩ := h1
        have := hx k (List.mem_of_getElem? hk)
        rw [List.getElem?_map, List.getElem?_map, hk] at h2
        cases h2
        walk_at "go"
        refine ca_chr (by lia) (by lia) ?_
        rw [Int.toNat_natCast]
        walk_at "go"
        exact ⟨rfl, rfl⟩
    · refine newl_f ?_
      walk_at "go"
      refine ca_joinS (xs := l.map fun k => (⟨#[k]⟩ : Str)) (by walk_at "lv") ?_ ?_
      · rw [List.map_map]
        have : ∀ l : List Nat, (l.map ((fun x : Str => x.length + ("" : Str).length) ∘ fun k => (⟨#[k]⟩ : Str))).sum = l.length := by
          intro l
          induction l with
          | nil => rfl
          | cons k r ih =>
            have e0 : ("" : Str).length = 0 := by decide +kernel
            rw [List.map_cons, List.sum_cons, ih]
            show (1 + ("" : Str).length) + r.length = r.length + 1
            rw [e0]; lia
        rw [this]; lia
      rw [glued_chars]
      walk_at "go"
      walk_at "out"
end
section
variable {c : Cx} {A : Around} {env : Env} {L : Addr} {n : Nat} {R R0 R1 R2 : Led} {Q : D → Led → Prop} {X : Addr → D → Led → Prop}
theorem f_check_once {m : Addr} {kvs : List (Int × D)} {num code : Int} (rm : Rm A (n + 1)) (hk : look kvs code = none) (hz : kvs.length ≤ 900) (u : Upd m (.dictI kvs) (.dictI (put kvs code (.bool true))) R R1) (h : Q .none R1) : Cal c A (.ref 153) [.val (.ref m), .int num, .int code] R Q X := by
  refine CalC.cal (call_ucdmore_check_once rm fun env A' L fe fn rm' hfr => ?_)
  conv => arg 4; whnf
  walk_at "go"
  walk_at "if"
  walk_at "go"
  refine in_I (.tail u.has) ?_
  rw [hk]
  walk_at "go"
  refine ⟨fun hb => (by cases hb), fun _ => ?_⟩
  walk_at "go"
  refine si_I (k := code) (.tail u) (by lia) ?_
  walk_at "go"
  walk_at "out"
end
section
variable {c : Cx} {A : Around} {env : Env} {L : Addr} {n : Nat} {R R0 R1 R2 : Led} {Q : D → Led → Prop} {X : Addr → D → Led → Prop}
noncomputable abbrev pairD (q : Int × Str) : D := .tup [.int q.1, .str q.2]
noncomputable def toldRow (r : Int × Int × Str) : List (Int × Str) := (rowCodes r).map fun k => (k, r.2.2)
noncomputable def toldL (rows : List (Int × Int × Str)) : List (Int × Str) := rows.flatMap toldRow
theorem f_told {p : DA} {maps : List (Str × D)} {x dx : Addr} {starts : List Int} {values : List Str} (rm : Rm A (n + 3)) (m1 : Has (dI p) R) (m2 : Has (dA p) R) (m3 : Has (dM p maps) R) (hk : look maps "jt" = some (.val (.ref x))) (mI : Has (rmI x dx) R) (mA : Has (rmA dx "U" starts values) R)
    (hz : starts.length ≤ 10000) (hl : values.length = starts.length) (hb : ∀ r ∈ rmRanges "U" starts values, 0 ≤ r.1 ∧ r.1 ≤ 1114111 ∧ r.2.1 ≤ 1114111 ∧ 0 ≤ r.2.1) (ht : (toldL (rmRanges "U" starts values)).length ≤ 10000)
    (h : ∀ a, Q (.val (.ref a)) ((a, .list ((toldL (rmRanges "U" starts values)).map pairD)) :: R)) : Cal c A (.ref 174) [.val (.ref p.x), .str "jt", .str "U"] R Q X := by
  refine (CalC.cal (call_ucdmore_told rm fun env A' L fe fn rm' hfr => ?_))
  conv => arg 4; whnf
  walk_at "go"
  refine ⟨by simp, newl_o fun a => ?_⟩
  walk_at "go"
  refine sx_for fn hfr rm'.handled ?_ (by intro _ _; rfl)
  refine ev_meth ?_ (hbase := by with_unfolding_all rfl) (hfew := by with_unfolding_all rfl) (hline := by with_unfolding_all rfl)
  refine ev_meth ?_ (hbase := by with_unfolding_all rfl) (hfew := by with_unfolding_all rfl) (hline := by with_unfolding_all rfl)
  walk_at "go"
  refine methd (gm_inst (.tail (.tail m1)) (.tail (.tail m2)) meth_data_map_of (by decide)) (by walk_at "cab") ?_
  walk_at "go"
  refine f_map_has rm' (.tail (.tail m1)) (.tail (.tail m2)) (.tail (.tail m3)) hk ?_
  refine methd (gm_inst (.tail (.tail mI)) (.tail (.tail mA)) meth_rm_ranges (by decide)) (by walk_at "cab") ?_
  walk_at "go"
  refine f_rm_ranges rm' (.tail (.tail mI)) (.tail (.tail mA)) hz hl ?_
  have h := h a
  generalize hrows : rmRanges "U" starts values = rows at hb ht h ⊢
  have hne : ∀ r ∈ rows, ¬ r.2.2 = "U" := fun r hr => by
    rw [← hrows] at hr
    unfold rmRanges at hr
    have := (List.mem_filter.mp hr).2
    simpa using this
  refine opq (fun (i : Nat) (R' : Led) => ∃ u v w z, R' = (a, .list ((toldL (rows.take i)).map pairD)) :: (L, .loc ["data", "name", "nothing", "found", "first", "last", "value", "code"] [some (.val (.ref p.x)), some (.str "jt"), some (.str "U"), some (.val (.ref a)), u, v, w, z]) :: R) fun J hJ => ?_
  refine ⟨_, .lst, J, (hJ _ _).mpr ⟨_, _, _, _, rfl⟩, ?_, ?_⟩
  · intro i y R' hi hjj
    obtain ⟨u, v, w, z, rfl⟩ := (hJ _ _).mp hjj
    clear hjj
    rw [List.getElem?_map, Option.map_eq_some_iff] at hi
    obtain ⟨r, hr, rfl⟩ := hi
    have hmem := List.mem_of_getElem? hr
    have hb := hb r hmem
    have hne := hne r hmem
    walk_at "go"
    refine sx_for fn hfr rm'.handled ?_ (by intro _ _; rfl)
    refine ev_cut (.rng r.1 (r.2.1 + 1 - r.1).toNat) ?_ ?_
    · walk_at "ife"
      walk_at "go"
      refine ⟨fun _ => ?_, fun hq => (by simp only [bne_eq_false_iff_eq] at hq; exact absurd hq hne)⟩
      walk_at "go"
      refine ca_range2 ⟨by lia, by lia, by lia, by lia⟩ ?_
      exact ⟨rfl, rfl⟩
    refine opq (fun (j : Nat) (R' : Led) => ∃ z, R' = (a, .list ((toldL (rows.take i) ++ (toldRow r).take j).map pairD)) :: (L, .loc ["data", "name", "nothing", "found", "first", "last", "value", "code"] [some (.val (.ref p.x)), some (.str "jt"), some (.str "U"), some (.val (.ref a)), some (.int r.1), some (.int r.2.1), some (.str r.2.2), z]) :: R) fun J2 hJ2 => ?_
    refine ⟨_, .rng, J2, (hJ2 _ _).mpr ⟨z, by rw [List.take_zero, List.append_nil]⟩, ?_, ?_⟩
    · intro j y R' hj hjj
      obtain ⟨z, rfl⟩ := (hJ2 _ _).mp hjj
      clear hjj
      rw [List.getElem?_map, Option.map_eq_some_iff] at hj
      obtain ⟨j', hj, rfl⟩ := hj
      obtain ⟨hj1, hj2⟩ := List.getElem?_eq_some_iff.mp hj
      simp only [List.getElem_range] at hj2
      subst hj2
      simp only [List.length_range] at hj1
      walk_at "go"
      refine ⟨by simp, ?_⟩
      walk_at "go"
      refine ca_append (by walk_at "u") ?_ ?_
      · have l1 : (toldL (rows.take i)).length ≤ (toldL rows).length := by
          have : toldL rows = toldL (rows.take i) ++ toldL (rows.drop i) := by unfold toldL; rw [← List.flatMap_append, List.take_append_drop]
          rw [this, List.length_append]; lia
        have l2 : ((toldRow r).take j).length ≤ j := List.length_take_le _ _
        rw [sizeLine_is, List.length_map, List.length_append]; lia
      walk_at "go"
      have e10 : (toldL (rows.take i) ++ (toldRow r).take (j + 1)).map pairD = (toldL (rows.take i) ++ (toldRow r).take j).map pairD ++ [.tup [.int (r.1 + (j : Int)), .str r.2.2]] := by
        have : (toldRow r)[j]? = some (r.1 + (j : Int), r.2.2) := by
          unfold toldRow rowCodes
          rw [List.getElem?_map, List.getElem?_map, hj]; rfl
        rw [List.take_add_one, this, ← List.append_assoc, List.map_append]; rfl
      refine (hJ2 _ _).mpr ?_
      simp only [e10]
      exact ⟨_, rfl⟩
    · intro R' hjj
      obtain ⟨z, rfl⟩ := (hJ2 _ _).mp hjj
      clear hjj hJ2
      walk_at "go"
      have e9 : toldL (rows.take (i + 1)) = toldL (rows.take i) ++ (toldRow r).take (List.length ((List.range (r.2.1 + 1 - r.1).toNat).map fun i : Nat => D.int (r.1 + (i : Int)))) := by
        unfold toldL
        rw [List.take_add_one, hr, List.flatMap_append, List.take_of_length_le (l := toldRow r) (by unfold toldRow rowCodes; simp)]
        simp
      refine (hJ _ _).mpr ?_
      simp only [e9]
      exact ⟨_, _, _, _, rfl⟩
  · intro R' hjj
    obtain ⟨u, v, w, z, rfl⟩ := (hJ _ _).mp hjj
    clear hjj hJ
    rw [List.length_map, List.take_length]
    walk_at "go"
    exact back_ret h (by walk_at "r") .nil
end
section
variable {c : Cx} {A : Around} {env : Env} {L : Addr} {n : Nat} {R R0 R1 R2 : Led} {Q : D → Led → Prop} {X : Addr → D → Led → Prop}
theorem f_ucd_lines {l : List Nat} (rm : Rm A (n + 1)) (hz : l.length ≤ 100000) (hx : ¬ l.take 3 = [239, 187, 191]) (h : Q (.lst ((splitL 10 l).map .bytes)) R) : Cal c A (.ref 118) [.bytes l] R Q X := by
  refine CalC.cal (call_ucd_lines rm fun env A' L fe fn rm' hfr => ?_)
  conv => arg 4; whnf
  walk_at "go"
  walk_at "ife"
  walk_at "go"
  refine ca_starts ?_
  walk_at "go"
  refine ⟨fun hb => ?_, fun hb => ?_⟩
  · exact absurd (by simpa using hb) hx
  walk_at "go"
  refine ca_split (x := 10) (by rw [sizeLine_is]; lia) (newl_f ?_)
  walk_at "go"
  walk_at "out"
end
section
variable {c : Cx} {A : Around} {env : Env} {L : Addr} {n : Nat} {R R0 R1 R2 : Led} {Q : D → Led → Prop} {X : Addr → D → Led → Prop}
/-- a hex sign's worth -/
noncomputable def hexN (o : Nat) : Option Nat := if 48 ≤ o ∧ o ≤ 57 then some (o - 48) else if 65 ≤ o ∧ o ≤ 70 then some (o - 55) else if 97 ≤ o ∧ o ≤ 102 then some (o - 87) else none
noncomputable def hexFold : List Nat → Nat → Option Nat
  | [], k => some k
  | o :: r, k => match hexN o with | some d => hexFold r (16 * k + d) | none => none
noncomputable def codeOfHex (l : List Nat) : Option Nat := if 1 ≤ l.length ∧ l.length ≤ 6 then (match hexFold l 0 with | some k => if k > 1114111 then none else some k | none => none) else none
theorem hexVal_is (o : Nat) : hexVal (o : Int) = match hexN o with | some d => .int (d : Int) | none => .none := by
  unfold hexVal hexN
  by_cases h1 : 48 ≤ o ∧ o ≤ 57
  · rw [if_pos (by lia), if_pos h1]; dsimp only; congr 1; lia
  · rw [if_neg (by lia), if_neg h1]
    by_cases h2 : 65 ≤ o ∧ o ≤ 70
    · rw [if_pos (by lia), if_pos h2]; dsimp only; congr 1; lia
    · rw [if_neg (by lia), if_neg h2]
      by_cases h3 : 97 ≤ o ∧ o ≤ 102
      · rw [if_pos (by lia), if_pos h3]; dsimp only; congr 1; lia
      · rw [if_neg (by lia), if_neg h3]
theorem hexN_lt {o d : Nat} (h : hexN o = some d) : d < 16 := by
  unfold hexN at h
  split at h
  · cases h; omega
  · split at h
    · cases h; omega
    · split at h
      · cases h; omega
      · cases h
theorem hexFold_lt : ∀ {l : List Nat} {k m : Nat}, hexFold l k = some m → m < 16 ^ l.length * (k + 1)
  | [], k, m, h => by cases h; simp
  | o :: r, k, m, h => by
    unfold hexFold at h
    cases e : hexN o with
    | none => rw [e] at h; cases h
    | some d =>
      rw [e] at h
      have h1 := hexFold_lt h
      have h2 := hexN_lt e
      rw [List.length_cons, Nat.pow_succ, Nat.mul_assoc]
      refine Nat.lt_of_lt_of_le h1 (Nat.mul_le_mul_left _ (by lia))
theorem f_code_of_hex {l : List Nat} (rm : Rm A (n + 2)) (hz : l.length ≤ 100000) (h : ∀ k, codeOfHex l = some k → Q (.int (k : Int)) R) (hx : codeOfHex l = none → X 52 (.bytes l) R) : Cal c A (.ref 104) [.bytes l] R Q X := by
  refine CalC.cal (call_code_of_hex rm fun env A' L fe fn rm' hfr => ?_)
  conv => arg 4; whnf
  walk_at "go"
  walk_at "if"
  refine tst_cut (decide (¬ (1 ≤ l.length ∧ l.length ≤ 6))) ?_ ?_
  · walk_at "go"
    refine ca_lenB (by lia) ?_
    walk_at "go"
    refine ⟨fun hb => ?_, fun hb => ?_⟩ <;> simp only [decide_eq_true_eq, decide_eq_false_iff_not] at hb
    · walk_at "go"
      refine ⟨?_, rfl⟩
      by_cases h6 : l.length ≤ 6
      · rw [decide_eq_true (p := (l.length : Int) ≤ 6) (by lia), decide_eq_false (p := ¬ _) (by lia)]; rfl
      · rw [decide_eq_false (p := (l.length : Int) ≤ 6) (by lia), decide_eq_true (p := ¬ _) (by lia)]; rfl
    · exact ⟨(decide_eq_true (by lia)).symm, rfl⟩
  refine ⟨fun hb => ?_, fun hb => ?_⟩ <;> simp only [decide_eq_true_eq, decide_eq_false_iff_not, Classical.not_not] at hb
  · walk_at "go"
    walk_at "rz"
    exact hx (by unfold codeOfHex; rw [if_neg hb])
  unfold codeOfHex at h hx
  rw [if_pos hb] at h hx
  walk_at "go"
  refine sx_for fn hfr rm'.handled ?_ (by intro _ _; rfl)
  walk_at "go"
  refine opq (fun (i : Nat) (R' : Led) => ∃ (u v : Option D) (k : Nat), hexFold (l.drop i) k = hexFold l 0 ∧ k < 16 ^ i ∧ R' = (L, .loc ["octets", "number", "octet", "digit"] [some (.bytes l), some (.int (k : Int)), u, v]) :: R) fun J hJ => ?_
  refine ⟨_, .bytes, J, (hJ _ _).mpr ⟨_, _, 0, rfl, by simp, rfl⟩, ?_, ?_⟩
  · intro i x R' hi hjj
    obtain ⟨u, v, k, hk, hlt, rfl⟩ := (hJ _ _).mp hjj
    clear hjj
    rw [List.getElem?_map, Option.map_eq_some_iff] at hi
    obtain ⟨o, ho, rfl⟩ := hi
    obtain ⟨lt, ho'⟩ := List.getElem?_eq_some_iff.mp ho
    rw [List.drop_eq_getElem_cons lt, ho', hexFold] at hk
    walk_at "go"
    refine f_hex_value rm' ?_
    rw [hexVal_is]
    walk_at "go"
    walk_at "if"
    cases e : hexN o with
    | none =>
      rw [e] at hk
      walk_at "go"
      walk_at "rz"
      exact hx (by rw [← hk])
    | some d =>
      rw [e] at hk
      walk_at "go"
      have hd := hexN_lt e
      have lt2 : 16 ^ i < 16 ^ 6 := Nat.pow_lt_pow_right (by decide) (by lia)
      have e6 : (16 : Nat) ^ 6 = 16777216 := by decide
      refine bi_mul (mul_ok (by lia)) ?_
      walk_at "go"
      exact (hJ _ _).mpr ⟨some (.int (o : Int)), some (.int (d : Int)), 16 * k + d, hk, by rw [Nat.pow_succ]; lia, by rw [show (((16 * k + d : Nat)) : Int) = 16 * (k : Int) + (d : Int) from by lia]⟩
  · intro R' hjj
    obtain ⟨u, v, k, hk, hlt, rfl⟩ := (hJ _ _).mp hjj
    clear hjj hJ
    rw [List.length_map, List.drop_length] at hk
    rw [← hk] at h hx
    dsimp only [hexFold] at h hx
    walk_at "go"
    walk_at "if"
    walk_at "go"
    refine ⟨fun hc => ?_, fun hc => ?_⟩ <;> simp only [decide_eq_true_eq, decide_eq_false_iff_not] at hc
    · walk_at "go"
      walk_at "rz"
      exact hx (if_pos (by lia))
    · walk_at "go"
      have h := h k (if_neg (by lia))
      walk_at "out"

noncomputable def codeOfField (l : List Nat) : Option Nat := if l.length < 4 then none else codeOfHex l
theorem f_code_of_field {l : List Nat} {num : Int} (rm : Rm A (n + 3)) (hz : l.length ≤ 100000) (h : ∀ k, codeOfField l = some k → Q (.int (k : Int)) R) (hx : codeOfField l = none → X 64 (.int num) R) : Cal c A (.ref 130) [.bytes l, .int num] R Q X := by
  refine CalC.cal (call_code_of_field rm fun env A' L fe fn rm' hfr => ?_)
  conv => arg 4; whnf
  walk_at "go"
  walk_at "if"
  walk_at "go"
  refine ca_lenB (by lia) ?_
  walk_at "go"
  unfold codeOfField at h hx
  refine ⟨fun hb => ?_, fun hb => ?_⟩ <;> simp only [decide_eq_true_eq, decide_eq_false_iff_not] at hb
  · walk_at "go"
    walk_at "rz"
    exact hx (if_pos (by lia))
  rw [if_neg (by lia)] at h hx
  walk_at "go"
  refine sx_try (X0 := fun C d R1 => codeOfHex l = none ∧ C = 52 ∧ d = .bytes l ∧ R1 = (L, .loc ["field", "number"] [some (.bytes l), some (.int num)]) :: R) 52 fe fn hfr (by walk_at "g") bad52 ?_ ?_
  · walk_at "go"
    refine f_code_of_hex rm' hz (fun k hk => ?_) (fun hn => ⟨hn, rfl, rfl, rfl⟩)
    have h := h k hk
    walk_at "go"
    walk_at "out"
  · rintro C' told R1 ⟨hn, rfl, rfl, rfl⟩
    refine ⟨rfl, fun e dx T => ?_⟩
    unfold excLed tbL
    simp only [List.cons_append, List.nil_append]
    walk_at "go"
    refine sx_raise ?_
    walk_at "go"
    refine raise_in bad64 rm' (by decide) (h0 := e) (dx0 := some dx) (tb0 := some T) (by walk_at "h") ?_
    exact backx (hx hn) (by walk_at "r") (by walk_at "d")
theorem f_word_of_field {l : List Nat} {num : D} (rm : Rm A (n + 2)) (hz : l.length ≤ 100000) (hx : ∀ k ∈ l, k ≤ 127) (h : Q (.str (strOf l)) R) : Cal c A (.ref 137) [.bytes l, num] R Q X := by
  refine CalC.cal (call_word_of_field rm fun env A' L fe fn rm' hfr => ?_)
  conv => arg 4; whnf
  walk_at "go"
  refine sx_try (X0 := NoX) 52 fe fn hfr (by walk_at "g") bad52 ?_ (fun _ _ _ z => z.elim)
  walk_at "go"
  refine f_ascii_of rm' hz hx ?_
  walk_at "go"
  walk_at "out"
end
section
open PySem PySem.W PySem.Calls PyProof.Rows
set_option Elab.async false
set_option tactic.hygienic false
set_option maxRecDepth 100000
set_option linter.unusedVariables false
/-- the value at c of a range map -/
noncomputable def rmL (m : List (Int × Str)) (c : Int) (d : Str) : Str := m.foldl (fun acc p => if p.1 ≤ c then p.2 else acc) d
noncomputable def rmF (s : List Int) (v : List Str) (c : Int) : Str := rmL (s.zip v) c ""
structure RMok (s : List Int) (v : List Str) : Prop where
  len : v.length = s.length
  sorted : s.Pairwise (· < ·)
  zero : s.head? = some 0
  bound : ∀ x ∈ s, x ≤ 1114111
theorem rmL_append (m1 m2 : List (Int × Str)) (c : Int) (d : Str) : rmL (m1 ++ m2) c d = rmL m2 c (rmL m1 c d) := List.foldl_append ..
theorem rmL_none {m : List (Int × Str)} {c : Int} (h : ∀ p ∈ m, c < p.1) (d : Str) : rmL m c d = d := by
  induction m generalizing d with
  | nil => rfl
  | cons p r ih =>
    have h1 := h p (.head _)
    show rmL r c (if p.1 ≤ c then p.2 else d) = d
    rw [if_neg (by lia)]
    exact ih (fun q hq => h q (.tail _ hq)) d
theorem rmL_all {m : List (Int × Str)} {c : Int} (h : ∀ p ∈ m, p.1 ≤ c) (d : Str) : rmL m c d = (m.getLast?.map (·.2)).getD d := by
  induction m generalizing d with
  | nil => rfl
  | cons p r ih =>
    show rmL r c (if p.1 ≤ c then p.2 else d) = _
    rw [if_pos (h p (.head _)), ih (fun q hq => h q (.tail _ hq))]
    cases r with
    | nil => rfl
    | cons q r => rfl
theorem count_split {s : List Int} (hs : s.Pairwise (· < ·)) (x : Int) : (∀ y ∈ s.take (s.countP (· ≤ x)), y ≤ x) ∧ (∀ y ∈ s.drop (s.countP (· ≤ x)), x < y) := by
  induction s with
  | nil => simp
  | cons a r ih =>
    rw [List.pairwise_cons] at hs
    have ih := ih hs.2
    by_cases h : a ≤ x
    · have e : (a :: r).countP (· ≤ x) = r.countP (· ≤ x) + 1 := by rw [List.countP_cons_of_pos]; simpa using h
      rw [e]
      simp only [List.take_succ_cons, List.drop_succ_cons, List.mem_cons]
      refine ⟨fun y hy => ?_, ih.2⟩
      rcases hy with rfl | hy
      · exact h
      · exact ih.1 y hy
    · have e : (a :: r).countP (· ≤ x) = 0 := by
        rw [List.countP_eq_zero]
        intro y hy
        rcases List.mem_cons.mp hy with rfl | hy
        · simpa using h
        · have := hs.1 y hy; simp; lia
      rw [e]
      simp only [List.take_zero, List.drop_zero]
      refine ⟨fun y hy => (nomatch hy), fun y hy => ?_⟩
      rcases List.mem_cons.mp hy with rfl | hy
      · lia
      · have := hs.1 y hy; lia
section
variable {s : List Int} {v : List Str}
theorem zip_le {k : Nat} {x : Int} (h : ∀ y ∈ s.take k, y ≤ x) : ∀ p ∈ (s.take k).zip (v.take k), p.1 ≤ x := fun p hp => h _ (List.of_mem_zip hp).1
theorem zip_lt {k : Nat} {x : Int} (h : ∀ y ∈ s.drop k, x < y) : ∀ p ∈ (s.drop k).zip (v.drop k), x < p.1 := fun p hp => h _ (List.of_mem_zip hp).1
theorem zip_split (k : Nat) : s.zip v = (s.take k).zip (v.take k) ++ (s.drop k).zip (v.drop k) := by
  have e1 : (s.take k).zip (v.take k) = (s.zip v).take k := by simp [List.zip, List.take_zipWith]
  have e2 : (s.drop k).zip (v.drop k) = (s.zip v).drop k := by simp [List.zip, List.drop_zipWith]
  rw [e1, e2, List.take_append_drop]
theorem last_zip {k : Nat} (hl : v.length = s.length) (hk : k ≤ s.length) (h0 : 0 < k) (d : Str) : ((((s.take k).zip (v.take k)).getLast?).map (·.2)) = some (v.getD (k - 1) d) := by
  have e : (s.take k).zip (v.take k) = (s.zip v).take k := by simp [List.zip, List.take_zipWith]
  rw [e, List.getLast?_take, if_neg (by lia)]
  have h1 : k - 1 < s.length := by lia
  have h2 : k - 1 < v.length := by lia
  have e2 : (s.zip v)[k - 1]? = some (s[k - 1], v[k - 1]) := by
    rw [List.getElem?_zip_eq_some]; exact ⟨List.getElem?_eq_getElem h1, List.getElem?_eq_getElem h2⟩
  rw [e2]
  simp [List.getD_eq_getElem?_getD, List.getElem?_eq_getElem h2]
theorem rmL_at (ok : RMok s v) {c : Int} (hc : 0 ≤ c) (d d' : Str) : rmL (s.zip v) c d = v.getD (s.countP (· ≤ c) - 1) d' := by
  have cs := count_split ok.sorted c
  have hle : s.countP (· ≤ c) ≤ s.length := List.countP_le_length
  have h0 : 0 < s.countP (· ≤ c) := by
    rw [List.countP_pos_iff]
    have := ok.zero
    cases s with
    | nil => cases this
    | cons a r => cases this; exact ⟨0, .head _, by simpa using hc⟩
  rw [zip_split (s := s) (v := v) (s.countP (· ≤ c)), rmL_append, rmL_none (zip_lt cs.2), rmL_all (zip_le cs.1), last_zip ok.len hle h0 d']
  rfl
theorem count_pos (ok : RMok s v) {c : Int} (hc : 0 ≤ c) : 0 < s.countP (· ≤ c) := by
  rw [List.countP_pos_iff]
  have := ok.zero
  cases s with
  | nil => cases this
  | cons a r => cases this; exact ⟨0, .head _, by simpa using hc⟩
theorem rmF_at (ok : RMok s v) {c : Int} (hc : 0 ≤ c) : v[(pbh s c).toNat]? = some (rmF s v c) := by
  have h0 := count_pos ok hc
  have hle : s.countP (· ≤ c) ≤ s.length := List.countP_le_length
  have hl := ok.len
  unfold rmF
  rw [rmL_at ok hc "" ""]
  have e : (pbh s c).toNat = s.countP (· ≤ c) - 1 := by unfold pbh; omega
  rw [e]
  have lt : s.countP (· ≤ c) - 1 < v.length := by omega
  rw [List.getD_eq_getElem?_getD, List.getElem?_eq_getElem lt]; rfl
theorem pbh_pos (ok : RMok s v) {c : Int} (hc : 0 ≤ c) : 0 ≤ pbh s c := by
  have := count_pos ok hc
  unfold pbh; lia

noncomputable def midS (behind value : Str) (first last : Int) : List (Int × Str) := if last < 1114111 ∧ ¬ behind = value then [(first, value), (last + 1, behind)] else [(first, value)]
theorem rmPut_zip (ok : RMok s v) {first last : Int} {value : Str} (h1 : first ≤ last) (h0 : 0 ≤ first) :
    (rmPut s v first last value).1.zip (rmPut s v first last value).2 =
      (s.zip v).take (s.countP (· ≤ first - 1)) ++ (if 0 < s.countP (· ≤ first - 1) ∧ v.getD (s.countP (· ≤ first - 1) - 1) "" = value then (midS (v.getD (s.countP (· ≤ last + 1) - 1) value) value first last).drop 1 else midS (v.getD (s.countP (· ≤ last + 1) - 1) value) value first last) ++ (s.zip v).drop (s.countP (· ≤ last + 1)) ∧
    (rmPut s v first last value).2.length = (rmPut s v first last value).1.length := by
  have hle1 : s.countP (· ≤ first - 1) ≤ s.length := List.countP_le_length
  have hle2 : s.countP (· ≤ last + 1) ≤ s.length := List.countP_le_length
  have hl := ok.len
  unfold rmPut midS
  dsimp only
  generalize s.countP (· ≤ first - 1) = lo at *
  generalize s.countP (· ≤ last + 1) = hi at *
  generalize v.getD (hi - 1) value = be
  have e1 : (s.take lo).length = (v.take lo).length := by rw [List.length_take, List.length_take]; lia
  have z1 : (s.take lo).zip (v.take lo) = (s.zip v).take lo := by simp [List.zip, List.take_zipWith]
  have z2 : (s.drop hi).zip (v.drop hi) = (s.zip v).drop hi := by simp [List.zip, List.drop_zipWith]
  by_cases c1 : last < 1114111 ∧ ¬ be = value <;> by_cases c2 : 0 < lo ∧ v.getD (lo - 1) "" = value
  · simp only [if_pos c1, if_pos c2]
    refine ⟨?_, by simp; lia⟩
    rw [List.zip_append (by simp; lia), List.zip_append e1, z1, z2]; rfl
  · simp only [if_pos c1, if_neg c2]
    refine ⟨?_, by simp; lia⟩
    rw [List.zip_append (by simp; lia), List.zip_append e1, z1, z2]; rfl
  · simp only [if_neg c1, if_pos c2]
    refine ⟨?_, by simp; lia⟩
    rw [List.zip_append (by simp; lia), List.zip_append e1, z1, z2]; rfl
  · simp only [if_neg c1, if_neg c2]
    refine ⟨?_, by simp; lia⟩
    rw [List.zip_append (by simp; lia), List.zip_append e1, z1, z2]; rfl
theorem rmPut_fst (first last : Int) (value : Str) : (rmPut s v first last value).1 = s.take (s.countP (· ≤ first - 1)) ++ (if 0 < s.countP (· ≤ first - 1) ∧ v.getD (s.countP (· ≤ first - 1) - 1) "" = value then (midS (v.getD (s.countP (· ≤ last + 1) - 1) value) value first last).drop 1 else midS (v.getD (s.countP (· ≤ last + 1) - 1) value) value first last).map (·.1) ++ s.drop (s.countP (· ≤ last + 1)) := by
  unfold rmPut midS
  dsimp only
  split <;> split <;> rfl
set_option tactic.hygienic true in
theorem mid_mem {be value : Str} {first last : Int} {p : Int × Str} (h : p ∈ midS be value first last) : (p = (first, value)) ∨ (last < 1114111 ∧ p = (last + 1, be)) := by
  unfold midS at h
  split at h
  · rename_i c
    simp only [List.mem_cons, List.not_mem_nil, or_false] at h
    rcases h with h | h
    · exact .inl h
    · exact .inr ⟨c.1, h⟩
  · simp only [List.mem_cons, List.not_mem_nil, or_false] at h
    exact .inl h
theorem mid_sorted (be value : Str) {first last : Int} (h : first ≤ last) : ((midS be value first last).map (·.1)).Pairwise (· < ·) := by
  unfold midS
  split
  · simp; lia
  · simp
theorem rmPut_ok (ok : RMok s v) {first last : Int} {value : Str} (h0 : 0 ≤ first) (h1 : first ≤ last) (h2 : last ≤ 1114111) : RMok (rmPut s v first last value).1 (rmPut s v first last value).2 := by
  have c1 := count_split ok.sorted (first - 1)
  have c2 := count_split ok.sorted (last + 1)
  refine ⟨(rmPut_zip ok h1 h0).2, ?_, ?_, ?_⟩
  · rw [rmPut_fst]
    generalize hm : (if 0 < s.countP (· ≤ first - 1) ∧ v.getD (s.countP (· ≤ first - 1) - 1) "" = value then (midS (v.getD (s.countP (· ≤ last + 1) - 1) value) value first last).drop 1 else midS (v.getD (s.countP (· ≤ last + 1) - 1) value) value first last) = mid
    have hsub : mid.Sublist (midS (v.getD (s.countP (· ≤ last + 1) - 1) value) value first last) := by
      rw [← hm]; split
      · exact List.drop_sublist _ _
      · exact List.Sublist.refl _
    have hmem : ∀ y ∈ mid.map (·.1), first ≤ y ∧ y ≤ last + 1 := fun y hy => by
      obtain ⟨p, hp, rfl⟩ := List.mem_map.mp hy
      rcases mid_mem (hsub.subset hp) with rfl | ⟨_, rfl⟩ <;> simp <;> lia
    rw [List.append_assoc, List.pairwise_append]
    refine ⟨ok.sorted.sublist (List.take_sublist _ _), ?_, fun a ha b hb => ?_⟩
    · rw [List.pairwise_append]
      refine ⟨(mid_sorted _ _ h1).sublist (hsub.map _), ok.sorted.sublist (List.drop_sublist _ _), fun a ha b hb => ?_⟩
      have := hmem a ha; have := c2.2 b hb; lia
    · have h3 := c1.1 a ha
      rcases List.mem_append.mp hb with hb | hb
      · have := hmem b hb; lia
      · have := c2.2 b hb; lia
  · rw [rmPut_fst]
    by_cases hlo : 0 < s.countP (· ≤ first - 1)
    · rw [List.append_assoc, List.head?_append, List.head?_take, if_neg (by lia), ok.zero]
      rfl
    · have hz : s.countP (· ≤ first - 1) = 0 := by lia
      have hf : first = 0 := by
        have hz2 := List.countP_eq_zero.mp hz
        have := ok.zero
        cases s with
        | nil => cases this
        | cons a r => cases this; have := hz2 0 (.head _); simp at this; lia
      rw [hz]
      simp only [Nat.lt_irrefl, false_and, if_false, List.take_zero, List.nil_append]
      unfold midS
      split <;> simp [hf]
  · rw [rmPut_fst]
    intro x hx
    rcases List.mem_append.mp hx with hx | hx
    · rcases List.mem_append.mp hx with hx | hx
      · exact ok.bound x (List.mem_of_mem_take hx)
      · obtain ⟨p, hp, rfl⟩ := List.mem_map.mp hx
        have hp' : p ∈ midS (v.getD (s.countP (· ≤ last + 1) - 1) value) value first last := by
          split at hp
          · exact List.mem_of_mem_drop hp
          · exact hp
        rcases mid_mem hp' with rfl | ⟨h, rfl⟩ <;> simp <;> lia
    · exact ok.bound x (List.mem_of_mem_drop hx)

theorem rmPut_val (ok : RMok s v) {first last c : Int} {value : Str} (h0 : 0 ≤ first) (h1 : first ≤ last) (h2 : last ≤ 1114111) (hc : 0 ≤ c) (hc2 : c ≤ 1114111) :
    rmF (rmPut s v first last value).1 (rmPut s v first last value).2 c = if first ≤ c ∧ c ≤ last then value else rmF s v c := by
  have c1 := count_split ok.sorted (first - 1)
  have c2 := count_split ok.sorted (last + 1)
  have hle1 : s.countP (· ≤ first - 1) ≤ s.length := List.countP_le_length
  have hle2 : s.countP (· ≤ last + 1) ≤ s.length := List.countP_le_length
  have hhi := count_pos ok (c := last + 1) (by lia)
  have z1 : ∀ k, (s.take k).zip (v.take k) = (s.zip v).take k := fun k => by simp [List.zip, List.take_zipWith]
  have z2 : ∀ k, (s.drop k).zip (v.drop k) = (s.zip v).drop k := fun k => by simp [List.zip, List.drop_zipWith]
  have t1 := zip_le (v := v) c1.1
  have t2 := zip_lt (v := v) c2.2
  have t3 := zip_lt (v := v) c1.2
  have t4 := zip_le (v := v) c2.1
  have l4 := last_zip (s := s) ok.len hle2 hhi value
  have l1 := last_zip (s := s) (v := v) (k := s.countP (· ≤ first - 1)) ok.len hle1
  have sp1 := zip_split (s := s) (v := v) (s.countP (· ≤ first - 1))
  have sp2 := zip_split (s := s) (v := v) (s.countP (· ≤ last + 1))
  unfold rmF
  rw [(rmPut_zip ok h1 h0).1, rmL_append, rmL_append]
  rw [z1] at t1 t4 l4 sp1 sp2
  rw [z2] at t2 t3 sp1 sp2
  simp only [z1] at l1
  generalize s.countP (· ≤ first - 1) = lo at *
  generalize s.countP (· ≤ last + 1) = hi at *
  have hmid : (∀ p ∈ (if 0 < lo ∧ v.getD (lo - 1) "" = value then (midS (v.getD (hi - 1) value) value first last).drop 1 else midS (v.getD (hi - 1) value) value first last), (p = (first, value)) ∨ (last < 1114111 ∧ p = (last + 1, v.getD (hi - 1) value))) := fun p hp => by
    split at hp
    · exact mid_mem (List.mem_of_mem_drop hp)
    · exact mid_mem hp
  have hjoin : 0 < lo → v.getD (lo - 1) "" = value → ∀ c, first ≤ c → rmL ((s.zip v).take lo) c "" = value := fun h5 h6 c h7 => by
    rw [rmL_all (fun p hp => by have := t1 p hp; lia), l1 h5 ""]
    exact h6
  generalize hm : (if 0 < lo ∧ v.getD (lo - 1) "" = value then (midS (v.getD (hi - 1) value) value first last).drop 1 else midS (v.getD (hi - 1) value) value first last) = mid at hmid ⊢
  by_cases hlt : c < first
  · -- before
    rw [if_neg (by lia)]
    rw [rmL_none (m := (s.zip v).drop hi) (fun p hp => by have := t2 p hp; lia)]
    rw [rmL_none (m := mid) (fun p hp => by rcases hmid p hp with rfl | ⟨_, rfl⟩ <;> simp <;> lia)]
    conv => rhs; rw [sp1, rmL_append]
    rw [rmL_none (m := (s.zip v).drop lo) (fun p hp => by have := t3 p hp; lia)]
  · by_cases hle : c ≤ last
    · rw [if_pos ⟨by lia, hle⟩]
      rw [rmL_none (m := (s.zip v).drop hi) (fun p hp => by have := t2 p hp; lia)]
      by_cases hj : 0 < lo ∧ v.getD (lo - 1) "" = value
      · rw [if_pos hj] at hm
        subst hm
        rw [hjoin hj.1 hj.2 c (by lia)]
        unfold midS
        split
        · exact rmL_none (fun p hp => by simp at hp; subst hp; simp; lia) _
        · rfl
      · rw [if_neg hj] at hm
        subst hm
        unfold midS
        split
        · show (if last + 1 ≤ c then _ else (if first ≤ c then value else _)) = value
          rw [if_neg (by lia), if_pos (by lia)]
        · show (if first ≤ c then value else _) = value
          rw [if_pos (by lia)]
    · rw [if_neg (by lia)]
      conv => rhs; rw [sp2, rmL_append]
      congr 1
      rw [rmL_all (m := (s.zip v).take hi) (fun p hp => by have := t4 p hp; lia), l4]
      show _ = v.getD (hi - 1) value
      by_cases hb : last < 1114111 ∧ ¬ v.getD (hi - 1) value = value
      · subst hm
        split
        · unfold midS; rw [if_pos hb]
          show (if last + 1 ≤ c then _ else _) = _
          rw [if_pos (by lia)]
        · unfold midS; rw [if_pos hb]
          show (if last + 1 ≤ c then _ else _) = _
          rw [if_pos (by lia)]
      · have hv : v.getD (hi - 1) value = value := by
          by_cases h3 : last < 1114111
          · exact Classical.not_not.mp fun h => hb ⟨h3, h⟩
          · lia
        by_cases hj : 0 < lo ∧ v.getD (lo - 1) "" = value
        · rw [if_pos hj] at hm
          subst hm
          rw [hjoin hj.1 hj.2 c (by lia), hv]
          unfold midS; rw [if_neg (fun h => h.2 rfl)]; rfl
        · rw [if_neg hj] at hm
          subst hm
          rw [hv]
          unfold midS; rw [if_neg (fun h => h.2 rfl)]
          show (if first ≤ c then value else _) = value
          rw [if_pos (by lia)]
theorem len_aux {lo hi n m : Nat} (h1 : lo ≤ n) (h4 : lo ≤ hi) (h3 : m ≤ 2) : min lo n + (m + (n - hi)) ≤ n + 2 := by
  rw [Nat.min_eq_left h1, ← Nat.add_assoc]
  have h5 := Nat.add_le_add (Nat.add_le_add_left h3 lo) (Nat.sub_le_sub_left h4 n)
  have h6 : lo + 2 + (n - lo) = n + 2 := by rw [Nat.add_right_comm, Nat.add_sub_cancel' h1]
  rw [h6] at h5; exact h5
theorem rmPut_length {first last : Int} (hf : first ≤ last) (value : Str) : (rmPut s v first last value).1.length ≤ s.length + 2 := by
  rw [rmPut_fst, List.length_append, List.length_append, List.length_take, List.length_map, List.length_drop]
  have h1 : s.countP (· ≤ first - 1) ≤ s.length := List.countP_le_length
  have h2 : ∀ b : Str, (midS b value first last).length ≤ 2 := fun b => by unfold midS; split <;> simp
  have h3 := h2 (v.getD (s.countP (· ≤ last + 1) - 1) value)
  have h4 : s.countP (· ≤ first - 1) ≤ s.countP (· ≤ last + 1) := List.countP_mono_left fun y _ hy => by simp at hy ⊢; omega
  rw [Nat.add_assoc]
  split
  · rw [List.length_drop]; exact len_aux h1 h4 (Nat.le_trans (Nat.sub_le _ _) h3)
  · exact len_aux h1 h4 h3
end
end
section
open PySem PySem.W PySem.Calls PyProof.Rows
set_option Elab.async false
set_option tactic.hygienic false
set_option maxRecDepth 100000
set_option linter.unusedVariables false
noncomputable def rowsR : List (Int × Str) → List (Int × Int × Str)
  | [] => []
  | [(a, x)] => [(a, 1114111, x)]
  | (a, x) :: (b, y) :: r => (a, b - 1, x) :: rowsR ((b, y) :: r)
theorem rowsR_get : ∀ (m : List (Int × Str)) (i : Nat), (rowsR m)[i]? = (m[i]?).map fun p => (p.1, (match m[i + 1]? with | some q => q.1 - 1 | none => 1114111), p.2)
  | [], i => by simp [rowsR]
  | [(a, x)], i => by cases i <;> simp [rowsR]
  | (a, x) :: (b, y) :: r, 0 => by simp [rowsR]
  | (a, x) :: (b, y) :: r, i + 1 => by
    rw [rowsR, List.getElem?_cons_succ, rowsR_get ((b, y) :: r) i]
    simp
theorem rmRows_is {s : List Int} {v : List Str} (hl : v.length = s.length) : rmRows s v = rowsR (s.zip v) := by
  refine List.ext_getElem? fun i => ?_
  rw [rowsR_get]
  unfold rmRows
  rcases Nat.lt_or_ge i v.length with lt | ge
  · have lt2 : i < s.length := by lia
    have e1 : (s.zip v)[i]? = some (s[i], v[i]) := by rw [List.getElem?_zip_eq_some]; exact ⟨List.getElem?_eq_getElem lt2, List.getElem?_eq_getElem lt⟩
    rw [List.getElem?_map, List.getElem?_range lt, e1]
    simp only [Option.map_some]
    congr 1
    rw [List.getD_eq_getElem?_getD, List.getElem?_eq_getElem lt2, List.getD_eq_getElem?_getD (l := v), List.getElem?_eq_getElem lt]
    by_cases h : i + 1 < s.length
    · have e2 : (s.zip v)[i + 1]? = some (s[i + 1], v[i + 1]'(by lia)) := by rw [List.getElem?_zip_eq_some]; exact ⟨List.getElem?_eq_getElem h, List.getElem?_eq_getElem _⟩
      rw [e2, if_pos h, List.getD_eq_getElem?_getD, List.getElem?_eq_getElem h]; rfl
    · have e2 : (s.zip v)[i + 1]? = none := List.getElem?_eq_none (by simp; lia)
      rw [e2, if_neg h]; rfl
  · have e1 : (s.zip v)[i]? = none := List.getElem?_eq_none (by simp; lia)
    rw [List.getElem?_eq_none (by simpa using ge), e1]; rfl
theorem mem_rowCodes {r : Int × Int × Str} {c : Int} : c ∈ rowCodes r ↔ r.1 ≤ c ∧ c ≤ r.2.1 := by
  unfold rowCodes
  rw [List.mem_map]
  constructor
  · rintro ⟨i, hi, rfl⟩
    rw [List.mem_range] at hi
    lia
  · rintro ⟨h1, h2⟩
    exact ⟨(c - r.1).toNat, by rw [List.mem_range]; lia, by lia⟩
theorem rowCodes_sorted (r : Int × Int × Str) : (rowCodes r).Pairwise (· < ·) := by
  unfold rowCodes
  rw [List.pairwise_map]
  exact (List.pairwise_lt_range (n := _)).imp fun h => by lia
theorem mem_toldRow {r : Int × Int × Str} {c : Int} {x : Str} : (c, x) ∈ toldRow r ↔ (r.1 ≤ c ∧ c ≤ r.2.1) ∧ x = r.2.2 := by
  unfold toldRow
  rw [List.mem_map]
  constructor
  · rintro ⟨k, hk, e⟩
    cases e
    exact ⟨mem_rowCodes.mp hk, rfl⟩
  · rintro ⟨h, rfl⟩
    exact ⟨c, mem_rowCodes.mpr h, rfl⟩
theorem toldL_cons (r : Int × Int × Str) (rs : List (Int × Int × Str)) : toldL (r :: rs) = toldRow r ++ toldL rs := by unfold toldL; rw [List.flatMap_cons]
theorem filter_flat {α β : Type} (p : α → Bool) (f : α → List β) : ∀ l : List α, ((l.filter p).flatMap f).Sublist (l.flatMap f)
  | [] => .slnil
  | a :: r => by
    rw [List.filter_cons, List.flatMap_cons]
    split
    · rw [List.flatMap_cons]; exact (List.Sublist.refl _).append (filter_flat p f r)
    · exact (filter_flat p f r).trans (List.sublist_append_right _ _)
theorem rmL_cons (a : Int) (x : Str) (r : List (Int × Str)) (c : Int) (d : Str) : rmL ((a, x) :: r) c d = rmL r c (if a ≤ c then x else d) := rfl
theorem told_mem (a : Int) (x : Str) (r : List (Int × Str)) (hs : (((a, x) :: r).map (·.1)).Pairwise (· < ·)) (hb : ∀ p ∈ (a, x) :: r, p.1 ≤ 1114111) (c : Int) (z d : Str) : (c, z) ∈ toldL (rowsR ((a, x) :: r)) ↔ (a ≤ c ∧ c ≤ 1114111) ∧ rmL ((a, x) :: r) c d = z := by
  revert d
  induction r generalizing a x with
  | nil =>
    intro d
    show (c, z) ∈ toldL [(a, 1114111, x)] ↔ _
    rw [toldL_cons, show toldL [] = [] from rfl, List.append_nil, mem_toldRow, rmL_cons]
    constructor
    · rintro ⟨h, rfl⟩
      exact ⟨h, by rw [if_pos h.1]; rfl⟩
    · rintro ⟨h, h2⟩
      rw [if_pos h.1] at h2
      exact ⟨h, h2.symm⟩
  | cons p r ih0 =>
    obtain ⟨b, y⟩ := p
    intro d
    show (c, z) ∈ toldL ((a, b - 1, x) :: rowsR ((b, y) :: r)) ↔ _
    simp only [List.map_cons, List.pairwise_cons, List.mem_cons, forall_eq_or_imp] at hs
    have ih := ih0 b y (by simp only [List.map_cons, List.pairwise_cons]; exact hs.2) (fun p hp => hb p (.tail _ hp))
    have hb1 := hb (b, y) (.tail _ (.head _))
    have hgt : ∀ p ∈ (b, y) :: r, b ≤ p.1 := fun p hp => by
      rcases List.mem_cons.mp hp with rfl | hp
      · exact Int.le_refl _
      · exact Int.le_of_lt (hs.2.1 _ (List.mem_map_of_mem hp))
    have hab := hs.1.1
    rw [toldL_cons, List.mem_append, mem_toldRow, rmL_cons a x]
    constructor
    · rintro (⟨h, rfl⟩ | h)
      · dsimp only at h
        dsimp only at hb1
        refine ⟨by omega, ?_⟩
        rw [if_pos h.1, rmL_none (fun p hp => by have := hgt p hp; omega)]
      · have h2 := (ih (if a ≤ c then x else d)).mp h
        exact ⟨by omega, h2.2⟩
    · rintro ⟨h, h2⟩
      rcases Int.lt_or_le c b with lt | ge
      · rw [if_pos h.1, rmL_none (fun p hp => by have := hgt p hp; omega)] at h2
        exact .inl ⟨by dsimp only; omega, h2.symm⟩
      · exact .inr ((ih (if a ≤ c then x else d)).mpr ⟨by omega, h2⟩)
theorem told_sorted (a : Int) (x : Str) (r : List (Int × Str)) (hs : (((a, x) :: r).map (·.1)).Pairwise (· < ·)) (hb : ∀ p ∈ (a, x) :: r, p.1 ≤ 1114111) : ((toldL (rowsR ((a, x) :: r))).map (·.1)).Pairwise (· < ·) := by
  induction r generalizing a x with
  | nil =>
    show ((toldL [(a, 1114111, x)]).map (·.1)).Pairwise (· < ·)
    rw [toldL_cons, show toldL [] = [] from rfl, List.append_nil]
    unfold toldRow
    rw [List.map_map]
    have := rowCodes_sorted (a, 1114111, x)
    simpa [Function.comp_def] using this
  | cons p r ih0 =>
    obtain ⟨b, y⟩ := p
    show ((toldL ((a, b - 1, x) :: rowsR ((b, y) :: r))).map (·.1)).Pairwise (· < ·)
    have hs' := hs
    simp only [List.map_cons, List.pairwise_cons, List.mem_cons, forall_eq_or_imp] at hs
    have hs2 : (((b, y) :: r).map (·.1)).Pairwise (· < ·) := by simp only [List.map_cons, List.pairwise_cons]; exact hs.2
    have hb2 : ∀ p ∈ (b, y) :: r, p.1 ≤ 1114111 := fun p hp => hb p (.tail _ hp)
    have ih := ih0 b y hs2 hb2
    rw [toldL_cons, List.map_append, List.pairwise_append]
    refine ⟨?_, ih, fun u hu w hw => ?_⟩
    · unfold toldRow
      rw [List.map_map]
      have := rowCodes_sorted (a, b - 1, x)
      simpa [Function.comp_def] using this
    · obtain ⟨⟨u, u2⟩, hu', rfl⟩ := List.mem_map.mp hu
      obtain ⟨⟨w, w2⟩, hw', rfl⟩ := List.mem_map.mp hw
      have h1 := (mem_toldRow.mp hu').1
      have h2 := ((told_mem b y r hs2 hb2 w w2 "").mp hw').1
      dsimp only at h1 ⊢
      lia
section
variable {s : List Int} {v : List Str}
theorem RMok.cons (ok : RMok s v) : ∃ x r, s.zip v = (0, x) :: r ∧ (((0, x) :: r).map (·.1)).Pairwise (· < ·) ∧ ∀ p ∈ (0, x) :: r, p.1 ≤ 1114111 := by
  have hz := ok.zero
  have hl := ok.len
  cases s with
  | nil => cases hz
  | cons a s =>
    cases hz
    cases v with
    | nil => cases hl
    | cons x v =>
      have e : ((0 :: s).zip (x :: v)).map (·.1) = 0 :: s := List.map_fst_zip (by lia)
      refine ⟨x, s.zip v, rfl, ?_, fun p hp => ?_⟩
      · rw [show (0, x) :: s.zip v = (0 :: s).zip (x :: v) from rfl, e]; exact ok.sorted
      · exact ok.bound _ (by rw [← e]; exact List.mem_map_of_mem hp)
theorem ranges_mem (ok : RMok s v) (d : Str) (c : Int) (z : Str) : (c, z) ∈ toldL (rmRanges d s v) ↔ (0 ≤ c ∧ c ≤ 1114111) ∧ rmF s v c = z ∧ ¬ z = d := by
  obtain ⟨x, r, e, h1, h2⟩ := ok.cons
  have h3 := told_mem 0 x r h1 h2 c z ""
  have : (c, z) ∈ toldL (rmRanges d s v) ↔ (c, z) ∈ toldL (rmRows s v) ∧ ¬ z = d := by
    unfold rmRanges toldL
    simp only [List.mem_flatMap, List.mem_filter]
    constructor
    · rintro ⟨q, ⟨hq, hd⟩, hm⟩
      refine ⟨⟨q, hq, hm⟩, ?_⟩
      rw [(mem_toldRow.mp hm).2]; simpa using hd
    · rintro ⟨⟨q, hq, hm⟩, hd⟩
      refine ⟨q, ⟨hq, ?_⟩, hm⟩
      rw [(mem_toldRow.mp hm).2] at hd; simpa using hd
  rw [this, rmRows_is ok.len, e, h3]
  unfold rmF
  rw [e]
  constructor
  · rintro ⟨⟨a, b⟩, c⟩; exact ⟨a, b, c⟩
  · rintro ⟨a, b, c⟩; exact ⟨⟨a, b⟩, c⟩
theorem ranges_sorted (ok : RMok s v) (d : Str) : ((toldL (rmRanges d s v)).map (·.1)).Pairwise (· < ·) := by
  obtain ⟨x, r, e, h1, h2⟩ := ok.cons
  have h3 := told_sorted 0 x r h1 h2
  rw [← e, ← rmRows_is ok.len] at h3
  refine h3.sublist (List.Sublist.map _ ?_)
  unfold rmRanges toldL
  exact filter_flat _ _ _
set_option tactic.hygienic true in
theorem rows_mem (ok : RMok s v) : ∀ r ∈ rmRows s v, 0 ≤ r.1 ∧ r.1 ≤ 1114111 ∧ r.2.1 ≤ 1114111 ∧ 0 ≤ r.2.1 := by
  intro r hr
  unfold rmRows at hr
  obtain ⟨i, hi, rfl⟩ := List.mem_map.mp hr
  rw [List.mem_range] at hi
  have hl := ok.len
  have lt : i < s.length := by lia
  have pw := List.pairwise_iff_getElem.mp ok.sorted
  have hz : s[0]'(by lia) = 0 := by
    have := ok.zero
    rw [List.head?_eq_getElem?, List.getElem?_eq_getElem (by lia)] at this
    exact Option.some.inj this
  have h0 : 0 ≤ s[i] := by
    rcases Nat.eq_zero_or_pos i with rfl | hp
    · rw [hz]; exact Int.le_refl _
    · have := pw 0 i (by lia) lt hp; lia
  have hb := ok.bound _ (List.getElem_mem lt)
  rw [List.getD_eq_getElem?_getD, List.getElem?_eq_getElem lt]
  dsimp only [Option.getD_some]
  refine ⟨h0, hb, ?_⟩
  split
  · rename_i h
    rw [List.getD_eq_getElem?_getD, List.getElem?_eq_getElem h]
    dsimp only [Option.getD_some]
    have := ok.bound _ (List.getElem_mem h)
    have := pw i (i + 1) lt h (Nat.lt_succ_self _)
    lia
  · lia
end
end
section
variable {c : Cx} {A : Around} {env : Env} {L : Addr} {n : Nat} {R R0 R1 R2 : Led} {Q : D → Led → Prop} {X : Addr → D → Led → Prop}
/-- the ledger in another order -/
noncomputable def Prm (Q : D → Led → Prop) (d : D) (R : Led) : Prop := ∃ R2, R.Perm R2 ∧ Q d R2
theorem Cal.prm {f : Value} {ds : List D} (h : Cal c A f ds R (Prm Q) X) : Cal c A f ds R Q X := ⟨fun I H s vs hs r => wpAny_mono (h.run I H s vs hs r) (fun v s' zz => PG.elim zz fun I1 R1 d k hs1 r1 q => Exists.elim q fun R2 z => ⟨I1, R2, d, k, hs1.perm (z.1.append_right H), r1, z.2⟩) fun _ _ z => z⟩
theorem prm {d : D} {R2 : Led} (h : Q d R2) (t : Takes R2 R []) : Prm Q d R := ⟨R2, by have := t.perm; rwa [List.append_nil] at this, h⟩
theorem Cal.fr {f : Value} {ds : List D} {Q0 : D → Led → Prop} (h : Cal c A f ds R0 Q0 NoX) (p : Takes R0 R R1) (k : ∀ d R', Q0 d R' → Q d (R' ++ R1)) : Cal c A f ds R Q X := Cal.frame h p k (fun _ _ _ z => z.elim)
noncomputable def gcM : List Int × List Str := kinds.foldl (fun m r => rmPut m.1 m.2 r.1 r.2.1 r.2.2) ([0], ["Cn"])
noncomputable def gcS : List Int := gcM.1
noncomputable def gcV : List Str := gcM.2
theorem gc_ranges : rmRanges "Cn" gcS gcV = kinds := by decide +kernel
theorem gc_len : gcV.length = gcS.length ∧ gcS.length ≤ 20 := by decide +kernel
theorem kinds_ok : ∀ r ∈ kinds, 0 ≤ r.1 ∧ r.1 ≤ r.2.1 ∧ r.2.1 ≤ 1114111 := by decide +kernel
theorem ok_new (d : Str) : RMok [0] [d] := ⟨rfl, by simp, rfl, fun x hx => by rw [List.mem_singleton.mp hx]; decide⟩
theorem ok_fold (rows : List (Int × Int × Str)) (h : ∀ r ∈ rows, 0 ≤ r.1 ∧ r.1 ≤ r.2.1 ∧ r.2.1 ≤ 1114111) : ∀ (m : List Int × List Str), RMok m.1 m.2 → RMok (rows.foldl (fun m r => rmPut m.1 m.2 r.1 r.2.1 r.2.2) m).1 (rows.foldl (fun m r => rmPut m.1 m.2 r.1 r.2.1 r.2.2) m).2 ∧ (rows.foldl (fun m r => rmPut m.1 m.2 r.1 r.2.1 r.2.2) m).1.length ≤ m.1.length + 2 * rows.length := by
  induction rows with
  | nil => intro m ok; exact ⟨ok, by simp⟩
  | cons r rs ih =>
    intro m ok
    have h1 := h r (.head _)
    have ok1 := rmPut_ok (value := r.2.2) ok h1.1 h1.2.1 h1.2.2
    have := ih (fun q hq => h q (.tail _ hq)) _ ok1
    refine ⟨this.1, Nat.le_trans this.2 ?_⟩
    have := rmPut_length (s := m.1) (v := m.2) h1.2.1 r.2.2
    rw [List.length_cons]; lia
theorem RMok.le {s : List Int} {v : List Str} (ok : RMok s v) : s.Pairwise (· ≤ ·) := ok.sorted.imp fun h => Int.le_of_lt h
noncomputable abbrev dat0 (p : DA) (g dg : Addr) : Led := [dM p [("gc", .val (.ref g))], dF p, dI p, dA p, rmI g dg, rmA dg "Cn" gcS gcV]
noncomputable abbrev dat1 (p : DA) (g dg j dj : Addr) (s : List Int) (v : List Str) : Led := [dM p [("gc", .val (.ref g)), ("jt", .val (.ref j))], dF p, dI p, dA p, rmI g dg, rmA dg "Cn" gcS gcV, rmI j dj, rmA dj "U" s v]
theorem f_data_put0 {p : DA} {maps : List (Str × D)} {name d value : Str} {first last : Int} (rm : Rm A (n + 4)) (h0 : 0 ≤ first) (h1 : first ≤ last) (h2 : last ≤ 1114111) (hl : look maps name = none) (hd : look dflts name = some (.str d)) (hz : maps.length ≤ 900) :
    Cal c A (.ref 268) [.val (.ref p.x), .str name, .int first, .int last, .str value] [dM p maps, dF p, dI p, dA p] (fun d' R' => d' = .none ∧ ∃ r dr, R' = [rmI r dr, rmA dr d (rmPut [0] [d] first last value).1 (rmPut [0] [d] first last value).2, dM p (put maps name (.val (.ref r))), dF p, dI p, dA p]) NoX := by
  refine CalC.cal (call_Data_put rm fun env A' L fe fn rm' hfr => ?_)
  conv => arg 4; whnf
  walk_at "go"
  refine Cal.fr (R0 := [dM p maps, dF p, dI p, dA p]) (f_map_new (R := []) (Q := fun d' R' => ∃ r dr, d' = .val (.ref r) ∧ R' = [rmI r dr, rmA dr d [0] [d], dM p (put maps name (.val (.ref r))), dF p, dI p, dA p]) rm' hl hd hz (fun r dr => ⟨r, dr, rfl, rfl⟩)) (by walk_at "has") ?_
  rintro d' R' ⟨r, dr, rfl, rfl⟩
  simp only [List.cons_append, List.nil_append]
  walk_at "go"
  have ok := ok_new d
  refine f_rm_put_at rm' h0 h1 h2 (by simp) rfl ok.le (count_pos ok (by lia)) (by walk_at "h") (by walk_at "u") ?_
  walk_at "go"
  exact back_next ⟨rfl, r, dr, rfl⟩ (by walk_at "r") .nil

theorem dflt_gc : look dflts "gc" = some (.str "Cn") := by kernel_rfl
theorem dflt_jt : look dflts "jt" = some (.str "U") := by kernel_rfl
theorem look_maps1 {g : Addr} : look [(("gc" : Str), D.val (.ref g))] "gc" = some (.val (.ref g)) := rfl
theorem f_law_data (rm : Rm A (n + 5)) : Cal c A (.ref 335) [] [] (fun d R' => ∃ p g dg, d = .val (.ref p.x) ∧ R' = dat0 p g dg) NoX := by
  refine Cal.prm (CalC.cal (call_law_data rm fun env A' L fe fn rm' hfr => ?_))
  conv => arg 4; whnf
  walk_at "go"
  refine f_data_new rm' fun p => ?_
  walk_at "go"
  refine sx_for fn hfr rm'.handled ?_ (by intro _ _; rfl)
  walk_at "go"
  refine f_kinds rm' ?_
  refine opq (fun (i : Nat) (R' : Led) => ∃ u v w, (i = 0 ∧ R' = [dM p [], dF p, dI p, dA p, (L, .loc ["data", "first", "last", "kind"] [some (.val (.ref p.x)), u, v, w])]) ∨
    (0 < i ∧ ∃ g dg, R' = [rmI g dg, rmA dg "Cn" ((kinds.take i).foldl (fun m r => rmPut m.1 m.2 r.1 r.2.1 r.2.2) ([0], ["Cn"])).1 ((kinds.take i).foldl (fun m r => rmPut m.1 m.2 r.1 r.2.1 r.2.2) ([0], ["Cn"])).2, dM p [("gc", .val (.ref g))], dF p, dI p, dA p, (L, .loc ["data", "first", "last", "kind"] [some (.val (.ref p.x)), u, v, w])])) fun J hJ => ?_
  refine ⟨_, .lst, J, (hJ _ _).mpr ⟨_, _, _, .inl ⟨rfl, rfl⟩⟩, ?_, ?_⟩
  · intro i y R' hi hjj
    obtain ⟨u, v, w, hR⟩ := (hJ _ _).mp hjj
    clear hjj
    rw [List.getElem?_map, Option.map_eq_some_iff] at hi
    obtain ⟨r, hr, rfl⟩ := hi
    have hb := kinds_ok r (List.mem_of_getElem? hr)
    have e9 : (kinds.take (i + 1)).foldl (fun m r => rmPut m.1 m.2 r.1 r.2.1 r.2.2) (([0], ["Cn"]) : List Int × List Str) = rmPut ((kinds.take i).foldl (fun m r => rmPut m.1 m.2 r.1 r.2.1 r.2.2) ([0], ["Cn"])).1 ((kinds.take i).foldl (fun m r => rmPut m.1 m.2 r.1 r.2.1 r.2.2) ([0], ["Cn"])).2 r.1 r.2.1 r.2.2 := by
      rw [List.take_add_one, hr, List.foldl_append]; rfl
    rcases hR with ⟨rfl, rfl⟩ | ⟨h0, g, dg, rfl⟩
    · walk_at "go"
      refine Cal.fr (f_data_put0 (name := "gc") (d := "Cn") (maps := []) rm' hb.1 hb.2.1 hb.2.2 rfl dflt_gc (by simp)) (by walk_at "has") ?_
      rintro d' R' ⟨rfl, g, dg, rfl⟩
      simp only [List.cons_append, List.nil_append]
      walk_at "go"
      refine (hJ _ _).mpr ?_
      simp only [e9]
      exact ⟨_, _, _, .inr ⟨Nat.succ_pos _, g, dg, rfl⟩⟩
    · have ok := ok_fold (kinds.take i) (fun r hr => kinds_ok r (List.mem_of_mem_take hr)) ([0], ["Cn"]) (ok_new "Cn")
      have hz : ((kinds.take i).foldl (fun m r => rmPut m.1 m.2 r.1 r.2.1 r.2.2) (([0], ["Cn"]) : List Int × List Str)).1.length ≤ 20 := by
        have h1 : (kinds.take i).length ≤ 6 := Nat.le_trans (List.length_take_le' _ _) (by decide)
        have := ok.2
        have e : (([0] : List Int), (["Cn"] : List Str)).1.length = 1 := rfl
        lia
      generalize (kinds.take i).foldl (fun m r => rmPut m.1 m.2 r.1 r.2.1 r.2.2) (([0], ["Cn"]) : List Int × List Str) = m at *
      walk_at "go"
      refine f_data_put rm' hb.1 hb.2.1 hb.2.2 (by lia) ok.1.len ok.1.le (count_pos ok.1 (by lia)) (by walk_at "h") (by walk_at "h") (by walk_at "h") look_maps1 (by walk_at "h") (by walk_at "u") ?_
      walk_at "go"
      refine (hJ _ _).mpr ?_
      simp only [e9]
      exact ⟨_, _, _, .inr ⟨Nat.succ_pos _, g, dg, rfl⟩⟩
  · intro R' hjj
    obtain ⟨u, v, w, ⟨h, rfl⟩ | ⟨_, g, dg, rfl⟩⟩ := (hJ _ _).mp hjj
    · cases h
    clear hjj hJ
    have e1 : ((kinds.take (List.map rowD kinds).length).foldl (fun m r => rmPut m.1 m.2 r.1 r.2.1 r.2.2) (([0], ["Cn"]) : List Int × List Str)).1 = gcS := by rw [List.length_map, List.take_length]; rfl
    have e2 : ((kinds.take (List.map rowD kinds).length).foldl (fun m r => rmPut m.1 m.2 r.1 r.2.1 r.2.2) (([0], ["Cn"]) : List Int × List Str)).2 = gcV := by rw [List.length_map, List.take_length]; rfl
    rw [e1, e2]
    walk_at "go"
    refine back_ret (prm (R2 := dat0 p g dg) ⟨p, g, dg, rfl, rfl⟩ ?_) (by walk_at "r") .nil
    walk_at "has"
end
section
variable {c : Cx} {A : Around} {env : Env} {L : Addr} {n : Nat} {R R0 R1 R2 : Led} {Q : D → Led → Prop} {X : Addr → D → Led → Prop}
noncomputable def joinCodes : List Int := codes ++ [96, 100, 767, 771, 1573, 8203, 1114111]
theorem joinCodes_ok : ∀ x ∈ joinCodes, 0 ≤ x ∧ x ≤ 1114111 := by decide +kernel
theorem f_joins1 {p : DA} {g dg j dj : Addr} {s : List Int} {v : List Str} (rm : Rm A (n + 4)) (ok : RMok s v) (hz : s.length ≤ 10000) :
    Cal c A (.ref 352) [.val (.ref p.x)] (dat1 p g dg j dj s v) (fun d R' => d = .lst ((joinCodes.map (rmF s v)).map .str) ∧ R' = dat1 p g dg j dj s v) NoX := by
  refine CalC.cal (call_law_joins rm fun env A' L ad fe ce fn rm' hfr => ?_)
  conv => arg 4; whnf
  walk_at "go"
  refine ev_map ["code"] [] ["data"] rm' fe ce (by kernel_rfl) (by simp) (Globs.mem .nil) ?_ (by intro _ _; rfl)
  walk_at "go"
  refine f_codes rm' ?_
  walk_at "go"
  refine ⟨by simp, newl_f ?_⟩
  refine bi_addL (xs := codes.map .int) (by walk_at "lv") (by walk_at "lv") (by rw [sizeLine_is]; decide +kernel) (newl_f ?_)
  have e1 : codes.map D.int ++ [D.int 96, D.int 100, D.int 767, D.int 771, D.int 1573, D.int 8203, D.int 1114111] = joinCodes.map D.int := by unfold joinCodes; rw [List.map_append]; rfl
  rw [e1]
  refine ⟨_, (joinCodes.map (rmF s v)).map .str, .lst, by rw [List.length_map]; decide +kernel, by simp, fun i x y cvs C env' h1 h2 h3 fe' ce' => ?_, ?_⟩
  · match cvs, h3 with
    | [cv], _ =>
      rw [List.getElem?_map, Option.map_eq_some_iff] at h1
      obtain ⟨k, hk, rfl⟩ := h1
      have hb := joinCodes_ok k (List.mem_of_getElem? hk)
      rw [List.getElem?_map, List.getElem?_map, hk] at h2
      cases h2
      walk_at "go"
      refine f_data_get rm' (by walk_at "h") (by walk_at "h") (by walk_at "h") (x := j) (by rfl) (by walk_at "h") (by walk_at "h") (by lia) ok.le (pbh_pos ok hb.1) (rmF_at ok hb.1) ?_
      walk_at "go"
      exact ⟨rfl, rfl⟩
  · refine newl_f ?_
    walk_at "go"
    exact backc_ret ⟨rfl, rfl⟩ (by walk_at "r") (by walk_at "rc") .nil
theorem f_joins0 {p : DA} {g dg : Addr} (rm : Rm A (n + 4)) :
    Cal c A (.ref 352) [.val (.ref p.x)] (dat0 p g dg) (fun d R' => d = .lst ((joinCodes.map fun _ => ("U" : Str)).map .str) ∧ R' = dat0 p g dg) NoX := by
  refine CalC.cal (call_law_joins rm fun env A' L ad fe ce fn rm' hfr => ?_)
  conv => arg 4; whnf
  walk_at "go"
  refine ev_map ["code"] [] ["data"] rm' fe ce (by kernel_rfl) (by simp) (Globs.mem .nil) ?_ (by intro _ _; rfl)
  walk_at "go"
  refine f_codes rm' ?_
  walk_at "go"
  refine ⟨by simp, newl_f ?_⟩
  refine bi_addL (xs := codes.map .int) (by walk_at "lv") (by walk_at "lv") (by rw [sizeLine_is]; decide +kernel) (newl_f ?_)
  have e1 : codes.map D.int ++ [D.int 96, D.int 100, D.int 767, D.int 771, D.int 1573, D.int 8203, D.int 1114111] = joinCodes.map D.int := by unfold joinCodes; rw [List.map_append]; rfl
  rw [e1]
  refine ⟨_, (joinCodes.map fun _ => ("U" : Str)).map .str, .lst, by rw [List.length_map]; decide +kernel, by simp, fun i x y cvs C env' h1 h2 h3 fe' ce' => ?_, ?_⟩
  · match cvs, h3 with
    | [cv], _ =>
      rw [List.getElem?_map, Option.map_eq_some_iff] at h1
      obtain ⟨k, hk, rfl⟩ := h1
      rw [List.getElem?_map, List.getElem?_map, hk] at h2
      cases h2
      walk_at "go"
      refine f_data_get0 rm' (by walk_at "h") (by walk_at "h") (by walk_at "h") (by walk_at "h") (by rfl) dflt_jt ?_
      walk_at "go"
      exact ⟨rfl, rfl⟩
  · refine newl_f ?_
    walk_at "go"
    exact backc_ret ⟨rfl, rfl⟩ (by walk_at "r") (by walk_at "rc") .nil
end
section
variable {c : Cx} {A : Around} {env : Env} {L : Addr} {n : Nat} {R R0 R1 R2 : Led} {Q : D → Led → Prop} {X : Addr → D → Led → Prop}
noncomputable def setD (kvs : List (Int × D)) (k : Int) : List (Int × D) := match look kvs k with | some _ => kvs | none => put kvs k (.str "U")
noncomputable def passR2 (r : Int × Int × Str) : Bool := joiningThrough.contains r.2.2
noncomputable def passL (rows : List (Int × Int × Str)) : List Int := (rows.filter passR2).flatMap rowCodes
noncomputable def strP (q : Int × Str) : Int × D := (q.1, .str q.2)
noncomputable def sortsOf (pairs : List (Int × Str)) : List (Int × D) := (passL kinds).foldl setD (putAll [] (pairs.map strP))
noncomputable def noJG : List Nat := [78, 111, 95, 74, 111, 105, 110, 105, 110, 103, 95, 71, 114, 111, 117, 112]
noncomputable def rowB (F : Int → Str) (k : Int) : List Nat := joinB [59, 32] [hexB k.toNat, [45], (F k).cps.toList, noJG] ++ [10]
theorem hexLoop_len : ∀ (f r : Nat) (acc : List Nat), (hexLoop f r acc).length ≤ acc.length + f
  | 0, r, acc => Nat.le_refl _
  | f + 1, r, acc => by
    unfold hexLoop
    split
    · have := hexLoop_len f (r / 16) (acc ++ [hexDig (r % 16)])
      rw [List.length_append, List.length_singleton] at this; lia
    · lia
theorem hexB_len (code : Nat) : (hexB code).length ≤ 6 := by
  unfold hexB
  rw [List.length_reverse]
  have := hexLoop_len 6 code []
  simpa using this
theorem putAll_len {κ : Type} [DecidableEq κ] (base more : List (κ × D)) : (putAll base more).length ≤ base.length + more.length := by
  unfold putAll
  induction more generalizing base with
  | nil => simp
  | cons x r ih =>
    rw [List.foldl_cons, List.length_cons]
    have := ih (put base x.1 x.2)
    have := put_length base x.1 x.2
    lia
theorem setD_len (kvs : List (Int × D)) (k : Int) : (setD kvs k).length ≤ kvs.length + 1 := by
  unfold setD
  split
  · lia
  · exact put_length _ _ _
theorem setDs_len (ks : List Int) (kvs : List (Int × D)) : (ks.foldl setD kvs).length ≤ kvs.length + ks.length := by
  induction ks generalizing kvs with
  | nil => simp
  | cons x r ih =>
    rw [List.foldl_cons, List.length_cons]
    have := ih (setD kvs x)
    have := setD_len kvs x
    lia
theorem jt_ascii : ∀ x ∈ joiningTypes, x.cps.size = 1 ∧ ∀ k ∈ x.cps.toList, k ≤ 127 := by decide +kernel
theorem passL_len : (passL kinds).length ≤ 10 := by decide +kernel
theorem passL_take (i : Nat) : (passL (kinds.take i)).length ≤ 10 := by
  refine Nat.le_trans ?_ passL_len
  have e : passL kinds = passL (kinds.take i) ++ passL (kinds.drop i) := by
    unfold passL
    rw [← List.flatMap_append, ← List.filter_append, List.take_append_drop]
  rw [e, List.length_append]; lia
theorem passL_succ {i : Nat} {r : Int × Int × Str} (h : kinds[i]? = some r) : passL (kinds.take (i + 1)) = passL (kinds.take i) ++ (if passR2 r = true then rowCodes r else []) := by
  unfold passL
  rw [List.take_add_one, h, List.filter_append, List.flatMap_append]
  congr 1
  show (List.filter passR2 [r]).flatMap rowCodes = _
  rw [List.filter_cons]
  split <;> simp
theorem rem_mid (x : Ent) (r : Led) : ∀ S : Led, Rem x (S ++ x :: r) (S ++ r)
  | [] => .head
  | _ :: S => .tail (rem_mid x r S)
theorem takes_behind (S : Led) : ∀ R : Led, Takes R (S ++ R) S
  | [] => by rw [List.append_nil]; exact .nil
  | x :: r => .cons (rem_mid x r S) (takes_behind S r)
theorem f_joining {p : DA} {g dg : Addr} {s : List Int} {v : List Str} {pairs : List (Int × Str)} {ks : List Int} (F : Int → Str) (rm : Rm A (n + 6)) (R0 : Led)
    (hT : ∀ A', Rm A' (n + 5) → Cal c A' (.ref 174) [.val (.ref p.x), .str "jt", .str "U"] R0 (fun d R' => ∃ a j dj, d = .val (.ref a) ∧ R' = (a, .list ((pairs.map strP).map prI)) :: dat1 p g dg j dj s v) NoX)
    (hn : pairs.length ≤ 40) (hks : ∀ ns' : List Int, ns'.Perm ((sortsOf pairs).map (·.1)) → ns'.Pairwise (· ≤ ·) → ns' = ks)
    (hF : ∀ k ∈ ks, 0 ≤ k ∧ k ≤ 1114111 ∧ look (sortsOf pairs) k = some (.str (F k)) ∧ F k ∈ joiningTypes) (hkl : ks.length ≤ 64) :
    Cal c A (.ref 181) [.val (.ref p.x)] R0 (fun d R' => d = .bytes (joinB [] (ks.map (rowB F))) ∧ ∃ j dj, R' = dat1 p g dg j dj s v) NoX := by
  refine Cal.gen fun Q hQ => ?_
  refine CalC.cal (call_joining_octets rm fun env A' L fe fn rm' hfr => ?_)
  conv => arg 4; whnf
  walk_at "go"
  refine sx_swap2 "sorts" "rows" fe fn rm' ?_ (by intro _; rfl) (by intro _ _ _ _; rfl)
  walk_at "go"
  refine Cal.fr (hT A' rm') (takes_behind [_] R0) ?_
  rintro d R' ⟨a, j, dj, rfl, rfl⟩
  simp only [List.cons_append, List.nil_append]
  walk_at "go"
  refine ca_dictL (pairs := pairs.map strP) rm'.handled (by rw [List.length_map]; lia) .head fun sd => ?_
  walk_at "go"
  refine ⟨by simp, newl_o fun ra => ?_⟩
  walk_at "go"
  refine ⟨by simp, _, _, rfl, ?_⟩
  walk_at "go"
  refine sx_for fn hfr rm'.handled ?_ (by intro _ _; rfl)
  walk_at "go"
  refine f_map_has rm' (by walk_at "h") (by walk_at "h") (by walk_at "h") (r := g) rfl ?_
  walk_at "go"
  refine f_rm_ranges rm' (by walk_at "h") (by walk_at "h") (by have := gc_len; lia) gc_len.1 ?_
  rw [gc_ranges]
  refine opq (fun (i : Nat) (R' : Led) => ∃ u v1 w z, R' = (ra, .list []) :: (sd, .dictI ((passL (kinds.take i)).foldl setD (putAll [] (pairs.map strP)))) :: (dat1 p g dg j dj s v ++ [(L, .loc ["data", "sorts", "rows", "first", "last", "category", "code"] [some (.val (.ref p.x)), some (.val (.ref sd)), some (.val (.ref ra)), u, v1, w, z])])) fun J hJ => ?_
  refine ⟨_, .lst, J, (hJ _ _).mpr ⟨_, _, _, _, rfl⟩, ?_, ?_⟩
  · intro i y R' hi hj
    obtain ⟨u, v1, w, z, rfl⟩ := (hJ _ _).mp hj
    clear hj
    rw [List.getElem?_map, Option.map_eq_some_iff] at hi
    obtain ⟨r, hr, rfl⟩ := hi
    have hb := kinds_ok r (List.mem_of_getElem? hr)
    simp only [List.cons_append, List.nil_append]
    walk_at "go"
    refine sx_for fn hfr rm'.handled ?_ (by intro _ _; rfl)
    walk_at "ife"
    walk_at "go"
    refine cm_inT (ys := joiningThrough) ?_
    walk_at "go"
    have hl1 := setDs_len (passL (kinds.take i)) (putAll [] (pairs.map strP))
    have hl2 := putAll_len ([] : List (Int × D)) (pairs.map strP)
    have hl3 := passL_take i
    rw [List.length_map, List.length_nil] at hl2
    refine ⟨fun hp => ?_, fun hp => ?_⟩
    · walk_at "go"
      refine ca_range2 ⟨by lia, by lia, by lia, by lia⟩ ?_
      have e9 := passL_succ hr
      rw [if_pos (show passR2 r = true from hp)] at e9
      refine opq (fun (k : Nat) (R' : Led) => ∃ z, R' = (ra, .list []) :: (sd, .dictI (((rowCodes r).take k).foldl setD ((passL (kinds.take i)).foldl setD (putAll [] (pairs.map strP))))) :: (dat1 p g dg j dj s v ++ [(L, .loc ["data", "sorts", "rows", "first", "last", "category", "code"] [some (.val (.ref p.x)), some (.val (.ref sd)), some (.val (.ref ra)), some (.int r.1), some (.int r.2.1), some (.str r.2.2), z])])) fun J2 hJ2 => ?_
      refine ⟨_, .rng, J2, (hJ2 _ _).mpr ⟨_, rfl⟩, ?_, ?_⟩
      · intro k y R' hk hj
        obtain ⟨z, rfl⟩ := (hJ2 _ _).mp hj
        clear hj
        rw [List.getElem?_map, Option.map_eq_some_iff] at hk
        obtain ⟨k', hk, rfl⟩ := hk
        obtain ⟨hk1, hk2⟩ := List.getElem?_eq_some_iff.mp hk
        simp only [List.getElem_range] at hk2
        subst hk2
        simp only [List.cons_append, List.nil_append]
        have hl4 := setDs_len ((rowCodes r).take k) ((passL (kinds.take i)).foldl setD (putAll [] (pairs.map strP)))
        have hl5 : ((rowCodes r).take k).length ≤ 10 := by
          have := passL_take (i + 1)
          rw [e9, List.length_append] at this
          have := List.length_take_le' k (rowCodes r)
          lia
        walk_at "go"
        refine ca_setdefault (by walk_at "u") (by lia) fun _ => ?_
        walk_at "go"
        have e10 : (rowCodes r)[k]? = some (r.1 + (k : Int)) := by
          unfold rowCodes
          rw [List.getElem?_map, hk]; rfl
        have e11 : ∀ b, ((rowCodes r).take (k + 1)).foldl setD b = setD (((rowCodes r).take k).foldl setD b) (r.1 + (k : Int)) := fun b => by
          rw [List.take_add_one, e10, List.foldl_append]; rfl
        refine (hJ2 _ _).mpr ?_
        simp only [e11]
        exact ⟨_, rfl⟩
      · intro R' hj
        obtain ⟨z, rfl⟩ := (hJ2 _ _).mp hj
        clear hj hJ2
        simp only [List.cons_append, List.nil_append]
        walk_at "go"
        refine (hJ _ _).mpr ?_
        simp only [e9, List.foldl_append]
        rw [List.take_of_length_le (l := rowCodes r) (by unfold rowCodes; simp)]
        exact ⟨_, _, _, _, rfl⟩
    · walk_at "go"
      refine ⟨by simp, ?_⟩
      refine opq (fun (k : Nat) (R' : Led) => k = 0 ∧ ∃ z, R' = (ra, .list []) :: (sd, .dictI ((passL (kinds.take i)).foldl setD (putAll [] (pairs.map strP)))) :: (dat1 p g dg j dj s v ++ [(L, .loc ["data", "sorts", "rows", "first", "last", "category", "code"] [some (.val (.ref p.x)), some (.val (.ref sd)), some (.val (.ref ra)), some (.int r.1), some (.int r.2.1), some (.str r.2.2), z])])) fun J2 hJ2 => ?_
      refine ⟨_, .tup, J2, (hJ2 _ _).mpr ⟨rfl, _, rfl⟩, ?_, ?_⟩
      · intro k y R' hk hj
        obtain ⟨rfl, z, rfl⟩ := (hJ2 _ _).mp hj
        cases hk
      · intro R' hj
        obtain ⟨_, z, rfl⟩ := (hJ2 _ _).mp hj
        clear hj hJ2
        simp only [List.cons_append, List.nil_append]
        walk_at "go"
        have e9 := passL_succ hr
        rw [if_neg (show ¬ passR2 r = true from fun h => by rw [show passR2 r = false from hp] at h; cases h), List.append_nil] at e9
        refine (hJ _ _).mpr ?_
        simp only [e9]
        exact ⟨_, _, _, _, rfl⟩
  intro R' hj
  obtain ⟨u, v1, w, z, rfl⟩ := (hJ _ _).mp hj
  clear hj hJ J
  rw [List.length_map, List.take_length]
  rw [show (passL kinds).foldl setD (putAll [] (pairs.map strP)) = sortsOf pairs from rfl]
  simp only [List.cons_append, List.nil_append]
  walk_at "go"
  refine sx_for fn hfr rm'.handled ?_ (by intro _ _; rfl)
  walk_at "go"
  have hsl : (sortsOf pairs).length < 64 := by
    have hl1 := setDs_len (passL kinds) (putAll [] (pairs.map strP))
    have hl2 := putAll_len ([] : List (Int × D)) (pairs.map strP)
    have hl3 := passL_len
    rw [List.length_map, List.length_nil] at hl2
    unfold sortsOf; lia
  refine ca_sortedD rm'.handled (by walk_at "h") hsl fun ns' hp hs => newl_f ?_
  obtain rfl := hks ns' hp hs
  refine opq (fun (i : Nat) (R' : Led) => ∃ u v1 w z, R' = (ra, .list (((ns'.take i).map (rowB F)).map .bytes)) :: (sd, .dictI (sortsOf pairs)) :: (dat1 p g dg j dj s v ++ [(L, .loc ["data", "sorts", "rows", "first", "last", "category", "code"] [some (.val (.ref p.x)), some (.val (.ref sd)), some (.val (.ref ra)), u, v1, w, z])])) fun J hJ => ?_
  refine ⟨_, .lst, J, (hJ _ _).mpr ⟨_, _, _, _, rfl⟩, ?_, ?_⟩
  · intro i y R' hi hj
    obtain ⟨u, v1, w, z, rfl⟩ := (hJ _ _).mp hj
    clear hj
    rw [List.getElem?_map, Option.map_eq_some_iff] at hi
    obtain ⟨k, hk, rfl⟩ := hi
    obtain ⟨hk0, hk1, hk2, hk3⟩ := hF k (List.mem_of_getElem? hk)
    obtain ⟨m, rfl⟩ := Int.eq_ofNat_of_zero_le hk0
    have hja := jt_ascii _ hk3
    simp only [List.cons_append, List.nil_append]
    walk_at "go"
    refine f_hex_code rm' (by lia) ?_
    walk_at "go"
    refine su_I (by walk_at "h") hk2 ?_ (by intro _ _; rfl)
    walk_at "go"
    refine f_octets_of_ascii rm' (by lia) hja.2 ?_
    walk_at "go"
    refine ⟨by simp, newl_f ?_⟩
    walk_at "go"
    have hx := hexB_len m
    have hl : (joinB [59, 32] [hexB m, [45], (F (m : Int)).cps.toList, noJG]).length ≤ 100 := by
      rw [joinB_length]
      have : noJG.length = 16 := rfl
      have := hja.1
      simp; lia
    refine ca_join (l := [59, 32]) (ps := [hexB m, [45], (F (m : Int)).cps.toList, noJG]) lv_f (by rw [sizeLine_is]; lia) ?_
    walk_at "go"
    refine bi_addBy (m := [10]) (by simp; lia) ?_
    walk_at "go"
    refine ca_append (by walk_at "u") (by rw [sizeLine_is, List.length_map, List.length_map, List.length_take]; lia) ?_
    walk_at "go"
    have e12 : ((ns'.take (i + 1)).map (rowB F)).map D.bytes = ((ns'.take i).map (rowB F)).map D.bytes ++ [.bytes (joinB [59, 32] [hexB m, [45], (F (m : Int)).cps.toList, noJG] ++ [10])] := by
      rw [List.take_add_one, hk, List.map_append, List.map_append]; rfl
    refine (hJ _ _).mpr ?_
    simp only [e12]
    exact ⟨_, _, _, _, rfl⟩
  · intro R' hj
    obtain ⟨u, v1, w, z, rfl⟩ := (hJ _ _).mp hj
    clear hj hJ J
    rw [List.length_map, List.take_length]
    simp only [List.cons_append, List.nil_append]
    walk_at "go"
    have hl : ∀ l : List Int, (∀ k ∈ l, F k ∈ joiningTypes) → ((l.map (rowB F)).map List.length).sum ≤ 200 * l.length := by
      intro l hl
      induction l with
      | nil => simp
      | cons k r ih =>
        have h1 := ih fun q hq => hl q (.tail _ hq)
        have h2 := jt_ascii _ (hl k (.head _))
        have h3 := hexB_len k.toNat
        have h4 : (rowB F k).length ≤ 200 := by
          unfold rowB
          rw [List.length_append, joinB_length]
          have : noJG.length = 16 := rfl
          have := h2.1
          simp; lia
        simp only [List.map_cons, List.sum_cons, List.length_cons]; lia
    have hl1 := hl ns' fun k hk => (hF k hk).2.2.2
    refine ca_join (l := []) (ps := ns'.map (rowB F)) (by walk_at "lv") (by rw [sizeLine_is, joinB_length]; simp only [List.length_nil, Nat.zero_mul]; lia) ?_
    walk_at "go"
    exact back_ret (hQ _ _ ⟨rfl, j, dj, rfl⟩) (by walk_at "r") (.drop rfl (.drop rfl .nil))
end
section
variable {c : Cx} {A : Around} {env : Env} {L : Addr} {n : Nat} {R R0 R1 R2 : Led} {Q : D → Led → Prop} {X : Addr → D → Led → Prop}
theorem sorted_sub : ∀ {l m : List Int}, l.Pairwise (· < ·) → m.Pairwise (· < ·) → l ⊆ m → l.Sublist m
  | [], m, _, _, _ => List.nil_sublist _
  | a :: l, [], _, _, h => absurd (h (.head _)) (by simp)
  | a :: l, b :: m, h1, h2, h => by
    rw [List.pairwise_cons] at h1 h2
    by_cases e : a = b
    · subst e
      refine (sorted_sub h1.2 h2.2 fun x hx => ?_).cons_cons _
      rcases List.mem_cons.mp (h (.tail _ hx)) with q | q
      · have := h1.1 x hx; lia
      · exact q
    · have ha : a ∈ m := (List.mem_cons.mp (h (.head _))).resolve_left e
      have hb := h2.1 a ha
      refine (sorted_sub (List.pairwise_cons.mpr h1) h2.2 fun x hx => ?_).cons _
      rcases List.mem_cons.mp (h hx) with q | q
      · rcases List.mem_cons.mp hx with q2 | q2
        · lia
        · have := h1.1 x q2; lia
      · exact q
theorem codes_sorted : codes.Pairwise (· < ·) := by decide +kernel
theorem told_small {s : List Int} {v : List Str} (ok : RMok s v) (hF : ∀ k, 0 ≤ k → k ≤ 1114111 → ¬ rmF s v k = "U" → k ∈ codes) : (toldL (rmRanges "U" s v)).length ≤ 15 := by
  have h1 := ranges_sorted ok "U"
  have hsub : ((toldL (rmRanges "U" s v)).map (·.1)) ⊆ codes := fun k hk => by
    obtain ⟨⟨k', z⟩, hq, rfl⟩ := List.mem_map.mp hk
    obtain ⟨hb, hz, hn⟩ := (ranges_mem ok "U" k' z).mp hq
    exact hF k' hb.1 hb.2 (by rw [hz]; exact hn)
  have := (sorted_sub h1 codes_sorted hsub).length_le
  rw [List.length_map] at this
  exact Nat.le_trans this (by decide +kernel)
theorem f_told1 {p : DA} {g dg j dj : Addr} {s : List Int} {v : List Str} (rm : Rm A (n + 3)) (ok : RMok s v) (hz : s.length ≤ 10000) (ht : (toldL (rmRanges "U" s v)).length ≤ 10000) :
    Cal c A (.ref 174) [.val (.ref p.x), .str "jt", .str "U"] (dat1 p g dg j dj s v) (fun d R' => ∃ a j dj, d = .val (.ref a) ∧ R' = (a, .list (((toldL (rmRanges "U" s v)).map strP).map prI)) :: dat1 p g dg j dj s v) NoX := by
  refine f_told rm (by walk_at "h") (by walk_at "h") (by walk_at "h") (x := j) (by rfl) (by walk_at "h") (by walk_at "h") hz ok.len (fun r hr => rows_mem ok r (List.mem_filter.mp hr).1) ht fun a => ⟨a, j, dj, rfl, ?_⟩
  rw [List.map_map]; rfl
theorem ranges0 : rmRanges "U" [0] ["U"] = [] := by decide +kernel
theorem f_told0 {p : DA} {g dg : Addr} (rm : Rm A (n + 5)) :
    Cal c A (.ref 174) [.val (.ref p.x), .str "jt", .str "U"] (dat0 p g dg) (fun d R' => ∃ a j dj, d = .val (.ref a) ∧ R' = (a, .list ((([] : List (Int × Str)).map strP).map prI)) :: dat1 p g dg j dj [0] ["U"]) NoX := by
  refine Cal.prm (CalC.cal (call_ucdmore_told rm fun env A' L fe fn rm' hfr => ?_))
  conv => arg 4; whnf
  walk_at "go"
  refine ⟨by simp, newl_o fun a => ?_⟩
  walk_at "go"
  refine sx_for fn hfr rm'.handled ?_ (by intro _ _; rfl)
  walk_at "go"
  refine Cal.fr (R0 := [dM p [("gc", .val (.ref g))], dF p, dI p, dA p]) (f_map_new (R := []) (d := "U") (Q := fun d' R' => ∃ r dr, d' = .val (.ref r) ∧ R' = [rmI r dr, rmA dr "U" [0] ["U"], dM p [("gc", .val (.ref g)), ("jt", .val (.ref r))], dF p, dI p, dA p]) rm' rfl dflt_jt (by simp) (fun r dr => ⟨r, dr, rfl, rfl⟩)) (by walk_at "has") ?_
  rintro d' R' ⟨j, dj, rfl, rfl⟩
  simp only [List.cons_append, List.nil_append]
  walk_at "go"
  refine f_rm_ranges rm' (x := j) (dx := dj) (dflt := "U") (starts := [0]) (values := ["U"]) (by walk_at "h") (by walk_at "h") (by simp) rfl ?_
  rw [ranges0]
  refine ⟨_, .lst, fun i R' => i = 0 ∧ R' = [rmI j dj, rmA dj "U" [0] ["U"], dM p [("gc", .val (.ref g)), ("jt", .val (.ref j))], dF p, dI p, dA p, (a, .list []), (L, .loc ["data", "name", "nothing", "found", "first", "last", "value", "code"] [some (.val (.ref p.x)), some (.str "jt"), some (.str "U"), some (.val (.ref a)), none, none, none, none]), rmI g dg, rmA dg "Cn" gcS gcV], ⟨rfl, rfl⟩, ?_, ?_⟩
  · rintro i y R' hi ⟨rfl, rfl⟩
    cases hi
  · rintro R' ⟨_, rfl⟩
    walk_at "go"
    refine back_ret (prm (R2 := (a, .list []) :: dat1 p g dg j dj [0] ["U"]) ⟨a, j, dj, rfl, rfl⟩ ?_) (by walk_at "r") .nil
    walk_at "has"
end
section
variable {c : Cx} {A : Around} {env : Env} {L : Addr} {n : Nat} {R R0 R1 R2 : Led} {Q : D → Led → Prop} {X : Addr → D → Led → Prop}
/-- an assigned comprehension that keeps the ledger and takes each item -/
theorem sx_map {elt iter : Expr} {target : Expr} {scope : Scope} {pos pos' spos : Pos} {y : Str} {ns ps : List Str} {gl : List (Str × D)} {ad : Str → Addr} {Q : Fl → Led → Prop} (cns : List Str) (gl' : List (Str × D)) (frees : List Str) {sc : Scope} (fn : FN env L sc) (rm : Rm A n) (fe : FE env L ns gl) (ce : CE env ps ad) (ok : compOk scope cns gl' frees = true) (hps : frees ⊆ ps) (hg : ∀ p ∈ gl', GlobIs p.1 p.2)
    (h : Ev c A env iter R (fun d R1 => ∃ items out : List D, Items d items ∧ items.length ≤ 100000 ∧ out.length = items.length ∧
      (∀ (i : Nat) (x y : D) (cvs : List (Option D)) (C : Addr) (env' : Env), items[i]? = some x → out[i]? = some y → cvs.length = cns.length → FE env' C cns gl' → CE env' frees ad → Asg c A env' target x ((C, .loc cns cvs) :: R1) (fun R3 => Ev c A env' elt R3 (fun d => CLoc C cns (fun R4 => d = y ∧ R4 = R1)) NoX) NoX) ∧
      NewL (fun d R3 => Sto L ns y d R3 (Q .next)) out R1) X)
    (hsw : ∀ (qual : Str) (f : Addr) (cd : Value) (cs : List (Str × Addr)), swapsWith (.ListComp elt [⟨target, iter, [], 0⟩] scope pos) (some (.Name y pos')) spos.line { envOf qual sc L f cd with cells := cs } = pure true)
    (hf : ∀ env x, foldedSetIterable iter env x = pure x) : Sx c A env (.Assign [.Name y pos'] (.ListComp elt [⟨target, iter, [], 0⟩] scope pos) spos) R Q X := by
  refine sx_comp (freesOf ad frees) cns rm.handled fe (comp_ok ok hps ce) (h.mono fun d R1 zz => ?_) (by obtain ⟨q, f, cd, cs, rfl⟩ := fn; exact hsw q f cd cs) hf
  obtain ⟨items, out, hi, hl, ho, turn, q⟩ := zz
  refine ⟨items, hi, hl, fun i acc R2 => R2 = R1 ∧ acc = out.take i, ⟨rfl, by simp⟩, ?_, ?_⟩
  · rintro i x acc R2 cvs C hx ⟨rfl, rfl⟩ hal hc
    have lt := (List.getElem?_eq_some_iff.mp hx).1
    have hy : out[i]? = some (out[i]'(by lia)) := List.getElem?_eq_getElem _
    refine ⟨fun I H s v hs r => wpAny_mono ((turn i x _ cvs C _ hx hy hc (comp_fe fe ok hg) (comp_ce ok)).run I H s v hs r) (fun v s' z => z.mono fun _ R3 z3 => ?_) fun _ _ z => z⟩
    refine tests_nil (br_true ?_)
    refine z3.mono fun d R4 zz => ?_
    obtain ⟨cvs', R', h1, h2, h3, h4⟩ := zz
    refine ⟨cvs', R', h1, h2, h4, ?_⟩
    rw [List.take_add_one, hy, h3]; rfl
  · rintro acc R2 ⟨rfl, rfl⟩
    rw [List.take_of_length_le (by lia)]; exact q
theorem ca_findA {l : List Nat} {x : Nat} (h : Q (.int (findN x l)) R) : Cal c A (.builtin "bytes.find") [.bytes l, .bytes [x]] R Q X := by
  cases l with
  | nil => exact ca_find0 h
  | cons a r => exact ca_find (by simp) h
noncomputable def stripB (l : List Nat) : List Nat := stripL ([32, 9, 13] : List Nat).contains l
noncomputable def bodyB (l : List Nat) : List Nat := if findN 35 l < 0 then l else l.take (findN 35 l).toNat
noncomputable def remB (l : List Nat) : List Nat := if findN 35 l < 0 then [] else l.drop (findN 35 l + 1).toNat
noncomputable abbrev RowT := Nat × List (List Nat) × List Nat
noncomputable def parseL (k : Nat) (l : List Nat) : List RowT := if stripB (bodyB l) = [] then [] else [(k + 1, (splitL 59 (bodyB l)).map stripB, stripB (remB l))]
noncomputable def rowsFrom : Nat → List (List Nat) → List RowT
  | _, [] => []
  | k, l :: r => parseL k l ++ rowsFrom (k + 1) r
theorem rowsFrom_app : ∀ (k : Nat) (a b : List (List Nat)), rowsFrom k (a ++ b) = rowsFrom k a ++ rowsFrom (k + a.length) b
  | k, [], b => by simp [rowsFrom]
  | k, l :: r, b => by
    rw [List.cons_append, rowsFrom, rowsFrom, rowsFrom_app (k + 1) r b, List.append_assoc, List.length_cons]
    congr 2
    congr 1
    lia
theorem rowsFrom_len : ∀ (k : Nat) (a : List (List Nat)), (rowsFrom k a).length ≤ a.length
  | _, [] => Nat.le_refl _
  | k, l :: r => by
    rw [rowsFrom, List.length_append, List.length_cons]
    have := rowsFrom_len (k + 1) r
    have : (parseL k l).length ≤ 1 := by unfold parseL; split <;> simp
    lia
noncomputable abbrev rowTD (r : RowT) : D := .tup [.int (r.1 : Int), .lst (r.2.1.map .bytes), .bytes r.2.2]
theorem cut_bytes_to (l : List Nat) {k : Int} (h : 0 ≤ k) : cut l none (some k) = l.take k.toNat := by
  obtain ⟨m, rfl⟩ := Int.eq_ofNat_of_zero_le h
  exact cut_to l m
theorem cut_bytes_from (l : List Nat) {k : Int} (h : 0 ≤ k) : cut l (some k) none = l.drop k.toNat := by
  obtain ⟨m, rfl⟩ := Int.eq_ofNat_of_zero_le h
  exact cut_from l m
theorem f_rows_of {l : List Nat} (rm : Rm A (n + 2)) (hz : l.length ≤ 50000) (hx : ¬ l.take 3 = [239, 187, 191]) (h : Q (.lst ((rowsFrom 0 (splitL 10 l)).map rowTD)) R) : Cal c A (.ref 123) [.bytes l] R Q X := by
  refine Cal.frz (CalC.cal (call_rows_of rm fun env A' L fe fn rm' hfr => ?_))
  conv => arg 4; whnf
  walk_at "go"
  refine ⟨by simp, newl_o fun a => ?_⟩
  walk_at "go"
  refine sx_for_enum fn hfr rm' ?_ (by intro _ _; rfl)
  walk_at "go"
  refine f_ucd_lines rm' (by lia) hx ?_
  walk_at "go"
  have hparts := parts_small 10 l
  generalize splitL 10 l = lines at hparts h ⊢
  refine ca_enum fun e it => opq (fun (i : Nat) (R' : Led) => ∃ v1 v2 v3 v4 v5 v6, R' = (a, .list ((rowsFrom 0 (lines.take i)).map rowTD)) :: (L, .loc ["octets", "found", "at", "line", "cut", "body", "remark", "fields"] [some (.bytes l), some (.val (.ref a)), v1, v2, v3, v4, v5, v6]) :: R) fun J hJ => ?_
  refine ⟨e, it, _, _, rfl, rfl, J, (hJ _ _).mpr ⟨_, _, _, _, _, _, rfl⟩, ?_, ?_⟩
  · intro i y R' hi hjj
    obtain ⟨v1, v2, v3, v4, v5, v6, rfl⟩ := (hJ _ _).mp hjj
    clear hjj
    rw [List.getElem?_map, Option.map_eq_some_iff] at hi
    obtain ⟨x, hi, rfl⟩ := hi
    have hxl : x.length ≤ 50000 := Nat.le_trans (hparts.1 x (List.mem_of_getElem? hi)) hz
    have hilt := (List.getElem?_eq_some_iff.mp hi).1
    have e9 : rowsFrom 0 (lines.take (i + 1)) = rowsFrom 0 (lines.take i) ++ parseL i x := by
      rw [List.take_add_one, hi, rowsFrom_app, List.length_take, Nat.min_eq_left (by lia), Nat.zero_add]
      show _ ++ (parseL i x ++ []) = _
      rw [List.append_nil]
    have hrl := rowsFrom_len 0 (lines.take i)
    rw [List.length_take] at hrl
    walk_at "go"
    refine ca_findA (x := 35) ?_
    walk_at "go"
    refine ev_cut (.bytes (bodyB x)) ?_ ?_
    · walk_at "ife"
      walk_at "go"
      refine ⟨fun hb => ?_, fun hb => ?_⟩ <;> simp only [decide_eq_true_eq, decide_eq_false_iff_not] at hb
      · walk_at "go"
        exact ⟨by unfold bodyB; rw [if_pos hb], rfl⟩
      · walk_at "go"
        refine ev_slc (lo := none) (hi := some (findN 35 x)) (st := none) trivial ?_ trivial ?_
        · show Ev _ _ _ _ _ _ _
          walk_at "go"
          exact ⟨rfl, rfl⟩
        refine su_bytesS (by rw [sizeLine_is]; lia) ?_
        exact ⟨by unfold bodyB; rw [if_neg hb, cut_bytes_to _ (by lia)], rfl⟩
    walk_at "go"
    refine ev_cut (.bytes (remB x)) ?_ ?_
    · walk_at "ife"
      walk_at "go"
      refine ⟨fun hb => ?_, fun hb => ?_⟩ <;> simp only [decide_eq_true_eq, decide_eq_false_iff_not] at hb
      · walk_at "go"
        exact ⟨by unfold remB; rw [if_pos hb]; rfl, rfl⟩
      · walk_at "go"
        refine ev_slc (lo := some (findN 35 x + 1)) (hi := none) (st := none) ?_ trivial trivial ?_
        · show Ev _ _ _ _ _ _ _
          walk_at "go"
          exact ⟨rfl, rfl⟩
        refine su_bytesS (by rw [sizeLine_is]; lia) ?_
        exact ⟨by unfold remB; rw [if_neg hb, cut_bytes_from _ (by lia)], rfl⟩
    have hbl : (bodyB x).length ≤ 50000 := by
      unfold bodyB
      split
      · exact hxl
      · rw [List.length_take]; lia
    have hrl2 : (remB x).length ≤ 100000 := by
      unfold remB
      split
      · simp
      · rw [List.length_drop]; lia
    generalize hbody : bodyB x = body at hbl
    generalize hrem : remB x = rem at hrl2
    unfold parseL at e9
    rw [hbody, hrem] at e9
    walk_at "go"
    walk_at "if"
    walk_at "go"
    refine ca_strip (m := [32, 9, 13]) (by rw [sizeLine_is]; lia) ?_
    walk_at "go"
    refine ⟨fun hb => ?_, fun hb => ?_⟩
    · have hne : ¬ stripB body = [] := by simpa [stripB] using hb
      rw [if_neg hne] at e9
      walk_at "go"
      refine sx_map ["field"] [("UCD_BLANKS", .bytes [32, 9, 13])] [] fn rm' fe ce_none (by kernel_rfl) (by simp) (Globs.mem (.cons g_UCD_BLANKS .nil)) ?_ (by intro _ _ _ _; rfl) (by intro _ _; rfl)
      walk_at "go"
      refine ca_split (x := 59) (by rw [sizeLine_is]; lia) (newl_f ?_)
      have hp2 := parts_small 59 body
      refine ⟨_, ((splitL 59 body).map stripB).map .bytes, .lst, by rw [List.length_map]; lia, by simp, fun i x y cvs C env' h1 h2 h3 fe' ce' => ?_, ?_⟩
      · match cvs, h3 with
        | [cv], _ =>
          rw [List.getElem?_map, Option.map_eq_some_iff] at h1
          obtain ⟨k, hk, rfl⟩ := h1
          rw [List.getElem?_map, List.getElem?_map, hk] at h2
          cases h2
          have := hp2.1 k (List.mem_of_getElem? hk)
          walk_at "go"
          refine ca_strip (m := [32, 9, 13]) (by rw [sizeLine_is]; lia) ?_
          walk_at "go"
          exact ⟨rfl, rfl⟩
      · refine newl_f ?_
        walk_at "go"
        refine ca_strip (m := [32, 9, 13]) (by rw [sizeLine_is]; lia) ?_
        walk_at "go"
        refine ⟨by simp, ?_⟩
        walk_at "go"
        refine ca_append (by walk_at "u") (by rw [sizeLine_is, List.length_map]; lia) ?_
        walk_at "go"
        have e10 : (rowsFrom 0 (lines.take (i + 1))).map rowTD = (rowsFrom 0 (lines.take i)).map rowTD ++ [.tup [.int ((i : Int) + 1), .lst (((splitL 59 body).map stripB).map .bytes), .bytes (stripL ([32, 9, 13] : List Nat).contains rem)]] := by
          rw [e9, List.map_append]; rfl
        refine (hJ _ _).mpr ?_
        simp only [e10]
        exact ⟨_, _, _, _, _, _, rfl⟩
    · have hne : stripB body = [] := by simpa [stripB] using hb
      rw [if_pos hne, List.append_nil] at e9
      walk_at "go"
      refine (hJ _ _).mpr ?_
      simp only [e9]
      exact ⟨_, _, _, _, _, _, rfl⟩
  · intro R' hjj
    obtain ⟨v1, v2, v3, v4, v5, v6, rfl⟩ := (hJ _ _).mp hjj
    clear hjj hJ
    rw [List.length_map, List.take_of_length_le (Nat.le_refl _)]
    walk_at "go"
    exact back_ret (frz h (by walk_at "r")) (by walk_at "r") .nil
end
section
variable {c : Cx} {A : Around} {env : Env} {L : Addr} {n : Nat} {R R0 R1 R2 : Led} {Q : D → Led → Prop} {X : Addr → D → Led → Prop}
theorem cut_but_last {α : Type} (xs : List α) : cut xs none (some (-1)) = xs.dropLast := by
  unfold cut
  simp only [Option.elim_none, Option.elim_some, List.drop_zero, Nat.sub_zero]
  rw [List.dropLast_eq_take]
  rw [show (-1 : Int) = -((1 : Nat) : Int) from rfl, clipAt_neg _ _ (Nat.le_refl _)]
noncomputable def fix4 (fs : List (List Nat)) : List (List Nat) := if 4 < fs.length ∧ fs.getLast? = some [] then fs.dropLast else fs
noncomputable abbrev FldT := Nat × List (List Nat)
noncomputable def fieldsE : List RowT → Except Nat (List FldT)
  | [] => .ok []
  | (k, fs, _) :: r => if (fix4 fs).length = 4 then (match fieldsE r with | .ok q => .ok ((k, fix4 fs) :: q) | .error e => .error e) else .error k
noncomputable abbrev fldTD (r : FldT) : D := .tup [.int (r.1 : Int), .lst (r.2.map .bytes)]
noncomputable def andE (acc : List FldT) : Except Nat (List FldT) → Except Nat (List FldT)
  | .ok q => .ok (acc ++ q)
  | .error e => .error e
theorem f_fields {l : List Nat} (rm : Rm A (n + 3)) (hz : l.length ≤ 50000) (hx : ¬ l.take 3 = [239, 187, 191])
    (hf : ∀ r ∈ rowsFrom 0 (splitL 10 l), r.2.1.length ≤ 100000)
    (h : ∀ q, fieldsE (rowsFrom 0 (splitL 10 l)) = .ok q → Q (.lst (q.map fldTD)) R) (hX : ∀ e : Nat, fieldsE (rowsFrom 0 (splitL 10 l)) = .error e → X 64 (.int (e : Int)) R) : Cal c A (.ref 146) [.bytes l, .int 4, .int 4] R Q X := by
  refine Cal.frz (CalC.cal (call_ucdmore_fields rm fun env A' L fe fn rm' hfr => ?_))
  conv => arg 4; whnf
  walk_at "go"
  refine ⟨by simp, newl_o fun a => ?_⟩
  walk_at "go"
  refine sx_for fn hfr rm'.handled ?_ (by intro _ _; rfl)
  walk_at "go"
  refine f_rows_of rm' hz hx ?_
  have hrl := rowsFrom_len 0 (splitL 10 l)
  have hsp := (parts_small 10 l).2
  generalize rowsFrom 0 (splitL 10 l) = rows at hf h hX hrl ⊢
  refine opq (fun (i : Nat) (R' : Led) => ∃ acc v1 v2 v3, fieldsE rows = andE acc (fieldsE (rows.drop i)) ∧ acc.length = i ∧ R' = (a, .list (acc.map fldTD)) :: (L, .loc ["octets", "least", "most", "found", "number", "fields", "remark"] [some (.bytes l), some (.int 4), some (.int 4), some (.val (.ref a)), v1, v2, v3]) :: R) fun J hJ => ?_
  refine ⟨_, .lst, J, (hJ _ _).mpr ⟨[], _, _, _, by rw [List.drop_zero]; cases fieldsE rows <;> rfl, rfl, rfl⟩, ?_, ?_⟩
  · intro i y R' hi hjj
    obtain ⟨acc, v1, v2, v3, he, hal, rfl⟩ := (hJ _ _).mp hjj
    clear hjj
    rw [List.getElem?_map, Option.map_eq_some_iff] at hi
    obtain ⟨⟨k, fs, rem⟩, hi, rfl⟩ := hi
    obtain ⟨hilt, hie⟩ := List.getElem?_eq_some_iff.mp hi
    have hfs := hf _ (List.mem_of_getElem? hi)
    dsimp only at hfs
    rw [List.drop_eq_getElem_cons hilt, hie, fieldsE] at he
    show Asg _ _ _ _ (.tup [.int (k : Int), .lst (fs.map .bytes), .bytes rem]) _ _ _
    walk_at "go"
    refine sx_cut ((a, .list (acc.map fldTD)) :: (L, .loc ["octets", "least", "most", "found", "number", "fields", "remark"] [some (.bytes l), some (.int 4), some (.int 4), some (.val (.ref a)), some (.int (k : Int)), some (.lst ((fix4 fs).map .bytes)), some (.bytes rem)]) :: R) ?_ ?_
    · walk_at "if"
      refine tst_cut (decide (4 < fs.length ∧ fs.getLast? = some [])) ?_ ?_
      · walk_at "bo"
        walk_at "go"
        refine ca_lenL (by walk_at "lv") (by rw [sizeLine_is, List.length_map]; lia) ?_
        walk_at "go"
        rw [List.length_map]
        refine ⟨fun hb => ?_, fun hb => ?_⟩ <;> simp only [decide_eq_true_eq, decide_eq_false_iff_not] at hb
        · walk_at "bo"
          walk_at "go"
          have hne : fs ≠ [] := fun e => by subst e; simp at hb
          obtain ⟨ini, x, rfl⟩ : ∃ ini x, fs = ini ++ [x] := ⟨fs.dropLast, fs.getLast hne, (List.dropLast_concat_getLast hne).symm⟩
          rw [List.length_append, List.length_singleton] at hfs
          refine su_last (ds := ini.map .bytes) (x := .bytes x) (.inl (by rw [List.map_append]; rfl)) (by rw [List.length_map]; lia) ?_
          walk_at "go"
          refine ⟨fun hd => ?_, fun hd => ?_⟩
          · walk_at "go"
            have hx0 : x = [] := by simpa using hd
            exact ⟨by subst hx0; symm; simp; simp at hb; lia, rfl⟩
          · have hx0 : ¬ x = [] := by simpa using hd
            exact ⟨by symm; simp [hx0], rfl⟩
        · exact ⟨by symm; simp; lia, rfl⟩
      refine ⟨fun hb => ?_, fun hb => ?_⟩ <;> simp only [decide_eq_true_eq, decide_eq_false_iff_not] at hb
      · walk_at "go"
        refine ev_slc (lo := none) (hi := some (-1)) (st := none) trivial ?_ trivial ?_
        · show Ev _ _ _ _ _ _ _
          walk_at "go"
          exact ⟨rfl, rfl⟩
        refine su_slice (by walk_at "lv") (by rw [sizeLine_is, List.length_map]; lia) (newl_f ?_)
        walk_at "go"
        refine ⟨rfl, ?_⟩
        unfold fix4
        rw [if_pos hb, cut_but_last, List.map_dropLast]
      · walk_at "go"
        refine ⟨rfl, ?_⟩
        unfold fix4
        rw [if_neg hb]
    have hfx : (fix4 fs).length ≤ 100000 := by
      unfold fix4
      split
      · rw [List.length_dropLast]; lia
      · lia
    generalize fix4 fs = gs at he hfx ⊢
    walk_at "go"
    walk_at "if"
    refine tst_cut (decide (¬ gs.length = 4)) ?_ ?_
    · walk_at "go"
      refine ca_lenL (by walk_at "lv") (by rw [sizeLine_is, List.length_map]; lia) ?_
      walk_at "go"
      rw [List.length_map]
      refine ⟨fun hb => ?_, fun hb => ?_⟩ <;> simp only [decide_eq_true_eq, decide_eq_false_iff_not] at hb
      · walk_at "go"
        refine ⟨?_, rfl⟩
        by_cases h4 : gs.length ≤ 4
        · rw [decide_eq_true (p := (gs.length : Int) ≤ 4) (by lia), decide_eq_false (p := ¬ _) (by lia)]; rfl
        · rw [decide_eq_false (p := (gs.length : Int) ≤ 4) (by lia), decide_eq_true (p := ¬ _) (by lia)]; rfl
      · exact ⟨(decide_eq_true (by lia)).symm, rfl⟩
    refine ⟨fun hb => ?_, fun hb => ?_⟩ <;> simp only [decide_eq_true_eq, decide_eq_false_iff_not, Classical.not_not] at hb
    · rw [if_neg hb] at he
      walk_at "go"
      refine sx_raise ?_
      walk_at "go"
      refine raise_at bad64 rm' ?_
      exact backx (hX k he) (by walk_at "r") (.drop rfl .nil)
    · rw [if_pos hb] at he
      walk_at "go"
      refine ⟨by simp, ?_⟩
      walk_at "go"
      refine ca_append (by walk_at "u") (by rw [sizeLine_is, List.length_map]; lia) ?_
      walk_at "go"
      refine (hJ _ _).mpr ⟨acc ++ [(k, gs)], some (.int (k : Int)), some (.lst (gs.map .bytes)), some (.bytes rem), ?_, by simp [hal], by rw [List.map_append]; rfl⟩
      rw [he]
      cases fieldsE (rows.drop (i + 1)) with
      | ok q => show Except.ok _ = Except.ok _; rw [List.append_assoc]; rfl
      | error e => rfl
  · intro R' hjj
    obtain ⟨acc, v1, v2, v3, he, hal, rfl⟩ := (hJ _ _).mp hjj
    clear hjj hJ
    rw [List.length_map, List.drop_length] at he
    walk_at "go"
    have h := h acc (by rw [he]; show Except.ok _ = Except.ok _; rw [List.append_nil])
    exact back_ret (frz h (by walk_at "r")) (by walk_at "r") .nil
end
section
variable {c : Cx} {A : Around} {env : Env} {L : Addr} {n : Nat} {R R0 R1 R2 : Led} {Q : D → Led → Prop} {X : Addr → D → Led → Prop}
theorem reps_swap {I I' : Heap} {a : Addr} {xs post : List D} (k : Sub I I') (rep : Rep I' (.ref a) (.lst xs)) {pre : List D} {vs : List Value} (r : Reps I vs (pre ++ .val (.ref a) :: post)) : Reps I' vs (pre ++ .lst xs :: post) := by
  induction pre generalizing vs with
  | nil =>
    obtain ⟨v0, ws, rfl, h1, h2⟩ := Reps.consI r
    obtain rfl := Rep.vI h1
    exact .cons rep (h2.sub k)
  | cons d pre ih =>
    obtain ⟨v0, ws, rfl, h1, h2⟩ := Reps.consI r
    exact .cons (h1.sub k) (ih h2)
/-- an owned list handed over for good -/
theorem Cal.give {f : Value} {pre post : List D} {a : Addr} {xs : List D} (m : Rem (a, .list xs) R R') (h : Cal c A f (pre ++ .lst xs :: post) R' Q X) : Cal c A f (pre ++ .val (.ref a) :: post) R Q X := ⟨fun I H s vs hs hr => by
  obtain ⟨I', k, hs', o, ho, ws, n, rfl, y⟩ := (hs.perm (m.app H).perm).freeze rfl
  exact Run.sub (h.run I' H s vs hs' (reps_swap k (.lst a ws xs ⟨_, ho, rfl, n, rfl⟩ y) hr)) k⟩
noncomputable def putM (puts : List (Int × Int × Str)) : List Int × List Str := puts.foldl (fun m r => rmPut m.1 m.2 r.1 r.2.1 r.2.2) ([0], ["U"])
theorem f_put {p : DA} {g dg : Addr} {puts : List (Int × Int × Str)} (rm : Rm A (n + 5)) (hne : puts ≠ []) (hb : ∀ r ∈ puts, 0 ≤ r.1 ∧ r.1 ≤ r.2.1 ∧ r.2.1 ≤ 1114111) (hl : puts.length ≤ 1000) :
    Cal c A (.ref 160) [.val (.ref p.x), .str "jt", .lst (puts.map rowD)] (dat0 p g dg) (fun d R' => d = .none ∧ ∃ j dj, R' = dat1 p g dg j dj (putM puts).1 (putM puts).2) NoX := by
  refine Cal.prm (CalC.cal (call_ucdmore_put rm fun env A' L fe fn rm' hfr => ?_))
  conv => arg 4; whnf
  walk_at "go"
  refine sx_for fn hfr rm'.handled ?_ (by intro _ _; rfl)
  walk_at "go"
  refine opq (fun (i : Nat) (R' : Led) => ∃ u v w, (i = 0 ∧ R' = (L, .loc ["data", "name", "puts", "first", "last", "value"] [some (.val (.ref p.x)), some (.str "jt"), some (.lst (puts.map rowD)), u, v, w]) :: dat0 p g dg) ∨
    (0 < i ∧ ∃ j dj, R' = [rmI j dj, rmA dj "U" (putM (puts.take i)).1 (putM (puts.take i)).2, dM p [("gc", .val (.ref g)), ("jt", .val (.ref j))], dF p, dI p, dA p, (L, .loc ["data", "name", "puts", "first", "last", "value"] [some (.val (.ref p.x)), some (.str "jt"), some (.lst (puts.map rowD)), u, v, w]), rmI g dg, rmA dg "Cn" gcS gcV])) fun J hJ => ?_
  refine ⟨_, .lst, J, (hJ _ _).mpr ⟨_, _, _, .inl ⟨rfl, rfl⟩⟩, ?_, ?_⟩
  · intro i y R' hi hjj
    obtain ⟨u, v, w, hR⟩ := (hJ _ _).mp hjj
    clear hjj
    rw [List.getElem?_map, Option.map_eq_some_iff] at hi
    obtain ⟨r, hr, rfl⟩ := hi
    have hr3 := hb r (List.mem_of_getElem? hr)
    have e9 : putM (puts.take (i + 1)) = rmPut (putM (puts.take i)).1 (putM (puts.take i)).2 r.1 r.2.1 r.2.2 := by
      unfold putM
      rw [List.take_add_one, hr, List.foldl_append]; rfl
    rcases hR with ⟨rfl, rfl⟩ | ⟨h0, j, dj, rfl⟩
    · walk_at "go"
      refine Cal.fr (f_data_put0 (name := "jt") (d := "U") (maps := [("gc", .val (.ref g))]) rm' hr3.1 hr3.2.1 hr3.2.2 rfl dflt_jt (by simp)) (by walk_at "has") ?_
      rintro d' R' ⟨rfl, j, dj, rfl⟩
      simp only [List.cons_append, List.nil_append]
      walk_at "go"
      refine (hJ _ _).mpr ?_
      simp only [e9]
      exact ⟨_, _, _, .inr ⟨Nat.succ_pos _, j, dj, rfl⟩⟩
    · have ok := ok_fold (puts.take i) (fun r hr => hb r (List.mem_of_mem_take hr)) ([0], ["U"]) (ok_new "U")
      have hz : (putM (puts.take i)).1.length ≤ 3000 := by
        have h1 : (puts.take i).length ≤ 1000 := Nat.le_trans (List.length_take_le' _ _) hl
        have h2 := ok.2
        have e : (([0] : List Int), (["U"] : List Str)).1.length = 1 := rfl
        unfold putM
        lia
      have ok1 : RMok (putM (puts.take i)).1 (putM (puts.take i)).2 := ok.1
      clear ok
      generalize putM (puts.take i) = m at *
      walk_at "go"
      refine f_data_put rm' hr3.1 hr3.2.1 hr3.2.2 (by lia) ok1.len ok1.le (count_pos ok1 (by lia)) (by walk_at "h") (by walk_at "h") (by walk_at "h") (x := j) (by rfl) (by walk_at "h") (by walk_at "u") ?_
      walk_at "go"
      refine (hJ _ _).mpr ?_
      simp only [e9]
      exact ⟨_, _, _, .inr ⟨Nat.succ_pos _, j, dj, rfl⟩⟩
  · intro R' hjj
    obtain ⟨u, v, w, ⟨h, rfl⟩ | ⟨_, j, dj, rfl⟩⟩ := (hJ _ _).mp hjj
    · rw [List.length_map] at h
      exact absurd (List.eq_nil_of_length_eq_zero h) hne
    clear hjj hJ
    rw [List.length_map, List.take_length]
    walk_at "go"
    refine back_next (prm (R2 := dat1 p g dg j dj (putM puts).1 (putM puts).2) ⟨rfl, j, dj, rfl⟩ ?_) (by walk_at "r") .nil
    walk_at "has"
theorem f_check_bad {m : Addr} {kvs : List (Int × D)} {num code : Int} {d0 : D} (rm : Rm A (n + 2)) (hk : look kvs code = some d0) (mh : Has (m, .dictI kvs) R) (hx : X 64 (.int num) R) : Cal c A (.ref 153) [.val (.ref m), .int num, .int code] R Q X := by
  refine CalC.cal (call_ucdmore_check_once rm fun env A' L fe fn rm' hfr => ?_)
  conv => arg 4; whnf
  walk_at "go"
  walk_at "if"
  walk_at "go"
  refine in_I (.tail mh) ?_
  rw [hk]
  walk_at "go"
  refine ⟨fun _ => ?_, fun hb => (by cases hb)⟩
  walk_at "go"
  walk_at "rz"
  exact hx
noncomputable def rowE (kn : List (Int × D)) (fs : List (List Nat)) : Option (Int × Str) := match codeOfField (fs.getD 0 []) with
  | none => none
  | some k => if (look kn (k : Int)).isSome then none else if joiningTypes.contains (strOf (fs.getD 2 [])) then some ((k : Int), strOf (fs.getD 2 [])) else none
noncomputable def joinE : List FldT → List (Int × D) → Except Nat (List (Int × Str))
  | [], _ => .ok []
  | (k, fs) :: r, kn => match rowE kn fs with | none => .error k | some q => (match joinE r (put kn q.1 (.bool true)) with | .ok z => .ok (q :: z) | .error e => .error e)
noncomputable def readE (l : List Nat) : Except Nat (List (Int × Str)) := match fieldsE (rowsFrom 0 (splitL 10 l)) with | .ok q => joinE q [] | .error e => .error e
noncomputable def passT (rows : List (Int × Int × Str)) : List (Int × Int × Str) := (rows.filter passR2).map fun r => (r.1, r.2.1, "T")
noncomputable def selfP (q : Int × Str) : Int × Int × Str := (q.1, q.1, q.2)
noncomputable def putsOf (prs : List (Int × Str)) : List (Int × Int × Str) := passT kinds ++ prs.map selfP
noncomputable def andJ (acc : List (Int × Str)) : Except Nat (List (Int × Str)) → Except Nat (List (Int × Str))
  | .ok q => .ok (acc ++ q)
  | .error e => .error e
theorem passT_succ {i : Nat} {r : Int × Int × Str} (h : kinds[i]? = some r) : passT (kinds.take (i + 1)) = passT (kinds.take i) ++ (if passR2 r = true then [(r.1, r.2.1, ("T" : Str))] else []) := by
  unfold passT
  rw [List.take_add_one, h, List.filter_append, List.map_append]
  congr 1
  show (List.filter passR2 [r]).map _ = _
  rw [List.filter_cons]
  split <;> simp
theorem fix4_mem {fs : List (List Nat)} {x : List Nat} (h : x ∈ fix4 fs) : x ∈ fs := by
  unfold fix4 at h
  split at h
  · exact (List.dropLast_sublist _).subset h
  · exact h
set_option tactic.hygienic true in
theorem fieldsE_mem {rows : List RowT} {q : List FldT} (h : fieldsE rows = .ok q) : q.length = rows.length ∧ ∀ f ∈ q, f.2.length = 4 ∧ ∃ r ∈ rows, f.1 = r.1 ∧ f.2 = fix4 r.2.1 := by
  induction rows generalizing q with
  | nil => cases h; exact ⟨rfl, fun f hf => (nomatch hf)⟩
  | cons p r ih =>
    obtain ⟨k, fs, m⟩ := p
    unfold fieldsE at h
    split at h
    · rename_i h4
      cases e : fieldsE r with
      | error x => rw [e] at h; cases h
      | ok z =>
        rw [e] at h
        cases h
        obtain ⟨i1, i2⟩ := ih e
        refine ⟨by simp [i1], fun f hf => ?_⟩
        rcases List.mem_cons.mp hf with rfl | hf
        · exact ⟨h4, _, .head _, rfl, rfl⟩
        · obtain ⟨a, r', b, c1⟩ := i2 f hf
          exact ⟨a, r', .tail _ b, c1⟩
    · cases h
theorem Cal.gen2 {f : Value} {ds : List D} {Q0 : D → Led → Prop} {X0 : Addr → D → Led → Prop} (h : ∀ (Q : D → Led → Prop) (X : Addr → D → Led → Prop), (∀ d R', Q0 d R' → Q d R') → (∀ C d R', X0 C d R' → X C d R') → Cal c A f ds R Q X) : Cal c A f ds R Q0 X0 := h Q0 X0 (fun _ _ x => x) fun _ _ _ x => x
end
section
variable {c : Cx} {A : Around} {env : Env} {L : Addr} {n : Nat} {R R0 R1 R2 : Led} {Q : D → Led → Prop} {X : Addr → D → Led → Prop}
theorem codeOfField_le {l : List Nat} {k : Nat} (h : codeOfField l = some k) : k ≤ 1114111 := by
  unfold codeOfField codeOfHex at h
  split at h
  · cases h
  split at h
  · split at h
    · split at h
      · cases h
      · cases h; lia
    · cases h
  · cases h
theorem passT_len (i : Nat) : (passT (kinds.take i)).length ≤ 6 := by
  unfold passT
  rw [List.length_map]
  refine Nat.le_trans (List.length_filter_le _ _) ?_
  exact Nat.le_trans (List.length_take_le' _ _) (by decide)
theorem passT_len2 : (passT kinds).length ≤ 6 := by have := passT_len 100; rwa [List.take_of_length_le (by decide)] at this
theorem passT_ok : ∀ r ∈ passT kinds, 0 ≤ r.1 ∧ r.1 ≤ r.2.1 ∧ r.2.1 ≤ 1114111 := by decide +kernel
theorem passT_ne : passT kinds ≠ [] := by decide +kernel
theorem f_read_joining {p : DA} {g dg : Addr} {l : List Nat} (rm : Rm A (n + 7)) (hz : l.length ≤ 50000) (hx : ¬ l.take 3 = [239, 187, 191])
    (hf : ∀ r ∈ rowsFrom 0 (splitL 10 l), r.2.1.length ≤ 100000 ∧ ∀ x ∈ r.2.1, x.length ≤ 100000 ∧ ∀ k ∈ x, k ≤ 127) (hn : (rowsFrom 0 (splitL 10 l)).length ≤ 60) :
    Cal c A (.ref 167) [.bytes l, .val (.ref p.x)] (dat0 p g dg) (fun d R' => d = .none ∧ ∃ prs, readE l = .ok prs ∧ (∀ q ∈ prs, 0 ≤ q.1 ∧ q.1 ≤ 1114111) ∧ prs.length ≤ 60 ∧ ∃ j dj, R' = dat1 p g dg j dj (putM (putsOf prs)).1 (putM (putsOf prs)).2)
      (fun C told R' => C = 64 ∧ ∃ e : Nat, readE l = .error e ∧ told = .int (e : Int) ∧ R' = dat0 p g dg) := by
  refine Cal.gen2 fun Q X hQ hX => ?_
  refine CalC.cal (call_read_joining rm fun env A' L fe fn rm' hfr => ?_)
  conv => arg 4; whnf
  walk_at "go"
  refine sx_swap2 "puts" "known" fe fn rm' ?_ (by intro _; rfl) (by intro _ _ _ _; rfl)
  walk_at "go"
  refine ⟨by simp, newl_o fun pa => ?_⟩
  walk_at "go"
  refine ev_dict0I fun kd => ?_
  walk_at "go"
  refine ⟨by simp, _, _, rfl, ?_⟩
  walk_at "go"
  refine Sx.gq fun Q2 hQ2 => ?_
  refine opq (fun (i : Nat) (R' : Led) => ∃ (u v w : Option D), R' = (kd, .dictI []) :: (pa, .list ((passT (kinds.take i)).map rowD)) :: (L, .loc ["octets", "data", "puts", "known", "first", "last", "category", "number", "fields", "code", "sort"] [some (.bytes l), some (.val (.ref p.x)), some (.val (.ref pa)), some (.val (.ref kd)), u, v, w, none, none, none, none]) :: dat0 p g dg) fun J hJ => ?_
  refine sx_for fn hfr rm'.handled ?_ (by intro _ _; rfl)
  walk_at "go"
  refine f_map_has rm' (by walk_at "h") (by walk_at "h") (by walk_at "h") (r := g) rfl ?_
  walk_at "go"
  refine f_rm_ranges rm' (by walk_at "h") (by walk_at "h") (by have := gc_len; lia) gc_len.1 ?_
  rw [gc_ranges]
  refine ⟨_, .lst, J, (hJ _ _).mpr ⟨_, _, _, rfl⟩, ?_, ?_⟩
  · intro i y R' hi hj
    obtain ⟨u, v, w, rfl⟩ := (hJ _ _).mp hj
    clear hj
    rw [List.getElem?_map, Option.map_eq_some_iff] at hi
    obtain ⟨r, hr, rfl⟩ := hi
    have e9 := passT_succ hr
    have hpl := passT_len i
    walk_at "go"
    walk_at "if"
    walk_at "go"
    refine cm_inT (ys := joiningThrough) ?_
    walk_at "go"
    refine ⟨fun hp => ?_, fun hp => ?_⟩
    · rw [if_pos (show passR2 r = true from hp)] at e9
      walk_at "go"
      refine ⟨by simp, ?_⟩
      walk_at "go"
      refine ca_append (by walk_at "u") (by rw [sizeLine_is, List.length_map]; lia) ?_
      walk_at "go"
      have e10 : (passT (kinds.take (i + 1))).map rowD = (passT (kinds.take i)).map rowD ++ [.tup [.int r.1, .int r.2.1, .str "T"]] := by rw [e9, List.map_append]; rfl
      exact (hJ _ _).mpr ⟨_, _, _, by rw [e10]⟩
    · rw [if_neg (show ¬ passR2 r = true from fun h => by rw [show passR2 r = false from hp] at h; cases h), List.append_nil] at e9
      walk_at "go"
      exact (hJ _ _).mpr ⟨_, _, _, by rw [e9]⟩
  intro R' hj
  obtain ⟨u, v, w, rfl⟩ := (hJ _ _).mp hj
  clear hj hJ
  refine hQ2 _ _ ?_
  clear hQ2 Q2 J
  rw [List.length_map, List.take_length]
  walk_at "go"
  refine Sx.gq fun Q2 hQ2 => ?_
  refine sx_for fn hfr rm'.handled ?_ (by intro _ _; rfl)
  walk_at "go"
  refine f_fields rm' hz hx (fun r hr => (hf r hr).1) (fun q hq => ?_) (fun e he => backx (hX _ _ _ ⟨rfl, e, by unfold readE; rw [he], rfl, rfl⟩) (by walk_at "r") (.drop rfl (.drop rfl .nil)))
  obtain ⟨hql, hqm⟩ := fieldsE_mem hq
  have hread : readE l = joinE q [] := by unfold readE; rw [hq]
  have hq2 : ∀ f ∈ q, f.2.length = 4 ∧ ∀ x ∈ f.2, x.length ≤ 100000 ∧ ∀ k ∈ x, k ≤ 127 := fun f hf' => by
    obtain ⟨a, r, hr, _, e⟩ := hqm f hf'
    exact ⟨a, fun x hx' => (hf r hr).2 x (fix4_mem (e ▸ hx'))⟩
  clear hqm
  rw [← hql] at hn
  clear hql hq
  refine opq (fun (i : Nat) (R' : Led) => ∃ (acc : List (Int × Str)) (kn : List (Int × D)) (u v w x1 x2 x3 x4 : Option D), joinE q [] = andJ acc (joinE (q.drop i) kn) ∧ acc.length = i ∧ kn.length ≤ i ∧ (∀ a ∈ acc, 0 ≤ a.1 ∧ a.1 ≤ 1114111) ∧ R' = (kd, .dictI kn) :: (pa, .list ((passT kinds ++ acc.map selfP).map rowD)) :: (L, .loc ["octets", "data", "puts", "known", "first", "last", "category", "number", "fields", "code", "sort"] [some (.bytes l), some (.val (.ref p.x)), some (.val (.ref pa)), some (.val (.ref kd)), u, v, w, x1, x2, x3, x4]) :: dat0 p g dg) fun J hJ => ?_
  refine ⟨_, .lst, J, (hJ _ _).mpr ⟨[], [], _, _, _, _, _, _, _, by rw [List.drop_zero]; cases joinE q [] <;> rfl, rfl, Nat.le_refl _, fun a ha => (nomatch ha), by rw [List.map_nil, List.append_nil]⟩, ?_, ?_⟩
  · intro i y R' hi hj
    obtain ⟨acc, kn, u, v, w, x1, x2, x3, x4, he, hal, hkl, hab, rfl⟩ := (hJ _ _).mp hj
    clear hj
    rw [List.getElem?_map, Option.map_eq_some_iff] at hi
    obtain ⟨⟨k, fs⟩, hi, rfl⟩ := hi
    obtain ⟨hilt, hie⟩ := List.getElem?_eq_some_iff.mp hi
    obtain ⟨h4, h4b⟩ := hq2 _ (List.mem_of_getElem? hi)
    dsimp only at h4 h4b
    rw [List.drop_eq_getElem_cons hilt, hie, joinE] at he
    obtain ⟨f0, f1, f2, f3, rfl⟩ : ∃ f0 f1 f2 f3, fs = [f0, f1, f2, f3] := by
      match fs, h4 with
      | [f0, f1, f2, f3], _ => exact ⟨f0, f1, f2, f3, rfl⟩
    have b0 := h4b f0 (by simp)
    have b2 := h4b f2 (by simp)
    have hpl := passT_len2
    have raised : rowE kn [f0, f1, f2, f3] = none → readE l = .error k := fun h => by rw [hread, he, h]; rfl
    walk_at "go"
    refine sx_swap2 "code" "sort" fe fn rm' ?_ (by intro _; rfl) (by intro _ _ _ _; rfl)
    walk_at "go"
    refine su_list (x := .bytes f0) (by walk_at "lv") (by decide) (by decide) rfl ?_
    walk_at "go"
    refine f_code_of_field rm' b0.1 (fun m hm => ?_) (fun hn => backx (hX _ _ _ ⟨rfl, k, raised (by show (match codeOfField f0 with | none => none | some k => _) = none; rw [hn]), rfl, rfl⟩) (by walk_at "r") (.drop rfl (.drop rfl .nil)))
    have hm2 := codeOfField_le hm
    walk_at "go"
    refine su_list (x := .bytes f2) (by walk_at "lv") (by decide) (by decide) rfl ?_
    walk_at "go"
    refine f_word_of_field rm' b2.1 b2.2 ?_
    walk_at "go"
    refine ⟨by simp, _, _, rfl, ?_⟩
    walk_at "go"
    have hrow : rowE kn [f0, f1, f2, f3] = if (look kn (m : Int)).isSome then none else if joiningTypes.contains (strOf f2) then some ((m : Int), strOf f2) else none := by
      show (match codeOfField f0 with | none => none | some k => _) = _
      rw [hm]; rfl
    cases hlk : look kn (m : Int) with
    | some d0 =>
      refine f_check_bad rm' hlk (by walk_at "h") ?_
      exact backx (hX _ _ _ ⟨rfl, k, raised (by rw [hrow, hlk]; rfl), rfl, rfl⟩) (by walk_at "r") (.drop rfl (.drop rfl .nil))
    | none =>
      rw [hlk] at hrow
      refine f_check_once rm' hlk (by lia) (by walk_at "u") ?_
      walk_at "go"
      walk_at "if"
      walk_at "go"
      refine cm_notinT (ys := joiningTypes) ?_
      walk_at "go"
      refine ⟨fun hb => ?_, fun hb => ?_⟩
      · have hc : joiningTypes.contains (strOf f2) = false := by simpa using hb
        walk_at "go"
        refine sx_raise ?_
        walk_at "go"
        refine raise_at bad64 rm' ?_
        exact backx (hX _ _ _ ⟨rfl, k, raised (by rw [hrow, hc]; rfl), rfl, rfl⟩) (by walk_at "r") (.drop rfl (.drop rfl .nil))
      · have hc : joiningTypes.contains (strOf f2) = true := by simpa using hb
        walk_at "go"
        refine ⟨by simp, ?_⟩
        walk_at "go"
        refine ca_append (by walk_at "u") (by rw [sizeLine_is, List.length_map, List.length_append, List.length_map]; lia) ?_
        walk_at "go"
        refine (hJ _ _).mpr ⟨acc ++ [((m : Int), strOf f2)], put kn (m : Int) (.bool true), u, v, w, some (.int (k : Int)), some (.lst ([f0, f1, f2, f3].map .bytes)), some (.int (m : Int)), some (.str (strOf f2)), ?_, by simp [hal], by have := put_length kn (m : Int) (.bool true); lia, fun a ha => ?_, ?_⟩
        · rw [he, hrow, hc]
          show andJ acc (match joinE (q.drop (i + 1)) (put kn (m : Int) (.bool true)) with | .ok z => .ok (_ :: z) | .error e => .error e) = _
          cases joinE (q.drop (i + 1)) (put kn (m : Int) (.bool true)) with
          | ok z => show Except.ok _ = Except.ok _; rw [List.append_assoc]; rfl
          | error e => rfl
        · rcases List.mem_append.mp ha with ha | ha
          · exact hab a ha
          · rw [List.mem_singleton.mp ha]
            exact ⟨by dsimp only; lia, by dsimp only; lia⟩
        · have e : (passT kinds ++ (acc ++ [((m : Int), strOf f2)]).map selfP).map rowD = (passT kinds ++ acc.map selfP).map rowD ++ [.tup [.int (m : Int), .int (m : Int), .str (strOf f2)]] := by
            simp only [List.map_append, List.append_assoc]; rfl
          rw [e]
  · intro R' hj
    obtain ⟨acc, kn, u, v, w, x1, x2, x3, x4, he, hal, hkl, hab, rfl⟩ := (hJ _ _).mp hj
    clear hj hJ
    refine hQ2 _ _ ?_
    clear hQ2 Q2 J
    rw [List.length_map, List.drop_length] at he
    have he : joinE q [] = .ok acc := by rw [he]; show Except.ok _ = Except.ok _; rw [List.append_nil]
    rw [List.length_map] at hal
    have hpl := passT_len2
    walk_at "go"
    refine Cal.give (pre := [.val (.ref p.x), .str "jt"]) (post := []) (a := pa) (xs := (passT kinds ++ acc.map selfP).map rowD) (by walk_at "r") (Cal.fr (f_put (puts := passT kinds ++ acc.map selfP) rm' (fun h => passT_ne (List.append_eq_nil_iff.mp h).1) (fun r hr => ?_) ?_) (by walk_at "has") ?_)
    · rcases List.mem_append.mp hr with hr | hr
      · exact passT_ok r hr
      · obtain ⟨q', hq', rfl⟩ := List.mem_map.mp hr
        have := hab q' hq'
        exact ⟨this.1, Int.le_refl _, this.2⟩
    · rw [List.length_append, List.length_map]; lia
    · rintro d' R' ⟨rfl, j, dj, rfl⟩
      simp only [List.cons_append, List.nil_append]
      walk_at "go"
      refine back_next (hQ _ _ ⟨rfl, acc, by rw [hread, he], hab, by lia, j, dj, rfl⟩) (by walk_at "r") ?_
      iterate 8 refine .keep ?_
      exact .drop rfl .nil
end
section
open PySem PySem.W PySem.Calls PyProof.Rows
set_option Elab.async false
set_option tactic.hygienic false
set_option maxRecDepth 100000
set_option linter.unusedVariables false
section
variable {κ : Type} [DecidableEq κ]
set_option tactic.hygienic true in
theorem look_put_ne (kvs : List (κ × D)) {k k' : κ} (d : D) (h : ¬ k' = k) : look (put kvs k d) k' = look kvs k' := by
  unfold put
  split
  · rename_i hany
    clear hany
    unfold look
    induction kvs with
    | nil => rfl
    | cons x r ih =>
      rw [List.map_cons, List.find?_cons, List.find?_cons]
      by_cases e : x.1 = k
      · have e2 : ¬ x.1 = k' := fun q => h (q.symm.trans e)
        simp only [e, if_true]
        rw [show decide (k = k') = false from decide_eq_false (fun q => h q.symm)]
        simpa using ih
      · simp only [e, if_false]
        cases hd : decide (x.1 = k') with
        | true => rfl
        | false => simpa using ih
  · unfold look
    rw [List.find?_append]
    cases hf : kvs.find? fun kv => decide (kv.1 = k') with
    | some x => rfl
    | none =>
      have : decide (k = k') = false := decide_eq_false (fun q => h q.symm)
      simp [this]
set_option tactic.hygienic true in
theorem look_put_if (kvs : List (κ × D)) (k k' : κ) (d : D) : look (put kvs k d) k' = if k' = k then some d else look kvs k' := by
  split
  · rename_i h; rw [h]; exact look_put kvs k d
  · rename_i h; exact look_put_ne kvs d h
theorem put_keys (kvs : List (κ × D)) (k : κ) (d : D) : (put kvs k d).map (·.1) = if k ∈ kvs.map (·.1) then kvs.map (·.1) else kvs.map (·.1) ++ [k] := by
  have e : (kvs.any fun kv => decide (kv.1 = k)) = decide (k ∈ kvs.map (·.1)) := by
    rw [Bool.eq_iff_iff, List.any_eq_true, decide_eq_true_eq, List.mem_map]
    constructor
    · rintro ⟨x, hx, h⟩; exact ⟨x, hx, of_decide_eq_true h⟩
    · rintro ⟨x, hx, h⟩; exact ⟨x, hx, decide_eq_true h⟩
  unfold put
  rw [e]
  by_cases h : k ∈ kvs.map (·.1)
  · rw [if_pos (decide_eq_true h), if_pos h, List.map_map]
    refine List.map_congr_left fun x hx => ?_
    show (if x.1 = k then (x.1, d) else x).1 = x.1
    split <;> rfl
  · rw [if_neg (by simpa using h), if_neg h, List.map_append]; rfl
set_option tactic.hygienic true in
theorem put_nodup {kvs : List (κ × D)} (k : κ) (d : D) (h : (kvs.map (·.1)).Nodup) : ((put kvs k d).map (·.1)).Nodup := by
  rw [put_keys]
  split
  · exact h
  · rename_i hk
    rw [List.nodup_append]
    exact ⟨h, by simp, fun a ha b hb e => hk (by rw [List.mem_singleton.mp hb] at e; exact e ▸ ha)⟩
theorem look_mem {kvs : List (κ × D)} {k : κ} : k ∈ kvs.map (·.1) ↔ ∃ d, look kvs k = some d := by
  unfold look
  constructor
  · intro h
    obtain ⟨x, hx, rfl⟩ := List.mem_map.mp h
    cases q : kvs.find? fun kv => decide (kv.1 = x.1) with
    | some y => exact ⟨_, rfl⟩
    | none =>
      have := List.find?_eq_none.mp q x hx
      simp at this
  · rintro ⟨d, h⟩
    rw [Option.map_eq_some_iff] at h
    obtain ⟨x, hx, rfl⟩ := h
    have h1 := List.mem_of_find?_eq_some hx
    have h2 := List.find?_some hx
    exact List.mem_map.mpr ⟨x, h1, of_decide_eq_true h2⟩
theorem putAll_look (base more : List (κ × D)) (hn : (more.map (·.1)).Nodup) (k : κ) : look (putAll base more) k = match look more k with | some d => some d | none => look base k := by
  unfold putAll
  induction more generalizing base with
  | nil => rfl
  | cons x r ih =>
    rw [List.map_cons, List.nodup_cons] at hn
    rw [List.foldl_cons, ih _ hn.2]
    have e : look (x :: r) k = if x.1 = k then some x.2 else look r k := by
      unfold look
      rw [List.find?_cons]
      by_cases h : x.1 = k
      · rw [decide_eq_true h, if_pos h]; rfl
      · rw [decide_eq_false h, if_neg h]
    rw [e, look_put_if]
    by_cases h : x.1 = k
    · subst h
      rw [if_pos rfl, if_pos rfl]
      have : look r x.1 = none := by
        cases q : look r x.1 with
        | none => rfl
        | some d => exact absurd (look_mem.mpr ⟨d, q⟩) hn.1
      rw [this]
    · rw [if_neg h, if_neg (Ne.symm h)]
theorem putAll_nodup (base more : List (κ × D)) (h : (base.map (·.1)).Nodup) : ((putAll base more).map (·.1)).Nodup := by
  unfold putAll
  induction more generalizing base with
  | nil => exact h
  | cons x r ih => exact ih _ (put_nodup _ _ h)
end
theorem setD_look (kvs : List (Int × D)) (k k' : Int) : look (setD kvs k) k' = match look kvs k' with | some d => some d | none => if k' = k then some (.str "U") else none := by
  unfold setD
  cases h : look kvs k with
  | some d =>
    dsimp only
    cases h2 : look kvs k' with
    | some d2 => rfl
    | none =>
      rw [if_neg (fun e => by rw [e, h] at h2; cases h2)]
  | none =>
    dsimp only
    rw [look_put_if]
    by_cases e : k' = k
    · rw [if_pos e, e, h, if_pos rfl]
    · rw [if_neg e, if_neg e]
      cases look kvs k' <;> rfl
theorem setDs_look (ks : List Int) (kvs : List (Int × D)) (k' : Int) : look (ks.foldl setD kvs) k' = match look kvs k' with | some d => some d | none => if k' ∈ ks then some (.str "U") else none := by
  induction ks generalizing kvs with
  | nil =>
    simp only [List.foldl_nil, List.not_mem_nil, if_false]
    cases look kvs k' <;> rfl
  | cons k r ih =>
    rw [List.foldl_cons, ih, setD_look]
    cases look kvs k' with
    | some d => rfl
    | none =>
      by_cases e : k' = k
      · subst e; simp
      · simp [e]
theorem setDs_nodup (ks : List Int) (kvs : List (Int × D)) (h : (kvs.map (·.1)).Nodup) : ((ks.foldl setD kvs).map (·.1)).Nodup := by
  induction ks generalizing kvs with
  | nil => exact h
  | cons k r ih =>
    refine ih _ ?_
    unfold setD
    split
    · exact h
    · exact put_nodup _ _ h
theorem passL_passed : ∀ k ∈ codes, (k ∈ passL kinds ↔ passed k = true) := by decide +kernel
theorem passL_codes : ∀ k ∈ passL kinds, k ∈ codes ∧ passed k = true := by decide +kernel
theorem codes_ok : ∀ k ∈ codes, 0 ≤ k ∧ k ≤ 1114111 := by decide +kernel
theorem U_type : ("U" : Str) ∈ joiningTypes := by decide +kernel
noncomputable def keepF (F : Int → Str) (k : Int) : Bool := !(F k == "U") || passed k
noncomputable def ksOf (F : Int → Str) : List Int := codes.filter (keepF F)
/-- the range map tells F -/
structure Tells (s : List Int) (v : List Str) (F : Int → Str) : Prop where
  ok : RMok s v
  val : ∀ k, 0 ≤ k → k ≤ 1114111 → rmF s v k = F k
  out : ∀ k, k ∉ codes → F k = "U"
  typ : ∀ k ∈ codes, F k ∈ joiningTypes
theorem sorted_eq {l m : List Int} (h1 : l.Pairwise (· < ·)) (h2 : m.Pairwise (· < ·)) (h : ∀ x, x ∈ l ↔ x ∈ m) : l = m :=
  (sorted_sub h1 h2 fun x hx => (h x).mp hx).eq_of_length_le (sorted_sub h2 h1 fun x hx => (h x).mpr hx).length_le
section
variable {s : List Int} {v : List Str} {F : Int → Str}
theorem Tells.codes (t : Tells s v F) {k : Int} (h : ¬ F k = "U") : k ∈ Mine.codes := Classical.byContradiction fun q => h (t.out k q)
theorem Tells.small (t : Tells s v F) : (toldL (rmRanges "U" s v)).length ≤ 15 := told_small t.ok fun k h0 h1 hn => t.codes (by rw [← t.val k h0 h1]; exact hn)
set_option tactic.hygienic true in
theorem Tells.look (t : Tells s v F) (k : Int) : look (sortsOf (toldL (rmRanges "U" s v))) k = if k ∈ Mine.codes ∧ keepF F k = true then some (.str (F k)) else none := by
  have hnd : (((toldL (rmRanges "U" s v)).map strP).map (·.1)).Nodup := by
    rw [List.map_map]
    exact (ranges_sorted t.ok "U").imp fun h e => by lia
  unfold sortsOf
  rw [setDs_look, putAll_look _ _ hnd]
  have hl : Mine.look ((toldL (rmRanges "U" s v)).map strP) k = if (0 ≤ k ∧ k ≤ 1114111) ∧ ¬ F k = "U" then some (.str (F k)) else none := by
    cases q : Mine.look ((toldL (rmRanges "U" s v)).map strP) k with
    | some d =>
      unfold Mine.look at q
      rw [Option.map_eq_some_iff] at q
      obtain ⟨x, hx, rfl⟩ := q
      have h1 := List.mem_of_find?_eq_some hx
      have h2' := List.find?_some hx
      have h2 : x.1 = k := by simpa using h2'
      obtain ⟨⟨k', z⟩, hq, rfl⟩ := List.mem_map.mp h1
      obtain rfl : k' = k := h2
      obtain ⟨hb, hz, hn⟩ := (ranges_mem t.ok "U" k' z).mp hq
      rw [t.val k' hb.1 hb.2] at hz
      subst hz
      rw [if_pos ⟨hb, hn⟩]; rfl
    | none =>
      split
      · rename_i h
        have hm : (k, F k) ∈ toldL (rmRanges "U" s v) := (ranges_mem t.ok "U" k (F k)).mpr ⟨h.1, t.val k h.1.1 h.1.2, h.2⟩
        have : k ∈ ((toldL (rmRanges "U" s v)).map strP).map (·.1) := List.mem_map.mpr ⟨_, List.mem_map_of_mem hm, rfl⟩
        obtain ⟨d, hd⟩ := look_mem.mp this
        rw [q] at hd; cases hd
      · rfl
  rw [hl]
  by_cases h1 : k ∈ Mine.codes
  · have hb := codes_ok k h1
    by_cases h2 : F k = "U"
    · rw [if_neg (show ¬ ((0 ≤ k ∧ k ≤ 1114111) ∧ ¬ F k = "U") from fun h => h.2 h2)]
      have hk : keepF F k = passed k := by unfold keepF; rw [h2]; simp
      rw [hk]
      dsimp only
      show (match Mine.look [] k with | some d => some d | none => _) = _
      rw [show Mine.look ([] : List (Int × D)) k = none from rfl]
      dsimp only
      by_cases h3 : k ∈ passL kinds
      · rw [if_pos h3, if_pos ⟨h1, (passL_passed k h1).mp h3⟩, h2]
      · rw [if_neg h3, if_neg (fun h => h3 ((passL_passed k h1).mpr h.2))]
    · rw [if_pos (show (0 ≤ k ∧ k ≤ 1114111) ∧ ¬ F k = "U" from ⟨hb, h2⟩)]
      have hk : keepF F k = true := by unfold keepF; simp [h2]
      rw [if_pos (show k ∈ Mine.codes ∧ keepF F k = true from ⟨h1, hk⟩)]
  · rw [if_neg (show ¬ ((0 ≤ k ∧ k ≤ 1114111) ∧ ¬ F k = "U") from fun h => h1 (t.codes h.2)), if_neg (show ¬ (k ∈ Mine.codes ∧ keepF F k = true) from fun h => h1 h.1)]
    dsimp only
    rw [show Mine.look ([] : List (Int × D)) k = none from rfl]
    dsimp only
    rw [if_neg (fun h => h1 (passL_codes k h).1)]
theorem ksOf_mem {k : Int} : k ∈ ksOf F ↔ k ∈ Mine.codes ∧ keepF F k = true := List.mem_filter
theorem ksOf_sorted : (ksOf F).Pairwise (· < ·) := codes_sorted.sublist List.filter_sublist
theorem Tells.keys (t : Tells s v F) (ns' : List Int) (hp : ns'.Perm ((sortsOf (toldL (rmRanges "U" s v))).map (·.1))) (hs : ns'.Pairwise (· ≤ ·)) : ns' = ksOf F := by
  have hnd : ((sortsOf (toldL (rmRanges "U" s v))).map (·.1)).Nodup := setDs_nodup _ _ (putAll_nodup _ _ (by simp))
  have hnd2 : ns'.Nodup := (hp.nodup_iff).mpr hnd
  have hlt : ns'.Pairwise (· < ·) := by
    have := hs.and hnd2
    exact this.imp fun h => by have := h.1; have := h.2; lia
  refine sorted_eq hlt ksOf_sorted fun x => ?_
  rw [hp.mem_iff, look_mem, ksOf_mem, t.look]
  constructor
  · rintro ⟨d, h⟩
    split at h
    · assumption
    · cases h
  · intro h
    rw [if_pos h]; exact ⟨_, rfl⟩
theorem ksOf_len : (ksOf F).length ≤ 15 := Nat.le_trans (List.length_filter_le _ _) (by decide +kernel)
theorem Tells.at (t : Tells s v F) : ∀ k ∈ ksOf F, 0 ≤ k ∧ k ≤ 1114111 ∧ Mine.look (sortsOf (toldL (rmRanges "U" s v))) k = some (.str (F k)) ∧ F k ∈ joiningTypes := fun k hk => by
  have h := ksOf_mem.mp hk
  have hb := codes_ok k h.1
  exact ⟨hb.1, hb.2, by rw [t.look, if_pos h], t.typ k h.1⟩
end
theorem joinB_nil {α : Type} : ∀ ls : List (List α), joinB [] ls = ls.flatten
  | [] => rfl
  | p :: r => by
    rw [joinB_cons, List.flatten_cons, List.flatMap_def]
    congr 2
    exact List.map_id' _ 
/-- the file of F -/
noncomputable def fileOf (F : Int → Str) : List Nat := ((ksOf F).map (rowB F)).flatten
end
section
open PySem PySem.W PySem.Calls PyProof.Rows
set_option Elab.async false
set_option tactic.hygienic false
set_option maxRecDepth 100000
set_option linter.unusedVariables false
noncomputable def parseF (l : List Nat) : Option (List (List Nat) × List Nat) := if stripB (bodyB l) = [] then none else some ((splitL 59 (bodyB l)).map stripB, stripB (remB l))
theorem parseL_is (k : Nat) (l : List Nat) : parseL k l = match parseF l with | none => [] | some q => [(k + 1, q.1, q.2)] := by
  unfold parseL parseF
  split <;> rfl
-- splitting
theorem splitL_one {α : Type} [BEq α] [LawfulBEq α] {x : α} : ∀ {a : List α}, x ∉ a → splitL x a = [a]
  | [], _ => rfl
  | y :: r, h => by
    have hy : (y == x) = false := beq_eq_false_iff_ne.mpr fun e => h (by rw [e]; exact .head _)
    rw [splitL, if_neg (by rw [hy]; simp), splitL_one fun q => h (.tail _ q)]
theorem splitL_app {α : Type} [BEq α] [LawfulBEq α] {x : α} : ∀ {a : List α} (b : List α), x ∉ a → splitL x (a ++ x :: b) = a :: splitL x b
  | [], b, _ => by rw [List.nil_append, splitL, if_pos (by simp)]
  | y :: r, b, h => by
    have hy : (y == x) = false := beq_eq_false_iff_ne.mpr fun e => h (by rw [e]; exact .head _)
    rw [List.cons_append, splitL, if_neg (by rw [hy]; simp), splitL_app b fun q => h (.tail _ q)]
theorem splitL_flat {α : Type} [BEq α] [LawfulBEq α] {x : α} : ∀ {ls : List (List α)}, (∀ l ∈ ls, x ∉ l) → splitL x ((ls.map (· ++ [x])).flatten) = ls ++ [[]]
  | [], _ => rfl
  | l :: r, h => by
    rw [List.map_cons, List.flatten_cons, List.append_assoc, List.singleton_append, splitL_app _ (h l (.head _)), splitL_flat fun q hq => h q (.tail _ hq)]
    rfl
theorem splitL_join {α : Type} [BEq α] [LawfulBEq α] {x : α} : ∀ {ls : List (List α)}, ls ≠ [] → (∀ l ∈ ls, x ∉ l) → ∀ e : List α, e = [] ∨ e = [x] → splitL x (joinB [x] ls ++ e) = ls ++ (if e = [] then [] else [[]])
  | [], h, _, _, _ => absurd rfl h
  | [l], _, h, e, he => by
    rcases he with rfl | rfl
    · show splitL x (l ++ []) = _
      rw [List.append_nil, splitL_one (h l (.head _))]; simp
    · show splitL x (l ++ [x]) = _
      rw [splitL_app [] (h l (.head _))]; rfl
  | l :: q :: r, _, h, e, he => by
    have ih := splitL_join (ls := q :: r) (by simp) (fun z hz => h z (.tail _ hz)) e he
    show splitL x ((l ++ [x] ++ joinB [x] (q :: r)) ++ e) = _
    rw [List.append_assoc, List.append_assoc, List.singleton_append, splitL_app _ (h l (.head _)), ih]; rfl
-- what stays of the octets
theorem stripL_sub {α : Type} (p : α → Bool) (l : List α) : ∀ x ∈ stripL p l, x ∈ l := fun x hx => by
  unfold stripL at hx
  rw [List.mem_reverse] at hx
  have h1 := (List.dropWhile_sublist p).subset hx
  rw [List.mem_reverse] at h1
  exact (List.dropWhile_sublist p).subset h1
set_option tactic.hygienic true in
theorem splitL_sub {α : Type} [BEq α] (x : α) : ∀ (l : List α), ∀ p ∈ splitL x l, ∀ y ∈ p, y ∈ l
  | [], p, hp, y, hy => by
    rw [splitL, List.mem_singleton] at hp
    subst hp; cases hy
  | z :: r, p, hp, y, hy => by
    have ih := splitL_sub x r
    unfold splitL at hp
    split at hp
    · rcases List.mem_cons.mp hp with rfl | hp
      · cases hy
      · exact .tail _ (ih p hp y hy)
    · split at hp
      · rename_i q qs e
        rcases List.mem_cons.mp hp with rfl | hp
        · rcases List.mem_cons.mp hy with rfl | hy
          · exact .head _
          · exact .tail _ (ih q (by rw [e]; exact .head _) y hy)
        · exact .tail _ (ih p (by rw [e]; exact .tail _ hp) y hy)
      · rw [List.mem_singleton] at hp
        subst hp
        rw [List.mem_singleton.mp hy]; exact .head _
theorem bodyB_sub (l : List Nat) : ∀ x ∈ bodyB l, x ∈ l := fun x hx => by
  unfold bodyB at hx
  split at hx
  · exact hx
  · exact List.mem_of_mem_take hx
theorem rows_small : ∀ {k : Nat} {ls : List (List Nat)}, (∀ l ∈ ls, l.length ≤ 90000 ∧ ∀ k ∈ l, k ≤ 127) → ∀ r ∈ rowsFrom k ls, r.2.1.length ≤ 100000 ∧ ∀ x ∈ r.2.1, x.length ≤ 100000 ∧ ∀ k ∈ x, k ≤ 127
  | _, [], _, r, hr => by cases hr
  | k, l :: ls, h, r, hr => by
    rw [rowsFrom] at hr
    rcases List.mem_append.mp hr with hr | hr
    · have hl := h l (.head _)
      have hb : (bodyB l).length ≤ l.length := by
        unfold bodyB
        split
        · exact Nat.le_refl _
        · rw [List.length_take]; lia
      have hp := parts_small 59 (bodyB l)
      unfold parseL at hr
      split at hr
      · cases hr
      · rw [List.mem_singleton] at hr
        subst hr
        dsimp only
        refine ⟨by rw [List.length_map]; lia, fun x hx => ?_⟩
        obtain ⟨y, hy, rfl⟩ := List.mem_map.mp hx
        refine ⟨?_, fun k hk => ?_⟩
        · have h1 := stripL_length ([32, 9, 13] : List Nat).contains y
          have h2 := hp.1 y hy
          unfold stripB; lia
        · exact hl.2 k (bodyB_sub l k (splitL_sub 59 _ y hy k (stripL_sub _ y k hk)))
    · exact rows_small (fun q hq => h q (.tail _ hq)) r hr
-- the fields
theorem fieldsE_app : ∀ {a b : List RowT}, (∀ r ∈ a, (fix4 r.2.1).length = 4) → fieldsE (a ++ b) = andE (a.map fun r => (r.1, fix4 r.2.1)) (fieldsE b)
  | [], b, _ => by cases h : fieldsE b <;> simp [h, andE]
  | (k, fs, m) :: r, b, h => by
    rw [List.cons_append, fieldsE, if_pos (h _ (.head _)), fieldsE_app fun q hq => h q (.tail _ hq)]
    cases fieldsE b <;> rfl
/-- a row that is right -/
structure RowIs (f : FldT) (q : Int × Str) : Prop where
  pos : 0 ≤ q.1
  code : codeOfField (f.2.getD 0 []) = some q.1.toNat
  sort : strOf (f.2.getD 2 []) = q.2
  typ : q.2 ∈ joiningTypes
inductive RowsAre : List FldT → List (Int × Str) → Prop
  | nil : RowsAre [] []
  | cons {f q fs qs} : RowIs f q → RowsAre fs qs → RowsAre (f :: fs) (q :: qs)
theorem RowsAre.append {a c : List FldT} {b d : List (Int × Str)} (h : RowsAre a b) (k : RowsAre c d) : RowsAre (a ++ c) (b ++ d) := by
  induction h with
  | nil => exact k
  | cons x _ ih => exact .cons x ih
theorem RowIs.row {f : FldT} {q : Int × Str} {kn : List (Int × D)} (h : RowIs f q) (hk : look kn q.1 = none) : rowE kn f.2 = some q := by
  unfold rowE
  rw [h.code]
  dsimp only
  rw [Int.toNat_of_nonneg h.pos, hk, h.sort]
  show (if false = true then none else _) = _
  rw [if_neg (by simp), if_pos (List.contains_iff_mem.mpr h.typ)]
theorem joinE_app : ∀ {a b : List FldT} {qs : List (Int × Str)} {kn : List (Int × D)}, RowsAre a qs → (qs.map (·.1)).Nodup → (∀ q ∈ qs, look kn q.1 = none) →
    ∃ kn', (∀ k, (look kn' k).isSome = ((look kn k).isSome || (qs.map (·.1)).contains k)) ∧ joinE (a ++ b) kn = andJ qs (joinE b kn')
  | _, b, _, kn, .nil, _, _ => ⟨kn, fun k => by simp, by rw [List.nil_append]; cases joinE b kn <;> rfl⟩
  | f :: fs, b, q :: qs, kn, .cons h1 h2, hn, hk => by
    rw [List.map_cons, List.nodup_cons] at hn
    have hk1 := hk q (.head _)
    obtain ⟨kn', e1, e2⟩ := joinE_app (b := b) (kn := put kn q.1 (.bool true)) h2 hn.2 fun p hp => by
      have hne : ¬ p.1 = q.1 := fun e => hn.1 (e ▸ List.mem_map_of_mem hp)
      rw [look_put_if, if_neg hne]
      exact hk p (.tail _ hp)
    refine ⟨kn', fun k => ?_, ?_⟩
    · rw [e1, look_put_if, List.map_cons, List.contains_cons]
      by_cases e : k = q.1
      · rw [if_pos e, e]; simp
      · rw [if_neg e]
        have : (k == q.1) = false := beq_eq_false_iff_ne.mpr e
        rw [this, Bool.false_or]
    · obtain ⟨k, fs0⟩ := f
      rw [List.cons_append, joinE, h1.row hk1]
      dsimp only
      rw [e2]
      cases joinE b kn' <;> rfl
/-- what a line is -/
structure LineIs (l : List Nat) (o : Option (Int × Str)) : Prop where
  asc : ∀ k ∈ l, k ≤ 127
  nl : 10 ∉ l
  len : l.length ≤ 100
  none : o = none → parseF l = none
  some : ∀ q, o = some q → ∃ fs m, parseF l = some (fs, m) ∧ (fix4 fs).length = 4 ∧ ∀ k, RowIs (k, fix4 fs) q
theorem lines_rows : ∀ {items : List (List Nat × Option (Int × Str))} (k : Nat), (∀ i ∈ items, LineIs i.1 i.2) →
    (∀ r ∈ rowsFrom k (items.map (·.1)), (fix4 r.2.1).length = 4) ∧ RowsAre ((rowsFrom k (items.map (·.1))).map fun r => (r.1, fix4 r.2.1)) (items.filterMap (·.2))
  | [], k, _ => ⟨fun r hr => (nomatch hr), .nil⟩
  | (l, o) :: is, k, h => by
    have hi := h (l, o) (.head _)
    obtain ⟨h1, h2⟩ := lines_rows (k + 1) fun i hi => h i (.tail _ hi)
    rw [List.map_cons, rowsFrom, parseL_is]
    cases o with
    | none =>
      rw [hi.none rfl]
      exact ⟨h1, h2⟩
    | some q =>
      obtain ⟨fs, m, e, h4, hr⟩ := hi.some q rfl
      rw [e]
      refine ⟨fun r hr => ?_, ?_⟩
      · rcases List.mem_append.mp hr with hr | hr
        · rw [List.mem_singleton.mp hr]; exact h4
        · exact h1 r hr
      · rw [List.map_append]
        exact .cons (hr (k + 1)) h2
theorem none_rows : ∀ {tl : List (List Nat)} (k : Nat), (∀ l ∈ tl, parseF l = none) → rowsFrom k tl = []
  | [], _, _ => rfl
  | l :: r, k, h => by
    rw [rowsFrom, parseL_is, h l (.head _), none_rows (k + 1) fun q hq => h q (.tail _ hq)]; rfl
/-- a right file -/
theorem readE_ok {text : List Nat} {items : List (List Nat × Option (Int × Str))} {tl : List (List Nat)} (hs : splitL 10 text = items.map (·.1) ++ tl) (h : ∀ i ∈ items, LineIs i.1 i.2) (ht : ∀ l ∈ tl, parseF l = none)
    (hn : ((items.filterMap (·.2)).map (·.1)).Nodup) : readE text = .ok (items.filterMap (·.2)) := by
  obtain ⟨h1, h2⟩ := lines_rows 0 h
  unfold readE
  rw [hs, rowsFrom_app, none_rows _ ht, fieldsE_app h1]
  show (match andE _ (.ok []) with | .ok q => joinE q [] | .error e => .error e) = _
  unfold andE
  dsimp only
  obtain ⟨kn', _, e⟩ := joinE_app (b := []) (kn := []) h2 hn fun q hq => rfl
  rw [e]
  show Except.ok (_ ++ []) = _
  rw [List.append_nil]
/-- a line that is wrong -/
inductive BadIs (prs : List (Int × Str)) (l : List Nat) : Prop
  | count (fs : List (List Nat)) (m : List Nat) : parseF l = some (fs, m) → ¬ (fix4 fs).length = 4 → BadIs prs l
  | row (fs : List (List Nat)) (m : List Nat) : parseF l = some (fs, m) → (fix4 fs).length = 4 → (∀ kn : List (Int × D), (∀ k, (look kn k).isSome = (prs.map (·.1)).contains k) → rowE kn (fix4 fs) = none) → BadIs prs l
theorem readE_bad {text bad : List Nat} {items more : List (List Nat × Option (Int × Str))} {tl : List (List Nat)} (hs : splitL 10 text = items.map (·.1) ++ bad :: (more.map (·.1) ++ tl)) (h : ∀ i ∈ items, LineIs i.1 i.2) (hm : ∀ i ∈ more, LineIs i.1 i.2) (ht : ∀ l ∈ tl, parseF l = none)
    (hn : ((items.filterMap (·.2)).map (·.1)).Nodup) (hb : BadIs (items.filterMap (·.2)) bad) : readE text = .error (items.length + 1) := by
  obtain ⟨h1, h2⟩ := lines_rows 0 h
  unfold readE
  rw [hs, rowsFrom_app, fieldsE_app h1, rowsFrom, parseL_is, List.length_map, Nat.zero_add]
  obtain ⟨h3, h4⟩ := lines_rows (items.length + 1) hm
  cases hb with
  | count fs m e h5 =>
    rw [e]
    dsimp only
    rw [List.singleton_append, fieldsE, if_neg h5]
    rfl
  | row fs m e h5 h6 =>
    rw [e]
    dsimp only
    rw [List.singleton_append, fieldsE, if_pos h5, rowsFrom_app, none_rows _ ht, fieldsE_app h3]
    show (match andE _ (.ok (_ :: (_ ++ []))) with | .ok q => joinE q [] | .error e => .error e) = _
    unfold andE
    dsimp only
    obtain ⟨kn', e1, e2⟩ := joinE_app (b := (items.length + 1, fix4 fs) :: ((rowsFrom (items.length + 1) (more.map (·.1))).map (fun r => (r.1, fix4 r.2.1)) ++ [])) (kn := []) h2 hn fun q hq => rfl
    rw [e2, joinE, h6 kn' fun k => by rw [e1 k]; rfl]
    rfl
end
section
open PySem PySem.W PySem.Calls PyProof.Rows
set_option Elab.async false
set_option tactic.hygienic false
set_option maxRecDepth 100000
set_option linter.unusedVariables false
set_option tactic.hygienic true in
theorem dropWhile_nil {α : Type} {p : α → Bool} : ∀ {l : List α}, l.dropWhile p = [] → ∀ x ∈ l, p x = true
  | [], _, x, hx => (nomatch hx)
  | y :: r, h, x, hx => by
    rw [List.dropWhile_cons] at h
    split at h
    · rename_i hy
      rcases List.mem_cons.mp hx with rfl | hx
      · exact hy
      · exact dropWhile_nil h x hx
    · cases h
theorem strip_nil {α : Type} {p : α → Bool} : ∀ {l : List α}, stripL p l = [] → ∀ x ∈ l, p x = true
  | [], _, x, hx => (nomatch hx)
  | y :: r, h, x, hx => by
    by_cases hy : p y = true
    · have e : stripL p (y :: r) = stripL p r := by unfold stripL; rw [List.dropWhile_cons, if_pos hy]
      rw [e] at h
      rcases List.mem_cons.mp hx with rfl | hx
      · exact hy
      · exact strip_nil h x hx
    · unfold stripL at h
      rw [List.dropWhile_cons, if_neg hy, List.reverse_eq_nil_iff] at h
      exact absurd (dropWhile_nil h y (List.mem_reverse.mpr (.head _))) hy
noncomputable def checkLine (l : List Nat) (q : Int × Str) : Bool := l.all (fun k => decide (k ≤ 127)) && !l.contains 10 && decide (l.length ≤ 100) && decide (0 ≤ q.1) && joiningTypes.contains q.2 &&
  (match parseF l with
    | some (fs, _) => (fix4 fs).length == 4 && codeOfField ((fix4 fs).getD 0 []) == some q.1.toNat && strOf ((fix4 fs).getD 2 []) == q.2
    | none => false)
set_option tactic.hygienic true in
theorem checkLine_ok {l : List Nat} {q : Int × Str} (h : checkLine l q = true) : LineIs l (some q) := by
  unfold checkLine at h
  simp only [Bool.and_eq_true, List.all_eq_true, decide_eq_true_eq, Bool.not_eq_true', List.contains_eq_mem, decide_eq_false_iff_not] at h
  obtain ⟨⟨⟨⟨⟨h1, h2⟩, h3⟩, h4⟩, h5⟩, h6⟩ := h
  refine ⟨h1, h2, h3, fun e => (nomatch e), fun q' e => ?_⟩
  cases e
  split at h6
  · rename_i fs m e
    simp only [Bool.and_eq_true, beq_iff_eq] at h6
    obtain ⟨⟨a, b⟩, d⟩ := h6
    exact ⟨fs, m, e, a, fun k => ⟨h4, b, d, h5⟩⟩
  · cases h6
noncomputable def lineW (k : Int) (x : Str) : List Nat := joinB [59, 32] [hexB k.toNat, [45], x.cps.toList, noJG]
theorem lineW_check : (codes.all fun k => joiningTypes.all fun x => checkLine (lineW k x) (k, x)) = true := by decide +kernel
theorem lineW_is {k : Int} {x : Str} (hk : k ∈ codes) (hx : x ∈ joiningTypes) : LineIs (lineW k x) (some (k, x)) :=
  checkLine_ok (List.all_eq_true.mp (List.all_eq_true.mp lineW_check k hk) x hx)
theorem parse_nil : parseF [] = none := by decide +kernel
noncomputable def gaps : List (List Nat) := [[], [32], [9]]
noncomputable def ends : List (List Nat) := [[], [32, 35, 32, 88, 59, 32, 89], [59], [13], [32, 59]]
noncomputable def nms : List (List Nat) := [[66, 69, 72], [45], [], [65, 76, 69, 70, 32, 87, 73, 84, 72, 32, 77, 65, 82, 75]]
noncomputable def grps : List (List Nat) := [[66, 69, 72], noJG, [120]]
noncomputable def allCodes : List Int := codes ++ [20480]
noncomputable def lineL (k : Int) (x : Str) (gap nm grp en : List Nat) : List Nat := joinB (gap ++ [59] ++ gap) [hexB k.toNat, nm, x.cps.toList, grp] ++ en
noncomputable def okC (k : Nat) : Bool := decide (k ≤ 127) && k != 10
theorem bodyB_app : ∀ {a : List Nat} (b : List Nat), 35 ∉ a → bodyB (a ++ b) = a ++ bodyB b
  | [], _, _ => rfl
  | y :: r, b, h => by
    have ih := bodyB_app (a := r) b fun q => h (.tail _ q)
    have hy : (y == 35) = false := beq_eq_false_iff_ne.mpr fun e => h (by rw [e]; exact .head _)
    have e : findN 35 (y :: (r ++ b)) = if findN 35 (r ++ b) < 0 then -1 else findN 35 (r ++ b) + 1 := by
      unfold findN
      rw [List.findIdx?_cons, hy]
      cases (r ++ b).findIdx? (· == 35) with
      | none => rfl
      | some i =>
        show (((i + 1 : Nat)) : Int) = if (i : Int) < 0 then -1 else (i : Int) + 1
        rw [if_neg (by lia)]; lia
    unfold bodyB at ih ⊢
    rw [List.cons_append, e]
    by_cases hn : findN 35 (r ++ b) < 0
    · rw [if_pos hn] at ih
      rw [if_pos hn, if_pos (by lia), ih]; rfl
    · rw [if_neg hn] at ih
      rw [if_neg hn, if_neg (by lia)]
      have : (findN 35 (r ++ b) + 1).toNat = (findN 35 (r ++ b)).toNat + 1 := by lia
      rw [this, List.take_succ_cons, ih]; rfl
theorem hexC : (allCodes.all fun k => decide (0 ≤ k) && (hexB k.toNat).all okC && !(hexB k.toNat).contains 35 && !(hexB k.toNat).contains 59 && codeOfField (hexB k.toNat) == some k.toNat && gaps.all fun g => stripB (hexB k.toNat ++ g) == hexB k.toNat) = true := by decide +kernel
theorem gapC : (gaps.all fun g => g.all okC && !g.contains 35 && !g.contains 59 && decide (g.length ≤ 1)) = true := by decide +kernel
theorem nmC : (nms.all fun g => g.all okC && !g.contains 35 && !g.contains 59 && decide (g.length ≤ 20)) = true := by decide +kernel
theorem srtC : (joiningTypes.all fun x => x.cps.toList.all okC && !x.cps.toList.contains 35 && !x.cps.toList.contains 59 && decide (x.cps.toList.length ≤ 1) && strOf x.cps.toList == x && gaps.all fun g => stripB (g ++ x.cps.toList ++ g) == x.cps.toList) = true := by decide +kernel
theorem grpC : (grps.all fun g => g.all okC && !g.contains 35 && !g.contains 59 && decide (g.length ≤ 20)) = true := by decide +kernel
theorem endC : (ends.all fun e => e.all okC && decide (e.length ≤ 7) && gaps.all fun g => grps.all fun r => (splitL 59 (g ++ r ++ bodyB e)).map stripB == [r] || (splitL 59 (g ++ r ++ bodyB e)).map stripB == [r, []]) = true := by decide +kernel
theorem lineL_is {k : Int} {x : Str} {gap nm grp en : List Nat} (hk : k ∈ allCodes) (hx : x ∈ joiningTypes) (hg : gap ∈ gaps) (hn : nm ∈ nms) (hr : grp ∈ grps) (he : en ∈ ends) : LineIs (lineL k x gap nm grp en) (some (k, x)) := by
  have c1 := List.all_eq_true.mp hexC k hk
  have c2 := List.all_eq_true.mp gapC gap hg
  have c3 := List.all_eq_true.mp nmC nm hn
  have c4 := List.all_eq_true.mp srtC x hx
  have c5 := List.all_eq_true.mp grpC grp hr
  have c6 := List.all_eq_true.mp endC en he
  simp only [Bool.and_eq_true, Bool.not_eq_true', decide_eq_true_eq, beq_iff_eq, List.contains_eq_mem, decide_eq_false_iff_not] at c1 c2 c3 c4 c5 c6
  obtain ⟨⟨⟨⟨⟨a1, a2⟩, a3⟩, a4⟩, a5⟩, a6⟩ := c1
  obtain ⟨⟨⟨b1, b2⟩, b3⟩, b4⟩ := c2
  obtain ⟨⟨⟨d1, d2⟩, d3⟩, d4⟩ := c3
  obtain ⟨⟨⟨⟨⟨f1, f2⟩, f3⟩, f4⟩, f5⟩, f6⟩ := c4
  obtain ⟨⟨⟨g1, g2⟩, g3⟩, g4⟩ := c5
  obtain ⟨⟨h1, h2⟩, h3⟩ := c6
  have a6 := List.all_eq_true.mp a6 gap hg
  have f6 := List.all_eq_true.mp f6 gap hg
  have h3 := List.all_eq_true.mp (List.all_eq_true.mp h3 gap hg) grp hr
  rw [beq_iff_eq] at a6 f6
  rw [Bool.or_eq_true, beq_iff_eq, beq_iff_eq] at h3
  have hl := hexB_len k.toNat
  have form : lineL k x gap nm grp en = (hexB k.toNat ++ gap) ++ 59 :: ((gap ++ nm ++ gap) ++ 59 :: ((gap ++ x.cps.toList ++ gap) ++ 59 :: (gap ++ grp ++ en))) := by
    unfold lineL
    show (hexB k.toNat ++ (gap ++ [59] ++ gap) ++ (nm ++ (gap ++ [59] ++ gap) ++ (x.cps.toList ++ (gap ++ [59] ++ gap) ++ grp))) ++ en = _
    simp only [List.append_assoc, List.cons_append, List.nil_append]
  have hall : ((lineL k x gap nm grp en).all okC) = true := by
    rw [form]
    simp only [List.all_append, List.all_cons, a2, b1, d1, f1, g1, h1, Bool.and_true, Bool.true_and]
    decide
  have hok : ∀ y ∈ lineL k x gap nm grp en, y ≤ 127 ∧ ¬ y = 10 := fun y hy => by
    have := List.all_eq_true.mp hall y hy
    unfold okC at this
    simpa using this
  refine ⟨fun y hy => (hok y hy).1, fun hy => (hok 10 hy).2 rfl, ?_, fun e => (nomatch e), fun q e => ?_⟩
  · rw [form]
    simp only [List.length_append, List.length_cons]
    lia
  · cases e
    have e1 : bodyB (lineL k x gap nm grp en) = (hexB k.toNat ++ gap) ++ 59 :: ((gap ++ nm ++ gap) ++ 59 :: ((gap ++ x.cps.toList ++ gap) ++ 59 :: (gap ++ grp ++ bodyB en))) := by
      have e0 : lineL k x gap nm grp en = ((hexB k.toNat ++ gap) ++ 59 :: ((gap ++ nm ++ gap) ++ 59 :: ((gap ++ x.cps.toList ++ gap) ++ 59 :: (gap ++ grp)))) ++ en := by
        rw [form]; simp only [List.append_assoc, List.cons_append]
      rw [e0, bodyB_app]
      · simp only [List.append_assoc, List.cons_append]
      · simp only [List.mem_append, List.mem_cons, not_or]
        simp_all
    have e2 : splitL 59 (bodyB (lineL k x gap nm grp en)) = (hexB k.toNat ++ gap) :: (gap ++ nm ++ gap) :: (gap ++ x.cps.toList ++ gap) :: splitL 59 (gap ++ grp ++ bodyB en) := by
      rw [e1, splitL_app, splitL_app, splitL_app]
      · simp_all
      · simp_all
      · simp_all
    have hne : ¬ stripB (bodyB (lineL k x gap nm grp en)) = [] := fun h => by
      have hmem : ∀ y ∈ bodyB (lineL k x gap nm grp en), y = 32 ∨ y = 9 ∨ y = 13 := fun y hy => by
        have := strip_nil (p := ([32, 9, 13] : List Nat).contains) h y hy
        simpa using this
      have := hmem 59 (by rw [e1]; simp)
      lia
    have e3 : parseF (lineL k x gap nm grp en) = some (hexB k.toNat :: stripB (gap ++ nm ++ gap) :: x.cps.toList :: (splitL 59 (gap ++ grp ++ bodyB en)).map stripB, stripB (remB (lineL k x gap nm grp en))) := by
      unfold parseF
      rw [if_neg hne, e2, List.map_cons, List.map_cons, List.map_cons, a6, f6]
    have e4 : fix4 (hexB k.toNat :: stripB (gap ++ nm ++ gap) :: x.cps.toList :: (splitL 59 (gap ++ grp ++ bodyB en)).map stripB) = [hexB k.toNat, stripB (gap ++ nm ++ gap), x.cps.toList, grp] := by
      rcases h3 with h3 | h3 <;> rw [h3] <;> unfold fix4
      · rw [if_neg (by simp)]
      · rw [if_pos ⟨by simp, rfl⟩]; rfl
    exact ⟨_, _, e3, by rw [e4]; rfl, fun j => ⟨a1, by rw [e4]; exact a5, by rw [e4]; exact f5, hx⟩⟩
end
section
open PySem PySem.W PySem.Calls PyProof.Rows
set_option Elab.async false
set_option tactic.hygienic false
set_option maxRecDepth 100000
set_option linter.unusedVariables false
noncomputable def strN (s : String) : List Nat := s.toList.map Char.toNat
noncomputable def bads : List (List Nat) := ["0061; A; D", "0061; A; D; B; C", "61; A; D; B", "110000; A; D; B", "0061..0062; A; D; B", "006G; A; D; B", "0061; A; X; B", "0061; A; d; B", "0061; A; ; B", "D", "0061; A; D; B; ;"].map strN
noncomputable def bares : List (List Nat) := ["", "# 0061; A; D; B", "  \t"].map strN
noncomputable def badCheck (l : List Nat) : Bool := l.all okC && decide (l.length ≤ 100) && (match parseF l with
  | some (fs, _) => !((fix4 fs).length == 4) || (codeOfField ((fix4 fs).getD 0 []) == none || !joiningTypes.contains (strOf ((fix4 fs).getD 2 [])))
  | none => false)
set_option tactic.hygienic true in
theorem badCheck_ok {l : List Nat} (h : badCheck l = true) (prs : List (Int × Str)) : BadIs prs l := by
  unfold badCheck at h
  rw [Bool.and_eq_true] at h
  have h := h.2
  split at h
  · rename_i fs m e
    by_cases h4 : (fix4 fs).length = 4
    · refine .row fs m e h4 fun kn _ => ?_
      rw [Bool.or_eq_true, Bool.or_eq_true] at h
      unfold rowE
      rcases h with h | h | h
      · rw [h4] at h; cases h
      · rw [beq_iff_eq] at h; rw [h]
      · cases codeOfField ((fix4 fs).getD 0 []) with
        | none => rfl
        | some k =>
          dsimp only
          split
          · rfl
          · rw [Bool.not_eq_true'] at h
            rw [if_neg (by rw [h]; simp)]
    · exact .count fs m e h4
  · cases h
theorem bads_check : (bads.all badCheck) = true := by decide +kernel
theorem bads_bad {l : List Nat} (h : l ∈ bads) (prs : List (Int × Str)) : BadIs prs l := badCheck_ok (List.all_eq_true.mp bads_check l h) prs
noncomputable def okL (l : List Nat) : Prop := (∀ k ∈ l, k ≤ 127) ∧ 10 ∉ l ∧ l.length ≤ 100
theorem okL_of {l : List Nat} (h : (l.all okC && decide (l.length ≤ 100)) = true) : okL l := by
  rw [Bool.and_eq_true, decide_eq_true_eq, List.all_eq_true] at h
  have hok : ∀ y ∈ l, y ≤ 127 ∧ ¬ y = 10 := fun y hy => by
    have := h.1 y hy
    unfold okC at this
    simpa using this
  exact ⟨fun y hy => (hok y hy).1, fun hy => (hok 10 hy).2 rfl, h.2⟩
theorem bads_ok {l : List Nat} (h : l ∈ bads) : okL l := by
  have := List.all_eq_true.mp bads_check l h
  unfold badCheck at this
  rw [Bool.and_eq_true] at this
  exact okL_of this.1
noncomputable def twice (k : Int) : List Nat := hexB k.toNat ++ strN "; A; R; B"
theorem twice_check : (allCodes.all fun k => decide (0 ≤ k) && ((twice k).all okC && decide ((twice k).length ≤ 100)) && (match parseF (twice k) with | some (fs, _) => (fix4 fs).length == 4 && codeOfField ((fix4 fs).getD 0 []) == some k.toNat | none => false)) = true := by decide +kernel
set_option tactic.hygienic true in
theorem twice_bad {k : Int} {prs : List (Int × Str)} (h : k ∈ allCodes) (hk : k ∈ prs.map (·.1)) : BadIs prs (twice k) := by
  have := List.all_eq_true.mp twice_check k h
  rw [Bool.and_eq_true, Bool.and_eq_true, decide_eq_true_eq] at this
  obtain ⟨⟨h0, _⟩, h2⟩ := this
  split at h2
  · rename_i fs m e
    rw [Bool.and_eq_true, beq_iff_eq, beq_iff_eq] at h2
    refine .row fs m e h2.1 fun kn hkn => ?_
    unfold rowE
    rw [h2.2]
    dsimp only
    rw [Int.toNat_of_nonneg h0, hkn k, List.contains_iff_mem.mpr hk, if_pos rfl]
  · cases h2
theorem twice_ok {k : Int} (h : k ∈ allCodes) : okL (twice k) := by
  have := List.all_eq_true.mp twice_check k h
  rw [Bool.and_eq_true, Bool.and_eq_true] at this
  exact okL_of this.1.2
theorem bares_check : (bares.all fun l => (l.all okC && decide (l.length ≤ 100)) && (parseF l).isNone) = true := by decide +kernel
theorem bares_is {l : List Nat} (h : l ∈ bares) : LineIs l none := by
  have := List.all_eq_true.mp bares_check l h
  rw [Bool.and_eq_true] at this
  have ok := okL_of this.1
  exact ⟨ok.1, ok.2.1, ok.2.2, fun _ => Option.isNone_iff_eq_none.mp this.2, fun q e => (nomatch e)⟩
-- texts
theorem text_hx {l : List Nat} (h : ∀ k ∈ l, k ≤ 127) : ¬ l.take 3 = [239, 187, 191] := fun e => by
  have : 239 ∈ l.take 3 := by rw [e]; exact .head _
  have := h 239 (List.mem_of_mem_take this)
  lia
theorem text_hf {l : List Nat} (h : ∀ k ∈ l, k ≤ 127) (hz : l.length ≤ 50000) : ∀ r ∈ rowsFrom 0 (splitL 10 l), r.2.1.length ≤ 100000 ∧ ∀ x ∈ r.2.1, x.length ≤ 100000 ∧ ∀ k ∈ x, k ≤ 127 :=
  rows_small fun p hp => ⟨by have := (parts_small 10 l).1 p hp; lia, fun k hk => h k (splitL_sub 10 l p hp k hk)⟩
noncomputable def joinT (ls : List (List Nat)) (e : List Nat) : List Nat := joinB [10] ls ++ e
theorem joinT_ok {ls : List (List Nat)} {e : List Nat} (h : ∀ l ∈ ls, okL l) (he : e = [] ∨ e = [10]) (hn : ls.length ≤ 50) : (∀ k ∈ joinT ls e, k ≤ 127) ∧ (joinT ls e).length ≤ 50000 ∧ (rowsFrom 0 (splitL 10 (joinT ls e))).length ≤ 60 := by
  have hsp : splitL 10 (joinT ls e) = ls ++ (splitL 10 (joinT ls e)).drop ls.length ∧ (splitL 10 (joinT ls e)).length ≤ ls.length + 2 := by
    by_cases h0 : ls = []
    · subst h0
      refine ⟨by simp, ?_⟩
      unfold joinT
      rcases he with rfl | rfl <;> decide
    · unfold joinT
      rw [splitL_join h0 (fun l hl => (h l hl).2.1) e he]
      refine ⟨by simp, ?_⟩
      rw [List.length_append]
      split <;> simp
  refine ⟨?_, ?_, ?_⟩
  · have key : ∀ ls : List (List Nat), (∀ l ∈ ls, okL l) → ∀ k ∈ joinB [10] ls, k ≤ 127 := by
      intro ls
      induction ls with
      | nil => intro _ k hk; cases hk
      | cons l r ih =>
        intro h k hk
        rw [joinB_cons] at hk
        rcases List.mem_append.mp hk with hk | hk
        · exact (h l (.head _)).1 k hk
        · obtain ⟨p, hp, hk⟩ := List.mem_flatMap.mp hk
          rcases List.mem_append.mp hk with hk | hk
          · rw [List.mem_singleton.mp hk]; decide
          · exact (h p (.tail _ hp)).1 k hk
    intro k hk
    unfold joinT at hk
    rcases List.mem_append.mp hk with hk | hk
    · exact key ls h k hk
    · rcases he with rfl | rfl
      · cases hk
      · rw [List.mem_singleton.mp hk]; decide
  · unfold joinT
    rw [List.length_append, joinB_length]
    have hs : ∀ ls : List (List Nat), (∀ l ∈ ls, okL l) → (ls.map List.length).sum ≤ 100 * ls.length := by
      intro ls
      induction ls with
      | nil => intro _; simp
      | cons l r ih =>
        intro h
        have h1 := (h l (.head _)).2.2
        have h2 := ih fun q hq => h q (.tail _ hq)
        rw [List.map_cons, List.sum_cons, List.length_cons]; lia
    have := hs ls h
    have he2 : e.length ≤ 1 := by rcases he with rfl | rfl <;> simp
    simp only [List.length_singleton]; lia
  · have := rowsFrom_len 0 (splitL 10 (joinT ls e))
    lia
theorem joinT_read {items : List (List Nat × Option (Int × Str))} {e : List Nat} (h : ∀ i ∈ items, LineIs i.1 i.2) (he : e = [] ∨ e = [10]) (hn : ((items.filterMap (·.2)).map (·.1)).Nodup) : readE (joinT (items.map (·.1)) e) = .ok (items.filterMap (·.2)) := by
  by_cases h0 : items = []
  · subst h0
    refine readE_ok (tl := splitL 10 (joinT [] e)) rfl (fun i hi => (nomatch hi)) ?_ hn
    intro l hl
    unfold joinT at hl
    rcases he with rfl | rfl
    · have : l = [] := by simpa [joinB, splitL] using hl
      rw [this]; exact parse_nil
    · have : l = [] := by simpa [joinB, splitL] using hl
      rw [this]; exact parse_nil
  · refine readE_ok (tl := if e = [] then [] else [[]]) (splitL_join (by simpa using h0) (fun l hl => ?_) e he) h (fun l hl => ?_) hn
    · obtain ⟨i, hi, rfl⟩ := List.mem_map.mp hl
      exact (h i hi).nl
    · split at hl
      · cases hl
      · rw [List.mem_singleton.mp hl]; exact parse_nil
theorem joinT_bad {items more : List (List Nat × Option (Int × Str))} {e bad : List Nat} (h : ∀ i ∈ items, LineIs i.1 i.2) (hm : ∀ i ∈ more, LineIs i.1 i.2) (he : e = [] ∨ e = [10]) (hn : ((items.filterMap (·.2)).map (·.1)).Nodup) (hb : okL bad) (hbad : BadIs (items.filterMap (·.2)) bad) :
    readE (joinT (items.map (·.1) ++ bad :: more.map (·.1)) e) = .error (items.length + 1) := by
  refine readE_bad (tl := if e = [] then [] else [[]]) (items := items) (bad := bad) (more := more) ?_ h hm (fun l hl => ?_) hn hbad
  · unfold joinT
    rw [splitL_join (by simp) (fun l hl => ?_) e he]
    · simp only [List.append_assoc, List.cons_append]
    · rcases List.mem_append.mp hl with hl | hl
      · obtain ⟨i, hi, rfl⟩ := List.mem_map.mp hl
        exact (h i hi).nl
      · rcases List.mem_cons.mp hl with rfl | hl
        · exact hb.2.1
        · obtain ⟨i, hi, rfl⟩ := List.mem_map.mp hl
          exact (hm i hi).nl
  · split at hl
    · cases hl
    · rw [List.mem_singleton.mp hl]; exact parse_nil
theorem LineIs.ok {l : List Nat} {o : Option (Int × Str)} (h : LineIs l o) : okL l := ⟨h.asc, h.nl, h.len⟩
-- the written file
theorem fileOf_is (F : Int → Str) : fileOf F = ((((ksOf F).map fun k => lineW k (F k)).map (· ++ [10])).flatten) := by
  unfold fileOf
  rw [List.map_map]; rfl
theorem fileOf_read {F : Int → Str} (h : ∀ k ∈ codes, F k ∈ joiningTypes) : readE (fileOf F) = .ok ((ksOf F).map fun k => (k, F k)) := by
  have e : (((ksOf F).map fun k => (lineW k (F k), some (k, F k))).filterMap (·.2)) = (ksOf F).map fun k => (k, F k) := by
    rw [List.filterMap_map]
    induction ksOf F with
    | nil => rfl
    | cons k r ih => rw [List.filterMap_cons, List.map_cons, ← ih]; rfl
  have hl : ∀ l ∈ (ksOf F).map (fun k => lineW k (F k)), 10 ∉ l := fun l hl => by
    obtain ⟨k, hk, rfl⟩ := List.mem_map.mp hl
    have := (ksOf_mem.mp hk).1
    exact (lineW_is this (h k this)).nl
  rw [← e]
  refine readE_ok (tl := [[]]) ?_ (fun i hi => ?_) (fun l hl => by rw [List.mem_singleton.mp hl]; exact parse_nil) ?_
  · rw [fileOf_is, splitL_flat hl, List.map_map]; rfl
  · obtain ⟨k, hk, rfl⟩ := List.mem_map.mp hi
    have := (ksOf_mem.mp hk).1
    exact lineW_is this (h k this)
  · rw [e, List.map_map]
    show ((ksOf F).map fun k => k).Nodup
    rw [List.map_id']
    exact ksOf_sorted.imp fun h e => by lia
theorem fileOf_ok {F : Int → Str} (h : ∀ k ∈ codes, F k ∈ joiningTypes) : (∀ k ∈ fileOf F, k ≤ 127) ∧ (fileOf F).length ≤ 5000 ∧ (rowsFrom 0 (splitL 10 (fileOf F))).length ≤ 60 := by
  have hl : ∀ k ∈ ksOf F, okL (lineW k (F k)) := fun k hk => by
    have := (ksOf_mem.mp hk).1
    exact (lineW_is this (h k this)).ok
  have hn := ksOf_len (F := F)
  refine ⟨fun k hk => ?_, ?_, ?_⟩
  · rw [fileOf_is] at hk
    obtain ⟨p, hp, hk⟩ := List.mem_flatten.mp hk
    rw [List.map_map] at hp
    obtain ⟨k', hk', rfl⟩ := List.mem_map.mp hp
    rcases List.mem_append.mp hk with hk | hk
    · exact (hl k' hk').1 k hk
    · rw [List.mem_singleton.mp hk]; decide
  · rw [fileOf_is, List.length_flatten, List.map_map, List.map_map]
    have : ∀ ks : List Int, (∀ k ∈ ks, okL (lineW k (F k))) → (ks.map fun k => (lineW k (F k) ++ [10]).length).sum ≤ 101 * ks.length := by
      intro ks
      induction ks with
      | nil => intro _; simp
      | cons k r ih =>
        intro h
        have h1 := (h k (.head _)).2.2
        have h2 := ih fun q hq => h q (.tail _ hq)
        rw [List.map_cons, List.sum_cons, List.length_cons, List.length_append, List.length_singleton]; lia
    have := this _ hl
    refine Nat.le_trans this ?_
    lia
  · have h1 := rowsFrom_len 0 (splitL 10 (fileOf F))
    have h2 : splitL 10 (fileOf F) = (ksOf F).map (fun k => lineW k (F k)) ++ [[]] := by
      rw [fileOf_is, splitL_flat fun l hl' => ?_]
      obtain ⟨k, hk, rfl⟩ := List.mem_map.mp hl'
      exact (hl k hk).2.1
    rw [h2, List.length_append, List.length_map, List.length_singleton] at h1
    rw [h2]; lia
end
section
open PySem PySem.W PySem.Calls PyProof.Rows
set_option Elab.async false
set_option tactic.hygienic false
set_option maxRecDepth 100000
set_option linter.unusedVariables false
noncomputable def valP (puts : List (Int × Int × Str)) (k : Int) (d : Str) : Str := puts.foldl (fun acc r => if r.1 ≤ k ∧ k ≤ r.2.1 then r.2.2 else acc) d
theorem fold_val (puts : List (Int × Int × Str)) (h : ∀ r ∈ puts, 0 ≤ r.1 ∧ r.1 ≤ r.2.1 ∧ r.2.1 ≤ 1114111) {k : Int} (h0 : 0 ≤ k) (h1 : k ≤ 1114111) : ∀ m : List Int × List Str, RMok m.1 m.2 →
    rmF (puts.foldl (fun m r => rmPut m.1 m.2 r.1 r.2.1 r.2.2) m).1 (puts.foldl (fun m r => rmPut m.1 m.2 r.1 r.2.1 r.2.2) m).2 k = valP puts k (rmF m.1 m.2 k) := by
  induction puts with
  | nil => intro m _; rfl
  | cons r rs ih =>
    intro m ok
    have hr := h r (.head _)
    have ok1 := rmPut_ok (value := r.2.2) ok hr.1 hr.2.1 hr.2.2
    rw [List.foldl_cons, ih (fun q hq => h q (.tail _ hq)) _ ok1, rmPut_val ok hr.1 hr.2.1 hr.2.2 h0 h1]
    rfl
theorem valP_app (a b : List (Int × Int × Str)) (k : Int) (d : Str) : valP (a ++ b) k d = valP b k (valP a k d) := List.foldl_append ..
noncomputable def lookP (prs : List (Int × Str)) (k : Int) : Option Str := (prs.find? fun q => decide (q.1 = k)).map (·.2)
theorem valP_self : ∀ (prs : List (Int × Str)), (prs.map (·.1)).Nodup → ∀ (k : Int) (d : Str), valP (prs.map selfP) k d = (lookP prs k).getD d
  | [], _, k, d => rfl
  | q :: r, hn, k, d => by
    rw [List.map_cons, List.nodup_cons] at hn
    have ih := valP_self r hn.2 k
    show valP (r.map selfP) k (if q.1 ≤ k ∧ k ≤ q.1 then q.2 else d) = _
    rw [ih]
    have e : lookP (q :: r) k = if q.1 = k then some q.2 else lookP r k := by
      unfold lookP
      rw [List.find?_cons]
      by_cases h : q.1 = k
      · rw [decide_eq_true h, if_pos h]; rfl
      · rw [decide_eq_false h, if_neg h]
    rw [e]
    by_cases h : q.1 = k
    · subst h
      rw [if_pos rfl, if_pos ⟨Int.le_refl _, Int.le_refl _⟩]
      have : lookP r q.1 = none := by
        cases hq : lookP r q.1 with
        | none => rfl
        | some x =>
          unfold lookP at hq
          rw [Option.map_eq_some_iff] at hq
          obtain ⟨y, hy, _⟩ := hq
          have h2 := List.find?_some hy
          have h2 : y.1 = q.1 := by simpa using h2
          exact absurd (h2 ▸ List.mem_map_of_mem (List.mem_of_find?_eq_some hy)) hn.1
      rw [this]; rfl
    · rw [if_neg h, if_neg (by lia)]
theorem valP_pass : ∀ (rows : List (Int × Int × Str)) (k : Int) (d : Str), valP (passT rows) k d = if rows.any (passR k) = true then ("T" : Str) else d
  | [], k, d => by simp [passT, valP]
  | r :: rows, k, d => by
    have ih := valP_pass rows k
    rw [List.any_cons]
    by_cases h : passR2 r = true
    · have e : passT (r :: rows) = (r.1, r.2.1, ("T" : Str)) :: passT rows := by unfold passT; rw [List.filter_cons, if_pos h]; rfl
      rw [e]
      show valP (passT rows) k (if r.1 ≤ k ∧ k ≤ r.2.1 then ("T" : Str) else d) = _
      rw [ih]
      have hp : passR k r = decide (r.1 ≤ k ∧ k ≤ r.2.1) := by
        unfold passR
        rw [show joiningThrough.contains r.2.2 = true from h, Bool.and_true]
      rw [hp]
      by_cases h2 : r.1 ≤ k ∧ k ≤ r.2.1
      · rw [if_pos h2, decide_eq_true h2, Bool.true_or, if_pos rfl]
        split <;> rfl
      · rw [if_neg h2, decide_eq_false h2, Bool.false_or]
    · have e : passT (r :: rows) = passT rows := by unfold passT; rw [List.filter_cons, if_neg h]
      rw [e, ih]
      have hp : passR k r = false := by
        unfold passR
        have : joiningThrough.contains r.2.2 = false := by simpa [passR2] using h
        rw [this, Bool.and_false]
      rw [hp, Bool.false_or]
theorem rmF0 (d : Str) {k : Int} (h0 : 0 ≤ k) : rmF [0] [d] k = d := by
  unfold rmF rmL
  show (if (0 : Int) ≤ k then d else "") = d
  rw [if_pos h0]
theorem puts_ok {prs : List (Int × Str)} (h : ∀ q ∈ prs, 0 ≤ q.1 ∧ q.1 ≤ 1114111) : ∀ r ∈ putsOf prs, 0 ≤ r.1 ∧ r.1 ≤ r.2.1 ∧ r.2.1 ≤ 1114111 := fun r hr => by
  rcases List.mem_append.mp hr with hr | hr
  · exact passT_ok r hr
  · obtain ⟨q', hq', rfl⟩ := List.mem_map.mp hr
    have := h q' hq'
    exact ⟨this.1, Int.le_refl _, this.2⟩
theorem read_ok {prs : List (Int × Str)} (h : ∀ q ∈ prs, 0 ≤ q.1 ∧ q.1 ≤ 1114111) (hl : prs.length ≤ 60) : RMok (putM (putsOf prs)).1 (putM (putsOf prs)).2 ∧ (putM (putsOf prs)).1.length ≤ 1000 := by
  have ok := ok_fold (putsOf prs) (puts_ok h) ([0], ["U"]) (ok_new "U")
  refine ⟨ok.1, Nat.le_trans ok.2 ?_⟩
  have e : (([0] : List Int), (["U"] : List Str)).1.length = 1 := rfl
  have h1 := passT_len2
  have h2 : (putsOf prs).length = (passT kinds).length + prs.length := by unfold putsOf; rw [List.length_append, List.length_map]
  lia
theorem read_val {prs : List (Int × Str)} (h : ∀ q ∈ prs, 0 ≤ q.1 ∧ q.1 ≤ 1114111) (hn : (prs.map (·.1)).Nodup) {k : Int} (h0 : 0 ≤ k) (h1 : k ≤ 1114111) :
    rmF (putM (putsOf prs)).1 (putM (putsOf prs)).2 k = (lookP prs k).getD (if passed k = true then ("T" : Str) else "U") := by
  unfold putM
  rw [fold_val (putsOf prs) (puts_ok h) h0 h1 ([0], ["U"]) (ok_new "U")]
  unfold putsOf
  rw [valP_app, valP_self prs hn, valP_pass, rmF0 "U" h0]
  rfl
theorem passed_codes {k : Int} (h : passed k = true) : k ∈ codes := by
  unfold passed at h
  rw [List.any_eq_true] at h
  obtain ⟨r, hr, h⟩ := h
  unfold passR at h
  rw [Bool.and_eq_true, decide_eq_true_eq] at h
  unfold codes
  exact List.mem_flatMap.mpr ⟨r, hr, mem_rowCodes.mpr h.1⟩
theorem tells0 : Tells [0] ["U"] (fun _ => "U") := ⟨ok_new "U", fun k h0 _ => rmF0 "U" h0, fun _ _ => rfl, fun _ _ => U_type⟩
/-- the file read again tells the same -/
theorem tells_again {F : Int → Str} (hout : ∀ k, k ∉ codes → F k = "U") (htyp : ∀ k ∈ codes, F k ∈ joiningTypes) :
    Tells (putM (putsOf ((ksOf F).map fun k => (k, F k)))).1 (putM (putsOf ((ksOf F).map fun k => (k, F k)))).2 F ∧ (putM (putsOf ((ksOf F).map fun k => (k, F k)))).1.length ≤ 1000 := by
  have hb : ∀ q ∈ (ksOf F).map (fun k => (k, F k)), 0 ≤ q.1 ∧ q.1 ≤ 1114111 := fun q hq => by
    obtain ⟨k, hk, rfl⟩ := List.mem_map.mp hq
    exact codes_ok k (ksOf_mem.mp hk).1
  have hn : (((ksOf F).map fun k => (k, F k)).map (·.1)).Nodup := by
    rw [List.map_map]
    show ((ksOf F).map fun k => k).Nodup
    rw [List.map_id']
    exact ksOf_sorted.imp fun h e => by lia
  have hl : ((ksOf F).map fun k => (k, F k)).length ≤ 60 := by
    rw [List.length_map]; exact Nat.le_trans ksOf_len (by decide)
  have ok := read_ok hb hl
  refine ⟨⟨ok.1, fun k h0 h1 => ?_, hout, htyp⟩, ok.2⟩
  rw [read_val hb hn h0 h1]
  have e : lookP ((ksOf F).map fun k => (k, F k)) k = if k ∈ ksOf F then some (F k) else none := by
    generalize ksOf F = ks
    induction ks with
    | nil => rfl
    | cons q r ih =>
      have : lookP ((q :: r).map fun k => (k, F k)) k = if q = k then some (F q) else lookP (r.map fun k => (k, F k)) k := by
        unfold lookP
        rw [List.map_cons, List.find?_cons]
        by_cases h : q = k
        · rw [if_pos h]; simp [h]
        · rw [if_neg h]; simp [h]
      rw [this, ih]
      by_cases h : q = k
      · subst h; simp
      · simp [h, Ne.symm h]
  rw [e]
  by_cases hk : k ∈ ksOf F
  · rw [if_pos hk]; rfl
  · rw [if_neg hk]
    show (if passed k = true then ("T" : Str) else "U") = F k
    by_cases hc : k ∈ codes
    · have hkf : keepF F k = false := by
        cases h : keepF F k with
        | false => rfl
        | true => exact absurd (ksOf_mem.mpr ⟨hc, h⟩) hk
      unfold keepF at hkf
      rw [Bool.or_eq_false_iff, Bool.not_eq_false', beq_iff_eq] at hkf
      rw [hkf.2, hkf.1]; rfl
    · have : passed k = false := by
        cases h : passed k with
        | false => rfl
        | true => exact absurd (passed_codes h) hc
      rw [this, hout k hc]; rfl
theorem fileOf_congr {F G : Int → Str} (h : ∀ k ∈ codes, F k = G k) : fileOf F = fileOf G := by
  have e : ksOf F = ksOf G := by
    unfold ksOf
    refine List.filter_congr fun k hk => ?_
    unfold keepF; rw [h k hk]
  unfold fileOf
  rw [← e]
  congr 1
  refine List.map_congr_left fun k hk => ?_
  unfold rowB
  rw [h k (ksOf_mem.mp hk).1]
end
section
variable {c : Cx} {A : Around} {env : Env} {L : Addr} {n : Nat} {R R0 R1 R2 : Led} {Q : D → Led → Prop} {X : Addr → D → Led → Prop}
/-- a callee in the midst of the ledger -/
theorem Cal.mid0 (S T : Led) {M : Led} {f : Value} {ds : List D} {Q0 : D → Led → Prop} (h : Cal c A f ds M Q0 NoX) (k : ∀ d M', Q0 d M' → Q d (S ++ (M' ++ T))) : Cal c A f ds (S ++ (M ++ T)) Q X := by
  refine Cal.prm (Cal.frame (R0 := M) (R1 := S ++ T) h ?_ (fun d R' q => ⟨S ++ (R' ++ T), ?_, k d R' q⟩) fun _ _ _ z => z.elim)
  · have e : ∀ (S M T : Led), Takes M (S ++ (M ++ T)) (S ++ T) := by
      intro S M T
      induction M with
      | nil => exact .nil
      | cons x r ih => exact .cons (rem_mid x (r ++ T) S) ih
    exact e S M T
  · exact (List.perm_append_comm_assoc _ _ _)
theorem Cal.mid (S T : Led) {M : Led} {f : Value} {ds : List D} {Q0 : D → Led → Prop} (h : Cal c A f ds M Q0 NoX) (k : ∀ G : D → Led → Prop, (∀ d R, Q d R → G d R) → ∀ d M', Q0 d M' → G d (S ++ (M' ++ T))) : Cal c A f ds (S ++ (M ++ T)) Q X :=
  Cal.mid0 S T h (k Q fun _ _ x => x)
theorem Cal.tl (S : Led) {M : Led} {f : Value} {ds : List D} {Q0 : D → Led → Prop} (h : Cal c A f ds M Q0 NoX) (k : ∀ G : D → Led → Prop, (∀ d R, Q d R → G d R) → ∀ d M', Q0 d M' → G d (S ++ M')) : Cal c A f ds (S ++ M) Q X := by
  have := Cal.mid0 (Q := Q) (X := X) S [] h (fun d M' q => by rw [List.append_nil]; exact k Q (fun _ _ x => x) d M' q)
  rwa [List.append_nil] at this
theorem gR {P : Led → Prop} {R' : Led} (h : ∀ G : Led → Prop, (∀ R, P R → G R) → G R') : P R' := h P fun _ x => x
theorem Cal.q {f : Value} {ds : List D} {Q0 : D → Led → Prop} (h : Cal c A f ds R Q0 X) (k : ∀ d R', Q0 d R' → Q d R') : Cal c A f ds R Q X := h.mono k fun _ _ _ x => x
section
variable {p : DA} {g dg j dj : Addr} {s : List Int} {v : List Str} {F : Int → Str}
theorem f_join1 (rm : Rm A (n + 6)) (t : Tells s v F) (hz : s.length ≤ 10000) : Cal c A (.ref 181) [.val (.ref p.x)] (dat1 p g dg j dj s v) (fun d R' => d = .bytes (fileOf F) ∧ ∃ j dj, R' = dat1 p g dg j dj s v) NoX := by
  have hs := t.small
  have := f_joining (c := c) (g := g) (dg := dg) (p := p) (s := s) (v := v) (pairs := toldL (rmRanges "U" s v)) (ks := ksOf F) F rm (dat1 p g dg j dj s v) (fun A' rm' => f_told1 (n := n + 2) rm' t.ok hz (by lia)) (by lia) t.keys t.at (Nat.le_trans ksOf_len (by decide))
  rw [joinB_nil] at this
  exact this
theorem f_join0 (rm : Rm A (n + 6)) : Cal c A (.ref 181) [.val (.ref p.x)] (dat0 p g dg) (fun d R' => d = .bytes (fileOf fun _ => "U") ∧ ∃ j dj, R' = dat1 p g dg j dj [0] ["U"]) NoX := by
  have t := tells0
  have hk := t.keys
  have ha := t.at
  rw [ranges0] at hk ha
  have := f_joining (c := c) (g := g) (dg := dg) (p := p) (s := [0]) (v := ["U"]) (pairs := []) (ks := ksOf fun _ => "U") (fun _ => "U") rm (dat0 p g dg) (fun A' rm' => f_told0 (n := n) rm') (by simp) hk ha (Nat.le_trans ksOf_len (by decide))
  rw [joinB_nil] at this
  exact this
theorem f_read_ok {l : List Nat} {prs : List (Int × Str)} (rm : Rm A (n + 7)) (hr : readE l = .ok prs) (ht : (∀ k ∈ l, k ≤ 127) ∧ l.length ≤ 50000 ∧ (rowsFrom 0 (splitL 10 l)).length ≤ 60) :
    Cal c A (.ref 167) [.bytes l, .val (.ref p.x)] (dat0 p g dg) (fun d R' => d = .none ∧ ∃ j dj, R' = dat1 p g dg j dj (putM (putsOf prs)).1 (putM (putsOf prs)).2) NoX := by
  refine (f_read_joining rm ht.2.1 (text_hx ht.1) (text_hf ht.1 ht.2.1) ht.2.2).mono ?_ ?_
  · rintro d R' ⟨rfl, prs', e, _, _, j, dj, rfl⟩
    rw [hr] at e; cases e
    exact ⟨rfl, j, dj, rfl⟩
  · rintro C told R' ⟨_, e, he, _⟩
    rw [hr] at he; cases he
theorem f_read_bad {l : List Nat} {e : Nat} (rm : Rm A (n + 7)) (hr : readE l = .error e) (ht : (∀ k ∈ l, k ≤ 127) ∧ l.length ≤ 50000 ∧ (rowsFrom 0 (splitL 10 l)).length ≤ 60) :
    Cal c A (.ref 167) [.bytes l, .val (.ref p.x)] (dat0 p g dg) (fun d R' => False) (fun C told R' => C = 64 ∧ told = .int (e : Int) ∧ R' = dat0 p g dg) := by
  refine (f_read_joining rm ht.2.1 (text_hx ht.1) (text_hf ht.1 ht.2.1) ht.2.2).mono ?_ ?_
  · rintro d R' ⟨_, prs', he, _⟩
    rw [hr] at he; cases he
  · rintro C told R' ⟨rfl, e', he, rfl, rfl⟩
    rw [hr] at he; cases he
    exact ⟨rfl, rfl, rfl⟩
end
/-- the data, with the map of joining or not -/
noncomputable def datX (p : DA) (g dg : Addr) : Option (Addr × Addr × List Int × List Str) → Led
  | none => dat0 p g dg
  | some (j, dj, s, v) => dat1 p g dg j dj s v
theorem datX_i (p : DA) (g dg : Addr) (o : Option (Addr × Addr × List Int × List Str)) : Has (dI p) (datX p g dg o) := by
  cases o with
  | none => exact .tail (.tail .head)
  | some q => exact .tail (.tail .head)
theorem datX_a (p : DA) (g dg : Addr) (o : Option (Addr × Addr × List Int × List Str)) : Has (dA p) (datX p g dg o) := by
  cases o with
  | none => exact .tail (.tail (.tail .head))
  | some q => exact .tail (.tail (.tail .head))
/-- the data tells F -/
noncomputable def TellX (F : Int → Str) (k : Nat) : Option (Addr × Addr × List Int × List Str) → Prop
  | none => ∀ q, F q = "U"
  | some (_, _, s, v) => RMok s v ∧ s.length ≤ k ∧ ∀ q, 0 ≤ q → q ≤ 1114111 → rmF s v q = F q
section
variable {p : DA} {g dg : Addr} {F : Int → Str} {o : Option (Addr × Addr × List Int × List Str)} {kk : Nat}
noncomputable def setF (F : Int → Str) (k : Int) (x : Str) : Int → Str := fun q => if q = k then x else F q
theorem f_putX {k : Int} {x : Str} (rm : Rm A (n + 5)) (t : TellX F kk o) (hkk : kk ≤ 5000) (h0 : 0 ≤ k) (h1 : k ≤ 1114111) :
    Cal c A (.ref 268) [.val (.ref p.x), .str "jt", .int k, .int k, .str x] (datX p g dg o) (fun d R' => d = .none ∧ ∃ o', TellX (setF F k x) (kk + 3) o' ∧ R' = datX p g dg o') NoX := by
  cases o with
  | none =>
    refine Cal.prm (Cal.fr (R0 := [dM p [("gc", .val (.ref g))], dF p, dI p, dA p]) (R1 := [rmI g dg, rmA dg "Cn" gcS gcV]) (f_data_put0 (name := "jt") (d := "U") (n := n + 1) rm h0 (Int.le_refl _) h1 rfl dflt_jt (by simp)) ?_ ?_)
    · exact .cons .head (.cons .head (.cons .head (.cons .head .nil)))
    · rintro d R' ⟨rfl, j, dj, rfl⟩
      have ok := rmPut_ok (value := x) (ok_new "U") h0 (Int.le_refl _) h1
      have hl := rmPut_length (s := [0]) (v := ["U"]) (Int.le_refl k) x
      refine prm (R2 := dat1 p g dg j dj (rmPut [0] ["U"] k k x).1 (rmPut [0] ["U"] k k x).2) ⟨rfl, some (j, dj, _, _), ⟨ok, by simp at hl ⊢; lia, fun q hq0 hq1 => ?_⟩, rfl⟩ ?_
      · rw [rmPut_val (ok_new "U") h0 (Int.le_refl _) h1 hq0 hq1, rmF0 "U" hq0]
        unfold setF
        by_cases e : q = k
        · rw [if_pos e, if_pos (by lia)]
        · rw [if_neg e, if_neg (by lia), t q]
      · exact .cons (.tail (.tail .head)) (.cons (.tail (.tail .head)) (.cons (.tail (.tail .head)) (.cons (.tail (.tail .head)) (.cons (.tail (.tail .head)) (.cons (.tail (.tail .head)) (.cons .head (.cons .head .nil)))))))
  | some z =>
    obtain ⟨j, dj, s, v⟩ := z
    obtain ⟨ok, hl, hv⟩ := t
    have ok2 := rmPut_ok (value := x) ok h0 (Int.le_refl _) h1
    have hl2 := rmPut_length (s := s) (v := v) (Int.le_refl k) x
    show Cal c A _ _ (dat1 p g dg j dj s v) _ _
    refine f_data_put (n := n + 2) (R1 := dat1 p g dg j dj (rmPut s v k k x).1 (rmPut s v k k x).2) rm h0 (Int.le_refl _) h1 (by lia) ok.len ok.le (count_pos ok (by lia)) (by walk_at "h") (by walk_at "h") (by walk_at "h") (x := j) (by rfl) (by walk_at "h") (by walk_at "u") ⟨rfl, some (j, dj, _, _), ⟨ok2, by lia, fun q hq0 hq1 => ?_⟩, rfl⟩
    rw [rmPut_val ok h0 (Int.le_refl _) h1 hq0 hq1]
    unfold setF
    by_cases e : q = k
    · rw [if_pos e, if_pos (by lia)]
    · rw [if_neg e, if_neg (by lia), hv q hq0 hq1]
theorem f_joinsX (rm : Rm A (n + 4)) (t : TellX F kk o) (hkk : kk ≤ 5000) : Cal c A (.ref 352) [.val (.ref p.x)] (datX p g dg o) (fun d R' => d = .lst ((joinCodes.map F).map .str) ∧ R' = datX p g dg o) NoX := by
  cases o with
  | none =>
    refine (f_joins0 rm).q ?_
    rintro d R' ⟨rfl, rfl⟩
    have : (joinCodes.map fun _ => ("U" : Str)) = joinCodes.map F := List.map_congr_left fun k _ => (t k).symm
    rw [this]
    exact ⟨rfl, rfl⟩
  | some z =>
    obtain ⟨j, dj, s, v⟩ := z
    obtain ⟨ok, hl, hv⟩ := t
    refine (f_joins1 rm ok (by lia)).q ?_
    rintro d R' ⟨rfl, rfl⟩
    have : joinCodes.map (rmF s v) = joinCodes.map F := List.map_congr_left fun k hk => hv k (joinCodes_ok k hk).1 (joinCodes_ok k hk).2
    rw [this]
    exact ⟨rfl, rfl⟩
theorem f_joinX (rm : Rm A (n + 6)) (t : TellX F kk o) (hkk : kk ≤ 5000) (hout : ∀ k, k ∉ codes → F k = "U") (htyp : ∀ k ∈ codes, F k ∈ joiningTypes) :
    Cal c A (.ref 181) [.val (.ref p.x)] (datX p g dg o) (fun d R' => d = .bytes (fileOf F) ∧ ∃ o', TellX F (kk + 1) o' ∧ R' = datX p g dg o') NoX := by
  cases o with
  | none =>
    refine (f_join0 rm).q ?_
    rintro d R' ⟨rfl, j, dj, rfl⟩
    refine ⟨by rw [fileOf_congr (G := F) fun k _ => (t k).symm], some (j, dj, _, _), ⟨ok_new "U", by simp, fun q h0 _ => by rw [rmF0 "U" h0, t q]⟩, rfl⟩
  | some z =>
    obtain ⟨j, dj, s, v⟩ := z
    obtain ⟨ok, hl, hv⟩ := t
    refine (f_join1 rm (F := F) ⟨ok, hv, hout, htyp⟩ (by lia)).q ?_
    rintro d R' ⟨rfl, j', dj', rfl⟩
    exact ⟨rfl, some (j', dj', _, _), ⟨ok, by lia, hv⟩, rfl⟩
end
end
section
variable {c : Cx} {A : Around} {env : Env} {L : Addr} {n : Nat} {R R0 R1 R2 : Led} {Q : D → Led → Prop} {X : Addr → D → Led → Prop}
theorem strOf_app (a b : List Nat) : strOf a ++ strOf b = strOf (a ++ b) := by
  show (⟨a.toArray ++ b.toArray⟩ : Str) = ⟨(a ++ b).toArray⟩
  congr 1; simp
theorem strOf_len (a : List Nat) : (strOf a).length = a.length := by simp [strOf, Str.length]
noncomputable def rowsN (F : Int → Str) (cs : List Int) : List Nat := (cs.filter (keepF F)).flatMap (rowB F)
theorem rowsN_codes (F : Int → Str) : rowsN F codes = fileOf F := by unfold rowsN fileOf ksOf; rw [List.flatMap_def]
theorem rowB_len {F : Int → Str} {k : Int} (h : F k ∈ joiningTypes) : (rowB F k).length ≤ 200 := by
  have h2 := jt_ascii _ h
  have h3 := hexB_len k.toNat
  unfold rowB
  rw [List.length_append, joinB_length]
  have : noJG.length = 16 := rfl
  have := h2.1
  simp; lia
theorem rowsN_len {F : Int → Str} : ∀ {cs : List Int}, (∀ k ∈ cs, F k ∈ joiningTypes) → (rowsN F cs).length ≤ 200 * cs.length
  | [], _ => Nat.le_refl _
  | k :: r, h => by
    have ih := rowsN_len (cs := r) fun q hq => h q (.tail _ hq)
    have h1 := rowB_len (h k (.head _))
    unfold rowsN at ih ⊢
    rw [List.filter_cons]
    split
    · rw [List.flatMap_cons, List.length_append, List.length_cons]; lia
    · rw [List.length_cons]; lia
theorem rowsN_congr {F G : Int → Str} {cs : List Int} (h : ∀ k ∈ cs, F k = G k) : rowsN F cs = rowsN G cs := by
  unfold rowsN
  have e : cs.filter (keepF F) = cs.filter (keepF G) := List.filter_congr fun k hk => by unfold keepF; rw [h k hk]
  rw [e, List.flatMap_def, List.flatMap_def]
  congr 1
  refine List.map_congr_left fun k hk => ?_
  unfold rowB
  rw [h k (List.mem_filter.mp hk).1]
theorem rowsN_succ (F : Int → Str) (cs : List Int) (k : Int) : rowsN F (cs ++ [k]) = rowsN F cs ++ (if keepF F k = true then rowB F k else []) := by
  unfold rowsN
  rw [List.filter_append, List.flatMap_append]
  congr 1
  rw [List.filter_cons]
  split <;> simp
noncomputable def midU : List Nat := [59, 32, 45, 59, 32]
noncomputable def endU : List Nat := [59, 32] ++ noJG ++ [10]
theorem mid_is : ("; -; " : Str) = strOf midU := by decide +kernel
theorem end_is : ("; No_Joining_Group\n" : Str) = strOf endU := by decide +kernel
theorem both_is : ("; -; U; No_Joining_Group\n" : Str) = strOf (midU ++ [85] ++ endU) := by decide +kernel
theorem rowB_is (F : Int → Str) (k : Int) : rowB F k = hexB k.toNat ++ midU ++ (F k).cps.toList ++ endU := by
  unfold rowB midU endU
  show (hexB k.toNat ++ [59, 32] ++ ([45] ++ [59, 32] ++ ((F k).cps.toList ++ [59, 32] ++ noJG))) ++ [10] = _
  simp only [List.append_assoc, List.cons_append, List.nil_append]
theorem sx_swap3 {elts k tpos value pos} {ns : List Str} {gl : List (Str × D)} {sc : Scope} {Q : Fl → Led → Prop} (x y z : Str) (fe : FE env L ns gl) (fn : FN env L sc) (rm : Rm A n)
    (h : Ev c A env value R (fun d R1 => ∃ d1 d2 d3, d = .tup [d1, d2, d3] ∧ Sto L ns z d3 R1 (fun R2 => Sto L ns y d2 R2 (fun R3 => Sto L ns x d1 R3 (Q .next)))) X)
    (hs : ∀ env, swapsWithSole [.Tuple elts k tpos] value pos.line env = pure false)
    (hw : ∀ (qual : Str) (f : Addr) (cd : Value) (cs : List (Str × Addr)), swappedStores [.Tuple elts k tpos] value { envOf qual sc L f cd with cells := cs } = pure (some [x, y, z])) : Sx c A env (.Assign [.Tuple elts k tpos] value pos) R Q X :=
  sx_swapped (names := [x, y, z]) fe fn rm.handled (h.mono fun d R1 ⟨d1, d2, d3, e, h1⟩ => ⟨[d1, d2, d3], e, rfl, h1⟩) hs hw
theorem Drops.trans {S T U : Led} (d : Drops S T) : Drops T U → Drops S U := by
  intro e
  induction d generalizing U with
  | nil => exact e
  | drop h _ ih => exact .drop h (ih e)
  | @keep x R R' d ih =>
    cases e with
    | nil => exact .keep (ih .nil)
    | keep e => exact .keep (ih e)
    | drop h e => exact .drop h (ih e)
theorem drops_dat (p : DA) (g dg : Addr) (o : Option (Addr × Addr × List Int × List Str)) (R : Led) : Drops (datX p g dg o ++ R) R := by
  cases o with
  | none => exact .drop rfl (.drop rfl (.drop rfl (.drop rfl (.drop rfl (.drop rfl .nil)))))
  | some q => exact .drop rfl (.drop rfl (.drop rfl (.drop rfl (.drop rfl (.drop rfl (.drop rfl (.drop rfl .nil)))))))
theorem f_law_dataX (rm : Rm A (n + 5)) : Cal c A (.ref 335) [] [] (fun d R' => ∃ p g dg, d = .val (.ref p.x) ∧ R' = datX p g dg none) NoX := f_law_data rm
noncomputable def menuW : List Str := ["R", "L", "D", "C", "U", "T", "", ""]
theorem typ_or {x : Str} (h : x ∈ menuW) : x = "" ∨ x ∈ joiningTypes := by
  have : ∀ x ∈ menuW, x = "" ∨ x ∈ joiningTypes := by decide +kernel
  exact this x h
theorem sx_cutE {st : Stmt} {Q : Fl → Led → Prop} {P : Led → Prop} (h : Sx c A env st R (fun fl R' => fl = .next ∧ P R') NoX) (k : ∀ R', P R' → Q .next R') : Sx c A env st R Q X :=
  ⟨fun I H s hs => wpAny_mono (h.run I H s hs) (fun _ _ z => z.mono fun b R' ⟨e1, e2⟩ => by subst e1; exact k R' e2) fun _ _ z => z.no⟩
set_option tactic.hygienic true in
theorem setF_U {F : Int → Str} {k : Int} (h : F k = "U") : setF F k "U" = F := by
  funext q
  unfold setF
  split
  · rename_i e; rw [e, h]
  · rfl
theorem U_not_nil : ¬ (("U" : Str) = "") := by decide +kernel
theorem jt_not_nil {x : Str} (h : x ∈ joiningTypes) : ¬ x = "" := by
  have : ∀ x ∈ joiningTypes, ¬ x = "" := by decide +kernel
  exact this x h
theorem keepF_U {F : Int → Str} {k : Int} (h : F k = "U") : keepF F k = passed k := by unfold keepF; rw [h]; simp
theorem keepF_n {F : Int → Str} {k : Int} (h : ¬ F k = "U") : keepF F k = true := by unfold keepF; simp [h]
theorem codes_take_not {i : Nat} {k : Int} (h : codes[i]? = some k) : k ∉ codes.take i := fun hk => by
  obtain ⟨lt, e⟩ := List.getElem?_eq_some_iff.mp h
  obtain ⟨j, hj, e2⟩ := List.mem_iff_getElem.mp hk
  rw [List.length_take] at hj
  rw [List.getElem_take] at e2
  have := (List.pairwise_iff_getElem.mp codes_sorted) j i (by lia) lt (by lia)
  lia
theorem codes_len : codes.length = 15 := by decide +kernel
/-- the deck: k draws are left in the reckoning -/
structure Deck (k : Nat) (m t : Int) (cs : List Int) : Prop where
  m0 : 0 ≤ m
  m1 : m < 2147483587
  t0 : 0 ≤ t
  t1 : t + k ≤ 100000
  len : cs.length ≤ 500
theorem Deck.less {a b : Nat} {m t : Int} {cs : List Int} (h : Deck a m t cs) (hb : b ≤ a) : Deck b m t cs := ⟨h.m0, h.m1, h.t0, by have := h.t1; lia, h.len⟩
theorem Deck.next {k : Nat} {m t : Int} {cs cs' : List Int} (h : Deck (k + 1) m t cs) (hl : cs'.length ≤ cs.length) : Deck k m (t + 1) cs' := ⟨h.m0, h.m1, by have := h.t0; lia, by have := h.t1; lia, Nat.le_trans hl h.len⟩
theorem f_pickD {dk cl : Addr} {m t : Int} {cells : List Int} {ds : List D} {k : Nat} (rm : Rm A (n + 2)) (h : Deck (k + 1) m t cells) (hb : 0 < ds.length) (hb2 : ds.length ≤ 1000) :
    Cal c A (.ref 308) [.val (.ref dk), .lst ds] [(dk, deckD cl m t), (cl, .list (cells.map .int))] (fun d R' => ∃ (cs : List Int), d ∈ ds ∧ Deck k m (t + 1) cs ∧ R' = [(dk, deckD cl m (t + 1)), (cl, .list (cs.map D.int))]) NoX :=
  (f_pick rm hb hb2 h.m0 h.m1 h.t0 (by have := h.t1; lia) (Nat.le_trans h.len (by decide))).q fun _ _ ⟨cs, a, b, e⟩ => ⟨cs, a, h.next b, e⟩
theorem f_drawD {dk cl : Addr} {m t below : Int} {cells : List Int} {k : Nat} (rm : Rm A (n + 1)) (h : Deck (k + 1) m t cells) (hb : 0 < below) (hb2 : below < 4294967296) :
    Cal c A (.ref 301) [.val (.ref dk), .int below] [(dk, deckD cl m t), (cl, .list (cells.map .int))] (fun d R' => ∃ (v : Int) (cs : List Int), d = .int v ∧ 0 ≤ v ∧ v < below ∧ Deck k m (t + 1) cs ∧ R' = [(dk, deckD cl m (t + 1)), (cl, .list (cs.map D.int))]) NoX :=
  (f_draw rm hb hb2 h.m0 h.m1 h.t0 (by have := h.t1; lia) (Nat.le_trans h.len (by decide))).q fun _ _ ⟨v, cs, a, b, d, e, f⟩ => ⟨v, cs, a, b, d, h.next e, f⟩
set_option tactic.hygienic true in
theorem f_written {dk cl : Addr} {m t : Int} {cells : List Int} {kd : Nat} (rm : Rm A (n + 9)) (hdk : Deck (kd + 15) m t cells) :
    Cal c A (.ref 359) [.val (.ref dk)] [(dk, deckD cl m t), (cl, .list (cells.map .int))] (fun d R' => d = .bool true ∧ ∃ (t' : Int) (cs : List Int), Deck kd m t' cs ∧ R' = [(dk, deckD cl m t'), (cl, .list (cs.map D.int))]) NoX := by
  refine Cal.gen fun Q hQ => ?_
  refine CalC.cal (call_law_written_right rm fun env A' L fe fn rm' hfr => ?_)
  conv => arg 4; whnf
  walk_at "go"
  refine sx_swap2 "data" "rows" fe fn rm' ?_ (by intro _; rfl) (by intro _ _ _ _; rfl)
  walk_at "go"
  refine Cal.tl (M := []) [_, _, _] (f_law_dataX (n := n + 3) rm') fun G hG => ?_
  rintro d R' ⟨p, g, dg, rfl, rfl⟩
  refine hG _ _ ?_
  clear hG
  simp only [List.cons_append, List.nil_append]
  walk_at "go"
  refine ⟨by simp, _, _, rfl, ?_⟩
  walk_at "go"
  refine Sx.gq fun Q2 hQ2 => ?_
  refine opq (fun (i : Nat) (R' : Led) => ∃ (F : Int → Str) (t' : Int) (cs : List Int) (o : Option (Addr × Addr × List Int × List Str)) (v1 v2 : Option D), Deck (kd + (15 - i)) m t' cs ∧ (∀ k, k ∉ codes.take i → F k = "U") ∧ (∀ k ∈ codes.take i, F k ∈ joiningTypes) ∧ TellX F (3 * i) o ∧
    R' = (L, .loc ["deck", "data", "rows", "code", "sort", "was", "told", "other"] [some (.val (.ref dk)), some (.val (.ref p.x)), some (.str (strOf (rowsN F (codes.take i)))), v1, v2, none, none, none]) :: (dk, deckD cl m t') :: (cl, .list (cs.map .int)) :: datX p g dg o) fun J hJ => ?_
  refine sx_for fn hfr rm'.handled ?_ (by intro _ _; rfl)
  walk_at "go"
  refine f_codes rm' ?_
  refine ⟨_, .lst, J, (hJ _ _).mpr ⟨fun _ => "U", t, cells, none, _, _, hdk, fun _ _ => rfl, fun k hk => (nomatch hk), fun _ => rfl, rfl⟩, ?_, ?_⟩
  · intro i y R' hi hj
    apply gR (R' := R'); intro G hG
    obtain ⟨F, t', cs, o, v1, v2, hdj, h3, h4, h5, rfl⟩ := (hJ _ _).mp hj
    refine hG _ ?_
    clear hG
    clear hj
    rw [List.getElem?_map, Option.map_eq_some_iff] at hi
    obtain ⟨k, hi, rfl⟩ := hi
    have hk := codes_ok k (List.mem_of_getElem? hi)
    have hil := (List.getElem?_eq_some_iff.mp hi).1
    rw [codes_len] at hil
    have hkn := codes_take_not hi
    have htk : codes.take (i + 1) = codes.take i ++ [k] := by rw [List.take_add_one, hi]; rfl
    have hFk := h3 k hkn
    have hrl := rowsN_len h4
    rw [List.length_take, codes_len] at hrl
    obtain ⟨mm, rfl⟩ := Int.eq_ofNat_of_zero_le hk.1
    walk_at "go"
    refine ⟨by simp, newl_f ?_⟩
    refine bi_addL (xs := joiningTypes.map .str) (ys := [.str "", .str ""]) lv_f lv_f (by rw [sizeLine_is]; decide) (newl_f ?_)
    walk_at "go"
    refine Cal.mid [_] _ (f_pickD (ds := menuW.map .str) (k := kd + (15 - (i + 1))) (n := n + 6) rm' (hdj.less (by lia)) (by decide) (by decide)) fun G hG => ?_
    rintro d R' ⟨cs', hd, hdj', rfl⟩
    obtain ⟨x, hx, rfl⟩ := List.mem_map.mp hd
    refine hG _ _ ?_
    clear hG
    simp only [List.cons_append, List.nil_append]
    walk_at "go"
    have hxt := typ_or hx
    have hx' : (if x = "" then ("U" : Str) else x) ∈ joiningTypes := by
      split
      · exact U_type
      · rename_i hne; exact hxt.resolve_left hne
    generalize hxd : (if x = "" then ("U" : Str) else x) = x' at hx'
    refine sx_cutE (P := fun R' => ∃ o', TellX (setF F (mm : Int) x') (3 * i + 3) o' ∧ R' = (L, .loc ["deck", "data", "rows", "code", "sort", "was", "told", "other"] [some (.val (.ref dk)), some (.val (.ref p.x)), some (.str (strOf (rowsN F (codes.take i)))), some (.int (mm : Int)), some (.str x), none, none, none]) :: (dk, deckD cl m (t' + 1)) :: (cl, .list (cs'.map .int)) :: datX p g dg o') ?_ ?_
    · walk_at "if"
      walk_at "go"
      refine ⟨fun hb => ?_, fun hb => ?_⟩
      · have hne : ¬ x = "" := by simpa using hb
        rw [if_neg hne] at hxd
        subst hxd
        walk_at "go"
        refine methd (gm_data_put (.tail (.tail (.tail (datX_i p g dg o)))) (.tail (.tail (.tail (datX_a p g dg o)))) (by decide)) (by walk_at "cab") ?_
        walk_at "go"
        refine Cal.tl [_, _, _] (f_putX (n := n + 3) rm' h5 (by lia) hk.1 hk.2) fun G hG => ?_
        rintro d R' ⟨rfl, o', h6, rfl⟩
        refine hG _ _ ?_
        clear hG
        simp only [List.cons_append, List.nil_append]
        walk_at "go"
        exact ⟨rfl, o', h6, rfl⟩
      · have he : x = "" := by simpa using hb
        rw [if_pos he] at hxd
        subst hxd
        walk_at "go"
        refine ⟨rfl, o, ?_, rfl⟩
        rw [setF_U hFk]
        cases o with
        | none => exact h5
        | some z => exact ⟨h5.1, by have := h5.2.1; lia, h5.2.2⟩
    intro R' hp
    apply gR (R' := R'); intro G hG
    obtain ⟨o', h6, rfl⟩ := hp
    refine hG _ ?_
    clear hG
    have er : rowsN (setF F (mm : Int) x') (codes.take (i + 1)) = rowsN F (codes.take i) ++ (if keepF (setF F (mm : Int) x') (mm : Int) = true then rowB (setF F (mm : Int) x') (mm : Int) else []) := by
      rw [htk, rowsN_succ]
      congr 1
      refine rowsN_congr fun q hq => ?_
      have hne : ¬ q = (mm : Int) := fun e => hkn (e ▸ hq)
      unfold setF
      rw [if_neg hne]
    have hat : setF F (mm : Int) x' (mm : Int) = x' := if_pos rfl
    have hnext : ∀ (rs : List Nat), rs = rowsN (setF F (mm : Int) x') (codes.take (i + 1)) → ∀ xs : Str, J (i + 1) (
        (L, Sh.loc ["deck", "data", "rows", "code", "sort", "was", "told", "other"] [some (.val (.ref dk)), some (.val (.ref p.x)), some (.str (strOf rs)), some (.int (mm : Int)), some (.str xs), none, none, none]) :: (dk, deckD cl m (t' + 1)) :: (cl, .list (cs'.map .int)) :: datX p g dg o') := fun rs hrs xs => by
      refine (hJ _ _).mpr ⟨setF F (mm : Int) x', t' + 1, cs', o', _, _, hdj', fun q hq => ?_, fun q hq => ?_, h6, by rw [hrs]⟩
      · rw [htk, List.mem_append, not_or] at hq
        unfold setF
        rw [if_neg fun e => hq.2 (by rw [e]; exact .head _)]
        exact h3 q hq.1
      · rw [htk] at hq
        unfold setF
        split
        · exact hx'
        · rename_i hne
          rcases List.mem_append.mp hq with hq | hq
          · exact h4 q hq
          · exact absurd (List.mem_singleton.mp hq) hne
    have hhx := hexB_len mm
    have hml : midU.length = 5 := rfl
    have hel : endU.length = 19 := rfl
    walk_at "go"
    walk_at "if"
    walk_at "go"
    refine ⟨by simp, ?_⟩
    refine cm_inT (ys := ["", "U"]) ?_
    walk_at "go"
    refine ⟨fun hb => ?_, fun hb => ?_⟩
    · have hU : x' = "U" := by
        rw [← hxd]
        split
        · rfl
        · rename_i hne
          rw [List.contains_iff_mem] at hb
          simp at hb
          exact hb.resolve_left hne
      subst hU
      rw [keepF_U hat] at er
      walk_at "go"
      walk_at "ife"
      walk_at "go"
      refine f_is_passed rm' ?_
      walk_at "go"
      refine ⟨fun hp => ?_, fun hp => ?_⟩
      · rw [if_pos hp, rowB_is, hat] at er
        walk_at "go"
        refine f_hex (code := mm) rm' (by lia) ?_
        walk_at "go"
        rw [both_is]
        refine bi_addS (by rw [strOf_len, strOf_len, sizeLine_is]; simp only [List.length_append, List.length_singleton]; lia) ?_
        rw [strOf_app]
        refine bi_addS (by rw [strOf_len, strOf_len, sizeLine_is]; simp only [List.length_append, List.length_singleton]; lia) ?_
        rw [strOf_app]
        walk_at "go"
        refine hnext _ ?_ x
        rw [er]
        show _ = _ ++ (hexB mm ++ midU ++ [85] ++ endU)
        simp only [List.append_assoc]
      · rw [if_neg (by rw [hp]; simp), List.append_nil] at er
        walk_at "go"
        refine bi_addS (by rw [strOf_len, sizeLine_is, show ("" : Str).length = 0 from rfl]; lia) ?_
        walk_at "go"
        rw [show strOf (rowsN F (codes.take i)) ++ ("" : Str) = strOf (rowsN F (codes.take i)) from strOf_app _ [] |>.trans (by rw [List.append_nil])]
        exact hnext _ er.symm x
    · have hne : ¬ x = "" ∧ ¬ x = "U" := by
        have : x ∉ (["", "U"] : List Str) := fun h => by rw [List.contains_iff_mem.mpr h] at hb; cases hb
        simpa using this
      rw [if_neg hne.1] at hxd
      subst hxd
      rw [keepF_n (by rw [hat]; exact hne.2), if_pos rfl, rowB_is, hat] at er
      have hxl := (jt_ascii x hx').1
      have hxs : x = strOf x.cps.toList := by cases x; simp [strOf]
      walk_at "go"
      refine f_hex (code := mm) rm' (by lia) ?_
      refine bi_addS (by rw [strOf_len, strOf_len, sizeLine_is]; lia) ?_
      rw [strOf_app, mid_is]
      walk_at "go"
      refine bi_addS (by rw [strOf_len, strOf_len, sizeLine_is]; simp only [List.length_append]; lia) ?_
      rw [strOf_app]
      walk_at "go"
      refine bi_addS (by rw [strOf_len, sizeLine_is]; show _ + x.cps.size ≤ _; simp only [List.length_append]; lia) ?_
      have ex : ∀ l : List Nat, strOf l ++ x = strOf (l ++ x.cps.toList) := fun l => by rw [← strOf_app, ← hxs]
      rw [ex, end_is]
      walk_at "go"
      refine bi_addS (by rw [strOf_len, strOf_len, sizeLine_is]; simp only [List.length_append, Array.length_toList]; lia) ?_
      rw [strOf_app]
      walk_at "go"
      refine hnext _ ?_ x
      rw [er]
      show _ = _ ++ (hexB mm ++ midU ++ x.cps.toList ++ endU)
      simp only [List.append_assoc]
  · intro R' hj
    apply gR (R' := R'); intro G hG
    obtain ⟨F, t', cs, o, v1, v2, hdj, h3, h4, h5, rfl⟩ := (hJ _ _).mp hj
    refine hG _ ?_
    clear hG
    clear hj hJ
    rw [List.length_map] at hdj h3 h4 h5
    rw [List.length_map, List.take_length, rowsN_codes]
    rw [List.take_length] at h3 h4
    rw [codes_len] at hdj h5
    have ok := fileOf_ok h4
    refine hQ2 _ _ ?_
    walk_at "go"
    refine sx_swap3 "was" "told" "other" fe fn rm' ?_ (by intro _; rfl) (by intro _ _ _ _; rfl)
    walk_at "go"
    refine Cal.tl [_, _, _] (f_joinsX (n := n + 4) rm' h5 (by lia)) fun G hG => ?_
    rintro d R' ⟨rfl, rfl⟩
    refine hG _ _ ?_
    clear hG
    simp only [List.cons_append, List.nil_append]
    walk_at "go"
    refine Cal.tl [_, _, _] (f_joinX (n := n + 2) rm' h5 (by lia) h3 h4) fun G hG => ?_
    rintro d R' ⟨rfl, o', h6, rfl⟩
    refine hG _ _ ?_
    clear hG
    simp only [List.cons_append, List.nil_append]
    walk_at "go"
    refine ca_bytesB ?_
    walk_at "go"
    refine Cal.mid (M := []) [_, _, _] _ (f_law_dataX (n := n + 3) rm') fun G hG => ?_
    rintro d R' ⟨p2, g2, dg2, rfl, rfl⟩
    refine hG _ _ ?_
    clear hG
    simp only [List.cons_append, List.nil_append]
    walk_at "go"
    refine ⟨by simp, _, _, _, rfl, ?_⟩
    walk_at "go"
    walk_at "if"
    walk_at "bo"
    walk_at "go"
    refine f_octets rm' (by show (fileOf F).toArray.size ≤ _; simp; lia) ?_ ?_
    · intro k hk
      have : k ∈ fileOf F := by simpa [strOf] using hk
      have := ok.1 k this
      lia
    rw [show (strOf (fileOf F)).cps.toList = fileOf F by simp [strOf]]
    refine cm_neBy ?_
    walk_at "go"
    refine ⟨fun hb => by simp at hb, fun _ => ?_⟩
    walk_at "bo"
    walk_at "go"
    refine Cal.tl ((L, _) :: (dk, _) :: (cl, _) :: datX p2 g2 dg2 none) (f_joinsX (n := n + 4) rm' h6 (by lia)) fun G hG => ?_
    rintro d R' ⟨rfl, rfl⟩
    refine hG _ _ ?_
    clear hG
    simp only [List.cons_append, List.nil_append]
    walk_at "go"
    refine cm_neSL rm' lv_f (by walk_at "lv") ?_
    walk_at "go"
    refine ⟨fun hb => by simp at hb, fun _ => ?_⟩
    walk_at "go"
    refine Cal.mid [_, _, _] (datX p g dg o') (f_read_ok (n := n + 1) rm' (fileOf_read h4) ⟨ok.1, by lia, ok.2.2⟩) fun G hG => ?_
    rintro d R' ⟨rfl, j3, dj3, rfl⟩
    refine hG _ _ ?_
    clear hG
    simp only [List.cons_append, List.nil_append]
    have again := tells_again h3 h4
    have h7 : TellX F 1000 (some (j3, dj3, (putM (putsOf ((ksOf F).map fun k => (k, F k)))).1, (putM (putsOf ((ksOf F).map fun k => (k, F k)))).2)) := ⟨again.1.ok, again.2, again.1.val⟩
    walk_at "go"
    refine Cal.mid (M := datX p2 g2 dg2 (some _)) [_, _, _] (datX p g dg o') (f_joinsX (n := n + 4) rm' h7 (by lia)) fun G hG => ?_
    rintro d R' ⟨rfl, rfl⟩
    refine hG _ _ ?_
    clear hG
    simp only [List.cons_append, List.nil_append]
    walk_at "go"
    refine cm_eqSL rm' lv_f (by walk_at "lv") ?_
    walk_at "go"
    refine ⟨fun _ => ?_, fun hb => by simp at hb⟩
    walk_at "go"
    refine Cal.mid (M := datX p2 g2 dg2 (some _)) [_, _, _] (datX p g dg o') (f_joinX (n := n + 2) rm' h7 (by lia) h3 h4) fun G hG => ?_
    rintro d R' ⟨rfl, o3, h8, rfl⟩
    refine hG _ _ ?_
    clear hG
    simp only [List.cons_append, List.nil_append]
    walk_at "go"
    refine ca_bytesB ?_
    walk_at "go"
    refine back_ret (R1 := [(dk, deckD cl m t'), (cl, .list (cs.map .int))]) (hQ _ _ ⟨by simp, t', cs, hdj, rfl⟩) (by walk_at "r") ?_
    refine .keep (.keep ?_)
    have e1 := drops_dat p2 g2 dg2 o3 (datX p g dg o')
    have e2 := drops_dat p g dg o' []
    rw [List.append_nil] at e2
    exact e1.trans e2
end
section
variable {c : Cx} {A : Around} {env : Env} {L : Addr} {n : Nat} {R R0 R1 R2 : Led} {Q : D → Led → Prop} {X : Addr → D → Led → Prop}
theorem pick_of {ds : List D} {ls : List (List Nat)} (e : ds = (ls.map strOf).map .str) {d : D} (h : d ∈ ds) : ∃ l ∈ ls, d = .str (strOf l) := by
  subst e
  obtain ⟨x, hx, rfl⟩ := List.mem_map.mp h
  obtain ⟨l, hl, rfl⟩ := List.mem_map.mp hx
  exact ⟨l, hl, rfl⟩
theorem gaps_is : ([("" : Str), " ", "\t"]) = gaps.map strOf := by decide +kernel
theorem ends_is : ([("" : Str), " # X; Y", ";", "\r", " ;"]) = ends.map strOf := by decide +kernel
theorem nms_is : ([("BEH" : Str), "-", "", "ALEF WITH MARK"]) = nms.map strOf := by decide +kernel
theorem grps_is : ([("BEH" : Str), "No_Joining_Group", "x"]) = grps.map strOf := by decide +kernel
theorem bads_is : ([("0061; A; D" : Str), "0061; A; D; B; C", "61; A; D; B", "110000; A; D; B", "0061..0062; A; D; B", "006G; A; D; B", "0061; A; X; B", "0061; A; d; B", "0061; A; ; B", "D", "0061; A; D; B; ;"]) = bads.map strOf := by decide +kernel
theorem bares_strs : ([("" : Str), "# 0061; A; D; B", "  \t"]) = bares.map strOf := by decide +kernel
theorem twice_is : ("; A; R; B" : Str) = strOf (strN "; A; R; B") := by decide +kernel
theorem glued_strOf (sep : List Nat) (ls : List (List Nat)) : gluedS (strOf sep) (ls.map strOf) = strOf (joinB sep ls) := by
  unfold gluedS strOf
  rw [List.map_map]
  congr 3
  exact List.map_id'' (fun l => rfl) ls
theorem semi_is : (";" : Str) = strOf [59] := by decide +kernel
theorem nl_is : ("\n" : Str) = strOf [10] := by decide +kernel
theorem allCodes_ok : (allCodes.all fun k => decide (0 ≤ k) && decide (k ≤ 1114111)) = true := by decide +kernel
theorem allC {k : Int} (h : k ∈ allCodes) : 0 ≤ k ∧ k ≤ 1114111 := by
  have := List.all_eq_true.mp allCodes_ok k h
  simpa using this
theorem gap_len {g : List Nat} (h : g ∈ gaps) : g.length ≤ 1 := by
  have := List.all_eq_true.mp gapC g h
  simp only [Bool.and_eq_true, decide_eq_true_eq] at this
  exact this.2
theorem nm_len {g : List Nat} (h : g ∈ nms) : g.length ≤ 20 := by
  have := List.all_eq_true.mp nmC g h
  simp only [Bool.and_eq_true, decide_eq_true_eq] at this
  exact this.2
theorem grp_len {g : List Nat} (h : g ∈ grps) : g.length ≤ 20 := by
  have := List.all_eq_true.mp grpC g h
  simp only [Bool.and_eq_true, decide_eq_true_eq] at this
  exact this.2
theorem end_len {g : List Nat} (h : g ∈ ends) : g.length ≤ 7 := by
  have := List.all_eq_true.mp endC g h
  simp only [Bool.and_eq_true, decide_eq_true_eq] at this
  exact this.1.2
theorem strOf_self (x : Str) : strOf x.cps.toList = x := by cases x; simp [strOf]
theorem f_line {dk cl : Addr} {m t k : Int} {x : Str} {cells : List Int} {kd : Nat} (rm : Rm A (n + 3)) (hk : k ∈ allCodes) (hx : x ∈ joiningTypes) (hdk : Deck (kd + 4) m t cells) :
    Cal c A (.ref 366) [.val (.ref dk), .int k, .str x] [(dk, deckD cl m t), (cl, .list (cells.map .int))] (fun d R' => ∃ (l : List Nat) (t' : Int) (cs : List Int), LineIs l (some (k, x)) ∧ d = .str (strOf l) ∧ Deck kd m t' cs ∧ R' = [(dk, deckD cl m t'), (cl, .list (cs.map D.int))]) NoX := by
  refine Cal.gen fun Q hQ => ?_
  refine CalC.cal (call_law_line rm fun env A' L fe fn rm' hfr => ?_)
  conv => arg 4; whnf
  have hkk := allC hk
  obtain ⟨mm, rfl⟩ := Int.eq_ofNat_of_zero_le hkk.1
  walk_at "go"
  refine sx_swap2 "gap" "end" fe fn rm' ?_ (by intro _; rfl) (by intro _ _ _ _; rfl)
  walk_at "go"
  refine ⟨by simp, newl_f ?_⟩
  walk_at "go"
  refine Cal.tl [_] (f_pickD (n := n) rm' hdk (by simp) (by simp)) fun G hG => ?_
  rintro d R' ⟨c1, hd, hc1, rfl⟩
  obtain ⟨gap, hgap, rfl⟩ := pick_of (ls := gaps) (by rw [← gaps_is]; rfl) hd
  refine hG _ _ ?_
  clear hG
  simp only [List.cons_append, List.nil_append]
  walk_at "go"
  refine ⟨by simp, newl_f ?_⟩
  walk_at "go"
  refine Cal.tl [_] (f_pickD (n := n) rm' hc1 (by simp) (by simp)) fun G hG => ?_
  rintro d R' ⟨c2, hd, hc2, rfl⟩
  obtain ⟨en, hen, rfl⟩ := pick_of (ls := ends) (by rw [← ends_is]; rfl) hd
  refine hG _ _ ?_
  clear hG
  simp only [List.cons_append, List.nil_append]
  walk_at "go"
  refine ⟨by simp, _, _, rfl, ?_⟩
  walk_at "go"
  refine f_hex (code := mm) rm' (by lia) ?_
  walk_at "go"
  refine ⟨by simp, newl_f ?_⟩
  walk_at "go"
  refine Cal.tl [_] (f_pickD (n := n) rm' hc2 (by simp) (by simp)) fun G hG => ?_
  rintro d R' ⟨c3, hd, hc3, rfl⟩
  obtain ⟨nm, hnm, rfl⟩ := pick_of (ls := nms) (by rw [← nms_is]; rfl) hd
  refine hG _ _ ?_
  clear hG
  simp only [List.cons_append, List.nil_append]
  walk_at "go"
  refine ⟨by simp, newl_o fun fa => ?_⟩
  walk_at "go"
  refine ⟨by simp, newl_f ?_⟩
  walk_at "go"
  refine Cal.tl [_, _] (f_pickD (n := n) rm' hc3 (by simp) (by simp)) fun G hG => ?_
  rintro d R' ⟨c4, hd, hc4, rfl⟩
  obtain ⟨grp, hgrp, rfl⟩ := pick_of (ls := grps) (by rw [← grps_is]; rfl) hd
  refine hG _ _ ?_
  clear hG
  simp only [List.cons_append, List.nil_append]
  walk_at "go"
  refine ca_append (by walk_at "u") (by rw [sizeLine_is]; simp) ?_
  walk_at "go"
  have l1 := gap_len hgap
  have l2 := nm_len hnm
  have l3 := grp_len hgrp
  have l4 := end_len hen
  have l5 := hexB_len mm
  have l6 := (jt_ascii x hx).1
  rw [semi_is]
  refine bi_addS (by rw [strOf_len, strOf_len, sizeLine_is]; simp; lia) ?_
  rw [strOf_app]
  walk_at "go"
  refine bi_addS (by rw [strOf_len, strOf_len, sizeLine_is]; simp; lia) ?_
  rw [strOf_app]
  walk_at "go"
  have e0 : (([D.str (strOf (hexB mm)), .str (strOf nm), .str x] : List D) ++ [.str (strOf grp)]) = (([hexB mm, nm, x.cps.toList, grp].map strOf).map .str) := by simp [strOf_self]
  have l7 : x.cps.toList.length ≤ 100 := by simp; lia
  rw [e0]
  refine ca_joinS (lv_o (by walk_at "h")) (by simp [strOf_len]; lia) ?_
  rw [glued_strOf]
  walk_at "go"
  refine bi_addS (by rw [strOf_len, strOf_len, sizeLine_is, joinB_length]; simp; lia) ?_
  rw [strOf_app]
  walk_at "go"
  exact back_ret (R1 := [(dk, deckD cl m (t + 1 + 1 + 1 + 1)), (cl, .list (c4.map .int))]) (hQ _ _ ⟨_, _, c4, lineL_is hk hx hgap hnm hgrp hen, rfl, hc4, rfl⟩) (by walk_at "r") (by walk_at "d")
theorem f_spoilt {dk cl : Addr} {m t : Int} {used cells : List Int} (rm : Rm A (n + 3)) (hu : ∀ k ∈ used, k ∈ allCodes) (hul : used.length ≤ 500) (hdk : Deck 2 m t cells) :
    Cal c A (.ref 373) [.val (.ref dk), .lst (used.map .int)] [(dk, deckD cl m t), (cl, .list (cells.map .int))] (fun d R' => ∃ (l : List Nat) (t' : Int) (cs : List Int), ((∃ k ∈ used, l = twice k) ∨ l ∈ bads) ∧ d = .str (strOf l) ∧ R' = [(dk, deckD cl m t'), (cl, .list (cs.map D.int))]) NoX := by
  refine Cal.gen fun Q hQ => ?_
  refine CalC.cal (call_law_spoilt rm fun env A' L fe fn rm' hfr => ?_)
  conv => arg 4; whnf
  walk_at "go"
  refine ⟨by simp, newl_f ?_⟩
  walk_at "go"
  have ebads : ([D.str "0061; A; D", .str "0061; A; D; B; C", .str "61; A; D; B", .str "110000; A; D; B", .str "0061..0062; A; D; B", .str "006G; A; D; B", .str "0061; A; X; B", .str "0061; A; d; B", .str "0061; A; ; B", .str "D", .str "0061; A; D; B; ;"] : List D) = (bads.map strOf).map .str := by rw [← bads_is]; rfl
  rw [ebads]
  walk_at "if"
  have fin : ∀ (A'' : Around) (t' : Int) (cs : List Int), Rm A'' (n + 2) → Deck 1 m t' cs → Cal c A'' (.ref 308) [.val (.ref dk), .lst ((bads.map strOf).map .str)] [(dk, deckD cl m t'), (cl, .list (cs.map .int))] (fun d R' => ∃ (l : List Nat) (cs' : List Int), l ∈ bads ∧ d = .str (strOf l) ∧ R' = [(dk, deckD cl m (t' + 1)), (cl, .list (cs'.map D.int))]) NoX := fun A'' t' cs rm'' h0 => by
    refine (f_pickD (n := n) rm'' h0 (by simp; decide) (by simp; decide)).q ?_
    rintro d R' ⟨cs', hd, hc, rfl⟩
    obtain ⟨l, hl, rfl⟩ := pick_of (ls := bads) rfl hd
    exact ⟨l, cs', hl, rfl, rfl⟩
  walk_at "bo"
  walk_at "go"
  refine ⟨by simp, newl_f ?_⟩
  refine cm_neNil rm' lv_f lv_f ?_
  walk_at "go"
  refine ⟨fun hb => ?_, fun hb => ?_⟩
  · have hne : 0 < (used.map D.int).length := by
      cases used with
      | nil => simp at hb
      | cons a r => simp
    walk_at "bo"
    walk_at "go"
    refine Cal.tl [_] (f_drawD (n := n + 1) rm' hdk (by decide) (by decide)) fun G hG => ?_
    rintro d R' ⟨v, c1, rfl, hv0, hv1, hc1, rfl⟩
    refine hG _ _ ?_
    clear hG
    simp only [List.cons_append, List.nil_append]
    walk_at "go"
    refine ⟨fun hb => ?_, fun hb => ?_⟩
    · walk_at "go"
      refine Cal.tl [_] (f_pickD (n := n) rm' hc1 hne (by rw [List.length_map]; lia)) fun G hG => ?_
      rintro d R' ⟨c2, hd, hc2, rfl⟩
      obtain ⟨k, hk, rfl⟩ := List.mem_map.mp hd
      have hkk := allC (hu k hk)
      have hk0 := hk
      obtain ⟨mm, rfl⟩ := Int.eq_ofNat_of_zero_le hkk.1
      have l5 := hexB_len mm
      refine hG _ _ ?_
      clear hG
      simp only [List.cons_append, List.nil_append]
      walk_at "go"
      refine f_hex (code := mm) rm' (by lia) ?_
      walk_at "go"
      rw [twice_is]
      refine bi_addS (by rw [strOf_len, strOf_len, sizeLine_is, show (strN "; A; R; B").length = 9 by decide +kernel]; lia) ?_
      rw [strOf_app]
      walk_at "go"
      exact back_ret (R1 := [(dk, deckD cl m (t + 1 + 1)), (cl, .list (c2.map .int))]) (hQ _ _ ⟨_, _, c2, .inl ⟨_, hk0, rfl⟩, rfl, rfl⟩) (by walk_at "r") (by walk_at "d")
    · walk_at "go"
      refine Cal.tl [_] (fin _ _ c1 rm' hc1) fun G hG => ?_
      rintro d R' ⟨l, c2, hl, rfl, rfl⟩
      refine hG _ _ ?_
      clear hG
      simp only [List.cons_append, List.nil_append]
      walk_at "go"
      exact back_ret (R1 := [(dk, deckD cl m (t + 1 + 1)), (cl, .list (c2.map .int))]) (hQ _ _ ⟨_, _, c2, .inr hl, rfl, rfl⟩) (by walk_at "r") (by walk_at "d")
  · walk_at "go"
    refine Cal.tl [_] (fin _ _ cells rm' (hdk.less (by decide))) fun G hG => ?_
    rintro d R' ⟨l, c2, hl, rfl, rfl⟩
    refine hG _ _ ?_
    clear hG
    simp only [List.cons_append, List.nil_append]
    walk_at "go"
    exact back_ret (R1 := [(dk, deckD cl m (t + 1)), (cl, .list (c2.map .int))]) (hQ _ _ ⟨_, _, c2, .inr hl, rfl, rfl⟩) (by walk_at "r") (by walk_at "d")
end
section
variable {c : Cx} {A : Around} {env : Env} {L : Addr} {n : Nat} {R R0 R1 R2 : Led} {Q : D → Led → Prop} {X : Addr → D → Led → Prop}
theorem Cal.prmX {f : Value} {ds : List D} (h : Cal c A f ds R (Prm Q) (fun C d R1 => ∃ R2, R1.Perm R2 ∧ X C d R2)) : Cal c A f ds R Q X := ⟨fun I H s vs hs r => wpAny_mono (h.run I H s vs hs r) (fun v s' zz => PG.elim zz fun I1 R1 d k hs1 r1 q => Exists.elim q fun R2 z => ⟨I1, R2, d, k, hs1.perm (z.1.append_right H), r1, z.2⟩) fun v s' zz => PX.elim zz fun I1 R1 e C dx tb told e1 k hs1 q => Exists.elim q fun R2 z => ⟨I1, R2, e, C, dx, tb, told, e1, k, hs1.perm ((z.1.append_left _).append_right H), z.2⟩⟩
theorem Cal.midX (S T : Led) {M : Led} {f : Value} {ds : List D} {Q0 : D → Led → Prop} {X0 : Addr → D → Led → Prop} (h : Cal c A f ds M Q0 X0) (k : ∀ d M', Q0 d M' → Q d (S ++ (M' ++ T))) (kx : ∀ C d M', X0 C d M' → X C d (S ++ (M' ++ T))) : Cal c A f ds (S ++ (M ++ T)) Q X := by
  refine Cal.prmX (Cal.frame (R0 := M) (R1 := S ++ T) h ?_ (fun d R' q => ⟨S ++ (R' ++ T), ?_, k d R' q⟩) (fun C d R' q => ⟨S ++ (R' ++ T), ?_, kx C d R' q⟩))
  · have e : ∀ (S M T : Led), Takes M (S ++ (M ++ T)) (S ++ T) := by
      intro S M T
      induction M with
      | nil => exact .nil
      | cons x r ih => exact .cons (rem_mid x (r ++ T) S) ih
    exact e S M T
  · exact (List.perm_append_comm_assoc _ _ _)
  · exact (List.perm_append_comm_assoc _ _ _)
theorem allCodes_nodup : allCodes.Nodup := by decide +kernel
theorem allCodes_len : allCodes.length = 16 := by decide +kernel
theorem erase_map {α β : Type} (f : α → β) : ∀ (l : List α) (i : Nat), (l.map f).eraseIdx i = (l.eraseIdx i).map f
  | [], _ => rfl
  | a :: r, 0 => rfl
  | a :: r, i + 1 => by
    show f a :: (r.map f).eraseIdx i = f a :: (r.eraseIdx i).map f
    rw [erase_map f r i]
theorem erase_perm {α : Type} : ∀ (l : List α) (i : Nat) (x : α), l[i]? = some x → (x :: l.eraseIdx i).Perm l
  | a :: r, 0, x, h => by
    have : a = x := by simpa using h
    subst this; exact .refl _
  | a :: r, i + 1, x, h => by
    have ih := erase_perm r i x (by simpa using h)
    exact (List.Perm.swap a x _).trans (ih.cons a)
theorem put_fresh {prs : List (Int × Str)} {k : Int} {x : Str} (h : k ∉ prs.map (·.1)) : put (prs.map strP) k (.str x) = (prs ++ [(k, x)]).map strP := by
  have hn : ((prs.map strP).any fun kv => decide (kv.1 = k)) = false := by
    rw [Bool.eq_false_iff]
    intro ha
    obtain ⟨q, hq, e⟩ := List.any_eq_true.mp ha
    obtain ⟨p, hp, rfl⟩ := List.mem_map.mp hq
    exact h (List.mem_map.mpr ⟨p, hp, of_decide_eq_true e⟩)
  unfold put
  rw [if_neg (by rw [hn]; simp), List.map_append]
  rfl
theorem look_strP (k : Int) : ∀ prs : List (Int × Str), look (prs.map strP) k = (lookP prs k).map .str
  | [] => rfl
  | p :: r => by
    have ih := look_strP k r
    unfold look lookP at ih ⊢
    rw [List.map_cons, List.find?_cons, List.find?_cons]
    show (match decide (p.1 = k) with | true => _ | false => _ : Option (Int × D)).map _ = _
    cases hd : decide (p.1 = k)
    · simpa using ih
    · rfl
noncomputable abbrev Itm := List Nat × Option (Int × Str)
noncomputable def prsOf (items : List Itm) : List (Int × Str) := items.filterMap (·.2)
theorem prsOf_len : ∀ items : List Itm, (prsOf items).length ≤ items.length := fun items => List.length_filterMap_le _ _
noncomputable def lnsOf (items : List Itm) : List D := (items.map fun i => strOf i.1).map .str
structure Drawn (items : List Itm) (lf : List Int) : Prop where
  line : ∀ i ∈ items, LineIs i.1 i.2
  perm : (lf ++ (prsOf items).map (·.1)).Perm allCodes
theorem Drawn.nodup {items : List Itm} {lf : List Int} (h : Drawn items lf) : ((prsOf items).map (·.1)).Nodup := (List.nodup_append.mp (h.perm.nodup_iff.mpr allCodes_nodup)).2.1
theorem Drawn.all {items : List Itm} {lf : List Int} (h : Drawn items lf) : ∀ k ∈ (prsOf items).map (·.1), k ∈ allCodes := fun k hk => h.perm.mem_iff.mp (List.mem_append.mpr (.inr hk))
theorem Drawn.left {items : List Itm} {lf : List Int} (h : Drawn items lf) : ∀ k ∈ lf, k ∈ allCodes := fun k hk => h.perm.mem_iff.mp (List.mem_append.mpr (.inl hk))
theorem Drawn.len {items : List Itm} {lf : List Int} (h : Drawn items lf) : lf.length + (prsOf items).length = 16 := by
  have := h.perm.length_eq
  rw [List.length_append, List.length_map, allCodes_len] at this
  exact this
theorem Drawn.start : Drawn [] allCodes := ⟨fun i h => (nomatch h), by show (allCodes ++ []).Perm _; rw [List.append_nil]⟩
theorem Drawn.bare {items : List Itm} {lf : List Int} {l : List Nat} (h : Drawn items lf) (hl : l ∈ bares) : Drawn (items ++ [(l, none)]) lf := by
  refine ⟨fun i hi => ?_, ?_⟩
  · rcases List.mem_append.mp hi with hi | hi
    · exact h.line i hi
    · rw [List.mem_singleton.mp hi]; exact bares_is hl
  · have : prsOf (items ++ [(l, none)]) = prsOf items := by unfold prsOf; rw [List.filterMap_append]; simp
    rw [this]; exact h.perm
theorem prsOf_app (items : List Itm) (l : List Nat) (q : Int × Str) : prsOf (items ++ [(l, some q)]) = prsOf items ++ [q] := by unfold prsOf; rw [List.filterMap_append]; rfl
theorem Drawn.row {items : List Itm} {lf : List Int} {l : List Nat} {j : Nat} {k : Int} {x : Str} (h : Drawn items lf) (hk : lf[j]? = some k) (hl : LineIs l (some (k, x))) : Drawn (items ++ [(l, some (k, x))]) (lf.eraseIdx j) := by
  refine ⟨fun i hi => ?_, ?_⟩
  · rcases List.mem_append.mp hi with hi | hi
    · exact h.line i hi
    · rw [List.mem_singleton.mp hi]; exact hl
  · rw [prsOf_app, List.map_append, ← List.append_assoc]
    refine (List.perm_append_comm).trans ?_
    show (k :: (lf.eraseIdx j ++ (prsOf items).map (·.1))).Perm _
    exact ((erase_perm lf j k hk).append_right _).trans h.perm
theorem Drawn.fresh {items : List Itm} {lf : List Int} {j : Nat} {k : Int} (h : Drawn items lf) (hk : lf[j]? = some k) : k ∉ (prsOf items).map (·.1) := fun hm => by
  have := (List.nodup_append.mp (h.perm.nodup_iff.mpr allCodes_nodup)).2.2 k (List.mem_of_getElem? hk) k hm
  exact this rfl
theorem Drawn.small {items : List Itm} {lf : List Int} (h : Drawn items lf) : ∀ i ∈ items, i.1.length ≤ 100 := fun i hi => (h.line i hi).len
end
section
variable {c : Cx} {A : Around} {env : Env} {L : Addr} {n : Nat} {R R0 R1 R2 : Led} {Q : D → Led → Prop} {X : Addr → D → Led → Prop}
theorem lnsOf_app (items : List Itm) (l : List Nat) (o : Option (Int × Str)) : lnsOf (items ++ [(l, o)]) = lnsOf items ++ [.str (strOf l)] := by unfold lnsOf; simp
theorem prsOf_none (items : List Itm) (l : List Nat) : prsOf (items ++ [(l, none)]) = prsOf items := by unfold prsOf; rw [List.filterMap_append]; simp
theorem lnsOf_len (items : List Itm) : (lnsOf items).length = items.length := by unfold lnsOf; simp
theorem tails_is : ([("\n" : Str), ""]) = [[10], []].map strOf := by decide +kernel
theorem lnsOf_is (items : List Itm) : lnsOf items = (((items.map (·.1)).map strOf)).map .str := by unfold lnsOf; simp only [List.map_map]; rfl
theorem sum_le {α : Type} (f : α → Nat) (b : Nat) : ∀ l : List α, (∀ x ∈ l, f x ≤ b) → (l.map f).sum ≤ b * l.length
  | [], _ => Nat.le_refl _
  | a :: r, h => by
    have ih := sum_le f b r fun x hx => h x (.tail _ hx)
    have := h a (.head _)
    rw [List.map_cons, List.sum_cons, List.length_cons, Nat.mul_succ]; lia
theorem glue_small {ls : List (List Nat)} (h : ∀ l ∈ ls, l.length ≤ 100) : ((ls.map strOf).map fun x => x.length + (strOf [10]).length).sum ≤ 101 * ls.length := by
  have := sum_le (fun x : Str => x.length + (strOf [10]).length) 101 (ls.map strOf) fun x hx => by
    obtain ⟨l, hl, rfl⟩ := List.mem_map.mp hx
    have := h l hl
    rw [strOf_len, strOf_len]; simp; lia
  rwa [List.length_map] at this
theorem joinT_oct {ls : List (List Nat)} {e : List Nat} (h : ∀ k ∈ joinT ls e, k ≤ 127) : ∀ k ∈ (strOf (joinB [10] ls ++ e)).cps.toList, k < 256 := fun k hk => by
  have hk' : k ∈ joinT ls e := by simpa [strOf, joinT] using hk
  have := h k hk'
  lia
theorem joinT_size {ls : List (List Nat)} {e : List Nat} {P P' : Prop} (h : P ∧ (joinT ls e).length ≤ 50000 ∧ P') : (strOf (joinB [10] ls ++ e)).cps.size ≤ 100000 := by
  show (strOf (joinT ls e)).length ≤ _
  rw [strOf_len]
  have := h.2.1
  lia
theorem spoilt_bad {items : List Itm} {lf ns : List Int} {l : List Nat} (h : Drawn items lf) (hp : ns.Perm (((prsOf items).map strP).map (·.1))) (hl : (∃ k ∈ ns, l = twice k) ∨ l ∈ bads) : BadIs (prsOf items) l ∧ okL l := by
  rcases hl with ⟨k, hk, rfl⟩ | hl
  · have hk' : k ∈ (prsOf items).map (·.1) := by
      have := hp.mem_iff.mp hk
      rw [List.map_map] at this
      exact this
    exact ⟨twice_bad (h.all k hk') hk', twice_ok (h.all k hk')⟩
  · exact ⟨bads_bad hl _, bads_ok hl⟩
theorem spoilt_text (ls : List (List Nat)) (l : List Nat) : ((ls.map strOf).map D.str ++ [.str (strOf l)]) ++ ((ls.map strOf).map D.str).take 1 = ((ls ++ l :: ls.take 1).map strOf).map D.str := by
  simp only [List.map_append, List.map_cons, ← List.map_take, List.append_assoc, List.cons_append, List.nil_append]
theorem f_read_right {dk cl : Addr} {m t : Int} {cells : List Int} (rm : Rm A (n + 8)) (hdk : Deck 60 m t cells) :
    Cal c A (.ref 380) [.val (.ref dk)] [(dk, deckD cl m t), (cl, .list (cells.map .int))] (fun d R' => d = .bool true ∧ R' = []) NoX := by
  refine Cal.gen fun Q hQ => ?_
  refine CalC.cal (call_law_read_right rm fun env A' L fe fn rm' hfr => ?_)
  conv => arg 4; whnf
  walk_at "go"
  refine sx_swap3 "lines" "left" "told" fe fn rm' ?_ (by intro _; rfl) (by intro _ _ _ _; rfl)
  walk_at "go"
  refine ⟨by simp, newl_o fun la => ?_⟩
  walk_at "go"
  refine f_codes rm' ?_
  walk_at "go"
  refine ⟨by simp, newl_f ?_⟩
  refine bi_addL (xs := codes.map .int) (by walk_at "lv") (by walk_at "lv") (by rw [sizeLine_is]; decide +kernel) (newl_o fun le => ?_)
  have e1 : codes.map D.int ++ [D.int 20480] = allCodes.map D.int := by unfold allCodes; rw [List.map_append]; rfl
  rw [e1]
  walk_at "go"
  refine ev_dict0I fun td => ?_
  walk_at "go"
  refine ⟨by simp, _, _, _, rfl, ?_⟩
  walk_at "go"
  refine Sx.gq fun Q2 hQ2 => ?_
  refine opq (fun (i : Nat) (R' : Led) => ∃ (items : List Itm) (lf : List Int) (t' : Int) (cs : List Int) (v1 v2 : Option D), items.length = i ∧ Drawn items lf ∧ Deck (10 + 7 * (7 - i)) m t' cs ∧
    R' = (td, .dictI ((prsOf items).map strP)) :: (le, .list (lf.map .int)) :: (la, .list (lnsOf items)) :: (L, .loc ["deck", "lines", "left", "told", "turn", "code", "data", "end", "due", "other", "number", "was", "e"] [some (.val (.ref dk)), some (.val (.ref la)), some (.val (.ref le)), some (.val (.ref td)), v1, v2, none, none, none, none, none, none, none]) :: (dk, deckD cl m t') :: (cl, .list (cs.map .int)) :: []) fun J hJ => ?_
  refine sx_for fn hfr rm'.handled ?_ (by intro _ _; rfl)
  walk_at "go"
  refine Cal.tl [_, _, _, _] (f_drawD (n := n + 6) (k := 59) rm' hdk (by decide) (by decide)) fun G hG => ?_
  rintro d R' ⟨v, c1, rfl, hv0, hv1, hc1, rfl⟩
  refine hG _ _ ?_
  clear hG
  simp only [List.cons_append, List.nil_append]
  as_aux_lemma =>
  walk_at "go"
  refine ca_range1 (by lia) (by lia) ?_
  refine ⟨_, .rng, J, (hJ _ _).mpr ⟨[], allCodes, t + 1, c1, _, _, rfl, .start, hc1, rfl⟩, ?_, ?_⟩
  · intro i y R' hi hj
    apply gR (R' := R'); intro G hG
    obtain ⟨items, lf, t', cs, v1, v2, hil, hdr, hdj, rfl⟩ := (hJ _ _).mp hj
    refine hG _ ?_
    clear hG
    clear hj
    rw [List.getElem?_map, Option.map_eq_some_iff] at hi
    obtain ⟨i', hi, rfl⟩ := hi
    have hi7 := (List.getElem?_eq_some_iff.mp hi).1
    rw [List.length_range] at hi7
    have hpl := prsOf_len items
    have hll := hdr.len
    have hd7 : Deck (10 + 7 * (7 - (i + 1)) + 7) m t' cs := hdj.less (by lia)
    clear hdj
    walk_at "go"
    walk_at "if"
    walk_at "go"
    refine Cal.tl [_, _, _, _] (f_drawD (n := n + 6) rm' hd7 (by decide) (by decide)) fun G hG => ?_
    rintro d R' ⟨v', c2, rfl, hv0', hv1', hc2, rfl⟩
    refine hG _ _ ?_
    clear hG
    simp only [List.cons_append, List.nil_append]
    as_aux_lemma =>
    walk_at "go"
    refine ⟨fun hb => ?_, fun hb => ?_⟩
    · walk_at "go"
      refine ⟨by simp, newl_f ?_⟩
      walk_at "go"
      refine Cal.tl [_, _, _, _] (f_pickD (n := n + 5) rm' hc2 (by simp) (by simp)) fun G hG => ?_
      rintro d R' ⟨c3, hd, hc3, rfl⟩
      obtain ⟨l, hl, rfl⟩ := pick_of (ls := bares) (by rw [← bares_strs]; rfl) hd
      refine hG _ _ ?_
      clear hG
      simp only [List.cons_append, List.nil_append]
      as_aux_lemma =>
      walk_at "go"
      refine ca_append (by walk_at "u") (by rw [sizeLine_is]; unfold lnsOf; simp; lia) ?_
      walk_at "go"
      exact (hJ _ _).mpr ⟨items ++ [(l, none)], lf, t' + 1 + 1, c3, _, _, by simp [hil], hdr.bare hl, hc3.less (Nat.le_add_right _ 5), by rw [lnsOf_app, prsOf_none]⟩
    · walk_at "go"
      refine ca_lenL (by walk_at "lv") (by rw [sizeLine_is, List.length_map]; lia) ?_
      walk_at "go"
      rw [List.length_map]
      refine Cal.tl [_, _, _, _] (f_drawD (n := n + 6) rm' hc2 (by lia) (by lia)) fun G hG => ?_
      rintro d R' ⟨u, c3, rfl, hu0, hu1, hc3, rfl⟩
      refine hG _ _ ?_
      clear hG
      simp only [List.cons_append, List.nil_append]
      as_aux_lemma =>
      walk_at "go"
      have hlt : u.toNat < lf.length := by lia
      have hat : lf[u.toNat]? = some lf[u.toNat] := List.getElem?_eq_getElem hlt
      generalize lf[u.toNat] = k at hat
      have hka := hdr.left k (List.mem_of_getElem? hat)
      have hkf := hdr.fresh hat
      refine ca_pop_at (x := .int k) (by walk_at "u") hu0 (by rw [List.getElem?_map, hat]; rfl) (by rw [sizeLine_is, List.length_map]; lia) ?_
      rw [erase_map]
      walk_at "go"
      refine Cal.tl [_, _, _, _] (f_pickD (n := n + 5) rm' hc3 (by decide) (by decide)) fun G hG => ?_
      rintro d R' ⟨c4, hd, hc4, rfl⟩
      obtain ⟨x, hx, rfl⟩ := List.mem_map.mp hd
      refine hG _ _ ?_
      clear hG
      simp only [List.cons_append, List.nil_append]
      as_aux_lemma =>
      walk_at "go"
      refine si_I (k := k) (by walk_at "u") (by rw [List.length_map]; lia) ?_
      rw [put_fresh hkf]
      walk_at "go"
      refine su_I (k := k) (d := .str x) (by walk_at "h") (by rw [← put_fresh hkf]; exact look_put ..) ?_ (by intro _ _; rfl)
      walk_at "go"
      refine Cal.tl [_, _, _, _] (f_line (n := n + 4) rm' hka hx hc4) fun G hG => ?_
      rintro d R' ⟨l, t5, c5, hl, rfl, hc5, rfl⟩
      refine hG _ _ ?_
      clear hG
      simp only [List.cons_append, List.nil_append]
      as_aux_lemma =>
      walk_at "go"
      refine ca_append (by walk_at "u") (by rw [sizeLine_is, lnsOf_len]; lia) ?_
      walk_at "go"
      exact (hJ _ _).mpr ⟨items ++ [(l, some (k, x))], lf.eraseIdx u.toNat, t5, c5, _, _, by simp [hil], hdr.row hat hl, hc5, by rw [lnsOf_app, prsOf_app]⟩
  intro R' hj
  apply gR (R' := R'); intro G hG
  obtain ⟨items, lf, t', cs, v1, v2, hil, hdr, hdj, rfl⟩ := (hJ _ _).mp hj
  refine hG _ ?_
  clear hG
  clear hj hJ
  rw [List.length_map, List.length_range] at hil hdj
  have hil7 : items.length ≤ 6 := by lia
  have hdj : Deck 10 m t' cs := hdj.less (Nat.le_add_right _ _)
  clear hil
  refine hQ2 _ _ ?_
  clear hQ2
  have hnd := hdr.nodup
  have hall := hdr.all
  have hsmall := hdr.small
  have hline := hdr.line
  have hpl := prsOf_len items
  walk_at "go"
  refine sx_swap2 "data" "end" fe fn rm' ?_ (by intro _; rfl) (by intro _ _ _ _; rfl)
  walk_at "go"
  refine Cal.tl (M := []) [_, _, _, _, _, _] (f_law_data (n := n + 2) rm') fun G hG => ?_
  rintro d R' ⟨p, g, dg, rfl, rfl⟩
  refine hG _ _ ?_
  clear hG
  simp only [List.cons_append, List.nil_append]
  as_aux_lemma =>
  walk_at "go"
  refine ⟨by simp, newl_f ?_⟩
  walk_at "go"
  refine Cal.mid [_, _, _, _] (dat0 p g dg) (f_pickD (n := n + 5) rm' hdj (by simp) (by simp)) fun G hG => ?_
  rintro d R' ⟨c2, hd, hc2, rfl⟩
  obtain ⟨e, he, rfl⟩ := pick_of (ls := [[10], []]) (by rw [← tails_is]; rfl) hd
  have he : e = [] ∨ e = [10] := by simp at he; exact he.symm
  refine hG _ _ ?_
  clear hG
  simp only [List.cons_append, List.nil_append]
  as_aux_lemma =>
  walk_at "go"
  refine ⟨by simp, _, _, rfl, ?_⟩
  walk_at "go"
  rw [nl_is, lnsOf_is]
  have hls : ∀ l ∈ items.map (·.1), l.length ≤ 100 := fun l hl => by
    obtain ⟨i, hi, rfl⟩ := List.mem_map.mp hl
    exact hsmall i hi
  have hls2 : ∀ l ∈ items.map (·.1), okL l := fun l hl => by
    obtain ⟨i, hi, rfl⟩ := List.mem_map.mp hl
    exact (hline i hi).ok
  have htx := joinT_ok hls2 he (by rw [List.length_map]; lia)
  have hgl := glue_small hls
  rw [List.length_map] at hgl
  refine ca_joinS (lv_o (by walk_at "h")) (by lia) ?_
  rw [glued_strOf]
  walk_at "go"
  refine bi_addS (by rw [strOf_len, strOf_len, sizeLine_is]; have h9 := htx.2.1; unfold joinT at h9; rw [List.length_append] at h9; lia) ?_
  rw [strOf_app]
  walk_at "go"
  refine f_octets rm' (joinT_size htx) (joinT_oct htx.1) ?_
  rw [show (strOf (joinB [10] (items.map (·.1)) ++ e)).cps.toList = joinT (items.map (·.1)) e by simp [strOf, joinT]]
  walk_at "go"
  refine Cal.tl [_, _, _, _, _, _] (f_read_ok (n := n) (prs := prsOf items) rm' (joinT_read hline he hnd) htx) fun G hG => ?_
  rintro d R' ⟨rfl, j, dj, rfl⟩
  refine hG _ _ ?_
  clear hG
  simp only [List.cons_append, List.nil_append]
  as_aux_lemma =>
  walk_at "go"
  have hb : ∀ q ∈ prsOf items, 0 ≤ q.1 ∧ q.1 ≤ 1114111 := fun q hq => allC (hall q.1 (List.mem_map.mpr ⟨q, hq, rfl⟩))
  have hrd := read_ok hb (by lia)
  have hval : ∀ k, 0 ≤ k → k ≤ 1114111 → rmF (putM (putsOf (prsOf items))).1 (putM (putsOf (prsOf items))).2 k = (lookP (prsOf items) k).getD (if passed k = true then "T" else "U") := fun k hk0 hk1 => read_val hb hnd hk0 hk1
  generalize (putM (putsOf (prsOf items))).1 = rs at hrd hval ⊢
  generalize (putM (putsOf (prsOf items))).2 = rv at hrd hval ⊢
  refine Sx.gq fun Q2 hQ2 => ?_
  refine opq (fun (i : Nat) (R' : Led) => ∃ (w1 w2 : Option D), R' = (td, .dictI ((prsOf items).map strP)) :: (le, .list (lf.map .int)) :: (la, .list (((items.map (·.1)).map strOf).map .str)) :: (L, .loc ["deck", "lines", "left", "told", "turn", "code", "data", "end", "due", "other", "number", "was", "e"] [some (.val (.ref dk)), some (.val (.ref la)), some (.val (.ref le)), some (.val (.ref td)), v1, w1, some (.val (.ref p.x)), some (.str (strOf e)), w2, none, none, none, none]) :: (dk, deckD cl m (t' + 1)) :: (cl, .list (c2.map .int)) :: dat1 p g dg j dj rs rv) fun J hJ => ?_
  refine sx_for fn hfr rm'.handled ?_ (by intro _ _; rfl)
  walk_at "go"
  refine f_codes rm' ?_
  walk_at "go"
  refine ⟨by simp, newl_f ?_⟩
  refine bi_addL (xs := codes.map .int) (by walk_at "lv") (by walk_at "lv") (by rw [sizeLine_is]; decide +kernel) (newl_f ?_)
  have e2 : codes.map D.int ++ [D.int 20480, D.int 20481] = (codes ++ [20480, 20481]).map D.int := by rw [List.map_append]; rfl
  rw [e2]
  have hcs : ∀ k ∈ codes ++ [20480, 20481], (0 : Int) ≤ k ∧ k ≤ 1114111 := by decide +kernel
  refine ⟨_, .lst, J, (hJ _ _).mpr ⟨_, _, rfl⟩, ?_, ?_⟩
  · intro i y R' hi hj
    apply gR (R' := R'); intro G hG
    obtain ⟨w1, w2, rfl⟩ := (hJ _ _).mp hj
    refine hG _ ?_
    clear hG
    clear hj
    rw [List.getElem?_map, Option.map_eq_some_iff] at hi
    obtain ⟨k, hi, rfl⟩ := hi
    have hk := hcs k (List.mem_of_getElem? hi)
    have hv := hval k hk.1 hk.2
    walk_at "go"
    refine ev_cut (.str (rmF rs rv k)) ?_ ?_
    · walk_at "ife"
      walk_at "go"
      refine in_I (by walk_at "h") ?_
      rw [look_strP]
      walk_at "go"
      refine ⟨fun hb => ?_, fun hb => ?_⟩
      · walk_at "go"
        obtain ⟨x, hx⟩ : ∃ x, lookP (prsOf items) k = some x := by
          cases hl : lookP (prsOf items) k with
          | none => rw [hl] at hb; cases hb
          | some x => exact ⟨x, rfl⟩
        rw [hx] at hv
        refine su_I (k := k) (d := .str x) (by walk_at "h") (by rw [look_strP, hx]; rfl) ?_ (by intro _ _; rfl)
        exact ⟨by rw [hv]; rfl, rfl⟩
      · have hx : lookP (prsOf items) k = none := by
          cases hl : lookP (prsOf items) k with
          | none => rfl
          | some x => rw [hl] at hb; cases hb
        rw [hx] at hv
        walk_at "ife"
        walk_at "go"
        refine f_is_passed rm' ?_
        walk_at "go"
        refine ⟨fun hp => ?_, fun hp => ?_⟩
        · walk_at "go"
          exact ⟨by rw [hv, hp]; rfl, rfl⟩
        · walk_at "go"
          exact ⟨by rw [hv, hp]; rfl, rfl⟩
    walk_at "go"
    walk_at "if"
    walk_at "go"
    refine f_data_get rm' (by walk_at "h") (by walk_at "h") (by walk_at "h") (x := j) (by rfl) (by walk_at "h") (by walk_at "h") (by lia) hrd.1.le (pbh_pos hrd.1 hk.1) (rmF_at hrd.1 hk.1) ?_
    walk_at "go"
    refine ⟨fun hb => by simp at hb, fun _ => ?_⟩
    walk_at "go"
    exact (hJ _ _).mpr ⟨_, _, rfl⟩
  · intro R' hj
    apply gR (R' := R'); intro G hG
    obtain ⟨w1, w2, rfl⟩ := (hJ _ _).mp hj
    refine hG _ ?_
    clear hG
    clear hj hJ
    refine hQ2 _ _ ?_
    clear hQ2
    walk_at "go"
    refine sx_swap2 "other" "number" fe fn rm' ?_ (by intro _; rfl) (by intro _ _ _ _; rfl)
    walk_at "go"
    refine Cal.mid (M := []) [_, _, _, _, _, _] _ (f_law_data (n := n + 2) rm') fun G hG => ?_
    rintro d R' ⟨p2, g2, dg2, rfl, rfl⟩
    refine hG _ _ ?_
    clear hG
    simp only [List.cons_append, List.nil_append]
    as_aux_lemma =>
    walk_at "go"
    refine ⟨by simp, _, _, rfl, ?_⟩
    walk_at "go"
    refine Cal.mid (M := dat0 p2 g2 dg2) [_, _, _, _, _, _] (dat1 p g dg j dj rs rv) (f_joins0 (n := n + 3) rm') fun G hG => ?_
    rintro d R' ⟨rfl, rfl⟩
    refine hG _ _ ?_
    clear hG
    simp only [List.cons_append, List.nil_append]
    as_aux_lemma =>
    walk_at "go"
    refine opx (fun (C : Addr) (d : D) (R1 : Led) => C = 64 ∧ d = .int ((items.length + 1 : Nat) : Int) ∧ ∃ (t2 : Int) (cs2 : List Int), R1 = (td, .dictI ((prsOf items).map strP)) :: (le, .list (lf.map .int)) :: (la, .list (((items.map (·.1)).map strOf).map .str)) :: (L, .loc ["deck", "lines", "left", "told", "turn", "code", "data", "end", "due", "other", "number", "was", "e"] [some (.val (.ref dk)), some (.val (.ref la)), some (.val (.ref le)), some (.val (.ref td)), v1, w1, some (.val (.ref p.x)), some (.str (strOf e)), w2, some (.val (.ref p2.x)), some .none, some (.lst ((joinCodes.map fun _ => ("U" : Str)).map .str)), none]) :: (dk, deckD cl m t2) :: (cl, .list (cs2.map .int)) :: (dat0 p2 g2 dg2 ++ dat1 p g dg j dj rs rv)) fun X0 hX0 => ?_
    refine Sx.gq fun Q3 hQ3 => ?_
    refine sx_try_as (X0 := X0) 64 fe fn hfr (by walk_at "g") bad64 ?_ ?_
    · walk_at "go"
      refine ca_sortedD rm'.handled (by walk_at "h") (by rw [List.length_map]; lia) fun ns hp _ => newl_f ?_
      have hnl := hp.length_eq
      rw [List.length_map, List.length_map] at hnl
      walk_at "go"
      refine Cal.mid [_, _, _, _] (dat0 p2 g2 dg2 ++ dat1 p g dg j dj rs rv) (f_spoilt (n := n + 4) (used := ns) (t := t' + 1) (cells := c2) rm' ?_ (by lia) (hc2.less (by decide))) fun G hG => ?_
      · intro k hk
        refine hall k ?_
        have := hp.mem_iff.mp hk
        rw [List.map_map] at this
        exact this
      rintro d R' ⟨l, t2, cs2, hl, rfl, rfl⟩
      refine hG _ _ ?_
      clear hG
      simp only [List.cons_append, List.nil_append]
      as_aux_lemma =>
      have hsp := spoilt_bad hdr hp hl
      walk_at "go"
      refine ⟨by simp, newl_f ?_⟩
      refine bi_addL (xs := ((items.map (·.1)).map strOf).map .str) (ys := [.str (strOf l)]) (lv_o (by walk_at "h")) lv_f (by rw [sizeLine_is]; simp only [List.length_map, List.length_singleton]; lia) (newl_f ?_)
      walk_at "go"
      refine ev_slc (lo := none) (hi := some 1) (st := none) trivial ?_ trivial ?_
      · show Ev _ _ _ _ _ _ _
        walk_at "go"
        exact ⟨rfl, rfl⟩
      refine su_slice (ds := ((items.map (·.1)).map strOf).map .str) (lv_o (by walk_at "h")) (by rw [sizeLine_is]; simp only [List.length_map]; lia) (newl_f ?_)
      rw [show cut (((items.map (·.1)).map strOf).map D.str) none (some 1) = (((items.map (·.1)).map strOf).map D.str).take 1 from cut_to _ 1]
      refine bi_addL lv_f lv_f (by rw [sizeLine_is]; simp only [List.length_map, List.length_append, List.length_singleton, List.length_take]; lia) (newl_f ?_)
      rw [spoilt_text]
      have hls3 : ∀ q ∈ items.map (·.1) ++ l :: (items.map (·.1)).take 1, okL q := fun q hq => by
        rcases List.mem_append.mp hq with hq | hq
        · exact hls2 q hq
        · rcases List.mem_cons.mp hq with rfl | hq
          · exact hsp.2
          · exact hls2 q (List.mem_of_mem_take hq)
      have hl3 : (items.map (·.1) ++ l :: (items.map (·.1)).take 1).length ≤ 8 := by
        rw [List.length_append, List.length_cons, List.length_take, List.length_map]; lia
      have htx3 := joinT_ok hls3 he (by lia)
      have hgl3 := glue_small fun q hq => (hls3 q hq).2.2
      have hbad : readE (joinT (items.map (·.1) ++ l :: (items.map (·.1)).take 1) e) = .error (items.length + 1) := by
        have := joinT_bad (items := items) (more := items.take 1) (bad := l) hline (fun q hq => hline q (List.mem_of_mem_take hq)) he hnd hsp.2 hsp.1
        rwa [List.map_take] at this
      generalize items.map (·.1) ++ l :: (items.map (·.1)).take 1 = ls3 at htx3 hgl3 hbad hl3
      walk_at "go"
      refine ca_joinS lv_f (by lia) ?_
      rw [glued_strOf]
      walk_at "go"
      refine bi_addS (by rw [strOf_len, strOf_len, sizeLine_is]; have h9 := htx3.2.1; unfold joinT at h9; rw [List.length_append] at h9; lia) ?_
      rw [strOf_app]
      walk_at "go"
      refine f_octets rm' (joinT_size htx3) (joinT_oct htx3.1) ?_
      rw [show (strOf (joinB [10] ls3 ++ e)).cps.toList = joinT ls3 e by simp [strOf, joinT]]
      walk_at "go"
      refine Cal.midX [_, _, _, _, _, _] (dat1 p g dg j dj rs rv) (f_read_bad (n := n) (p := p2) (g := g2) (dg := dg2) rm' hbad htx3) (fun _ _ z => z.elim) ?_
      rintro C told R' ⟨rfl, rfl, rfl⟩
      exact (hX0 _ _ _).mpr ⟨rfl, rfl, t2, cs2, rfl⟩
    · intro C' told R1 hx0
      obtain ⟨rfl, rfl, t2, cs2, rfl⟩ := (hX0 _ _ _).mp hx0
      clear hx0 hX0
      refine ⟨rfl, fun ea dx T => ?_⟩
      unfold excLed tbL
      simp only [List.cons_append, List.nil_append]
      as_aux_lemma =>
      walk_at "go"
      refine at_told bad64 (by walk_at "h") (by walk_at "h") rfl ?_
      walk_at "go"
      refine ⟨[some (.val (.ref dk)), some (.val (.ref la)), some (.val (.ref le)), some (.val (.ref td)), v1, w1, some (.val (.ref p.x)), some (.str (strOf e)), w2, some (.val (.ref p2.x)), some (.int ((items.length + 1 : Nat) : Int)), some (.lst ((joinCodes.map fun _ => ("U" : Str)).map .str)), some (.val (.ref ea))], fun od => ⟨[some (.val (.ref dk)), some (.val (.ref la)), some (.val (.ref le)), some (.val (.ref td)), v1, w1, some (.val (.ref p.x)), some (.str (strOf e)), w2, some (.val (.ref p2.x)), some (.int ((items.length + 1 : Nat) : Int)), some (.lst ((joinCodes.map fun _ => ("U" : Str)).map .str)), od], _, ?_, (by walk_at "u"), ?_⟩⟩
      · iterate 12 refine .there ?_
        exact .here
      refine hQ3 _ _ ?_
      walk_at "go"
      refine ca_lenL (ds := ((items.map (·.1)).map strOf).map .str) (lv_o (by walk_at "h")) (by rw [sizeLine_is]; simp only [List.length_map]; lia) ?_
      walk_at "go"
      rw [show ((items.length + 1 : Nat) : Int) == (((((items.map (·.1)).map strOf).map D.str).length : Nat) : Int) + 1 from by simp]
      walk_at "go"
      refine Cal.mid (M := dat0 p2 g2 dg2) [_, _, _, _, _, _, _, _, _] (dat1 p g dg j dj rs rv) (f_joins0 (n := n + 3) rm') fun G hG => ?_
      rintro d R' ⟨rfl, rfl⟩
      refine hG _ _ ?_
      clear hG
      simp only [List.cons_append, List.nil_append]
      as_aux_lemma =>
      walk_at "go"
      refine cm_eqSL rm' lv_f (by walk_at "lv") ?_
      walk_at "go"
      exact back_ret (R1 := []) (hQ _ _ ⟨by simp, rfl⟩) (by walk_at "r") (by walk_at "d")
end
section
variable {c : Cx} {A : Around} {env : Env} {L : Addr} {n : Nat} {R R0 R1 R2 : Led} {Q : D → Led → Prop} {X : Addr → D → Led → Prop}
theorem f_law {xs : List Int} (rm : Rm A (n + 10)) (hz : xs.length ≤ 1000) : Cal c A (.ref 387) [.lst (xs.map .int)] [] (fun d R' => d = .bool true) NoX := by
  refine CalC.cal (call_law rm fun env A' L fe fn rm' hfr => ?_)
  conv => arg 4; whnf
  walk_at "go"
  refine f_deck rm' hz fun dk cl m cs hm hm2 hcs => ?_
  walk_at "go"
  refine sx_swap2 "data" "other" fe fn rm' ?_ (by intro _; rfl) (by intro _ _ _ _; rfl)
  walk_at "go"
  refine Cal.tl (M := []) [_, _, _] (f_law_data (n := n + 4) rm') fun G hG => ?_
  rintro d R' ⟨p, g, dg, rfl, rfl⟩
  refine hG _ _ ?_
  clear hG
  simp only [List.cons_append, List.nil_append]
  walk_at "go"
  refine Cal.mid (M := []) [_, _, _] (dat0 p g dg) (f_law_data (n := n + 4) rm') fun G hG => ?_
  rintro d R' ⟨p2, g2, dg2, rfl, rfl⟩
  refine hG _ _ ?_
  clear hG
  simp only [List.cons_append, List.nil_append]
  walk_at "go"
  refine ⟨by simp, _, _, rfl, ?_⟩
  walk_at "go"
  refine Cal.tl ((dk, _) :: (cl, _) :: (L, _) :: dat0 p2 g2 dg2) (f_join0 (n := n + 3) (p := p) (g := g) (dg := dg) rm') fun G hG => ?_
  rintro d R' ⟨rfl, j, dj, rfl⟩
  refine hG _ _ ?_
  clear hG
  simp only [List.cons_append, List.nil_append]
  walk_at "go"
  have htyp : ∀ k ∈ codes, (fun _ : Int => ("U" : Str)) k ∈ joiningTypes := fun _ _ => U_type
  have hout : ∀ k, k ∉ codes → (fun _ : Int => ("U" : Str)) k = "U" := fun _ _ => rfl
  have ok := fileOf_ok htyp
  refine Cal.mid (M := dat0 p2 g2 dg2) [_, _, _] (dat1 p g dg j dj [0] ["U"]) (f_read_ok (n := n + 2) rm' (fileOf_read htyp) ⟨ok.1, by lia, ok.2.2⟩) fun G hG => ?_
  rintro d R' ⟨rfl, j3, dj3, rfl⟩
  refine hG _ _ ?_
  clear hG
  simp only [List.cons_append, List.nil_append]
  have again := tells_again hout htyp
  have h7 : TellX (fun _ => ("U" : Str)) 1000 (some (j3, dj3, (putM (putsOf ((ksOf fun _ => ("U" : Str)).map fun k => (k, (fun _ : Int => ("U" : Str)) k)))).1, (putM (putsOf ((ksOf fun _ => ("U" : Str)).map fun k => (k, (fun _ : Int => ("U" : Str)) k)))).2)) := ⟨again.1.ok, again.2, again.1.val⟩
  walk_at "go"
  walk_at "if"
  walk_at "go"
  refine Cal.mid (M := datX p2 g2 dg2 (some _)) [_, _, _] (dat1 p g dg j dj [0] ["U"]) (f_joinsX (n := n + 5) rm' h7 (by lia)) fun G hG => ?_
  rintro d R' ⟨rfl, rfl⟩
  refine hG _ _ ?_
  clear hG
  simp only [List.cons_append, List.nil_append]
  walk_at "go"
  refine ⟨by simp, newl_f ?_⟩
  walk_at "go"
  refine Cal.tl ((dk, _) :: (cl, _) :: (L, _) :: datX p2 g2 dg2 (some _)) (M := datX p g dg (some (j, dj, [0], ["U"]))) (f_joinsX (n := n + 5) (F := fun _ => "U") (kk := 1) rm' ⟨ok_new "U", by simp, fun q h0 _ => rmF0 "U" h0⟩ (by lia)) fun G hG => ?_
  rintro d R' ⟨rfl, rfl⟩
  refine hG _ _ ?_
  clear hG
  simp only [List.cons_append, List.nil_append]
  walk_at "go"
  refine ca_lenL (ds := (joinCodes.map fun _ => ("U" : Str)).map .str) lv_f (by rw [sizeLine_is]; decide +kernel) ?_
  walk_at "go"
  have hjl : ((joinCodes.map fun _ => ("U" : Str)).map D.str).length = 22 := by decide +kernel
  rw [hjl]
  refine bi_mulL lv_f (by decide) (by decide) (by simp) (newl_f ?_)
  have hmul : (List.replicate ((22 : Nat) : Int).toNat [D.str "U"]).flatten = (joinCodes.map fun _ => ("U" : Str)).map D.str := by
    have : (List.replicate 22 [("U" : Str)]).flatten = joinCodes.map fun _ => ("U" : Str) := by decide +kernel
    rw [← this]; rfl
  rw [hmul]
  refine cm_neSL rm' lv_f lv_f ?_
  walk_at "go"
  refine ⟨fun hb => by simp at hb, fun _ => ?_⟩
  walk_at "go"
  refine Cal.mid (M := [(dk, deckD cl m 0), (cl, .list (cs.map .int))]) [] _ (f_written (n := n) (kd := 60) rm' ⟨hm, hm2, by decide, by decide, by lia⟩) fun G hG => ?_
  rintro d R' ⟨rfl, t', cs2, hd2, rfl⟩
  refine hG _ _ ?_
  clear hG
  simp only [List.cons_append, List.nil_append]
  walk_at "go"
  refine Cal.mid (M := [(dk, deckD cl m t'), (cl, .list (cs2.map .int))]) [] _ (f_read_right (n := n + 1) rm' hd2) fun G hG => ?_
  rintro d R' ⟨rfl, rfl⟩
  simp only [List.nil_append]
  refine hG _ _ ?_
  clear hG
  walk_at "go"
  exact back_ret rfl (by walk_at "r") .nil
end
section
variable {c : Cx} {A : Around} {env : Env} {L : Addr} {n : Nat} {R R0 R1 R2 : Led} {Q : D → Led → Prop} {X : Addr → D → Led → Prop}
theorem hasItems_ints {R : WRecords} : ∀ {xs : List WData}, WShape.hasItems R xs .int = true → ∃ ys : List Int, xs = ys.map WData.int
  | [], _ => ⟨[], rfl⟩
  | d :: r, h => by
    have h' : WShape.has R d .int = true ∧ WShape.hasItems R r .int = true := by simpa [WShape.hasItems] using h
    obtain ⟨i, rfl⟩ := hasW_int h'.1
    obtain ⟨ys, rfl⟩ := hasItems_ints h'.2
    exact ⟨i :: ys, rfl⟩
theorem well_int {P : Params} {h : Heap} {y : Int} {v : Value} (w : Well P h v (.int y)) : ∃ t, v = .int y t := by
  cases w; exact ⟨_, rfl⟩
theorem well_cons {P : Params} {h : Heap} {d : WData} {ds : List WData} {vs : List Value} (w : WellAll P h vs (d :: ds)) : ∃ v ws, vs = v :: ws ∧ Well P h v d ∧ WellAll P h ws ds := by
  cases w with
  | cons a b => exact ⟨_, _, rfl, a, b⟩
theorem well_ints {P : Params} {h : Heap} {ys : List Int} {vs : List Value} (w : WellAll P h vs (ys.map WData.int)) : Reps h vs (ys.map D.int) := by
  induction ys generalizing vs with
  | nil => cases w; exact .nil
  | cons y r ih =>
    obtain ⟨v, ws, rfl, a, b⟩ := well_cons w
    obtain ⟨t, rfl⟩ := well_int a
    exact .cons (.int _ _) (ih b)
theorem caller_rm : Rm callerA 12 := ⟨by decide, by decide +kernel, rfl⟩
theorem law_mg (P : Params) : nsIn (K P) mainGlobals "law" = some (some (.ref 387)) := by kernel_rfl
theorem post_ok {ys : List Int} : row.toRowW.claim.post [.list (ys.map WData.int)] (.bool true) [.list (ys.map WData.int)] = true := by
  show (WShape.has [] (.bool true) .bool && WTm.holds [] (.eq .res (.lit (.bool true))) { args := [.list (ys.map WData.int)], res := some (.bool true), after := [.list (ys.map WData.int)] }) = true
  have e : same (.bool true) (.bool true) = true := by decide +kernel
  simp [WShape.has, WShape.arms, WTm.holds, WTm.value, e]
theorem pre_len {ys : List Int} (h : row.toRowW.pre.holds row.toRowW.records { args := [.list (ys.map WData.int)] } = true) : ys.length ≤ 63 := by
  have h : WTm.holds [] (.and (.not (.lt (.lit (.int ((63 : Nat) : Int))) (.len (.arg 0)))) (.lit (.bool true))) { args := [.list (ys.map WData.int)] } = true := h
  simp [WTm.holds, WTm.value] at h
  cases hd : less? (.int 63) (.int (ys.length : Int)) with
  | none => rw [hd] at h; cases h
  | some b =>
    rw [hd] at h
    cases b with
    | true => cases h
    | false =>
      have : decide ((63 : Int) < (ys.length : Int)) = false := Option.some.inj hd
      have := of_decide_eq_false this
      lia
theorem said : PySem.Challenge.rw_pq1303_01.wellSaid = true := by decide +kernel
theorem top : PySem.Challenge.rw_pq1303_01.Holds := by
  refine holds_law said fun said => ?_
  refine holds_open (q := V) (loose := loose) (Xt := Xt) (XP := XL V []) (Yf := hook.obs) (Ya := hook.val) (YP := hook.says) (N := 5330) left (hook.of) (hook.keeps) (fun s e => xl_of s (Bool.and_eq_true_iff.mp e).1) XL.keeps (by rfl) (by rfl) (by rfl) (fun s e => recFacts_of (Bool.and_eq_true_iff.mp e).2) (by rfl) (by first | assumption | decide +kernel) (by decide +kernel) ⟨rfl, rfl, rfl, rfl, rfl, by decide +kernel⟩ ?hw ?hc
  case hw => exact ⟨[.list []], by decide +kernel, by decide +kernel⟩
  case hc =>
    intro w s₀ s₁ mg mb G Y a o pm cd doc dV kV ho hd hcd hD hmg hg args vals as hpre hlay hrd hwl hlo
    obtain ⟨hsh, hp⟩ := pre_splitW hpre
    obtain ⟨d, r, rfl, h1, h2⟩ := hasAllW_cons hsh
    obtain rfl := hasAllW_nil h2
    obtain ⟨xs, rfl, h3⟩ := hasW_list h1
    obtain ⟨ys, rfl⟩ := hasItems_ints h3
    have hlen := pre_len hp
    have kin : (K w.params).In s₁.heap := kIn_of Y
    obtain rfl : a = 387 := by
      have e1 := mg_of kin G.T.g (law_mg w.params)
      have e2 : some (Value.ref a) = some (.ref 387) := hmg.symm.trans e1
      cases e2; rfl
    have wd : Wd ⟨w, mg, mb, s₁⟩ s₁.heap := ⟨kin, G.T.g, G.T.b, G.T.nolimit, G.T.builtins⟩
    have st : St ⟨w, mg, mb, s₁⟩ callerA s₁.heap ([] ++ []) s₁ := ⟨⟨Sub.refl _, fun p h => (nomatch h), fun p h => (nomatch h), .nil⟩, wd, rfl, rfl, rfl, ⟨[], rfl, fun e h => (nomatch h)⟩⟩
    have hr : Reps s₁.heap vals [.lst (ys.map .int)] := by
      cases hwl with
      | cons a b =>
        cases b
        cases a with
        | list e f => exact .cons (.lst _ _ _ ⟨_, e, rfl, _, rfl⟩ (well_ints f)) .nil
    refine wpAny_mono ((f_law (n := 2) (c := ⟨w, mg, mb, s₁⟩) caller_rm (by lia)).run s₁.heap [] s₁ vals st hr) ?_ ?_
    · rintro v s' ⟨I', R', d, k, hs', r, rfl⟩
      cases r
      have hk : Sub s₁.heap s'.heap := k.trans hs'.up
      exact ⟨.inl ⟨_, .bool true, [], rfl, fun _ => rfl, .bool _, post_ok, fun _ => ⟨.nil, fun a h => (nomatch h)⟩⟩, .of_keep (fun b o e => hk b o e), hs'.os, .of_eq (hs'.gens.trans hg)⟩
    · rintro e s' ⟨I', R', e1, C, dx, tb, told, _, _, _, x⟩
      exact x.elim
end
end Mine
end
set_option maxRecDepth 100000 in
theorem PySem.Challenge.cw_pq1303_01_holds : PySem.Challenge.rw_pq1303_01.Holds := by
  exact Mine.top
