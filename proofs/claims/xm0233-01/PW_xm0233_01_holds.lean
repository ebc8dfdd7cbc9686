import PyProof.Rows.All
import Wide.All
import OpenK.AllK
import Wide.FinOn
import Lean
import PySem.Challenge.RW_xm0233_01
open PySem PySem.W PyProof.Rows PySem.Calls
set_option Elab.async false
set_option maxRecDepth 100000
set_option linter.unusedVariables false
set_option maxHeartbeats 8000000
set_option compiler.extract_closed false
namespace Mine
/-! the part of the heap behind the top that the walk looks at; the defs' own texts are taken out of the given program by their places -/
noncomputable def tp (i : Nat) : Option Stmt := PySem.Challenge.pw_xm0233_01.main.body[i]?
noncomputable def mth (i j : Nat) : Option Stmt := match tp i with
  | some (.ClassDef _ _ _ b _ _ _ _ _ _ _) => b[j]?
  | _ => none
noncomputable def fO (st : Option Stmt) (qn : Str) (pm : Value) (c : Addr) : Obj := match st with
  | some (.FunctionDef n a b _ _ _ sc _ _ _) => { cls := .type "function", data := .func (fnOf n qn a b sc .none .none .none pm none (.ref c) .none) }
  | _ => { cls := .none, data := .plain }
noncomputable def mSyn : Value := .str "emacs.fontsyntax" 227
noncomputable def mLock : Value := .str "emacs.fontlock" 442
noncomputable def mLaw : Value := .str "law_xm0233_01" 564
noncomputable def kO (nm qn : Str) (t line na r fl : Nat) (b : Bool) (k : Nat) : Obj :=
  { cls := .type "code", data := .fields #[.str nm t, .str qn (t + 1), .str "/claim/cut.py" (t + 2), .int line 0, .int na 0, .int 0 0, .int 0 0, .int 3 0, .ref r, .bool true, .int fl 0, .ref (r + 1), .none, if b then .ref (r + 2) else .none, if b then .ref (r + 3) else .none, .ref (if b then r + 4 else r + 2), .int k 0, .int line 0, .str "/claim/cut.py" (k + 1)] }
noncomputable def cO (nm : Str) (a ns t1 t2 : Nat) : Obj :=
  { cls := .type "type", data := .cls { name := nm, bases := [.type "object"], mro := [.ref a, .type "object"], ns := ns, qualname := nm }, slots := #[none, none, some (.str nm t1), some (.str nm t2), some (.builtin "object.__new__"), some (.bool true)] }
noncomputable def en (P : Params) (x : Str) (t : Nat) (v : Value) : DictEntry := ⟨PyData.keyHash P x, .str x t, v⟩
noncomputable def dO (es : List DictEntry) (n : Nat) : Obj := { cls := .type "dict", data := .dict es.toArray n }
noncomputable def KF : Params → Frag := fun P =>
  (nat_lit 3, dO (en P "__name__" 165 (.str "law_xm0233_01" 564) :: en P "__doc__" 166 (.none) :: en P "__package__" 167 (.none) :: en P "__loader__" 168 (.builtin "__main__.__loader__#opaque") :: en P "__spec__" 169 (.none) :: en P "__annotations__" 170 (.ref 6) :: en P "__builtins__" 171 (.ref 4) :: en P "__file__" 173 (.str "/claim/cut.py" 172) :: en P "__cached__" 174 (.none) :: en P "_wall" 193 (.ref 21) :: en P "LispSignal" 226 (.ref 38) :: en P "CODE" 230 (.int 0 229) :: en P "STRING" 232 (.int 1 231) :: en P "COMMENT" 234 (.int 2 233) :: en P "Signs" 273 (.ref 58) :: en P "stands_at" 282 (.ref 69) :: en P "is_line_comment" 292 (.ref 76) :: en P "Scan" 376 (.ref 135) :: en P "scanned" 386 (.ref 146) :: en P "LineStates" 441 (.ref 177) :: en P "NEVER" 445 (.int 0 444) :: en P "ALWAYS" 447 (.int 1 446) :: en P "KEEP" 449 (.int 2 448) :: en P "FIRST" 451 (.int 3 450) :: en P "LAST" 453 (.int 4 452) :: en P "painted" 459 (.ref 186) :: en P "mark_groups" 470 (.ref 193) :: en P "mark_rule" 483 (.ref 200) :: en P "line_faces" 489 (.ref 205) :: en P "FontLock" 563 (.ref 246) :: en P "_law_draw" 573 (.ref 257) :: en P "_law_line" 579 (.ref 262) :: en P "_law_walked" 594 (.ref 269) :: en P "_law_begins" 603 (.ref 276) :: en P "_law_asked" 609 (.ref 281) :: en P "_law_changed" 615 (.ref 286) :: en P "law" 621 (.ref 291) :: []) 37) ::
   (nat_lit 54, kO "__init__" "Signs.__init__" 247 16 7 49 181 true 257) ::
   (nat_lit 55, fO (mth 7 0) "Signs.__init__" mSyn 54) ::
   (nat_lit 57, dO (en P "__module__" 242 (.str "emacs.fontsyntax" 227) :: en P "__firstlineno__" 246 (.int 14 245) :: en P "__init__" 259 (.ref 55) :: en P "__static_attributes__" 266 (.ref 56) :: en P "__dict__" 268 (.ref 59) :: en P "__weakref__" 270 (.ref 60) :: en P "__doc__" 271 (.none) :: []) 4) ::
   (nat_lit 58, cO "Signs" 58 57 235 243) ::
   (nat_lit 68, kO "stands_at" "stands_at" 274 23 3 63 181 true 280) ::
   (nat_lit 69, fO (tp 8) "stands_at" mSyn 68) ::
   (nat_lit 75, kO "is_line_comment" "is_line_comment" 283 25 3 70 181 true 290) ::
   (nat_lit 76, fO (tp 9) "is_line_comment" mSyn 75) ::
   (nat_lit 89, kO "__init__" "Scan.__init__" 305 32 4 84 181 true 312) ::
   (nat_lit 90, fO (mth 10 0) "Scan.__init__" mSyn 89) ::
   (nat_lit 96, kO "leave" "Scan.leave" 315 40 1 91 181 true 319) ::
   (nat_lit 97, fO (mth 10 1) "Scan.leave" mSyn 96) ::
   (nat_lit 103, kO "enter" "Scan.enter" 322 44 2 98 181 true 327) ::
   (nat_lit 104, fO (mth 10 2) "Scan.enter" mSyn 103) ::
   (nat_lit 110, kO "in_code" "Scan.in_code" 330 48 1 105 181 true 336) ::
   (nat_lit 111, fO (mth 10 3) "Scan.in_code" mSyn 110) ::
   (nat_lit 117, kO "in_string" "Scan.in_string" 339 64 1 112 181 true 344) ::
   (nat_lit 118, fO (mth 10 4) "Scan.in_string" mSyn 117) ::
   (nat_lit 124, kO "in_comment" "Scan.in_comment" 347 74 1 119 181 true 353) ::
   (nat_lit 125, fO (mth 10 5) "Scan.in_comment" mSyn 124) ::
   (nat_lit 131, kO "go" "Scan.go" 356 89 1 126 181 true 360) ::
   (nat_lit 132, fO (mth 10 6) "Scan.go" mSyn 131) ::
   (nat_lit 134, dO (en P "__module__" 300 (.str "emacs.fontsyntax" 227) :: en P "__firstlineno__" 304 (.int 30 303) :: en P "__init__" 314 (.ref 90) :: en P "leave" 321 (.ref 97) :: en P "enter" 329 (.ref 104) :: en P "in_code" 338 (.ref 111) :: en P "in_string" 346 (.ref 118) :: en P "in_comment" 355 (.ref 125) :: en P "go" 362 (.ref 132) :: en P "__static_attributes__" 369 (.ref 133) :: en P "__dict__" 371 (.ref 136) :: en P "__weakref__" 373 (.ref 137) :: en P "__doc__" 374 (.none) :: []) 4) ::
   (nat_lit 135, cO "Scan" 135 134 293 301) ::
   (nat_lit 145, kO "scanned" "scanned" 377 99 3 140 181 true 384) ::
   (nat_lit 146, fO (tp 11) "scanned" mSyn 145) ::
   (nat_lit 159, kO "__init__" "LineStates.__init__" 399 105 3 154 181 true 406) ::
   (nat_lit 160, fO (mth 12 0) "LineStates.__init__" mSyn 159) ::
   (nat_lit 166, kO "changed" "LineStates.changed" 409 111 5 161 181 true 421) ::
   (nat_lit 167, fO (mth 12 1) "LineStates.changed" mSyn 166) ::
   (nat_lit 173, kO "begin_of" "LineStates.begin_of" 424 124 2 168 181 true 429) ::
   (nat_lit 174, fO (mth 12 2) "LineStates.begin_of" mSyn 173) ::
   (nat_lit 176, dO (en P "__module__" 394 (.str "emacs.fontsyntax" 227) :: en P "__firstlineno__" 398 (.int 103 397) :: en P "__init__" 408 (.ref 160) :: en P "changed" 423 (.ref 167) :: en P "begin_of" 431 (.ref 174) :: en P "__static_attributes__" 434 (.ref 175) :: en P "__dict__" 436 (.ref 178) :: en P "__weakref__" 438 (.ref 179) :: en P "__doc__" 439 (.none) :: []) 4) ::
   (nat_lit 177, cO "LineStates" 177 176 387 395) ::
   (nat_lit 185, kO "painted" "painted" 454 132 5 182 181 false 457) ::
   (nat_lit 186, fO (tp 19) "painted" mLock 185) ::
   (nat_lit 204, kO "line_faces" "line_faces" 484 160 6 201 181 false 487) ::
   (nat_lit 205, fO (tp 22) "line_faces" mLock 204) ::
   (nat_lit 216, kO "__init__" "FontLock.__init__" 502 169 6 213 181 false 505) ::
   (nat_lit 217, fO (mth 23 0) "FontLock.__init__" mLock 216) ::
   (nat_lit 223, kO "look" "FontLock.look" 508 178 3 218 181 true 516) ::
   (nat_lit 224, fO (mth 23 1) "FontLock.look" mLock 223) ::
   (nat_lit 237, kO "changed" "FontLock.changed" 529 189 5 232 181 true 540) ::
   (nat_lit 238, fO (mth 23 3) "FontLock.changed" mLock 237) ::
   (nat_lit 242, kO "dirty" "FontLock.dirty" 543 196 1 239 181 false 546) ::
   (nat_lit 243, fO (mth 23 4) "FontLock.dirty" mLock 242) ::
   (nat_lit 245, dO (en P "__module__" 497 (.str "emacs.fontlock" 442) :: en P "__firstlineno__" 501 (.int 167 500) :: en P "__init__" 507 (.ref 217) :: en P "look" 518 (.ref 224) :: en P "look_at" 528 (.ref 231) :: en P "changed" 542 (.ref 238) :: en P "dirty" 548 (.ref 243) :: en P "__static_attributes__" 556 (.ref 244) :: en P "__dict__" 558 (.ref 247) :: en P "__weakref__" 560 (.ref 248) :: en P "__doc__" 561 (.none) :: []) 4) ::
   (nat_lit 246, cO "FontLock" 246 245 490 498) ::
   (nat_lit 256, kO "_law_draw" "_law_draw" 566 199 2 251 181 true 571) ::
   (nat_lit 257, fO (tp 25) "_law_draw" mLaw 256) ::
   (nat_lit 261, kO "_law_line" "_law_line" 574 201 1 258 181 false 577) ::
   (nat_lit 262, fO (tp 26) "_law_line" mLaw 261) ::
   (nat_lit 268, kO "_law_walked" "_law_walked" 580 203 2 263 181 true 592) ::
   (nat_lit 269, fO (tp 27) "_law_walked" mLaw 268) ::
   (nat_lit 275, kO "_law_begins" "_law_begins" 595 222 1 270 181 true 601) ::
   (nat_lit 276, fO (tp 28) "_law_begins" mLaw 275) ::
   (nat_lit 280, kO "_law_asked" "_law_asked" 604 227 4 277 181 false 607) ::
   (nat_lit 281, fO (tp 29) "_law_asked" mLaw 280) ::
   (nat_lit 285, kO "_law_changed" "_law_changed" 610 234 4 282 181 false 613) ::
   (nat_lit 286, fO (tp 30) "_law_changed" mLaw 285) ::
   (nat_lit 290, kO "law" "law" 616 245 1 287 181 false 619) ::
   (nat_lit 291, fO (tp 31) "law" mLaw 290) :: []
noncomputable def KA : List Addr := [3, 54, 55, 57, 58, 68, 69, 75, 76, 89, 90, 96, 97, 103, 104, 110, 111, 117, 118, 124, 125, 131, 132, 134, 135, 145, 146, 159, 160, 166, 167, 173, 174, 176, 177, 185, 186, 204, 205, 216, 217, 223, 224, 237, 238, 242, 243, 245, 246, 256, 257, 261, 262, 268, 269, 275, 276, 280, 281, 285, 286, 290, 291]
theorem KA_eq (P : Params) : KA = (KF P).map (·.1) := by kernel_rfl
noncomputable def viewQ : Program := view PySem.Challenge.pw_xm0233_01 [0, 2, 4, 5, 6, 7, 8, 9, 10, 11, 12, 14, 15, 16, 17, 18, 19, 20, 21, 22, 23, 25, 26, 27, 28, 29, 30, 31]
abbrev rw' : OpenRow := OpenLaw.row PySem.Challenge.rw_xm0233_01
noncomputable abbrev hk : Hook := kHook KF KA KA_eq
theorem left_of_boot {p q : Program} {loose : List Str} {Xt : Shared → Bool} {α : Type} {Yf : Shared → α} {Ya : World → α} {N : Nat} {g0 : Bool}
    (e : opening p = plainProg p.main.scope.names) (hN : Nat.ble 600 N = true) (f : ∀ s, fenceModules? p s = some s)
    (k : ∀ w : World, (fun os => (topFrom treeTable p w N ⟨boot_heap w.params, Array.mk [], boot_drawn, boot_toks, os⟩).map (fun s => (openSeen q loose (importedModules p.main.body) Xt g0 s, Yf s))) = fun _ => some (openGood q loose, Ya w)) :
    LeftO p q loose Xt Yf Ya N g0 := fun w => by
  obtain ⟨⟨h, gs, d, t, os⟩, h1, h2⟩ := Option.map_eq_some_iff.mp (boot_open e hN f w)
  have h2 : (h, gs, d, t) = (boot_heap w.params, Array.mk [], boot_drawn, boot_toks) := h2
  obtain ⟨rfl, rfl, rfl, rfl⟩ : h = boot_heap w.params ∧ gs = Array.mk [] ∧ d = boot_drawn ∧ t = boot_toks := by simpa only [Prod.mk.injEq] using h2
  unfold openEnds
  rw [h1]
  exact congrFun (k w) os
/-! the top's run over a tree of objects, by the library's own steps -/
noncomputable def topRunT (tb : String → Option Builtin) (p : Program) (w : World) (n₀ : Nat) (ann : Option Value) : Nat → SharedT → Thread → Option SharedT
  | 0, _, _ => none
  | n + 1, s, t => match through t with
    | true => some s
    | false => match PySem.W.Fast.tw6613529449190102663 n₀ ann t with
      | false => none
      | true => match PySem.W.Fast.tw10156331382660048174 (PySem.W.Fast.tw11892475500146522536 tb) p w s t with
        | some (s', t') => topRunT tb p w n₀ ann n s' t'
        | none => none
theorem topRunT_of {tb : String → Option Builtin} {p : Program} {w : World} {n₀ : Nat} {ann : Option Value} : ∀ {n : Nat} {s s' : SharedT} {t : Thread}, topRunT tb p w n₀ ann n s t = some s' → topRun tb p w n₀ ann n s.abs t = some s'.abs
  | 0, _, _, _, h => by cases h
  | n + 1, s, s', t, h => by
    unfold topRunT at h
    rw [← PySem.W.Fast.te6613529449190102663, ← PySem.W.Fast.te10156331382660048174, ← PySem.W.Fast.te11892475500146522536] at h
    unfold topRun
    cases ht : through t with
    | true => rw [ht] at h; cases h; rfl
    | false =>
      rw [ht] at h
      cases hk : stepOk n₀ ann t with
      | false => rw [hk] at h; cases h
      | true =>
        rw [hk] at h
        cases hs : stepT (denote tb) p w s t with
        | none => rw [hs] at h; cases h
        | some r => obtain ⟨s₂, t₂⟩ := r; rw [hs] at h; rw [stepT_spec hs]; exact topRunT_of h
noncomputable def bootT (P : Params) : BT :=
  .node (boot_o_0 P) (.node (boot_o_1 P) (.node (boot_o_3 P) (.node (boot_o_7 P) .nil .nil) .nil) (.node (boot_o_5 P) (.node (boot_o_9 P) .nil .nil) .nil))
    (.node (boot_o_2 P) (.node (boot_o_4 P) (.node (boot_o_8 P) .nil .nil) .nil) (.node (boot_o_6 P) (.node (boot_o_10 P) .nil .nil) .nil))
noncomputable def bootS (P : Params) (os : OsState) : SharedT := ⟨bootT P, 11, (boot_heap P).life, Array.mk [], boot_drawn, boot_toks, os⟩
theorem bootS_abs (P : Params) (os : OsState) : (bootS P os).abs = ⟨boot_heap P, Array.mk [], boot_drawn, boot_toks, os⟩ := by kernel_rfl
theorem boot_sz (P : Params) : (boot_heap P).objs.size = 11 := by kernel_rfl
theorem boot_an (P : Params) : (boot_heap P).nsMap mainGlobals "__annotations__" = some (.ref 6) := by kernel_rfl
theorem boot_ns (P : Params) : ((boot_heap P).isNs mainGlobals && (Array.mk [] : Array GenState).size == 0) = true := by kernel_rfl
theorem left_of_bootT {p q : Program} {loose : List Str} {Xt : Shared → Bool} {α : Type} {Yf : Shared → α} {Ya : World → α} {N : Nat} {g0 : Bool}
    (e : opening p = plainProg p.main.scope.names) (hN : Nat.ble 600 N = true) (f : ∀ s, fenceModules? p s = some s)
    (k : ∀ w : World, (fun os => (topRunT treeTable p w 11 (some (.ref 6)) N (bootS w.params os) (topStub p)).map fun s =>
      ((staticsOk (importedModules p.main.body) (boot_heap w.params) s.abs.heap && namesBound p s.abs.heap && gensDone s.abs && laidKept (boot_heap w.params) s.abs.heap),
        PySem.W.Fast.tw4187177175401517315 q loose (importedModules p.main.body) Xt g0 s.abs, Yf s.abs)) = fun _ => some (true, openGood q loose, Ya w)) :
    LeftO p q loose Xt Yf Ya N g0 := left_of_boot e hN f fun w => funext fun os => by
  obtain ⟨s, h1, h2⟩ := Option.map_eq_some_iff.mp (congrFun (k w) os)
  have r := topRunT_of h1
  rw [bootS_abs] at r
  rw [← PySem.W.Fast.te4187177175401517315] at h2
  simp only [Prod.mk.injEq] at h2
  unfold topFrom
  dsimp only
  rw [boot_ns, boot_sz, boot_an, r]
  dsimp only [Option.bind_some]
  rw [h2.1]
  exact congrArg some (Prod.ext h2.2.1 h2.2.2)
theorem e1 : opening rw'.toRowW.prog = plainProg rw'.toRowW.prog.main.scope.names := rfl
theorem e2 : ∀ s, fenceModules? rw'.toRowW.prog s = some s := fun s => rfl
theorem left : LeftO rw'.toRowW.prog viewQ [] (fun s => xlAt viewQ [] s && recOk rw'.toRowW.records s) hk.obs hk.val 4310 := left_of_bootT e1 rfl e2 fun w => by kernel_rfl
theorem said : OpenLaw.wellSaid PySem.Challenge.rw_xm0233_01 = true := (congrFun PySem.W.Fast.te9446332074065402090 _).trans (by kernel_rfl)
theorem chains : (chainsOk viewQ && opensWell rw'.prog && (frees rw'.toRowW && rw'.within.isEmpty)) = true := by decide +kernel
theorem hw' : rw'.toRowW.promised := by w_witness2
theorem hd (walk : ∀ d kwd, d.name = rw'.name → WalkO viewQ [] (XL viewQ []) hk.says rw'.toRowW d kwd fun f vs => PySem.call f vs) : PySem.Challenge.rw_xm0233_01.Holds :=
  holds_law said fun sd => holds_open (r := rw') (q := viewQ) (loose := []) (Xt := fun s => xlAt viewQ [] s && recOk rw'.toRowW.records s) (XP := XL viewQ []) (Yf := hk.obs) (Ya := hk.val) (YP := hk.says) (N := 4310) left hk.of hk.keeps
    (fun s e => xl_of s (Bool.and_eq_true_iff.mp e).1) XL.keeps (by rfl) (by rfl) (by rfl) (fun s e => recFacts_of (Bool.and_eq_true_iff.mp e).2) (by rfl) sd chains ⟨rfl, rfl, rfl, rfl, rfl, by decide +kernel⟩ hw' (walk _ _ rfl)
/-! ## the judgement over heaps -/
noncomputable def Kin (s s' : Shared) : Prop := ∃ tk, s' = { s with heap := s'.heap, toks := tk }
theorem Kin.refl (s : Shared) : Kin s s := ⟨s.toks, rfl⟩
theorem Kin.mk (s : Shared) (h : Heap) (tk : Nat) : Kin s { s with heap := h, toks := tk } := ⟨tk, rfl⟩
theorem Kin.trans {a b c : Shared} (x : Kin a b) (y : Kin b c) : Kin a c := by
  obtain ⟨t, e⟩ := x
  obtain ⟨u, e'⟩ := y
  refine ⟨u, ?_⟩
  rw [e'] at *
  rw [e]

noncomputable def Rn {α : Type} (M : Model) (A : Around) (t : Sem α) (Q : α → Heap → Prop) (h : Heap) : Prop :=
  ∀ s : Shared, s.heap = h → wpAny M A t (fun a s' => Kin s s' ∧ Q a s'.heap) (fun _ _ => False) s
noncomputable def Rc (M : Model) (A : Around) (c : Code) (Q : Flow → Heap → Prop) (h : Heap) : Prop :=
  ∀ s : Shared, s.heap = h → codeAny M A c (fun r s' => match r with | .ok f => Kin s s' ∧ Q f s'.heap | .error _ => False) s

section
variable {α β : Type} {M : Model} {A : Around} {h : Heap}
theorem Rn.pure {a : α} {Q : α → Heap → Prop} (q : Q a h) : Rn M A (pure a) Q h := fun s hs => wpAny_pure ⟨.refl s, hs ▸ q⟩
theorem Rn.mono {t : Sem α} {Q Q' : α → Heap → Prop} (x : Rn M A t Q h) (q : ∀ a h', Q a h' → Q' a h') : Rn M A t Q' h :=
  fun s hs => wpAny_mono (x s hs) (fun a s' y => ⟨y.1, q _ _ y.2⟩) fun _ _ e => e
theorem Rn.bind {m : Sem α} {f : α → Sem β} {Q : β → Heap → Prop} (x : Rn M A m (fun a h' => Rn M A (f a) Q h') h) : Rn M A (m >>= f) Q h :=
  fun s hs => wpAny_bind (wpAny_mono (x s hs) (fun a s' y => wpAny_mono (y.2 s' rfl) (fun b s'' z => ⟨y.1.trans z.1, z.2⟩) fun _ _ e => e) fun _ _ e => e)
theorem Rn.of_eq {t t' : Sem α} {Q : α → Heap → Prop} (e : t = t') (x : Rn M A t' Q h) : Rn M A t Q h := e ▸ x
theorem Rn.of_in1 {t : Sem α} {Q : α → Heap → Prop} (x : Rn M A.in1 t Q h) : Rn M A t Q h := fun s hs => wpAny_of_in1 (x s hs)
/-- the way into a library rule -/
theorem Rn.go {t : Sem α} {P : α → Heap → Prop} {Q' : α → Shared → Prop} {E : Value → Shared → Prop} {s₀ s : Shared} (x : Rn M A t P s.heap) (ks : Kin s₀ s)
    (k : ∀ a s', Kin s₀ s' → P a s'.heap → Q' a s') : wpAny M A t Q' E s :=
  wpAny_mono (x s rfl) (fun a s' y => k a s' (ks.trans y.1) y.2) fun _ _ e => e.elim
theorem Rn.call {f : Value} {pos : List Value} {Q : Value → Heap → Prop} (x : Rc M A (.call f ⟨pos, []⟩) (fun fl h' => match fl with | .ret v => Q v h' | _ => False) h) : Rn M A (PySem.call f pos) Q h :=
  fun s hs => wpAny_call (codeAny_mono (x s hs) (fun r s' y => by
    cases r with
    | error e => exact y.elim
    | ok f => cases f <;> first | exact y.2.elim | exact y))
end

/-! ## abstract data -/
noncomputable abbrev Fz := List (Addr × Obj)
inductive D where
  | none
  | bool (b : Bool)
  | int (i : Int)
  | str (x : Str)
  | tup (ds : List D)
  | lst (ds : List D)
  | own (a : Addr)
  | obj (C dx : Addr)
  | rng (a b : Int)
  | raw (v : Value)
  | frz (o : Obj)
noncomputable abbrev tupObj (vs : List Value) (n : Nat) : Obj := { cls := .type "tuple", data := .seq vs.toArray n }
noncomputable abbrev rngObj (a b : Int) (t u w : Tok) : Obj := { cls := .type "range", data := .fields #[.int a t, .int b u, .int 1 w] }
mutual
inductive VD (fz : Fz) : Value → D → Prop
  | none : VD fz .none .none
  | bool (b : Bool) : VD fz (.bool b) (.bool b)
  | int (i : Int) (t : Tok) : VD fz (.int i t) (.int i)
  | str (x : Str) (t : Tok) : VD fz (.str x t) (.str x)
  | tup {a : Addr} {vs : List Value} {n : Nat} {ds : List D} : (a, tupObj vs n) ∈ fz → VA fz vs ds → VD fz (.ref a) (.tup ds)
  | lst {a : Addr} {vs : List Value} {n : Nat} {ds : List D} : (a, listOf vs.toArray n) ∈ fz → VA fz vs ds → VD fz (.ref a) (.lst ds)
  | own (a : Addr) : VD fz (.ref a) (.own a)
  | obj {x C dx : Addr} : (x, instObj C dx) ∈ fz → VD fz (.ref x) (.obj C dx)
  | rng {r : Addr} {a b : Int} {t u w : Tok} : (r, rngObj a b t u w) ∈ fz → VD fz (.ref r) (.rng a b)
  | raw (v : Value) : VD fz v (.raw v)
  | frz {a : Addr} {o : Obj} : (a, o) ∈ fz → VD fz (.ref a) (.frz o)
inductive VA (fz : Fz) : List Value → List D → Prop
  | nil : VA fz [] []
  | cons {v : Value} {vs : List Value} {d : D} {ds : List D} : VD fz v d → VA fz vs ds → VA fz (v :: vs) (d :: ds)
end
mutual
theorem VD.mono {fz fz' : Fz} (hs : ∀ p ∈ fz, p ∈ fz') : ∀ {v : Value} {d : D}, VD fz v d → VD fz' v d
  | _, _, .none => .none
  | _, _, .bool b => .bool b
  | _, _, .int i t => .int i t
  | _, _, .str x t => .str x t
  | _, _, .tup h r => .tup (hs _ h) (VA.mono hs r)
  | _, _, .lst h r => .lst (hs _ h) (VA.mono hs r)
  | _, _, .own a => .own a
  | _, _, .obj h => .obj (hs _ h)
  | _, _, .rng h => .rng (hs _ h)
  | _, _, .raw v => .raw v
  | _, _, .frz h => .frz (hs _ h)
theorem VA.mono {fz fz' : Fz} (hs : ∀ p ∈ fz, p ∈ fz') : ∀ {vs : List Value} {ds : List D}, VA fz vs ds → VA fz' vs ds
  | _, _, .nil => .nil
  | _, _, .cons h r => .cons (VD.mono hs h) (VA.mono hs r)
end
section
variable {fz : Fz} {vs ws : List Value} {ds es : List D} {v : Value} {d : D}
theorem VA.length (h : VA fz vs ds) : vs.length = ds.length := by
  induction vs generalizing ds with
  | nil => cases h; rfl
  | cons v vs ih => cases h with | cons _ r => rw [List.length_cons, List.length_cons, ih r]
theorem VA.append (h : VA fz vs ds) (k : VA fz ws es) : VA fz (vs ++ ws) (ds ++ es) := by
  induction vs generalizing ds with
  | nil => cases h; exact k
  | cons v vs ih => cases h with | cons h r => exact .cons h (ih r)
theorem VA.one (h : VD fz v d) : VA fz [v] [d] := .cons h .nil
theorem VA.get (h : VA fz vs ds) {k : Nat} (hk : ds[k]? = some d) : ∃ v, vs[k]? = some v ∧ VD fz v d := by
  induction vs generalizing ds k with
  | nil => cases h; cases hk
  | cons v vs ih =>
    cases h with
    | cons h r =>
      cases k with
      | zero => cases hk; exact ⟨v, rfl, h⟩
      | succ k => exact ih r hk
theorem VA.getR (h : VA fz vs ds) {k : Nat} (hk : vs[k]? = some v) : ∃ d, ds[k]? = some d ∧ VD fz v d := by
  induction vs generalizing ds k with
  | nil => cases hk
  | cons u vs ih =>
    cases h with
    | cons h r =>
      cases k with
      | zero => cases hk; exact ⟨_, rfl, h⟩
      | succ k => exact ih r hk
theorem VA.take (h : VA fz vs ds) (n : Nat) : VA fz (vs.take n) (ds.take n) := by
  induction n generalizing vs ds with
  | zero => exact .nil
  | succ n ih => cases h with | nil => exact .nil | cons h r => exact .cons h (ih r)
theorem VA.drop (h : VA fz vs ds) (n : Nat) : VA fz (vs.drop n) (ds.drop n) := by
  induction n generalizing vs ds with
  | zero => exact h
  | succ n ih => cases h with | nil => exact .nil | cons h r => exact ih r
theorem VA.set (h : VA fz vs ds) (hv : VD fz v d) (n : Nat) : VA fz (vs.set n v) (ds.set n d) := by
  induction n generalizing vs ds with
  | zero => cases h with | nil => exact .nil | cons h r => exact .cons hv r
  | succ n ih => cases h with | nil => exact .nil | cons h r => exact .cons h (ih r)
end

/-! ## namespaces -/
inductive Lk : List (Str × D) → Str → D → Prop
  | z {x : Str} {d : D} {l : List (Str × D)} : Lk ((x, d) :: l) x d
  | s {x y : Str} {d e : D} {l : List (Str × D)} : (y == x) = false → Lk l x d → Lk ((y, e) :: l) x d
inductive Nk : List (Str × D) → Str → Prop
  | z {x : Str} : Nk [] x
  | s {x y : Str} {e : D} {l : List (Str × D)} : (y == x) = false → Nk l x → Nk ((y, e) :: l) x
inductive Pt : List (Str × D) → Str → D → List (Str × D) → Prop
  | n {x : Str} {d : D} : Pt [] x d [(x, d)]
  | z {x : Str} {d e : D} {l : List (Str × D)} : Pt ((x, e) :: l) x d ((x, d) :: l)
  | s {x y : Str} {d e : D} {l l' : List (Str × D)} : (y == x) = false → Pt l x d l' → Pt ((y, e) :: l) x d ((y, e) :: l')
inductive ES (P : Params) (fz : Fz) : List DictEntry → List (Str × D) → Prop
  | nil : ES P fz [] []
  | cons {x : Str} {t : Tok} {v : Value} {d : D} {es : List DictEntry} {fs : List (Str × D)} : VD fz v d → ES P fz es fs → ES P fz (⟨PyData.keyHash P x, .str x t, v⟩ :: es) ((x, d) :: fs)
section
variable {P : Params} {fz fz' : Fz} {es : List DictEntry} {fs fs' : List (Str × D)} {x : Str} {d : D} {v : Value} {t : Tok}
theorem ES.mono (hs : ∀ p ∈ fz, p ∈ fz') (h : ES P fz es fs) : ES P fz' es fs := by
  induction h with
  | nil => exact .nil
  | cons a _ ih => exact .cons (a.mono hs) ih
theorem ES.length (h : ES P fz es fs) : es.length = fs.length := by
  induction h with
  | nil => rfl
  | cons a _ ih => simp [ih]
theorem isStr_eq (x y : Str) (t : Tok) : (Value.str x t).isStr y = (x == y) := rfl
theorem ES.get (h : ES P fz es fs) (k : Lk fs x d) : ∃ v, getL x es = some (some v) ∧ VD fz v d := by
  induction h with
  | nil => cases k
  | @cons y t v e es fs a _ ih =>
    cases k with
    | z => exact ⟨v, by simp [getL, isStr_eq], a⟩
    | s n k =>
      obtain ⟨u, hu, hd⟩ := ih k
      refine ⟨u, ?_, hd⟩
      unfold getL at hu ⊢
      rw [List.find?_cons]
      simp only [isStr_eq, n]
      split at hu
      · rename_i e he; rw [he]; exact hu
      · split at hu <;> cases hu
theorem ES.noref (h : ES P fz es fs) : es.any (·.refKey) = false := by
  induction h with
  | nil => rfl
  | cons a _ ih => rw [List.any_cons, ih]; rfl
theorem ES.miss (h : ES P fz es fs) (k : Nk fs x) : getL x es = some none := by
  have : es.find? (·.key.isStr x) = none := by
    induction h with
    | nil => rfl
    | @cons y t v e es fs a _ ih =>
      cases k with
      | s n k => rw [List.find?_cons]; simp only [isStr_eq, n]; exact ih k
  unfold getL
  rw [this, h.noref]; rfl
theorem ES.some (h : ES P fz es fs) : (getL x es).isSome = true := by
  unfold getL
  split
  · rfl
  · rw [h.noref]; rfl
theorem ES.put (h : ES P fz es fs) (k : Pt fs x d fs') (hv : VD fz v d) : ES P fz (putL x (PyData.keyHash P x) (.str x t) v es) fs' := by
  induction h generalizing fs' with
  | nil => cases k; exact .cons hv .nil
  | @cons y t' u e es fs a r ih =>
    cases k with
    | z => simp only [putL, isStr_eq, beq_self_eq_true, if_true]; exact .cons hv r
    | s n k => simp only [putL, isStr_eq, n]; exact .cons a (ih k)
theorem Pt.length (k : Pt fs x d fs') : fs'.length ≤ fs.length + 1 := by
  induction k with
  | n => exact Nat.le_refl _
  | z => exact Nat.le_succ _
  | s _ _ ih => exact Nat.succ_le_succ ih
end

/-! ## resources -/
inductive Res where
  | list (ds : List D)
  | ns (fs : List (Str × D))
  | fm (fs : List (Str × D))
  | cell (d : Option D)
  | dic (kvs : List (Str × D))
  | raw (P : Obj → Prop)
inductive ZV (fz : Fz) : List (Str × Value) → List (Str × D) → Prop
  | nil : ZV fz [] []
  | cons {x : Str} {v : Value} {d : D} {kv : List (Str × Value)} {kd : List (Str × D)} : VD fz v d → ZV fz kv kd → ZV fz ((x, v) :: kv) ((x, d) :: kd)
theorem ZV.mono {fz fz' : Fz} (hs : ∀ p ∈ fz, p ∈ fz') {kv : List (Str × Value)} {kd : List (Str × D)} (h : ZV fz kv kd) : ZV fz' kv kd := by
  induction h with
  | nil => exact .nil
  | cons a _ ih => exact .cons (a.mono hs) ih
noncomputable def OV (fz : Fz) : Option Value → Option D → Prop
  | none, none => True
  | some v, some d => VD fz v d
  | _, _ => False
theorem OV.mono {fz fz' : Fz} (hs : ∀ p ∈ fz, p ∈ fz') : ∀ {v : Option Value} {d : Option D}, OV fz v d → OV fz' v d
  | none, none, _ => True.intro
  | some _, some _, h => VD.mono hs h
  | none, some _, h => h.elim
  | some _, none, h => h.elim
noncomputable def Res.ok (pg : Program) (w : World) (fz : Fz) : Res → Obj → Prop
  | .list ds, o => ∃ vs n, o = listOf (List.toArray vs) n ∧ VA fz vs ds
  | .ns fs, o => ∃ es n, o = dictOf es n ∧ ES w.params fz es fs
  | .fm fs, o => ∃ es ep, o.data = .dict es ep ∧ StrKeys es ∧ ∀ y, OV fz (nsFind es y) (fs.lookup y)
  | .cell d, o => ∃ v, o.data = .cell v ∧ OV fz v d
  | .dic kd, o => ∃ kv, o.IsDictOf (strKind pg w) kv ∧ ZV fz kv kd
  | .raw R, o => R o
theorem Res.ok.mono {pg : Program} {w : World} {fz fz' : Fz} (hs : ∀ p ∈ fz, p ∈ fz') : ∀ {r : Res} {o : Obj}, r.ok pg w fz o → r.ok pg w fz' o
  | .list _, _, ⟨vs, n, e, a⟩ => ⟨vs, n, e, a.mono hs⟩
  | .ns _, _, ⟨es, n, e, a⟩ => ⟨es, n, e, a.mono hs⟩
  | .fm fs, _, ⟨es, ep, e, k, a⟩ => ⟨es, ep, e, k, fun y => (a y).mono hs⟩
  | .cell d, _, ⟨v, e, a⟩ => ⟨v, e, a.mono hs⟩
  | .dic _, _, ⟨kv, e, a⟩ => ⟨kv, e, a.mono hs⟩
  | .raw _, _, a => a
noncomputable abbrev OW := List (Addr × Res)
noncomputable abbrev DT := List (Value × D)

structure Cx where
  prog : Program
  w : World
  hb : Heap
  mg : Str → Option Value
  mb : Str → Option Value
  K : (KF w.params).In hb
  lim : hb.NoLimit
  g : hb.Ns mainGlobals mg
  b : hb.Ns builtinsNs mb
  bi : ∀ x : Str, x ≠ "__name__" → mb x = bootBuiltins x
noncomputable abbrev Cx.M (X : Cx) : Model := model X.prog X.w
noncomputable abbrev Cx.P (X : Cx) : Params := X.w.params
noncomputable abbrev Cx.KK (X : Cx) : Frag := KF X.w.params

structure SF (X : Cx) (fz : Fz) (dt : DT) (ow : OW) (h : Heap) : Prop where
  base : ∀ a o, X.hb.get? a = some o → h.get? a = some o
  frz : ∀ p ∈ fz, h.get? p.1 = some p.2
  own : ∀ p ∈ ow, ∃ o, h.get? p.1 = some o ∧ p.2.ok X.prog X.w fz o
  off : ∀ p ∈ ow, X.hb.get? p.1 = none
  sep : ∀ p ∈ ow, ∀ q ∈ fz, p.1 ≠ q.1
  nd : ow.Pairwise (fun p q => p.1 ≠ q.1)
  dat : ∀ p ∈ dt, VD fz p.1 p.2
noncomputable def St (X : Cx) (dt : DT) (ow : OW) (h : Heap) : Prop := ∃ fz, SF X fz dt ow h

inductive Up (a : Addr) (r r' : Res) : OW → OW → Prop
  | z {l : OW} : Up a r r' ((a, r) :: l) ((a, r') :: l)
  | s {p : Addr × Res} {l l' : OW} : Up a r r' l l' → Up a r r' (p :: l) (p :: l')
inductive Ex (a : Addr) (r : Res) : OW → OW → Prop
  | z {l : OW} : Ex a r ((a, r) :: l) l
  | s {p : Addr × Res} {l l' : OW} : Ex a r l l' → Ex a r (p :: l) (p :: l')
theorem Up.split {a : Addr} {r r' : Res} {l l' : OW} (x : Up a r r' l l') : ∃ pre post, l = pre ++ (a, r) :: post ∧ l' = pre ++ (a, r') :: post := by
  induction x with
  | z => exact ⟨[], _, rfl, rfl⟩
  | s _ ih => obtain ⟨pre, post, rfl, rfl⟩ := ih; exact ⟨_ :: pre, post, rfl, rfl⟩
theorem Ex.split {a : Addr} {r : Res} {l l' : OW} (x : Ex a r l l') : ∃ pre post, l = pre ++ (a, r) :: post ∧ l' = pre ++ post := by
  induction x with
  | z => exact ⟨[], _, rfl, rfl⟩
  | s _ ih => obtain ⟨pre, post, rfl, rfl⟩ := ih; exact ⟨_ :: pre, post, rfl, rfl⟩
theorem Up.app {a : Addr} {r r' : Res} {l l' : OW} (x : Up a r r' l l') (f : OW) : Up a r r' (l ++ f) (l' ++ f) := by
  induction x with
  | z => exact .z
  | s _ ih => exact .s ih
theorem Up.mem {a : Addr} {r r' : Res} {l l' : OW} (x : Up a r r' l l') : (a, r) ∈ l := by
  induction x with
  | z => exact .head _
  | s _ ih => exact .tail _ ih
theorem Ex.app {a : Addr} {r : Res} {l l' : OW} (x : Ex a r l l') (f : OW) : Ex a r (l ++ f) (l' ++ f) := by
  induction x with
  | z => exact .z
  | s _ ih => exact .s ih
theorem Ex.perm {a : Addr} {r : Res} {l l' : OW} (x : Ex a r l l') : l.Perm ((a, r) :: l') := by
  obtain ⟨pre, post, rfl, rfl⟩ := x.split
  exact List.perm_middle

section
variable {X : Cx} {fz : Fz} {dt dt' : DT} {ow ow' : OW} {h h' : Heap} {a : Addr} {r r' : Res} {v : Value} {d : D}
theorem SF.sub (S : SF X fz dt ow h) (x : ow'.Sublist ow) : SF X fz dt ow' h :=
  ⟨S.base, S.frz, fun p hp => S.own p (x.subset hp), fun p hp => S.off p (x.subset hp), fun p hp => S.sep p (x.subset hp), S.nd.sublist x, S.dat⟩
theorem SF.perm (S : SF X fz dt ow h) (x : ow.Perm ow') : SF X fz dt ow' h :=
  ⟨S.base, S.frz, fun p hp => S.own p (x.mem_iff.mpr hp), fun p hp => S.off p (x.mem_iff.mpr hp), fun p hp => S.sep p (x.mem_iff.mpr hp), S.nd.perm x (fun h => h.symm), S.dat⟩
theorem SF.dts (S : SF X fz dt ow h) (x : ∀ p ∈ dt', p ∈ dt) : SF X fz dt' ow h :=
  ⟨S.base, S.frz, S.own, S.off, S.sep, S.nd, fun p hp => S.dat p (x p hp)⟩
theorem SF.see (S : SF X fz dt ow h) (x : VD fz v d) : SF X fz ((v, d) :: dt) ow h :=
  ⟨S.base, S.frz, S.own, S.off, S.sep, S.nd, fun p hp => by
    rcases List.mem_cons.mp hp with rfl | hp
    · exact x
    · exact S.dat p hp⟩
theorem SF.ext (S : SF X fz dt ow h) (k : ∀ b o, h.get? b = some o → h'.get? b = some o) : SF X fz dt ow h' :=
  ⟨fun a o e => k _ _ (S.base a o e), fun p hp => k _ _ (S.frz p hp), fun p hp => let ⟨o, ho, hr⟩ := S.own p hp; ⟨o, k _ _ ho, hr⟩, S.off, S.sep, S.nd, S.dat⟩
theorem SF.set {l : OW} (S : SF X fz dt ((a, r) :: l) h) (k : Heap.ExtBut a h h') {o : Obj} (e : h'.get? a = some o) (hr : r'.ok X.prog X.w fz o) : SF X fz dt ((a, r') :: l) h' := by
  have n := S.nd
  rw [List.pairwise_cons] at n
  refine ⟨fun b o' e' => k b o' (fun q => ?_) (S.base b o' e'), fun p hp => k _ _ (fun q => S.sep _ (.head _) p hp q.symm) (S.frz p hp), fun p hp => ?_, fun p hp => ?_, fun p hp => ?_, List.pairwise_cons.mpr n, S.dat⟩
  · have := S.off _ (.head _)
    subst q; rw [this] at e'; cases e'
  · rcases List.mem_cons.mp hp with rfl | hp
    · exact ⟨o, e, hr⟩
    · obtain ⟨o', ho, hr'⟩ := S.own p (.tail _ hp)
      exact ⟨o', k _ _ (n.1 p hp).symm ho, hr'⟩
  · rcases List.mem_cons.mp hp with rfl | hp
    · exact (S.off (a, r) (.head _) : X.hb.get? a = none)
    · exact S.off p (.tail _ hp)
  · rcases List.mem_cons.mp hp with rfl | hp
    · exact (S.sep (a, r) (.head _) : ∀ q ∈ fz, a ≠ q.1)
    · exact S.sep p (.tail _ hp)
theorem SF.up (S : SF X fz dt ow h) (x : Up a r r' ow ow') (k : Heap.ExtBut a h h') {o : Obj} (e : h'.get? a = some o) (hr : r'.ok X.prog X.w fz o) : SF X fz dt ow' h' := by
  obtain ⟨pre, post, rfl, rfl⟩ := x.split
  exact ((S.perm List.perm_middle).set k e hr).perm List.perm_middle.symm
/-- an owned object turns, what it holds no matter -/
theorem SF.new (S : SF X fz dt ow h) (k : ∀ b o, h.get? b = some o → h'.get? b = some o) (n : h.get? a = none) {o : Obj} (e : h'.get? a = some o) (hr : r.ok X.prog X.w fz o) : SF X fz dt ((a, r) :: ow) h' := by
  have S' := S.ext k
  have old : ∀ b o, h.get? b = some o → b ≠ a := fun b o e q => by rw [q, n] at e; cases e
  refine ⟨S'.base, S'.frz, fun p hp => ?_, fun p hp => ?_, fun p hp q hq => ?_, List.pairwise_cons.mpr ⟨fun p hp => ?_, S.nd⟩, S.dat⟩
  · rcases List.mem_cons.mp hp with rfl | hp
    · exact ⟨o, e, hr⟩
    · exact S'.own p hp
  · rcases List.mem_cons.mp hp with rfl | hp
    · cases q : X.hb.get? a with
      | none => rfl
      | some o' => exact absurd rfl (old _ _ (S.base _ _ q))
    · exact S'.off p hp
  · rcases List.mem_cons.mp hp with rfl | hp
    · exact (old _ _ (S.frz q hq)).symm
    · exact S'.sep p hp q hq
  · obtain ⟨o', ho, _⟩ := S.own p hp
    exact (old _ _ ho).symm
theorem SF.newFz (S : SF X fz dt ow h) (k : ∀ b o, h.get? b = some o → h'.get? b = some o) (n : h.get? a = none) {o : Obj} (e : h'.get? a = some o) : SF X ((a, o) :: fz) dt ow h' := by
  have S' := S.ext k
  have old : ∀ b o, h.get? b = some o → b ≠ a := fun b o e q => by rw [q, n] at e; cases e
  have hs : ∀ p ∈ fz, p ∈ (a, o) :: fz := fun p hp => .tail _ hp
  refine ⟨S'.base, fun p hp => ?_, fun p hp => ?_, S.off, fun p hp q hq => ?_, S.nd, fun p hp => (S.dat p hp).mono hs⟩
  · rcases List.mem_cons.mp hp with rfl | hp
    · exact e
    · exact S'.frz p hp
  · obtain ⟨o', ho, hr⟩ := S'.own p hp
    exact ⟨o', ho, hr.mono hs⟩
  · rcases List.mem_cons.mp hq with rfl | hq
    · obtain ⟨o', ho, _⟩ := S.own p hp
      exact old _ _ ho
    · exact S.sep p hp q hq
theorem SF.get (S : SF X fz dt ow h) (m : (a, r) ∈ ow) : ∃ o, h.get? a = some o ∧ r.ok X.prog X.w fz o := S.own _ m
theorem SF.freeze (S : SF X fz dt ow h) (x : Ex a r ow ow') : ∃ o, r.ok X.prog X.w ((a, o) :: fz) o ∧ SF X ((a, o) :: fz) dt ow' h := by
  have S' := S.perm x.perm
  have n := S'.nd
  rw [List.pairwise_cons] at n
  obtain ⟨o, ho, hr⟩ := S'.own _ (.head _)
  have hs : ∀ p ∈ fz, p ∈ (a, o) :: fz := fun p hp => .tail _ hp
  refine ⟨o, hr.mono hs, S'.base, fun p hp => ?_, fun p hp => ?_, fun p hp => S'.off p (.tail _ hp), fun p hp q hq => ?_, n.2, fun p hp => (S.dat p hp).mono hs⟩
  · rcases List.mem_cons.mp hp with rfl | hp
    · exact ho
    · exact S.frz p hp
  · obtain ⟨o', ho', hr'⟩ := S'.own p (.tail _ hp)
    exact ⟨o', ho', hr'.mono hs⟩
  · rcases List.mem_cons.mp hq with rfl | hq
    · exact (n.1 p hp).symm
    · exact S'.sep p (.tail _ hp) q hq
theorem none_at (h : Heap) : h.get? h.objs.size = none := by
  cases e : h.get? h.objs.size with
  | none => rfl
  | some o' => exact absurd (Heap.lt_size e) (Nat.lt_irrefl _)
theorem SF.alloc (S : SF X fz dt ow h) {o : Obj} (hr : r.ok X.prog X.w fz o) (hf : o.isFreed = false := by rfl) : SF X fz dt ((h.objs.size, r) :: ow) (h.push o) :=
  S.new (fun b o e => Heap.get?_push_of_some _ e) (none_at h) (Heap.get?_push_size _ hf) hr
theorem SF.allocFz (S : SF X fz dt ow h) {o : Obj} (hf : o.isFreed = false := by rfl) : SF X ((h.objs.size, o) :: fz) dt ow (h.push o) :=
  S.newFz (fun b o e => Heap.get?_push_of_some _ e) (none_at h) (Heap.get?_push_size _ hf)
theorem SF.push (S : SF X fz dt ow h) (o : Obj) : SF X fz dt ow (h.push o) := S.ext fun b o e => Heap.get?_push_of_some _ e
theorem SF.st (S : SF X fz dt ow h) : St X dt ow h := ⟨fz, S⟩
theorem SF.K (S : SF X fz dt ow h) : X.KK.In h := fun a o e => S.base _ _ (X.K a o e)
theorem St.K (S : St X dt ow h) : X.KK.In h := let ⟨_, S⟩ := S; S.K
theorem St.sub (S : St X dt ow h) (x : ow'.Sublist ow) : St X dt ow' h := let ⟨_, S⟩ := S; (S.sub x).st
theorem St.perm (S : St X dt ow h) (x : ow.Perm ow') : St X dt ow' h := let ⟨_, S⟩ := S; (S.perm x).st
theorem St.dts (S : St X dt ow h) (x : ∀ p ∈ dt', p ∈ dt) : St X dt' ow h := let ⟨_, S⟩ := S; (S.dts x).st
theorem St.ext (S : St X dt ow h) (k : ∀ b o, h.get? b = some o → h'.get? b = some o) : St X dt ow h' := let ⟨_, S⟩ := S; (S.ext k).st
theorem St.int (S : St X dt ow h) (i : Int) (t : Tok) : St X ((.int i t, .int i) :: dt) ow h := let ⟨_, S⟩ := S; (S.see (.int i t)).st
theorem St.bool (S : St X dt ow h) (b : Bool) : St X ((.bool b, .bool b) :: dt) ow h := let ⟨_, S⟩ := S; (S.see (.bool b)).st
theorem St.none (S : St X dt ow h) : St X ((.none, .none) :: dt) ow h := let ⟨_, S⟩ := S; (S.see .none).st
theorem St.raw (S : St X dt ow h) (v : Value) : St X ((v, .raw v) :: dt) ow h := let ⟨_, S⟩ := S; (S.see (.raw v)).st
theorem St.str (S : St X dt ow h) (x : Str) (t : Tok) : St X ((.str x t, .str x) :: dt) ow h := let ⟨_, S⟩ := S; (S.see (.str x t)).st
end
/-! ## the frame-closed judgements -/
inductive Fl where
  | next | brk | cont
  | ret (d : D)

section
variable (X : Cx)
noncomputable def VQ (dt : DT) (fr : OW) (P : D → OW → Prop) (v : Value) (h' : Heap) : Prop := ∃ d ow', St X ((v, d) :: dt) (ow' ++ fr) h' ∧ P d ow'
noncomputable def UQ (dt : DT) (fr : OW) (P : OW → Prop) (h' : Heap) : Prop := ∃ ow', St X dt (ow' ++ fr) h' ∧ P ow'
noncomputable def FQ (dt : DT) (fr : OW) (P : Fl → OW → Prop) : Flow → Heap → Prop
  | .ret v, h' => VQ X dt fr (fun d => P (.ret d)) v h'
  | .next, h' => UQ X dt fr (P .next) h'
  | .brk, h' => UQ X dt fr (P .brk) h'
  | .cont, h' => UQ X dt fr (P .cont) h'
inductive DA (dt : DT) : List Value → List D → Prop
  | nil : DA dt [] []
  | cons {v : Value} {d : D} {vs : List Value} {ds : List D} : (v, d) ∈ dt → DA dt vs ds → DA dt (v :: vs) (d :: ds)
variable (A : Around)
noncomputable def Tv (t : Sem Value) (ow : OW) (P : D → OW → Prop) : Prop := ∀ dt fr h, St X dt (ow ++ fr) h → Rn X.M A t (VQ X dt fr P) h
noncomputable def T1 (t : Value → Sem Value) (d₁ : D) (ow : OW) (P : D → OW → Prop) : Prop := ∀ dt fr h a, St X dt (ow ++ fr) h → (a, d₁) ∈ dt → Rn X.M A (t a) (VQ X dt fr P) h
noncomputable def T2 (t : Value → Value → Sem Value) (d₁ d₂ : D) (ow : OW) (P : D → OW → Prop) : Prop :=
  ∀ dt fr h a b, St X dt (ow ++ fr) h → (a, d₁) ∈ dt → (b, d₂) ∈ dt → Rn X.M A (t a b) (VQ X dt fr P) h
noncomputable def TL (t : List Value → Sem Value) (ds : List D) (ow : OW) (P : D → OW → Prop) : Prop := ∀ dt fr h vs, St X dt (ow ++ fr) h → DA dt vs ds → Rn X.M A (t vs) (VQ X dt fr P) h
/-- a call's contract, on the code -/
noncomputable def TC (f : Value) (ds : List D) (ow : OW) (P : D → OW → Prop) : Prop := ∀ dt fr h vs, St X dt (ow ++ fr) h → DA dt vs ds → Rc X.M A (.call f ⟨vs, []⟩) (fun fl h' => match fl with | .ret v => VQ X dt fr P v h' | _ => False) h
noncomputable def Tl (t : Sem (List Value)) (ow : OW) (P : List D → OW → Prop) : Prop := ∀ dt fr h, St X dt (ow ++ fr) h →
  Rn X.M A t (fun vs h' => ∃ ds ow', St X (vs.zip ds ++ dt) (ow' ++ fr) h' ∧ vs.length = ds.length ∧ P ds ow') h
noncomputable def Tb (t : Sem Bool) (ow : OW) (P : Bool → OW → Prop) : Prop := ∀ dt fr h, St X dt (ow ++ fr) h → Rn X.M A t (fun b => UQ X dt fr (P b)) h
noncomputable def B1 (t : Value → Sem Bool) (d₁ : D) (ow : OW) (P : Bool → OW → Prop) : Prop := ∀ dt fr h a, St X dt (ow ++ fr) h → (a, d₁) ∈ dt → Rn X.M A (t a) (fun b => UQ X dt fr (P b)) h
noncomputable def U1 (t : Value → Sem Unit) (d₁ : D) (ow : OW) (P : OW → Prop) : Prop := ∀ dt fr h a, St X dt (ow ++ fr) h → (a, d₁) ∈ dt → Rn X.M A (t a) (fun _ => UQ X dt fr P) h
noncomputable def U2 (t : Value → Value → Sem Unit) (d₁ d₂ : D) (ow : OW) (P : OW → Prop) : Prop :=
  ∀ dt fr h a b, St X dt (ow ++ fr) h → (a, d₁) ∈ dt → (b, d₂) ∈ dt → Rn X.M A (t a b) (fun _ => UQ X dt fr P) h
noncomputable def U3 (t : Value → Value → Value → Sem Unit) (d₁ d₂ d₃ : D) (ow : OW) (P : OW → Prop) : Prop :=
  ∀ dt fr h a b c, St X dt (ow ++ fr) h → (a, d₁) ∈ dt → (b, d₂) ∈ dt → (c, d₃) ∈ dt → Rn X.M A (t a b c) (fun _ => UQ X dt fr P) h
noncomputable def Tf (t : Sem Flow) (ow : OW) (P : Fl → OW → Prop) : Prop := ∀ dt fr h, St X dt (ow ++ fr) h → Rn X.M A t (FQ X dt fr P) h
end

section
variable {X : Cx} {dt dt' : DT} {fr : OW} {P Q : D → OW → Prop} {h : Heap} {v : Value} {A : Around} {ow ow' : OW}
theorem VQ.sub (x : VQ X dt' fr P v h) (s : ∀ p ∈ dt, p ∈ dt') : VQ X dt fr P v h :=
  let ⟨d, ow', S, p⟩ := x
  ⟨d, ow', S.dts (fun q hq => by
    rcases List.mem_cons.mp hq with rfl | hq
    · exact .head _
    · exact .tail _ (s q hq)), p⟩
theorem VQ.mono (x : VQ X dt fr P v h) (k : ∀ d o, P d o → Q d o) : VQ X dt fr Q v h := let ⟨d, o, S, p⟩ := x; ⟨d, o, S, k d o p⟩
theorem UQ.sub {P : OW → Prop} (x : UQ X dt' fr P h) (s : ∀ p ∈ dt, p ∈ dt') : UQ X dt fr P h := let ⟨o, S, p⟩ := x; ⟨o, S.dts s, p⟩
theorem UQ.mono {P Q : OW → Prop} (x : UQ X dt fr P h) (k : ∀ o, P o → Q o) : UQ X dt fr Q h := let ⟨o, S, p⟩ := x; ⟨o, S, k o p⟩
theorem FQ.sub {P : Fl → OW → Prop} {f : Flow} (x : FQ X dt' fr P f h) (s : ∀ p ∈ dt, p ∈ dt') : FQ X dt fr P f h := by
  cases f <;> first | exact VQ.sub x s | exact UQ.sub x s
theorem FQ.mono {P Q : Fl → OW → Prop} {f : Flow} (x : FQ X dt fr P f h) (k : ∀ f o, P f o → Q f o) : FQ X dt fr Q f h := by
  cases f <;> first | exact VQ.mono x (fun d => k _) | exact UQ.mono x (k _)
theorem subT {p : Value × D} {dt : DT} : ∀ q ∈ dt, q ∈ p :: dt := fun _ h => .tail _ h

theorem Tv.mono {t : Sem Value} (x : Tv X A t ow P) (k : ∀ d o, P d o → Q d o) : Tv X A t ow Q := fun dt fr h S => (x dt fr h S).mono fun _ _ y => y.mono k
theorem Tf.mono {t : Sem Flow} {P Q : Fl → OW → Prop} (x : Tf X A t ow P) (k : ∀ d o, P d o → Q d o) : Tf X A t ow Q := fun dt fr h S => (x dt fr h S).mono fun _ _ y => y.mono k
/-- the frame -/
theorem TL.frame {t : List Value → Sem Value} {ds : List D} {f : OW} (x : TL X A t ds ow (fun d o => P d (o ++ f))) : TL X A t ds (ow ++ f) P := fun dt fr h vs S a => by
  rw [List.append_assoc] at S
  refine (x dt (f ++ fr) h vs S a).mono fun v h' y => ?_
  obtain ⟨d, o, S', p⟩ := y
  exact ⟨d, o ++ f, by rw [List.append_assoc]; exact S', p⟩
theorem TC.tl {f : Value} {ds : List D} (x : TC X A f ds ow P) : TL X A (fun vs => PySem.call f vs) ds ow P := fun dt fr h vs S a => Rn.call (x dt fr h vs S a)
theorem Rc.mono {M : Model} {c : Code} {Q Q' : Flow → Heap → Prop} (x : Rc M A c Q h) (k : ∀ f h', Q f h' → Q' f h') : Rc M A c Q' h := fun s hs => codeAny_mono (x s hs) fun r s' y => by
  cases r with
  | error e => exact y
  | ok f => exact ⟨y.1, k _ _ y.2⟩
theorem TC.frame {g : Value} {ds : List D} {f : OW} (x : TC X A g ds ow (fun d o => P d (o ++ f))) : TC X A g ds (ow ++ f) P := fun dt fr h vs S a => by
  rw [List.append_assoc] at S
  refine (x dt (f ++ fr) h vs S a).mono fun fl h' y => ?_
  cases fl with
  | ret v =>
    obtain ⟨d, o, S', p⟩ := y
    exact ⟨d, o ++ f, by rw [List.append_assoc]; exact S', p⟩
  | _ => exact y
theorem TC.perm {f : Value} {ds : List D} (x : TC X A f ds ow' P) (p : ow.Perm ow') : TC X A f ds ow P := fun dt fr h vs S a => x dt fr h vs (S.perm (p.append_right fr)) a
theorem TC.mono {f : Value} {ds : List D} (x : TC X A f ds ow P) (k : ∀ d o, P d o → Q d o) : TC X A f ds ow Q := fun dt fr h vs S a => (x dt fr h vs S a).mono fun fl h' y => by
  cases fl with
  | ret v => exact VQ.mono y k
  | _ => exact y
theorem TL.perm {t : List Value → Sem Value} {ds : List D} (x : TL X A t ds ow' P) (p : ow.Perm ow') : TL X A t ds ow P := fun dt fr h vs S a => x dt fr h vs (S.perm (p.append_right fr)) a
theorem TL.drop {t : List Value → Sem Value} {ds : List D} (x : TL X A t ds ow' P) (p : ow'.Sublist ow) : TL X A t ds ow P := fun dt fr h vs S a => x dt fr h vs (S.sub (p.append_right fr)) a
theorem TL.mono {t : List Value → Sem Value} {ds : List D} (x : TL X A t ds ow P) (k : ∀ d o, P d o → Q d o) : TL X A t ds ow Q := fun dt fr h vs S a => (x dt fr h vs S a).mono fun _ _ y => y.mono k
theorem Tf.permW {t : Sem Flow} {P : Fl → OW → Prop} (x : Tf X A t ow' P) (p : ow.Perm ow') : Tf X A t ow P := fun dt fr h S => x dt fr h (S.perm (p.append_right fr))
theorem Tf.dropW {t : Sem Flow} {P : Fl → OW → Prop} (x : Tf X A t ow' P) (p : ow'.Sublist ow) : Tf X A t ow P := fun dt fr h S => x dt fr h (S.sub (p.append_right fr))
theorem Tv.permW {t : Sem Value} (x : Tv X A t ow' P) (p : ow.Perm ow') : Tv X A t ow P := fun dt fr h S => x dt fr h (S.perm (p.append_right fr))
theorem Tv.dropW {t : Sem Value} (x : Tv X A t ow' P) (p : ow'.Sublist ow) : Tv X A t ow P := fun dt fr h S => x dt fr h (S.sub (p.append_right fr))
/-- what is left behind: dropped, or frozen -/
theorem VQ.dropQ {P : D → OW → Prop} (x : VQ X dt fr (fun d o => ∃ o', o'.Sublist o ∧ P d o') v h) : VQ X dt fr P v h :=
  let ⟨d, o, S, o', s, p⟩ := x
  ⟨d, o', S.sub (s.append_right fr), p⟩
theorem Ex.sub {a : Addr} {r : Res} {l l' : OW} (x : Ex a r l l') : l'.Sublist l := by
  induction x with
  | z => exact .cons _ (List.Sublist.refl _)
  | s _ ih => exact .cons_cons _ ih
theorem VQ.freezeQ {P : D → OW → Prop} (x : VQ X dt fr (fun d o => ∃ a ds o', d = .own a ∧ Ex a (.list ds) o o' ∧ P (.lst ds) o') v h) : VQ X dt fr P v h := by
  obtain ⟨d, o, ⟨fz, S⟩, a, ds, o', rfl, e, p⟩ := x
  have hv : v = .ref a := by cases S.dat _ (.head _); rfl
  subst hv
  obtain ⟨ob, ⟨vs, n, rfl, hva⟩, S'⟩ := S.freeze (e.app fr)
  exact ⟨_, _, ((S'.dts subT).see (.lst (.head _) hva)).st, p⟩
end

/-! ## evaluating -/
section
variable {X : Cx} {A : Around} {env : Env} {ow : OW} {P : D → OW → Prop} {PB : Bool → OW → Prop} {PU : OW → Prop} {PF : Fl → OW → Prop} {pos : Pos}

theorem Tv.seq {t : Sem Value} {u : Value → Sem Value} (x : Tv X A t ow (fun d o => T1 X A u d o P)) : ∀ dt fr h, St X dt (ow ++ fr) h → Rn X.M A t (fun v h' => Rn X.M A (u v) (VQ X dt fr P) h') h :=
  fun dt fr h S => (x dt fr h S).mono fun v h' ⟨d, o, S', k⟩ => (k _ fr h' v S' (.head _)).mono fun _ _ y => y.sub subT
theorem Tv.seqB {t : Sem Value} {u : Value → Sem Bool} (x : Tv X A t ow (fun d o => B1 X A u d o PB)) : ∀ dt fr h, St X dt (ow ++ fr) h → Rn X.M A t (fun v h' => Rn X.M A (u v) (fun b => UQ X dt fr (PB b)) h') h :=
  fun dt fr h S => (x dt fr h S).mono fun v h' ⟨d, o, S', k⟩ => (k _ fr h' v S' (.head _)).mono fun _ _ y => y.sub subT
theorem Tv.seqU {t : Sem Value} {u : Value → Sem Unit} (x : Tv X A t ow (fun d o => U1 X A u d o PU)) : ∀ dt fr h, St X dt (ow ++ fr) h → Rn X.M A t (fun v h' => Rn X.M A (u v) (fun _ => UQ X dt fr PU) h') h :=
  fun dt fr h S => (x dt fr h S).mono fun v h' ⟨d, o, S', k⟩ => (k _ fr h' v S' (.head _)).mono fun _ _ y => y.sub subT
theorem Tv.seq2 {t t' : Sem Value} {u : Value → Value → Sem Value} (x : Tv X A t ow (fun d o => Tv X A t' o (fun d' o' => T2 X A u d d' o' P))) :
    ∀ dt fr h, St X dt (ow ++ fr) h → Rn X.M A t (fun v h' => Rn X.M A t' (fun v' h'' => Rn X.M A (u v v') (VQ X dt fr P) h'') h') h :=
  fun dt fr h S => (x dt fr h S).mono fun v h' ⟨d, o, S', k⟩ => (k _ fr h' S').mono fun v' h'' ⟨d', o', S'', k'⟩ => (k' _ fr h'' v v' S'' (.tail _ (.head _)) (.head _)).mono fun _ _ y => (y.sub subT).sub subT
theorem Tv.seq2U {t t' : Sem Value} {u : Value → Value → Sem Unit} (x : Tv X A t ow (fun d o => Tv X A t' o (fun d' o' => U2 X A u d d' o' PU))) :
    ∀ dt fr h, St X dt (ow ++ fr) h → Rn X.M A t (fun v h' => Rn X.M A t' (fun v' h'' => Rn X.M A (u v v') (fun _ => UQ X dt fr PU) h'') h') h :=
  fun dt fr h S => (x dt fr h S).mono fun v h' ⟨d, o, S', k⟩ => (k _ fr h' S').mono fun v' h'' ⟨d', o', S'', k'⟩ => (k' _ fr h'' v v' S'' (.tail _ (.head _)) (.head _)).mono fun _ _ y => (y.sub subT).sub subT

/-- the way from the library's compound rules -/
theorem Rn.r1 {α β : Type} {M : Model} {h : Heap} {Q : β → Heap → Prop} {m : Sem α} {t : α → Sem β} {whole : Sem β}
    (rule : ∀ {Q : β → Shared → Prop} {E : Value → Shared → Prop} {s : Shared}, wpAny M A m (fun v s₁ => wpAny M A (t v) Q E s₁) E s → wpAny M A whole Q E s) (x : Rn M A m (fun v h₁ => Rn M A (t v) Q h₁) h) : Rn M A whole Q h :=
  fun s hs => rule (wpAny_mono (x s hs) (fun a s' y => wpAny_mono (y.2 s' rfl) (fun b s'' z => ⟨y.1.trans z.1, z.2⟩) fun _ _ e => e) fun _ _ e => e)
theorem Rn.r2 {α β γ : Type} {M : Model} {h : Heap} {Q : γ → Heap → Prop} {m : Sem α} {m' : Sem β} {t : α → β → Sem γ} {whole : Sem γ}
    (rule : ∀ {Q : γ → Shared → Prop} {E : Value → Shared → Prop} {s : Shared}, wpAny M A m (fun v s₁ => wpAny M A m' (fun v' s₂ => wpAny M A (t v v') Q E s₂) E s₁) E s → wpAny M A whole Q E s)
    (x : Rn M A m (fun v h₁ => Rn M A m' (fun v' h₂ => Rn M A (t v v') Q h₂) h₁) h) : Rn M A whole Q h :=
  fun s hs => rule (wpAny_mono (x s hs) (fun a s' y => wpAny_mono (y.2 s' rfl) (fun b s'' z => wpAny_mono (z.2 s'' rfl) (fun c s3 u => ⟨(y.1.trans z.1).trans u.1, u.2⟩) fun _ _ e => e) fun _ _ e => e) fun _ _ e => e)

theorem ev_bin {l r : Expr} {op : Operator} (x : Tv X A (eval l env) ow (fun d o => Tv X A (eval r env) o (fun d' o' => T2 X A (binaryOp op) d d' o' P))) : Tv X A (eval (.BinOp l op r pos) env) ow P :=
  fun dt fr h S => Rn.r2 (fun z => wpAny_BinOp z) (x.seq2 dt fr h S)
theorem ev_cmp {l r : Expr} {op : CmpOp} (hm : behindInMarks op r = false) (x : Tv X A (eval l env) ow (fun d o => Tv X A (eval r env) o (fun d' o' => T2 X A (compareOp op) d d' o' P))) : Tv X A (eval (.Compare l [op] [r] pos) env) ow P :=
  fun dt fr h S => Rn.r2 (fun z => wpAny_Compare1 z hm) (x.seq2 dt fr h S)
theorem ev_sub {value slice : Expr} (x : Tv X A (eval value env) ow (fun d o => Tv X A (eval slice env) o (fun d' o' => T2 X A (subscriptTail value slice) d d' o' P))) : Tv X A (eval (.Subscript value slice pos) env) ow P :=
  fun dt fr h S => Rn.r2 (fun z => Subscript_ z) (x.seq2 dt fr h S)
theorem ev_un {l : Expr} {op : UnaryOp} (x : Tv X A (eval l env) ow (fun d o => T1 X A (unaryOp op) d o P)) : Tv X A (eval (.UnaryOp op l pos) env) ow P :=
  fun dt fr h S => Rn.r1 (fun z => UnaryOp_ z) (x.seq dt fr h S)
theorem ev_attr {value : Expr} {attr : Str} (e : eval (value.Attribute attr pos) env = (do
      let o ← eval value env
      standAt pos.atName
      let r ← holding [o] (getAttr o attr true)
      letTemporaryGo value o r
      pure r)) (x : Tv X A (eval value env) ow (fun d o => T1 X A (fun v => getAttr v attr true) d o P)) : Tv X A (eval (.Attribute value attr pos) env) ow P :=
  fun dt fr h S => Rn.r1 (fun z => Attribute_any_ z e) (x.seq dt fr h S)
theorem ev_int {i : Int} {k : Nat} (x : P (.int i) ow) : Tv X A (eval (.Constant (.int i) k pos) env) ow P :=
  fun dt fr h S s hs => wpAny_Constant_int ⟨⟨_, rfl⟩, _, ow, hs ▸ S.int i _, x⟩
theorem ev_none {k : Nat} (x : P .none ow) : Tv X A (eval (.Constant .none k pos) env) ow P :=
  fun dt fr h S s hs => wpAny_Constant_none ⟨⟨_, rfl⟩, _, ow, hs ▸ S.none, x⟩
theorem ev_bool {b : Bool} {k : Nat} (x : P (.bool b) ow) : Tv X A (eval (.Constant (.bool b) k pos) env) ow P :=
  fun dt fr h S s hs => wpAny_Constant_bool ⟨⟨_, rfl⟩, _, ow, hs ▸ S.bool b, x⟩
theorem ev_str {y : Str} {k : Nat} (x : P (.str y) ow) : Tv X A (eval (.Constant (.str y) k pos) env) ow P :=
  fun dt fr h S s hs => wpAny_Constant_str ⟨⟨_, rfl⟩, _, ow, hs ▸ S.str y _, x⟩

/-! truth -/
theorem tr_plain {e : Expr} {whole : Sem Value} (he : isTrue e env whole = (do let v ← whole; standAt e.pos; holding [v] (truthy v))) (x : Tv X A whole ow (fun d o => B1 X A truthy d o PB)) : Tb X A (isTrue e env whole) ow PB :=
  fun dt fr h S => Rn.r1 (fun z => isTrue_plain z he) (x.seqB dt fr h S)
theorem tr_cmp {l r : Expr} {op : CmpOp} {whole : Sem Value} (hm : behindInMarks op r = false)
    (x : Tv X A (eval l env) ow (fun d o => Tv X A (eval r env) o (fun d' o' => T2 X A (compareOp op) d d' o' (fun d o => B1 X A truthy d o PB)))) : Tb X A (isTrue (.Compare l [op] [r] pos) env whole) ow PB := fun dt fr h S s hs =>
  wpAny_isTrue_Compare1 (wpAny_mono (x.seq2 dt fr h S s hs) (fun a s₁ y => wpAny_mono (y.2 s₁ rfl) (fun b s₂ z => wpAny_mono (z.2 s₂ rfl) (fun c s₃ u => by
    obtain ⟨k3, d, o, S', p⟩ := u
    exact (p _ fr _ c S' (.head _)).go ((y.1.trans z.1).trans k3) fun b s' k q => ⟨k, q.sub subT⟩) fun _ _ e => e) fun _ _ e => e) fun _ _ e => e) hm
theorem tr_not {e : Expr} {whole : Sem Value} (x : Tb X A (isTrue e env (eval e env)) ow (fun b => PB (!b))) : Tb X A (isTrue (.UnaryOp .Not e pos) env whole) ow PB :=
  fun dt fr h S s hs => isTrue_not (wpAny_mono (x dt fr h S s hs) (fun b s' y => y) fun _ _ e => e)
theorem tr_and0 {whole : Sem Value} (x : PB true ow) : Tb X A (isTrue (.BoolOp .And [] pos) env whole) ow PB := fun dt fr h S s hs => isTrue_and_nil ⟨.refl _, _, hs ▸ S, x⟩
theorem tr_or0 {whole : Sem Value} (x : PB false ow) : Tb X A (isTrue (.BoolOp .Or [] pos) env whole) ow PB := fun dt fr h S s hs => isTrue_or_nil ⟨.refl _, _, hs ▸ S, x⟩
theorem tr_and {e : Expr} {rest : List Expr} {whole : Sem Value} (x : Tb X A (isTrue e env (eval e env)) ow (fun b o => bif b then Tb X A (isTrue (.BoolOp .And rest pos) env whole) o PB else PB false o)) :
    Tb X A (isTrue (.BoolOp .And (e :: rest) pos) env whole) ow PB := fun dt fr h S s hs =>
  isTrue_and (wpAny_mono (x dt fr h S s hs) (fun b s' y => by
    obtain ⟨k, o, S', p⟩ := y
    cases b with
    | false => exact ⟨k, _, S', p⟩
    | true => exact Rn.go (p dt fr _ S') k fun b s' k q => ⟨k, q⟩) fun _ _ e => e)
theorem tr_or {e : Expr} {rest : List Expr} {whole : Sem Value} (x : Tb X A (isTrue e env (eval e env)) ow (fun b o => bif b then PB true o else Tb X A (isTrue (.BoolOp .Or rest pos) env whole) o PB)) :
    Tb X A (isTrue (.BoolOp .Or (e :: rest) pos) env whole) ow PB := fun dt fr h S s hs =>
  isTrue_or (wpAny_mono (x dt fr h S s hs) (fun b s' y => by
    obtain ⟨k, o, S', p⟩ := y
    cases b with
    | true => exact ⟨k, _, S', p⟩
    | false => exact Rn.go (p dt fr _ S') k fun b s' k q => ⟨k, q⟩) fun _ _ e => e)
theorem ev_if {t b e : Expr} (x : Tb X A (isTrue t env (eval t env)) ow (fun c o => bif c then Tv X A (eval b env) o P else Tv X A (eval e env) o P)) : Tv X A (eval (.IfExp t b e pos) env) ow P := fun dt fr h S s hs =>
  IfExp_ (wpAny_mono (x dt fr h S s hs) (fun c s' y => by
    obtain ⟨k, o, S', p⟩ := y
    cases c with
    | true => exact Rn.go (p dt fr _ S') k fun b s' k q => ⟨k, q⟩
    | false => exact Rn.go (p dt fr _ S') k fun b s' k q => ⟨k, q⟩) fun _ _ e => e)
theorem ev_and2 {e₁ e₂ : Expr} (x : Tv X A (eval e₁ env) ow (fun d o => B1 X A truthy d o (fun c o' => bif c then Tv X A (eval e₂ env) o' P else P d o'))) : Tv X A (eval (.BoolOp .And [e₁, e₂] pos) env) ow P := fun dt fr h S s hs =>
  wpAny_And2 (wpAny_mono (x dt fr h S s hs) (fun v s₁ y => by
    obtain ⟨k, d, o, S', p⟩ := y
    refine Rn.go (p _ fr _ v S' (.head _)) k fun c s₂ k₂ q => ?_
    obtain ⟨o', S'', p'⟩ := q
    cases c with
    | true => exact Rn.go (p' _ fr _ S'') k₂ fun b s' k q => ⟨k, q.sub subT⟩
    | false => exact ⟨k₂, d, o', S'', p'⟩) fun _ _ e => e)
theorem ty_bool {b : Bool} (x : PB b ow) : B1 X A truthy (.bool b) ow PB := fun dt fr h a S m s hs => by
  obtain ⟨fz, S⟩ := S
  cases S.dat _ m
  exact wpAny_truthy_bool ⟨.refl _, _, hs ▸ S.st, x⟩
theorem un_not {d : D} (x : B1 X A truthy d ow (fun b => P (.bool (!b)))) : T1 X A (unaryOp .Not) d ow P := fun dt fr h a S m s hs =>
  not_value (wpAny_mono (x dt fr h a S m s hs) (fun b s' y => ⟨y.1, let ⟨o, S', p⟩ := y.2; ⟨_, o, S'.bool _, p⟩⟩) fun _ _ e => e)

/-! items, displays, calls -/
theorem it_nil {p : Pos} {PL : List D → OW → Prop} (x : PL [] ow) : Tl X A (spliced (backTo p (starEach [] env))) ow PL :=
  fun dt fr h S s hs => wpAny_items_nil ⟨.refl _, [], ow, hs ▸ S, rfl, x⟩
theorem it_cons {p : Pos} {e : Expr} {rest : List Expr} {PL : List D → OW → Prop} (he : starEach (e :: rest) env = (false, eval e env) :: starEach rest env)
    (x : Tv X A (eval e env) ow (fun d o => Tl X A (spliced (backTo p (starEach rest env))) o (fun ds => PL (d :: ds)))) : Tl X A (spliced (backTo p (starEach (e :: rest) env))) ow PL := fun dt fr h S s hs =>
  wpAny_items_cons (wpAny_mono (x dt fr h S s hs) (fun v s₁ y => by
    obtain ⟨k, d, o, S', p⟩ := y
    refine Rn.go (p _ fr _ S') k fun vs s₂ k₂ q => ?_
    obtain ⟨ds, o', S'', hl, p'⟩ := q
    refine ⟨k₂, d :: ds, o', S''.dts fun q hq => ?_, by simp [hl], p'⟩
    rcases List.mem_cons.mp hq with rfl | hq
    · exact List.mem_append_right _ (.head _)
    · rcases List.mem_append.mp hq with hq | hq
      · exact List.mem_append_left _ hq
      · exact List.mem_append_right _ (.tail _ hq)) fun _ _ e => e) he
theorem DA.zip {dt : DT} : ∀ {vs : List Value} {ds : List D}, vs.length = ds.length → (∀ p ∈ vs.zip ds, p ∈ dt) → DA dt vs ds
  | [], [], _, _ => .nil
  | v :: vs, d :: ds, e, h => .cons (h _ (.head _)) (DA.zip (by simpa using e) fun p hp => h p (.tail _ hp))
theorem DA.va {X : Cx} {fz : Fz} {dt : DT} {ow : OW} {h : Heap} (S : SF X fz dt ow h) {vs : List Value} {ds : List D} (a : DA dt vs ds) : VA fz vs ds := by
  induction a with
  | nil => exact .nil
  | cons m _ ih => exact .cons (S.dat _ m) ih
theorem DA.mono {dt dt' : DT} (k : ∀ p ∈ dt, p ∈ dt') {vs : List Value} {ds : List D} (a : DA dt vs ds) : DA dt' vs ds := by
  induction a with
  | nil => exact .nil
  | cons m _ ih => exact .cons (k _ m) ih
theorem Tl.seq {t : Sem (List Value)} {u : List Value → Sem Value} (x : Tl X A t ow (fun ds o => TL X A u ds o P)) : ∀ dt fr h, St X dt (ow ++ fr) h → Rn X.M A t (fun v h' => Rn X.M A (u v) (VQ X dt fr P) h') h :=
  fun dt fr h S => (x dt fr h S).mono fun v h' ⟨d, o, S', hl, k⟩ => (k _ fr h' v S' (DA.zip hl fun p hp => List.mem_append_left _ hp)).mono fun _ _ y => y.sub fun p hp => List.mem_append_right _ hp
theorem ev_tuple {es : List Expr} {k : Nat} (x : Tl X A (spliced (backTo pos (starEach es env))) ow (fun ds o => TL X A newTuple ds o P)) : Tv X A (eval (.Tuple es k pos) env) ow P :=
  fun dt fr h S => Rn.r1 (fun z => Tuple_ z) (x.seq dt fr h S)
theorem ev_list {es : List Expr} (x : Tl X A (spliced (backTo pos (starEach es env))) ow (fun ds o => TL X A newList ds o P)) : Tv X A (eval (.List es pos) env) ow P :=
  fun dt fr h S => Rn.r1 (fun z => List_ z) (x.seq dt fr h S)
theorem VA.size {fz : Fz} {vs : List Value} {ds : List D} (a : VA fz vs ds) (hz : ds.length ≤ sizeLine) : vs.length ≤ sizeLine := a.length ▸ hz
theorem mk_tup {ds : List D} (x : P (.tup ds) ow) (hz : ds.length ≤ sizeLine) : TL X A newTuple ds ow P := fun dt fr h vs S a s hs => by
  obtain ⟨fz, S⟩ := S
  have va := a.va S
  refine wpAny_newObj_type ⟨⟨_, rfl⟩, .tup ds, ow, ?_, x⟩ (by show vs.toArray.size ≤ sizeLine; rw [List.size_toArray]; exact va.size hz)
  have S' := S.allocFz (o := tupObj vs 0) rfl
  rw [hs]
  exact (S'.see (.tup (.head _) (va.mono fun p hp => .tail _ hp))).st
theorem mk_lst {ds : List D} (x : P (.lst ds) ow) (hz : ds.length ≤ sizeLine) : TL X A newList ds ow P := fun dt fr h vs S a s hs => by
  obtain ⟨fz, S⟩ := S
  have va := a.va S
  refine wpAny_newObj_type ⟨⟨_, rfl⟩, .lst ds, ow, ?_, x⟩ (by show vs.toArray.size ≤ sizeLine; rw [List.size_toArray]; exact va.size hz)
  have S' := S.allocFz (o := listOf vs.toArray 0) rfl
  rw [hs]
  exact (S'.see (.lst (.head _) (va.mono fun p hp => .tail _ hp))).st
theorem mk_own {ds : List D} (x : ∀ a, P (.own a) ((a, .list ds) :: ow)) (hz : ds.length ≤ sizeLine) : TL X A newList ds ow P := fun dt fr h vs S a s hs => by
  obtain ⟨fz, S⟩ := S
  have va := a.va S
  refine wpAny_newObj_type ⟨⟨_, rfl⟩, .own s.heap.objs.size, (s.heap.objs.size, .list ds) :: ow, ?_, x _⟩ (by show vs.toArray.size ≤ sizeLine; rw [List.size_toArray]; exact va.size hz)
  have S' := S.alloc (r := .list ds) (o := listOf vs.toArray 0) ⟨vs, 0, rfl, va⟩ rfl
  rw [hs]
  exact (S'.see (.own _)).st
theorem ev_call {f : Expr} {args : List Expr} (e : eval (f.Call args [] pos) env = (do
          let g ← eval f env
          callWith pos g [] (backTo pos (starEach args env)) (backToKw pos (keywordEach [] env))))
    (x : Tv X A (eval f env) ow (fun d o => T1 X A (fun g => callWith pos g [] (backTo pos (starEach args env)) []) d o P)) : Tv X A (eval (.Call f args [] pos) env) ow P :=
  fun dt fr h S => Rn.r1 (fun z => Call_ z e) (x.seq dt fr h S)

/-! statements -/
theorem ex_nil (x : PF .next ow) : Tf X A (execs [] env) ow PF := fun dt fr h S s hs => wpAny_execs_nil ⟨.refl _, ow, hs ▸ S, x⟩
noncomputable def Then (X : Cx) (A : Around) (env : Env) (rest : List Stmt) (PF : Fl → OW → Prop) : Fl → OW → Prop
  | .next, o => Tf X A (execs rest env) o PF
  | f, o => PF f o
theorem ex_cons {st : Stmt} {rest : List Stmt} (x : Tf X A (exec st env) ow (Then X A env rest PF)) : Tf X A (execs (st :: rest) env) ow PF := fun dt fr h S s hs =>
  wpAny_execs_cons (wpAny_mono (x dt fr h S s hs) (fun f s' y => by
    obtain ⟨k, y⟩ := y
    cases f with
    | next =>
      obtain ⟨o, S', p⟩ := y
      exact Rn.go (p dt fr _ S') k fun b s' k q => ⟨k, q⟩
    | brk => exact ⟨k, y⟩
    | cont => exact ⟨k, y⟩
    | ret v => exact ⟨k, y⟩) fun _ _ e => e)
theorem ex_pass (x : PF .next ow) : Tf X A (exec (.Pass pos) env) ow PF := fun dt fr h S s hs => wpAny_Pass ⟨.refl _, ow, hs ▸ S, x⟩
theorem ex_ret {e : Expr} (x : Tv X A (eval e env) ow (fun d => PF (.ret d))) : Tf X A (exec (.Return (some e) pos) env) ow PF := fun dt fr h S s hs =>
  wpAny_Return_some (wpAny_mono (x dt fr h S s hs) (fun v s' y => y) fun _ _ e => e)
theorem ex_ret0 (x : PF (.ret .none) ow) : Tf X A (exec (.Return none pos) env) ow PF := fun dt fr h S s hs => wpAny_Return_none ⟨.refl _, _, _, hs ▸ S.none, x⟩
theorem ex_if {t : Expr} {b e : List Stmt} (x : Tb X A (isTrue t env (eval t env)) ow (fun c o => bif c then Tf X A (execs b env) o PF else Tf X A (execs e env) o PF)) : Tf X A (exec (.If t b e pos) env) ow PF := fun dt fr h S s hs =>
  wpAny_If (wpAny_mono (x dt fr h S s hs) (fun c s' y => by
    obtain ⟨k, o, S', p⟩ := y
    cases c with
    | true => exact Rn.go (p dt fr _ S') k fun b s' k q => ⟨k, q⟩
    | false => exact Rn.go (p dt fr _ S') k fun b s' k q => ⟨k, q⟩) fun _ _ e => e)
theorem ex_expr {e : Expr} (hi : interactive env = false) (hs : swapsWith e none pos.line env = pure false) (x : Tv X A (eval e env) ow (fun _ => PF .next)) : Tf X A (exec (.Expr e pos) env) ow PF := fun dt fr h S s hs' =>
  wpAny_Expr_any (wpAny_mono (x dt fr h S s hs') (fun v s' y => ⟨y.1, let ⟨d, o, S', p⟩ := y.2; ⟨o, S'.dts subT, p⟩⟩) fun _ _ e => e) hi hs
theorem ex_name {y : Str} {p' : Pos} {e : Expr} (hs : swapsWith e (some (.Name y p')) pos.line env = pure false) (x : Tv X A (eval e env) ow (fun d o => U1 X A (storeName env y) d o (PF .next))) : Tf X A (exec (.Assign [.Name y p'] e pos) env) ow PF := fun dt fr h S s hs' =>
  wpAny_Assign_Name (wpAny_mono (x.seqU dt fr h S s hs') (fun v s' y => wpAny_mono (y.2 s' rfl) (fun _ s₂ z => ⟨y.1.trans z.1, z.2⟩) fun _ _ e => e) fun _ _ e => e) hs
theorem ex_setattr {o : Expr} {attr : Str} {p' : Pos} {e : Expr} (hs : swapsWith e (some (o.Attribute attr p')) pos.line env = pure false)
    (x : Tv X A (eval e env) ow (fun d w => Tv X A (eval o env) w (fun d' w' => U2 X A (fun v ov => setAttr ov attr v) d d' w' (PF .next)))) : Tf X A (exec (.Assign [.Attribute o attr p'] e pos) env) ow PF := fun dt fr h S s hs' =>
  plainObj_wpAny_Assign_Attribute (wpAny_mono (x.seq2U dt fr h S s hs') (fun v s₁ y => wpAny_mono (y.2 s₁ rfl) (fun v' s₂ z => wpAny_mono (z.2 s₂ rfl) (fun _ s₃ u => ⟨(y.1.trans z.1).trans u.1, u.2⟩) fun _ _ e => e) fun _ _ e => e) fun _ _ e => e) hs
theorem ex_setitem {o i : Expr} {p' : Pos} {e : Expr} (hs : swapsWith e (some (o.Subscript i p')) pos.line env = pure false)
    (x : Tv X A (eval e env) ow (fun d w => Tv X A (eval o env) w (fun d' w' => Tv X A (eval i env) w' (fun d'' w'' => U3 X A (fun v ov iv => setItem ov iv v) d d' d'' w'' (PF .next))))) : Tf X A (exec (.Assign [.Subscript o i p'] e pos) env) ow PF := fun dt fr h S s hs' =>
  wpAny_Assign_Subscript (wpAny_mono (x dt fr h S s hs') (fun v s₁ y => by
    obtain ⟨k₁, d₁, o₁, S₁, p₁⟩ := y
    refine Rn.go (p₁ _ fr _ S₁) k₁ fun v' s₂ k₂ q => ?_
    obtain ⟨d₂, o₂, S₂, p₂⟩ := q
    refine Rn.go (p₂ _ fr _ S₂) k₂ fun v'' s₃ k₃ q => ?_
    obtain ⟨d₃, o₃, S₃, p₃⟩ := q
    refine Rn.go (p₃ _ fr _ v v' v'' S₃ (.tail _ (.tail _ (.head _))) (.tail _ (.head _)) (.head _)) k₃ fun _ s₄ k₄ q => ?_
    exact ⟨k₄, ((q.sub subT).sub subT).sub subT⟩) fun _ _ e => e) hs
end
/-! ## room -/
structure AOk (n : Nat) (A : Around) : Prop where
  hh : A.handled = none
  dep : A.depth + 2 * n < 1000
  un : A.units + 12 * n + 200 < 9900
theorem AOk.less {n m : Nat} {A : Around} (x : AOk n A) (h : m ≤ n) : AOk m A := ⟨x.hh, by have := x.dep; omega, by have := x.un; omega⟩
theorem AOk.deeper {n : Nat} {A : Around} {env : Env} (x : AOk (n + 1) A) : AOk n (A.deeper env) :=
  ⟨x.hh, by have := x.dep; rw [depth_deeper]; omega, by have := x.un; rw [units_deeper]; omega⟩
theorem AOk.room {n : Nat} {A : Around} (x : AOk n A) : A.depth < recursionLimit := by have := x.dep; show A.depth < 1000; omega
theorem AOk.units64 {n : Nat} {A : Around} (x : AOk n A) : A.units + 64 < cLine := by have := x.un; show A.units + 64 < 9900; omega
theorem AOk.units {n : Nat} {A : Around} (x : AOk n A) : A.units < cLine := by have := x.un; show A.units < 9900; omega

/-! ## names -/
theorem lookup_of_lk {fs : List (Str × D)} {x : Str} {d : D} (k : Lk fs x d) : fs.lookup x = some d := by
  induction k with
  | z => simp
  | @s x y d e l n _ ih =>
    have n' : (x == y) = false := by rw [← n]; exact Bool.eq_iff_iff.mpr (by rw [beq_iff_eq, beq_iff_eq]; exact eq_comm)
    rw [List.lookup_cons, n']; exact ih
theorem lookup_of_pt {fs fs' : List (Str × D)} {x : Str} {d : D} (k : Pt fs x d fs') (y : Str) : fs'.lookup y = if y = x then some d else fs.lookup y := by
  induction k with
  | @n x d =>
    rw [List.lookup_cons]
    by_cases h : y = x
    · simp [h]
    · have : (y == x) = false := by simpa using h
      simp [h, this]
  | @z x d e l =>
    rw [List.lookup_cons, List.lookup_cons]
    by_cases h : y = x
    · simp [h]
    · have : (y == x) = false := by simpa using h
      simp [h, this]
  | @s x z d e l l' n _ ih =>
    rw [List.lookup_cons, List.lookup_cons]
    by_cases h : y = z
    · subst h
      have : ¬ y = x := by simpa using n
      simp [this]
    · have : (y == z) = false := by simpa using h
      rw [this]; exact ih
noncomputable def isLoc (env : Env) (x : Str) : Bool := (match env.scope.kind with | .function => true | _ => false) && (match env.kindOf x with | some .local => true | _ => false) && !(x == ("__debug__" : Str))
theorem isLoc_is {env : Env} {x : Str} (e : isLoc env x = true) : env.scope.kind = .function ∧ env.kindOf x = some .local ∧ (x == ("__debug__" : Str)) = false := by
  unfold isLoc at e
  rw [Bool.and_eq_true, Bool.and_eq_true] at e
  refine ⟨?_, ?_, by simpa using e.2⟩
  · have := e.1.1; split at this
    · assumption
    · cases this
  · have := e.1.2; split at this
    · assumption
    · cases this
noncomputable def isGlo (env : Env) (x : Str) : Bool := (match env.scope.kind with | .function => true | _ => false) && (match env.kindOf x with | some .globalImplicit => true | _ => false) && !(x == ("__debug__" : Str))
theorem isGlo_is {env : Env} {x : Str} (e : isGlo env x = true) : env.scope.kind = .function ∧ env.kindOf x = some .globalImplicit ∧ (x == ("__debug__" : Str)) = false := by
  unfold isGlo at e
  rw [Bool.and_eq_true, Bool.and_eq_true] at e
  refine ⟨?_, ?_, by simpa using e.2⟩
  · have := e.1.1; split at this
    · assumption
    · cases this
  · have := e.1.2; split at this
    · assumption
    · cases this
/-- what a cell's name is: its own or free -/
noncomputable def isCel (env : Env) (x : Str) : Bool := (match env.scope.kind with | .function => true | _ => false) && (match env.kindOf x with | some .cell => true | some .free => true | _ => false) && !(x == ("__debug__" : Str)) && !(x == ("__classdict__" : Str))
theorem isCel_is {env : Env} {x : Str} (e : isCel env x = true) : env.scope.kind = .function ∧ (env.kindOf x = some .cell ∨ env.kindOf x = some .free) ∧ (x == ("__debug__" : Str)) = false ∧ (x == ("__classdict__" : Str)) = false := by
  unfold isCel at e
  rw [Bool.and_eq_true, Bool.and_eq_true, Bool.and_eq_true] at e
  refine ⟨?_, ?_, by simpa using e.1.2, by simpa using e.2⟩
  · have := e.1.1.1; split at this
    · assumption
    · cases this
  · have := e.1.1.2; split at this
    · exact .inl (by assumption)
    · exact .inr (by assumption)
    · cases this

section
variable {X : Cx} {A : Around} {env : Env} {ow ow' : OW} {P : D → OW → Prop} {PB : Bool → OW → Prop} {PU : OW → Prop} {PF : Fl → OW → Prop} {pos : Pos} {x : Str} {d : D} {L : Addr} {fs fs' : List (Str × D)}
theorem mem_app {p : Addr × Res} {fr : OW} (m : p ∈ ow) : p ∈ ow ++ fr := List.mem_append_left _ m
theorem nm_loc (hk : isLoc env x = true) (hL : env.locals = L) (m : (L, Res.fm fs) ∈ ow) (k : Lk fs x d) (p : P d ow) : Tv X A (eval (.Name x pos) env) ow P := fun dt fr h S s hs => by
  obtain ⟨fz, S⟩ := S
  obtain ⟨h1, h2, h3⟩ := isLoc_is hk
  obtain ⟨o, ho, es, ep, hd, hsk, hov⟩ := S.get (mem_app m)
  have h4 := hov x
  rw [lookup_of_lk k] at h4
  cases hv : nsFind es x with
  | none => rw [hv] at h4; exact h4.elim
  | some v =>
    rw [hv] at h4
    refine wpAny_Name (wpAny_loadName_local (m := fun y => nsFind es y) h1 h2 ⟨o, es, ep, by rw [hs, hL]; exact ho, hd, hsk, fun _ => rfl⟩ hv ⟨.refl _, d, ow, ?_, p⟩) h3
    rw [hs]; exact (S.see h4).st
theorem st_loc (hk : isLoc env x = true) (hL : env.locals = L) (u : Up L (.fm fs) (.fm fs') ow ow') (k : Pt fs x d fs') (p : PU ow') : U1 X A (storeName env x) d ow PU := fun dt fr h v S m s hs => by
  obtain ⟨fz, S⟩ := S
  obtain ⟨h1, h2, h3⟩ := isLoc_is hk
  obtain ⟨o, ho, es, ep, hd, hsk, hov⟩ := S.get (mem_app u.mem)
  have hv := S.dat _ m
  refine wpAny_storeName_local (m := fun y => nsFind es y) h2 ⟨o, es, ep, by rw [hs, hL]; exact ho, hd, hsk, fun _ => rfl⟩ (fun h' hn hsb => ⟨⟨_, rfl⟩, ow', ?_, p⟩) (by rw [h1]; rfl)
  rw [hs] at hsb
  rw [hL] at hsb hn
  obtain ⟨o', es', ep', ho', hd', hk', hf'⟩ := hn
  refine (S.up (u.app fr) hsb.extBut ho' ⟨es', ep', hd', hk', fun y => ?_⟩).st
  rw [lookup_of_pt k, hf']
  by_cases e : y = x
  · simp only [e, if_true]; exact hv
  · simp only [e, if_false]; exact hov y
theorem nm_cel {c : Addr} (hk : isCel env x = true) (hc : env.cells.lookup x = some c) (m : (c, Res.cell (some d)) ∈ ow) (p : P d ow) : Tv X A (eval (.Name x pos) env) ow P := fun dt fr h S s hs => by
  obtain ⟨fz, S⟩ := S
  obtain ⟨h1, h2, h3, h4⟩ := isCel_is hk
  obtain ⟨o, ho, v, hd, hov⟩ := S.get (mem_app m)
  cases v with
  | none => exact hov.elim
  | some v =>
    have q : St X ((v, d) :: dt) (ow ++ fr) s.heap := by rw [hs]; exact (S.see hov).st
    rcases h2 with h2 | h2
    · exact wpAny_Name (wpAny_loadName_cell h1 h2 hc ⟨o, by rw [hs]; exact ho, hd⟩ ⟨.refl _, d, ow, q, p⟩) h3
    · exact wpAny_Name (wpAny_loadName_free h1 h2 hc ⟨o, by rw [hs]; exact ho, hd⟩ ⟨.refl _, d, ow, q, p⟩ h4) h3
theorem st_cel {c : Addr} {d₀ : Option D} (hk : isCel env x = true) (hx : env.kindOf x = some .cell) (hc : env.cells.lookup x = some c) (u : Up c (.cell d₀) (.cell (some d)) ow ow') (p : PU ow') : U1 X A (storeName env x) d ow PU := fun dt fr h v S m s hs => by
  obtain ⟨fz, S⟩ := S
  obtain ⟨h1, h2, h3, h4⟩ := isCel_is hk
  obtain ⟨o, ho, v₀, hd, hov⟩ := S.get (mem_app u.mem)
  refine wpAny_storeName_cell h1 hx hc ⟨o, by rw [hs]; exact ho, hd⟩ fun h' hv hsb => ⟨⟨_, rfl⟩, ow', ?_, p⟩
  obtain ⟨o', ho', hd'⟩ := hv
  rw [hs] at hsb
  exact (S.up (u.app fr) hsb.extBut ho' ⟨_, hd', S.dat _ m⟩).st
/-- a global's value, whatever the world -/
noncomputable def GN (X : Cx) (x : Str) (v : Value) : Prop := X.mg x = some v ∨ (X.mg x = none ∧ X.mb x = some v)
theorem gn_g {X : Cx} {v : Value} (e : nsIn X.KK mainGlobals x = some (some v)) : GN X x v := .inl (mg_of X.K X.g e)
theorem gn_b {X : Cx} {v : Value} (e : nsIn X.KK mainGlobals x = some none) (hb : bootBuiltins x = some v) (hn : x ≠ "__name__") : GN X x v := .inr ⟨mg_none_of X.K X.g e, (X.bi x hn).trans hb⟩
noncomputable def VS : Value → D → Prop
  | .int i _, .int j => i = j
  | v, .raw w => v = w
  | _, _ => False
theorem VS.vd {fz : Fz} {v : Value} {d : D} (h : VS v d) : VD fz v d := by
  cases d <;> cases v <;> first | exact h.elim | (cases h; first | exact .int _ _ | exact .raw _)
theorem nm_glo {v : Value} (g : GN X x v) (hv : VS v d) (hk : isGlo env x = true) (hg : env.globals = mainGlobals) (hb : env.builtins = builtinsNs) (p : P d ow) : Tv X A (eval (.Name x pos) env) ow P := fun dt fr h S s hs => by
  obtain ⟨fz, S⟩ := S
  obtain ⟨h1, h2, h3⟩ := isGlo_is hk
  have q : St X ((v, d) :: dt) (ow ++ fr) s.heap := by rw [hs]; exact (S.see hv.vd).st
  have G : s.heap.Ns env.globals X.mg := by rw [hs, hg]; exact X.g.keeps S.base
  have B : s.heap.Ns env.builtins X.mb := by rw [hs, hb]; exact X.b.keeps S.base
  refine Name_function_global h1 h2 ?_ h3
  rcases g with g | ⟨g1, g2⟩
  · exact loadGlobal_global G g ⟨.refl _, d, ow, q, p⟩
  · exact loadGlobal_builtin G g1 B g2 ⟨.refl _, d, ow, q, p⟩
end

/-! ## instances -/
noncomputable def clsOk (K : Frag) (C : Addr) : Bool := plainGet K C "" && hasDictIn K C && plainOver K C && makesIn K C && (findIn K (.ref C) "__setattr__" == some (some (.builtin "object.__setattr__")))
noncomputable def fldOk (K : Frag) (C : Addr) (x : Str) : Bool := (findIn K (.ref C) x == some none) && (takerIn K C x == some none)
noncomputable def methOk (K : Frag) (C : Addr) (x : Str) (f : Addr) : Bool := (findIn K (.ref C) x == some (some (.ref f))) && isFn K (.ref f) && keepIn K (.ref f)
theorem clsOk_is {K : Frag} {C : Addr} (e : clsOk K C = true) : plainGet K C "" = true ∧ hasDictIn K C = true ∧ plainOver K C = true ∧ makesIn K C = true ∧ findIn K (.ref C) "__setattr__" = some (some (.builtin "object.__setattr__")) := by
  unfold clsOk at e
  rw [Bool.and_eq_true, Bool.and_eq_true, Bool.and_eq_true, Bool.and_eq_true] at e
  exact ⟨e.1.1.1.1, e.1.1.1.2, e.1.1.2, e.1.2, beq_iff_eq.mp e.2⟩
section
variable {X : Cx} {A : Around} {env : Env} {ow ow' : OW} {P : D → OW → Prop} {PU : OW → Prop} {pos : Pos} {x : Str} {d : D} {C dx : Addr} {fs fs' : List (Str × D)}
theorem inst_at {fz : Fz} {dt : DT} {ow : OW} {h : Heap} (S : SF X fz dt ow h) {a : Addr} (hx : (a, instObj C dx) ∈ fz) {od : Obj} (hd : h.get? dx = some od) : InstAt h a (instObj C dx) C (some od) :=
  ⟨S.frz _ hx, rfl, rfl, hd⟩
noncomputable def D.nr : D → Bool
  | .raw _ => false
  | .frz _ => false
  | _ => true
theorem VD.handed {fz : Fz} {v : Value} {d : D} (h : VD fz v d) (n : d.nr = true) : handedIn v = true := by
  cases h <;> first | rfl | cases n
theorem at_get {expr : Bool} (hc : clsOk X.KK C = true) (hf : fldOk X.KK C x = true) (m : (dx, Res.ns fs) ∈ ow) (k : Lk fs x d) (hn : d.nr = true) (p : P d ow) : T1 X A (fun v => getAttr v x expr) (.obj C dx) ow P := fun dt fr h v S hm s hs => by
  obtain ⟨fz, S⟩ := S
  obtain ⟨c1, c2, c3, c4, c5⟩ := clsOk_is hc
  obtain ⟨f1, f2⟩ := Bool.and_eq_true_iff.mp hf
  have hv := S.dat _ hm
  cases hv with
  | @obj y _ _ hx =>
    obtain ⟨o, ho, es, n, rfl, hes⟩ := S.get (mem_app m)
    obtain ⟨u, hu, hd⟩ := hes.get k
    refine get_value (K := X.KK) (by rw [hs]; exact S.K) (by rw [hs]; exact inst_at S hx ho) (plainGet_of c1).1 (findObj_own c2 (beq_iff_eq.mp f1) rfl ((lookIn_dict x es n).trans hu)) (hd.handed hn) ⟨⟨_, rfl⟩, d, ow, ?_, p⟩
    rw [hs]; exact (S.see hd).st
theorem nsSet_at {M : Model} {E : Value → Shared → Prop} {s : Shared} {a : Addr} {y : Str} {v : Value} {es : List DictEntry} {n : Nat} {Q : Unit → Shared → Prop} (ho : s.heap.get? a = some (dictOf es n)) (hl : (getL y es).isSome = true)
    (h : Q () { s with heap := s.heap.update a (Obj.putName y (PyData.keyHash M.w.params y) (.str y s.toks) v), toks := s.toks + 1 }) : wpAny M A (nsSet a y v) Q E s := by
  unfold nsSet
  refine wpAny_bind (wpAny_bind (wpAny_askSetting (wpAny_pure (wpAny_bind (wpAny_mkText (wpAny_bind (wpAny_loadPart ho ?_)))))))
  dsimp only
  have c : (!(es.toArray).any (·.key.isStr y) && (es.toArray).any (·.refKey)) = false := by
    rw [← Array.any_toList, ← Array.any_toList]
    unfold getL at hl
    split at hl
    · rename_i en he
      rw [List.any_eq_true.mpr ⟨en, List.mem_of_find?_eq_some he, List.find?_some he⟩]; rfl
    · split at hl
      · cases hl
      · rename_i z; rw [Bool.not_eq_true] at z; rw [z, Bool.and_false]
  rw [aRefKeyMayBeTheName_at, c]
  exact wpAny_updatePart ho h
theorem put_at {h : Heap} {fz : Fz} {dt : DT} {Pp : Params} {a : Addr} {y : Str} {v : Value} {t : Tok} {es : List DictEntry} {n : Nat} (ho : h.get? a = some (dictOf es n)) :
    (h.update a (Obj.putName y (PyData.keyHash Pp y) (.str y t) v)).get? a = some (dictOf (putL y (PyData.keyHash Pp y) (.str y t) v es) (putN y es n)) := by
  have := Heap.get?_update_self (Obj.putName y (PyData.keyHash Pp y) (.str y t) v) ho (by rw [putName_dict]; rfl)
  rw [this, putName_dict]
theorem at_set (hc : clsOk X.KK C = true) (hf : fldOk X.KK C x = true) (u : Up dx (.ns fs) (.ns fs') ow ow') (k : Pt fs x d fs') (hz : fs.length ≤ 900) (p : PU ow') : U2 X A (fun v ov => setAttr ov x v) d (.obj C dx) ow PU := fun dt fr h v ov S hm hm' s hs => by
  obtain ⟨hh, sg, sd, tk, so⟩ := s
  change hh = h at hs
  subst hs
  obtain ⟨fz, S⟩ := S
  obtain ⟨c1, c2, c3, c4, c5⟩ := clsOk_is hc
  obtain ⟨f1, f2⟩ := Bool.and_eq_true_iff.mp hf
  have hv := S.dat _ hm
  cases S.dat _ hm' with
  | @obj y _ _ hx =>
    obtain ⟨o, ho, es, n, rfl, hes⟩ := S.get (mem_app u.mem)
    have I : InstAt hh y (instObj C dx) C (some (dictOf es n)) := inst_at S hx ho
    have XK : X.KK.In hh := S.K
    refine set_plain (K := X.KK) XK I c5 ?_
    refine osa_open (s := ⟨hh, sg, sd, tk + 1, so⟩) XK I c3 (beq_iff_eq.mp f2) fun b => ?_
    obtain ⟨cd, hcd, hd'⟩ := any_some c2
    obtain ⟨hy, hcl, hn, -⟩ := I
    refine wpAny_bind (wpAny_pure (wpAny_bind (wpAny_bind (wpAny_loadPart hy (wpAny_bind ((looks_clsIn XK hcd).here ?_))))))
    rw [hd']
    refine wpAny_pure (a := some dx) (wpAny_bind (wpAny_pure (wpAny_bind ?_)))
    refine nsSet_at (s := ⟨hh, sg, sd, tk + 1, so⟩) ho hes.some ?_
    have hp := put_at (fz := fz) (dt := dt) (Pp := X.w.params) (y := x) (v := v) (t := tk + 1) ho
    have hl : (putL x (PyData.keyHash X.w.params x) (.str x (tk + 1)) v es).length ≤ 1000 := by
      have h1 : (putL x (PyData.keyHash X.w.params x) (.str x (tk + 1)) v es).length = fs'.length := (hes.put k hv).length
      have h2 := k.length
      omega
    refine wpAny_bind (wpAny_lookBehind hp (pastItsLine_dict (by rw [List.size_toArray, sizeLine_eq]; omega)) ?_)
    refine wpAny_pure ⟨⟨_, rfl⟩, ow', ?_, p⟩
    exact (S.up (u.app fr) (Heap.SameBut.update ..).extBut hp ⟨_, _, rfl, hes.put k hv⟩).st

/-! ## calls -/
theorem DA.append {dt : DT} {vs ws : List Value} {ds es : List D} (a : DA dt vs ds) (b : DA dt ws es) : DA dt (vs ++ ws) (ds ++ es) := by
  induction a with
  | nil => exact b
  | cons m _ ih => exact .cons m ih
/-- the arguments: by place, none starred -/
noncomputable def TA (X : Cx) (A : Around) (pos : Pos) (env : Env) (args : List Expr) (ow : OW) (PL : List D → OW → Prop) : Prop := match args with
  | [] => PL [] ow
  | e :: rest => (starEach (e :: rest) env = (false, eval e env) :: starEach rest env ∧ (backTo pos (starEach rest env)).any (·.1) = false) ∧ Tl X A (spliced (backTo pos (starEach (e :: rest) env))) ow PL
theorem ta_nil {PL : List D → OW → Prop} (x : PL [] ow) : TA X A pos env [] ow PL := x
theorem ta_cons {PL : List D → OW → Prop} {e : Expr} {rest : List Expr} (h : starEach (e :: rest) env = (false, eval e env) :: starEach rest env) (h2 : (backTo pos (starEach rest env)).any (·.1) = false)
    (x : Tv X A (eval e env) ow (fun d o => Tl X A (spliced (backTo pos (starEach rest env))) o (fun ds => PL (d :: ds)))) : TA X A pos env (e :: rest) ow PL := ⟨⟨h, h2⟩, it_cons h x⟩
theorem cw_K {f : Addr} {args : List Expr} {first : List Value} {dfs : List D} (hk : keepIn X.KK (.ref f) = true)
    (x : TA X A pos env args ow (fun ds o => TL X A (fun vs => call (.ref f) vs) (dfs ++ ds) o P)) :
    ∀ dt fr h, St X dt (ow ++ fr) h → DA dt first dfs → Rn X.M A (callWith pos (.ref f) first (backTo pos (starEach args env)) []) (VQ X dt fr P) h := fun dt fr h S a s hs => by
  cases args with
  | nil =>
    refine callWith_K0 (K := X.KK) (by rw [hs]; exact S.K) hk ?_
    exact x dt fr h (first ++ []) S (a.append .nil) s hs
  | cons e rest =>
    obtain ⟨hpl, x⟩ := x
    refine callWith_K (K := X.KK) (h₀ := h) S.K hk ?_ hpl.1 hpl.2
    refine wpAny_mono (x dt fr h S s hs) (fun vs s₁ y => ?_) fun _ _ e => e
    obtain ⟨k, ds, o, S', hl, p⟩ := y
    refine ⟨S'.K, ?_⟩
    exact Rn.go (p _ fr _ (first ++ vs) S' ((a.mono fun p hp => List.mem_append_right _ hp).append (DA.zip hl fun p hp => List.mem_append_left _ hp))) k fun v s' k' q => ⟨k', q.sub fun p hp => List.mem_append_right _ hp⟩
theorem cw_B {id : String} {args : List Expr} {first : List Value} {dfs : List D}
    (x : TA X A pos env args ow (fun ds o => TL X A (fun vs => call (.builtin id) vs) (dfs ++ ds) o P)) :
    ∀ dt fr h, St X dt (ow ++ fr) h → DA dt first dfs → Rn X.M A (callWith pos (.builtin id) first (backTo pos (starEach args env)) []) (VQ X dt fr P) h := fun dt fr h S a s hs => by
  cases args with
  | nil =>
    refine callWith_builtin rfl (evalArgs_nil3 ?_)
    exact x dt fr h (first ++ []) S (a.append .nil) s hs
  | cons e rest =>
    obtain ⟨hpl, x⟩ := x
    have main := x dt fr h S s hs
    rw [hpl.1] at main ⊢
    refine callWith_builtin (by show (false || (backTo pos (starEach rest env)).any (·.1)) = false; rw [hpl.2]; rfl) (evalArgs_plain ?_)
    refine wpAny_mono main (fun vs s₁ y => ?_) fun _ _ e => e
    obtain ⟨k, ds, o, S', hl, p⟩ := y
    exact Rn.go (p _ fr _ (first ++ vs) S' ((a.mono fun p hp => List.mem_append_right _ hp).append (DA.zip hl fun p hp => List.mem_append_left _ hp))) k fun v s' k' q => ⟨k', q.sub fun p hp => List.mem_append_right _ hp⟩
theorem raw_is {dt : DT} {ow : OW} {h : Heap} (S : St X dt ow h) {v w : Value} (m : (v, .raw w) ∈ dt) : v = w := by
  obtain ⟨fz, S⟩ := S
  have h := S.dat _ m
  dsimp only at h
  cases h; rfl
/-- a call of a def or a class of the text -/
theorem fc_K {f : Addr} {args : List Expr} (hk : keepIn X.KK (.ref f) = true) (x : TA X A pos env args ow (fun ds o => TL X A (fun vs => call (.ref f) vs) ds o P)) :
    T1 X A (fun g => callWith pos g [] (backTo pos (starEach args env)) []) (.raw (.ref f)) ow P := fun dt fr h v S hm => by
  cases raw_is S hm
  exact cw_K (dfs := []) hk x dt fr h S .nil
theorem fc_B {id : String} {args : List Expr} (x : TA X A pos env args ow (fun ds o => TL X A (fun vs => call (.builtin id) vs) ds o P)) :
    T1 X A (fun g => callWith pos g [] (backTo pos (starEach args env)) []) (.raw (.builtin id)) ow P := fun dt fr h v S hm => by
  cases raw_is S hm
  exact cw_B (dfs := []) x dt fr h S .nil
/-- a method's call -/
noncomputable def MC (X : Cx) (A : Around) (name : Str) (pl : Sem Bool) (pos : Pos) (env : Env) (args : List Expr) (d : D) (ow : OW) (P : D → OW → Prop) : Prop :=
  ∀ dt fr h a, St X dt (ow ++ fr) h → (a, d) ∈ dt → Rn X.M A (getMethod a name pl) (fun fx h' => Rn X.M A (callWith pos fx.1 fx.2 (backTo pos (starEach args env)) []) (VQ X dt fr P) h') h
theorem ev_mcall {o : Expr} {name : Str} {apos : Pos} {args : List Expr} {pl : Sem Bool} (e : eval ((o.Attribute name apos).Call args [] pos) env = (do
          let ov ← eval o env
          standAt apos.atName
          let (f, first) ← holding [ov] (getMethod ov name pl)
          callWith pos f first (backTo pos (starEach args env)) []))
    (x : Tv X A (eval o env) ow (fun d w => MC X A name pl pos env args d w P)) : Tv X A (eval (.Call (.Attribute o name apos) args [] pos) env) ow P := fun dt fr h S s hs =>
  MethodCall_ (pl := pl) (wpAny_mono (x dt fr h S s hs) (fun ov s₁ y => by
    obtain ⟨k, d, w, S', p⟩ := y
    refine Rn.go (p _ fr _ ov S' (.head _)) k fun fx s₂ k₂ q => ?_
    exact Rn.go q k₂ fun v s₃ k₃ q => ⟨k₃, q.sub subT⟩) fun _ _ e => e) e
theorem mc_obj {f : Addr} {pl : Sem Bool} {args : List Expr} (hc : clsOk X.KK C = true) (hf : methOk X.KK C x f = true) (m : (dx, Res.ns fs) ∈ ow) (k : Nk fs x)
    (p : TA X A pos env args ow (fun ds o => TL X A (fun vs => call (.ref f) vs) (.obj C dx :: ds) o P)) : MC X A x pl pos env args (.obj C dx) ow P := fun dt fr h a S hm s hs => by
  obtain ⟨fz, S⟩ := S
  obtain ⟨c1, c2, c3, c4, c5⟩ := clsOk_is hc
  obtain ⟨f12, f3⟩ := Bool.and_eq_true_iff.mp hf
  obtain ⟨f1, f2⟩ := Bool.and_eq_true_iff.mp f12
  cases S.dat _ hm with
  | @obj y _ _ hx =>
    obtain ⟨o, ho, es, n, rfl, hes⟩ := S.get (mem_app m)
    refine method_fn (K := X.KK) (by rw [hs]; exact S.K) (by rw [hs]; exact inst_at S hx ho) (plainGet_of c1).1 (plainGet_of c1).2 (beq_iff_eq.mp f1) (beq_iff_eq.mp f2)
      (by show (lookIn x (dictOf es n)).map _ = _; rw [lookIn_dict, hes.miss k]; rfl) ⟨.refl _, ?_⟩
    rw [hs]
    exact cw_K (dfs := [.obj C dx]) (first := [.ref y]) f3 p dt fr h S.st (.cons hm .nil)

/-! ## entering a def -/
inductive Sel : OW → OW → Prop
  | refl {o : OW} : Sel o o
  | skip {p : Addr × Res} {l o : OW} : Sel l o → Sel l (p :: o)
  | take {a : Addr} {r : Res} {o o₁ l : OW} : Ex a r o o₁ → Sel l o₁ → Sel ((a, r) :: l) o
theorem Sel.two {l o : OW} (x : Sel l o) : ∃ o', o.Perm o' ∧ l.Sublist o' := by
  induction x with
  | @refl o => exact ⟨o, .refl _, .refl _⟩
  | @skip p l o _ ih => obtain ⟨o', h1, h2⟩ := ih; exact ⟨p :: o', h1.cons _, h2.cons _⟩
  | @take a r o o₁ l e _ ih => obtain ⟨o', h1, h2⟩ := ih; exact ⟨(a, r) :: o', e.perm.trans (h1.cons _), h2.cons_cons _⟩
theorem Sel.st {X : Cx} {dt : DT} {l o fr : OW} {h : Heap} (x : Sel l o) (S : St X dt (o ++ fr) h) : St X dt (l ++ fr) h := by
  obtain ⟨o', h1, h2⟩ := x.two
  exact (S.perm (h1.append_right fr)).sub (h2.append_right fr)
theorem VQ.selQ {X : Cx} {dt : DT} {fr : OW} {v : Value} {h : Heap} {P : D → OW → Prop} (x : VQ X dt fr (fun d o => ∃ o', Sel o' o ∧ P d o') v h) : VQ X dt fr P v h :=
  let ⟨d, o, S, o', s, p⟩ := x; ⟨d, o', s.st S, p⟩
/-- what is handed back: the value; the frame and what else is left is dropped -/
noncomputable def RetTo (P : D → OW → Prop) : Fl → OW → Prop
  | .ret d, o => ∃ o', Sel o' o ∧ P d o'
  | _, o => ∃ o', Sel o' o ∧ P .none o'
theorem va_rev {fz : Fz} : ∀ {vs : List Value} {ds : List D} (ns : List Str) (y : Str), VA fz vs ds → OV fz (((ns.zip vs)).lookup y) ((ns.zip ds).lookup y)
  | [], [], [], _, _ => True.intro
  | [], [], _ :: _, _, _ => True.intro
  | _ :: _, _ :: _, [], _, _ => True.intro
  | v :: vs, d :: ds, n :: ns, y, .cons hv r => by
    rw [List.zip_cons_cons, List.zip_cons_cons, List.lookup_cons, List.lookup_cons]
    cases (y == n) with
    | true => exact hv
    | false => exact va_rev ns y r
theorem VA.rev {fz : Fz} {vs : List Value} {ds : List D} (h : VA fz vs ds) : VA fz vs.reverse ds.reverse := by
  induction vs generalizing ds with
  | nil => cases h; exact .nil
  | cons v vs ih => cases h with | cons h r => rw [List.reverse_cons, List.reverse_cons]; exact (ih r).append (.one h)
theorem zip_rev {α β : Type} : ∀ (a : List α) (b : List β), a.length = b.length → (a.zip b).reverse = a.reverse.zip b.reverse
  | [], [], _ => rfl
  | x :: a, y :: b, h => by
    rw [List.zip_cons_cons, List.reverse_cons, zip_rev a b (by simpa using h), List.reverse_cons, List.reverse_cons, List.zip_append (by simpa using h)]; rfl
theorem lookup_find {es : Array DictEntry} : True := trivial
section
variable {name qual : Str} {params : Arguments} {body : List Stmt} {scope : Scope} {dV kV doc pm cdv ct oc : Value} {an od : Option Addr} {osl : Array (Option Value)} {f : Addr} {ds : List D}
theorem call_def {ns : List Str} {n : Nat} (hA : AOk (n + 1) A) (ho : X.KK.lookup f = some ⟨oc, od, .func (fnOf name qual params body scope dV kV doc pm an cdv ct), osl⟩) (hcd : codeIn X.KK cdv qual = true)
    (hb : ∀ vs : List Value, vs.length = ds.length → bindArgs (fnOf name qual params body scope dV kV doc pm an cdv ct) ⟨vs, []⟩ = pure (ns.zip vs))
    (hloc : (ns.all fun y => decide (scope.names.lookup y = some .local)) = true) (hlen : ns.length = ds.length)
    (hcell : (scope.names.all fun y => decide (y.2 ≠ .cell)) = true) (hco : scope.isCoroutine = false) (hgen : scope.isGenerator = false) (hk : scope.kind = .function)
    (hfs : (ns.zip ds).reverse = fs)
    (hAA : ∀ L A', AOk n A' → Tf X A' (execs body (envX qual scope L f cdv [])) ((L, .fm fs) :: ow) (RetTo P)) : TC X A (.ref f) ds ow P := fun dt fr hp vs S a => by
  have h := fun L => hAA L (A.deeper (envX qual scope L f cdv [])) hA.deeper
  intro s hs
  obtain ⟨fz, S⟩ := S
  have va := a.va S
  have hl := va.length
  refine codeAny_call_def (fd := fnOf name qual params body scope dV kV doc pm an cdv ct) (body := body) (binds := ns.zip vs) hA.room (by rw [hs]; exact S.K _ _ ho) rfl
    (by rw [hs]; exact X.lim.keeps S.base) (by rw [hs]; exact codeRec_of S.K hcd) rfl (BindsTo.of_eq (hb vs hl)) ?_ ?_ (fun h₁ hns hk₁ => ?_) hco hgen hk
  · intro x hx; simpa using List.all_eq_true.mp hcell x hx
  · intro x hx; simpa using List.all_eq_true.mp hloc x.1 (List.of_mem_zip hx).1
  · rw [hs] at hk₁ hns
    obtain ⟨o, es, ep, ho', hd', hsk, hf'⟩ := hns
    have S₁ : SF X fz dt ((hp.objs.size, .fm fs) :: (ow ++ fr)) h₁ := S.new hk₁ (none_at hp) ho' ⟨es, ep, hd', hsk, fun y => by
      rw [hf', ← hfs, zip_rev _ _ (hlen.trans hl.symm), zip_rev _ _ hlen]
      exact va_rev _ _ va.rev⟩
    have z := h hp.objs.size dt fr h₁ S₁.st { s with heap := h₁, toks := s.toks + (ns.zip vs).length } rfl
    rw [hs]
    refine wpAny_mono z (fun fl s' y => ?_) fun _ _ e => e.elim
    obtain ⟨k, y⟩ := y
    refine ⟨(Kin.mk s h₁ _).trans k, ?_⟩
    have drop : ∀ v, VQ X dt fr (fun d o => ∃ o', Sel o' o ∧ P d o') v s'.heap → VQ X dt fr P v s'.heap := fun v y => y.selQ
    have dropU : UQ X dt fr (fun o => ∃ o', Sel o' o ∧ P .none o') s'.heap → VQ X dt fr P .none s'.heap := fun y => by
      obtain ⟨o, S', o', hsub, p⟩ := y
      exact ⟨.none, o', (hsub.st S').none, p⟩
    cases fl with
    | ret v => exact drop v y
    | next => exact dropU y
    | brk => exact dropU y
    | cont => exact dropU y
end
end
section
variable {X : Cx} {A : Around} {env : Env} {ow ow' : OW} {P : D → OW → Prop} {PB : Bool → OW → Prop} {PU : OW → Prop} {PF : Fl → OW → Prop} {pos : Pos} {i j : Int} {d : D} {ds es : List D}

/-! ## ints -/
theorem vd_of {dt : DT} {h : Heap} {fz : Fz} (S : SF X fz dt ow h) {v : Value} (m : (v, d) ∈ dt) : VD fz v d := S.dat _ m
theorem int_of {fz : Fz} {v : Value} (h : VD fz v (.int i)) : ∃ t, v = .int i t := by cases h; exact ⟨_, rfl⟩
theorem op_add (p : P (.int (i + j)) ow) : T2 X A (binaryOp .Add) (.int i) (.int j) ow P := fun dt fr h a b S ha hb s hs => by
  obtain ⟨fz, S⟩ := S
  obtain ⟨t, rfl⟩ := int_of (vd_of S ha)
  obtain ⟨u, rfl⟩ := int_of (vd_of S hb)
  exact add_int ⟨⟨_, rfl⟩, _, ow, hs ▸ S.st.int _ _, p⟩
theorem op_sub (p : P (.int (i - j)) ow) : T2 X A (binaryOp .Sub) (.int i) (.int j) ow P := fun dt fr h a b S ha hb s hs => by
  obtain ⟨fz, S⟩ := S
  obtain ⟨t, rfl⟩ := int_of (vd_of S ha)
  obtain ⟨u, rfl⟩ := int_of (vd_of S hb)
  exact sub_int ⟨⟨_, rfl⟩, _, ow, hs ▸ S.st.int _ _, p⟩
theorem op_mod (hj : j ≠ 0) (p : P (.int (i.fmod j)) ow) : T2 X A (binaryOp .Mod) (.int i) (.int j) ow P := fun dt fr h a b S ha hb s hs => by
  obtain ⟨fz, S⟩ := S
  obtain ⟨t, rfl⟩ := int_of (vd_of S ha)
  obtain ⟨u, rfl⟩ := int_of (vd_of S hb)
  exact mod_int' hj ⟨⟨_, rfl⟩, _, ow, hs ▸ S.st.int _ _, p⟩
theorem op_eq (p : P (.bool (i == j)) ow) : T2 X A (compareOp .Eq) (.int i) (.int j) ow P := fun dt fr h a b S ha hb s hs => by
  obtain ⟨fz, S⟩ := S
  obtain ⟨t, rfl⟩ := int_of (vd_of S ha)
  obtain ⟨u, rfl⟩ := int_of (vd_of S hb)
  exact eq_int ⟨⟨_, rfl⟩, _, ow, hs ▸ S.st.bool _, p⟩
theorem op_ne (p : P (.bool (i != j)) ow) : T2 X A (compareOp .NotEq) (.int i) (.int j) ow P := fun dt fr h a b S ha hb s hs => by
  obtain ⟨fz, S⟩ := S
  obtain ⟨t, rfl⟩ := int_of (vd_of S ha)
  obtain ⟨u, rfl⟩ := int_of (vd_of S hb)
  exact ne_int ⟨⟨_, rfl⟩, _, ow, hs ▸ S.st.bool _, p⟩
theorem op_lt (p : P (.bool (decide (i < j))) ow) : T2 X A (compareOp .Lt) (.int i) (.int j) ow P := fun dt fr h a b S ha hb s hs => by
  obtain ⟨fz, S⟩ := S
  obtain ⟨t, rfl⟩ := int_of (vd_of S ha)
  obtain ⟨u, rfl⟩ := int_of (vd_of S hb)
  exact lt_int ⟨⟨_, rfl⟩, _, ow, hs ▸ S.st.bool _, p⟩
theorem op_le (p : P (.bool (decide (i ≤ j))) ow) : T2 X A (compareOp .LtE) (.int i) (.int j) ow P := fun dt fr h a b S ha hb s hs => by
  obtain ⟨fz, S⟩ := S
  obtain ⟨t, rfl⟩ := int_of (vd_of S ha)
  obtain ⟨u, rfl⟩ := int_of (vd_of S hb)
  exact le_int ⟨⟨_, rfl⟩, _, ow, hs ▸ S.st.bool _, p⟩
theorem op_gt (p : P (.bool (decide (j < i))) ow) : T2 X A (compareOp .Gt) (.int i) (.int j) ow P := fun dt fr h a b S ha hb s hs => by
  obtain ⟨fz, S⟩ := S
  obtain ⟨t, rfl⟩ := int_of (vd_of S ha)
  obtain ⟨u, rfl⟩ := int_of (vd_of S hb)
  exact gt_int ⟨⟨_, rfl⟩, _, ow, hs ▸ S.st.bool _, p⟩
theorem op_ge (p : P (.bool (decide (j ≤ i))) ow) : T2 X A (compareOp .GtE) (.int i) (.int j) ow P := fun dt fr h a b S ha hb s hs => by
  obtain ⟨fz, S⟩ := S
  obtain ⟨t, rfl⟩ := int_of (vd_of S ha)
  obtain ⟨u, rfl⟩ := int_of (vd_of S hb)
  exact ge_int ⟨⟨_, rfl⟩, _, ow, hs ▸ S.st.bool _, p⟩
theorem un_neg (p : P (.int (-i)) ow) : T1 X A (unaryOp .USub) (.int i) ow P := fun dt fr h a S ha s hs => by
  obtain ⟨fz, S⟩ := S
  obtain ⟨t, rfl⟩ := int_of (vd_of S ha)
  exact neg_int ⟨⟨_, rfl⟩, _, ow, hs ▸ S.st.int _ _, p⟩
theorem fn_abs (p : P (.int (if i < 0 then -i else i)) ow) : TL X A (fun vs => call (.builtin "abs") vs) [.int i] ow P := fun dt fr h vs S a s hs => by
  obtain ⟨fz, S⟩ := S
  cases a.va S with
  | cons ha r =>
    cases r
    obtain ⟨t, rfl⟩ := int_of ha
    exact call_abs_int fun u tk => ⟨⟨_, rfl⟩, _, ow, hs ▸ S.st.int _ _, p⟩
theorem ext_st {dt : DT} {h : Heap} (S : St X dt ow h) {h' : Heap} (k : ∀ b o, h.get? b = some o → h'.get? b = some o) : St X dt ow h' := S.ext k
theorem fn_max (hA : A.handled = none) (p : P (.int (if j > i then j else i)) ow) : TL X A (fun vs => call (.builtin "max") vs) [.int i, .int j] ow P := fun dt fr h vs S a s hs => by
  obtain ⟨fz, S⟩ := S
  cases a.va S with
  | cons ha r =>
    cases r with
    | cons hb r =>
      cases r
      obtain ⟨t, rfl⟩ := int_of ha
      obtain ⟨u, rfl⟩ := int_of hb
      refine max_two_ints hA fun h' tk hk => ⟨⟨_, rfl⟩, .int (if j > i then j else i), ow, ?_, p⟩
      have S' := S.st.ext (h' := h') (by rw [← hs]; exact hk)
      split
      · exact S'.int _ _
      · exact S'.int _ _
theorem fn_min (hA : A.handled = none) (p : P (.int (if j < i then j else i)) ow) : TL X A (fun vs => call (.builtin "min") vs) [.int i, .int j] ow P := fun dt fr h vs S a s hs => by
  obtain ⟨fz, S⟩ := S
  cases a.va S with
  | cons ha r =>
    cases r with
    | cons hb r =>
      cases r
      obtain ⟨t, rfl⟩ := int_of ha
      obtain ⟨u, rfl⟩ := int_of hb
      refine min_two_ints hA fun h' tk hk => ⟨⟨_, rfl⟩, .int (if j < i then j else i), ow, ?_, p⟩
      have S' := S.st.ext (h' := h') (by rw [← hs]; exact hk)
      split
      · exact S'.int _ _
      · exact S'.int _ _
theorem ty_int (x : PB (i != 0) ow) : B1 X A truthy (.int i) ow PB := fun dt fr h a S m s hs => by
  obtain ⟨fz, S⟩ := S
  obtain ⟨t, rfl⟩ := int_of (vd_of S m)
  exact P.truthy_int ⟨.refl _, _, hs ▸ S.st, x⟩

/-! ## lists, owned or frozen -/
inductive IsL (ow : OW) : D → List D → Prop
  | fz {ds : List D} : IsL ow (.lst ds) ds
  | own {a : Addr} {ds : List D} : (a, Res.list ds) ∈ ow → IsL ow (.own a) ds
theorem IsL.at {fz : Fz} {dt : DT} {fr : OW} {h : Heap} (S : SF X fz dt (ow ++ fr) h) (l : IsL ow d ds) {v : Value} (hv : VD fz v d) : ∃ a vs n, v = .ref a ∧ h.get? a = some (listOf (List.toArray vs) n) ∧ VA fz vs ds := by
  cases l with
  | fz => cases hv with | lst m r => exact ⟨_, _, _, rfl, S.frz _ m, r⟩
  | own m =>
    cases hv
    obtain ⟨o, ho, vs, n, rfl, r⟩ := S.get (mem_app m)
    exact ⟨_, _, _, rfl, ho, r⟩
theorem isList_of {h : Heap} {a : Addr} {its : Array Value} {n : Nat} (ho : h.get? a = some (listOf its n)) : h.IsList a its := ⟨_, ho, rfl, n, rfl⟩
theorem fn_len (l : IsL ow d ds) (hz : ds.length < 2 ^ 63) (p : P (.int ds.length) ow) : TL X A (fun vs => call (.builtin "len") vs) [d] ow P := fun dt fr h vs S a s hs => by
  obtain ⟨fz, S⟩ := S
  cases a.va S with
  | cons ha r =>
    cases r
    obtain ⟨a, us, n, rfl, ho, va⟩ := l.at S ha
    have hl := va.length
    refine call_len_list (isList_of (hs ▸ ho)) (by rw [List.size_toArray, hl]; exact_mod_cast hz) ⟨⟨_, rfl⟩, .int ds.length, ow, ?_, p⟩
    rw [List.size_toArray, hl]
    exact hs ▸ S.st.int _ _
theorem it_list {value slice : Expr} (l : IsL ow d ds) (h0 : 0 ≤ i) (hi : i < 2 ^ 63) {y : D} (hx : ds[i.toNat]? = some y)
    (hs : ∀ l k u, subscripted slice false (.ref l) (.int k u) = operate [.ref l, .int k u] (getItem (.ref l) (.int k u))) (p : P y ow) :
    T2 X A (subscriptTail value slice) d (.int i) ow P := fun dt fr h a b S ha hb s hs' => by
  obtain ⟨fz, S⟩ := S
  obtain ⟨t, rfl⟩ := int_of (vd_of S hb)
  obtain ⟨a, us, n, rfl, ho, va⟩ := l.at S (vd_of S ha)
  obtain ⟨v, hv, hd⟩ := va.get hx
  exact kba_turn (value' := .Name (PySem.Str.ofString "_") ⟨0, 0, 0, 0⟩) (slice := slice) (fun _ => rfl) (item_listL (isList_of (hs' ▸ ho)) h0 hi hv ⟨.refl _, y, ow, hs' ▸ (S.see hd).st, p⟩ (hs _ _ _) (fun _ => rfl))
theorem it_last {value slice : Expr} (l : IsL ow d ds) (hz : ds.length < 2 ^ 62) {y : D} (hx : ds.getLast? = some y)
    (hs : ∀ l k u, subscripted slice false (.ref l) (.int k u) = operate [.ref l, .int k u] (getItem (.ref l) (.int k u))) (p : P y ow) :
    T2 X A (subscriptTail value slice) d (.int (-1)) ow P := fun dt fr h a b S ha hb s hs' => by
  obtain ⟨fz, S⟩ := S
  obtain ⟨t, rfl⟩ := int_of (vd_of S hb)
  obtain ⟨a, us, n, rfl, ho, va⟩ := l.at S (vd_of S ha)
  rw [List.getLast?_eq_getElem?] at hx
  have hl := va.length
  have hpos : 0 < ds.length := by
    rcases Nat.eq_zero_or_pos ds.length with h | h
    · rw [List.length_eq_zero_iff.mp h] at hx; cases hx
    · exact h
  obtain ⟨v, hv, hd⟩ := va.get hx
  have hL : s.heap.IsList a us.toArray := isList_of (hs' ▸ ho)
  refine kba_turn (value' := .Name (PySem.Str.ofString "_") ⟨0, 0, 0, 0⟩) (slice := slice) (fun _ => rfl) (subscriptTail_builtin hL.typeIs slot_list_getitem.lookup (wpAny_getItem_list_neg hL (by decide) (by rw [List.size_toArray]; omega) (by decide) ?_ ⟨.refl _, y, ow, hs' ▸ (S.see hd).st, p⟩) (hs _ _ _) (fun _ => rfl))
  rw [List.size_toArray, List.getElem?_toArray]
  have : (-1 + (us.length : Int)).toNat = ds.length - 1 := by omega
  rw [this]; exact hv
theorem it_tup {value slice : Expr} {k : Nat} (h0 : 0 ≤ i) (hi : i < 2 ^ 63) {y : D} (hx : ds[i.toNat]? = some y)
    (hs : ∀ l k u, subscripted slice false (.ref l) (.int k u) = operate [.ref l, .int k u] (getItem (.ref l) (.int k u))) (p : P y ow) :
    T2 X A (subscriptTail value slice) (.tup ds) (.int i) ow P := fun dt fr h a b S ha hb s hs' => by
  obtain ⟨fz, S⟩ := S
  obtain ⟨t, rfl⟩ := int_of (vd_of S hb)
  have hv := vd_of S ha
  cases hv with
  | @tup a us n _ m va =>
    obtain ⟨v, hv, hd⟩ := va.get hx
    have hlt : i.toNat < us.length := (List.getElem?_eq_some_iff.mp hv).1
    refine kba_turn (value' := .Name (PySem.Str.ofString "_") ⟨0, 0, 0, 0⟩) (slice := slice) (fun _ => rfl) (item_tupleL (j := i.toNat) ⟨_, hs' ▸ S.frz _ m, rfl, n, rfl⟩ (by omega) hi ?_ hv ⟨.refl _, y, ow, hs' ▸ (S.see hd).st, p⟩ (hs _ _ _) (fun _ => rfl))
    unfold seqIndex?
    simp only [if_neg (show ¬ i < 0 by omega)]
    rw [if_pos (by simp only [Bool.and_eq_true, decide_eq_true_eq]; omega)]
theorem seq_up {h : Heap} {a : Addr} {its : Array Value} {n : Nat} (ho : h.get? a = some (listOf its n)) (f : Array Value → Array Value) : ∃ m, (h.update a (Obj.mapSeq f)).get? a = some (listOf (f its) m) :=
  ⟨_, PySem.IsL.update (n := n) ho f⟩
theorem st_item (h0 : 0 ≤ i) (hi : i < 2 ^ 63) {a : Addr} (hlt : i.toNat < ds.length) (u : Up a (.list ds) (.list (ds.set i.toNat d)) ow ow') (p : PU ow') : U3 X A (fun v ov iv => setItem ov iv v) d (.own a) (.int i) ow PU := fun dt fr h v ov iv S hv hov hiv s hs => by
  obtain ⟨fz, S⟩ := S
  obtain ⟨t, rfl⟩ := int_of (vd_of S hiv)
  obtain ⟨o, ho, vs, n, rfl, va⟩ := S.get (mem_app u.mem)
  have hd := vd_of S hv
  have hr := vd_of S hov
  cases hr
  have hl := va.length
  rw [← hs] at ho
  refine ki_setAt ho h0 hi (by rw [List.size_toArray, hl]; omega) ⟨⟨_, rfl⟩, ow', ?_, p⟩
  obtain ⟨m, hm⟩ := seq_up ho (·.setIfInBounds i.toNat v)
  rw [← hs] at S
  refine (S.up (u.app fr) (Heap.SameBut.update ..).extBut hm ⟨vs.set i.toNat v, m, ?_, va.set hd _⟩).st
  rw [List.setIfInBounds_toArray]
theorem fn_append {a : Addr} (u : Up a (.list ds) (.list (ds ++ [d])) ow ow') (hz : ds.length ≤ sizeLine) (p : P .none ow') : TL X A (fun vs => call (.builtin "list.append") vs) [.own a, d] ow P := fun dt fr h vs S aa s hs => by
  obtain ⟨fz, S⟩ := S
  cases aa.va S with
  | cons ha r =>
    cases r with
    | cons hb r =>
      cases r
      cases ha
      obtain ⟨o, ho, us, n, rfl, va⟩ := S.get (mem_app u.mem)
      have hl := va.length
      rw [← hs] at ho
      refine append_at ho (fun h' hsb ho' => ⟨⟨_, rfl⟩, .none, ow', ?_, p⟩) (by rw [List.size_toArray, hl]; exact hz)
      rw [← hs] at S
      refine (S.up (u.app fr) hsb.extBut ho' ⟨us ++ [_], n + 1, ?_, va.append (.one hb)⟩).st.none
      simp
theorem fn_pop0 {a : Addr} (u : Up a (.list (d :: ds)) (.list ds) ow ow') (hz : ds.length + 1 ≤ sizeLine) (p : P d ow') : TL X A (fun vs => call (.builtin "list.pop") vs) [.own a, .int 0] ow P := fun dt fr h vs S aa s hs => by
  obtain ⟨fz, S⟩ := S
  cases aa.va S with
  | cons ha r =>
    cases r with
    | cons hb r =>
      cases r
      cases ha
      obtain ⟨t, rfl⟩ := int_of hb
      obtain ⟨o, ho, us, n, rfl, va⟩ := S.get (mem_app u.mem)
      rw [← hs] at ho S
      cases va with
      | @cons y us _ _ hy va =>
        have hl := va.length
        refine call_meets PySem.F.slot_list_pop ⟨_, ho, rfl⟩ PySem.F.entry_list_pop (PySem.F.args_list_pop_2 _ _) (PySem.MeetsSeq.list_pop_at a _ n 0 t 0 y (by decide) (by unfold seqIndex?; simp) (by simp) (by rw [List.size_toArray, List.length_cons, hl]; exact hz))
          ⟨ho, ⟨⟨_, rfl⟩, d, ow', ?_, p⟩⟩
        obtain ⟨m, hm⟩ := seq_up ho (·.eraseIdxIfInBounds 0)
        refine ((S.up (r' := .list ds) (u.app fr) (Heap.SameBut.update ..).extBut hm ⟨us, m, ?_, va⟩).see hy).st
        have e := kl_erase [] us y
        simp only [List.nil_append, List.length_nil] at e
        rw [e]
/-- a new list: as it stands, or to be turned -/
inductive Out (P : D → OW → Prop) (ow : OW) (ds : List D) : Prop
  | fz : P (.lst ds) ow → Out P ow ds
  | own : (∀ a, P (.own a) ((a, .list ds) :: ow)) → Out P ow ds
theorem Out.st {fz : Fz} {dt : DT} {fr : OW} {h : Heap} (S : SF X fz dt (ow ++ fr) h) {us : List Value} (va : VA fz us ds) (x : Out P ow ds) : VQ X dt fr P (.ref h.objs.size) (h.push (listOf us.toArray 0)) := by
  cases x with
  | fz p => exact ⟨.lst ds, ow, ((S.allocFz (o := listOf us.toArray 0) rfl).see (.lst (.head _) (va.mono fun p hp => .tail _ hp))).st, p⟩
  | own p => exact ⟨.own h.objs.size, _, ((S.alloc (r := .list ds) (o := listOf us.toArray 0) ⟨us, 0, rfl, va⟩ rfl).see (.own _)).st, p _⟩
theorem VQ.keep {dt : DT} {fr : OW} {v : Value} {h h' : Heap} (x : VQ X dt fr P v h) (e : h = h') : VQ X dt fr P v h' := e ▸ x
theorem mk_list (x : Out P ow ds) (hz : ds.length ≤ sizeLine) : TL X A newList ds ow P := fun dt fr h vs S a s hs => by
  obtain ⟨fz, S⟩ := S
  have va := a.va S
  rw [← hs] at S
  exact wpAny_newObj_type ⟨⟨_, rfl⟩, x.st S va⟩ (by show vs.toArray.size ≤ sizeLine; rw [List.size_toArray]; exact va.size hz)
theorem op_cat {d' : D} (l : IsL ow d ds) (l' : IsL ow d' es) (hz : ds.length + es.length ≤ sizeLine) (x : Out P ow (ds ++ es)) : T2 X A (binaryOp .Add) d d' ow P := fun dt fr h a b S ha hb s hs => by
  obtain ⟨fz, S⟩ := S
  obtain ⟨a, us, n, rfl, ho, va⟩ := l.at S (vd_of S ha)
  obtain ⟨b, ws, n', rfl, ho', va'⟩ := l'.at S (vd_of S hb)
  have h1 := va.length
  have h2 := va'.length
  rw [← hs] at ho ho' S
  refine concat_meets ⟨_, ho, rfl⟩ ⟨_, ho', rfl⟩ noFill_list_add seq_list_add PySem.F.slot_list_add PySem.F.entry_list_add (PySem.F.args_list_add_2 _ _) (list_addW a b us.toArray ws.toArray n n' none none #[] #[] (by simpa [h1, h2] using hz)) ⟨ho, ho', ?_⟩
  have e : us.toArray ++ ws.toArray = (us ++ ws).toArray := by simp
  rw [e]
  exact ⟨⟨_, rfl⟩, x.st S (va.append va')⟩
theorem foldl_app (us : List Value) : ∀ (k : Nat) (acc : List Value), (List.replicate k us.toArray).foldl (fun x1 x2 => x1 ++ x2) acc.toArray = (acc ++ (List.replicate k us).flatten).toArray
  | 0, acc => by simp
  | k + 1, acc => by
    rw [List.replicate_succ, List.foldl_cons, show acc.toArray ++ us.toArray = (acc ++ us).toArray by simp, foldl_app us k (acc ++ us)]
    simp [List.replicate_succ]
theorem va_one_rep {fz : Fz} {v : Value} (h : VD fz v d) : ∀ k, VA fz (List.replicate k v) (List.replicate k d)
  | 0 => .nil
  | k + 1 => .cons h (va_one_rep h k)
theorem op_rep {y : D} (l : IsL ow d [y]) (h0 : -(2 ^ 63) ≤ i) (hi : i ≤ 2 ^ 24) (x : Out P ow (List.replicate i.toNat y)) : T2 X A (binaryOp .Mult) d (.int i) ow P := fun dt fr h a b S ha hb s hs => by
  obtain ⟨fz, S⟩ := S
  obtain ⟨t, rfl⟩ := int_of (vd_of S hb)
  obtain ⟨a, us, n, rfl, ho, va⟩ := l.at S (vd_of S ha)
  rw [← hs] at ho S
  cases va with
  | @cons u _ _ _ hu r =>
    cases r
    refine wpAny_binaryOp_repeat_ref (T := "list") (U := "int") (by decide) ⟨_, ho, rfl⟩ (fun s' => typeIs_int s' i t) noFill_list_mul F.fills_int_mul F.slot_int_rmul repeat_list F.slot_int_index.lookup
      (call_meets F.slot_int_rmul (typeIs_int s i t) F.entry_int_rmul (F.args_int_rmul_2 _ _) (int___rmul___int_list i t a [u].toArray n)
        ⟨ho, rfl, ⟨_, ho, rfl⟩, call_meets F.slot_list_mul ⟨_, ho, rfl⟩ F.entry_list_mul (F.args_list_mul_2 _ _)
          (AutoListH.list___mul___list_int_3 a [u].toArray n i t (by simp [Builtin.List.listFitsIndex]; omega) (by simp; omega) (by simp [Builtin.List.listTooLong, sizeLine]; omega))
          ⟨ho, ?_⟩⟩)
    have e : List.foldl (fun x1 x2 => x1 ++ x2) #[] (List.replicate (if ([u].toArray).isEmpty = true then 0 else i.toNat) [u].toArray) = (List.replicate i.toNat u).toArray := by
      have := foldl_app [u] i.toNat []
      simp only [List.nil_append] at this
      rw [if_neg (by simp), this]
      congr 1
      induction i.toNat with
      | zero => rfl
      | succ k ih => simp [List.replicate_succ, ih]
    rw [e]
    exact ⟨⟨_, rfl⟩, x.st S (va_one_rep hu _)⟩
/-- slices -/
noncomputable def pick (ds : List D) (lo hi : Option Int) : List D := (ds.drop (kms_lo lo ds.length)).take (kms_hi hi ds.length - kms_lo lo ds.length)
noncomputable def PA (X : Cx) (A : Around) (env : Env) (e : Option Expr) (ow : OW) (P : Option Int → OW → Prop) : Prop := match e with
  | none => P none ow
  | some e => Tv X A (eval e env) ow (fun d o => ∃ i, d = .int i ∧ P (some i) o)
theorem PA.rn {e : Option Expr} {P : Option Int → OW → Prop} (x : PA X A env e ow P) : ∀ dt fr h, St X dt (ow ++ fr) h → Rn X.M A (evalPart e env) (fun v h' => ∃ k o, IsPart v k ∧ St X dt (o ++ fr) h' ∧ P k o) h := fun dt fr h S => by
  cases e with
  | none => exact fun s hs => evalPart_none_step ⟨.refl _, none, ow, .none, hs ▸ S, x⟩
  | some e => exact fun s hs => evalPart_some_step (wpAny_mono (x dt fr h S s hs) (fun v s' y => by
      obtain ⟨k, d, o, S', i, rfl, p⟩ := y
      obtain ⟨fz, S'⟩ := S'
      obtain ⟨t, rfl⟩ := int_of (vd_of S' (.head _))
      exact ⟨k, some i, o, .int i t, (S'.dts subT).st, p⟩) fun _ _ e => e)
theorem sub_slice {M : Model} {E : Value → Shared → Prop} {s : Shared} {value : Expr} {lower upper : Option Expr} {p pos : Pos} {T id : String} {Q : Value → Shared → Prop}
    (hl : typeLookup (.type T) "__getitem__" = pure (some (.builtin id)))
    (h : wpAny (model X.prog X.w) A (eval value env) (fun o s₁ => wpAny (model X.prog X.w) A (eval (.Slice lower upper none p) env) (fun i s₂ => s₂.TypeIs o T ∧ wpAny (model X.prog X.w) A (getItem o i) Q E s₂) E s₁) E s) :
    wpAny (model X.prog X.w) A (eval (.Subscript value (.Slice lower upper none p) pos) env) Q E s := by
  rw [eval_Subscript]
  refine wpAny_bind (wpAny_mono h (fun o s₁ h₁ => wpAny_bind (wpAny_holding (wpAny_mono h₁ (fun i s₂ h₂ => wpAny_bind (wpAny_standAt ?_)) fun _ _ x => x))) fun _ _ x => x)
  have fin : wpAny (model X.prog X.w) A (operate [i, o] (getItem o i)) (fun r s₃ => wpAny (model X.prog X.w) A (letTemporaryGo value o r >>= fun _ => pure r) Q E s₃) E s₂ :=
    wpAny_operating (wpAny_mono h₂.2 (fun r s₃ h₃ => wpAny_bind (wpAny_letTemporaryGo (wpAny_pure h₃))) fun _ _ x => x)
  first
    | (refine wpAny_bind ?_
       rw [getitemInPython_of_ne h₂.1.not_modules]
       refine wpAny_bind (wpAny_specialOf h₂.1 hl ?_)
       first
         | exact wpAny_pure (wpAny_bind fin)
         | exact wpAny_bind (wpAny_pure (wpAny_bind fin))
         | exact wpAny_bind fin)
    | (refine wpAny_bind (wpAny_specialOf h₂.1 hl ?_)
       first
         | exact wpAny_bind (wpAny_pure (wpAny_bind fin))
         | exact wpAny_bind fin)
theorem ev_slice {value : Expr} {lower upper : Option Expr} {p : Pos}
    (x : Tv X A (eval value env) ow (fun d o => PA X A env lower o (fun lo o => PA X A env upper o (fun hi o => ∃ ds, IsL o d ds ∧ ds.length ≤ sizeLine ∧ Out P o (pick ds lo hi))))) :
    Tv X A (eval (.Subscript value (.Slice lower upper none p) pos) env) ow P := fun dt fr h S s hs =>
  sub_slice (M := X.M) (T := "list") list_getitem_lookup (wpAny_mono (x dt fr h S s hs) (fun v s₁ y => by
    obtain ⟨k₁, d, o, S₁, q⟩ := y
    refine wpAny_Slice (Rn.go (q.rn _ fr _ S₁) k₁ fun vl s₂ k₂ y => ?_)
    obtain ⟨lo, o₂, pl, S₂, q⟩ := y
    refine Rn.go (q.rn _ fr _ S₂) k₂ fun vu s₃ k₃ y => ?_
    obtain ⟨hi, o₃, pu, S₃, ds, l, hz, q⟩ := y
    obtain ⟨fz, S₃⟩ := S₃
    obtain ⟨a, us, n, rfl, ho, va⟩ := l.at S₃ (vd_of S₃ (.head _))
    have hl := va.length
    have hL : s₃.heap.IsList a us.toArray := isList_of ho
    rw [evalPart_none]
    refine wpAny_pure ⟨(hL.push _).typeIs, wpAny_getItem_list_slice (hL.push _) (Heap.IsSliceOf.new ..) pl pu .none (by simp) ?_ (by rw [List.size_toArray, hl]; exact hz)⟩
    rw [Heap.size_push]
    refine ⟨k₃.trans ⟨_, rfl⟩, ?_⟩
    have S₄ : SF X fz dt (o₃ ++ fr) (s₃.heap.push { cls := .type "slice", data := .fields #[vl, vu, .none] }) := (S₃.dts subT).push _
    have va' : VA fz (kms_pick us lo hi) (pick ds lo hi) := by
      unfold kms_pick pick
      rw [hl]
      exact (va.drop _).take _
    have z := q.st S₄ va'
    rw [Heap.size_push] at z
    rw [kms_pick_eq]
    exact z) fun _ _ e => e)
/-- in -/
theorem op_in {is : List Int} (hA : True) (hd : IsL ow d (is.map .int) ∨ d = .tup (is.map .int)) (p : P (.bool (is.any (· == i))) ow) : T2 X A (compareOp .In) (.int i) d ow P := fun dt fr h a b S ha hb s hs => by
  obtain ⟨fz, S⟩ := S
  obtain ⟨t, rfl⟩ := int_of (vd_of S ha)
  have hv := vd_of S hb
  rw [← hs] at S
  let e : Value → Bool := fun v => match v with | .int j _ => j == i | _ => false
  have key : ∀ {us : List Value} {is : List Int}, VA fz us (is.map .int) → us.any e = is.any (· == i) ∧ ∀ y ∈ us, ∃ j u, y = .int j u := by
    intro us is va
    induction is generalizing us with
    | nil => cases va; exact ⟨rfl, fun _ h => nomatch h⟩
    | cons j r ih =>
      cases va with
      | cons hy va =>
        obtain ⟨u, rfl⟩ := int_of hy
        obtain ⟨h1, h2⟩ := ih va
        refine ⟨?_, fun y hy => ?_⟩
        · rw [List.any_cons, List.any_cons, h1]
        · rcases List.mem_cons.mp hy with rfl | hy
          · exact ⟨_, _, rfl⟩
          · exact h2 y hy
  have he : ∀ {us : List Value}, (∀ y ∈ us, ∃ j u, y = Value.int j u) → ∀ y ∈ us.toArray, SeqAt.EqAt A.in1 s y (.int i t) (e y) := by
    intro us h y hy
    obtain ⟨j, u, rfl⟩ := h y (by simpa using hy)
    exact SeqAt.EqAt.int_int j u i t
  rcases hd with l | rfl
  · obtain ⟨a, us, n, rfl, ho, va⟩ := l.at S hv
    obtain ⟨h1, h2⟩ := key va
    refine SeqAt.in_listAt e (isList_of ho) (he h2) ?_
    rw [show us.toArray.any e = us.any e by simp, h1]
    exact ⟨⟨_, rfl⟩, _, ow, S.st.bool _, p⟩
  · cases hv with
    | @tup a us n _ m va =>
      obtain ⟨h1, h2⟩ := key va
      refine SeqAt.in_tupleAt e ⟨_, S.frz _ m, rfl, n, rfl⟩ (he h2) ?_
      rw [show us.toArray.any e = us.any e by simp, h1]
      exact ⟨⟨_, rfl⟩, _, ow, S.st.bool _, p⟩
/-- is None -/
noncomputable def D.isNone : D → Bool
  | .none => true
  | _ => false
theorem VD.isNone {fz : Fz} {v : Value} (h : VD fz v d) (n : d.nr = true) : (v == Value.none) = d.isNone := by
  cases h <;> first | rfl | cases n
theorem op_isNone (n : d.nr = true) (p : P (.bool d.isNone) ow) : T2 X A (compareOp .Is) d .none ow P := fun dt fr h a b S ha hb s hs => by
  obtain ⟨fz, S⟩ := S
  have hv := vd_of S ha
  have hn := vd_of S hb
  cases hn
  refine is_none ?_
  rw [hv.isNone n]
  exact ⟨⟨_, rfl⟩, _, ow, hs ▸ S.st.bool _, p⟩

/-! ## equality of data -/
mutual
noncomputable def D.py : D → PyData
  | .int i => .int i
  | .bool b => .bool b
  | .str x => .str x
  | .tup ds => .tuple (pys ds)
  | .lst ds => .list (pys ds)
  | .none => .none
  | .own _ => .none
  | .obj _ _ => .none
  | .rng _ _ => .none
  | .raw _ => .none
  | .frz _ => .none
noncomputable def pys : List D → List PyData
  | [] => []
  | d :: ds => d.py :: pys ds
end
noncomputable def D.rd : Nat → D → Bool
  | _, .none => true
  | _, .int _ => true
  | _, .bool _ => true
  | n + 1, .tup ds => ds.all (D.rd n)
  | n + 1, .lst ds => ds.all (D.rd n)
  | _, _ => false
mutual
theorem rd_in {fz : Fz} {h : Heap} (hf : ∀ p ∈ fz, h.get? p.1 = some p.2) : ∀ {v : Value} {d : D} (n : Nat), VD fz v d → d.rd n = true → ∃ as, Reads h v d.py as
  | _, _, _, .none, _ => ⟨_, by rw [D.py]; exact Reads.none⟩
  | _, _, _, .bool b, _ => ⟨_, by rw [D.py]; exact Reads.bool b⟩
  | _, _, _, .int i t, _ => ⟨_, by rw [D.py]; exact Reads.int i t⟩
  | _, _, n, .str x t, hk => by cases n <;> simp [D.rd] at hk
  | _, _, 0, .tup _ _, hk => by simp [D.rd] at hk
  | _, _, 0, .lst _ _, hk => by simp [D.rd] at hk
  | _, _, n + 1, .tup hm r, hk => by
    obtain ⟨as, q⟩ := rd_all hf n r (by simpa [D.rd] using hk)
    rw [D.py]
    exact ⟨as, reads_tuple_at (hf _ hm) rfl rfl (by simpa using q)⟩
  | _, _, n + 1, .lst hm r, hk => by
    obtain ⟨as, q⟩ := rd_all hf n r (by simpa [D.rd] using hk)
    rw [D.py]
    exact ⟨_, reads_list_at (hf _ hm) rfl rfl (by simpa using q)⟩
  | _, _, n, .own _, hk => by cases n <;> simp [D.rd] at hk
  | _, _, n, .obj _, hk => by cases n <;> simp [D.rd] at hk
  | _, _, n, .rng _, hk => by cases n <;> simp [D.rd] at hk
  | _, _, n, .raw _, hk => by cases n <;> simp [D.rd] at hk
  | _, _, n, .frz _, hk => by cases n <;> simp [D.rd] at hk
theorem rd_all {fz : Fz} {h : Heap} (hf : ∀ p ∈ fz, h.get? p.1 = some p.2) : ∀ {vs : List Value} {ds : List D} (n : Nat), VA fz vs ds → (∀ d ∈ ds, d.rd n = true) → ∃ as, ReadsAll h vs (pys ds) as
  | _, _, _, .nil, _ => ⟨_, by rw [pys]; exact ReadsAll.nil⟩
  | _, _, n, .cons hd r, hk => by
    obtain ⟨as, q⟩ := rd_in hf n hd (hk _ (.head _))
    obtain ⟨bs, p⟩ := rd_all hf n r fun d hm => hk d (.tail _ hm)
    rw [pys]
    exact ⟨_, ReadsAll.cons q p⟩
end
theorem rd_lay : ∀ (n : Nat) (d : D), d.rd n = true → d.py.canLay0 = true ∧ d.py.depth ≤ n := by
  have all : ∀ (n : Nat), (∀ d : D, d.rd n = true → d.py.canLay0 = true ∧ d.py.depth ≤ n) → ∀ ds : List D, (∀ d ∈ ds, d.rd n = true) → PyData.canLayAll0 (pys ds) = true ∧ PyData.depthAll (pys ds) ≤ n := by
    intro n ih ds
    induction ds with
    | nil => intro _; simp [pys, PyData.canLayAll0, PyData.depthAll]
    | cons d ds hi =>
      intro h
      have h1 := ih d (h d (.head _))
      have h2 := hi fun e he => h e (.tail _ he)
      simp only [pys, PyData.canLayAll0, PyData.depthAll, h1.1, h2.1, Bool.and_self, true_and]
      have a1 := h1.2
      have a2 := h2.2
      omega
  intro n
  induction n with
  | zero => intro d h; cases d <;> simp_all [D.rd, D.py, PyData.canLay0, PyData.depth]
  | succ n ih =>
    intro d h
    cases d with
    | tup ds =>
      have q := all n ih ds (by simpa [D.rd] using h)
      have q2 := q.2
      simp only [D.py, PyData.canLay0, PyData.depth, q.1, true_and]
      omega
    | lst ds =>
      have q := all n ih ds (by simpa [D.rd] using h)
      have q2 := q.2
      simp only [D.py, PyData.canLay0, PyData.depth, q.1, true_and]
      omega
    | _ => simp_all [D.rd, D.py, PyData.canLay0, PyData.depth]
inductive Rd (ow : OW) : D → PyData → Prop
  | d {d : D} (n : Nat) : n ≤ 60 → d.rd n = true → Rd ow d d.py
  | l {d : D} {ds : List D} (n : Nat) : n ≤ 60 → IsL ow d ds → (∀ e ∈ ds, e.rd n = true) → Rd ow d (.list (pys ds))
theorem Rd.reads {fz : Fz} {dt : DT} {fr : OW} {h : Heap} (S : SF X fz dt (ow ++ fr) h) {v : Value} (hv : VD fz v d) {q : PyData} (r : Rd ow d q) : (∃ as, Reads h v q as) ∧ SeqAt.shaped q = true := by
  cases r with
  | d n hn hr =>
    obtain ⟨a, b⟩ := rd_lay n _ hr
    refine ⟨rd_in S.frz n hv hr, ?_⟩
    unfold SeqAt.shaped
    rw [a, Bool.true_and, decide_eq_true_eq]; omega
  | @l ds n hn l hr =>
    obtain ⟨a, us, m, rfl, ho, va⟩ := l.at S hv
    obtain ⟨as, q⟩ := rd_all S.frz n va hr
    refine ⟨⟨_, reads_list_at ho rfl rfl (by simpa using q)⟩, ?_⟩
    have z := rd_lay (n + 1) (.lst ds) (by simpa [D.rd] using hr)
    rw [D.py] at z
    unfold SeqAt.shaped
    rw [z.1, Bool.true_and, decide_eq_true_eq]
    have := z.2
    omega
theorem op_eqD {d' : D} {q q' : PyData} (hu : A.units + 64 < cLine) (r : Rd ow d q) (r' : Rd ow d' q') (p : P (.bool (PyData.eqv q q')) ow) : T2 X A (compareOp .Eq) d d' ow P := fun dt fr h a b S ha hb s hs => by
  obtain ⟨fz, S⟩ := S
  rw [← hs] at S
  obtain ⟨⟨as, ra⟩, sa⟩ := r.reads S (vd_of S ha)
  obtain ⟨⟨bs, rb⟩, sb⟩ := r'.reads S (vd_of S hb)
  exact eq_dataH ra rb sa sb hu ⟨⟨_, rfl⟩, _, ow, S.st.bool _, p⟩
theorem op_neD {d' : D} {q q' : PyData} (hu : A.units + 64 < cLine) (r : Rd ow d q) (r' : Rd ow d' q') (p : P (.bool (!PyData.eqv q q')) ow) : T2 X A (compareOp .NotEq) d d' ow P := fun dt fr h a b S ha hb s hs => by
  obtain ⟨fz, S⟩ := S
  rw [← hs] at S
  obtain ⟨⟨as, ra⟩, sa⟩ := r.reads S (vd_of S ha)
  obtain ⟨⟨bs, rb⟩, sb⟩ := r'.reads S (vd_of S hb)
  exact ne_dataH ra rb sa sb hu ⟨⟨_, rfl⟩, _, ow, S.st.bool _, p⟩

/-! ## list's methods, ranges -/
theorem mc_list {a : Addr} {x : Str} {id : String} {pl : Sem Bool} {args : List Expr} (slot : Slot "list" x id) (hty : typeOf (.builtin id) = pure (.type "method_descriptor")) (m : (a, Res.list ds) ∈ ow)
    (p : TA X A pos env args ow (fun ds o => TL X A (fun vs => call (.builtin id) vs) (.own a :: ds) o P)) : MC X A x pl pos env args (.own a) ow P := fun dt fr h v S hm s hs => by
  have S0 := S
  obtain ⟨fz, S⟩ := S
  have hv := vd_of S hm
  cases hv
  obtain ⟨o, ho, us, n, rfl, va⟩ := S.get (mem_app m)
  rw [← hs] at ho
  refine getMethod_builtin ⟨_, ho, rfl⟩ PySem.F.plainAttrs_list slot hty (fun b e => by cases e; exact ⟨_, ho, rfl⟩) ⟨.refl _, ?_⟩
  rw [hs]
  exact cw_B (dfs := [.own a]) (first := [.ref a]) p dt fr h S0 (.cons hm .nil)
theorem fn_range1 (p : P (.rng 0 i) ow) : TL X A (fun vs => call (.type "range") vs) [.int i] ow P := fun dt fr h vs S a s hs => by
  obtain ⟨fz, S⟩ := S
  cases a.va S with
  | cons ha r =>
    cases r
    obtain ⟨t, rfl⟩ := int_of ha
    refine call_range_1 ⟨⟨_, rfl⟩, .rng 0 i, ow, ?_, p⟩
    rw [hs]
    exact ((S.allocFz (o := rngObj 0 i s.toks t (s.toks + 1)) rfl).see (.rng (.head _))).st
theorem fn_range2 (p : P (.rng i j) ow) : TL X A (fun vs => call (.type "range") vs) [.int i, .int j] ow P := fun dt fr h vs S a s hs => by
  obtain ⟨fz, S⟩ := S
  cases a.va S with
  | cons ha r =>
    cases r with
    | cons hb r =>
      cases r
      obtain ⟨t, rfl⟩ := int_of ha
      obtain ⟨u, rfl⟩ := int_of hb
      refine call_range_2 ⟨⟨_, rfl⟩, .rng i j, ow, ?_, p⟩
      rw [hs]
      exact ((S.allocFz (o := rngObj i j t u s.toks) rfl).see (.rng (.head _))).st
end
/-! ## what a loop walks -/
structure Wk (X : Cx) (A : Around) (dt : DT) (I : Addr) (n : Nat) (item : Nat → D) (Sw : Nat → Heap → Prop) : Prop where
  obj : ∀ i h, Sw i h → ∃ o, h.get? I = some o
  keep : ∀ i h h' fz ow, Sw i h → SF X fz dt ow h' → h'.get? I = h.get? I → Sw i h'
  next : ∀ i (s : Shared) (Q : Option Value → Shared → Prop) (E : Value → Shared → Prop), i < n → Sw i s.heap →
    (∀ v h' tk, Sw (i + 1) h' → Heap.ExtBut I s.heap h' → (∀ fz ow, SF X fz dt ow h' → VD fz v (item i)) → Q (some v) { s with heap := h', toks := tk }) → wpAny X.M A (pyNext (.ref I)) Q E s
  done : ∀ (s : Shared) (Q : Option Value → Shared → Prop) (E : Value → Shared → Prop), Sw n s.heap → (∀ h' tk, Heap.ExtBut I s.heap h' → Q none { s with heap := h', toks := tk }) → wpAny X.M A (pyNext (.ref I)) Q E s
  self : ∀ i (s : Shared) (Q : Value → Shared → Prop) (E : Value → Shared → Prop), Sw i s.heap → Q (.ref I) s → wpAny X.M A (pyIter (.ref I)) Q E s
  go : ∀ i (s : Shared) (elts : List Expr) (k : Nat) (pos : Pos) T (Q : Unit → Shared → Prop) (E : Value → Shared → Prop), Sw i s.heap → Q () s → wpAny X.M A (letOwnedTupleGo (.Tuple elts k pos) (.ref I) (.ref T)) Q E s
/-- the iterator is made -/
noncomputable def ItrOf (X : Cx) (A : Around) (d : D) (n : Nat) (item : Nat → D) : Prop :=
  ∀ dt ow (s : Shared) v (Q : Value → Shared → Prop) (E : Value → Shared → Prop), St X dt ow s.heap → (v, d) ∈ dt →
    (∀ I h' dt' Sw oI fz, Wk X A dt' I n item Sw → Sw 0 h' → (∀ p ∈ dt, p ∈ dt') → h'.get? I = some oI → SF X fz dt' ((I, .raw (· = oI)) :: ow) h' → Q (.ref I) { s with heap := h' }) → wpAny X.M A (pyIter v) Q E s

section
variable {X : Cx} {A : Around} {env : Env} {ow ow' : OW} {P : D → OW → Prop} {PB : Bool → OW → Prop} {PU : OW → Prop} {PF : Fl → OW → Prop} {pos : Pos} {i j : Int} {d : D} {ds es : List D}

theorem itr_list (hh : A.handled = none) : ItrOf X A (.lst ds) ds.length (fun i => ds.getD i .none) := fun dt ow s v Q E S hv k => by
  obtain ⟨fz, S⟩ := S
  have hd := vd_of S hv
  cases hd with
  | @lst ax us n _ hm va =>
    have hl := va.length
    have ho := S.frz _ hm
    have hlt : ax < s.heap.objs.size := Heap.lt_size ho
    have hne : ax ≠ s.heap.objs.size := Nat.ne_of_lt hlt
    refine wpAny_pyIter_list (isList_of ho) ?_
    have Wl := Walks.list (prog := X.prog) (w := X.w) hh s.heap.objs.size ax hne us.toArray
    have hsz : us.toArray.size = ds.length := by simp [hl]
    rw [hsz] at Wl
    have S₁ : SF X fz ((.ref ax, .frz (W.listOf us.toArray n)) :: (.ref ax, .lst ds) :: dt) ow s.heap := (S.see (.lst hm va)).see (.frz hm)
    have S₂ := S₁.alloc (r := .raw (· = { cls := .type "list_iterator", data := .fields #[.ref ax, .int 0 0] })) (o := { cls := .type "list_iterator", data := .fields #[.ref ax, .int 0 0] }) rfl rfl
    refine k s.heap.objs.size _ _ (fun i h => h.IsListIter s.heap.objs.size ax i ∧ h.IsList ax us.toArray) _ fz ⟨?_, ?_, ?_, ?_, ?_, ?_⟩
      ⟨⟨_, Heap.get?_push_size _ rfl, rfl, rfl⟩, (isList_of ho).push _⟩ (fun p hp => .tail _ (.tail _ hp)) (Heap.get?_push_size _ rfl) S₂
    · intro i h st; obtain ⟨o, e, _⟩ := st.1; exact ⟨o, e⟩
    · intro i h h' fz' ow' st S' e
      refine ⟨?_, ?_⟩
      · obtain ⟨o, q, r⟩ := st.1; exact ⟨o, e.trans q, r⟩
      · have := vd_of S' (.head _)
        cases this with
        | frz m => exact isList_of (S'.frz _ m)
    · intro i s' Q' E' hi st hq
      refine Wl.item i s' Q' E' hi st fun v h' tk hP st' hk => hq v h' tk st' (fun b o hb e => hk b o (by simpa using hb) e) fun fz' ow' S' => ?_
      have h1 := vd_of S' (.head _)
      have h2 := vd_of S' (.tail _ (.head _))
      cases h1 with
      | frz m1 =>
        cases h2 with
        | lst m2 va2 =>
          have e1 := S'.frz _ m1
          have e2 := S'.frz _ m2
          dsimp only at e1 e2
          rw [e1] at e2
          have e3 := Option.some.inj e2
          simp only [Obj.mk.injEq, Data.seq.injEq] at e3
          obtain ⟨-, -, ⟨e3, -⟩, -⟩ := e3
          replace e3 := congrArg Array.toList e3
          dsimp only at e3
          subst e3
          obtain ⟨u, hu, hd⟩ := va2.getR (k := i) (v := v) (by simpa using hP)
          rw [List.getD_eq_getElem?_getD, hu]; exact hd
    · intro s' Q' E' st hq
      exact Wl.done s' Q' E' st fun h' tk hk => hq h' tk fun b o hb e => hk b o (by simpa using hb) e
    · intro i s' Q' E' st hq; exact Wl.self i s' Q' E' st hq
    · intro i s' elts k pos T Q' E' st hq; exact wpAny_letOwnedTupleGo_listiter st.1 hq
theorem itr_rng (hh : A.handled = none) {a b : Int} (h1 : 0 ≤ a) (h2 : a < 2 ^ 62) (h3 : -(2 ^ 62) ≤ b) (h4 : b < 2 ^ 62) : ItrOf X A (.rng a b) (b - a).toNat (fun i => .int (a + (i : Int))) := fun dt ow s v Q E S hv k => by
  obtain ⟨fz, S⟩ := S
  have hd := vd_of S hv
  cases hd with
  | @rng r _ _ t u w hm =>
    have ho := S.frz _ hm
    refine wpAny_pyIter_range (c := 1) ho (small_one (by omega) h2 h3 h4) ?_
    have hsz : Builtin.Range.rangeSize a b 1 = (((b - a).toNat : Nat) : Int) := by rw [rangeSize_one]; split <;> omega
    rw [hsz]
    have W := LCg.range_walks (prog := X.prog) (w := X.w) (I := s.heap.objs.size) hh a (b - a).toNat
    have S₂ := S.alloc (r := .raw (· = { cls := .type "range_iterator", data := .fields #[rawInt a, rawInt (((b - a).toNat : Nat) : Int), rawInt 1] })) (o := { cls := .type "range_iterator", data := .fields #[rawInt a, rawInt (((b - a).toNat : Nat) : Int), rawInt 1] }) rfl rfl
    refine k s.heap.objs.size _ dt (fun i h => IsRangeIter h s.heap.objs.size (a + (i : Nat) * 1) ((((b - a).toNat : Nat) : Int) - (i : Nat)) 1) _ fz ⟨?_, ?_, ?_, ?_, ?_, ?_⟩ ?_ (fun p hp => hp) (Heap.get?_push_size _ rfl) S₂
    · intro i h st; exact ⟨_, st⟩
    · intro i h h' fz' ow' st S' e
      have st' : h.get? s.heap.objs.size = some _ := st
      show h'.get? s.heap.objs.size = some _
      rw [e]; exact st'
    · intro i s' Q' E' hi st hq
      refine W.item i s' Q' E' hi st fun v h' tk hP st' hk => hq v h' tk st' (fun b o hb e => hk b o (by simpa using hb) e) fun fz' ow' S' => ?_
      obtain ⟨t, rfl⟩ := hP
      exact .int _ _
    · intro s' Q' E' st hq
      exact W.done s' Q' E' st fun h' tk hk => hq h' tk fun b o hb e => hk b o (by simpa using hb) e
    · intro i s' Q' E' st hq; exact W.self i s' Q' E' st hq
    · intro i s' elts k pos T Q' E' st hq
      have st' : s'.heap.get? s.heap.objs.size = some _ := st
      unfold letOwnedTupleGo
      refine wpAny_bind (wpAny_load st' ?_)
      dsimp only
      rw [if_neg (by simp)]
      exact wpAny_pure hq
    · show IsRangeIter _ _ _ _ _
      simpa using Heap.get?_push_size _ rfl

/-! ## for -/
noncomputable def LP (Inv : OW → Prop) (PF : Fl → OW → Prop) : Fl → OW → Prop
  | .next, o => Inv o
  | .cont, o => Inv o
  | .brk, o => PF .next o
  | .ret d, o => PF (.ret d) o
/-- what is unpacked or named at a turn's start -/
noncomputable def goOk (target : Expr) : Bool := match target with
  | .Name .. => true
  | .Tuple .. => true
  | _ => false
theorem perm_mid (ow : OW) (p : Addr × Res) (fr : OW) : (p :: (ow ++ fr)).Perm (ow ++ p :: fr) := List.perm_middle.symm
theorem for_core {target : Expr} {body : List Stmt} {dt dt' : DT} {fr : OW} {I : Addr} {n : Nat} {item : Nat → D} {Sw : Nat → Heap → Prop} {oI : Obj} {fz : Fz} {s : Shared}
    (W : Wk X A dt' I n item Sw) (hst : Sw 0 s.heap) (hsub : ∀ p ∈ dt, p ∈ dt') (hoI : s.heap.get? I = some oI) (S : SF X fz dt' ((I, .raw (· = oI)) :: (ow ++ fr)) s.heap)
    (hgo : (∃ x p, target = .Name x p) ∨ ((∃ es k p, target = .Tuple es k p) ∧ ∀ i, ∃ ds, item i = .tup ds ∨ n ≤ i))
    (Inv : Nat → OW → Prop) (h0 : Inv 0 ow) (turn : ∀ i ow, i < n → Inv i ow → U1 X A (assign target env) (item i) ow (fun o => Tf X A (execs body env) o (LP (Inv (i + 1)) PF))) (fin : ∀ ow, Inv n ow → PF .next ow) :
    codeAny X.M A (.forLoop target (.ref I) body [] env) (fun r s' => match r with | .ok f => Kin s s' ∧ FQ X dt fr PF f s'.heap | .error _ => False) s := by
  refine codeAny_forLoop_any (fun k s' => ∃ i o oI fz, i ≤ n ∧ k = n + 1 - i ∧ Kin s s' ∧ Inv i o ∧ Sw i s'.heap ∧ s'.heap.get? I = some oI ∧ SF X fz dt' ((I, .raw (· = oI)) :: (o ++ fr)) s'.heap) ?_ (n + 1)
    ⟨0, ow, oI, fz, Nat.zero_le _, rfl, .refl _, h0, hst, hoI, S⟩
  rintro k s' ⟨i, o, oI, fz, hi, rfl, kin, hI, hst, hoI, S⟩
  by_cases hlt : i < n
  · refine W.next i s' _ _ hlt hst fun v h' tk hst' hk hv => ?_
    obtain ⟨oI', hoI'⟩ := W.obj _ _ hst'
    have S₁ : SF X fz dt' ((I, .raw (· = oI')) :: (o ++ fr)) h' := S.set hk hoI' rfl
    have kin₁ : Kin s { s' with heap := h', toks := tk } := kin.trans ⟨tk, rfl⟩
    have hv' := hv fz _ S₁
    have S₂ : St X ((v, item i) :: dt') (o ++ ((I, .raw (· = oI')) :: fr)) h' := ((S₁.see hv').perm (perm_mid _ _ _)).st
    have main : wpAny X.M A (assign target env v) (fun _ s₂ => wpAny X.M A (execs body env) (fun f s₃ => match f with
            | .next | .cont => ∃ m, m < n + 1 - i ∧ ∃ i o oI fz, i ≤ n ∧ m = n + 1 - i ∧ Kin s s₃ ∧ Inv i o ∧ Sw i s₃.heap ∧ s₃.heap.get? I = some oI ∧ SF X fz dt' ((I, .raw (· = oI)) :: (o ++ fr)) s₃.heap
            | .brk => Kin s s₃ ∧ FQ X dt fr PF .next s₃.heap
            | .ret v => Kin s s₃ ∧ FQ X dt fr PF (.ret v) s₃.heap) (notedBy X.M A env fun e s' => False) s₂) (notedBy X.M A env fun e s' => False) { s' with heap := h', toks := tk } := by
      refine Rn.go (turn i o hlt hI _ _ _ v S₂ (.head _)) kin₁ fun _ s₂ kin₂ q => ?_
      obtain ⟨o₂, S₂, q⟩ := q
      refine Rn.go (q _ _ _ S₂) kin₂ fun f s₃ kin₃ q => ?_
      have again : ∀ o₃, St X ((v, item i) :: dt') (o₃ ++ ((I, .raw (· = oI')) :: fr)) s₃.heap → Inv (i + 1) o₃ → ∃ m, m < n + 1 - i ∧ ∃ i o oI fz, i ≤ n ∧ m = n + 1 - i ∧ Kin s s₃ ∧ Inv i o ∧ Sw i s₃.heap ∧ s₃.heap.get? I = some oI ∧ SF X fz dt' ((I, .raw (· = oI)) :: (o ++ fr)) s₃.heap := by
        intro o₃ S₃ hI₃
        obtain ⟨fz₃, S₃⟩ := S₃
        have S₄ := (S₃.perm (perm_mid _ _ _).symm).dts (dt' := dt') subT
        obtain ⟨o', ho', e'⟩ := S₄.own _ (.head _)
        dsimp only [Res.ok] at e' ho'
        rw [e'] at ho'
        refine ⟨n + 1 - (i + 1), by omega, i + 1, o₃, oI', fz₃, hlt, rfl, kin₃, hI₃, W.keep _ _ _ _ _ hst' S₄ (ho'.trans hoI'.symm), ho', S₄⟩
      cases f with
      | next => obtain ⟨o₃, S₃, hI₃⟩ := q; exact again o₃ S₃ hI₃
      | cont => obtain ⟨o₃, S₃, hI₃⟩ := q; exact again o₃ S₃ hI₃
      | brk =>
        obtain ⟨o₃, S₃, p⟩ := q
        exact ⟨kin₃, o₃, ((S₃.perm (perm_mid _ _ _).symm).sub (.cons _ (List.Sublist.refl _))).dts (fun p hp => .tail _ (hsub p hp)), p⟩
      | ret u =>
        obtain ⟨d, o₃, S₃, p⟩ := q
        refine ⟨kin₃, d, o₃, ((S₃.perm (perm_mid _ _ _).symm).sub (.cons _ (List.Sublist.refl _))).dts (fun p hp => ?_), p⟩
        rcases List.mem_cons.mp hp with rfl | hp
        · exact .head _
        · exact .tail _ (.tail _ (hsub p hp))
    rcases hgo with ⟨x, p, rfl⟩ | ⟨⟨es, k, p, rfl⟩, hit⟩
    · exact wpAny_pure main
    · obtain ⟨ds, hd⟩ := hit i
      rcases hd with hd | hd
      · rw [hd] at hv'
        cases hv' with
        | tup _ _ => exact W.go (i + 1) _ es k p _ _ _ hst' main
      · omega
  · obtain rfl : i = n := by omega
    refine W.done s' _ _ hst fun h' tk hk => wpAny_execs_nil ⟨kin.trans ⟨tk, rfl⟩, o, ?_, fin o hI⟩
    have S' := S.perm (List.Perm.refl _)
    have n' := S.nd
    rw [List.pairwise_cons] at n'
    refine ⟨fz, fun b ob e => hk b ob (fun q => ?_) (S.base b ob e), fun p hp => hk _ _ (fun q => S.sep _ (.head _) p hp q.symm) (S.frz p hp), fun p hp => ?_, fun p hp => S.off p (.tail _ hp), fun p hp => S.sep p (.tail _ hp), n'.2, fun p hp => S.dat p (hsub p hp)⟩
    · have := S.off _ (.head _)
      dsimp only at this
      subst q; rw [this] at e; cases e
    · obtain ⟨ob, hob, hr⟩ := S.own p (.tail _ hp)
      exact ⟨ob, hk _ _ (n'.1 p hp).symm hob, hr⟩
theorem st_for {target iter : Expr} {body : List Stmt} {n : Nat} {item : Nat → D} (hf : ∀ x, foldedSetIterable iter env x = pure x)
    (hgo : (∃ x p, target = .Name x p) ∨ ((∃ es k p, target = .Tuple es k p) ∧ ∀ i, ∃ ds, item i = .tup ds ∨ n ≤ i)) (Inv : Nat → OW → Prop)
    (x : Tv X A (eval iter env) ow (fun d o => ItrOf X A d n item ∧ Inv 0 o)) (turn : ∀ i ow, i < n → Inv i ow → U1 X A (assign target env) (item i) ow (fun o => Tf X A (execs body env) o (LP (Inv (i + 1)) PF))) (fin : ∀ ow, Inv n ow → PF .next ow) :
    Tf X A (exec (.For target iter body [] pos) env) ow PF := fun dt fr h S s hs =>
  wpAny_For (wpAny_mono (x dt fr h S s hs) (fun v s₁ y => by
    obtain ⟨kin, d, o, S₁, hit, hI⟩ := y
    refine hit _ _ s₁ v _ _ S₁ (.head _) fun I h' dt' Sw oI fz W hst hsub hoI SI => ?_
    refine codeAny_mono (for_core (s := { s₁ with heap := h' }) W hst hsub hoI SI hgo Inv hI turn fin) fun r s' q => ?_
    cases r with
    | error e => exact q.elim
    | ok f => exact ⟨(kin.trans ⟨_, rfl⟩).trans q.1, q.2.sub subT⟩) fun _ _ e => e.elim) hf

/-! ## while -/
noncomputable def WP (Inv : Nat → OW → Prop) (n : Nat) (PF : Fl → OW → Prop) : Fl → OW → Prop
  | .next, o => ∃ m, m < n ∧ Inv m o
  | .cont, o => ∃ m, m < n ∧ Inv m o
  | .brk, o => PF .next o
  | .ret d, o => PF (.ret d) o
theorem st_while {test : Expr} {body : List Stmt} (Inv : Nat → OW → Prop) (n : Nat) (h0 : Inv n ow)
    (turn : ∀ n ow, Inv n ow → Tb X A (isTrue test env (eval test env)) ow (fun b o => bif b then Tf X A (execs body env) o (WP Inv n PF) else PF .next o)) : Tf X A (exec (.While test body [] pos) env) ow PF := fun dt fr h S s hs => by
  refine wpAny_While (codeAny_mono (R := fun r s' => match r with | .ok f => Kin s s' ∧ FQ X dt fr PF f s'.heap | .error _ => False) ?_ fun r s' q => ?_)
  · refine codeAny_whileLoop (fun k s' => ∃ o, Kin s s' ∧ Inv k o ∧ St X dt (o ++ fr) s'.heap) ?_ n ⟨ow, .refl _, h0, hs ▸ S⟩
    rintro k s' ⟨o, kin, hI, S'⟩
    refine Rn.go (turn k o hI dt fr _ S') kin fun b s₂ kin₂ q => ?_
    obtain ⟨o₂, S₂, p⟩ := q
    cases b with
    | false => exact wpAny_execs_nil ⟨kin₂, o₂, S₂, p⟩
    | true =>
      refine Rn.go (p dt fr _ S₂) kin₂ fun f s₃ kin₃ q => ?_
      cases f with
      | next => obtain ⟨o₃, S₃, m, hm, hI₃⟩ := q; exact ⟨m, hm, o₃, kin₃, hI₃, S₃⟩
      | cont => obtain ⟨o₃, S₃, m, hm, hI₃⟩ := q; exact ⟨m, hm, o₃, kin₃, hI₃, S₃⟩
      | brk => exact ⟨kin₃, q⟩
      | ret v => exact ⟨kin₃, q⟩
  · cases r with
    | error e => exact q.elim
    | ok f => exact q

/-! ## unpacking -/
noncomputable def AO (X : Cx) (A : Around) (ts : List (Value → Sem Unit)) (ds : List D) (ow : OW) (PU : OW → Prop) : Prop := ∀ dt fr h vs, St X dt (ow ++ fr) h → DA dt vs ds → Rn X.M A (assignInOrder ts vs) (fun _ => UQ X dt fr PU) h
theorem ao_nil (x : PU ow) : AO X A [] [] ow PU := fun dt fr h vs S a s hs => by
  cases a
  exact assignInOrder_nil ⟨.refl _, ow, hs ▸ S, x⟩
theorem ao_cons {t : Value → Sem Unit} {ts : List (Value → Sem Unit)} (x : U1 X A t d ow (fun o => AO X A ts ds o PU)) : AO X A (t :: ts) (d :: ds) ow PU := fun dt fr h vs S a s hs => by
  cases a with
  | cons m r =>
    refine assignInOrder_cons (Rn.go (x dt fr _ _ (hs ▸ S) m) (.refl _) fun _ s₁ k q => ?_)
    obtain ⟨o, S₁, p⟩ := q
    exact Rn.go (p dt fr _ _ S₁ r) k fun _ s₂ k q => ⟨k, q⟩
theorem va_da {dt : DT} {vs : List Value} {ds : List D} {fz : Fz} (va : VA fz vs ds) : DA (vs.zip ds ++ dt) vs ds := DA.zip va.length fun p hp => List.mem_append_left _ hp
theorem va_zip {fz : Fz} {vs : List Value} {ds : List D} (va : VA fz vs ds) : ∀ p ∈ vs.zip ds, VD fz p.1 p.2 := by
  induction vs generalizing ds with
  | nil => cases va; intro p hp; cases hp
  | cons v vs ih =>
    cases va with
    | cons h r =>
      intro p hp
      rcases List.mem_cons.mp hp with rfl | hp
      · exact h
      · exact ih r p hp
theorem SF.sees {fz : Fz} {dt : DT} {h : Heap} (S : SF X fz dt ow h) {l : DT} (k : ∀ p ∈ l, VD fz p.1 p.2) : SF X fz (l ++ dt) ow h :=
  ⟨S.base, S.frz, S.own, S.off, S.sep, S.nd, fun p hp => (List.mem_append.mp hp).elim (k p) (S.dat p)⟩
theorem as_tup {elts : List Expr} {k : Nat} {p : Pos} {ts : List (Value → Sem Unit)} (hh : A.handled = none) (hts : (assignEach elts env).map (·.2) = ts) (hn : (assignEach elts env).length = ds.length) (hstar : (assignEach elts env).findIdx? (·.1) = none)
    (x : AO X A ts ds ow PU) : U1 X A (assign (.Tuple elts k p) env) (.tup ds) ow PU := fun dt fr h v S m s hs => by
  obtain ⟨fz, S⟩ := S
  have hv := vd_of S m
  cases hv with
  | @tup t us n' _ hm va =>
    have ho := S.frz _ hm
    rw [← hs] at ho S
    have hl := va.length
    refine assign_Tuple_tuple hh ⟨_, ho, rfl, n', rfl⟩ (by rw [hn, List.size_toArray, hl]) hstar fun h' hk => ?_
    have S₁ : St X (us.zip ds ++ dt) (ow ++ fr) h' := ((S.sees (va_zip va)).ext (h' := h') fun b o e => hk b o (Nat.ne_of_lt (Heap.lt_size e)) e).st
    rw [hts]
    exact Rn.go (s₀ := s) (x _ fr h' us S₁ (va_da va)) ⟨_, rfl⟩ fun _ s₂ kk q => ⟨kk, q.sub fun p hp => List.mem_append_right _ hp⟩
theorem as_name {y : Str} {p : Pos} (x : U1 X A (storeName env y) d ow PU) : U1 X A (assign (.Name y p) env) d ow PU := fun dt fr h v S m s hs => wpAny_assign_Name (x dt fr h v S m s hs)
theorem as_sub {o i : Expr} {p : Pos} (x : Tv X A (eval o env) ow (fun d' w' => Tv X A (eval i env) w' (fun d'' w'' => U3 X A (fun v ov iv => setItem ov iv v) d d' d'' w'' PU))) : U1 X A (assign (.Subscript o i p) env) d ow PU := fun dt fr h v S m s hs => by
  refine kas_sub (wpAny_mono (x dt fr h S s hs) (fun v' s₂ y => ?_) fun _ _ e => e)
  obtain ⟨k₂, d₂, o₂, S₂, p₂⟩ := y
  refine Rn.go (p₂ _ fr _ S₂) k₂ fun v'' s₃ k₃ q => ?_
  obtain ⟨d₃, o₃, S₃, p₃⟩ := q
  exact Rn.go (p₃ _ fr _ v v' v'' S₃ (.tail _ (.tail _ m)) (.tail _ (.head _)) (.head _)) k₃ fun _ s₄ k₄ q => ⟨k₄, (q.sub subT).sub subT⟩
theorem ex_tup {elts : List Expr} {k : Nat} {tp : Pos} {e : Expr} (h1 : swapsWithSole [.Tuple elts k tp] e pos.line env = pure false) (h2 : swappedStores [.Tuple elts k tp] e env = pure none)
    (x : Tv X A (eval e env) ow (fun d o => U1 X A (assign (.Tuple elts k tp) env) d o (PF .next))) : Tf X A (exec (.Assign [.Tuple elts k tp] e pos) env) ow PF := fun dt fr h S s hs =>
  Assign_Tuple (wpAny_mono (x.seqU dt fr h S s hs) (fun v s' y => wpAny_mono (y.2 s' rfl) (fun _ s₂ z => ⟨y.1.trans z.1, z.2⟩) fun _ _ e => e) fun _ _ e => e) h1 h2
theorem DA.rev {dt : DT} {vs : List Value} {ds : List D} (a : DA dt vs ds) : DA dt vs.reverse ds.reverse := by
  induction a with
  | nil => exact .nil
  | cons m _ ih => rw [List.reverse_cons, List.reverse_cons]; exact ih.append (.cons m .nil)
theorem ex_swap {elts : List Expr} {k : Nat} {tp : Pos} {e : Expr} {names : List Str} {ts : List (Value → Sem Unit)} (hh : A.handled = none) (h1 : swapsWithSole [.Tuple elts k tp] e pos.line env = pure false) (h2 : swappedStores [.Tuple elts k tp] e env = pure (some names))
    (hts : names.reverse.map (fun n => bindName env n) = ts)
    (x : Tv X A (eval e env) ow (fun d o => ∃ ds, d = .tup ds ∧ names.length = ds.length ∧ AO X A ts ds.reverse o (PF .next))) : Tf X A (exec (.Assign [.Tuple elts k tp] e pos) env) ow PF := fun dt fr h S s hs =>
  Assign_Tuple_swapped (wpAny_mono (x dt fr h S s hs) (fun v s₁ y => by
    obtain ⟨kin, d, o, S₁, ds, rfl, hn, q⟩ := y
    obtain ⟨fz, S₁⟩ := S₁
    have hv := vd_of S₁ (.head _)
    cases hv with
    | @tup t us n' _ hm va =>
      have ho := S₁.frz _ hm
      have hl := va.length
      rw [hn, ← hl, show us.length = us.toArray.size by simp]
      refine unpackItems_tuple hh ⟨_, ho, rfl, n', rfl⟩ fun h' hk => ?_
      have S₂ : St X (us.zip ds ++ dt) (o ++ fr) h' := (((S₁.dts subT).sees (va_zip va)).ext (h' := h') fun b o e => hk b o (Nat.ne_of_lt (Heap.lt_size e)) e).st
      rw [hts]
      exact Rn.go (s₀ := s) (q _ fr h' us.reverse S₂ (va_da va).rev) (kin.trans ⟨_, rfl⟩) fun _ s₂ kk q => ⟨kk, q.sub fun p hp => List.mem_append_right _ hp⟩) fun _ _ e => e) h1 h2
theorem bn (env : Env) (y : Str) (x : U1 X A (storeName env y) d ow PU) : U1 X A (bindName env y) d ow PU := fun dt fr h v S m s hs => wpAny_bindName (x dt fr h v S m s hs)
end
section
variable {X : Cx} {A : Around} {env : Env} {ow ow' : OW} {P : D → OW → Prop} {PB : Bool → OW → Prop} {PU : OW → Prop} {PF : Fl → OW → Prop} {pos : Pos} {i j : Int} {d : D} {ds es : List D}

/-! ## dicts keyed by strs -/
theorem ZV.at {fz : Fz} {kv : List (Str × Value)} {kd : List (Str × D)} (z : ZV fz kv kd) {x : Str} (k : Lk kd x d) : ∃ v, valueAt kv x = some v ∧ VD fz v d := by
  induction z with
  | nil => cases k
  | @cons y v e kv kd h _ ih =>
    cases k with
    | z => exact ⟨v, by simp [valueAt], h⟩
    | s n k =>
      obtain ⟨u, hu, hd⟩ := ih k
      refine ⟨u, ?_, hd⟩
      have n' : ¬ y = x := by simpa using n
      simp only [valueAt, List.find?_cons, n', decide_false] at hu ⊢
      exact hu
inductive Rp : List (Str × D) → Str → D → List (Str × D) → Prop
  | z {x : Str} {d e : D} {l : List (Str × D)} : (∀ p ∈ l, (p.1 == x) = false) → Rp ((x, e) :: l) x d ((x, d) :: l)
  | s {x y : Str} {d e : D} {l l' : List (Str × D)} : (y == x) = false → Rp l x d l' → Rp ((y, e) :: l) x d ((y, e) :: l')
theorem ZV.keys {fz : Fz} {kv : List (Str × Value)} {kd : List (Str × D)} (z : ZV fz kv kd) : kv.map (·.1) = kd.map (·.1) := by
  induction z with
  | nil => rfl
  | cons _ _ ih => simp [ih]
theorem ZV.length {fz : Fz} {kv : List (Str × Value)} {kd : List (Str × D)} (z : ZV fz kv kd) : kv.length = kd.length := by
  have := congrArg List.length z.keys
  simpa using this
theorem zv_rp {fz : Fz} {x : Str} {d : D} {v : Value} (hv : VD fz v d) {kd kd' : List (Str × D)} (k : Rp kd x d kd') : ∀ {kv : List (Str × Value)}, ZV fz kv kd →
    (kv.any fun p => decide (p.1 = x)) = true ∧ ZV fz (kv.map fun p => if p.1 = x then (p.1, v) else p) kd' := by
  induction k with
  | @z x d e l hn =>
    intro kv z
    cases z with
    | @cons _ u _ kv _ h z =>
      refine ⟨by simp, ?_⟩
      simp only [List.map_cons, if_true]
      refine .cons hv ?_
      have : (kv.map fun p => if p.1 = x then (p.1, v) else p) = kv := by
        clear hv h
        induction z with
        | nil => rfl
        | @cons y w e kv kd _ _ ih =>
          have h1 : ¬ y = x := by simpa using hn _ (.head _)
          simp only [List.map_cons, if_neg h1]
          rw [ih (fun p hp => hn p (.tail _ hp))]
      rw [this]; exact z
  | @s x y d e l l' hn _ ih =>
    intro kv z
    cases z with
    | @cons _ u _ kv _ h z =>
      obtain ⟨h1, h2⟩ := ih hv z
      have h3 : ¬ y = x := by simpa using hn
      refine ⟨by rw [List.any_cons, h1, Bool.or_true], ?_⟩
      simp only [List.map_cons, if_neg h3]
      exact .cons h h2
theorem ZV.rp {fz : Fz} {kv : List (Str × Value)} {kd kd' : List (Str × D)} (z : ZV fz kv kd) {x : Str} {v : Value} (k : Rp kd x d kd') (hv : VD fz v d) : ZV fz (stored kv x v) kd' := by
  obtain ⟨h1, h2⟩ := zv_rp hv k z
  unfold stored
  rw [if_pos h1]; exact h2
theorem dk_is (x : Str) (t : Tok) : (strKind X.prog X.w).is x (.str x t) = true := PySem.strKind_is _ _ x t
theorem str_of {fz : Fz} {v : Value} {x : Str} (h : VD fz v (.str x)) : ∃ t, v = .str x t := by cases h; exact ⟨_, rfl⟩
theorem di_get {value slice : Expr} {a : Addr} {kd : List (Str × D)} {x : Str} (m : (a, Res.dic kd) ∈ ow) (k : Lk kd x d)
    (hs : ∀ l y u, subscripted slice false (.ref l) (.str y u) = operate [.ref l, .str y u] (getItem (.ref l) (.str y u))) (p : P d ow) :
    T2 X A (subscriptTail value slice) (.own a) (.str x) ow P := fun dt fr h b c S hb hc s hs' => by
  obtain ⟨fz, S⟩ := S
  obtain ⟨t, rfl⟩ := str_of (vd_of S hc)
  have hb' := vd_of S hb
  cases hb'
  obtain ⟨o, ho, kv, hd, z⟩ := S.get (mem_app m)
  have hD : s.heap.DictOf (strKind X.prog X.w) a kv := Heap.dictOf_iff.mpr ⟨o, by rw [hs']; exact ho, hd⟩
  obtain ⟨v, hv, hvd⟩ := z.at k
  refine kba_turn (value' := .Name (PySem.Str.ofString "_") ⟨0, 0, 0, 0⟩) (slice := slice) (fun _ => rfl) (subscriptTail_builtin hD.typeIs slot_dict_getitem.lookup (wpAny_getItem_of (dk_is x t) hD.mapOf hv ⟨⟨_, rfl⟩, d, ow, hs' ▸ (S.see hvd).st, p⟩) (hs _ _ _) (fun _ => rfl))
theorem di_set {a : Addr} {kd kd' : List (Str × D)} {x : Str} (u : Up a (.dic kd) (.dic kd') ow ow') (k : Rp kd x d kd') (hz : kd.length ≤ 1000) (p : PU ow') : U3 X A (fun v ov iv => setItem ov iv v) d (.own a) (.str x) ow PU := fun dt fr h v ov iv S hv hov hiv s hs => by
  obtain ⟨fz, S⟩ := S
  obtain ⟨t, rfl⟩ := str_of (vd_of S hiv)
  have hb' := vd_of S hov
  cases hb'
  obtain ⟨o, ho, kv, hd, z⟩ := S.get (mem_app u.mem)
  have hD : s.heap.DictOf (strKind X.prog X.w) a kv := Heap.dictOf_iff.mpr ⟨o, by rw [hs]; exact ho, hd⟩
  refine wpAny_setItem_pairs (dk_is x t) hD (fun h' hm hsb => ⟨⟨_, rfl⟩, ow', ?_, p⟩) (by rw [z.length, sizeLine_eq]; omega)
  obtain ⟨o', ho', hd'⟩ := Heap.dictOf_iff.mp hm
  rw [← hs] at S
  exact (S.up (u.app fr) hsb.extBut ho' ⟨_, hd', z.rp k (vd_of S hv)⟩).st
/-- a display of three -/
theorem nd_keys {ks : List Str} (h : ks.Nodup) : ks.Nodup := h
noncomputable def EP (X : Cx) (A : Around) (pairs : List (Sem Value × Sem Value)) (ow : OW) (PL : List (Str × D) → OW → Prop) : Prop := match pairs with
  | [] => PL [] ow
  | (k, v) :: rest => Tv X A k ow (fun dk o => ∃ x, dk = .str x ∧ Tv X A v o (fun d o => EP X A rest o (fun kd => PL ((x, d) :: kd))))
theorem EP.rn {pairs : List (Sem Value × Sem Value)} {PL : List (Str × D) → OW → Prop} (x : EP X A pairs ow PL) : ∀ dt fr h, St X dt (ow ++ fr) h → Rn X.M A (evalPairs pairs) (fun vs h' => ∃ kd dt' o, St X (dt' ++ dt) (o ++ fr) h' ∧ PL kd o ∧ vs.length = kd.length ∧
      (∀ fz ow, SF X fz (dt' ++ dt) ow h' → ∃ kv, Carries (strKind X.prog X.w) vs kv ∧ ZV fz kv kd)) h := by
  induction pairs generalizing ow PL with
  | nil => exact fun dt fr h S s hs => evalPairs_nil ⟨.refl _, [], [], ow, hs ▸ S, x, rfl, fun fz ow S => ⟨[], trivial, .nil⟩⟩
  | cons q rest ih =>
    obtain ⟨k, v⟩ := q
    intro dt fr h S s hs
    refine evalPairs_cons (wpAny_mono (x dt fr h S s hs) (fun kv s₁ y => ?_) fun _ _ e => e)
    obtain ⟨k₁, dk, o₁, S₁, z, rfl, q⟩ := y
    refine Rn.go (q _ fr _ S₁) k₁ fun vv s₂ k₂ y => ?_
    obtain ⟨d, o₂, S₂, q⟩ := y
    refine Rn.go (ih q _ fr _ S₂) k₂ fun vs s₃ k₃ y => ?_
    obtain ⟨kd, dt', o₃, S₃, p, hl, hf⟩ := y
    refine ⟨k₃, (z, d) :: kd, dt' ++ [(vv, d), (kv, .str z)], o₃, by simpa using S₃, p, by simp [hl], fun fz ow S => ?_⟩
    rw [List.append_assoc] at S
    obtain ⟨kvs, hc, hz⟩ := hf fz ow S
    have h1 := S.dat (vv, d) (List.mem_append_right _ (.head _))
    have h2 := S.dat (kv, .str z) (List.mem_append_right _ (.tail _ (.head _)))
    obtain ⟨t, e⟩ := str_of h2
    dsimp only at e
    subst e
    exact ⟨(z, vv) :: kvs, ⟨dk_is z t, rfl, hc⟩, .cons h1 hz⟩
theorem merged_nodup : ∀ (acc kv : List (Str × Value)), ((acc ++ kv).map (·.1)).Nodup → merged acc kv = acc ++ kv
  | acc, [], _ => by simp [merged]
  | acc, (k, v) :: r, h => by
    have hn : (acc.any fun p => decide (p.1 = k)) = false := by
      rw [List.any_eq_false]
      intro p hp
      have h1 : (acc.map (·.1) ++ k :: r.map (·.1)).Nodup := by simpa using h
      rw [List.nodup_append] at h1
      simpa using h1.2.2 p.1 (List.mem_map_of_mem hp) k (.head _)
    have : stored acc k v = acc ++ [(k, v)] := by unfold stored; rw [hn]; rfl
    have ih := merged_nodup (acc ++ [(k, v)]) r (by simpa using h)
    show merged (stored acc k v) r = _
    rw [this, ih]; simp
theorem ev_dict {keys : List (Option Expr)} {values : List Expr} {pairs : List (Sem Value × Sem Value)}
    (hshape : (evalEachOpt keys env).zip ((evalEach values env).map fun v => do let x ← v; standAt pos; pure x) = pairs.map fun p => (some p.1, p.2)) (h0 : pairs ≠ []) (hlen : pairs.length ≤ 15)
    (x : EP X A pairs ow (fun kd o => (kd.map (·.1)).Nodup ∧ ∀ a, P (.own a) ((a, .dic kd) :: o))) : Tv X A (eval (.Dict keys values pos) env) ow P := fun dt fr h S s hs => by
  obtain ⟨fz, S⟩ := S
  rw [← hs] at S
  have S₁ := S.alloc (r := .dic []) (o := { cls := .type "dict", data := .dict #[] }) ⟨[], by
    obtain ⟨o, es, ep, ho, r⟩ := Heap.DictOf.new (knd := strKind X.prog X.w) s.heap
    have := Heap.get?_push_size s.heap (o := { cls := .type "dict", data := .dict #[] }) rfl
    rw [this] at ho
    cases ho
    exact ⟨es, ep, r⟩, .nil⟩ rfl
  have S₂ := S₁.perm (perm_mid _ _ _)
  refine wpAny_Dict_pairs (knd := strKind X.prog X.w) hshape h0 hlen ?_
  have main := x.rn dt _ _ S₂.st { s with heap := s.heap.push { cls := .type "dict", data := .dict #[] } } rfl
  refine wpAny_mono main (fun vs s₁ y => ?_) fun _ _ e => e.elim
  obtain ⟨kin, kd, dt', o, S₃, ⟨hnd, p⟩, hl, hf⟩ := y
  obtain ⟨fz₃, S₃⟩ := S₃
  obtain ⟨kv, hc, hz⟩ := hf _ _ S₃
  have hD : s₁.heap.DictOf (strKind X.prog X.w) s.heap.objs.size [] := by
    obtain ⟨ob, hob, kv', hd', z'⟩ := S₃.get (a := s.heap.objs.size) (r := .dic []) (List.mem_append_right _ (.head _))
    cases z'
    exact Heap.dictOf_iff.mpr ⟨ob, hob, hd'⟩
  refine ⟨kv, hc, hD, fun h' hm hsb => ?_⟩
  rw [merged_nodup [] kv (by simpa [hz.keys] using hnd), List.nil_append] at hm
  obtain ⟨ob, hob, hd⟩ := Heap.dictOf_iff.mp hm
  have S₄ := (S₃.perm (perm_mid _ _ _).symm).set hsb.extBut hob (r' := .dic kd) ⟨kv, hd, hz⟩
  refine ⟨((Kin.mk s _ _).trans kin).trans ⟨_, rfl⟩, .own s.heap.objs.size, (s.heap.objs.size, .dic kd) :: o, ?_, p _⟩
  exact ((S₄.dts fun p hp => List.mem_append_right _ hp).see (.own _)).st
end
section
variable {X : Cx} {A : Around} {env : Env} {ow ow' : OW} {P : D → OW → Prop} {PB : Bool → OW → Prop} {PU : OW → Prop} {PF : Fl → OW → Prop} {pos : Pos} {i j : Int} {d : D} {ds es : List D}

/-! ## entering a def whose names are cells -/
theorem SF.news {fz : Fz} {dt : DT} {h h' : Heap} (S : SF X fz dt ow h) (k : ∀ b o, h.get? b = some o → h'.get? b = some o) : ∀ (l : OW), (∀ p ∈ l, h.get? p.1 = none ∧ ∃ o, h'.get? p.1 = some o ∧ p.2.ok X.prog X.w fz o) → l.Pairwise (fun p q => p.1 ≠ q.1) → SF X fz dt (l ++ ow) h' := by
  have S' := S.ext k
  have old : ∀ a, h.get? a = none → ∀ b o, h.get? b = some o → b ≠ a := fun a n b o e q => by rw [q, n] at e; cases e
  intro l hl hp
  refine ⟨S'.base, S'.frz, fun p hp => ?_, fun p hp => ?_, fun p hp q hq => ?_, ?_, S.dat⟩
  · rcases List.mem_append.mp hp with h1 | h1
    · exact (hl p h1).2
    · exact S'.own p h1
  · rcases List.mem_append.mp hp with h1 | h1
    · cases q : X.hb.get? p.1 with
      | none => rfl
      | some o' => exact absurd rfl (old _ (hl p h1).1 _ _ (S.base _ _ q))
    · exact S'.off p h1
  · rcases List.mem_append.mp hp with h1 | h1
    · exact (old _ (hl p h1).1 _ _ (S.frz q hq)).symm
    · exact S'.sep p h1 q hq
  · rw [List.pairwise_append]
    refine ⟨hp, S.nd, fun p h1 q h2 => ?_⟩
    obtain ⟨o', ho, _⟩ := S.own q h2
    exact (old _ (hl p h1).1 _ _ ho).symm
noncomputable def bLD (kd : Str → Option NameKind) (l : List (Str × D)) : List (Str × D) := (l.filter fun p => decide (kd p.1 = some .local)).reverse
noncomputable def bCD (kd : Str → Option NameKind) (l : List (Str × D)) : List (Str × D) := (l.filter fun p => !decide (kd p.1 = some .local)).reverse
theorem bindL_eq (kd : Str → Option NameKind) : ∀ (l : List (Str × Value)) (m : Str → Option Value) (y : Str), bindL kd l m y = ((l.filter fun p => decide (kd p.1 = some .local)).reverse.lookup y).or (m y)
  | [], m, y => by simp [bindL]
  | (n, v) :: r, m, y => by
    rw [bindL, bindL_eq kd r]
    by_cases h : kd n = some .local
    · simp only [h, if_true, List.filter_cons, decide_true, List.reverse_cons]
      rw [List.lookup_append, Option.or_assoc]
      congr 1
      by_cases e : y = n
      · simp [e]
      · have : (y == n) = false := by simpa using e
        rw [List.lookup_cons, this]
        simp [e]
    · simp only [h, if_false, List.filter_cons, decide_false]
      rfl
theorem bindC_eq (kd : Str → Option NameKind) : ∀ (l : List (Str × Value)) (m : Str → Option Value) (y : Str), bindC kd l m y = ((l.filter fun p => !decide (kd p.1 = some .local)).reverse.lookup y).or (m y)
  | [], m, y => by simp [bindC]
  | (n, v) :: r, m, y => by
    rw [bindC, bindC_eq kd r]
    by_cases h : kd n = some .local
    · simp only [h, if_true, List.filter_cons, decide_true, Bool.not_true]
      rfl
    · simp only [h, if_false, List.filter_cons, decide_false, Bool.not_false, if_true, List.reverse_cons]
      rw [List.lookup_append, Option.or_assoc]
      congr 1
      by_cases e : y = n
      · simp [e]
      · have : (y == n) = false := by simpa using e
        rw [List.lookup_cons, this]
        simp [e]
theorem ov_filter {fz : Fz} (q : Str → Bool) (y : Str) : ∀ {vs : List Value} {ds : List D} (ns : List Str), VA fz vs ds → ∀ (a : List (Str × Value)) (b : List (Str × D)), OV fz (a.lookup y) (b.lookup y) →
    OV fz ((((ns.zip vs).filter fun p => q p.1).reverse ++ a).lookup y) ((((ns.zip ds).filter fun p => q p.1).reverse ++ b).lookup y)
  | [], [], ns, _, a, b, h => by cases ns <;> simpa using h
  | _ :: _, _ :: _, [], _, a, b, h => by simpa using h
  | v :: vs, d :: ds, n :: ns, .cons hv r, a, b, h => by
    rw [List.zip_cons_cons, List.zip_cons_cons, List.filter_cons, List.filter_cons]
    cases hq : q n with
    | false => exact ov_filter q y ns r a b h
    | true =>
      simp only [if_true, List.reverse_cons, List.append_assoc, List.singleton_append]
      refine ov_filter q y ns r _ _ ?_
      rw [List.lookup_cons, List.lookup_cons]
      cases (y == n) with
      | true => exact hv
      | false => exact h
section
variable {name qual : Str} {params : Arguments} {body : List Stmt} {scope : Scope} {dV kV doc pm cdv ct oc : Value} {an od : Option Addr} {osl : Array (Option Value)} {f : Addr} {fs : List (Str × D)}
theorem call_cel {ns : List Str} {n : Nat} {cells : Addr → OW} {cl : Addr → List (Str × Addr)} (hA : AOk (n + 1) A) (ho : X.KK.lookup f = some ⟨oc, od, .func (fnOf name qual params body scope dV kV doc pm an cdv ct), osl⟩) (hcd : codeIn X.KK cdv qual = true)
    (hb : ∀ vs : List Value, vs.length = ds.length → bindArgs (fnOf name qual params body scope dV kV doc pm an cdv ct) ⟨vs, []⟩ = pure (ns.zip vs))
    (hkind : (ns.all fun y => scope.names.lookup y == some .local || scope.names.lookup y == some .cell) = true) (hlen : ns.length = ds.length)
    (hnd : ((cellsFrom 0 scope.names []).map (·.1)).Nodup) (hco : scope.isCoroutine = false) (hgen : scope.isGenerator = false) (hk : scope.kind = .function)
    (hfs : bLD (fun y => scope.names.lookup y) (ns.zip ds) = fs)
    (hcl : ∀ L, cellsFrom (L + 1) scope.names [] = cl L)
    (hcs' : ∀ L, (cl L).map (fun p => (p.2, Res.cell ((bCD (fun y => scope.names.lookup y) (ns.zip ds)).lookup p.1))) = cells L)
    (hAA : ∀ L A', AOk n A' → Tf X A' (execs body (envX qual scope L f cdv (cl L))) ((L, .fm fs) :: (cells L ++ ow)) (RetTo P)) : TC X A (.ref f) ds ow P := fun dt fr hp vs S a => by
  have hcs : ∀ L, (cellsFrom (L + 1) scope.names []).map (fun p => (p.2, Res.cell ((bCD (fun y => scope.names.lookup y) (ns.zip ds)).lookup p.1))) = cells L := fun L => by rw [hcl]; exact hcs' L
  have h' := fun L => hAA L (A.deeper (envX qual scope L f cdv (cl L))) hA.deeper
  have h : ∀ L, Tf X (A.deeper (envOfC qual scope L f cdv)) (execs body (envOfC qual scope L f cdv)) ((L, .fm fs) :: (cells L ++ ow)) (RetTo P) := fun L => by
    have e : envOfC qual scope L f cdv = envX qual scope L f cdv (cl L) := by rw [← hcl]; rfl
    rw [e]; exact h' L
  intro s hs
  obtain ⟨fz, S⟩ := S
  have va := a.va S
  have hl := va.length
  have hk' : ((ns.zip vs).all fun y => scope.names.lookup y.1 == some .local || scope.names.lookup y.1 == some .cell) = true := by
    rw [List.all_eq_true]
    intro p hp
    exact List.all_eq_true.mp hkind p.1 (List.of_mem_zip hp).1
  refine codeAny_call_function hA.room (by rw [hs]; exact S.K _ _ ho) rfl hco hgen rfl (by rw [hs]; exact codeRec_of S.K hcd) (BindsTo.of_eq (hb vs hl) _ _ _ _ ?_)
  refine wpAny_newFunctionEnv_cells hk (kindsX hk' _) fun env' he s' x => ?_
  subst he
  have hlim : s.heap.NoLimit := by rw [hs]; exact X.lim.keeps S.base
  refine ⟨hlim.keeps x.toInCall.keep, codeAny_func ?_⟩
  obtain ⟨h₁, tk, rfl, _⟩ := x.done
  have hk₁ := x.toInCall.keep
  rw [← hs] at S
  have hns := x.toInCall.ns
  obtain ⟨o, es', ep, ho', hd', hsk, hf'⟩ := hns
  have hnone : ∀ a : Addr, s.heap.objs.size ≤ a → s.heap.get? a = none := fun a ha => by
    cases e : s.heap.get? a with
    | none => rfl
    | some o' => exact absurd (Heap.lt_size e) (Nat.not_lt.mpr ha)
  have hndc : ((cellsFrom (s.heap.objs.size + 1) scope.names []).map (·.1)).Nodup := cellsFrom_names scope.names 0 (s.heap.objs.size + 1) [] [] rfl ▸ hnd
  have S₁ : SF X fz dt ((((s.heap.objs.size, Res.fm fs) :: cells s.heap.objs.size)) ++ (ow ++ fr)) h₁ := by
    refine S.news hk₁ _ (fun p hp => ?_) ?_
    · rcases List.mem_cons.mp hp with rfl | hp
      · refine ⟨hnone _ (Nat.le_refl _), o, ho', es', ep, hd', hsk, fun y => ?_⟩
        rw [hf', bindL_eq, Option.or_none, ← hfs]
        have := ov_filter (fun n => decide (scope.names.lookup n = some .local)) y ns va [] [] trivial
        rw [List.append_nil, List.append_nil] at this
        exact this
      · rw [← hcs] at hp
        obtain ⟨⟨n, c⟩, hq, rfl⟩ := List.mem_map.mp hp
        refine ⟨hnone _ (Nat.le_of_lt (x.above n c hq)), ?_⟩
        obtain ⟨oc, hoc, hdc⟩ := x.cell n c (lookup_of_mem_nodup hndc hq)
        refine ⟨oc, hoc, _, hdc, ?_⟩
        rw [bindC_eq, Option.or_none]
        have := ov_filter (fun n => !decide (scope.names.lookup n = some .local)) n ns va [] [] trivial
        rw [List.append_nil, List.append_nil] at this
        exact this
    · rw [List.pairwise_cons]
      refine ⟨fun p hp => ?_, ?_⟩
      · rw [← hcs] at hp
        obtain ⟨⟨n, c⟩, hq, rfl⟩ := List.mem_map.mp hp
        exact Nat.ne_of_lt (x.above n c hq)
      · rw [← hcs, List.pairwise_map]
        exact x.apart
  have z := h s.heap.objs.size dt fr h₁ (by simpa using S₁.st) { s with heap := h₁, toks := tk } rfl
  refine wpAny_mono z (fun fl s' y => ?_) fun _ _ e => e.elim
  obtain ⟨k, y⟩ := y
  refine ⟨(Kin.mk s h₁ _).trans k, ?_⟩
  have drop : ∀ v, VQ X dt fr (fun d o => ∃ o', Sel o' o ∧ P d o') v s'.heap → VQ X dt fr P v s'.heap := fun v y => y.selQ
  have dropU : UQ X dt fr (fun o => ∃ o', Sel o' o ∧ P .none o') s'.heap → VQ X dt fr P .none s'.heap := fun y => by
    obtain ⟨o, S', o', hsub, p⟩ := y
    exact ⟨.none, o', (hsub.st S').none, p⟩
  cases fl with
  | ret v => exact drop v y
  | next => exact dropU y
  | brk => exact dropU y
  | cont => exact dropU y
end

/-! ## making an object of a class -/
theorem AOk.make {n : Nat} {A : Around} {C : Addr} {vs : List Value} (x : AOk (n + 1) A) : AOk n (A.under (.builtin "type.__call__" ⟨.ref C :: vs, []⟩)) :=
  ⟨x.hh, by have := x.dep; rw [depth_under_make]; omega, by have := x.un; rw [units_under_make]; omega⟩
theorem call_make {C fI : Addr} {n : Nat} (hA : AOk (n + 1) A) (hc : clsOk X.KK C = true) (hi : findIn X.KK (.ref C) "__init__" = some (some (.ref fI))) (hf : isFn X.KK (.ref fI) = true)
    (hAA : ∀ dx A', AOk n A' → TC X A' (.ref fI) (.obj C dx :: ds) ((dx, .ns []) :: ow) (fun d o => d = .none ∧ P (.obj C dx) o)) : TC X A (.ref C) ds ow P := fun dt fr hp vs S a => by
  have h := fun (vs : List Value) dx => hAA dx (A.under (.builtin "type.__call__" ⟨.ref C :: vs, []⟩)) hA.make
  intro s hs
  obtain ⟨hh, g, dr, t, os⟩ := s
  change hh = hp at hs
  subst hs
  obtain ⟨fz, S⟩ := S
  obtain ⟨c1, c2, c3, c4, c5⟩ := clsOk_is hc
  refine make_core (makes_of S.K c4) (looks_findIn S.K hi) (fun self => bind_fn S.K self (beq_iff_eq.mp hf)) (.inl rfl) ?_
  have S₁ := (S.alloc (r := .ns []) (o := emptyDict) ⟨[], 0, rfl, .nil⟩ rfl).allocFz (o := instObj C hh.objs.size) rfl
  rw [Heap.size_push] at S₁
  have hv : VD ((hh.objs.size + 1, instObj C hh.objs.size) :: fz) (.ref (hh.objs.size + 1)) (.obj C hh.objs.size) := .obj (.head _)
  have S₂ := S₁.see hv
  refine codeAny_mono (h vs hh.objs.size _ fr _ (.ref (hh.objs.size + 1) :: vs) S₂.st (.cons (.head _) (a.mono subT)) _ rfl) fun r s' y => ?_
  rcases r with e | (v | _ | _ | _)
  all_goals first
    | exact y
    | exact y.2.elim
    | skip
  obtain ⟨k, d, o, S₃, rfl, p⟩ := y
  obtain ⟨fz₃, S₃⟩ := S₃
  have hn := vd_of S₃ (.head _)
  cases hn
  refine ⟨rfl, (Kin.mk _ _ t).trans k, .obj C hh.objs.size, o, ?_, p⟩
  refine (S₃.dts fun p hp => ?_).st
  rcases List.mem_cons.mp hp with rfl | hp
  · exact .tail _ (.head _)
  · exact .tail _ (.tail _ hp)

/-! ## comprehensions -/
/-- the state within a comprehension's turn: the block's own frame ahead -/
noncomputable def CT (C : Addr) (Q : OW → Prop) (o : OW) : Prop := ∃ fs o', o = (C, .fm fs) :: o' ∧ Q o'
noncomputable def CTests (X : Cx) (A : Around) (ifs : List Expr) (cenv : Env) (ow : OW) (yes no : OW → Prop) : Prop := match ifs with
  | [] => yes ow
  | [c] => Tb X A (isTrue c cenv (eval c cenv)) ow (fun b o => bif b then yes o else no o)
  | _ => False
theorem comp_core {elt iter : Expr} {x : Str} {px : Pos} {ifs : List Expr} {scope : Scope} {cl : List (Str × Addr)} {dt' : DT} {fr : OW} {I : Addr} {n : Nat} {item : Nat → D} {Sw : Nat → Heap → Prop} {oI : Obj} {fz : Fz} {s₂ : Shared}
    {Rr : Value → Addr → Shared → Prop} (W : Wk X A dt' I n item Sw) (hst : Sw 0 s₂.heap) (hoI : s₂.heap.get? I = some oI) (S : SF X fz dt' ((I, .raw (· = oI)) :: (ow ++ fr)) s₂.heap)
    (hsz : n ≤ sizeLine) (hcell : ∀ y ∈ scope.names, y.2 ≠ .cell) (hkind : scope.kind = .function) (hx : scope.names.lookup x = some .local)
    (Inv : Nat → List D → OW → Prop) (h0 : Inv 0 [] ow)
    (turn : ∀ i ys o C, i < n → Inv i ys o → ys.length ≤ i → CTests X A ifs (compEnvC scope cl C env) ((C, .fm [(x, item i)]) :: o)
      (fun o => Tv X A (eval elt (compEnvC scope cl C env)) o (fun y o' => ys.length < n ∧ ∃ o'', o' = (C, .fm [(x, item i)]) :: o'' ∧ Inv (i + 1) (ys ++ [y]) o''))
      (fun o' => ∃ o'', o' = (C, .fm [(x, item i)]) :: o'' ∧ Inv (i + 1) ys o''))
    (fin : ∀ Dl C ys o fs (s : Shared) fz, Inv n ys o → Kin s₂ s → SF X fz dt' ((C, .fm fs) :: (Dl, .list ys) :: (o ++ fr)) s.heap → Rr (.ref Dl) C s) :
    wpAny X.M A (newList []) (fun acc s₃ => wpAny X.M A (newFunctionEnv scope env.globals cl [] env.qual none .none (some env)) (fun cenv s₄ =>
      codeAny X.M A (.compStart (.ListComp elt [⟨.Name x px, iter, ifs, 0⟩] scope pos) 0 (.ref I) acc { cenv with scope := relabel scope env }) (fun r s' => match r with | .ok _ => Rr acc cenv.locals s' | .error _ => False) s₄) (fun _ _ => False) s₃) (fun _ _ => False) s₂ := by
  refine wpAny_newObj_type (wpAny_newFunctionEnv hcell (by intro y hy; simp at hy) (fun h₁ hns₁ hsb₁ => ?_) hkind)
  dsimp only at hns₁ hsb₁ ⊢
  generalize hD : s₂.heap.objs.size = Dl at hns₁ hsb₁ ⊢
  have S₁ := S.alloc (r := .list []) (o := PySem.W.listOf [].toArray 0) ⟨[], 0, rfl, .nil⟩ rfl
  rw [hD] at S₁
  generalize hH2 : s₂.heap.push { cls := .type "list", dict := none, data := .seq ([] : List Value).toArray } = H2 at hns₁ hsb₁ S₁ ⊢
  have hDH : H2.objs.size = Dl + 1 := by rw [← hH2, Heap.size_push, hD]
  obtain ⟨oC, es, ep, hoC, hdC, hsk, hf⟩ := hns₁
  have keep : ∀ b o, H2.get? b = some o → h₁.get? b = some o := fun b o e => hsb₁.extBut b o (Nat.ne_of_lt (Heap.lt_size e)) (Heap.get?_push_of_some _ e)
  have keep0 : ∀ b o, s₂.heap.get? b = some o → h₁.get? b = some o := fun b o e => keep b o (hH2 ▸ Heap.get?_push_of_some _ e)
  have S₂ : SF X fz dt' ((H2.objs.size, .fm []) :: (Dl, .list []) :: (I, .raw (· = oI)) :: (ow ++ fr)) h₁ :=
    S₁.new keep (none_at H2) hoC ⟨es, ep, hdC, hsk, fun y => by rw [hf]; trivial⟩
  generalize hC : H2.objs.size = C at S₂ ⊢
  have hst₁ : Sw 0 h₁ := by
    have S₃ := S₂
    refine W.keep _ _ _ _ _ hst S₃ ?_
    rw [keep0 _ _ hoI, hoI]
  have hoI₁ := keep0 _ _ hoI
  have swapA : ∀ (o : OW) ys fs oI, ((C, Res.fm fs) :: (Dl, Res.list ys) :: (I, Res.raw (· = oI)) :: (o ++ fr)).Perm (((C, .fm fs) :: o) ++ ((Dl, .list ys) :: (I, .raw (· = oI)) :: fr)) := fun o ys fs oI => by
    refine List.Perm.cons _ ?_
    exact (List.Perm.cons _ List.perm_middle.symm).trans List.perm_middle.symm
  have swapI : ∀ (o : OW) ys fs oI, ((C, Res.fm fs) :: (Dl, Res.list ys) :: (I, Res.raw (· = oI)) :: (o ++ fr)).Perm ((I, .raw (· = oI)) :: (C, .fm fs) :: (Dl, .list ys) :: (o ++ fr)) := fun o ys fs oI =>
    ((List.Perm.cons _ (List.Perm.swap _ _ _)).trans (List.Perm.swap _ _ _))
  have loop : ∀ s₃ : Shared, s₃ = { s₂ with heap := h₁, toks := s₂.toks + ([] : List (Str × Value)).length } →
      codeAny X.M A (.compLoop (.ListComp elt [⟨.Name x px, iter, ifs, 0⟩] scope pos) 0 (.ref I) (.ref Dl) (compEnvC scope cl C env)) (fun r s' => match r with | .ok _ => Rr (.ref Dl) C s' | .error _ => False) s₃ := by
    rintro s₃ rfl
    refine codeAny_compLoop_tests (fun k s' => ∃ i ys o fs oI fz, i ≤ n ∧ k = n + 1 - i ∧ Kin s₂ s' ∧ Inv i ys o ∧ ys.length ≤ i ∧ (fs = [] ∨ ∃ e, fs = [(x, e)]) ∧ Sw i s'.heap ∧ s'.heap.get? I = some oI ∧
      SF X fz dt' ((C, .fm fs) :: (Dl, .list ys) :: (I, .raw (· = oI)) :: (o ++ fr)) s'.heap) ?_ (n + 1)
      ⟨0, [], ow, [], oI, fz, Nat.zero_le _, rfl, ⟨_, rfl⟩, h0, Nat.le_refl _, .inl rfl, hst₁, hoI₁, S₂⟩
    rintro k s' ⟨i, ys, o, fs, oI, fz, hi, rfl, kin, hI, hyl, hfs, hst, hoI, S⟩
    by_cases hlt : i < n
    · refine W.next i s' _ _ hlt hst fun v h' tk hst' hk hv => ?_
      obtain ⟨oI', hoI'⟩ := W.obj _ _ hst'
      have SI := ((S.perm (swapI _ _ _ _)).set hk hoI' (r' := .raw (· = oI')) rfl).perm (swapI o ys fs oI').symm
      have kin₁ : Kin s₂ { s' with heap := h', toks := tk } := kin.trans ⟨tk, rfl⟩
      have hv' := hv fz _ SI
      -- the name
      obtain ⟨ob, hob, es', ep', hd', hsk', hov⟩ := SI.get (a := C) (r := .fm fs) (.head _)
      refine wpAny_assign_Name (wpAny_storeName_local (m := fun y => nsFind es' y) (lookup_relabel_local hx) ⟨ob, es', ep', hob, hd', hsk', fun _ => rfl⟩ (fun h₃ hn₃ hs₃ => ?_) (by simp [compEnvC, relabel, hkind]))
      dsimp only at hn₃ hs₃ ⊢
      have hlo : (compEnvC scope cl C env).locals = C := rfl
      rw [hlo] at hn₃ hs₃
      obtain ⟨o₃, es₃, ep₃, ho₃, hd₃, hsk₃, hf₃⟩ := hn₃
      have S₃ : SF X fz dt' ((C, .fm [(x, item i)]) :: (Dl, .list ys) :: (I, .raw (· = oI')) :: (o ++ fr)) h₃ := SI.set hs₃.extBut ho₃ ⟨es₃, ep₃, hd₃, hsk₃, fun y => by
        rw [hf₃]
        by_cases e : y = x
        · subst e; simp only [if_true, List.lookup_cons, beq_self_eq_true]; exact hv'
        · have e' : (y == x) = false := by simpa using e
          simp only [if_neg e, List.lookup_cons, e', List.lookup_nil]
          have z := hov y
          rcases hfs with rfl | ⟨e₀, rfl⟩
          · exact z
          · simp only [List.lookup_cons, e', List.lookup_nil] at z; exact z⟩
      have hst₃ : Sw (i + 1) h₃ := by
        refine W.keep _ _ _ _ _ hst' (S₃.perm (swapI _ _ _ _)) ?_
        obtain ⟨ob, hob, e'⟩ := S₃.get (a := I) (r := .raw (· = oI')) (.tail _ (.tail _ (.head _)))
        dsimp only [Res.ok] at e'
        rw [hob, hoI', e']
      have kin₃ : Kin s₂ { s' with heap := h₃, toks := tk + 1 } := kin.trans ⟨_, rfl⟩
      have T := turn i ys o C hlt hI hyl
      have S₄ := (S₃.perm (swapA _ _ _ _)).st
      -- one more item
      have yes : ∀ {o₁ : OW} {h₄ : Heap} (s₄ : Shared), s₄.heap = h₄ → Kin s₂ s₄ → St X dt' (o₁ ++ ((Dl, .list ys) :: (I, .raw (· = oI')) :: fr)) h₄ →
          Tv X A (eval elt (compEnvC scope cl C env)) o₁ (fun y o' => ys.length < n ∧ ∃ o'', o' = (C, .fm [(x, item i)]) :: o'' ∧ Inv (i + 1) (ys ++ [y]) o'') →
          wpAny X.M A (eval elt (compEnvC scope cl C env)) (fun xv s₅ => wpAny X.M A (call (.builtin "list.append") [.ref Dl, xv]) (fun _ s₆ => ∃ m, m < n + 1 - i ∧ ∃ i ys o fs oI fz, i ≤ n ∧ m = n + 1 - i ∧ Kin s₂ s₆ ∧ Inv i ys o ∧ ys.length ≤ i ∧ (fs = [] ∨ ∃ e, fs = [(x, e)]) ∧ Sw i s₆.heap ∧ s₆.heap.get? I = some oI ∧
            SF X fz dt' ((C, .fm fs) :: (Dl, .list ys) :: (I, .raw (· = oI)) :: (o ++ fr)) s₆.heap) (notedBy X.M A (compEnvC scope cl C env) fun e s' => False) s₅) (notedBy X.M A (compEnvC scope cl C env) fun e s' => False) s₄ := by
        intro o₁ h₄ s₄ hs₄ kin₄ S₅ T
        subst hs₄
        refine Rn.go (T _ _ _ S₅) kin₄ fun xv s₅ kin₅ q => ?_
        obtain ⟨y, o', S₆, hyn, o'', rfl, hI'⟩ := q
        obtain ⟨fz₆, S₆⟩ := S₆
        have hy := vd_of S₆ (.head _)
        have S₇ := (S₆.perm (swapA o'' ys _ oI').symm).dts (dt' := dt') subT
        obtain ⟨ol, hol, us, m, rfl, va⟩ := S₇.get (a := Dl) (r := .list ys) (.tail _ (.head _))
        have hul := va.length
        refine append_at hol (fun h₆ hsb hD₆ => ?_) (by rw [List.size_toArray, hul]; omega)
        have S₈ : SF X fz₆ dt' ((C, .fm [(x, item i)]) :: (Dl, .list (ys ++ [y])) :: (I, .raw (· = oI')) :: (o'' ++ fr)) h₆ :=
          S₇.up (.s .z) hsb.extBut hD₆ ⟨us ++ [xv], m + 1, by simp, va.append (.one hy)⟩
        refine ⟨n + 1 - (i + 1), by omega, i + 1, ys ++ [y], o'', _, oI', fz₆, hlt, rfl, kin₅.trans ⟨_, rfl⟩, hI', by rw [List.length_append]; exact Nat.succ_le_succ hyl, .inr ⟨_, rfl⟩, ?_, ?_, S₈⟩
        · refine W.keep _ _ _ _ _ hst₃ (S₈.perm (swapI _ _ _ _)) ?_
          obtain ⟨ob, hob, e'⟩ := S₈.get (a := I) (r := .raw (· = oI')) (.tail _ (.tail _ (.head _)))
          obtain ⟨ob₂, hob₂, e₂⟩ := S₃.get (a := I) (r := .raw (· = oI')) (.tail _ (.tail _ (.head _)))
          dsimp only [Res.ok] at e' e₂
          rw [hob, hob₂, e', e₂]
        · obtain ⟨ob, hob, e'⟩ := S₈.get (a := I) (r := .raw (· = oI')) (.tail _ (.tail _ (.head _)))
          dsimp only [Res.ok] at e'
          rw [hob, e']
      have no : ∀ {o₁ : OW} {h₄ : Heap} (s₄ : Shared), s₄.heap = h₄ → Kin s₂ s₄ → St X dt' (o₁ ++ ((Dl, .list ys) :: (I, .raw (· = oI')) :: fr)) h₄ → (∃ o'', o₁ = (C, .fm [(x, item i)]) :: o'' ∧ Inv (i + 1) ys o'') →
          ∃ m, m < n + 1 - i ∧ ∃ i ys o fs oI fz, i ≤ n ∧ m = n + 1 - i ∧ Kin s₂ s₄ ∧ Inv i ys o ∧ ys.length ≤ i ∧ (fs = [] ∨ ∃ e, fs = [(x, e)]) ∧ Sw i s₄.heap ∧ s₄.heap.get? I = some oI ∧
            SF X fz dt' ((C, .fm fs) :: (Dl, .list ys) :: (I, .raw (· = oI)) :: (o ++ fr)) s₄.heap := by
        intro o₁ h₄ s₄ hs₄ kin₄ S₅ T
        subst hs₄
        obtain ⟨o'', rfl, hI'⟩ := T
        obtain ⟨fz₆, S₆⟩ := S₅
        have S₈ := S₆.perm (swapA o'' ys _ oI').symm
        refine ⟨n + 1 - (i + 1), by omega, i + 1, ys, o'', _, oI', fz₆, hlt, rfl, kin₄, hI', Nat.le_succ_of_le hyl, .inr ⟨_, rfl⟩, ?_, ?_, S₈⟩
        · refine W.keep _ _ _ _ _ hst₃ (S₈.perm (swapI _ _ _ _)) ?_
          obtain ⟨ob, hob, e'⟩ := S₈.get (a := I) (r := .raw (· = oI')) (.tail _ (.tail _ (.head _)))
          obtain ⟨ob₂, hob₂, e₂⟩ := S₃.get (a := I) (r := .raw (· = oI')) (.tail _ (.tail _ (.head _)))
          dsimp only [Res.ok] at e' e₂
          rw [hob, hob₂, e', e₂]
        · obtain ⟨ob, hob, e'⟩ := S₈.get (a := I) (r := .raw (· = oI')) (.tail _ (.tail _ (.head _)))
          dsimp only [Res.ok] at e'
          rw [hob, e']
      match ifs, T with
      | [], T =>
        refine wpAny_tests_nil ?_
        simp only [if_true]
        exact yes { s' with heap := h₃, toks := tk + 1 } rfl kin₃ S₄ T
      | [c], T =>
        refine wpAny_tests_one (Rn.go (T _ _ _ S₄) kin₃ fun b s₄ kin₄ q => ?_)
        obtain ⟨o₁, S₅, q⟩ := q
        cases b with
        | true =>
          simp only [if_true]
          exact yes s₄ rfl kin₄ S₅ q
        | false =>
          simp only [Bool.false_eq_true, if_false]
          exact no s₄ rfl kin₄ S₅ q
    · obtain rfl : i = n := by omega
      refine W.done s' _ _ hst fun h' tk hk => ?_
      refine fin Dl C ys o fs { s' with heap := h', toks := tk } fz hI (kin.trans ⟨_, rfl⟩) ?_
      have SI := S.perm (swapI _ _ _ _)
      have n' := SI.nd
      rw [List.pairwise_cons] at n'
      refine ⟨fun b ob e => hk b ob (fun q => ?_) (SI.base b ob e), fun p hp => hk _ _ (fun q => SI.sep _ (.head _) p hp q.symm) (SI.frz p hp), fun p hp => ?_, fun p hp => SI.off p (.tail _ hp), fun p hp => SI.sep p (.tail _ hp), n'.2, SI.dat⟩
      · have := SI.off _ (.head _)
        dsimp only at this
        subst q; rw [this] at e; cases e
      · obtain ⟨ob, hob, hr⟩ := SI.own p (.tail _ hp)
        exact ⟨ob, hk _ _ (n'.1 p hp).symm hob, hr⟩
  have e : ({ cls := .type "list", dict := none, data := .seq ([] : List Value).toArray } : Obj) = PySem.W.listOf [].toArray 0 := rfl
  subst hC
  exact codeAny_compStart_list (loop _ rfl) (W.self 0 _ _ _ hst₁ (loop _ rfl))
end
section
variable {X : Cx} {A : Around} {env : Env} {ow ow' : OW} {P : D → OW → Prop} {PB : Bool → OW → Prop} {PU : OW → Prop} {PF : Fl → OW → Prop} {pos : Pos} {i j : Int} {d : D} {ds es : List D}

/-- the made list: frozen, or kept to be turned -/
theorem Out.made {fz : Fz} {dt : DT} {fr : OW} {h : Heap} {Dl : Addr} (S : SF X fz dt ((Dl, .list ds) :: (ow ++ fr)) h) (x : Out P ow ds) : ∃ d o, St X ((.ref Dl, d) :: dt) (o ++ fr) h ∧ P d o := by
  cases x with
  | fz p =>
    obtain ⟨ob, ⟨us, n, rfl, va⟩, S'⟩ := S.freeze .z
    exact ⟨.lst ds, ow, (S'.see (.lst (.head _) va)).st, p⟩
  | own p => exact ⟨.own Dl, (Dl, .list ds) :: ow, (S.see (.own _)).st, p Dl⟩
theorem fm_ns {fz : Fz} {dt : DT} {h : Heap} {C : Addr} {fs : List (Str × D)} (S : SF X fz dt ow h) (m : (C, Res.fm fs) ∈ ow) : ∃ m, h.Ns C m := by
  obtain ⟨o, ho, es, ep, hd, hk, _⟩ := S.get m
  exact ⟨fun y => nsFind es y, o, es, ep, ho, hd, hk, fun _ => rfl⟩
theorem SF.lose {fz : Fz} {dt : DT} {h h' : Heap} {a : Addr} {r : Res} (S : SF X fz dt ((a, r) :: ow) h) (hk : Heap.ExtBut a h h') : SF X fz dt ow h' := by
  have n' := S.nd
  rw [List.pairwise_cons] at n'
  refine ⟨fun b ob e => hk b ob (fun q => ?_) (S.base b ob e), fun p hp => hk _ _ (fun q => S.sep _ (.head _) p hp q.symm) (S.frz p hp), fun p hp => ?_, fun p hp => S.off p (.tail _ hp), fun p hp => S.sep p (.tail _ hp), n'.2, S.dat⟩
  · have := S.off _ (.head _)
    dsimp only at this
    subst q; rw [this] at e; cases e
  · obtain ⟨ob, hob, hr⟩ := S.own p (.tail _ hp)
    exact ⟨ob, hk _ _ (n'.1 p hp).symm hob, hr⟩
section
variable {elt iter : Expr} {x : Str} {px : Pos} {ifs : List Expr} {scope : Scope} {cl : List (Str × Addr)} {n : Nat} {item : Nat → D}
theorem ev_comp (hs : ∀ x, foldedSetIterable iter env x = pure x) (hclos : closureFor scope env = pure cl) (hcell : ∀ y ∈ scope.names, y.2 ≠ .cell) (hkind : scope.kind = .function)
    (hnames : ∀ y ∈ scope.names, y.2 = .local → scope.names.lookup y.1 = some .local) (hx : scope.names.lookup x = some .local) (hsz : n ≤ sizeLine)
    (Inv : Nat → List D → OW → Prop) (hi : Tv X A (eval iter env) ow (fun d o => ItrOf X A d n item ∧ Inv 0 [] o))
    (turn : ∀ i ys o C, i < n → Inv i ys o → ys.length ≤ i → CTests X A ifs (compEnvC scope cl C env) ((C, .fm [(x, item i)]) :: o)
      (fun o => Tv X A (eval elt (compEnvC scope cl C env)) o (fun y o' => ys.length < n ∧ ∃ o'', o' = (C, .fm [(x, item i)]) :: o'' ∧ Inv (i + 1) (ys ++ [y]) o''))
      (fun o' => ∃ o'', o' = (C, .fm [(x, item i)]) :: o'' ∧ Inv (i + 1) ys o''))
    (fin : ∀ ys o, Inv n ys o → Out P o ys) : Tv X A (eval (.ListComp elt [⟨.Name x px, iter, ifs, 0⟩] scope pos) env) ow P := fun dt fr h S s hs' => by
  rw [eval_ListComp]
  refine wpAny_comprehension_free (use := none) rfl hs hclos hkind hnames (wpAny_mono (hi dt fr h S s hs') (fun v s₁ y => ?_) fun _ _ e => e)
  obtain ⟨kin, d, o, S₁, hit, hI⟩ := y
  refine hit _ _ s₁ v _ _ S₁ (.head _) fun I h' dt' Sw oI fz W hst hsub hoI SI => ?_
  refine wpAny_mono (comp_core (iter := iter) (px := px) (pos := pos) (s₂ := { s₁ with heap := h' })
    (Rr := fun acc C s' => ∃ m, s'.heap.Ns C m ∧ ∀ h', Heap.SameBut C s'.heap h' → Kin s { s' with heap := h' } ∧ VQ X dt fr P acc h') W hst hoI SI hsz hcell hkind hx Inv hI turn ?_) (fun acc s₃ z => ?_) fun _ _ e => e.elim
  · intro Dl C ys o' fs s₃ fz₃ hIn kin₃ S₃
    obtain ⟨m, hm⟩ := fm_ns S₃ (.head _)
    refine ⟨m, hm, fun h'' hsb => ?_⟩
    have S₄ := S₃.lose hsb.extBut
    obtain ⟨d', o'', S₅, p⟩ := (fin ys o' hIn).made S₄
    refine ⟨((kin.trans ⟨_, rfl⟩).trans kin₃).trans ⟨_, rfl⟩, d', o'', S₅.dts fun p hp => ?_, p⟩
    rcases List.mem_cons.mp hp with rfl | hp
    · exact .head _
    · exact .tail _ (hsub _ (.tail _ hp))
  · refine wpAny_mono z (fun cenv s₄ z => codeAny_mono z fun r s' q => ?_) fun _ _ e => e.elim
    cases r with
    | error e => exact q.elim
    | ok f => exact q
theorem ex_comp {y : Str} {py spos : Pos} (hsw : swapsWith (.ListComp elt [⟨.Name x px, iter, ifs, 0⟩] scope pos) (some (.Name y py)) spos.line env = pure true)
    (hs : ∀ x, foldedSetIterable iter env x = pure x) (hclos : closureFor scope env = pure cl) (hcell : ∀ y ∈ scope.names, y.2 ≠ .cell) (hkind : scope.kind = .function)
    (hnames : ∀ y ∈ scope.names, y.2 = .local → scope.names.lookup y.1 = some .local) (hx : scope.names.lookup x = some .local) (hsz : n ≤ sizeLine)
    (Inv : Nat → List D → OW → Prop) (hi : Tv X A (eval iter env) ow (fun d o => ItrOf X A d n item ∧ Inv 0 [] o))
    (turn : ∀ i ys o C, i < n → Inv i ys o → ys.length ≤ i → CTests X A ifs (compEnvC scope cl C env) ((C, .fm [(x, item i)]) :: o)
      (fun o => Tv X A (eval elt (compEnvC scope cl C env)) o (fun y o' => ys.length < n ∧ ∃ o'', o' = (C, .fm [(x, item i)]) :: o'' ∧ Inv (i + 1) (ys ++ [y]) o''))
      (fun o' => ∃ o'', o' = (C, .fm [(x, item i)]) :: o'' ∧ Inv (i + 1) ys o''))
    (fin : ∀ ys o, Inv n ys o → Out (fun d o => U1 X A (storeName env y) d o (PF .next)) o ys) : Tf X A (exec (.Assign [.Name y py] (.ListComp elt [⟨.Name x px, iter, ifs, 0⟩] scope pos) spos) env) ow PF := fun dt fr h S s hs' => by
  rw [exec_Assign_Name_used _ _ _ _ hsw]
  refine wpAny_bind (wpAny_standAt (wpAny_bind ?_))
  show wpAny _ A (do let _ ← comprehension (.ListComp elt [⟨.Name x px, iter, ifs, 0⟩] scope pos) scope env _ (newList []) false (eval iter env) (some (assign (.Name y py) env))) _ _ s
  refine wpAny_bind (wpAny_mono (wpAny_comprehension_free (use := some (assign (.Name y py) env)) (Q := fun _ s' => Kin s s' ∧ FQ X dt fr PF .next s'.heap) rfl hs hclos hkind hnames
    (wpAny_mono (hi dt fr h S s hs') (fun v s₁ y => ?_) fun _ _ e => e)) (fun _ s' hq => wpAny_pure (wpAny_pure hq)) fun _ _ e => e)
  obtain ⟨kin, d, o, S₁, hit, hI⟩ := y
  refine hit _ _ s₁ v _ _ S₁ (.head _) fun I h' dt' Sw oI fz W hst hsub hoI SI => ?_
  refine wpAny_mono (comp_core (iter := iter) (px := px) (pos := pos) (s₂ := { s₁ with heap := h' })
    (Rr := fun acc C s' => wpAny X.M A (assign (.Name y py) env acc) (fun _ s'' => ∃ m, s''.heap.Ns C m ∧ ∀ h', Heap.SameBut C s''.heap h' → Kin s { s'' with heap := h' } ∧ FQ X dt fr PF .next h') (fun _ _ => False) s') W hst hoI SI hsz hcell hkind hx Inv hI turn ?_) (fun acc s₃ z => ?_) fun _ _ e => e.elim
  · intro Dl C ys o' fs s₃ fz₃ hIn kin₃ S₃
    have S₄ : SF X fz₃ dt' ((Dl, .list ys) :: (o' ++ ((C, .fm fs) :: fr))) s₃.heap := S₃.perm ((List.Perm.swap _ _ _).trans (List.Perm.cons _ (perm_mid _ _ _)))
    obtain ⟨d', o'', S₅, p⟩ := (fin ys o' hIn).made S₄
    have kin₄ : Kin s s₃ := (kin.trans ⟨_, rfl⟩).trans kin₃
    refine Rn.go (as_name p _ _ _ _ S₅ (.head _)) kin₄ fun _ s₅ kin₅ q => ?_
    obtain ⟨o₆, S₆, p₆⟩ := q
    obtain ⟨fz₆, S₆⟩ := S₆
    have S₇ := S₆.perm (perm_mid _ _ _).symm
    obtain ⟨m, hm⟩ := fm_ns S₇ (.head _)
    refine ⟨m, hm, fun h'' hsb => ⟨kin₅.trans ⟨_, rfl⟩, o₆, ?_, p₆⟩⟩
    exact ((S₇.lose hsb.extBut).dts fun p hp => .tail _ (hsub _ (.tail _ hp))).st
  · refine wpAny_mono z (fun cenv s₄ z => codeAny_mono z fun r s' q => ?_) fun _ _ e => e.elim
    cases r with
    | error e => exact q.elim
    | ok f => exact wpAny_mono q (fun _ _ z => z) fun _ _ e => e.elim
end
/-! ## names, by the frame's own shape -/
section
variable {qn : Str} {sc : Scope} {L f : Addr} {cd : Value} {cl : List (Str × Addr)} {x : Str} {fs fs' : List (Str × D)}
theorem n_loc (hk : isLoc (envX qn sc L f cd cl) x = true) (m : (L, Res.fm fs) ∈ ow) (k : Lk fs x d) (p : P d ow) : Tv X A (eval (.Name x pos) (envX qn sc L f cd cl)) ow P := nm_loc hk rfl m k p
theorem s_loc (hk : isLoc (envX qn sc L f cd cl) x = true) (u : Up L (.fm fs) (.fm fs') ow ow') (k : Pt fs x d fs') (p : PU ow') : U1 X A (storeName (envX qn sc L f cd cl) x) d ow PU := st_loc hk rfl u k p
theorem n_glo {v : Value} (hk : isGlo (envX qn sc L f cd cl) x = true) (g : GN X x v) (hv : VS v d) (p : P d ow) : Tv X A (eval (.Name x pos) (envX qn sc L f cd cl)) ow P := nm_glo g hv hk rfl rfl p
theorem n_cel {c : Addr} (hk : isCel (envX qn sc L f cd cl) x = true) (hc : (envX qn sc L f cd cl).cells.lookup x = some c) (m : (c, Res.cell (some d)) ∈ ow) (p : P d ow) : Tv X A (eval (.Name x pos) (envX qn sc L f cd cl)) ow P := nm_cel hk hc m p
theorem s_cel {c : Addr} {d₀ : Option D} (hk : isCel (envX qn sc L f cd cl) x = true) (hx : (envX qn sc L f cd cl).kindOf x = some .cell) (hc : (envX qn sc L f cd cl).cells.lookup x = some c) (u : Up c (.cell d₀) (.cell (some d)) ow ow') (p : PU ow') : U1 X A (storeName (envX qn sc L f cd cl) x) d ow PU := st_cel hk hx hc u p
variable {C : Addr} {csc : Scope} {ccl : List (Str × Addr)}
theorem c_loc (hk : isLoc (compEnvC csc ccl C (envX qn sc L f cd cl)) x = true) (m : (C, Res.fm fs) ∈ ow) (k : Lk fs x d) (p : P d ow) : Tv X A (eval (.Name x pos) (compEnvC csc ccl C (envX qn sc L f cd cl))) ow P := nm_loc hk rfl m k p
theorem c_glo {v : Value} (hk : isGlo (compEnvC csc ccl C (envX qn sc L f cd cl)) x = true) (g : GN X x v) (hv : VS v d) (p : P d ow) : Tv X A (eval (.Name x pos) (compEnvC csc ccl C (envX qn sc L f cd cl))) ow P := nm_glo g hv hk rfl rfl p
theorem c_cel {c : Addr} (hk : isCel (compEnvC csc ccl C (envX qn sc L f cd cl)) x = true) (hc : ccl.lookup x = some c) (m : (c, Res.cell (some d)) ∈ ow) (p : P d ow) : Tv X A (eval (.Name x pos) (compEnvC csc ccl C (envX qn sc L f cd cl))) ow P := nm_cel hk hc m p
end
/-! ## a call's own resources ahead -/
section
variable {f : Value} {a₁ a₂ a₃ a₄ a₅ a₆ : Addr} {r₁ r₂ r₃ r₄ r₅ r₆ : Res} {o₁ o₂ o₃ o₄ o₅ o₆ : OW}
theorem px1 (e₁ : Ex a₁ r₁ ow o₁) (x : TC X A f ds ((a₁, r₁) :: o₁) P) : TC X A f ds ow P := x.perm e₁.perm
theorem px2 (e₁ : Ex a₁ r₁ ow o₁) (e₂ : Ex a₂ r₂ o₁ o₂) (x : TC X A f ds ((a₁, r₁) :: (a₂, r₂) :: o₂) P) : TC X A f ds ow P := x.perm (e₁.perm.trans (.cons _ e₂.perm))
theorem px3 (e₁ : Ex a₁ r₁ ow o₁) (e₂ : Ex a₂ r₂ o₁ o₂) (e₃ : Ex a₃ r₃ o₂ o₃) (x : TC X A f ds ((a₁, r₁) :: (a₂, r₂) :: (a₃, r₃) :: o₃) P) : TC X A f ds ow P :=
  x.perm (e₁.perm.trans (.cons _ (e₂.perm.trans (.cons _ e₃.perm))))
theorem px4 (e₁ : Ex a₁ r₁ ow o₁) (e₂ : Ex a₂ r₂ o₁ o₂) (e₃ : Ex a₃ r₃ o₂ o₃) (e₄ : Ex a₄ r₄ o₃ o₄) (x : TC X A f ds ((a₁, r₁) :: (a₂, r₂) :: (a₃, r₃) :: (a₄, r₄) :: o₄) P) : TC X A f ds ow P :=
  x.perm (e₁.perm.trans (.cons _ (e₂.perm.trans (.cons _ (e₃.perm.trans (.cons _ e₄.perm))))))
theorem px5 (e₁ : Ex a₁ r₁ ow o₁) (e₂ : Ex a₂ r₂ o₁ o₂) (e₃ : Ex a₃ r₃ o₂ o₃) (e₄ : Ex a₄ r₄ o₃ o₄) (e₅ : Ex a₅ r₅ o₄ o₅) (x : TC X A f ds ((a₁, r₁) :: (a₂, r₂) :: (a₃, r₃) :: (a₄, r₄) :: (a₅, r₅) :: o₅) P) : TC X A f ds ow P :=
  x.perm (e₁.perm.trans (.cons _ (e₂.perm.trans (.cons _ (e₃.perm.trans (.cons _ (e₄.perm.trans (.cons _ e₅.perm))))))))
theorem px6 (e₁ : Ex a₁ r₁ ow o₁) (e₂ : Ex a₂ r₂ o₁ o₂) (e₃ : Ex a₃ r₃ o₂ o₃) (e₄ : Ex a₄ r₄ o₃ o₄) (e₅ : Ex a₅ r₅ o₄ o₅) (e₆ : Ex a₆ r₆ o₅ o₆) (x : TC X A f ds ((a₁, r₁) :: (a₂, r₂) :: (a₃, r₃) :: (a₄, r₄) :: (a₅, r₅) :: (a₆, r₆) :: o₆) P) : TC X A f ds ow P :=
  x.perm (e₁.perm.trans (.cons _ (e₂.perm.trans (.cons _ (e₃.perm.trans (.cons _ (e₄.perm.trans (.cons _ (e₅.perm.trans (.cons _ e₆.perm))))))))))
end
/-! ## lists of ints compared -/
theorem eqv_ints : ∀ a b : List Int, PyData.eqvAll (pys (a.map .int)) (pys (b.map .int)) = decide (a = b)
  | [], [] => by simp [pys, PyData.eqvAll]
  | [], _ :: _ => by simp [pys, PyData.eqvAll]
  | _ :: _, [] => by simp [pys, PyData.eqvAll]
  | x :: a, y :: b => by
    simp only [List.map_cons, pys, D.py, PyData.eqvAll, PyData.eqv, eqv_ints a b]
    by_cases h : x = y <;> by_cases h' : a = b <;> simp [h, h']
theorem rd_ints (a : List Int) : ∀ e ∈ a.map D.int, e.rd 0 = true := fun e he => by
  obtain ⟨x, _, rfl⟩ := List.mem_map.mp he; rfl
theorem op_eqI {d' : D} {a b : List Int} (hu : A.units + 64 < cLine) (l : IsL ow d (a.map .int)) (l' : IsL ow d' (b.map .int)) (p : P (.bool (decide (a = b))) ow) : T2 X A (compareOp .Eq) d d' ow P :=
  op_eqD hu (.l 0 (by decide) l (rd_ints a)) (.l 0 (by decide) l' (rd_ints b)) (by rw [show PyData.eqv (.list (pys (a.map .int))) (.list (pys (b.map .int))) = decide (a = b) from eqv_ints a b]; exact p)
theorem op_neI {d' : D} {a b : List Int} (hu : A.units + 64 < cLine) (l : IsL ow d (a.map .int)) (l' : IsL ow d' (b.map .int)) (p : P (.bool (!decide (a = b))) ow) : T2 X A (compareOp .NotEq) d d' ow P :=
  op_neD hu (.l 0 (by decide) l (rd_ints a)) (.l 0 (by decide) l' (rd_ints b)) (by rw [show PyData.eqv (.list (pys (a.map .int))) (.list (pys (b.map .int))) = decide (a = b) from eqv_ints a b]; exact p)
theorem bsplit {b : Bool} {p q : Prop} (h1 : b = true → p) (h2 : b = false → q) : bif b then p else q := by
  cases b
  · exact h2 rfl
  · exact h1 rfl
/-! ## types called -/
theorem fc_T {T : String} {e : Expr} {rest : List Expr} (h1 : starEach (e :: rest) env = (false, eval e env) :: starEach rest env) (h2 : (backTo pos (starEach rest env)).any (·.1) = false)
    (x : Tv X A (eval e env) ow (fun d o => Tl X A (spliced (backTo pos (starEach rest env))) o (fun ds o => TL X A (fun vs => call (.type T) vs) (d :: ds) o P))) :
    T1 X A (fun g => callWith pos g [] (backTo pos (starEach (e :: rest) env)) []) (.raw (.type T)) ow P := fun dt fr h v S hm s hs => by
  cases raw_is S hm
  have main := it_cons (PL := fun ds o => TL X A (fun vs => call (.type T) vs) ds o P) h1 x dt fr h S s hs
  refine callWith_type1 (he := h1) (hplain := h2) (wpAny_mono main (fun vs s₁ y => ?_) fun _ _ e => e)
  obtain ⟨k, ds, o, S', hl, p⟩ := y
  exact Rn.go (p _ fr _ vs S' (DA.zip hl fun p hp => List.mem_append_left _ hp)) k fun v s' k' q => ⟨k', q.sub fun p hp => List.mem_append_right _ hp⟩
end
section
variable {X : Cx} {A : Around} {ow ow' : OW} {P : D → OW → Prop} {pos : Pos} {qn : Str} {sc csc : Scope} {L f C : Addr} {cd : Value} {cl ccl : List (Str × Addr)}
theorem gnCODE (X : Cx) : GN X "CODE" (.int 0 229) := gn_g (by kernel_rfl)
theorem gnSTRING (X : Cx) : GN X "STRING" (.int 1 231) := gn_g (by kernel_rfl)
theorem gnCOMMENT (X : Cx) : GN X "COMMENT" (.int 2 233) := gn_g (by kernel_rfl)
theorem gnNEVER (X : Cx) : GN X "NEVER" (.int 0 444) := gn_g (by kernel_rfl)
theorem gnALWAYS (X : Cx) : GN X "ALWAYS" (.int 1 446) := gn_g (by kernel_rfl)
theorem gnSigns (X : Cx) : GN X "Signs" (.ref 58) := gn_g (by kernel_rfl)
theorem gnstandsat (X : Cx) : GN X "stands_at" (.ref 69) := gn_g (by kernel_rfl)
theorem gnislinecomment (X : Cx) : GN X "is_line_comment" (.ref 76) := gn_g (by kernel_rfl)
theorem gnScan (X : Cx) : GN X "Scan" (.ref 135) := gn_g (by kernel_rfl)
theorem gnscanned (X : Cx) : GN X "scanned" (.ref 146) := gn_g (by kernel_rfl)
theorem gnLineStates (X : Cx) : GN X "LineStates" (.ref 177) := gn_g (by kernel_rfl)
theorem gnpainted (X : Cx) : GN X "painted" (.ref 186) := gn_g (by kernel_rfl)
theorem gnmarkrule (X : Cx) : GN X "mark_rule" (.ref 200) := gn_g (by kernel_rfl)
theorem gnlinefaces (X : Cx) : GN X "line_faces" (.ref 205) := gn_g (by kernel_rfl)
theorem gnFontLock (X : Cx) : GN X "FontLock" (.ref 246) := gn_g (by kernel_rfl)
theorem gnlawdraw (X : Cx) : GN X "_law_draw" (.ref 257) := gn_g (by kernel_rfl)
theorem gnlawline (X : Cx) : GN X "_law_line" (.ref 262) := gn_g (by kernel_rfl)
theorem gnlawwalked (X : Cx) : GN X "_law_walked" (.ref 269) := gn_g (by kernel_rfl)
theorem gnlawbegins (X : Cx) : GN X "_law_begins" (.ref 276) := gn_g (by kernel_rfl)
theorem gnlawasked (X : Cx) : GN X "_law_asked" (.ref 281) := gn_g (by kernel_rfl)
theorem gnlawchanged (X : Cx) : GN X "_law_changed" (.ref 286) := gn_g (by kernel_rfl)
theorem gnlen (X : Cx) : GN X "len" (.builtin "len") := gn_b (by kernel_rfl) (by decide +kernel) (by decide +kernel)
theorem gnabs (X : Cx) : GN X "abs" (.builtin "abs") := gn_b (by kernel_rfl) (by decide +kernel) (by decide +kernel)
theorem gnmax (X : Cx) : GN X "max" (.builtin "max") := gn_b (by kernel_rfl) (by decide +kernel) (by decide +kernel)
theorem gnmin (X : Cx) : GN X "min" (.builtin "min") := gn_b (by kernel_rfl) (by decide +kernel) (by decide +kernel)
theorem gnrange (X : Cx) : GN X "range" (.type "range") := gn_b (by kernel_rfl) (by decide +kernel) (by decide +kernel)
theorem gnenumerate (X : Cx) : GN X "enumerate" (.type "enumerate") := gn_b (by kernel_rfl) (by decide +kernel) (by decide +kernel)
theorem gCODE (hk : isGlo (envX qn sc L f cd cl) "CODE" = true) (p : P (.int 0) ow) : Tv X A (eval (.Name "CODE" pos) (envX qn sc L f cd cl)) ow P := n_glo hk (gnCODE X) (by exact rfl) p
theorem gSTRING (hk : isGlo (envX qn sc L f cd cl) "STRING" = true) (p : P (.int 1) ow) : Tv X A (eval (.Name "STRING" pos) (envX qn sc L f cd cl)) ow P := n_glo hk (gnSTRING X) (by exact rfl) p
theorem gCOMMENT (hk : isGlo (envX qn sc L f cd cl) "COMMENT" = true) (p : P (.int 2) ow) : Tv X A (eval (.Name "COMMENT" pos) (envX qn sc L f cd cl)) ow P := n_glo hk (gnCOMMENT X) (by exact rfl) p
theorem gNEVER (hk : isGlo (envX qn sc L f cd cl) "NEVER" = true) (p : P (.int 0) ow) : Tv X A (eval (.Name "NEVER" pos) (envX qn sc L f cd cl)) ow P := n_glo hk (gnNEVER X) (by exact rfl) p
theorem gALWAYS (hk : isGlo (envX qn sc L f cd cl) "ALWAYS" = true) (p : P (.int 1) ow) : Tv X A (eval (.Name "ALWAYS" pos) (envX qn sc L f cd cl)) ow P := n_glo hk (gnALWAYS X) (by exact rfl) p
theorem gSigns (hk : isGlo (envX qn sc L f cd cl) "Signs" = true) (p : P (.raw (.ref 58)) ow) : Tv X A (eval (.Name "Signs" pos) (envX qn sc L f cd cl)) ow P := n_glo hk (gnSigns X) (by exact rfl) p
theorem gstandsat (hk : isGlo (envX qn sc L f cd cl) "stands_at" = true) (p : P (.raw (.ref 69)) ow) : Tv X A (eval (.Name "stands_at" pos) (envX qn sc L f cd cl)) ow P := n_glo hk (gnstandsat X) (by exact rfl) p
theorem gislinecomment (hk : isGlo (envX qn sc L f cd cl) "is_line_comment" = true) (p : P (.raw (.ref 76)) ow) : Tv X A (eval (.Name "is_line_comment" pos) (envX qn sc L f cd cl)) ow P := n_glo hk (gnislinecomment X) (by exact rfl) p
theorem gScan (hk : isGlo (envX qn sc L f cd cl) "Scan" = true) (p : P (.raw (.ref 135)) ow) : Tv X A (eval (.Name "Scan" pos) (envX qn sc L f cd cl)) ow P := n_glo hk (gnScan X) (by exact rfl) p
theorem gscanned (hk : isGlo (envX qn sc L f cd cl) "scanned" = true) (p : P (.raw (.ref 146)) ow) : Tv X A (eval (.Name "scanned" pos) (envX qn sc L f cd cl)) ow P := n_glo hk (gnscanned X) (by exact rfl) p
theorem gLineStates (hk : isGlo (envX qn sc L f cd cl) "LineStates" = true) (p : P (.raw (.ref 177)) ow) : Tv X A (eval (.Name "LineStates" pos) (envX qn sc L f cd cl)) ow P := n_glo hk (gnLineStates X) (by exact rfl) p
theorem gpainted (hk : isGlo (envX qn sc L f cd cl) "painted" = true) (p : P (.raw (.ref 186)) ow) : Tv X A (eval (.Name "painted" pos) (envX qn sc L f cd cl)) ow P := n_glo hk (gnpainted X) (by exact rfl) p
theorem gmarkrule (hk : isGlo (envX qn sc L f cd cl) "mark_rule" = true) (p : P (.raw (.ref 200)) ow) : Tv X A (eval (.Name "mark_rule" pos) (envX qn sc L f cd cl)) ow P := n_glo hk (gnmarkrule X) (by exact rfl) p
theorem glinefaces (hk : isGlo (envX qn sc L f cd cl) "line_faces" = true) (p : P (.raw (.ref 205)) ow) : Tv X A (eval (.Name "line_faces" pos) (envX qn sc L f cd cl)) ow P := n_glo hk (gnlinefaces X) (by exact rfl) p
theorem gFontLock (hk : isGlo (envX qn sc L f cd cl) "FontLock" = true) (p : P (.raw (.ref 246)) ow) : Tv X A (eval (.Name "FontLock" pos) (envX qn sc L f cd cl)) ow P := n_glo hk (gnFontLock X) (by exact rfl) p
theorem glawdraw (hk : isGlo (envX qn sc L f cd cl) "_law_draw" = true) (p : P (.raw (.ref 257)) ow) : Tv X A (eval (.Name "_law_draw" pos) (envX qn sc L f cd cl)) ow P := n_glo hk (gnlawdraw X) (by exact rfl) p
theorem glawline (hk : isGlo (envX qn sc L f cd cl) "_law_line" = true) (p : P (.raw (.ref 262)) ow) : Tv X A (eval (.Name "_law_line" pos) (envX qn sc L f cd cl)) ow P := n_glo hk (gnlawline X) (by exact rfl) p
theorem glawwalked (hk : isGlo (envX qn sc L f cd cl) "_law_walked" = true) (p : P (.raw (.ref 269)) ow) : Tv X A (eval (.Name "_law_walked" pos) (envX qn sc L f cd cl)) ow P := n_glo hk (gnlawwalked X) (by exact rfl) p
theorem glawbegins (hk : isGlo (envX qn sc L f cd cl) "_law_begins" = true) (p : P (.raw (.ref 276)) ow) : Tv X A (eval (.Name "_law_begins" pos) (envX qn sc L f cd cl)) ow P := n_glo hk (gnlawbegins X) (by exact rfl) p
theorem glawasked (hk : isGlo (envX qn sc L f cd cl) "_law_asked" = true) (p : P (.raw (.ref 281)) ow) : Tv X A (eval (.Name "_law_asked" pos) (envX qn sc L f cd cl)) ow P := n_glo hk (gnlawasked X) (by exact rfl) p
theorem glawchanged (hk : isGlo (envX qn sc L f cd cl) "_law_changed" = true) (p : P (.raw (.ref 286)) ow) : Tv X A (eval (.Name "_law_changed" pos) (envX qn sc L f cd cl)) ow P := n_glo hk (gnlawchanged X) (by exact rfl) p
theorem glen (hk : isGlo (envX qn sc L f cd cl) "len" = true) (p : P (.raw (.builtin "len")) ow) : Tv X A (eval (.Name "len" pos) (envX qn sc L f cd cl)) ow P := n_glo hk (gnlen X) (by exact rfl) p
theorem gabs (hk : isGlo (envX qn sc L f cd cl) "abs" = true) (p : P (.raw (.builtin "abs")) ow) : Tv X A (eval (.Name "abs" pos) (envX qn sc L f cd cl)) ow P := n_glo hk (gnabs X) (by exact rfl) p
theorem gmax (hk : isGlo (envX qn sc L f cd cl) "max" = true) (p : P (.raw (.builtin "max")) ow) : Tv X A (eval (.Name "max" pos) (envX qn sc L f cd cl)) ow P := n_glo hk (gnmax X) (by exact rfl) p
theorem gmin (hk : isGlo (envX qn sc L f cd cl) "min" = true) (p : P (.raw (.builtin "min")) ow) : Tv X A (eval (.Name "min" pos) (envX qn sc L f cd cl)) ow P := n_glo hk (gnmin X) (by exact rfl) p
theorem grange (hk : isGlo (envX qn sc L f cd cl) "range" = true) (p : P (.raw (.type "range")) ow) : Tv X A (eval (.Name "range" pos) (envX qn sc L f cd cl)) ow P := n_glo hk (gnrange X) (by exact rfl) p
theorem genumerate (hk : isGlo (envX qn sc L f cd cl) "enumerate" = true) (p : P (.raw (.type "enumerate")) ow) : Tv X A (eval (.Name "enumerate" pos) (envX qn sc L f cd cl)) ow P := n_glo hk (gnenumerate X) (by exact rfl) p
theorem cabs (hk : isGlo (compEnvC csc ccl C (envX qn sc L f cd cl)) "abs" = true) (p : P (.raw (.builtin "abs")) ow) : Tv X A (eval (.Name "abs" pos) (compEnvC csc ccl C (envX qn sc L f cd cl))) ow P := c_glo hk (gnabs X) (by exact rfl) p
theorem clawline (hk : isGlo (compEnvC csc ccl C (envX qn sc L f cd cl)) "_law_line" = true) (p : P (.raw (.ref 262)) ow) : Tv X A (eval (.Name "_law_line" pos) (compEnvC csc ccl C (envX qn sc L f cd cl))) ow P := c_glo hk (gnlawline X) (by exact rfl) p
theorem clawdraw (hk : isGlo (compEnvC csc ccl C (envX qn sc L f cd cl)) "_law_draw" = true) (p : P (.raw (.ref 257)) ow) : Tv X A (eval (.Name "_law_draw" pos) (compEnvC csc ccl C (envX qn sc L f cd cl))) ow P := c_glo hk (gnlawdraw X) (by exact rfl) p
theorem clawasked (hk : isGlo (compEnvC csc ccl C (envX qn sc L f cd cl)) "_law_asked" = true) (p : P (.raw (.ref 281)) ow) : Tv X A (eval (.Name "_law_asked" pos) (compEnvC csc ccl C (envX qn sc L f cd cl))) ow P := c_glo hk (gnlawasked X) (by exact rfl) p

end
section
variable {X : Cx} {A : Around} {env : Env} {ow ow' : OW} {P : D → OW → Prop} {PF : Fl → OW → Prop} {PI : OW → Prop} {IN : Nat → OW → Prop} {n : Nat} {d : D} {rest : List Stmt}
theorem pa_none {P : Option Int → OW → Prop} (x : P none ow) : PA X A env none ow P := x
theorem pa_some {P : Option Int → OW → Prop} {e : Expr} (x : Tv X A (eval e env) ow (fun d o => ∃ i, d = .int i ∧ P (some i) o)) : PA X A env (some e) ow P := x
theorem th_ret (x : PF (.ret d) ow) : Then X A env rest PF (.ret d) ow := x
theorem th_brk (x : PF .brk ow) : Then X A env rest PF .brk ow := x
theorem th_cont (x : PF .cont ow) : Then X A env rest PF .cont ow := x
theorem th_next (x : Tf X A (execs rest env) ow PF) : Then X A env rest PF .next ow := x
theorem lp_next (x : PI ow) : LP PI PF .next ow := x
theorem lp_cont (x : PI ow) : LP PI PF .cont ow := x
theorem lp_brk (x : PF .next ow) : LP PI PF .brk ow := x
theorem lp_ret (x : PF (.ret d) ow) : LP PI PF (.ret d) ow := x
theorem wp_next (x : ∃ m, m < n ∧ IN m ow) : WP IN n PF .next ow := x
theorem wp_cont (x : ∃ m, m < n ∧ IN m ow) : WP IN n PF .cont ow := x
theorem wp_brk (x : PF .next ow) : WP IN n PF .brk ow := x
theorem wp_ret (x : PF (.ret d) ow) : WP IN n PF (.ret d) ow := x
theorem rt_ret (s : Sel ow' ow) (x : P d ow') : RetTo P (.ret d) ow := ⟨_, s, x⟩
theorem rt_next (s : Sel ow' ow) (x : P .none ow') : RetTo P .next ow := ⟨_, s, x⟩
/-- what is handed back is frozen on the way -/
theorem gh_fz {t : Sem Value} (x : Tv X A t ow (fun d o => ∃ a ds o', d = .own a ∧ Ex a (.list ds) o o' ∧ P (.lst ds) o')) : Tv X A t ow P := fun dt fr h S => (x dt fr h S).mono fun _ _ y => y.freezeQ
end
section
variable {X : Cx} {A : Around} {env : Env} {ow ow' : OW} {P : D → OW → Prop} {PF : Fl → OW → Prop} {pos : Pos} {d : D} {ds : List D}
theorem st_forL {y : Str} {py : Pos} {iter : Expr} {body : List Stmt} (hh : A.handled = none) (hf : ∀ x, foldedSetIterable iter env x = pure x) (ds : List D) (Inv : Nat → OW → Prop)
    (x : Tv X A (eval iter env) ow (fun d o => d = .lst ds ∧ Inv 0 o)) (turn : ∀ i o e, ds[i]? = some e → Inv i o → U1 X A (storeName env y) e o (fun o => Tf X A (execs body env) o (LP (Inv (i + 1)) PF))) (fin : ∀ ow, Inv ds.length ow → PF .next ow) :
    Tf X A (exec (.For (.Name y py) iter body [] pos) env) ow PF := by
  refine st_for hf (.inl ⟨_, _, rfl⟩) Inv (x.mono fun d o h => ⟨by rw [h.1]; exact itr_list hh, h.2⟩) (fun i o hi hI => as_name ?_) fin
  refine turn i o _ ?_ hI
  rw [List.getElem?_eq_getElem hi, List.getD_eq_getElem?_getD, List.getElem?_eq_getElem hi]; rfl
theorem st_forR {y : Str} {py : Pos} {iter : Expr} {body : List Stmt} (hh : A.handled = none) (hf : ∀ x, foldedSetIterable iter env x = pure x) (a n : Nat) (ha : a < 2 ^ 62) (hn : n < 2 ^ 62) (Inv : Nat → OW → Prop)
    (x : Tv X A (eval iter env) ow (fun d o => d = .rng a n ∧ Inv 0 o)) (turn : ∀ i o, a + i < n → Inv i o → U1 X A (storeName env y) (.int ((a + i : Nat) : Int)) o (fun o => Tf X A (execs body env) o (LP (Inv (i + 1)) PF))) (fin : ∀ ow, Inv (n - a) ow → PF .next ow) :
    Tf X A (exec (.For (.Name y py) iter body [] pos) env) ow PF := by
  have e : (((n : Nat) : Int) - ((a : Nat) : Int)).toNat = n - a := by omega
  refine st_for (n := n - a) (item := fun i => .int ((a : Int) + (i : Int))) hf (.inl ⟨_, _, rfl⟩) Inv (x.mono fun d o h => ⟨by rw [h.1, ← e]; exact itr_rng hh (by omega) (by omega) (by omega) (by omega), h.2⟩) (fun i o hi hI => as_name ?_) fin
  have := turn i o (by omega) hI
  rw [Int.natCast_add] at this
  exact this
/-- unpacking three names from tuples in a list -/
theorem st_forT {es : List Expr} {k : Nat} {py : Pos} {iter : Expr} {body : List Stmt} (hh : A.handled = none) (hf : ∀ x, foldedSetIterable iter env x = pure x) (dss : List (List D)) (Inv : Nat → OW → Prop)
    (x : Tv X A (eval iter env) ow (fun d o => d = .lst (dss.map .tup) ∧ Inv 0 o)) (turn : ∀ i o e, dss[i]? = some e → Inv i o → U1 X A (assign (.Tuple es k py) env) (.tup e) o (fun o => Tf X A (execs body env) o (LP (Inv (i + 1)) PF))) (fin : ∀ ow, Inv dss.length ow → PF .next ow) :
    Tf X A (exec (.For (.Tuple es k py) iter body [] pos) env) ow PF := by
  have hl : (dss.map D.tup).length = dss.length := List.length_map _
  refine st_for (n := dss.length) (item := fun i => (dss.map D.tup).getD i .none) hf (.inr ⟨⟨_, _, _, rfl⟩, fun i => ?_⟩) Inv (x.mono fun d o h => ⟨by rw [h.1, ← hl]; exact itr_list hh, h.2⟩) (fun i o hi hI => ?_) fin
  · by_cases h : i < dss.length
    · refine ⟨dss[i], .inl ?_⟩
      simp [List.getD_eq_getElem?_getD, List.getElem?_eq_getElem h]
    · exact ⟨[], .inr (by omega)⟩
  · have e : (dss.map D.tup).getD i .none = .tup dss[i] := by simp [List.getD_eq_getElem?_getD, List.getElem?_eq_getElem hi]
    rw [e]
    exact turn i o _ (List.getElem?_eq_getElem hi) hI
end
section
variable {X : Cx} {A : Around} {env : Env} {ow : OW} {P : D → OW → Prop} {pos : Pos} {pl : Sem Bool} {args : List Expr} {dx : Addr} {fs : List (Str × D)}
theorem arS {n : Nat} {vs : List Value} (h : vs.length = n + 1) : ∃ a r, vs = a :: r ∧ r.length = n := by
  cases vs with
  | nil => cases h
  | cons a r => exact ⟨a, r, rfl, Nat.succ.inj h⟩
theorem ar1 {vs : List Value} (h : vs.length = 1) : ∃ a, vs = [a] := by
  obtain ⟨a, r, rfl, k⟩ := arS h
  cases r with
  | nil => exact ⟨a, rfl⟩
  | cons _ _ => cases k
theorem ar2 {vs : List Value} (h : vs.length = 2) : ∃ a b, vs = [a, b] := by
  obtain ⟨a, r, rfl, k⟩ := arS h
  obtain ⟨b, rfl⟩ := ar1 k
  exact ⟨a, b, rfl⟩
theorem ar3 {vs : List Value} (h : vs.length = 3) : ∃ a b c, vs = [a, b, c] := by
  obtain ⟨a, r, rfl, k⟩ := arS h
  obtain ⟨b, c, rfl⟩ := ar2 k
  exact ⟨a, b, c, rfl⟩
theorem ar4 {vs : List Value} (h : vs.length = 4) : ∃ a b c d, vs = [a, b, c, d] := by
  obtain ⟨a, r, rfl, k⟩ := arS h
  obtain ⟨b, c, d, rfl⟩ := ar3 k
  exact ⟨a, b, c, d, rfl⟩
theorem ar5 {vs : List Value} (h : vs.length = 5) : ∃ a b c d e, vs = [a, b, c, d, e] := by
  obtain ⟨a, r, rfl, k⟩ := arS h
  obtain ⟨b, c, d, e, rfl⟩ := ar4 k
  exact ⟨a, b, c, d, e, rfl⟩
theorem ar6 {vs : List Value} (h : vs.length = 6) : ∃ a b c d e f, vs = [a, b, c, d, e, f] := by
  obtain ⟨a, r, rfl, k⟩ := arS h
  obtain ⟨b, c, d, e, f, rfl⟩ := ar5 k
  exact ⟨a, b, c, d, e, f, rfl⟩
theorem ar7 {vs : List Value} (h : vs.length = 7) : ∃ a b c d e f g, vs = [a, b, c, d, e, f, g] := by
  obtain ⟨a, r, rfl, k⟩ := arS h
  obtain ⟨b, c, d, e, f, g, rfl⟩ := ar6 k
  exact ⟨a, b, c, d, e, f, g, rfl⟩
theorem mt_append {a : Addr} {ds : List D} (m : (a, Res.list ds) ∈ ow) (p : TA X A pos env args ow (fun ds o => TL X A (fun vs => call (.builtin "list.append") vs) (.own a :: ds) o P)) : MC X A "append" pl pos env args (.own a) ow P := mc_list PySem.F.slot_list_append PySem.F.type_list_append m p
theorem mt_pop {a : Addr} {ds : List D} (m : (a, Res.list ds) ∈ ow) (p : TA X A pos env args ow (fun ds o => TL X A (fun vs => call (.builtin "list.pop") vs) (.own a :: ds) o P)) : MC X A "pop" pl pos env args (.own a) ow P := mc_list PySem.F.slot_list_pop PySem.F.type_list_pop m p
theorem mt_leave (m : (dx, Res.ns fs) ∈ ow) (k : Nk fs "leave") (p : TA X A pos env args ow (fun ds o => TL X A (fun vs => call (.ref 97) vs) (.obj 135 dx :: ds) o P)) : MC X A "leave" pl pos env args (.obj 135 dx) ow P := mc_obj (by kernel_rfl) (by kernel_rfl) m k p
theorem mt_enter (m : (dx, Res.ns fs) ∈ ow) (k : Nk fs "enter") (p : TA X A pos env args ow (fun ds o => TL X A (fun vs => call (.ref 104) vs) (.obj 135 dx :: ds) o P)) : MC X A "enter" pl pos env args (.obj 135 dx) ow P := mc_obj (by kernel_rfl) (by kernel_rfl) m k p
theorem mt_incode (m : (dx, Res.ns fs) ∈ ow) (k : Nk fs "in_code") (p : TA X A pos env args ow (fun ds o => TL X A (fun vs => call (.ref 111) vs) (.obj 135 dx :: ds) o P)) : MC X A "in_code" pl pos env args (.obj 135 dx) ow P := mc_obj (by kernel_rfl) (by kernel_rfl) m k p
theorem mt_instring (m : (dx, Res.ns fs) ∈ ow) (k : Nk fs "in_string") (p : TA X A pos env args ow (fun ds o => TL X A (fun vs => call (.ref 118) vs) (.obj 135 dx :: ds) o P)) : MC X A "in_string" pl pos env args (.obj 135 dx) ow P := mc_obj (by kernel_rfl) (by kernel_rfl) m k p
theorem mt_incomment (m : (dx, Res.ns fs) ∈ ow) (k : Nk fs "in_comment") (p : TA X A pos env args ow (fun ds o => TL X A (fun vs => call (.ref 125) vs) (.obj 135 dx :: ds) o P)) : MC X A "in_comment" pl pos env args (.obj 135 dx) ow P := mc_obj (by kernel_rfl) (by kernel_rfl) m k p
theorem mt_go (m : (dx, Res.ns fs) ∈ ow) (k : Nk fs "go") (p : TA X A pos env args ow (fun ds o => TL X A (fun vs => call (.ref 132) vs) (.obj 135 dx :: ds) o P)) : MC X A "go" pl pos env args (.obj 135 dx) ow P := mc_obj (by kernel_rfl) (by kernel_rfl) m k p
theorem mt_beginof (m : (dx, Res.ns fs) ∈ ow) (k : Nk fs "begin_of") (p : TA X A pos env args ow (fun ds o => TL X A (fun vs => call (.ref 174) vs) (.obj 177 dx :: ds) o P)) : MC X A "begin_of" pl pos env args (.obj 177 dx) ow P := mc_obj (by kernel_rfl) (by kernel_rfl) m k p
theorem mt_look (m : (dx, Res.ns fs) ∈ ow) (k : Nk fs "look") (p : TA X A pos env args ow (fun ds o => TL X A (fun vs => call (.ref 224) vs) (.obj 246 dx :: ds) o P)) : MC X A "look" pl pos env args (.obj 246 dx) ow P := mc_obj (by kernel_rfl) (by kernel_rfl) m k p
theorem mt_dirty (m : (dx, Res.ns fs) ∈ ow) (k : Nk fs "dirty") (p : TA X A pos env args ow (fun ds o => TL X A (fun vs => call (.ref 243) vs) (.obj 246 dx :: ds) o P)) : MC X A "dirty" pl pos env args (.obj 246 dx) ow P := mc_obj (by kernel_rfl) (by kernel_rfl) m k p
theorem mt_changedL (m : (dx, Res.ns fs) ∈ ow) (k : Nk fs "changed") (p : TA X A pos env args ow (fun ds o => TL X A (fun vs => call (.ref 167) vs) (.obj 177 dx :: ds) o P)) : MC X A "changed" pl pos env args (.obj 177 dx) ow P := mc_obj (by kernel_rfl) (by kernel_rfl) m k p
theorem mt_changedF (m : (dx, Res.ns fs) ∈ ow) (k : Nk fs "changed") (p : TA X A pos env args ow (fun ds o => TL X A (fun vs => call (.ref 238) vs) (.obj 246 dx :: ds) o P)) : MC X A "changed" pl pos env args (.obj 246 dx) ow P := mc_obj (by kernel_rfl) (by kernel_rfl) m k p
end
theorem bt {p q : Prop} (h : p) : bif true then p else q := h
theorem bf {p q : Prop} (h : q) : bif false then p else q := h
section
variable {X : Cx} {A : Around} {env : Env} {ow ow' : OW} {P : D → OW → Prop} {PF : Fl → OW → Prop} {pos : Pos} {d : D} {ds : List D}
theorem U1.mono {t : Value → Sem Unit} {PU PU' : OW → Prop} (x : U1 X A t d ow PU) (k : ∀ o, PU o → PU' o) : U1 X A t d ow PU' := fun dt fr h a S m => (x dt fr h a S m).mono fun _ _ y => y.mono k
theorem ex_swap2 {elts : List Expr} {k : Nat} {tp : Pos} {e : Expr} {n1 n2 : Str} (hh : A.handled = none) (h1 : swapsWithSole [.Tuple elts k tp] e pos.line env = pure false) (h2 : swappedStores [.Tuple elts k tp] e env = pure (some [n1, n2]))
    (x : Tv X A (eval e env) ow (fun d o => ∃ d1 d2, d = .tup [d1, d2] ∧ U1 X A (storeName env n2) d2 o (fun o => U1 X A (storeName env n1) d1 o (PF .next)))) : Tf X A (exec (.Assign [.Tuple elts k tp] e pos) env) ow PF :=
  ex_swap hh h1 h2 rfl (x.mono fun d o ⟨d1, d2, e, x⟩ => ⟨_, e, rfl, ao_cons (bn _ _ (x.mono fun o x => ao_cons (bn _ _ (x.mono fun o x => ao_nil x))))⟩)
theorem ex_swap3 {elts : List Expr} {k : Nat} {tp : Pos} {e : Expr} {n1 n2 n3 : Str} (hh : A.handled = none) (h1 : swapsWithSole [.Tuple elts k tp] e pos.line env = pure false) (h2 : swappedStores [.Tuple elts k tp] e env = pure (some [n1, n2, n3]))
    (x : Tv X A (eval e env) ow (fun d o => ∃ d1 d2 d3, d = .tup [d1, d2, d3] ∧ U1 X A (storeName env n3) d3 o (fun o => U1 X A (storeName env n2) d2 o (fun o => U1 X A (storeName env n1) d1 o (PF .next))))) : Tf X A (exec (.Assign [.Tuple elts k tp] e pos) env) ow PF :=
  ex_swap hh h1 h2 rfl (x.mono fun d o ⟨d1, d2, d3, e, x⟩ => ⟨_, e, rfl, ao_cons (bn _ _ (x.mono fun o x => ao_cons (bn _ _ (x.mono fun o x => ao_cons (bn _ _ (x.mono fun o x => ao_nil x))))))⟩)
theorem ex_swap4 {elts : List Expr} {k : Nat} {tp : Pos} {e : Expr} {n1 n2 n3 n4 : Str} (hh : A.handled = none) (h1 : swapsWithSole [.Tuple elts k tp] e pos.line env = pure false) (h2 : swappedStores [.Tuple elts k tp] e env = pure (some [n1, n2, n3, n4]))
    (x : Tv X A (eval e env) ow (fun d o => ∃ d1 d2 d3 d4, d = .tup [d1, d2, d3, d4] ∧ U1 X A (storeName env n4) d4 o (fun o => U1 X A (storeName env n3) d3 o (fun o => U1 X A (storeName env n2) d2 o (fun o => U1 X A (storeName env n1) d1 o (PF .next)))))) : Tf X A (exec (.Assign [.Tuple elts k tp] e pos) env) ow PF :=
  ex_swap hh h1 h2 rfl (x.mono fun d o ⟨d1, d2, d3, d4, e, x⟩ => ⟨_, e, rfl, ao_cons (bn _ _ (x.mono fun o x => ao_cons (bn _ _ (x.mono fun o x => ao_cons (bn _ _ (x.mono fun o x => ao_cons (bn _ _ (x.mono fun o x => ao_nil x))))))))⟩)
theorem dx_int {i : Int} {Q : Int → Prop} (x : Q i) : ∃ j, D.int i = .int j ∧ Q j := ⟨i, rfl, x⟩
theorem dx_str {i : Str} {Q : Str → Prop} (x : Q i) : ∃ j, D.str i = .str j ∧ Q j := ⟨i, rfl, x⟩
theorem dx_t2 {a b : D} {Q : D → D → Prop} (x : Q a b) : ∃ d1 d2, D.tup [a, b] = .tup [d1, d2] ∧ Q d1 d2 := ⟨_, _, rfl, x⟩
theorem dx_t3 {a b c : D} {Q : D → D → D → Prop} (x : Q a b c) : ∃ d1 d2 d3, D.tup [a, b, c] = .tup [d1, d2, d3] ∧ Q d1 d2 d3 := ⟨_, _, _, rfl, x⟩
theorem dx_t4 {a b c d : D} {Q : D → D → D → D → Prop} (x : Q a b c d) : ∃ d1 d2 d3 d4, D.tup [a, b, c, d] = .tup [d1, d2, d3, d4] ∧ Q d1 d2 d3 d4 := ⟨_, _, _, _, rfl, x⟩
end
theorem Ex.zz {a a' : Addr} {r r' : Res} {l : OW} (h : a = a') (k : r = r') : Ex a r ((a', r') :: l) l := by subst h; subst k; exact .z
inductive FzL (a : Addr) (ls : List D) : List D → List D → Prop
  | nil : FzL a ls [] []
  | keep {d : D} {ds ds' : List D} : FzL a ls ds ds' → FzL a ls (d :: ds) (d :: ds')
  | own {ds ds' : List D} : FzL a ls ds ds' → FzL a ls (.own a :: ds) (.lst ls :: ds')
theorem tl_fz {X : Cx} {A : Around} {P : D → OW → Prop} {t : List Value → Sem Value} {a : Addr} {ls ds ds' : List D} {ow o' : OW} (e : Ex a (.list ls) ow o') (k : FzL a ls ds ds') (x : TL X A t ds' o' P) : TL X A t ds ow P := fun dt fr h vs S da => by
  obtain ⟨fz, S⟩ := S
  have own : ∀ {vs : List Value} {ds ds' : List D}, FzL a ls ds ds' → DA dt vs ds → DA ((.ref a, .lst ls) :: dt) vs ds' := fun {vs ds ds'} k => by
    induction k generalizing vs with
    | nil => intro d; cases d; exact .nil
    | keep _ ih => intro d; cases d with | cons m r => exact .cons (.tail _ m) (ih r)
    | own _ ih => intro d; cases d with | cons m r =>
        have := S.dat _ m
        cases this
        exact .cons (.head _) (ih r)
  obtain ⟨ob, ⟨us, n, rfl, va⟩, S'⟩ := S.freeze (e.app fr)
  exact (x _ fr h vs (S'.see (.lst (.head _) va)).st (own k da)).mono fun _ _ y => y.sub subT
section
variable {X : Cx} {A : Around} {ow l : OW}
theorem U1.selW {t : Value → Sem Unit} {d : D} {PU : OW → Prop} (s : Sel l ow) (x : U1 X A t d l PU) : U1 X A t d ow PU := fun dt fr h a S m => x dt fr h a (s.st S) m
theorem Tf.selW {t : Sem Flow} {P : Fl → OW → Prop} (s : Sel l ow) (x : Tf X A t l P) : Tf X A t ow P := fun dt fr h S => x dt fr h (s.st S)
theorem Tv.selW {t : Sem Value} {P : D → OW → Prop} (s : Sel l ow) (x : Tv X A t l P) : Tv X A t ow P := fun dt fr h S => x dt fr h (s.st S)
theorem Tb.selW {t : Sem Bool} {P : Bool → OW → Prop} (s : Sel l ow) (x : Tb X A t l P) : Tb X A t ow P := fun dt fr h S => x dt fr h (s.st S)
/-- a frame in which one name more may stand -/
noncomputable def Mb (fs base : List (Str × D)) (y : Str) : Prop := (∀ e, Pt fs y e (base ++ [(y, e)])) ∧ ∀ x d, Lk base x d → Lk fs x d
theorem lk_app {base l : List (Str × D)} {x : Str} {d : D} (h : Lk base x d) : Lk (base ++ l) x d := by
  induction h with
  | z => exact .z
  | s n _ ih => exact .s n ih
theorem pt_app {base : List (Str × D)} {y : Str} {e e' : D} (h : ∀ p ∈ base, (p.1 == y) = false) : Pt (base ++ [(y, e')]) y e (base ++ [(y, e)]) := by
  induction base with
  | nil => exact .z
  | cons p r ih => exact .s (h p (.head _)) (ih fun q hq => h q (.tail _ hq))
theorem pt_new {base : List (Str × D)} {y : Str} {e : D} (h : ∀ p ∈ base, (p.1 == y) = false) : Pt base y e (base ++ [(y, e)]) := by
  induction base with
  | nil => exact .n
  | cons p r ih => exact .s (h p (.head _)) (ih fun q hq => h q (.tail _ hq))
theorem Mb.no {base : List (Str × D)} {y : Str} (h : (base.all fun p => !(p.1 == y)) = true) : Mb base base y :=
  ⟨fun e => pt_new fun p hp => by simpa using List.all_eq_true.mp h p hp, fun _ _ h => h⟩
theorem Mb.yes {base : List (Str × D)} {y : Str} {e : D} (h : (base.all fun p => !(p.1 == y)) = true) : Mb (base ++ [(y, e)]) base y :=
  ⟨fun e => pt_app fun p hp => by simpa using List.all_eq_true.mp h p hp, fun _ _ h => lk_app h⟩
end
theorem Lk.mb {fs base : List (Str × D)} {y x : Str} {d : D} (h : Mb fs base y) (k : Lk base x d) : Lk fs x d := h.2 _ _ k
theorem pt_eq {base fs' : List (Str × D)} {y : Str} {e : D} (k : Pt base y e fs') (n : Nk base y) : fs' = base ++ [(y, e)] := by
  induction k with
  | n => rfl
  | z => cases n with | s h _ => simp at h
  | s _ _ ih => cases n with | s _ n => rw [ih n]; rfl
theorem Pt.mb {fs base fs' : List (Str × D)} {y : Str} {e : D} (h : Mb fs base y) (k : Pt base y e fs') (n : Nk base y) : Pt fs y e fs' := by
  rw [pt_eq k n]; exact h.1 e
section
variable {X : Cx} {A : Around} {env : Env} {ow : OW} {PU : OW → Prop}
theorem as_tup3 {x1 x2 x3 : Str} {p1 p2 p3 p : Pos} {k : Nat} {d1 d2 d3 : D} (hh : A.handled = none)
    (x : U1 X A (storeName env x1) d1 ow (fun o => U1 X A (storeName env x2) d2 o (fun o => U1 X A (storeName env x3) d3 o PU))) :
    U1 X A (assign (.Tuple [.Name x1 p1, .Name x2 p2, .Name x3 p3] k p) env) (.tup [d1, d2, d3]) ow PU :=
  as_tup (ts := [assign (.Name x1 p1) env, assign (.Name x2 p2) env, assign (.Name x3 p3) env]) hh (by with_unfolding_all rfl) (by with_unfolding_all rfl) (by with_unfolding_all rfl)
    (ao_cons (as_name (x.mono fun o x => ao_cons (as_name (x.mono fun o x => ao_cons (as_name (x.mono fun o x => ao_nil x)))))))
theorem as_tup2 {x1 x2 : Str} {p1 p2 p : Pos} {k : Nat} {d1 d2 : D} (hh : A.handled = none)
    (x : U1 X A (storeName env x1) d1 ow (fun o => U1 X A (storeName env x2) d2 o PU)) :
    U1 X A (assign (.Tuple [.Name x1 p1, .Name x2 p2] k p) env) (.tup [d1, d2]) ow PU :=
  as_tup (ts := [assign (.Name x1 p1) env, assign (.Name x2 p2) env]) hh (by with_unfolding_all rfl) (by with_unfolding_all rfl) (by with_unfolding_all rfl)
    (ao_cons (as_name (x.mono fun o x => ao_cons (as_name (x.mono fun o x => ao_nil x)))))
end
theorem Tv.selP {X : Cx} {A : Around} {t : Sem Value} {ow : OW} {P : D → OW → Prop} (x : Tv X A t ow (fun d o => ∃ l, Sel l o ∧ P d l)) : Tv X A t ow P := fun dt fr h S =>
  (x dt fr h S).mono fun v h' ⟨d, o, S, l, s, p⟩ => ⟨d, l, s.st S, p⟩
noncomputable def M3 (fs base : List (Str × D)) (x y z : Str) : Prop := (∀ e1 e2 e3, ∃ f1 f2, Pt fs x e1 f1 ∧ Pt f1 y e2 f2 ∧ Pt f2 z e3 (base ++ [(x, e1), (y, e2), (z, e3)])) ∧ ∀ n d, Lk base n d → Lk fs n d
theorem itr_rng0 {X : Cx} {A : Around} (hh : A.handled = none) {n : Nat} (hn : n < 2 ^ 62) : ItrOf X A (.rng 0 n) n (fun i => .int i) := by
  have := itr_rng (X := X) hh (a := 0) (b := n) (by omega) (by omega) (by omega) (by omega)
  simpa using this
section
variable {X : Cx} {A : Around} {env : Env} {ow ow' : OW} {PF : Fl → OW → Prop} {pos : Pos}
theorem SF.two {fz : Fz} {dt : DT} {a b : Addr} {r q : Res} {l : OW} {h h' : Heap} (S : SF X fz dt ((a, r) :: (b, q) :: l) h) (k : ∀ c o, c ≠ a → c ≠ b → h.get? c = some o → h'.get? c = some o) {oa ob : Obj} (ea : h'.get? a = some oa) (eb : h'.get? b = some ob) :
    SF X fz dt ((a, .raw (· = oa)) :: (b, .raw (· = ob)) :: l) h' := by
  have n := S.nd
  rw [List.pairwise_cons, List.pairwise_cons] at n
  obtain ⟨n1, n2, n3⟩ := n
  have offa : X.hb.get? a = none := S.off (a, r) (.head _)
  have offb : X.hb.get? b = none := S.off (b, q) (.tail _ (.head _))
  have sepa : ∀ p ∈ fz, a ≠ p.1 := S.sep (a, r) (.head _)
  have sepb : ∀ p ∈ fz, b ≠ p.1 := S.sep (b, q) (.tail _ (.head _))
  refine ⟨fun c o e => k c o (fun e' => by rw [e', offa] at e; cases e) (fun e' => by rw [e', offb] at e; cases e) (S.base c o e), fun p hp => k _ _ (sepa p hp).symm (sepb p hp).symm (S.frz p hp), fun p hp => ?_, fun p hp => ?_, fun p hp => ?_,
    List.pairwise_cons.mpr ⟨fun p hp => ?_, List.pairwise_cons.mpr ⟨n2, n3⟩⟩, S.dat⟩
  · rcases List.mem_cons.mp hp with rfl | hp
    · exact ⟨oa, ea, rfl⟩
    · rcases List.mem_cons.mp hp with rfl | hp
      · exact ⟨ob, eb, rfl⟩
      · obtain ⟨o', ho, hr'⟩ := S.own p (.tail _ (.tail _ hp))
        exact ⟨o', k _ _ (n1 p (.tail _ hp)).symm (n2 p hp).symm ho, hr'⟩
  · rcases List.mem_cons.mp hp with rfl | hp
    · exact offa
    · rcases List.mem_cons.mp hp with rfl | hp
      · exact offb
      · exact S.off p (.tail _ (.tail _ hp))
  · rcases List.mem_cons.mp hp with rfl | hp
    · exact sepa
    · rcases List.mem_cons.mp hp with rfl | hp
      · exact sepb
      · exact S.sep p (.tail _ (.tail _ hp))
  · rcases List.mem_cons.mp hp with rfl | hp
    · exact n1 (b, q) (.head _)
    · exact n1 p (.tail _ hp)
theorem SF.addFz {fz : Fz} {dt : DT} {h : Heap} {T : Addr} {o : Obj} (S : SF X fz dt ow h) (n : ∀ p ∈ ow, p.1 ≠ T) (e : h.get? T = some o) : SF X ((T, o) :: fz) dt ow h := by
  have hs : ∀ p ∈ fz, p ∈ (T, o) :: fz := fun p hp => .tail _ hp
  refine ⟨S.base, fun p hp => ?_, fun p hp => ?_, S.off, fun p hp q hq => ?_, S.nd, fun p hp => (S.dat p hp).mono hs⟩
  · rcases List.mem_cons.mp hp with rfl | hp
    · exact e
    · exact S.frz p hp
  · obtain ⟨o', ho, hr⟩ := S.own p hp
    exact ⟨o', ho, hr.mono hs⟩
  · rcases List.mem_cons.mp hq with rfl | hq
    · exact n p hp
    · exact S.sep p hp q hq
theorem SF.less2 {fz : Fz} {dt : DT} {a b : Addr} {r q : Res} {l : OW} {h h' : Heap} (S : SF X fz dt ((a, r) :: (b, q) :: l) h) (k : Heap.ExtBut b h h') : SF X fz dt l h' := by
  have n := S.nd
  rw [List.pairwise_cons, List.pairwise_cons] at n
  obtain ⟨n1, n2, n3⟩ := n
  have offb : X.hb.get? b = none := S.off (b, q) (.tail _ (.head _))
  have sepb : ∀ p ∈ fz, b ≠ p.1 := S.sep (b, q) (.tail _ (.head _))
  refine ⟨fun c o e => k c o (fun e' => by rw [e', offb] at e; cases e) (S.base c o e), fun p hp => k _ _ (sepb p hp).symm (S.frz p hp), fun p hp => ?_, fun p hp => S.off p (.tail _ (.tail _ hp)), fun p hp => S.sep p (.tail _ (.tail _ hp)), n3, S.dat⟩
  obtain ⟨o', ho, hr'⟩ := S.own p (.tail _ (.tail _ hp))
  exact ⟨o', k _ _ (n2 p hp).symm ho, hr'⟩
theorem lst_at {fz : Fz} {dt : DT} {h : Heap} {ax : Addr} {ds : List D} (S : SF X fz dt ow h) (m : (Value.ref ax, D.lst ds) ∈ dt) : ∃ us n, h.get? ax = some (listOf (List.toArray us) n) ∧ VA fz us ds := by
  cases S.dat _ m with
  | lst hm va => exact ⟨_, _, S.frz _ hm, va⟩
noncomputable abbrev enO (it : Addr) (i : Int) (old : Value) : Obj := { cls := .type "enumerate", dict := none, data := .fields #[.none, .bool false, .ref it, rawInt i, .none, old], slots := #[] }
theorem enum_core {x1 x2 : Str} {p1 p2 pt : Pos} {kk : Nat} {body : List Stmt} {dt dt' : DT} {fr : OW} {e it ax : Addr} {ds : List D} {oE oI : Obj} {fz : Fz} {s : Shared} (hh : A.handled = none)
    (hva : (Value.ref ax, D.lst ds) ∈ dt') (hsub : ∀ p ∈ dt, p ∈ dt') (hei : e ≠ it) (hE : ∃ old, IsEnum s.heap e it 0 old) (hIt : s.heap.IsListIter it ax 0) (hoE : s.heap.get? e = some oE) (hoI : s.heap.get? it = some oI)
    (S : SF X fz dt' ((e, .raw (· = oE)) :: (it, .raw (· = oI)) :: (ow ++ fr)) s.heap) (Inv : Nat → OW → Prop) (h0 : Inv 0 ow)
    (turn : ∀ i o d, ds[i]? = some d → Inv i o → U1 X A (assign (.Tuple [.Name x1 p1, .Name x2 p2] kk pt) env) (.tup [.int i, d]) o (fun o => Tf X A (execs body env) o (LP (Inv (i + 1)) PF))) (fin : ∀ o, Inv ds.length o → PF .next o) :
    codeAny X.M A (.forLoop (.Tuple [.Name x1 p1, .Name x2 p2] kk pt) (.ref e) body [] env) (fun r s' => match r with | .ok f => Kin s s' ∧ FQ X dt fr PF f s'.heap | .error _ => False) s := by
  refine codeAny_forLoop_any (fun k s' => ∃ i o oE oI fz, i ≤ ds.length ∧ k = ds.length + 1 - i ∧ Kin s s' ∧ Inv i o ∧ (∃ old, IsEnum s'.heap e it i old) ∧ s'.heap.IsListIter it ax i ∧ s'.heap.get? e = some oE ∧ s'.heap.get? it = some oI ∧ SF X fz dt' ((e, .raw (· = oE)) :: (it, .raw (· = oI)) :: (o ++ fr)) s'.heap) ?_ (ds.length + 1)
    ⟨0, ow, oE, oI, fz, Nat.zero_le _, rfl, .refl _, h0, hE, hIt, hoE, hoI, S⟩
  rintro k s' ⟨i, o, oE, oI, fz, hi, rfl, kin, hI, ⟨old, hE⟩, hIt, hoE, hoI, S⟩
  obtain ⟨us, nn, hax, va⟩ := lst_at S hva
  have hl := va.length
  have hL : s'.heap.IsList ax us.toArray := isList_of hax
  by_cases hlt : i < ds.length
  · obtain ⟨d, hd⟩ : ∃ d, ds[i]? = some d := ⟨_, List.getElem?_eq_getElem hlt⟩
    obtain ⟨v, hv, hvd⟩ := va.get hd
    refine wpAny_pyNext_enum_item hE hIt hL (x := v) (by rw [List.getElem?_toArray]; exact hv) hei fun h' ho hit' hT hsz hk => ?_
    obtain ⟨oI', hoI', hI1, hI2⟩ := hit'
    have S₁ := S.two hk ho hoI'
    have hnT : ∀ r1 r2 : Res, ∀ p ∈ ((e, r1) :: (it, r2) :: (o ++ fr)), p.1 ≠ s'.heap.objs.size := fun r1 r2 p hp q => by
      have hz : ∀ c ob, s'.heap.get? c = some ob → c ≠ s'.heap.objs.size := fun c ob e' => Nat.ne_of_lt (Heap.lt_size e')
      rcases List.mem_cons.mp hp with rfl | hp
      · exact hz _ _ hoE q
      · rcases List.mem_cons.mp hp with rfl | hp
        · exact hz _ _ hoI q
        · obtain ⟨ob, hob, _⟩ := S.own p (.tail _ (.tail _ hp))
          exact hz _ _ hob q
    have S₂ := S₁.addFz (hnT _ _) hT
    refine wpAny_letOwnedTupleGo_enum ho fun h'' he'' hs'' => ?_
    have S₃ := S₂.set (r' := .raw (· = enO it ((i : Int) + 1) v)) hs''.extBut he'' rfl
    have hoI'' : h''.get? it = some oI' := (hs''.2 it hei.symm).trans hoI'
    have hvt : VD ((s'.heap.objs.size, { cls := .type "tuple", data := .seq #[.int i s'.toks, v] }) :: fz) (.ref s'.heap.objs.size) (.tup [.int i, d]) :=
      .tup (vs := [.int i s'.toks, v]) (n := 0) (.head _) (.cons (.int _ _) (.cons (hvd.mono fun p hp => .tail _ hp) .nil))
    have pm : ∀ (o : OW) (p q : Addr × Res), (p :: q :: (o ++ fr)).Perm (o ++ p :: q :: fr) := fun o p q => ((perm_mid o q fr).cons p).trans (perm_mid o p (q :: fr))
    have S₄ := ((S₃.see hvt).perm (pm o _ _)).st
    refine Rn.go (s := { s' with heap := h'', toks := s'.toks + 1 }) (turn i o d hd hI _ _ _ _ S₄ (.head _)) (kin.trans ⟨_, rfl⟩) fun _ s₂ kin₂ q => ?_
    obtain ⟨o₂, S₅, q⟩ := q
    refine Rn.go (q _ _ _ S₅) kin₂ fun f s₃ kin₃ q => ?_
    have again : ∀ o₃, St X ((.ref s'.heap.objs.size, .tup [.int i, d]) :: dt') (o₃ ++ ((e, .raw (· = enO it ((i : Int) + 1) v)) :: (it, .raw (· = oI')) :: fr)) s₃.heap → Inv (i + 1) o₃ →
        ∃ m, m < ds.length + 1 - i ∧ ∃ i o oE oI fz, i ≤ ds.length ∧ m = ds.length + 1 - i ∧ Kin s s₃ ∧ Inv i o ∧ (∃ old, IsEnum s₃.heap e it i old) ∧ s₃.heap.IsListIter it ax i ∧ s₃.heap.get? e = some oE ∧ s₃.heap.get? it = some oI ∧ SF X fz dt' ((e, .raw (· = oE)) :: (it, .raw (· = oI)) :: (o ++ fr)) s₃.heap := by
      intro o₃ S₆ hI₃
      obtain ⟨fz₃, S₆⟩ := S₆
      have S₇ := (S₆.perm (pm o₃ _ _).symm).dts (dt' := dt') subT
      obtain ⟨oa, hoa, ea⟩ := S₇.own _ (.head _)
      obtain ⟨ob, hob, eb⟩ := S₇.own _ (.tail _ (.head _))
      dsimp only [Res.ok] at ea eb hoa hob
      subst ea eb
      exact ⟨ds.length + 1 - (i + 1), by omega, i + 1, o₃, _, _, fz₃, hlt, rfl, kin₃, hI₃, ⟨_, by rw [Int.natCast_add]; exact hoa⟩, ⟨_, hob, hI1, hI2⟩, hoa, hob, S₇⟩
    cases f with
    | next => obtain ⟨o₃, S₃, hI₃⟩ := q; exact again o₃ S₃ hI₃
    | cont => obtain ⟨o₃, S₃, hI₃⟩ := q; exact again o₃ S₃ hI₃
    | brk =>
      obtain ⟨o₃, S₃, p⟩ := q
      exact ⟨kin₃, o₃, ((S₃.perm (pm o₃ _ _).symm).sub (.cons _ (.cons _ (List.Sublist.refl _)))).dts (fun p hp => .tail _ (hsub p hp)), p⟩
    | ret u =>
      obtain ⟨d', o₃, S₃, p⟩ := q
      refine ⟨kin₃, d', o₃, ((S₃.perm (pm o₃ _ _).symm).sub (.cons _ (.cons _ (List.Sublist.refl _)))).dts (fun p hp => ?_), p⟩
      rcases List.mem_cons.mp hp with rfl | hp
      · exact .head _
      · exact .tail _ (.tail _ (hsub p hp))
  · obtain rfl : i = ds.length := by omega
    refine wpAny_pyNext_enum_end hh hE hIt hL (Array.getElem?_eq_none (by simp [hl])) fun h' hk => ?_
    exact wpAny_execs_nil ⟨kin.trans ⟨_, rfl⟩, o, ((S.less2 hk).dts hsub).st, fin o hI⟩
end
section
variable {X : Cx} {A : Around} {env : Env} {ow : OW} {PF : Fl → OW → Prop} {pos : Pos}
theorem st_enum {x1 x2 : Str} {p1 p2 pt pn pc : Pos} {kk : Nat} {a : Expr} {body : List Stmt} {ds : List D} (hh : A.handled = none) (hf : ∀ x, foldedSetIterable (.Call (.Name "enumerate" pn) [a] [] pc) env x = pure x)
    (he : eval (.Call (.Name "enumerate" pn) [a] [] pc) env = (do
          let g ← eval (.Name "enumerate" pn) env
          callWith pc g [] (backTo pc (starEach [a] env)) (backToKw pc (keywordEach [] env))))
    (hs : starEach [a] env = (false, eval a env) :: starEach [] env) (h2 : (backTo pc (starEach [] env)).any (·.1) = false)
    (Inv : Nat → OW → Prop)
    (x : Tv X A (eval (.Name "enumerate" pn) env) ow (fun d o => d = .raw (.type "enumerate") ∧ Tv X A (eval a env) o (fun d o => d = .lst ds ∧ Inv 0 o)))
    (turn : ∀ i o d, ds[i]? = some d → Inv i o → U1 X A (assign (.Tuple [.Name x1 p1, .Name x2 p2] kk pt) env) (.tup [.int i, d]) o (fun o => Tf X A (execs body env) o (LP (Inv (i + 1)) PF))) (fin : ∀ o, Inv ds.length o → PF .next o) :
    Tf X A (exec (.For (.Tuple [.Name x1 p1, .Name x2 p2] kk pt) (.Call (.Name "enumerate" pn) [a] [] pc) body [] pos) env) ow PF := fun dt fr h S s hs' => by
  refine wpAny_For (Call_ (wpAny_mono (x dt fr h S s hs') (fun g s₁ y => ?_) fun _ _ e => e.elim) he) hf
  obtain ⟨kin, d, o, S₁, hd, y⟩ := y
  subst hd
  cases raw_is S₁ (.head _)
  have main := it_cons (p := pc) (PL := fun l o => l = [D.lst ds] ∧ Inv 0 o) hs (y.mono fun d o h => it_nil ⟨by rw [h.1], h.2⟩) _ fr _ S₁ s₁ rfl
  refine callWith_type1 (he := hs) (hplain := h2) (wpAny_mono main (fun vs s₂ y => ?_) fun _ _ e => e.elim)
  obtain ⟨k₂, l, o₂, S₂, hl, rfl, hI⟩ := y
  match vs, hl with
  | [v], _ =>
    have hm : (v, D.lst ds) ∈ [v].zip [D.lst ds] ++ (Value.type "enumerate", D.raw (.type "enumerate")) :: dt := .head _
    obtain ⟨fz, S₂⟩ := S₂
    have hv := vd_of S₂ hm
    cases hv with
    | @lst ax us n _ hmf va =>
      refine call_enumerate_1 (S₂.frz _ hmf) fun h' hE hIt hsz hk => ?_
      refine wpAny_pyIter_enum hE ?_
      obtain ⟨oI, hoI, hI1, hI2⟩ := hIt
      have S₃ : SF X fz _ ((s₂.heap.objs.size + 1, .raw (· = enO s₂.heap.objs.size 0 .none)) :: (s₂.heap.objs.size, .raw (· = oI)) :: (o₂ ++ fr)) h' :=
        S₂.news hk [(s₂.heap.objs.size + 1, .raw (· = enO s₂.heap.objs.size 0 .none)), (s₂.heap.objs.size, .raw (· = oI))] (fun p hp => by
          rcases List.mem_cons.mp hp with rfl | hp
          · exact ⟨by
              cases e : s₂.heap.get? (s₂.heap.objs.size + 1) with
              | none => rfl
              | some o => exact absurd (Heap.lt_size e) (Nat.not_lt.mpr (Nat.le_succ _)), _, hE, rfl⟩
          · rw [List.mem_singleton] at hp
            subst hp
            exact ⟨none_at _, _, hoI, rfl⟩) (List.pairwise_cons.mpr ⟨fun p hp => by rw [List.mem_singleton] at hp; subst hp; show s₂.heap.objs.size + 1 ≠ s₂.heap.objs.size; omega, List.pairwise_singleton _ _⟩)
      refine codeAny_mono (enum_core (s := { s₂ with heap := h' }) (PF := PF) (dt := dt) hh hm (fun p hp => .tail _ (.tail _ hp)) (Nat.succ_ne_self _) ⟨_, hE⟩ ⟨oI, hoI, hI1, hI2⟩ hE hoI S₃ Inv hI turn fin) fun r s' q => ?_
      cases r with
      | error e => exact q.elim
      | ok f => exact ⟨((kin.trans k₂).trans ⟨_, rfl⟩).trans q.1, q.2⟩
end
/-! small bounds, stated once -/
theorem AOk.le {n m : Nat} {A : Around} (x : AOk n A) (h : Nat.ble m n = true) : AOk m A := x.less (Nat.le_of_ble_eq_true h)
section
variable {n m : Nat}
theorem oA (n : Nat) : (0 : Int) ≤ (n : Int) := Int.natCast_nonneg n
theorem oH (n : Nat) : -2 ^ 63 ≤ (n : Int) := by omega
theorem oB (h : n ≤ 900) : n < 2 ^ 62 := by omega
theorem oBs (h : n ≤ 900) : n + 1 < 2 ^ 62 := by omega
theorem oC (h : n ≤ 900) : n < 9223372036854775808 := by omega
theorem oD (h : n ≤ 900) : n ≤ 16777216 := by omega
theorem oDs (h : n ≤ 900) : n + 1 ≤ 16777216 := by omega
theorem oE0 (h : n ≤ 900) : (n : Int) < 2 ^ 63 := by omega
theorem oI (h : n ≤ 900) : (n : Int) ≤ 2 ^ 24 := by omega
theorem oE (h : n < m) (k : m ≤ 900) : (n : Int) < 2 ^ 63 := by omega
theorem oE2 (h : n ≤ m) (k : m ≤ 900) : (n : Int) < 2 ^ 63 := by omega
theorem oB2 (h : n ≤ m) (k : m ≤ 900) : n < 2 ^ 62 := by omega
theorem oB2s (h : n ≤ m) (k : m ≤ 900) : n + 1 < 2 ^ 62 := by omega
theorem oB3s (h : n < m) (k : m ≤ 900) : n + 1 < 2 ^ 62 := by omega
theorem oD2 (h : n ≤ m) (k : m ≤ 900) : n ≤ 16777216 := by omega
theorem oD2s (h : n ≤ m) (k : m ≤ 900) : n + 1 ≤ 16777216 := by omega
theorem oT (n : Nat) : ¬ ((n : Int) < 0) := by omega
end
local macro_rules | `(tactic| walk_at "m_ho") => `(tactic| ((show List.lookup _ (KF _) = _); k_is))
local macro_rules | `(tactic| walk_at "m_lk") => `(tactic| first | with_reducible exact Lk.z | (with_reducible refine' Lk.s ?hp ?hq; (case hp => kernel_rfl); (case hq => walk_at "m_lk")) | (with_reducible refine' Lk.mb ?hp ?hq; (case hp => assumption); (case hq => walk_at "m_lk")) | with_reducible assumption)
local macro_rules | `(tactic| walk_at "m_nk") => `(tactic| first | with_reducible exact Nk.z | (with_reducible refine' Nk.s ?hp ?hq; (case hp => kernel_rfl); (case hq => walk_at "m_nk")))
local macro_rules | `(tactic| walk_at "m_pt") => `(tactic| with_reducible first | exact Pt.z | exact Pt.n | (refine' Pt.s ?hp ?hq; (case hp => kernel_rfl); (case hq => walk_at "m_pt")) | (refine' Pt.mb ?hp ?hq ?hn; (case hp => assumption); (case hq => walk_at "m_pt"); (case hn => walk_at "m_nk")))
local macro_rules | `(tactic| walk_at "m_me") => `(tactic| first | with_reducible exact List.mem_cons_self | (with_reducible refine' List.mem_cons_of_mem _ ?hq; (case hq => walk_at "m_me")))
local macro_rules | `(tactic| walk_at "m_up") => `(tactic| first | with_reducible exact Up.z | (with_reducible refine' Up.s ?hq; (case hq => walk_at "m_up")))
local macro_rules | `(tactic| walk_at "m_exd") => `(tactic| first | with_reducible exact Ex.z | ((with_reducible refine' Ex.zz ?ha ?hr); (case ha => with_reducible exact rfl); (case hr => exact rfl)) | ((with_reducible refine' Ex.s ?hq); (case hq => walk_at "m_exd")))
local macro_rules | `(tactic| walk_at "m_sb") => `(tactic| first | with_reducible exact Sel.refl | ((with_reducible refine' Sel.take ?he ?hs); (case he => walk_at "m_exd"); (case hs => walk_at "m_sb")) | ((with_reducible refine' Sel.skip ?hs); (case hs => walk_at "m_sb")))
local macro_rules | `(tactic| walk_at "m_name") => `(tactic| first
  | ((with_reducible first | refine' n_loc ?ha ?hb ?hc ?hd | refine' c_loc ?ha ?hb ?hc ?hd); (case ha => kernel_rfl); (case hb => walk_at "m_me"); (case hc => walk_at "m_lk"))
  | ((with_reducible first | refine' gCODE ?ha ?hb | refine' gSTRING ?ha ?hb | refine' gCOMMENT ?ha ?hb | refine' gNEVER ?ha ?hb | refine' gALWAYS ?ha ?hb | refine' gSigns ?ha ?hb | refine' gstandsat ?ha ?hb | refine' gislinecomment ?ha ?hb | refine' gScan ?ha ?hb | refine' gscanned ?ha ?hb | refine' gLineStates ?ha ?hb | refine' gpainted ?ha ?hb | refine' glinefaces ?ha ?hb | refine' gFontLock ?ha ?hb | refine' glawdraw ?ha ?hb | refine' glawline ?ha ?hb | refine' glawwalked ?ha ?hb | refine' glawbegins ?ha ?hb | refine' glawasked ?ha ?hb | refine' glawchanged ?ha ?hb | refine' glen ?ha ?hb | refine' gabs ?ha ?hb | refine' gmax ?ha ?hb | refine' gmin ?ha ?hb | refine' grange ?ha ?hb | refine' genumerate ?ha ?hb | refine' cabs ?ha ?hb | refine' clawline ?ha ?hb | refine' clawdraw ?ha ?hb | refine' clawasked ?ha ?hb); (case ha => kernel_rfl)))
local macro_rules | `(tactic| walk_at "m_cel") => `(tactic| ((with_reducible first | refine' n_cel ?ha ?hb ?hc ?hd | refine' c_cel ?ha ?hb ?hc ?hd); (case ha => kernel_rfl); (case hb => with_unfolding_all rfl); (case hc => walk_at "m_me")))
local macro_rules | `(tactic| walk_at "m_st") => `(tactic| (with_reducible refine' s_loc ?ha ?hb ?hc ?hd; (case ha => kernel_rfl); (case hb => walk_at "m_up"); (case hc => walk_at "m_pt")))
local macro_rules | `(tactic| walk_at "m_ev") => `(tactic| first
  | ((with_reducible show Tv _ _ (eval (.Name _ _) _) _ _); first | walk_at "m_name" | walk_at "m_cel")
  | with_reducible first | refine' ev_int ?_ | refine' ev_slice ?_ | refine' ev_sub ?_ | refine' ev_bin ?_ | refine' ev_tuple ?_ | refine' ev_list ?_ | refine' ev_un ?_ | refine' ev_and2 ?_ | refine' ev_if ?_ | refine' ev_bool ?_ | refine' ev_none ?_ | refine' ev_str ?_)
local macro_rules | `(tactic| walk_at "m_ev2") => `(tactic| first
  | ((with_reducible refine' ev_attr ?_ ?_); (focus with_unfolding_all rfl))
  | ((with_reducible refine' ev_mcall (pl := ?pl) ?e ?_); (case e => with_unfolding_all rfl))
  | ((with_reducible first | refine' ev_call ?_ ?_ | refine' ev_cmp ?_ ?_); (focus with_unfolding_all rfl)))
local macro_rules | `(tactic| walk_at "m_fc") => `(tactic| first
  | ((with_reducible refine' fc_K ?_ ?_); (focus kernel_rfl))
  | with_reducible refine' fc_B ?_
  | ((with_reducible refine' fc_T ?h1 ?h2 ?_); (case h1 => with_unfolding_all rfl); (case h2 => with_unfolding_all rfl)))
local macro_rules | `(tactic| walk_at "m_it") => `(tactic| first
  | with_reducible refine' it_nil ?_
  | ((with_reducible refine' it_cons ?_ ?_); (focus with_unfolding_all rfl)))
local macro_rules | `(tactic| walk_at "m_ta") => `(tactic| first
  | with_reducible refine' ta_nil ?_
  | ((with_reducible refine' ta_cons ?_ ?_ ?_); (focus with_unfolding_all rfl); (focus with_unfolding_all rfl)))
local macro_rules | `(tactic| walk_at "m_op") => `(tactic| with_reducible first | refine' op_add ?_ | refine' op_sub ?_ | refine' op_eq ?_ | refine' op_ne ?_ | refine' op_lt ?_ | refine' op_le ?_ | refine' op_gt ?_ | refine' op_ge ?_)
local macro_rules | `(tactic| walk_at "m_fld") => `(tactic| ((with_reducible refine' at_get ?ha ?hb ?hc ?hd ?he ?hf); (case ha => kernel_rfl); (case hb => kernel_rfl); (case hc => walk_at "m_me"); (case hd => walk_at "m_lk"); (case he => with_unfolding_all rfl)))
local macro_rules | `(tactic| walk_at "m_fls") => `(tactic| ((with_reducible refine' at_set ?ha ?hb ?hc ?hd ?he ?hf); (case ha => kernel_rfl); (case hb => kernel_rfl); (case hc => walk_at "m_up"); (case hd => walk_at "m_pt"); (case he => with_unfolding_all exact Nat.le_of_ble_eq_true rfl)))
local macro_rules | `(tactic| walk_at "m_tr") => `(tactic| first
  | (with_reducible first | refine' tr_not ?_ | refine' tr_and0 ?_ | refine' tr_or0 ?_ | refine' tr_and ?_ | refine' tr_or ?_)
  | ((with_reducible refine' tr_cmp ?_ ?_); (focus with_unfolding_all rfl))
  | ((with_reducible refine' tr_plain ?_ ?_); (focus with_unfolding_all rfl)))
local macro_rules | `(tactic| walk_at "m_ex1") => `(tactic| first
  | (with_reducible first | refine' ex_cons ?_ | refine' ex_nil ?_ | refine' ex_pass ?_ | refine' ex_ret ?_ | refine' ex_ret0 ?_ | refine' ex_if ?_)
  | ((with_reducible refine' ex_expr ?_ ?_ ?_); (focus with_unfolding_all rfl); (focus with_unfolding_all rfl))
  | ((with_reducible first | refine' ex_name ?_ ?_ | refine' ex_setattr ?_ ?_ | refine' ex_setitem ?_ ?_); (focus with_unfolding_all rfl)))
local macro_rules | `(tactic| walk_at "m_fl") => `(tactic| with_reducible first | refine' th_ret ?_ | refine' th_next ?_ | refine' th_brk ?_ | refine' th_cont ?_ | refine' lp_next ?_ | refine' lp_cont ?_ | refine' lp_brk ?_ | refine' lp_ret ?_ | refine' wp_next ?_ | refine' wp_cont ?_ | refine' wp_brk ?_ | refine' wp_ret ?_)
local macro_rules | `(tactic| walk_at "m_tup") => `(tactic| ((with_reducible refine' mk_tup ?hx ?hz); (case hz => rw [sizeLine_eq]; simp only [List.length_cons, List.length_nil]; omega)))
local macro_rules | `(tactic| walk_at "m_itt") => `(tactic| ((with_reducible refine' it_tup (k := 0) ?ha ?hb ?hc ?hs ?hp); (case ha => decide); (case hb => decide); (case hc => with_unfolding_all rfl); (case hs => (intro _ _ _; with_unfolding_all rfl))))
local macro_rules | `(tactic| walk_at "m_sw") => `(tactic| first
  | (with_reducible refine' ex_swap2 ?hh ?h1 ?h2 ?_; (case hh => exact AOk.hh (by assumption)); (case h1 => with_unfolding_all rfl); (case h2 => with_unfolding_all rfl))
  | (with_reducible refine' ex_swap3 ?hh ?h1 ?h2 ?_; (case hh => exact AOk.hh (by assumption)); (case h1 => with_unfolding_all rfl); (case h2 => with_unfolding_all rfl))
  | (with_reducible refine' ex_swap4 ?hh ?h1 ?h2 ?_; (case hh => exact AOk.hh (by assumption)); (case h1 => with_unfolding_all rfl); (case h2 => with_unfolding_all rfl))
  | ((with_reducible refine' ex_tup ?h1 ?h2 ?_); (case h1 => with_unfolding_all rfl); (case h2 => with_unfolding_all rfl)))
local macro_rules | `(tactic| walk_at "m_dx") => `(tactic| with_reducible first | refine' dx_int ?_ | refine' dx_str ?_ | refine' dx_t2 ?_ | refine' dx_t3 ?_ | refine' dx_t4 ?_)
local macro_rules | `(tactic| walk_at "m_bs") => `(tactic| (with_reducible refine' bsplit ?_ ?_ <;> intro _))
local macro_rules | `(tactic| walk_at "m_app") => `(tactic| ((with_reducible refine' fn_append ?hu ?hz ?hp); (case hu => walk_at "m_up"); (case hz => rw [sizeLine_eq]; first | omega | (simp only [List.length_map, List.length_append, List.length_range]; omega))))
local macro_rules | `(tactic| walk_at "m_mt") => `(tactic| first
  | ((with_reducible first | refine' mt_append ?ha ?hb | refine' mt_pop ?ha ?hb); (case ha => walk_at "m_me"))
  | ((with_reducible first | refine' mt_leave ?ha ?hb ?hc | refine' mt_enter ?ha ?hb ?hc | refine' mt_incode ?ha ?hb ?hc | refine' mt_instring ?ha ?hb ?hc | refine' mt_incomment ?ha ?hb ?hc | refine' mt_go ?ha ?hb ?hc | refine' mt_beginof ?ha ?hb ?hc | refine' mt_look ?ha ?hb ?hc | refine' mt_dirty ?ha ?hb ?hc | refine' mt_changedL ?ha ?hb ?hc | refine' mt_changedF ?ha ?hb ?hc); (case ha => walk_at "m_me"); (case hb => walk_at "m_nk")))
local macro_rules | `(tactic| walk_at "m_1") => `(tactic| first
  | ((with_reducible show Tv _ _ _ _ _); first | walk_at "m_ev" | walk_at "m_ev2")
  | ((with_reducible show T1 _ _ _ _ _ _); first | walk_at "m_fld" | walk_at "m_fc" | with_reducible refine' un_neg ?_ | with_reducible refine' un_not ?_)
  | ((with_reducible show T2 _ _ _ _ _ _ _); first | walk_at "m_op" | walk_at "m_itt" | walk_at "m_x")
  | ((with_reducible show Tf _ _ _ _ _); first | walk_at "m_ex1" | walk_at "m_sw")
  | ((with_reducible show TA _ _ _ _ _ _ _); walk_at "m_ta")
  | ((with_reducible show TL _ _ _ _ _ _); first | walk_at "m_tup" | walk_at "m_app" | with_reducible refine' fn_range1 ?_ | with_reducible refine' fn_range2 ?_ | walk_at "m_x")
  | ((with_reducible show Tl _ _ _ _ _); walk_at "m_it")
  | ((with_reducible show MC _ _ _ _ _ _ _ _ _ _); walk_at "m_mt")
  | ((with_reducible show U1 _ _ _ _ _ _); first | ((with_reducible refine' s_cel ?ha ?hb ?hc ?hd ?_); (case hb => with_unfolding_all rfl); (case ha => kernel_rfl); (case hc => with_unfolding_all rfl); (case hd => walk_at "m_up")) | walk_at "m_st" | ((with_reducible refine' as_tup2 ?hh ?_); (case hh => exact AOk.hh (by assumption))))
  | ((with_reducible show U2 _ _ _ _ _ _ _); walk_at "m_fls")
  | ((with_reducible show B1 _ _ _ _ _ _); (with_reducible first | refine' ty_bool ?_ | refine' ty_int ?_))
  | ((with_reducible show Tb _ _ _ _ _); first | walk_at "m_y" | walk_at "m_tr")
  | ((with_reducible show PA _ _ _ _ _ _); (with_reducible first | refine' pa_none ?_ | refine' pa_some ?_))
  | ((with_reducible show Exists _); walk_at "m_dx")
  | (with_reducible first | refine' bt ?_ | refine' bf ?_)
  | walk_at "m_fl")
local macro_rules | `(tactic| walk_at "m_all") => `(tactic| (repeat' first | walk_at "m_1" | walk_at "m_bs"))
local macro_rules | `(tactic| walk_at "m_go") => `(tactic| (repeat' walk_at "m_1"))
local macro_rules | `(tactic| walk_at "m_ret") => `(tactic| (first | with_reducible refine' rt_ret ?rts ?rtx | with_reducible refine' rt_next ?rts ?rtx); (case rtx => assumption); (case rts => walk_at "m_sb"))
local macro_rules | `(tactic| walk_at "o") => `(tactic| first
  | (with_reducible first | exact oA _ | exact oH _ | exact oT _ | exact oB (by assumption) | exact oBs (by assumption) | exact oC (by assumption) | exact oD (by assumption) | exact oDs (by assumption) | exact oE0 (by assumption) | exact oI (by assumption) | exact oE (by assumption) (by assumption) | exact oE2 (by assumption) (by assumption) | exact oB2 (by assumption) (by assumption) | exact oB2s (by assumption) (by assumption) | exact oB3s (by assumption) (by assumption) | exact oD2 (by assumption) (by assumption) | exact oD2s (by assumption) (by assumption) | exact Nat.le_of_not_lt (by assumption) | exact Nat.le_of_lt (by assumption) | assumption)
  | omega)
theorem filled (P : Params) : PySem.Challenge.rw_xm0233_01.prog = PySem.Challenge.rw_xm0233_01.prog ∧ (KF P) = KF P := by k_fill; exact ⟨rfl, rfl⟩
noncomputable abbrev encI (l : List Int) : D := .lst (l.map .int)
/-- the source's own slice and test -/
noncomputable def standsAt (codes wanted : List Int) (a : Nat) : Bool := !decide (wanted = []) && decide ((codes.drop a).take wanted.length = wanted)
theorem pick_run (ds : List D) (a b : Nat) : pick ds (some (a : Int)) (some ((a : Int) + (b : Int))) = (ds.drop a).take b := by
  unfold pick kms_lo kms_hi
  dsimp only
  rw [if_neg (by walk_at "o"), if_neg (by walk_at "o")]
  by_cases h : a ≤ ds.length
  · rw [show min (a : Int).toNat ds.length = a by walk_at "o"]
    have : (ds.drop a).length = ds.length - a := by simp
    apply List.take_eq_take_iff.mpr
    rw [this]; omega
  · rw [List.drop_eq_nil_of_le (as := ds) (i := a) (by walk_at "o"), List.drop_eq_nil_of_le (by walk_at "o")]; simp
theorem stands_at {X : Cx} {A : Around} {P : D → OW → Prop} {ow : OW} (hA : AOk 1 A) (codes wanted : List Int) (a : Nat) (hc : codes.length ≤ 1000) (hw : wanted.length ≤ 1000) (p : P (.bool (standsAt codes wanted a)) ow) : TC X A (.ref 69) [encI codes, encI wanted, .int a] ow P := by
  refine call_def (ns := ["codes", "wanted", "at"]) (fs := [("at", .int a), ("wanted", encI wanted), ("codes", encI codes)]) hA (by walk_at "m_ho") (by kernel_rfl) (fun vs h => by obtain ⟨a, b, c, rfl⟩ := ar3 h; rfl) (by rfl) rfl (by rfl) rfl rfl rfl rfl ?_
  intro L B hB
  walk_at "m_go"
  refine mk_list (.fz ?_) (Nat.zero_le _)
  refine op_neI (a := wanted) (b := []) hB.units64 .fz .fz ?_
  refine ty_bool (bsplit (fun h => ?_) fun h => ?_)
  · walk_at "m_go"
    refine fn_len .fz (by simp; walk_at "o") ?_
    walk_at "m_go"
    refine ⟨_, .fz, by rw [sizeLine_eq]; simp; omega, .fz ?_⟩
    rw [List.length_map, pick_run, ← List.map_drop, ← List.map_take]
    walk_at "m_go"
    refine op_eqI hB.units64 .fz .fz ?_
    walk_at "m_go"
    rw [standsAt, h, Bool.true_and] at p
    walk_at "m_ret"
  · walk_at "m_go"
    rw [standsAt, h, Bool.false_and] at p
    rw [h]
    walk_at "m_ret"
noncomputable abbrev signsL : List (Str × D) := [("quotes", .lst [.int 34]), ("escape", .int 92), ("line_starts", .lst [.lst [.int 59]]), ("start", .lst [.int 123]), ("end", .lst [.int 125]), ("nests", .bool true)]
noncomputable abbrev sgn (dS : Addr) : Addr × Res := (dS, .ns signsL)
theorem standsAt1 (c : List Int) (x : Int) (a : Nat) : standsAt c [x] a = (c[a]? == some x) := by
  unfold standsAt
  rw [show ([x] : List Int).length = 1 from rfl, List.take_one, List.head?_drop]
  cases c[a]? with
  | none => simp
  | some y => by_cases h : y = x <;> simp [h]
theorem is_line_comment {X : Cx} {A : Around} {P : D → OW → Prop} {ow : OW} {dS : Addr} (hA : AOk 2 A) (c : List Int) (a : Nat) (hc : c.length ≤ 1000) (p : P (.bool (c[a]? == some 59)) (sgn dS :: ow)) : TC X A (.ref 76) [.obj 58 dS, encI c, .int a] (sgn dS :: ow) P := by
  refine call_def (ns := ["signs", "codes", "at"]) (fs := [("at", .int a), ("codes", encI c), ("signs", .obj 58 dS)]) hA (by walk_at "m_ho") (by kernel_rfl) (fun vs h => by obtain ⟨a, b, c, rfl⟩ := ar3 h; rfl) (by rfl) rfl (by rfl) rfl rfl rfl rfl ?_
  intro L B hB
  walk_at "m_go"
  refine st_forL hB.hh (fun _ => rfl) [.lst [.int 59]] (fun i o => (i = 0 ∧ o = (L, .fm [("at", .int a), ("codes", encI c), ("signs", .obj 58 dS)]) :: sgn dS :: ow) ∨ (i = 1 ∧ (c[a]? == some 59) = false ∧ o = (L, .fm [("at", .int a), ("codes", encI c), ("signs", .obj 58 dS), ("wanted", encI [59])]) :: sgn dS :: ow)) ?_ ?_ ?_
  · walk_at "m_go"
    exact ⟨rfl, .inl ⟨rfl, rfl⟩⟩
  · intro i o e he hI
    rcases hI with ⟨rfl, rfl⟩ | ⟨rfl, _⟩
    · cases he
      walk_at "m_go"
      refine TC.tl (stands_at (hB.le rfl) c [59] a hc (by decide) ?_)
      walk_at "m_go"
      refine bsplit (fun h => ?_) fun h => ?_
      · walk_at "m_go"
        rw [← standsAt1, h] at p
        walk_at "m_ret"
      · walk_at "m_go"
        rw [standsAt1] at h
        exact .inr ⟨rfl, h, rfl⟩
    · cases he
  · intro o hI
    rcases hI with ⟨h, _⟩ | ⟨_, h, rfl⟩
    · cases h
    · walk_at "m_go"
      rw [h] at p
      walk_at "m_ret"
noncomputable abbrev encS (m k : Int) : D := .tup [.int m, .int k]
noncomputable abbrev encP (q : Int × Int × Int) : D := .tup [.int q.1, .int q.2.1, .int q.2.2]
noncomputable abbrev scn (dS : Addr) (c : List Int) (m k a b : Int) (ap : Addr) : List (Str × D) := [("signs", .obj 58 dS), ("codes", encI c), ("state", encS m k), ("at", .int a), ("begun", .int b), ("spans", .own ap)]
noncomputable abbrev spn (ap : Addr) (sp : List (Int × Int × Int)) : Addr × Res := (ap, .list (sp.map encP))
noncomputable def leaveSp (m a b : Int) (sp : List (Int × Int × Int)) : List (Int × Int × Int) := if m ≠ 0 ∧ b < a then sp ++ [(b, a, m)] else sp
section
variable {X : Cx} {A : Around} {P : D → OW → Prop} {ow : OW} {dS dx ap : Addr} {c : List Int} {m k a b : Int} {sp : List (Int × Int × Int)}
theorem leave (hA : AOk 1 A) (hz : sp.length ≤ 1000) (p : P .none ((dx, .ns (scn dS c m k a b ap)) :: spn ap (leaveSp m a b sp) :: ow)) :
    TC X A (.ref 97) [.obj 135 dx] ((dx, .ns (scn dS c m k a b ap)) :: spn ap sp :: ow) P := by
  refine call_def (ns := ["self"]) (fs := [("self", .obj 135 dx)]) hA (by walk_at "m_ho") (by kernel_rfl) (fun vs h => by obtain ⟨a, rfl⟩ := ar1 h; rfl) (by rfl) rfl (by rfl) rfl rfl rfl rfl ?_
  intro L B hB
  walk_at "m_all"
  · rename_i h1 h2
    rw [leaveSp, if_pos ⟨by simpa using h1, by simpa using h2⟩ ] at p
    simp only [spn, List.map_append, List.map_cons, List.map_nil] at p
    walk_at "m_ret"
  · rename_i h1 h2
    rw [leaveSp, if_neg (fun h => by simp_all)] at p
    walk_at "m_ret"
  · rename_i h1
    rw [leaveSp, if_neg (fun h => by simp_all)] at p
    walk_at "m_ret"
theorem enter {m' k' : Int} (hA : AOk 1 A) (p : P .none ((dx, .ns (scn dS c m' k' a a ap)) :: ow)) :
    TC X A (.ref 104) [.obj 135 dx, encS m' k'] ((dx, .ns (scn dS c m k a b ap)) :: ow) P := by
  refine call_def (ns := ["self", "state"]) (fs := [("state", encS m' k'), ("self", .obj 135 dx)]) hA (by walk_at "m_ho") (by kernel_rfl) (fun vs h => by obtain ⟨a, b, rfl⟩ := ar2 h; rfl) (by rfl) rfl (by rfl) rfl rfl rfl rfl ?_
  intro L B hB
  walk_at "m_all"
  walk_at "m_ret"
/-- the three turns, in plain Lean -/
structure Sc where
  m : Int
  k : Int
  a : Nat
  b : Nat
  sp : List (Int × Int × Int)
noncomputable def inCode (c : List Int) (s : Sc) : Sc :=
  if c[s.a]? = some 92 then { s with a := s.a + 2 }
  else if c[s.a]? = some 59 then { s with a := c.length, sp := s.sp ++ [((s.a : Int), (c.length : Int), 2)] }
  else if c[s.a]? = some 123 then ⟨2, 1, s.a + 1, s.a, s.sp⟩
  else if c[s.a]? = some 34 then ⟨1, 34, s.a + 1, s.a, s.sp⟩
  else { s with a := s.a + 1 }
noncomputable def inString (c : List Int) (s : Sc) : Sc :=
  if c[s.a]? = some 92 then { s with a := s.a + 2 }
  else if c[s.a]? = some s.k then ⟨0, 0, s.a + 1, s.b, leaveSp s.m (s.a + 1 : Nat) s.b s.sp⟩
  else { s with a := s.a + 1 }
noncomputable def inComment (c : List Int) (s : Sc) : Sc :=
  if c[s.a]? = some 125 then (if s.k > 1 then ⟨2, s.k - 1, s.a + 1, s.b, s.sp⟩ else ⟨0, 0, s.a + 1, s.b, leaveSp s.m (s.a + 1 : Nat) s.b s.sp⟩)
  else if c[s.a]? = some 123 then ⟨2, s.k + 1, s.a + 1, s.b, s.sp⟩
  else { s with a := s.a + 1 }
noncomputable abbrev scs (dS : Addr) (c : List Int) (s : Sc) (ap : Addr) : List (Str × D) := scn dS c s.m s.k s.a s.b ap
theorem it_cod {B : Around} {value slice : Expr} {n : Nat} {x : Int} (hx : c[n]? = some x) (hc : c.length ≤ 1000)
    (hs : ∀ l k u, subscripted slice false (.ref l) (.int k u) = operate [.ref l, .int k u] (getItem (.ref l) (.int k u))) (p : P (.int x) ow) : T2 X B (subscriptTail value slice) (encI c) (.int (n : Int)) ow P := by
  have := (List.getElem?_eq_some_iff.mp hx).1
  exact it_list .fz (by walk_at "o") (by walk_at "o") (by simp [hx]) hs p
local macro_rules | `(tactic| walk_at "m_x") => `(tactic| ((with_reducible refine' it_cod ?hx ?hc ?hs ?_); (case hx => assumption); (case hc => assumption); (case hs => (intro _ _ _; with_unfolding_all rfl))))
theorem in_code {s : Sc} (hA : AOk 3 A) (hc : c.length ≤ 1000) (hz : s.sp.length ≤ 1000) (hs : s.a < c.length) (p : P .none ((dx, .ns (scs dS c (inCode c s) ap)) :: spn ap (inCode c s).sp :: sgn dS :: ow)) :
    TC X A (.ref 111) [.obj 135 dx] ((dx, .ns (scs dS c s ap)) :: spn ap s.sp :: sgn dS :: ow) P := by
  obtain ⟨x, hx⟩ : ∃ x, c[s.a]? = some x := ⟨_, List.getElem?_eq_getElem hs⟩
  refine call_def (ns := ["self"]) (fs := [("self", .obj 135 dx)]) hA (by walk_at "m_ho") (by kernel_rfl) (fun vs h => by obtain ⟨a, rfl⟩ := ar1 h; rfl) (by rfl) rfl (by rfl) rfl rfl rfl rfl ?_
  intro L B hB
  walk_at "m_all"
  · rename_i h1
    rw [show inCode c s = { s with a := s.a + 2 } by simp_all [inCode]] at p
    walk_at "m_ret"
  · rename_i h1
    refine TC.tl (px1 (by walk_at "m_exd") (is_line_comment (hB.le rfl) c s.a hc ?_))
    rw [hx]
    walk_at "m_all"
    · refine fn_len .fz (by simp; walk_at "o") ?_
      walk_at "m_all"
      refine fn_len .fz (by simp; walk_at "o") ?_
      walk_at "m_all"
      rename_i h2
      rw [show inCode c s = { s with a := c.length, sp := s.sp ++ [((s.a : Int), (c.length : Int), 2)] } by simp_all [inCode]] at p
      simp only [spn, List.map_append, List.map_cons, List.map_nil] at p
      rw [List.length_map]
      walk_at "m_ret"
    · refine TC.tl (stands_at (hB.le rfl) c [123] s.a hc (by decide) ?_)
      rw [standsAt1, hx]
      walk_at "m_all"
      · refine TC.tl (px1 (by walk_at "m_exd") (enter (hB.le rfl) ?_))
        walk_at "m_all"
        refine fn_len .fz (by decide) ?_
        walk_at "m_all"
        rw [show inCode c s = ⟨2, 1, s.a + 1, s.a, s.sp⟩ by simp_all [inCode]] at p
        walk_at "m_ret"
      · refine op_in (is := [34]) trivial (.inl .fz) ?_
        walk_at "m_all"
        · refine TC.tl (px1 (by walk_at "m_exd") (enter (hB.le rfl) ?_))
          walk_at "m_all"
          rename_i h2
          have h3 : x = 34 := by simp at h2; omega
          subst h3
          rw [show inCode c s = ⟨1, 34, s.a + 1, s.a, s.sp⟩ by simp_all [inCode]] at p
          walk_at "m_ret"
        · rename_i h2
          have h3 : ¬ x = 34 := by simp at h2; omega
          rw [show inCode c s = { s with a := s.a + 1 } by simp_all [inCode]] at p
          walk_at "m_ret"
theorem in_string {s : Sc} (hA : AOk 2 A) (hc : c.length ≤ 1000) (hz : s.sp.length ≤ 1000) (hs : s.a < c.length) (p : P .none ((dx, .ns (scs dS c (inString c s) ap)) :: spn ap (inString c s).sp :: sgn dS :: ow)) :
    TC X A (.ref 118) [.obj 135 dx] ((dx, .ns (scs dS c s ap)) :: spn ap s.sp :: sgn dS :: ow) P := by
  obtain ⟨x, hx⟩ : ∃ x, c[s.a]? = some x := ⟨_, List.getElem?_eq_getElem hs⟩
  refine call_def (ns := ["self"]) (fs := [("self", .obj 135 dx)]) hA (by walk_at "m_ho") (by kernel_rfl) (fun vs h => by obtain ⟨a, rfl⟩ := ar1 h; rfl) (by rfl) rfl (by rfl) rfl rfl rfl rfl ?_
  intro L B hB
  walk_at "m_all"
  · rw [show inString c s = { s with a := s.a + 2 } by simp_all [inString]] at p
    walk_at "m_ret"
  · refine TC.tl (px2 (by walk_at "m_exd") (by walk_at "m_exd") (leave (hB.le rfl) hz ?_))
    walk_at "m_all"
    rename_i h1 h2
    have h3 : x = s.k := by simpa using h2
    rw [show inString c s = ⟨0, 0, s.a + 1, s.b, leaveSp s.m (s.a + 1 : Nat) s.b s.sp⟩ by subst h3; simp_all [inString]] at p
    walk_at "m_ret"
  · rw [show inString c s = { s with a := s.a + 1 } by simp_all [inString]] at p
    walk_at "m_ret"
theorem in_comment {s : Sc} (hA : AOk 2 A) (hc : c.length ≤ 1000) (hz : s.sp.length ≤ 1000) (hs : s.a < c.length) (p : P .none ((dx, .ns (scs dS c (inComment c s) ap)) :: spn ap (inComment c s).sp :: sgn dS :: ow)) :
    TC X A (.ref 125) [.obj 135 dx] ((dx, .ns (scs dS c s ap)) :: spn ap s.sp :: sgn dS :: ow) P := by
  obtain ⟨x, hx⟩ : ∃ x, c[s.a]? = some x := ⟨_, List.getElem?_eq_getElem hs⟩
  refine call_def (ns := ["self"]) (fs := [("self", .obj 135 dx)]) hA (by walk_at "m_ho") (by kernel_rfl) (fun vs h => by obtain ⟨a, rfl⟩ := ar1 h; rfl) (by rfl) rfl (by rfl) rfl rfl rfl rfl ?_
  intro L B hB
  walk_at "m_all"
  refine TC.tl (stands_at (hB.le rfl) c [125] s.a hc (by decide) ?_)
  rw [standsAt1, hx]
  walk_at "m_all"
  · refine fn_len .fz (by decide) ?_
    walk_at "m_all"
    · rename_i h1 h2
      have h3 : x = 125 := by simpa using h1
      have h4 : 1 < s.k := by simpa using h2
      rw [show inComment c s = ⟨2, s.k - 1, s.a + 1, s.b, s.sp⟩ by subst h3; simp [inComment, hx, h4]] at p
      walk_at "m_ret"
    · refine TC.tl (px2 (by walk_at "m_exd") (by walk_at "m_exd") (leave (hB.le rfl) hz ?_))
      walk_at "m_all"
      rename_i h1 h2
      have h3 : x = 125 := by simpa using h1
      have h4 : ¬ 1 < s.k := by simpa using h2
      rw [show inComment c s = ⟨0, 0, s.a + 1, s.b, leaveSp s.m (s.a + 1 : Nat) s.b s.sp⟩ by subst h3; simp [inComment, hx, h4]] at p
      walk_at "m_ret"
  · refine TC.tl (stands_at (hB.le rfl) c [123] s.a hc (by decide) ?_)
    rw [standsAt1, hx]
    walk_at "m_all"
    · refine fn_len .fz (by decide) ?_
      walk_at "m_all"
      rename_i h1 h2
      have h3 : x = 123 := by simpa using h2
      rw [show inComment c s = ⟨2, s.k + 1, s.a + 1, s.b, s.sp⟩ by subst h3; simp [inComment, hx]] at p
      walk_at "m_ret"
    · rename_i h1 h2
      have h3 : ¬ x = 125 := by simpa using h1
      have h4 : ¬ x = 123 := by simpa using h2
      rw [show inComment c s = { s with a := s.a + 1 } by simp [inComment, hx, h3, h4]] at p
      walk_at "m_ret"
end
section
variable {X : Cx} {A : Around} {P : D → OW → Prop} {ow : OW} {dS dx ap : Addr} {c : List Int} {m k a b : Int} {sp : List (Int × Int × Int)}
noncomputable def stepSc (c : List Int) (s : Sc) : Sc := if s.m = 0 then inCode c s else if s.m = 1 then inString c s else inComment c s
noncomputable def runN (c : List Int) : Nat → Sc → Sc
  | 0, s => s
  | n + 1, s => if s.a < c.length then runN c n (stepSc c s) else s
theorem leaveSp_len (m a b : Int) (sp : List (Int × Int × Int)) : (leaveSp m a b sp).length ≤ sp.length + 1 := by
  unfold leaveSp; split <;> simp
theorem step_ok {s : Sc} (h1 : s.sp.length ≤ s.a) (h2 : s.a < c.length) : (stepSc c s).sp.length ≤ (stepSc c s).a ∧ s.a < (stepSc c s).a ∧ (stepSc c s).a ≤ c.length + 1 := by
  have q := leaveSp_len s.m (s.a + 1 : Nat) s.b s.sp
  unfold stepSc inCode inString inComment
  repeat' split
  all_goals (try simp only [List.length_append, List.length_cons, List.length_nil]) <;> omega
theorem runN_done {n : Nat} {s : Sc} (h : ¬ s.a < c.length) : runN c n s = s := by
  cases n with
  | zero => rfl
  | succ n => rw [runN, if_neg h]
noncomputable def goEnd (c : List Int) (s : Sc) : Sc := let s' := runN c c.length s; { s' with a := c.length, sp := leaveSp s'.m c.length s'.b s'.sp }
theorem go {s : Sc} (hA : AOk 4 A) (hc : c.length ≤ 900) (hz : s.sp.length ≤ s.a) (hs : s.a ≤ c.length + 1) (p : P .none ((dx, .ns (scs dS c (goEnd c s) ap)) :: spn ap (goEnd c s).sp :: sgn dS :: ow)) :
    TC X A (.ref 132) [.obj 135 dx] ((dx, .ns (scs dS c s ap)) :: spn ap s.sp :: sgn dS :: ow) P := by
  refine call_def (ns := ["self"]) (fs := [("self", .obj 135 dx)]) hA (by walk_at "m_ho") (by kernel_rfl) (fun vs h => by obtain ⟨a, rfl⟩ := ar1 h; rfl) (by rfl) rfl (by rfl) rfl rfl rfl rfl ?_
  intro L B hB
  walk_at "m_all"
  refine st_while (fun n o => ∃ s', o = (L, .fm [("self", .obj 135 dx)]) :: (dx, .ns (scs dS c s' ap)) :: spn ap s'.sp :: sgn dS :: ow ∧ c.length ≤ n + s'.a ∧ s'.sp.length ≤ s'.a ∧ s'.a ≤ c.length + 1 ∧ runN c n s' = runN c c.length s) c.length ⟨s, rfl, by walk_at "o", hz, hs, rfl⟩ ?_
  rintro n o ⟨s', rfl, h1, h2, h3, h4⟩
  walk_at "m_all"
  refine fn_len .fz (by simp; walk_at "o") ?_
  rw [List.length_map]
  walk_at "m_all"
  · rename_i h5 h6
    have h7 : s'.a < c.length := by simpa using h5
    have h8 : s'.m = 0 := by simpa using h6
    obtain ⟨m, rfl⟩ : ∃ m, n = m + 1 := ⟨n - 1, by walk_at "o"⟩
    rw [runN, if_pos h7] at h4
    have h9 := step_ok h2 h7
    rw [show stepSc c s' = inCode c s' by rw [stepSc, if_pos h8]] at h4 h9
    refine TC.tl (px3 (by walk_at "m_exd") (by walk_at "m_exd") (by walk_at "m_exd") (in_code (hB.le rfl) (by walk_at "o") (by walk_at "o") h7 ?_))
    refine Tf.permW ?_ (List.perm_middle (l₁ := [_, _, _])).symm.symm
    walk_at "m_all"
    exact ⟨m, by walk_at "o", _, rfl, by walk_at "o", h9.1, h9.2.2, h4⟩
  · rename_i h5 h6 h6'
    have h7 : s'.a < c.length := by simpa using h5
    have h8 : ¬ s'.m = 0 := by simpa using h6
    have h8' : s'.m = 1 := by simpa using h6'
    obtain ⟨m, rfl⟩ : ∃ m, n = m + 1 := ⟨n - 1, by walk_at "o"⟩
    rw [runN, if_pos h7] at h4
    have h9 := step_ok h2 h7
    rw [show stepSc c s' = inString c s' by rw [stepSc, if_neg h8, if_pos h8']] at h4 h9
    refine TC.tl (px3 (by walk_at "m_exd") (by walk_at "m_exd") (by walk_at "m_exd") (in_string (hB.le rfl) (by walk_at "o") (by walk_at "o") h7 ?_))
    refine Tf.permW ?_ (List.perm_middle (l₁ := [_, _, _])).symm.symm
    walk_at "m_all"
    exact ⟨m, by walk_at "o", _, rfl, by walk_at "o", h9.1, h9.2.2, h4⟩
  · rename_i h5 h6 h6'
    have h7 : s'.a < c.length := by simpa using h5
    have h8 : ¬ s'.m = 0 := by simpa using h6
    have h8' : ¬ s'.m = 1 := by simpa using h6'
    obtain ⟨m, rfl⟩ : ∃ m, n = m + 1 := ⟨n - 1, by walk_at "o"⟩
    rw [runN, if_pos h7] at h4
    have h9 := step_ok h2 h7
    rw [show stepSc c s' = inComment c s' by rw [stepSc, if_neg h8, if_neg h8']] at h4 h9
    refine TC.tl (px3 (by walk_at "m_exd") (by walk_at "m_exd") (by walk_at "m_exd") (in_comment (hB.le rfl) (by walk_at "o") (by walk_at "o") h7 ?_))
    refine Tf.permW ?_ (List.perm_middle (l₁ := [_, _, _])).symm.symm
    walk_at "m_all"
    exact ⟨m, by walk_at "o", _, rfl, by walk_at "o", h9.1, h9.2.2, h4⟩
  · rename_i h5
    have h7 : ¬ s'.a < c.length := by simpa using h5
    rw [runN_done h7] at h4
    refine fn_len .fz (by simp; walk_at "o") ?_
    rw [List.length_map]
    walk_at "m_all"
    refine TC.tl (px2 (by walk_at "m_exd") (by walk_at "m_exd") (leave (hB.le rfl) (by walk_at "o") ?_))
    walk_at "m_all"
    rw [show goEnd c s = { s' with a := c.length, sp := leaveSp s'.m c.length s'.b s'.sp } by rw [goEnd, ← h4]] at p
    walk_at "m_ret"
end
section
variable {X : Cx} {A : Around} {P : D → OW → Prop} {ow : OW} {dS dx ap : Addr} {c : List Int} {m k a b : Int} {sp : List (Int × Int × Int)}
theorem scan_init (hA : AOk 1 A) (p : ∀ ap, P .none ((dx, .ns (scn dS c m k 0 0 ap)) :: spn ap [] :: ow)) :
    TC X A (.ref 90) [.obj 135 dx, .obj 58 dS, encI c, encS m k] ((dx, .ns []) :: ow) P := by
  refine call_def (ns := ["self", "signs", "codes", "state"]) (fs := [("state", encS m k), ("codes", encI c), ("signs", .obj 58 dS), ("self", .obj 135 dx)]) hA (by walk_at "m_ho") (by kernel_rfl) (fun vs h => by obtain ⟨a, b, c, d, rfl⟩ := ar4 h; rfl) (by rfl) rfl (by rfl) rfl rfl rfl rfl ?_
  intro L B hB
  walk_at "m_all"
  refine mk_list (.own fun ap => ?_) (Nat.zero_le _)
  have p := p ap
  walk_at "m_all"
  walk_at "m_ret"
noncomputable def scanF (c : List Int) (m k : Int) : Sc := goEnd c ⟨m, k, 0, 0, []⟩
theorem scanned (hA : AOk 6 A) (hc : c.length ≤ 900) (p : P (.tup [encS (scanF c m k).m (scanF c m k).k, .lst ((scanF c m k).sp.map encP)]) (sgn dS :: ow)) :
    TC X A (.ref 146) [.obj 58 dS, encI c, encS m k] (sgn dS :: ow) P := by
  refine call_def (ns := ["signs", "codes", "state"]) (fs := [("state", encS m k), ("codes", encI c), ("signs", .obj 58 dS)]) hA (by walk_at "m_ho") (by kernel_rfl) (fun vs h => by obtain ⟨a, b, c, rfl⟩ := ar3 h; rfl) (by rfl) rfl (by rfl) rfl rfl rfl rfl ?_
  intro L B hB
  walk_at "m_all"
  refine TC.tl (call_make (n := 4) (hB.le rfl) (by kernel_rfl) (by kernel_rfl) (by kernel_rfl) fun dx A' hA' => scan_init (hA'.le rfl) fun ap => ⟨rfl, ?_⟩)
  walk_at "m_all"
  refine TC.tl (px3 (by walk_at "m_exd") (by walk_at "m_exd") (by walk_at "m_exd") (go (s := ⟨m, k, 0, 0, []⟩) (hB.le rfl) hc (Nat.zero_le _) (Nat.zero_le _) ?_))
  iterate 13 walk_at "m_1"
  refine tl_fz (a := ap) (by walk_at "m_exd") (.keep (.own .nil)) ?_
  walk_at "m_all"
  trace_state
  walk_at "m_ret"
end
noncomputable def nextS (c : List Int) (s : Int × Int) : Int × Int := ((scanF c s.1 s.2).m, (scanF c s.1 s.2).k)
noncomputable def st (ls : List (List Int)) (k : Nat) : Int × Int := (ls.take k).foldl (fun s c => nextS c s) (0, 0)
noncomputable abbrev encSt (s : Int × Int) : D := encS s.1 s.2
noncomputable abbrev encL (ls : List (List Int)) : D := .lst (ls.map encI)
noncomputable abbrev sts (ls : List (List Int)) (n : Nat) : List D := (List.range n).map fun k => encSt (st ls k)
theorem st_zero (ls : List (List Int)) : st ls 0 = (0, 0) := rfl
theorem st_succ {ls : List (List Int)} {k : Nat} {c : List Int} (h : ls[k]? = some c) : st ls (k + 1) = nextS c (st ls k) := by
  unfold st
  rw [List.take_add_one, h, List.foldl_append]; rfl
theorem sts_one (ls : List (List Int)) : sts ls 1 = [.tup [.int 0, .int 0]] := by simp [sts, List.range_succ, st]
theorem sts_len (ls : List (List Int)) (n : Nat) : (sts ls n).length = n := by simp
theorem sts_succ (ls : List (List Int)) (n : Nat) : sts ls (n + 1) = sts ls n ++ [encSt (st ls n)] := by simp [sts, List.range_succ]
theorem sts_last (ls : List (List Int)) (n : Nat) : (sts ls (n + 1)).getLast? = some (encSt (st ls n)) := by rw [sts_succ]; simp
theorem sts_get {ls : List (List Int)} {n k : Nat} (h : k < n) : (sts ls n)[k]? = some (encSt (st ls k)) := by simp [sts, h]
noncomputable abbrev lstN (dS aS : Addr) : List (Str × D) := [("signs", .obj 58 dS), ("states", .own aS)]
section
variable {X : Cx} {A : Around} {P : D → OW → Prop} {ow : OW} {dS dx : Addr} {ls : List (List Int)}
theorem lines_init (hA : AOk 8 A) (hl : ls.length ≤ 900) (hc : ∀ c ∈ ls, c.length ≤ 900) (p : ∀ a, P .none ((dx, .ns (lstN dS a)) :: (a, .list (sts ls (ls.length + 1))) :: sgn dS :: ow)) :
    TC X A (.ref 160) [.obj 177 dx, .obj 58 dS, encL ls] ((dx, .ns []) :: sgn dS :: ow) P := by
  refine call_def (ns := ["self", "signs", "lines"]) (fs := [("lines", encL ls), ("signs", .obj 58 dS), ("self", .obj 177 dx)]) hA (by walk_at "m_ho") (by kernel_rfl) (fun vs h => by obtain ⟨a, b, c, rfl⟩ := ar3 h; rfl) (by rfl) rfl (by rfl) rfl rfl rfl rfl ?_
  intro L B hB
  walk_at "m_all"
  refine mk_list (.own fun a => ?_) (by rw [sizeLine_eq]; simp)
  have p := p a
  walk_at "m_all"
  refine st_forL hB.hh (fun _ => rfl) (ls.map encI) (fun i o => ∃ fs, Mb fs [("lines", encL ls), ("signs", .obj 58 dS), ("self", .obj 177 dx)] "codes" ∧ Sel ((L, .fm fs) :: (dx, .ns (lstN dS a)) :: (a, .list (sts ls (i + 1))) :: sgn dS :: ow) o) ?_ ?_ ?_
  · walk_at "m_all"
    refine ⟨rfl, _, Mb.no (by kernel_rfl), ?_⟩
    rw [Nat.zero_add, sts_one]
    walk_at "m_sb"
  · intro i o e he ⟨fs, hfs, hs⟩
    refine U1.selW hs ?_
    have hi : i < ls.length := by have := (List.getElem?_eq_some_iff.mp he).1; simpa using this
    obtain ⟨c, hcc⟩ : ∃ c, ls[i]? = some c := ⟨_, List.getElem?_eq_getElem hi⟩
    have hcl := hc c (List.mem_of_getElem? hcc)
    have e1 : e = encI c := by simpa [hcc] using he.symm
    subst e1
    have hlen := sts_len ls (i + 1)
    refine s_loc (fs' := [("lines", encL ls), ("signs", .obj 58 dS), ("self", .obj 177 dx), ("codes", encI c)]) (by kernel_rfl) .z (hfs.1 _) ?_
    walk_at "m_all"
    refine it_last (ds := sts ls (i + 1)) (.own (by walk_at "m_me")) (by walk_at "o") (sts_last ls i) (fun _ _ _ => by with_unfolding_all rfl) ?_
    walk_at "m_all"
    refine TC.tl (px1 (by walk_at "m_exd") (scanned (hB.le rfl) hcl ?_))
    walk_at "m_all"
    refine ⟨_, Mb.yes (e := encI c) (by kernel_rfl), ?_⟩
    rw [sts_succ, st_succ hcc]
    walk_at "m_sb"
  · rintro o ⟨fs, hfs, hs⟩
    rw [List.length_map] at hs
    refine th_next (Tf.selW hs ?_)
    walk_at "m_all"
    walk_at "m_ret"
end
section
variable {X : Cx} {A : Around} {P : D → OW → Prop} {ow : OW} {dS dx a : Addr} {ls os : List (List Int)}
theorem begin_of {k n : Nat} (hA : AOk 1 A) (hk : k < n) (hn : n ≤ 2000) (p : P (encSt (st ls k)) ((dx, .ns (lstN dS a)) :: (a, .list (sts ls n)) :: ow)) :
    TC X A (.ref 174) [.obj 177 dx, .int k] ((dx, .ns (lstN dS a)) :: (a, .list (sts ls n)) :: ow) P := by
  refine call_def (ns := ["self", "line"]) (fs := [("line", .int k), ("self", .obj 177 dx)]) hA (by walk_at "m_ho") (by kernel_rfl) (fun vs h => by obtain ⟨a, b, rfl⟩ := ar2 h; rfl) (by rfl) rfl (by rfl) rfl rfl rfl rfl ?_
  intro L B hB
  walk_at "m_all"
  refine it_list (ds := sts ls n) (.own (by walk_at "m_me")) (by walk_at "o") (by walk_at "o") (by rw [Int.toNat_natCast]; exact sts_get hk) (fun _ _ _ => by with_unfolding_all rfl) ?_
  walk_at "m_all"
  walk_at "m_ret"
theorem sts_take {ls : List (List Int)} {n k : Nat} (h : k ≤ n) : (sts ls n).take k = sts ls k := by
  rw [← List.map_take, List.take_range, Nat.min_eq_left h]
theorem op_eqS {B : Around} {s t : Int × Int} (hu : B.units + 64 < cLine) (p : P (.bool (decide (s = t))) ow) : T2 X B (compareOp .Eq) (encSt s) (encSt t) ow P := by
  refine op_eqD (q := (encSt s).py) (q' := (encSt t).py) hu (.d 1 (by decide) (by simp [D.rd])) (.d 1 (by decide) (by simp [D.rd])) ?_
  obtain ⟨s1, s2⟩ := s
  obtain ⟨t1, t2⟩ := t
  rw [show PyData.eqv (encSt (s1, s2)).py (encSt (t1, t2)).py = decide ((s1, s2) = (t1, t2)) by simp [D.py, pys, PyData.eqv, PyData.eqvAll]; rfl]
  exact p
theorem st_shift {ls os : List (List Int)} {i j : Nat} (h : st os i = st ls j) (hd : ∀ k, os[i + k]? = ls[j + k]?) : ∀ k, i + k ≤ os.length → st os (i + k) = st ls (j + k) := by
  intro k
  induction k with
  | zero => intro _; exact h
  | succ k ih =>
    intro hk
    have h1 := ih (by walk_at "o")
    have h2 := hd k
    obtain ⟨c, hc⟩ : ∃ c, os[i + k]? = some c := ⟨_, List.getElem?_eq_getElem (by walk_at "o")⟩
    rw [← Nat.add_assoc, ← Nat.add_assoc, st_succ hc, st_succ (h2 ▸ hc), h1]
theorem lines_changed {f g w : Nat} (hA : AOk 8 A) (hl : ls.length ≤ 900) (ho : os.length ≤ 900) (hc : ∀ c ∈ os, c.length ≤ 900) (hf : f + g ≤ ls.length) (hw : f + w ≤ os.length)
    (hpre : ∀ k, k ≤ f → st os k = st ls k) (hlen : os.length + g = ls.length + w) (hpost : ∀ k, f + w ≤ k → os[k]? = ls[k + g - w]?)
    (p : ∀ e a : Nat, f + w ≤ e → e ≤ os.length → (∀ k, f + w ≤ k → k < e → st os k ≠ st ls (k + g - w)) → (∀ k, e ≤ k → k < os.length → st os k = st ls (k + g - w)) →
      P (.int e) ((dx, .ns (lstN dS a)) :: (a, .list (sts os (os.length + 1))) :: sgn dS :: ow)) :
    TC X A (.ref 167) [.obj 177 dx, encL os, .int f, .int g, .int w] ((dx, .ns (lstN dS a)) :: (a, .list (sts ls (ls.length + 1))) :: sgn dS :: ow) P := by
  refine call_def (ns := ["self", "lines", "first", "old_many", "new_many"]) (fs := [("new_many", .int w), ("old_many", .int g), ("first", .int f), ("lines", encL os), ("self", .obj 177 dx)]) hA (by walk_at "m_ho") (by kernel_rfl) (fun vs h => by obtain ⟨a, b, c, d, e, rfl⟩ := ar5 h; rfl) (by rfl) rfl (by rfl) rfl rfl rfl rfl ?_
  intro L B hB
  have hl1 := sts_len ls (ls.length + 1)
  walk_at "m_all"
  refine ⟨_, .own (by walk_at "m_me"), by rw [sizeLine_eq]; omega, .own fun aF => ?_⟩
  rw [show pick (sts ls (ls.length + 1)) none (some ((f : Int) + 1)) = sts ls (f + 1) by
    unfold pick kms_lo kms_hi
    dsimp only
    rw [if_neg (by walk_at "o"), hl1, List.drop_zero, Nat.sub_zero, sts_take (by walk_at "o")]
    congr 1; omega]
  walk_at "m_all"
  refine st_while (fun n o => ∃ (t : Nat) (fs : List (Str × D)), n + t = os.length + 1 ∧ f ≤ t ∧ (∀ k, f + w ≤ k → k < t → st os k ≠ st ls (k + g - w)) ∧ Mb fs [("new_many", .int w), ("old_many", .int g), ("first", .int f), ("lines", encL os), ("self", .obj 177 dx), ("at", .int t), ("found", .own aF), ("old", .own a)] "behind" ∧
      Sel ((L, .fm fs) :: (aF, .list (sts os (min (t + 1) (os.length + 1)))) :: (dx, .ns (lstN dS a)) :: (a, .list (sts ls (ls.length + 1))) :: sgn dS :: ow) o) (os.length + 1 - f)
    ⟨f, _, by walk_at "o", Nat.le_refl _, fun k _ _ => by walk_at "o", Mb.no (by kernel_rfl), ?_⟩ ?_
  · rw [Nat.min_eq_left (by walk_at "o")]
    rw [show sts os (f + 1) = sts ls (f + 1) from List.map_congr_left fun k hk => by rw [hpre k (by have := List.mem_range.mp hk; walk_at "o")]]
    walk_at "m_sb"
  rintro n o ⟨t, fs, hn, hft, hne, hfs, hs⟩
  refine Tb.selW hs ?_
  walk_at "m_all"
  refine fn_len .fz (by simp; walk_at "o") ?_
  rw [List.length_map]
  walk_at "m_all"
  · rename_i h1 h2
    have h1 : t ≤ os.length := by simpa using h1
    have h2 : f + w ≤ t := by have := of_decide_eq_true h2; omega
    rw [Nat.min_eq_left (by walk_at "o")]
    refine it_last (ds := sts os (t + 1)) (.own (by walk_at "m_me")) (by rw [sts_len]; walk_at "o") (sts_last os t) (fun _ _ _ => by with_unfolding_all rfl) ?_
    walk_at "m_all"
    have ei : ((f : Int) + g + ((t : Int) - f - w)).toNat = t + g - w := by walk_at "o"
    refine it_list (ds := sts ls (ls.length + 1)) (.own (by walk_at "m_me")) (by walk_at "o") (by walk_at "o") (by rw [ei]; exact sts_get (by walk_at "o")) (fun _ _ _ => by with_unfolding_all rfl) ?_
    refine op_eqS hB.units64 ?_
    walk_at "m_all"
    · rename_i h3
      have h3 : st os t = st ls (t + g - w) := of_decide_eq_true h3
      refine ⟨_, .own (by walk_at "m_me"), by rw [sizeLine_eq, sts_len]; omega, .fz ?_⟩
      rw [show pick (sts ls (ls.length + 1)) (some ((f : Int) + g + ((t : Int) - f - w) + 1)) none = (sts ls (ls.length + 1)).drop (t + g - w + 1) by
        unfold pick kms_lo kms_hi
        dsimp only
        rw [if_neg (by walk_at "o"), sts_len, show min ((f : Int) + g + ((t : Int) - f - w) + 1).toNat (ls.length + 1) = t + g - w + 1 by walk_at "o"]
        exact List.take_of_length_le (by rw [List.length_drop, sts_len]; exact Nat.le_refl _)]
      refine op_cat (ds := sts os (t + 1)) (.own (by walk_at "m_me")) .fz (by rw [List.length_drop, sts_len, sts_len, sizeLine_eq]; walk_at "o") (.own fun aN => ?_)
      have hsh : ∀ k, t + k ≤ os.length → st os (t + k) = st ls (t + g - w + k) := st_shift h3 fun k => by rw [hpost _ (by walk_at "o")]; congr 1; omega
      rw [show sts os (t + 1) ++ (sts ls (ls.length + 1)).drop (t + g - w + 1) = sts os (os.length + 1) by
        apply List.ext_getElem?
        intro k
        by_cases hk : k < t + 1
        · rw [List.getElem?_append_left (by rw [sts_len]; exact hk), sts_get hk, sts_get (by walk_at "o")]
        · rw [List.getElem?_append_right (by rw [sts_len]; walk_at "o"), sts_len, List.getElem?_drop]
          by_cases hk2 : k < os.length + 1
          · rw [sts_get hk2, sts_get (by walk_at "o")]
            have := hsh (k - t) (by walk_at "o")
            rw [show t + (k - t) = k by walk_at "o"] at this
            rw [this, show t + g - w + 1 + (k - (t + 1)) = t + g - w + (k - t) by walk_at "o"]
          · rw [List.getElem?_eq_none (by rw [sts_len]; walk_at "o"), List.getElem?_eq_none (by rw [sts_len]; walk_at "o")]]
      walk_at "m_all"
      have p := p t aN h2 h1 hne fun k hk1 hk2 => by
        have := hsh (k - t) (by walk_at "o")
        rw [show t + (k - t) = k by walk_at "o", show t + g - w + (k - t) = k + g - w by walk_at "o"] at this
        exact this
      walk_at "m_ret"
    · rename_i h3
      have h3 : st os t ≠ st ls (t + g - w) := of_decide_eq_false h3
      have hne2 : ∀ k, f + w ≤ k → k < t + 1 → st os k ≠ st ls (k + g - w) := fun k hk1 hk2 => by
        rcases Nat.lt_or_ge k t with hk3 | hk3
        · exact hne k hk1 hk3
        · rw [show k = t by walk_at "o"]; exact h3
      refine fn_len .fz (by simp; walk_at "o") ?_
      rw [List.length_map]
      walk_at "m_all"
      · rename_i hlt
        have h9 : t < os.length := by simpa using hlt
        obtain ⟨c, hcc⟩ : ∃ c, os[t]? = some c := ⟨_, List.getElem?_eq_getElem h9⟩
        have hcl := hc c (List.mem_of_getElem? hcc)
        refine it_list .fz (by walk_at "o") (by walk_at "o") (by rw [Int.toNat_natCast, List.getElem?_map, hcc]; rfl) (fun _ _ _ => by with_unfolding_all rfl) ?_
        walk_at "m_all"
        refine it_last (ds := sts os (t + 1)) (.own (by walk_at "m_me")) (by rw [sts_len]; walk_at "o") (sts_last os t) (fun _ _ _ => by with_unfolding_all rfl) ?_
        have hlen := sts_len os (t + 1)
        walk_at "m_all"
        refine TC.tl (px1 (by walk_at "m_exd") (scanned (hB.le rfl) hcl ?_))
        walk_at "m_all"
        refine ⟨n - 1, by walk_at "o", t + 1, _, by walk_at "o", by walk_at "o", hne2, Mb.yes (e := .int ((t : Int) - f - w)) (by kernel_rfl), ?_⟩
        rw [Nat.min_eq_left (by walk_at "o"), sts_succ, st_succ hcc]
        walk_at "m_sb"
      · rename_i hlt
        have h9 : ¬ t < os.length := by simpa using hlt
        refine ⟨n - 1, by walk_at "o", t + 1, _, by walk_at "o", by walk_at "o", hne2, Mb.yes (e := .int ((t : Int) - f - w)) (by kernel_rfl), ?_⟩
        rw [Nat.min_eq_right (by walk_at "o"), show os.length + 1 = t + 1 by walk_at "o"]
        walk_at "m_sb"
  · rename_i h1 h2
    have h1 : t ≤ os.length := by simpa using h1
    have h2 : ¬ f + w ≤ t := by have := of_decide_eq_false h2; omega
    have hne2 : ∀ k, f + w ≤ k → k < t + 1 → st os k ≠ st ls (k + g - w) := fun k hk1 hk2 => by walk_at "o"
    rw [Nat.min_eq_left (by walk_at "o")]
    refine fn_len .fz (by simp; walk_at "o") ?_
    rw [List.length_map]
    walk_at "m_all"
    · rename_i hlt
      have h9 : t < os.length := by simpa using hlt
      obtain ⟨c, hcc⟩ : ∃ c, os[t]? = some c := ⟨_, List.getElem?_eq_getElem h9⟩
      have hcl := hc c (List.mem_of_getElem? hcc)
      refine it_list .fz (by walk_at "o") (by walk_at "o") (by rw [Int.toNat_natCast, List.getElem?_map, hcc]; rfl) (fun _ _ _ => by with_unfolding_all rfl) ?_
      walk_at "m_all"
      refine it_last (ds := sts os (t + 1)) (.own (by walk_at "m_me")) (by rw [sts_len]; walk_at "o") (sts_last os t) (fun _ _ _ => by with_unfolding_all rfl) ?_
      have hlen := sts_len os (t + 1)
      walk_at "m_all"
      refine TC.tl (px1 (by walk_at "m_exd") (scanned (hB.le rfl) hcl ?_))
      walk_at "m_all"
      refine ⟨n - 1, by walk_at "o", t + 1, _, by walk_at "o", by walk_at "o", hne2, Mb.yes (e := .int ((t : Int) - f - w)) (by kernel_rfl), ?_⟩
      rw [Nat.min_eq_left (by walk_at "o"), sts_succ, st_succ hcc]
      walk_at "m_sb"
    · rename_i hlt
      have h9 : ¬ t < os.length := by simpa using hlt
      refine ⟨n - 1, by walk_at "o", t + 1, _, by walk_at "o", by walk_at "o", hne2, Mb.yes (e := .int ((t : Int) - f - w)) (by kernel_rfl), ?_⟩
      rw [Nat.min_eq_right (by walk_at "o"), show os.length + 1 = t + 1 by walk_at "o"]
      walk_at "m_sb"
  · rename_i h1
    have h1 : ¬ t ≤ os.length := by simpa using h1
    refine fn_len .fz (by simp; walk_at "o") ?_
    rw [List.length_map, Nat.min_eq_right (by walk_at "o")]
    walk_at "m_all"
    have p := p os.length aF hw (Nat.le_refl _) (fun k hk1 hk2 => hne k hk1 (by walk_at "o")) fun k hk1 hk2 => by walk_at "o"
    walk_at "m_ret"
end
noncomputable def paintD (fl : List D) (b e : Nat) (x : D) : List D := fl.mapIdx fun i d => if b ≤ i ∧ i < e then x else d
theorem paintD_len (fl : List D) (b e : Nat) (x : D) : (paintD fl b e x).length = fl.length := by simp [paintD]
theorem paintD_get (fl : List D) (b e : Nat) (x : D) (i : Nat) : (paintD fl b e x)[i]? = (fl[i]?).map fun d => if b ≤ i ∧ i < e then x else d := by simp [paintD]
theorem paintD_none (fl : List D) (b e : Nat) (x : D) (h : e ≤ b) : paintD fl b e x = fl := by
  apply List.ext_getElem?
  intro i
  rw [paintD_get]
  cases fl[i]? with
  | none => rfl
  | some d => rw [Option.map_some, if_neg (by walk_at "o")]
theorem paintD_set (fl : List D) (b i : Nat) (x : D) (h : b + i < fl.length) : (paintD fl b (b + i) x).set (b + i) x = paintD fl b (b + (i + 1)) x := by
  apply List.ext_getElem?
  intro k
  rw [List.getElem?_set, paintD_get, paintD_get, paintD_len]
  by_cases hk : b + i = k
  · subst hk
    rw [if_pos rfl, if_pos h, List.getElem?_eq_getElem h, Option.map_some, if_pos (by walk_at "o")]
  · rw [if_neg hk]
    cases fl[k]? with
    | none => rfl
    | some d =>
      rw [Option.map_some, Option.map_some]
      by_cases h1 : b ≤ k ∧ k < b + i
      · rw [if_pos h1, if_pos (by walk_at "o")]
      · rw [if_neg h1, if_neg (by walk_at "o")]
section
variable {X : Cx} {A : Around} {P : D → OW → Prop} {ow : OW} {aF : Addr} {fl : List D}
theorem painted {b e : Nat} {face : Int} (hA : AOk 2 A) (hl : fl.length ≤ 900) (hb : b ≤ fl.length) (he : e ≤ fl.length) (p : P .none ((aF, .list (paintD fl b e (.lst [.int face]))) :: ow)) :
    TC X A (.ref 186) [.own aF, .int b, .int e, .int face, .int 1] ((aF, .list fl) :: ow) P := by
  refine call_cel (ns := ["faces", "start", "end", "face", "way"]) (fs := [("way", .int 1), ("face", .int face), ("end", .int e), ("start", .int b)]) (cl := fun L => [("faces", L + 1)]) (cells := fun L => [(L + 1, .cell (some (.own aF)))])
    hA (by walk_at "m_ho") (by kernel_rfl) (fun vs h => by obtain ⟨a, b, c, d, e, rfl⟩ := ar5 h; rfl) (by rfl) rfl (by decide) rfl rfl rfl (by rfl) (fun _ => rfl) (fun _ => rfl) ?_
  intro L B hB
  show Tf X B _ ((L, .fm _) :: (L + 1, .cell (some (.own aF))) :: (aF, .list fl) :: ow) _
  walk_at "m_all"
  · rename_i h; simp at h
  · refine st_forR hB.hh (fun _ => rfl) b e (by walk_at "o") (by walk_at "o") (fun i o => ∃ fs, Mb fs [("way", .int 1), ("face", .int face), ("end", .int e), ("start", .int b)] "at" ∧ Sel ((L, .fm fs) :: (L + 1, .cell (some (.own aF))) :: (aF, .list (paintD fl b (b + i) (.lst [.int face]))) :: ow) o) ?_ ?_ ?_
    · walk_at "m_all"
      refine ⟨rfl, _, Mb.no (by kernel_rfl), ?_⟩
      rw [paintD_none _ _ _ _ (by walk_at "o")]
      walk_at "m_sb"
    · rintro i o hi ⟨fs, hfs, hs⟩
      refine U1.selW hs ?_
      walk_at "m_all"
      refine op_in (is := [0, 1]) trivial (.inr rfl) ?_
      walk_at "m_all"
      · refine mk_list (.fz ?_) (by rw [sizeLine_eq]; simp)
        walk_at "m_all"
        refine' st_item (ds := paintD fl b (b + i) (.lst [.int face])) ?_ ?_ ?_ ?su ?_
        case su => walk_at "m_up"
        · omega
        · omega
        · rw [Int.toNat_natCast, paintD_len]; omega
        rw [Int.toNat_natCast, paintD_set _ _ _ _ (by walk_at "o")]
        walk_at "m_all"
        refine ⟨_, Mb.yes (e := .int ((b + i : Nat) : Int)) (by kernel_rfl), ?_⟩
        walk_at "m_sb"
      all_goals (rename_i h; simp at h)
    · rintro o ⟨fs, hfs, hs⟩
      refine th_next (Tf.selW hs ?_)
      rw [show paintD fl b (b + (e - b)) (.lst [.int face]) = paintD fl b e (.lst [.int face]) by
        rcases Nat.lt_or_ge e b with h | h
        · rw [paintD_none _ _ _ _ (by walk_at "o"), paintD_none _ _ _ _ (by walk_at "o")]
        · rw [Nat.add_sub_cancel' h]]
      walk_at "m_all"
      walk_at "m_ret"
end
noncomputable def SpOk (n : Nat) (q : Int × Int × Int) : Prop := 0 ≤ q.1 ∧ q.1 ≤ n ∧ 0 ≤ q.2.1 ∧ q.2.1 ≤ n
noncomputable def faceOf (k : Int) : Int := if k = 2 then 8 else 7
noncomputable def paintAll (sp : List (Int × Int × Int)) (fl : List D) : List D := sp.foldl (fun fl q => paintD fl q.1.toNat q.2.1.toNat (.lst [.int (faceOf q.2.2)])) fl
noncomputable def facesD (sp : List (Int × Int × Int)) (n : Nat) : List D := paintAll sp (List.replicate n (.lst []))
theorem paintAll_len (sp : List (Int × Int × Int)) (fl : List D) : (paintAll sp fl).length = fl.length := by
  induction sp generalizing fl with
  | nil => rfl
  | cons q sp ih => rw [paintAll, List.foldl_cons]; exact (ih _).trans (paintD_len ..)
theorem facesD_len (sp : List (Int × Int × Int)) (n : Nat) : (facesD sp n).length = n := (paintAll_len ..).trans (List.length_replicate ..)
theorem paintAll_snoc (sp : List (Int × Int × Int)) (q : Int × Int × Int) (fl : List D) : paintAll (sp ++ [q]) fl = paintD (paintAll sp fl) q.1.toNat q.2.1.toNat (.lst [.int (faceOf q.2.2)]) := by
  rw [paintAll, List.foldl_append]; rfl
theorem leave_sp {n : Nat} {m : Int} {a b : Nat} {sp : List (Int × Int × Int)} (h : ∀ q ∈ sp, SpOk n q) (ha : a ≤ n) (hb : b ≤ n) : ∀ q ∈ leaveSp m a b sp, SpOk n q := by
  unfold leaveSp
  split
  · intro q hq
    rcases List.mem_append.mp hq with hq | hq
    · exact h q hq
    · rw [List.mem_singleton] at hq; subst hq; unfold SpOk; dsimp only; omega
  · exact h
theorem step_sp {c : List Int} {s : Sc} (h : ∀ q ∈ s.sp, SpOk c.length q) (hb : s.b ≤ c.length) (ha : s.a < c.length) : (∀ q ∈ (stepSc c s).sp, SpOk c.length q) ∧ (stepSc c s).b ≤ c.length := by
  have q1 := leave_sp (m := s.m) h (show s.a + 1 ≤ c.length by walk_at "o") hb
  unfold stepSc inCode inString inComment
  repeat' split
  all_goals first
    | exact ⟨h, by dsimp only; omega⟩
    | exact ⟨q1, by dsimp only; omega⟩
    | (refine ⟨fun q hq => ?_, by dsimp only; omega⟩
       rcases List.mem_append.mp hq with hq | hq
       · exact h q hq
       · rw [List.mem_singleton] at hq; subst hq; unfold SpOk; dsimp only; walk_at "o")
theorem run_sp {c : List Int} : ∀ (n : Nat) {s : Sc}, (∀ q ∈ s.sp, SpOk c.length q) → s.b ≤ c.length → (∀ q ∈ (runN c n s).sp, SpOk c.length q) ∧ (runN c n s).b ≤ c.length
  | 0, s, h, hb => ⟨h, hb⟩
  | n + 1, s, h, hb => by
    rw [runN]
    split
    · rename_i ha
      obtain ⟨h1, h2⟩ := step_sp h hb ha
      exact run_sp n h1 h2
    · exact ⟨h, hb⟩
theorem scan_sp (c : List Int) (m k : Int) : ∀ q ∈ (scanF c m k).sp, SpOk c.length q := by
  obtain ⟨h1, h2⟩ := run_sp (c := c) c.length (s := ⟨m, k, 0, 0, []⟩) (fun _ h => absurd h List.not_mem_nil) (Nat.zero_le _)
  exact leave_sp h1 (Nat.le_refl _) h2
theorem pt_in {base l l' : List (Str × D)} {y : Str} {e : D} (h : ∀ p ∈ base, (p.1 == y) = false) (k : Pt l y e l') : Pt (base ++ l) y e (base ++ l') := by
  induction base with
  | nil => exact k
  | cons p r ih => exact .s (h p (.head _)) (ih fun q hq => h q (.tail _ hq))
theorem all_ne {base : List (Str × D)} {y : Str} (h : (base.all fun p => !(p.1 == y)) = true) : ∀ p ∈ base, (p.1 == y) = false := fun p hp => by simpa using List.all_eq_true.mp h p hp
theorem M3.no {base : List (Str × D)} {x y z : Str} (hx : (base.all fun p => !(p.1 == x)) = true) (hy : (base.all fun p => !(p.1 == y)) = true) (hz : (base.all fun p => !(p.1 == z)) = true) (h1 : (x == y) = false) (h2 : (x == z) = false) (h3 : (y == z) = false) : M3 base base x y z :=
  ⟨fun e1 e2 e3 => ⟨base ++ [(x, e1)], base ++ [(x, e1), (y, e2)], pt_new (all_ne hx), pt_in (all_ne hy) (.s h1 .n), pt_in (all_ne hz) (.s h2 (.s h3 .n))⟩, fun _ _ h => h⟩
theorem M3.yes {base : List (Str × D)} {x y z : Str} {d1 d2 d3 : D} (hx : (base.all fun p => !(p.1 == x)) = true) (hy : (base.all fun p => !(p.1 == y)) = true) (hz : (base.all fun p => !(p.1 == z)) = true) (h1 : (x == y) = false) (h2 : (x == z) = false) (h3 : (y == z) = false) : M3 (base ++ [(x, d1), (y, d2), (z, d3)]) base x y z :=
  ⟨fun e1 e2 e3 => ⟨base ++ [(x, e1), (y, d2), (z, d3)], base ++ [(x, e1), (y, e2), (z, d3)], pt_in (all_ne hx) .z, pt_in (all_ne hy) (.s h1 .z), pt_in (all_ne hz) (.s h2 (.s h3 .z))⟩, fun _ _ h => lk_app h⟩
section
variable {X : Cx} {A : Around} {P : D → OW → Prop} {ow : OW} {dS : Addr} {c : List Int} {m k : Int}
noncomputable abbrev fsF (c : List Int) (m k : Int) (dS a : Addr) : List (Str × D) := [("comment_face", .int 8), ("string_face", .int 7), ("state", encS m k), ("codes", encI c), ("rules", .lst []), ("signs", .obj 58 dS), ("faces", .own a)]
theorem line_faces (hA : AOk 8 A) (hc : c.length ≤ 900) (p : P (.lst (facesD (scanF c m k).sp c.length)) (sgn dS :: ow)) :
    TC X A (.ref 205) [.obj 58 dS, .lst [], encI c, encS m k, .int 7, .int 8] (sgn dS :: ow) P := by
  refine call_def (ns := ["signs", "rules", "codes", "state", "string_face", "comment_face"]) (fs := [("comment_face", .int 8), ("string_face", .int 7), ("state", encS m k), ("codes", encI c), ("rules", .lst []), ("signs", .obj 58 dS)])
    hA (by walk_at "m_ho") (by kernel_rfl) (fun vs h => by obtain ⟨a, b, c, d, e, f, rfl⟩ := ar6 h; rfl) (by rfl) rfl (by rfl) rfl rfl rfl rfl ?_
  intro L B hB
  walk_at "m_all"
  refine ex_comp (n := (c.map D.int).length) (item := fun i => (c.map D.int).getD i .none) (by with_unfolding_all rfl) (fun _ => rfl) (by with_unfolding_all rfl) (by decide) rfl (by decide) (by with_unfolding_all rfl) (by rw [List.length_map, sizeLine_eq]; walk_at "o")
    (fun i ys o => ys = List.replicate i (.lst []) ∧ Sel ((L, .fm [("comment_face", .int 8), ("string_face", .int 7), ("state", encS m k), ("codes", encI c), ("rules", .lst []), ("signs", .obj 58 dS)]) :: sgn dS :: ow) o) ?_ ?_ ?_
  · walk_at "m_all"
    exact ⟨itr_list hB.hh, rfl, .refl⟩
  · rintro i ys o C hi ⟨rfl, hs⟩ _
    refine Tv.selP ?_
    walk_at "m_all"
    refine mk_list (.fz ?_) (Nat.zero_le _)
    exact ⟨_, .refl, by rw [List.length_replicate]; exact hi, _, rfl, by rw [List.replicate_succ'], hs⟩
  · rintro ys o ⟨rfl, hs⟩
    rw [List.length_map]
    refine .own fun a => ?_
    refine U1.selW (.take .z hs) ?_
    walk_at "m_all"
    have hsp := scan_sp c m k
    generalize hspe : (scanF c m k).sp = sp at p hsp
    refine st_forT hB.hh (fun _ => rfl) (sp.map fun q => [.int q.1, .int q.2.1, .int q.2.2]) (fun i o => ∃ fs, M3 fs (fsF c m k dS a) "start" "end" "sort" ∧ Sel ((L, .fm fs) :: (a, .list (facesD (sp.take i) c.length)) :: sgn dS :: ow) o) ?_ ?_ ?_
    · walk_at "m_all"
      refine TC.tl (px1 (by walk_at "m_exd") (scanned (hB.le rfl) hc ?_))
      walk_at "m_all"
      rw [hspe]
      refine ⟨by rw [List.map_map]; rfl, fsF c m k dS a, M3.no (by kernel_rfl) (by kernel_rfl) (by kernel_rfl) (by kernel_rfl) (by kernel_rfl) (by kernel_rfl), ?_⟩
      rw [show facesD (sp.take 0) c.length = List.replicate c.length (.lst []) by rw [List.take_zero]; rfl]
      walk_at "m_sb"
    · rintro i o e he ⟨fs, hfs, hs⟩
      refine U1.selW hs ?_
      obtain ⟨q, hq⟩ : ∃ q, sp[i]? = some q := by
        rw [List.getElem?_map] at he
        cases h : sp[i]? with
        | none => rw [h] at he; cases he
        | some q => exact ⟨q, rfl⟩
      have e1 : e = [.int q.1, .int q.2.1, .int q.2.2] := by rw [List.getElem?_map, hq] at he; exact (Option.some.inj he).symm
      subst e1
      obtain ⟨q1, q2, q3, q4⟩ := hsp q (List.mem_of_getElem? hq)
      obtain ⟨qb, qe, qk⟩ := q
      obtain ⟨b, rfl⟩ := Int.eq_ofNat_of_zero_le q1
      obtain ⟨e, rfl⟩ := Int.eq_ofNat_of_zero_le q3
      dsimp only at q2 q4
      obtain ⟨f1, f2, h1, h2, h3⟩ := hfs.1 (.int (b : Int)) (.int (e : Int)) (.int qk)
      refine as_tup3 hB.hh (s_loc (by kernel_rfl) .z h1 (s_loc (by kernel_rfl) .z h2 (s_loc (fs' := [("comment_face", .int 8), ("string_face", .int 7), ("state", encS m k), ("codes", encI c), ("rules", .lst []), ("signs", .obj 58 dS), ("faces", .own a), ("start", .int (b : Int)), ("end", .int (e : Int)), ("sort", .int qk)]) (by kernel_rfl) .z h3 ?_)))
      walk_at "m_all"
      · rename_i h
        have h : qk = 2 := by simpa using h
        have e2 : faceOf qk = 8 := by rw [faceOf, if_pos h]
        refine TC.tl (px1 (by walk_at "m_exd") (painted (fl := facesD (sp.take i) c.length) (b := b) (e := e) (hB.le rfl) (by rw [facesD_len]; exact hc) (by rw [facesD_len]; walk_at "o") (by rw [facesD_len]; walk_at "o") ?_))
        walk_at "m_all"
        refine ⟨_, M3.yes (base := fsF c m k dS a) (d1 := .int (b : Int)) (d2 := .int (e : Int)) (d3 := .int qk) (by kernel_rfl) (by kernel_rfl) (by kernel_rfl) (by kernel_rfl) (by kernel_rfl) (by kernel_rfl), ?_⟩
        rw [List.take_add_one, hq, show facesD (sp.take i ++ (some ((b : Int), (e : Int), qk)).toList) c.length = paintD (facesD (sp.take i) c.length) b e (.lst [.int (faceOf qk)]) from paintAll_snoc .., e2]
        walk_at "m_sb"
      · rename_i h
        have h : ¬ qk = 2 := by simpa using h
        have e2 : faceOf qk = 7 := by rw [faceOf, if_neg h]
        refine TC.tl (px1 (by walk_at "m_exd") (painted (fl := facesD (sp.take i) c.length) (b := b) (e := e) (hB.le rfl) (by rw [facesD_len]; exact hc) (by rw [facesD_len]; walk_at "o") (by rw [facesD_len]; walk_at "o") ?_))
        walk_at "m_all"
        refine ⟨_, M3.yes (base := fsF c m k dS a) (d1 := .int (b : Int)) (d2 := .int (e : Int)) (d3 := .int qk) (by kernel_rfl) (by kernel_rfl) (by kernel_rfl) (by kernel_rfl) (by kernel_rfl) (by kernel_rfl), ?_⟩
        rw [List.take_add_one, hq, show facesD (sp.take i ++ (some ((b : Int), (e : Int), qk)).toList) c.length = paintD (facesD (sp.take i) c.length) b e (.lst [.int (faceOf qk)]) from paintAll_snoc .., e2]
        walk_at "m_sb"
    · rintro o ⟨fs, hfs, hs⟩
      rw [List.length_map, List.take_length] at hs
      refine th_next (Tf.selW hs ?_)
      walk_at "m_all"
      refine st_forL hB.hh (fun _ => rfl) [] (fun i o => o = (L, .fm fs) :: (a, .list (facesD sp c.length)) :: sgn dS :: ow) ?_ ?_ ?_
      · refine n_loc (by kernel_rfl) (by walk_at "m_me") (hfs.2 _ (.lst []) (by walk_at "m_lk")) ?_
        exact ⟨rfl, rfl⟩
      · intro i o e he; cases he
      · rintro o rfl
        walk_at "m_all"
        refine gh_fz (n_loc (by kernel_rfl) (by walk_at "m_me") (hfs.2 _ (.own a) (by walk_at "m_lk")) ⟨_, _, _, rfl, .s .z, ?_⟩)
        walk_at "m_all"
        walk_at "m_ret"
end
/-- a frame in which three names more may stand, the third told apart -/
noncomputable def M2w (fs base : List (Str × D)) (x y z : Str) : Prop := ∀ e1 e2, ∃ f1 f2, Pt fs x e1 f1 ∧ Pt f1 y e2 f2 ∧ Mb f2 (base ++ [(x, e1), (y, e2)]) z
theorem all_app {base : List (Str × D)} {x y z : Str} {e1 e2 : D} (hz : (base.all fun p => !(p.1 == z)) = true) (h2 : (x == z) = false) (h3 : (y == z) = false) : ((base ++ [(x, e1), (y, e2)]).all fun p => !(p.1 == z)) = true := by
  rw [List.all_append, hz]; simp [h2, h3]
theorem M2w.no {base : List (Str × D)} {x y z : Str} (hx : (base.all fun p => !(p.1 == x)) = true) (hy : (base.all fun p => !(p.1 == y)) = true) (hz : (base.all fun p => !(p.1 == z)) = true) (h1 : (x == y) = false) (h2 : (x == z) = false) (h3 : (y == z) = false) : M2w base base x y z :=
  fun e1 e2 => ⟨base ++ [(x, e1)], base ++ [(x, e1), (y, e2)], pt_new (all_ne hx), pt_in (all_ne hy) (.s h1 .n), Mb.no (all_app hz h2 h3)⟩
theorem M2w.yes {base : List (Str × D)} {x y z : Str} {d1 d2 d3 : D} (hx : (base.all fun p => !(p.1 == x)) = true) (hy : (base.all fun p => !(p.1 == y)) = true) (hz : (base.all fun p => !(p.1 == z)) = true) (h1 : (x == y) = false) (h2 : (x == z) = false) (h3 : (y == z) = false) : M2w (base ++ [(x, d1), (y, d2), (z, d3)]) base x y z :=
  fun e1 e2 => ⟨base ++ [(x, e1), (y, d2), (z, d3)], base ++ [(x, e1), (y, e2), (z, d3)], pt_in (all_ne hx) .z, pt_in (all_ne hy) (.s h1 .z), by
    have := Mb.yes (e := d3) (all_app (e1 := e1) (e2 := e2) hz h2 h3)
    rw [List.append_assoc] at this
    exact this⟩
theorem as_tup4 {X : Cx} {A : Around} {env : Env} {ow : OW} {PU : OW → Prop} {x1 x2 x3 x4 : Str} {p1 p2 p3 p4 p : Pos} {k : Nat} {d1 d2 d3 d4 : D} (hh : A.handled = none)
    (x : U1 X A (storeName env x1) d1 ow (fun o => U1 X A (storeName env x2) d2 o (fun o => U1 X A (storeName env x3) d3 o (fun o => U1 X A (storeName env x4) d4 o PU)))) :
    U1 X A (assign (.Tuple [.Name x1 p1, .Name x2 p2, .Name x3 p3, .Name x4 p4] k p) env) (.tup [d1, d2, d3, d4]) ow PU :=
  as_tup (ts := [assign (.Name x1 p1) env, assign (.Name x2 p2) env, assign (.Name x3 p3) env, assign (.Name x4 p4) env]) hh (by with_unfolding_all rfl) (by with_unfolding_all rfl) (by with_unfolding_all rfl)
    (ao_cons (as_name (x.mono fun o x => ao_cons (as_name (x.mono fun o x => ao_cons (as_name (x.mono fun o x => ao_cons (as_name (x.mono fun o x => ao_nil x)))))))))
theorem Tb.mono {X : Cx} {A : Around} {t : Sem Bool} {ow : OW} {P Q : Bool → OW → Prop} (x : Tb X A t ow P) (k : ∀ b o, P b o → Q b o) : Tb X A t ow Q := fun dt fr h S => (x dt fr h S).mono fun _ _ y => y.mono (k _)
theorem tr_andP {X : Cx} {A : Around} {env : Env} {pos : Pos} {ow : OW} {PB : Bool → OW → Prop} {e : Expr} {rest : List Expr} {whole : Sem Value} {b1 b2 : Bool} (h1 : Tb X A (isTrue e env (eval e env)) ow (fun b o => b = b1 ∧ o = ow))
    (h2 : Tb X A (isTrue (.BoolOp .And rest pos) env whole) ow (fun b o => b = b2 ∧ o = ow)) (p : PB (b1 && b2) ow) : Tb X A (isTrue (.BoolOp .And (e :: rest) pos) env whole) ow PB :=
  tr_and (h1.mono fun b o ⟨eb, eo⟩ => by
    subst eb eo
    cases b with
    | true => exact h2.mono fun b o ⟨eb, eo⟩ => by subst eb eo; exact p
    | false => exact p)
theorem tv_std {X : Cx} {A : Around} {t : Sem Value} {ow : OW} {P : D → OW → Prop} {pos : Pos} (x : Tv X A t ow P) : Tv X A (do let x ← t; standAt pos; pure x) ow P := fun dt fr h S s hs =>
  wpAny_bind (wpAny_mono (x dt fr h S s hs) (fun v s' y => wpAny_bind (wpAny_standAt (wpAny_pure y))) fun _ _ e => e)
theorem ev_dict3 {X : Cx} {A : Around} {env : Env} {ow : OW} {P : D → OW → Prop} {pos : Pos} {k1 k2 k3 v1 v2 v3 : Expr}
    (hs : (evalEachOpt [some k1, some k2, some k3] env).zip ((evalEach [v1, v2, v3] env).map fun v => do let x ← v; standAt pos; pure x) = [(some (eval k1 env), do let x ← eval v1 env; standAt pos; pure x), (some (eval k2 env), do let x ← eval v2 env; standAt pos; pure x), (some (eval k3 env), do let x ← eval v3 env; standAt pos; pure x)])
    (x : Tv X A (eval k1 env) ow (fun dk o => ∃ s1, dk = .str s1 ∧ Tv X A (eval v1 env) o (fun d1 o => Tv X A (eval k2 env) o (fun dk o => ∃ s2, dk = .str s2 ∧ Tv X A (eval v2 env) o (fun d2 o => Tv X A (eval k3 env) o (fun dk o => ∃ s3, dk = .str s3 ∧ Tv X A (eval v3 env) o (fun d3 o => [s1, s2, s3].Nodup ∧ ∀ a, P (.own a) ((a, .dic [(s1, d1), (s2, d2), (s3, d3)]) :: o)))))))) :
    Tv X A (eval (.Dict [some k1, some k2, some k3] [v1, v2, v3] pos) env) ow P :=
  ev_dict (pairs := [(eval k1 env, do let x ← eval v1 env; standAt pos; pure x), (eval k2 env, do let x ← eval v2 env; standAt pos; pure x), (eval k3 env, do let x ← eval v3 env; standAt pos; pure x)]) hs (by simp) (by simp)
    (x.mono fun _ _ ⟨s1, e1, y⟩ => ⟨s1, e1, tv_std (y.mono fun d1 _ y => y.mono fun _ _ ⟨s2, e2, y⟩ => ⟨s2, e2, tv_std (y.mono fun d2 _ y => y.mono fun _ _ ⟨s3, e3, y⟩ => ⟨s3, e3, tv_std (y.mono fun d3 _ y => y)⟩)⟩)⟩)
/-- a frame in which two names more may stand, the second told apart -/
noncomputable def M1w (fs base : List (Str × D)) (x z : Str) : Prop := ∀ e, ∃ f1, Pt fs x e f1 ∧ Mb f1 (base ++ [(x, e)]) z
theorem all_app1 {base : List (Str × D)} {x z : Str} {e : D} (hz : (base.all fun p => !(p.1 == z)) = true) (h : (x == z) = false) : ((base ++ [(x, e)]).all fun p => !(p.1 == z)) = true := by
  rw [List.all_append, hz]; simp [h]
theorem M1w.no {base : List (Str × D)} {x z : Str} (hx : (base.all fun p => !(p.1 == x)) = true) (hz : (base.all fun p => !(p.1 == z)) = true) (h : (x == z) = false) : M1w base base x z :=
  fun e => ⟨base ++ [(x, e)], pt_new (all_ne hx), Mb.no (all_app1 hz h)⟩
theorem M1w.yes {base : List (Str × D)} {x z : Str} {d1 d2 : D} (hx : (base.all fun p => !(p.1 == x)) = true) (hz : (base.all fun p => !(p.1 == z)) = true) (h : (x == z) = false) : M1w (base ++ [(x, d1), (z, d2)]) base x z :=
  fun e => ⟨base ++ [(x, e), (z, d2)], pt_in (all_ne hx) .z, by
    have := Mb.yes (e := d2) (all_app1 (e := e) hz h)
    rw [List.append_assoc] at this
    exact this⟩
noncomputable abbrev fontN (dS dL aF : Addr) (lk : Int) : List (Str × D) := [("signs", .obj 58 dS), ("rules", .lst []), ("string_face", .int 7), ("comment_face", .int 8), ("states", .obj 177 dL), ("faces", .own aF), ("looked", .int lk)]
noncomputable def faceLn (ls : List (List Int)) (i : Nat) : List D := facesD (scanF (ls.getD i []) (st ls i).1 (st ls i).2).sp (ls.getD i []).length
noncomputable def facs (ls : List (List Int)) (kn : Nat → Bool) : List D := (List.range ls.length).map fun i => if kn i then .lst (faceLn ls i) else .none
theorem facs_len (ls : List (List Int)) (kn : Nat → Bool) : (facs ls kn).length = ls.length := by simp [facs]
theorem facs_get {ls : List (List Int)} {kn : Nat → Bool} {i : Nat} (h : i < ls.length) : (facs ls kn)[i]? = some (if kn i then .lst (faceLn ls i) else .none) := by simp [facs, h]
noncomputable abbrev fontR (dF dL aS aF dS : Addr) (lk : Int) (ls : List (List Int)) (kn : Nat → Bool) (ow : OW) : OW :=
  (dF, .ns (fontN dS dL aF lk)) :: (dL, .ns (lstN dS aS)) :: (aS, .list (sts ls (ls.length + 1))) :: (aF, .list (facs ls kn)) :: sgn dS :: ow
section
variable {X : Cx} {A : Around} {P : D → OW → Prop} {ow : OW} {dF dL aS aF dS : Addr} {lk : Int} {ls : List (List Int)} {kn : Nat → Bool}
theorem font_init (hA : AOk 11 A) (hl : ls.length ≤ 900) (hc : ∀ c ∈ ls, c.length ≤ 900) (p : ∀ dL aS aF, P .none (fontR dF dL aS aF dS 0 ls (fun _ => false) ow)) :
    TC X A (.ref 217) [.obj 246 dF, .obj 58 dS, .lst [], .int 7, .int 8, encL ls] ((dF, .ns []) :: sgn dS :: ow) P := by
  refine call_def (ns := ["self", "signs", "rules", "string_face", "comment_face", "lines"]) (fs := [("lines", encL ls), ("comment_face", .int 8), ("string_face", .int 7), ("rules", .lst []), ("signs", .obj 58 dS), ("self", .obj 246 dF)])
    hA (by walk_at "m_ho") (by kernel_rfl) (fun vs h => by obtain ⟨a, b, c, d, e, f, rfl⟩ := ar6 h; rfl) (by rfl) rfl (by rfl) rfl rfl rfl rfl ?_
  intro L B hB
  walk_at "m_all"
  refine TC.tl ?_
  refine TC.perm (ow' := sgn dS :: (L, .fm [("lines", encL ls), ("comment_face", .int 8), ("string_face", .int 7), ("rules", .lst []), ("signs", .obj 58 dS), ("self", .obj 246 dF)]) :: (dF, .ns [("signs", .obj 58 dS), ("rules", .lst []), ("string_face", .int 7), ("comment_face", .int 8)]) :: ow) ?_ (List.perm_middle (l₁ := [_, _]))
  refine call_make (n := 9) (hB.le rfl) (by kernel_rfl) (by kernel_rfl) (by kernel_rfl) fun dL A' hA' => lines_init (hA'.le rfl) hl hc fun aS => ⟨rfl, ?_⟩
  have p := p dL aS
  walk_at "m_all"
  refine ev_comp (n := (ls.map encI).length) (item := fun i => (ls.map encI).getD i .none) (fun _ => rfl) (by with_unfolding_all rfl) (by decide) rfl (by decide) (by with_unfolding_all rfl) (by rw [List.length_map, sizeLine_eq]; walk_at "o")
    (fun i ys o => ys = List.replicate i .none ∧ Sel ((L, .fm [("lines", encL ls), ("comment_face", .int 8), ("string_face", .int 7), ("rules", .lst []), ("signs", .obj 58 dS), ("self", .obj 246 dF)]) :: (dF, .ns [("signs", .obj 58 dS), ("rules", .lst []), ("string_face", .int 7), ("comment_face", .int 8), ("states", .obj 177 dL)]) :: (dL, .ns (lstN dS aS)) :: (aS, .list (sts ls (ls.length + 1))) :: sgn dS :: ow) o) ?_ ?_ ?_
  · walk_at "m_all"
    exact ⟨itr_list hB.hh, rfl, by walk_at "m_sb"⟩
  · rintro i ys o C hi ⟨rfl, hs⟩ _
    refine Tv.selP ?_
    walk_at "m_all"
    exact ⟨_, .refl, by rw [List.length_replicate]; exact hi, _, rfl, by rw [List.replicate_succ'], hs⟩
  · rintro ys o ⟨rfl, hs⟩
    rw [List.length_map]
    refine .own fun aF => ?_
    have p := p aF
    refine Tv.selW (.take .z hs) ?_
    rw [show List.replicate ls.length D.none = facs ls (fun _ => false) by
      apply List.ext_getElem?
      intro i
      by_cases hi : i < ls.length
      · rw [facs_get hi, List.getElem?_replicate, if_pos hi]; rfl
      · rw [List.getElem?_eq_none (by simp; walk_at "o"), List.getElem?_eq_none (by rw [facs_len]; walk_at "o")]]
    walk_at "m_all"
    walk_at "m_ret"
end
section
variable {X : Cx} {A : Around} {P : D → OW → Prop} {ow : OW} {dF dL aS aF dS : Addr} {lk : Int} {ls : List (List Int)} {kn : Nat → Bool}
theorem facs_set {n : Nat} (h : n < ls.length) : (facs ls kn).set n (.lst (faceLn ls n)) = facs ls (fun i => i == n || kn i) := by
  apply List.ext_getElem?
  intro i
  rw [List.getElem?_set, facs_len]
  by_cases hi : i < ls.length
  · rw [facs_get hi, facs_get hi]
    by_cases e : n = i
    · subst e; simp [h]
    · have : (i == n) = false := by simp; omega
      rw [if_neg e, this]; rfl
  · rw [if_neg (by walk_at "o"), List.getElem?_eq_none (by rw [facs_len]; walk_at "o"), List.getElem?_eq_none (by rw [facs_len]; walk_at "o")]
theorem look {n : Nat} (hA : AOk 11 A) (hl : ls.length ≤ 900) (hc : ∀ c ∈ ls, c.length ≤ 900) (hn : n < ls.length) (p : P (.lst (faceLn ls n)) (fontR dF dL aS aF dS (lk + if kn n then 0 else 1) ls (fun i => i == n || kn i) ow)) :
    TC X A (.ref 224) [.obj 246 dF, encL ls, .int n] (fontR dF dL aS aF dS lk ls kn ow) P := by
  obtain ⟨c, hcc⟩ : ∃ c, ls[n]? = some c := ⟨_, List.getElem?_eq_getElem hn⟩
  have hcl := hc c (List.mem_of_getElem? hcc)
  have hfc : faceLn ls n = facesD (scanF c (st ls n).1 (st ls n).2).sp c.length := by rw [faceLn, List.getD_eq_getElem?_getD, hcc]; rfl
  refine call_def (ns := ["self", "lines", "line"]) (fs := [("line", .int n), ("lines", encL ls), ("self", .obj 246 dF)])
    hA (by walk_at "m_ho") (by kernel_rfl) (fun vs h => by obtain ⟨a, b, c, rfl⟩ := ar3 h; rfl) (by rfl) rfl (by rfl) rfl rfl rfl rfl ?_
  intro L B hB
  walk_at "m_all"
  refine it_list (ds := facs ls kn) (.own (by walk_at "m_me")) (by walk_at "o") (by walk_at "o") (by rw [Int.toNat_natCast]; exact facs_get hn) (fun _ _ _ => by with_unfolding_all rfl) ?_
  walk_at "m_all"
  cases hk : kn n with
  | false =>
    rw [hk] at p
    refine op_isNone rfl ?_
    walk_at "m_all"
    · refine TC.tl (px2 (by walk_at "m_exd") (by walk_at "m_exd") (begin_of (n := ls.length + 1) (hB.le rfl) (by walk_at "o") (by walk_at "o") ?_))
      walk_at "m_all"
      refine it_list .fz (by walk_at "o") (by walk_at "o") (by rw [Int.toNat_natCast, List.getElem?_map, hcc]; rfl) (fun _ _ _ => by with_unfolding_all rfl) ?_
      walk_at "m_all"
      refine TC.tl (px1 (by walk_at "m_exd") (line_faces (hB.le rfl) hcl ?_))
      rw [← hfc]
      walk_at "m_all"
      refine' st_item (ds := facs ls kn) ?_ ?_ ?_ ?su ?_
      case su => walk_at "m_up"
      · omega
      · omega
      · rw [Int.toNat_natCast, facs_len]; exact hn
      rw [Int.toNat_natCast, facs_set hn]
      walk_at "m_all"
      have hg : (facs ls (fun i => i == n || kn i))[n]? = some (.lst (faceLn ls n)) := by rw [facs_get hn]; simp
      refine it_list (ds := facs ls (fun i => i == n || kn i)) (y := .lst (faceLn ls n)) (.own (by walk_at "m_me")) (by walk_at "o") (by walk_at "o") (by rw [Int.toNat_natCast]; exact hg) (fun _ _ _ => by with_unfolding_all rfl) ?_
      walk_at "m_all"
      walk_at "m_ret"
    · rename_i h; cases h
  | true =>
    rw [hk] at p
    refine op_isNone rfl ?_
    walk_at "m_all"
    · rename_i h; cases h
    · have hg : (facs ls kn)[n]? = some (.lst (faceLn ls n)) := by rw [facs_get hn, hk]; rfl
      refine it_list (ds := facs ls kn) (y := .lst (faceLn ls n)) (.own (by walk_at "m_me")) (by walk_at "o") (by walk_at "o") (by rw [Int.toNat_natCast]; exact hg) (fun _ _ _ => by with_unfolding_all rfl) ?_
      walk_at "m_all"
      rw [show (fun i => i == n || kn i) = kn by funext i; by_cases e : i = n; subst e; simp [hk]; simp [e], show lk + (if true = true then (0 : Int) else 1) = lk by simp] at p
      walk_at "m_ret"
end
noncomputable def intsOf (l : List Nat) : List D := l.map fun (i : Nat) => D.int i
structure Chg (ls os : List (List Int)) (f g w : Nat) : Prop where
  hf : f + g ≤ ls.length
  hw : f + w ≤ os.length
  hlen : os.length + g = ls.length + w
  pre : ∀ k, k < f → os[k]? = ls[k]?
  post : ∀ k, f + w ≤ k → os[k]? = ls[k + g - w]?
theorem Chg.st {ls os : List (List Int)} {f g w : Nat} (h : Chg ls os f g w) : ∀ k, k ≤ f → st os k = st ls k
  | 0, _ => rfl
  | k + 1, hk => by
    obtain ⟨c, hc⟩ : ∃ c, ls[k]? = some c := ⟨_, List.getElem?_eq_getElem (by have := h.hf; walk_at "o")⟩
    have e := h.pre k (by walk_at "o")
    rw [st_succ hc, st_succ (e.trans hc), h.st k (by walk_at "o")]
noncomputable def knC (kn : Nat → Bool) (ls os : List (List Int)) (f g w : Nat) : Nat → Bool := fun k => if k < f then kn k else if k < f + w then false else kn (k + g - w) && decide (st ls (k + g - w) = st os k)
theorem faceLn_eq {ls os : List (List Int)} {i j : Nat} (h1 : os[i]? = ls[j]?) (h2 : st os i = st ls j) : faceLn os i = faceLn ls j := by
  unfold faceLn
  rw [List.getD_eq_getElem?_getD, List.getD_eq_getElem?_getD, h1, h2]
theorem facs_chg {ls os : List (List Int)} {f g w e : Nat} {kn : Nat → Bool} (h : Chg ls os f g w) (he : f + w ≤ e) (hne : ∀ k, f + w ≤ k → k < e → st os k ≠ st ls (k + g - w)) (heq : ∀ k, e ≤ k → k < os.length → st os k = st ls (k + g - w)) :
    paintD ((facs ls kn).take f ++ List.replicate w .none ++ (facs ls kn).drop (f + g)) (f + w) e .none = facs os (knC kn ls os f g w) := by
  have hf := h.hf
  have hw := h.hw
  have hl := h.hlen
  apply List.ext_getElem?
  intro k
  rw [paintD_get]
  have htk : ((facs ls kn).take f).length = f := by rw [List.length_take, facs_len]; omega
  by_cases hk : k < os.length
  · rw [facs_get hk, knC]
    by_cases h1 : k < f
    · rw [List.append_assoc, List.getElem?_append_left (by walk_at "o"), List.getElem?_take, if_pos h1, facs_get (by walk_at "o"), if_pos h1, Option.map_some, if_neg (by walk_at "o"), faceLn_eq (h.pre k h1) (h.st k (by walk_at "o"))]
    · by_cases h2 : k < f + w
      · rw [List.getElem?_append_left (by rw [List.length_append, htk, List.length_replicate]; walk_at "o"), List.getElem?_append_right (by walk_at "o"), List.getElem?_replicate, if_pos (by walk_at "o"), if_neg h1, if_pos h2, Option.map_some, if_neg (by walk_at "o")]; rfl
      · rw [List.getElem?_append_right (by rw [List.length_append, htk, List.length_replicate]; walk_at "o"), List.length_append, htk, List.length_replicate, List.getElem?_drop, show f + g + (k - (f + w)) = k + g - w by walk_at "o", facs_get (by walk_at "o"), if_neg h1, if_neg h2, Option.map_some]
        by_cases h3 : k < e
        · have := hne k (by walk_at "o") h3
          rw [if_pos ⟨by walk_at "o", h3⟩, decide_eq_false (fun q => this q.symm), Bool.and_false]; rfl
        · have := heq k (by walk_at "o") hk
          rw [if_neg (by walk_at "o"), decide_eq_true this.symm, Bool.and_true, faceLn_eq (h.post k (by walk_at "o")) this]
  · rw [List.getElem?_eq_none (by simp only [List.length_append, htk, List.length_replicate, List.length_drop, facs_len]; walk_at "o"), List.getElem?_eq_none (by rw [facs_len]; walk_at "o")]; rfl
section
variable {X : Cx} {A : Around} {P : D → OW → Prop} {ow : OW} {dF dL aS aF dS : Addr} {lk : Int} {ls os : List (List Int)} {kn : Nat → Bool}
theorem font_changed {f g w : Nat} (hA : AOk 11 A) (hl : ls.length ≤ 900) (ho : os.length ≤ 900) (hc : ∀ c ∈ os, c.length ≤ 900) (hg : Chg ls os f g w) (p : ∀ aS aF, P .none (fontR dF dL aS aF dS lk os (knC kn ls os f g w) ow)) :
    TC X A (.ref 238) [.obj 246 dF, encL os, .int f, .int g, .int w] (fontR dF dL aS aF dS lk ls kn ow) P := by
  have hf := hg.hf
  have hw := hg.hw
  have hlen := hg.hlen
  refine call_def (ns := ["self", "lines", "first", "old_many", "new_many"]) (fs := [("new_many", .int w), ("old_many", .int g), ("first", .int f), ("lines", encL os), ("self", .obj 246 dF)])
    hA (by walk_at "m_ho") (by kernel_rfl) (fun vs h => by obtain ⟨a, b, c, d, e, rfl⟩ := ar5 h; rfl) (by rfl) rfl (by rfl) rfl rfl rfl rfl ?_
  intro L B hB
  walk_at "m_all"
  refine TC.tl (px3 (by walk_at "m_exd") (by walk_at "m_exd") (by walk_at "m_exd") (lines_changed (hB.le rfl) hl ho hc hg.hf hg.hw hg.st hg.hlen hg.post ?_))
  intro e aS' he1 he2 hne heq
  have p := p aS'
  walk_at "m_all"
  refine ⟨_, .own (by walk_at "m_me"), by rw [sizeLine_eq, facs_len]; omega, .fz ?_⟩
  rw [show pick (facs ls kn) (some ((f : Int) + g)) none = (facs ls kn).drop (f + g) by
    unfold pick kms_lo kms_hi
    dsimp only
    rw [if_neg (by walk_at "o"), facs_len, show min ((f : Int) + g).toNat ls.length = f + g by walk_at "o"]
    exact List.take_of_length_le (by rw [List.length_drop, facs_len]; exact Nat.le_refl _)]
  walk_at "m_all"
  refine ⟨_, .own (by walk_at "m_me"), by rw [sizeLine_eq, facs_len]; omega, .fz ?_⟩
  rw [show pick (facs ls kn) none (some (f : Int)) = (facs ls kn).take f by
    unfold pick kms_lo kms_hi
    dsimp only
    rw [if_neg (by walk_at "o"), facs_len, List.drop_zero, Nat.sub_zero, show min ((f : Int)).toNat ls.length = f by walk_at "o"]]
  walk_at "m_all"
  refine mk_list (.fz ?_) (by rw [sizeLine_eq]; simp)
  walk_at "m_all"
  refine op_rep .fz (by walk_at "o") (by walk_at "o") (.fz ?_)
  rw [Int.toNat_natCast]
  refine op_cat .fz .fz (by rw [List.length_take, facs_len, List.length_replicate, sizeLine_eq]; walk_at "o") (.fz ?_)
  walk_at "m_all"
  refine op_cat .fz .fz (by rw [List.length_append, List.length_take, facs_len, List.length_replicate, List.length_drop, facs_len, sizeLine_eq]; walk_at "o") (.own fun aN => ?_)
  have p := p aN
  have hch := facs_chg (kn := kn) hg he1 hne heq
  generalize hmid : (facs ls kn).take f ++ List.replicate w D.none ++ (facs ls kn).drop (f + g) = mid at hch ⊢
  have hmidl : mid.length = os.length := by rw [← hmid]; simp only [List.length_append, List.length_take, facs_len, List.length_replicate, List.length_drop]; omega
  walk_at "m_all"
  refine st_forR hB.hh (fun _ => rfl) (f + w) e (by walk_at "o") (by walk_at "o") (fun i o => ∃ fs, Mb fs [("new_many", .int w), ("old_many", .int g), ("first", .int f), ("lines", encL os), ("self", .obj 246 dF), ("end", .int e), ("kept", .lst ((facs ls kn).drop (f + g)))] "line" ∧
      Sel ((L, .fm fs) :: (aN, .list (paintD mid (f + w) (f + w + i) .none)) :: (dF, .ns (fontN dS dL aN lk)) :: (dL, .ns (lstN dS aS')) :: (aS', .list (sts os (os.length + 1))) :: sgn dS :: ow) o) ?_ ?_ ?_
  · walk_at "m_all"
    refine ⟨rfl, _, Mb.no (by kernel_rfl), ?_⟩
    rw [paintD_none _ _ _ _ (by walk_at "o")]
    walk_at "m_sb"
  · rintro i o hi ⟨fs, hfs, hs⟩
    refine U1.selW hs ?_
    walk_at "m_all"
    refine' st_item (ds := paintD mid (f + w) (f + w + i) .none) ?_ ?_ ?_ ?su ?_
    case su => walk_at "m_up"
    · omega
    · omega
    · rw [Int.toNat_natCast, paintD_len]; omega
    rw [Int.toNat_natCast, paintD_set _ _ _ _ (by walk_at "o")]
    walk_at "m_all"
    refine ⟨_, Mb.yes (e := .int ((f + w + i : Nat) : Int)) (by kernel_rfl), ?_⟩
    walk_at "m_sb"
  · rintro o ⟨fs, hfs, hs⟩
    refine th_next (Tf.selW hs ?_)
    rw [Nat.add_sub_cancel' he1, hch]
    walk_at "m_all"
    walk_at "m_ret"
theorem dirty (hA : AOk 2 A) (hl : ls.length ≤ 900) (p : P (.lst (intsOf ((List.range ls.length).filter fun i => !kn i))) (fontR dF dL aS aF dS lk ls kn ow)) :
    TC X A (.ref 243) [.obj 246 dF] (fontR dF dL aS aF dS lk ls kn ow) P := by
  refine call_cel (ns := ["self"]) (fs := []) (cl := fun L => [("self", L + 1)]) (cells := fun L => [(L + 1, .cell (some (.obj 246 dF)))])
    hA (by walk_at "m_ho") (by kernel_rfl) (fun vs h => by obtain ⟨a, rfl⟩ := ar1 h; rfl) (by rfl) rfl (by decide) rfl rfl rfl (by rfl) (fun _ => rfl) (fun _ => rfl) ?_
  intro L B hB
  show Tf X B _ ((L, .fm _) :: (L + 1, .cell (some (.obj 246 dF))) :: fontR dF dL aS aF dS lk ls kn ow) _
  walk_at "m_all"
  refine ev_comp (n := ls.length) (item := fun i => .int i) (fun _ => rfl) (by with_unfolding_all rfl) (by decide) rfl (by decide) (by with_unfolding_all rfl) (by rw [sizeLine_eq]; walk_at "o")
    (fun i ys o => ys = intsOf ((List.range i).filter fun i => !kn i) ∧ o = (L, .fm []) :: (L + 1, .cell (some (.obj 246 dF))) :: fontR dF dL aS aF dS lk ls kn ow) ?_ ?_ ?_
  · walk_at "m_all"
    refine fn_len (ds := facs ls kn) (.own (by walk_at "m_me")) (by rw [facs_len]; walk_at "o") ?_
    rw [facs_len]
    walk_at "m_all"
    exact ⟨itr_rng0 hB.hh (by walk_at "o"), rfl, rfl⟩
  · rintro i ys o C hi ⟨rfl, rfl⟩ hyl
    show Tb X B _ _ _
    walk_at "m_all"
    refine it_list (ds := facs ls kn) (.own (by walk_at "m_me")) (by walk_at "o") (by walk_at "o") (by rw [Int.toNat_natCast]; exact facs_get hi) (fun _ _ _ => by with_unfolding_all rfl) ?_
    walk_at "m_all"
    cases hk : kn i with
    | false =>
      refine op_isNone rfl ?_
      walk_at "m_all"
      · refine ⟨by walk_at "o", _, rfl, ?_, rfl⟩
        rw [List.range_succ, List.filter_append, List.filter_cons_of_pos (by rw [hk]; rfl)]
        simp [intsOf]
      · rename_i h; cases h
    | true =>
      refine op_isNone rfl ?_
      walk_at "m_all"
      · rename_i h; cases h
      · refine ⟨_, rfl, ?_, rfl⟩
        rw [List.range_succ, List.filter_append, List.filter_cons_of_neg (by rw [hk]; decide)]
        simp [intsOf]
  · rintro ys o ⟨rfl, rfl⟩
    refine .fz ?_
    walk_at "m_all"
    walk_at "m_ret"
end
noncomputable abbrev encD (dk : List Int) : List D := dk.map .int
structure DkOk (dk : List Int) : Prop where
  len : dk.length ≤ 63
  nn : ∀ x ∈ dk, 0 ≤ x
noncomputable abbrev dck (aD : Addr) (dk : List Int) : Addr × Res := (aD, .list (encD dk))
noncomputable def tab : List Int := [97, 34, 123, 125, 92, 59, 123, 125, 34]
noncomputable def drawF (dk : List Int) (many : Nat) : Nat × List Int := match dk with
  | [] => (0, [])
  | d :: r => (d.toNat % many, r)
theorem drawF_lt (dk : List Int) {many : Nat} (h : 0 < many) : (drawF dk many).1 < many := by
  cases dk with
  | nil => exact h
  | cons d r => exact Nat.mod_lt _ h
theorem drawF_ok {dk : List Int} {many : Nat} (h : DkOk dk) : DkOk (drawF dk many).2 := by
  cases dk with
  | nil => exact h
  | cons d r => exact ⟨by have := h.len; simp at this; show r.length ≤ 63; omega, fun x hx => h.nn x (.tail _ hx)⟩
section
variable {X : Cx} {A : Around} {P : D → OW → Prop} {ow : OW} {aD : Addr} {dk : List Int}
theorem law_draw {many : Nat} (hA : AOk 1 A) (hm : 0 < many) (hd : DkOk dk) (p : P (.int (drawF dk many).1) (dck aD (drawF dk many).2 :: ow)) :
    TC X A (.ref 257) [.own aD, .int many] (dck aD dk :: ow) P := by
  refine call_def (ns := ["deck", "many"]) (fs := [("many", .int many), ("deck", .own aD)])
    hA (by walk_at "m_ho") (by kernel_rfl) (fun vs h => by obtain ⟨a, b, rfl⟩ := ar2 h; rfl) (by rfl) rfl (by rfl) rfl rfl rfl rfl ?_
  intro L B hB
  walk_at "m_all"
  refine mk_list (.fz ?_) (Nat.zero_le _)
  refine op_neI (a := dk) (b := []) hB.units64 (.own (by walk_at "m_me")) .fz ?_
  walk_at "m_all"
  · rename_i h
    cases dk with
    | nil => simp at h
    | cons d r =>
      obtain ⟨v, rfl⟩ := Int.eq_ofNat_of_zero_le (hd.nn d (.head _))
      rw [show dck aD ((v : Int) :: r) = (aD, .list (.int (v : Int) :: encD r)) from rfl]
      walk_at "m_all"
      refine' fn_pop0 (d := .int (v : Int)) (ds := encD r) ?u ?z ?_
      case u => walk_at "m_up"
      case z => have := hd.len; rw [sizeLine_eq]; simp at this ⊢; omega
      walk_at "m_all"
      refine op_mod (by walk_at "o") ?_
      rw [Int.fmod_eq_emod_of_nonneg _ (by walk_at "o"), show (v : Int) % (many : Int) = ((v % many : Nat) : Int) from rfl]
      rw [show drawF ((v : Int) :: r) many = (v % many, r) from rfl] at p
      walk_at "m_all"
      walk_at "m_ret"
  · rename_i h
    cases dk with
    | nil =>
      rw [show drawF [] many = (0, []) from rfl] at p
      walk_at "m_ret"
    | cons d r => simp at h
theorem law_line (hA : AOk 3 A) (hd : DkOk dk) (p : ∀ (l : List Int) dk', l.length ≤ 5 → DkOk dk' → P (encI l) (dck aD dk' :: ow)) :
    TC X A (.ref 262) [.own aD] (dck aD dk :: ow) P := by
  refine call_cel (ns := ["deck"]) (fs := []) (cl := fun L => [("deck", L + 1)]) (cells := fun L => [(L + 1, .cell (some (.own aD)))])
    hA (by walk_at "m_ho") (by kernel_rfl) (fun vs h => by obtain ⟨a, rfl⟩ := ar1 h; rfl) (by rfl) rfl (by decide) rfl rfl rfl (by rfl) (fun _ => rfl) (fun _ => rfl) ?_
  intro L B hB
  show Tf X B _ ((L, .fm _) :: (L + 1, .cell (some (.own aD))) :: dck aD dk :: ow) _
  walk_at "m_all"
  have hn := drawF_lt dk (many := 6) (by decide)
  have hd1 := drawF_ok (many := 6) hd
  generalize hdr : (drawF dk 6).1 = n at hn
  generalize hdr2 : (drawF dk 6).2 = dk1 at hd1
  refine Tv.selP ?_
  refine ev_comp (n := n) (item := fun i => .int i) (fun _ => rfl) (by with_unfolding_all rfl) (by decide) rfl (by decide) (by with_unfolding_all rfl) (by rw [sizeLine_eq]; walk_at "o")
    (fun i ys o => ∃ (l : List Int) (dk' : List Int), ys = l.map .int ∧ l.length = i ∧ DkOk dk' ∧ Sel ((L, .fm []) :: (L + 1, .cell (some (.own aD))) :: dck aD dk' :: ow) o) ?_ ?_ ?_
  · walk_at "m_all"
    refine TC.tl (px1 (by walk_at "m_exd") (law_draw (many := 6) (hB.le rfl) (by decide) hd ?_))
    rw [hdr, hdr2]
    walk_at "m_all"
    exact ⟨itr_rng0 hB.hh (by walk_at "o"), [], dk1, rfl, rfl, hd1, by walk_at "m_sb"⟩
  · rintro i ys o C hi ⟨l, dk', rfl, hl, hd', hs⟩ _
    refine Tv.selP (Tv.selW (.take .z hs) ?_)
    walk_at "m_all"
    refine mk_list (.fz ?_) (by rw [sizeLine_eq]; simp)
    walk_at "m_all"
    have h9 := drawF_lt dk' (many := 9) (by decide)
    refine TC.tl (px1 (by walk_at "m_exd") (law_draw (many := 9) (hB.le rfl) (by decide) hd' ?_))
    refine it_list (y := .int (tab.getD (drawF dk' 9).1 0)) .fz (by walk_at "o") (by walk_at "o") ?_ (fun _ _ _ => by with_unfolding_all rfl) ?_
    · rw [Int.toNat_natCast]
      generalize (drawF dk' 9).1 = v at h9
      match v, h9 with
      | 0, _ => rfl
      | 1, _ => rfl
      | 2, _ => rfl
      | 3, _ => rfl
      | 4, _ => rfl
      | 5, _ => rfl
      | 6, _ => rfl
      | 7, _ => rfl
      | 8, _ => rfl
    refine ⟨(C, .fm [("nth", .int i)]) :: (L, .fm []) :: (L + 1, .cell (some (.own aD))) :: dck aD (drawF dk' 9).2 :: ow, by walk_at "m_sb", by rw [List.length_map, hl]; exact hi, _, rfl, l ++ [tab.getD (drawF dk' 9).1 0], _, by simp, by simp [hl], drawF_ok hd', .refl⟩
  · rintro ys o ⟨l, dk', rfl, hl, hd', hs⟩
    refine .fz ⟨_, hs, ?_⟩
    have p := p l dk' (by walk_at "o") hd'
    walk_at "m_all"
    walk_at "m_ret"
end
structure Wl where
  m : Int
  k : Int
  tk : Bool
  ks : List Int
noncomputable def wnext (x : Int) (s : Wl) : Int × Int × Bool :=
  if s.tk = true then (s.m, s.k, false)
  else if x = 92 ∧ s.m < 2 then (s.m, s.k, true)
  else if s.m = 0 ∧ (x = 34 ∨ x = 123) then (if x = 34 then (1, 34, false) else (2, 1, false))
  else if s.m = 1 ∧ x = 34 then (0, 0, false)
  else if s.m = 2 ∧ (x = 123 ∨ x = 125) then (if 0 < s.k + (if x = 123 then 1 else -1) then 2 else 0, s.k + (if x = 123 then 1 else -1), false)
  else (s.m, s.k, false)
noncomputable def wstep (x : Int) (s : Wl) : Wl := ⟨(wnext x s).1, (wnext x s).2.1, (wnext x s).2.2, s.ks ++ [if (wnext x s).1 > s.m then (wnext x s).1 else s.m]⟩
noncomputable def walkGo : List Int → Wl → (Int × Int) × List Int
  | [], s => ((s.m, s.k), s.ks)
  | x :: r, s => if s.m = 0 ∧ s.tk = false ∧ x = 59 then ((0, 0), s.ks ++ List.replicate (r.length + 1) 2) else walkGo r (wstep x s)
noncomputable def walkF (c : List Int) (m k : Int) : (Int × Int) × List Int := walkGo c ⟨m, k, false, []⟩
noncomputable abbrev fsW (c : List Int) (m0 k0 : Int) (s : Wl) (aK : Addr) : List (Str × D) := [("state", encS m0 k0), ("line", encI c), ("mode", .int s.m), ("amount", .int s.k), ("is_taken", .bool s.tk), ("kinds", .own aK)]
section
variable {X : Cx} {A : Around} {P : D → OW → Prop} {ow : OW} {c : List Int} {m k : Int}
local macro_rules | `(tactic| walk_at "m_x") => `(tactic| first
  | ((with_reducible refine' op_in (is := [34, 123]) ?ha ?hb ?_); (case ha => exact trivial); (case hb => exact .inr rfl))
  | ((with_reducible refine' op_in (is := [123, 125]) ?ha ?hb ?_); (case ha => exact trivial); (case hb => exact .inr rfl))
  | ((with_reducible refine' fn_max ?ha ?_); (case ha => exact AOk.hh (by assumption))))
local macro_rules | `(tactic| walk_at "m_y") => `(tactic| ((with_reducible refine' tr_andP ?y1 ?y2 ?_); (case y1 => (walk_at "m_go"; exact ⟨rfl, rfl⟩)); (case y2 => (walk_at "m_go"; exact ⟨rfl, rfl⟩))))
theorem law_walked (hA : AOk 2 A) (hc : c.length ≤ 900) (p : P (.tup [encSt (walkF c m k).1, encI (walkF c m k).2]) ow) :
    TC X A (.ref 269) [encI c, encS m k] ow P := by
  refine call_def (ns := ["line", "state"]) (fs := [("state", encS m k), ("line", encI c)])
    hA (by walk_at "m_ho") (by kernel_rfl) (fun vs h => by obtain ⟨a, b, rfl⟩ := ar2 h; rfl) (by rfl) rfl (by rfl) rfl rfl rfl rfl ?_
  intro L B hB
  walk_at "m_all"
  refine mk_list (.own fun aK => ?_) (Nat.zero_le _)
  walk_at "m_all"
  refine as_tup4 hB.hh ?_
  walk_at "m_all"
  refine st_enum (ds := c.map .int) hB.hh (fun _ => rfl) (by with_unfolding_all rfl) (by with_unfolding_all rfl) (by with_unfolding_all rfl)
    (fun i o => ∃ (s : Wl) (fs : List (Str × D)), M2w fs (fsW c m k s aK) "nth" "code" "was" ∧ walkGo (c.drop i) s = walkF c m k ∧ s.ks.length = i ∧ Lk fs "mode" (.int s.m) ∧ Lk fs "amount" (.int s.k) ∧ Lk fs "kinds" (.own aK) ∧ Sel ((L, .fm fs) :: (aK, .list (s.ks.map .int)) :: ow) o) ?_ ?_ ?_
  · walk_at "m_all"
    refine ⟨rfl, ?_⟩
    walk_at "m_all"
    refine ⟨rfl, ⟨m, k, false, []⟩, _, M2w.no (by kernel_rfl) (by kernel_rfl) (by kernel_rfl) (by kernel_rfl) (by kernel_rfl) (by kernel_rfl), rfl, rfl, by walk_at "m_lk", by walk_at "m_lk", by walk_at "m_lk", ?_⟩
    walk_at "m_sb"
  · rintro i o d hd ⟨s, fs, hfs, hw, hks, hl1, hl2, hl3, hs⟩
    have hi : i < c.length := by have := (List.getElem?_eq_some_iff.mp hd).1; simpa using this
    obtain ⟨x, hx⟩ : ∃ x, c[i]? = some x := ⟨_, List.getElem?_eq_getElem hi⟩
    have e1 : d = .int x := by rw [List.getElem?_map, hx] at hd; exact (Option.some.inj hd).symm
    subst e1
    have hdr : c.drop i = x :: c.drop (i + 1) := by rw [List.drop_eq_getElem_cons hi]; congr 1; rw [List.getElem?_eq_getElem hi] at hx; exact Option.some.inj hx
    rw [hdr] at hw
    refine U1.selW hs ?_
    obtain ⟨f1, f2, h1, h2, h3⟩ := hfs (.int i) (.int x)
    have h3 : Mb f2 [("state", encS m k), ("line", encI c), ("mode", .int s.m), ("amount", .int s.k), ("is_taken", .bool s.tk), ("kinds", .own aK), ("nth", .int i), ("code", .int x)] "was" := h3
    refine as_tup2 hB.hh (s_loc (by kernel_rfl) .z h1 (s_loc (by kernel_rfl) .z h2 ?_))
    obtain ⟨sm, sk, stk, sks⟩ := s
    dsimp only at h3 hks hw ⊢
    have leaf : ∀ (m' k' : Int) (tk' : Bool), ¬ (sm = 0 ∧ stk = false ∧ x = 59) → wnext x ⟨sm, sk, stk, sks⟩ = (m', k', tk') →
        ∃ (s : Wl) (fs : List (Str × D)), M2w fs (fsW c m k s aK) "nth" "code" "was" ∧ walkGo (c.drop (i + 1)) s = walkF c m k ∧ s.ks.length = i + 1 ∧ Lk fs "mode" (.int s.m) ∧ Lk fs "amount" (.int s.k) ∧ Lk fs "kinds" (.own aK) ∧ Sel ((L, .fm fs) :: (aK, .list (s.ks.map .int)) :: ow)
          ((L, .fm [("state", encS m k), ("line", encI c), ("mode", .int m'), ("amount", .int k'), ("is_taken", .bool tk'), ("kinds", .own aK), ("nth", .int i), ("code", .int x), ("was", .int sm)]) :: (aK, .list (sks.map .int ++ [.int (if m' > sm then m' else sm)])) :: ow) := fun m' k' tk' hn hq => by
      refine ⟨⟨m', k', tk', sks ++ [if m' > sm then m' else sm]⟩, _, M2w.yes (d1 := .int i) (d2 := .int x) (d3 := .int sm) (by kernel_rfl) (by kernel_rfl) (by kernel_rfl) (by kernel_rfl) (by kernel_rfl) (by kernel_rfl), ?_, by simp [hks], ?_, ?_, ?_, ?_⟩
      · rw [walkGo, if_neg hn, wstep, hq] at hw
        exact hw
      · exact .s (by kernel_rfl) (.s (by kernel_rfl) .z)
      · exact .s (by kernel_rfl) (.s (by kernel_rfl) (.s (by kernel_rfl) .z))
      · exact .s (by kernel_rfl) (.s (by kernel_rfl) (.s (by kernel_rfl) (.s (by kernel_rfl) (.s (by kernel_rfl) .z))))
      · rw [List.map_append]
        exact .refl
    have hkl : (sks.map D.int).length ≤ 900 := by simp; omega
    clear hfs hl1 hl2 hl3 hs h1 h2 hd
    walk_at "m_all"
    · rename_i hq
      have hq : sm = 0 ∧ stk = false ∧ x = 59 := by simpa using hq
      rw [walkGo, if_pos hq] at hw
      refine mk_list (.fz ?_) (by rw [sizeLine_eq]; simp)
      walk_at "m_all"
      refine fn_len .fz (by simp; walk_at "o") ?_
      rw [List.length_map]
      walk_at "m_all"
      refine op_rep .fz (by walk_at "o") (by walk_at "o") (.fz ?_)
      refine op_cat (ds := sks.map .int) (.own (by walk_at "m_me")) .fz (by rw [List.length_replicate, sizeLine_eq]; walk_at "o") (.fz ?_)
      rw [show ((c.length : Int) - (i : Int)).toNat = (c.drop (i + 1)).length + 1 by rw [List.length_drop]; omega]
      rw [← hw] at p
      walk_at "m_all"
      simp only [encI, List.map_append, List.map_replicate] at p
      walk_at "m_ret"
    all_goals (refine leaf _ _ _ ?_ ?_ <;> (clear leaf p hw hdr hx h3; first | (simp_all [wnext]; done) | (simp_all [wnext]; walk_at "o") | (simp_all [wnext]; (repeat' split) <;> first | rfl | omega | (simp_all; done) | (exfalso; simp_all; walk_at "o"))))
  · rintro o ⟨s, fs, hfs, hw, hks, hl1, hl2, hl3, hs⟩
    rw [List.length_map, List.drop_length] at hw
    refine th_next (Tf.selW hs ?_)
    rw [← hw, walkGo] at p
    iterate 14 walk_at "m_1"
    refine tl_fz (a := aK) (by walk_at "m_exd") (.keep (.own .nil)) ?_
    walk_at "m_all"
    walk_at "m_ret"
end
noncomputable def StOk (m k : Int) : Prop := (m = 0 ∧ k = 0) ∨ (m = 1 ∧ k = 34) ∨ (m = 2 ∧ 1 ≤ k)
noncomputable def kindOf (sp : List (Int × Int × Int)) (j : Int) : Int := sp.foldl (fun acc q => if q.1 ≤ j ∧ j < q.2.1 then q.2.2 else acc) 0
theorem kindOf_snoc (sp : List (Int × Int × Int)) (q : Int × Int × Int) (j : Int) : kindOf (sp ++ [q]) j = if q.1 ≤ j ∧ j < q.2.1 then q.2.2 else kindOf sp j := by
  unfold kindOf; rw [List.foldl_append]; rfl
theorem kindOf_acc {a : Int} : ∀ {sp : List (Int × Int × Int)} (z : Int), (∀ q ∈ sp, q.2.1 ≤ a) → ∀ j, a ≤ j → sp.foldl (fun acc q => if q.1 ≤ j ∧ j < q.2.1 then q.2.2 else acc) z = z
  | [], z, _, _, _ => rfl
  | q :: sp, z, h, j, hj => by
    have := h q (.head _)
    rw [List.foldl_cons, if_neg (by walk_at "o")]
    exact kindOf_acc z (fun r hr => h r (.tail _ hr)) j hj
theorem kindOf_zero {a : Int} {sp : List (Int × Int × Int)} (h : ∀ q ∈ sp, q.2.1 ≤ a) (j : Int) (hj : a ≤ j) : kindOf sp j = 0 := kindOf_acc 0 h j hj
noncomputable def kd (s : Sc) (j : Nat) : Int := if s.m ≠ 0 ∧ s.b ≤ j then s.m else kindOf s.sp j
structure Rr (c : List Int) (s : Sc) (ks : List Int) : Prop where
  ok : StOk s.m s.k
  bl : s.b ≤ s.a
  bn : s.b ≤ c.length
  len : ks.length = min s.a c.length
  val : ∀ j, j < min s.a c.length → ks[j]? = some (kd s j)
  ends : ∀ q ∈ s.sp, q.2.1 ≤ (s.a : Int)
theorem val_one {c : List Int} {s s' : Sc} {ks : List Int} {v : Int} (r : Rr c s ks) (h : s.a < c.length) (ha : s'.a = s.a + 1) (old : ∀ j, j < s.a → kd s' j = kd s j) (new : kd s' s.a = v) :
    (ks ++ [v]).length = min s'.a c.length ∧ ∀ j, j < min s'.a c.length → (ks ++ [v])[j]? = some (kd s' j) := by
  have hl := r.len
  have hlen : ks.length = s.a := by walk_at "o"
  refine ⟨by rw [List.length_append, hlen, ha]; simp; omega, fun j hj => ?_⟩
  by_cases e : j < s.a
  · rw [List.getElem?_append_left (by walk_at "o"), r.val j (by walk_at "o"), old j e]
  · have : j = s.a := by walk_at "o"
    subst this
    rw [List.getElem?_append_right (by walk_at "o"), hlen, Nat.sub_self, new]; rfl
theorem drop_at {c : List Int} {a : Nat} {x : Int} (h : c[a]? = some x) : c.drop a = x :: c.drop (a + 1) := by
  obtain ⟨hi, e⟩ := List.getElem?_eq_some_iff.mp h
  rw [List.drop_eq_getElem_cons hi, e]
/-- a char that both sides take alone -/
theorem R_one {c : List Int} {s s' : Sc} {ks : List Int} {x : Int} (r : Rr c s ks) (hx : c[s.a]? = some x) (h59 : ¬ (s.m = 0 ∧ x = 59)) (hn : wnext x ⟨s.m, s.k, false, ks⟩ = (s'.m, s'.k, false)) (ha : s'.a = s.a + 1)
    (hok : StOk s'.m s'.k) (hb : s'.b ≤ s.a) (old : ∀ j, j < s.a → kd s' j = kd s j) (new : kd s' s.a = if s'.m > s.m then s'.m else s.m) (he : ∀ q ∈ s'.sp, q.2.1 ≤ (s'.a : Int)) :
    ∃ ks', walkGo (c.drop s.a) ⟨s.m, s.k, false, ks⟩ = walkGo (c.drop s'.a) ⟨s'.m, s'.k, false, ks'⟩ ∧ Rr c s' ks' := by
  have h := (List.getElem?_eq_some_iff.mp hx).1
  obtain ⟨v1, v2⟩ := val_one r h ha old new
  refine ⟨_, ?_, hok, by walk_at "o", by walk_at "o", v1, v2, he⟩
  rw [drop_at hx, walkGo, if_neg (fun q => h59 ⟨q.1, q.2.2⟩), wstep, hn, ha]
theorem kd_same {s s' : Sc} (h1 : s'.m = s.m) (h2 : s'.b = s.b) (h3 : s'.sp = s.sp) (j : Nat) : kd s' j = kd s j := by unfold kd; rw [h1, h2, h3]
theorem kd_zero {c : List Int} {s s' : Sc} {ks : List Int} (r : Rr c s ks) (hm : s'.m = 0) (hs : s'.sp = s.sp) : kd s' s.a = 0 := by
  unfold kd
  rw [if_neg (by rw [hm]; simp), hs]
  exact kindOf_zero r.ends _ (Int.le_refl _)
theorem leave_kd {s : Sc} {a : Nat} (hm : s.m ≠ 0) (hb : s.b ≤ a) (k : Int) (j : Nat) (hj : j < a) {b' : Nat} : kd ⟨0, k, a, b', leaveSp s.m a s.b s.sp⟩ j = kd s j := by
  unfold kd leaveSp
  rw [if_neg (by simp)]
  dsimp only
  by_cases h : (s.b : Int) < a
  · rw [if_pos ⟨hm, h⟩, kindOf_snoc]
    by_cases hj2 : s.b ≤ j
    · rw [if_pos ⟨by simp; omega, by simp; omega⟩, if_pos ⟨hm, hj2⟩]
    · rw [if_neg (by simp; walk_at "o"), if_neg (by simp; walk_at "o")]
  · rw [if_neg (fun q => h q.2), if_neg (fun q => by walk_at "o")]
theorem R_esc {c : List Int} {s : Sc} {ks : List Int} (r : Rr c s ks) (hx : c[s.a]? = some 92) (hm : s.m < 2) (kda : ∀ j, s.a ≤ j → kd s j = s.m) :
    ∃ ks', walkGo (c.drop s.a) ⟨s.m, s.k, false, ks⟩ = walkGo (c.drop (s.a + 2)) ⟨s.m, s.k, false, ks'⟩ ∧ Rr c { s with a := s.a + 2 } ks' := by
  have h := (List.getElem?_eq_some_iff.mp hx).1
  have hl := r.len
  have hlen : ks.length = s.a := by walk_at "o"
  have hb := r.bl
  have hn : wnext 92 ⟨s.m, s.k, false, ks⟩ = (s.m, s.k, true) := by simp [wnext, hm]
  have he : ∀ q ∈ s.sp, q.2.1 ≤ ((s.a + 2 : Nat) : Int) := fun q hq => by have := r.ends q hq; omega
  rw [drop_at hx, walkGo, if_neg (by simp), wstep, hn]
  dsimp only
  rw [if_neg (by walk_at "o")]
  by_cases h2 : s.a + 1 < c.length
  · obtain ⟨y, hy⟩ : ∃ y, c[s.a + 1]? = some y := ⟨_, List.getElem?_eq_getElem h2⟩
    rw [drop_at hy, walkGo, if_neg (by simp), wstep, show wnext y ⟨s.m, s.k, true, ks ++ [s.m]⟩ = (s.m, s.k, false) by simp [wnext]]
    dsimp only
    rw [if_neg (by walk_at "o")]
    refine ⟨_, rfl, r.ok, by dsimp only; omega, r.bn, by simp; omega, fun j hj => ?_, he⟩
    dsimp only at hj
    show _ = some (kd s j)
    by_cases e : j < s.a
    · rw [List.append_assoc, List.getElem?_append_left (by walk_at "o"), r.val j (by walk_at "o")]
    · rw [List.append_assoc, List.getElem?_append_right (by walk_at "o"), kda j (by walk_at "o"), hlen]
      rcases (by walk_at "o" : j - s.a = 0 ∨ j - s.a = 1) with e1 | e1 <;> rw [e1] <;> rfl
  · rw [List.drop_eq_nil_of_le (as := c) (i := s.a + 1) (by walk_at "o"), List.drop_eq_nil_of_le (as := c) (i := s.a + 2) (by walk_at "o")]
    refine ⟨ks ++ [s.m], rfl, r.ok, by dsimp only; omega, r.bn, by simp; omega, fun j hj => ?_, he⟩
    dsimp only at hj
    show _ = some (kd s j)
    by_cases e : j < s.a
    · rw [List.getElem?_append_left (by walk_at "o"), r.val j (by walk_at "o")]
    · rw [List.getElem?_append_right (by walk_at "o"), kda j (by walk_at "o"), hlen, show j - s.a = 0 by walk_at "o"]; rfl
theorem R_step {c : List Int} {s : Sc} {ks : List Int} (r : Rr c s ks) (h : s.a < c.length) :
    ∃ ks', walkGo (c.drop s.a) ⟨s.m, s.k, false, ks⟩ = walkGo (c.drop (stepSc c s).a) ⟨(stepSc c s).m, (stepSc c s).k, false, ks'⟩ ∧ Rr c (stepSc c s) ks' := by
  obtain ⟨x, hx⟩ : ∃ x, c[s.a]? = some x := ⟨_, List.getElem?_eq_getElem h⟩
  have hbl := r.bl
  have ends1 : ∀ q ∈ s.sp, q.2.1 ≤ ((s.a + 1 : Nat) : Int) := fun q hq => by have := r.ends q hq; omega
  obtain ⟨m, k, a, b, sp⟩ := s
  dsimp only at hbl ends1 h hx ⊢
  rcases r.ok with ⟨hm, hk⟩ | ⟨hm, hk⟩ | ⟨hm, hk⟩ <;> dsimp only at hm hk
  · subst hm hk
    rw [show stepSc c ⟨0, 0, a, b, sp⟩ = inCode c ⟨0, 0, a, b, sp⟩ from rfl, inCode]
    dsimp only
    rw [hx]
    by_cases h92 : x = 92
    · subst h92
      rw [if_pos rfl]
      refine R_esc r hx (by show (0 : Int) < 2; decide) fun j hj => ?_
      rw [kd, if_neg (by simp)]
      exact kindOf_zero r.ends _ (by dsimp only at hj ⊢; walk_at "o")
    · rw [if_neg (by simpa using h92)]
      by_cases h59 : x = 59
      · subst h59
        rw [if_pos rfl]
        have hl := r.len
        have hlen : ks.length = a := by dsimp only at hl; omega
        refine ⟨ks ++ List.replicate (c.length - a) 2, ?_, .inl ⟨rfl, rfl⟩, by dsimp only; omega, r.bn, by simp; omega, fun j hj => ?_, fun q hq => ?_⟩
        · rw [drop_at hx, walkGo, if_pos ⟨rfl, rfl, rfl⟩, List.drop_length, walkGo, List.length_drop, show c.length - (a + 1) + 1 = c.length - a by walk_at "o"]
        · dsimp only at hj
          rw [kd, if_neg (by simp), kindOf_snoc]
          by_cases e : j < a
          · rw [List.getElem?_append_left (by walk_at "o"), r.val j (by dsimp only; walk_at "o"), kd, if_neg (by simp), if_neg (by simp; walk_at "o")]
          · rw [List.getElem?_append_right (by walk_at "o"), List.getElem?_replicate, if_pos (by walk_at "o"), if_pos (by simp; walk_at "o")]
        · rcases List.mem_append.mp hq with hq | hq
          · have := r.ends q hq; dsimp only at this ⊢; omega
          · rw [List.mem_singleton] at hq; subst hq; exact Int.le_refl _
      · rw [if_neg (by simpa using h59)]
        by_cases h123 : x = 123
        · subst h123
          rw [if_pos rfl]
          refine R_one r hx (by simp) (by simp [wnext]) rfl (.inr (.inr ⟨rfl, by simp⟩)) (Nat.le_refl _) (fun j hj => ?_) ?_ ends1
          · dsimp only at hj; simp [kd]; omega
          · simp [kd]
        · rw [if_neg (by simpa using h123)]
          by_cases h34 : x = 34
          · subst h34
            rw [if_pos rfl]
            refine R_one r hx (by simp) (by simp [wnext]) rfl (.inr (.inl ⟨rfl, rfl⟩)) (Nat.le_refl _) (fun j hj => ?_) ?_ ends1
            · dsimp only at hj; simp [kd]; omega
            · simp [kd]
          · rw [if_neg (by simpa using h34)]
            refine R_one r hx (by simp [h59]) (by simp [wnext, h92, h34, h123]) rfl (.inl ⟨rfl, rfl⟩) hbl (fun j hj => rfl) ?_ ends1
            exact (kd_zero r rfl rfl).trans (by simp)
  · subst hm hk
    have endL : ∀ q ∈ leaveSp 1 ((a + 1 : Nat) : Int) b sp, q.2.1 ≤ ((a + 1 : Nat) : Int) := fun q hq => by
      unfold leaveSp at hq
      rw [if_pos ⟨by decide, by walk_at "o"⟩] at hq
      rcases List.mem_append.mp hq with hq | hq
      · exact ends1 q hq
      · rw [List.mem_singleton] at hq; subst hq; exact Int.le_refl _
    rw [show stepSc c ⟨1, 34, a, b, sp⟩ = inString c ⟨1, 34, a, b, sp⟩ from rfl, inString]
    dsimp only
    rw [hx]
    by_cases h92 : x = 92
    · subst h92
      rw [if_pos rfl]
      refine R_esc r hx (by show (1 : Int) < 2; decide) fun j hj => ?_
      rw [kd, if_pos ⟨by simp, by dsimp only at hj ⊢; omega⟩]
    · rw [if_neg (by simpa using h92)]
      by_cases h34 : x = 34
      · subst h34
        rw [if_pos rfl]
        refine R_one r hx (by simp) (by simp [wnext]) rfl (.inl ⟨rfl, rfl⟩) hbl (fun j hj => ?_) ?_ endL
        · exact leave_kd (s := ⟨1, 34, a, b, sp⟩) (a := a + 1) (by simp) (by dsimp only; walk_at "o") 0 j (by dsimp only at hj; walk_at "o")
        · exact (leave_kd (s := ⟨1, 34, a, b, sp⟩) (a := a + 1) (by simp) (by dsimp only; walk_at "o") 0 a (by walk_at "o")).trans (by rw [kd, if_pos ⟨by simp, hbl⟩]; rfl)
      · rw [if_neg (by simpa using h34)]
        refine R_one r hx (by simp) (by simp [wnext, h92, h34]) rfl (.inr (.inl ⟨rfl, rfl⟩)) hbl (fun j hj => rfl) ?_ ends1
        rw [kd, if_pos ⟨by simp, hbl⟩]; rfl
  · subst hm
    have endL : ∀ q ∈ leaveSp 2 ((a + 1 : Nat) : Int) b sp, q.2.1 ≤ ((a + 1 : Nat) : Int) := fun q hq => by
      unfold leaveSp at hq
      rw [if_pos ⟨by decide, by walk_at "o"⟩] at hq
      rcases List.mem_append.mp hq with hq | hq
      · exact ends1 q hq
      · rw [List.mem_singleton] at hq; subst hq; exact Int.le_refl _
    rw [show stepSc c ⟨2, k, a, b, sp⟩ = inComment c ⟨2, k, a, b, sp⟩ from rfl, inComment]
    dsimp only
    rw [hx]
    by_cases h125 : x = 125
    · subst h125
      rw [if_pos rfl]
      by_cases hk1 : k > 1
      · rw [if_pos hk1]
        refine R_one r hx (by simp) (by simp [wnext]; walk_at "o") rfl (.inr (.inr ⟨rfl, by show 1 ≤ k - 1; omega⟩)) hbl (fun j hj => rfl) ?_ ends1
        rw [kd, if_pos ⟨by simp, hbl⟩]; rfl
      · rw [if_neg hk1]
        obtain rfl : k = 1 := by walk_at "o"
        refine R_one r hx (by simp) (by simp [wnext]) rfl (.inl ⟨rfl, rfl⟩) hbl (fun j hj => ?_) ?_ endL
        · exact leave_kd (s := ⟨2, 1, a, b, sp⟩) (a := a + 1) (by simp) (by dsimp only; walk_at "o") 0 j (by dsimp only at hj; walk_at "o")
        · exact (leave_kd (s := ⟨2, 1, a, b, sp⟩) (a := a + 1) (by simp) (by dsimp only; walk_at "o") 0 a (by walk_at "o")).trans (by rw [kd, if_pos ⟨by simp, hbl⟩]; rfl)
    · rw [if_neg (by simpa using h125)]
      by_cases h123 : x = 123
      · subst h123
        rw [if_pos rfl]
        refine R_one r hx (by simp) (by simp [wnext]; walk_at "o") rfl (.inr (.inr ⟨rfl, by show 1 ≤ k + 1; omega⟩)) hbl (fun j hj => rfl) ?_ ends1
        rw [kd, if_pos ⟨by simp, hbl⟩]; rfl
      · rw [if_neg (by simpa using h123)]
        refine R_one r hx (by simp) (by simp [wnext, h123, h125]) rfl (.inr (.inr ⟨rfl, hk⟩)) hbl (fun j hj => rfl) ?_ ends1
        rw [kd, if_pos ⟨by simp, hbl⟩]; rfl
theorem R_run {c : List Int} : ∀ (n : Nat) {s : Sc} {ks : List Int}, Rr c s ks → c.length ≤ n + s.a → ∃ ks', walkGo (c.drop s.a) ⟨s.m, s.k, false, ks⟩ = (((runN c n s).m, (runN c n s).k), ks') ∧ Rr c (runN c n s) ks' ∧ c.length ≤ (runN c n s).a
  | 0, s, ks, r, h => ⟨ks, by rw [List.drop_eq_nil_of_le (by walk_at "o")]; rfl, r, by simpa [runN] using h⟩
  | n + 1, s, ks, r, h => by
    rw [runN]
    by_cases hlt : s.a < c.length
    · rw [if_pos hlt]
      obtain ⟨ks1, e1, r1⟩ := R_step r hlt
      rw [e1]
      refine R_run n r1 ?_
      have : s.a < (stepSc c s).a := by
        unfold stepSc inCode inString inComment
        repeat' split
        all_goals (dsimp only; walk_at "o")
      omega
    · rw [if_neg hlt]
      exact ⟨ks, by rw [List.drop_eq_nil_of_le (by walk_at "o")]; rfl, r, by walk_at "o"⟩
noncomputable def kinds (c : List Int) (m k : Int) : List Int := (List.range c.length).map fun (j : Nat) => kindOf (scanF c m k).sp j
theorem walk_scan (c : List Int) {m k : Int} (h : StOk m k) : walkF c m k = (nextS c (m, k), kinds c m k) ∧ StOk (nextS c (m, k)).1 (nextS c (m, k)).2 := by
  have r0 : Rr c ⟨m, k, 0, 0, []⟩ [] := ⟨h, Nat.le_refl _, Nat.zero_le _, by simp, fun j hj => by dsimp only at hj; omega, fun q hq => absurd hq List.not_mem_nil⟩
  obtain ⟨ks, e, r, hle⟩ := R_run c.length r0 (by simp)
  have e' : walkF c m k = (((runN c c.length ⟨m, k, 0, 0, []⟩).m, (runN c c.length ⟨m, k, 0, 0, []⟩).k), ks) := e
  generalize hs : runN c c.length ⟨m, k, 0, 0, []⟩ = s' at e' r hle
  have hF : scanF c m k = { s' with a := c.length, sp := leaveSp s'.m c.length s'.b s'.sp } := by rw [scanF, goEnd, hs]
  refine ⟨?_, by rw [nextS]; dsimp only; rw [hF]; exact r.ok⟩
  rw [e', nextS]
  dsimp only
  rw [hF]
  congr 1
  apply List.ext_getElem?
  intro j
  have hl := r.len
  by_cases hj : j < c.length
  · rw [r.val j (by walk_at "o"), kinds, List.getElem?_map, List.getElem?_range hj, Option.map_some, hF]
    congr 1
    dsimp only
    by_cases hm : s'.m = 0
    · rw [kd, if_neg (by simp [hm]), leaveSp, if_neg (by simp [hm])]
    · have hb := r.bn
      have := leave_kd (s := s') (a := c.length) hm hb 0 j hj (b' := 0)
      rw [← this, kd, if_neg (by simp)]
  · rw [List.getElem?_eq_none (by walk_at "o"), List.getElem?_eq_none (by simp [kinds]; walk_at "o")]
theorem st_ok (ls : List (List Int)) : ∀ k, k ≤ ls.length → StOk (st ls k).1 (st ls k).2
  | 0, _ => .inl ⟨rfl, rfl⟩
  | k + 1, h => by
    obtain ⟨c, hc⟩ : ∃ c, ls[k]? = some c := ⟨_, List.getElem?_eq_getElem (by walk_at "o")⟩
    rw [st_succ hc]
    exact (walk_scan c (st_ok ls k (by walk_at "o"))).2
section
variable {X : Cx} {A : Around} {P : D → OW → Prop} {ow : OW} {ls : List (List Int)}
theorem law_begins (hA : AOk 4 A) (hl : ls.length ≤ 900) (hc : ∀ c ∈ ls, c.length ≤ 900) (p : P (.lst (sts ls (ls.length + 1))) ow) :
    TC X A (.ref 276) [encL ls] ow P := by
  refine call_def (ns := ["lines"]) (fs := [("lines", encL ls)]) hA (by walk_at "m_ho") (by kernel_rfl) (fun vs h => by obtain ⟨a, rfl⟩ := ar1 h; rfl) (by rfl) rfl (by rfl) rfl rfl rfl rfl ?_
  intro L B hB
  walk_at "m_all"
  refine mk_list (.own fun a => ?_) (by rw [sizeLine_eq]; simp)
  walk_at "m_all"
  refine st_forL hB.hh (fun _ => rfl) (ls.map encI) (fun i o => ∃ fs, Mb fs [("lines", encL ls), ("found", .own a)] "line" ∧ Sel ((L, .fm fs) :: (a, .list (sts ls (i + 1))) :: ow) o) ?_ ?_ ?_
  · walk_at "m_all"
    refine ⟨rfl, _, Mb.no (by kernel_rfl), ?_⟩
    rw [Nat.zero_add, sts_one]
    walk_at "m_sb"
  · intro i o e he ⟨fs, hfs, hs⟩
    refine U1.selW hs ?_
    have hi : i < ls.length := by have := (List.getElem?_eq_some_iff.mp he).1; simpa using this
    obtain ⟨c, hcc⟩ : ∃ c, ls[i]? = some c := ⟨_, List.getElem?_eq_getElem hi⟩
    have hcl := hc c (List.mem_of_getElem? hcc)
    have e1 : e = encI c := by simpa [hcc] using he.symm
    subst e1
    have hlen := sts_len ls (i + 1)
    walk_at "m_all"
    refine it_last (ds := sts ls (i + 1)) (.own (by walk_at "m_me")) (by walk_at "o") (sts_last ls i) (fun _ _ _ => by with_unfolding_all rfl) ?_
    walk_at "m_all"
    refine TC.tl (law_walked (hB.le rfl) hcl ?_)
    rw [(walk_scan c (st_ok ls i (by walk_at "o"))).1]
    walk_at "m_all"
    refine ⟨_, Mb.yes (e := encI c) (by kernel_rfl), ?_⟩
    rw [sts_succ, st_succ hcc]
    walk_at "m_sb"
  · rintro o ⟨fs, hfs, hs⟩
    rw [List.length_map] at hs
    refine th_next (Tf.selW hs ?_)
    refine ex_cons (ex_ret (gh_fz (n_loc (by kernel_rfl) (by walk_at "m_me") (by walk_at "m_lk") ⟨_, _, _, rfl, .s .z, ?_⟩)))
    walk_at "m_all"
    walk_at "m_ret"
end
noncomputable def faceK (v : Int) : D := if v = 0 then .lst [] else .lst [.int (faceOf v)]
theorem paint_kind (j : Nat) : ∀ (sp : List (Int × Int × Int)) (fl : List D) (z : Int), (∀ q ∈ sp, 0 ≤ q.1 ∧ 0 ≤ q.2.1 ∧ q.2.2 ≠ 0) → fl[j]? = some (faceK z) →
    (paintAll sp fl)[j]? = some (faceK (sp.foldl (fun acc q => if q.1 ≤ (j : Int) ∧ (j : Int) < q.2.1 then q.2.2 else acc) z))
  | [], fl, z, _, h => h
  | q :: sp, fl, z, hq, h => by
    obtain ⟨h1, h2, h3⟩ := hq q (.head _)
    rw [paintAll, List.foldl_cons, List.foldl_cons]
    refine paint_kind j sp _ _ (fun r hr => hq r (.tail _ hr)) ?_
    rw [paintD_get, h, Option.map_some]
    congr 1
    by_cases hc : q.1 ≤ (j : Int) ∧ (j : Int) < q.2.1
    · rw [if_pos (by walk_at "o"), if_pos hc, faceK, if_neg h3]
    · rw [if_neg (by walk_at "o"), if_neg hc]
theorem step_kind {c : List Int} {s : Sc} (ho : StOk s.m s.k) (h : ∀ q ∈ s.sp, q.2.2 = 1 ∨ q.2.2 = 2) : StOk (stepSc c s).m (stepSc c s).k ∧ ∀ q ∈ (stepSc c s).sp, q.2.2 = 1 ∨ q.2.2 = 2 := by
  have hL : ∀ a b : Int, ∀ q ∈ leaveSp s.m a b s.sp, q.2.2 = 1 ∨ q.2.2 = 2 := fun a b q hq => by
    unfold leaveSp at hq
    split at hq
    · rename_i hm
      rcases List.mem_append.mp hq with hq | hq
      · exact h q hq
      · rw [List.mem_singleton] at hq; subst hq
        rcases ho with ho | ho | ho
        · exact absurd ho.1 hm.1
        · exact .inl ho.1
        · exact .inr ho.1
    · exact h q hq
  unfold stepSc inCode inString inComment
  unfold StOk at ho ⊢
  repeat' split
  all_goals first
    | exact ⟨ho, h⟩
    | exact ⟨by dsimp only; omega, h⟩
    | exact ⟨by dsimp only; omega, hL _ _⟩
    | (refine ⟨by dsimp only; omega, fun q hq => ?_⟩
       rcases List.mem_append.mp hq with hq | hq
       · exact h q hq
       · rw [List.mem_singleton] at hq; subst hq; exact .inr rfl)
theorem run_kind {c : List Int} : ∀ (n : Nat) {s : Sc}, StOk s.m s.k → (∀ q ∈ s.sp, q.2.2 = 1 ∨ q.2.2 = 2) → StOk (runN c n s).m (runN c n s).k ∧ ∀ q ∈ (runN c n s).sp, q.2.2 = 1 ∨ q.2.2 = 2
  | 0, s, h1, h2 => ⟨h1, h2⟩
  | n + 1, s, h1, h2 => by
    rw [runN]
    split
    · obtain ⟨h3, h4⟩ := step_kind (c := c) h1 h2
      exact run_kind n h3 h4
    · exact ⟨h1, h2⟩
theorem scan_kind (c : List Int) {m k : Int} (h : StOk m k) : ∀ q ∈ (scanF c m k).sp, q.2.2 = 1 ∨ q.2.2 = 2 := by
  obtain ⟨h1, h2⟩ := run_kind (c := c) c.length (s := ⟨m, k, 0, 0, []⟩) h (fun _ h => absurd h List.not_mem_nil)
  intro q hq
  have hq : q ∈ leaveSp (runN c c.length ⟨m, k, 0, 0, []⟩).m c.length (runN c c.length ⟨m, k, 0, 0, []⟩).b (runN c c.length ⟨m, k, 0, 0, []⟩).sp := hq
  unfold leaveSp at hq
  split at hq
  · rename_i hm
    rcases List.mem_append.mp hq with hq | hq
    · exact h2 q hq
    · rw [List.mem_singleton] at hq; subst hq
      rcases h1 with h1 | h1 | h1
      · exact absurd h1.1 hm.1
      · exact .inl h1.1
      · exact .inr h1.1
  · exact h2 q hq
theorem faces_kinds (c : List Int) {m k : Int} (h : StOk m k) : facesD (scanF c m k).sp c.length = (kinds c m k).map faceK := by
  apply List.ext_getElem?
  intro j
  by_cases hj : j < c.length
  · have h1 : ∀ q ∈ (scanF c m k).sp, 0 ≤ q.1 ∧ 0 ≤ q.2.1 ∧ q.2.2 ≠ 0 := fun q hq => by
      have := scan_sp c m k q hq
      have h2 := scan_kind c h q hq
      exact ⟨this.1, this.2.2.1, by walk_at "o"⟩
    have h2 : (List.replicate c.length (D.lst []))[j]? = some (faceK 0) := by rw [List.getElem?_replicate, if_pos hj]; rfl
    rw [facesD, paint_kind j _ _ 0 h1 h2, kinds, List.map_map, List.getElem?_map, List.getElem?_range hj]
    rfl
  · rw [List.getElem?_eq_none (by rw [facesD_len]; walk_at "o"), List.getElem?_eq_none (by simp [kinds]; walk_at "o")]
theorem foldl_kind (j : Int) : ∀ (sp : List (Int × Int × Int)) (z : Int), (∀ q ∈ sp, q.2.2 = 1 ∨ q.2.2 = 2) → (z = 0 ∨ z = 1 ∨ z = 2) → (sp.foldl (fun acc q => if q.1 ≤ j ∧ j < q.2.1 then q.2.2 else acc) z = 0 ∨ sp.foldl (fun acc q => if q.1 ≤ j ∧ j < q.2.1 then q.2.2 else acc) z = 1 ∨ sp.foldl (fun acc q => if q.1 ≤ j ∧ j < q.2.1 then q.2.2 else acc) z = 2)
  | [], z, _, h => h
  | q :: sp, z, hq, h => by
    rw [List.foldl_cons]
    refine foldl_kind j sp _ (fun r hr => hq r (.tail _ hr)) ?_
    split
    · exact .inr (hq q (.head _))
    · exact h
theorem kinds_in (c : List Int) {m k : Int} (h : StOk m k) : ∀ v ∈ kinds c m k, v = 0 ∨ v = 1 ∨ v = 2 := fun v hv => by
  obtain ⟨j, _, rfl⟩ := List.mem_map.mp hv
  exact foldl_kind j _ 0 (scan_kind c h) (.inl rfl)
theorem eqv_self_ints (l : List Int) : PyData.eqvAll (pys (l.map .int)) (pys (l.map .int)) = true := by rw [eqv_ints]; simp
theorem eqv_faces : ∀ (ks : List Int), PyData.eqvAll (pys (ks.map faceK)) (pys (ks.map faceK)) = true
  | [] => by simp [pys, PyData.eqvAll]
  | v :: ks => by
    rw [List.map_cons, pys, PyData.eqvAll, eqv_faces ks, Bool.and_true]
    unfold faceK
    split
    · simp [D.py, pys, PyData.eqv, PyData.eqvAll]
    · simp [D.py, pys, PyData.eqv, PyData.eqvAll]
theorem rd_faces (ks : List Int) : ∀ e ∈ ks.map faceK, e.rd 1 = true := fun e he => by
  obtain ⟨v, _, rfl⟩ := List.mem_map.mp he
  unfold faceK
  split <;> simp [D.rd]
noncomputable abbrev knL (ls : List (List Int)) (kn : Nat → Bool) : List D := (List.range ls.length).map fun i => .bool (kn i)
theorem knL_len (ls : List (List Int)) (kn : Nat → Bool) : (knL ls kn).length = ls.length := by simp
theorem knL_get {ls : List (List Int)} {kn : Nat → Bool} {i : Nat} (h : i < ls.length) : (knL ls kn)[i]? = some (.bool (kn i)) := by simp [h]
theorem knL_set {ls : List (List Int)} {kn : Nat → Bool} {n : Nat} (h : n < ls.length) : (knL ls kn).set n (.bool true) = knL ls (fun i => i == n || kn i) := by
  apply List.ext_getElem?
  intro i
  rw [List.getElem?_set, knL_len]
  by_cases hi : i < ls.length
  · rw [knL_get hi, knL_get hi]
    by_cases e : n = i
    · subst e; simp [h]
    · have : (i == n) = false := by simp; omega
      rw [if_neg e, this]; rfl
  · rw [if_neg (by walk_at "o"), List.getElem?_eq_none (by rw [knL_len]; walk_at "o"), List.getElem?_eq_none (by rw [knL_len]; walk_at "o")]
noncomputable abbrev ownD (aK : Addr) (ls : List (List Int)) (rk : Int) : List (Str × D) := [("known", .own aK), ("heads", .lst (sts ls (ls.length + 1))), ("reckoned", .int rk)]
noncomputable abbrev ownR (aO aK : Addr) (rk : Int) (ls : List (List Int)) (kn : Nat → Bool) (ow : OW) : OW := (aO, .dic (ownD aK ls rk)) :: (aK, .list (knL ls kn)) :: ow
section
variable {X : Cx} {A : Around} {P : D → OW → Prop} {ow : OW} {dF dL aS aF dS aO aK : Addr} {lk rk : Int} {ls : List (List Int)} {kn : Nat → Bool}
local macro_rules | `(tactic| walk_at "m_x") => `(tactic| first | ((with_reducible refine' mk_list (.fz ?_) ?hz); (case hz => rw [sizeLine_eq]; simp only [List.length_cons, List.length_nil]; walk_at "o")) | ((with_reducible refine' di_get ?ha ?hb ?hs ?_); (case ha => walk_at "m_me"); (case hb => walk_at "m_lk"); (case hs => (intro _ _ _; with_unfolding_all rfl))))
theorem law_asked {n : Nat} (hA : AOk 13 A) (hl : ls.length ≤ 900) (hc : ∀ c ∈ ls, c.length ≤ 900) (hn : n < ls.length)
    (p : P (.bool true) (ownR aO aK (rk + if kn n then 0 else 1) ls (fun i => i == n || kn i) (fontR dF dL aS aF dS (lk + if kn n then 0 else 1) ls (fun i => i == n || kn i) ow))) :
    TC X A (.ref 281) [.obj 246 dF, encL ls, .int n, .own aO] (ownR aO aK rk ls kn (fontR dF dL aS aF dS lk ls kn ow)) P := by
  obtain ⟨c, hcc⟩ : ∃ c, ls[n]? = some c := ⟨_, List.getElem?_eq_getElem hn⟩
  have hcl := hc c (List.mem_of_getElem? hcc)
  have hok := st_ok ls n (by walk_at "o")
  have hfc : faceLn ls n = (kinds c (st ls n).1 (st ls n).2).map faceK := by rw [faceLn, List.getD_eq_getElem?_getD, hcc]; exact faces_kinds c hok
  have hkin := kinds_in c hok
  have hkl : (kinds c (st ls n).1 (st ls n).2).length = c.length := by simp [kinds]
  refine call_def (ns := ["font", "lines", "nth", "own"]) (fs := [("own", .own aO), ("nth", .int n), ("lines", encL ls), ("font", .obj 246 dF)])
    hA (by walk_at "m_ho") (by kernel_rfl) (fun vs h => by obtain ⟨a, b, c, d, rfl⟩ := ar4 h; rfl) (by rfl) rfl (by rfl) rfl rfl rfl rfl ?_
  intro L B hB
  walk_at "m_all"
  refine it_list .fz (by walk_at "o") (by walk_at "o") (by rw [Int.toNat_natCast, List.getElem?_map, hcc]; rfl) (fun _ _ _ => by with_unfolding_all rfl) ?_
  walk_at "m_all"
  refine it_list (ds := sts ls (ls.length + 1)) (y := encSt (st ls n)) .fz (by walk_at "o") (by walk_at "o") (by rw [Int.toNat_natCast]; exact sts_get (by walk_at "o")) (fun _ _ _ => by with_unfolding_all rfl) ?_
  walk_at "m_all"
  refine TC.tl (law_walked (hB.le rfl) hcl ?_)
  rw [(walk_scan c hok).1]
  generalize kinds c (st ls n).1 (st ls n).2 = ks at hfc hkin hkl ⊢
  walk_at "m_all"
  refine TC.tl (px5 (by walk_at "m_exd") (by walk_at "m_exd") (by walk_at "m_exd") (by walk_at "m_exd") (by walk_at "m_exd") (look (hB.le rfl) hl hc hn ?_))
  rw [hfc]
  refine Tv.selP ?_
  refine ev_comp (n := (ks.map D.int).length) (item := fun i => (ks.map D.int).getD i .none) (fun _ => rfl) (by with_unfolding_all rfl) (by decide) rfl (by decide) (by with_unfolding_all rfl) (by rw [List.length_map, sizeLine_eq]; walk_at "o")
    (fun i ys o => ys = (ks.take i).map faceK ∧ Sel ((L, .fm [("own", .own aO), ("nth", .int n), ("lines", encL ls), ("font", .obj 246 dF), ("kinds", encI ks)]) :: ownR aO aK rk ls kn (fontR dF dL aS aF dS (lk + if kn n then 0 else 1) ls (fun i => i == n || kn i) ow)) o) ?_ ?_ ?_
  · walk_at "m_all"
    exact ⟨itr_list hB.hh, rfl, by walk_at "m_sb"⟩
  · rintro i ys o C hi ⟨rfl, hs⟩ hyl
    rw [List.length_map] at hi
    obtain ⟨v, hv⟩ : ∃ v, ks[i]? = some v := ⟨_, List.getElem?_eq_getElem hi⟩
    have hvi := hkin v (List.mem_of_getElem? hv)
    refine Tv.selP ?_
    rw [show (ks.map D.int).getD i .none = .int v by rw [List.getD_eq_getElem?_getD, List.getElem?_map, hv]; rfl]
    walk_at "m_all"
    refine it_list (y := faceK v) .fz (by walk_at "o") (by walk_at "o") (by rcases hvi with rfl | rfl | rfl <;> rfl) (fun _ _ _ => by with_unfolding_all rfl) ?_
    have hlt : ((ks.take i).map faceK).length = i := by rw [List.length_map, List.length_take]; omega
    refine ⟨_, .refl, by rw [hlt, List.length_map]; exact hi, _, rfl, ?_, hs⟩
    rw [List.take_add_one, hv, List.map_append]; rfl
  · rintro ys o ⟨rfl, hs⟩
    rw [List.length_map, List.take_length]
    refine .fz ⟨_, hs, ?_⟩
    refine op_neD (q := .list (pys (ks.map faceK))) (q' := .list (pys (ks.map faceK))) hB.units64 (.l 1 (by decide) .fz (rd_faces ks)) (.l 1 (by decide) .fz (rd_faces ks)) ?_
    rw [show PyData.eqv (.list (pys (ks.map faceK))) (.list (pys (ks.map faceK))) = true by rw [PyData.eqv]; exact eqv_faces ks, Bool.not_true]
    walk_at "m_all"
    refine it_list (ds := knL ls kn) (y := .bool (kn n)) (.own (by walk_at "m_me")) (by walk_at "o") (by walk_at "o") (by rw [Int.toNat_natCast]; exact knL_get hn) (fun _ _ _ => by with_unfolding_all rfl) ?_
    cases hk : kn n
    all_goals
      rw [hk] at p
      walk_at "m_all"
      refine' di_set ?u ?k ?z ?_
      case u => walk_at "m_up"
      case k => exact .s (by kernel_rfl) (.s (by kernel_rfl) (.z (fun p hp => absurd hp List.not_mem_nil)))
      case z => exact (by decide : 3 ≤ 1000)
      walk_at "m_all"
      refine' st_item (ds := knL ls kn) ?_ ?_ ?_ ?su ?_
      case su => walk_at "m_up"
      · omega
      · omega
      · rw [Int.toNat_natCast, knL_len]; exact hn
      rw [Int.toNat_natCast, knL_set hn]
      walk_at "m_all"
      walk_at "m_ret"
end
theorem pick_to {ds : List D} {f : Nat} (h : f ≤ ds.length) : pick ds none (some (f : Int)) = ds.take f := by
  unfold pick kms_lo kms_hi
  dsimp only
  rw [if_neg (by walk_at "o"), List.drop_zero, Nat.sub_zero, show min ((f : Int)).toNat ds.length = f by walk_at "o"]
theorem pick_from {ds : List D} {i : Int} {n : Nat} (e : i = (n : Int)) (h : n ≤ ds.length) : pick ds (some i) none = ds.drop n := by
  subst e
  unfold pick kms_lo kms_hi
  dsimp only
  rw [if_neg (by walk_at "o"), show min ((n : Int)).toNat ds.length = n by walk_at "o"]
  exact List.take_of_length_le (by rw [List.length_drop]; exact Nat.le_refl _)
theorem as_tupS2 {X : Cx} {A : Around} {env : Env} {ow : OW} {PU : OW → Prop} {o1 i1 o2 i2 : Expr} {p1 p2 p : Pos} {k : Nat} {d1 d2 : D} (hh : A.handled = none)
    (x : U1 X A (assign (.Subscript o1 i1 p1) env) d1 ow (fun o => U1 X A (assign (.Subscript o2 i2 p2) env) d2 o PU)) :
    U1 X A (assign (.Tuple [.Subscript o1 i1 p1, .Subscript o2 i2 p2] k p) env) (.tup [d1, d2]) ow PU :=
  as_tup (ts := [assign (.Subscript o1 i1 p1) env, assign (.Subscript o2 i2 p2) env]) hh (by with_unfolding_all rfl) (by with_unfolding_all rfl) (by with_unfolding_all rfl)
    (ao_cons (x.mono fun o x => ao_cons (x.mono fun o x => ao_nil x)))
noncomputable def knNew (kn : Nat → Bool) (ls os : List (List Int)) (f g w i : Nat) : List D := (knL ls kn).take f ++ List.replicate w (.bool false) ++ (List.range i).map fun j => .bool (kn (f + g + j) && decide (st ls (f + g + j) = st os (f + w + j)))
theorem knNew_len {kn : Nat → Bool} {ls os : List (List Int)} {f g w i : Nat} (h : f ≤ ls.length) : (knNew kn ls os f g w i).length = f + w + i := by
  simp only [knNew, List.length_append, List.length_take, knL_len, List.length_replicate, List.length_map, List.length_range]; omega
theorem knNew_succ (kn : Nat → Bool) (ls os : List (List Int)) (f g w i : Nat) : knNew kn ls os f g w (i + 1) = knNew kn ls os f g w i ++ [.bool (kn (f + g + i) && decide (st ls (f + g + i) = st os (f + w + i)))] := by
  simp [knNew, List.range_succ]
theorem knNew_all {kn : Nat → Bool} {ls os : List (List Int)} {f g w : Nat} (h : Chg ls os f g w) : knNew kn ls os f g w (ls.length - (f + g)) = knL os (knC kn ls os f g w) := by
  have hf := h.hf
  have hw := h.hw
  have hl := h.hlen
  apply List.ext_getElem?
  intro k
  have htk : ((knL ls kn).take f).length = f := by rw [List.length_take, knL_len]; omega
  by_cases hk : k < os.length
  · rw [knL_get hk, knC, knNew]
    by_cases h1 : k < f
    · rw [List.append_assoc, List.getElem?_append_left (by walk_at "o"), List.getElem?_take, if_pos h1, knL_get (by walk_at "o"), if_pos h1]
    · by_cases h2 : k < f + w
      · rw [List.getElem?_append_left (by rw [List.length_append, htk, List.length_replicate]; walk_at "o"), List.getElem?_append_right (by walk_at "o"), List.getElem?_replicate, if_pos (by walk_at "o"), if_neg h1, if_pos h2]
      · rw [List.getElem?_append_right (by rw [List.length_append, htk, List.length_replicate]; walk_at "o"), List.length_append, htk, List.length_replicate, List.getElem?_map, List.getElem?_range (by walk_at "o"), if_neg h1, if_neg h2, Option.map_some, show f + g + (k - (f + w)) = k + g - w by walk_at "o", show f + w + (k - (f + w)) = k by walk_at "o"]
  · rw [List.getElem?_eq_none (by rw [knNew_len (by walk_at "o")]; walk_at "o"), List.getElem?_eq_none (by rw [knL_len]; walk_at "o")]
section
variable {X : Cx} {A : Around} {P : D → OW → Prop} {ow : OW} {dF dL aS aF dS aO aK aD : Addr} {lk rk : Int} {ls : List (List Int)} {kn : Nat → Bool} {dk : List Int}
local macro_rules | `(tactic| walk_at "m_x") => `(tactic| first | ((with_reducible refine' di_get ?ha ?hb ?hs ?_); (case ha => walk_at "m_me"); (case hb => walk_at "m_lk"); (case hs => (intro _ _ _; with_unfolding_all rfl))) | ((with_reducible refine' fn_min ?ha ?_); (case ha => exact AOk.hh (by assumption))))
theorem law_changed (hA : AOk 14 A) (hl : ls.length ≤ 800) (hc : ∀ c ∈ ls, c.length ≤ 900) (hd : DkOk dk)
    (p : ∀ (os : List (List Int)) (aK aS aF : Addr) (kn : Nat → Bool) (dk : List Int), os.length ≤ ls.length + 2 → (∀ c ∈ os, c.length ≤ 900) → DkOk dk → P (encL os) (dck aD dk :: ownR aO aK rk os kn (fontR dF dL aS aF dS lk os kn ow))) :
    TC X A (.ref 286) [.own aD, .obj 246 dF, encL ls, .own aO] (dck aD dk :: ownR aO aK rk ls kn (fontR dF dL aS aF dS lk ls kn ow)) P := by
  refine call_cel (ns := ["deck", "font", "lines", "own"]) (fs := [("own", .own aO), ("lines", encL ls), ("font", .obj 246 dF)]) (cl := fun L => [("deck", L + 1)]) (cells := fun L => [(L + 1, .cell (some (.own aD)))])
    hA (by walk_at "m_ho") (by kernel_rfl) (fun vs h => by obtain ⟨a, b, c, d, rfl⟩ := ar4 h; rfl) (by rfl) rfl (by decide) rfl rfl rfl (by rfl) (fun _ => rfl) (fun _ => rfl) ?_
  intro L B hB
  have hl9 : ls.length ≤ 900 := Nat.le_trans hl (by decide)
  show Tf X B _ ((L, .fm _) :: (L + 1, .cell (some (.own aD))) :: dck aD dk :: ownR aO aK rk ls kn (fontR dF dL aS aF dS lk ls kn ow)) _
  walk_at "m_all"
  refine fn_len .fz (by simp; walk_at "o") ?_
  rw [List.length_map]
  walk_at "m_all"
  have hf := drawF_lt dk (many := ls.length + 1) (by walk_at "o")
  have hd1 := drawF_ok (many := ls.length + 1) hd
  refine TC.tl (px1 (by walk_at "m_exd") (law_draw (many := ls.length + 1) (hB.le rfl) (by walk_at "o") hd ?_))
  generalize (drawF dk (ls.length + 1)).1 = f at hf ⊢
  generalize (drawF dk (ls.length + 1)).2 = dk1 at hd1 ⊢
  walk_at "m_all"
  refine fn_len .fz (by simp; walk_at "o") ?_
  rw [List.length_map]
  walk_at "m_all"
  rw [show (if (ls.length : Int) - (f : Int) < 3 then (ls.length : Int) - (f : Int) else 3) + 1 = ((min 3 (ls.length - f) + 1 : Nat) : Int) by split <;> omega]
  have hg := drawF_lt dk1 (many := min 3 (ls.length - f) + 1) (by walk_at "o")
  have hd2 := drawF_ok (many := min 3 (ls.length - f) + 1) hd1
  refine TC.tl (law_draw (hB.le rfl) (by walk_at "o") hd1 ?_)
  generalize (drawF dk1 (min 3 (ls.length - f) + 1)).1 = g at hg ⊢
  generalize (drawF dk1 (min 3 (ls.length - f) + 1)).2 = dk2 at hd2 ⊢
  have hfg : f + g ≤ ls.length := by walk_at "o"
  walk_at "m_all"
  have hw := drawF_lt dk2 (many := 3) (by walk_at "o")
  have hd3 := drawF_ok (many := 3) hd2
  generalize hdr : (drawF dk2 3).1 = w at hw
  generalize hdr2 : (drawF dk2 3).2 = dk3 at hd3
  refine ex_comp (n := w) (item := fun i => .int i) (by with_unfolding_all rfl) (fun _ => rfl) (by with_unfolding_all rfl) (by decide) rfl (by decide) (by with_unfolding_all rfl) (by rw [sizeLine_eq]; walk_at "o")
    (fun i ys o => ∃ (fr : List (List Int)) (dk' : List Int), ys = fr.map encI ∧ fr.length = i ∧ (∀ c ∈ fr, c.length ≤ 5) ∧ DkOk dk' ∧ Sel ((L, .fm [("own", .own aO), ("lines", encL ls), ("font", .obj 246 dF), ("first", .int f), ("gone", .int g)]) :: (L + 1, .cell (some (.own aD))) :: dck aD dk' :: ownR aO aK rk ls kn (fontR dF dL aS aF dS lk ls kn ow)) o) ?_ ?_ ?_
  · walk_at "m_all"
    refine TC.tl (px1 (by walk_at "m_exd") (law_draw (many := 3) (hB.le rfl) (by decide) hd2 ?_))
    rw [hdr, hdr2]
    walk_at "m_all"
    exact ⟨itr_rng0 hB.hh (by walk_at "o"), [], dk3, rfl, rfl, fun _ h => absurd h List.not_mem_nil, hd3, by walk_at "m_sb"⟩
  · rintro i ys o C hi ⟨fr, dk', rfl, hfl, hfc, hd', hs⟩ _
    refine Tv.selP (Tv.selW (.take .z hs) ?_)
    walk_at "m_all"
    refine TC.tl (px1 (by walk_at "m_exd") (law_line (hB.le rfl) hd' fun l dk'' hl5 hd'' => ?_))
    refine ⟨(C, .fm [("nth", .int i)]) :: (L, .fm [("own", .own aO), ("lines", encL ls), ("font", .obj 246 dF), ("first", .int f), ("gone", .int g)]) :: (L + 1, .cell (some (.own aD))) :: dck aD dk'' :: ownR aO aK rk ls kn (fontR dF dL aS aF dS lk ls kn ow), by walk_at "m_sb", by rw [List.length_map, hfl]; exact hi, _, rfl, fr ++ [l], dk'', by simp, by simp [hfl], fun c hc => ?_, hd'', .refl⟩
    rcases List.mem_append.mp hc with hc | hc
    · exact hfc c hc
    · rw [List.mem_singleton] at hc; subst hc; exact hl5
  · rintro ys o ⟨fr, dk', rfl, hfl, hfc, hd', hs⟩
    refine .fz ?_
    refine U1.selW hs ?_
    walk_at "m_all"
    have hlm : (ls.map encI).length = ls.length := List.length_map _
    refine ⟨_, .fz, by rw [hlm, sizeLine_eq]; omega, .fz ?_⟩
    rw [pick_to (by walk_at "o")]
    walk_at "m_all"
    refine op_cat .fz .fz (by simp only [List.length_take, List.length_map]; rw [sizeLine_eq]; walk_at "o") (.fz ?_)
    walk_at "m_all"
    refine ⟨_, .fz, by rw [hlm, sizeLine_eq]; omega, .fz ?_⟩
    rw [pick_from (i := (f : Int) + g) (n := f + g) (by walk_at "o") (by rw [hlm]; exact hfg)]
    refine op_cat .fz .fz (by simp only [List.length_append, List.length_take, List.length_map, List.length_drop]; rw [sizeLine_eq]; walk_at "o") (.fz ?_)
    rw [← List.map_take, ← List.map_drop, ← List.map_append, ← List.map_append]
    have hol : (ls.take f ++ fr ++ ls.drop (f + g)).length + g = ls.length + w := by simp only [List.length_append, List.length_take, List.length_drop]; omega
    have hoc : ∀ c ∈ ls.take f ++ fr ++ ls.drop (f + g), c.length ≤ 900 := fun c hx => by
      rcases List.mem_append.mp hx with hx | hx
      · rcases List.mem_append.mp hx with hx | hx
        · exact hc c (List.mem_of_mem_take hx)
        · have := hfc c hx; omega
      · exact hc c (List.mem_of_mem_drop hx)
    have hch : Chg ls (ls.take f ++ fr ++ ls.drop (f + g)) f g w := by
      refine ⟨hfg, by walk_at "o", hol, fun k hk => ?_, fun k hk => ?_⟩
      · rw [List.append_assoc, List.getElem?_append_left (by rw [List.length_take]; walk_at "o"), List.getElem?_take, if_pos hk]
      · rw [List.getElem?_append_right (by rw [List.length_append, List.length_take]; walk_at "o"), List.getElem?_drop]
        congr 1
        rw [List.length_append, List.length_take]; omega
    generalize ls.take f ++ fr ++ ls.drop (f + g) = os at hol hoc hch ⊢
    have ho9 : os.length ≤ 900 := by omega
    walk_at "m_all"
    refine TC.tl (law_begins (hB.le rfl) (by walk_at "o") hoc ?_)
    walk_at "m_all"
    have hkl := knL_len ls kn
    refine ⟨_, .own (by walk_at "m_me"), by rw [hkl, sizeLine_eq]; omega, .fz ?_⟩
    rw [pick_to (by walk_at "o")]
    walk_at "m_all"
    refine mk_list (.fz ?_) (by rw [sizeLine_eq]; simp)
    walk_at "m_all"
    refine fn_len .fz (by simp; walk_at "o") ?_
    rw [List.length_map, hfl]
    refine op_rep .fz (by walk_at "o") (by walk_at "o") (.fz ?_)
    rw [Int.toNat_natCast]
    refine op_cat .fz .fz (by rw [List.length_take, hkl, List.length_replicate, sizeLine_eq]; walk_at "o") (.own fun aN => ?_)
    walk_at "m_all"
    rw [show (knL ls kn).take f ++ List.replicate w (D.bool false) = knNew kn ls os f g w 0 by simp [knNew]]
    refine st_forR hB.hh (fun _ => rfl) (f + g) ls.length (by walk_at "o") (by walk_at "o") (fun i o => ∃ fs, Mb fs [("own", .own aO), ("lines", encL ls), ("font", .obj 246 dF), ("first", .int f), ("gone", .int g), ("fresh", .lst (fr.map encI)), ("others", encL os), ("known", .own aN), ("heads", .lst (sts os (os.length + 1)))] "nth" ∧
      Sel ((L, .fm fs) :: (aN, .list (knNew kn ls os f g w i)) :: (L + 1, .cell (some (.own aD))) :: dck aD dk' :: ownR aO aK rk ls kn (fontR dF dL aS aF dS lk ls kn ow)) o) ?_ ?_ ?_
    · walk_at "m_all"
      refine fn_len .fz (by simp; walk_at "o") ?_
      rw [List.length_map]
      walk_at "m_all"
      exact ⟨rfl, _, Mb.no (by kernel_rfl), by walk_at "m_sb"⟩
    · rintro i o hi ⟨fs, hfs, hs⟩
      refine U1.selW hs ?_
      have hlen := knNew_len (kn := kn) (ls := ls) (os := os) (f := f) (g := g) (w := w) (i := i) (by walk_at "o")
      walk_at "m_all"
      refine it_list (ds := knL ls kn) (y := .bool (kn (f + g + i))) (.own (by walk_at "m_me")) (by walk_at "o") (by walk_at "o") (by rw [Int.toNat_natCast]; exact knL_get hi) (fun _ _ _ => by with_unfolding_all rfl) ?_
      walk_at "m_all"
      · rename_i hk
        refine it_list (ds := sts ls (ls.length + 1)) (y := encSt (st ls (f + g + i))) .fz (by walk_at "o") (by walk_at "o") (by rw [Int.toNat_natCast]; exact sts_get (by walk_at "o")) (fun _ _ _ => by with_unfolding_all rfl) ?_
        walk_at "m_all"
        refine fn_len .fz (by simp; walk_at "o") ?_
        rw [List.length_map, hfl]
        walk_at "m_all"
        rw [show ((f + g + i : Nat) : Int) - (g : Int) + (w : Int) = ((f + w + i : Nat) : Int) by walk_at "o"]
        refine it_list (ds := sts os (os.length + 1)) (y := encSt (st os (f + w + i))) .fz (by walk_at "o") (by walk_at "o") (by rw [Int.toNat_natCast]; exact sts_get (by walk_at "o")) (fun _ _ _ => by with_unfolding_all rfl) ?_
        refine op_eqS hB.units64 ?_
        walk_at "m_all"
        refine ⟨_, Mb.yes (e := .int ((f + g + i : Nat) : Int)) (by kernel_rfl), ?_⟩
        rw [knNew_succ, hk, Bool.true_and]
        walk_at "m_sb"
      · rename_i hk
        refine ⟨_, Mb.yes (e := .int ((f + g + i : Nat) : Int)) (by kernel_rfl), ?_⟩
        rw [knNew_succ, hk, Bool.false_and]
        walk_at "m_sb"
    · rintro o ⟨fs, hfs, hs⟩
      rw [knNew_all hch] at hs
      refine th_next (Tf.selW hs ?_)
      walk_at "m_all"
      refine as_tupS2 hB.hh (as_sub ?_)
      walk_at "m_all"
      refine' di_set ?u1 ?k1 ?z1 ?_
      case u1 => walk_at "m_up"
      case k1 => exact .z (fun p hp => by rcases List.mem_cons.mp hp with rfl | hp; rfl; rcases List.mem_cons.mp hp with rfl | hp; rfl; cases hp)
      case z1 => exact (by decide : 3 ≤ 1000)
      refine as_sub ?_
      walk_at "m_all"
      refine' di_set ?u2 ?k2 ?z2 ?_
      case u2 => walk_at "m_up"
      case k2 => exact .s (by kernel_rfl) (.z (fun p hp => by rcases List.mem_cons.mp hp with rfl | hp; rfl; cases hp))
      case z2 => exact (by decide : 3 ≤ 1000)
      walk_at "m_all"
      refine fn_len .fz (by simp; walk_at "o") ?_
      rw [List.length_map, hfl]
      walk_at "m_all"
      refine TC.tl (px5 (by walk_at "m_exd") (by walk_at "m_exd") (by walk_at "m_exd") (by walk_at "m_exd") (by walk_at "m_exd") (font_changed (hB.le rfl) (by walk_at "o") (by walk_at "o") hoc hch fun aS' aF' => ?_))
      have p := p os aN aS' aF' (knC kn ls os f g w) dk' (by walk_at "o") hoc hd'
      walk_at "m_all"
      walk_at "m_ret"
end
section
variable {X : Cx} {A : Around} {P : D → OW → Prop} {ow : OW} {dS : Addr}
theorem signs_init (hA : AOk 1 A) (p : P .none (sgn dS :: ow)) :
    TC X A (.ref 55) [.obj 58 dS, .lst [.int 34], .int 92, .lst [.lst [.int 59]], .lst [.int 123], .lst [.int 125], .bool true] ((dS, .ns []) :: ow) P := by
  refine call_def (ns := ["self", "quotes", "escape", "line_starts", "start", "end", "nests"]) (fs := [("nests", .bool true), ("end", .lst [.int 125]), ("start", .lst [.int 123]), ("line_starts", .lst [.lst [.int 59]]), ("escape", .int 92), ("quotes", .lst [.int 34]), ("self", .obj 58 dS)])
    hA (by walk_at "m_ho") (by kernel_rfl) (fun vs h => by obtain ⟨a, b, c, d, e, f, g, rfl⟩ := ar7 h; rfl) (by rfl) rfl (by rfl) rfl rfl rfl rfl ?_
  intro L B hB
  walk_at "m_all"
  walk_at "m_ret"
end
section
variable {X : Cx} {A : Around} {P : D → OW → Prop} {ow : OW}
theorem op_neL {B : Around} {ls : List (List Int)} (hu : B.units + 64 < cLine) (p : P (.bool (!decide (ls = []))) ow) : T2 X B (compareOp .NotEq) (encL ls) (.lst []) ow P := by
  refine op_neD (q := .list (pys (ls.map encI))) (q' := .list (pys [])) hu (.l 1 (by decide) .fz fun e he => ?_) (.l 1 (by decide) .fz fun e he => absurd he List.not_mem_nil) ?_
  · obtain ⟨c, _, rfl⟩ := List.mem_map.mp he
    simp [D.rd]
  · cases ls with
    | nil => simpa [pys, PyData.eqv, PyData.eqvAll] using p
    | cons c r => simpa [pys, PyData.eqv, PyData.eqvAll] using p
theorem TC.selW {f : Value} {ds : List D} {l : OW} (s : Sel l ow) (x : TC X A f ds l P) : TC X A f ds ow P := fun dt fr h vs S a => x dt fr h vs (s.st S) a
theorem Tb.selP {t : Sem Bool} {PB : Bool → OW → Prop} (x : Tb X A t ow (fun b o => ∃ l, Sel l o ∧ PB b l)) : Tb X A t ow PB := fun dt fr h S => (x dt fr h S).mono fun _ _ ⟨o, S', l, s, p⟩ => ⟨l, s.st S', p⟩
theorem op_eqN {B : Around} (hu : B.units + 64 < cLine) (p : P (.bool true) ow) : T2 X B (compareOp .Eq) (.lst []) (.lst []) ow P := by
  refine op_eqD (q := .list (pys [])) (q' := .list (pys [])) hu (.l 1 (by decide) .fz fun e he => absurd he List.not_mem_nil) (.l 1 (by decide) .fz fun e he => absurd he List.not_mem_nil) ?_
  simpa [pys, PyData.eqv, PyData.eqvAll] using p
theorem eqv_sts (f : Nat → Int × Int) : ∀ l : List Nat, PyData.eqvAll (pys (l.map fun k => encSt (f k))) (pys (l.map fun k => encSt (f k))) = true
  | [] => by simp [pys, PyData.eqvAll]
  | k :: l => by
    rw [List.map_cons, pys, PyData.eqvAll, eqv_sts f l, Bool.and_true]
    simp [D.py, pys, PyData.eqv, PyData.eqvAll]
theorem op_neSt {B : Around} {ls : List (List Int)} {n : Nat} (hu : B.units + 64 < cLine) (p : P (.bool false) ow) : T2 X B (compareOp .NotEq) (.lst (sts ls n)) (.lst (sts ls n)) ow P := by
  have hr : ∀ e ∈ sts ls n, e.rd 1 = true := fun e he => by
    obtain ⟨c, _, rfl⟩ := List.mem_map.mp he
    simp [D.rd]
  refine op_neD (q := .list (pys (sts ls n))) (q' := .list (pys (sts ls n))) hu (.l 1 (by decide) .fz hr) (.l 1 (by decide) .fz hr) ?_
  rw [show PyData.eqv (.list (pys (sts ls n))) (.list (pys (sts ls n))) = true by rw [PyData.eqv]; exact eqv_sts _ _, Bool.not_true]
  exact p
local macro_rules | `(tactic| walk_at "m_x") => `(tactic| first | ((with_reducible refine' mk_list (.fz ?_) ?hz); (case hz => rw [sizeLine_eq]; simp only [List.length_cons, List.length_nil]; walk_at "o")) | ((with_reducible refine' di_get ?ha ?hb ?hs ?_); (case ha => walk_at "m_me"); (case hb => walk_at "m_lk"); (case hs => (intro _ _ _; with_unfolding_all rfl))))
theorem law_top {script : List Int} (hA : AOk 20 A) (hs : script.length ≤ 63) (p : P (.bool true) ow) :
    TC X A (.ref 291) [encI script] ow P := by
  refine call_cel (ns := ["script"]) (fs := [("script", encI script)]) (cl := fun L => [("own", L + 1 + 1 + 1 + 1), ("font", L + 1 + 1 + 1), ("lines", L + 1 + 1), ("deck", L + 1)]) (cells := fun L => [(L + 1 + 1 + 1 + 1, .cell none), (L + 1 + 1 + 1, .cell none), (L + 1 + 1, .cell none), (L + 1, .cell none)])
    hA (by walk_at "m_ho") (by kernel_rfl) (fun vs h => by obtain ⟨a, rfl⟩ := ar1 h; rfl) (by rfl) rfl (by decide) rfl rfl rfl (by rfl) (fun _ => rfl) (fun _ => rfl) ?_
  intro L B hB
  show Tf X B _ ((L, .fm _) :: (L + 1 + 1 + 1 + 1, .cell none) :: (L + 1 + 1 + 1, .cell none) :: (L + 1 + 1, .cell none) :: (L + 1, .cell none) :: ow) _
  walk_at "m_all"
  refine Tv.selP ?_
  refine ev_comp (n := (script.map D.int).length) (item := fun i => (script.map D.int).getD i .none) (fun _ => rfl) (by with_unfolding_all rfl) (by decide) rfl (by decide) (by with_unfolding_all rfl) (by rw [List.length_map, sizeLine_eq]; walk_at "o")
    (fun i ys o => ys = encD ((script.take i).map fun x => if x < 0 then -x else x) ∧ Sel ((L, .fm [("script", encI script)]) :: (L + 1 + 1 + 1 + 1, .cell none) :: (L + 1 + 1 + 1, .cell none) :: (L + 1 + 1, .cell none) :: (L + 1, .cell none) :: ow) o) ?_ ?_ ?_
  · walk_at "m_all"
    refine ⟨_, .fz, by rw [List.length_map, sizeLine_eq]; omega, .fz ?_⟩
    rw [show (63 : Int) = ((63 : Nat) : Int) from rfl]
    rw [show pick (script.map D.int) none (some ((63 : Nat) : Int)) = script.map D.int by
      unfold pick kms_lo kms_hi
      dsimp only
      rw [if_neg (by walk_at "o"), List.drop_zero, Nat.sub_zero]
      exact List.take_of_length_le (by rw [List.length_map]; walk_at "o")]
    exact ⟨itr_list hB.hh, rfl, .refl⟩
  · rintro i ys o C hi ⟨rfl, hs'⟩ _
    rw [List.length_map] at hi
    obtain ⟨v, hv⟩ : ∃ v, script[i]? = some v := ⟨_, List.getElem?_eq_getElem hi⟩
    rw [show (script.map D.int).getD i .none = .int v by rw [List.getD_eq_getElem?_getD, List.getElem?_map, hv]; rfl]
    refine Tv.selP ?_
    walk_at "m_all"
    refine fn_abs ?_
    refine ⟨_, .refl, by rw [List.length_map, List.length_map, List.length_take, List.length_map]; omega, _, rfl, ?_, hs'⟩
    rw [List.take_add_one, hv]
    simp
  · rintro ys o ⟨rfl, hs'⟩
    rw [List.length_map, List.take_length]
    refine .own fun aD => ⟨_, .take .z hs', ?_⟩
    have hd : DkOk (script.map fun x => if x < 0 then -x else x) := ⟨by rw [List.length_map]; exact hs, fun x hx => by
      obtain ⟨y, _, rfl⟩ := List.mem_map.mp hx
      split <;> omega⟩
    generalize (script.map fun x => if x < 0 then -x else x) = dk at hd ⊢
    walk_at "m_all"
    have hn := drawF_lt dk (many := 7) (by decide)
    have hd1 := drawF_ok (many := 7) hd
    generalize hdr : (drawF dk 7).1 = n at hn
    generalize hdr2 : (drawF dk 7).2 = dk1 at hd1
    refine Tv.selP ?_
    refine ev_comp (n := n) (item := fun i => .int i) (fun _ => rfl) (by with_unfolding_all rfl) (by decide) rfl (by decide) (by with_unfolding_all rfl) (by rw [sizeLine_eq]; walk_at "o")
      (fun i ys o => ∃ (fr : List (List Int)) (dk' : List Int), ys = fr.map encI ∧ fr.length = i ∧ (∀ c ∈ fr, c.length ≤ 900) ∧ DkOk dk' ∧ Sel ((L, .fm [("script", encI script)]) :: dck aD dk' :: (L + 1 + 1 + 1 + 1, .cell none) :: (L + 1 + 1 + 1, .cell none) :: (L + 1 + 1, .cell none) :: (L + 1, .cell (some (.own aD))) :: ow) o) ?_ ?_ ?_
    · walk_at "m_all"
      refine TC.tl (px1 (by walk_at "m_exd") (law_draw (many := 7) (hB.le rfl) (by decide) hd ?_))
      rw [hdr, hdr2]
      walk_at "m_all"
      exact ⟨itr_rng0 hB.hh (by walk_at "o"), [], dk1, rfl, rfl, fun _ h => absurd h List.not_mem_nil, hd1, by walk_at "m_sb"⟩
    · rintro i ys o C hi ⟨fr, dk', rfl, hfl, hfc, hd', hs'⟩ _
      refine Tv.selP (Tv.selW (.take .z hs') ?_)
      walk_at "m_all"
      refine TC.tl (px1 (by walk_at "m_exd") (law_line (hB.le rfl) hd' fun l dk'' hl5 hd'' => ?_))
      refine ⟨(C, .fm [("nth", .int i)]) :: (L, .fm [("script", encI script)]) :: dck aD dk'' :: (L + 1 + 1 + 1 + 1, .cell none) :: (L + 1 + 1 + 1, .cell none) :: (L + 1 + 1, .cell none) :: (L + 1, .cell (some (.own aD))) :: ow, by walk_at "m_sb", by rw [List.length_map, hfl]; exact hi, _, rfl, fr ++ [l], dk'', by simp, by simp [hfl], fun c hc => ?_, hd'', .refl⟩
      rcases List.mem_append.mp hc with hc | hc
      · exact hfc c hc
      · rw [List.mem_singleton] at hc; subst hc; omega
    · rintro ys o ⟨ls, dk', rfl, hl, hc, hd', hs'⟩
      refine .fz ⟨_, hs', ?_⟩
      walk_at "m_all"
      refine TC.tl (call_make (n := 17) (hB.le rfl) (by kernel_rfl) (by kernel_rfl) (by kernel_rfl) fun dS A' hA' => signs_init (hA'.le rfl) ⟨rfl, ?_⟩)
      walk_at "m_all"
      refine TC.tl (call_make (n := 17) (hB.le rfl) (by kernel_rfl) (by kernel_rfl) (by kernel_rfl) fun dF A' hA' => font_init (hA'.le rfl) (by walk_at "o") hc fun dL aS aF => ⟨rfl, ?_⟩)
      walk_at "m_all"
      refine ev_dict3 (by with_unfolding_all rfl) ?_
      walk_at "m_all"
      refine fn_len .fz (by simp; walk_at "o") ?_
      rw [List.length_map]
      refine op_rep .fz (by walk_at "o") (by walk_at "o") (.own fun aK => ?_)
      rw [Int.toNat_natCast]
      walk_at "m_all"
      refine TC.tl (law_begins (hB.le rfl) (by walk_at "o") hc ?_)
      walk_at "m_all"
      refine ⟨by decide, fun aO => ?_⟩
      rw [show List.replicate ls.length (D.bool false) = knL ls (fun _ => false) by
        apply List.ext_getElem?
        intro i
        by_cases hi : i < ls.length
        · rw [knL_get hi, List.getElem?_replicate, if_pos hi]
        · rw [List.getElem?_eq_none (by simp; walk_at "o"), List.getElem?_eq_none (by rw [knL_len]; walk_at "o")]]
      walk_at "m_all"
      have hb := drawF_lt dk' (many := 12) (by decide)
      have hd2 := drawF_ok (many := 12) hd'
      generalize hbr : (drawF dk' 12).1 = nb at hb
      generalize hbr2 : (drawF dk' 12).2 = dk2 at hd2
      refine st_forR hB.hh (fun _ => rfl) 0 (3 + nb) (by walk_at "o") (by walk_at "o") (fun i o => ∃ (fs : List (Str × D)) (ls : List (List Int)) (aK aS aF : Addr) (kn : Nat → Bool) (rk : Int) (dk : List Int), M1w fs [("script", encI script)] "beat" "unknown" ∧ ls.length ≤ 6 + 2 * i ∧ (∀ c ∈ ls, c.length ≤ 900) ∧ DkOk dk ∧
        Sel ((L, .fm fs) :: (L + 1 + 1 + 1 + 1, .cell (some (.own aO))) :: (L + 1 + 1 + 1, .cell (some (.obj 246 dF))) :: (L + 1 + 1, .cell (some (encL ls))) :: (L + 1, .cell (some (.own aD))) :: dck aD dk :: ownR aO aK rk ls kn (fontR dF dL aS aF dS rk ls kn ow)) o) ?_ ?_ ?_
      · walk_at "m_all"
        refine TC.tl (px1 (by walk_at "m_exd") (law_draw (many := 12) (hB.le rfl) (by decide) hd' ?_))
        rw [hbr, hbr2]
        walk_at "m_all"
        refine ⟨rfl, _, ls, aK, aS, aF, fun _ => false, 0, dk2, M1w.no (by kernel_rfl) (by kernel_rfl) (by kernel_rfl), by walk_at "o", hc, hd2, ?_⟩
        walk_at "m_sb"
      · rintro i o hi ⟨fs, ls, aK, aS, aF, kn, rk, dk, hfs, hll, hc, hd, hs⟩
        have hl8 : ls.length ≤ 800 := by omega
        have hl9 : ls.length ≤ 900 := Nat.le_trans hl8 (by decide)
        refine U1.selW hs ?_
        obtain ⟨f1, h1, h2⟩ := hfs (.int ((0 + i : Nat) : Int))
        have h2 : Mb f1 [("script", encI script), ("beat", .int ((0 + i : Nat) : Int))] "unknown" := h2
        refine s_loc (by kernel_rfl) .z h1 ?_
        refine ex_cons (Tf.mono (P := fun fl o => fl = .next ∧ ∃ (ls : List (List Int)) (aK aS aF : Addr) (kn : Nat → Bool) (rk : Int) (dk : List Int), ls.length ≤ 6 + 2 * (i + 1) ∧ (∀ c ∈ ls, c.length ≤ 900) ∧ DkOk dk ∧
          Sel ((L, .fm f1) :: (L + 1 + 1 + 1 + 1, .cell (some (.own aO))) :: (L + 1 + 1 + 1, .cell (some (.obj 246 dF))) :: (L + 1 + 1, .cell (some (encL ls))) :: (L + 1, .cell (some (.own aD))) :: dck aD dk :: ownR aO aK rk ls kn (fontR dF dL aS aF dS rk ls kn ow)) o) ?_ ?_)
        · walk_at "m_all"
          have h3 := drawF_lt dk (many := 3) (by decide)
          have hd3 := drawF_ok (many := 3) hd
          refine TC.tl (px1 (by walk_at "m_exd") (law_draw (many := 3) (hB.le rfl) (by decide) hd ?_))
          generalize (drawF dk 3).1 = v3 at h3 ⊢
          generalize (drawF dk 3).2 = dk3 at hd3 ⊢
          walk_at "m_all"
          · refine op_neL hB.units64 ?_
            walk_at "m_all"
            · rename_i hne
              have hpos : 0 < ls.length := by
                cases ls with
                | nil => simp at hne
                | cons c r => simp
              refine fn_len .fz (by simp; walk_at "o") ?_
              rw [List.length_map]
              walk_at "m_all"
              have hn2 := drawF_lt dk3 (many := ls.length) hpos
              have hd4 := drawF_ok (many := ls.length) hd3
              refine TC.tl (px1 (by walk_at "m_exd") (law_draw (many := ls.length) (hB.le rfl) hpos hd3 ?_))
              generalize (drawF dk3 ls.length).1 = v4 at hn2 ⊢
              generalize (drawF dk3 ls.length).2 = dk4 at hd4 ⊢
              walk_at "m_all"
              refine TC.tl (TC.selW (l := ownR aO aK rk ls kn (fontR dF dL aS aF dS rk ls kn (dck aD dk4 :: (L, .fm f1) :: (L + 1 + 1 + 1 + 1, .cell (some (.own aO))) :: (L + 1 + 1 + 1, .cell (some (.obj 246 dF))) :: (L + 1 + 1, .cell (some (encL ls))) :: (L + 1, .cell (some (.own aD))) :: ow))) (by walk_at "m_sb") (law_asked (hB.le rfl) (by walk_at "o") hc hn2 ?_))
              walk_at "m_all"
              · rename_i h
                cases h
              · exact ⟨rfl, ls, aK, aS, aF, _, _, dk4, by walk_at "o", hc, hd4, by walk_at "m_sb"⟩
            · refine TC.tl (TC.selW (l := dck aD dk3 :: ownR aO aK rk ls kn (fontR dF dL aS aF dS rk ls kn ((L, .fm f1) :: (L + 1 + 1 + 1 + 1, .cell (some (.own aO))) :: (L + 1 + 1 + 1, .cell (some (.obj 246 dF))) :: (L + 1 + 1, .cell (some (encL ls))) :: (L + 1, .cell (some (.own aD))) :: ow))) (by walk_at "m_sb") (law_changed (hB.le rfl) (by walk_at "o") hc hd3 fun os aK' aS' aF' kn' dk' hol hoc hd' => ?_))
              walk_at "m_all"
              exact ⟨rfl, os, aK', aS', aF', kn', rk, dk', by walk_at "o", hoc, hd', by walk_at "m_sb"⟩
          · refine TC.tl (TC.selW (l := dck aD dk3 :: ownR aO aK rk ls kn (fontR dF dL aS aF dS rk ls kn ((L, .fm f1) :: (L + 1 + 1 + 1 + 1, .cell (some (.own aO))) :: (L + 1 + 1 + 1, .cell (some (.obj 246 dF))) :: (L + 1 + 1, .cell (some (encL ls))) :: (L + 1, .cell (some (.own aD))) :: ow))) (by walk_at "m_sb") (law_changed (hB.le rfl) (by walk_at "o") hc hd3 fun os aK' aS' aF' kn' dk' hol hoc hd' => ?_))
            walk_at "m_all"
            exact ⟨rfl, os, aK', aS', aF', kn', rk, dk', by walk_at "o", hoc, hd', by walk_at "m_sb"⟩
        · rintro fl o ⟨rfl, ls, aK, aS, aF, kn, rk, dk, hll, hc, hd, hs⟩
          have hl9 : ls.length ≤ 900 := by omega
          refine th_next (Tf.selW hs ?_)
          walk_at "m_all"
          refine Tv.selP ?_
          refine ev_comp (n := ls.length + 1) (item := fun i => .int i) (fun _ => rfl) (by with_unfolding_all rfl) (by decide) rfl (by decide) (by with_unfolding_all rfl) (by rw [sizeLine_eq]; walk_at "o")
            (fun j ys o => ys = sts ls j ∧ Sel ((L, .fm f1) :: (L + 1 + 1 + 1 + 1, .cell (some (.own aO))) :: (L + 1 + 1 + 1, .cell (some (.obj 246 dF))) :: (L + 1 + 1, .cell (some (encL ls))) :: (L + 1, .cell (some (.own aD))) :: dck aD dk :: ownR aO aK rk ls kn (fontR dF dL aS aF dS rk ls kn ow)) o) ?_ ?_ ?_
          · walk_at "m_all"
            refine fn_len .fz (by simp; walk_at "o") ?_
            rw [List.length_map]
            walk_at "m_all"
            rw [show (ls.length : Int) + 1 = ((ls.length + 1 : Nat) : Int) by walk_at "o"]
            exact ⟨itr_rng0 hB.hh (by walk_at "o"), rfl, .refl⟩
          · rintro j ys o C hj ⟨rfl, hs'⟩ _
            refine Tv.selP (Tv.selW (.take .z hs') ?_)
            walk_at "m_all"
            refine TC.tl (px2 (by walk_at "m_exd") (by walk_at "m_exd") (begin_of (n := ls.length + 1) (hB.le rfl) hj (by walk_at "o") ?_))
            refine ⟨(C, .fm [("nth", .int j)]) :: (L, .fm f1) :: (L + 1 + 1 + 1 + 1, .cell (some (.own aO))) :: (L + 1 + 1 + 1, .cell (some (.obj 246 dF))) :: (L + 1 + 1, .cell (some (encL ls))) :: (L + 1, .cell (some (.own aD))) :: dck aD dk :: ownR aO aK rk ls kn (fontR dF dL aS aF dS rk ls kn ow), by walk_at "m_sb", by rw [sts_len]; exact hj, _, rfl, by rw [sts_succ], .refl⟩
          · rintro ys o ⟨rfl, hs'⟩
            refine .fz ⟨_, hs', ?_⟩
            walk_at "m_all"
            refine op_neSt hB.units64 ?_
            walk_at "m_all"
            refine ex_comp (n := ls.length) (item := fun i => .int i) (by with_unfolding_all rfl) (fun _ => rfl) (by with_unfolding_all rfl) (by decide) rfl (by decide) (by with_unfolding_all rfl) (by rw [sizeLine_eq]; walk_at "o")
              (fun j ys o => ys = intsOf ((List.range j).filter fun i => !kn i) ∧ Sel ((L, .fm f1) :: (L + 1 + 1 + 1 + 1, .cell (some (.own aO))) :: (L + 1 + 1 + 1, .cell (some (.obj 246 dF))) :: (L + 1 + 1, .cell (some (encL ls))) :: (L + 1, .cell (some (.own aD))) :: dck aD dk :: ownR aO aK rk ls kn (fontR dF dL aS aF dS rk ls kn ow)) o) ?_ ?_ ?_
            · walk_at "m_all"
              refine fn_len .fz (by simp; walk_at "o") ?_
              rw [List.length_map]
              walk_at "m_all"
              exact ⟨itr_rng0 hB.hh (by walk_at "o"), rfl, .refl⟩
            · rintro j ys o C hj ⟨rfl, hs'⟩ hyl
              show Tb X B _ _ _
              refine Tb.selW (.take .z hs') ?_
              walk_at "m_all"
              refine it_list (ds := knL ls kn) (y := .bool (kn j)) (.own (by walk_at "m_me")) (by walk_at "o") (by walk_at "o") (by rw [Int.toNat_natCast]; exact knL_get hj) (fun _ _ _ => by with_unfolding_all rfl) ?_
              walk_at "m_all"
              · rename_i hk
                refine ⟨by walk_at "o", _, rfl, ?_, .refl⟩
                rw [List.range_succ, List.filter_append, List.filter_cons_of_pos (p := fun i => !kn i) hk]
                simp [intsOf]
              · rename_i hk
                refine ⟨_, rfl, ?_, .refl⟩
                rw [List.range_succ, List.filter_append, List.filter_cons_of_neg (p := fun i => !kn i) (by rw [hk]; decide)]
                simp [intsOf]
            · rintro ys o ⟨rfl, hs'⟩
              refine .fz (U1.selW hs' ?_)
              walk_at "m_all"
              refine TC.tl (TC.selW (l := fontR dF dL aS aF dS rk ls kn ((L, .fm [("script", encI script), ("beat", .int ((0 + i : Nat) : Int)), ("unknown", .lst (intsOf ((List.range ls.length).filter fun i => !kn i)))]) :: (L + 1 + 1 + 1 + 1, .cell (some (.own aO))) :: (L + 1 + 1 + 1, .cell (some (.obj 246 dF))) :: (L + 1 + 1, .cell (some (encL ls))) :: (L + 1, .cell (some (.own aD))) :: dck aD dk :: ownR aO aK rk ls kn ow)) (by walk_at "m_sb") (dirty (hB.le rfl) (by walk_at "o") ?_))
              walk_at "m_all"
              refine op_neI (a := ((List.range ls.length).filter fun i => !kn i).map fun (i : Nat) => (i : Int)) (b := ((List.range ls.length).filter fun i => !kn i).map fun (i : Nat) => (i : Int)) hB.units64 (by rw [List.map_map]; exact .fz) (by rw [List.map_map]; exact .fz) ?_
              rw [decide_eq_true rfl]
              walk_at "m_all"
              · rename_i h
                simp at h
              · rename_i h
                simp at h
              · exact ⟨_, ls, aK, aS, aF, kn, rk, dk, M1w.yes (by kernel_rfl) (by kernel_rfl) (by kernel_rfl), hll, hc, hd, by walk_at "m_sb"⟩
      · rintro o ⟨fs, ls, aK, aS, aF, kn, rk, dk, hfs, hll, hc, hd, hs⟩
        have hl9 : ls.length ≤ 900 := by omega
        refine th_next (Tf.selW hs ?_)
        walk_at "m_all"
        refine Tv.selP ?_
        refine ev_comp (n := ls.length) (item := fun i => .int i) (fun _ => rfl) (by with_unfolding_all rfl) (by decide) rfl (by decide) (by with_unfolding_all rfl) (by rw [sizeLine_eq]; walk_at "o")
          (fun j ys o => ys = [] ∧ ∃ (kn : Nat → Bool) (rk : Int), Sel ((L, .fm fs) :: (L + 1 + 1 + 1 + 1, .cell (some (.own aO))) :: (L + 1 + 1 + 1, .cell (some (.obj 246 dF))) :: (L + 1 + 1, .cell (some (encL ls))) :: (L + 1, .cell (some (.own aD))) :: dck aD dk :: ownR aO aK rk ls kn (fontR dF dL aS aF dS rk ls kn ow)) o) ?_ ?_ ?_
        · walk_at "m_all"
          refine fn_len .fz (by simp; walk_at "o") ?_
          rw [List.length_map]
          walk_at "m_all"
          exact ⟨itr_rng0 hB.hh (by walk_at "o"), rfl, kn, rk, .refl⟩
        · rintro j ys o C hj ⟨rfl, kn, rk, hs'⟩ hyl
          show Tb X B _ _ _
          refine Tb.selP (Tb.selW (.take .z hs') ?_)
          walk_at "m_all"
          refine TC.tl (TC.selW (l := ownR aO aK rk ls kn (fontR dF dL aS aF dS rk ls kn ((C, .fm [("nth", .int j)]) :: (L, .fm fs) :: (L + 1 + 1 + 1 + 1, .cell (some (.own aO))) :: (L + 1 + 1 + 1, .cell (some (.obj 246 dF))) :: (L + 1 + 1, .cell (some (encL ls))) :: (L + 1, .cell (some (.own aD))) :: dck aD dk :: ow))) (by walk_at "m_sb") (law_asked (hB.le rfl) (by walk_at "o") hc hj ?_))
          walk_at "m_all"
          exact ⟨(C, .fm [("nth", .int j)]) :: (L, .fm fs) :: (L + 1 + 1 + 1 + 1, .cell (some (.own aO))) :: (L + 1 + 1 + 1, .cell (some (.obj 246 dF))) :: (L + 1 + 1, .cell (some (encL ls))) :: (L + 1, .cell (some (.own aD))) :: dck aD dk :: ownR aO aK (rk + if kn j then 0 else 1) ls (fun i => i == j || kn i) (fontR dF dL aS aF dS (rk + if kn j then 0 else 1) ls (fun i => i == j || kn i) ow), by walk_at "m_sb", _, rfl, rfl, _, _, .refl⟩
        · rintro ys o ⟨rfl, kn, rk, hs'⟩
          refine .fz ⟨_, hs', ?_⟩
          walk_at "m_all"
          refine op_eqN hB.units64 ?_
          walk_at "m_all"
          walk_at "m_ret"
end
theorem va_ints {fz : Fz} {vs : List Value} {is : List Int} (h : IntsAre vs is) : VA fz vs (is.map .int) := by
  induction h with
  | nil => exact .nil
  | cons n t _ ih => exact .cons (.int n t) ih
theorem run_law {w : World} {s₁ : Shared} {mg mb : Str → Option Value} (KX : (KF w.params).In s₁.heap) (g : s₁.heap.Ns mainGlobals mg) (b : s₁.heap.Ns builtinsNs mb) (lim : s₁.heap.NoLimit)
    (bi : ∀ x : Str, x ≠ "__name__" → mb x = bootBuiltins x) {pg : Program} {l : Addr} {vs : List Value} {is : List Int} (hget : s₁.heap.get? l = some (listOf vs.toArray 0)) (hI : IntsAre vs is) (hl : is.length ≤ 63) :
    wpAny (model pg w) callerA (call (.ref 291) [.ref l]) (fun v s' => v = .bool true ∧ Kin s₁ s' ∧ ∀ a o, s₁.heap.get? a = some o → s'.heap.get? a = some o) (fun _ _ => False) s₁ := by
  have hA : AOk 20 callerA := ⟨rfl, by decide, by decide⟩
  have S : SF ⟨pg, w, s₁.heap, mg, mb, KX, lim, g, b, bi⟩ [(l, listOf vs.toArray 0)] [(.ref l, encI is)] ([] ++ []) s₁.heap :=
    ⟨fun _ _ e => e, fun p hp => by rw [List.mem_singleton] at hp; subst hp; exact hget, fun p hp => absurd hp List.not_mem_nil, fun p hp => absurd hp List.not_mem_nil, fun p hp => absurd hp List.not_mem_nil, List.Pairwise.nil,
      fun p hp => by rw [List.mem_singleton] at hp; subst hp; exact .lst (.head _) (va_ints hI)⟩
  have h := law_top (X := ⟨pg, w, s₁.heap, mg, mb, KX, lim, g, b, bi⟩) (P := fun d o => d = .bool true) (ow := []) hA hl rfl [(.ref l, encI is)] [] s₁.heap [.ref l] ⟨_, S⟩ (.cons (.head _) .nil)
  exact wpAny_mono (Rn.call h s₁ rfl) (fun v s' ⟨k, d, o, ⟨fz, S⟩, e⟩ => ⟨by subst e; cases S.dat _ (.head _); rfl, k, S.base⟩) fun _ _ e => e
end Mine
set_option maxHeartbeats 8000000 in
theorem PySem.Challenge.cw_xm0233_01_holds : PySem.Challenge.rw_xm0233_01.Holds :=
  Mine.hd (by
  intro d kwd hdn w s₀ s₁ mg mb G Y fa o pm cd doc dV kV ho hd hcd hD hmg hg args vals as hpre hlay hrd hwl hlo
  have KX := kIn_of Y
  clear hd hcd hD Y ho
  replace hmg : mg "law" = some (.ref fa) := by rw [hdn] at hmg; exact hmg
  refine Ground.open G ?_
  intro T B D TE TW
  clear B D TE TW G
  wrow_args hpre hlay hrd hwl hlo
  rename_i is _ _ _ _ _ _ _ l vs _ hL _ w1 _ hI _ hlen _
  have e1 : fa = 291 := by
    have h := mg_of (n := "law") (v := .ref 291) KX T.g (by kernel_rfl)
    rw [hmg] at h
    cases h
    rfl
  subst e1
  have hget : s₁.heap.get? l = some { cls := .type "list", data := .seq vs.toArray 0 } := by
    have w1 : Well w.params s₁.heap (.ref l) (.list (ofPys (is.map PyData.int))) := w1
    cases w1 with
    | list h1 _ =>
      obtain ⟨o, ho, _, n, hd⟩ := hL
      rw [h1] at ho
      cases ho
      injection hd with h3 _
      rw [h1, h3]
  refine wpAny_mono (Mine.run_law KX T.g T.b T.nolimit T.builtins hget hI (by omega)) ?_ (fun _ _ e => e.elim)
  rintro v s' ⟨rfl, ⟨tk, hk⟩, hb⟩
  refine GoodW.toG ?_
  have e1 : s'.os = s₁.os := by rw [hk]
  have e2 : s'.gens = #[] := by rw [hk]; exact hg
  exact ⟨.inl ⟨_, .bool true, [], rfl, raisesW_false (by wrow_none_raised), .bool true, (by wrow_post), unshared_nil⟩, hb, e1, e2⟩)
