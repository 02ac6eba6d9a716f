import PyProof.Rows.All
import Wide.All
import OpenK.AllK
import Wide.FinOn
import PySem.Challenge.RW_ok0052_01
open PySem PySem.W PyProof.Rows PySem.Calls
set_option Elab.async false
set_option linter.unusedVariables false
set_option maxRecDepth 100000
set_option maxHeartbeats 4000000
set_option compiler.extract_closed false
namespace Mine
noncomputable def headCells : List Stmt := PySem.Challenge.pw_ok0052_01.main.body
noncomputable def headKept : List Stmt := List.append (List.take 2 (List.drop 1 headCells)) (List.append (List.take 5 (List.drop 4 headCells)) (List.append (List.take 1 (List.drop 10 headCells)) (List.append (List.take 13 (List.drop 12 headCells)) (List.drop 26 headCells))))
/-- the text's view: all but the statements 0, 3, 9, 11, 25 -/
noncomputable def headView : Program := { PySem.Challenge.pw_ok0052_01 with main := { PySem.Challenge.pw_ok0052_01.main with body := headKept } }
noncomputable def headXt (s : Shared) : Bool := xlAt headView [] s && recOk (RowW.records (OpenRow.toRowW (OpenLaw.row PySem.Challenge.rw_ok0052_01))) s
/-- the top's run over a tree of objects -/
noncomputable def headRun (tb : String → Option Builtin) (p : Program) (w : World) (n₀ : Nat) (ann : Option Value) : Nat → SharedT → Thread → Option SharedT
  | 0, _, _ => none
  | n + 1, s, t => match through t with
    | true => some s
    | false => match stepOk n₀ ann t with
      | false => none
      | true => match stepT (denote tb) p w s t with
        | some (s', t') => headRun tb p w n₀ ann n s' t'
        | none => none
theorem headRun_of {tb : String → Option Builtin} {p : Program} {w : World} {n₀ : Nat} {ann : Option Value} : ∀ {n : Nat} {s s' : SharedT} {t : Thread}, headRun tb p w n₀ ann n s t = some s' → topRun tb p w n₀ ann n s.abs t = some s'.abs
  | 0, _, _, _, h => by cases h
  | n + 1, s, s', t, h => by
    unfold headRun at h
    unfold topRun
    cases he : through t with
    | true => rw [he] at h; cases h; rfl
    | false =>
      rw [he] at h
      cases hk : stepOk n₀ ann t with
      | false => rw [hk] at h; cases h
      | true =>
        rw [hk] at h
        cases hs : stepT (denote tb) p w s t with
        | none => rw [hs] at h; cases h
        | some r => obtain ⟨s₂, t₂⟩ := r; rw [hs] at h; rw [stepT_spec hs]; exact headRun_of h
noncomputable def headTree : List Obj → Nat → BT → BT
  | [], _, t => t
  | o :: l, n, t => headTree l (n + 1) (t.ins n o)
noncomputable def headBoot (w : World) (os : OsState) : SharedT := ⟨headTree (boot_heap w.params).objs.toList 0 .nil, 11, {}, Array.mk [], boot_drawn, boot_toks, os⟩
theorem headBoot_abs (w : World) (os : OsState) : (headBoot w os).abs = ⟨boot_heap w.params, Array.mk [], boot_drawn, boot_toks, os⟩ := by kernel_rfl
noncomputable def headEnd (w : World) (os : OsState) : Option SharedT := headRun treeTable PySem.Challenge.pw_ok0052_01 w 11 (some (.ref 6)) 2000 (headBoot w os) (topStub PySem.Challenge.pw_ok0052_01)
noncomputable def headMods : List Str := importedModules PySem.Challenge.pw_ok0052_01.main.body
noncomputable def headLooks (H₀ : Heap) (s : Shared) : Bool := staticsOk headMods H₀ s.heap && namesBound PySem.Challenge.pw_ok0052_01 s.heap && gensDone s && laidKept H₀ s.heap
noncomputable def headSeen (s : Shared) := openSeen headView [PySem.Str.ofString "EXACT"] headMods headXt true s
noncomputable def headGood := openGood headView [PySem.Str.ofString "EXACT"]
lay_quick headRun
theorem headRun_quick : ∀ (w : World) (os : OsState), headEnd w os = PySem.W.Fast.tw979539551297594003 PySem.W.Fast.tw14364793385576792824 PySem.Challenge.pw_ok0052_01 w 11 (some (.ref 6)) 2000 (headBoot w os) (topStub PySem.Challenge.pw_ok0052_01) := by
  intro w os
  unfold headEnd
  rewrite [PySem.W.Fast.te979539551297594003, PySem.W.Fast.te14364793385576792824]
  rfl
theorem head_looks : ∀ (w : World) (os : OsState), (headEnd w os).map (fun s => headLooks (boot_heap w.params) s.abs) = some true := by
  intro w os
  rewrite [headRun_quick]
  kernel_rfl
theorem head_seen : ∀ (w : World) (os : OsState), (headEnd w os).map (fun s => headSeen s.abs) = some headGood := by
  intro w os
  rewrite [headRun_quick]
  kernel_rfl
theorem head_left {K : Params → Frag} {as : List Addr} {e : ∀ P, as = (K P).map (·.1)} (hk : ∀ (w : World) (os : OsState), (headEnd w os).map (fun s => as.map s.abs.heap.get?) = some ((K w.params).map fun p => some p.2)) :
    LeftO PySem.Challenge.pw_ok0052_01 headView [PySem.Str.ofString "EXACT"] headXt (kHook K as e).obs (kHook K as e).val 3838 := fun w => by
  obtain ⟨⟨h, gs, d, k, os⟩, e1, e'⟩ := Option.map_eq_some_iff.mp (boot_open (p := PySem.Challenge.pw_ok0052_01) (N := 3838) (by kernel_rfl) (by rfl) (fun s => by kernel_rfl) w)
  obtain ⟨rfl, rfl, rfl, rfl⟩ : h = boot_heap w.params ∧ gs = Array.mk [] ∧ d = boot_drawn ∧ k = boot_toks := by simpa using e'
  obtain ⟨s, hs, l1⟩ := Option.map_eq_some_iff.mp (head_looks w os)
  obtain ⟨s2, hs2, l2⟩ := Option.map_eq_some_iff.mp (head_seen w os)
  obtain rfl : s = s2 := Option.some.inj (hs.symm.trans hs2)
  obtain ⟨s3, hs3, l3⟩ := Option.map_eq_some_iff.mp (hk w os)
  obtain rfl : s = s3 := Option.some.inj (hs.symm.trans hs3)
  have r := topRun_mono 1838 _ _ _ _ (headRun_of hs)
  rw [headBoot_abs] at r
  have z1 : ((boot_heap w.params).isNs mainGlobals && (Array.mk [] : Array GenState).size == 0) = true := by kernel_rfl
  have z2 : (boot_heap w.params).objs.size = 11 := by kernel_rfl
  have z3 : (boot_heap w.params).nsMap mainGlobals "__annotations__" = some (.ref 6) := by kernel_rfl
  have t : topFrom treeTable PySem.Challenge.pw_ok0052_01 w 3838 ⟨boot_heap w.params, Array.mk [], boot_drawn, boot_toks, os⟩ = some s.abs := by
    unfold topFrom
    dsimp only
    rw [z1, z2, z3, show (3838 : Nat) = 2000 + 1838 from rfl, r]
    show (match headLooks (boot_heap w.params) s.abs with | true => some s.abs | false => none) = _
    rw [l1]
  have o : openEnds treeTable PySem.Challenge.pw_ok0052_01 w 3838 = some s.abs := by
    unfold openEnds
    rw [e1, Option.bind_some, t]
  rw [o, Option.map_some]
  exact congrArg some (Prod.ext l2 l3)
theorem head_said : OpenLaw.wellSaid PySem.Challenge.rw_ok0052_01 = true := by
  unfold OpenLaw.wellSaid OpenRow.wellSaid OpenRow.partSaid looksOpen
  repeat' (with_reducible refine look_both ?_ ?_)
  all_goals decide +kernel
local macro_rules | `(tactic| o_law) => `(tactic| refine holds_law head_said fun said => ?_)
set_option hygiene false in
local macro_rules
  | `(tactic| o_head $H) => `(tactic| (
      refine holds_open (q := headView) (loose := [PySem.Str.ofString "EXACT"]) (Xt := headXt) (XP := XL headView []) (Yf := Hook.obs $H) (Ya := Hook.val $H) (YP := Hook.says $H) (N := 3838) ?hl (Hook.of $H) (Hook.keeps $H)
        (fun s e => xl_of s (Bool.and_eq_true_iff.mp e).1) XL.keeps (by rfl) (by rfl) (by rfl) (fun s e => recFacts_of (Bool.and_eq_true_iff.mp e).2) (by rfl) (by first | assumption | decide +kernel) (by decide +kernel) ⟨rfl, rfl, rfl, rfl, rfl, by decide +kernel⟩ ?hw ?hc
      case hl => exact head_left (by intro w os; rewrite [headRun_quick]; kernel_rfl)))
open_top hd for PySem.Challenge.rw_ok0052_01
theorem walk_off : True := by
  w_top off
  trivial
/-- a goal under a name: what is taken apart then does not carry it along -/
theorem gen_goal {G : Prop} (k : ∀ C : Prop, (G → C) → C) : G := k G id
/-- a fact that the walk is not to look into -/
def Hold (P : Prop) : Prop := P
/-- a tactic of one word -/
def ln_tok (k : Lean.Name) (s : String) : Lean.MacroM Lean.Syntax := do
  let i ← Lean.MonadRef.mkInfoFromRefPos
  return .node i k #[.atom i s]
/-- the short words of the tactics of one word -/
def ln_toks : List (String × Lean.Name × String) := [("a", ``Lean.Parser.Tactic.assumption, "assumption"), ("k", ``PySem.W.tacticK_asm, "k_asm"), ("m", ``PySem.W.tacticK_mem, "k_mem"), ("U", ``PySem.W.tacticK_updF, "k_updF"),
  ("s", ``PySem.W.tacticK_is, "k_is"), ("W", ``PySem.W.tacticK_whole, "k_whole"), ("l", ``PyProof.Rows.tacticIs_list, "is_list"), ("R", ``Lean.Parser.Tactic.tacticRfl, "rfl"),
  ("KUL", ``PySem.W.tacticKun_lst, "kun_lst"), ("KUT", ``PySem.W.tacticKun_tup, "kun_tup"), ("BBN", ``PyProof.Rows.tacticBoot_by_name, "boot_by_name")]
/-- the tactic of a premise by its short word; any other word is a line of the walk -/
def ln_how (w : String) : Lean.MacroM Lean.Syntax :=
  match ln_toks.lookup w with
  | some (k, s) => ln_tok k s
  | none => match w with
    | "o" => `(tactic| omega)
    | "z" => `(tactic| first | assumption | omega | (simp only [List.length_map] at *; omega))
    | "d" => `(tactic| decide)
    | "r" => `(tactic| exact rfl)
    | n => `(tactic| walk_at $(Lean.Syntax.mkStrLit n))
/-- a name under the scope of the line that is being laid -/
def ln_nm (n : String) : Lean.MacroM Lean.Syntax := do return Lean.mkIdent (← Lean.MonadQuotation.addMacroScope (.mkSimple n))
def ln_hole (n : String) : Lean.MacroM Lean.Syntax := do `(?$(⟨← ln_nm n⟩):ident)
/-- an argument: `_` a hole, `*F` the heap kept by ?F, any other a named hole -/
def ln_arg (w : String) : Lean.MacroM Lean.Syntax :=
  match w.toList with
  | ['_'] => `(?_)
  | '*' :: n => do `((Fr.keep $(⟨← ln_hole (String.ofList n)⟩)))
  | _ => ln_hole w
def ln_map (f : String → Lean.MacroM Lean.Syntax) : List String → Lean.MacroM (List Lean.Syntax)
  | [] => pure []
  | w :: ws => do
    let a ← f w
    let b ← ln_map f ws
    return a :: b
def ln_words (s : String) : List String := (s.splitOn " ").filter fun w => !w.isEmpty
/-- one tactic of several -/
def ln_seq (ts : List Lean.Syntax) : Lean.MacroM Lean.Syntax := do
  let ts : Array (Lean.TSyntax `tactic) := (ts.map fun t => ⟨t⟩).toArray
  `(tactic| ($[$ts]*))
def ln_goal (w : String) : Lean.MacroM Lean.Syntax :=
  match w.splitOn ":" with
  | [c, t] => do `(tactic| case $(⟨← ln_nm c⟩):ident => $(⟨← ln_how t⟩):tactic)
  | _ => ln_how w
/-- `F:k` the goal F by `how "k"`; a word without `:` is a tactic of its own -/
def ln_goals (s : String) : Lean.MacroM Lean.Syntax := do ln_seq (← ln_map ln_goal (ln_words s))
def ln_app (f : Lean.Syntax) (as : List Lean.Syntax) : Lean.Syntax := Lean.Syntax.mkApp ⟨f⟩ (as.map fun t => ⟨t⟩).toArray
/-- what is taken in behind: `@LINE` a line of the walk ahead, then the names, then the tactics, then the sweep -/
def ln_tail (names : String) (more : List Lean.Syntax) : Lean.MacroM (List Lean.Syntax) := do
  let ws := ln_words names
  let a ← ln_map ln_how ((ws.filter fun w => w.startsWith "@").map fun w => String.ofList (w.toList.drop 1))
  let ns ← ln_map ln_nm (ws.filter fun w => !w.startsWith "@")
  match ns with
  | [] => return a ++ more
  | _ =>
    let ns : Array (Lean.TSyntax `ident) := (ns.map fun t => ⟨t⟩).toArray
    let i ← `(tactic| intro $ns*)
    let s ← `(tactic| try k_sweep)
    return a ++ i.raw :: (more ++ [s.raw])
def ln_patArg (w : String) : Lean.MacroM Lean.Syntax :=
  match w.splitOn ":" with
  | [c, n] => do return ln_app (Lean.mkIdent c.toName) (List.replicate n.toNat! (← `(_)))
  | _ => match w.splitOn "=" with
    | [c, n] => return ln_app (Lean.mkIdent c.toName) [Lean.Syntax.mkNumLit n]
    | _ => match w with
      | "_" => `(_)
      | _ => return Lean.mkIdent w.toName
/-- a pattern: a name, then its arguments: `_` any, `C:2` a C of two, `C=7` the C of 7, `C` a C -/
def ln_pat (s : String) : Lean.MacroM Lean.Syntax := do
  match ln_words s with
  | f :: as => return ln_app (Lean.mkIdent f.toName) (← ln_map ln_patArg as)
  | [] => `(_)
/-- a look at the goal: a run of what the pattern says -/
def ln_look (s : String) : Lean.MacroM Lean.Syntax := do `(tactic| with_reducible show wpAny _ _ $(⟨← ln_pat s⟩) _ _ _)
/-- a goal that is barred: `EX` what has a witness, `WHL` a loop's rest, else a run by its pattern -/
def ln_bar (s : String) : Lean.MacroM Lean.Syntax := do
  let t ← match s with
    | "EX" => `(tactic| show ∃ _, _)
    | "WHL" => `(tactic| show WhlRest _ _ _ _ _ _ _ _ _ _ _)
    | _ => `(tactic| show wpAny _ _ $(⟨← ln_pat s⟩) _ _ _)
  `(tactic| fail_if_success (with_reducible $t:tactic))
/-- the walk on, but for the goals that are barred -/
def ln_walk (bars : List String) : Lean.MacroM Lean.Syntax := do
  let t ← ln_seq ((← ln_map ln_bar bars) ++ [← ln_how "W1"])
  `(tactic| repeat' $(⟨t⟩):tactic)
/-- the bars of SL and SX -/
def ln_not : List String := ["compareOp CmpOp.Eq Value.ref:1 Value.ref:1", "compareOp CmpOp.NotEq Value.ref:1 Value.ref:1", "exec Stmt.For:5 _", "exec Stmt.Try:5 _", "call Value.ref:1 _ _", "EX"]
/-- a theorem with its arguments, then its goals -/
def ln_use (thm : Lean.Name) (args goals : String) : Lean.MacroM Lean.Syntax := do
  let as : Array (Lean.TSyntax `term) := ((← ln_map ln_arg (ln_words args)).map fun t => ⟨t⟩).toArray
  let r ← `(tactic| refine' $(Lean.mkCIdent thm) $as*)
  ln_seq [r.raw, ← ln_goals goals]
def ln_all : List (Lean.MacroM Lean.Syntax) → Lean.MacroM (List Lean.Syntax)
  | [] => pure []
  | a :: l => do
    let a ← a
    let b ← ln_all l
    return a :: b
/-- a line of the walk: a look at the goal, a theorem with its arguments, its goals, what is taken in -/
def ln_line (look : String) (dflt : Bool) (thm : Lean.Name) (args goals names : String) (more : List (Lean.MacroM Lean.Syntax) := []) : Lean.MacroM Lean.Syntax := do
  let u ← ln_use thm args goals
  let d ← `(tactic| k_dflt $(⟨u⟩):tactic)
  let l ← ln_map ln_look (match look with | "" => [] | l => [l])
  ln_seq ((← ln_tok ``PySem.W.tacticK_here "k_here") :: l ++ (match dflt with | true => d.raw | false => u) :: (← ln_tail names (← ln_all more)))
/-- a held continuation: its names, the tactics, the sweep -/
def ln_hold (names : String) (more : List Lean.Syntax) : Lean.MacroM Lean.Syntax := do
  let u ← `(tactic| unfold Hold)
  ln_seq (u.raw :: (← ln_tail names more))
/-- the tokens' bounds, flat -/
def ln_lt2 : Lean.MacroM Lean.Syntax := `(tactic| try simp only [AllLt, and_true] at l2')
local macro_rules | `(tactic| obtain ⟨$a, $b, $c, $d, $ds,*⟩ := $e) => `(tactic| (refine gen_goal ?_; intro CC hCC; rcases $e:term with ⟨$a, $b, $c, $d, $ds,*⟩; all_goals (refine hCC ?_; clear hCC)))
def Grow (h h' : Heap) : Prop := ∀ b o, h.get? b = some o → h'.get? b = some o
theorem Grow.rfl {h : Heap} : Grow h h := fun _ _ e => e
theorem Grow.trans {a b c : Heap} (x : Grow a b) (y : Grow b c) : Grow a c := fun p o e => y p o (x p o e)

/-- everything but the named addresses stands -/
def Past (h : Heap) (as : List Addr) (h' : Heap) : Prop := ∀ b o, h.get? b = some o → b ∉ as → h'.get? b = some o
theorem Past.nil {h h' : Heap} (x : Past h [] h') : Grow h h' := fun b o e => x b o e (fun n => nomatch n)

/-- lists of pairs: no address of the one is one of the other -/
def Off (xs ys : List (Addr × Obj)) : Prop := ∀ p ∈ xs, ∀ q ∈ ys, p.1 ≠ q.1
theorem Off.nil {ys : List (Addr × Obj)} : Off [] ys := fun _ h => nomatch h
theorem Off.cons {a : Addr} {o : Obj} {xs ys : List (Addr × Obj)} (h : ∀ q ∈ ys, a ≠ q.1) (r : Off xs ys) : Off ((a, o) :: xs) ys := fun p hp => by
  rcases List.mem_cons.mp hp with rfl | hp
  · exact h
  · exact r p hp
theorem Off.lt {a : Addr} {o : Obj} {xs ys : List (Addr × Obj)} (h : AllLt a ys) (r : Off xs ys) : Off ((a, o) :: xs) ys := by
  refine Off.cons ?_ r
  clear r
  induction ys with
  | nil => intro q hq; cases hq
  | cons p t ih =>
    intro q hq
    rcases List.mem_cons.mp hq with rfl | hq
    · exact Nat.ne_of_gt h.1
    · exact ih h.2 q hq
theorem allLt_mem {d : Addr} {l : List (Addr × Obj)} (h : AllLt d l) : ∀ p ∈ l, p.1 < d := by
  induction l with
  | nil => intro q hq; cases hq
  | cons p t ih =>
    intro q hq
    rcases List.mem_cons.mp hq with rfl | hq
    · exact h.1
    · exact ih h.2 q hq
theorem allLt_append {d : Addr} {l r : List (Addr × Obj)} (h : AllLt d (l ++ r)) : AllLt d l ∧ AllLt d r := by
  induction l with
  | nil => exact ⟨trivial, h⟩
  | cons p t ih => exact ⟨⟨h.1, (ih h.2).1⟩, (ih h.2).2⟩
theorem allLt_ne {d : Addr} {l : List (Addr × Obj)} (h : AllLt d l) : ∀ p ∈ l, p.1 ≠ d := fun p hp => Nat.ne_of_lt (allLt_mem h p hp)

/-- an address behind all that stands -/
def Above (h : Heap) (r : Addr) : Prop := ∀ b o, h.get? b = some o → b < r
theorem Above.none {h : Heap} {r : Addr} (a : Above h r) : h.get? r = none := by
  cases e : h.get? r with
  | none => rfl
  | some o => exact absurd (a r o e) (Nat.lt_irrefl _)
theorem Above.of_grow {h h' : Heap} {r : Addr} (a : Above h' r) (g : Grow h h') : Above h r := fun b o e => a b o (g b o e)
theorem led_old {h₀ h h' : Heap} {L : Addr} {m : Str → Option Value} {news : List (Addr × Obj)} (F : Fr h₀ L h m) (N : News h₀ L h news) (G : Grow h h') : Fr h₀ L h' m ∧ News h₀ L h' news :=
  ⟨F.keeps G, News.grown N G⟩
theorem led_new {h₀ h h' : Heap} {L r : Addr} {o : Obj} {m : Str → Option Value} {news : List (Addr × Obj)} (F : Fr h₀ L h m) (N : News h₀ L h news) (G : Grow h h') (a : Above h r) (ho : h'.get? r = some o) :
    Fr h₀ L h' m ∧ News h₀ L h' ((r, o) :: news) ∧ AllLt r news := by
  refine ⟨F.keeps G, fun p hp => ?_, allLt_of fun p hp => a _ _ (N p hp).1⟩
  rcases List.mem_cons.mp hp with rfl | hp
  · obtain ⟨oL, _, _, hL, _⟩ := F.ns
    refine ⟨ho, Nat.ne_of_gt (a _ _ hL), ?_⟩
    cases e : h₀.get? r with
    | none => rfl
    | some o' => have := F.keep _ _ e; rw [a.none] at this; cases this
  · exact ⟨G _ _ (N p hp).1, (N p hp).2⟩

def AllNe (d : Addr) : List (Addr × Obj) → Prop
  | [] => True
  | p :: r => @Ne Nat p.1 d ∧ AllNe d r
theorem allNe_of {d : Addr} {l : List (Addr × Obj)} (h : ∀ p ∈ l, p.1 ≠ d) : AllNe d l := by
  induction l with
  | nil => trivial
  | cons p t ih => exact ⟨h p (.head _), ih fun q hq => h q (.tail _ hq)⟩
theorem allNe_mem {d : Addr} {l : List (Addr × Obj)} (h : AllNe d l) : ∀ p ∈ l, p.1 ≠ d := by
  induction l with
  | nil => intro q hq; cases hq
  | cons p t ih =>
    intro q hq
    rcases List.mem_cons.mp hq with rfl | hq
    · exact h.1
    · exact ih h.2 q hq
theorem Off.neAll {a : Addr} {o : Obj} {xs ys : List (Addr × Obj)} (h : AllNe a ys) (r : Off xs ys) : Off ((a, o) :: xs) ys := Off.cons (fun q hq e => allNe_mem h q hq e.symm) r
theorem led_fresh {h₀ h h' : Heap} {L r : Addr} {o : Obj} {m : Str → Option Value} {news : List (Addr × Obj)} (F : Fr h₀ L h m) (N : News h₀ L h news) (G : Grow h h') (fr : h.get? r = none) (ho : h'.get? r = some o) :
    Fr h₀ L h' m ∧ News h₀ L h' ((r, o) :: news) ∧ AllNe r news := by
  refine ⟨F.keeps G, fun p hp => ?_, allNe_of fun p hp e => ?_⟩
  · rcases List.mem_cons.mp hp with rfl | hp
    · obtain ⟨oL, _, _, hL, _⟩ := F.ns
      refine ⟨ho, fun e => ?_, ?_⟩
      · have e' : r = L := e
        rw [e', hL] at fr; cases fr
      · cases e : h₀.get? r with
        | none => rfl
        | some o' => have := F.keep _ _ e; rw [fr] at this; cases this
    · exact ⟨G _ _ (N p hp).1, (N p hp).2⟩
  · have := (N p hp).1; rw [e, fr] at this; cases this
/-- a callee's new object, told at the caller's heap -/
theorem fresh_back {s g : Heap} {muts : List Addr} {r : Addr} (hg : ∀ b o, s.get? b = some o → b ∉ muts → g.get? b = some o) (hn : g.get? r = none) (hm : r ∉ muts) : s.get? r = none := by
  cases e : s.get? r with
  | none => rfl
  | some o => have := hg r o e hm; rw [hn] at this; cases this

theorem hide_keep {h : Heap} {as : List Addr} : ∀ b o, h.get? b = some o → b ∉ as → (hideAll h as).get? b = some o := fun _ _ e n => hideAll_get _ e n

theorem enterNR {prog : Program} {w : World} {A : Around} {s : Shared} {V : Heap} {mg mb : Str → Option Value} (muts : List (Addr × Obj)) {K : Frag}
    {p : Program} {loose : List Str} {mean : ExcName → Option Value}
    {R : Result → Shared → Prop} {name qual : Str} {params : Arguments} {body : List Stmt} {scope : Scope} {dV kV doc pm cdv ct oc : Value} {an od : Option Addr} {osl : Array (Option Value)} {f : Addr} {args : Args} (binds : List (Str × Value))
    (hV : Grow V s.heap) (X₀ : K.In V) (T : Top p loose mean mg mb V) (N : ∀ p ∈ muts, s.heap.get? p.1 = some p.2 ∧ V.get? p.1 = none)
    (ho : K.lookup f = some ⟨oc, od, .func (fnOf name qual params body scope dV kV doc pm an cdv ct), osl⟩) (hcd : codeIn K cdv qual = true) (hroom : A.depth < recursionLimit)
    (hbind : BindsTo s (fnOf name qual params body scope dV kV doc pm an cdv ct) args binds) (hloc : ∀ y ∈ binds, scope.names.lookup y.1 = some .local)
    (h : ∀ g L' h₁, (∀ b o, s.heap.get? b = some o → b ∉ muts.map (·.1) → g.get? b = some o) → L' = s.heap.objs.size → Fr g L' h₁ (fun y => binds.reverse.lookup y) → News g L' h₁ muts → K.In g → Top p loose mean mg mb g →
      wpAny (model prog w) (A.deeper (envOf qual scope L' f cdv)) (execs body (envOf qual scope L' f cdv))
        (fun fl s' => R (.ok (.ret (match fl with | .ret v => v | _ => .none))) s') (fun _ _ => False)
        { s with heap := h₁, toks := s.toks + binds.length })
    (hco : scope.isCoroutine = false) (hgen : scope.isGenerator = false) (hk : scope.kind = .function)
    (hcell : ∀ x ∈ scope.names, x.2 ≠ .cell) : codeAny (model prog w) A (.call (.ref f) args) R s := by
  have nm : ∀ b o, V.get? b = some o → b ∉ muts.map (·.1) := fun b o e q => by
    obtain ⟨p, hp, rfl⟩ := List.mem_map.mp q
    rw [(N p hp).2] at e; cases e
  have st : V.StaysIn (hideAll s.heap (muts.map (·.1))) := fun b o e => hideAll_get _ (hV b o e) (nm b o e)
  refine codeAny_call_def (fd := fnOf name qual params body scope dV kV doc pm an cdv ct) (body := body) (binds := binds) hroom (hV _ _ (X₀ _ _ ho)) rfl (T.nolimit.keeps hV) (codeRec_of (X₀.keeps hV) hcd) rfl hbind hcell hloc (fun h₁ hns hk₁ => ?_) hco hgen hk
  exact wpAny_mono (h _ s.heap.objs.size h₁ hide_keep rfl ⟨hns, fun b o e => hk₁ b o (of_hideAll _ e), Nat.le_of_eq (hideAll_size _ _)⟩
    (fun p hp => ⟨hk₁ _ _ (N p hp).1, Nat.ne_of_lt (Heap.lt_size (N p hp).1), hideAll_none _ (List.mem_map_of_mem hp)⟩) (X₀.keeps st) (T.keeps st)) (fun _ _ x => x) fun _ _ x => x.elim

/-! names in any block of a def -/
section
variable {M : Model} {A : Around} {E : Value → Shared → Prop} {s : Shared} {h₀ : Heap} {C : Addr} {m mg mb : Str → Option Value} {env : Env} {x : Str} {pos : Pos} {v : Value} {Q : Value → Shared → Prop}
theorem nameE_L (F : Fr h₀ C s.heap m) (hC : env.locals = C) (hv : m x = some v) (h : Q v s) (hk : env.scope.kind = .function) (hx : env.kindOf x = some .local) (hd : (x == ("__debug__" : Str)) = false) :
    wpAny M A (eval (.Name x pos) env) Q E s := wpAny_Name (wpAny_loadName_local hk hx (hC ▸ F.ns) hv h) hd
theorem nameE_C {c : Addr} {o : Obj} (ho : s.heap.get? c = some o) (hc : env.cells.lookup x = some c) (hdat : o.data = .cell (some v)) (h : Q v s) (hk : env.scope.kind = .function) (hx : env.kindOf x = some .cell) (hd : (x == ("__debug__" : Str)) = false) :
    wpAny M A (eval (.Name x pos) env) Q E s := wpAny_Name (wpAny_loadName_cell hk hx hc ⟨o, ho, hdat⟩ h) hd
theorem nameE_B {K : Frag} {p : Program} {loose : List Str} (F : Fr h₀ C s.heap m) (X : K.In h₀) (T : TopRead p loose mg mb h₀) (e : nsIn K mainGlobals x = some none) (hv : bootBuiltins x = some v) (hn : x ≠ "__name__") (h : Q v s)
    (hg : env.globals = mainGlobals) (hb : env.builtins = builtinsNs) (hk : env.scope.kind = .function) (hx : env.kindOf x = some .globalImplicit) (hd : (x == ("__debug__" : Str)) = false) :
    wpAny M A (eval (.Name x pos) env) Q E s :=
  Name_function_global hk hx (loadGlobal_builtin (env := env) (by rw [hg]; exact T.g.keeps F.keep) (mg_none_of X T.g e) (by rw [hb]; exact T.b.keeps F.keep) ((T.builtins x hn).trans hv) h) hd
end

/-! a comprehension of one clause without tests, by an invariant over a ledger -/
section
variable {prog : Program} {w : World} {A : Around} {env : Env} {E : Value → Shared → Prop}

/-- the content that comp_inv asks for -/
inductive CompAt (prog : Program) (w : World) (A : Around) (env : Env) (scope : Scope) (cl : List (Str × Addr)) (x : Str) (elt : PySem.Expr) (Q : Value → Shared → Prop) (it : Value) (s₂ : Shared) : Prop
  | mk (I : Addr) (fp wr : List Addr) (n : Nat) (P : Nat → Value → Prop) (St : Nat → Heap → Prop) (objs₀ : List (Addr × Obj)) (Φ : Nat → List Value → List (Addr × Obj) → Prop)
      (hI : it = .ref I) (W : Walks prog w A I fp wr n P St) (hsz : n ≤ sizeLine) (hst : St 0 s₂.heap) (hex : ∀ i h, St i h → ∀ b ∈ fp, ∃ o, h.get? b = some o)
      (hob : ∀ p ∈ objs₀, s₂.heap.get? p.1 = some p.2 ∧ p.1 ∉ fp) (h0 : Φ 0 [] objs₀)
      (helt : ∀ (G : Heap) (C : Addr) (i : Nat) (v : Value) (ys : List Value) (objs own : List (Addr × Obj)) (h₃ : Heap) (tk₃ : Nat) (m₃ : Str → Option Value), i < n → P i v → ys.length = i → Φ i ys objs → (∀ b o, s₂.heap.get? b = some o → b ∉ objs₀.map (·.1) → b ∉ wr → G.get? b = some o) →
        (∀ b o, G.get? b = some o → s₂.heap.get? b = some o) → Off objs own →
        Fr G C h₃ (fun y => if y = x then some v else m₃ y) → News G C h₃ (objs ++ own) → (∀ p ∈ objs ++ own, p.1 ≠ C) →
        wpAny (model prog w) A (eval elt (compEnvC scope cl C env)) (fun y s₄ => ∃ h₄ tk₄ m₄ objs', s₄ = { s₂ with heap := h₄, toks := tk₄ } ∧ Fr G C h₄ m₄ ∧ News G C h₄ (objs' ++ own) ∧ Off objs' own ∧ Φ (i + 1) (ys ++ [y]) objs')
          (fun _ _ => False) { s₂ with heap := h₃, toks := tk₃ })
      (hQ : ∀ D c h' tk ys objs, Φ n ys objs → ys.length = n → Above s₂.heap D → h'.get? D = some (listOf ys.toArray c) → (∀ p ∈ objs, h'.get? p.1 = some p.2 ∧ p.1 ≠ D) →
        (∀ b o, s₂.heap.get? b = some o → b ∉ objs₀.map (·.1) → b ∉ wr → h'.get? b = some o) → Q (.ref D) { s₂ with heap := h', toks := tk })

theorem comp_inv {s : Shared} {elt iter : PySem.Expr} {x : Str} {px : Pos} {scope : Scope} {cl : List (Str × Addr)} {pos : Pos} {Q : Value → Shared → Prop}
    (hclos : closureFor scope env = pure cl) (hcell : ∀ y ∈ scope.names, y.2 ≠ .cell) (hkind : scope.kind = .function)
    (hnames : ∀ y ∈ scope.names, y.2 = .local → scope.names.lookup y.1 = some .local) (hx : scope.names.lookup x = some .local)
    (h : wpAny (model prog w) A (eval iter env) (fun xv s₁ => wpAny (model prog w) A (pyIter xv) (CompAt prog w A env scope cl x elt Q) E s₁) E s)
    (hs : ∀ x, foldedSetIterable iter env x = pure x := by intro _; rfl) :
    wpAny (model prog w) A (eval (.ListComp elt [⟨.Name x px, iter, [], 0⟩] scope pos) env) Q E s := by
  rw [eval_ListComp]
  refine wpAny_comprehension_free (use := none) rfl hs hclos hkind hnames (wpAny_mono h (fun xv s₁ h₁ => wpAny_mono h₁ (fun it s₂ h₂ => ?_) fun _ _ e => e) fun _ _ e => e)
  rcases h₂ with ⟨I, fp, wr, n, P, St, objs₀, Φ, rfl, W, hsz, hst, hex, hob, h0, helt, hQ⟩
  have hfp : ∀ b ∈ fp, b < s₂.heap.objs.size := fun b hb => (hex _ _ hst b hb).elim fun o e => Heap.lt_size e
  refine wpAny_newObj_type (wpAny_newFunctionEnv hcell (by intro y hy; simp at hy) (fun h₁ hns₁ hsb₁ => ?_) hkind)
  dsimp only at hns₁ hsb₁ ⊢
  generalize hH2 : s₂.heap.push { cls := .type "list", dict := none, data := .seq ([] : List Value).toArray } = H2 at hns₁ hsb₁ ⊢
  have hC : H2.objs.size = s₂.heap.objs.size + 1 := by rw [← hH2, Heap.size_push]
  generalize hD : s₂.heap.objs.size = D at *
  generalize hCC : H2.objs.size = C at *
  have hDC : D ≠ C := by rw [hC]; exact Nat.ne_of_lt (Nat.lt_succ_self _)
  have below : ∀ b, b < D → b ≠ C ∧ b ≠ D := fun b hb => ⟨by rw [hC]; exact Nat.ne_of_lt (Nat.lt_succ_of_lt hb), Nat.ne_of_lt hb⟩
  have hlt : ∀ b o, s₂.heap.get? b = some o → b < D := fun b o e => hD ▸ Heap.lt_size e
  have hDf : D ∉ fp := fun hm => Nat.lt_irrefl _ (hfp _ hm)
  have hCf : C ∉ fp := fun hm => by have := hfp _ hm; rw [hC] at this; exact Nat.lt_irrefl _ (Nat.lt_of_succ_lt this)
  have hDw : D ∉ wr := fun h => hDf (W.sub _ h)
  have hCw : C ∉ wr := fun h => hCf (W.sub _ h)
  have old : ∀ b o, s₂.heap.get? b = some o → h₁.get? b = some o := fun b o e => hsb₁.extBut b o (below b (hlt b o e)).1 (Heap.get?_push_of_some _ (hH2 ▸ Heap.get?_push_of_some _ e))
  have hacc : h₁.get? D = some (listOf #[] 0) := hsb₁.extBut _ _ hDC (Heap.get?_push_of_some _ (hH2 ▸ hD ▸ Heap.get?_push_size _ rfl))
  have hst₁ : St 0 h₁ := W.frame _ _ _ hst fun b _ o e => old b o e
  have fresh : ∀ a, D ≤ a → s₂.heap.get? a = none := fun a ha => by
    cases e : s₂.heap.get? a with
    | none => rfl
    | some o' => exact absurd (hlt _ _ e) (Nat.not_lt.mpr ha)
  -- the ground of every turn
  let G : Heap := hideAll s₂.heap (objs₀.map (·.1) ++ wr)
  have hG1 : ∀ b o, s₂.heap.get? b = some o → b ∉ objs₀.map (·.1) → b ∉ wr → G.get? b = some o := fun b o e n1 n2 => hideAll_get _ e (fun q => (List.mem_append.mp q).elim n1 n2)
  have hG2 : ∀ b o, G.get? b = some o → s₂.heap.get? b = some o := fun b o e => of_hideAll _ e
  have hG3 : ∀ b, b ∈ objs₀.map (·.1) ∨ b ∈ wr → G.get? b = none := fun b q => hideAll_none _ (List.mem_append.mpr q)
  have hG4 : G.objs.size ≤ C := by rw [hC]; exact Nat.le_succ_of_le (Nat.le_of_eq ((hideAll_size _ _).trans hD))
  have hGD : G.get? D = none := by
    cases e : G.get? D with
    | none => rfl
    | some o => exact absurd (hlt _ _ (hG2 _ _ e)) (Nat.lt_irrefl _)
  let Inv : Nat → Shared → Prop := fun k s' => ∃ h' tk m' ys objs c, s' = { s₂ with heap := h', toks := tk } ∧ St ys.length h' ∧ h'.get? D = some (listOf ys.toArray c) ∧ Fr G C h' m' ∧ News G C h' objs ∧ (∀ p ∈ objs, p.1 ∉ fp ∧ p.1 ≠ D) ∧ Φ ys.length ys objs ∧ ys.length ≤ n ∧ k = n + 1 - ys.length
  have loop : ∀ s₃ : Shared, s₃ = { s₂ with heap := h₁, toks := s₂.toks + ([] : List (Str × Value)).length } →
      codeAny (model prog w) A (.compLoop (.ListComp elt [⟨.Name x px, iter, [], 0⟩] scope pos) 0 (.ref I) (.ref D) (compEnvC scope cl C env))
        (compPost (model prog w) A E none Q (.ref D) C) s₃ := by
    rintro s₃ rfl
    refine codeAny_compLoop_tests Inv ?_ (n + 1) ⟨h₁, _, _, [], objs₀, 0, rfl, hst₁, hacc, ⟨hns₁, fun b o e => old b o (hG2 b o e), hG4⟩, ?_, ?_, h0, Nat.zero_le _, rfl⟩
    rotate_left
    · intro p hp
      refine ⟨old _ _ (hob p hp).1, fun q => ?_, hG3 _ (.inl (List.mem_map_of_mem hp))⟩
      have := hlt _ _ (hob p hp).1
      rw [q, hC] at this
      exact Nat.lt_irrefl _ (Nat.lt_of_succ_lt this)
    · exact fun p hp => ⟨(hob p hp).2, Nat.ne_of_lt (hlt _ _ (hob p hp).1)⟩
    rintro k s' hJq
    obtain ⟨H, tk, m', ys, objs, c, rfl, hst', hacc', F', N', hsep, hΦ, hi, rfl⟩ := hJq
    have up : ∀ H' : Heap, (∀ b o, b ∉ wr → H.get? b = some o → H'.get? b = some o) → Fr G C H' m' ∧ News G C H' objs := fun H' hk =>
      ⟨⟨F'.ns.at' fun o e => hk _ o hCw e, fun b o e => hk b o (fun q => by have := hG3 b (.inr q); rw [this] at e; cases e) (F'.keep b o e), F'.above⟩,
        fun p hp => ⟨hk _ _ (fun q => (hsep p hp).1 (W.sub _ q)) (N' p hp).1, (N' p hp).2⟩⟩
    by_cases hlt' : ys.length < n
    · refine W.item ys.length _ _ _ hlt' hst' fun v H₁ tk₁ hPv hst₁' hk₁ => ?_
      obtain ⟨F₁, N₁⟩ := up H₁ hk₁
      refine wpAny_assign_Name (wpAny_storeName_local (lookup_relabel_local hx) F₁.ns (fun H₂ hn₂ hs₂ => ?_) (by simp [compEnvC, relabel, hkind]))
      have F₂ := F₁.set hn₂ hs₂
      have N₂ := N₁.set hs₂
      have hst₂ : St (ys.length + 1) H₂ := W.frame _ _ _ hst₁' fun b hb o e => (hs₂.2 b (fun h => hCf ((show b = C from h) ▸ hb))).trans e
      have hacc₂ : H₂.get? D = some (listOf ys.toArray c) := (hs₂.2 D hDC).trans (hk₁ _ _ hDw hacc')
      rw [List.forIn_nil]
      refine wpAny_pure ?_
      rw [if_pos rfl]
      -- what the turn must keep: the gathering list and the iterator's footprint
      let own : List (Addr × Obj) := (D, listOf ys.toArray c) :: ownOf G fp H₂
      have hown : News G C H₂ own := fun p hp => by
        rcases List.mem_cons.mp hp with rfl | hp
        · exact ⟨hacc₂, hDC, hGD⟩
        · exact news_ownOf hCf p hp
      have hoff : Off objs own := fun p hp q hq => by
        rcases List.mem_cons.mp hq with rfl | hq
        · exact (hsep p hp).2
        · exact fun e => (hsep p hp).1 (e ▸ ownOf_sub q hq)
      refine wpAny_mono (helt G C ys.length v ys objs own H₂ (tk₁ + 1) m' hlt' hPv rfl hΦ hG1 hG2 hoff F₂ (fun p hp => (List.mem_append.mp hp).elim (N₂ p) (hown p))
        (fun p hp => (List.mem_append.mp hp).elim (fun q => (N₂ p q).2.1) (fun q => (hown p q).2.1))) (fun y s₄ h₄ => ?_) fun _ _ e => e.elim
      obtain ⟨H₄, tk₄, m₄, objs', rfl, F₄, N₄, hoff', hΦ'⟩ := h₄
      have hD₄ : H₄.get? D = some (listOf ys.toArray c) := (N₄ (D, listOf ys.toArray c) (List.mem_append_right _ (.head _))).1
      have hst₄ : St (ys.length + 1) H₄ := W.frame _ _ _ hst₂ fun b hb o e => by
        cases hn : G.get? b with
        | some o₀ =>
          have e1 := F₂.keep b o₀ hn
          rw [e] at e1
          cases e1
          exact F₄.keep b o hn
        | none => exact (N₄ _ (List.mem_append_right _ (.tail _ (mem_ownOf hb hn e)))).1
      refine wpAny_list_append_plain (hsz := by rw [List.size_toArray]; omega) ⟨c, hD₄⟩ fun H₅ hl₅ hs₅ => ?_
      obtain ⟨c₅, hc₅⟩ := hl₅
      refine ⟨n + 1 - (ys.length + 1), by omega, H₅, tk₄, m₄, ys ++ [y], objs', c₅, rfl, ?_, by simpa using hc₅, ?_, ?_, ?_, by simpa using hΦ', by simp; omega, by simp⟩
      · rw [List.length_append, List.length_singleton]
        exact W.frame _ _ _ hst₄ fun b hb o e => (hs₅.2 b (fun q => hDf (q ▸ hb))).trans e
      · exact ⟨F₄.ns.sameBut hs₅ (Ne.symm hDC), fun b o e => (hs₅.2 b (fun q => by rw [q, hGD] at e; cases e)).trans (F₄.keep b o e), F₄.above⟩
      · intro p hp
        have hpD : p.1 ≠ D := hoff' p hp (D, listOf ys.toArray c) (.head _)
        have z := N₄ p (List.mem_append_left _ hp)
        exact ⟨(hs₅.2 _ hpD).trans z.1, z.2⟩
      · intro p hp
        refine ⟨fun hb => ?_, hoff' p hp (D, listOf ys.toArray c) (.head _)⟩
        have z := N₄ p (List.mem_append_left _ hp)
        obtain ⟨o, ho⟩ := hex _ _ hst₂ _ hb
        cases hg : G.get? p.1 with
        | some o' => rw [z.2.2] at hg; cases hg
        | none => exact hoff' p hp (p.1, o) (.tail _ (mem_ownOf hb hg ho)) rfl
    · have hin : ys.length = n := by omega
      refine W.done _ _ _ (hin ▸ hst') fun H₁ tk₁ hk₁ => ?_
      obtain ⟨F₁, N₁⟩ := up H₁ hk₁
      refine ⟨m', F₁.ns, fun H₂ hs₂ => hQ D c H₂ _ ys objs (hin ▸ hΦ) hin (fun b o e => hlt b o e) ((hs₂.2 D hDC).trans (hk₁ _ _ hDw hacc')) (fun p hp => ⟨(hs₂.2 _ (N₁ p hp).2.1).trans (N₁ p hp).1, (hsep p hp).2⟩) fun b o e n1 n2 => ?_⟩
      exact (hs₂.2 b (below b (hlt _ _ e)).1).trans (F₁.keep b o (hG1 b o e n1 n2))
  exact codeAny_compStart_list (loop _ rfl) (W.self 0 _ _ _ hst₁ (loop _ rfl))
end


section
variable {prog : Program} {w : World} {A : Around} {env : Env} {E : Value → Shared → Prop} {s₁ : Shared}

theorem comp_inv' {s : Shared} {elt iter : PySem.Expr} {x : Str} {px : Pos} {scope : Scope} {cl : List (Str × Addr)} {pos : Pos} {Q : Value → Shared → Prop}
    (hclos : closureFor scope env = pure cl) (hcell : ∀ y ∈ scope.names, y.2 ≠ .cell) (hkind : scope.kind = .function)
    (hnames : ∀ y ∈ scope.names, y.2 = .local → scope.names.lookup y.1 = some .local) (hx : scope.names.lookup x = some .local)
    (h : wpAny (model prog w) A (eval iter env) (fun xv s₁ => wpAny (model prog w) A (pyIter xv) (CompAt prog w A env scope cl x elt Q) E s₁) E s)
    (hs : ∀ x, foldedSetIterable iter env x = pure x := by intro _; rfl) :
    wpAny (model prog w) A (eval (.ListComp elt [⟨.Name x px, iter, [], 0⟩] scope pos) env) Q E s := comp_inv hclos hcell hkind hnames hx h hs

/-- over a list; the elements make new objects at most -/
theorem comp_list {elt : PySem.Expr} {x : Str} {scope : Scope} {cl : List (Str × Addr)} {Q : Value → Shared → Prop} {l : Addr} {vs : List Value} (R : Value → Value → Prop)
    (hh : A.handled = none) (hl : s₁.heap.IsList l vs.toArray) (hz : vs.length ≤ sizeLine)
    (helt : ∀ (G : Heap) (C : Addr) (v : Value) (own : List (Addr × Obj)) (h₃ : Heap) (tk₃ : Nat) (m₃ : Str → Option Value), v ∈ vs → Grow s₁.heap G →
        Fr G C h₃ (fun y => if y = x then some v else m₃ y) → News G C h₃ own →
        wpAny (model prog w) A (eval elt (compEnvC scope cl C env)) (fun y s₄ => ∃ h₄ tk₄ m₄, s₄ = { s₁ with heap := h₄, toks := tk₄ } ∧ Fr G C h₄ m₄ ∧ News G C h₄ own ∧ R v y)
          (fun _ _ => False) { s₁ with heap := h₃, toks := tk₃ })
    (done : ∀ D c h' tk ys, Paired R vs ys → Above s₁.heap D → Grow s₁.heap h' → h'.get? D = some (listOf ys.toArray c) → Q (.ref D) { s₁ with heap := h', toks := tk }) :
    wpAny (model prog w) A (pyIter (.ref l)) (CompAt prog w A env scope cl x elt Q) E s₁ := by
  have hlt : l < s₁.heap.objs.size := by obtain ⟨_, e, _⟩ := hl; exact Heap.lt_size e
  have hsm : ∀ b o, s₁.heap.get? b = some o → b ∉ [s₁.heap.objs.size] := fun b o e q => by
    rw [List.mem_singleton.mp q] at e; exact Nat.lt_irrefl _ (Heap.lt_size e)
  refine wpAny_pyIter_list hl ⟨s₁.heap.objs.size, [s₁.heap.objs.size, l], [s₁.heap.objs.size], vs.toArray.size, _, _, [], fun i ys _ => Paired R (vs.take i) ys, rfl, Walks.list hh _ _ (Nat.ne_of_lt hlt) vs.toArray, (by rw [List.size_toArray]; exact hz),
    ⟨⟨_, Heap.get?_push_size _ rfl, rfl, rfl⟩, hl.push _⟩, ?_, (fun _ h => nomatch h), .nil, ?_, ?_⟩
  · rintro i h ⟨⟨o, ho, _⟩, ⟨o', ho', _⟩⟩ b hb
    rcases List.mem_cons.mp hb with rfl | hb
    · exact ⟨o, ho⟩
    · rcases List.mem_cons.mp hb with rfl | hb
      · exact ⟨o', ho'⟩
      · cases hb
  · intro G C i v ys objs own h₃ tk₃ m₃ hi hv hlen hΦ hG1 hG2 hoff F N hC
    have hv' : vs[i]? = some v := by simpa using hv
    refine wpAny_mono (helt G C v own h₃ tk₃ m₃ (List.mem_of_getElem? hv') (fun b o e => hG1 b o (Heap.get?_push_of_some _ e) (fun q => nomatch q) (hsm b o e)) F (fun p hp => N p (List.mem_append_right _ hp))) (fun y s₄ h₄ => ?_) fun _ _ e => e
    obtain ⟨h₄, tk₄, m₄, rfl, F₄, N₄, hR⟩ := h₄
    refine ⟨h₄, tk₄, m₄, [], rfl, F₄, N₄, Off.nil, ?_⟩
    show Paired R (vs.take (i + 1)) (ys ++ [y])
    rw [List.take_add_one, hv']
    exact Paired.snoc hΦ hR
  · intro D c h' tk ys objs hΦ hlen ha ho _ hk
    have hΦ' : Paired R vs ys := by
      have e : Paired R (vs.take vs.toArray.size) ys := hΦ
      rw [List.size_toArray, List.take_length] at e; exact e
    exact done D c h' tk ys hΦ' (fun b o e => ha b o (Heap.get?_push_of_some _ e)) (fun b o e => hk b o (Heap.get?_push_of_some _ e) (fun q => nomatch q) (hsm b o e)) ho
end

theorem paired_ints {f : Int → Int} {vs ys : List Value} (h : Paired (fun v y => ∀ n t, v = .int n t → ∃ u, y = .int (f n) u) vs ys) : ∀ {ns : List Int}, IntsAre vs ns → IntsAre ys (ns.map f) := by
  induction h with
  | nil => intro ns i; cases i; exact .nil
  | cons h _ ih =>
    intro ns i
    cases i with
    | cons n t i =>
      obtain ⟨u, rfl⟩ := h n t rfl
      exact .cons _ _ (ih i)

/-! small steps of arithmetic, ahead of omega -/
theorem om_le {a m n : Nat} (h : a ≤ m) (e : Nat.ble m n = true) : a ≤ n := Nat.le_trans h (Nat.le_of_ble_eq_true e)
theorem om_lt {a m n : Nat} (h : a ≤ m) (e : Nat.ble (m + 1) n = true) : a < n := Nat.lt_of_lt_of_le (Nat.lt_succ_of_le h) (Nat.le_of_ble_eq_true e)
theorem om_add {a m k n : Nat} (h : a ≤ m) (e : Nat.ble (m + k) n = true) : a + k ≤ n := Nat.le_trans (Nat.add_le_add_right h k) (Nat.le_of_ble_eq_true e)
theorem om_addlt {a m k n : Nat} (h : a ≤ m) (e : Nat.ble (m + k + 1) n = true) : a + k < n := Nat.lt_of_lt_of_le (Nat.lt_succ_of_le (Nat.add_le_add_right h k)) (Nat.le_of_ble_eq_true e)
theorem om_sub {a m k n : Nat} (h : a ≤ m) (e : Nat.ble m n = true) : a - k ≤ n := Nat.le_trans (Nat.sub_le _ _) (Nat.le_trans h (Nat.le_of_ble_eq_true e))
local macro_rules | `(tactic| omega) => `(tactic| first | lia | fail)
local macro_rules | `(tactic| omega) => `(tactic| first | decide | with_reducible first | assumption | exact om_le (by assumption) (by decide) | exact om_add (by assumption) (by decide) | exact om_lt (by assumption) (by decide) | exact om_addlt (by assumption) (by decide) | exact om_sub (by assumption) (by decide) | exact Nat.ne_of_lt (by assumption) | exact Nat.ne_of_gt (by assumption) | exact Nat.ne_of_lt (Nat.lt_trans (by assumption) (by assumption)) | exact Nat.ne_of_gt (Nat.lt_trans (by assumption) (by assumption)) | fail)
local macro_rules | `(tactic| walk_at "W1") => `(tactic| first | (k_unfold; (try dsimp only)) | walk1 | (dsimp only; walk1))
local macro_rules | `(tactic| walk_at "FX5") => ln_goals "F:k X:k T:k d:DU u:DU"
local macro_rules | `(tactic| walk_at "FN6") => ln_goals "N:k FX5"
local macro_rules | `(tactic| walk_at "RDX") => `(tactic| first | exact Fr.keep (by k_asm) _ _ (by assumption) | exact News.get (by k_asm) (by k_mem))
local macro_rules | `(tactic| walk_at "RD9") => ln_goals "K:BELOW FN6 hh:a x:RDX"
local macro_rules | `(tactic| walk_at "NLIZ") => ln_goals "ne:a l:a i:a z:a"
local macro_rules | `(tactic| walk_at "HLIZB") => ln_goals "hh:a l:l i:a z:z b:a"
local macro_rules | `(tactic| walk_at "S") => ln_walk ["eval Expr.ListComp:4 _", "exec Stmt.For:5 _", "exec Stmt.While:4 _", "WHL", "EX"]
local macro_rules | `(tactic| walk_at "ENTER") => do ln_seq [← ln_goals "k6:s k7:s", ← `(tactic| ((try (case k8 => (simp only [recursionLimit]; omega))); (case k9 => exact BindsTo.of_eq rfl); (case kB => exact locs rfl))), ← ln_goals "c5:d c2:r c3:r c4:r"]
local macro_rules | `(tactic| walk_at "eval Name") => ln_line "" true ``nameE_L "F c v _ a b d" "F:k c:R v:R a:R b:R d:d W" ""
local macro_rules | `(tactic| walk_at "DU") => `(tactic| ((try simp only [depth_deeper, depth_in1, units_deeper, units_in1, Around.mark_units]); omega))
local macro_rules | `(tactic| walk_at "GROWN") => do ln_seq (← ln_tail "r' tk' h' tk'' e' G'" [← `(tactic| ((have F' := Fr.keeps (by k_asm) G'); (have N' := News.grown (by k_asm) G'); clear G'))])
local macro_rules | `(tactic| walk_at "COMP") => do ln_seq [← `(tactic| refine' comp_inv' (cl := []) rfl ?k1 rfl ?k2 rfl ?_), ← ln_goals "k1:d k2:d S"]
local macro_rules | `(tactic| walk_at "FN") => `(tactic| (refine wpAny_call ?_))
local macro_rules | `(tactic| walk_at "FRESHED") => do ln_seq (← ln_tail "r' vs' c' h' tk' i' G' fr' ho'" [← `(tactic| ((have B' := led_fresh (by k_asm) (by k_asm) G' fr' ho'); obtain ⟨F', N', l'⟩ := B'; clear G' fr' ho'; (try simp only [AllNe, and_true] at l')))])
local macro_rules | `(tactic| walk_at "LISTIN") => ln_goals "FX5 hh:a l:l i:a z:z"
/-! a for over a list, by an invariant over the frame's names and a ledger -/
section
variable {prog : Program} {w : World} {A : Around} {env : Env} {E : Value → Shared → Prop} {s₁ : Shared} {h₀ : Heap} {x : Str} {body : List Stmt} {Q : Flow → Shared → Prop}

/-- the state behind a turn that goes on -/
inductive TurnNx (h₀ : Heap) (L : Addr) (gs : Array GenState) (dr : Drawn) (os : OsState) (own : List (Addr × Obj)) (J : (Str → Option Value) → List (Addr × Obj) → Prop) (s₂ : Shared) : Prop
  | mk (h' : Heap) (tk : Nat) (m' : Str → Option Value) (news' : List (Addr × Obj)) (h1 : s₂ = ⟨h', gs, dr, tk, os⟩) (h2 : Fr h₀ L h' m') (h3 : News h₀ L h' (news' ++ own)) (h4 : Off news' own) (h5 : J m' news')
/-- what a turn hands on -/
def TurnEnd (h₀ : Heap) (L : Addr) (s₁ : Shared) (own : List (Addr × Obj)) (J : (Str → Option Value) → List (Addr × Obj) → Prop) (Q : Flow → Shared → Prop) (f : Flow) (s₂ : Shared) : Prop :=
  match f with
  | .ret v => Q (.ret v) s₂
  | .brk => Q .next s₂
  | _ => TurnNx h₀ L s₁.gens s₁.drawn s₁.os own J s₂

theorem for_walk {I : Addr} {fp wr : List Addr} {n : Nat} {P : Nat → Value → Prop} {St : Nat → Heap → Prop} {m : Str → Option Value} {news : List (Addr × Obj)} {s₂ : Shared}
    (W : Walks prog w A I fp wr n P St) (hex : ∀ i h, St i h → ∀ b ∈ fp, ∃ o, h.get? b = some o) (hwr : ∀ b ∈ wr, h₀.get? b = none) (hLf : env.locals ∉ fp)
    (J : Nat → (Str → Option Value) → List (Addr × Obj) → Prop)
    (hst : St 0 s₂.heap) (F : Fr h₀ env.locals s₂.heap m) (N : News h₀ env.locals s₂.heap news) (hnI : ∀ p ∈ news, p.1 ∉ fp) (h0 : J 0 m news)
    (turn : ∀ i v m₁ news₁ h tk own, i < n → P i v → J i m₁ news₁ → Off news₁ own → Fr h₀ env.locals h (fun y => if y = x then some v else m₁ y) → News h₀ env.locals h (news₁ ++ own) →
      wpAny (model prog w) A (execs body env) (TurnEnd h₀ env.locals s₂ own (J (i + 1)) Q) E { s₂ with heap := h, toks := tk })
    (done : ∀ m' news' h tk, J n m' news' → Fr h₀ env.locals h m' → News h₀ env.locals h news' → Q .next { s₂ with heap := h, toks := tk }) :
    LoopAtV prog w A h₀ env x body Q E (.ref I) s₂ := by
  refine ⟨I, fp, wr, n, P, St, m, news, fun i m₁ news₁ => J i m₁ news₁ ∧ ∀ p ∈ news₁, p.1 ∉ fp, rfl, W, hLf, hwr, fun p hp q => hnI p hp (W.sub _ q), hst, F, N, ⟨h0, hnI⟩, ?_, ?_⟩
  · rintro i v m₁ news₁ s₃ own ⟨h, tk, rfl⟩ hi hP ⟨hJ, hne⟩ hnw hown hownat hin hst' F₁ N₁
    have hoff : Off news₁ own := fun p hp q hq e => hne p hp (e ▸ hown q hq)
    refine wpAny_mono (turn i v m₁ news₁ h tk own hi hP hJ hoff F₁ (fun p hp => N₁ p ((List.mem_append.mp hp).elim (fun q => List.mem_append_right _ q) (fun q => List.mem_append_left _ q)))) (fun f s₄ h₄ => ?_) fun _ _ e => e
    have fin : TurnNx h₀ env.locals s₂.gens s₂.drawn s₂.os own (J (i + 1)) s₄ →
        LoopStepU h₀ env.locals wr own (fun m₁ news₁ => J (i + 1) m₁ news₁ ∧ ∀ p ∈ news₁, p.1 ∉ fp) { s₂ with heap := h, toks := tk } .next s₄ := by
      rintro hJq
      obtain ⟨h', tk', m', news', rfl, F', N', hn', hJ'⟩ := hJq
      have hnf : ∀ p ∈ news', p.1 ∉ fp := fun p hp hb => by
        obtain ⟨o, ho⟩ := hex _ _ hst' _ hb
        exact hn' p hp (p.1, o) (hin _ hb (N' p (List.mem_append_left _ hp)).2.2 o ho) rfl
      exact ⟨rfl, h', tk', m', news', rfl, F', fun p hp => N' p ((List.mem_append.mp hp).elim (fun q => List.mem_append_right _ q) (fun q => List.mem_append_left _ q)), fun p hp q => hnf p hp (W.sub _ q), hJ', hnf⟩
    cases f with
    | ret v => exact .ret h₄
    | brk => exact .brk h₄
    | next => exact .next (fin h₄)
    | cont => exact .cont (fin h₄)
  · rintro h' tk m' news' F' N' hnw ⟨hJ, _⟩
    exact done m' news' h' tk hJ F' N'

theorem for_list {l L : Addr} {vs : List Value} {m : Str → Option Value} {news : List (Addr × Obj)} (J : Nat → (Str → Option Value) → List (Addr × Obj) → Prop)
    (hLe : env.locals = L) (hh : A.handled = none) (hl : s₁.heap.IsList l vs.toArray) (hlL : l ≠ L) (F : Fr h₀ L s₁.heap m) (N : News h₀ L s₁.heap news) (hln : ∀ p ∈ news, p.1 ≠ l) (h0 : J 0 m news)
    (turn : ∀ i v m₁ news₁ h tk own s₂, s₂ = { s₁ with heap := h, toks := tk } → vs[i]? = some v → J i m₁ news₁ → Off news₁ own → Fr h₀ L h (fun y => if y = x then some v else m₁ y) → News h₀ L h (news₁ ++ own) →
      wpAny (model prog w) A (execs body env) (TurnEnd h₀ L s₁ own (J (i + 1)) Q) E s₂)
    (done : ∀ m' news' h tk, J vs.length m' news' → Fr h₀ L h m' → News h₀ L h news' → Q .next { s₁ with heap := h, toks := tk }) :
    wpAny (model prog w) A (pyIter (.ref l)) (fun it s₂ => LoopAtV prog w A h₀ env x body Q E it s₂) E s₁ := by
  subst hLe
  obtain ⟨ol, hol, hol'⟩ := id hl
  have hlt : l < s₁.heap.objs.size := Heap.lt_size hol
  refine wpAny_pyIter_list hl ?_
  have hsm : ∀ b o, s₁.heap.get? b = some o → b ≠ s₁.heap.objs.size := fun b o e => Nat.ne_of_lt (Heap.lt_size e)
  have hF := F.push { cls := .type "list_iterator", data := .fields #[.ref l, .int 0 0] }
  refine for_walk (Walks.list hh s₁.heap.objs.size l (Nat.ne_of_lt hlt) vs.toArray) ?_ ?_ ?_ J
    ⟨⟨_, Heap.get?_push_size _ rfl, rfl, rfl⟩, hl.push _⟩ hF (fun p hp => ⟨Heap.get?_push_of_some _ (N p hp).1, (N p hp).2⟩) ?_ h0 ?_ ?_
  · rintro i h ⟨⟨o, ho, _⟩, ⟨o', ho', _⟩⟩ b hb
    rcases List.mem_cons.mp hb with rfl | hb
    · exact ⟨o, ho⟩
    · rcases List.mem_cons.mp hb with rfl | hb
      · exact ⟨o', ho'⟩
      · cases hb
  · intro b hb
    rw [List.mem_singleton.mp hb]
    cases e : h₀.get? s₁.heap.objs.size with
    | none => rfl
    | some o => exact absurd rfl (hsm _ _ (F.keep _ _ e))
  · intro hm
    rcases List.mem_cons.mp hm with e | hm
    · exact absurd F.ns.lt (e ▸ Nat.lt_irrefl _)
    · exact hlL (List.mem_singleton.mp hm).symm
  · intro p hp hm
    rcases List.mem_cons.mp hm with e | hm
    · exact hsm _ _ (N p hp).1 e
    · exact hln p hp (List.mem_singleton.mp hm)
  · intro i v m₁ news₁ h tk own hi hP hJ hoff F₁ N₁
    exact turn i v m₁ news₁ h tk own _ rfl (by simpa using hP) hJ hoff F₁ N₁
  · intro m' news' h tk hJ F' N'
    rw [List.size_toArray] at hJ
    exact done m' news' h tk hJ F' N'
end
theorem Off.ne {a : Addr} {o : Obj} {xs ys : List (Addr × Obj)} (h : Off ((a, o) :: xs) ys) : ∀ p ∈ ys, p.1 ≠ a := fun p hp e => h _ (.head _) p hp e.symm
theorem Off.tail {a : Addr} {o : Obj} {xs ys : List (Addr × Obj)} (h : Off ((a, o) :: xs) ys) : Off xs ys := fun p hp => h p (.tail _ hp)
theorem Off.to {a : Addr} {o o' : Obj} {xs ys zs : List (Addr × Obj)} (h : Off ((a, o) :: xs) ys) (r : Off zs ys) : Off ((a, o') :: zs) ys := Off.cons (fun q hq => h (a, o) (.head _) q hq) r
theorem news_sub {h₀ h : Heap} {L : Addr} {xs ys : List (Addr × Obj)} (N : News h₀ L h ys) (s : ∀ p ∈ xs, p ∈ ys) : News h₀ L h xs := fun p hp => N p (s p hp)

section
variable {prog : Program} {w : World} {A : Around} {E : Value → Shared → Prop} {s : Shared} {h₀ : Heap} {L : Addr} {m : Str → Option Value} {news : List (Addr × Obj)}
theorem extend_led {r b : Addr} {its its2 : Array Value} {n n2 : Nat} {g : Obj → List (Addr × Obj)} {Q : Value → Shared → Prop} (F : Fr h₀ L s.heap m) (N : News h₀ L s.heap news) (U : UpdF r (listOf its n) news g)
    (hb : s.heap.get? b = some (listOf its2 n2)) (hz : its.size + its2.size ≤ 100000)
    (h : ∀ h' c, Fr h₀ L h' m → News h₀ L h' (g (listOf (its ++ its2) c)) → Q .none { s with heap := h' }) :
    wpAny (model prog w) A (call (.builtin "list.extend") [.ref r, .ref b]) Q E s := by
  obtain ⟨pre, post, rfl, hg, h1, h2⟩ := U.split
  have z := N (r, listOf its n) (List.mem_append_right _ (.head _))
  have hs := Heap.SameBut.update s.heap r (Obj.mapSeq fun x => x ++ its2)
  refine call_meets PySem.F.slot_list_extend ⟨_, z.1, rfl⟩ PySem.F.entry_list_extend (PySem.F.args_list_extend_2 _ _) (AutoSeq1.list_extend_list_list_0 r its n b its2 n2 ?_ ?_ ?_) ⟨z.1, hb, ?_⟩
  · have e : Builtin.List.listTooLong (its.size + its2.size) = false := by
      unfold Builtin.List.listTooLong; rw [sizeLine_eq]; exact decide_eq_false (by omega)
    rw [e]; simp
  · rw [sizeLine_eq]; omega
  · rw [sizeLine_eq]; omega
  · have e := news_set N h1 h2 hs (get?_update_seq z.1 fun x => x ++ its2)
    rw [← hg] at e
    exact h _ _ (F.change hs z.2.1 z.2.2) e
end
theorem turn_sub {h₀ h : Heap} {L : Addr} {p : Addr × Obj} {ys own : List (Addr × Obj)} (N : News h₀ L h ys) (hm : p ∈ ys) (ho : ∀ q ∈ own, q ∈ ys) : News h₀ L h ([p] ++ own) := fun q hq => by
  rcases List.mem_append.mp hq with hq | hq
  · rw [List.mem_singleton.mp hq]; exact N _ hm
  · exact N _ (ho q hq)
local macro_rules | `(tactic| k_all) => `(tactic| first | assumption | exact allLt_ne (by assumption) | exact allNe_mem (by assumption))
local macro_rules | `(tactic| walk_at "EXZ") => `(tactic| ((try simp only [List.size_toArray, Array.size_append, Array.size_push, List.length_append, List.length_cons, List.length_nil] at *); omega))
local macro_rules | `(tactic| walk_at "call builtin:list.extend") => ln_line "call Value.builtin:1 _ _" true ``extend_led "F N U b z _" "F:k N:k U:U b:RDX z:EXZ W" "h' c' F' N'"
local macro_rules | `(tactic| walk_at "OWN") => `(tactic| (intro q hq; repeat (first | exact hq | refine .tail _ ?_)))
local macro_rules | `(tactic| walk_at "SPLIT") => `(tactic| repeat (rename _ ∧ _ => hxS; have hyS := hxS.1; replace hxS := hxS.2))
theorem enterNRC {prog : Program} {w : World} {A : Around} {s : Shared} {V : Heap} {mg mb : Str → Option Value} (muts : List (Addr × Obj)) {K : Frag}
    {p : Program} {loose : List Str} {mean : ExcName → Option Value}
    {R : Result → Shared → Prop} {name qual : Str} {params : Arguments} {body : List Stmt} {scope : Scope} {dV kV doc pm cdv ct oc : Value} {an od : Option Addr} {osl : Array (Option Value)} {f : Addr} {args : Args} (binds : List (Str × Value))
    (hV : Grow V s.heap) (X₀ : K.In V) (T : Top p loose mean mg mb V) (N : ∀ p ∈ muts, s.heap.get? p.1 = some p.2 ∧ V.get? p.1 = none)
    (ho : K.lookup f = some ⟨oc, od, .func (fnOf name qual params body scope dV kV doc pm an cdv ct), osl⟩) (hcd : codeIn K cdv qual = true) (hroom : A.depth < recursionLimit)
    (hbind : BindsTo s (fnOf name qual params body scope dV kV doc pm an cdv ct) args binds) (hkind : (binds.all fun y => scope.names.lookup y.1 == some .local || scope.names.lookup y.1 == some .cell) = true)
    (hnd : ((cellsFrom 0 scope.names []).map (·.1)).Nodup)
    (h : ∀ g L' h₁ tk cells, (∀ b o, s.heap.get? b = some o → b ∉ muts.map (·.1) → g.get? b = some o) → L' = s.heap.objs.size →
      Fr g L' h₁ (bindL (envOfC qual scope L' f cdv).kindOf binds fun _ => none) → News g L' h₁ (cells ++ muts) →
      CellsAre (bindC (envOfC qual scope L' f cdv).kindOf binds fun _ => none) (cellsFrom (L' + 1) scope.names []) cells → K.In g → Top p loose mean mg mb g → Off cells muts →
      wpAny (model prog w) (A.deeper (envOfC qual scope L' f cdv)) (execs body (envOfC qual scope L' f cdv))
        (fun fl s' => R (.ok (.ret (match fl with | .ret v => v | _ => .none))) s') (fun _ _ => False)
        { s with heap := h₁, toks := tk })
    (hco : scope.isCoroutine = false) (hgen : scope.isGenerator = false) (hk : scope.kind = .function) : codeAny (model prog w) A (.call (.ref f) args) R s := by
  have nm : ∀ b o, V.get? b = some o → b ∉ muts.map (·.1) := fun b o e q => by
    obtain ⟨p, hp, rfl⟩ := List.mem_map.mp q
    rw [(N p hp).2] at e; cases e
  have st : V.StaysIn (hideAll s.heap (muts.map (·.1))) := fun b o e => hideAll_get _ (hV b o e) (nm b o e)
  refine codeAny_call_function hroom (hV _ _ (X₀ _ _ ho)) rfl hco hgen rfl (codeRec_of (X₀.keeps hV) hcd) (hbind _ _ _ _ ?_)
  refine wpAny_newFunctionEnv_cells hk (kindsX hkind _) fun env' he s' x => ?_
  subst he
  refine ⟨(T.nolimit.keeps hV).keeps x.toInCall.keep, codeAny_func ?_⟩
  obtain ⟨h₁, tk, rfl, _⟩ := x.done
  have hk₁ := x.toInCall.keep
  obtain ⟨cells, NC, Y⟩ := Cl.news (h₀ := s.heap) (Nat.le_refl _) fun n c hm => ⟨x.cell n c (lookup_of_mem_nodup (cellsFrom_names scope.names 0 (s.heap.objs.size + 1) [] [] rfl ▸ hnd) hm), x.above n c hm⟩
  refine wpAny_mono (h _ s.heap.objs.size h₁ tk cells hide_keep rfl ⟨x.toInCall.ns, fun b o e => hk₁ b o (of_hideAll _ e), Nat.le_of_eq (hideAll_size _ _)⟩ (fun p hp => ?_) Y (X₀.keeps st) (T.keeps st) ?_) (fun fl s' hl => hl) fun _ _ y => y.elim
  · rcases List.mem_append.mp hp with hp | hp
    · refine ⟨(NC p hp).1, (NC p hp).2.1, ?_⟩
      cases q : (hideAll s.heap (muts.map (·.1))).get? p.1 with
      | none => rfl
      | some o => have := of_hideAll _ q; rw [(NC p hp).2.2] at this; cases this
    · exact ⟨hk₁ _ _ (N p hp).1, Nat.ne_of_lt (Heap.lt_size (N p hp).1), hideAll_none _ (List.mem_map_of_mem hp)⟩
  · intro p hp q hq e
    have := (NC p hp).2.2
    rw [e, (N q hq).1] at this; cases this

/-! a comprehension over a range; the elements may turn a ledger -/
section
variable {prog : Program} {w : World} {A : Around} {env : Env} {E : Value → Shared → Prop} {s₁ : Shared}
theorem comp_range {elt : PySem.Expr} {x : Str} {scope : Scope} {cl : List (Str × Addr)} {Q : Value → Shared → Prop} {r : Addr} {n : Nat} {t₀ u₀ v₀ : Tok} (objs₀ : List (Addr × Obj)) (Φ : Nat → List Value → List (Addr × Obj) → Prop)
    (hh : A.handled = none) (hr : IsRange s₁.heap r 0 (n : Int) 1 t₀ u₀ v₀) (hz : n ≤ 1000) (hob : ∀ p ∈ objs₀, s₁.heap.get? p.1 = some p.2) (h0 : Φ 0 [] objs₀)
    (helt : ∀ (G : Heap) (C : Addr) (i : Nat) (v : Value) (ys : List Value) (objs own : List (Addr × Obj)) (h₃ : Heap) (tk₃ : Nat) (m₃ : Str → Option Value), i < n → (∃ t, v = .int i t) → ys.length = i → Φ i ys objs →
        (∀ b o, s₁.heap.get? b = some o → b ∉ objs₀.map (·.1) → G.get? b = some o) → Off objs own →
        Fr G C h₃ (fun y => if y = x then some v else m₃ y) → News G C h₃ (objs ++ own) →
        wpAny (model prog w) A (eval elt (compEnvC scope cl C env)) (fun y s₄ => ∃ h₄ tk₄ m₄ objs', s₄ = { s₁ with heap := h₄, toks := tk₄ } ∧ Fr G C h₄ m₄ ∧ News G C h₄ (objs' ++ own) ∧ Off objs' own ∧ Φ (i + 1) (ys ++ [y]) objs')
          (fun _ _ => False) { s₁ with heap := h₃, toks := tk₃ })
    (done : ∀ D c h' tk ys objs, Φ n ys objs → ys.length = n → Above s₁.heap D → h'.get? D = some (listOf ys.toArray c) → (∀ p ∈ objs, h'.get? p.1 = some p.2 ∧ p.1 ≠ D) → Past s₁.heap (objs₀.map (·.1)) h' → Q (.ref D) { s₁ with heap := h', toks := tk }) :
    wpAny (model prog w) A (pyIter (.ref r)) (CompAt prog w A env scope cl x elt Q) E s₁ := by
  have hn : Builtin.Range.rangeSize 0 (n : Int) 1 = (n : Int) := by
    unfold Builtin.Range.rangeSize
    rw [if_pos (by omega)]
    split
    · rw [Int.ediv_one]; omega
    · omega
  have hsmall : Builtin.Range.small 0 (n : Int) 1 = true := small_one (by decide) (by decide) (by omega) (by omega)
  refine wpAny_pyIter_range hr hsmall ?_
  have hsm : ∀ b o, s₁.heap.get? b = some o → b ∉ [s₁.heap.objs.size] := fun b o e q => by
    rw [List.mem_singleton.mp q] at e; exact Nat.lt_irrefl _ (Heap.lt_size e)
  refine ⟨s₁.heap.objs.size, [s₁.heap.objs.size], [s₁.heap.objs.size], n, _, _, objs₀, Φ, rfl, (Walks.range hh s₁.heap.objs.size 0 1 n), (by rw [sizeLine_eq]; omega), ?_, ?_, ?_, h0, ?_, ?_⟩
  · show IsRangeIter _ _ _ _ _
    rw [hn]; simpa using Heap.get?_push_size _ rfl
  · intro i h st b hb
    rw [List.mem_singleton.mp hb]
    exact ⟨_, st⟩
  · intro p hp
    exact ⟨Heap.get?_push_of_some _ (hob p hp), hsm _ _ (hob p hp)⟩
  · intro G C i v ys objs own h₃ tk₃ m₃ hi hv hlen hΦ hG1 hG2 hoff F N hC
    obtain ⟨t, rfl⟩ := hv
    refine wpAny_mono (helt G C i _ ys objs own h₃ tk₃ m₃ hi ⟨t, by rw [Int.zero_add, Int.mul_one]⟩ hlen hΦ (fun b o e n1 => hG1 b o (Heap.get?_push_of_some _ e) n1 (hsm b o e)) hoff F N) (fun y s₄ h₄ => h₄) fun _ _ e => e
  · intro D c h' tk ys objs hΦ hlen ha ho hob' hk
    exact done D c h' tk ys objs hΦ hlen (fun b o e => ha b o (Heap.get?_push_of_some _ e)) ho hob' (fun b o e n1 => hk b o (Heap.get?_push_of_some _ e) n1 (hsm b o e))
end
local macro_rules | `(tactic| walk_at "eval Name") => ln_line "" true ``nameE_C "ho c d _ a b e" "c:R ho:RDX d:a a:R b:R e:d W" ""
/-- the caller's ledger, when a callee that was handed muts has ended -/
theorem led_back {h₀ h g h' : Heap} {L L' : Addr} {m m' : Str → Option Value} {muts news new : List (Addr × Obj)} (F : Fr h₀ L h m) (N : News h₀ L h (muts ++ news)) (ho : ∀ p ∈ news, p.1 ∉ muts.map (·.1))
    (hg : ∀ b o, h.get? b = some o → b ∉ muts.map (·.1) → g.get? b = some o) (F' : Fr g L' h' m') (N' : News g L' h' new) : Fr h₀ L h' m ∧ News h₀ L h' (new ++ news) := by
  have hm : ∀ b o, h₀.get? b = some o → b ∉ muts.map (·.1) := fun b o e q => by
    obtain ⟨p, hp, rfl⟩ := List.mem_map.mp q
    have := (N p (List.mem_append_left _ hp)).2.2
    rw [e] at this; cases this
  have hL : L ∉ muts.map (·.1) := fun q => by
    obtain ⟨p, hp, e⟩ := List.mem_map.mp q
    exact (N p (List.mem_append_left _ hp)).2.1 e
  refine ⟨⟨F.ns.at' fun o e => F'.keep _ _ (hg _ _ e hL), fun b o e => F'.keep _ _ (hg _ _ (F.keep _ _ e) (hm _ _ e)), F.above⟩, fun p hp => ?_⟩
  rcases List.mem_append.mp hp with hp | hp
  · have z := N' p hp
    refine ⟨z.1, fun e => ?_, ?_⟩
    · obtain ⟨oL, _, _, hoL, _⟩ := F.ns
      have := hg _ _ hoL hL
      rw [← e, z.2.2] at this; cases this
    · cases e : h₀.get? p.1 with
      | none => rfl
      | some o => have := hg _ _ (F.keep _ _ e) (hm _ _ e); rw [z.2.2] at this; cases this
  · have z := N p (List.mem_append_right _ hp)
    exact ⟨F'.keep _ _ (hg _ _ z.1 (ho p hp)), z.2⟩
theorem grow_hide {V s g : Heap} {D : Addr} (hV : Grow V s) (hDV : V.get? D = none) (hg : ∀ b o, s.get? b = some o → b ∉ [D] → g.get? b = some o) : Grow V g := fun b ob e => hg b ob (hV _ _ e) (fun q => by
  rw [List.mem_singleton.mp q, hDV] at e; cases e)
/-- an entry of an own object's dict -/
noncomputable abbrev fld (w : World) (x : Str) (t : Tok) (v : Value) : DictEntry := ⟨PyData.keyHash w.params x, .str x t, v⟩
noncomputable abbrev prg : Program := PySem.Challenge.rw_ok0052_01.row.prog
theorem inst_base {h₀ h : Heap} {L x C dx : Addr} {od : Obj} {m : Str → Option Value} (F : Fr h₀ L h m) (h1 : h₀.get? x = some (instObj C dx)) (h2 : h₀.get? dx = some od) : InstAt h x (instObj C dx) C (some od) :=
  ⟨F.keep _ _ h1, rfl, rfl, F.keep _ _ h2⟩
local macro_rules | `(tactic| k_inst) => do return ← ln_use ``inst_base "F h1 h2" "F:k h1:a h2:a"
noncomputable def dc (c : Int) : Int := if (65 ≤ c ∧ c ≤ 90) ∨ (192 ≤ c ∧ c ≤ 222 ∧ c ≠ 215) then c + 32 else c

theorem downcase_spec {w : World} {A : Around} {E : Value → Shared → Prop} {s : Shared} {V : Heap} {mg mb : Str → Option Value} {mean : ExcName → Option Value}
    {c : Int} {t : Tok} {Q : Value → Shared → Prop}
    (hV : Grow V s.heap) (X₀ : (hd.heap_1 w.params).In V) (T : Top headView (looseW headView [Str.ofString "EXACT"]) mean mg mb V)
    (hD : A.depth ≤ 600) (hU : A.units ≤ 2000)
    (h : ∀ r tk h' tk', r = dc c → Grow s.heap h' → Q (.int r tk) { s with heap := h', toks := tk' }) :
    wpAny (model PySem.Challenge.rw_ok0052_01.row.prog w) A (call (.ref 21) [.int c t]) Q E s := by
  revert X₀; k_fill; intro X₀
  refine wpAny_call ?_
  refine' enterNR [] [("code", .int c t)] hV X₀ T (fun _ h => nomatch h) ?k6 ?k7 ?k8 ?k9 ?kB ?_ ?c2 ?c3 ?c4 ?c5
  walk_at "ENTER"
  intro g L' h₁ hg hL F' N' X' T'
  try dsimp only
  walk_at "S"
  all_goals (refine h _ _ _ _ ?_ (fun b o e => F'.keep b o (hg b o e (fun n => nomatch n))); unfold dc; split <;> omega)
local macro_rules | `(tactic| walk_at "call ref") => ln_line "" false ``downcase_spec "*F X T d u _" "FX5" "@GROWN"
theorem downcased_spec {w : World} {A : Around} {E : Value → Shared → Prop} {s : Shared} {V : Heap} {mg mb : Str → Option Value} {mean : ExcName → Option Value}
    {l : Addr} {vs : List Value} {ns : List Int} {Q : Value → Shared → Prop}
    (hV : Grow V s.heap) (X₀ : (hd.heap_1 w.params).In V) (T : Top headView (looseW headView [Str.ofString "EXACT"]) mean mg mb V)
    (hD : A.depth ≤ 590) (hU : A.units ≤ 1900) (hh : A.handled = none) (hl : s.heap.IsList l vs.toArray) (hi : IntsAre vs ns) (hz : ns.length ≤ 100)
    (h : ∀ r vs' c h' tk', IntsAre vs' (ns.map dc) → Grow s.heap h' → s.heap.get? r = none → h'.get? r = some (listOf vs'.toArray c) → Q (.ref r) { s with heap := h', toks := tk' }) :
    wpAny (model PySem.Challenge.rw_ok0052_01.row.prog w) A (call (.ref 26) [.ref l]) Q E s := by
  revert X₀; k_fill; intro X₀
  refine wpAny_call ?_
  refine' enterNR [] [("codes", .ref l)] hV X₀ T (fun _ h => nomatch h) ?k6 ?k7 ?k8 ?k9 ?kB ?_ ?c2 ?c3 ?c4 ?c5
  walk_at "ENTER"
  intro g L' h₁ hg hL F' N' X' T'
  try dsimp only
  walk_at "S"
  refine comp_inv' (cl := []) rfl ?_ rfl ?_ rfl ?_
  · decide
  · decide
  walk_at "S"
  refine comp_list (fun v y => ∀ n t, v = .int n t → ∃ u, y = .int (dc n) u) hh (F'.lst (hl.at (fun o e => hg _ o e (fun n => nomatch n)))) ?_ ?_ ?_
  · rw [hi.length, sizeLine_eq]; omega
  · intro G C v own h₃ tk₃ m₃ hv hG F₃ N₃
    obtain ⟨n, t, rfl⟩ := hi.all v hv
    have X₃ : (hd.heap_1 w.params).In G := X'.keeps (fun b o e => hG b o (F'.keep b o e))
    have T₃ := T'.keeps (fun b o e => hG b o (F'.keep b o e))
    clear F' N' X' T'
    walk_at "S"
    refine ⟨_, _, _, rfl, by k_asm, by k_asm, fun n' t' e => ?_⟩
    cases e
    exact ⟨_, congrArg (Value.int · _) (by assumption)⟩
  · intro D c h' tk ys hR ha hG ho
    exact h _ ys c h' tk (paired_ints hR hi) (fun b o e => hG b o (F'.keep b o (hg b o e (fun n => nomatch n)))) (fresh_back hg (by cases e : g.get? D with | none => rfl | some o => exact absurd (ha _ _ (F'.keep _ _ e)) (Nat.lt_irrefl _)) (fun n => nomatch n)) ho
local macro_rules | `(tactic| walk_at "call ref") => ln_line "" false ``downcased_spec "*F X T d u hh l i z _" "LISTIN" "@FRESHED"
noncomputable def txt (n : Int) : Str := Str.ofString (toString n)
noncomputable def keyOf (ns : List Int) : Str := Txt.join (Str.ofString ",") (ns.map txt)

theorem small_log2 {n : Int} (h : 0 ≤ n ∧ n ≤ 10000) : n.natAbs.log2 < 1920 := by
  by_cases h0 : n.natAbs = 0
  · rw [h0]; decide
  · refine Nat.lt_of_lt_of_le ((Nat.log2_lt h0).mpr (show n.natAbs < 2 ^ 14 by omega)) (by decide)
theorem txt_len {n : Int} (h : 0 ≤ n ∧ n ≤ 10000) : (txt n).length ≤ 6 := by
  unfold txt
  rw [PySem.ofString_length]
  exact int_text_length_le10 (k := 5) (by decide) (by omega)
theorem txts_len : ∀ {ns : List Int}, (∀ n ∈ ns, 0 ≤ n ∧ n ≤ 10000) → ((ns.map txt).map (·.length)).sum ≤ 6 * ns.length := by
  intro ns
  induction ns with
  | nil => intro _; simp
  | cons n r ih =>
    intro h
    have h1 := txt_len (h n (.head _))
    have h2 := ih fun k hk => h k (.tail _ hk)
    simp only [List.map_cons, List.sum_cons, List.length_cons] at h2 ⊢
    omega
theorem paired_strs {f : Int → Str} {vs ys : List Value} (h : Paired (fun v y => ∀ n t, v = .int n t → ∃ u, y = .str (f n) u) vs ys) : ∀ {ns : List Int}, IntsAre vs ns → StrsAre ys (ns.map f) := by
  induction h with
  | nil => intro ns i; cases i; exact .nil
  | cons h _ ih =>
    intro ns i
    cases i with
    | cons n t i =>
      obtain ⟨u, rfl⟩ := h n t rfl
      exact .cons _ _ (ih i)
theorem ints_mem {vs : List Value} {ns : List Int} (h : IntsAre vs ns) : ∀ v ∈ vs, ∃ n t, v = .int n t ∧ n ∈ ns := by
  induction h with
  | nil => intro v hv; cases hv
  | cons n t _ ih =>
    intro v hv
    rcases List.mem_cons.mp hv with rfl | hv
    · exact ⟨n, t, rfl, .head _⟩
    · obtain ⟨n', t', e, hm⟩ := ih v hv
      exact ⟨n', t', e, .tail _ hm⟩

theorem keyof_spec {w : World} {A : Around} {E : Value → Shared → Prop} {s : Shared} {V : Heap} {mg mb : Str → Option Value} {mean : ExcName → Option Value}
    {l : Addr} {vs : List Value} {ns : List Int} {Q : Value → Shared → Prop}
    (hV : Grow V s.heap) (X₀ : (hd.heap_1 w.params).In V) (T : Top headView (looseW headView [Str.ofString "EXACT"]) mean mg mb V)
    (hD : A.depth ≤ 590) (hU : A.units ≤ 1900) (hh : A.handled = none) (hl : s.heap.IsList l vs.toArray) (hi : IntsAre vs ns) (hz : ns.length ≤ 1000) (hb : ∀ n ∈ ns, 0 ≤ n ∧ n ≤ 10000)
    (h : ∀ r tk h' tk', r = keyOf ns → Grow s.heap h' → Q (.str r tk) { s with heap := h', toks := tk' }) :
    wpAny (model PySem.Challenge.rw_ok0052_01.row.prog w) A (call (.ref 73) [.ref l]) Q E s := by
  revert X₀; k_fill; intro X₀
  refine wpAny_call ?_
  refine' enterNR [] [("codes", .ref l)] hV X₀ T (fun _ h => nomatch h) ?k6 ?k7 ?k8 ?k9 ?kB ?_ ?c2 ?c3 ?c4 ?c5
  walk_at "ENTER"
  intro g L' h₁ hg hL F' N' X' T'
  try dsimp only
  walk_at "S"
  walk_at "COMP"
  refine comp_list (fun v y => ∀ n t, v = .int n t → ∃ u, y = .str (txt n) u) hh (F'.lst (hl.at (fun o e => hg _ o e (fun n => nomatch n)))) ?_ ?_ ?_
  · rw [hi.length, sizeLine_eq]; omega
  · intro G C v own h₃ tk₃ m₃ hv hG F₃ N₃
    obtain ⟨n, t, rfl, hn⟩ := ints_mem hi v hv
    have X₃ : (hd.heap_1 w.params).In G := X'.keeps (fun b o e => hG b o (F'.keep b o e))
    have T₃ := T'.keeps (fun b o e => hG b o (F'.keep b o e))
    clear F' N' X' T'
    walk_at "S"
    refine P.str_of_int (small_log2 (hb n hn)) ?_
    refine ⟨_, _, _, rfl, by k_asm, by k_asm, fun n' t' e => ?_⟩
    cases e
    exact ⟨_, rfl⟩
  · intro D c h' tk ys hR ha hG ho
    obtain ⟨F'', N'', l1⟩ := led_new F' N' hG ha ho
    have hG' : Grow s.heap h' := fun b o e => hG b o (F'.keep b o (hg b o e (fun n => nomatch n)))
    clear F' N'
    walk_at "S"
    refine join_listC (ys := ns.map txt) ⟨_, ho, rfl, c, rfl⟩ (paired_strs hR hi) (by decide) ?_ fun t' k => ?_
    · have h1 := txts_len hb
      simp only [List.length_map] at h1 ⊢
      omega
    · exact h _ _ _ _ rfl hG'
local macro_rules | `(tactic| walk_at "call ref") => ln_line "" false ``keyof_spec "*F X T d u hh l i z b _" "LISTIN b:a" "@GROWN"
noncomputable def esc (c : Int) : List Int := if c = 34 ∨ c = 92 then [92, c] else if c = 10 then [92, 110] else [c]
noncomputable def quote (ns : List Int) : List Int := [34] ++ ns.flatMap esc ++ [34]

theorem map_is {m : Str → Option Value} {x : Str} {v : Value} (h : m x = some v) : m = fun z => if z = x then some v else m z := by
  funext z
  by_cases e : z = x
  · rw [if_pos e, e, h]
  · rw [if_neg e]
theorem flat_take {f : Int → List Int} {ns : List Int} {i : Nat} {n : Int} (h : ns[i]? = some n) : (ns.take (i + 1)).flatMap f = (ns.take i).flatMap f ++ f n := by
  rw [List.take_add_one, h]; simp
theorem ints_at {vs : List Value} {ns : List Int} (h : IntsAre vs ns) {i : Nat} {v : Value} (hv : vs[i]? = some v) : ∃ n t, v = .int n t ∧ ns[i]? = some n := by
  induction h generalizing i with
  | nil => simp at hv
  | cons n t _ ih =>
    cases i with
    | zero => simp at hv; exact ⟨n, t, hv.symm, rfl⟩
    | succ i => simpa using ih (by simpa using hv)
theorem flat_len {f : Int → List Int} (hf : ∀ n, (f n).length ≤ 2) : ∀ ns : List Int, (ns.flatMap f).length ≤ 2 * ns.length := by
  intro ns
  induction ns with
  | nil => simp
  | cons n r ih => have := hf n; simp only [List.flatMap_cons, List.length_append, List.length_cons]; omega
theorem esc_len (n : Int) : (esc n).length ≤ 2 := by unfold esc; (repeat' split) <;> simp

theorem quoted_spec {w : World} {A : Around} {E : Value → Shared → Prop} {s : Shared} {V : Heap} {mg mb : Str → Option Value} {mean : ExcName → Option Value}
    {l : Addr} {vs : List Value} {ns : List Int} {Q : Value → Shared → Prop}
    (hV : Grow V s.heap) (X₀ : (hd.heap_1 w.params).In V) (T : Top headView (looseW headView [Str.ofString "EXACT"]) mean mg mb V)
    (hD : A.depth ≤ 590) (hU : A.units ≤ 1900) (hh : A.handled = none) (hl : s.heap.IsList l vs.toArray) (hi : IntsAre vs ns) (hz : ns.length ≤ 100)
    (hfin : ∀ r vs' c h' tk', IntsAre vs' (quote ns) → Grow s.heap h' → s.heap.get? r = none → h'.get? r = some (listOf vs'.toArray c) → Q (.ref r) { s with heap := h', toks := tk' }) :
    wpAny (model PySem.Challenge.rw_ok0052_01.row.prog w) A (call (.ref 115) [.ref l]) Q E s := by
  revert X₀; k_fill; intro X₀
  refine wpAny_call ?_
  refine' enterNR [] [("codes", .ref l)] hV X₀ T (fun _ h => nomatch h) ?k6 ?k7 ?k8 ?k9 ?kB ?_ ?c2 ?c3 ?c4 ?c5
  walk_at "ENTER"
  intro g L' h₁ hg hL F' N' X' T'
  try dsimp only
  walk_at "S"
  refine For_invV g rfl rfl ?_ (hE := PassesOwn.never)
  walk_at "S"
  rename Fr _ _ _ _ => F₀
  rename News _ _ _ _ => N₀
  have hlg : g.IsList l vs.toArray := hl.at (fun o e => hg _ o e (fun n => nomatch n))
  refine for_list (fun i m news => ∃ r vs' c, m "found" = some (.ref r) ∧ m "codes" = some (.ref l) ∧ news = [(r, listOf vs'.toArray c)] ∧ IntsAre vs' ([34] ++ (ns.take i).flatMap esc))
    rfl hh (F₀.lst hlg) ?_ F₀ N₀ ?_ ⟨_, [.int 34 332], 0, rfl, rfl, rfl, .cons _ _ .nil⟩ ?_ ?_
  · obtain ⟨o, ho, _⟩ := hlg
    exact Nat.ne_of_lt (Nat.lt_of_lt_of_le (Heap.lt_size ho) F₀.above)
  · intro p hp e
    obtain ⟨o, ho, _⟩ := hlg
    have := (N₀ p hp).2.2
    rw [e, ho] at this; cases this
  · rintro i v m₁ news₁ h tk own s₂ rfl hv hJq hoff F₁ N₁
    obtain ⟨r, vs', c, hm1, hm2, rfl, hi'⟩ := hJq
    obtain ⟨n, t, rfl, hn⟩ := ints_at hi hv
    rw [map_is hm1] at F₁
    simp only [List.cons_append, List.nil_append] at N₁
    clear F₀ N₀
    have ho1 := hoff.ne
    have hlen := hi'.length
    have hz1 := flat_len esc_len (ns.take i)
    have hz2 : (ns.take i).length ≤ 100 := Nat.le_trans (List.length_take_le' _ _) hz
    walk_at "S"
    all_goals (
      rename News _ _ _ _ => N₃
      simp only [List.push_toArray, List.append_toArray] at N₃
      rename Fr _ _ _ _ => F₃
      refine ⟨_, _, _, [(r, _)], rfl, F₃, turn_sub N₃ (by k_mem) (by walk_at "OWN"), hoff.to Off.nil, r, _, _, rfl, hm2, rfl, ?_⟩
      rw [flat_take hn]
      refine hi'.append (ms := esc n) ?_)
    · rw [show esc n = [92, n] from by unfold esc; rw [if_pos (by omega)]]; exact .cons _ _ (.cons _ _ .nil)
    · rw [show esc n = [92, n] from by unfold esc; rw [if_pos (by omega)]]; exact .cons _ _ (.cons _ _ .nil)
    · rw [show esc n = [92, 110] from by unfold esc; rw [if_neg (by omega), if_pos (by omega)]]; exact .cons _ _ (.cons _ _ .nil)
    · rw [show esc n = [n] from by unfold esc; rw [if_neg (by omega), if_neg (by omega)]]; exact .cons _ _ .nil
  · rintro m' news' h tk hJq F₁ N₁
    obtain ⟨r, vs', c, hm1, hm2, rfl, hi'⟩ := hJq
    rw [map_is hm1] at F₁
    rw [List.take_of_length_le (Nat.le_of_eq hi.length.symm)] at hi'
    have hlen := hi'.length
    have hz1 := flat_len esc_len ns
    clear F₀ N₀
    walk_at "S"
    rename IntsAre _ _ => hI₃
    rename Fr _ _ _ _ => F₃
    rename News _ _ _ _ => N₃
    refine hfin _ _ _ _ _ hI₃ (fun b o e => F₃.keep b o (hg b o e (fun n => nomatch n))) (fresh_back hg (N₃.fresh (.head _)) (fun n => nomatch n)) (N₃.get (.head _))
local macro_rules | `(tactic| walk_at "call ref") => ln_line "" false ``quoted_spec "*F X T d u hh l i z _" "LISTIN" "@FRESHED"
theorem draw_spec {w : World} {A : Around} {E : Value → Shared → Prop} {s : Shared} {V : Heap} {mg mb : Str → Option Value} {mean : ExcName → Option Value}
    {D : Addr} {vs : List Value} {ns : List Int} {n : Nat} {many : Int} {tm : Tok} {Q : Value → Shared → Prop}
    (hV : Grow V s.heap) (X₀ : (hd.heap_1 w.params).In V) (T : Top headView (looseW headView [Str.ofString "EXACT"]) mean mg mb V)
    (hD : A.depth ≤ 600) (hU : A.units ≤ 2000) (hi : IntsAre vs ns) (hDs : s.heap.get? D = some (listOf vs.toArray n)) (hDV : V.get? D = none) (hm : 0 < many) (hm' : many ≤ 1000) (hz : ns.length ≤ 100)
    (hfin : ∀ r tk vs' ns' n' h' tk', 0 ≤ r → r < many → IntsAre vs' ns' → ns'.length ≤ 100 → Past s.heap [D] h' → h'.get? D = some (listOf vs'.toArray n') → Q (.int r tk) { s with heap := h', toks := tk' }) :
    wpAny (model PySem.Challenge.rw_ok0052_01.row.prog w) A (call (.ref 221) [.ref D, .int many tm]) Q E s := by
  revert X₀; k_fill; intro X₀
  refine wpAny_call ?_
  refine' enterNR [(D, listOf vs.toArray n)] [("deck", .ref D), ("many", .int many tm)] hV X₀ T (fun p hp => by rw [List.mem_singleton.mp hp]; exact ⟨hDs, hDV⟩) ?k6 ?k7 ?k8 ?k9 ?kB ?_ ?c2 ?c3 ?c4 ?c5
  walk_at "ENTER"
  intro g L' h₁ hg hL F' N' X' T'
  try dsimp only
  have hgD : g.get? D = none := N'.fresh (.head _)
  walk_at "S"
  refine whl_start 1 ?_
  clear hDs
  have hg' : ∀ b o, s.heap.get? b = some o → b ≠ D → g.get? b = some o := fun b o e n => hg b o e (by simpa using n)
  clear hg
  have hm0 : many ≠ 0 := by omega
  revert F' N'
  generalize h₁ = H
  generalize n = n
  generalize s.toks + _ = tt
  induction hi generalizing H n tt with
  | nil =>
    intro F' N'
    refine whl_turn PassesOwn.never ?_
    walk_at "S"
    rename Fr _ _ _ _ => F₃
    rename News _ _ _ _ => N₃
    refine hfin 0 _ [] [] _ _ _ (by omega) (by omega) .nil (by simp) (fun b o e n => F₃.keep b o (hg' b o e (by simpa using n))) (N₃.get (by k_mem))
  | cons a t hi ih =>
    rename List Value => vr
    rename List Int => nr
    intro F' N'
    have hzl := hi.length
    have hz1 : nr.length + 1 ≤ 100 := by simpa using hz
    refine whl_turn PassesOwn.never ?_
    walk_at "S"
    · rename Fr _ _ _ _ => F₃
      rename News _ _ _ _ => N₃
      refine' kl_popAt (p := []) (q := vr) (k := 0) F₃ N₃ rfl ?k1 ?k2 ?U ?z ?_
      case U => k_upd
      case k1 => simp [seqIndex?]
      case k2 => rfl
      case z => rw [sizeLine_eq]; simp; omega
      intro h' F₄ N₄
      clear F₃ N₃
      walk_at "S"
      have N₅ : News g L' h' [(D, listOf vr.toArray (n + 1))] := news_sub N₄ fun p hp => by rw [List.mem_singleton.mp hp]; k_mem
      exact ih (by omega) _ _ _ F₄ N₅
    · rename Fr _ _ _ _ => F₃
      rename News _ _ _ _ => N₃
      refine hfin _ _ (.int (((a :: nr).getD (Int.toNat 0) 0).fdiv many) _ :: vr) (_ :: nr) _ _ _ (fmod_lo _ hm) (fmod_hi _ hm) (IntsAre.cons _ _ hi) (by simpa using hz) (fun b o e n => F₃.keep b o (hg' b o e (by simpa using n))) (N₃.get (by k_mem))

theorem led_past {h₀ h h' : Heap} {L D : Addr} {m : Str → Option Value} {news : List (Addr × Obj)} {o o' : Obj} {g : Obj → List (Addr × Obj)} (F : Fr h₀ L h m) (N : News h₀ L h news) (U : UpdF D o news g) (P : Past h [D] h') (ho : h'.get? D = some o') :
    Fr h₀ L h' m ∧ News h₀ L h' (g o') := by
  obtain ⟨pre, post, rfl, hg, h1, h2⟩ := U.split
  have z := N (D, o) (List.mem_append_right _ (.head _))
  refine ⟨⟨F.ns.at' fun ob e => P _ _ e fun q => z.2.1 (List.mem_singleton.mp q).symm, fun b ob e => P b ob (F.keep b ob e) fun q => ?_, F.above⟩, ?_⟩
  · have q' : b = D := List.mem_singleton.mp q
    have z2 : h₀.get? D = none := z.2.2
    rw [q', z2] at e; cases e
  · rw [hg]
    intro p hp
    rcases List.mem_append.mp hp with hp | hp
    · have y := N p (List.mem_append_left _ hp)
      exact ⟨P _ _ y.1 fun q => h1 p hp (List.mem_singleton.mp q), y.2⟩
    · rcases List.mem_cons.mp hp with rfl | hp
      · exact ⟨ho, z.2⟩
      · have y := N p (List.mem_append_right _ (.tail _ hp))
        exact ⟨P _ _ y.1 fun q => h2 p hp (List.mem_singleton.mp q), y.2⟩

theorem draw_led {w : World} {A : Around} {E : Value → Shared → Prop} {s : Shared} {h₀ : Heap} {L : Addr} {m mg mb : Str → Option Value} {mean : ExcName → Option Value} {news : List (Addr × Obj)}
    {D : Addr} {vs : List Value} {ns : List Int} {n : Nat} {many : Int} {tm : Tok} {g : Obj → List (Addr × Obj)} {Q : Value → Shared → Prop}
    (F : Fr h₀ L s.heap m) (N : News h₀ L s.heap news) (X₀ : (hd.heap_1 w.params).In h₀) (T : Top headView (looseW headView [Str.ofString "EXACT"]) mean mg mb h₀)
    (hD : A.depth ≤ 600) (hU : A.units ≤ 2000) (U : UpdF D (listOf vs.toArray n) news g) (hi : IntsAre vs ns) (hm : 0 < many) (hm' : many ≤ 1000) (hz : ns.length ≤ 100)
    (h : ∀ r tk vs' ns' n' h' tk', 0 ≤ r → r < many → IntsAre vs' ns' → ns'.length ≤ 100 → Fr h₀ L h' m → News h₀ L h' (g (listOf vs'.toArray n')) → Q (.int r tk) { s with heap := h', toks := tk' }) :
    wpAny (model PySem.Challenge.rw_ok0052_01.row.prog w) A (call (.ref 221) [.ref D, .int many tm]) Q E s := by
  have hm : (D, listOf vs.toArray n) ∈ news := by
    obtain ⟨pre, post, rfl, _, _, _⟩ := U.split
    exact List.mem_append_right _ (.head _)
  have z := N _ hm
  refine draw_spec F.keep X₀ T hD hU hi z.1 z.2.2 ‹0 < many› hm' hz fun r tk vs' ns' n' h' tk' a b c d e f => ?_
  obtain ⟨F', N'⟩ := led_past F N U e f
  exact h r tk vs' ns' n' h' tk' a b c d F' N'
local macro_rules | `(tactic| walk_at "call ref") => ln_line "" true ``draw_led "F N X T d u U i a b z _" "F:k N:k X:k T:k U:U i:a d:DU u:DU a:o b:o z:z" "r' tk' vs' ns' n' h' tk' lo' hi' i' z' F' N'"
theorem nameN {h : Heap} {D : Addr} {its : Array Value} {n : Nat} (e : h.get? D = some (listOf its n)) : ∃ n, h.get? D = some (listOf its n) := ⟨n, e⟩
theorem menu_in (r : Int) (h1 : 0 ≤ r) (h2 : r < 10) : 0 ≤ ([97, 98, 65, 34, 92, 10, 110, 32, 48, 955] : List Int).getD r.toNat 0 ∧ ([97, 98, 65, 34, 92, 10, 110, 32, 48, 955] : List Int).getD r.toNat 0 ≤ 1000 := by
  obtain ⟨n, rfl⟩ := Int.eq_ofNat_of_zero_le h1
  have : n < 10 := by omega
  have h : ∀ n : Fin 10, 0 ≤ ([97, 98, 65, 34, 92, 10, 110, 32, 48, 955] : List Int).getD n.val 0 ∧ ([97, 98, 65, 34, 92, 10, 110, 32, 48, 955] : List Int).getD n.val 0 ≤ 1000 := by decide
  exact h ⟨n, this⟩
theorem lawcodes_spec {w : World} {A : Around} {E : Value → Shared → Prop} {s : Shared} {V : Heap} {mg mb : Str → Option Value} {mean : ExcName → Option Value}
    {D : Addr} {vs : List Value} {ns : List Int} {n : Nat} {a b : Int} {ta tb : Tok} {Q : Value → Shared → Prop}
    (hV : Grow V s.heap) (X₀ : (hd.heap_1 w.params).In V) (T : Top headView (looseW headView [Str.ofString "EXACT"]) mean mg mb V)
    (hD : A.depth ≤ 590) (hU : A.units ≤ 1900) (hh : A.handled = none) (hi : IntsAre vs ns) (hDs : s.heap.get? D = some (listOf vs.toArray n)) (hDV : V.get? D = none) (hz : ns.length ≤ 100)
    (ha : 0 ≤ a) (hab : a ≤ b) (hb : b ≤ 100)
    (hfin : ∀ r rs ks c vs' ns' n' h' tk', IntsAre rs ks → a ≤ ks.length → (ks.length : Int) ≤ b → (∀ k ∈ ks, 0 ≤ k ∧ k ≤ 1000) → IntsAre vs' ns' → ns'.length ≤ 100 → Past s.heap [D] h' → s.heap.get? r = none →
      h'.get? r = some (listOf rs.toArray c) → h'.get? D = some (listOf vs'.toArray n') → Q (.ref r) { s with heap := h', toks := tk' }) :
    wpAny (model PySem.Challenge.rw_ok0052_01.row.prog w) A (call (.ref 226) [.ref D, .int a ta, .int b tb]) Q E s := by
  revert X₀; k_fill; intro X₀
  refine wpAny_call ?_
  refine' enterNRC [(D, listOf vs.toArray n)] [("deck", .ref D), ("least", .int a ta), ("most", .int b tb)] hV X₀ T (fun p hp => by rw [List.mem_singleton.mp hp]; exact ⟨hDs, hDV⟩) ?k6 ?k7 ?k8 ?k9 ?kB ?kD ?_ ?c2 ?c3 ?c4
  case k6 => k_is
  case k7 => k_is
  case k8 => (simp only [recursionLimit]; omega)
  case k9 => exact BindsTo.of_eq rfl
  case kB => exact rfl
  case kD => decide +kernel
  case c2 => exact rfl
  case c3 => exact rfl
  case c4 => exact rfl
  intro g L' h₁ tk cells hg hL F' N' Y' X' T' hoff
  k_cells Y'
  rename _ = Data.cell (bindC _ _ _ _) => d2
  replace d2 : _ = Data.cell (some (Value.ref D)) := d2
  simp only [List.cons_append, List.nil_append] at N'
  have e1 : L' + 1 + 1 ≠ D := hoff _ (.head _) _ (.head _)
  have e2 : L' + 1 ≠ D := hoff _ (.tail _ (.head _)) _ (.head _)
  have hgD : g.get? D = none := N'.fresh (.tail _ (.tail _ (.head _)))
  try dsimp only
  walk_at "S"
  refine' comp_inv' ?hc ?k1 rfl ?k2 rfl ?_
  case hc => with_unfolding_all rfl
  case k1 => decide
  case k2 => decide
  walk_at "S"
  rename IsRange _ _ _ _ _ _ _ _ => hrange
  rename Fr _ _ _ _ => F₀
  rename News _ _ _ _ => N₀
  rename _ = Data.cell (some (Value.ref _)) => hcell
  rename IntsAre _ _ => hiD
  rename _ < b + 1 - a => hr2
  rename 0 ≤ _ => hr1
  rename List.length _ ≤ 100 => hzD
  rename List Int => nsD
  rename List Value => vsD
  rename Int => r
  obtain ⟨k, hk⟩ := Int.eq_ofNat_of_zero_le (show 0 ≤ a + r by omega)
  rw [hk] at hrange
  have hsome := N₀.get (.head _)
  have hc1 := N₀.get (.tail _ (.head _))
  have hc2 := N₀.get (.tail _ (.tail _ (.head _)))
  obtain ⟨nD, hDD⟩ := nameN (N₀.get (.tail _ (.tail _ (.tail _ (.head _)))))
  rename _ < _ ∧ _ < _ ∧ D < _ => l1
  refine comp_range (n := k) [(D, listOf vsD.toArray nD)] (fun i ys objs => ∃ us ms dn ks, objs = [(D, listOf us.toArray dn)] ∧ IntsAre us ms ∧ ms.length ≤ 100 ∧ IntsAre ys ks ∧ ∀ k ∈ ks, 0 ≤ k ∧ k ≤ 1000) hh hrange (by omega) ?_ ⟨vsD, nsD, nD, [], rfl, hiD, hzD, .nil, by simp⟩ ?_ ?_
  · intro p hp
    rw [List.mem_singleton.mp hp]
    exact hDD
  · rintro G C i v ys objs own h₃ tk₃ m₃ hi₃ ⟨t, rfl⟩ hys hJq hG hoff₃ F₃ N₃
    obtain ⟨us, ms, dn, ks, rfl, hus, hms, hks, hbk⟩ := hJq
    have X₃ : (hd.heap_1 w.params).In G := fun b o e => hG b o (F₀.keep b o (X' b o e)) (fun q => by
      have q' : b = D := by simpa using q
      have := X' b o e; rw [q', hgD] at this; cases this)
    have T₃ := T'.keeps (h' := G) (fun b o e => hG b o (F₀.keep b o e) (fun q => by
      have q' : b = D := by simpa using q
      rw [q', hgD] at e; cases e))
    have k1 := hG _ _ hsome (fun q => Nat.ne_of_gt l1.2.2 (List.mem_singleton.mp q))
    have k2 := hG _ _ hc1 (by simpa using e1)
    have k3 := hG _ _ hc2 (by simpa using e2)
    have k4 : G.IsList _ _ := ⟨_, k1, rfl, 0, rfl⟩
    have k5 := hoff₃.ne
    simp only [List.cons_append, List.nil_append] at N₃
    clear F₀ N₀ X' T' hDD hsome hc1 hc2 hrange X₀ T
    walk_at "S"
    rename 0 ≤ _ => q1
    rename _ < (10 : Int) => q2
    rename Fr _ _ _ _ => F₄
    rename News _ _ _ _ => N₄
    rename IntsAre _ _ => i₄
    rename List.length _ ≤ 100 => z₄
    have hm := menu_in _ q1 q2
    refine ⟨_, _, _, _, rfl, F₄, N₄, hoff₃.to Off.nil, _, _, _, _, rfl, i₄, z₄, hks.append (.cons _ _ .nil), fun k hk => ?_⟩
    rcases List.mem_append.mp hk with hk | hk
    · exact hbk k hk
    · rw [List.mem_singleton.mp hk]; exact hm
  · rintro D' c h' tk' ys objs hJq hlen hab hD' hob hpast
    obtain ⟨us, ms, dn, ks, rfl, hus, hms, hks, hbk⟩ := hJq
    have e := hks.length
    have hob' := hob _ (.head _)
    refine hfin D' ys ks c us ms dn _ _ hks (by omega) (by omega) hbk hus hms ?_ ?_ hD' hob'.1
    · intro b' o e n1
      have e3 := hg b' o e (by simpa using n1)
      exact hpast b' o (F₀.keep b' o e3) (by simpa using n1)
    · cases e : s.heap.get? D' with
      | none => rfl
      | some o =>
        by_cases hq : D' = D
        · exact absurd hq.symm hob'.2
        · have e3 := hg D' o e (by simpa using hq)
          exact absurd (hab _ _ (F₀.keep _ _ e3)) (Nat.lt_irrefl _)
theorem lawquoted_spec {w : World} {A : Around} {E : Value → Shared → Prop} {s : Shared} {V : Heap} {mg mb : Str → Option Value} {mean : ExcName → Option Value}
    {l : Addr} {vs : List Value} {ns : List Int} {Q : Value → Shared → Prop}
    (hV : Grow V s.heap) (X₀ : (hd.heap_1 w.params).In V) (T : Top headView (looseW headView [Str.ofString "EXACT"]) mean mg mb V)
    (hD : A.depth ≤ 590) (hU : A.units ≤ 1900) (hh : A.handled = none) (hl : s.heap.IsList l vs.toArray) (hi : IntsAre vs ns) (hz : ns.length ≤ 100)
    (hfin : ∀ r vs' c h' tk', IntsAre vs' (quote ns) → Grow s.heap h' → s.heap.get? r = none → h'.get? r = some (listOf vs'.toArray c) → Q (.ref r) { s with heap := h', toks := tk' }) :
    wpAny (model PySem.Challenge.rw_ok0052_01.row.prog w) A (call (.ref 233) [.ref l]) Q E s := by
  revert X₀; k_fill; intro X₀
  refine wpAny_call ?_
  refine' enterNR [] [("codes", .ref l)] hV X₀ T (fun _ h => nomatch h) ?k6 ?k7 ?k8 ?k9 ?kB ?_ ?c2 ?c3 ?c4 ?c5
  walk_at "ENTER"
  intro g L' h₁ hg hL F' N' X' T'
  try dsimp only
  walk_at "S"
  refine For_invV g rfl rfl ?_ (hE := PassesOwn.never)
  walk_at "S"
  rename Fr _ _ _ _ => F₀
  rename News _ _ _ _ => N₀
  have hlg : g.IsList l vs.toArray := hl.at (fun o e => hg _ o e (fun n => nomatch n))
  refine for_list (fun i m news => ∃ r vs' c, m "made_here" = some (.ref r) ∧ m "codes" = some (.ref l) ∧ news = [(r, listOf vs'.toArray c)] ∧ IntsAre vs' ([34] ++ (ns.take i).flatMap esc))
    rfl hh (F₀.lst hlg) ?_ F₀ N₀ ?_ ⟨_, [.int 34 _], 0, rfl, rfl, rfl, .cons _ _ .nil⟩ ?_ ?_
  · obtain ⟨o, ho, _⟩ := hlg
    exact Nat.ne_of_lt (Nat.lt_of_lt_of_le (Heap.lt_size ho) F₀.above)
  · intro p hp e
    obtain ⟨o, ho, _⟩ := hlg
    have := (N₀ p hp).2.2
    rw [e, ho] at this; cases this
  · rintro i v m₁ news₁ h tk own s₂ rfl hv hJq hoff F₁ N₁
    obtain ⟨r, vs', c, hm1, hm2, rfl, hi'⟩ := hJq
    obtain ⟨n, t, rfl, hn⟩ := ints_at hi hv
    rw [map_is hm1] at F₁
    simp only [List.cons_append, List.nil_append] at N₁
    clear F₀ N₀
    have ho1 := hoff.ne
    have hlen := hi'.length
    have hz1 := flat_len esc_len (ns.take i)
    have hz2 : (ns.take i).length ≤ 100 := Nat.le_trans (List.length_take_le' _ _) hz
    walk_at "S"
    all_goals (
      rename News _ _ _ _ => N₃
      rename Fr _ _ _ _ => F₃
      rename IntsAre _ _ => i₃
      walk_at "SPLIT"
      refine ⟨_, _, _, [(_, _)], rfl, F₃, turn_sub N₃ (.head _) (by walk_at "OWN"), Off.lt (by assumption) Off.nil, _, _, _, rfl, hm2, rfl, ?_⟩
      rw [flat_take hn]
      rw [List.append_assoc] at i₃)
    · rw [show esc n = [92, 110] from by unfold esc; rw [if_neg (by omega), if_pos (by omega)]]; exact i₃
    · rename _ = true => hin
      have hin' : n = 34 ∨ n = 92 := by simp at hin; omega
      rw [show esc n = [92, n] from by unfold esc; rw [if_pos hin']]; exact i₃
    · rename _ = false => hin
      have hin' : ¬ (n = 34 ∨ n = 92) := by simp at hin; omega
      rw [show esc n = [n] from by unfold esc; rw [if_neg hin', if_neg (by omega)]]; exact i₃
  · rintro m' news' h tk hJq F₁ N₁
    obtain ⟨r, vs', c, hm1, hm2, rfl, hi'⟩ := hJq
    rw [map_is hm1] at F₁
    rw [List.take_of_length_le (Nat.le_of_eq hi.length.symm)] at hi'
    have hlen := hi'.length
    have hz1 := flat_len esc_len ns
    clear F₀ N₀
    walk_at "S"
    rename IntsAre _ _ => hI₃
    rename Fr _ _ _ _ => F₃
    rename News _ _ _ _ => N₃
    refine hfin _ _ _ _ _ hI₃ (fun b o e => F₃.keep b o (hg b o e (fun n => nomatch n))) (fresh_back hg (N₃.fresh (.head _)) (fun n => nomatch n)) (N₃.get (.head _))
local macro_rules | `(tactic| walk_at "call ref") => ln_line "" false ``lawquoted_spec "*F X T d u hh l i z _" "LISTIN" "@FRESHED"
theorem table_make {w : World} {A : Around} {E : Value → Shared → Prop} {s : Shared} {h₀ : Heap} {L : Addr} {m mg mb : Str → Option Value} {mean : ExcName → Option Value} {news : List (Addr × Obj)}
    {nm : Str} {t : Tok} {p : Addr} {Q : Value → Shared → Prop}
    (F : Fr h₀ L s.heap m) (N : News h₀ L s.heap news) (X₀ : (hd.heap_1 w.params).In h₀) (T : Top headView (looseW headView [Str.ofString "EXACT"]) mean mg mb h₀)
    (hD : A.depth ≤ 600) (hU : A.units ≤ 2000)
    (hfin : ∀ x d D o t1 t2 t3 t4 n h' tk', Fr h₀ L h' m → News h₀ L h' ((D, o) :: (x, instObj 64 d) :: (d, dictOf [fld w "name" t1 (.str nm t), fld w "parents" t2 (.ref p), fld w "entries" t3 (.ref D), fld w "is_all_great" t4 (.bool false)] n) :: news) →
      (D == sysModules) = false → Obj.IsDictOf (PySem.strKind PySem.Challenge.rw_ok0052_01.row.prog w) o [] → @LT.lt Nat _ d x → @LT.lt Nat _ x D → AllLt d news → Q (.ref x) { s with heap := h', toks := tk' }) :
    wpAny (model PySem.Challenge.rw_ok0052_01.row.prog w) A (call (.ref 64) [.str nm t, .ref p]) Q E s := by
  revert X₀; k_fill; intro X₀
  refine' call_cls F X₀ N ?k4 ?k5 ?k6 ?_
  case k4 => k_is
  case k5 => k_is
  case k6 => k_is
  intro x d h' F' N' l1 l2
  have l4 := allLt_of l1
  clear F N
  refine' enterNR [(x, instObj 64 d), (d, dictOf [] 0)] [("self", .ref x), ("name", .str nm t), ("parents", .ref p)] F'.keep X₀ T ?kN ?k6 ?k7 ?k8 ?k9 ?kB ?_ ?c2 ?c3 ?c4 ?c5
  case kN =>
    intro q hq
    rcases List.mem_cons.mp hq with rfl | hq
    · exact ⟨N'.get (.head _), N'.fresh (.head _)⟩
    · rw [List.mem_singleton.mp hq]; exact ⟨N'.get (.tail _ (.head _)), N'.fresh (.tail _ (.head _))⟩
  case k8 => (simp only [recursionLimit, depth_under_make]; omega)
  walk_at "ENTER"
  intro g L' h₁ hg hL F₁ N₁ X₁ T₁
  try dsimp only
  have l3 := ltN l2
  walk_at "S"
  rename Fr _ _ _ _ => F₂
  rename News _ _ _ _ => N₂
  rename Obj.IsDictOf (PySem.strKind _ _) _ _ => hs₂
  rename _ = false => hy
  rename _ ∧ _ => l5
  refine ⟨rfl, ?_⟩
  have B := led_back (muts := [(x, instObj 64 d), (d, dictOf [] 0)]) (news := news) F' N' ?_ hg F₂ N₂
  · exact hfin x d _ _ _ _ _ _ _ _ _ B.1 B.2 hy hs₂ l3 l5.1 l4
  · intro q hq e
    have e1 := allLt_mem l4 q hq
    rcases List.mem_cons.mp e with e | e
    · rw [e] at e1; exact absurd (Nat.lt_trans e1 l3) (Nat.lt_irrefl _)
    · rw [List.mem_singleton.mp e] at e1; exact absurd e1 (Nat.lt_irrefl _)
local macro_rules | `(tactic| walk_at "call ref") => ln_line "call Value.ref=64 _ _" false ``table_make "F N X T d u _" "FN6" "x' d' D' o' t1' t2' t3' t4' n' h' tk' F' N' lo' hs' l' l1' l2'" [ln_lt2]
theorem abbrev_make {w : World} {A : Around} {E : Value → Shared → Prop} {s : Shared} {h₀ : Heap} {L : Addr} {m mg mb : Str → Option Value} {mean : ExcName → Option Value} {news : List (Addr × Obj)}
    {v1 v2 v3 : Value} {Q : Value → Shared → Prop}
    (F : Fr h₀ L s.heap m) (N : News h₀ L s.heap news) (X₀ : (hd.heap_1 w.params).In h₀) (T : Top headView (looseW headView [Str.ofString "EXACT"]) mean mg mb h₀)
    (hD : A.depth ≤ 600) (hU : A.units ≤ 2000)
    (hfin : ∀ x d t1 t2 t3 t4 t5 h' tk', Fr h₀ L h' m → News h₀ L h' ((x, instObj 43 d) :: (d, dictOf [fld w "word" t1 v1, fld w "codes" t2 v2, fld w "is_exact" t3 v3, fld w "used" t4 (.int 0 t5)] 4) :: news) →
      @LT.lt Nat _ d x → AllLt d news → Q (.ref x) { s with heap := h', toks := tk' }) :
    wpAny (model PySem.Challenge.rw_ok0052_01.row.prog w) A (call (.ref 43) [v1, v2, v3]) Q E s := by
  revert X₀; k_fill; intro X₀
  refine' call_cls F X₀ N ?k4 ?k5 ?k6 ?_
  case k4 => k_is
  case k5 => k_is
  case k6 => k_is
  intro x d h' F' N' l1 l2
  have l4 := allLt_of l1
  clear F N
  refine' enterNR [(x, instObj 43 d), (d, dictOf [] 0)] [("self", .ref x), ("word", v1), ("codes", v2), ("is_exact", v3)] F'.keep X₀ T ?kN ?k6 ?k7 ?k8 ?k9 ?kB ?_ ?c2 ?c3 ?c4 ?c5
  case kN =>
    intro q hq
    rcases List.mem_cons.mp hq with rfl | hq
    · exact ⟨N'.get (.head _), N'.fresh (.head _)⟩
    · rw [List.mem_singleton.mp hq]; exact ⟨N'.get (.tail _ (.head _)), N'.fresh (.tail _ (.head _))⟩
  case k8 => (simp only [recursionLimit, depth_under_make]; omega)
  walk_at "ENTER"
  intro g L' h₁ hg hL F₁ N₁ X₁ T₁
  try dsimp only
  have l3 := ltN l2
  walk_at "S"
  rename Fr _ _ _ _ => F₂
  rename News _ _ _ _ => N₂
  refine ⟨rfl, ?_⟩
  have B := led_back (muts := [(x, instObj 43 d), (d, dictOf [] 0)]) (news := news) F' N' ?_ hg F₂ N₂
  · exact hfin x d _ _ _ _ _ _ _ B.1 B.2 l3 l4
  · intro q hq e
    have e1 := allLt_mem l4 q hq
    rcases List.mem_cons.mp e with e | e
    · rw [e] at e1; exact absurd (Nat.lt_trans e1 l3) (Nat.lt_irrefl _)
    · rw [List.mem_singleton.mp e] at e1; exact absurd e1 (Nat.lt_irrefl _)
local macro_rules | `(tactic| walk_at "call ref") => ln_line "call Value.ref=43 _ _" false ``abbrev_make "F N X T d u _" "FN6" "x' d' t1' t2' t3' t4' t5' h' tk' F' N' l' l2'" [ln_lt2]
abbrev SK (w : World) : KeyKind PySem.Challenge.rw_ok0052_01.row.prog w Str := PySem.strKind PySem.Challenge.rw_ok0052_01.row.prog w
section
variable {prog : Program} {w : World} {K : Type} [DecidableEq K] {knd : KeyKind prog w K} {A : Around} {E : Value → Shared → Prop} {s : Shared} {h₀ : Heap} {L d : Addr} {m : Str → Option Value} {news : List (Addr × Obj)} {g : Obj → List (Addr × Obj)} {o : Obj} {kvs : List (K × Value)} {k : K} {key v : Value}
theorem pop_led {Q : Value → Shared → Prop} (F : Fr h₀ L s.heap m) (N : News h₀ L s.heap news) (U : UpdF d o news g) (hd : o.IsDictOf knd kvs) (hkey : knd.is k key = true) (hpart : (keyPart key).isSome = true) (hv : valueAt kvs k = some v) (hz : kvs.length ≤ sizeLine)
    (h : ∀ h' o', Fr h₀ L h' m → News h₀ L h' (g o') → o'.IsDictOf knd (without kvs k) → Q v { s with heap := h', toks := s.toks + 1 }) :
    wpAny (model prog w) A (call (.builtin "dict.pop") [.ref d, key]) Q E s := by
  obtain ⟨pre, post, rfl, hg, a, b⟩ := U.split
  have hm := N (d, o) (List.mem_append_right _ (.head _))
  have hD : s.heap.DictOf knd d kvs := Heap.dictOf_iff.mpr ⟨o, hm.1, hd⟩
  refine call_meetsIn PySem.F.slot_dict_pop hD.typeIs PySem.F.entry_dict_pop (PySem.F.args_dict_pop_2 _ _) (meets_dict_pop_there knd d hkey [] (.inl rfl) hpart) ⟨kvs, v, hD, hz, hv, fun h' hmm hs => ?_⟩
  obtain ⟨o', ho', hd'⟩ := Heap.dictOf_iff.mp hmm
  exact h h' o' (F.change hs hm.2.1 hm.2.2) (hg o' ▸ N.setIn a b hs ho') hd'
theorem without_none (h : valueAt kvs k = none) : without kvs k = kvs := by
  refine without_of_not_mem kvs k fun hm => ?_
  obtain ⟨p, hp, e⟩ := List.mem_map.mp hm
  unfold valueAt at h
  rw [Option.map_eq_none_iff, List.find?_eq_none] at h
  have := h p hp
  rw [e] at this
  simp at this
theorem without_len : (without kvs k).length ≤ kvs.length := List.length_filter_le _ _
end
/-! a for over a tuple -/
section
variable {prog : Program} {w : World} {A : Around} {env : Env} {E : Value → Shared → Prop} {s₁ : Shared} {h₀ : Heap} {x : Str} {body : List Stmt} {Q : Flow → Shared → Prop}
theorem for_tuple {l L : Addr} {vs : List Value} {m : Str → Option Value} {news : List (Addr × Obj)} (J : Nat → (Str → Option Value) → List (Addr × Obj) → Prop)
    (hLe : env.locals = L) (hh : A.handled = none) (hl : s₁.heap.IsTuple l vs.toArray) (hlL : l ≠ L) (F : Fr h₀ L s₁.heap m) (N : News h₀ L s₁.heap news) (hln : ∀ p ∈ news, p.1 ≠ l) (h0 : J 0 m news)
    (turn : ∀ i v m₁ news₁ h tk own s₂, s₂ = { s₁ with heap := h, toks := tk } → vs[i]? = some v → J i m₁ news₁ → Off news₁ own → Fr h₀ L h (fun y => if y = x then some v else m₁ y) → News h₀ L h (news₁ ++ own) →
      wpAny (model prog w) A (execs body env) (TurnEnd h₀ L s₁ own (J (i + 1)) Q) E s₂)
    (done : ∀ m' news' h tk, J vs.length m' news' → Fr h₀ L h m' → News h₀ L h news' → Q .next { s₁ with heap := h, toks := tk }) :
    wpAny (model prog w) A (pyIter (.ref l)) (fun it s₂ => LoopAtV prog w A h₀ env x body Q E it s₂) E s₁ := by
  subst hLe
  obtain ⟨ol, hol, hol'⟩ := id hl
  have hlt : l < s₁.heap.objs.size := Heap.lt_size hol
  refine wpAny_pyIter_tuple hl ?_
  have hsm : ∀ b o, s₁.heap.get? b = some o → b ≠ s₁.heap.objs.size := fun b o e => Nat.ne_of_lt (Heap.lt_size e)
  have hF := F.push { cls := .type "tuple_iterator", data := .fields #[.ref l, .int 0 0] }
  refine for_walk (Walks.tuple hh s₁.heap.objs.size l (Nat.ne_of_lt hlt) vs.toArray) ?_ ?_ ?_ J
    ⟨⟨_, Heap.get?_push_size _ rfl, rfl, rfl⟩, hl.at fun o e => Heap.get?_push_of_some _ e⟩ hF (fun p hp => ⟨Heap.get?_push_of_some _ (N p hp).1, (N p hp).2⟩) ?_ h0 ?_ ?_
  · rintro i h ⟨⟨o, ho, _⟩, ⟨o', ho', _⟩⟩ b hb
    rcases List.mem_cons.mp hb with rfl | hb
    · exact ⟨o, ho⟩
    · rcases List.mem_cons.mp hb with rfl | hb
      · exact ⟨o', ho'⟩
      · cases hb
  · intro b hb
    rw [List.mem_singleton.mp hb]
    cases e : h₀.get? s₁.heap.objs.size with
    | none => rfl
    | some o => exact absurd rfl (hsm _ _ (F.keep _ _ e))
  · intro hm
    rcases List.mem_cons.mp hm with e | hm
    · exact absurd F.ns.lt (e ▸ Nat.lt_irrefl _)
    · exact hlL (List.mem_singleton.mp hm).symm
  · intro p hp hm
    rcases List.mem_cons.mp hm with e | hm
    · exact hsm _ _ (N p hp).1 e
    · exact hln p hp (List.mem_singleton.mp hm)
  · intro i v m₁ news₁ h tk own hi hP hJ hoff F₁ N₁
    exact turn i v m₁ news₁ h tk own _ rfl (by simpa using hP) hJ hoff F₁ N₁
  · intro m' news' h tk hJ F' N'
    rw [List.size_toArray] at hJ
    exact done m' news' h tk hJ F' N'
end
section
variable {prog : Program} {w : World} {A : Around} {E : Value → Shared → Prop} {s : Shared} {h₀ : Heap} {L d : Addr} {m : Str → Option Value} {news : List (Addr × Obj)} {g : Obj → List (Addr × Obj)} {o : Obj} {kvs : List (Str × Value)} {x : Str} {t : Tok} {v : Value}
theorem kda_inS {Q : Value → Shared → Prop} (N : News h₀ L s.heap news) (hp : (d, o) ∈ news) (hd : o.IsDictOf (PySem.strKind prog w) kvs) (lo : (d == sysModules) = false) (h : Q (.bool (valueAt kvs x).isSome) { s with toks := s.toks + 1 }) :
    wpAny (model prog w) A (compareOp .In (.str x t) (.ref d)) Q E s := kda_in N hp hd lo (strKind_is _ _ _ _) _ rfl h
theorem kda_setS {Q : Unit → Shared → Prop} (F : Fr h₀ L s.heap m) (N : News h₀ L s.heap news) (U : UpdF d o news g) (hd : o.IsDictOf (PySem.strKind prog w) kvs) (hz : kvs.length ≤ 16777216)
    (h : ∀ h' o', Fr h₀ L h' m → News h₀ L h' (g o') → o'.IsDictOf (PySem.strKind prog w) (stored kvs x v) → Q () { s with heap := h', toks := s.toks + 1 }) : wpAny (model prog w) A (setItem (.ref d) (.str x t) v) Q E s :=
  kda_set F N U hd (strKind_is _ _ _ _) (by rw [sizeLine_eq]; exact hz) h
end
local macro_rules | `(tactic| walk_at "compareOp In str ref") => ln_line "compareOp CmpOp.In Value.str:2 Value.ref:1" true ``kda_inS "N hp hd lo _" "N:k hp:m hd:a lo:a" ""
local macro_rules | `(tactic| walk_at "setItem ref str") => ln_line "setItem Value.ref:1 Value.str:2 _" true ``kda_setS "F N U hd z _" "F:k N:k U:U hd:a z:o W" "h' o' F' N' hd'"
/-- the table's own two objects, which nothing turns -/
structure TabHere (w : World) (V : Heap) (t D : Addr) : Prop where
  ex : ∃ td nm tn p t1 t2 t3 t4 n, V.get? t = some (instObj 64 td) ∧ V.get? td = some (dictOf [fld w "name" t1 (.str nm tn), fld w "parents" t2 (.ref p), fld w "entries" t3 (.ref D), fld w "is_all_great" t4 (.bool false)] n)
theorem TabHere.grow {w : World} {V V' : Heap} {t D : Addr} (h : TabHere w V t D) (g : Grow V V') : TabHere w V' t D :=
  let ⟨td, nm, tn, p, t1, t2, t3, t4, n, a, b⟩ := h.ex; ⟨td, nm, tn, p, t1, t2, t3, t4, n, g _ _ a, g _ _ b⟩

theorem forget_spec {w : World} {A : Around} {E : Value → Shared → Prop} {s : Shared} {V : Heap} {mg mb : Str → Option Value} {mean : ExcName → Option Value}
    {t D l : Addr} {o : Obj} {kvs : List (Str × Value)} {vs : List Value} {ns : List Int} {Q : Value → Shared → Prop}
    (hV : Grow V s.heap) (X₀ : (hd.heap_1 w.params).In V) (T : Top headView (looseW headView [Str.ofString "EXACT"]) mean mg mb V)
    (hD : A.depth ≤ 570) (hU : A.units ≤ 1800) (hh : A.handled = none) (ht : TabHere w V t D) (hDs : s.heap.get? D = some o) (hDV : V.get? D = none) (hdo : o.IsDictOf (SK w) kvs) (lo : (D == sysModules) = false) (hk : kvs.length ≤ 1000)
    (hl : V.IsList l vs.toArray) (hi : IntsAre vs ns) (hz : ns.length ≤ 100) (hb : ∀ n ∈ ns, 0 ≤ n ∧ n ≤ 5000)
    (hfin : ∀ o' h' tk', o'.IsDictOf (SK w) (without (without kvs (keyOf ns)) (keyOf (ns.map dc))) → Past s.heap [D] h' → h'.get? D = some o' → Q .none { s with heap := h', toks := tk' }) :
    wpAny (model PySem.Challenge.rw_ok0052_01.row.prog w) A (call (.ref 87) [.ref t, .ref l]) Q E s := by
  revert X₀; k_fill; intro X₀
  refine wpAny_call ?_
  refine' enterNR [(D, o)] [("table", .ref t), ("word", .ref l)] hV X₀ T (fun p hp => by rw [List.mem_singleton.mp hp]; exact ⟨hDs, hDV⟩) ?k6 ?k7 ?k8 ?k9 ?kB ?_ ?c2 ?c3 ?c4 ?c5
  walk_at "ENTER"
  intro g L' h₁ hg hL F' N' X' T'
  try dsimp only
  have hVg : Grow V g := grow_hide hV hDV hg
  obtain ⟨td, nm, tn, p, t1, t2, t3, t4, n, ht1, ht2⟩ := (ht.grow hVg).ex
  have hlg : g.IsList l vs.toArray := hl.at fun o e => hVg _ _ e
  walk_at "S"
  have hb1 : ∀ n ∈ ns, 0 ≤ n ∧ n ≤ 10000 := fun n hn => by have := hb n hn; omega
  have hb2 : ∀ n ∈ ns.map dc, 0 ≤ n ∧ n ≤ 10000 := fun n hn => by
    obtain ⟨k, hk, rfl⟩ := List.mem_map.mp hn
    have := hb k hk
    unfold dc; split <;> omega
  refine For_invV g rfl rfl ?_ (hE := PassesOwn.never)
  walk_at "S"
  rename _ = keyOf (ns.map dc) => e2
  rename _ = keyOf ns => e1
  subst e1 e2
  rename Fr _ _ _ _ => F₀
  rename News _ _ _ _ => N₀
  rename _ ∧ _ => l1
  have htup := N₀.get (.head _)
  have hDo := news_sub (xs := [(D, o)]) N₀ (fun p hp => by rw [List.mem_singleton.mp hp]; k_mem)
  refine for_tuple (fun i m news => ∃ o', m "table" = some (.ref t) ∧ news = [(D, o')] ∧ o'.IsDictOf (SK w) (([keyOf ns, keyOf (ns.map dc)].take i).foldl without kvs))
    rfl hh ⟨_, htup, rfl, 0, rfl⟩ (N₀ _ (.head _)).2.1 F₀ hDo (fun p hp => by rw [List.mem_singleton.mp hp]; exact Nat.ne_of_lt l1.2) ⟨o, rfl, rfl, hdo⟩ ?_ ?_
  · rintro i v m₁ news₁ h tk own s₂ rfl hv hJq hoff F₁ N₁
    obtain ⟨o', hm1, rfl, hd'⟩ := hJq
    have hks : ∃ k tt, v = .str k tt ∧ [keyOf ns, keyOf (ns.map dc)][i]? = some k := by
      match i, hv with
      | 0, hv => exact ⟨_, _, (Option.some.inj hv).symm, rfl⟩
      | 1, hv => exact ⟨_, _, (Option.some.inj hv).symm, rfl⟩
      | i + 2, hv => cases hv
    obtain ⟨k, tt, rfl, hk'⟩ := hks
    have hacc : ([keyOf ns, keyOf (ns.map dc)].take (i + 1)).foldl without kvs = without (([keyOf ns, keyOf (ns.map dc)].take i).foldl without kvs) k := by
      rw [List.take_add_one, hk']; simp
    have hlen : (([keyOf ns, keyOf (ns.map dc)].take i).foldl without kvs).length ≤ kvs.length := by
      match i, hv with
      | 0, hv => exact Nat.le_refl _
      | 1, hv => exact without_len
      | i + 2, hv => cases hv
    rw [hacc]
    generalize ([keyOf ns, keyOf (ns.map dc)].take i).foldl without kvs = cur at *
    rw [map_is hm1] at F₁
    simp only [List.cons_append, List.nil_append] at N₁
    have ho1 := hoff.ne
    clear F₀ N₀ htup hDo
    walk_at "S"
    · rename Fr _ _ _ _ => F₃
      rename News _ _ _ _ => N₃
      rename _ = true => hin
      obtain ⟨v, hv'⟩ := Option.isSome_iff_exists.mp hin
      refine' pop_led F₃ N₃ ?U hd' (strKind_is _ _ _ _) rfl hv' ?z ?_
      case U => k_updF
      case z => rw [sizeLine_eq]; omega
      intro h' o' F₄ N₄ hd4
      clear F₃ N₃
      walk_at "S"
      refine ⟨_, _, _, [(D, _)], rfl, F₄, N₄, hoff.to Off.nil, o', rfl, rfl, hd4⟩
    · rename Fr _ _ _ _ => F₃
      rename News _ _ _ _ => N₃
      rename _ = false => hin
      refine ⟨_, _, _, [(D, _)], rfl, F₃, N₃, hoff.to Off.nil, o', rfl, rfl, ?_⟩
      rw [without_none (by simpa using hin)]
      exact hd'
  · rintro m' news' h tk hJq F₁ N₁
    obtain ⟨o', hm1, rfl, hd'⟩ := hJq
    clear F₀ N₀ htup hDo
    walk_at "S"
    refine hfin o' _ _ hd' (fun b ob e n => F₁.keep b ob (hg b ob e (by simpa using n))) (N₁.get (.head _))

theorem forget_led {w : World} {A : Around} {E : Value → Shared → Prop} {s : Shared} {h₀ : Heap} {L : Addr} {m mg mb : Str → Option Value} {mean : ExcName → Option Value} {news : List (Addr × Obj)} {u : Obj → List (Addr × Obj)}
    {t D l : Addr} {o : Obj} {kvs : List (Str × Value)} {vs : List Value} {ns : List Int} {Q : Value → Shared → Prop}
    (F : Fr h₀ L s.heap m) (N : News h₀ L s.heap news) (X₀ : (hd.heap_1 w.params).In h₀) (T : Top headView (looseW headView [Str.ofString "EXACT"]) mean mg mb h₀)
    (hD : A.depth ≤ 570) (hU : A.units ≤ 1800) (hh : A.handled = none) (ht : TabHere w h₀ t D) (U : UpdF D o news u) (hdo : o.IsDictOf (SK w) kvs) (lo : (D == sysModules) = false) (hk : kvs.length ≤ 1000)
    (hl : h₀.IsList l vs.toArray) (hi : IntsAre vs ns) (hz : ns.length ≤ 100) (hb : ∀ n ∈ ns, 0 ≤ n ∧ n ≤ 5000)
    (hfin : ∀ o' h' tk', Fr h₀ L h' m → News h₀ L h' (u o') → o'.IsDictOf (SK w) (without (without kvs (keyOf ns)) (keyOf (ns.map dc))) → Q .none { s with heap := h', toks := tk' }) :
    wpAny (model PySem.Challenge.rw_ok0052_01.row.prog w) A (call (.ref 87) [.ref t, .ref l]) Q E s := by
  have hm : (D, o) ∈ news := by
    obtain ⟨pre, post, rfl, _, _, _⟩ := U.split
    exact List.mem_append_right _ (.head _)
  have z := N _ hm
  refine forget_spec F.keep X₀ T hD hU hh ht z.1 z.2.2 hdo lo hk hl hi hz hb fun o' h' tk' a b c => ?_
  obtain ⟨F', N'⟩ := led_past F N U b c
  exact hfin o' h' tk' F' N' a
local macro_rules | `(tactic| walk_at "call ref") => ln_line "call Value.ref=87 _ _" true ``forget_led "F N X T d u hh t U o lo k l i z b _" "FN6 hh:a t:a U:U o:a lo:a k:o l:a i:a z:o b:a" "o' h' tk' F' N' hd'"
structure Row where
  word : List Int
  used : Int
  codes : List Int
  exact : Bool
inductive EntryV (w : World) (P : Addr → Obj → Prop) (d : Addr) (x : Addr) (r : Row) : Prop
  | mk (lo lc : Addr) (lvs lcs : List Value) (t1 t2 t3 t4 t5 : Tok) (c1 c2 : Nat) (h1 : P x (instObj 43 d)) (h2 : P d (dictOf [fld w "word" t1 (.ref lo), fld w "codes" t2 (.ref lc), fld w "is_exact" t3 (.bool r.exact), fld w "used" t4 (.int r.used t5)] 4)) (h3 : P lo (listOf lvs.toArray c1)) (h4 : P lc (listOf lcs.toArray c2)) (h5 : IntsAre lvs r.word) (h6 : IntsAre lcs r.codes)
theorem EntryV.mono {w : World} {P P' : Addr → Obj → Prop} {d x : Addr} {r : Row} (h : EntryV w P d x r) (hp : ∀ a o, P a o → P' a o) : EntryV w P' d x r := by
  obtain ⟨lo, lc, lvs, lcs, t1, t2, t3, t4, t5, c1, c2, a, b, c, e, f, g⟩ := h
  exact ⟨lo, lc, lvs, lcs, t1, t2, t3, t4, t5, c1, c2, hp _ _ a, hp _ _ b, hp _ _ c, hp _ _ e, f, g⟩
def HV (h : Heap) : Addr → Obj → Prop := fun a o => h.get? a = some o
/-! an exception of an own class with a dict of its own, on its way up -/
inductive TrD (B : Heap) (e d : Addr) (C : Addr) (fl : Value) (h : Heap) : Prop
  | mk (oe : Obj) (vs : Array Value) (T : Addr) (oT : Obj) (ts : Array Value) (h1 : h.get? e = some oe) (h2 : oe.cls = .ref C) (h3 : oe.dict = some d) (h4 : oe.data = .fields vs) (h5 : vs[1]? = some (.ref T)) (h6 : B.get? T = none) (h7 : T ≠ e) (h8 : h.get? T = some oT) (h9 : oT.data = .fields ts) (h10 : ts[3]? = some fl) (h11 : vs[2]? = some .none)
def FlyD (B : Heap) (l : List Env) (e d C : Addr) (fl : Value) (h : Heap) : Prop := B.StaysIn h ∧ B.get? e = none ∧ h.FunFrames B l ∧ TrD B e d C fl h
theorem dict_mapFields (o : Obj) (f : Array Value → Array Value) : (Obj.mapFields f o).dict = o.dict := by
  obtain ⟨c, d, dt, sl⟩ := o
  cases dt <;> rfl

section
variable {M : Model} {A : Around} {E : Value → Shared → Prop} {s : Shared} {B : Heap} {env : Env} {outer : List Env} {L e d C : Addr}
theorem fly_setNone {l : List Env} {fl : Value} {Q : Unit → Shared → Prop} (x : FlyD B l e d C fl s.heap) (h : ∀ h', FlyD B l e d C .none h' → s.heap.UpToSlots h' → Q () { s with heap := h' }) : wpAny M A (setFlight (.ref e) none) Q E s := by
  obtain ⟨hkb, hen, hl, oe, vs, T, oT, ts, he, hc, hdd, hd, h1, hnT, hTe, hT, hdT, h3, hv2⟩ := x
  have hsz3 : 3 < ts.size := (Array.getElem?_eq_some_iff.mp h3).1
  have other : ∀ b, b ≠ T → (s.heap.update T (Obj.mapFields (·.setIfInBounds 3 ((none : Option Addr).elim Value.none fun f => rawInt f)))).get? b = s.heap.get? b :=
    fun b hb => Heap.get?_update_other _ _ (Ne.symm hb)
  have noRecord : ∀ b o, s.heap.get? b = some o → (∀ vs, o.data ≠ .fields vs) → b ≠ T := fun b o hb hnf q => by
    rw [q, hT] at hb; injection hb with hb; subst hb; exact hnf ts hdT
  unfold setFlight
  refine wpAny_bind (wpAny_field he hd h1 ?_)
  rw [if_pos (show (Value.ref T != Value.none) = true from by simp)]
  refine wpAny_setField hT hdT hsz3 (h _ ⟨fun b o hbo => (other b fun q => by rw [q, hnT] at hbo; cases hbo).trans (hkb b o hbo), hen,
    hl.of_keeps fun b o hb hnf => ⟨o, (other b (noRecord b o hb hnf)).trans hb, rfl⟩, ?_⟩ fun b o hb hnf => ⟨o.slots, (other b (noRecord b o hb hnf)).trans hb⟩)
  exact ⟨oe, vs, T, _, _, (other e (Ne.symm hTe)).trans he, hc, hdd, hd, h1, hnT, hTe, Heap.get?_update_self _ hT (Obj.isFreed_of_fields (Obj.data_mapFields hdT _)), Obj.data_mapFields hdT _, by simp [hsz3], hv2⟩

theorem fly_entry {oe : Obj} {vs : Array Value} {head : Value} {hadNext : Bool} {Q : Unit → Shared → Prop}
    (hfr : A.frames = some (env :: outer)) (hl : s.heap.FunFrames B (env :: outer)) (hf : env.frame = some L)
    (he : s.heap.get? e = some oe) (hc : oe.cls = .ref C) (hdd : oe.dict = some d) (hkb : B.StaysIn s.heap) (hen : B.get? e = none) (hd : oe.data = .fields vs) (hsz : 1 < vs.size) (hv2 : vs[2]? = some .none)
    (h : ∀ h', FlyD B (env :: outer) e d C (rawInt L) h' → s.heap.UpToSlots h' → Q () { s with heap := h' }) :
    wpAny M A (do let a ← frameOf env; let pl ← entryPlaceOf L hadNext; let b ← EntryCells.newEntry head a .none (rawInt L) .none pl; setField (.ref e) 1 b) Q E s := by
  have hene : e ∉ (env :: outer).filterMap (·.frame) := fun hm => by
    obtain ⟨_, o, ho, hnf⟩ := hl.mem hm
    rw [he] at ho; injection ho with ho; subst ho; exact hnf vs hd
  refine wpAny_bind (wpAny_frameOf_fun hfr hl hf fun h₁ hs₁ => ?_)
  refine wpAny_bind (wpAny_entryPlaceOf fun pl hpl => ?_)
  unfold EntryCells.newEntry newFields
  refine wpAny_bind (wpAny_newObj_type ?_ (hpl.sizeOk5 _ _ _ _ _))
  have he₁ : h₁.get? e = some oe := (hs₁.2.1 e hene).trans he
  have kb₁ : B.StaysIn h₁ := fun b o hbo => (hs₁.2.1 b fun hm => by rw [(hl.mem hm).1] at hbo; cases hbo).trans (hkb b o hbo)
  generalize hfs : (([head, .ref L, .none, rawInt L, .none] : List Value) ++ (if pl.isEmpty then List.replicate 6 Value.none else pl)).toArray = fs
  have hf3 : fs[3]? = some (rawInt L) := by rw [← hfs]; rcases hpl with rfl | ⟨_, _, _, _, _, _, _, rfl⟩ <;> simp
  have he₂ := Heap.get?_push_of_some (h := h₁) { cls := .type "traceback", dict := none, data := .fields fs } he₁
  refine wpAny_setField he₂ hd hsz (h _ ?_ ?_)
  all_goals (
    have hTe : h₁.objs.size ≠ e := Nat.ne_of_gt (Heap.lt_size he₁)
    have keep : ∀ b o, b ≠ e → h₁.get? b = some o → ((h₁.push { cls := .type "traceback", dict := none, data := .fields fs }).update e (Obj.mapFields (·.setIfInBounds 1 (Value.ref h₁.objs.size)))).get? b = some o :=
      fun b o hbe hb => by
        rw [Heap.get?_update_other _ _ (Ne.symm hbe)]
        exact Heap.get?_push_of_some _ hb
    have noRecord : ∀ b o, s.heap.get? b = some o → (∀ vs, o.data ≠ .fields vs) → b ≠ e := fun b o hb hnf q => by
      rw [q, he] at hb; injection hb with hb; subst hb; exact hnf vs hd)
  · have hd₃ := Obj.data_mapFields hd (·.setIfInBounds 1 (Value.ref h₁.objs.size))
    have he₃ := Heap.get?_update_self (Obj.mapFields (·.setIfInBounds 1 (Value.ref h₁.objs.size))) he₂ (Obj.isFreed_of_fields hd₃)
    have hT₃ := (Heap.get?_update_other (h₁.push { cls := .type "traceback", dict := none, data := .fields fs }) (Obj.mapFields (·.setIfInBounds 1 (Value.ref h₁.objs.size))) (Ne.symm hTe)).trans (Heap.get?_push_size h₁ rfl)
    refine ⟨fun b o hbo => keep b o (fun q => by rw [q, hen] at hbo; cases hbo) (kb₁ b o hbo), hen, hl.of_keeps fun b o hb hnf => ?_, ?_⟩
    · obtain ⟨sl, hs⟩ := hs₁.2.2 b o hb
      exact ⟨_, keep b _ (noRecord b o hb hnf) hs, rfl⟩
    · exact ⟨_, _, h₁.objs.size, _, _, he₃, (Obj.cls_mapFields _ _).trans hc, (dict_mapFields _ _).trans hdd, hd₃, by simp [hsz], kb₁.fresh, hTe, hT₃, rfl, hf3, by simp [hv2]⟩
  · intro b o hb hnf
    obtain ⟨sl, hs⟩ := hs₁.2.2 b o hb
    exact ⟨sl, keep b _ (noRecord b o hb hnf) hs⟩

/-- a frame looks at it: the first one -/
theorem fly_note_first {oe : Obj} {vs : Array Value} {Q : Unit → Shared → Prop}
    (hfr : A.frames = some (env :: outer)) (hl : s.heap.FunFrames B (env :: outer)) (hf : env.frame = some L)
    (he : s.heap.get? e = some oe) (hc : oe.cls = .ref C) (hdd : oe.dict = some d) (hkb : B.StaysIn s.heap) (hen : B.get? e = none) (hd : oe.data = .fields vs) (h1 : vs[1]? = some .none) (hv2 : vs[2]? = some .none)
    (h : ∀ h', FlyD B (env :: outer) e d C (rawInt L) h' → s.heap.UpToSlots h' → Q () { s with heap := h' }) : wpAny M A (noteFrame (.ref e) env) Q E s := by
  unfold noteFrame
  simp only [hf]
  refine wpAny_bind (wpAny_field he hd h1 ?_)
  rw [if_neg (by decide)]
  exact fly_entry hfr hl hf he hc hdd hkb hen hd (Array.getElem?_eq_some_iff.mp h1).1 hv2 h
/-- a later one -/
theorem fly_note_next {Q : Unit → Shared → Prop} (hfr : A.frames = some (env :: outer)) (hf : env.frame = some L) (x : FlyD B (env :: outer) e d C .none s.heap)
    (h : ∀ h', FlyD B (env :: outer) e d C (rawInt L) h' → s.heap.UpToSlots h' → Q () { s with heap := h' }) : wpAny M A (noteFrame (.ref e) env) Q E s := by
  obtain ⟨hkb, hen, hl, oe, vs, T, oT, ts, he, hc, hdd, hd, h1, hnT, hTe, hT, hdT, h3, hv2⟩ := x
  unfold noteFrame
  simp only [hf]
  refine wpAny_bind (wpAny_field he hd h1 ?_)
  rw [if_pos (show (Value.ref T != Value.none) = true from by simp)]
  refine wpAny_bind (wpAny_field hT hdT h3 ?_)
  rw [if_neg (show ¬ ((Value.none == rawInt L) = true) from by simp [rawInt])]
  refine wpAny_bind (wpAny_setField hT hdT (Array.getElem?_eq_some_iff.mp h3).1 ?_)
  have other : ∀ b, b ≠ T → (s.heap.update T (Obj.mapFields (·.setIfInBounds 3 Value.none))).get? b = s.heap.get? b := fun b hb => Heap.get?_update_other _ _ (Ne.symm hb)
  have noRecord : ∀ b o, s.heap.get? b = some o → (∀ vs, o.data ≠ .fields vs) → b ≠ T := fun b o hb hnf q => by
    rw [q, hT] at hb; injection hb with hb; subst hb; exact hnf ts hdT
  exact fly_entry hfr (hl.of_keeps fun b o hb hnf => ⟨o, (other b (noRecord b o hb hnf)).trans hb, rfl⟩) hf ((other e (Ne.symm hTe)).trans he) hc hdd
    (fun b o hbo => (other b fun q => by rw [q, hnT] at hbo; cases hbo).trans (hkb b o hbo)) hen hd (Array.getElem?_eq_some_iff.mp h1).1 hv2
    fun h' x1 x4 => h h' x1 fun b o hb hnf => x4 b o ((other b (noRecord b o hb hnf)).trans hb) hnf
/-- the same frame again -/
theorem FlyD.tail {fl : Value} {h : Heap} (x : FlyD B (env :: outer) e d C fl h) : FlyD B outer e d C fl h := ⟨x.1, x.2.1, x.2.2.1.2.2, x.2.2.2⟩
theorem fly_leave_first {oe : Obj} {vs : Array Value} {Q : Unit → Shared → Prop}
    (hfr : A.frames = some (env :: outer)) (hl : s.heap.FunFrames B (env :: outer)) (hf : env.frame = some L)
    (he : s.heap.get? e = some oe) (hc : oe.cls = .ref C) (hdd : oe.dict = some d) (hkb : B.StaysIn s.heap) (hen : B.get? e = none) (hd : oe.data = .fields vs) (h1 : vs[1]? = some .none) (hv2 : vs[2]? = some .none)
    (h : ∀ h', FlyD B outer e d C .none h' → s.heap.UpToSlots h' → Q () { s with heap := h' }) : wpAny M A (leaving env (.ref e)) Q E s := by
  unfold leaving
  exact wpAny_bind (fly_note_first hfr hl hf he hc hdd hkb hen hd h1 hv2 fun h' x u => fly_setNone x fun h'' y v => h h'' y.tail (u.trans v))
theorem fly_leave_next {Q : Unit → Shared → Prop} (hfr : A.frames = some (env :: outer)) (hf : env.frame = some L) (x : FlyD B (env :: outer) e d C .none s.heap)
    (h : ∀ h', FlyD B outer e d C .none h' → s.heap.UpToSlots h' → Q () { s with heap := h' }) : wpAny M A (leaving env (.ref e)) Q E s := by
  unfold leaving
  exact wpAny_bind (fly_note_next hfr hf x fun h' x u => fly_setNone x fun h'' y v => h h'' y.tail (u.trans v))
end
/-- what stands below: the heap of the caller, and one frame of the stack whose names are known -/
structure Bs where
  heap : Heap
  at_ : Addr
  mm : Str → Option Value
/-- LispSignal («error», ..) on its way out of the frames; what stands in base stands -/
inductive Raised (base : Bs) (outer : List Env) (h : Heap) (e : Addr) : Prop
  | mk (B : Heap) (d : Addr) (mA : Str → Option Value) (t : Tok) (h1 : Grow base.heap B) (h2 : FlyD B outer e d 104 .none h) (h3 : d ≠ e) (h4 : B.Ns1 d mA) (h5 : mA "symbol" = some (.str "error" t)) (h6 : h.Ns base.at_ base.mm)
theorem raised_leave {M : Model} {A : Around} {E : Value → Shared → Prop} {s : Shared} {base : Bs} {env : Env} {outer : List Env} {L e : Addr} {Q : Unit → Shared → Prop}
    (hfr : A.frames = some (env :: outer)) (hf : env.frame = some L) (x : Raised base (env :: outer) s.heap e) (h : ∀ h', Raised base outer h' e → Q () { s with heap := h' }) : wpAny M A (leaving env (.ref e)) Q E s := by
  obtain ⟨B, d, mA, t, h1, h2, h3, h4, h5, h6⟩ := x
  exact fly_leave_next hfr hf h2 fun h' y up => h h' ⟨B, d, mA, t, h1, y, h3, h4, h5, up.ns h6⟩
structure BelowB (A : Around) (base : Bs) (outer : List Env) (h : Heap) : Prop where
  b : Below A base.heap outer h
  mem : base.at_ ∈ outer.filterMap (·.frame)
  on : h.Ns base.at_ base.mm
structure BelowM (A : Around) (base : Bs) (outer : List Env) (muts : List (Addr × Obj)) (h : Heap) : Prop where
  k : BelowB A base outer h
  apart : ∀ p ∈ muts, p.1 ∉ outer.filterMap (·.frame) ∧ base.heap.get? p.1 = none
theorem funFrames_to {h g base : Heap} : ∀ {l : List Env}, h.FunFrames base l → (∀ b ∈ l.filterMap (·.frame), ∀ o, h.get? b = some o → g.get? b = some o) → g.FunFrames base l
  | [], _, _ => trivial
  | env :: r, ⟨hk, ⟨L, o, hf, hn, ho, hd⟩, hr⟩, hin => by
    rw [List.filterMap_cons, hf] at hin
    exact ⟨hk, ⟨L, o, hf, hn, hin L (.head _) o ho, hd⟩, funFrames_to hr fun b hb => hin b (.tail _ hb)⟩
theorem below_law {A : Around} {base g h : Heap} {outer : List Env} {L a : Addr} {m : Str → Option Value} {name : Str} {scope : Scope} {cd : Value} {news : List (Addr × Obj)} (K : Below A base outer g) (F : Fr g L h m) (N : News g L h news)
    (hk : scope.kind = .function := by rfl) : BelowM (A.deeper (envOf name scope L a cd)) ⟨base, L, m⟩ (envOf name scope L a cd :: outer) news h := by
  refine ⟨⟨K.push F hk, by rw [List.filterMap_cons]; exact .head _, F.ns⟩, fun p hp => ⟨fun hm => ?_, fresh_of_stays K.stays (N p hp).2.2⟩⟩
  obtain ⟨env, he, hf⟩ := List.mem_filterMap.mp hm
  rcases List.mem_cons.mp he with rfl | he
  · exact (N p hp).2.1 (Option.some.inj hf).symm
  · obtain ⟨o, ho, _⟩ := (K.frames.mem (List.mem_filterMap.mpr ⟨env, he, hf⟩)).2
    rw [(N p hp).2.2] at ho; cases ho
theorem below_push {A : Around} {base : Bs} {g h : Heap} {outer : List Env} {L a : Addr} {m : Str → Option Value} {name : Str} {scope : Scope} {cd : Value} {news : List (Addr × Obj)} (K : BelowB A base outer g) (F : Fr g L h m) (N : News g L h news)
    (hk : scope.kind = .function := by rfl) : BelowM (A.deeper (envOf name scope L a cd)) base (envOf name scope L a cd :: outer) news h := by
  refine ⟨⟨K.b.push F hk, ?_, K.on.at' (F.keep _)⟩, (below_law K.b F N hk).apart⟩
  obtain ⟨env, he, hf⟩ := List.mem_filterMap.mp K.mem
  exact List.mem_filterMap.mpr ⟨env, .tail _ he, hf⟩
theorem below_enter {A : Around} {base : Bs} {s g : Heap} {outer : List Env} {muts : List (Addr × Obj)} (K : BelowM A base outer muts s) (hg : ∀ b o, s.get? b = some o → b ∉ muts.map (·.1) → g.get? b = some o) : BelowB A base outer g := by
  have hX : ∀ b, b ∈ outer.filterMap (·.frame) → b ∉ muts.map (·.1) := fun b hb hm => by
    obtain ⟨p, hp, rfl⟩ := List.mem_map.mp hm
    exact (K.apart p hp).1 hb
  refine ⟨⟨K.k.b.stack, fun b o e => hg b o (K.k.b.stays b o e) fun hm => ?_, funFrames_to K.k.b.frames fun b hb o e => hg b o e (hX b hb)⟩, K.k.mem, K.k.on.at' fun o e => hg _ o e (hX _ K.k.mem)⟩
  obtain ⟨p, hp, rfl⟩ := List.mem_map.mp hm
  rw [(K.apart p hp).2] at e; cases e

theorem enterR0 {prog : Program} {w : World} {A : Around} {s : Shared} {V : Heap} {base : Bs} {outer : List Env} {mg mb : Str → Option Value} (muts : List (Addr × Obj)) {K : Frag}
    {p : Program} {loose : List Str} {mean : ExcName → Option Value}
    {R : Result → Shared → Prop} {name qual : Str} {params : Arguments} {body : List Stmt} {scope : Scope} {dV kV doc pm cdv ct oc : Value} {an od : Option Addr} {osl : Array (Option Value)} {f : Addr} {args : Args} (binds : List (Str × Value))
    (hV : Grow V s.heap) (X₀ : K.In V) (T : Top p loose mean mg mb V) (N : ∀ p ∈ muts, s.heap.get? p.1 = some p.2 ∧ V.get? p.1 = none) (KB : BelowM A base outer muts s.heap)
    (ho : K.lookup f = some ⟨oc, od, .func (fnOf name qual params body scope dV kV doc pm an cdv ct), osl⟩) (hcd : codeIn K cdv qual = true) (hroom : A.depth < recursionLimit)
    (hbind : BindsTo s (fnOf name qual params body scope dV kV doc pm an cdv ct) args binds) (hloc : ∀ y ∈ binds, scope.names.lookup y.1 = some .local)
    (h : ∀ g L' h₁, (∀ b o, s.heap.get? b = some o → b ∉ muts.map (·.1) → g.get? b = some o) → L' = s.heap.objs.size → Fr g L' h₁ (fun y => binds.reverse.lookup y) → News g L' h₁ muts → K.In g → Top p loose mean mg mb g → BelowB A base outer g →
      wpAny (model prog w) (A.deeper (envOf qual scope L' f cdv)) (execs body (envOf qual scope L' f cdv))
        (fun fl s' => R (.ok (.ret (match fl with | .ret v => v | _ => .none))) s')
        (fun e s' => wpAny (model prog w) (A.deeper (envOf qual scope L' f cdv)) (leaving (envOf qual scope L' f cdv) e) (fun _ s'' => R (.error e) s'') (fun e' s'' => R (.error e') s'') s')
        { s with heap := h₁, toks := s.toks + binds.length })
    (hco : scope.isCoroutine = false) (hgen : scope.isGenerator = false) (hk : scope.kind = .function)
    (hcell : ∀ x ∈ scope.names, x.2 ≠ .cell) : codeAny (model prog w) A (.call (.ref f) args) R s := by
  have nm : ∀ b o, V.get? b = some o → b ∉ muts.map (·.1) := fun b o e q => by
    obtain ⟨p, hp, rfl⟩ := List.mem_map.mp q
    rw [(N p hp).2] at e; cases e
  have st : V.StaysIn (hideAll s.heap (muts.map (·.1))) := fun b o e => hideAll_get _ (hV b o e) (nm b o e)
  refine codeAny_call_def (fd := fnOf name qual params body scope dV kV doc pm an cdv ct) (body := body) (binds := binds) hroom (hV _ _ (X₀ _ _ ho)) rfl (T.nolimit.keeps hV) (codeRec_of (X₀.keeps hV) hcd) rfl hbind hcell hloc (fun h₁ hns hk₁ => ?_) hco hgen hk
  exact h _ s.heap.objs.size h₁ hide_keep rfl ⟨hns, fun b o e => hk₁ b o (of_hideAll _ e), Nat.le_of_eq (hideAll_size _ _)⟩
    (fun p hp => ⟨hk₁ _ _ (N p hp).1, Nat.ne_of_lt (Heap.lt_size (N p hp).1), hideAll_none _ (List.mem_map_of_mem hp)⟩) (X₀.keeps st) (T.keeps st) (below_enter KB hide_keep)

theorem enterR {prog : Program} {w : World} {A : Around} {s : Shared} {V : Heap} {base : Bs} {outer : List Env} (C : Prop) {mg mb : Str → Option Value} (muts : List (Addr × Obj)) {K : Frag}
    {p : Program} {loose : List Str} {mean : ExcName → Option Value}
    {R : Result → Shared → Prop} {name qual : Str} {params : Arguments} {body : List Stmt} {scope : Scope} {dV kV doc pm cdv ct oc : Value} {an od : Option Addr} {osl : Array (Option Value)} {f : Addr} {args : Args} (binds : List (Str × Value))
    (hV : Grow V s.heap) (X₀ : K.In V) (T : Top p loose mean mg mb V) (N : ∀ p ∈ muts, s.heap.get? p.1 = some p.2 ∧ V.get? p.1 = none) (KB : BelowM A base outer muts s.heap)
    (ho : K.lookup f = some ⟨oc, od, .func (fnOf name qual params body scope dV kV doc pm an cdv ct), osl⟩) (hcd : codeIn K cdv qual = true) (hroom : A.depth < recursionLimit)
    (hbind : BindsTo s (fnOf name qual params body scope dV kV doc pm an cdv ct) args binds) (hloc : ∀ y ∈ binds, scope.names.lookup y.1 = some .local)
    (hR : C → ∀ e h' tk, Raised base outer h' e → R (.error (.ref e)) { s with heap := h', toks := tk })
    (h : ∀ g L' h₁ E', (∀ b o, s.heap.get? b = some o → b ∉ muts.map (·.1) → g.get? b = some o) → L' = s.heap.objs.size → Fr g L' h₁ (fun y => binds.reverse.lookup y) → News g L' h₁ muts → K.In g → Top p loose mean mg mb g → BelowB A base outer g →
      (C → ∀ e h' tk, Raised base (envOf qual scope L' f cdv :: outer) h' e → E' (.ref e) { s with heap := h', toks := tk }) → PassesOwn (model prog w) (A.deeper (envOf qual scope L' f cdv)) (envOf qual scope L' f cdv) E' →
      wpAny (model prog w) (A.deeper (envOf qual scope L' f cdv)) (execs body (envOf qual scope L' f cdv))
        (fun fl s' => R (.ok (.ret (match fl with | .ret v => v | _ => .none))) s') E'
        { s with heap := h₁, toks := s.toks + binds.length })
    (hco : scope.isCoroutine = false) (hgen : scope.isGenerator = false) (hk : scope.kind = .function)
    (hcell : ∀ x ∈ scope.names, x.2 ≠ .cell) : codeAny (model prog w) A (.call (.ref f) args) R s := by
  refine enterR0 muts binds hV X₀ T N KB ho hcd hroom hbind hloc (fun g L' h₁ hg hL F N' X' T' K' => h g L' h₁ _ hg hL F N' X' T' K' (fun hc e h' tk r => ?_) PassesOwn.leaving) hco hgen hk hcell
  exact raised_leave (Around.frames_deeper K'.b.stack) rfl r fun h'' r' => hR hc e h'' tk r'
noncomputable abbrev sigC : Obj := excClassObj "LispSignal" "LispSignal" 104 103 [.type "Exception"] [.type "Exception", .type "BaseException", .type "object"] true [] [] false none none (some (.ref 88)) none (some (.str "LispSignal" 299)) (some (.str "LispSignal" 307)) (some (.bool true)) "Exception.__new__"
section
variable {M : Model} {A : Around} {E : Value → Shared → Prop} {s : Shared} {env : Env}
theorem raise_obj {x : Sem Value} {Q : Flow → Shared → Prop} (hh : A.handled = none)
    (h : wpAny M A x (fun v s₁ => ∃ e oe a0, v = .ref e ∧ s₁.heap.get? 104 = some sigC ∧ s₁.heap.get? e = some oe ∧ oe.cls = .ref 104 ∧ oe.data = .fields #[a0, .none, .none, .none, .bool false, .none] ∧ E (.ref e) s₁) E s) :
    wpAny M A (raiseStmt env (some x) none) Q E s := by
  have hcB : (Value.ref 104 :: [.type "Exception", .type "BaseException", .type "object"]).contains (.type "BaseException") = true := by simp
  unfold raiseStmt
  refine wpAny_bind (wpAny_mono h (fun v s₁ h₁ => ?_) fun _ _ x => x)
  obtain ⟨e, ⟨oc, od, odt, osl⟩, a0, rfl, hC, he, hcl, hdt, hE⟩ := h₁
  obtain rfl : oc = .ref 104 := hcl
  obtain rfl : odt = .fields #[a0, .none, .none, .none, .bool false, .none] := hdt
  obtain ⟨hp, g, d, tk, os⟩ := s₁
  repeat (first | with_reducible refine wpAny_loadPart_at he ?_ | with_reducible refine wpAny_loadPart_at hC ?_ | (with_reducible refine wpAny_isSubtype_exc hC ?_; rw [hcB]) | wp_step)
  exact wpAny_raiseNew_none hh hE
theorem raise_stmt {c : PySem.Expr} {pos : Pos} {Q : Flow → Shared → Prop} (hh : A.handled = none)
    (h : wpAny M A (eval c env) (fun v s₁ => ∃ e oe a0, v = .ref e ∧ s₁.heap.get? 104 = some sigC ∧ s₁.heap.get? e = some oe ∧ oe.cls = .ref 104 ∧ oe.data = .fields #[a0, .none, .none, .none, .bool false, .none] ∧ E (.ref e) s₁) E s) :
    wpAny M A (exec (.Raise (some c) none pos) env) Q E s := by
  rw [arm_exec_Raise]
  exact wpAny_bind (wpAny_standAt (raise_obj hh (wpAny_bind (wpAny_mono h (fun v s₃ h₃ => wpAny_bind (wpAny_standAt (wpAny_pure h₃))) fun _ _ x => x))))
end
theorem ns_some_of {K : Frag} {h : Heap} {N : Addr} {mg : Str → Option Value} {n : Str} {v : Value} (X : K.In h) (G : h.Ns N mg) (e : nsIn K N n = some (some v)) : mg n = some v := by
  obtain ⟨o, es, ep, ho, hd, _, hf⟩ := G
  unfold nsIn at e
  split at e
  · rename_i c d es' n' sl q
    have := X _ _ q
    rw [ho] at this
    cases this
    cases hd
    split at e
    · rename_i en he
      cases e
      rw [← hf]
      unfold nsFind findBy
      rw [← Array.find?_toList, he]
      rfl
    · split at e <;> cases e
  · cases e

section
open Builtin Builtin.ObjectAttr
theorem sig_store {prog : Program} {w : World} {A : Around} {E : Value → Shared → Prop} {h : Heap} {g : Array GenState} {d : Drawn} {t : Nat} {os : OsState} {x : Addr} {mN : Str → Option Value} {name : Str} {v : Value} {o : Obj} {vs : Array Value} {Q : Unit → Shared → Prop}
    {nm q : Str} {C N : Addr} {bs bm : List Value} {sn : List Str} {sub : List Value} {ab : Bool} {col : Option Bool} {dd : Option Addr} {k0 k1 k2 k3 k5 : Option Value} {B newId sa owner : String} (SF : StoreFacts B bm sa owner)
    (hC : h.get? C = some (excClassObj nm q C N bs bm true sn sub ab col dd k0 k1 k2 k3 k5 newId)) (hn : h.Ns N mN) (hns : mN "__setattr__" = none) (hna : mN name = none) (hB : typeLookup (.type B) name = pure none)
    (hx : h.get? x = some o) (hc : o.cls = .ref C) (hdn : o.dict = none) (hdt : o.data = .fields vs)
    (hq : ∀ h' tk', h'.Ns1 h.objs.size (fun y => if y = name then some v else none) → h'.get? x = some { o with dict := some h.objs.size } → (∀ b ob, b ≠ x → h.get? b = some ob → h'.get? b = some ob) → Q () ⟨h', g, d, tk', os⟩) :
    wpAny (model prog w) A (setAttr (.ref x) name v) Q E ⟨h, g, d, t, os⟩ := by
  have f3 := SF.slot.bind (.ref x)
  have hpass := SF.passes (.ref x)
  unfold setAttr callSpecial? specialOf
  repeat (any_goals (first | assumption | (with_reducible refine wpAny_loadPart_at hx ?_; rw [hc]) | (with_reducible refine wpAny_typeLookup_exc hC hn SF.mro SF.slot.lookup ?_; rw [hns]) | wp_step))
  refine codeAny_call_builtin SF.slot.plain SF.entry (wpAny_check_sa SF hC hx hc ?_)
  unfold Builtin.«object.__setattr__»
  repeat (first | rw [refuse_eq] | (rw [refuseLoop_ref, hpass]) | (with_reducible refine wpAny_loadPart_at hx ?_; rw [hc]) | with_reducible refine wpAny_mroOf_exc hC ?_ | (with_reducible refine wpAny_typeLookup_exc hC hn SF.mro hB ?_; rw [hna]) | wp_step)
  rw [hdn, if_neg (by simp [typeHasDict]), hdt]
  dsimp only
  have hx₁ : (h.push { cls := .type "dict", data := .dict #[] }).get? x = some o := Heap.get?_push_of_some _ hx
  have hxs : x ≠ h.objs.size := Nat.ne_of_lt (Heap.lt_size hx)
  refine wpAny_bind (wpAny_alloc' ?_)
  refine wpAny_bind (wpAny_update' hx₁ ?_)
  refine wpAny_pure ?_
  have hgd : ((h.push { cls := .type "dict", data := .dict #[] }).update x fun o => { cls := o.cls, dict := some h.objs.size, data := o.data, slots := o.slots }).get? h.objs.size
      = some { cls := .type "dict", data := .dict #[] } :=
    (Heap.get?_update_ne _ _ _ _ hxs.symm).trans (Heap.get?_push_at rfl rfl)
  have hnd : ((h.push { cls := .type "dict", data := .dict #[] }).update x fun o => { cls := o.cls, dict := some h.objs.size, data := o.data, slots := o.slots }).Ns h.objs.size (fun _ => none) :=
    ⟨_, #[], _, hgd, rfl, fun e he => absurd he (by simp), fun _ => rfl⟩
  show wpAny _ _ (storeInDict h.objs.size (.str name _) name v) _ _ _
  unfold storeInDict newKeyGuard
  refine wpAny_bind (wpAny_pure (wpAny_bind (wpAny_nsSet1 (Heap.Ns1.of_empty hnd) fun h' hn' hs => ?_)))
  obtain ⟨oD, esD, epD, hoD, hdD, hcD⟩ := hn'.count (Within.cons name v Within.nil)
  refine wpAny_bind (wpAny_lookBehind hoD (by rw [hdD]; exact pastItsLine_dict (Nat.le_trans hcD (by rw [List.length_cons, List.length_nil, sizeLine_eq]; omega))) ?_)
  wp_walk
  refine hq h' _ hn' ?_ fun b ob hbx hb => ?_
  · refine (hs.2 x hxs).trans (Heap.get?_update_self _ hx₁ ?_)
    have hfr := (Heap.get?_some_iff.mp hx).2
    obtain ⟨oc, od, odt, osl⟩ := o
    cases odt <;> first | rfl | exact hfr
  · exact (hs.2 b (Nat.ne_of_lt (Heap.lt_size hb))).trans ((Heap.get?_update_ne _ _ _ _ hbx).trans (Heap.get?_push_of_some _ hb))
end
theorem sig_init {w : World} {A : Around} {E : Value → Shared → Prop} {s : Shared} {V : Heap} {mg mb : Str → Option Value} {mean : ExcName → Option Value} {Q : Value → Shared → Prop} {e l : Addr} {oe : Obj} {x : Str} {t : Tok} {vs : Array Value}
    (hV : Grow V s.heap) (X₀ : (hd.heap_1 w.params).In V) (T : Top headView (looseW headView [Str.ofString "EXACT"]) mean mg mb V)
    (hD : A.depth ≤ 610) (hU : A.units ≤ 2100) (hh : A.handled = none) (he : s.heap.get? e = some oe) (heV : V.get? e = none) (hc : oe.cls = .ref 104) (hdn : oe.dict = none) (hdt : oe.data = .fields vs)
    (hfin : ∀ h' tk d mA, Past s.heap [e] h' → (∃ o', h'.get? e = some o' ∧ o'.cls = .ref 104 ∧ o'.dict = some d ∧ o'.data = oe.data) → s.heap.get? d = none → d ≠ e → h'.Ns1 d mA → mA "symbol" = some (.str x t) → Q .none { s with heap := h', toks := tk }) :
    wpAny (model PySem.Challenge.rw_ok0052_01.row.prog w) A (call (.ref 101) [.ref e, .str x t, .ref l]) Q E s := by
  revert X₀; k_fill; intro X₀
  refine wpAny_call ?_
  refine' enterNR [(e, oe)] [("self", .ref e), ("symbol", .str x t), ("data", .ref l)] hV X₀ T (fun p hp => by rw [List.mem_singleton.mp hp]; exact ⟨he, heV⟩) ?k6 ?k7 ?k8 ?k9 ?kB ?_ ?c2 ?c3 ?c4 ?c5
  walk_at "ENTER"
  intro g L' h₁ hg hL F' N' X' T'
  try dsimp only
  walk_at "S"
  obtain ⟨mN, hn⟩ : ∃ mN, g.Ns 103 mN := by
    refine ⟨_, _, _, _, X' 103 _ (by k_is), rfl, fun e he => ?_, fun _ => rfl⟩
    have he' := Array.mem_toList_iff.mpr he
    simp only [List.mem_cons, List.not_mem_nil, or_false] at he'
    rcases he' with rfl | rfl | rfl | rfl | rfl | rfl <;> exact ⟨_, _, rfl⟩
  have hC : g.get? 104 = some sigC := X' 104 _ (by k_is)
  have m1 : mN "__setattr__" = none := ns_none_of X' hn (by k_is)
  have m2 : mN "symbol" = none := ns_none_of X' hn (by k_is)
  have m3 : mN "data" = none := ns_none_of X' hn (by k_is)
  have ge : g.get? e = none := (N' _ (.head _)).2.2
  have e104 : e ≠ 104 := fun q => by rw [q, hC] at ge; cases ge
  refine sig_store PySem.F.store_Exception (F'.keep _ _ hC) (hn.at' (F'.keep _)) m1 m2 (by rw [typeLookup_type, builtinLookup_eq_fast]; kernel_rfl) (N' _ (.head _)).1 hc hdn hdt fun h₂ tk₂ d1 d2 d3 => ?_
  have hdL : h₁.objs.size ≠ L' := fun q => by have := F'.ns.lt; rw [← q] at this; exact Nat.lt_irrefl _ this
  have eL : e ≠ L' := (N' _ (.head _)).2.1
  have F₂ : Fr g L' h₂ _ := ⟨F'.ns.at' fun o eo => d3 _ _ (Ne.symm eL) eo, fun b o eb => d3 _ _ (fun q => by rw [q, ge] at eb; cases eb) (F'.keep _ _ eb), F'.above⟩
  have sd : s.heap.get? h₁.objs.size = none := by
    cases q : s.heap.get? h₁.objs.size with
    | none => rfl
    | some o =>
      by_cases z : h₁.objs.size = e
      · have := (N' (e, oe) (.head _)).1
        rw [← z] at this
        exact absurd (Heap.lt_size this) (Nat.lt_irrefl _)
      · exact absurd (Heap.lt_size (F'.keep _ _ (hg _ _ q (by simpa using z)))) (Nat.lt_irrefl _)
  have gd : g.get? h₁.objs.size = none := by
    cases q : g.get? h₁.objs.size with
    | none => rfl
    | some o => exact absurd (Heap.lt_size (F'.keep _ _ q)) (Nat.lt_irrefl _)
  have de : h₁.objs.size ≠ e := fun z => by
    have := (N' (e, oe) (.head _)).1
    rw [← z] at this
    exact absurd (Heap.lt_size this) (Nat.lt_irrefl _)
  generalize h₁.objs.size = d at *
  clear N' F'
  walk_at "S"
  have F₂ := F₂
  have ho₂ : ∀ o₀ dx, h₂.get? e = some o₀ → o₀.dict = some dx → dx = d := fun o₀ dx q1 q2 => by
    rw [d2] at q1; cases q1; exact (Option.some.inj q2).symm
  refine store_attr (ns := ["symbol"]) PySem.F.store_Exception (F₂.keep _ _ hC) (hn.at' (F₂.keep _)) m1 m3 (by rw [typeLookup_type, builtinLookup_eq_fast]; kernel_rfl) e104
    ⟨_, d2, hc, (fun c q => by dsimp only at q; rw [hdt] at q; cases q), .inr ⟨d, rfl, de, d1⟩⟩ (fun h₃ tk₃ I₃ k₃ s₃ => ?_) (Within.cons _ _ Within.nil) (by size_fits)
  have kk : ∀ b o, b ≠ e → b ≠ d → h₂.get? b = some o → h₃.get? b = some o := fun b o n1 n2 q => k₃ b o n1 (fun o₀ dx q1 q2 z => n2 (z.trans (ho₂ o₀ dx q1 q2))) q
  have F₃ : Fr g L' h₃ _ := ⟨F₂.ns.at' fun o eo => kk _ _ (Ne.symm eL) (Ne.symm hdL) eo, fun b o eb => kk _ _ (fun q => by rw [q, ge] at eb; cases eb) (fun q => by rw [q, gd] at eb; cases eb) (F₂.keep _ _ eb), F₂.above⟩
  clear F₂
  walk_at "S"
  obtain ⟨o₃, i1, i2, _, i4⟩ := I₃
  obtain ⟨o₄, j1, j2, j3, _, j5⟩ := s₃ _ d2
  rw [i1] at j1
  cases j1
  have j5' := j5 d rfl
  obtain ⟨q1, q2⟩ | ⟨d', q1, q2, q3⟩ := i4
  · rw [q1] at j5'; cases j5'
  rw [q1] at j5'
  cases j5'
  refine hfin h₃ _ d _ (fun b o eb nb => ?_) ⟨o₃, i1, i2, q1, j3⟩ sd de q3 ?_
  · exact F₃.keep _ _ (hg b o eb (by simpa using nb))
  · rfl


theorem refuse_spec {w : World} {A : Around} {E : Value → Shared → Prop} {s : Shared} {V : Heap} {base : Bs} {outer : List Env} {mg mb : Str → Option Value} {mean : ExcName → Option Value} {Q : Value → Shared → Prop}
    (hV : Grow V s.heap) (X₀ : (hd.heap_1 w.params).In V) (T : Top headView (looseW headView [Str.ofString "EXACT"]) mean mg mb V) (KB : BelowM A base outer [] s.heap)
    (hD : A.depth ≤ 600) (hU : A.units ≤ 2000) (hh : A.handled = none)
    (hraise : ∀ e h' tk, Raised base outer h' e → E (.ref e) { s with heap := h', toks := tk }) :
    wpAny (model PySem.Challenge.rw_ok0052_01.row.prog w) A (call (.ref 139) []) Q E s := by
  revert X₀; k_fill; intro X₀
  refine wpAny_call ?_
  refine' enterR0 [] [] hV X₀ T (fun _ h => nomatch h) KB ?k6 ?k7 ?k8 ?k9 ?kB ?_ ?c2 ?c3 ?c4 ?c5
  walk_at "ENTER"
  intro g L' h₁ hg hL F' N' X' T' K'
  try dsimp only
  have hC : g.get? 104 = some sigC := X' 104 _ (by k_is)
  rw [execs_cons]
  refine wpAny_bind (raise_stmt hh ?_)
  walk_at "S"
  rename Fr _ _ _ _ => F₁
  rename News _ _ _ _ => N₁
  obtain ⟨mN, hn⟩ : ∃ mN, g.Ns 103 mN := by
    refine ⟨_, _, _, _, X' 103 _ (by k_is), rfl, fun e he => ?_, fun _ => rfl⟩
    have he' := Array.mem_toList_iff.mpr he
    simp only [List.mem_cons, List.not_mem_nil, or_false] at he'
    rcases he' with rfl | rfl | rfl | rfl | rfl | rfl <;> exact ⟨_, _, rfl⟩
  refine wpAny_call_exc_init PySem.F.excBase_Exception (F₁.keep _ _ hC) (hn.at' (F₁.keep _)) (ns_some_of X' hn (by k_is)) (F₁.keep _ _ (X' 101 _ (by k_is))) rfl fun h₂ e M₂ => ?_
  obtain ⟨t₂, he₂, ht₂, _⟩ := M₂.there
  have KP := K'.b.push (name := Str.ofString "refuse") (scope := { kind := ScopeKind.function, names := [(Str.ofString "LispSignal", NameKind.globalImplicit)], isGenerator := false, isCoroutine := false }) (a := 139) (cd := .ref 138) F₁
  refine sig_init (V := g) (fun b o q => M₂.keeps _ _ (F₁.keep _ _ q)) X' T' ?d ?u hh he₂ ?_ rfl rfl rfl ?_
  case d => (refine Nat.le_trans (Nat.le_of_eq (congrArg (_ + ·) (show _ = 1 from by kernel_rfl))) ?_; walk_at "DU")
  case u => (refine Nat.le_trans (Nat.le_of_eq (congrArg (_ + ·) (show _ = 1 from by kernel_rfl))) ?_; walk_at "DU")
  · cases q : g.get? e with
    | none => rfl
    | some o => have := F₁.keep _ _ q; rw [M₂.new] at this; cases this
  · rintro h₃ tk d mA P₃ hJq hnd hde hns hsym
    obtain ⟨o₃, he₃, c₃, d₃, t₃⟩ := hJq
    refine ⟨rfl, e, o₃, _, rfl, P₃ _ _ (M₂.keeps _ _ (F₁.keep _ _ hC)) ?_, he₃, c₃, t₃, ?_⟩
    · intro q
      have := M₂.new
      rw [← List.mem_singleton.mp q, F₁.keep _ _ hC] at this; cases this
    · have keep : ∀ b o, _ → h₃.get? b = some o := fun b o (q : _ = some o) => P₃ b o (M₂.keeps b o q) (fun z => by rw [List.mem_singleton.mp z, M₂.new] at q; cases q)
      have FF := KP.frames.of_keeps (fun b o q _ => ⟨o, keep b o q, rfl⟩)
      refine fly_leave_first (B := hideAll h₃ (e :: (envOf (Str.ofString "refuse") { kind := ScopeKind.function, names := [(Str.ofString "LispSignal", NameKind.globalImplicit)], isGenerator := false, isCoroutine := false } L' 139 (.ref 138) :: outer).filterMap (·.frame)))
        KP.stack (funFrames_hide FF fun env he a ha => List.mem_cons_of_mem _ (List.mem_filterMap.mpr ⟨env, he, ha⟩)) rfl he₃ c₃ d₃ (fun b o q => of_hideAll _ q) (hideAll_none _ (List.mem_cons_self ..)) t₃ rfl rfl fun h₄ y up => ?_
      have dfr : ∀ b, b ∈ e :: (envOf (Str.ofString "refuse") { kind := ScopeKind.function, names := [(Str.ofString "LispSignal", NameKind.globalImplicit)], isGenerator := false, isCoroutine := false } L' 139 (.ref 138) :: outer).filterMap (·.frame) → base.heap.get? b = none ∧ b ≠ d := fun b hb => by
        rcases List.mem_cons.mp hb with rfl | hb
        · refine ⟨?_, fun z => hde z.symm⟩
          cases q : base.heap.get? b with
          | none => rfl
          | some o => have := KP.stays _ _ q; rw [M₂.new] at this; cases this
        · obtain ⟨q1, o, q2, _⟩ := KP.frames.mem hb
          exact ⟨q1, fun z => by have := M₂.keeps _ _ q2; rw [z, hnd] at this; cases this⟩
      refine hraise e h₄ _ ⟨_, d, mA, _, fun b o q => hideAll_get _ (keep b o (KP.stays b o q)) (fun z => by rw [(dfr b z).1] at q; cases q), y, hde, hns.at (fun o q => hideAll_get _ q (fun z => (dfr d z).2 rfl)), hsym, up.ns ((K'.on.at' (F₁.keep _)).at' (keep _))⟩
noncomputable abbrev rdDict (w : World) (lc : Addr) (p : Nat) (t1 t2 t3 : Tok) : Obj := dictOf [fld w "codes" t1 (.ref lc), fld w "place" t2 (.int p t3)] 2
theorem code_spec {w : World} {A : Around} {E : Value → Shared → Prop} {s : Shared} {V : Heap} {mg mb : Str → Option Value} {mean : ExcName → Option Value} {Q : Value → Shared → Prop}
    {x dx lc : Addr} {p : Nat} {t1 t2 t3 : Tok} {c : Nat} {vs : List Value} {ns : List Int}
    (hV : Grow V s.heap) (X₀ : (hd.heap_1 w.params).In V) (T : Top headView (looseW headView [Str.ofString "EXACT"]) mean mg mb V)
    (hD : A.depth ≤ 600) (hU : A.units ≤ 2000) (hh : A.handled = none) (hx : s.heap.get? x = some (instObj 198 dx)) (hdx : s.heap.get? dx = some (rdDict w lc p t1 t2 t3))
    (hl : s.heap.get? lc = some (listOf vs.toArray c)) (hi : IntsAre vs ns) (hz : ns.length ≤ 1000)
    (hfin : ∀ t h' tk', Grow s.heap h' → Q (.int (ns.getD p (-1)) t) { s with heap := h', toks := tk' }) :
    wpAny (model PySem.Challenge.rw_ok0052_01.row.prog w) A (call (.ref 160) [.ref x]) Q E s := by
  revert X₀; k_fill; intro X₀
  refine wpAny_call ?_
  refine' enterNR [] [("self", .ref x)] hV X₀ T (fun _ h => nomatch h) ?k6 ?k7 ?k8 ?k9 ?kB ?_ ?c2 ?c3 ?c4 ?c5
  walk_at "ENTER"
  intro g L' h₁ hg hL F' N' X' T'
  try dsimp only
  have hx' := hg _ _ hx (fun n => nomatch n)
  have hdx' := hg _ _ hdx (fun n => nomatch n)
  have hl' : g.IsList lc vs.toArray := ⟨_, hg _ _ hl (fun n => nomatch n), rfl, _, rfl⟩
  have hlen := hi.length
  walk_at "S"
  all_goals rename Fr _ _ _ _ => F₃
  · have e : ns.getD (p : Int).toNat 0 = ns.getD p (-1) := by
      have hp : p < ns.length := by omega
      simp only [Int.toNat_natCast, List.getD_eq_getElem?_getD, List.getElem?_eq_getElem hp, Option.getD_some]
    rw [e]
    exact hfin _ _ _ (fun b o q => F₃.keep b o (hg b o q (fun n => nomatch n)))
  · have e : ns.getD p (-1) = -1 := by
      have hp : ns.length ≤ p := by omega
      simp only [List.getD_eq_getElem?_getD, List.getElem?_eq_none hp, Option.getD_none]
    rw [e] at hfin
    exact hfin _ _ _ (fun b o q => F₃.keep b o (hg b o q (fun n => nomatch n)))

theorem code_led {w : World} {A : Around} {E : Value → Shared → Prop} {s : Shared} {h₀ : Heap} {L : Addr} {m mg mb : Str → Option Value} {mean : ExcName → Option Value} {news : List (Addr × Obj)} {Q : Value → Shared → Prop}
    {x dx lc : Addr} {p : Nat} {t1 t2 t3 : Tok} {c : Nat} {vs : List Value} {ns : List Int}
    (F : Fr h₀ L s.heap m) (N : News h₀ L s.heap news) (X₀ : (hd.heap_1 w.params).In h₀) (T : Top headView (looseW headView [Str.ofString "EXACT"]) mean mg mb h₀)
    (hD : A.depth ≤ 600) (hU : A.units ≤ 2000) (hh : A.handled = none) (hx : s.heap.get? x = some (instObj 198 dx)) (hdx : (dx, rdDict w lc p t1 t2 t3) ∈ news)
    (hl : h₀.get? lc = some (listOf vs.toArray c)) (hi : IntsAre vs ns) (hz : ns.length ≤ 1000)
    (hfin : ∀ t h' tk', Fr h₀ L h' m → News h₀ L h' news → Q (.int (ns.getD p (-1)) t) { s with heap := h', toks := tk' }) :
    wpAny (model PySem.Challenge.rw_ok0052_01.row.prog w) A (call (.ref 160) [.ref x]) Q E s :=
  code_spec F.keep X₀ T hD hU hh hx (N.get hdx) (F.keep _ _ hl) hi hz fun t h' tk' G => hfin t h' tk' (F.keeps G) (News.grown N G)
local macro_rules | `(tactic| walk_at "call ref") => ln_line "call Value.ref=160 _ _" true ``code_led "F N X T d u hh x dx l i z _" "FN6 hh:a x:RDX dx:m l:a i:a z:a" "t' h' tk' F' N'"
local macro_rules | `(tactic| walk_at "BELOW") => do ln_seq [← ln_use ``below_push "K F N" "K:a F:k", ← `(tactic| (case N => first | k_asm | exact (fun _ h => nomatch h)))]
local macro_rules | `(tactic| walk_at "call ref") => ln_line "call Value.ref=139 _ _" true ``refuse_spec "*F X T K d u hh _" "F:k X:k T:k K:BELOW d:DU u:DU hh:a" ""
theorem getD_lt {ns : List Int} {q : Nat} (h : ns.getD q (-1) ≠ -1) : q < ns.length := by
  rcases Nat.lt_or_ge q ns.length with h' | h'
  · exact h'
  · rw [List.getD_eq_getElem?_getD, List.getElem?_eq_none h'] at h; exact absurd rfl h
theorem getD_ltk {ns : List Int} {q : Nat} {k : Int} (h : ns.getD q (-1) = k) (hk : k ≠ -1) : q < ns.length := getD_lt (h ▸ hk)
theorem inst_mixed {h₀ h : Heap} {L x C dx : Addr} {od : Obj} {m : Str → Option Value} {news : List (Addr × Obj)} (F : Fr h₀ L h m) (N : News h₀ L h news) (h1 : h₀.get? x = some (instObj C dx)) (h2 : (dx, od) ∈ news) : InstAt h x (instObj C dx) C (some od) :=
  ⟨F.keep _ _ h1, rfl, rfl, N.get h2⟩
local macro_rules | `(tactic| k_inst) => do return ← ln_use ``inst_mixed "F N h1 h2" "F:k N:k h1:a h2:m"

/-- what the reading's methods are handed -/
structure RdAt (w : World) (V h : Heap) (x dx lc : Addr) (p : Nat) (t1 t2 t3 : Tok) (c : Nat) (vs : List Value) (ns : List Int) : Prop where
  hx : h.get? x = some (instObj 198 dx)
  hdx : h.get? dx = some (rdDict w lc p t1 t2 t3)
  hdV : V.get? dx = none
  hne : x ≠ dx
  hl : V.get? lc = some (listOf vs.toArray c)
  hi : IntsAre vs ns
  hz : ns.length ≤ 1000

theorem take_spec {w : World} {A : Around} {E : Value → Shared → Prop} {s : Shared} {V : Heap} {base : Bs} {outer : List Env} {mg mb : Str → Option Value} {mean : ExcName → Option Value} {Q : Value → Shared → Prop}
    {x dx lc : Addr} {p : Nat} {t1 t2 t3 t : Tok} {c : Nat} {vs : List Value} {ns : List Int} {k : Int}
    (hV : Grow V s.heap) (X₀ : (hd.heap_1 w.params).In V) (T : Top headView (looseW headView [Str.ofString "EXACT"]) mean mg mb V) (KB : BelowM A base outer [(dx, rdDict w lc p t1 t2 t3)] s.heap)
    (hD : A.depth ≤ 590) (hU : A.units ≤ 1900) (hh : A.handled = none) (rd : RdAt w V s.heap x dx lc p t1 t2 t3 c vs ns) (hp : p ≤ 2000)
    (hfin : ns.getD p (-1) = k → ∀ t3' h' tk', Past s.heap [dx] h' → h'.get? dx = some (rdDict w lc (p + 1) t1 t2 t3') → Q .none { s with heap := h', toks := tk' })
    (hraise : ns.getD p (-1) ≠ k → ∀ e h' tk, Raised base outer h' e → E (.ref e) { s with heap := h', toks := tk }) :
    wpAny (model PySem.Challenge.rw_ok0052_01.row.prog w) A (call (.ref 167) [.ref x, .int k t]) Q E s := by
  obtain ⟨hx, hdx, hdV, hne, hl, hi, hz⟩ := rd
  revert X₀; k_fill; intro X₀
  refine wpAny_call ?_
  refine' enterR (ns.getD p (-1) ≠ k) [(dx, rdDict w lc p t1 t2 t3)] [("self", .ref x), ("code", .int k t)] hV X₀ T (fun q hq => by rw [List.mem_singleton.mp hq]; exact ⟨hdx, hdV⟩) KB ?k6 ?k7 ?k8 ?k9 ?kB ?R ?_ ?c2 ?c3 ?c4 ?c5
  case R => exact hraise
  walk_at "ENTER"
  intro g L' h₁ E' hg hL F' N' X' T' K' hR' hPE
  try dsimp only
  have hx' := hg _ _ hx (by simpa using hne)
  have hVg : Grow V g := grow_hide hV hdV hg
  have hl' := hVg _ _ hl
  dsimp only [rdDict] at N'
  walk_at "S"
  · exact hR' (by assumption) _ _ _ (by assumption)
  rename News _ _ _ _ => N₃
  rename Fr _ _ _ _ => F₃
  exact hfin (by assumption) _ _ _ (fun b o e nb => F₃.keep _ _ (hg _ _ e (by simpa using nb))) (N₃.get (.head _))

theorem take_led {w : World} {A : Around} {E : Value → Shared → Prop} {s : Shared} {h₀ : Heap} {base : Bs} {outer : List Env} {L : Addr} {m mg mb : Str → Option Value} {mean : ExcName → Option Value} {news : List (Addr × Obj)} {u : Obj → List (Addr × Obj)} {Q : Value → Shared → Prop}
    {x dx lc : Addr} {p : Nat} {t1 t2 t3 t : Tok} {c : Nat} {vs : List Value} {ns : List Int} {k : Int}
    (F : Fr h₀ L s.heap m) (N : News h₀ L s.heap news) (X₀ : (hd.heap_1 w.params).In h₀) (T : Top headView (looseW headView [Str.ofString "EXACT"]) mean mg mb h₀) (KB : BelowM A base outer news s.heap)
    (hD : A.depth ≤ 590) (hU : A.units ≤ 1900) (hh : A.handled = none) (hx : s.heap.get? x = some (instObj 198 dx)) (U : UpdF dx (rdDict w lc p t1 t2 t3) news u) (hne : @Ne Nat x dx)
    (hl : h₀.get? lc = some (listOf vs.toArray c)) (hi : IntsAre vs ns) (hz : ns.length ≤ 1000) (hp : p ≤ 2000)
    (hraise : ns.getD p (-1) ≠ k → ∀ e h' tk, Raised base outer h' e → E (.ref e) { s with heap := h', toks := tk })
    (hfin : ns.getD p (-1) = k → ∀ t3' h' tk', Fr h₀ L h' m → News h₀ L h' (u (rdDict w lc (p + 1) t1 t2 t3')) → Q .none { s with heap := h', toks := tk' }) :
    wpAny (model PySem.Challenge.rw_ok0052_01.row.prog w) A (call (.ref 167) [.ref x, .int k t]) Q E s := by
  have hm : (dx, rdDict w lc p t1 t2 t3) ∈ news := by
    obtain ⟨pre, post, rfl, _, _, _⟩ := U.split
    exact List.mem_append_right _ (.head _)
  have z := N _ hm
  refine take_spec F.keep X₀ T ⟨KB.k, fun q hq => by rw [List.mem_singleton.mp hq]; exact KB.apart _ hm⟩ hD hU hh ⟨hx, z.1, z.2.2, hne, hl, hi, hz⟩ hp (fun hk t3' h' tk' a b => ?_) hraise
  obtain ⟨F', N'⟩ := led_past F N U a b
  exact hfin hk _ h' tk' F' N'
local macro_rules | `(tactic| walk_at "TWO") => `(tactic| rotate_left)
local macro_rules | `(tactic| k_inst) => do return ← ln_use ``inst_mixed "F N h1 h2" "F:k N:k h1:a h2:m"
local macro_rules | `(tactic| walk_at "call ref") => ln_line "call Value.ref=167 _ _" true ``take_led "F N X T K d u hh x U ne l i z p _ _" "RD9 U:U NLIZ p:o" "@TWO hk' t3' h' tk' F' N'" [`(tactic| try (have b' := getD_ltk hk' (by decide)))]
theorem grow_one {s g h' : Heap} {L dx : Addr} {o : Obj} {m : Str → Option Value} {news : List (Addr × Obj)} (F : Fr g L h' m) (N : News g L h' news) (hm : (dx, o) ∈ news) (hg : ∀ b ob, s.get? b = some ob → b ∉ [dx] → g.get? b = some ob) (hdx : s.get? dx = some o) : Grow s h' := fun b ob e => by
  by_cases q : b = dx
  · subst q; rw [hdx] at e; cases e; exact N.get hm
  · exact F.keep _ _ (hg b ob e (by simpa using q))
/-- the code that a sign behind a backslash stands for -/
theorem escaped_spec {w : World} {A : Around} {E : Value → Shared → Prop} {s : Shared} {V : Heap} {base : Bs} {outer : List Env} {mg mb : Str → Option Value} {mean : ExcName → Option Value} {Q : Value → Shared → Prop}
    {x dx lc : Addr} {p : Nat} {t1 t2 t3 : Tok} {c : Nat} {vs : List Value} {ns : List Int}
    (hV : Grow V s.heap) (X₀ : (hd.heap_1 w.params).In V) (T : Top headView (looseW headView [Str.ofString "EXACT"]) mean mg mb V) (KB : BelowM A base outer [(dx, rdDict w lc p t1 t2 t3)] s.heap)
    (hD : A.depth ≤ 590) (hU : A.units ≤ 1900) (hh : A.handled = none) (rd : RdAt w V s.heap x dx lc p t1 t2 t3 c vs ns)
    (hfin : ∀ v t h' tk', ((ns.getD p (-1) = 110 ∧ v = 10) ∨ ((ns.getD p (-1) = 34 ∨ ns.getD p (-1) = 92) ∧ v = ns.getD p (-1))) → Grow s.heap h' → Q (.int v t) { s with heap := h', toks := tk' })
    (hraise : ¬ (ns.getD p (-1) = 110 ∨ ns.getD p (-1) = 34 ∨ ns.getD p (-1) = 92) → ∀ e h' tk, Raised base outer h' e → E (.ref e) { s with heap := h', toks := tk }) :
    wpAny (model PySem.Challenge.rw_ok0052_01.row.prog w) A (call (.ref 181) [.ref x]) Q E s := by
  obtain ⟨hx, hdx, hdV, hne, hl, hi, hz⟩ := rd
  revert X₀; k_fill; intro X₀
  refine wpAny_call ?_
  refine' enterR (¬ (ns.getD p (-1) = 110 ∨ ns.getD p (-1) = 34 ∨ ns.getD p (-1) = 92)) [(dx, rdDict w lc p t1 t2 t3)] [("self", .ref x)] hV X₀ T (fun q hq => by rw [List.mem_singleton.mp hq]; exact ⟨hdx, hdV⟩) KB ?k6 ?k7 ?k8 ?k9 ?kB ?R ?_ ?c2 ?c3 ?c4 ?c5
  case R => exact hraise
  walk_at "ENTER"
  intro g L' h₁ E' hg hL F' N' X' T' K' hR' hPE
  try dsimp only
  have hx' := hg _ _ hx (by simpa using hne)
  have hVg : Grow V g := grow_hide hV hdV hg
  have hl' := hVg _ _ hl
  walk_at "S"
  · rename News _ _ _ _ => N₃
    rename Fr _ _ _ _ => F₃
    dsimp only
    exact hfin _ _ _ _ (.inl ⟨by assumption, rfl⟩) (grow_one (dx := dx) F₃ N₃ (by k_mem) hg hdx)
  · rename News _ _ _ _ => N₃
    rename Fr _ _ _ _ => F₃
    dsimp only
    rename _ = true => hin
    exact hfin _ _ _ _ (.inr ⟨by clear hfin hraise hR'; generalize ns.getD p (-1) = k at *; simp at hin; omega, rfl⟩) (grow_one (dx := dx) F₃ N₃ (by k_mem) hg hdx)
  · rename _ = false => hin
    exact hR' (by clear hfin hraise hR'; generalize ns.getD p (-1) = k at *; simp at hin; omega) _ _ _ (by assumption)

theorem escaped_led {w : World} {A : Around} {E : Value → Shared → Prop} {s : Shared} {h₀ : Heap} {base : Bs} {outer : List Env} {L : Addr} {m mg mb : Str → Option Value} {mean : ExcName → Option Value} {news : List (Addr × Obj)} {Q : Value → Shared → Prop}
    {x dx lc : Addr} {p : Nat} {t1 t2 t3 : Tok} {c : Nat} {vs : List Value} {ns : List Int}
    (F : Fr h₀ L s.heap m) (N : News h₀ L s.heap news) (X₀ : (hd.heap_1 w.params).In h₀) (T : Top headView (looseW headView [Str.ofString "EXACT"]) mean mg mb h₀) (KB : BelowM A base outer news s.heap)
    (hD : A.depth ≤ 590) (hU : A.units ≤ 1900) (hh : A.handled = none) (hx : s.heap.get? x = some (instObj 198 dx)) (hm : (dx, rdDict w lc p t1 t2 t3) ∈ news) (hne : @Ne Nat x dx)
    (hl : h₀.get? lc = some (listOf vs.toArray c)) (hi : IntsAre vs ns) (hz : ns.length ≤ 1000)
    (hraise : ¬ (ns.getD p (-1) = 110 ∨ ns.getD p (-1) = 34 ∨ ns.getD p (-1) = 92) → ∀ e h' tk, Raised base outer h' e → E (.ref e) { s with heap := h', toks := tk })
    (hfin : ∀ v t h' tk', ((ns.getD p (-1) = 110 ∧ v = 10) ∨ ((ns.getD p (-1) = 34 ∨ ns.getD p (-1) = 92) ∧ v = ns.getD p (-1))) → Fr h₀ L h' m → News h₀ L h' news → Q (.int v t) { s with heap := h', toks := tk' }) :
    wpAny (model PySem.Challenge.rw_ok0052_01.row.prog w) A (call (.ref 181) [.ref x]) Q E s := by
  have z := N _ hm
  exact escaped_spec F.keep X₀ T ⟨KB.k, fun q hq => by rw [List.mem_singleton.mp hq]; exact KB.apart _ hm⟩ hD hU hh ⟨hx, z.1, z.2.2, hne, hl, hi, hz⟩ (fun v t h' tk' hv G => hfin v t h' tk' hv (F.keeps G) (News.grown N G)) hraise
local macro_rules | `(tactic| walk_at "call ref") => ln_line "call Value.ref=181 _ _" true ``escaped_led "F N X T K d u hh x U ne l i z _ _" "RD9 U:m NLIZ" "@TWO v' t' h' tk' hv' F' N'"
/-- a text in quotes is read: from the sign behind the first quote on. What is found, and the place at the quote that ends it -/
noncomputable def rdIn (ns : List Int) : Nat → Nat → Option (List Int × Nat)
  | 0, _ => none
  | f + 1, p =>
    let c := ns.getD p (-1)
    if c = 34 then some ([], p) else if c = -1 ∨ c = 10 then none
    else if c = 92 then
      let d := ns.getD (p + 1) (-1)
      if d = 110 then (rdIn ns f (p + 2)).map fun r => (10 :: r.1, r.2)
      else if d = 34 ∨ d = 92 then (rdIn ns f (p + 2)).map fun r => (d :: r.1, r.2) else none
    else (rdIn ns f (p + 1)).map fun r => (c :: r.1, r.2)
theorem rdIn_succ (ns : List Int) (f p : Nat) : rdIn ns (f + 1) p = if ns.getD p (-1) = 34 then some ([], p) else if ns.getD p (-1) = -1 ∨ ns.getD p (-1) = 10 then none
    else if ns.getD p (-1) = 92 then (if ns.getD (p + 1) (-1) = 110 then (rdIn ns f (p + 2)).map fun r => (10 :: r.1, r.2)
      else if ns.getD (p + 1) (-1) = 34 ∨ ns.getD (p + 1) (-1) = 92 then (rdIn ns f (p + 2)).map fun r => (ns.getD (p + 1) (-1) :: r.1, r.2) else none)
    else (rdIn ns f (p + 1)).map fun r => (ns.getD p (-1) :: r.1, r.2) := rfl
theorem map_app {o : Option (List Int × Nat)} {acc : List Int} {v : Int} : (o.map fun r => (v :: r.1, r.2)).map (fun r => (acc ++ r.1, r.2)) = o.map fun r => ((acc ++ [v]) ++ r.1, r.2) := by
  cases o <;> simp
/-! the pure facts that the walk leans on -/
theorem rdIn_spec {ns : List Int} : ∀ {f q : Nat} {ts : List Int} {p' : Nat}, rdIn ns f q = some (ts, p') → q + ts.length ≤ p' ∧ p' < ns.length ∧ ns.getD p' (-1) = 34 ∧ ∀ k ∈ ts, k = 10 ∨ k = 34 ∨ k = 92 ∨ k ∈ ns := by
  intro f
  induction f with
  | zero => intro q ts p' h; cases h
  | succ f ih =>
    intro q ts p' h
    rw [rdIn_succ] at h
    split at h
    · cases h
      rename_i h34
      exact ⟨by simp, getD_lt (by rw [h34]; decide), h34, fun k hk => nomatch hk⟩
    · split at h
      · cases h
      · split at h
        · split at h
          · obtain ⟨r, hr, e⟩ := Option.map_eq_some_iff.mp h
            cases e
            obtain ⟨a, b, c, d⟩ := ih (ts := r.1) (p' := r.2) hr
            refine ⟨by rw [List.length_cons]; omega, b, c, fun k hk => ?_⟩
            rcases List.mem_cons.mp hk with rfl | hk
            · exact .inl rfl
            · exact d k hk
          · split at h
            · rename_i h1
              obtain ⟨r, hr, e⟩ := Option.map_eq_some_iff.mp h
              cases e
              obtain ⟨a, b, c, d⟩ := ih (ts := r.1) (p' := r.2) hr
              refine ⟨by rw [List.length_cons]; omega, b, c, fun k hk => ?_⟩
              rcases List.mem_cons.mp hk with rfl | hk
              · rcases h1 with h1 | h1 <;> rw [h1] <;> simp
              · exact d k hk
            · cases h
        · rename_i hne _
          obtain ⟨r, hr, e⟩ := Option.map_eq_some_iff.mp h
          cases e
          obtain ⟨a, b, c, d⟩ := ih (ts := r.1) (p' := r.2) hr
          refine ⟨by rw [List.length_cons]; omega, b, c, fun k hk => ?_⟩
          rcases List.mem_cons.mp hk with rfl | hk
          · have hq := getD_lt (fun z => hne (.inl z))
            rw [List.getD_eq_getElem?_getD, List.getElem?_eq_getElem hq, Option.getD_some]
            exact .inr (.inr (.inr (List.getElem_mem hq)))
          · exact d k hk
theorem text_spec {w : World} {A : Around} {E : Value → Shared → Prop} {s : Shared} {V : Heap} {base : Bs} {outer : List Env} {mg mb : Str → Option Value} {mean : ExcName → Option Value} {Q : Value → Shared → Prop}
    {x dx lc : Addr} {p : Nat} {t1 t2 t3 : Tok} {c : Nat} {vs : List Value} {ns : List Int}
    (hV : Grow V s.heap) (X₀ : (hd.heap_1 w.params).In V) (T : Top headView (looseW headView [Str.ofString "EXACT"]) mean mg mb V) (KB : BelowM A base outer [(dx, rdDict w lc p t1 t2 t3)] s.heap)
    (hD : A.depth ≤ 580) (hU : A.units ≤ 1800) (hh : A.handled = none) (rd : RdAt w V s.heap x dx lc p t1 t2 t3 c vs ns) (hp : p ≤ 1000)
    (hfin : ∀ r vs' c' t3' h' tk' ts p', ns.getD p (-1) = 34 → rdIn ns (ns.length + 1) (p + 1) = some (ts, p') → IntsAre vs' ts → Past s.heap [dx] h' → s.heap.get? r = none → h'.get? r = some (listOf vs'.toArray c') →
      h'.get? dx = some (rdDict w lc (p' + 1) t1 t2 t3') → Q (.ref r) { s with heap := h', toks := tk' })
    (hraise : (ns.getD p (-1) = 34 → rdIn ns (ns.length + 1) (p + 1) = none) → ∀ e h' tk, Raised base outer h' e → E (.ref e) { s with heap := h', toks := tk }) :
    wpAny (model PySem.Challenge.rw_ok0052_01.row.prog w) A (call (.ref 174) [.ref x]) Q E s := by
  obtain ⟨hx, hdx, hdV, hne, hl, hi, hz⟩ := rd
  revert X₀; k_fill; intro X₀
  refine wpAny_call ?_
  refine' enterR (ns.getD p (-1) = 34 → rdIn ns (ns.length + 1) (p + 1) = none) [(dx, rdDict w lc p t1 t2 t3)] [("self", .ref x)] hV X₀ T (fun q hq => by rw [List.mem_singleton.mp hq]; exact ⟨hdx, hdV⟩) KB ?k6 ?k7 ?k8 ?k9 ?kB ?R ?_ ?c2 ?c3 ?c4 ?c5
  case R => exact hraise
  walk_at "ENTER"
  intro g L' h₁ E' hg hL F' N' X' T' K' hR' hPE
  try dsimp only
  have hx' := hg _ _ hx (by simpa using hne)
  have hVg : Grow V g := grow_hide hV hdV hg
  have hl' := hVg _ _ hl
  walk_at "S"
  rotate_left
  · exact hR' (fun q => absurd q (by assumption)) _ _ _ (by assumption)
  have h34 : ns.getD p (-1) = 34 := by assumption
  have hpl : p < ns.length := by
    rcases Nat.lt_or_ge p ns.length with h | h
    · exact h
    · rw [List.getD_eq_getElem?_getD, List.getElem?_eq_none h] at h34; cases h34
  refine whl_start 1 ?_
  rename News _ _ _ _ => N₀
  rename Fr _ _ _ _ => F₀
  rename Heap => H
  have e0 : ∃ f q acc vacc cD t3', News g L' H [(_, listOf vacc.toArray cD), (dx, rdDict w lc q t1 t2 t3')] ∧ rdIn ns (ns.length + 1) (p + 1) = (rdIn ns f q).map (fun r => (acc ++ r.1, r.2)) ∧ q ≤ ns.length ∧ ns.length + 1 ≤ f + q ∧ IntsAre vacc acc ∧ acc.length ≤ q :=
    ⟨ns.length + 1, p + 1, [], [], _, _, N₀, by cases rdIn ns (ns.length + 1) (p + 1) <;> rfl, by omega, by omega, .nil, Nat.zero_le _⟩
  obtain ⟨f, q, acc, vacc, cD, t3', N₁, e1, hq, hf, hia, hal⟩ := e0
  clear N₀
  revert F₀ N₁
  generalize ([0, 0].length : Nat) = dummy
  generalize tk = tt
  induction f generalizing H q acc vacc cD t3' tt with
  | zero => omega
  | succ f ih =>
  intro F₀ N₁
  refine whl_turn hPE ?_
  walk_at "S"
  by_cases hc : ns.getD q (-1) = 34
  · refine WhlIf.no (by rw [hc]; rfl) ?_
    walk_at "S"
    · rename News _ _ _ _ => N₃
      rename Fr _ _ _ _ => F₃
      rename dx < _ => hlt
      dsimp only
      refine hfin _ vacc _ _ _ _ acc q h34 ?_ hia (fun b o e nb => F₃.keep _ _ (hg _ _ e (by simpa using nb))) (fresh_back hg (N₃.fresh (.head _)) ?_) (N₃.get (.head _)) (N₃.get (by k_mem))
      · rw [e1, rdIn_succ, if_pos hc, Option.map_some, List.append_nil]
      · intro q'
        have q' : @Eq Nat _ dx := List.mem_singleton.mp q'
        have hlt' : @LT.lt Nat _ dx _ := hlt
        omega
    · exact absurd hc (by assumption)
  · refine WhlIf.yes (bne_iff_ne.mpr hc) ?_
    walk_at "S"
    · rename _ = true => hin
      refine hR' (fun _ => ?_) _ _ _ (by assumption)
      have hin' : ns.getD q (-1) = -1 ∨ ns.getD q (-1) = 10 := by clear hfin hraise hR' e1 ih hc h34; generalize ns.getD q (-1) = k at *; simp at hin; omega
      rw [e1, rdIn_succ, if_neg hc, if_pos hin']
      rfl
    · rename (_ ∨ _) => hv
      rename ns.getD q (-1) = 92 => h92
      rename _ = false => hin
      rename News _ _ _ _ => N₃
      rename Fr _ _ _ _ => F₃
      have hin' : ¬ (ns.getD q (-1) = -1 ∨ ns.getD q (-1) = 10) := by rw [h92]; decide
      have hq1 : q + 1 < ns.length := getD_lt (by rcases hv with ⟨h1, _⟩ | ⟨h1 | h1, _⟩ <;> (rw [h1]; decide))
      simp only [List.push_toArray] at N₃
      refine ih (H := _) (q := q + 1 + 1) (acc := acc ++ [_]) (vacc := vacc ++ [.int _ _]) (cD := _) (t3' := _) (tt := _) ?_ (by omega) (by omega) (hia.append (.cons _ _ .nil)) (by simp; omega) F₃ (fun p hp => N₃ p (.tail _ hp))
      rw [e1, rdIn_succ, if_neg hc, if_neg hin', if_pos h92]
      rcases hv with ⟨h1, rfl⟩ | ⟨h1, rfl⟩
      · rw [if_pos h1, map_app]
      · rw [if_neg (by rcases h1 with h1 | h1 <;> (rw [h1]; decide)), if_pos h1, map_app]
    · rename ¬ _ => hno
      rename ns.getD q (-1) = 92 => h92
      have hin' : ¬ (ns.getD q (-1) = -1 ∨ ns.getD q (-1) = 10) := by rw [h92]; decide
      refine hR' (fun _ => ?_) _ _ _ (by assumption)
      rw [e1, rdIn_succ, if_neg hc, if_neg hin', if_pos h92]
      rw [if_neg (fun z => hno (.inl z)), if_neg (fun z => hno (.inr z))]
      rfl
    · rename _ ≠ 92 => h92
      rename _ = false => hin
      rename News _ _ _ _ => N₃
      rename Fr _ _ _ _ => F₃
      have hin' : ¬ (ns.getD q (-1) = -1 ∨ ns.getD q (-1) = 10) := by clear hfin hraise hR' e1 ih hc h34 h92; generalize ns.getD q (-1) = k at *; simp at hin; omega
      have hq1 : q < ns.length := getD_lt (fun z => hin' (.inl z))
      simp only [List.push_toArray] at N₃
      refine ih (H := _) (q := q + 1) (acc := acc ++ [_]) (vacc := vacc ++ [.int _ _]) (cD := _) (t3' := _) (tt := _) ?_ (by omega) (by omega) (hia.append (.cons _ _ .nil)) (by simp; omega) F₃ (fun p hp => N₃ p (.tail _ hp))
      rw [e1, rdIn_succ, if_neg hc, if_neg hin', if_neg h92, map_app]

theorem led_both {h₀ h h' : Heap} {L D r : Addr} {m : Str → Option Value} {news : List (Addr × Obj)} {o o' ob : Obj} {g : Obj → List (Addr × Obj)} (F : Fr h₀ L h m) (N : News h₀ L h news) (U : UpdF D o news g) (P : Past h [D] h') (ho : h'.get? D = some o')
    (fr : h.get? r = none) (hr : h'.get? r = some ob) : Fr h₀ L h' m ∧ News h₀ L h' ((r, ob) :: g o') ∧ AllNe r (g o') := by
  obtain ⟨F', N'⟩ := led_past F N U P ho
  obtain ⟨pre, post, rfl, hg, h1, h2⟩ := U.split
  refine ⟨F', fun p hp => ?_, allNe_of fun p hp e => ?_⟩
  · rcases List.mem_cons.mp hp with rfl | hp
    · refine ⟨hr, fun e => ?_, ?_⟩
      · obtain ⟨oL, _, _, hL, _⟩ := F.ns
        have e' : r = L := e
        rw [e', hL] at fr; cases fr
      · cases q : h₀.get? r with
        | none => rfl
        | some o => have := F.keep _ _ q; rw [fr] at this; cases this
    · exact N' p hp
  · have : ∃ o₁, h.get? p.1 = some o₁ := by
      rw [hg] at hp
      rcases List.mem_append.mp hp with hp | hp
      · exact ⟨_, (N p (List.mem_append_left _ hp)).1⟩
      · rcases List.mem_cons.mp hp with rfl | hp
        · exact ⟨_, (N (D, o) (List.mem_append_right _ (.head _))).1⟩
        · exact ⟨_, (N p (List.mem_append_right _ (.tail _ hp))).1⟩
    obtain ⟨o₁, q⟩ := this
    rw [e, fr] at q; cases q

theorem text_led {w : World} {A : Around} {E : Value → Shared → Prop} {s : Shared} {h₀ : Heap} {base : Bs} {outer : List Env} {L : Addr} {m mg mb : Str → Option Value} {mean : ExcName → Option Value} {news : List (Addr × Obj)} {u : Obj → List (Addr × Obj)} {Q : Value → Shared → Prop}
    {x dx lc : Addr} {p : Nat} {t1 t2 t3 : Tok} {c : Nat} {vs : List Value} {ns : List Int}
    (F : Fr h₀ L s.heap m) (N : News h₀ L s.heap news) (X₀ : (hd.heap_1 w.params).In h₀) (T : Top headView (looseW headView [Str.ofString "EXACT"]) mean mg mb h₀) (KB : BelowM A base outer news s.heap)
    (hD : A.depth ≤ 580) (hU : A.units ≤ 1800) (hh : A.handled = none) (hx : s.heap.get? x = some (instObj 198 dx)) (U : UpdF dx (rdDict w lc p t1 t2 t3) news u) (hne : @Ne Nat x dx)
    (hl : h₀.get? lc = some (listOf vs.toArray c)) (hi : IntsAre vs ns) (hz : ns.length ≤ 1000) (hp : p ≤ 1000)
    (hraise : (ns.getD p (-1) = 34 → rdIn ns (ns.length + 1) (p + 1) = none) → ∀ e h' tk, Raised base outer h' e → E (.ref e) { s with heap := h', toks := tk })
    (hfin : ∀ r vs' c' t3' h' tk' ts p', ns.getD p (-1) = 34 ∧ rdIn ns (ns.length + 1) (p + 1) = some (ts, p') → IntsAre vs' ts → Fr h₀ L h' m → News h₀ L h' ((r, listOf vs'.toArray c') :: u (rdDict w lc (p' + 1) t1 t2 t3')) →
      AllNe r (u (rdDict w lc (p' + 1) t1 t2 t3')) → Q (.ref r) { s with heap := h', toks := tk' }) :
    wpAny (model PySem.Challenge.rw_ok0052_01.row.prog w) A (call (.ref 174) [.ref x]) Q E s := by
  have hm : (dx, rdDict w lc p t1 t2 t3) ∈ news := by
    obtain ⟨pre, post, rfl, _, _, _⟩ := U.split
    exact List.mem_append_right _ (.head _)
  have z := N _ hm
  refine text_spec F.keep X₀ T ⟨KB.k, fun q hq => by rw [List.mem_singleton.mp hq]; exact KB.apart _ hm⟩ hD hU hh ⟨hx, z.1, z.2.2, hne, hl, hi, hz⟩ hp (fun r vs' c' t3' h' tk' ts p' h34 hr hv a b d e => ?_) hraise
  obtain ⟨F', N', A'⟩ := led_both F N U a e b d
  exact hfin r vs' c' t3' h' tk' ts p' ⟨h34, hr⟩ hv F' N' A'
local macro_rules | `(tactic| walk_at "call ref") => ln_line "call Value.ref=174 _ _" true ``text_led "F N X T K d u hh x U ne l i z p _ _" "RD9 U:U NLIZ p:o" "@TWO r' vs' c' t3' h' tk' ts' p' hr' hv' F' N' l'" [`(tactic| have b' := rdIn_spec hr'.2), `(tactic| try simp only [AllNe, and_true] at l')]
/-- figures from a place on: what they say so far, and the place behind them -/
noncomputable def figs (ns : List Int) : Nat → Nat → Int → Int × Nat
  | 0, p, a => (a, p)
  | f + 1, p, a => if 48 ≤ ns.getD p (-1) ∧ ns.getD p (-1) ≤ 57 then figs ns f (p + 1) (10 * a + ns.getD p (-1) - 48) else (a, p)
theorem figs_succ (ns : List Int) (f p : Nat) (a : Int) : figs ns (f + 1) p a = if 48 ≤ ns.getD p (-1) ∧ ns.getD p (-1) ≤ 57 then figs ns f (p + 1) (10 * a + ns.getD p (-1) - 48) else (a, p) := rfl
/-- the number at a place -/
noncomputable def rdNum (ns : List Int) (p : Nat) : Option (Int × Nat) :=
  let r := figs ns ns.length p 0
  if r.2 = p ∨ (ns.getD p (-1) = 48 ∧ p + 1 < r.2) then none else some r
theorem upd_twice {M : Str → Option Value} {x : Str} {a b : Value} : (fun y => if y = x then some a else if y = x then some b else M y) = fun y => if y = x then some a else M y := by
  funext y
  by_cases e : y = x
  · rw [if_pos e, if_pos e]
  · rw [if_neg e, if_neg e, if_neg e]
theorem whl_split {prog : Program} {w : World} {A : Around} {E : Value → Shared → Prop} {env : Env} {test : PySem.Expr} {body orelse : List Stmt} {Q : Flow → Shared → Prop} {n : Nat} {s : Shared} (R : (Flow → Shared → Prop) → Prop) (h1 : R Q)
    (h2 : ∀ Q', R Q' → WhlRest prog w A E env test body orelse Q' n s) : WhlRest prog w A E env test body orelse Q n s := h2 Q h1
theorem number_spec {w : World} {A : Around} {E : Value → Shared → Prop} {s : Shared} {V : Heap} {base : Bs} {outer : List Env} {mg mb : Str → Option Value} {mean : ExcName → Option Value} {Q : Value → Shared → Prop}
    {x dx lc : Addr} {p : Nat} {t1 t2 t3 : Tok} {c : Nat} {vs : List Value} {ns : List Int}
    (hV : Grow V s.heap) (X₀ : (hd.heap_1 w.params).In V) (T : Top headView (looseW headView [Str.ofString "EXACT"]) mean mg mb V) (KB : BelowM A base outer [(dx, rdDict w lc p t1 t2 t3)] s.heap)
    (hD : A.depth ≤ 580) (hU : A.units ≤ 1800) (hh : A.handled = none) (rd : RdAt w V s.heap x dx lc p t1 t2 t3 c vs ns) (hp : p ≤ ns.length)
    (hfin : ∀ v t t3' h' tk' p', rdNum ns p = some (v, p') → Past s.heap [dx] h' → h'.get? dx = some (rdDict w lc p' t1 t2 t3') → Q (.int v t) { s with heap := h', toks := tk' })
    (hraise : rdNum ns p = none → ∀ e h' tk, Raised base outer h' e → E (.ref e) { s with heap := h', toks := tk }) :
    wpAny (model PySem.Challenge.rw_ok0052_01.row.prog w) A (call (.ref 188) [.ref x]) Q E s := by
  obtain ⟨hx, hdx, hdV, hne, hl, hi, hz⟩ := rd
  revert X₀; k_fill; intro X₀
  refine wpAny_call ?_
  refine' enterR (rdNum ns p = none) [(dx, rdDict w lc p t1 t2 t3)] [("self", .ref x)] hV X₀ T (fun q hq => by rw [List.mem_singleton.mp hq]; exact ⟨hdx, hdV⟩) KB ?k6 ?k7 ?k8 ?k9 ?kB ?R ?_ ?c2 ?c3 ?c4 ?c5
  case R => exact hraise
  walk_at "ENTER"
  intro g L' h₁ E' hg hL F' N' X' T' K' hR' hPE
  try dsimp only
  have hx' := hg _ _ hx (by simpa using hne)
  have hVg : Grow V g := grow_hide hV hdV hg
  have hl' := hVg _ _ hl
  have hll : g.IsList lc vs.toArray := ⟨_, hl', rfl, _, rfl⟩
  have hlen := hi.length
  walk_at "S"
  refine whl_start 1 ?_
  try dsimp only
  k_sweep
  rename News _ _ _ _ => N₀
  rename Fr _ _ _ _ => F₀
  rename Heap => H
  have e0 : ∃ f q a ta t3', Fr g L' H (fun y => if y = "found" then some (.int a ta) else if y = "begin" then some (.int p t3) else List.lookup y ([("self", .ref x)] : List (Str × Value)).reverse) ∧ News g L' H [(dx, rdDict w lc q t1 t2 t3')] ∧ figs ns ns.length p 0 = figs ns f q a ∧ q ≤ ns.length ∧ ns.length ≤ f + q ∧ p ≤ q :=
    ⟨ns.length, p, 0, _, _, F₀, N₀, rfl, hp, by omega, Nat.le_refl _⟩
  obtain ⟨f, q, a, ta, t3', F₁, N₁, e1, hq, hf, hpq⟩ := e0
  clear F₀ N₀
  generalize s.toks + _ + 1 + 1 + 1 + 1 = tt
  refine whl_split (fun Q' => Hold (∀ H q a ta t3' tk, Fr g L' H (fun y => if y = "found" then some (.int a ta) else if y = "begin" then some (.int p t3) else List.lookup y ([("self", .ref x)] : List (Str × Value)).reverse) → News g L' H [(dx, rdDict w lc q t1 t2 t3')] →
    figs ns ns.length p 0 = (a, q) → q ≤ ns.length → p ≤ q → Q' .next { s with heap := H, toks := tk })) ?_ ?_
  · clear F₁ N₁ e1 hq hf hpq
    clear H q a ta t3' f tt
    unfold Hold
    intro H q a ta t3' tk F₁ N₁ hex hq hpq
    try dsimp only
    have h0 : p < ns.length → ns.getD (p : Int).toNat 0 = ns.getD p (-1) := fun hp => by
      simp only [Int.toNat_natCast, List.getD_eq_getElem?_getD, List.getElem?_eq_getElem hp, Option.getD_some]
    have hrd : rdNum ns p = if q = p ∨ (ns.getD p (-1) = 48 ∧ p + 1 < q) then none else some (a, q) := by unfold rdNum; rw [hex]
    walk_at "S"
    all_goals (
      first
      | (refine hR' ?_ _ _ _ (by assumption); rw [hrd, if_pos (by clear hfin hraise hR'; omega)])
      | (rename News _ _ _ _ => N₃
         rename Fr _ _ _ _ => F₃
         dsimp only
         exact hfin a ta _ _ _ q (by rw [hrd, if_neg (by clear hfin hraise hR'; omega)]) (fun b o e nb => F₃.keep _ _ (hg _ _ e (by simpa using nb))) (N₃.get (by k_mem))))
  · intro Q' hQ'
    change Hold _ at hQ'
    clear hfin hraise hR'
    revert F₁ N₁
    induction f generalizing H q a ta t3' tt with
    | zero =>
      intro F₁ N₁
      have hqe : q = ns.length := by omega
      have hgq : ns.getD q (-1) = -1 := by rw [List.getD_eq_getElem?_getD, List.getElem?_eq_none (by omega)]; rfl
      refine whl_turn hPE ?_
      walk_at "S"
      rename News _ _ _ _ => N₃
      rename Fr _ _ _ _ => F₃
      exact hQ' _ q a _ _ _ F₃ N₃ e1 hq hpq
    | succ f ih =>
    intro F₁ N₁
    refine whl_turn hPE ?_
    walk_at "S"
    · by_cases hc : ns.getD q (-1) ≤ 57
      · refine WhlIf.yes (decide_eq_true hc) ?_
        walk_at "S"
        rename News _ _ _ _ => N₃
        rename Fr _ _ _ _ => F₃
        have hq1 : q < ns.length := getD_lt (by omega)
        try rw [upd_twice] at F₃
        refine ih (H := _) (q := q + 1) (a := 10 * a + ns.getD q (-1) - 48) (ta := _) (t3' := _) (tt := _) ?_ (by omega) (by omega) (by omega) F₃ N₃
        rw [e1, figs_succ, if_pos ⟨by omega, hc⟩]
      · refine WhlIf.no (decide_eq_false hc) ?_
        walk_at "S"
        rename News _ _ _ _ => N₃
        rename Fr _ _ _ _ => F₃
        exact hQ' _ q a _ _ _ F₃ N₃ (by rw [e1, figs_succ, if_neg (fun z => hc z.2)]) hq hpq
    all_goals (
      rename News _ _ _ _ => N₃
      rename Fr _ _ _ _ => F₃
      exact hQ' _ q a _ _ _ F₃ N₃ (by rw [e1, figs_succ, if_neg (by omega)]) hq hpq)


theorem number_led {w : World} {A : Around} {E : Value → Shared → Prop} {s : Shared} {h₀ : Heap} {base : Bs} {outer : List Env} {L : Addr} {m mg mb : Str → Option Value} {mean : ExcName → Option Value} {news : List (Addr × Obj)} {u : Obj → List (Addr × Obj)} {Q : Value → Shared → Prop}
    {x dx lc : Addr} {p : Nat} {t1 t2 t3 : Tok} {c : Nat} {vs : List Value} {ns : List Int}
    (F : Fr h₀ L s.heap m) (N : News h₀ L s.heap news) (X₀ : (hd.heap_1 w.params).In h₀) (T : Top headView (looseW headView [Str.ofString "EXACT"]) mean mg mb h₀) (KB : BelowM A base outer news s.heap)
    (hD : A.depth ≤ 580) (hU : A.units ≤ 1800) (hh : A.handled = none) (hx : s.heap.get? x = some (instObj 198 dx)) (U : UpdF dx (rdDict w lc p t1 t2 t3) news u) (hne : @Ne Nat x dx)
    (hl : h₀.get? lc = some (listOf vs.toArray c)) (hi : IntsAre vs ns) (hz : ns.length ≤ 1000) (hp : p ≤ ns.length)
    (hraise : rdNum ns p = none → ∀ e h' tk, Raised base outer h' e → E (.ref e) { s with heap := h', toks := tk })
    (hfin : ∀ v t t3' h' tk' p', rdNum ns p = some (v, p') → Fr h₀ L h' m → News h₀ L h' (u (rdDict w lc p' t1 t2 t3')) → Q (.int v t) { s with heap := h', toks := tk' }) :
    wpAny (model PySem.Challenge.rw_ok0052_01.row.prog w) A (call (.ref 188) [.ref x]) Q E s := by
  have hm : (dx, rdDict w lc p t1 t2 t3) ∈ news := by
    obtain ⟨pre, post, rfl, _, _, _⟩ := U.split
    exact List.mem_append_right _ (.head _)
  have z := N _ hm
  refine number_spec F.keep X₀ T ⟨KB.k, fun q hq => by rw [List.mem_singleton.mp hq]; exact KB.apart _ hm⟩ hD hU hh ⟨hx, z.1, z.2.2, hne, hl, hi, hz⟩ hp (fun v t t3' h' tk' p' hr a b => ?_) hraise
  obtain ⟨F', N'⟩ := led_past F N U a b
  exact hfin v t _ h' tk' p' hr F' N'

theorem figs_spec {ns : List Int} : ∀ {f q : Nat} {a : Int}, 0 ≤ a → q ≤ ns.length → q ≤ (figs ns f q a).2 ∧ (figs ns f q a).2 ≤ ns.length ∧ 0 ≤ (figs ns f q a).1 := by
  intro f
  induction f with
  | zero => intro q a ha hq; exact ⟨Nat.le_refl _, hq, ha⟩
  | succ f ih =>
    intro q a ha hq
    rw [figs_succ]
    split
    · rename_i h
      have hq1 : q < ns.length := getD_lt (by omega)
      obtain ⟨x, y, z⟩ := ih (q := q + 1) (a := 10 * a + ns.getD q (-1) - 48) (by omega) hq1
      exact ⟨by omega, y, z⟩
    · exact ⟨Nat.le_refl _, hq, ha⟩
theorem rdNum_spec {ns : List Int} {p p' : Nat} {v : Int} (hp : p ≤ ns.length) (h : rdNum ns p = some (v, p')) : p < p' ∧ p' ≤ ns.length ∧ 0 ≤ v := by
  unfold rdNum at h
  obtain ⟨a, b, c⟩ := figs_spec (ns := ns) (f := ns.length) (q := p) (a := 0) (Int.le_refl _) hp
  dsimp only at h
  split at h
  · cases h
  · rename_i hn
    have e := Option.some.inj h
    rw [e] at a b c hn
    have a : p ≤ p' := a
    have hn : ¬ (p' = p ∨ _) := hn
    exact ⟨by omega, b, c⟩
local macro_rules | `(tactic| walk_at "call ref") => ln_line "call Value.ref=188 _ _" true ``number_led "F N X T K d u hh x U ne l i z p _ _" "RD9 U:U NLIZ p:o" "@TWO v' t' t3' h' tk' p' hr' F' N'" [`(tactic| have b' := rdNum_spec (by omega) hr')]
section
variable {prog : Program} {w : World} {A : Around} {env : Env} {E : Value → Shared → Prop} {s₁ : Shared} {h₀ : Heap} {x : Str} {body : List Stmt} {Q : Flow → Shared → Prop}
/-- a for over a list whose body stores no other name -/
theorem map_in {M : Str → Option Value} {x a : Str} {v : Value} {o : Option Value} (h : M x = some v) : (fun y => if y = a then o else if y = x then some v else M y) = fun y => if y = a then o else M y := by
  funext y
  by_cases e : y = a
  · rw [if_pos e, if_pos e]
  · rw [if_neg e, if_neg e]
    by_cases e' : y = x
    · rw [if_pos e', e', h]
    · rw [if_neg e']
theorem for_listK {l L : Addr} {vs : List Value} {m : Str → Option Value} {news : List (Addr × Obj)} (J : Nat → List (Addr × Obj) → Prop)
    (hLe : env.locals = L) (hh : A.handled = none) (hl : s₁.heap.IsList l vs.toArray) (hlL : l ≠ L) (F : Fr h₀ L s₁.heap m) (N : News h₀ L s₁.heap news) (hln : ∀ p ∈ news, p.1 ≠ l) (h0 : J 0 news)
    (turn : ∀ i v news₁ h tk own s₂, s₂ = { s₁ with heap := h, toks := tk } → vs[i]? = some v → J i news₁ → Off news₁ own → Fr h₀ L h (fun y => if y = x then some v else m y) → News h₀ L h (news₁ ++ own) →
      wpAny (model prog w) A (execs body env) (TurnEnd h₀ L s₁ own (fun m' n' => (∃ o, m' = fun y => if y = x then o else m y) ∧ J (i + 1) n') Q) E s₂)
    (done : ∀ o news' h tk, J vs.length news' → Fr h₀ L h (fun y => if y = x then o else m y) → News h₀ L h news' → Q .next { s₁ with heap := h, toks := tk }) :
    wpAny (model prog w) A (pyIter (.ref l)) (fun it s₂ => LoopAtV prog w A h₀ env x body Q E it s₂) E s₁ := by
  refine for_list (fun i m₁ news₁ => (∃ o, m₁ = fun y => if y = x then o else m y) ∧ J i news₁) hLe hh hl hlL F N hln ⟨⟨m x, ?_⟩, h0⟩ ?_ ?_
  · funext y
    by_cases e : y = x
    · rw [if_pos e, e]
    · rw [if_neg e]
  · rintro i v m₁ news₁ h tk own s₂ hs hv ⟨⟨o, rfl⟩, hJ⟩ hoff F₁ N₁
    have e : (fun y => if y = x then some v else if y = x then o else m y) = fun y => if y = x then some v else m y := by
      funext y
      by_cases e : y = x
      · rw [if_pos e, if_pos e]
      · rw [if_neg e, if_neg e, if_neg e]
    rw [e] at F₁
    exact turn i v news₁ h tk own s₂ hs hv hJ hoff F₁ N₁
  · rintro m' news' h tk ⟨⟨o, rfl⟩, hJ⟩ F' N'
    exact done o news' h tk hJ F' N'
end
/-- the end of a row: a blank and the word «exact», or nothing; then the row end -/
abbrev exOk (ns : List Int) (q : Nat) : Prop := ns.getD (q + 1) (-1) = 101 ∧ ns.getD (q + 2) (-1) = 120 ∧ ns.getD (q + 3) (-1) = 97 ∧ ns.getD (q + 4) (-1) = 99 ∧ ns.getD (q + 5) (-1) = 116
/-- a row at a place, and the place behind it -/
noncomputable def rdEntry (ns : List Int) (p : Nat) : Option (Row × Nat) :=
  if ns.getD p (-1) = 34 then
    match rdIn ns (ns.length + 1) (p + 1) with
    | none => none
    | some (w, p1) =>
      if ns.getD (p1 + 1) (-1) = 32 then
        match rdNum ns (p1 + 1 + 1) with
        | none => none
        | some (u, p2) =>
          if ns.getD p2 (-1) = 32 ∧ ns.getD (p2 + 1) (-1) = 34 then
            match rdIn ns (ns.length + 1) (p2 + 1 + 1) with
            | none => none
            | some (c, p3) =>
              if ns.getD (p3 + 1) (-1) = 32 then
                if exOk ns (p3 + 1) ∧ ns.getD (p3 + 7) (-1) = 10 then some (⟨w, u, c, true⟩, p3 + 8) else none
              else if ns.getD (p3 + 1) (-1) = 10 then some (⟨w, u, c, false⟩, p3 + 2) else none
          else none
      else none
  else none
section
variable {ns w c : List Int} {p p1 p2 p3 : Nat} {u : Int}
theorem ent1 (h : ns.getD p (-1) = 34 → rdIn ns (ns.length + 1) (p + 1) = none) : rdEntry ns p = none := by
  unfold rdEntry
  split
  · rw [h (by assumption)]
  · rfl
theorem ent2 (h1 : ns.getD p (-1) = 34 ∧ rdIn ns (ns.length + 1) (p + 1) = some (w, p1)) (h : ns.getD (p1 + 1) (-1) ≠ 32) : rdEntry ns p = none := by
  unfold rdEntry
  rw [if_pos h1.1, h1.2]
  exact if_neg h
theorem ent3 (h1 : ns.getD p (-1) = 34 ∧ rdIn ns (ns.length + 1) (p + 1) = some (w, p1)) (h2 : ns.getD (p1 + 1) (-1) = 32) (h : rdNum ns (p1 + 1 + 1) = none) : rdEntry ns p = none := by
  unfold rdEntry
  rw [if_pos h1.1, h1.2]
  dsimp only
  rw [if_pos h2, h]
theorem ent4 (h1 : ns.getD p (-1) = 34 ∧ rdIn ns (ns.length + 1) (p + 1) = some (w, p1)) (h2 : ns.getD (p1 + 1) (-1) = 32) (h3 : rdNum ns (p1 + 1 + 1) = some (u, p2)) (h : ns.getD p2 (-1) ≠ 32) : rdEntry ns p = none := by
  unfold rdEntry
  rw [if_pos h1.1, h1.2]
  dsimp only
  rw [if_pos h2, h3]
  exact if_neg (fun z => h z.1)
theorem ent5 (h1 : ns.getD p (-1) = 34 ∧ rdIn ns (ns.length + 1) (p + 1) = some (w, p1)) (h2 : ns.getD (p1 + 1) (-1) = 32) (h3 : rdNum ns (p1 + 1 + 1) = some (u, p2)) (h : ns.getD (p2 + 1) (-1) = 34 → rdIn ns (ns.length + 1) (p2 + 1 + 1) = none) : rdEntry ns p = none := by
  unfold rdEntry
  rw [if_pos h1.1, h1.2]
  dsimp only
  rw [if_pos h2, h3]
  dsimp only
  split
  · rename_i h4
    rw [h h4.2]
  · rfl
theorem ent6 (h1 : ns.getD p (-1) = 34 ∧ rdIn ns (ns.length + 1) (p + 1) = some (w, p1)) (h2 : ns.getD (p1 + 1) (-1) = 32) (h3 : rdNum ns (p1 + 1 + 1) = some (u, p2)) (h4 : ns.getD p2 (-1) = 32) (h5 : ns.getD (p2 + 1) (-1) = 34 ∧ rdIn ns (ns.length + 1) (p2 + 1 + 1) = some (c, p3)) :
    rdEntry ns p = if ns.getD (p3 + 1) (-1) = 32 then (if exOk ns (p3 + 1) ∧ ns.getD (p3 + 7) (-1) = 10 then some (⟨w, u, c, true⟩, p3 + 8) else none) else if ns.getD (p3 + 1) (-1) = 10 then some (⟨w, u, c, false⟩, p3 + 2) else none := by
  unfold rdEntry
  rw [if_pos h1.1, h1.2]
  dsimp only
  rw [if_pos h2, h3]
  dsimp only
  rw [if_pos ⟨h4, h5.1⟩, h5.2]
end
local macro_rules | `(tactic| walk_at "SF") => ln_walk ["eval Expr.ListComp:4 _", "exec Stmt.While:4 _", "WHL", "EX"]
theorem entry_end {s g h' : Heap} {L dx ex ed r2 r1 : Addr} {o1 o2 o3 o4 o5 : Obj} (N : News g L h' [(ex, o1), (ed, o2), (r2, o3), (r1, o4), (dx, o5)]) (hg : ∀ b o, s.get? b = some o → b ∉ [dx] → g.get? b = some o)
    (e1 : @LT.lt Nat _ ed ex) (e2 : dx < ed) (e3 : @Ne Nat r2 dx) (e4 : @Ne Nat r1 dx) : ∀ q ∈ [(ex, o1), (ed, o2), (r2, o3), (r1, o4)], s.get? q.1 = none ∧ h'.get? q.1 = some q.2 := by
  intro q hq
  rcases List.mem_cons.mp hq with rfl | hq
  · exact ⟨fresh_back hg (N.fresh (.head _)) fun z => Nat.ne_of_gt (Nat.lt_trans e2 e1) (List.mem_singleton.mp z), N.get (.head _)⟩
  rcases List.mem_cons.mp hq with rfl | hq
  · exact ⟨fresh_back hg (N.fresh (.tail _ (.head _))) fun z => Nat.ne_of_gt e2 (List.mem_singleton.mp z), N.get (.tail _ (.head _))⟩
  rcases List.mem_cons.mp hq with rfl | hq
  · exact ⟨fresh_back hg (N.fresh (.tail _ (.tail _ (.head _)))) fun z => e3 (List.mem_singleton.mp z), N.get (.tail _ (.tail _ (.head _)))⟩
  rw [List.mem_singleton.mp hq]
  exact ⟨fresh_back hg (N.fresh (.tail _ (.tail _ (.tail _ (.head _))))) fun z => e4 (List.mem_singleton.mp z), N.get (.tail _ (.tail _ (.tail _ (.head _))))⟩
/-- the row read but for « exact»: what stands ahead of the loop over its letters -/
inductive EntAt (w : World) (g : Heap) (L' : Addr) (H : Heap) (D x dx lc : Addr) (p : Nat) (t1 t2 : Tok) (ns : List Int) : Prop
  | mk (nD : Nat) (l9 : Addr) (o9 : Obj) (r2 : Addr) (vs2 : List Value) (c2 : Nat) (r1 : Addr) (vs1 : List Value) (c1 : Nat) (wd cs : List Int) (u : Int) (tu : Tok) (bb : Bool) (p1 p2 p3 : Nat) (t3' : Tok) (M : Str → Option Value)
    (F : Fr g L' H M) (N : News g L' H [(D, listOf [.int 32 338, .int 101 342, .int 120 343, .int 97 344, .int 99 345, .int 116 346].toArray nD), (l9, o9), (r2, listOf vs2.toArray c2), (r1, listOf vs1.toArray c1), (dx, rdDict w lc (p3 + 1) t1 t2 t3')])
    (i1 : IntsAre vs1 wd) (i2 : IntsAre vs2 cs) (k1 : ns.getD p (-1) = 34 ∧ rdIn ns (ns.length + 1) (p + 1) = some (wd, p1)) (k2 : ns.getD (p1 + 1) (-1) = 32) (k3 : rdNum ns (p1 + 1 + 1) = some (u, p2)) (k4 : ns.getD p2 (-1) = 32)
    (k5 : ns.getD (p2 + 1) (-1) = 34 ∧ rdIn ns (ns.length + 1) (p2 + 1 + 1) = some (cs, p3)) (k6 : ns.getD (p3 + 1) (-1) = 32) (hbb : bb = true) (m1 : M "self" = some (.ref x)) (m2 : M "word" = some (.ref r1)) (m3 : M "used" = some (.int u tu))
    (m4 : M "codes" = some (.ref r2)) (m5 : M "is_exact" = some (.bool bb)) (n1 : @Ne Nat r1 dx) (n2 : @Ne Nat r2 dx) (n3 : @Ne Nat r1 r2) (n4 : @Ne Nat r1 D) (n5 : @Ne Nat r2 D) (n6 : @Ne Nat dx D)
theorem entry_spec {w : World} {A : Around} {E : Value → Shared → Prop} {s : Shared} {V : Heap} {base : Bs} {outer : List Env} {mg mb : Str → Option Value} {mean : ExcName → Option Value} {Q : Value → Shared → Prop}
    {x dx lc : Addr} {p : Nat} {t1 t2 t3 : Tok} {c : Nat} {vs : List Value} {ns : List Int}
    (hV : Grow V s.heap) (X₀ : (hd.heap_1 w.params).In V) (T : Top headView (looseW headView [Str.ofString "EXACT"]) mean mg mb V) (KB : BelowM A base outer [(dx, rdDict w lc p t1 t2 t3)] s.heap)
    (hD : A.depth ≤ 570) (hU : A.units ≤ 1700) (hh : A.handled = none) (rd : RdAt w V s.heap x dx lc p t1 t2 t3 c vs ns) (hp : p < ns.length)
    (hfin : ∀ ex ed (es : List (Addr × Obj)) t3' h' tk' r p', rdEntry ns p = some (r, p') → EntryV w (fun a o => (a, o) ∈ es) ed ex r → (∀ q ∈ es, s.heap.get? q.1 = none ∧ h'.get? q.1 = some q.2) → Past s.heap [dx] h' → h'.get? dx = some (rdDict w lc p' t1 t2 t3') → Q (.ref ex) { s with heap := h', toks := tk' })
    (hraise : rdEntry ns p = none → ∀ e h' tk, Raised base outer h' e → E (.ref e) { s with heap := h', toks := tk }) :
    wpAny (model PySem.Challenge.rw_ok0052_01.row.prog w) A (call (.ref 195) [.ref x]) Q E s := by
  obtain ⟨hx, hdx, hdV, hne, hl, hi, hz⟩ := rd
  revert X₀; k_fill; intro X₀
  refine wpAny_call ?_
  refine' enterR (rdEntry ns p = none) [(dx, rdDict w lc p t1 t2 t3)] [("self", .ref x)] hV X₀ T (fun q hq => by rw [List.mem_singleton.mp hq]; exact ⟨hdx, hdV⟩) KB ?k6 ?k7 ?k8 ?k9 ?kB ?R ?_ ?c2 ?c3 ?c4 ?c5
  case R => exact hraise
  walk_at "ENTER"
  intro g L' h₁ E' hg hL F' N' X' T' K' hR' hPE
  try dsimp only
  have hx' := hg _ _ hx (by simpa using hne)
  have hVg : Grow V g := grow_hide hV hdV hg
  have hl' := hVg _ _ hl
  walk_at "S"
  · have hE : g.IsList 108 _ := ⟨_, X' 108 _ (by k_is), rfl, _, rfl⟩
    refine For_invV g rfl rfl ?_ (hE := hPE)
    walk_at "S"
    rename Fr _ _ _ _ => F₀
    rename News _ _ _ _ => N₀
    rename IntsAre _ _ => i2
    rename (_ ∧ rdIn _ _ _ = some _) => k5
    rename Addr => D
    have e0 : EntAt w g L' _ D x dx lc p t1 t2 ns :=
      ⟨_, _, _, _, _, _, _, _, _, _, _, _, _, _, _, _, _, _, _, F₀, N₀, by assumption, i2, by assumption, by assumption, by assumption, by assumption, k5, by assumption, beq_iff_eq.mpr (by assumption), rfl, rfl, rfl, rfl, rfl, ?_, ?_, ?_, ?_, ?_, ?_⟩
    rotate_left
    · rename @Ne Nat dx _ => ld
      exact Ne.symm ld
    · rename (@Ne Nat _ _ ∧ @Ne Nat dx _) => lr
      exact Ne.symm lr.2
    · rename (@Ne Nat _ _ ∧ @Ne Nat dx _) => lr
      exact lr.1
    · rename (_ < D ∧ _ < D ∧ _ < D ∧ dx < D) => lD
      exact Nat.ne_of_lt lD.2.2.1
    · rename (_ < D ∧ _ < D ∧ _ < D ∧ dx < D) => lD
      exact Nat.ne_of_lt lD.2.1
    · rename (_ < D ∧ _ < D ∧ _ < D ∧ dx < D) => lD
      exact Nat.ne_of_lt lD.2.2.2
    clear F₀ N₀
    obtain ⟨nD, l9, o9, r2, vs2, c2, r1, vs1, c1, wd, cs, u, tu, bb, p1, p2, p3, t3', M, F₁, N₁, i1, i2, k1, k2, k3, k4, k5, k6, hbb, m1, m2, m3, m4, m5, n1, n2, n3, n4, n5, n6⟩ := e0
    have b3 := rdIn_spec k5.2
    have hen := ent6 k1 k2 k3 k4 k5
    rw [if_pos k6] at hen
    refine for_listK (fun i news => ∃ t3', news = [(r2, listOf vs2.toArray c2), (r1, listOf vs1.toArray c1), (dx, rdDict w lc (p3 + 1 + i) t1 t2 t3')] ∧ ∀ j, j < i → ns.getD (p3 + 1 + j) (-1) = ([32, 101, 120, 97, 99, 116] : List Int).getD j 0)
      rfl hh ⟨_, N₁.get (.head _), rfl, _, rfl⟩ (N₁ _ (.head _)).2.1 F₁ (fun p hp => N₁ p (.tail _ (.tail _ hp))) ?_ ⟨t3', rfl, fun j hj => absurd hj (Nat.not_lt_zero _)⟩ ?_ ?_
    · intro q hq
      rcases List.mem_cons.mp hq with rfl | hq
      · exact n5
      · rcases List.mem_cons.mp hq with rfl | hq
        · exact n4
        · rw [List.mem_singleton.mp hq]; exact n6
    · rintro i v news₁ h tk own s₂ rfl hv ⟨t3'', rfl, hall⟩ hoff F₂ N₂
      obtain ⟨k, t, rfl, hk⟩ := ints_at (.cons 32 338 (.cons 101 342 (.cons 120 343 (.cons 97 344 (.cons 99 345 (.cons 116 346 .nil)))))) hv
      have hi6 : i < 6 := (List.getElem?_eq_some_iff.mp hk).1
      rw [map_is m1] at F₂
      simp only [List.cons_append, List.nil_append] at N₂
      clear F₁ N₁
      have ho1 := hoff.tail.tail.ne
      walk_at "S"
      · rename Fr _ _ _ _ => F₃
        rename News _ _ _ _ => N₃
        refine ⟨_, _, _, [(r2, _), (r1, _), (dx, _)], rfl, map_in m1 ▸ F₃, N₃, (hoff.to (hoff.tail.to (hoff.tail.tail.to Off.nil))), ⟨some _, rfl⟩, _, rfl, fun j hj => ?_⟩
        rcases Nat.lt_or_ge j i with hj' | hj'
        · exact hall j hj'
        · have e : j = i := by omega
          subst e
          rw [show ([32, 101, 120, 97, 99, 116] : List Int).getD j 0 = k from by rw [List.getD_eq_getElem?_getD, hk]; rfl]
          assumption
      · refine hR' ?_ _ _ _ (by assumption)
        rw [hen, if_neg]
        rintro ⟨⟨x1, x2, x3, x4, x5⟩, _⟩
        rename _ ≠ _ => hne
        match i, hk with
        | 0, hk => cases hk; exact hne k6
        | 1, hk => cases hk; exact hne x1
        | 2, hk => cases hk; exact hne x2
        | 3, hk => cases hk; exact hne x3
        | 4, hk => cases hk; exact hne x4
        | 5, hk => cases hk; exact hne x5
        | n + 6, hk => omega
    · rintro o news' h tk ⟨t3'', rfl, hall⟩ F₂ N₂
      rw [map_is m1, map_is m2, map_is m3, map_is m4, map_is m5] at F₂
      simp only [List.length_cons, List.length_nil, Nat.reduceAdd] at N₂ hall
      clear F₁ N₁
      walk_at "S"
      · rename Fr _ _ _ _ => F₃
        rename News _ _ _ _ => N₃
        dsimp only
        subst hbb
        rename (_ ∧ _ ∧ dx < _) => l2
        rename @LT.lt Nat _ _ _ => l1
        refine hfin _ _ [(_, _), (_, _), (r2, _), (r1, _)] _ _ _ ⟨wd, u, cs, true⟩ (p3 + 8) ?_ ⟨r1, r2, vs1, vs2, _, _, _, _, _, c1, c2, .head _, .tail _ (.head _), .tail _ (.tail _ (.tail _ (.head _))), .tail _ (.tail _ (.head _)), i1, i2⟩ (entry_end N₃ hg l1 l2.2.2 n2 n1) (fun b o e nb => F₃.keep _ _ (hg _ _ e (by simpa using nb))) (N₃.get (by k_mem))
        rw [hen, if_pos ⟨⟨hall 1 (by omega), hall 2 (by omega), hall 3 (by omega), hall 4 (by omega), hall 5 (by omega)⟩, by assumption⟩]
      · refine hR' ?_ _ _ _ (by assumption)
        rw [hen, if_neg]
        exact fun z => absurd z.2 (by assumption)
  all_goals (try (refine hR' ?_ _ _ _ (by assumption); first
    | exact ent1 (by assumption)
    | exact ent2 (by assumption) (by assumption)
    | exact ent3 (by assumption) (by assumption) (by assumption)
    | exact ent4 (by assumption) (by assumption) (by assumption) (by assumption)
    | exact ent5 (by assumption) (by assumption) (by assumption) (by assumption)))
  · rename Fr _ _ _ _ => F₃
    rename News _ _ _ _ => N₃
    rename IntsAre _ _ => i2
    dsimp only
    rename @Ne Nat dx _ => ld
    rename (@Ne Nat _ _ ∧ @Ne Nat dx _) => lr
    rename (_ ∧ _ ∧ dx < _) => l2
    rename @LT.lt Nat _ _ _ => l1
    rename (_ ∧ rdIn _ _ _ = some _) => k5
    rename _ ≠ (32 : Int) => k6
    rw [beq_false_of_ne k6] at N₃
    have hen : rdEntry ns p = _ := ent6 (by assumption) (by assumption) (by assumption) (by assumption) k5
    rw [if_neg k6, if_pos (by assumption)] at hen
    refine hfin _ _ _ _ _ _ _ _ hen (by exact ⟨_, _, _, _, _, _, _, _, _, _, _, .head _, .tail _ (.head _), .tail _ (.tail _ (.tail _ (.head _))), .tail _ (.tail _ (.head _)), by assumption, i2⟩) (entry_end N₃ hg l1 l2.2.2 (Ne.symm lr.2) (Ne.symm ld)) (fun b o e nb => F₃.keep _ _ (hg _ _ e (by simpa using nb))) (N₃.get (by k_mem))
  · rename (_ ∧ rdIn _ _ _ = some _) => k5
    rename _ ≠ (32 : Int) => k6
    refine hR' ?_ _ _ _ (by assumption)
    rw [ent6 (by assumption) (by assumption) (by assumption) (by assumption) k5, if_neg (by assumption), if_neg (by assumption)]

/-- what is handed on, held until it is opened -/
theorem entry_led {w : World} {A : Around} {E : Value → Shared → Prop} {s : Shared} {h₀ : Heap} {base : Bs} {outer : List Env} {L : Addr} {m mg mb : Str → Option Value} {mean : ExcName → Option Value} {news : List (Addr × Obj)} {u : Obj → List (Addr × Obj)} {Q : Value → Shared → Prop}
    {x dx lc : Addr} {p : Nat} {t1 t2 t3 : Tok} {c : Nat} {vs : List Value} {ns : List Int}
    (F : Fr h₀ L s.heap m) (N : News h₀ L s.heap news) (X₀ : (hd.heap_1 w.params).In h₀) (T : Top headView (looseW headView [Str.ofString "EXACT"]) mean mg mb h₀) (KB : BelowM A base outer news s.heap)
    (hD : A.depth ≤ 570) (hU : A.units ≤ 1700) (hh : A.handled = none) (hx : s.heap.get? x = some (instObj 198 dx)) (U : UpdF dx (rdDict w lc p t1 t2 t3) news u) (hne : @Ne Nat x dx)
    (hl : h₀.get? lc = some (listOf vs.toArray c)) (hi : IntsAre vs ns) (hz : ns.length ≤ 1000) (hp : p < ns.length)
    (hraise : rdEntry ns p = none → ∀ e h' tk, Raised base outer h' e → E (.ref e) { s with heap := h', toks := tk })
    (hfin : Hold (∀ ex ed es t3' h' tk' r p', rdEntry ns p = some (r, p') → EntryV w (fun a o => (a, o) ∈ es) ed ex r → Fr h₀ L h' m → News h₀ L h' (es ++ u (rdDict w lc p' t1 t2 t3')) → Off es (u (rdDict w lc p' t1 t2 t3')) →
      Q (.ref ex) { s with heap := h', toks := tk' })) :
    wpAny (model PySem.Challenge.rw_ok0052_01.row.prog w) A (call (.ref 195) [.ref x]) Q E s := by
  have hm : (dx, rdDict w lc p t1 t2 t3) ∈ news := by
    obtain ⟨pre, post, rfl, _, _, _⟩ := U.split
    exact List.mem_append_right _ (.head _)
  have z := N _ hm
  refine entry_spec F.keep X₀ T ⟨KB.k, fun q hq => by rw [List.mem_singleton.mp hq]; exact KB.apart _ hm⟩ hD hU hh ⟨hx, z.1, z.2.2, hne, hl, hi, hz⟩ hp (fun ex ed es t3' h' tk' r p' hr hv he a b => ?_) hraise
  obtain ⟨F', N'⟩ := led_past F N U a b
  have ha : ∀ q ∈ u (rdDict w lc p' t1 t2 t3'), ∃ o, s.heap.get? q.1 = some o := fun q hq => by
    obtain ⟨pre, post, rfl, hg, _, _⟩ := U.split
    rw [hg] at hq
    rcases List.mem_append.mp hq with hq | hq
    · exact ⟨_, (N q (List.mem_append_left _ hq)).1⟩
    · rcases List.mem_cons.mp hq with rfl | hq
      · exact ⟨_, z.1⟩
      · exact ⟨_, (N q (List.mem_append_right _ (.tail _ hq))).1⟩
  unfold Hold at hfin
  refine hfin ex ed es t3' h' tk' r p' hr hv F' (fun q hq => ?_) (fun q hq q' hq' e => ?_)
  · rcases List.mem_append.mp hq with hq | hq
    · refine ⟨(he q hq).2, fun e => ?_, ?_⟩
      · obtain ⟨oL, _, _, hL, _⟩ := F.ns
        have := (he q hq).1
        rw [e, hL] at this; cases this
      · cases y : h₀.get? q.1 with
        | none => rfl
        | some o => have := F.keep _ _ y; rw [(he q hq).1] at this; cases this
    · exact N' q hq
  · obtain ⟨o, ho⟩ := ha q' hq'
    have := (he q hq).1
    rw [e, ho] at this; cases this

theorem rdEntry_spec {ns : List Int} {p p' : Nat} {r : Row} (h : rdEntry ns p = some (r, p')) : p < p' ∧ p' ≤ ns.length ∧ 0 ≤ r.used ∧ p + 8 + r.word.length ≤ p' ∧ r.codes.length ≤ ns.length ∧ (∀ k ∈ r.word, k = 10 ∨ k = 34 ∨ k = 92 ∨ k ∈ ns) ∧ (∀ k ∈ r.codes, k = 10 ∨ k = 34 ∨ k = 92 ∨ k ∈ ns) := by
  unfold rdEntry at h
  split at h
  · split at h
    · cases h
    · rename_i w p1 h1
      have b1 := rdIn_spec h1
      split at h
      · rename_i h2
        have b2 := getD_lt (ns := ns) (q := p1 + 1) (by rw [h2]; decide)
        split at h
        · cases h
        · rename_i u p2 h3
          have b3 := rdNum_spec (by omega) h3
          split at h
          · split at h
            · cases h
            · rename_i c p3 h5
              have b5 := rdIn_spec h5
              split at h
              · split at h
                · rename_i h7
                  have b7 := getD_lt (ns := ns) (q := p3 + 7) (by rw [h7.2]; decide)
                  cases h
                  exact ⟨by omega, by omega, b3.2.2, by show p + 8 + w.length ≤ _; omega, by show c.length ≤ _; omega, b1.2.2.2, b5.2.2.2⟩
                · cases h
              · split at h
                · rename_i h7
                  have b7 := getD_lt (ns := ns) (q := p3 + 1) (by rw [h7]; decide)
                  cases h
                  exact ⟨by omega, by omega, b3.2.2, by show p + 8 + w.length ≤ _; omega, by show c.length ≤ _; omega, b1.2.2.2, b5.2.2.2⟩
                · cases h
          · cases h
      · cases h
  · cases h
local macro_rules | `(tactic| walk_at "call ref") => ln_line "call Value.ref=195 _ _" true ``entry_led "F N X T K d u hh x U ne l i z p _ _" "RD9 U:U NLIZ p:o" ""
theorem reading_make {w : World} {A : Around} {E : Value → Shared → Prop} {s : Shared} {h₀ : Heap} {L : Addr} {m mg mb : Str → Option Value} {mean : ExcName → Option Value} {news : List (Addr × Obj)}
    {v1 : Value} {Q : Value → Shared → Prop}
    (F : Fr h₀ L s.heap m) (N : News h₀ L s.heap news) (X₀ : (hd.heap_1 w.params).In h₀) (T : Top headView (looseW headView [Str.ofString "EXACT"]) mean mg mb h₀)
    (hD : A.depth ≤ 600) (hU : A.units ≤ 2000)
    (hfin : ∀ x d t1 t2 t3 h' tk', Fr h₀ L h' m → News h₀ L h' ((x, instObj 198 d) :: (d, dictOf [fld w "codes" t1 v1, fld w "place" t2 (.int 0 t3)] 2) :: news) →
      @LT.lt Nat _ d x → AllLt d news → Q (.ref x) { s with heap := h', toks := tk' }) :
    wpAny (model PySem.Challenge.rw_ok0052_01.row.prog w) A (call (.ref 198) [v1]) Q E s := by
  revert X₀; k_fill; intro X₀
  refine' call_cls F X₀ N ?k4 ?k5 ?k6 ?_
  case k4 => k_is
  case k5 => k_is
  case k6 => k_is
  intro x d h' F' N' l1 l2
  have l4 := allLt_of l1
  clear F N
  refine' enterNR [(x, instObj 198 d), (d, dictOf [] 0)] [("self", .ref x), ("codes", v1)] F'.keep X₀ T ?kN ?k6 ?k7 ?k8 ?k9 ?kB ?_ ?c2 ?c3 ?c4 ?c5
  case kN =>
    intro q hq
    rcases List.mem_cons.mp hq with rfl | hq
    · exact ⟨N'.get (.head _), N'.fresh (.head _)⟩
    · rw [List.mem_singleton.mp hq]; exact ⟨N'.get (.tail _ (.head _)), N'.fresh (.tail _ (.head _))⟩
  case k8 => (simp only [recursionLimit, depth_under_make]; omega)
  walk_at "ENTER"
  intro g L' h₁ hg hL F₁ N₁ X₁ T₁
  try dsimp only
  have l3 := ltN l2
  walk_at "S"
  rename Fr _ _ _ _ => F₂
  rename News _ _ _ _ => N₂
  refine ⟨rfl, ?_⟩
  have B := led_back (muts := [(x, instObj 198 d), (d, dictOf [] 0)]) (news := news) F' N' ?_ hg F₂ N₂
  · exact hfin x d _ _ _ _ _ B.1 B.2 l3 l4
  · intro q hq e
    have e1 := allLt_mem l4 q hq
    rcases List.mem_cons.mp e with e | e
    · rw [e] at e1; exact absurd (Nat.lt_trans e1 l3) (Nat.lt_irrefl _)
    · rw [List.mem_singleton.mp e] at e1; exact absurd e1 (Nat.lt_irrefl _)
local macro_rules | `(tactic| walk_at "call ref") => ln_line "call Value.ref=198 _ _" false ``reading_make "F N X T d u _" "FN6" "x' d' t1' t2' t3' h' tk' F' N' l' l2'" [ln_lt2]
section
variable {prog : Program} {w : World} {A : Around} {env : Env} {E : Value → Shared → Prop} {s₁ : Shared} {h₀ : Heap} {x : Str} {body : List Stmt} {Q : Flow → Shared → Prop}
/-- a for over a list that is asked again behind the loop -/
theorem for_walkK {I : Addr} {fp wr : List Addr} {n : Nat} {P : Nat → Value → Prop} {St : Nat → Heap → Prop} {m : Str → Option Value} {news : List (Addr × Obj)} {s₂ : Shared} {l : Addr} {ol : Obj}
    (W : Walks prog w A I fp wr n P St) (hex : ∀ i h, St i h → ∀ b ∈ fp, ∃ o, h.get? b = some o) (hwr : ∀ b ∈ wr, h₀.get? b = none) (hLf : env.locals ∉ fp)
    (J : Nat → (Str → Option Value) → List (Addr × Obj) → Prop)
    (hst : St 0 s₂.heap) (F : Fr h₀ env.locals s₂.heap m) (N : News h₀ env.locals s₂.heap ((l, ol) :: news)) (hlf : l ∈ fp) (hlw : l ∉ wr) (hnI : ∀ p ∈ news, p.1 ∉ fp) (h0 : J 0 m news)
    (turn : ∀ i v m₁ news₁ h tk own, i < n → P i v → J i m₁ news₁ → Off news₁ own → Fr h₀ env.locals h (fun y => if y = x then some v else m₁ y) → News h₀ env.locals h (news₁ ++ own) →
      wpAny (model prog w) A (execs body env) (TurnEnd h₀ env.locals s₂ own (J (i + 1)) Q) E { s₂ with heap := h, toks := tk })
    (done : ∀ m' news' h tk, J n m' news' → Fr h₀ env.locals h m' → News h₀ env.locals h ((l, ol) :: news') → Q .next { s₂ with heap := h, toks := tk }) :
    LoopAtV prog w A h₀ env x body Q E (.ref I) s₂ := by
  refine ⟨I, fp, wr, n, P, St, m, (l, ol) :: news, fun i m₁ k => ∃ news₁, k = (l, ol) :: news₁ ∧ J i m₁ news₁ ∧ ∀ p ∈ news₁, p.1 ∉ fp, rfl, W, hLf, hwr, fun p hp q => ?_, hst, F, N, ⟨news, rfl, h0, hnI⟩, ?_, ?_⟩
  · rcases List.mem_cons.mp hp with rfl | hp
    · exact hlw q
    · exact hnI p hp (W.sub _ q)
  · rintro i v m₁ k s₃ own ⟨h, tk, rfl⟩ hi hP hJq hnw hown hownat hin hst' F₁ N₁
    obtain ⟨news₁, rfl, hJ, hne⟩ := hJq
    have hoff : Off news₁ own := fun p hp q hq e => hne p hp (e ▸ hown q hq)
    have hl₁ := N₁ (l, ol) (List.mem_append_right _ (.head _))
    have hlo : (l, ol) ∈ own := hin _ hlf hl₁.2.2 ol hl₁.1
    refine wpAny_mono (turn i v m₁ news₁ h tk own hi hP hJ hoff F₁ (fun p hp => N₁ p ((List.mem_append.mp hp).elim (fun q => List.mem_append_right _ (.tail _ q)) (fun q => List.mem_append_left _ q)))) (fun f s₄ h₄ => ?_) fun _ _ e => e
    have fin : TurnNx h₀ env.locals s₂.gens s₂.drawn s₂.os own (J (i + 1)) s₄ →
        LoopStepU h₀ env.locals wr own (fun m₁ k => ∃ news₁, k = (l, ol) :: news₁ ∧ J (i + 1) m₁ news₁ ∧ ∀ p ∈ news₁, p.1 ∉ fp) { s₂ with heap := h, toks := tk } .next s₄ := by
      rintro hJq
      obtain ⟨h', tk', m', news', rfl, F', N', hn', hJ'⟩ := hJq
      have hnf : ∀ p ∈ news', p.1 ∉ fp := fun p hp hb => by
        obtain ⟨o, ho⟩ := hex _ _ hst' _ hb
        exact hn' p hp (p.1, o) (hin _ hb (N' p (List.mem_append_left _ hp)).2.2 o ho) rfl
      refine ⟨rfl, h', tk', m', (l, ol) :: news', rfl, F', fun p hp => N' p ?_, fun p hp q => ?_, news', rfl, hJ', hnf⟩
      · rcases List.mem_append.mp hp with hp | hp
        · exact List.mem_append_right _ hp
        · rcases List.mem_cons.mp hp with rfl | hp
          · exact List.mem_append_right _ hlo
          · exact List.mem_append_left _ hp
      · rcases List.mem_cons.mp hp with rfl | hp
        · exact hlw q
        · exact hnf p hp (W.sub _ q)
    cases f with
    | ret v => exact .ret h₄
    | brk => exact .brk h₄
    | next => exact .next (fin h₄)
    | cont => exact .cont (fin h₄)
  · rintro h' tk m' k F' N' hnw hJq
    obtain ⟨news', rfl, hJ, _⟩ := hJq
    exact done m' news' h' tk hJ F' N'
theorem for_listL {l L : Addr} {vs : List Value} {nl : Nat} {m : Str → Option Value} {news : List (Addr × Obj)} (J : Nat → List (Addr × Obj) → Prop)
    (hLe : env.locals = L) (hh : A.handled = none) (F : Fr h₀ L s₁.heap m) (N : News h₀ L s₁.heap ((l, listOf vs.toArray nl) :: news)) (hln : ∀ p ∈ news, p.1 ≠ l) (h0 : J 0 news)
    (turn : ∀ i v news₁ h tk own s₂, s₂ = { s₁ with heap := h, toks := tk } → vs[i]? = some v → J i news₁ → Off news₁ own → Fr h₀ L h (fun y => if y = x then some v else m y) → News h₀ L h (news₁ ++ own) →
      wpAny (model prog w) A (execs body env) (TurnEnd h₀ L s₁ own (fun m' n' => (∃ o, m' = fun y => if y = x then o else m y) ∧ J (i + 1) n') Q) E s₂)
    (done : ∀ o news' h tk, J vs.length news' → Fr h₀ L h (fun y => if y = x then o else m y) → News h₀ L h ((l, listOf vs.toArray nl) :: news') → Q .next { s₁ with heap := h, toks := tk }) :
    wpAny (model prog w) A (pyIter (.ref l)) (fun it s₂ => LoopAtV prog w A h₀ env x body Q E it s₂) E s₁ := by
  subst hLe
  have hol := N.get (.head _)
  have hl : s₁.heap.IsList l vs.toArray := ⟨_, hol, rfl, _, rfl⟩
  have hlt : l < s₁.heap.objs.size := Heap.lt_size hol
  have hlL : l ≠ env.locals := (N _ (.head _)).2.1
  refine wpAny_pyIter_list hl ?_
  have hsm : ∀ b o, s₁.heap.get? b = some o → b ≠ s₁.heap.objs.size := fun b o e => Nat.ne_of_lt (Heap.lt_size e)
  have hF := F.push { cls := .type "list_iterator", data := .fields #[.ref l, .int 0 0] }
  refine for_walkK (l := l) (ol := listOf vs.toArray nl) (news := news) (m := m) (Walks.list hh s₁.heap.objs.size l (Nat.ne_of_lt hlt) vs.toArray) ?_ ?_ ?_ (fun i m₁ news₁ => (∃ o, m₁ = fun y => if y = x then o else m y) ∧ J i news₁)
    ⟨⟨_, Heap.get?_push_size _ rfl, rfl, rfl⟩, hl.push _⟩ hF (fun p hp => ⟨Heap.get?_push_of_some _ (N p hp).1, (N p hp).2⟩) (.tail _ (.head _)) (fun hm => hsm _ _ hol (List.mem_singleton.mp hm)) ?_ ⟨⟨m x, ?_⟩, h0⟩ ?_ ?_
  · rintro i h ⟨⟨o, ho, _⟩, ⟨o', ho', _⟩⟩ b hb
    rcases List.mem_cons.mp hb with rfl | hb
    · exact ⟨o, ho⟩
    · rcases List.mem_cons.mp hb with rfl | hb
      · exact ⟨o', ho'⟩
      · cases hb
  · intro b hb
    rw [List.mem_singleton.mp hb]
    cases e : h₀.get? s₁.heap.objs.size with
    | none => rfl
    | some o => exact absurd rfl (hsm _ _ (F.keep _ _ e))
  · intro hm
    rcases List.mem_cons.mp hm with e | hm
    · exact absurd F.ns.lt (e ▸ Nat.lt_irrefl _)
    · exact hlL (List.mem_singleton.mp hm).symm
  · intro p hp hm
    rcases List.mem_cons.mp hm with e | hm
    · exact hsm _ _ (N p (.tail _ hp)).1 e
    · exact hln p hp (List.mem_singleton.mp hm)
  · funext y
    by_cases e : y = x
    · rw [if_pos e, e]
    · rw [if_neg e]
  · rintro i v m₁ news₁ h tk own hi hP ⟨⟨o, rfl⟩, hJ⟩ hoff F₁ N₁
    have e : (fun y => if y = x then some v else if y = x then o else m y) = fun y => if y = x then some v else m y := by
      funext y
      by_cases e : y = x
      · rw [if_pos e, if_pos e]
      · rw [if_neg e, if_neg e, if_neg e]
    rw [e] at F₁
    exact turn i v news₁ h tk own _ rfl (by simpa using hP) hJ hoff F₁ N₁
  · rintro m' news' h tk ⟨⟨o, rfl⟩, hJ⟩ F' N'
    rw [List.size_toArray] at hJ
    exact done o news' h tk hJ F' N'
end
/-- all rows of a text, from a place on -/
noncomputable def rdAll (ns : List Int) : Nat → Nat → Option (List Row)
  | 0, _ => none
  | f + 1, p => if p < ns.length then
      match rdEntry ns p with
      | none => none
      | some (r, p') => (rdAll ns f p').map (r :: ·)
    else some []
theorem rdAll_succ (ns : List Int) (f p : Nat) : rdAll ns (f + 1) p = if p < ns.length then (match rdEntry ns p with | none => none | some (r, p') => (rdAll ns f p').map (r :: ·)) else some [] := rfl
/-- the entries' objects lie on a list -/
def EntsOn (w : World) (es : List (Addr × Obj)) (vs : List Value) (rows : List Row) : Prop := Paired (fun v r => ∃ ex ed, v = .ref ex ∧ EntryV w (fun a o => (a, o) ∈ es) ed ex r) vs rows

theorem EntsOn.mono {w : World} {es es' : List (Addr × Obj)} {vs : List Value} {rows : List Row} (h : EntsOn w es vs rows) (hs : ∀ p ∈ es, p ∈ es') : EntsOn w es' vs rows := by
  unfold EntsOn at *
  induction h with
  | nil => exact .nil
  | cons h _ ih =>
    obtain ⟨ex, ed, e, hE⟩ := h
    exact .cons ⟨ex, ed, e, hE.mono fun a o q => hs _ q⟩ ih
theorem paired_at {α β : Type} {R : α → β → Prop} {xs : List α} {ys : List β} (h : Paired R xs ys) {i : Nat} {x : α} (hx : xs[i]? = some x) : ∃ y, ys[i]? = some y ∧ R x y := by
  induction h generalizing i with
  | nil => simp at hx
  | cons h _ ih =>
    cases i with
    | zero => simp at hx; subst hx; exact ⟨_, rfl, h⟩
    | succ i => simpa using ih (by simpa using hx)
theorem paired_length {α β : Type} {R : α → β → Prop} {xs : List α} {ys : List β} (h : Paired R xs ys) : xs.length = ys.length := by
  induction h with
  | nil => rfl
  | cons _ _ ih => simp [ih]
/-- what a row that was read keeps -/
def RowB (ns : List Int) (r : Row) : Prop := r.word.length ≤ ns.length ∧ r.codes.length ≤ ns.length ∧ 0 ≤ r.used ∧ (∀ k ∈ r.word, k = 10 ∨ k = 34 ∨ k = 92 ∨ k ∈ ns) ∧ (∀ k ∈ r.codes, k = 10 ∨ k = 34 ∨ k = 92 ∨ k ∈ ns)
theorem fold_len (l : List (Value × Row)) : ∀ kvs : List (Str × Value), (l.foldl (fun k vr => stored k (keyOf vr.2.word) vr.1) kvs).length ≤ kvs.length + l.length := by
  induction l with
  | nil => intro kvs; exact Nat.le_refl _
  | cons a r ih =>
    intro kvs
    have h1 := ih (stored kvs (keyOf a.2.word) a.1)
    have h2 := stored_length_le kvs (keyOf a.2.word) a.1
    simp only [List.foldl_cons, List.length_cons]
    omega
/-- the reader's own things ahead of its loop -/
inductive ReadAt (w : World) (g : Heap) (L' : Addr) (H : Heap) (t D lc : Addr) (o : Obj) (ns : List Int) : Prop
  | mk (Df x dx : Addr) (vacc : List Value) (nD q : Nat) (t1 t2 t3 : Tok) (es : List (Addr × Obj)) (acc : List Row) (f : Nat)
    (h1 : Fr g L' H (fun y => if y = Str.ofString "found" then some (Value.ref Df) else if y = Str.ofString "reading" then some (Value.ref x) else List.lookup y ([(Str.ofString "table", Value.ref t), (Str.ofString "codes", Value.ref lc)] : List (Str × Value)).reverse)) (h2 : News g L' H ((Df, listOf vacc.toArray nD) :: (x, instObj 198 dx) :: (dx, rdDict w lc q t1 t2 t3) :: (D, o) :: es)) (h3 : EntsOn w es vacc acc) (h4 : rdAll ns (ns.length + 1) 0 = (rdAll ns f q).map (fun r => acc ++ r)) (h5 : q ≤ ns.length) (h6 : ns.length + 1 ≤ f + q) (h7 : acc.length ≤ q) (h8 : (∀ r ∈ acc, RowB ns r)) (h9 : @Ne Nat x dx) (h10 : @Ne Nat x Df) (h11 : @Ne Nat dx Df) (h12 : @Ne Nat D Df) (h13 : @Ne Nat D x) (h14 : @Ne Nat D dx) (h15 : AllNe Df es) (h16 : AllNe dx es) (h17 : AllNe D es)
theorem read_spec {w : World} {A : Around} {E : Value → Shared → Prop} {s : Shared} {V : Heap} {base : Bs} {outer : List Env} {mg mb : Str → Option Value} {mean : ExcName → Option Value} {Q : Value → Shared → Prop}
    {t D lc : Addr} {o : Obj} {kvs : List (Str × Value)} {c : Nat} {vs : List Value} {ns : List Int}
    (hV : Grow V s.heap) (X₀ : (hd.heap_1 w.params).In V) (T : Top headView (looseW headView [Str.ofString "EXACT"]) mean mg mb V) (KB : BelowM A base outer [(D, o)] s.heap)
    (hD : A.depth ≤ 560) (hU : A.units ≤ 1600) (hh : A.handled = none) (ht : TabHere w V t D) (hDs : s.heap.get? D = some o) (hDV : V.get? D = none) (hdo : o.IsDictOf (SK w) kvs) (lo : (D == sysModules) = false) (hk : kvs.length ≤ 900)
    (hl : V.get? lc = some (listOf vs.toArray c)) (hi : IntsAre vs ns) (hz : ns.length ≤ 400) (hb : ∀ n ∈ ns, 0 ≤ n ∧ n ≤ 5000)
    (hfin : ∀ rows xs es o' t' h' tk', rdAll ns (ns.length + 1) 0 = some rows → EntsOn w es xs rows → (∀ q ∈ es, s.heap.get? q.1 = none ∧ h'.get? q.1 = some q.2) → Past s.heap [D] h' → h'.get? D = some o' →
      o'.IsDictOf (SK w) ((xs.zip rows).foldl (fun k vr => stored k (keyOf vr.2.word) vr.1) kvs) → Q (.int rows.length t') { s with heap := h', toks := tk' })
    (hraise : rdAll ns (ns.length + 1) 0 = none → ∀ e h' tk, Raised base outer h' e → E (.ref e) { s with heap := h', toks := tk }) :
    wpAny (model PySem.Challenge.rw_ok0052_01.row.prog w) A (call (.ref 209) [.ref t, .ref lc]) Q E s := by
  revert X₀; k_fill; intro X₀
  refine wpAny_call ?_
  refine' enterR (rdAll ns (ns.length + 1) 0 = none) [(D, o)] [("table", .ref t), ("codes", .ref lc)] hV X₀ T (fun q hq => by rw [List.mem_singleton.mp hq]; exact ⟨hDs, hDV⟩) KB ?k6 ?k7 ?k8 ?k9 ?kB ?R ?_ ?c2 ?c3 ?c4 ?c5
  case R => exact hraise
  walk_at "ENTER"
  intro g L' h₁ E' hg hL F' N' X' T' K' hR' hPE
  try dsimp only
  have hVg : Grow V g := grow_hide hV hDV hg
  have hl' := hVg _ _ hl
  have hll : g.IsList lc vs.toArray := ⟨_, hl', rfl, _, rfl⟩
  have hlen := hi.length
  have hz' : ns.length ≤ 1000 := by omega
  walk_at "S"
  refine whl_start 1 ?_
  try dsimp only
  k_sweep
  rename Fr _ _ _ _ => F₀
  rename News _ _ _ _ => N₀
  rename Heap => H
  have e0 : ReadAt w g L' H t D lc o ns := by
    rename (_ < _ ∧ _ < _ ∧ D < _) => l1
    refine ⟨_, _, _, [], _, 0, _, _, _, [], [], ns.length + 1, F₀, N₀, .nil, by cases rdAll ns (ns.length + 1) 0 <;> rfl, Nat.zero_le _, by omega, Nat.zero_le _, (fun _ h => nomatch h), ?_, Nat.ne_of_lt l1.1, Nat.ne_of_lt l1.2.1, Nat.ne_of_lt l1.2.2, ?_, ?_, trivial, trivial, trivial⟩
    · exact Nat.ne_of_gt (by assumption)
    · rename D < _ => lb
      exact Nat.ne_of_lt (Nat.lt_trans lb (by assumption))
    · rename D < _ => lb
      exact Nat.ne_of_lt lb
  clear F₀ N₀
  obtain ⟨Df, x, dx, vacc, nD, q, t1, t2, t3, es, acc, f, F₁, N₁, hE, e1, hq, hf, ha, hrb, n1, n2, n3, n4, n5, n6, a1, a2, a3⟩ := e0
  revert F₁ N₁
  generalize tk = tt
  induction f generalizing H q acc vacc nD t3 es tt with
  | zero => omega
  | succ f ih =>
  intro F₁ N₁
  refine whl_turn hPE ?_
  walk_at "S"
  by_cases hc : q < ns.length
  · refine WhlIf.yes (by simp; omega) ?_
    walk_at "S"
    rotate_left
    · unfold Hold
      intro ex ed es' t3' h' tk' r p' hr he F₃ N₃ hoff
      have bE := rdEntry_spec hr
      try dsimp only at N₃ hoff
      have o1 : ∀ p ∈ es' ++ es, p.1 ≠ Df := fun p hp => (List.mem_append.mp hp).elim (fun z => hoff p z _ (.head _)) (allNe_mem a1 p)
      have o2 : ∀ p ∈ es' ++ es, p.1 ≠ dx := fun p hp => (List.mem_append.mp hp).elim (fun z => hoff p z _ (.tail _ (.tail _ (.head _)))) (allNe_mem a2 p)
      have o3 : ∀ p ∈ es' ++ es, p.1 ≠ D := fun p hp => (List.mem_append.mp hp).elim (fun z => hoff p z _ (.tail _ (.tail _ (.tail _ (.head _))))) (allNe_mem a3 p)
      have N₄ : News g L' h' ((Df, listOf vacc.toArray nD) :: (x, instObj 198 dx) :: (dx, rdDict w lc p' t1 t2 t3') :: (D, o) :: (es' ++ es)) := fun p hp => N₃ p (by
        rcases List.mem_cons.mp hp with rfl | hp
        · exact List.mem_append_right _ (.head _)
        rcases List.mem_cons.mp hp with rfl | hp
        · exact List.mem_append_right _ (.tail _ (.head _))
        rcases List.mem_cons.mp hp with rfl | hp
        · exact List.mem_append_right _ (.tail _ (.tail _ (.head _)))
        rcases List.mem_cons.mp hp with rfl | hp
        · exact List.mem_append_right _ (.tail _ (.tail _ (.tail _ (.head _))))
        rcases List.mem_append.mp hp with hp | hp
        · exact List.mem_append_left _ hp
        · exact List.mem_append_right _ (.tail _ (.tail _ (.tail _ (.tail _ hp)))))
      clear N₃ hoff F₁ N₁
      have hvl : vacc.length = acc.length := paired_length hE
      generalize hes : es' ++ es = es₂ at N₄ o1 o2 o3
      walk_at "S"
      rename News _ _ _ _ => N₃
      rename Fr _ _ _ _ => F₃
      simp only [List.push_toArray] at N₃
      refine ih (H := _) (q := p') (acc := acc ++ [r]) (vacc := vacc ++ [.ref ex]) (nD := _) (t3 := _) (es := es₂) (tt := _) ?_ ?_ (by omega) (by omega) (by simp; omega) ?_ (allNe_of o1) (allNe_of o2) (allNe_of o3) F₃ N₃
      · exact Paired.snoc (hE.mono fun p hp => hes ▸ List.mem_append_right _ hp) ⟨ex, ed, rfl, he.mono fun a o z => hes ▸ List.mem_append_left _ z⟩
      · rw [e1, rdAll_succ, if_pos hc, hr]
        dsimp only
        cases rdAll ns f p' <;> simp
      · intro r' hr'
        rcases List.mem_append.mp hr' with z | z
        · exact hrb _ z
        · rw [List.mem_singleton.mp z]
          exact ⟨by omega, bE.2.2.2.2.1, bE.2.2.1, bE.2.2.2.2.2.1, bE.2.2.2.2.2.2⟩
    · refine hR' ?_ _ _ _ (by assumption)
      rw [e1, rdAll_succ, if_pos hc]
      rename rdEntry ns q = none => hn
      rw [hn]
      rfl
  · refine WhlIf.no (by simp; omega) ?_
    have eall : rdAll ns (ns.length + 1) 0 = some acc := by rw [e1, rdAll_succ, if_neg hc]; simp
    have hvl : vacc.length = acc.length := paired_length hE
    walk_at "S"
    refine For_invV g rfl rfl ?_ (hE := hPE)
    walk_at "S"
    have NL : News g L' H ((Df, listOf vacc.toArray nD) :: (D, o) :: es) := fun p hp => by
      rcases List.mem_cons.mp hp with rfl | hp
      · exact N₁ _ (.head _)
      · exact N₁ p (.tail _ (.tail _ (.tail _ hp)))
    refine for_listL (vs := vacc) (nl := nD) (fun i news => ∃ o', news = (D, o') :: es ∧ o'.IsDictOf (SK w) (((vacc.zip acc).take i).foldl (fun k vr => stored k (keyOf vr.2.word) vr.1) kvs))
      rfl hh F₁ NL ?_ ⟨o, rfl, hdo⟩ ?_ ?_
    · intro p hp
      rcases List.mem_cons.mp hp with rfl | hp
      · exact n4
      · exact allNe_mem a1 p hp
    · rintro i v news₁ h tk own s₂ rfl hv ⟨o', rfl, hd'⟩ hoff F₂ N₂
      obtain ⟨r, hr, ex, ed, rfl, hent⟩ := paired_at hE hv
      obtain ⟨lo', lc', lvs, lcs, u1, u2, u3, u4, u5, c1, c2, g1, g2, g3, g4, i1, i2⟩ := hent
      have hrB := hrb r (List.mem_of_getElem? hr)
      have hb1 : ∀ n ∈ r.word, 0 ≤ n ∧ n ≤ 10000 := fun n hn => by
        rcases hrB.2.2.2.1 n hn with z | z | z | z
        · omega
        · omega
        · omega
        · have := hb n z; omega
      have hz2 : r.word.length ≤ 1000 := by have := hrB.1; omega
      have hacc : ((vacc.zip acc).take (i + 1)).foldl (fun k vr => stored k (keyOf vr.2.word) vr.1) kvs = stored (((vacc.zip acc).take i).foldl (fun k vr => stored k (keyOf vr.2.word) vr.1) kvs) (keyOf r.word) (.ref ex) := by
        rw [List.take_add_one, show (vacc.zip acc)[i]? = some (.ref ex, r) from by rw [List.getElem?_zip_eq_some]; exact ⟨hv, hr⟩]
        simp
      have hcl : (((vacc.zip acc).take i).foldl (fun k vr => stored k (keyOf vr.2.word) vr.1) kvs).length ≤ 1300 := by
        refine Nat.le_trans (fold_len _ _) ?_
        have := List.length_take_le i (vacc.zip acc)
        have := List.length_take_le' i (vacc.zip acc)
        rw [List.length_zip] at this
        omega
      rw [hacc]
      generalize ((vacc.zip acc).take i).foldl (fun k vr => stored k (keyOf vr.2.word) vr.1) kvs = cur at *
      have hoD := hoff.ne
      have o3 : ∀ p ∈ es ++ own, p.1 ≠ D := fun p hp => (List.mem_append.mp hp).elim (allNe_mem a3 p) (hoD p)
      have n7 : @Ne Nat ex D := allNe_mem a3 _ g1
      have n8 : @Ne Nat ed D := allNe_mem a3 _ g2
      have n9 : @Ne Nat lo' D := allNe_mem a3 _ g3
      have N₃ : News g L' h ((D, o') :: (ex, instObj 43 ed) :: (ed, _) :: (lo', listOf lvs.toArray c1) :: (es ++ own)) := fun p hp => N₂ p (by
        rcases List.mem_cons.mp hp with rfl | hp
        · exact .head _
        rcases List.mem_cons.mp hp with rfl | hp
        · exact .tail _ (List.mem_append_left _ g1)
        rcases List.mem_cons.mp hp with rfl | hp
        · exact .tail _ (List.mem_append_left _ g2)
        rcases List.mem_cons.mp hp with rfl | hp
        · exact .tail _ (List.mem_append_left _ g3)
        · exact .tail _ hp)
      clear N₂ F₁ N₁ NL
      obtain ⟨td, nm, tn, pp, y1, y2, y3, y4, yn, ht1, ht2⟩ := (ht.grow hVg).ex
      generalize heo : es ++ own = eo at N₃ o3
      walk_at "S"
      rename Fr _ _ _ _ => F₃
      rename News _ _ _ _ => N₄
      rename Obj.IsDictOf _ _ _ => hd₃
      rename _ = keyOf _ => ek
      rw [ek] at hd₃
      refine ⟨_, _, _, (D, _) :: es, rfl, F₃, (fun p hp => N₄ p ?_), hoff.to hoff.tail, ⟨_, rfl⟩, _, rfl, hd₃⟩
      rcases List.mem_cons.mp hp with rfl | hp
      · exact .head _
      · exact .tail _ (.tail _ (.tail _ (.tail _ (heo ▸ hp))))
    · rintro oo news' h tk ⟨o', rfl, hd'⟩ F₂ N₂
      clear F₁ N₁ NL
      walk_at "S"
      refine call_len_list ⟨_, N₂.get (.head _), rfl, _, rfl⟩ (by rw [List.size_toArray]; omega) ?_
      rw [List.size_toArray, hvl]
      rw [List.take_of_length_le (by simp [hvl])] at hd'
      refine hfin acc vacc es _ _ _ _ eall hE (fun q hq => ⟨fresh_back hg (N₂.fresh (.tail _ (.tail _ hq))) (fun z => allNe_mem a3 q hq (List.mem_singleton.mp z)), N₂.get (.tail _ (.tail _ hq))⟩) (fun b ob e nb => F₂.keep _ _ (hg _ _ e (by simpa using nb))) (N₂.get (.tail _ (.head _))) hd'
/-! `<` of two lists -/
section
open PySem.AutoSeq1 (wpAny_loadPart')
open PySem.MeetsSeq PySem.MeetsSeq2 PySem.MeetsSeq3 PySem.SeqAt
def LtAt (A : Around) (s : Shared) (x y : Value) (b : Bool) : Prop :=
  ∀ (prog : Program) (w : World) (E : Value → Shared → Prop) (Q : Value → Shared → Prop), Q (.bool b) s → wpAny (model prog w) A (richCompare .Lt x y) Q E s
def LtEnd (A : Around) (s : Shared) (xs ys : Array Value) (j : Nat) (v : Bool) : Prop :=
  (∃ x y, xs[j]? = some x ∧ ys[j]? = some y ∧ EqAt A s x y false ∧ LtAt A s x y v) ∨ ((xs[j]? = none ∨ ys[j]? = none) ∧ v = decide (xs.size < ys.size))
theorem lt_loop (l b : Addr) (xs ys : Array Value) (n n2 : Nat) (v : Bool) (k : Nat) :
    ∀ i : Nat, Meets (Builtin.«list.__eq__.loop» ⟨[.ref l, .ref b, rawInt i, rawInt 0], []⟩)
      (fun A R s => s.heap.get? l = some { cls := .type "list", dict := none, data := .seq xs n, slots := #[] } ∧ s.heap.get? b = some { cls := .type "list", dict := none, data := .seq ys n2, slots := #[] } ∧
        (∀ j, i ≤ j → j < i + k → ∃ x y, xs[j]? = some x ∧ ys[j]? = some y ∧ EqAt A.in1 s x y true) ∧ LtEnd A.in1 s xs ys (i + k) v ∧ R (.ok (.ret (.bool v))) s) := by
  induction k with
  | zero =>
    intro i prog w A R s h
    obtain ⟨hp, g, d, tk, os⟩ := s; obtain ⟨hl, hb, _, he, h⟩ := h
    wp_walk using wpAny_loadPart' hl, wpAny_loadPart' hb
    have hn : ((i : Nat) : Int).toNat = i := by simp
    rw [hn]
    rcases he with ⟨x, y, h1, h2, h3, h4⟩ | ⟨hno, rfl⟩
    · rw [Nat.add_zero] at h1 h2
      rw [h1, h2]
      refine wpAny_bind (h3 prog w _ _ ?_)
      wp_walk using wpAny_loadPart' hl, wpAny_loadPart' hb
      rw [h1, h2]
      refine wpAny_bind (h4 prog w _ _ ?_)
      wp_walk
      exact h
    · rw [Nat.add_zero] at hno
      rcases hx : xs[i]? with _ | x <;> rcases hy : ys[i]? with _ | y
      · wp_walk using wpAny_loadPart' hl, wpAny_loadPart' hb
        exact h
      · wp_walk using wpAny_loadPart' hl, wpAny_loadPart' hb
        exact h
      · wp_walk using wpAny_loadPart' hl, wpAny_loadPart' hb
        exact h
      · rw [hx, hy] at hno; rcases hno with z | z <;> cases z
  | succ k ih =>
    intro i prog w A R s h
    obtain ⟨hp, g, d, tk, os⟩ := s; obtain ⟨hl, hb, hall, he, h⟩ := h
    wp_walk using wpAny_loadPart' hl, wpAny_loadPart' hb
    have hn : ((i : Nat) : Int).toNat = i := by simp
    have hc : ((i : Int) + 1) = ((i + 1 : Nat) : Int) := by push_cast; rfl
    rw [hn]
    obtain ⟨x, y, h1, h2, h3⟩ := hall i (Nat.le_refl _) (by omega)
    rw [h1, h2]
    refine wpAny_bind (h3 prog w _ _ ?_)
    wp_walk
    rw [hc]
    exact ⟨plainId_quiet plain_eq_loop _, codeAny_builtin entry_eq_loop (by
      rw [Around.under_plainId plain_eq_loop _]
      exact ih (i + 1) prog w A R _ ⟨hl, hb, fun j j1 j2 => hall j (by omega) (by omega), by rw [Nat.add_right_comm]; exact he, h⟩)⟩
theorem list_lt (l b : Addr) (xs ys : Array Value) (n n2 : Nat) (v : Bool) (k : Nat) : Meets (Builtin.«list.__lt__» ⟨[.ref l, .ref b], []⟩)
      (fun A R s => s.heap.get? l = some { cls := .type "list", dict := none, data := .seq xs n, slots := #[] } ∧ s.heap.get? b = some { cls := .type "list", dict := none, data := .seq ys n2, slots := #[] } ∧
        (∀ j, j < k → ∃ x y, xs[j]? = some x ∧ ys[j]? = some y ∧ EqAt A.in1 s x y true) ∧ LtEnd A.in1 s xs ys k v ∧ R (.ok (.ret (.bool v))) s) := by
  intro prog w A R s h
  obtain ⟨hp, g, d, tk, os⟩ := s; obtain ⟨hl, hb, h1, h2, h⟩ := h
  have f3 := AutoSeq1.sub_list_list
  wp_walk using wpAny_loadPart' hl, wpAny_loadPart' hb
  exact ⟨plainId_quiet plain_eq_loop _, codeAny_builtin entry_eq_loop (by
    rw [Around.under_plainId plain_eq_loop _]
    exact lt_loop l b xs ys n n2 v k 0 prog w A R _ ⟨hl, hb, fun j _ j2 => h1 j (by omega), by rw [Nat.zero_add]; exact h2, h⟩)⟩

theorem LtAt.int {A : Around} {s : Shared} (a b : Int) (t u : Tok) : LtAt A s (.int a t) (.int b u) (decide (a < b)) := fun prog w E Q h => PyProof.Rows.lt_int h
theorem LtAt.lists {A : Around} {s : Shared} {l b : Addr} {xs ys : Array Value} {n n2 k : Nat} {v : Bool} (hl : s.heap.get? l = some (listOf xs n)) (hb : s.heap.get? b = some (listOf ys n2)) (hu : A.units < cLine)
    (h1 : ∀ j, j < k → ∃ x y, xs[j]? = some x ∧ ys[j]? = some y ∧ EqAt A.in1 s x y true) (h2 : LtEnd A.in1 s xs ys k v) : LtAt A s (.ref l) (.ref b) v := fun prog w E Q h =>
  richCompare_meets_room (op := .Lt) ⟨_, hl, rfl⟩ ⟨_, hb, rfl⟩ PySem.F.slot_list_lt PySem.F.entry_list_lt (PySem.F.args_list_lt_2 _ _) (list_lt l b xs ys n n2 v k)
    ⟨hl, hb, h1, h2, show Value.bool v ≠ Value.notImplemented ∧ Q (.bool v) s from ⟨(fun x => nomatch x), h⟩⟩ hu
theorem oneLt_lists {prog : Program} {w : World} {A : Around} {E : Value → Shared → Prop} {s : Shared} {l b : Addr} {xs ys : Array Value} {n n2 k : Nat} {v : Bool} {Q : Bool → Shared → Prop} (hl : s.heap.get? l = some (listOf xs n)) (hb : s.heap.get? b = some (listOf ys n2)) (hu : A.units < cLine)
    (h1 : ∀ j, j < k → ∃ x y, xs[j]? = some x ∧ ys[j]? = some y ∧ EqAt A.in1 s x y true) (h2 : LtEnd A.in1 s xs ys k v) (h : Q v s) : wpAny (model prog w) A (keyLt' oneType' (.ref l) (.ref b)) Q E s := by
  rw [keyLt'_oneType, oneLt'_eq]
  simp only [if_true]
  refine wpAny_bind (wpAny_cRoomFor hu ?_)
  refine wpAny_bind (wpAny_callSpecialIfBound?_slot ⟨_, hl, rfl⟩ PySem.F.slot_list_lt (call_meets PySem.F.slot_list_lt ⟨_, hl, rfl⟩ PySem.F.entry_list_lt (PySem.F.args_list_lt_2 _ _) (list_lt l b xs ys n n2 v k) ⟨hl, hb, h1, h2, ?_⟩))
  exact wpAny_truthy_bool h
/-- the order of two lists of ints -/
noncomputable def ltI : List Int → List Int → Bool
  | [], [] => false
  | [], _ :: _ => true
  | _ :: _, [] => false
  | a :: as, b :: bs => if a = b then ltI as bs else decide (a < b)
theorem ints_ltEnd {A : Around} {s : Shared} {vs : List Value} {xs : List Int} (h : IntsAre vs xs) : ∀ {ws : List Value} {ys : List Int}, IntsAre ws ys →
    ∃ k, (∀ j, j < k → ∃ x y, vs.toArray[j]? = some x ∧ ws.toArray[j]? = some y ∧ EqAt A s x y true) ∧ LtEnd A s vs.toArray ws.toArray k (ltI xs ys) := by
  induction h with
  | nil =>
    intro ws ys h'
    refine ⟨0, fun j hj => absurd hj (Nat.not_lt_zero _), .inr ⟨.inl rfl, ?_⟩⟩
    cases h' <;> simp [ltI]
  | cons a t hv ih =>
    rename List Value => vs'
    rename List Int => xs'
    intro ws ys h'
    cases h' with
    | nil => exact ⟨0, fun j hj => absurd hj (Nat.not_lt_zero _), .inr ⟨.inr rfl, by simp [ltI]⟩⟩
    | cons b u hw =>
      rename List Value => ws'
      rename List Int => ys'
      by_cases e : a = b
      · obtain ⟨k, h1, h2⟩ := ih hw
        refine ⟨k + 1, fun j hj => ?_, ?_⟩
        · cases j with
          | zero => exact ⟨_, _, rfl, rfl, by have := (EqGives.int a b t u).at A s; rw [beq_iff_eq.mpr e] at this; exact this⟩
          | succ j => obtain ⟨x, y, z1, z2, z3⟩ := h1 j (by omega); exact ⟨x, y, by simpa using z1, by simpa using z2, z3⟩
        · have el : ltI (a :: xs') (b :: ys') = ltI xs' ys' := if_pos e
          rw [el]
          rcases h2 with ⟨x, y, z1, z2, z3, z4⟩ | ⟨z1, z2⟩
          · exact .inl ⟨x, y, by simpa using z1, by simpa using z2, z3, z4⟩
          · exact .inr ⟨by simpa using z1, by rw [z2]; simp⟩
      · refine ⟨0, fun j hj => absurd hj (Nat.not_lt_zero _), .inl ⟨_, _, rfl, rfl, ?_, ?_⟩⟩
        · have := (EqGives.int a b t u).at A s
          rw [beq_false_of_ne e] at this
          exact this
        · have el : ltI (a :: xs') (b :: ys') = decide (a < b) := if_neg e
          rw [el]
          exact LtAt.int a b t u
end
theorem drop_getD {ns : List Int} {d q : Nat} : (ns.drop d).getD q (-1) = ns.getD (q + d) (-1) := by
  rw [List.getD_eq_getElem?_getD, List.getD_eq_getElem?_getD, List.getElem?_drop, Nat.add_comm]
theorem rdIn_fuel {ns : List Int} : ∀ {f f' q : Nat}, q ≤ ns.length → ns.length + 1 ≤ f + q → ns.length + 1 ≤ f' + q → rdIn ns f q = rdIn ns f' q := by
  intro f
  induction f with
  | zero => intro f' q h1 h2; omega
  | succ f ih =>
    intro f' q h1 h2 h3
    cases f' with
    | zero => omega
    | succ f' =>
      rw [rdIn_succ, rdIn_succ]
      split
      · rfl
      · split
        · rfl
        · rename_i hn
          have hq := getD_lt (ns := ns) (q := q) (fun z => hn (.inl z))
          split
          · split
            · rename_i h110
              have hq1 := getD_lt (ns := ns) (q := q + 1) (by rw [h110]; decide)
              rw [ih (f' := f') (by omega) (by omega) (by omega)]
            · split
              · rename_i h34
                have hq1 := getD_lt (ns := ns) (q := q + 1) (by rcases h34 with z | z <;> rw [z] <;> decide)
                rw [ih (f' := f') (by omega) (by omega) (by omega)]
              · rfl
          · rw [ih (f' := f') (by omega) (by omega) (by omega)]
theorem rdIn_drop {ns : List Int} {d : Nat} : ∀ {f q : Nat}, rdIn (ns.drop d) f q = (rdIn ns f (q + d)).map fun r => (r.1, r.2 - d) := by
  intro f
  induction f with
  | zero => intro q; rfl
  | succ f ih =>
    intro q
    rw [rdIn_succ, rdIn_succ, drop_getD, drop_getD, show q + 1 + d = q + d + 1 by omega]
    split
    · simp
    · split
      · rfl
      · split
        · split
          · rw [ih, show q + 2 + d = q + d + 2 by omega]; cases rdIn ns f (q + d + 2) <;> rfl
          · split
            · rw [ih, show q + 2 + d = q + d + 2 by omega]; cases rdIn ns f (q + d + 2) <;> rfl
            · rfl
        · rw [ih, show q + 1 + d = q + d + 1 by omega]; cases rdIn ns f (q + d + 1) <;> rfl
/-! the sort of fewer than 64 things that differ, by any order -/
section
variable {N : Nat} {lt : Nat → Nat → Bool}
def Runs (N : Nat) (lt : Nat → Nat → Bool) {α : Type} (t : KasT α) (a : α) : Prop :=
  ∀ (cmp : Nat → Nat → (Bool → Shared → Prop) → Shared → Prop) (Q : α → Shared → Prop) (s : Shared), (∀ i j C, i < N → j < N → C (lt i j) s → cmp i j C s) → Q a s → t.kasWp cmp Q s
theorem Runs.ret {α : Type} {a : α} : Runs N lt (KasT.ret a) a := fun _ _ _ _ h => h
theorem Runs.ask {α : Type} {a : α} {i j : Nat} {k : Bool → KasT α} (hi : i < N) (hj : j < N) (h : Runs N lt (k (lt i j)) a) : Runs N lt (KasT.ask i j k) a := fun cmp Q s hc hQ => hc i j _ hi hj (h cmp Q s hc hQ)
theorem Runs.bind {α β : Type} {t : KasT α} {f : α → KasT β} {a : α} {b : β} (h1 : Runs N lt t a) (h2 : Runs N lt (f a) b) : Runs N lt (t.bind f) b := fun cmp Q s hc hQ => by
  rw [KasT.kasWp_bind]
  exact h1 cmp _ s hc (h2 cmp Q s hc hQ)

/-- all of 0 .. N-1, in some order -/
def AllOf (N : Nat) (p : Array Nat) : Prop := p.toList.Perm (List.range N)
theorem AllOf.size {p : Array Nat} (h : AllOf N p) : p.size = N := by have := h.length_eq; simpa using this
theorem getD_mem {p : Array Nat} {i : Nat} (h : i < p.size) : p.getD i 0 ∈ p.toList := by
  have e : p.getD i 0 = p[i] := by simp [Array.getD, h]
  rw [e]; exact Array.getElem_mem_toList h
theorem AllOf.below {p : Array Nat} (h : AllOf N p) {i : Nat} (hi : i < N) : p.getD i 0 < N := List.mem_range.mp (h.mem_iff.mp (getD_mem (by rw [h.size]; exact hi)))
theorem AllOf.ne {p : Array Nat} (h : AllOf N p) {i j : Nat} (hi : i < N) (hj : j < N) (hij : i ≠ j) : p.getD i 0 ≠ p.getD j 0 := by
  have nd : p.toList.Nodup := h.nodup_iff.mpr List.nodup_range
  have hs := h.size
  have ei : p.getD i 0 = p.toList[i]'(by simpa [hs] using hi) := by simp [Array.getD, hs, hi]
  have ej : p.getD j 0 = p.toList[j]'(by simpa [hs] using hj) := by simp [Array.getD, hs, hj]
  rw [ei, ej]
  rcases Nat.lt_or_gt_of_ne hij with z | z
  · exact List.pairwise_iff_getElem.mp nd i j _ _ z
  · exact fun e => List.pairwise_iff_getElem.mp nd j i _ _ z e.symm

structure StrictOn (N : Nat) (lt : Nat → Nat → Bool) : Prop where
  trans : ∀ a b c, lt a b = true → lt b c = true → lt a c = true
  asym : ∀ a b, lt a b = true → lt b a = false
  total : ∀ a b, a < N → b < N → a ≠ b → lt a b = true ∨ lt b a = true
theorem StrictOn.flip (h : StrictOn N lt) {a b : Nat} (ha : a < N) (hb : b < N) (hab : a ≠ b) (hn : lt a b = false) : lt b a = true := by
  rcases h.total a b ha hb hab with z | z
  · rw [hn] at z; cases z
  · exact z
/-- in order up to n -/
def UpTo (lt : Nat → Nat → Bool) (p : Array Nat) (n : Nat) : Prop := ∀ i j, i < j → j < n → lt (p.getD i 0) (p.getD j 0) = true
def DownTo (lt : Nat → Nat → Bool) (p : Array Nat) (n : Nat) : Prop := ∀ i j, i < j → j < n → lt (p.getD j 0) (p.getD i 0) = true

theorem asc_runs (O : StrictOn N lt) {p : Array Nat} (h : AllOf N p) : ∀ f n, 1 ≤ n → n + f = N → UpTo lt p n → ∃ m, Runs N lt (kas_asc p f n) m ∧ n ≤ m ∧ m ≤ N ∧ UpTo lt p m ∧ (m < N → lt (p.getD m 0) (p.getD (m - 1) 0) = true) := by
  intro f
  induction f with
  | zero => intro n h1 hf hu; exact ⟨n, Runs.ret, Nat.le_refl _, by omega, hu, fun z => by omega⟩
  | succ f ih =>
    intro n h1 hf hu
    have a1 : p.getD n 0 < N := h.below (by omega)
    have a2 : p.getD (n - 1) 0 < N := h.below (by omega)
    cases hc : lt (p.getD n 0) (p.getD (n - 1) 0) with
    | true => exact ⟨n, Runs.ask a1 a2 (by rw [hc]; exact Runs.ret), Nat.le_refl _, by omega, hu, fun _ => hc⟩
    | false =>
      have hs := O.flip a1 a2 (h.ne (by omega) (by omega) (by omega)) hc
      have hu' : UpTo lt p (n + 1) := fun i j hij hj => by
        rcases Nat.lt_or_ge j n with z | z
        · exact hu i j hij z
        · obtain rfl : j = n := by omega
          rcases Nat.lt_or_ge i (j - 1) with y | y
          · exact O.trans _ _ _ (hu i (j - 1) y (by omega)) hs
          · obtain rfl : i = j - 1 := by omega
            exact hs
      obtain ⟨m, r1, r2, r3, r4, r5⟩ := ih (n + 1) (by omega) (by omega) hu'
      exact ⟨m, Runs.ask a1 a2 (by rw [hc]; exact r1), by omega, r3, r4, r5⟩
theorem desc_runs (O : StrictOn N lt) {p : Array Nat} (h : AllOf N p) : ∀ f n, 1 ≤ n → n + f = N → DownTo lt p n → ∃ m, Runs N lt (kas_desc f p n 0) (p, m, 0) ∧ n ≤ m ∧ m ≤ N ∧ DownTo lt p m := by
  intro f
  induction f with
  | zero => intro n h1 hf hu; exact ⟨n, Runs.ret, Nat.le_refl _, by omega, hu⟩
  | succ f ih =>
    intro n h1 hf hu
    have a1 : p.getD n 0 < N := h.below (by omega)
    have a2 : p.getD (n - 1) 0 < N := h.below (by omega)
    cases hc : lt (p.getD n 0) (p.getD (n - 1) 0) with
    | true =>
      have hu' : DownTo lt p (n + 1) := fun i j hij hj => by
        rcases Nat.lt_or_ge j n with z | z
        · exact hu i j hij z
        · obtain rfl : j = n := by omega
          rcases Nat.lt_or_ge i (j - 1) with y | y
          · exact O.trans _ _ _ hc (hu i (j - 1) y (by omega))
          · obtain rfl : i = j - 1 := by omega
            exact hc
      obtain ⟨m, r1, r2, r3, r4⟩ := ih (n + 1) (by omega) (by omega) hu'
      refine ⟨m, Runs.ask a1 a2 ?_, by omega, r3, r4⟩
      rw [hc, if_pos rfl, if_neg (by omega)]
      exact r1
    | false =>
      have hs := O.flip a1 a2 (h.ne (by omega) (by omega) (by omega)) hc
      refine ⟨n, Runs.ask a1 a2 ?_, Nat.le_refl _, by omega, hu⟩
      rw [hc, if_neg (by decide)]
      refine Runs.ask a2 a1 ?_
      rw [hs, if_pos rfl]
      exact Runs.ret
theorem rev_all {p : Array Nat} (h : AllOf N p) (i j : Nat) : AllOf N (kas_rev p i j) := by
  have := (mirror_perm p i j ((j - i) / 2)).toList
  exact this.trans h
theorem rev_getD {p : Array Nat} {n : Nat} (hn : n ≤ p.size) (k : Nat) : (kas_rev p 0 n).getD k 0 = if k < n then p.getD (n - 1 - k) 0 else p.getD k 0 := by
  have e := getElem?_mirror_all (xs := p) (i := 0) (j := n) hn k
  have g : ∀ (q : Array Nat) (i : Nat), q.getD i 0 = (q[i]?).getD 0 := fun q i => by simp [Array.getD_eq_getD_getElem?]
  rw [g, g, g]
  unfold kas_rev
  rw [e]
  by_cases z : k < n
  · rw [if_pos ⟨Nat.zero_le _, z⟩, if_pos z, Nat.zero_add]
  · rw [if_neg (fun y => z y.2), if_neg z]
theorem rev_up {p : Array Nat} {n : Nat} (hn : n ≤ p.size) (h : DownTo lt p n) : UpTo lt (kas_rev p 0 n) n := fun i j hij hj => by
  rw [rev_getD hn, rev_getD hn, if_pos (by omega), if_pos hj]
  exact h _ _ (by omega) (by omega)
theorem tail3_runs (O : StrictOn N lt) {p : Array Nat} (h : AllOf N p) {n : Nat} (h1 : 1 ≤ n) (hn : n ≤ N) (hd : DownTo lt p n) : ∃ m q, Runs N lt (kas_tail3 n N p) (m, q) ∧ AllOf N q ∧ 1 ≤ m ∧ m ≤ N ∧ UpTo lt q m := by
  have hq := rev_all h 0 n
  obtain ⟨m, r1, r2, r3, r4, _⟩ := asc_runs O hq (N - n) n h1 (by omega) (rev_up (by rw [h.size]; exact hn) hd)
  exact ⟨m, _, Runs.bind r1 Runs.ret, hq, by omega, r3, r4⟩
theorem descPart_runs (O : StrictOn N lt) {p : Array Nat} (h : AllOf N p) {n : Nat} (h1 : 1 ≤ n) (hn : n + 1 ≤ N) (hd : DownTo lt p (n + 1)) : ∃ m q, Runs N lt (kas_descPart n N p) (m, q) ∧ AllOf N q ∧ 1 ≤ m ∧ m ≤ N ∧ UpTo lt q m := by
  obtain ⟨m, r1, r2, r3, r4⟩ := desc_runs O h (N - (n + 1)) (n + 1) (by omega) (by omega) hd
  obtain ⟨m', q, s1, s2, s3, s4, s5⟩ := tail3_runs O h (n := m) (by omega) r3 r4
  refine ⟨m', q, Runs.bind r1 ?_, s2, s3, s4, s5⟩
  rw [if_neg (Nat.lt_irrefl 0)]
  exact s1
theorem count_runs (O : StrictOn N lt) {p : Array Nat} (h : AllOf N p) (h1 : 1 ≤ N) : ∃ m q, Runs N lt (kas_count N p) (m, q) ∧ AllOf N q ∧ 1 ≤ m ∧ m ≤ N ∧ UpTo lt q m := by
  obtain ⟨m, r1, r2, r3, r4, r5⟩ := asc_runs O h (N - 1) 1 (Nat.le_refl _) (by omega) (fun i j hij hj => by omega)
  by_cases e : m = N
  · refine ⟨m, p, Runs.bind r1 ?_, h, r2, r3, r4⟩
    rw [if_pos (beq_iff_eq.mpr e)]
    exact Runs.ret
  · have hlt := r5 (by omega)
    by_cases e1 : m > 1
    · refine ⟨m, p, Runs.bind r1 ?_, h, r2, r3, r4⟩
      rw [if_neg (fun z => e (beq_iff_eq.mp z)), if_pos e1]
      refine Runs.ask (h.below (by omega)) (h.below (by omega)) ?_
      rw [r4 0 (m - 1) (by omega) (by omega), if_pos rfl]
      exact Runs.ret
    · obtain rfl : m = 1 := by omega
      have hd : DownTo lt (kas_rev p 0 1) 2 := fun i j hij hj => by
        have e : ∀ k, (kas_rev p 0 1).getD k 0 = p.getD k 0 := fun k => by
          rw [rev_getD (by rw [h.size]; omega)]
          by_cases z : k < 1
          · obtain rfl : k = 0 := by omega
            rw [if_pos z]
          · rw [if_neg z]
        obtain rfl : i = 0 := by omega
        obtain rfl : j = 1 := by omega
        rw [e, e]
        exact hlt
      have er : kas_rev p 0 1 = p := by
        unfold kas_rev mirror
        simp
      rw [er] at hd
      obtain ⟨m', q, s1, s2, s3, s4, s5⟩ := descPart_runs O h (n := 1) (Nat.le_refl _) (by omega) hd
      refine ⟨m', q, Runs.bind r1 ?_, s2, s3, s4, s5⟩
      rw [if_neg (fun z => e (beq_iff_eq.mp z)), if_neg e1]
      exact s1
theorem place_runs (O : StrictOn N lt) {p : Array Nat} (h : AllOf N p) {k : Nat} (hk : k < N) (hu : UpTo lt p k) : ∀ f l r, l ≤ r → r ≤ k → r - l ≤ f → (∀ i, i < l → lt (p.getD i 0) (p.getD k 0) = true) → (∀ i, r ≤ i → i < k → lt (p.getD k 0) (p.getD i 0) = true) →
    ∃ m, Runs N lt (kas_place p k f l r) m ∧ m ≤ k ∧ (∀ i, i < m → lt (p.getD i 0) (p.getD k 0) = true) ∧ (∀ i, m ≤ i → i < k → lt (p.getD k 0) (p.getD i 0) = true) := by
  intro f
  induction f with
  | zero => intro l r h1 h2 h3 h4 h5; exact ⟨l, Runs.ret, by omega, h4, fun i hi hik => h5 i (by omega) hik⟩
  | succ f ih =>
    intro l r h1 h2 h3 h4 h5
    by_cases e : l ≥ r
    · refine ⟨l, ?_, by omega, h4, fun i hi hik => h5 i (by omega) hik⟩
      unfold kas_place
      rw [if_pos e]
      exact Runs.ret
    · have a1 : p.getD k 0 < N := h.below hk
      have a2 : p.getD ((l + r) / 2) 0 < N := h.below (by omega)
      have hm : (l + r) / 2 < k := by omega
      cases hc : lt (p.getD k 0) (p.getD ((l + r) / 2) 0) with
      | true =>
        obtain ⟨m, r1, r2⟩ := ih l ((l + r) / 2) (by omega) (by omega) (by omega) h4 (fun i hi hik => by
          rcases Nat.lt_or_ge ((l + r) / 2) i with z | z
          · exact O.trans _ _ _ hc (hu _ i z hik)
          · obtain rfl : i = (l + r) / 2 := by omega
            exact hc)
        refine ⟨m, ?_, r2⟩
        unfold kas_place
        rw [if_neg e]
        refine Runs.ask a1 a2 ?_
        rw [hc, if_pos rfl]
        exact r1
      | false =>
        have hs := O.flip a1 a2 (h.ne hk (by omega) (by omega)) hc
        obtain ⟨m, r1, r2⟩ := ih ((l + r) / 2 + 1) r (by omega) (by omega) (by omega) (fun i hi => by
          rcases Nat.lt_or_ge i ((l + r) / 2) with z | z
          · exact O.trans _ _ _ (hu i _ z hm) hs
          · obtain rfl : i = (l + r) / 2 := by omega
            exact hs) h5
        refine ⟨m, ?_, r2⟩
        unfold kas_place
        rw [if_neg e]
        refine Runs.ask a1 a2 ?_
        rw [hc, if_neg (by decide)]
        exact r1
theorem bubble_getD {p : Array Nat} {k d : Nat} (hk : k < p.size) (hd : d ≤ k) (i : Nat) : (bubble p k d).getD i 0 = if i = k - d then p.getD k 0 else if k - d < i ∧ i ≤ k then p.getD (i - 1) 0 else p.getD i 0 := by
  have e := getElem?_bubble hk d hd i
  have g : ∀ (q : Array Nat) (i : Nat), q.getD i 0 = (q[i]?).getD 0 := fun q i => by simp [Array.getD_eq_getD_getElem?]
  rw [g (bubble p k d), g p k, g p (i - 1), g p i, e]
  (repeat' split) <;> rfl
theorem bin_runs (O : StrictOn N lt) : ∀ f k (p : Array Nat), AllOf N p → k + f = N → UpTo lt p k → ∃ q, Runs N lt (kas_bin f p k) q ∧ AllOf N q ∧ UpTo lt q N := by
  intro f
  induction f with
  | zero => intro k p h hf hu; exact ⟨p, Runs.ret, h, by rw [← hf]; exact hu⟩
  | succ f ih =>
    intro k p h hf hu
    obtain ⟨m, r1, r2, r3, r4⟩ := place_runs O h (by omega) hu k 0 k (Nat.zero_le _) (Nat.le_refl _) (by omega) (fun i hi => by omega) (fun i hi hik => by omega)
    have hb := fun i => bubble_getD (p := p) (k := k) (d := k - m) (by rw [h.size]; omega) (by omega) i
    have hkm : k - (k - m) = m := by omega
    rw [hkm] at hb
    have hall : AllOf N (bubble p k (k - m)) := ((bubble_perm p k (k - m)).toList).trans h
    obtain ⟨q, s1, s2, s3⟩ := ih (k + 1) _ hall (by omega) (fun i j hij hj => by
      rw [hb, hb]
      by_cases j1 : j = m
      · rw [if_neg (show i ≠ m by omega), if_neg (show ¬ (m < i ∧ i ≤ k) by omega), if_pos j1]
        exact r3 i (by omega)
      · rw [if_neg j1]
        by_cases j2 : m < j ∧ j ≤ k
        · rw [if_pos j2]
          by_cases i1 : i = m
          · rw [if_pos i1]
            exact r4 (j - 1) (by omega) (by omega)
          · rw [if_neg i1]
            by_cases i2 : m < i ∧ i ≤ k
            · rw [if_pos i2]; exact hu _ _ (by omega) (by omega)
            · rw [if_neg i2]; exact hu _ _ (by omega) (by omega)
        · rw [if_neg j2, if_neg (show i ≠ m by omega), if_neg (show ¬ (m < i ∧ i ≤ k) by omega)]
          exact hu _ _ hij (by omega))
    exact ⟨q, Runs.bind r1 s1, s2, s3⟩
theorem sort_runs (O : StrictOn N lt) (h1 : 1 ≤ N) : ∃ q, Runs N lt (kas_sort N) q ∧ AllOf N q ∧ UpTo lt q N := by
  have h : AllOf N (List.toArray (List.range N)) := List.Perm.refl _
  obtain ⟨m, q, r1, r2, r3, r4, r5⟩ := count_runs O h h1
  by_cases e : m < N
  · obtain ⟨q', s1, s2, s3⟩ := bin_runs O (N - max m 1) (max m 1) q r2 (by omega) (by rw [Nat.max_eq_left r3]; exact r5)
    refine ⟨q', Runs.bind r1 ?_, s2, s3⟩
    rw [if_pos e]
    exact s1
  · refine ⟨q, Runs.bind r1 ?_, r2, ?_⟩
    · rw [if_neg e]; exact Runs.ret
    · obtain rfl : m = N := by omega
      exact r5
end
theorem ltI_trans : ∀ {a b c : List Int}, ltI a b = true → ltI b c = true → ltI a c = true := by
  intro a
  induction a with
  | nil =>
    intro b c h1 h2
    cases b with
    | nil => cases h1
    | cons y b => cases c with
      | nil => cases h2
      | cons z c => rfl
  | cons x a ih =>
    intro b c h1 h2
    cases b with
    | nil => cases h1
    | cons y b => cases c with
      | nil => cases h2
      | cons z c =>
        unfold ltI at h1 h2 ⊢
        by_cases e1 : x = y
        · subst e1
          rw [if_pos rfl] at h1
          by_cases e2 : x = z
          · subst e2
            rw [if_pos rfl] at h2 ⊢
            exact ih h1 h2
          · rw [if_neg e2] at h2 ⊢
            exact h2
        · rw [if_neg e1] at h1
          by_cases e2 : y = z
          · subst e2
            rw [if_neg e1]
            exact h1
          · rw [if_neg e2] at h2
            have l1 := of_decide_eq_true h1
            have l2 := of_decide_eq_true h2
            rw [if_neg (by omega)]
            exact decide_eq_true (by omega)
theorem ltI_asym : ∀ {a b : List Int}, ltI a b = true → ltI b a = false := by
  intro a
  induction a with
  | nil => intro b h; cases b with
    | nil => cases h
    | cons y b => rfl
  | cons x a ih =>
    intro b h
    cases b with
    | nil => cases h
    | cons y b =>
      unfold ltI at h ⊢
      by_cases e : x = y
      · subst e
        rw [if_pos rfl] at h ⊢
        exact ih h
      · rw [if_neg e] at h
        rw [if_neg (Ne.symm e)]
        have l1 := of_decide_eq_true h
        exact decide_eq_false (by omega)
theorem ltI_total : ∀ {a b : List Int}, a ≠ b → ltI a b = true ∨ ltI b a = true := by
  intro a
  induction a with
  | nil => intro b h; cases b with
    | nil => exact absurd rfl h
    | cons y b => exact .inl rfl
  | cons x a ih =>
    intro b h
    cases b with
    | nil => exact .inr rfl
    | cons y b =>
      unfold ltI
      by_cases e : x = y
      · subst e
        rw [if_pos rfl, if_pos rfl]
        exact ih (fun z => h (by rw [z]))
      · rw [if_neg e, if_neg (Ne.symm e)]
        rcases Int.lt_or_gt_of_ne e with z | z
        · exact .inl (decide_eq_true z)
        · exact .inr (decide_eq_true z)
theorem ltI_self (a : List Int) : ltI a a = false := by
  cases h : ltI a a with
  | false => rfl
  | true => have := ltI_asym h; rw [h] at this; cases this
theorem words_strict {ws : List (List Int)} (h : ws.Nodup) : StrictOn ws.length (fun i j => ltI (ws.getD i []) (ws.getD j [])) where
  trans := fun _ _ _ => ltI_trans
  asym := fun _ _ => ltI_asym
  total := fun a b ha hb hab => ltI_total (by
    rw [List.getD_eq_getElem?_getD, List.getD_eq_getElem?_getD, List.getElem?_eq_getElem ha, List.getElem?_eq_getElem hb, Option.getD_some, Option.getD_some]
    rcases Nat.lt_or_gt_of_ne hab with z | z
    · exact List.pairwise_iff_getElem.mp h a b _ _ z
    · exact fun e => List.pairwise_iff_getElem.mp h b a _ _ z e.symm)

section
variable {prog : Program} {w : World} {A : Around} {E : Value → Shared → Prop} {s : Shared} {h₀ : Heap} {L : Addr} {m : Str → Option Value} {news : List (Addr × Obj)}
/-- the sort of lists that begin with lists of ints that differ -/
theorem sorted_words {l : Addr} {vs : List Value} {ws : List (List Int)} {Q : Value → Shared → Prop} (F : Fr h₀ L s.heap m) (N : News h₀ L s.heap news) (hl : s.heap.IsList l vs.toArray) (hlen : vs.length = ws.length) (h2 : 2 ≤ vs.length) (h64 : vs.length < 64) (hnd : ws.Nodup)
    (hT : ∀ h, Fr h₀ L h m → News h₀ L h news → ∀ v ∈ vs, ∃ a xs n, v = .ref a ∧ h.get? a = some (listOf xs n))
    (hcmp : ∀ h' i j (C : Bool → Shared → Prop), Fr h₀ L h' m → News h₀ L h' news → i < vs.length → j < vs.length → C (ltI (ws.getD i []) (ws.getD j [])) { s with heap := h' } → kas_ask prog w A.in1.in1 oneType' vs i j C { s with heap := h' })
    (h : ∀ D c h' (p : Array Nat), AllOf vs.length p → UpTo (fun i j => ltI (ws.getD i []) (ws.getD j [])) p vs.length → Fr h₀ L h' m → News h₀ L h' ((D, listOf (p.toList.map fun i => vs.getD i Value.none).toArray c) :: news) → AllLt D news → Q (.ref D) { s with heap := h' }) :
    wpAny (model prog w) A (call (.builtin "sorted") [.ref l]) Q E s := by
  refine kas_sorted (T := .type "list") F N hl h2 h64 (fun h' F' N' v hv => ?_) (by decide +kernel) fun D e1 h' F' N' hD => ?_
  · obtain ⟨a, xs, n, rfl, ha⟩ := hT h' F' N' v hv
    exact fun A' Q' E' s' k q => wpAny_typeOf (T := "list") ⟨_, k _ _ ha, rfl⟩ q
  · obtain ⟨p, r1, r2, r3⟩ := sort_runs (lt := fun i j => ltI (ws.getD i []) (ws.getD j [])) (hlen ▸ words_strict hnd) (by omega)
    refine r1 _ _ _ (fun i j C hi hj hC => hcmp h' i j C F' (fun q hq => N' q (.tail _ hq)) hi hj hC) ?_
    refine KasFin.intro F' N' (g := fun o => (D, o) :: news) ?_ fun h'' c F'' N'' => h D c h'' p r2 r3 F'' N'' (allLt_of hD)
    exact UpdF.head fun q hq => Nat.ne_of_lt (hD q hq)
/-- fewer than two -/
theorem sorted_few {l : Addr} {vs : List Value} {Q : Value → Shared → Prop} (F : Fr h₀ L s.heap m) (N : News h₀ L s.heap news) (hl : s.heap.IsList l vs.toArray) (h2 : vs.length < 2)
    (h : ∀ D c h', Fr h₀ L h' m → News h₀ L h' ((D, listOf vs.toArray c) :: news) → AllLt D news → Q (.ref D) { s with heap := h' }) :
    wpAny (model prog w) A (call (.builtin "sorted") [.ref l]) Q E s := by
  refine Calls.call_function_entry kind_sorted plain_sorted entry_sorted (args_sorted1 _) ?_
  unfold Builtin.«sorted»
  refine wpAny_bind (m := checkCount "sorted" 1 1 _) (wpAny_pure ?_)
  refine wpAny_bind (collect_list hl ?_ (by rw [sizeLine_eq]; omega))
  refine wpAny_bind (wpAny_newList ?_ (by rw [sizeLine_eq]; omega))
  have hsz : ((s.heap.push (seqObj "list" #[] 0)).update s.heap.objs.size (Obj.mapSeq (· ++ vs.toArray))).objs.size = s.heap.objs.size + 1 := by
    rw [Heap.size_update, size_push']
  have hoL : (((s.heap.push (seqObj "list" #[] 0)).update s.heap.objs.size (Obj.mapSeq (· ++ vs.toArray))).push (seqObj "list" vs.toArray 0)).get? (s.heap.objs.size + 1) = some (seqObj "list" vs.toArray 0) := by
    rw [← hsz]; exact Heap.get?_push_size _ rfl
  have keep : ∀ b o, s.heap.get? b = some o → (((s.heap.push (seqObj "list" #[] 0)).update s.heap.objs.size (Obj.mapSeq (· ++ vs.toArray))).push (seqObj "list" vs.toArray 0)).get? b = some o := fun b o q => by
    have hlt : b < s.heap.objs.size := Heap.lt_size q
    rw [Heap.get?_push_ne _ _ _ (by rw [hsz]; exact Nat.ne_of_lt (Nat.lt_succ_of_lt hlt)), Heap.get?_update_ne _ _ _ _ (Nat.ne_of_lt hlt), Heap.get?_push_ne _ _ _ (Nat.ne_of_lt hlt)]
    exact q
  have hL : L < s.heap.objs.size := F.ns.lt
  show wpAny _ _ _ _ _ { s with heap := ((s.heap.push (seqObj "list" #[] 0)).update s.heap.objs.size (Obj.mapSeq (· ++ vs.toArray))).push (seqObj "list" vs.toArray 0) }
  rw [hsz]
  generalize hH : ((s.heap.push (seqObj "list" #[] 0)).update s.heap.objs.size (Obj.mapSeq (· ++ vs.toArray))).push (seqObj "list" vs.toArray 0) = H at hoL keep
  have hlt1 : ∀ p ∈ news, p.1 < s.heap.objs.size + 1 := fun p hp => Nat.lt_succ_of_lt (Heap.lt_size (N p hp).1)
  have ha0 : h₀.get? (s.heap.objs.size + 1) = none := Heap.get?_none_of_le (Nat.le_trans F.above (Nat.le_succ_of_le (Nat.le_of_lt hL)))
  have haL : s.heap.objs.size + 1 ≠ L := Nat.ne_of_gt (Nat.lt_succ_of_lt hL)
  generalize s.heap.objs.size + 1 = a at *
  refine wpAny_bind (wpAny_holding (wpAny_call_entry slot_list_sort ⟨_, hoL, rfl⟩ entry_list_sort ?body (args_list_sort _)))
  case body =>
    have s1 := Heap.SameBut.update H a (Obj.mapSeq fun _ => (#[] : Array Value))
    obtain ⟨e1, ho1⟩ : ∃ e1, (H.update a (Obj.mapSeq fun _ => (#[] : Array Value))).get? a = some (seqObj "list" #[] e1) := ⟨_, get?_update_seq hoL fun _ => #[]⟩
    have F1 : Fr h₀ L H m := F.kept keep
    have N1 : News h₀ L H news := N.grown keep
    have ha : a < H.objs.size := Heap.lt_size hoL
    rw [list_sort_plain]
    refine wpAny_bind (listItems_at hoL rfl ?_)
    refine wpAny_bind (listUpdate_at hoL rfl ?_ (by rw [List.size_toArray, sizeLine_eq]; omega) (Nat.zero_le _))
    refine wpAny_bind (seqEpoch_at ho1 rfl ?_)
    refine wpAny_bind (wpAny_newTuple ?_ (by show vs.length ≤ _; rw [sizeLine_eq]; omega))
    refine wpAny_bind (wpAny_newList ?_ (Nat.zero_le _))
    refine wpAny_holding ?_
    show wpAny (model prog w) _ _ _ _ { s with heap := ((H.update a (Obj.mapSeq fun _ => (#[] : Array Value))).push (seqObj "tuple" vs.toArray 0)).push (seqObj "list" #[] 0) }
    dsimp only
    have hn2 : vs.toArray.size < 2 := by rw [List.size_toArray]; omega
    rw [if_pos hn2, if_pos hn2]
    refine wpAny_bind (wpAny_pure ?_)
    rw [StateT.run_pure]
    refine wpAny_bind (wpAny_pure ?_)
    have k3 : ∀ b o, (H.update a (Obj.mapSeq fun _ => (#[] : Array Value))).get? b = some o → (((H.update a (Obj.mapSeq fun _ => (#[] : Array Value))).push (seqObj "tuple" vs.toArray 0)).push (seqObj "list" #[] 0)).get? b = some o :=
      fun b o q => Heap.get?_push_of_some _ (Heap.get?_push_of_some _ q)
    have F3 := ((kas_fr F1 s1 haL ha0).push (seqObj "tuple" vs.toArray 0)).push (seqObj "list" #[] 0)
    have N3 := (kas_news N1 s1 (fun p hp => Nat.ne_of_lt (hlt1 p hp))).grown k3
    have ho3 := k3 _ _ ho1
    generalize ((H.update a (Obj.mapSeq fun _ => (#[] : Array Value))).push (seqObj "tuple" vs.toArray 0)).push (seqObj "list" #[] 0) = H3 at F3 N3 ho3
    have hout : (arrOf (SortSt.mk' general' (vs.toArray.zip vs.toArray) #[] 7 none)).map (·.2) = vs.toArray := by
      show (vs.toArray.zip vs.toArray).map (·.2) = vs.toArray
      apply Array.toList_inj.mp
      simp
      exact List.map_snd_zip (Nat.le_refl _)
    dsimp only
    rw [hout]
    refine wpAny_bind (seqEpoch_at ho3 rfl ?_)
    refine wpAny_bind (listUpdate_at ho3 rfl ?_ (Nat.zero_le _) (by rw [List.size_toArray, sizeLine_eq]; omega))
    have s4 := Heap.SameBut.update H3 a (Obj.mapSeq fun _ => vs.toArray)
    obtain ⟨c4, hc4⟩ : ∃ c, (H3.update a (Obj.mapSeq fun _ => vs.toArray)).get? a = some (seqObj "list" vs.toArray c) := ⟨_, get?_update_seq ho3 fun _ => vs.toArray⟩
    simp only [bne_self_eq_false, Bool.false_eq_true, if_false]
    refine wpAny_pure ⟨_, rfl, wpAny_pure ⟨_, rfl, h a c4 _ (kas_fr F3 s4 haL ha0) (fun p hp => ?_) (allLt_of hlt1)⟩⟩
    rcases List.mem_cons.mp hp with rfl | hp
    · exact ⟨hc4, haL, ha0⟩
    · exact kas_news N3 s4 (fun p hp => Nat.ne_of_lt (hlt1 p hp)) p hp
end
theorem word_spec {w : World} {A : Around} {E : Value → Shared → Prop} {s : Shared} {V : Heap} {mg mb : Str → Option Value} {mean : ExcName → Option Value} {Q : Value → Shared → Prop}
    {ex ed lo : Addr} {v2 v3 v4 : Value} {u1 u2 u3 u4 : Tok}
    (hV : Grow V s.heap) (X₀ : (hd.heap_1 w.params).In V) (T : Top headView (looseW headView [Str.ofString "EXACT"]) mean mg mb V)
    (hD : A.depth ≤ 600) (hU : A.units ≤ 2000) (hh : A.handled = none) (hx : s.heap.get? ex = some (instObj 43 ed)) (hdx : s.heap.get? ed = some (dictOf [fld w "word" u1 (.ref lo), fld w "codes" u2 v2, fld w "is_exact" u3 v3, fld w "used" u4 v4] 4))
    (hfin : ∀ h' tk', Grow s.heap h' → Q (.ref lo) { s with heap := h', toks := tk' }) :
    wpAny (model PySem.Challenge.rw_ok0052_01.row.prog w) A (call (.ref 127) [.ref ex]) Q E s := by
  revert X₀; k_fill; intro X₀
  refine wpAny_call ?_
  refine' enterNR [] [("entry", .ref ex)] hV X₀ T (fun _ h => nomatch h) ?k6 ?k7 ?k8 ?k9 ?kB ?_ ?c2 ?c3 ?c4 ?c5
  walk_at "ENTER"
  intro g L' h₁ hg hL F' N' X' T'
  try dsimp only
  have hx' := hg _ _ hx (fun n => nomatch n)
  have hdx' := hg _ _ hdx (fun n => nomatch n)
  walk_at "S"
  rename Fr _ _ _ _ => F₃
  exact hfin _ _ (fun b o q => F₃.keep b o (hg b o q (fun n => nomatch n)))

section
variable {prog : Program} {w : World} {A : Around} {E : Value → Shared → Prop} {s : Shared} {h₀ : Heap} {L : Addr} {m : Str → Option Value} {news : List (Addr × Obj)}
/-- the sort by keys that are lists of ints that differ -/
theorem sorted_keyed {l f : Addr} {vs ks : List Value} {ws : List (List Int)} {Q : Value → Shared → Prop} (R : Value → Value → Prop) (hR : Paired R vs ks) (F : Fr h₀ L s.heap m) (N : News h₀ L s.heap news) (hl : s.heap.IsList l vs.toArray) (hlen : vs.length = ws.length) (h2 : 2 ≤ vs.length) (h64 : vs.length < 64) (hnd : ws.Nodup)
    (hcall : ∀ (v k : Value) (news' : List (Addr × Obj)) (h' : Heap) (tk : Nat) (Q' : Value → Shared → Prop), R v k → Fr h₀ L h' m → News h₀ L h' news' → (∀ h'' tk', Fr h₀ L h'' m → News h₀ L h'' news' → Q' k { s with heap := h'', toks := tk' }) →
      wpAny (model prog w) A.in1.in1 (call (.ref f) [v]) Q' (fun _ _ => False) { s with heap := h', toks := tk })
    (hT : ∀ k ∈ ks, ∃ a xs n, k = .ref a ∧ h₀.get? a = some (listOf xs n))
    (hcmp : ∀ h' tk i j (C : Bool → Shared → Prop), Fr h₀ L h' m → i < vs.length → j < vs.length → C (ltI (ws.getD i []) (ws.getD j [])) { s with heap := h', toks := tk } → kas_ask prog w A.in1.in1 oneType' ks i j C { s with heap := h', toks := tk })
    (h : ∀ D c h' tk news' (p : Array Nat), AllOf vs.length p → UpTo (fun i j => ltI (ws.getD i []) (ws.getD j [])) p vs.length → Fr h₀ L h' m → News h₀ L h' ((D, listOf (p.toList.map fun i => vs.getD i Value.none).toArray c) :: (news' ++ news)) → (∀ q ∈ news' ++ news, q.1 ≠ D) → Q (.ref D) { s with heap := h', toks := tk }) :
    wpAny (model prog w) A (call (.builtin "sorted") [.ref l] [(Str.ofString "key", .ref f)]) Q E s := by
  refine kat_sortedK (b := false) (f := .ref f) F N hl h2 h64 (ksk_s1 _ _) (fun x => ksk_l1 _ _) (fun x => ksk_t1 _ _) fun D kS e1 h' F' N' hDk hD => ?_
  have key : ∀ (r kr done : List Value) (e : Nat) (h' : Heap) (tk : Nat), Paired R r kr → done ++ kr = ks → Fr h₀ L h' m → News h₀ L h' ((kS, seqObj "list" done.toArray e) :: (D, seqObj "list" #[] e1) :: news) →
      KatKeys prog w A.in1.in1 h₀ L m kS (.ref f) (fun ks e s' => wpAny (model prog w) A.in1.in1 (keyKind' (List.toArray ks)) (fun κ s'' => (kas_sort vs.length).kasWp (kas_ask prog w A.in1.in1 κ (katRev false ks)) (fun p s3 => KatFin h₀ L m kS D ks e e1 (katRev false (p.toList.map fun i => (katRev false vs).getD i Value.none)) (fun s4 => Q (.ref D) s4) s3) s'') (fun _ _ => False) s') r done e { s with heap := h', toks := tk } := by
    intro r
    induction r with
    | nil =>
      intro kr done e h' tk hp hk F' N'
      cases hp
      rw [List.append_nil] at hk
      subst hk
      refine KatKeys.nil ?_
      have hkl : done.length = vs.length := hR.length.symm
      refine kas_kind (T := .type "list") (by omega) (fun v hv => ?_) (by decide +kernel) (by decide +kernel) ?_
      · obtain ⟨a, xs, n, rfl, ha⟩ := hT v hv
        exact fun A' Q' E' s' k q => wpAny_typeOf (T := "list") ⟨_, k _ _ (F'.keep _ _ ha), rfl⟩ q
      · obtain ⟨p, r1, r2, r3⟩ := sort_runs (lt := fun i j => ltI (ws.getD i []) (ws.getD j [])) (hlen ▸ words_strict hnd) (by omega)
        refine r1 _ _ _ (fun i j C hi hj hC => hcmp h' tk i j C F' hi hj hC) ?_
        refine KatFin.intro F' N' (UpdF.head fun q hq => ?_) fun h'' c F'' N'' => ?_
        · rcases List.mem_cons.mp hq with rfl | hq
          · exact Nat.ne_of_lt hDk
          · exact Nat.ne_of_lt (Nat.lt_trans (hD q hq) hDk)
        · refine KasFin.intro F'' N'' (UpdF.tail (Nat.ne_of_gt hDk) (UpdF.head fun q hq => Nat.ne_of_lt (hD q hq))) fun h3 c3 F3 N3 => h D c3 h3 tk [(kS, seqObj "list" #[] c)] p r2 r3 F3 (fun q hq => N3 q ?_) (fun q hq => ?_)
          · rcases List.mem_cons.mp hq with rfl | hq
            · exact .tail _ (.head _)
            · rcases List.mem_cons.mp hq with rfl | hq
              · exact .head _
              · exact .tail _ (.tail _ hq)
          · rcases List.mem_cons.mp hq with rfl | hq
            · exact Nat.ne_of_gt hDk
            · exact Nat.ne_of_lt (hD q hq)
    | cons v r ih =>
      intro kr done e h' tk hp hk F' N'
      cases hp with
      | cons hv hr =>
        rename_i k kr'
        refine KatKeys.cons (hcall v k _ h' tk _ hv F' N' fun h'' tk' F'' N'' => ?_)
        refine KatBack.intro F'' N'' (UpdF.head fun q hq => ?_) fun h3 c3 F3 N3 => ?_
        · rcases List.mem_cons.mp hq with rfl | hq
          · exact Nat.ne_of_lt hDk
          · exact Nat.ne_of_lt (Nat.lt_trans (hD q hq) hDk)
        · exact ih kr' (done ++ [k]) c3 h3 tk' hr (by rw [List.append_assoc]; exact hk) F3 N3
  exact key vs ks [] 0 h' s.toks hR rfl F' N'
end
local macro_rules | `(tactic| walk_at "unpackItems ref") => ln_line "" true ``kun_items "k1 k2 k3 k4 k5 _" "k1:k k2:k k3:KUL k4:a k5:r W" "h' F' N'"
local macro_rules | `(tactic| walk_at "unpackItems ref") => ln_line "" true ``unpackItemsN_ "k1 k2 k3 k4 k5 _" "k1:k k2:k k3:KUT k4:a k5:r W" "h' F' N'"
section
variable {prog : Program} {w : World} {A : Around} {env : Env} {E : Value → Shared → Prop} {s₁ : Shared}
/-- a comprehension over a text -/
theorem comp_str {elt : PySem.Expr} {x : Str} {scope : Scope} {cl : List (Str × Addr)} {Q : Value → Shared → Prop} {z : Str} {tz : Tok} (R : Nat → Value → Prop)
    (hh : A.handled = none) (hz : z.cps.size ≤ 1000)
    (helt : ∀ (G : Heap) (C : Addr) (c : Nat) (u : Tok) (own : List (Addr × Obj)) (h₃ : Heap) (tk₃ : Nat) (m₃ : Str → Option Value), c ∈ z.cps.toList → Grow s₁.heap G →
        Fr G C h₃ (fun y => if y = x then some (.str ⟨#[c]⟩ u) else m₃ y) → News G C h₃ own →
        wpAny (model prog w) A (eval elt (compEnvC scope cl C env)) (fun y s₄ => ∃ h₄ tk₄ m₄, s₄ = { s₁ with heap := h₄, toks := tk₄ } ∧ Fr G C h₄ m₄ ∧ News G C h₄ own ∧ R c y)
          (fun _ _ => False) { s₁ with heap := h₃, toks := tk₃ })
    (done : ∀ D c h' tk ys, Paired R z.cps.toList ys → Above s₁.heap D → Grow s₁.heap h' → h'.get? D = some (listOf ys.toArray c) → Q (.ref D) { s₁ with heap := h', toks := tk }) :
    wpAny (model prog w) A (pyIter (.str z tz)) (CompAt prog w A env scope cl x elt Q) E s₁ := by
  have hsm : ∀ b o, s₁.heap.get? b = some o → b ∉ [s₁.heap.objs.size] := fun b o e q => by
    rw [List.mem_singleton.mp q] at e; exact Nat.lt_irrefl _ (Heap.lt_size e)
  have main : ∀ (kind : String) (o : Obj), Walks prog w A s₁.heap.objs.size [s₁.heap.objs.size] [s₁.heap.objs.size] z.cps.size (SignAt z) (fun i h => h.IsStrIter s₁.heap.objs.size kind z tz i) → (s₁.heap.push o).IsStrIter s₁.heap.objs.size kind z tz 0 →
      CompAt prog w A env scope cl x elt Q (.ref s₁.heap.objs.size) { s₁ with heap := s₁.heap.push o } := by
    intro kind o W hst
    refine ⟨s₁.heap.objs.size, [s₁.heap.objs.size], [s₁.heap.objs.size], z.cps.size, _, _, [], fun i ys _ => Paired R (z.cps.toList.take i) ys, rfl, W, (by rw [sizeLine_eq]; omega), hst, ?_, (fun _ h => nomatch h), .nil, ?_, ?_⟩
    · rintro i h ⟨o, ho, _⟩ b hb
      rw [List.mem_singleton.mp hb]
      exact ⟨o, ho⟩
    · intro G C i v ys objs own h₃ tk₃ m₃ hi hv hlen hΦ hG1 hG2 hoff F N hC
      obtain ⟨c, u, hc, rfl⟩ := hv
      have hc' : z.cps.toList[i]? = some c := by simpa using hc
      refine wpAny_mono (helt G C c u own h₃ tk₃ m₃ (List.mem_of_getElem? hc') (fun b o e => hG1 b o (Heap.get?_push_of_some _ e) (fun q => nomatch q) (hsm b o e)) F (fun p hp => N p (List.mem_append_right _ hp))) (fun y s₄ h₄ => ?_) fun _ _ e => e
      obtain ⟨h₄, tk₄, m₄, rfl, F₄, N₄, hR⟩ := h₄
      refine ⟨h₄, tk₄, m₄, [], rfl, F₄, N₄, Off.nil, ?_⟩
      show Paired R (z.cps.toList.take (i + 1)) (ys ++ [y])
      rw [List.take_add_one, hc']
      exact Paired.snoc hΦ hR
    · intro D c h' tk ys objs hΦ hlen ha ho _ hk
      have hΦ' : Paired R z.cps.toList ys := by
        have e : Paired R (z.cps.toList.take z.cps.size) ys := hΦ
        rw [← Array.length_toList, List.take_length] at e; exact e
      exact done D c h' tk ys hΦ' (fun b o e => ha b o (Heap.get?_push_of_some _ e)) (fun b o e => hk b o (Heap.get?_push_of_some _ e) (fun q => nomatch q) (hsm b o e)) ho
  cases ha : z.cps.all (· < 128)
  · exact wpAny_pyIter_wide ha (main _ _ (Walks.strWide hh _ z tz) ⟨_, Heap.get?_push_size _ rfl, rfl, rfl⟩)
  · exact wpAny_pyIter_ascii ha (main _ _ (Walks.strAscii hh _ z tz) ⟨_, Heap.get?_push_size _ rfl, rfl, rfl⟩)
end
/-- the figures of a number, as codes -/
noncomputable def dig (n : Int) : List Int := (txt n).cps.toList.map fun c : Nat => (c : Int)
theorem paired_codes {cs : List Nat} {ys : List Value} (h : Paired (fun c y => ∃ t, y = .int (c : Int) t) cs ys) : IntsAre ys (cs.map fun c : Nat => (c : Int)) := by
  induction h with
  | nil => exact .nil
  | cons h _ ih => obtain ⟨t, rfl⟩ := h; exact .cons _ _ ih
/-- the row of an abbreviation -/
noncomputable def writ (r : Row) : List Int := quote r.word ++ [32] ++ dig r.used ++ [32] ++ quote r.codes ++ (if r.exact then [32, 101, 120, 97, 99, 116] else []) ++ [10]
theorem quote_len (ns : List Int) : (quote ns).length ≤ 2 * ns.length + 2 := by
  have := flat_len esc_len ns
  unfold quote
  simp only [List.length_append, List.length_cons, List.length_nil]
  omega
theorem etext_spec {w : World} {A : Around} {E : Value → Shared → Prop} {s : Shared} {V : Heap} {mg mb : Str → Option Value} {mean : ExcName → Option Value} {Q : Value → Shared → Prop}
    {ex ed : Addr} {r : Row}
    (hV : Grow V s.heap) (X₀ : (hd.heap_1 w.params).In V) (T : Top headView (looseW headView [Str.ofString "EXACT"]) mean mg mb V)
    (hD : A.depth ≤ 580) (hU : A.units ≤ 1800) (hh : A.handled = none) (hE : EntryV w (HV s.heap) ed ex r) (hz1 : r.word.length ≤ 100) (hz2 : r.codes.length ≤ 100) (hu : 0 ≤ r.used ∧ r.used ≤ 10000)
    (hfin : ∀ a vs' c h' tk', IntsAre vs' (writ r) → Grow s.heap h' → s.heap.get? a = none → h'.get? a = some (listOf vs'.toArray c) → Q (.ref a) { s with heap := h', toks := tk' }) :
    wpAny (model PySem.Challenge.rw_ok0052_01.row.prog w) A (call (.ref 120) [.ref ex]) Q E s := by
  obtain ⟨lo, lc, lvs, lcs, u1, u2, u3, u4, u5, c1, c2, g1, g2, g3, g4, i1, i2⟩ := hE
  revert X₀; k_fill; intro X₀
  refine wpAny_call ?_
  refine' enterNR [] [("entry", .ref ex)] hV X₀ T (fun _ h => nomatch h) ?k6 ?k7 ?k8 ?k9 ?kB ?_ ?c2 ?c3 ?c4 ?c5
  walk_at "ENTER"
  intro g L' h₁ hg hL F' N' X' T'
  try dsimp only
  have hx' := hg _ _ g1 (fun n => nomatch n)
  have hdx' := hg _ _ g2 (fun n => nomatch n)
  have hlw : g.IsList lo lvs.toArray := ⟨_, hg _ _ g3 (fun n => nomatch n), rfl, _, rfl⟩
  have hlc : g.IsList lc lcs.toArray := ⟨_, hg _ _ g4 (fun n => nomatch n), rfl, _, rfl⟩
  have hE : g.IsList 108 ([.int 101 342, .int 120 343, .int 97 344, .int 99 345, .int 116 346] : List Value).toArray := ⟨_, X' 108 _ (by k_is), rfl, _, rfl⟩
  have hEi : IntsAre [.int 101 342, .int 120 343, .int 97 344, .int 99 345, .int 116 346] [101, 120, 97, 99, 116] := .cons _ _ (.cons _ _ (.cons _ _ (.cons _ _ (.cons _ _ .nil))))
  have hq1 := quote_len r.word
  have hq2 := quote_len r.codes
  walk_at "S"
  walk_at "COMP"
  rename Fr _ _ _ _ => F₀
  rename News _ _ _ _ => N₀
  have hts := txt_len hu
  refine comp_str (z := txt r.used) (fun c y => ∃ t, y = .int (c : Int) t) hh ?_ ?_ ?_
  · have : (txt r.used).cps.size = (txt r.used).length := rfl
    omega
  · intro G C c u own h₃ tk₃ m₃ hc hG F₃ N₃
    have X₃ : (hd.heap_1 w.params).In G := X'.keeps (fun b o e => hG b o (F₀.keep b o e))
    have T₃ := T'.keeps (fun b o e => hG b o (F₀.keep b o e))
    clear F₀ N₀ X' T'
    walk_at "S"
    exact ⟨_, _, _, rfl, F₃, N₃, _, rfl⟩
  · intro D c h' tk ys hR ha hG ho
    obtain ⟨F'', N'', l1⟩ := led_new F₀ N₀ hG ha ho
    have hid := paired_codes hR
    have hdl : (((txt r.used).cps.toList.map fun c : Nat => (c : Int))).length ≤ 6 := by rw [List.length_map]; exact hts
    clear F₀ N₀
    walk_at "S"
    all_goals (
      rename IntsAre _ _ => hI₃
      rename Fr _ _ _ _ => F₃
      rename News _ _ _ _ => N₃
      refine hfin _ _ _ _ _ ?_ (fun b o e => F₃.keep b o (hg b o e (fun n => nomatch n))) (fresh_back hg (N₃.fresh (.head _)) (fun n => nomatch n)) (N₃.get (.head _)))
    · rename r.exact = true => hx
      unfold writ dig
      rw [hx, if_pos rfl]
      simpa only [List.append_assoc, List.cons_append, List.nil_append] using hI₃
    · rename r.exact = false => hx
      unfold writ dig
      rw [hx, if_neg (by decide)]
      simpa only [List.append_assoc, List.cons_append, List.nil_append] using hI₃
local macro_rules | `(tactic| walk_at "call ref") => ln_line "call Value.ref=120 _ _" true ``etext_spec "*F X T d u hh e z1 z2 n _" "FX5 hh:a e:a z1:a z2:a n:a" "@FRESHED"
/-! ## plain law 1: what is written is read -/
theorem txt_cps (m : Nat) : (txt (m : Int)).cps.toList = (Nat.toDigits 10 m).map Char.toNat := KIN.signs_num m
theorem cps_inj {a b : Str} (h : a.cps.toList = b.cps.toList) : a = b := by
  cases a; cases b
  congr 1
  exact Array.toList_inj.mp h
theorem txt_inj {a b : Int} (ha : 0 ≤ a) (hb : 0 ≤ b) (h : txt a = txt b) : a = b := by
  obtain ⟨m, rfl⟩ := Int.eq_ofNat_of_zero_le ha
  obtain ⟨n, rfl⟩ := Int.eq_ofNat_of_zero_le hb
  have e : (txt (m : Int)).cps.toList = (txt (n : Int)).cps.toList := by rw [h]
  rw [txt_cps, txt_cps] at e
  have := congrArg NumText.digitsVal e
  rw [KIN.val_back, KIN.val_back] at this
  rw [this]
theorem txt_digits {n : Int} (h : 0 ≤ n) : ∀ c ∈ (txt n).cps.toList, 48 ≤ c ∧ c ≤ 57 := by
  obtain ⟨m, rfl⟩ := Int.eq_ofNat_of_zero_le h
  intro c hc
  rw [txt_cps] at hc
  obtain ⟨ch, hch, e⟩ := List.mem_map.mp hc
  rw [← e]
  exact digit_range (Nat.isDigit_of_mem_toDigits (by decide) (by decide) hch)
theorem txt_ne {n : Int} (h : 0 ≤ n) : (txt n).cps.toList ≠ [] := by
  obtain ⟨m, rfl⟩ := Int.eq_ofNat_of_zero_le h
  rw [txt_cps]
  intro e
  have := tDigits_len_ge 10 m
  rw [List.map_eq_nil_iff.mp e] at this
  exact absurd this (by decide)
theorem toDigits_head {m : Nat} : ∀ {r : List Char}, Nat.toDigits 10 m = '0' :: r → m = 0 := by
  induction m using Nat.strongRecOn with
  | _ m ih =>
    intro r h
    by_cases hm : m < 10
    · rw [Nat.toDigits_of_lt_base hm] at h
      have e := (List.cons.inj h).1
      have : ∀ d : Nat, d < 10 → Nat.digitChar d = '0' → d = 0 := by decide
      exact this m hm e
    · have hr : m % 10 < 10 := Nat.mod_lt m (by decide)
      have t : Nat.toDigits 10 (m / 10) ++ Nat.toDigits 10 (m % 10) = Nat.toDigits 10 (10 * (m / 10) + m % 10) := Nat.toDigits_append_toDigits (by decide) (by omega) hr
      rw [Nat.div_add_mod] at t
      rw [← t] at h
      have hl := tDigits_len_ge 10 (m / 10)
      cases hq : Nat.toDigits 10 (m / 10) with
      | nil => rw [hq] at hl; exact absurd hl (by decide)
      | cons a s =>
        rw [hq, List.cons_append] at h
        have := ih (m / 10) (by omega) (r := s) (by rw [hq, (List.cons.inj h).1])
        omega
theorem split_at {c : Nat} : ∀ {x x' s s' : List Nat}, c ∉ x → c ∉ x' → x ++ c :: s = x' ++ c :: s' → x = x' ∧ s = s' := by
  intro x
  induction x with
  | nil =>
    intro x' s s' _ h' h
    cases x' with
    | nil => exact ⟨rfl, (List.cons.inj h).2⟩
    | cons a r => exact absurd ((List.cons.inj h).1 ▸ List.mem_cons_self) h'
  | cons a r ih =>
    intro x' s s' h0 h' h
    cases x' with
    | nil => exact absurd ((List.cons.inj h).1 ▸ List.mem_cons_self) h0
    | cons b r' =>
      obtain ⟨e1, e2⟩ := List.cons.inj h
      obtain ⟨a1, a2⟩ := ih (fun z => h0 (.tail _ z)) (fun z => h' (.tail _ z)) e2
      exact ⟨by rw [e1, a1], a2⟩
theorem join_cps {sep : Str} {x y : Str} {r : List Str} : (Str.join sep (x :: y :: r)).cps.toList = x.cps.toList ++ (sep.cps.toList ++ (Str.join sep (y :: r)).cps.toList) := by
  rw [join_cons_cons, cps_toList_append, cps_toList_append, List.append_assoc]
theorem join_inj {sep : Str} {t : List Nat} (hs : sep.cps.toList = 44 :: t) : ∀ {xs ys : List Str}, (∀ x ∈ xs, 44 ∉ x.cps.toList ∧ x.cps.toList ≠ []) → (∀ x ∈ ys, 44 ∉ x.cps.toList ∧ x.cps.toList ≠ []) →
    Str.join sep xs = Str.join sep ys → xs = ys := by
  intro xs
  induction xs with
  | nil =>
    intro ys _ hy h
    cases ys with
    | nil => rfl
    | cons y r =>
      have e := congrArg (fun x : Str => x.cps.toList) h
      cases r with
      | nil => exact absurd e.symm (hy y (.head _)).2
      | cons z r => simp only [join_cps] at e; exact absurd (List.append_eq_nil_iff.mp e.symm).1 (hy y (.head _)).2
  | cons x r ih =>
    intro ys hx hy h
    have e := congrArg (fun x : Str => x.cps.toList) h
    cases ys with
    | nil =>
      cases r with
      | nil => exact absurd e (hx x (.head _)).2
      | cons z r => simp only [join_cps] at e; exact absurd (List.append_eq_nil_iff.mp e).1 (hx x (.head _)).2
    | cons y r' =>
      cases r with
      | nil =>
        cases r' with
        | nil => rw [show x = y from h]
        | cons z r' =>
          simp only [join_cps, hs] at e
          exact absurd (show 44 ∈ x.cps.toList by rw [show x.cps.toList = _ from e]; simp) (hx x (.head _)).1
      | cons z r =>
        cases r' with
        | nil =>
          simp only [join_cps, hs] at e
          exact absurd (show 44 ∈ y.cps.toList by rw [← show _ = y.cps.toList from e]; simp) (hy y (.head _)).1
        | cons z' r' =>
          simp only [join_cps, hs, List.cons_append] at e
          obtain ⟨e1, e2⟩ := split_at (hx x (.head _)).1 (hy y (.head _)).1 e
          rw [cps_inj e1, ih (fun q hq => hx q (.tail _ hq)) (fun q hq => hy q (.tail _ hq)) (cps_inj (List.append_cancel_left e2))]
theorem txts_inj : ∀ {a b : List Int}, (∀ k ∈ a, 0 ≤ k) → (∀ k ∈ b, 0 ≤ k) → a.map txt = b.map txt → a = b := by
  intro a
  induction a with
  | nil => intro b _ _ h; cases b with
    | nil => rfl
    | cons y b => cases h
  | cons x a ih =>
    intro b ha hb h
    cases b with
    | nil => cases h
    | cons y b =>
      obtain ⟨e1, e2⟩ := List.cons.inj h
      rw [txt_inj (ha x (.head _)) (hb y (.head _)) e1, ih (fun k hk => ha k (.tail _ hk)) (fun k hk => hb k (.tail _ hk)) e2]
theorem txts_ok {a : List Int} (h : ∀ k ∈ a, 0 ≤ k) : ∀ x ∈ a.map txt, 44 ∉ x.cps.toList ∧ x.cps.toList ≠ [] := by
  intro x hx
  obtain ⟨n, hn, rfl⟩ := List.mem_map.mp hx
  exact ⟨fun z => by have := txt_digits (h n hn) 44 z; omega, txt_ne (h n hn)⟩
/-- the law's own key -/
noncomputable def reprOf (ns : List Int) : Str := (PyData.list (ns.map PyData.int)).shown
theorem keyOf_inj {a b : List Int} (ha : ∀ k ∈ a, 0 ≤ k) (hb : ∀ k ∈ b, 0 ≤ k) (h : keyOf a = keyOf b) : a = b := by
  unfold keyOf at h
  rw [eq_of_beq (join_plain_closes _ _), eq_of_beq (join_plain_closes _ _)] at h
  exact txts_inj ha hb (join_inj (t := []) (by decide) (txts_ok ha) (txts_ok hb) h)
theorem reprOf_inj {a b : List Int} (ha : ∀ k ∈ a, 0 ≤ k) (hb : ∀ k ∈ b, 0 ≤ k) (h : reprOf a = reprOf b) : a = b := by
  unfold reprOf at h
  rw [PyData.shown_list, PyData.shown_list, PyData.shownAll_ints, PyData.shownAll_ints] at h
  have e := congrArg (fun x : Str => x.cps.toList) h
  simp only [cps_toList_append, List.append_assoc] at e
  have e2 := cps_inj (List.append_cancel_right (List.append_cancel_left e))
  exact txts_inj ha hb (join_inj (t := [32]) (by decide) (txts_ok ha) (txts_ok hb) e2)

/-! the reader over what is written -/
theorem drop_cons {ns : List Int} {p : Nat} {c : Int} {r : List Int} (h : ns.drop p = c :: r) : ns.getD p (-1) = c ∧ ns.drop (p + 1) = r ∧ p < ns.length := by
  have hp : p < ns.length := by
    rcases Nat.lt_or_ge p ns.length with z | z
    · exact z
    · rw [List.drop_eq_nil_of_le z] at h; cases h
  rw [List.drop_eq_getElem_cons hp] at h
  obtain ⟨e1, e2⟩ := List.cons.inj h
  exact ⟨by rw [List.getD_eq_getElem?_getD, List.getElem?_eq_getElem hp, Option.getD_some, e1], e2, hp⟩
theorem rdIn_writ {ns : List Int} {rest : List Int} : ∀ {w : List Int} {f p : Nat}, (∀ k ∈ w, 0 ≤ k) → ns.drop p = w.flatMap esc ++ 34 :: rest → ns.length < f + p → rdIn ns f p = some (w, p + (w.flatMap esc).length) := by
  intro w
  induction w with
  | nil =>
    intro f p _ h hf
    obtain ⟨e1, e2, hp⟩ := drop_cons (c := 34) (r := rest) (by simpa using h)
    cases f with
    | zero => omega
    | succ f => rw [rdIn_succ, if_pos e1]; simp
  | cons k w ih =>
    intro f p hk h hf
    have hk0 := hk k (.head _)
    rw [List.flatMap_cons, List.append_assoc] at h
    have hw : ∀ k ∈ w, 0 ≤ k := fun q hq => hk q (.tail _ hq)
    rw [List.flatMap_cons, List.length_append]
    by_cases c1 : k = 34 ∨ k = 92
    · rw [show esc k = [92, k] from if_pos c1] at h ⊢
      obtain ⟨e1, e2, hp⟩ := drop_cons (c := 92) (r := _) h
      obtain ⟨e3, e4, hp2⟩ := drop_cons (c := k) (r := _) e2
      cases f with
      | zero => omega
      | succ f =>
        rw [rdIn_succ, if_neg (by rw [e1]; decide), if_neg (by rw [e1]; decide), if_pos e1, if_neg (by rw [e3]; omega), if_pos (by rw [e3]; exact c1), ih hw e4 (by omega), e3]
        simp only [Option.map_some, List.length_cons, List.length_nil]
        rw [show p + 2 + (w.flatMap esc).length = p + (0 + 1 + 1 + (w.flatMap esc).length) by omega]
    · by_cases c2 : k = 10
      · rw [show esc k = [92, 110] from (if_neg c1).trans (if_pos c2)] at h ⊢
        obtain ⟨e1, e2, hp⟩ := drop_cons (c := 92) (r := _) h
        obtain ⟨e3, e4, hp2⟩ := drop_cons (c := 110) (r := _) e2
        cases f with
        | zero => omega
        | succ f =>
          rw [rdIn_succ, if_neg (by rw [e1]; decide), if_neg (by rw [e1]; decide), if_pos e1, if_pos e3, ih hw e4 (by omega)]
          simp only [Option.map_some, List.length_cons, List.length_nil]
          rw [show p + 2 + (w.flatMap esc).length = p + (0 + 1 + 1 + (w.flatMap esc).length) by omega, c2]
      · rw [show esc k = [k] from (if_neg c1).trans (if_neg c2)] at h ⊢
        obtain ⟨e1, e2, hp⟩ := drop_cons (c := k) (r := _) h
        cases f with
        | zero => omega
        | succ f =>
          rw [rdIn_succ, if_neg (by rw [e1]; exact fun z => c1 (.inl z)), if_neg (by rw [e1]; omega), if_neg (by rw [e1]; exact fun z => c1 (.inr z)), ih hw e2 (by omega), e1]
          simp only [Option.map_some, List.length_cons, List.length_nil]
          rw [show p + 1 + (w.flatMap esc).length = p + (0 + 1 + (w.flatMap esc).length) by omega]
/-- the figures at a place -/
noncomputable def digs (ns : List Int) (p : Nat) : List Int := (ns.drop p).takeWhile fun c => decide (48 ≤ c ∧ c ≤ 57)
theorem digs_yes {ns : List Int} {p : Nat} (h : 48 ≤ ns.getD p (-1) ∧ ns.getD p (-1) ≤ 57) : digs ns p = ns.getD p (-1) :: digs ns (p + 1) := by
  have hp := getD_lt (ns := ns) (q := p) (by omega)
  have e : ns.drop p = ns.getD p (-1) :: ns.drop (p + 1) := by
    rw [List.drop_eq_getElem_cons hp, List.getD_eq_getElem?_getD, List.getElem?_eq_getElem hp, Option.getD_some]
  unfold digs
  rw [e, List.takeWhile_cons, if_pos (decide_eq_true h)]
theorem digs_no {ns : List Int} {p : Nat} (h : ¬ (48 ≤ ns.getD p (-1) ∧ ns.getD p (-1) ≤ 57)) : digs ns p = [] := by
  unfold digs
  rcases Nat.lt_or_ge p ns.length with hp | hp
  · have e : ns.drop p = ns.getD p (-1) :: ns.drop (p + 1) := by
      rw [List.drop_eq_getElem_cons hp, List.getD_eq_getElem?_getD, List.getElem?_eq_getElem hp, Option.getD_some]
    rw [e, List.takeWhile_cons, if_neg (by rw [decide_eq_true_eq]; exact h)]
  · rw [List.drop_eq_nil_of_le hp]; rfl
theorem figs_eq {ns : List Int} : ∀ {f p : Nat} {a : Int}, p ≤ ns.length → ns.length ≤ f + p → figs ns f p a = ((digs ns p).foldl (fun a c => 10 * a + c - 48) a, p + (digs ns p).length) := by
  intro f
  induction f with
  | zero =>
    intro p a h1 h2
    have e : digs ns p = [] := by unfold digs; rw [List.drop_eq_nil_of_le (by omega)]; rfl
    rw [e]; rfl
  | succ f ih =>
    intro p a h1 h2
    rw [figs_succ]
    split
    · rename_i h
      have hp := getD_lt (ns := ns) (q := p) (by omega)
      rw [ih (by omega) (by omega), digs_yes h]
      simp only [List.foldl_cons, List.length_cons]
      rw [show p + 1 + (digs ns (p + 1)).length = p + ((digs ns (p + 1)).length + 1) by omega]
    · rename_i h
      rw [digs_no h]; rfl
theorem rdNum_eq {ns : List Int} {p : Nat} (hp : p ≤ ns.length) : rdNum ns p = if digs ns p = [] ∨ (ns.getD p (-1) = 48 ∧ 1 < (digs ns p).length) then none else some ((digs ns p).foldl (fun a c => 10 * a + c - 48) 0, p + (digs ns p).length) := by
  unfold rdNum
  rw [figs_eq hp (Nat.le_add_right _ _)]
  dsimp only
  by_cases h : digs ns p = []
  · rw [if_pos (Or.inl h), if_pos (Or.inl (by rw [h]; rfl))]
  · have hl : 0 < (digs ns p).length := List.length_pos_iff.mpr h
    by_cases h2 : ns.getD p (-1) = 48 ∧ 1 < (digs ns p).length
    · rw [if_pos (Or.inr h2), if_pos (Or.inr ⟨h2.1, by omega⟩)]
    · rw [if_neg (fun z => z.elim (fun y => h (List.length_eq_zero_iff.mp (by omega))) (fun y => h2 ⟨y.1, by omega⟩)), if_neg (fun z => z.elim h h2)]
theorem digs_of {ns : List Int} {p : Nat} {ds rest : List Int} (hd : ∀ c ∈ ds, 48 ≤ c ∧ c ≤ 57) (h : ns.drop p = ds ++ 32 :: rest) : digs ns p = ds := by
  unfold digs
  rw [h]
  clear h
  induction ds with
  | nil => rfl
  | cons c ds ih =>
    rw [List.cons_append, List.takeWhile_cons, if_pos (decide_eq_true (hd c (.head _))), ih fun q hq => hd q (.tail _ hq)]
theorem fold_cast : ∀ (cs : List Nat) (a : Nat), (∀ c ∈ cs, 48 ≤ c ∧ c ≤ 57) → (cs.map fun c : Nat => (c : Int)).foldl (fun a c => 10 * a + c - 48) (a : Int) = ((cs.foldl (fun acc c => acc * 10 + (c - 48)) a : Nat) : Int) := by
  intro cs
  induction cs with
  | nil => intro a _; rfl
  | cons c cs ih =>
    intro a h
    have hc := h c (.head _)
    rw [List.map_cons, List.foldl_cons, List.foldl_cons, ← ih _ fun q hq => h q (.tail _ hq)]
    congr 1
    omega
theorem dig_fold {n : Int} (h : 0 ≤ n) : (dig n).foldl (fun a c => 10 * a + c - 48) 0 = n := by
  have e := fold_cast (txt n).cps.toList 0 (txt_digits h)
  unfold dig
  refine e.trans ?_
  obtain ⟨m, rfl⟩ := Int.eq_ofNat_of_zero_le h
  rw [txt_cps]
  exact congrArg _ (KIN.val_back m)
theorem dig_digits {n : Int} (h : 0 ≤ n) : ∀ c ∈ dig n, 48 ≤ c ∧ c ≤ 57 := by
  intro c hc
  obtain ⟨k, hk, rfl⟩ := List.mem_map.mp hc
  have := txt_digits h k hk
  omega
theorem dig_ne {n : Int} (h : 0 ≤ n) : dig n ≠ [] := fun e => txt_ne h (List.map_eq_nil_iff.mp e)
theorem dig_zero {n : Int} (h : 0 ≤ n) {r : List Int} (e : dig n = 48 :: r) : r = [] := by
  obtain ⟨m, rfl⟩ := Int.eq_ofNat_of_zero_le h
  unfold dig at e
  rw [txt_cps, List.map_map] at e
  cases hq : Nat.toDigits 10 m with
  | nil => rw [hq] at e; cases e
  | cons a s =>
    rw [hq, List.map_cons] at e
    have e1 : ((a.toNat : Nat) : Int) = 48 := (List.cons.inj e).1
    have e2 : a = '0' := by
      apply Char.ext
      apply UInt32.toNat_inj.mp
      show a.toNat = 48
      omega
    have hm := toDigits_head (r := s) (by rw [hq, e2])
    subst hm
    have : s = [] := by
      have := hq
      rw [Nat.toDigits_of_lt_base (by decide)] at this
      exact ((List.cons.inj this).2).symm
    rw [this] at e
    exact ((List.cons.inj e).2).symm
theorem rdNum_writ {ns rest : List Int} {p : Nat} {n : Int} (h0 : 0 ≤ n) (h : ns.drop p = dig n ++ 32 :: rest) : rdNum ns p = some (n, p + (dig n).length) := by
  have hne := dig_ne h0
  have hp : p ≤ ns.length := by
    rcases Nat.le_or_ge p ns.length with z | z
    · exact z
    · rw [List.drop_eq_nil_of_le z] at h; exact absurd h.symm (by simp)
  rw [rdNum_eq hp, digs_of (dig_digits h0) h, if_neg ?_, dig_fold h0]
  rintro (z | ⟨z1, z2⟩)
  · exact hne z
  · cases hd : dig n with
    | nil => exact hne hd
    | cons c r =>
      rw [hd] at h z2
      obtain ⟨e1, _, _⟩ := drop_cons (c := c) (r := r ++ 32 :: rest) h
      rw [z1] at e1
      have := dig_zero h0 (r := r) (by rw [hd, e1])
      subst this
      exact absurd z2 (Nat.lt_irrefl 1)
/-- a row that is written in full -/
def RowOk (r : Row) : Prop := (∀ k ∈ r.word, 0 ≤ k) ∧ (∀ k ∈ r.codes, 0 ≤ k) ∧ 0 ≤ r.used
theorem drop_app {ns a b : List Int} {p : Nat} (h : ns.drop p = a ++ b) : ns.drop (p + a.length) = b := by
  rw [← List.drop_drop, h, List.drop_left']
  rfl
theorem rdEntry_writ {ns rest : List Int} {p : Nat} {r : Row} (hr : RowOk r) (h : ns.drop p = writ r ++ rest) : rdEntry ns p = some (r, p + (writ r).length) := by
  obtain ⟨w, u, c, x⟩ := r
  obtain ⟨h1, h2, h3⟩ := hr
  dsimp only at h1 h2 h3
  refine gen_goal ?_
  intro CC hCC
  unfold writ quote at h
  dsimp only at h
  simp only [List.append_assoc, List.cons_append, List.nil_append] at h
  obtain ⟨a1, a2, a3⟩ := drop_cons h
  have b1 := rdIn_writ (f := ns.length + 1) h1 a2 (by omega)
  have a4 := drop_app a2
  obtain ⟨a5, a6, a7⟩ := drop_cons a4
  obtain ⟨a8, a9, a10⟩ := drop_cons a6
  have b2 := rdNum_writ h3 a9
  have a11 := drop_app a9
  obtain ⟨c1, c2, c3⟩ := drop_cons a11
  obtain ⟨c4, c5, c6⟩ := drop_cons c2
  have b3 := rdIn_writ (f := ns.length + 1) h2 c5 (by omega)
  have c7 := drop_app c5
  obtain ⟨d1, d2, d3⟩ := drop_cons c7
  have e := ent6 (p := p) ⟨a1, b1⟩ a8 b2 c1 ⟨c4, b3⟩
  refine hCC ?_
  clear hCC CC
  rw [e]
  have hlen : (writ ⟨w, u, c, x⟩).length = 1 + (w.flatMap esc).length + 1 + 1 + (dig u).length + 1 + 1 + (c.flatMap esc).length + 1 + (if x then 7 else 1) := by
    unfold writ quote
    cases x <;> simp only [List.length_append, List.length_cons, List.length_nil, if_true, if_false, Bool.false_eq_true] <;> omega
  rw [hlen]
  cases x with
  | false =>
    obtain ⟨f1, _, _⟩ := drop_cons (c := 10) (r := rest) d2
    rw [if_neg (by rw [f1]; decide), if_pos f1, if_neg (by decide)]
    congr 2
    omega
  | true =>
    refine gen_goal ?_
    intro CC hCC
    obtain ⟨f1, g1, _⟩ := drop_cons (c := 32) d2
    obtain ⟨f2, g2, _⟩ := drop_cons g1
    obtain ⟨f3, g3, _⟩ := drop_cons g2
    obtain ⟨f4, g4, _⟩ := drop_cons g3
    obtain ⟨f5, g5, _⟩ := drop_cons g4
    obtain ⟨f6, g6, _⟩ := drop_cons g5
    obtain ⟨f7, g7, _⟩ := drop_cons g6
    refine hCC ?_
    clear hCC CC
    rw [if_pos f1, if_pos ⟨⟨f2, f3, f4, f5, f6⟩, f7⟩, if_pos rfl]
    congr 2
    omega
theorem writ_pos (r : Row) : 0 < (writ r).length := by
  unfold writ
  simp only [List.length_append, List.length_cons, List.length_nil]
  omega
theorem rdAll_writ {ns : List Int} : ∀ {rows : List Row} {f p : Nat}, (∀ r ∈ rows, RowOk r) → ns.drop p = rows.flatMap writ → ns.length < f + p → p ≤ ns.length → rdAll ns f p = some rows := by
  intro rows
  induction rows with
  | nil =>
    intro f p _ h hf hp
    have : ns.length ≤ p := by
      have := congrArg List.length h
      simp only [List.length_drop, List.flatMap_nil, List.length_nil] at this
      omega
    cases f with
    | zero => omega
    | succ f => rw [rdAll_succ, if_neg (by omega)]
  | cons r rows ih =>
    intro f p hr h hf hp
    rw [List.flatMap_cons] at h
    have e1 := rdEntry_writ (hr r (.head _)) h
    have hw := writ_pos r
    have hl := congrArg List.length h
    simp only [List.length_drop, List.length_append] at hl
    cases f with
    | zero => omega
    | succ f =>
      rw [rdAll_succ, if_pos (by omega), e1]
      dsimp only
      rw [ih (fun q hq => hr q (.tail _ hq)) (drop_app h) (by omega) (by omega)]
      rfl
/-! ## plain law 2: the reader on a dropped text; tables as lists of rows; sorting is one -/
theorem digs_drop {ns : List Int} {d q : Nat} : digs (ns.drop d) q = digs ns (q + d) := by
  unfold digs
  rw [List.drop_drop, Nat.add_comm]
theorem rdNum_drop {ns : List Int} {d q : Nat} (h : q + d ≤ ns.length) : rdNum (ns.drop d) q = (rdNum ns (q + d)).map fun r => (r.1, r.2 - d) := by
  rw [rdNum_eq (by rw [List.length_drop]; omega), rdNum_eq h, digs_drop, drop_getD]
  split
  · rfl
  · simp only [Option.map_some]
    congr 2
    omega
theorem rdIn_dropF {ns : List Int} {d q : Nat} (h : q + d ≤ ns.length) : rdIn (ns.drop d) ((ns.drop d).length + 1) q = (rdIn ns (ns.length + 1) (q + d)).map fun r => (r.1, r.2 - d) := by
  rw [rdIn_drop, rdIn_fuel (f := (ns.drop d).length + 1) (f' := ns.length + 1) h (by rw [List.length_drop]; omega) (by omega)]
theorem da0 {p d k : Nat} (h : d ≤ p) : p - d + k + d = p + k := by omega
theorem da1 {p d j k : Nat} (h : d ≤ p) : p - d + j + k + d = p + j + k := by omega
theorem da2 {p d k : Nat} (h : d ≤ p) : p - d + k = p + k - d := by omega
theorem rdEntry_drop {ns : List Int} {d : Nat} : rdEntry (ns.drop d) 0 = (rdEntry ns d).map fun r => (r.1, r.2 - d) := by
  unfold rdEntry
  rw [drop_getD, Nat.zero_add]
  split
  · rename_i h34
    have hd := getD_lt (ns := ns) (q := d) (by rw [h34]; decide)
    rw [rdIn_dropF (by rw [Nat.add_comm]; exact hd), show 0 + 1 + d = d + 1 from Nat.add_comm _ _]
    cases h1 : rdIn ns (ns.length + 1) (d + 1) with
    | none => rfl
    | some x =>
      obtain ⟨w, p1⟩ := x
      have b1 := rdIn_spec h1
      have e1 : d ≤ p1 := by clear h1 h34; omega
      clear b1
      simp only [Option.map_some]
      rw [drop_getD, da0 e1]
      split
      · rename_i h32
        have hp1 := getD_lt (ns := ns) (q := p1 + 1) (by rw [h32]; decide)
        rw [rdNum_drop (by rw [da1 e1]; exact hp1), da1 e1]
        cases h2 : rdNum ns (p1 + 1 + 1) with
        | none => rfl
        | some y =>
          obtain ⟨u, p2⟩ := y
          have b2 := rdNum_spec hp1 h2
          have e2 : d ≤ p2 := Nat.le_trans (Nat.le_trans e1 (Nat.le_add_right _ 2)) (Nat.le_of_lt b2.1)
          simp only [Option.map_some]
          rw [drop_getD, drop_getD, show p2 - d + d = p2 from Nat.sub_add_cancel e2, da0 e2]
          split
          · rename_i h3
            have hp2 := getD_lt (ns := ns) (q := p2 + 1) (by rw [h3.2]; decide)
            rw [rdIn_dropF (by rw [da1 e2]; exact hp2), da1 e2]
            cases h4 : rdIn ns (ns.length + 1) (p2 + 1 + 1) with
            | none => rfl
            | some z =>
              obtain ⟨c, p3⟩ := z
              have b3 := rdIn_spec h4
              have e3 : d ≤ p3 := by clear h1 h2 h4 b2 h34 h32 h3 hp1 hd e1 hp2; omega
              clear b3 b2
              simp only [Option.map_some, exOk]
              simp only [drop_getD]
              rw [da0 e3, da1 e3, da1 e3, da1 e3, da1 e3, da1 e3, da0 e3]
              split
              · split
                · simp only [Option.map_some]; rw [da2 e3]
                · rfl
              · split
                · simp only [Option.map_some]; rw [da2 e3]
                · rfl
          · rfl
      · rfl
  · rfl

/-! sorting -/
def SortOf (R S : List Row) : Prop := S.Perm R ∧ S.Pairwise fun a b => ltI a.word b.word = true
theorem pairwise_uniq : ∀ {S S' : List Row}, S.Perm S' → S.Pairwise (fun a b => ltI a.word b.word = true) → S'.Pairwise (fun a b => ltI a.word b.word = true) → S = S' := by
  intro S
  induction S with
  | nil => intro S' h _ _; exact (List.nil_perm.mp h).symm
  | cons a S ih =>
    intro S' h h1 h2
    cases S' with
    | nil => exact absurd h.length_eq (by simp)
    | cons b S' =>
      rw [List.pairwise_cons] at h1 h2
      have e : a = b := by
        rcases List.mem_cons.mp (h.mem_iff.mp (List.mem_cons_self (a := a))) with z | z
        · exact z
        · rcases List.mem_cons.mp (h.mem_iff.mpr (List.mem_cons_self (a := b))) with y | y
          · exact y.symm
          · have c1 := h2.1 a z
            have c2 := h1.1 b y
            rw [ltI_asym c1] at c2; cases c2
      subst e
      rw [ih (List.Perm.cons_inv h) h1.2 h2.2]
theorem SortOf.uniq {R S S' : List Row} (h : SortOf R S) (h' : SortOf R S') : S = S' := pairwise_uniq (h.1.trans h'.1.symm) h.2 h'.2
theorem SortOf.self {R S : List Row} (h : SortOf R S) : SortOf S S := ⟨.refl _, h.2⟩
noncomputable def row0 : Row := ⟨[], 0, [], false⟩
theorem sortOf_perm {R : List Row} {p : Array Nat} (h : AllOf R.length p) (hu : UpTo (fun i j => ltI ((R.map Row.word).getD i []) ((R.map Row.word).getD j [])) p R.length) : SortOf R (p.toList.map fun i => R.getD i row0) := by
  have hs := h.size
  refine ⟨(h.map _).trans (List.Perm.of_eq ?_), ?_⟩
  · apply List.ext_getElem
    · simp
    · intro i h1 h2
      simp only [List.getElem_map, List.getElem_range]
      rw [List.getD_eq_getElem?_getD, List.getElem?_eq_getElem h2, Option.getD_some]
  · rw [List.pairwise_iff_getElem]
    intro i j hi hj hij
    rw [List.length_map, Array.length_toList, hs] at hi hj
    have g : ∀ k (hk : k < R.length), p.getD k 0 = p.toList[k]'(by rw [Array.length_toList, hs]; exact hk) := fun k hk => by simp [Array.getD, hs, hk]
    have := hu i j hij hj
    rw [g i hi, g j hj] at this
    simp only [List.getElem_map]
    have w : ∀ n, (R.map Row.word).getD n [] = (R.getD n row0).word := fun n => by
      rw [List.getD_eq_getElem?_getD, List.getD_eq_getElem?_getD, List.getElem?_map]
      cases R[n]? <;> rfl
    dsimp only at this
    rw [w, w] at this
    exact this
theorem sortOf_few {R : List Row} (h : R.length < 2) : SortOf R R := by
  refine ⟨.refl _, ?_⟩
  match R, h with
  | [], _ => exact .nil
  | [a], _ => exact List.pairwise_singleton _ _
theorem SortOf.words {R S : List Row} (h : SortOf R S) : (S.map Row.word).Nodup := by
  refine List.pairwise_map.mpr (h.2.imp fun {a b} q e => ?_)
  rw [e, ltI_self] at q; cases q

/-! tables -/
noncomputable def put (R : List Row) (r : Row) : List Row := if R.any (fun q => q.word = r.word) then R.map (fun q => if q.word = r.word then r else q) else R ++ [r]
noncomputable def drp (R : List Row) (w : List Int) : List Row := R.filter fun q => decide (q.word ≠ w)
/-- a dict bears rows under the key f of their words -/
def Bears (f : List Int → Str) (P : Value → Row → Prop) (kvs : List (Str × Value)) (R : List Row) : Prop := Paired (fun kv r => kv.1 = f r.word ∧ P kv.2 r) kvs R
def InjOn (f : List Int → Str) (R : List Row) (w : List Int) : Prop := ∀ q ∈ R, f q.word = f w → q.word = w
theorem Bears.any {f : List Int → Str} {P : Value → Row → Prop} {kvs : List (Str × Value)} {R : List Row} (h : Bears f P kvs R) : ∀ {w : List Int}, InjOn f R w → kvs.any (fun kv => kv.1 = f w) = R.any (fun q => q.word = w) := by
  unfold Bears at h
  induction h with
  | nil => intro w _; rfl
  | cons h _ ih =>
    rename_i kv r kvs' R' _
    intro w hi
    rw [List.any_cons, List.any_cons, ih fun q hq => hi q (.tail _ hq), h.1]
    congr 1
    by_cases e : r.word = w
    · rw [decide_eq_true e, decide_eq_true (by rw [e])]
    · rw [decide_eq_false e, decide_eq_false fun z => e (hi r (.head _) z)]
theorem Bears.map {f : List Int → Str} {P : Value → Row → Prop} {kvs : List (Str × Value)} {R : List Row} {r : Row} {v : Value} (hv : P v r) (h : Bears f P kvs R) : InjOn f R r.word → Bears f P (kvs.map fun kv => if kv.1 = f r.word then (kv.1, v) else kv) (R.map fun q => if q.word = r.word then r else q) := by
  unfold Bears at *
  induction h with
  | nil => intro _; exact .nil
  | cons h _ ih =>
    rename_i kv q kvs' R' _
    intro hi
    rw [List.map_cons, List.map_cons]
    refine .cons ?_ (ih fun q hq => hi q (.tail _ hq))
    by_cases e : q.word = r.word
    · rw [if_pos (by rw [h.1, e]), if_pos e]
      exact ⟨by rw [h.1, e], hv⟩
    · rw [if_neg fun z => e (hi q (.head _) (h.1.symm.trans z)), if_neg e]
      exact h
theorem Bears.stored {f : List Int → Str} {P : Value → Row → Prop} {kvs : List (Str × Value)} {R : List Row} {r : Row} {v : Value} (h : Bears f P kvs R) (hi : InjOn f R r.word) (hv : P v r) : Bears f P (stored kvs (f r.word) v) (put R r) := by
  unfold PySem.stored put
  rw [h.any hi]
  split
  · exact h.map hv hi
  · exact Paired.snoc h ⟨rfl, hv⟩
theorem Bears.without {f : List Int → Str} {P : Value → Row → Prop} {kvs : List (Str × Value)} {R : List Row} (h : Bears f P kvs R) : ∀ {w : List Int}, InjOn f R w → Bears f P (without kvs (f w)) (drp R w) := by
  unfold Bears at *
  induction h with
  | nil => intro w _; exact .nil
  | cons h _ ih =>
    rename_i kv q kvs' R' _
    intro w hi
    have ih' := ih (w := w) fun q hq => hi q (.tail _ hq)
    unfold PySem.without drp at *
    rw [List.filter_cons, List.filter_cons]
    by_cases e : q.word = w
    · rw [if_neg (by simp [h.1, e]), if_neg (by simp [e])]
      exact ih'
    · rw [if_pos (by rw [decide_eq_true_eq]; exact fun z => e (hi q (.head _) (h.1.symm.trans z))), if_pos (by rw [decide_eq_true_eq]; exact e)]
      exact .cons h ih'
theorem Bears.imp {f : List Int → Str} {P P' : Value → Row → Prop} {kvs : List (Str × Value)} {R : List Row} (h : Bears f P kvs R) (hp : ∀ v r, P v r → P' v r) : Bears f P' kvs R := by
  unfold Bears at *
  induction h with
  | nil => exact .nil
  | cons h _ ih => exact .cons ⟨h.1, hp _ _ h.2⟩ ih
def Wds (R : List Row) : Prop := (R.map Row.word).Nodup
theorem put_mem {R : List Row} {r q : Row} (h : q ∈ put R r) : q = r ∨ q ∈ R := by
  unfold put at h
  split at h
  · obtain ⟨a, ha, e⟩ := List.mem_map.mp h
    split at e
    · exact .inl e.symm
    · exact .inr (e ▸ ha)
  · rcases List.mem_append.mp h with z | z
    · exact .inr z
    · exact .inl (List.mem_singleton.mp z)
theorem put_words {R : List Row} {r : Row} (h : Wds R) : Wds (put R r) := by
  unfold Wds put at *
  split
  · rw [List.map_map]
    rw [show (Row.word ∘ fun q => if q.word = r.word then r else q) = Row.word from by
      funext q
      show (if q.word = r.word then r else q).word = q.word
      split
      · rename_i e; exact e.symm
      · rfl]
    exact h
  · rename_i hn
    rw [List.map_append, List.nodup_append]
    refine ⟨h, by simp, ?_⟩
    intro a ha b hb e
    obtain ⟨q, hq, rfl⟩ := List.mem_map.mp ha
    have hb' : b = r.word := by simpa using hb
    exact hn (List.any_eq_true.mpr ⟨q, hq, decide_eq_true (e.trans hb')⟩)
theorem drp_words {R : List Row} {w : List Int} (h : Wds R) : Wds (drp R w) := List.Nodup.sublist (List.Sublist.map _ List.filter_sublist) h
theorem drp_mem {R : List Row} {w : List Int} {q : Row} (h : q ∈ drp R w) : q ∈ R := (List.mem_filter.mp h).1
theorem put_len {R : List Row} {r : Row} : (put R r).length ≤ R.length + 1 := by
  unfold put
  split
  · rw [List.length_map]; exact Nat.le_succ _
  · rw [List.length_append]; exact Nat.le_refl _
theorem drp_len {R : List Row} {w : List Int} : (drp R w).length ≤ R.length := List.length_filter_le _ _
/-- rows whose words differ, put one behind the other -/
theorem foldl_put : ∀ {S R : List Row}, Wds (R ++ S) → S.foldl put R = R ++ S := by
  intro S
  induction S with
  | nil => intro R _; simp
  | cons r S ih =>
    intro R h
    have hn : R.any (fun q => q.word = r.word) = false := by
      rw [List.any_eq_false]
      intro q hq e
      unfold Wds at h
      rw [List.map_append, List.nodup_append] at h
      exact h.2.2 q.word (List.mem_map_of_mem hq) r.word (List.mem_map_of_mem (.head _)) (of_decide_eq_true e)
    rw [List.foldl_cons, show put R r = R ++ [r] from by unfold put; rw [if_neg (by rw [hn]; decide)], ih (by rw [List.append_assoc]; exact h), List.append_assoc]
    rfl
theorem foldl_put_mem : ∀ {S R : List Row} {q : Row}, q ∈ S.foldl put R → q ∈ R ∨ q ∈ S := by
  intro S
  induction S with
  | nil => intro R q h; exact .inl h
  | cons r S ih =>
    intro R q h
    rcases ih h with z | z
    · rcases put_mem z with y | y
      · exact .inr (y ▸ .head _)
      · exact .inl y
    · exact .inr (.tail _ z)
theorem foldl_put_words : ∀ {S R : List Row}, Wds R → Wds (S.foldl put R) := by
  intro S
  induction S with
  | nil => intro R h; exact h
  | cons r S ih => intro R h; exact ih (put_words h)
theorem foldl_put_len : ∀ {S R : List Row}, (S.foldl put R).length ≤ R.length + S.length := by
  intro S
  induction S with
  | nil => intro R; exact Nat.le_refl _
  | cons r S ih =>
    intro R
    have h1 := ih (R := put R r)
    have h2 := put_len (R := R) (r := r)
    rw [List.foldl_cons, List.length_cons]
    omega
/-- rows with good signs: keys tell words apart -/
def Nn (R : List Row) : Prop := ∀ r ∈ R, ∀ k ∈ r.word, 0 ≤ k
theorem injOn_key {R : List Row} {w : List Int} (h : Nn R) (hw : ∀ k ∈ w, 0 ≤ k) : InjOn keyOf R w := fun q hq e => keyOf_inj (h q hq) hw e
theorem injOn_repr {R : List Row} {w : List Int} (h : Nn R) (hw : ∀ k ∈ w, 0 ≤ k) : InjOn reprOf R w := fun q hq e => reprOf_inj (h q hq) hw e
theorem Nn.put {R : List Row} {r : Row} (h : Nn R) (hr : ∀ k ∈ r.word, 0 ≤ k) : Nn (put R r) := fun q hq => by
  rcases put_mem hq with z | z
  · rw [z]; exact hr
  · exact h q z
/-- the fold of stores is the fold of rows -/
theorem Bears.foldl {f : List Int → Str} {P : Value → Row → Prop} (hinj : ∀ (R : List Row) (w : List Int), Nn R → (∀ k ∈ w, 0 ≤ k) → InjOn f R w) : ∀ {xs : List Value} {S : List Row}, Paired P xs S → ∀ {kvs : List (Str × Value)} {R : List Row}, Nn R → Nn S → Bears f P kvs R →
    Bears f P ((xs.zip S).foldl (fun k vr => PySem.stored k (f vr.2.word) vr.1) kvs) (S.foldl Mine.put R) := by
  intro xs S h
  induction h with
  | nil => intro kvs R _ _ hb; exact hb
  | cons h _ ih =>
    rename_i v r xs' S' _
    intro kvs R hR hS hb
    rw [List.zip_cons_cons, List.foldl_cons, List.foldl_cons]
    have hr := hS r (.head _)
    exact ih (hR.put hr) (fun q hq => hS q (.tail _ hq)) (hb.stored (hinj _ _ hR hr) h)
theorem slice_one (ns : List Int) (q : Nat) : List.take (min ((q : Int) + 1).toNat ns.length - (q : Int).toNat) (ns.drop (q : Int).toNat) = if q < ns.length then [ns.getD q (-1)] else [] := by
  have e1 : ((q : Int) + 1).toNat = q + 1 := by omega
  rw [e1, Int.toNat_natCast]
  by_cases h : q < ns.length
  · rw [if_pos h, show min (q + 1) ns.length - q = 1 by omega, List.drop_eq_getElem_cons h, List.take_succ_cons, List.take_zero, List.getD_eq_getElem?_getD, List.getElem?_eq_getElem h, Option.getD_some]
  · rw [if_neg h, show min (q + 1) ns.length - q = 0 by omega, List.take_zero]
theorem upd_under {M : Str → Option Value} {a b : Str} {x z y₀ : Option Value} (h : a ≠ b) : (fun y => if y = a then x else if y = b then z else if y = a then y₀ else M y) = fun y => if y = b then z else if y = a then x else M y := by
  funext y
  by_cases e : y = a
  · subst e
    rw [if_pos rfl, if_neg h, if_pos rfl]
  · rw [if_neg e, if_neg e, if_neg e]
theorem of_three {P : Addr × Obj → Prop} {a b c : Addr × Obj} (ha : P a) (hb : P b) (hc : P c) : ∀ p ∈ [a, b, c], P p := by
  intro p hp
  rcases List.mem_cons.mp hp with rfl | hp
  · exact ha
  rcases List.mem_cons.mp hp with rfl | hp
  · exact hb
  rw [List.mem_singleton.mp hp]; exact hc
/-- the text so far, ahead of the loop -/
inductive UnqAt (g : Heap) (L' : Addr) (H : Heap) (l : Addr) (ns : List Int) : Prop
  | mk (Df : Addr) (f q : Nat) (acc : List Int) (vacc : List Value) (cD : Nat) (tq : Tok)
    (h1 : Fr g L' H (fun y => if y = Str.ofString "made_here" then some (Value.ref Df) else if y = Str.ofString "at" then some (Value.int (q : Nat) tq) else List.lookup y ([(Str.ofString "codes", Value.ref l)] : List (Str × Value)).reverse)) (h2 : News g L' H [(Df, listOf vacc.toArray cD)]) (h3 : rdIn ns (ns.length + 1) 1 = (rdIn ns f q).map (fun r => (acc ++ r.1, r.2))) (h4 : q ≤ ns.length) (h5 : ns.length + 1 ≤ f + q) (h6 : IntsAre vacc acc) (h7 : acc.length ≤ q)
theorem unquoted_spec {w : World} {A : Around} {E : Value → Shared → Prop} {s : Shared} {V : Heap} {mg mb : Str → Option Value} {mean : ExcName → Option Value} {Q : Value → Shared → Prop}
    {l : Addr} {vs : List Value} {ns : List Int}
    (hV : Grow V s.heap) (X₀ : (hd.heap_1 w.params).In V) (T : Top headView (looseW headView [Str.ofString "EXACT"]) mean mg mb V)
    (hD : A.depth ≤ 590) (hU : A.units ≤ 1900) (hh : A.handled = none) (hl : s.heap.IsList l vs.toArray) (hi : IntsAre vs ns) (hz : ns.length ≤ 1000) (hb : ∀ n ∈ ns, 0 ≤ n)
    (hnone : (ns.getD 0 (-1) = 34 → rdIn ns (ns.length + 1) 1 = none) → ∀ h' tk', Grow s.heap h' → Q .none { s with heap := h', toks := tk' })
    (hsome : ∀ ts p' t a b va vb ca cb h' tk', ns.getD 0 (-1) = 34 ∧ rdIn ns (ns.length + 1) 1 = some (ts, p') → IntsAre va ts → IntsAre vb (ns.drop (p' + 1)) → Grow s.heap h' →
      (∀ p ∈ [(t, ({ cls := .type "tuple", data := .seq #[.ref a, .ref b] } : Obj)), (a, listOf va.toArray ca), (b, listOf vb.toArray cb)], s.heap.get? p.1 = none ∧ h'.get? p.1 = some p.2) → Q (.ref t) { s with heap := h', toks := tk' }) :
    wpAny (model PySem.Challenge.rw_ok0052_01.row.prog w) A (call (.ref 250) [.ref l]) Q E s := by
  revert X₀; k_fill; intro X₀
  refine wpAny_call ?_
  refine' enterNR [] [("codes", .ref l)] hV X₀ T (fun _ h => nomatch h) ?k6 ?k7 ?k8 ?k9 ?kB ?_ ?c2 ?c3 ?c4 ?c5
  walk_at "ENTER"
  intro g L' h₁ hg hL F' N' X' T'
  try dsimp only
  have hlg : g.IsList l vs.toArray := hl.at (fun o e => hg _ o e (fun n => nomatch n))
  have hlen := hi.length
  walk_at "S"
  · refine whl_start 1 ?_
    try dsimp only
    try k_sweep
    rename Fr _ _ _ _ => F₀
    rename News _ _ _ _ => N₀
    rename List.take 1 ns = [34] => h1
    have h34 : ns.getD 0 (-1) = 34 := by
      cases ns with
      | nil => cases h1
      | cons a r => simpa using h1
    have hpl := getD_lt (ns := ns) (q := 0) (by rw [h34]; decide)
    rename Heap => H
    have e0 : UnqAt g L' H l ns :=
      ⟨_, ns.length + 1, 1, [], [], 0, _, F₀, (fun p hp => N₀ p (by rw [List.mem_singleton.mp hp]; k_mem)), by cases rdIn ns (ns.length + 1) 1 <;> rfl, hpl, by omega, .nil, Nat.zero_le _⟩
    obtain ⟨Df, f, q, acc, vacc, cD, tq, F₁, N₁, e1, hq, hf, hia, hal⟩ := e0
    clear F₀ N₀
    revert F₁ N₁
    generalize tk = tt
    induction f generalizing H q acc vacc cD tq tt with
    | zero => exact (Nat.not_succ_le_self _ (Nat.le_trans hf (by rw [Nat.zero_add]; exact hq))).elim
    | succ f ih =>
    intro F₁ N₁
    clear h1
    have hq00 : (0 : Int) ≤ (q : Int) := by omega
    have hq0 : (0 : Int) ≤ (q : Int) + 1 := by omega
    change Hold _ at hnone hsome
    refine whl_turn PassesOwn.never ?_
    have nq : ((q : Int)).toNat = q := Int.toNat_natCast q
    have nq1 : ((q : Int) + 1).toNat = q + 1 := by omega
    have gq : q < ns.length → ns.getD ((q : Int)).toNat 0 = ns.getD q (-1) := fun hp => by
      rw [nq, List.getD_eq_getElem?_getD, List.getD_eq_getElem?_getD, List.getElem?_eq_getElem hp, Option.getD_some, Option.getD_some]
    have gq1 : q + 1 < ns.length → ns.getD ((q : Int) + 1).toNat 0 = ns.getD (q + 1) (-1) := fun hp => by
      rw [nq1, List.getD_eq_getElem?_getD, List.getD_eq_getElem?_getD, List.getElem?_eq_getElem hp, Option.getD_some, Option.getD_some]
    have sl := slice_one ns q
    walk_at "S"
    · rename (_ = ([34] : List Int)) => hs
      rename Fr _ _ _ _ => F₃
      rename News _ _ _ _ => N₃
      rename IntsAre _ (List.drop _ ns) => hid
      rename (_ < _ ∧ _ < _ ∧ _ < _ ∧ _ < _ ∧ Df < _) => l1
      have hc : ns.getD q (-1) = 34 := by
        rw [sl] at hs
        split at hs
        · exact (List.cons.inj hs).1
        · cases hs
      rw [nq1] at hid
      unfold Hold at hsome
      refine hsome acc q _ Df _ vacc _ cD _ _ _ ⟨h34, by rw [e1, rdIn_succ, if_pos hc]; simp⟩ hia hid (fun b o e => F₃.keep _ _ (hg b o e (fun n => nomatch n))) (of_three ⟨fresh_back hg (N₃.fresh (.head _)) (fun n => nomatch n), N₃.get (.head _)⟩ ⟨fresh_back hg (N₃.fresh (by k_mem)) (fun n => nomatch n), N₃.get (by k_mem)⟩ ⟨fresh_back hg (N₃.fresh (.tail _ (.head _))) (fun n => nomatch n), N₃.get (.tail _ (.head _))⟩)
    · rename ([34, 10].any _ = true) => h2
      rename ¬ (_ = ([34] : List Int)) => hs
      rename (q : Int) < _ => hlt
      rename Fr _ _ _ _ => F₃
      have hql : q < ns.length := by omega
      rw [gq hql] at h2
      rw [sl, if_pos hql] at hs
      unfold Hold at hnone
      refine hnone (fun _ => ?_) _ _ (fun b o e => F₃.keep _ _ (hg b o e (fun n => nomatch n)))
      have c1 : ns.getD q (-1) ≠ 34 := fun z => hs (by rw [z])
      have c2 : ns.getD q (-1) = 10 := by
        clear hnone hsome ih e1 gq gq1 sl hs
        generalize ns.getD q (-1) = k at *
        simp at h2
        omega
      rw [e1, rdIn_succ, if_neg c1, if_pos (.inr c2)]
      rfl
    · rename ([34, 10].any _ = false) => h2
      rename ns.getD _ 0 = 92 => h92
      rename (ns.length : Int) ≤ _ => hle
      rename (q : Int) < _ => hlt
      rename Fr _ _ _ _ => F₃
      have hql : q < ns.length := by omega
      rw [gq hql] at h2 h92
      unfold Hold at hnone
      refine hnone (fun _ => ?_) _ _ (fun b o e => F₃.keep _ _ (hg b o e (fun n => nomatch n)))
      have hd : ns.getD (q + 1) (-1) = -1 := by rw [List.getD_eq_getElem?_getD, List.getElem?_eq_none (by omega)]; rfl
      rw [e1, rdIn_succ, if_neg (by rw [h92]; decide), if_neg (by rw [h92]; decide), if_pos h92, if_neg (by rw [hd]; decide), if_neg (by rw [hd]; decide)]
      rfl
    · rename ns.getD _ 0 = 92 => h92
      rename ns.getD _ 0 = 110 => h110
      rename ¬ (ns.length : Int) ≤ _ => hle
      rename (q : Int) < _ => hlt
      rename Fr _ _ _ _ => F₃
      rename News _ _ _ _ => N₃
      have hql : q < ns.length := by omega
      have hql1 : q + 1 < ns.length := by omega
      rw [gq hql] at h92
      rw [gq1 hql1] at h110
      rw [upd_under (by decide), show ((q : Int) + 2) = ((q + 2 : Nat) : Int) from rfl] at F₃
      simp only [List.push_toArray] at N₃
      refine ih (H := _) (q := q + 2) (acc := acc ++ [10]) (vacc := vacc ++ [.int 10 _]) (cD := _) (tq := _) (tt := _) ?_ (by omega) (by omega) (hia.append (.cons _ _ .nil)) (by simp; omega) F₃ (fun p hp => N₃ p (.tail _ (.tail _ hp)))
      rw [e1, rdIn_succ, if_neg (by rw [h92]; decide), if_neg (by rw [h92]; decide), if_pos h92, if_pos h110, map_app]
    · rename ns.getD _ 0 = 92 => h92
      rename ns.getD _ 0 ≠ 110 => h110
      rename ([34, 92, 110].any _ = true) => h3
      rename ¬ (ns.length : Int) ≤ _ => hle
      rename (q : Int) < _ => hlt
      rename Fr _ _ _ _ => F₃
      rename News _ _ _ _ => N₃
      have hql : q < ns.length := by omega
      have hql1 : q + 1 < ns.length := by omega
      rw [gq hql] at h92
      rw [gq1 hql1] at h110 h3 N₃
      rw [upd_under (by decide), show ((q : Int) + 2) = ((q + 2 : Nat) : Int) from rfl] at F₃
      simp only [List.push_toArray] at N₃
      refine ih (H := _) (q := q + 2) (acc := acc ++ [_]) (vacc := vacc ++ [.int _ _]) (cD := _) (tq := _) (tt := _) ?_ (by omega) (by omega) (hia.append (.cons _ _ .nil)) (by simp; omega) F₃ (fun p hp => N₃ p (.tail _ (.tail _ hp)))
      have h4 : ns.getD (q + 1) (-1) = 34 ∨ ns.getD (q + 1) (-1) = 92 := by
        clear hnone hsome ih e1 gq gq1 sl h92 N₃ F₃
        generalize ns.getD (q + 1) (-1) = k at *
        simp at h3
        omega
      rw [e1, rdIn_succ, if_neg (by rw [h92]; decide), if_neg (by rw [h92]; decide), if_pos h92, if_neg h110, if_pos h4, map_app]
    · rename ns.getD _ 0 = 92 => h92
      rename ([34, 92, 110].any _ = false) => h3
      rename ¬ (ns.length : Int) ≤ _ => hle
      rename (q : Int) < _ => hlt
      rename Fr _ _ _ _ => F₃
      have hql : q < ns.length := by omega
      have hql1 : q + 1 < ns.length := by omega
      rw [gq hql] at h92
      rw [gq1 hql1] at h3
      unfold Hold at hnone
      refine hnone (fun _ => ?_) _ _ (fun b o e => F₃.keep _ _ (hg b o e (fun n => nomatch n)))
      have h4 : ns.getD (q + 1) (-1) ≠ 110 ∧ ¬ (ns.getD (q + 1) (-1) = 34 ∨ ns.getD (q + 1) (-1) = 92) := by
        clear hnone hsome ih e1 gq gq1 sl h92 F₃
        generalize ns.getD (q + 1) (-1) = k at *
        simp at h3
        omega
      rw [e1, rdIn_succ, if_neg (by rw [h92]; decide), if_neg (by rw [h92]; decide), if_pos h92, if_neg h4.1, if_neg h4.2]
      rfl
    · rename ns.getD _ 0 ≠ 92 => h92
      rename ([34, 10].any _ = false) => h2
      rename (q : Int) < _ => hlt
      rename Fr _ _ _ _ => F₃
      rename News _ _ _ _ => N₃
      have hql : q < ns.length := by omega
      rw [gq hql] at h92 h2 N₃
      rw [upd_under (by decide), show ((q : Int) + 1) = ((q + 1 : Nat) : Int) from rfl] at F₃
      simp only [List.push_toArray] at N₃
      have h0 : 0 ≤ ns.getD q (-1) := hb _ (by rw [List.getD_eq_getElem?_getD, List.getElem?_eq_getElem hql, Option.getD_some]; exact List.getElem_mem hql)
      refine ih (H := _) (q := q + 1) (acc := acc ++ [_]) (vacc := vacc ++ [.int _ _]) (cD := _) (tq := _) (tt := _) ?_ (by omega) (by omega) (hia.append (.cons _ _ .nil)) (by simp; omega) F₃ (fun p hp => N₃ p (.tail _ hp))
      have h4 : ¬ ns.getD q (-1) = 34 ∧ ¬ (ns.getD q (-1) = -1 ∨ ns.getD q (-1) = 10) := by
        clear hnone hsome ih e1 gq gq1 sl F₃ N₃
        generalize ns.getD q (-1) = k at *
        simp at h2
        omega
      rw [e1, rdIn_succ, if_neg h4.1, if_neg h4.2, if_neg h92, map_app]
    · rename ¬ (q : Int) < _ => hlt
      rename Fr _ _ _ _ => F₃
      unfold Hold at hnone
      refine hnone (fun _ => ?_) _ _ (fun b o e => F₃.keep _ _ (hg b o e (fun n => nomatch n)))
      have hd : ns.getD q (-1) = -1 := by rw [List.getD_eq_getElem?_getD, List.getElem?_eq_none (by omega)]; rfl
      rw [e1, rdIn_succ, if_neg (by rw [hd]; decide), if_pos (.inl hd)]
      rfl
  · rename Fr _ _ _ _ => F₃
    rename List.take 1 ns ≠ [34] => h1
    refine hnone (fun z => absurd ?_ h1) _ _ (fun b o e => F₃.keep _ _ (hg b o e (fun n => nomatch n)))
    cases ns with
    | nil => cases z
    | cons a r => simpa using z
noncomputable abbrev tupOf (a b : Addr) : Obj := { cls := .type "tuple", data := .seq #[.ref a, .ref b] }
theorem unquoted_led {w : World} {A : Around} {E : Value → Shared → Prop} {s : Shared} {h₀ : Heap} {L : Addr} {m mg mb : Str → Option Value} {mean : ExcName → Option Value} {news : List (Addr × Obj)} {Q : Value → Shared → Prop}
    {l : Addr} {vs : List Value} {ns : List Int}
    (F : Fr h₀ L s.heap m) (N : News h₀ L s.heap news) (X₀ : (hd.heap_1 w.params).In h₀) (T : Top headView (looseW headView [Str.ofString "EXACT"]) mean mg mb h₀)
    (hD : A.depth ≤ 590) (hU : A.units ≤ 1900) (hh : A.handled = none) (hl : s.heap.IsList l vs.toArray) (hi : IntsAre vs ns) (hz : ns.length ≤ 1000) (hb : ∀ n ∈ ns, 0 ≤ n)
    (hnone : Hold ((ns.getD 0 (-1) = 34 → rdIn ns (ns.length + 1) 1 = none) → ∀ h' tk', Fr h₀ L h' m → News h₀ L h' news → Q .none { s with heap := h', toks := tk' }))
    (hsome : Hold (∀ ts p' t a b va vb ca cb h' tk', ns.getD 0 (-1) = 34 ∧ rdIn ns (ns.length + 1) 1 = some (ts, p') → IntsAre va ts → IntsAre vb (ns.drop (p' + 1)) → Fr h₀ L h' m →
      News h₀ L h' ((t, tupOf a b) :: (a, listOf va.toArray ca) :: (b, listOf vb.toArray cb) :: news) → Q (.ref t) { s with heap := h', toks := tk' })) :
    wpAny (model PySem.Challenge.rw_ok0052_01.row.prog w) A (call (.ref 250) [.ref l]) Q E s := by
  refine unquoted_spec F.keep X₀ T hD hU hh hl hi hz hb (fun hn h' tk' G => hnone hn h' tk' (F.keeps G) (News.grown N G)) (fun ts p' t a b va vb ca cb h' tk' hr ia ib G hes => hsome ts p' t a b va vb ca cb h' tk' hr ia ib (F.keeps G) (fun q hq => ?_))
  have fresh : ∀ q ∈ [(t, tupOf a b), (a, listOf va.toArray ca), (b, listOf vb.toArray cb)], h'.get? q.1 = some q.2 ∧ q.1 ≠ L ∧ h₀.get? q.1 = none := fun q hq => by
    refine ⟨(hes q hq).2, fun e => ?_, ?_⟩
    · obtain ⟨oL, _, _, hL, _⟩ := F.ns
      have := (hes q hq).1
      rw [e, hL] at this; cases this
    · cases y : h₀.get? q.1 with
      | none => rfl
      | some o => have := F.keep _ _ y; rw [(hes q hq).1] at this; cases this
  rcases List.mem_cons.mp hq with rfl | hq
  · exact fresh _ (.head _)
  rcases List.mem_cons.mp hq with rfl | hq
  · exact fresh _ (.tail _ (.head _))
  rcases List.mem_cons.mp hq with rfl | hq
  · exact fresh _ (.tail _ (.tail _ (.head _)))
  · exact News.grown N G q hq
local macro_rules | `(tactic| walk_at "call ref") => ln_line "call Value.ref=250 _ _" true ``unquoted_led "F N X T d u hh l i z b _ _" "FN6 HLIZB" "" [ln_hold "hn' h' tk' F' N'" [], ln_how "TWO", do ln_hold "ts' p' t' a' b' va' vb' ca' cb' h' tk' hr' ia' ib' F' N'" [← `(tactic| have br' := rdIn_spec hr'.2)]]
/-! a comprehension over a text, its list stored at once -/
theorem paired_signs {R : Nat → Value → Prop} {vs ys : List Value} (h : Paired (fun v r => ∃ c u, v = Value.str ⟨#[c]⟩ u ∧ R c r) vs ys) : ∀ {cs : List Nat}, vs.length = cs.length → (∀ (j : Nat) (v : Value), vs[j]? = some v → ∃ c u, cs[j]? = some c ∧ v = .str ⟨#[c]⟩ u) → Paired R cs ys := by
  induction h with
  | nil =>
    intro cs hl _
    cases cs with
    | nil => exact .nil
    | cons _ _ => cases hl
  | cons h _ ih =>
    intro cs hl hP
    cases cs with
    | nil => cases hl
    | cons c cs =>
      obtain ⟨c1, u1, e1, r1⟩ := h
      obtain ⟨c2, u2, e2, e3⟩ := hP 0 _ rfl
      have e4 : c = c2 := Option.some.inj e2
      rw [e1] at e3
      injection e3 with e3 _
      injection e3 with e3
      have e5 : c1 = c2 := by simpa using e3
      rw [e4, ← e5]
      exact .cons r1 (ih (by simpa using hl) fun j v hv => hP (j + 1) v (by simpa using hv))
section
variable {prog : Program} {w : World} {A : Around} {E : Value → Shared → Prop} {s₁ : Shared} {h₀ : Heap} {L : Addr} {m : Str → Option Value} {news : List (Addr × Obj)}
theorem compA_str {env : Env} {elt : PySem.Expr} {x z : Str} {scope : Scope} {Q : Flow → Shared → Prop} {y : Str} {t : Tok} (R : Nat → Value → Prop)
    (hLe : env.locals = L) (hh : A.handled = none) (hz : y.length ≤ 1000) (F : Fr h₀ L s₁.heap m) (N : News h₀ L s₁.heap news)
    (g2 : ∀ C c u s₃ m₃ E', s₃.heap.Ns (compEnv scope C env).locals m₃ → m₃ x = some (.str ⟨#[c]⟩ u) → Grow s₁.heap s₃.heap → wpAny (model prog w) A (eval elt (compEnv scope C env)) (fun r s₄ => R c r ∧ Keeps s₃ s₄) E' s₃)
    (g3 : ∀ D c ys h' tk, Fr h₀ L h' (fun q => if q = z then some (.ref D) else m q) → News h₀ L h' ((D, listOf ys.toArray c) :: news) → AllNe D news → Paired R y.cps.toList ys → Q .next { s₁ with heap := h', toks := tk }) :
    wpAny (model prog w) A (pyIter (.str y t)) (CompPostA prog w A env scope x z [] elt Q) E s₁ := by
  subst hLe
  unfold CompPostA
  refine wpAny_pyIter_str fun o St W hst => ?_
  have hsz : y.cps.size ≤ sizeLine := by rw [sizeLine_eq]; exact Nat.le_trans hz (by decide)
  refine ⟨fun _ => true, fun v r => ∃ c u, v = .str ⟨#[c]⟩ u ∧ R c r, s₁.heap.objs.size, [s₁.heap.objs.size], [s₁.heap.objs.size], y.cps.size, SignAt y, St, m, rfl, W A hh, hsz, hst, ?_, ?_, (F.push o).ns, ⟨?_, ?_⟩, ?_⟩
  · intro b hb
    show b < (s₁.heap.push o).objs.size
    rw [Heap.size_push, List.mem_singleton.mp hb]
    exact Nat.lt_succ_self _
  · intro hm
    exact absurd F.ns.lt ((List.mem_singleton.mp hm) ▸ Nat.lt_irrefl _)
  · intro C i v s₃ m₃ E' hP hn hm _ htk
    rw [List.forIn_nil]
    exact wpAny_pure ⟨rfl, _, _, rfl, fun _ _ e => e⟩
  · intro C i v s₃ m₃ E' hP hp' hn hm hk htk
    obtain ⟨c, u, _, rfl⟩ := hP
    exact wpAny_mono (g2 C c u s₃ m₃ E' hn hm fun b o e => hk b o (old_not_new e) (Heap.get?_push_of_some _ e)) (fun r s₄ h₄ => ⟨⟨_, _, rfl, h₄.1⟩, h₄.2⟩) fun _ _ e => e
  · intro D h' tk ys vs hnew hlD hplD hlen hP hF hn' hk
    rw [List.filter_eq_self.mpr (fun _ _ => rfl)] at hF
    have hR := paired_signs hF (cs := y.cps.toList) (by rw [Array.length_toList]; exact hlen) fun j v hv => by
      obtain ⟨c, u, e1, e2⟩ := hP j v hv
      exact ⟨c, u, by simpa using e1, e2⟩
    obtain ⟨c, hc⟩ : ∃ c, h'.get? D = some (listOf ys c) := hplD
    have N' : News h₀ env.locals h' news := fun p hp => ⟨hk _ _ (N p hp).2.1 (old_not_new (N p hp).1) (Heap.get?_push_of_some _ (N p hp).1), (N p hp).2⟩
    refine g3 D c ys.toList h' tk ⟨hn', fun b o' e => hk b o' (Nat.ne_of_lt (Nat.lt_of_lt_of_le (Heap.lt_size e) F.above)) (old_not_new (F.keep b o' e)) (Heap.get?_push_of_some _ (F.keep b o' e)), F.above⟩ (fun p hp => ?_) (allNe_of fun p hp e => by rw [← e, Heap.get?_push_of_some _ (N p hp).1] at hnew; cases hnew) hR
    rcases List.mem_cons.mp hp with rfl | hp
    · refine ⟨by rw [Array.toArray_toList]; exact hc, fun e => ?_, ?_⟩
      · obtain ⟨oL, _, _, hL, _⟩ := (F.push o).ns
        have e' : D = env.locals := e
        rw [e', hL] at hnew; cases hnew
      · cases e : h₀.get? D with
        | none => rfl
        | some o' => rw [Heap.get?_push_of_some _ (F.keep _ _ e)] at hnew; cases hnew
    · exact N' p hp
theorem name_ns {M : Model} {env : Env} {x : Str} {pos : Pos} {v : Value} {Q : Value → Shared → Prop} (hn : s₁.heap.Ns env.locals m) (hv : m x = some v) (h : Q v s₁) (hk : env.scope.kind = .function) (hx : env.kindOf x = some .local) (hd : (x == ("__debug__" : Str)) = false) :
    wpAny M A (eval (.Name x pos) env) Q E s₁ := wpAny_Name (wpAny_loadName_local hk hx hn hv h) hd
theorem name_bt {M : Model} {env : Env} {x : Str} {pos : Pos} {v : Value} {Q : Value → Shared → Prop} {mg mb : Str → Option Value} {mean : ExcName → Option Value} {K : Frag} {p : Program} {loose : List Str} (X : K.In s₁.heap) (T : Top p loose mean mg mb s₁.heap) (e : nsIn K mainGlobals x = some none) (hv : bootBuiltins x = some v) (hn : x ≠ "__name__") (h : Q v s₁)
    (hg : env.globals = mainGlobals) (hb : env.builtins = builtinsNs) (hk : env.scope.kind = .function) (hx : env.kindOf x = some .globalImplicit) (hd : (x == ("__debug__" : Str)) = false) :
    wpAny M A (eval (.Name x pos) env) Q E s₁ :=
  Name_function_global hk hx (loadGlobal_builtin (env := env) (by rw [hg]; exact T.g) (mg_none_of X T.g e) (by rw [hb]; exact T.b) ((T.builtins x hn).trans hv) h) hd
end
section
local macro_rules | `(tactic| walk_at "eval Name") => ln_line "" false ``name_ns "k1 k2 _ k3 k4 k5" "k1:a k2:a k3:a k4:a k5:d" ""
local macro_rules | `(tactic| walk_at "eval Name") => ln_line "" true ``name_bt "k1 k2 k3 k4 k5 _ k6 k7 k8 k9 k10" "k1:a k2:a k3:s k4:BBN k5:d k6:a k7:a k8:a k9:a k10:d" ""
theorem leaf_ord {w : World} {A : Around} {E : Value → Shared → Prop} {s : Shared} {m mg mb : Str → Option Value} {mean : ExcName → Option Value} {env : Env} {p1 p2 p3 : Pos} {c : Nat} {u : Tok}
    (X : (hd.heap_1 w.params).In s.heap) (T : Top headView (looseW headView [Str.ofString "EXACT"]) mean mg mb s.heap) (hn : s.heap.Ns env.locals m) (hm : m (Str.ofString "sign") = some (.str ⟨#[c]⟩ u))
    (hg : env.globals = mainGlobals) (hb : env.builtins = builtinsNs) (hk : env.scope.kind = .function) (h1 : env.kindOf (Str.ofString "sign") = some .local) (h2 : env.kindOf (Str.ofString "ord") = some .globalImplicit) :
    wpAny (model PySem.Challenge.rw_ok0052_01.row.prog w) A (eval (.Call (.Name (Str.ofString "ord") p1) [.Name (Str.ofString "sign") p2] [] p3) env) (fun r s₄ => (∃ t, r = .int (c : Int) t) ∧ Keeps s s₄) E s := by
  revert X; k_fill; intro X
  walk_at "S"
  · exact ⟨_, rfl⟩
  · exact ⟨_, _, rfl, fun _ _ e => e⟩
end
theorem drop_nonneg {ns : List Int} (hb : ∀ n ∈ ns, 0 ≤ n) (d : Nat) : ∀ n ∈ ns.drop d, 0 ≤ n := fun n hn => hb n (List.mem_of_mem_drop hn)
/-- the state of the law's reader over the figures of a row -/
inductive EntSt (g : Heap) (L' : Addr) (ns : List Int) (t a b : Addr) (va : List Value) (ca p1 : Nat) (H : Heap) (q : Nat) : Prop
  | mk (M : Str → Option Value) (R : Addr) (vr : List Value) (cR : Nat) (cs : List Nat) (fz : Str) (tf : Tok) (h1 : Fr g L' H M) (h2 : News g L' H [(R, listOf vr.toArray cR), (t, tupOf a b), (a, listOf va.toArray ca)]) (h3 : M "rest" = some (.ref R)) (h4 : M "figures_here" = some (.str fz tf)) (h5 : M "first" = some (.ref t)) (h6 : IntsAre vr (ns.drop q)) (h7 : fz.cps.toList = cs) (h8 : (∀ c ∈ cs, 48 ≤ c ∧ c ≤ 57)) (h9 : digs ns (p1 + 2) = (cs.map fun c : Nat => (c : Int)) ++ digs ns q) (h10 : q = p1 + 2 + cs.length) (h11 : q ≤ ns.length)
theorem take_one {ns : List Int} {p : Nat} {k : Int} (h : (ns.drop p).take 1 = [k]) : p < ns.length ∧ ns.getD p (-1) = k := by
  cases e : ns.drop p with
  | nil => rw [e] at h; cases h
  | cons c r =>
    obtain ⟨h1, _, h2⟩ := drop_cons e
    rw [e] at h
    exact ⟨h2, h1.trans (List.cons.inj h).1⟩
theorem exec_split {prog : Program} {w : World} {A : Around} {E : Value → Shared → Prop} {env : Env} {st : Stmt} {Q : Flow → Shared → Prop} {s : Shared} (R : (Flow → Shared → Prop) → Prop) (h1 : R Q)
    (h2 : ∀ Q', R Q' → wpAny (model prog w) A (exec st env) Q' E s) : wpAny (model prog w) A (exec st env) Q E s := h2 Q h1
theorem second_some {ns ts : List Int} {q p : Nat} (h : (ns.drop (q + 1)).getD 0 (-1) = 34 ∧ rdIn (ns.drop (q + 1)) ((ns.drop (q + 1)).length + 1) 1 = some (ts, p)) :
    ∃ p3, (ns.getD (q + 1) (-1) = 34 ∧ rdIn ns (ns.length + 1) (q + 1 + 1) = some (ts, p3)) ∧ p3 = p + (q + 1) := by
  obtain ⟨h1, h2⟩ := h
  rw [drop_getD, Nat.zero_add] at h1
  have hq := getD_lt (ns := ns) (q := q + 1) (by rw [h1]; decide)
  rw [rdIn_dropF (by omega), show 1 + (q + 1) = q + 1 + 1 by omega] at h2
  obtain ⟨r, hr, e⟩ := Option.map_eq_some_iff.mp h2
  have b := rdIn_spec (ts := r.1) (p' := r.2) hr
  cases e
  exact ⟨r.2, ⟨h1, hr⟩, by omega⟩
theorem second_none {ns : List Int} {q : Nat} (h : (ns.drop (q + 1)).getD 0 (-1) = 34 → rdIn (ns.drop (q + 1)) ((ns.drop (q + 1)).length + 1) 1 = none) :
    ns.getD (q + 1) (-1) = 34 → rdIn ns (ns.length + 1) (q + 1 + 1) = none := fun h1 => by
  have h2 := h (by rw [drop_getD, Nat.zero_add]; exact h1)
  have hq := getD_lt (ns := ns) (q := q + 1) (by rw [h1]; decide)
  rw [rdIn_dropF (by omega), show 1 + (q + 1) = q + 1 + 1 by omega] at h2
  exact Option.map_eq_none_iff.mp h2
theorem num_val {fz : Str} {cs : List Nat} (h : fz.cps.toList = cs) (hd : ∀ c ∈ cs, 48 ≤ c ∧ c ≤ 57) (hne : cs ≠ []) (hl : cs.length ≤ 400) : PySem.intText? fz = some ((cs.map fun c : Nat => (c : Int)).foldl (fun a c => 10 * a + c - 48) 0) := by
  have e := fold_cast cs 0 hd
  have : fz.length = cs.length := by rw [← h]; rfl
  subst h
  rw [PySem.intText_digits hd hne (by omega)]
  exact congrArg some e.symm
theorem ints_drop_to {vs : List Value} {ns : List Int} {m n : Nat} (h : IntsAre vs (ns.drop m)) (e : m = n) : IntsAre vs (ns.drop n) := e ▸ h
theorem item_head {fz : Str} {c : Nat} {cr : List Nat} (h : fz.cps.toList = c :: cr) : Txt.item fz 0 = ⟨#[c]⟩ := by
  have hl : fz.length = (c :: cr).length := by rw [← h]; rfl
  rw [item_at (n := 0) (Int.le_refl 0) (by rw [hl]; simp) rfl]
  congr 2
  have : fz.cps = (c :: cr).toArray := by rw [← h]
  rw [this]
  rfl
theorem digs_head {ns r : List Int} {p : Nat} {d : Int} (h : digs ns p = d :: r) : ns.getD p (-1) = d := by
  by_cases k : 48 ≤ ns.getD p (-1) ∧ ns.getD p (-1) ≤ 57
  · rw [digs_yes k] at h
    exact (List.cons.inj h).1
  · rw [digs_no k] at h; cases h
theorem not_one {ns : List Int} {q : Nat} {k : Int} (hk : k ≠ -1) (h : ¬ (ns.drop q).take 1 = [k]) : ns.getD q (-1) ≠ k := fun e => h (by
  have hq := getD_lt (ns := ns) (q := q) (by rw [e]; exact hk)
  rw [List.drop_eq_getElem_cons hq, List.take_succ_cons, List.take_zero]
  rw [List.getD_eq_getElem?_getD, List.getElem?_eq_getElem hq, Option.getD_some] at e
  rw [e])
theorem news_three {h₀ h : Heap} {L : Addr} {a b c : Addr × Obj} {ys : List (Addr × Obj)} (N : News h₀ L h ys) (ha : a ∈ ys) (hb : b ∈ ys) (hc : c ∈ ys) : News h₀ L h [a, b, c] := of_three (N a ha) (N b hb) (N c hc)
local macro_rules | `(tactic| walk_at "SI") => ln_walk ["exec Stmt.If:4 _"]
local macro_rules | `(tactic| walk_at "SA") => `(tactic| repeat' (
   (fail_if_success (with_reducible show wpAny _ _ (exec (Stmt.Assign _ (Expr.ListComp _ _ _ _) _) _) _ _ _));
   walk_at "W1"))
local macro_rules | `(tactic| walk_at "call builtin:chr") => ln_line "call Value.builtin:1 _ _" false ``chr_of_range "a b _" "a:o b:o" ""
local macro_rules | `(tactic| walk_at "binaryOp Add str str") => `(tactic| (k_here; (with_reducible show wpAny _ _ (binaryOp Operator.Add (Value.str _ _) (Value.str _ _)) _ _ _); refine SB.add (fun _ _ => ?_) (by rw [sizeLine_eq]; first | assumption | omega)))
theorem take_six {ns : List Int} {q : Nat} : (ns.drop q).take 6 = [32, 101, 120, 97, 99, 116] ↔ ns.getD q (-1) = 32 ∧ exOk ns q := by
  constructor
  · intro h
    have hl := congrArg List.length h
    simp only [List.length_take, List.length_drop, List.length_cons, List.length_nil] at hl
    have e : ∀ i, i < 6 → ns.getD (q + i) (-1) = ([32, 101, 120, 97, 99, 116] : List Int).getD i (-1) := fun i hi => by
      rw [← h, List.getD_eq_getElem?_getD, List.getD_eq_getElem?_getD, List.getElem?_take_of_lt hi, List.getElem?_drop]
    exact ⟨e 0 (by omega), e 1 (by omega), e 2 (by omega), e 3 (by omega), e 4 (by omega), e 5 (by omega)⟩
  · rintro ⟨h0, h1, h2, h3, h4, h5⟩
    have hq := getD_lt (ns := ns) (q := q + 5) (by rw [h5]; decide)
    have g : ∀ i (hi : i < ns.length) v, ns.getD i (-1) = v → ns[i] = v := fun i hi v e => by
      rw [← e, List.getD_eq_getElem?_getD, List.getElem?_eq_getElem hi, Option.getD_some]
    rw [List.drop_eq_getElem_cons (by omega), List.drop_eq_getElem_cons (by omega), List.drop_eq_getElem_cons (by omega), List.drop_eq_getElem_cons (by omega), List.drop_eq_getElem_cons (by omega), List.drop_eq_getElem_cons hq]
    simp only [List.take_succ_cons, List.take_zero]
    rw [g q (by omega) 32 h0, g (q + 1) (by omega) 101 h1, g (q + 1 + 1) (by omega) 120 h2, g (q + 1 + 1 + 1) (by omega) 97 h3, g (q + 1 + 1 + 1 + 1) (by omega) 99 h4, g (q + 5) hq 116 h5]
theorem es_of {s g h' : Heap} {L' : Addr} {news : List (Addr × Obj)} (N : News g L' h' news) (hg : ∀ b o, s.get? b = some o → b ∉ ([] : List (Addr × Obj)).map (·.1) → g.get? b = some o) {q : Addr × Obj} (hq : q ∈ news) : s.get? q.1 = none ∧ h'.get? q.1 = some q.2 :=
  ⟨fresh_back hg (N.fresh hq) (fun n => nomatch n), N.get hq⟩
theorem of_five {P : Addr × Obj → Prop} {a b c d e : Addr × Obj} (ha : P a) (hb : P b) (hc : P c) (hd : P d) (he : P e) : ∀ p ∈ [a, b, c, d, e], P p := by
  intro p hp
  rcases List.mem_cons.mp hp with rfl | hp
  · exact ha
  rcases List.mem_cons.mp hp with rfl | hp
  · exact hb
  exact of_three hc hd he p hp
set_option maxHeartbeats 4000000 in
theorem lentry_spec {w : World} {A : Around} {E : Value → Shared → Prop} {s : Shared} {V : Heap} {mg mb : Str → Option Value} {mean : ExcName → Option Value} {Q : Value → Shared → Prop}
    {l : Addr} {vs : List Value} {ns : List Int}
    (hV : Grow V s.heap) (X₀ : (hd.heap_1 w.params).In V) (T : Top headView (looseW headView [Str.ofString "EXACT"]) mean mg mb V)
    (hD : A.depth ≤ 580) (hU : A.units ≤ 1800) (hh : A.handled = none) (hl : s.heap.IsList l vs.toArray) (hi : IntsAre vs ns) (hz : ns.length ≤ 400) (hb : ∀ n ∈ ns, 0 ≤ n)
    (hnone : Hold (rdEntry ns 0 = none → ∀ h' tk', Grow s.heap h' → Q .none { s with heap := h', toks := tk' }))
    (hsome : Hold (∀ r p' t a b vb cb ca es tu lo lc lvs lcs c1 c2 h' tk', rdEntry ns 0 = some (r, p') → es = [(t, tupOf a b), (b, listOf vb.toArray cb), (a, listOf #[.ref lo, .int r.used tu, .ref lc, .bool r.exact] ca), (lo, listOf lvs.toArray c1), (lc, listOf lcs.toArray c2)] →
      IntsAre vb (ns.drop p') → IntsAre lvs r.word → IntsAre lcs r.codes → Grow s.heap h' → (∀ p ∈ es, s.heap.get? p.1 = none ∧ h'.get? p.1 = some p.2) → Q (.ref t) { s with heap := h', toks := tk' })) :
    wpAny (model PySem.Challenge.rw_ok0052_01.row.prog w) A (call (.ref 255) [.ref l]) Q E s := by
  revert X₀; k_fill; intro X₀
  refine wpAny_call ?_
  refine' enterNR [] [("codes", .ref l)] hV X₀ T (fun _ h => nomatch h) ?k6 ?k7 ?k8 ?k9 ?kB ?_ ?c2 ?c3 ?c4 ?c5
  walk_at "ENTER"
  intro g L' h₁ hg hL F' N' X' T'
  try dsimp only
  have hlg : g.IsList l vs.toArray := hl.at (fun o e => hg _ o e (fun n => nomatch n))
  have hlen := hi.length
  have hz' : ns.length ≤ 1000 := by omega
  have hbd := drop_nonneg hb
  walk_at "S"
  · rename Fr _ _ _ _ => F₀
    rename News _ _ _ _ => N₀
    rename (_ ∧ rdIn _ _ _ = some _) => hr1
    rename (_ ∧ _ < ns.length ∧ _) => br1
    rename (_ = ([32] : List Int)) => h32
    rename IntsAre _ (List.drop 1 (List.drop _ ns)) => iR
    rename Heap => H
    have e0 : ∃ ts p1 t a b va ca q, EntSt g L' ns t a b va ca p1 H q ∧ (ns.getD 0 (-1) = 34 ∧ rdIn ns (ns.length + 1) 1 = some (ts, p1)) ∧ ns.getD (p1 + 1) (-1) = 32 ∧ IntsAre va ts ∧ p1 < ns.length := by
      have h3 := take_one h32
      rw [List.drop_drop] at iR
      refine ⟨_, _, _, _, _, _, _, _, ⟨_, _, _, _, [], _, _, F₀, news_three N₀ (.tail _ (.head _)) (.tail _ (.tail _ (.tail _ (.tail _ (.head _))))) (.tail _ (.tail _ (.tail _ (.tail _ (.tail _ (.head _)))))), rfl, rfl, rfl, iR, rfl, (fun _ h => nomatch h), rfl, rfl, h3.1⟩, hr1, h3.2, by assumption, br1.2.1⟩
    clear F₀ N₀ hr1 br1 h32 iR
    obtain ⟨ts, p1, t, a, b, va, ca, q, hst, hr1, h32, iva, hp1⟩ := e0
    refine whl_start 1 (whl_split (fun Q' => ∀ H tk q, EntSt g L' ns t a b va ca p1 H q → ¬ (48 ≤ ns.getD q (-1) ∧ ns.getD q (-1) ≤ 57) → Q' .next { s with heap := H, toks := tk }) ?_ ?_)
    · clear hst
      intro H tk q hst hnd
      obtain ⟨M, R, vr, cR, cs, fz, tf, F₁, N₁, m1, m2, m3, ir, hcs, hcd, hdg, hqe, hq⟩ := hst
      rw [map_is m1, map_is m2, map_is m3] at F₁
      have hbd2 := drop_nonneg (hbd q) 1
      have hlq : (ns.drop q).length ≤ 400 := by rw [List.length_drop]; omega
      rw [digs_no hnd, List.append_nil] at hdg
      have hfl : fz.length = cs.length := by rw [← hcs]; rfl
      have hf6 : fz.length ≤ 640 := by omega
      have hnum := rdNum_eq (ns := ns) (p := p1 + 2) (by omega)
      rw [hdg, List.length_map] at hnum
      walk_at "SI"
      refine exec_split (fun Q' => (∀ H tk u, Fr g L' H (fun z => if z = Str.ofString "rest" then some (Value.ref R) else (fun z => if z = Str.ofString "figures_here" then some (Value.str fz tf) else (fun z => if z = Str.ofString "first" then some (Value.ref t) else M z) z) z) →
        News g L' H [(R, listOf vr.toArray cR), (t, tupOf a b), (a, listOf va.toArray ca)] → ns.getD q (-1) = 32 → rdNum ns (p1 + 1 + 1) = some (u, q) → PySem.intText? fz = some u → Q' .next { s with heap := H, toks := tk }) ∧
        (rdEntry ns 0 = none → ∀ H tk, Grow s.heap H → Q' (.ret .none) { s with heap := H, toks := tk })) ⟨?_, ?_⟩ ?_
      · clear F₁ N₁
        intro H tk u F₁ N₁ h32' hnu hiu
        try dsimp only
        walk_at "S"
        · rename (_ ∧ rdIn (List.drop 1 _) _ _ = some _) => hr2
          rename IntsAre _ (List.drop _ (List.drop 1 _)) => ib2
          rw [List.drop_drop] at hr2 ib2
          rw [List.drop_drop] at ib2
          obtain ⟨p3, hr3, hp3⟩ := second_some hr2
          have b3 := rdIn_spec hr3.2
          have hen := ent6 hr1 h32 hnu h32' hr3
          have ib3 := ints_drop_to ib2 (n := p3 + 1) (by omega)
          clear ib2
          have hl3 : (ns.drop (p3 + 1)).length ≤ 400 := by rw [List.length_drop]; omega
          rename Fr _ _ _ _ => F₃
          rename News _ _ _ _ => N₃
          refine compA_str (fun c y => ∃ t, y = .int (c : Int) t) rfl hh (by decide) F₃ N₃ ?_ ?_
          · intro C c u s₃ m₃ E' hn hm hG
            have X₃ : (hd.heap_1 w.params).In s₃.heap := X'.keeps (fun b o e => hG b o (F₃.keep b o e))
            have T₃ := T'.keeps (fun b o e => hG b o (F₃.keep b o e))
            exact leaf_ord X₃ T₃ hn hm rfl rfl rfl rfl rfl
          · intro D c ys h' tk F'' N'' l1 hR
            have hid : IntsAre ys [32, 101, 120, 97, 99, 116] := paired_codes hR
            (try simp only [AllNe, and_true] at l1)
            clear F₃ N₃
            walk_at "S"
            · rename Fr _ _ _ _ => F₃
              rename News _ _ _ _ => N₃
              rename List.take 6 _ = _ => h6
              rename List.take 1 _ = _ => h10
              rename IntsAre _ (List.drop 1 (List.drop 6 _)) => ir
              rw [List.drop_drop, List.drop_drop] at ir
              rw [List.drop_drop] at h10
              rw [decide_eq_true h6] at N₃
              have h6' := take_six.mp h6
              have h10' := take_one h10
              rw [if_pos h6'.1, if_pos ⟨h6'.2, by rw [show p3 + 7 = p3 + 1 + 6 by omega]; exact h10'.2⟩] at hen
              exact hsome ⟨ts, u, _, true⟩ (p3 + 8) _ _ _ _ _ _ _ _ _ _ _ _ _ _ _ _ hen rfl (ints_drop_to ir (by omega)) iva (by assumption) (fun b o e => F₃.keep _ _ (hg b o e (fun n => nomatch n)))
                (of_five (es_of N₃ hg (List.mem_of_getElem? (i := 0) rfl)) (es_of N₃ hg (List.mem_of_getElem? (i := 1) rfl)) (es_of N₃ hg (List.mem_of_getElem? (i := 2) rfl)) (es_of N₃ hg (List.mem_of_getElem? (i := 14) rfl)) (es_of N₃ hg (List.mem_of_getElem? (i := 9) rfl)))
            · rename Fr _ _ _ _ => F₃
              rename List.take 6 _ = _ => h6
              rename ¬ (List.take 1 _ = _) => h10
              rw [List.drop_drop] at h10
              have h6' := take_six.mp h6
              have h10' := not_one (by decide) h10
              rw [if_pos h6'.1, if_neg (fun z => h10' (by rw [show p3 + 1 + 6 = p3 + 7 by omega]; exact z.2))] at hen
              exact hnone hen _ _ (fun b o e => F₃.keep _ _ (hg b o e (fun n => nomatch n)))
            · rename Fr _ _ _ _ => F₃
              rename News _ _ _ _ => N₃
              rename ¬ (List.take 6 _ = _) => h6
              rename List.take 1 _ = _ => h10
              rename IntsAre _ (List.drop 1 (List.drop _ ns)) => ir
              rw [List.drop_drop] at ir
              rw [decide_eq_false h6] at N₃
              have h10' := take_one h10
              rw [if_neg (by rw [h10'.2]; decide), if_pos h10'.2] at hen
              exact hsome ⟨ts, u, _, false⟩ (p3 + 2) _ _ _ _ _ _ _ _ _ _ _ _ _ _ _ _ hen rfl (ints_drop_to ir (by omega)) iva (by assumption) (fun b o e => F₃.keep _ _ (hg b o e (fun n => nomatch n)))
                (of_five (es_of N₃ hg (List.mem_of_getElem? (i := 0) rfl)) (es_of N₃ hg (List.mem_of_getElem? (i := 1) rfl)) (es_of N₃ hg (List.mem_of_getElem? (i := 2) rfl)) (es_of N₃ hg (List.mem_of_getElem? (i := 13) rfl)) (es_of N₃ hg (List.mem_of_getElem? (i := 8) rfl)))
            · rename Fr _ _ _ _ => F₃
              rename ¬ (List.take 6 _ = _) => h6
              rename ¬ (List.take 1 _ = _) => h10
              have h10' := not_one (by decide) h10
              have hen' : rdEntry ns 0 = none := by
                by_cases z : ns.getD (p3 + 1) (-1) = 32
                · rw [if_pos z, if_neg (fun y => h6 (take_six.mpr ⟨z, y.1⟩))] at hen
                  exact hen
                · rw [if_neg z, if_neg h10'] at hen
                  exact hen
              exact hnone hen' _ _ (fun b o e => F₃.keep _ _ (hg b o e (fun n => nomatch n)))
        · rename Fr _ _ _ _ => F₃
          rename (_ → rdIn _ _ _ = none) => hn2
          rw [List.drop_drop] at hn2
          exact hnone (ent5 hr1 h32 hnu (second_none hn2)) _ _ (fun b o e => F₃.keep _ _ (hg b o e (fun n => nomatch n)))
      · intro h0 H tk G
        exact hnone h0 _ _ G
      · intro Q' hQ'
        clear hnone hsome
        change Hold _ at hQ'
        cases cs with
        | nil =>
          obtain rfl : fz = Str.ofString "" := cps_inj hcs
          walk_at "S"
          rename Fr _ _ _ _ => F₃
          exact hQ'.2 (ent3 hr1 h32 (hnum.trans (if_pos (.inl rfl)))) _ _ (fun b o e => F₃.keep _ _ (hg b o e (fun n => nomatch n)))
        | cons c cr =>
          have hne : fz ≠ Str.ofString "" := fun z => by rw [z] at hcs; cases hcs
          have hfp : 0 < fz.length := by rw [hfl]; exact Nat.succ_pos _
          have hc0 := digs_head (hdg.trans List.map_cons)
          have hit := item_head hcs
          have hnv := num_val hcs hcd (by simp) (by have := hqe; omega)
          have hyes : ¬ (c = 48 ∧ cr ≠ []) → rdNum ns (p1 + 1 + 1) = some (_, q) := fun hz => by
            refine hnum.trans ((if_neg ?_).trans (by rw [← hqe]))
            rintro (z | ⟨z1, z2⟩)
            · simp at z
            · refine hz ⟨by omega, fun z => ?_⟩
              rw [z] at z2
              exact Nat.lt_irrefl 1 z2
          walk_at "S"
          · rename Fr _ _ _ _ => F₃
            rename (Txt.item fz 0 == _) = true => h48
            rename (fz != _) = true => hnz
            have hc48 : c = 48 := by
              rw [hit] at h48
              have e := congrArg (fun x : Str => x.cps.toList) (eq_of_beq h48)
              exact (List.cons.inj e).1
            have hcr : cr ≠ [] := fun z => by
              rw [z, hc48] at hcs
              exact absurd (cps_inj (b := Str.ofString "0") hcs) (by simpa using hnz)
            refine hQ'.2 (ent3 hr1 h32 (hnum.trans (if_pos (.inr ⟨by rw [hc0, hc48]; rfl, ?_⟩)))) _ _ (fun b o e => F₃.keep _ _ (hg b o e (fun n => nomatch n)))
            have := List.length_pos_iff.mpr hcr
            simp only [List.length_cons]
            omega
          all_goals (
            rename Fr _ _ _ _ => F₃
            rename News _ _ _ _ => N₃
            have hz : ¬ (c = 48 ∧ cr ≠ []) := by
              first
              | (rename (fz != _) = false => hnz
                 rintro ⟨_, z⟩
                 have e : fz = Str.ofString "0" := by simpa using hnz
                 rw [e] at hcs
                 exact z (List.cons.inj hcs).2.symm)
              | (rename (Txt.item fz 0 == _) = false => h48
                 rintro ⟨z, _⟩
                 rw [hit, z] at h48
                 exact absurd h48 (by decide))
            first
            | (rename (_ = ([32] : List Int)) => ht
               exact hQ'.1 _ _ _ F₃ (news_three N₃ (.tail _ (.tail _ (.head _))) (.tail _ (.tail _ (.tail _ (.head _)))) (.tail _ (.tail _ (.tail _ (.tail _ (.head _)))))) (take_one ht).2 (hyes hz) hnv)
            | (rename ¬ (_ = ([32] : List Int)) => ht
               exact hQ'.2 (ent4 hr1 h32 (hyes hz) (not_one (by decide) ht)) _ _ (fun b o e => F₃.keep _ _ (hg b o e (fun n => nomatch n)))))
    · intro Q' hQ'
      clear hnone hsome
      change Hold _ at hQ'
      obtain ⟨f, hf⟩ : ∃ f, ns.length < f + q := ⟨ns.length + 1, by omega⟩
      revert hst
      generalize tk = tt
      induction f generalizing H q tt with
      | zero =>
        intro hst
        obtain ⟨_, _, _, _, _, _, _, _, _, _, _, _, _, _, _, _, _, hq⟩ := hst
        omega
      | succ f ih =>
      intro hst
      obtain ⟨M, R, vr, cR, cs, fz, tf, F₁, N₁, m1, m2, m3, ir, hcs, hcd, hdg, hqe, hq⟩ := hst
      refine whl_turn PassesOwn.never ?_
      rw [map_is m1, map_is m2, map_is m3] at F₁
      by_cases hql : q < ns.length
      · have hne : ns.drop q ≠ [] := fun z => by have := congrArg List.length z; simp at this; omega
        have hpos : 0 < (ns.drop q).length := List.length_pos_iff.mpr hne
        have hg0 : (ns.drop q).getD (Int.toNat 0) 0 = ns.getD q (-1) := by
          rw [List.drop_eq_getElem_cons hql, List.getD_eq_getElem?_getD, List.getD_eq_getElem?_getD, List.getElem?_eq_getElem hql]; rfl
        have hfl : fz.length + 1 ≤ 100000 := by
          have e1 : fz.length = cs.length := by rw [← hcs]; rfl
          omega
        walk_at "S"
        · rename Fr _ _ _ _ => F₃
          rename News _ _ _ _ => N₃
          rename 48 ≤ _ => k1
          rename _ ≤ (57 : Int) => k2
          rename IntsAre _ (List.drop 1 _) => ir'
          rw [hg0] at k1 k2 F₃
          rw [List.drop_drop] at ir'
          refine ih (H := _) (q := q + 1) (tt := _) (by omega) ⟨_, _, _, _, cs ++ [(ns.getD q (-1)).toNat], _, _, F₃, news_three N₃ (.tail _ (.head _)) (.tail _ (.tail _ (.tail _ (.tail _ (.head _))))) (.tail _ (.tail _ (.tail _ (.tail _ (.tail _ (.head _)))))), rfl, rfl, rfl, ir', ?_, ?_, ?_, ?_, hql⟩
          · rw [cps_toList_append, hcs]
          · intro c hc
            rcases List.mem_append.mp hc with z | z
            · exact hcd c z
            · rw [List.mem_singleton.mp z]; omega
          · rw [hdg, digs_yes ⟨k1, k2⟩, List.map_append, List.append_assoc, List.map_cons, List.map_nil, Int.toNat_of_nonneg (by omega)]
            rfl
          · rw [List.length_append, hqe]; rfl
        · rename Fr _ _ _ _ => F₃
          rename News _ _ _ _ => N₃
          rename ¬ (_ ≤ (57 : Int)) => k2
          rw [hg0] at k2
          exact hQ' _ _ q ⟨_, R, vr, cR, cs, fz, tf, F₃, news_three N₃ (.tail _ (.head _)) (.tail _ (.tail _ (.head _))) (.tail _ (.tail _ (.tail _ (.head _)))), rfl, rfl, rfl, ir, hcs, hcd, hdg, hqe, hq⟩ fun z => k2 z.2
        · rename Fr _ _ _ _ => F₃
          rename News _ _ _ _ => N₃
          rename ¬ (48 ≤ _) => k1
          rw [hg0] at k1
          exact hQ' _ _ q ⟨_, R, vr, cR, cs, fz, tf, F₃, news_three N₃ (.tail _ (.head _)) (.tail _ (.tail _ (.head _))) (.tail _ (.tail _ (.tail _ (.head _)))), rfl, rfl, rfl, ir, hcs, hcd, hdg, hqe, hq⟩ fun z => k1 z.1
      · have hnil : ns.drop q = [] := List.drop_eq_nil_of_le (by omega)
        walk_at "S"
        rename Fr _ _ _ _ => F₃
        rename News _ _ _ _ => N₃
        have k1 : ns.getD q (-1) = -1 := by rw [List.getD_eq_getElem?_getD, List.getElem?_eq_none (by omega)]; rfl
        exact hQ' _ _ q ⟨_, R, vr, cR, cs, fz, tf, F₃, news_three N₃ (.tail _ (.head _)) (.tail _ (.tail _ (.head _))) (.tail _ (.tail _ (.tail _ (.head _)))), rfl, rfl, rfl, ir, hcs, hcd, hdg, hqe, hq⟩ (by rw [k1]; omega)
  · rename Fr _ _ _ _ => F₃
    rename ¬ (_ = ([32] : List Int)) => ht
    exact hnone (ent2 (by assumption) (not_one (by decide) ht)) _ _ (fun b o e => F₃.keep _ _ (hg b o e (fun n => nomatch n)))
  · rename Fr _ _ _ _ => F₃
    exact hnone (ent1 (by assumption)) _ _ (fun b o e => F₃.keep _ _ (hg b o e (fun n => nomatch n)))
noncomputable abbrev rowObj (lo lc : Addr) (r : Row) (tu : Tok) (c : Nat) : Obj := listOf #[.ref lo, .int r.used tu, .ref lc, .bool r.exact] c
theorem off_of_fresh {h : Heap} {es news : List (Addr × Obj)} (he : ∀ q ∈ es, h.get? q.1 = none) (hn : ∀ q ∈ news, ∃ o, h.get? q.1 = some o) : Off es news := fun p hp q hq e => by
  obtain ⟨o, ho⟩ := hn q hq
  have := he p hp
  rw [e, ho] at this; cases this
theorem led_many {h₀ h h' : Heap} {L : Addr} {m : Str → Option Value} {news es : List (Addr × Obj)} (F : Fr h₀ L h m) (N : News h₀ L h news) (G : Grow h h') (he : ∀ q ∈ es, h.get? q.1 = none ∧ h'.get? q.1 = some q.2) :
    Fr h₀ L h' m ∧ News h₀ L h' (es ++ news) ∧ Off es news := by
  refine ⟨F.keeps G, fun q hq => ?_, off_of_fresh (fun q hq => (he q hq).1) fun q hq => ⟨_, (N q hq).1⟩⟩
  rcases List.mem_append.mp hq with hq | hq
  · refine ⟨(he q hq).2, fun e => ?_, ?_⟩
    · obtain ⟨oL, _, _, hL, _⟩ := F.ns
      have := (he q hq).1
      rw [e, hL] at this; cases this
    · cases y : h₀.get? q.1 with
      | none => rfl
      | some o => have := F.keep _ _ y; rw [(he q hq).1] at this; cases this
  · exact News.grown N G q hq
theorem lentry_led {w : World} {A : Around} {E : Value → Shared → Prop} {s : Shared} {h₀ : Heap} {L : Addr} {m mg mb : Str → Option Value} {mean : ExcName → Option Value} {news : List (Addr × Obj)} {Q : Value → Shared → Prop}
    {l : Addr} {vs : List Value} {ns : List Int}
    (F : Fr h₀ L s.heap m) (N : News h₀ L s.heap news) (X₀ : (hd.heap_1 w.params).In h₀) (T : Top headView (looseW headView [Str.ofString "EXACT"]) mean mg mb h₀)
    (hD : A.depth ≤ 580) (hU : A.units ≤ 1800) (hh : A.handled = none) (hl : s.heap.IsList l vs.toArray) (hi : IntsAre vs ns) (hz : ns.length ≤ 400) (hb : ∀ n ∈ ns, 0 ≤ n)
    (hnone : Hold (rdEntry ns 0 = none → ∀ h' tk', Fr h₀ L h' m → News h₀ L h' news → Q .none { s with heap := h', toks := tk' }))
    (hsome : Hold (∀ r p' t a b vb cb ca tu lo lc lvs lcs c1 c2 h' tk', rdEntry ns 0 = some (r, p') → IntsAre vb (ns.drop p') → IntsAre lvs r.word → IntsAre lcs r.codes → Fr h₀ L h' m →
      News h₀ L h' ([(t, tupOf a b), (b, listOf vb.toArray cb), (a, rowObj lo lc r tu ca), (lo, listOf lvs.toArray c1), (lc, listOf lcs.toArray c2)] ++ news) →
      Off [(t, tupOf a b), (b, listOf vb.toArray cb), (a, rowObj lo lc r tu ca), (lo, listOf lvs.toArray c1), (lc, listOf lcs.toArray c2)] news → Q (.ref t) { s with heap := h', toks := tk' })) :
    wpAny (model PySem.Challenge.rw_ok0052_01.row.prog w) A (call (.ref 255) [.ref l]) Q E s := by
  refine lentry_spec F.keep X₀ T hD hU hh hl hi hz hb (fun hn h' tk' G => hnone hn h' tk' (F.keeps G) (News.grown N G)) (fun r p' t a b vb cb ca es tu lo lc lvs lcs c1 c2 h' tk' hr he ib i1 i2 G hes => ?_)
  subst he
  obtain ⟨F', N', O'⟩ := led_many F N G hes
  exact hsome r p' t a b vb cb ca tu lo lc lvs lcs c1 c2 h' tk' hr ib i1 i2 F' N' O'
local macro_rules | `(tactic| walk_at "call ref") => ln_line "call Value.ref=255 _ _" true ``lentry_led "F N X T d u hh l i z b _ _" "FN6 HLIZB" ""
/-- a row of the law, as an object -/
inductive RowV (P : Addr → Obj → Prop) (a : Addr) (r : Row) : Prop
  | mk (ca : Nat) (tu : Tok) (lo lc : Addr) (lvs lcs : List Value) (c1 c2 : Nat) (h1 : P a (rowObj lo lc r tu ca)) (h2 : P lo (listOf (List.toArray lvs) c1)) (h3 : P lc (listOf (List.toArray lcs) c2)) (h4 : IntsAre lvs r.word) (h5 : IntsAre lcs r.codes)
theorem RowV.mono {P P' : Addr → Obj → Prop} {a : Addr} {r : Row} (h : RowV P a r) (hp : ∀ a o, P a o → P' a o) : RowV P' a r := by
  obtain ⟨ca, tu, lo, lc, lvs, lcs, c1, c2, a1, a2, a3, a4, a5⟩ := h
  exact ⟨ca, tu, lo, lc, lvs, lcs, c1, c2, hp _ _ a1, hp _ _ a2, hp _ _ a3, a4, a5⟩
def RowsV (P : Addr → Obj → Prop) (vs : List Value) (rows : List Row) : Prop := Paired (fun v r => ∃ a, v = .ref a ∧ RowV P a r) vs rows
theorem RowsV.mono {P P' : Addr → Obj → Prop} {vs : List Value} {rows : List Row} (h : RowsV P vs rows) (hp : ∀ a o, P a o → P' a o) : RowsV P' vs rows := by
  unfold RowsV at *
  induction h with
  | nil => exact .nil
  | cons h _ ih =>
    obtain ⟨a, e, hE⟩ := h
    exact .cons ⟨a, e, hE.mono hp⟩ ih
def OnL (es : List (Addr × Obj)) : Addr → Obj → Prop := fun a o => (a, o) ∈ es
theorem grow_but {s g h' : Heap} {l : Addr} {o : Obj} {L' : Addr} {m : Str → Option Value} (hg : ∀ b ob, s.get? b = some ob → b ∉ [(l, o)].map (·.1) → g.get? b = some ob) (hDs : s.get? l = some o) (F : Fr g L' h' m) (hl : h'.get? l = some o) : Grow s h' := fun b ob e => by
  by_cases q : b = l
  · subst q
    rw [hDs] at e
    cases e
    exact hl
  · exact F.keep _ _ (hg b ob e (by simpa using q))
/-- the law's own reader ahead of its loop -/
inductive LreadAt (g : Heap) (L' : Addr) (H : Heap) (l : Addr) (vs : List Value) (c : Nat) (ns : List Int) : Prop
  | mk (D : Addr) (rv : List Value) (cD : Nat) (R : Addr) (vr : List Value) (cR : Nat) (es : List (Addr × Obj)) (acc : List Row) (q f : Nat) (M : Str → Option Value)
    (h1 : Fr g L' H M) (h2 : M "rows" = some (.ref D)) (h3 : M "codes" = some (.ref R)) (h4 : News g L' H ((D, listOf (List.toArray rv) cD) :: (R, listOf (List.toArray vr) cR) :: (l, listOf vs.toArray c) :: es)) (h5 : @Ne Nat R D) (h6 : @Ne Nat l D) (h7 : AllNe D es) (h8 : AllNe l es) (h9 : IntsAre vr (ns.drop q)) (h10 : RowsV (OnL es) rv acc) (h11 : rdAll ns (ns.length + 1) 0 = (rdAll ns f q).map (fun r => acc ++ r)) (h12 : q ≤ ns.length) (h13 : ns.length + 1 ≤ f + q) (h14 : acc.length ≤ q)
theorem lread_spec {w : World} {A : Around} {E : Value → Shared → Prop} {s : Shared} {V : Heap} {mg mb : Str → Option Value} {mean : ExcName → Option Value} {Q : Value → Shared → Prop}
    {l : Addr} {vs : List Value} {ns : List Int} {c : Nat}
    (hV : Grow V s.heap) (X₀ : (hd.heap_1 w.params).In V) (T : Top headView (looseW headView [Str.ofString "EXACT"]) mean mg mb V)
    (hD : A.depth ≤ 570) (hU : A.units ≤ 1700) (hh : A.handled = none) (hDs : s.heap.get? l = some (listOf vs.toArray c)) (hDV : V.get? l = none) (hi : IntsAre vs ns) (hz : ns.length ≤ 400) (hb : ∀ n ∈ ns, 0 ≤ n)
    (hnone : Hold (rdAll ns (ns.length + 1) 0 = none → ∀ h' tk', Grow s.heap h' → Q .none { s with heap := h', toks := tk' }))
    (hsome : Hold (∀ rows D xs cD es h' tk', rdAll ns (ns.length + 1) 0 = some rows → RowsV (OnL es) xs rows → Grow s.heap h' → (∀ p ∈ (D, listOf xs.toArray cD) :: es, s.heap.get? p.1 = none ∧ h'.get? p.1 = some p.2) → Q (.ref D) { s with heap := h', toks := tk' })) :
    wpAny (model PySem.Challenge.rw_ok0052_01.row.prog w) A (call (.ref 262) [.ref l]) Q E s := by
  revert X₀; k_fill; intro X₀
  refine wpAny_call ?_
  refine' enterNR [(l, listOf vs.toArray c)] [("codes", .ref l)] hV X₀ T (fun p hp => by rw [List.mem_singleton.mp hp]; exact ⟨hDs, hDV⟩) ?k6 ?k7 ?k8 ?k9 ?kB ?_ ?c2 ?c3 ?c4 ?c5
  walk_at "ENTER"
  intro g L' h₁ hg hL F' N' X' T'
  try dsimp only
  have hlen := hi.length
  have hbd := drop_nonneg hb
  walk_at "S"
  refine whl_start 1 ?_
  try dsimp only
  try k_sweep
  rename Fr _ _ _ _ => F₀
  rename News _ _ _ _ => N₀
  rename Heap => H
  have e0 : LreadAt g L' H l vs c ns := by
    rename @LT.lt Nat _ _ _ => l1
    refine ⟨_, [], 0, l, vs, c, [], [], 0, ns.length + 1, _, F₀, rfl, rfl, fun p hp => ?_, Nat.ne_of_lt l1, Nat.ne_of_lt l1, trivial, trivial, by simpa using hi, .nil, by cases rdAll ns (ns.length + 1) 0 <;> rfl, Nat.zero_le _, by omega, Nat.zero_le _⟩
    rcases List.mem_cons.mp hp with rfl | hp
    · exact N₀ _ (.head _)
    rcases List.mem_cons.mp hp with rfl | hp
    · exact N₀ _ (.tail _ (.head _))
    exact N₀ _ (.tail _ hp)
  clear F₀ N₀
  obtain ⟨D, rv, cD, R, vr, cR, es, acc, q, f, M, F₁, m1, m2, N₁, n1, n2, a1, a2, ir, hR, e1, hq, hf, ha⟩ := e0
  revert F₁ N₁
  generalize tk = tt
  induction f generalizing H q acc rv cD R vr cR es M tt with
  | zero => omega
  | succ f ih =>
  intro F₁ N₁
  refine whl_turn PassesOwn.never ?_
  rw [map_is m1, map_is m2] at F₁
  have hlq : (ns.drop q).length ≤ 400 := by rw [List.length_drop]; omega
  have hbq := hbd q
  by_cases hql : q < ns.length
  · have hne : ns.drop q ≠ [] := fun z => by have := congrArg List.length z; simp at this; omega
    walk_at "S"
    refine WhlIf.yes (by simpa using hne) ?_
    walk_at "S"
    · unfold Hold
      intro hn h' tk' F₃ N₃
      walk_at "S"
      rename Fr _ _ _ _ => F₃
      rename News _ _ _ _ => N₃
      have hn' : rdEntry ns q = none := by
        rw [rdEntry_drop] at hn
        exact Option.map_eq_none_iff.mp hn
      refine hnone (by rw [e1, rdAll_succ, if_pos hql, hn']; rfl) _ _ (grow_but hg hDs F₃ (N₃.get (by k_mem)))
    · unfold Hold
      intro r p' t a b vb cb ca tu lo lc lvs lcs c1 c2 h' tk' hr ib i1 i2 F₃ N₃ O₃
      have o : ∀ p ∈ [(t, tupOf a b), (b, listOf vb.toArray cb), (a, rowObj lo lc r tu ca), (lo, listOf lvs.toArray c1), (lc, listOf lcs.toArray c2)], p.1 ≠ D := fun p hp => O₃ p hp (D, _) (by k_mem)
      have o' : ∀ p ∈ [(t, tupOf a b), (b, listOf vb.toArray cb), (a, rowObj lo lc r tu ca), (lo, listOf lvs.toArray c1), (lc, listOf lcs.toArray c2)], p.1 ≠ l := fun p hp => O₃ p hp (l, _) (by k_mem)
      have o1 : @Ne Nat t D := o _ (.head _)
      have o2 : @Ne Nat b D := o _ (.tail _ (.head _))
      have o3 : @Ne Nat a D := o _ (.tail _ (.tail _ (.head _)))
      have o4 : @Ne Nat lo D := o _ (.tail _ (.tail _ (.tail _ (.head _))))
      have o5 : @Ne Nat lc D := o _ (.tail _ (.tail _ (.tail _ (.tail _ (.head _)))))
      simp only [List.cons_append, List.nil_append] at N₃
      have hvl : rv.length = acc.length := paired_length hR
      walk_at "S"
      rename Fr _ _ _ _ => F₃
      rename News _ _ _ _ => N₄
      rw [rdEntry_drop] at hr
      obtain ⟨z, hr', e2⟩ := Option.map_eq_some_iff.mp hr
      obtain ⟨r₁, p1⟩ := z
      have e3 : r₁ = r := congrArg (·.1) e2
      have e4 : p1 - q = p' := congrArg (·.2) e2
      subst e3
      have bE := rdEntry_spec hr'
      rw [List.drop_drop] at ib
      refine ih (H := _) (q := p1) (acc := acc ++ [r₁]) (rv := rv ++ [.ref a]) (cD := cD + 1) (R := b) (vr := vb) (cR := cb) (es := (a, rowObj lo lc r₁ tu ca) :: (lo, listOf lvs.toArray c1) :: (lc, listOf lcs.toArray c2) :: es) (M := _) (tt := _) rfl rfl o2 ⟨o3, o4, o5, a1⟩ ⟨o' _ (.tail _ (.tail _ (.head _))), o' _ (.tail _ (.tail _ (.tail _ (.head _)))), o' _ (.tail _ (.tail _ (.tail _ (.tail _ (.head _))))), a2⟩ (ints_drop_to ib (by omega)) ?_ ?_ (by omega) (by omega) (by simp; omega) F₃ (news_sub N₄ fun p hp => ?_)
      · exact Paired.snoc (hR.mono fun a o z => .tail _ (.tail _ (.tail _ z))) ⟨a, rfl, ca, tu, lo, lc, lvs, lcs, c1, c2, .head _, .tail _ (.head _), .tail _ (.tail _ (.head _)), i1, i2⟩
      · rw [e1, rdAll_succ, if_pos hql, hr']
        dsimp only
        cases rdAll ns f p1 <;> simp
      · rcases List.mem_cons.mp hp with rfl | hp
        · exact List.mem_of_getElem? (i := 6) rfl
        rcases List.mem_cons.mp hp with rfl | hp
        · exact List.mem_of_getElem? (i := 1) rfl
        rcases List.mem_cons.mp hp with rfl | hp
        · exact List.mem_of_getElem? (i := 8) rfl
        rcases List.mem_cons.mp hp with rfl | hp
        · exact List.mem_of_getElem? (i := 2) rfl
        rcases List.mem_cons.mp hp with rfl | hp
        · exact List.mem_of_getElem? (i := 3) rfl
        rcases List.mem_cons.mp hp with rfl | hp
        · exact List.mem_of_getElem? (i := 4) rfl
        · exact .tail _ (.tail _ (.tail _ (.tail _ (.tail _ (.tail _ (.tail _ (.tail _ (.tail _ hp))))))))
  · have hnil : ns.drop q = [] := List.drop_eq_nil_of_le (by omega)
    walk_at "S"
    refine WhlIf.no (by simp [hnil]) ?_
    walk_at "S"
    rename Fr _ _ _ _ => F₃
    rename News _ _ _ _ => N₃
    refine hsome acc D rv cD es _ _ (by rw [e1, rdAll_succ, if_neg hql]; simp) hR (grow_but hg hDs F₃ (N₃.get (by k_mem))) fun p hp => ?_
    have N₄ : News g L' _ ((D, listOf rv.toArray cD) :: es) := news_sub N₃ fun p hp => by
      rcases List.mem_cons.mp hp with rfl | hp
      · exact .tail _ (.head _)
      · exact .tail _ (.tail _ (.tail _ (.tail _ hp)))
    refine ⟨fresh_back hg (N₄.fresh hp) (fun z => ?_), N₄.get hp⟩
    have z' : p.1 = l := List.mem_singleton.mp z
    rcases List.mem_cons.mp hp with rfl | hp
    · exact n2 z'.symm
    · exact allNe_mem a2 p hp z'
/-! sorted by a key of fewer than two things -/
section
variable {prog : Program} {w : World} {A : Around} {E : Value → Shared → Prop} {s : Shared} {h₀ : Heap} {L : Addr} {m : Str → Option Value} {news : List (Addr × Obj)} {a kS : Addr} {vs ks : List Value}
theorem few_end {e e1 : Nat} {P : PySem.Fin → Shared → Prop} (hl : ks.length = vs.length) (h2 : vs.length < 2)
    (h : KatFin h₀ L m kS a ks e e1 vs (fun s3 => P (.done (.ret .none)) s3) s) :
    wpAny (model prog w) A (ksk_end a false vs.toArray e1 (.ref kS) (List.toArray ks)) P E s := by
  have hn2 : vs.toArray.size < 2 := by rw [List.size_toArray]; omega
  unfold ksk_end
  simp only [Bool.false_eq_true, if_false]
  try dsimp only
  rw [if_pos hn2, if_pos hn2]
  refine wpAny_bind (wpAny_pure ?_)
  rw [StateT.run_pure]
  refine wpAny_bind (wpAny_pure ?_)
  refine kat_tail (b := false) (out := vs) ?_ (by omega) (by omega) rfl h
  show ((List.toArray ks).zip vs.toArray).map (·.2) = vs.toArray
  apply Array.toList_inj.mp
  simp
  exact List.map_snd_zip (Nat.le_of_eq hl.symm)
theorem few_rest {f : Value} {e1 : Nat} {P : PySem.Fin → Shared → Prop} (hk : s.heap.get? kS = some (seqObj "list" #[] 0)) (h2 : vs.length < 2)
    (h : KatKeys prog w A h₀ L m kS f (fun ks e s' => KatFin h₀ L m kS a ks e e1 vs (fun s4 => P (.done (.ret .none)) s4) s') vs [] 0 s) :
    wpAny (model prog w) A (ksk_rest a f false vs.toArray e1 (.ref kS)) P E s := by
  unfold ksk_rest
  refine wpAny_bind (wpAny_rule ?_)
  first
    | rw [List.forIn_toArray]
    | (rw [← Array.forIn_toList]; simp only [List.toList_toArray])
    | rw [← Array.forIn_toList]
  refine wpAny_bind (wpAny_mono (kat_fold (n := vs.length) (by omega) (fun x ks e s' C hz hx => ?_) vs [] 0 s (by simp) hk h) (fun _ s' hd => ?_) fun _ _ x => x)
  · refine wpAny_bind (wpAny_attempt (wpAny_mono hx (fun k s'' hk => ?_) fun _ _ hF => hF.elim))
    obtain ⟨news', g, F', N', U, c⟩ := hk
    obtain ⟨pre, post, e0, hg, x1, x2⟩ := U.split
    rw [e0] at N'
    have nk := N' (kS, seqObj "list" (List.toArray ks) e) (List.mem_append_right _ (.head _))
    have s1 := Heap.SameBut.update s''.heap kS (Obj.mapSeq (·.push k))
    have ea : (List.toArray ks).push k = List.toArray (ks ++ [k]) := by simp
    obtain ⟨c2, hc2⟩ : ∃ c2, (s''.heap.update kS (Obj.mapSeq (·.push k))).get? kS = some (seqObj "list" (List.toArray (ks ++ [k])) c2) := ⟨_, by rw [← ea]; exact get?_update_seq nk.1 (·.push k)⟩
    try dsimp only
    refine wpAny_bind (listUpdate_at nk.1 rfl ?_ (by rw [List.size_toArray, sizeLine_eq]; omega) (Nat.le_trans (Nat.le_of_eq (Array.size_push ..)) (by rw [List.size_toArray, sizeLine_eq]; omega)))
    exact wpAny_pure ⟨rfl, k, c2, hc2, c _ c2 (kas_fr F' s1 nk.2.1 nk.2.2) (by rw [hg]; exact news_set N' x1 x2 s1 hc2)⟩
  · obtain ⟨ks, e, hk', hl, fin⟩ := hd
    try dsimp only
    refine wpAny_bind (listItems_at hk' rfl ?_)
    exact few_end hl h2 fin
theorem few_keyed {f : Value} {n : Nat} {P : PySem.Fin → Shared → Prop} (F : Fr h₀ L s.heap m) (N : News h₀ L s.heap news) (ho : s.heap.get? a = some (seqObj "list" vs.toArray n)) (haL : a ≠ L) (ha0 : h₀.get? a = none) (hna : ∀ p ∈ news, p.1 ≠ a) (h2 : vs.length < 2)
    (h : ∀ kS e1 h', Fr h₀ L h' m → News h₀ L h' ((kS, seqObj "list" #[] 0) :: (a, seqObj "list" #[] e1) :: news) → a < kS → (∀ q ∈ news, q.1 < kS) →
      KatKeys prog w A h₀ L m kS f (fun ks e s' => KatFin h₀ L m kS a ks e e1 vs (fun s4 => P (.done (.ret .none)) s4) s') vs [] 0 { s with heap := h' }) :
    wpAny (model prog w) A (ksk_tree a f false) P E s := by
  have ha : a < s.heap.objs.size := Heap.lt_size ho
  have s1 := Heap.SameBut.update s.heap a (Obj.mapSeq fun _ => (#[] : Array Value))
  obtain ⟨e1, ho1⟩ : ∃ e1, (s.heap.update a (Obj.mapSeq fun _ => (#[] : Array Value))).get? a = some (seqObj "list" #[] e1) := ⟨_, get?_update_seq ho fun _ => #[]⟩
  have F1 := kas_fr F s1 haL ha0
  have N1 := kas_news N s1 hna
  have hkS : ((s.heap.update a (Obj.mapSeq fun _ => (#[] : Array Value))).push (seqObj "tuple" vs.toArray 0)).objs.size = s.heap.objs.size + 1 := by rw [size_push', Heap.size_update]
  have hLk : L < ((s.heap.update a (Obj.mapSeq fun _ => (#[] : Array Value))).push (seqObj "tuple" vs.toArray 0)).objs.size := (F1.push _).ns.lt
  unfold ksk_tree
  refine wpAny_bind (listItems_at ho rfl ?_)
  refine wpAny_bind (listUpdate_at ho rfl ?_ (by rw [List.size_toArray, sizeLine_eq]; omega) (Nat.zero_le _))
  refine wpAny_bind (seqEpoch_at ho1 rfl ?_)
  refine wpAny_bind (wpAny_newTuple ?_ (by show vs.length ≤ _; rw [sizeLine_eq]; omega))
  refine wpAny_bind (wpAny_newList ?_ (Nat.zero_le _))
  refine wpAny_holding ?_
  refine few_rest (s := { s with heap := ((s.heap.update a (Obj.mapSeq fun _ => (#[] : Array Value))).push (seqObj "tuple" vs.toArray 0)).push (seqObj "list" #[] 0) }) (kS := ((s.heap.update a (Obj.mapSeq fun _ => (#[] : Array Value))).push (seqObj "tuple" vs.toArray 0)).objs.size)
    (Heap.get?_push_size _ rfl) h2 (h _ e1 _ ((F1.push _).push _) (fun p hp => ?_) (by rw [hkS]; exact Nat.lt_succ_of_lt ha) fun q hq => by rw [hkS]; exact Nat.lt_succ_of_lt (Heap.lt_size (N q hq).1))
  rcases List.mem_cons.mp hp with rfl | hp
  · exact ⟨Heap.get?_push_size _ rfl, Nat.ne_of_gt hLk, Heap.get?_none_of_le (Nat.le_trans F.above (Nat.le_of_lt hLk))⟩
  · rcases List.mem_cons.mp hp with rfl | hp
    · exact ⟨Heap.get?_push_of_some _ (Heap.get?_push_of_some _ ho1), haL, ha0⟩
    · exact ⟨Heap.get?_push_of_some _ (Heap.get?_push_of_some _ (N1 p hp).1), (N1 p hp).2⟩
theorem sorted_keyed_few {l f : Addr} {Q : Value → Shared → Prop} (F : Fr h₀ L s.heap m) (N : News h₀ L s.heap news) (hl : s.heap.IsList l vs.toArray) (h2 : vs.length < 2)
    (hcall : ∀ (v : Value) (news' : List (Addr × Obj)) (h' : Heap) (tk : Nat) (Q' : Value → Shared → Prop), v ∈ vs → Fr h₀ L h' m → News h₀ L h' news' → (∀ k h'' tk', Fr h₀ L h'' m → News h₀ L h'' news' → Q' k { s with heap := h'', toks := tk' }) →
      wpAny (model prog w) A.in1.in1 (call (.ref f) [v]) Q' (fun _ _ => False) { s with heap := h', toks := tk })
    (h : ∀ D c h' tk news', Fr h₀ L h' m → News h₀ L h' ((D, listOf vs.toArray c) :: (news' ++ news)) → (∀ q ∈ news' ++ news, q.1 ≠ D) → Q (.ref D) { s with heap := h', toks := tk }) :
    wpAny (model prog w) A (call (.builtin "sorted") [.ref l] [(Str.ofString "key", .ref f)]) Q E s := by
  refine call_function_entry_kw kind_sorted plain_sorted entry_sorted (ksk_s1 _ _) ?_
  unfold Builtin.«sorted»
  refine wpAny_bind (m := checkCount "sorted" 1 1 _) (wpAny_pure ?_)
  refine wpAny_bind (collect_list hl ?_ (by rw [sizeLine_eq]; omega))
  refine wpAny_bind (wpAny_newList ?_ (by rw [sizeLine_eq]; omega))
  have hsz : ((s.heap.push (seqObj "list" #[] 0)).update s.heap.objs.size (Obj.mapSeq (· ++ vs.toArray))).objs.size = s.heap.objs.size + 1 := by
    rw [Heap.size_update, size_push']
  have hoL : (((s.heap.push (seqObj "list" #[] 0)).update s.heap.objs.size (Obj.mapSeq (· ++ vs.toArray))).push (seqObj "list" vs.toArray 0)).get? (s.heap.objs.size + 1) = some (seqObj "list" vs.toArray 0) := by
    rw [← hsz]; exact Heap.get?_push_size _ rfl
  have keep : ∀ b o, s.heap.get? b = some o → (((s.heap.push (seqObj "list" #[] 0)).update s.heap.objs.size (Obj.mapSeq (· ++ vs.toArray))).push (seqObj "list" vs.toArray 0)).get? b = some o := fun b o q => by
    have hlt : b < s.heap.objs.size := Heap.lt_size q
    rw [Heap.get?_push_ne _ _ _ (by rw [hsz]; exact Nat.ne_of_lt (Nat.lt_succ_of_lt hlt)), Heap.get?_update_ne _ _ _ _ (Nat.ne_of_lt hlt), Heap.get?_push_ne _ _ _ (Nat.ne_of_lt hlt)]
    exact q
  have hL : L < s.heap.objs.size := F.ns.lt
  show wpAny _ _ _ _ _ { s with heap := ((s.heap.push (seqObj "list" #[] 0)).update s.heap.objs.size (Obj.mapSeq (· ++ vs.toArray))).push (seqObj "list" vs.toArray 0) }
  rw [hsz]
  refine wpAny_bind (wpAny_holding (wpAny_call_entry_kw slot_list_sort ⟨_, hoL, rfl⟩ entry_list_sort ?body (ksk_l1 _ _)))
  case body =>
    show wpAny (model prog w) A.in1.in1 (Builtin.«list.sort» ⟨[.ref (s.heap.objs.size + 1)], [(Str.ofString "key", .ref f)]⟩) _ _ _
    rw [ksk_t1]
    have hlt1 : ∀ p ∈ news, p.1 < s.heap.objs.size + 1 := fun p hp => Nat.lt_succ_of_lt (Heap.lt_size (N p hp).1)
    refine few_keyed (s := { s with heap := ((s.heap.push (seqObj "list" #[] 0)).update s.heap.objs.size (Obj.mapSeq (· ++ vs.toArray))).push (seqObj "list" vs.toArray 0) })
      (F.kept keep) (N.grown keep) hoL (Nat.ne_of_gt (Nat.lt_succ_of_lt hL)) (Heap.get?_none_of_le (Nat.le_trans F.above (Nat.le_succ_of_le (Nat.le_of_lt hL))))
      (fun p hp => Nat.ne_of_lt (hlt1 p hp)) h2 fun kS e1 h' F' N' l0 l1 => ?_
    generalize s.heap.objs.size + 1 = D at *
    have key : ∀ (r done : List Value) (e : Nat) (h' : Heap) (tk : Nat), (∀ v ∈ r, v ∈ vs) → Fr h₀ L h' m → News h₀ L h' ((kS, seqObj "list" done.toArray e) :: (D, seqObj "list" #[] e1) :: news) →
        KatKeys prog w A.in1.in1 h₀ L m kS (.ref f) (fun ks e s' => KatFin h₀ L m kS D ks e e1 vs (fun s4 => ∃ v, PySem.Fin.done (.ret .none) = .done (.ret v) ∧ wpAny (model prog w) A.in1 (do ret (.ref D)) (fun v' s5 => ∃ u, v' = .done (.ret u) ∧ Q u s5) E s4) s') r done e { s with heap := h', toks := tk } := by
      intro r
      induction r with
      | nil =>
        intro done e h' tk hr F' N'
        refine KatKeys.nil (KatFin.intro F' N' (UpdF.head fun q hq => ?_) fun h'' c F'' N'' => ?_)
        · rcases List.mem_cons.mp hq with rfl | hq
          · exact Nat.ne_of_lt l0
          · exact Nat.ne_of_lt (l1 q hq)
        · refine KasFin.intro F'' N'' (UpdF.tail (Nat.ne_of_gt l0) (UpdF.head fun q hq => Nat.ne_of_lt (hlt1 q hq))) fun h3 c3 F3 N3 => ⟨_, rfl, wpAny_pure ⟨_, rfl, h D c3 h3 tk [(kS, seqObj "list" #[] c)] F3 (fun q hq => N3 q ?_) (fun q hq => ?_)⟩⟩
          · rcases List.mem_cons.mp hq with rfl | hq
            · exact .tail _ (.head _)
            · rcases List.mem_cons.mp hq with rfl | hq
              · exact .head _
              · exact .tail _ (.tail _ hq)
          · rcases List.mem_cons.mp hq with rfl | hq
            · exact Nat.ne_of_gt l0
            · exact Nat.ne_of_lt (hlt1 q hq)
      | cons v r ih =>
        intro done e h' tk hr F' N'
        refine KatKeys.cons (hcall v _ h' tk _ (hr v (.head _)) F' N' fun k h'' tk' F'' N'' => ?_)
        refine KatBack.intro F'' N'' (UpdF.head fun q hq => ?_) fun h3 c3 F3 N3 => ?_
        · rcases List.mem_cons.mp hq with rfl | hq
          · exact Nat.ne_of_lt l0
          · exact Nat.ne_of_lt (l1 q hq)
        · exact ih (done ++ [k]) c3 h3 tk' (fun u hu => hr u (.tail _ hu)) F3 N3
    exact key vs [] 0 h' s.toks (fun _ h => h) F' N'
end
/-! rows of the law, compared -/
section
open PySem.SeqAt
theorem readsAll_ints {h : Heap} {vs : List Value} {ns : List Int} (i : IntsAre vs ns) : ReadsAll h vs (ns.map PyData.int) [] := by
  induction i with
  | nil => exact .nil
  | cons n t _ ih => exact ReadsAll.cons (as := []) (Reads.int n t) ih
theorem reads_ints {h : Heap} {a : Addr} {vs : List Value} {ns : List Int} {c : Nat} (e : h.get? a = some (listOf vs.toArray c)) (i : IntsAre vs ns) : Reads h (.ref a) (.list (ns.map PyData.int)) [a] :=
  Reads.list e rfl rfl (by rw [List.toList_toArray]; exact readsAll_ints i)
theorem lay_ints : ∀ ns : List Int, PyData.canLayAll0 (ns.map PyData.int) = true
  | [] => rfl
  | n :: ns => by rw [List.map_cons, PyData.canLayAll0, lay_ints ns]; rfl
theorem depth_ints : ∀ ns : List Int, PyData.depthAll (ns.map PyData.int) = 0
  | [] => rfl
  | n :: ns => by rw [List.map_cons, PyData.depthAll, depth_ints ns]; rfl
theorem eqv_ints : ∀ a b : List Int, PyData.eqvAll (a.map PyData.int) (b.map PyData.int) = decide (a = b)
  | [], [] => rfl
  | [], _ :: _ => rfl
  | _ :: _, [] => rfl
  | x :: a, y :: b => by
    rw [List.map_cons, List.map_cons, PyData.eqvAll, eqv_ints a b]
    show (x == y && decide (a = b)) = _
    by_cases e1 : x = y
    · by_cases e2 : a = b
      · simp [e1, e2]
      · simp [e1, e2]
    · simp [e1]
noncomputable def rowD (r : Row) : PyData := .list [.list (r.word.map .int), .int r.used, .list (r.codes.map .int), .bool r.exact]
theorem reads_row {h : Heap} {a : Addr} {r : Row} (v : RowV (HV h) a r) : ∃ as, Reads h (.ref a) (rowD r) as := by
  obtain ⟨ca, tu, lo, lc, lvs, lcs, c1, c2, a1, a2, a3, a4, a5⟩ := v
  exact ⟨_, Reads.list a1 rfl rfl (.cons (reads_ints a2 a4) (.cons (.int _ _) (.cons (reads_ints a3 a5) (.cons (.bool _) .nil))))⟩
theorem reads_rows {h : Heap} {vs : List Value} {rows : List Row} (v : RowsV (HV h) vs rows) : ∃ as, ReadsAll h vs (rows.map rowD) as := by
  unfold RowsV at v
  induction v with
  | nil => exact ⟨_, .nil⟩
  | cons e _ ih =>
    obtain ⟨a, rfl, hr⟩ := e
    obtain ⟨as, h1⟩ := reads_row hr
    obtain ⟨bs, h2⟩ := ih
    exact ⟨_, .cons h1 h2⟩
theorem reads_list_rows {h : Heap} {D : Addr} {vs : List Value} {rows : List Row} {c : Nat} (e : h.get? D = some (listOf vs.toArray c)) (v : RowsV (HV h) vs rows) : ∃ as, Reads h (.ref D) (.list (rows.map rowD)) as := by
  obtain ⟨as, h1⟩ := reads_rows v
  exact ⟨_, Reads.list e rfl rfl (by rw [List.toList_toArray]; exact h1)⟩
theorem lay_row (r : Row) : (rowD r).canLay0 = true := by
  show PyData.canLayAll0 [_, _, _, _] = true
  simp only [PyData.canLayAll0, PyData.canLay0, lay_ints, Bool.and_true]
theorem lay_rows : ∀ rows : List Row, PyData.canLayAll0 (rows.map rowD) = true
  | [] => rfl
  | r :: rows => by rw [List.map_cons, PyData.canLayAll0, lay_rows rows, lay_row]; rfl
theorem depth_row (r : Row) : (rowD r).depth ≤ 2 := by
  unfold rowD
  simp only [PyData.depth, PyData.depthAll, depth_ints]
  omega
theorem depth_rows : ∀ rows : List Row, PyData.depthAll (rows.map rowD) ≤ 2
  | [] => by simp [PyData.depthAll]
  | r :: rows => by
    rw [List.map_cons, PyData.depthAll]
    have h1 := depth_row r
    have h2 := depth_rows rows
    omega
/-- two lists of the same rows are equal -/
theorem eq_rows {prog : Program} {w : World} {A : Around} {E : Value → Shared → Prop} {s : Shared} {D D' : Addr} {vs vs' : List Value} {rows : List Row} {c c' : Nat} {Q : Value → Shared → Prop}
    (e : s.heap.get? D = some (listOf vs.toArray c)) (e' : s.heap.get? D' = some (listOf vs'.toArray c')) (v : RowsV (HV s.heap) vs rows) (v' : RowsV (HV s.heap) vs' rows) (hu : A.units ≤ 2100) (h : Q (.bool true) s) :
    wpAny (model prog w) A (compareOp .Eq (.ref D) (.ref D')) Q E s := by
  obtain ⟨as, r⟩ := reads_list_rows e v
  obtain ⟨as', r'⟩ := reads_list_rows e' v'
  refine compareEq_reads r r' (lay_rows rows) (lay_rows rows) ?_ ?_
  · have : cLine = 9900 := rfl
    show A.units + min (PyData.depthAll _ + 1) (PyData.depthAll _ + 1) < cLine
    have := depth_rows rows
    omega
  · rw [show PyData.eqv (.list (rows.map rowD)) (.list (rows.map rowD)) = true from eqv_refl _ (lay_rows rows)]
    exact h
theorem row_lt {prog : Program} {w : World} {A : Around} {E : Value → Shared → Prop} {s : Shared} {a b : Addr} {r q : Row} {Q : Bool → Shared → Prop} (ha : RowV (HV s.heap) a r) (hb : RowV (HV s.heap) b q) (hu : A.units ≤ 2100) (hd : (a = b ∧ r = q) ∨ r.word ≠ q.word) (h : Q (ltI r.word q.word) s) :
    wpAny (model prog w) A (keyLt' oneType' (.ref a) (.ref b)) Q E s := by
  have hc : cLine = 9900 := rfl
  rcases hd with ⟨rfl, rfl⟩ | hd
  · obtain ⟨ca, tu, lo, lc, lvs, lcs, c1, c2, a1, a2, a3, a4, a5⟩ := ha
    refine oneLt_lists (k := 4) (v := ltI r.word r.word) a1 a1 (by omega) (fun j hj => ?_) (.inr ⟨.inl rfl, by rw [ltI_self]; simp⟩) h
    obtain ⟨v, hv⟩ : ∃ v, (#[Value.ref lo, .int r.used tu, .ref lc, .bool r.exact] : Array Value)[j]? = some v := ⟨_, Array.getElem?_eq_getElem (by simpa using hj)⟩
    exact ⟨v, v, hv, hv, EqAt.same _⟩
  · obtain ⟨ca, tu, lo, lc, lvs, lcs, c1, c2, a1, a2, a3, a4, a5⟩ := ha
    obtain ⟨ca', tu', lo', lc', lvs', lcs', c1', c2', b1, b2, b3, b4, b5⟩ := hb
    refine oneLt_lists (k := 0) (v := ltI r.word q.word) a1 b1 (by omega) (fun j hj => absurd hj (Nat.not_lt_zero _)) (.inl ⟨_, _, rfl, rfl, ?_, ?_⟩) h
    · have := eqAt_reads _ _ A.in1 s _ _ _ _ (reads_ints a2 a4) (reads_ints b2 b4) (lay_ints _) (lay_ints _) (by
        show A.in1.units + min (PyData.depthAll _ + 1) (PyData.depthAll _ + 1) < cLine
        rw [depth_ints, depth_ints, units_in1]
        omega)
      rw [show PyData.eqv (.list (r.word.map .int)) (.list (q.word.map .int)) = PyData.eqvAll (r.word.map .int) (q.word.map .int) from rfl, eqv_ints, decide_eq_false hd] at this
      exact this
    · obtain ⟨k, k1, k2⟩ := ints_ltEnd (A := A.in1.in1) (s := s) a4 b4
      exact LtAt.lists a2 b2 (by rw [units_in1]; omega) k1 k2
/-- known by the base, or made since -/
def Kn (h₀ : Heap) (news : List (Addr × Obj)) : Addr → Obj → Prop := fun a o => h₀.get? a = some o ∨ (a, o) ∈ news
theorem Kn.at {h₀ h : Heap} {L : Addr} {m : Str → Option Value} {news : List (Addr × Obj)} (F : Fr h₀ L h m) (N : News h₀ L h news) {a : Addr} {o : Obj} (k : Kn h₀ news a o) : h.get? a = some o := k.elim (F.keep _ _) fun q => N.get q
theorem rows_at {P : Addr → Obj → Prop} {vs : List Value} {rows : List Row} (h : RowsV P vs rows) {i : Nat} (hi : i < rows.length) : ∃ a, vs.getD i .none = .ref a ∧ RowV P a (rows.getD i row0) := by
  unfold RowsV at h
  induction h generalizing i with
  | nil => exact absurd hi (Nat.not_lt_zero _)
  | cons e _ ih =>
    cases i with
    | zero => obtain ⟨a, rfl, hr⟩ := e; exact ⟨a, rfl, hr⟩
    | succ i => exact ih (i := i) (by simpa using hi)
theorem rows_pick {P : Addr → Obj → Prop} {vs : List Value} {rows : List Row} (h : RowsV P vs rows) : ∀ {p : List Nat}, (∀ i ∈ p, i < rows.length) → RowsV P (p.map fun i => vs.getD i Value.none) (p.map fun i => rows.getD i row0) := by
  intro p
  induction p with
  | nil => intro _; exact .nil
  | cons i p ih =>
    intro hp
    obtain ⟨a, e, hr⟩ := rows_at h (hp i (.head _))
    exact .cons ⟨a, e, hr⟩ (ih fun j hj => hp j (.tail _ hj))
theorem wds_ne {R : List Row} (h : Wds R) {i j : Nat} (hi : i < R.length) (hj : j < R.length) (hij : i ≠ j) : (R.getD i row0).word ≠ (R.getD j row0).word := by
  unfold Wds at h
  rw [List.getD_eq_getElem?_getD, List.getD_eq_getElem?_getD, List.getElem?_eq_getElem hi, List.getElem?_eq_getElem hj, Option.getD_some, Option.getD_some]
  rcases Nat.lt_or_gt_of_ne hij with z | z
  · have := List.pairwise_iff_getElem.mp h i j (by simpa using hi) (by simpa using hj) z
    simpa using this
  · have := List.pairwise_iff_getElem.mp h j i (by simpa using hj) (by simpa using hi) z
    exact fun e => this (by simpa using e.symm)
theorem words_getD (R : List Row) (n : Nat) : (R.map Row.word).getD n [] = (R.getD n row0).word := by
  rw [List.getD_eq_getElem?_getD, List.getD_eq_getElem?_getD, List.getElem?_map]
  cases R[n]? <;> rfl
theorem sorted_rows {prog : Program} {w : World} {A : Around} {E : Value → Shared → Prop} {s : Shared} {h₀ : Heap} {L : Addr} {m : Str → Option Value} {news : List (Addr × Obj)} {l : Addr} {vs : List Value} {R : List Row} {Q : Value → Shared → Prop} {P : Addr → Obj → Prop}
    (F : Fr h₀ L s.heap m) (N : News h₀ L s.heap news) (hP : ∀ h' a o, Fr h₀ L h' m → News h₀ L h' news → P a o → h'.get? a = some o) (hl : s.heap.IsList l vs.toArray) (hr : RowsV P vs R) (hw : Wds R) (h64 : R.length < 64) (hu : A.units ≤ 2000)
    (h : ∀ D c h' xs S, SortOf R S → RowsV P xs S → Fr h₀ L h' m → News h₀ L h' ((D, listOf xs.toArray c) :: news) → AllLt D news → Q (.ref D) { s with heap := h' }) :
    wpAny (model prog w) A (call (.builtin "sorted") [.ref l]) Q E s := by
  have hlen : vs.length = R.length := paired_length hr
  by_cases h2 : 2 ≤ vs.length
  · refine sorted_words (ws := R.map Row.word) F N hl (by rw [List.length_map]; exact hlen) h2 (by omega) hw (fun h F' N' v hv => ?_) (fun h' i j C F' N' hi hj hC => ?_) (fun D c h' p hp hup F' N' hD => ?_)
    · obtain ⟨i, hi, rfl⟩ := List.getElem_of_mem hv
      obtain ⟨a, e, ca, tu, lo, lc, lvs, lcs, c1, c2, a1, _⟩ := rows_at hr (i := i) (by omega)
      rw [List.getD_eq_getElem?_getD, List.getElem?_eq_getElem hi, Option.getD_some] at e
      exact ⟨a, _, _, e, hP _ _ _ F' N' a1⟩
    · obtain ⟨a, e, ha⟩ := rows_at hr (i := i) (by omega)
      obtain ⟨b, e', hb⟩ := rows_at hr (i := j) (by omega)
      unfold kas_ask
      rw [e, e']
      rw [words_getD, words_getD] at hC
      refine row_lt (ha.mono fun a o k => hP _ _ _ F' N' k) (hb.mono fun a o k => hP _ _ _ F' N' k) (by simp only [units_in1]; omega) ?_ hC
      by_cases hij : i = j
      · subst hij
        rw [e] at e'
        exact .inl ⟨by injection e', rfl⟩
      · exact .inr (wds_ne hw (by omega) (by omega) hij)
    · rw [hlen] at hp hup
      exact h D c h' _ _ (sortOf_perm hp hup) (rows_pick hr fun i hi => List.mem_range.mp (hp.mem_iff.mp hi)) F' N' hD
  · exact sorted_few F N hl (by omega) fun D c h' F' N' hD => h D c h' vs R (sortOf_few (by omega)) hr F' N' hD
end
theorem entry_unchain : entryFor table "proto.unchain" = some Builtin.«proto.unchain» := entryFor_of_tree (by kernel_rfl)
section
variable {prog : Program} {w : World} {K : Type} [DecidableEq K] {knd : PySem.KeyKind prog w K} {A : Around} {E : Value → Shared → Prop} {s : Shared}
/-- an exception raised while another one, of no context, is handled -/
theorem raiseNew_in {α : Type} {a e : Addr} {oa oe : Obj} {va ve : Array Value} {Q : α → Shared → Prop} (hh : A.handled = some (.ref e)) (hae : a ≠ e) (ha : s.heap.get? a = some oa) (hda : oa.data = .fields va) (hza : 2 < va.size)
    (he : s.heap.get? e = some oe) (hde : oe.data = .fields ve) (h2 : ve[2]? = some .none) (h : ∀ h', (∀ b o, b ≠ a → s.heap.get? b = some o → h'.get? b = some o) → (∃ o', h'.get? a = some o' ∧ o'.cls = oa.cls) → E (.ref a) { s with heap := h' }) :
    wpAny (model prog w) A (raiseNew (.ref a) : Sem α) Q E s := by
  unfold raiseNew
  refine wpAny_bind (wpAny_handled ?_)
  rw [hh]
  dsimp only
  rw [if_pos (show (Value.ref e != Value.ref a) = true from by simp; exact fun q => hae q.symm)]
  refine wpAny_bind (wpAny_holding (wpAny_runValue (codeAny_builtin entry_unchain ?_)))
  unfold Builtin.«proto.unchain»
  refine wpAny_bind (wpAny_field he hde h2 ?_)
  rw [if_pos (show (Value.none == Value.none) = true from rfl)]
  refine wpAny_pure ?_
  dsimp only
  unfold updateField
  refine wpAny_bind (wpAny_bind (wpAny_load ha ?_))
  rw [hda]
  dsimp only
  rw [if_pos hza]
  refine wpAny_update ha (wpAny_throw (h _ (fun b o hb q => (Heap.get?_update_other _ _ (Ne.symm hb)).trans q) ⟨_, Heap.get?_update_self _ ha (Obj.isFreed_of_fields (Obj.data_mapFields hda _)), Obj.cls_mapFields ..⟩))
theorem values_endH {it d e : Addr} {i ep : Nat} {kvs : List (K × Value)} {oe : Obj} {ve : Array Value} {Q : Option Value → Shared → Prop} (hh : A.handled = some (.ref e)) (hit : s.heap.IsValIter it d i kvs.length ep)
    (hm : s.heap.DictAt knd d kvs ep) (hx : kvs[i]? = none) (he : s.heap.get? e = some oe) (hde : oe.data = .fields ve) (h2 : ve[2]? = some .none) (hei : e ≠ it)
    (hQ : ∀ h', (∀ b o, b ≠ it → s.heap.get? b = some o → h'.get? b = some o) → Q none { s with heap := h' }) : wpAny (model prog w) A (pyNext (.ref it)) Q E s := by
  obtain ⟨o, ho, hc, hd⟩ := id hit
  obtain ⟨od, es, hod, hcd, hdd, hk, hp, hn⟩ := id hm
  have hsz : es.size = kvs.length := by rw [← hp.length]; simp
  have hge : es.size ≤ i := by rw [hsz]; simpa using hx
  have hown : Builtin.Dict_items.ownsTuple "dict_valueiterator" = false := by decide
  unfold pyNext
  refine wpAny_bind (wpAny_attempt (wpAny_callSpecial?_slot (name := Str.ofString "__next__") hit.typeIs F.slot_dict_valueiterator_next (wpAny_call_entry F.slot_dict_valueiterator_next hit.typeIs F.entry_dict_valueiterator_next ?_ (F.args_dict_valueiterator_next_1 _))))
  refine wpAny_bind (wpAny_pure (wpAny_bind (wpAny_bind ?_)))
  first | refine wpAny_bind (wpAny_typeNameOfWhole_valiter hit.typeIs (wpAny_pure ?_)) | refine wpAny_bind (wpAny_typeNameOf_valiter hit.typeIs (wpAny_pure ?_))
  refine wpAny_bind (wpAny_fieldsOf ho hd ?_)
  simp only [hown, Bool.false_eq_true, if_false]
  show wpAny _ _ (if (Value.ref d == Value.none) = true then _ else _) _ _ s
  rw [if_neg (show ¬ ((Value.ref d == Value.none) = true) from Bool.false_ne_true)]
  refine wpAny_bind (wpAny_pure (wpAny_bind (wpAny_dictEntries hod hdd ?_)))
  rw [if_neg (by rw [hsz]; simp)]
  refine wpAny_bind (wpAny_pure (wpAny_bind (wpAny_dictEpoch hod hdd ?_)))
  rw [if_neg (by simp)]
  refine wpAny_pure ?_
  simp only [show ¬ ((i : Int) < 0) from by omega, if_false, Int.toNat_natCast, Array.getElem?_eq_none hge]
  refine wpAny_bind ?_
  first | refine wpAny_bind (wpAny_typeNameOfWhole_valiter hit.typeIs (wpAny_pure ?_)) | refine wpAny_bind (wpAny_typeNameOf_valiter hit.typeIs (wpAny_pure ?_))
  show wpAny _ _ (setField (.ref it) 0 .none >>= _) _ _ s
  refine wpAny_bind (wpAny_setField ho hd (by simp) ?_)
  show wpAny _ _ (newExc (.type "StopIteration") [] >>= _) _ _ _
  refine wpAny_bind ?_
  simp only [newExc, newTuple]
  refine wpAny_bind (wpAny_newObj_type ?_ (by size_fits))
  refine wpAny_bind (m := firstArgMember _ _) (wpAny_of_eq (a := Value.none) (by first | rfl | (simp only [firstArgMember]; rfl)) ?_)
  refine wpAny_newObj_type ?_ (by size_fits)
  have k0 : ∀ b ob, b ≠ it → s.heap.get? b = some ob → (s.heap.update it (Obj.mapFields (·.setIfInBounds 0 Value.none))).get? b = some ob := fun b ob hb q => (Heap.get?_update_other _ _ (Ne.symm hb)).trans q
  refine raiseNew_in (A := A.in1) hh ?_ (Heap.get?_push_size _ rfl) rfl (by rw [Array.size_append]; show 2 < 6 + _; omega) (Heap.get?_push_of_some _ (Heap.get?_push_of_some _ (k0 _ _ hei he))) hde h2 fun h' hk' ho' => ?_
  · refine Nat.ne_of_gt (Heap.lt_size (Heap.get?_push_of_some _ (k0 _ _ hei he)))
  · obtain ⟨o', ho', hc'⟩ := ho'
    refine wpAny_bind (wpAny_isInstance (T := "StopIteration") (b := true) ⟨_, ho', hc'⟩ isSubtype_stop ?_)
    refine wpAny_pure (hQ _ fun b ob hb q => hk' _ _ (Nat.ne_of_lt ?_) (Heap.get?_push_of_some _ (Heap.get?_push_of_some _ (k0 _ _ hb q))))
    exact Heap.lt_size (Heap.get?_push_of_some _ (k0 _ _ hb q))
/-- the walk of a dict's values while an exception is handled -/
theorem valuesH {e : Addr} {oe : Obj} {ve : Array Value} (hh : A.handled = some (.ref e)) (I d : Addr) (hne : d ≠ I) (kvs : List (K × Value)) (ep : Nat) (hde : oe.data = .fields ve) (h2 : ve[2]? = some .none) (hei : e ≠ I) :
    Walks prog w A I [I, d, e] [I] kvs.length (fun i v => ∃ k, kvs[i]? = some (k, v)) (fun i h => h.IsValIter I d i kvs.length ep ∧ h.DictAt knd d kvs ep ∧ h.get? e = some oe) where
  sub := fun b hb => by simp at hb; simp [hb]
  frame := fun _ _ _ st hk => ⟨st.1.at fun o z => hk I (by simp) o z, st.2.1.at' fun o z => hk d (by simp) o z, hk e (by simp) _ st.2.2⟩
  item := fun i s Q E hi st hQ => by
    obtain ⟨⟨k, x⟩, hx⟩ : ∃ p, kvs[i]? = some p := ⟨kvs[i], by simp [hi]⟩
    refine wpAny_pyNext_values_item st.1 st.2.1 hx fun h' hit' hs' => ?_
    exact hQ x h' s.toks ⟨k, hx⟩ ⟨hit', st.2.1.extBut hs'.extBut hne, hs'.extBut e _ hei st.2.2⟩ fun b o hb z => hs'.extBut b o (fun q => hb (by simp [q])) z
  done := fun s Q E st hQ => values_endH hh st.1 st.2.1 (by simp) st.2.2 hde h2 hei fun h' he' => hQ h' s.toks fun b o hb z => he' b o (fun q => hb (by simp [q])) z
  self := fun _ _ _ _ st hQ => wpAny_pyIter_valiter st.1 hQ
end
/-- no exception is handled, or one of no context that stands in V -/
def HandOk (A : Around) (V : Heap) : Prop := A.handled = none ∨ ∃ e oe ve, A.handled = some (.ref e) ∧ V.get? e = some oe ∧ oe.data = .fields ve ∧ ve[2]? = some .none
theorem HandOk.grow {A : Around} {V V' : Heap} (h : HandOk A V) (g : Grow V V') : HandOk A V' := h.imp id fun ⟨e, oe, ve, h1, h2, h3⟩ => ⟨e, oe, ve, h1, g _ _ h2, h3⟩
/-! a comprehension that makes objects, over any walk -/
section
variable {prog : Program} {w : World} {A : Around} {env : Env} {E : Value → Shared → Prop} {s₁ : Shared}
theorem comp_objs {elt : PySem.Expr} {x : Str} {scope : Scope} {cl : List (Str × Addr)} {Q : Value → Shared → Prop} {I : Addr} {fp wr : List Addr} {n : Nat} {P : Nat → Value → Prop} {St : Nat → Heap → Prop} {H₂ : Heap}
    (Φ : Nat → List Value → List (Addr × Obj) → Prop) (W : Walks prog w A I fp wr n P St) (hex : ∀ i h, St i h → ∀ b ∈ fp, ∃ o, h.get? b = some o) (hz : n ≤ 1000) (hst : St 0 H₂) (hG : Grow s₁.heap H₂) (hwr : ∀ b o, s₁.heap.get? b = some o → b ∉ wr) (h0 : Φ 0 [] [])
    (helt : ∀ (G : Heap) (C : Addr) (i : Nat) (v : Value) (ys : List Value) (objs own : List (Addr × Obj)) (h₃ : Heap) (tk₃ : Nat) (m₃ : Str → Option Value), i < n → P i v → ys.length = i → Φ i ys objs → Grow s₁.heap G → Off objs own →
        Fr G C h₃ (fun y => if y = x then some v else m₃ y) → News G C h₃ (objs ++ own) →
        wpAny (model prog w) A (eval elt (compEnvC scope cl C env)) (fun y s₄ => ∃ h₄ tk₄ m₄ objs', s₄ = { s₁ with heap := h₄, toks := tk₄ } ∧ Fr G C h₄ m₄ ∧ News G C h₄ (objs' ++ own) ∧ Off objs' own ∧ Φ (i + 1) (ys ++ [y]) objs')
          (fun _ _ => False) { s₁ with heap := h₃, toks := tk₃ })
    (done : ∀ D c h' tk ys objs, Φ n ys objs → ys.length = n → Above s₁.heap D → h'.get? D = some (listOf ys.toArray c) → (∀ p ∈ objs, h'.get? p.1 = some p.2 ∧ p.1 ≠ D) → Grow s₁.heap h' → Q (.ref D) { s₁ with heap := h', toks := tk }) :
    CompAt prog w A env scope cl x elt Q (.ref I) { s₁ with heap := H₂ } := by
  refine ⟨I, fp, wr, n, P, St, [], Φ, rfl, W, (by rw [sizeLine_eq]; omega), hst, hex, (fun _ h => nomatch h), h0, ?_, ?_⟩
  · intro G C i v ys objs own h₃ tk₃ m₃ hi hv hlen hΦ hG1 hG2 hoff F N hC
    exact wpAny_mono (helt G C i v ys objs own h₃ tk₃ m₃ hi hv hlen hΦ (fun b o e => hG1 b o (hG b o e) (fun q => nomatch q) (hwr b o e)) hoff F N) (fun y s₄ h₄ => h₄) fun _ _ e => e
  · intro D c h' tk ys objs hΦ hlen ha ho hob hk
    exact done D c h' tk ys objs hΦ hlen (fun b o e => ha b o (hG b o e)) ho hob fun b o e => hk b o (hG b o e) (fun q => nomatch q) (hwr b o e)
variable {K : Type} [DecidableEq K] {knd : KeyKind prog w K}
theorem comp_vals {elt : PySem.Expr} {x : Str} {scope : Scope} {cl : List (Str × Addr)} {Q : Value → Shared → Prop} {v D : Addr} {o : Obj} {kvs : List (K × Value)} (Φ : Nat → List Value → List (Addr × Obj) → Prop)
    (hh : HandOk A s₁.heap) (hv : s₁.heap.get? v = some { cls := .type "dict_values", data := .fields #[.ref D] }) (hD : s₁.heap.get? D = some o) (hdo : o.IsDictOf knd kvs) (hz : kvs.length ≤ 1000) (h0 : Φ 0 [] [])
    (helt : ∀ (G : Heap) (C : Addr) (i : Nat) (k : K) (v : Value) (ys : List Value) (objs own : List (Addr × Obj)) (h₃ : Heap) (tk₃ : Nat) (m₃ : Str → Option Value), kvs[i]? = some (k, v) → ys.length = i → Φ i ys objs → Grow s₁.heap G → Off objs own →
        Fr G C h₃ (fun y => if y = x then some v else m₃ y) → News G C h₃ (objs ++ own) →
        wpAny (model prog w) A (eval elt (compEnvC scope cl C env)) (fun y s₄ => ∃ h₄ tk₄ m₄ objs', s₄ = { s₁ with heap := h₄, toks := tk₄ } ∧ Fr G C h₄ m₄ ∧ News G C h₄ (objs' ++ own) ∧ Off objs' own ∧ Φ (i + 1) (ys ++ [y]) objs')
          (fun _ _ => False) { s₁ with heap := h₃, toks := tk₃ })
    (done : ∀ D' c h' tk ys objs, Φ kvs.length ys objs → ys.length = kvs.length → Above s₁.heap D' → h'.get? D' = some (listOf ys.toArray c) → (∀ p ∈ objs, h'.get? p.1 = some p.2 ∧ p.1 ≠ D') → Grow s₁.heap h' → Q (.ref D') { s₁ with heap := h', toks := tk }) :
    wpAny (model prog w) A (pyIter (.ref v)) (CompAt prog w A env scope cl x elt Q) E s₁ := by
  obtain ⟨es, ep, q⟩ := hdo
  have hm : s₁.heap.DictAt knd D kvs ep := ⟨o, es, hD, q⟩
  have hsm : ∀ b o, s₁.heap.get? b = some o → b ∉ [s₁.heap.objs.size] := fun b o e q => by
    rw [List.mem_singleton.mp q] at e; exact Nat.lt_irrefl _ (Heap.lt_size e)
  refine wpAny_pyIter_values ⟨_, hv, rfl, rfl⟩ hm ?_
  rcases hh with hh | ⟨e, oe, ve, hh, he, hde, h2⟩
  · refine comp_objs Φ (Walks.dictValues hh s₁.heap.objs.size D (Nat.ne_of_lt (Heap.lt_size hD)) kvs ep) ?_ hz ⟨⟨_, Heap.get?_push_size _ rfl, rfl, rfl⟩, hm.at' fun o e => Heap.get?_push_of_some _ e⟩ (fun b o e => Heap.get?_push_of_some _ e) hsm h0 ?_ done
    · rintro i h ⟨⟨o, ho, _⟩, ⟨o', _, ho', _⟩⟩ b hb
      rcases List.mem_cons.mp hb with rfl | hb
      · exact ⟨o, ho⟩
      · rw [List.mem_singleton.mp hb]; exact ⟨o', ho'⟩
    · rintro G C i v ys objs own h₃ tk₃ m₃ hi ⟨k, hk⟩ hlen hΦ hG hoff F N
      exact helt G C i k v ys objs own h₃ tk₃ m₃ hk hlen hΦ hG hoff F N
  · refine comp_objs Φ (valuesH hh s₁.heap.objs.size D (Nat.ne_of_lt (Heap.lt_size hD)) kvs ep hde h2 (Nat.ne_of_lt (Heap.lt_size he))) ?_ hz ⟨⟨_, Heap.get?_push_size _ rfl, rfl, rfl⟩, hm.at' fun o e => Heap.get?_push_of_some _ e, Heap.get?_push_of_some _ he⟩ (fun b o e => Heap.get?_push_of_some _ e) hsm h0 ?_ done
    · rintro i h ⟨⟨o, ho, _⟩, ⟨o', _, ho', _⟩, he'⟩ b hb
      rcases List.mem_cons.mp hb with rfl | hb
      · exact ⟨o, ho⟩
      rcases List.mem_cons.mp hb with rfl | hb
      · exact ⟨o', ho'⟩
      · rw [List.mem_singleton.mp hb]; exact ⟨_, he'⟩
    · rintro G C i v ys objs own h₃ tk₃ m₃ hi ⟨k, hk⟩ hlen hΦ hG hoff F N
      exact helt G C i k v ys objs own h₃ tk₃ m₃ hk hlen hΦ hG hoff F N
theorem comp_keys {elt : PySem.Expr} {x : Str} {scope : Scope} {cl : List (Str × Addr)} {Q : Value → Shared → Prop} {D : Addr} {o : Obj} {kvs : List (K × Value)} (Φ : Nat → List Value → List (Addr × Obj) → Prop)
    (hh : A.handled = none) (lo : (D == sysModules) = false) (hD : s₁.heap.get? D = some o) (hdo : o.IsDictOf knd kvs) (hz : kvs.length ≤ 1000) (h0 : Φ 0 [] [])
    (helt : ∀ (G : Heap) (C : Addr) (i : Nat) (k : K) (kv v : Value) (ys : List Value) (objs own : List (Addr × Obj)) (h₃ : Heap) (tk₃ : Nat) (m₃ : Str → Option Value), kvs[i]? = some (k, v) → knd.is k kv = true → ys.length = i → Φ i ys objs → Grow s₁.heap G → Off objs own →
        Fr G C h₃ (fun y => if y = x then some kv else m₃ y) → News G C h₃ (objs ++ own) →
        wpAny (model prog w) A (eval elt (compEnvC scope cl C env)) (fun y s₄ => ∃ h₄ tk₄ m₄ objs', s₄ = { s₁ with heap := h₄, toks := tk₄ } ∧ Fr G C h₄ m₄ ∧ News G C h₄ (objs' ++ own) ∧ Off objs' own ∧ Φ (i + 1) (ys ++ [y]) objs')
          (fun _ _ => False) { s₁ with heap := h₃, toks := tk₃ })
    (done : ∀ D' c h' tk ys objs, Φ kvs.length ys objs → ys.length = kvs.length → Above s₁.heap D' → h'.get? D' = some (listOf ys.toArray c) → (∀ p ∈ objs, h'.get? p.1 = some p.2 ∧ p.1 ≠ D') → Grow s₁.heap h' → Q (.ref D') { s₁ with heap := h', toks := tk }) :
    wpAny (model prog w) A (pyIter (.ref D)) (CompAt prog w A env scope cl x elt Q) E s₁ := by
  obtain ⟨es, ep, q⟩ := hdo
  have hm : s₁.heap.DictAt knd D kvs ep := ⟨o, es, hD, q⟩
  have hsm : ∀ b o, s₁.heap.get? b = some o → b ∉ [s₁.heap.objs.size] := fun b o e q => by
    rw [List.mem_singleton.mp q] at e; exact Nat.lt_irrefl _ (Heap.lt_size e)
  refine wpAny_pyIter_dict lo hm ?_
  refine comp_objs Φ (Walks.dictKeys hh s₁.heap.objs.size D (Nat.ne_of_lt (Heap.lt_size hD)) kvs ep) ?_ hz ⟨⟨_, Heap.get?_push_size _ rfl, rfl, rfl⟩, hm.at' fun o e => Heap.get?_push_of_some _ e⟩ (fun b o e => Heap.get?_push_of_some _ e) hsm h0 ?_ done
  · rintro i h ⟨⟨o, ho, _⟩, ⟨o', _, ho', _⟩⟩ b hb
    rcases List.mem_cons.mp hb with rfl | hb
    · exact ⟨o, ho⟩
    · rw [List.mem_singleton.mp hb]; exact ⟨o', ho'⟩
  · rintro G C i v ys objs own h₃ tk₃ m₃ hi ⟨k, y, hk, hkv⟩ hlen hΦ hG hoff F N
    exact helt G C i k v y ys objs own h₃ tk₃ m₃ hk hkv hlen hΦ hG hoff F N
end
/-! an object of the base is told on the ledger -/
theorem fr_hide {G h : Heap} {C : Addr} {m : Str → Option Value} {own : List (Addr × Obj)} {D : Addr} {o : Obj} (F : Fr G C h m) (N : News G C h own) (hD : G.get? D = some o) : Fr (hideAll G [D]) C h m ∧ News (hideAll G [D]) C h ((D, o) :: own) := by
  refine ⟨⟨F.ns, fun b ob e => F.keep _ _ (of_hideAll _ e), Nat.le_trans (Nat.le_of_eq (hideAll_size _ _)) F.above⟩, fun p hp => ?_⟩
  rcases List.mem_cons.mp hp with rfl | hp
  · exact ⟨F.keep _ _ hD, Nat.ne_of_lt (Nat.lt_of_lt_of_le (Heap.lt_size hD) F.above), hideAll_none _ (List.mem_singleton.mpr rfl)⟩
  · have z := N p hp
    refine ⟨z.1, z.2.1, ?_⟩
    cases e : (hideAll G [D]).get? p.1 with
    | none => rfl
    | some ob => have := of_hideAll _ e; rw [z.2.2] at this; cases this
theorem fr_show {G h : Heap} {C : Addr} {m : Str → Option Value} {D : Addr} {o : Obj} (F : Fr (hideAll G [D]) C h m) (hD : G.get? D = some o) (e : h.get? D = some o) : Fr G C h m :=
  ⟨F.ns, fun b ob q => by
    by_cases z : b = D
    · subst z; rw [hD] at q; cases q; exact e
    · exact F.keep _ _ (hideAll_get _ q (by simpa using z)), Nat.le_trans (Nat.le_of_eq (hideAll_size _ _).symm) F.above⟩
theorem news_show {G h : Heap} {C : Addr} {own : List (Addr × Obj)} {D : Addr} {o : Obj} (N : News (hideAll G [D]) C h own) (hn : ∀ p ∈ own, p.1 ≠ D) : News G C h own := fun p hp => by
  have z := N p hp
  refine ⟨z.1, z.2.1, ?_⟩
  cases e : G.get? p.1 with
  | none => rfl
  | some ob => have := hideAll_get [D] e (by simpa using hn p hp); rw [z.2.2] at this; cases this
/-- a table's dict bears its entries -/
def Ents (w : World) (h : Heap) (kvs : List (Str × Value)) (R : List Row) : Prop := Bears keyOf (fun v r => ∃ ex ed, v = .ref ex ∧ EntryV w (HV h) ed ex r) kvs R
theorem Ents.grow {w : World} {h h' : Heap} {kvs : List (Str × Value)} {R : List Row} (e : Ents w h kvs R) (g : Grow h h') : Ents w h' kvs R :=
  e.imp fun v r ⟨ex, ed, q, k⟩ => ⟨ex, ed, q, k.mono fun a o z => g a o z⟩
theorem lawrows_spec {w : World} {A : Around} {E : Value → Shared → Prop} {s : Shared} {V : Heap} {mg mb : Str → Option Value} {mean : ExcName → Option Value} {Q : Value → Shared → Prop}
    {t D : Addr} {o : Obj} {kvs : List (Str × Value)} {R : List Row}
    (hV : Grow V s.heap) (X₀ : (hd.heap_1 w.params).In V) (T : Top headView (looseW headView [Str.ofString "EXACT"]) mean mg mb V)
    (hD : A.depth ≤ 580) (hU : A.units ≤ 1800) (hh : HandOk A V) (ht : TabHere w V t D) (hDs : s.heap.get? D = some o) (hDV : V.get? D = none) (hdo : o.IsDictOf (SK w) kvs) (lo : (D == sysModules) = false) (hE : Ents w V kvs R) (hw : Wds R) (hk : R.length < 64)
    (hfin : Hold (∀ D' xs c es S h' tk', SortOf R S → RowsV (Kn V es) xs S → Grow s.heap h' → (∀ p ∈ (D', listOf xs.toArray c) :: es, s.heap.get? p.1 = none ∧ h'.get? p.1 = some p.2) → Q (.ref D') { s with heap := h', toks := tk' })) :
    wpAny (model PySem.Challenge.rw_ok0052_01.row.prog w) A (call (.ref 238) [.ref t]) Q E s := by
  revert X₀; k_fill; intro X₀
  refine wpAny_call ?_
  refine' enterNR [(D, o)] [("table", .ref t)] hV X₀ T (fun p hp => by rw [List.mem_singleton.mp hp]; exact ⟨hDs, hDV⟩) ?k6 ?k7 ?k8 ?k9 ?kB ?_ ?c2 ?c3 ?c4 ?c5
  walk_at "ENTER"
  intro g L' h₁ hg hL F' N' X' T'
  try dsimp only
  have hVg : Grow V g := grow_hide hV hDV hg
  obtain ⟨td, nm, tn, p, t1, t2, t3, t4, n, ht1, ht2⟩ := (ht.grow hVg).ex
  walk_at "S"
  walk_at "COMP"
  rename Fr _ _ _ _ => F₀
  rename News _ _ _ _ => N₀
  rename (_ < _) => l1
  rename Heap => H
  have hkl : kvs.length = R.length := paired_length hE
  refine comp_vals (fun i ys objs => RowsV (Kn V objs) ys (R.take i) ∧ ∀ p ∈ objs, H.get? p.1 = none) (hh.grow fun b o e => F₀.keep _ _ (hVg _ _ e)) (N₀.get (.head _)) (N₀.get (.tail _ (.head _))) hdo (by omega) ⟨.nil, fun _ h => nomatch h⟩ ?_ ?_
  · rintro G C i k v ys objs own h₃ tk₃ m₃ hkv hlen ⟨hR, hfr⟩ hG hoff F₃ N₃
    obtain ⟨r, hr, hk1, ex, ed, rfl, lo', lc', lvs, lcs, u1, u2, u3, u4, u5, c1, c2, e1, e2, e3, e4, i1, i2⟩ := paired_at hE hkv
    have X₃ : (hd.heap_1 w.params).In G := X'.keeps (fun b o e => hG b o (F₀.keep b o e))
    have T₃ := T'.keeps (fun b o e => hG b o (F₀.keep b o e))
    have gx : ∀ b ob, V.get? b = some ob → G.get? b = some ob := fun b ob e => hG _ _ (F₀.keep _ _ (hVg _ _ e))
    have e1' := gx _ _ e1
    have e2' := gx _ _ e2
    clear F₀ N₀ X' T'
    walk_at "S"
    rename Fr _ _ _ _ => F₄
    rename News _ _ _ _ => N₄
    rename (∀ p : Addr × Obj, p ∈ objs ++ own → @LT.lt Nat _ p.1 _) => lt
    have hfl := N₄.fresh (.head _)
    refine ⟨_, _, _, (_, _) :: objs, rfl, F₄, N₄, Off.cons (fun q hq => Nat.ne_of_gt (lt q (List.mem_append_right _ hq))) hoff, ?_, ?_⟩
    · rw [List.take_add_one, hr]
      exact Paired.snoc (hR.mono fun a o z => z.imp id (.tail _)) ⟨_, rfl, 0, u5, lo', lc', lvs, lcs, c1, c2, .inr (.head _), .inl e3, .inl e4, i1, i2⟩
    · intro p hp
      rcases List.mem_cons.mp hp with rfl | hp
      · cases e : H.get? _ with
        | none => rfl
        | some ob => have := hG _ _ e; rw [hfl] at this; cases this
      · exact hfr p hp
  · rintro D' c h' tk ys objs ⟨hR, hfr⟩ hlen ha ho hob hG
    rw [List.take_of_length_le (by omega)] at hR
    obtain ⟨F₁, N₁, O₁⟩ := led_many (es := (D', listOf ys.toArray c) :: objs) F₀ N₀ hG (fun q hq => by
      rcases List.mem_cons.mp hq with rfl | hq
      · exact ⟨Above.none ha, ho⟩
      · exact ⟨hfr q hq, (hob q hq).1⟩)
    clear F₀ N₀
    simp only [List.cons_append] at N₁
    walk_at "S"
    refine sorted_rows F₁ N₁ (fun h' a o F N k => k.elim (fun e => F.keep _ _ (hVg _ _ e)) fun q => N.get (.tail _ (List.mem_append_left _ q))) ⟨_, N₁.get (.head _), rfl, _, rfl⟩ hR hw hk (by walk_at "DU") ?_
    intro D2 c2 h2 xs S hS hx F₂ N₂ l2
    refine hfin D2 xs c2 objs S _ _ hS hx (grow_but hg hDs F₂ (N₂.get (.tail _ (.tail _ (List.mem_append_right _ (.tail _ (.head _))))))) fun p hp => ?_
    have N₃ : News g L' h2 ((D2, listOf xs.toArray c2) :: objs) := news_sub N₂ fun p hp => by
      rcases List.mem_cons.mp hp with rfl | hp
      · exact .head _
      · exact .tail _ (.tail _ (List.mem_append_left _ hp))
    refine ⟨fresh_back hg (N₃.fresh hp) fun z => ?_, N₃.get hp⟩
    have z' : p.1 = D := List.mem_singleton.mp z
    rcases List.mem_cons.mp hp with rfl | hp
    · have := allLt_mem l2 (D, o) (.tail _ (List.mem_append_right _ (.tail _ (.head _))))
      rw [← z'] at this
      exact Nat.lt_irrefl _ this
    · exact O₁ p (.tail _ hp) (D, o) (.tail _ (.head _)) z'
/-- an entry that the base knows -/
def EntP (w : World) (V : Heap) (v : Value) (r : Row) : Prop := ∃ ex ed, v = .ref ex ∧ EntryV w (HV V) ed ex r
def WordP (V : Heap) (k : Value) (r : Row) : Prop := ∃ a lvs c, k = .ref a ∧ V.get? a = some (listOf (List.toArray lvs) c) ∧ IntsAre lvs r.word
/-- an entry and its word -/
inductive KeyP (w : World) (V : Heap) (v k : Value) : Prop
  | mk (ex ed lo : Addr) (u1 u2 u3 u4 : Tok) (v2 v3 v4 : Value) (h1 : v = .ref ex) (h2 : k = .ref lo) (h3 : V.get? ex = some (instObj 43 ed)) (h4 : V.get? ed = some (dictOf [fld w "word" u1 (.ref lo), fld w "codes" u2 v2, fld w "is_exact" u3 v3, fld w "used" u4 v4] 4))
theorem paired_mono {α β : Type} {R R' : α → β → Prop} {xs : List α} {ys : List β} (h : Paired R xs ys) (hr : ∀ x y, R x y → R' x y) : Paired R' xs ys := by
  induction h with
  | nil => exact .nil
  | cons e _ ih => exact .cons (hr _ _ e) ih
theorem ent_keys {w : World} {V : Heap} {vs : List Value} {R : List Row} (h : Paired (EntP w V) vs R) : ∃ ks, Paired (KeyP w V) vs ks ∧ Paired (WordP V) ks R := by
  induction h with
  | nil => exact ⟨[], .nil, .nil⟩
  | cons e _ ih =>
    obtain ⟨ks, h1, h2⟩ := ih
    obtain ⟨ex, ed, rfl, lo, lc, lvs, lcs, u1, u2, u3, u4, u5, c1, c2, e1, e2, e3, e4, i1, i2⟩ := e
    exact ⟨.ref lo :: ks, .cons ⟨ex, ed, lo, u1, u2, u3, u4, _, _, _, rfl, rfl, e1, e2⟩ h1, .cons ⟨lo, lvs, c1, rfl, e3, i1⟩ h2⟩
theorem paired_getD {Rr : Value → Row → Prop} {vs : List Value} {R : List Row} (h : Paired Rr vs R) {i : Nat} (hi : i < R.length) : Rr (vs.getD i .none) (R.getD i row0) := by
  induction h generalizing i with
  | nil => exact absurd hi (Nat.not_lt_zero _)
  | cons e _ ih =>
    cases i with
    | zero => exact e
    | succ i => exact ih (i := i) (by simpa using hi)
theorem paired_pick {Rr : Value → Row → Prop} {vs : List Value} {R : List Row} (h : Paired Rr vs R) : ∀ {p : List Nat}, (∀ i ∈ p, i < R.length) → Paired Rr (p.map fun i => vs.getD i Value.none) (p.map fun i => R.getD i row0) := by
  intro p
  induction p with
  | nil => intro _; exact .nil
  | cons i p ih => intro hp; exact .cons (paired_getD h (hp i (.head _))) (ih fun j hj => hp j (.tail _ hj))
theorem word_call {w : World} {A : Around} {E : Value → Shared → Prop} {s : Shared} {h₀ : Heap} {L : Addr} {m mg mb : Str → Option Value} {mean : ExcName → Option Value} {news : List (Addr × Obj)} {Q : Value → Shared → Prop} {v k : Value}
    (F : Fr h₀ L s.heap m) (N : News h₀ L s.heap news) (X₀ : (hd.heap_1 w.params).In h₀) (T : Top headView (looseW headView [Str.ofString "EXACT"]) mean mg mb h₀)
    (hD : A.depth ≤ 600) (hU : A.units ≤ 2000) (hh : A.handled = none) (hk : KeyP w h₀ v k) (h : ∀ h' tk', Fr h₀ L h' m → News h₀ L h' news → Q k { s with heap := h', toks := tk' }) :
    wpAny (model PySem.Challenge.rw_ok0052_01.row.prog w) A (call (.ref 127) [v]) Q E s := by
  obtain ⟨ex, ed, lo, u1, u2, u3, u4, v2, v3, v4, rfl, rfl, e1, e2⟩ := hk
  exact word_spec F.keep X₀ T hD hU hh (F.keep _ _ e1) (F.keep _ _ e2) fun h' tk' G => h h' tk' (F.keeps G) (News.grown N G)
theorem sorted_entries {w : World} {A : Around} {E : Value → Shared → Prop} {s : Shared} {h₀ : Heap} {L : Addr} {m mg mb : Str → Option Value} {mean : ExcName → Option Value} {news : List (Addr × Obj)} {Q : Value → Shared → Prop} {l : Addr} {vs : List Value} {R : List Row}
    (F : Fr h₀ L s.heap m) (N : News h₀ L s.heap news) (X₀ : (hd.heap_1 w.params).In h₀) (T : Top headView (looseW headView [Str.ofString "EXACT"]) mean mg mb h₀)
    (hD : A.depth ≤ 590) (hU : A.units ≤ 1900) (hh : A.handled = none) (hl : s.heap.IsList l vs.toArray) (hE : Paired (EntP w h₀) vs R) (hw : Wds R) (h64 : R.length < 64)
    (h : ∀ D c h' tk news' xs S, SortOf R S → Paired (EntP w h₀) xs S → Fr h₀ L h' m → News h₀ L h' ((D, listOf xs.toArray c) :: (news' ++ news)) → (∀ q ∈ news' ++ news, q.1 ≠ D) → Q (.ref D) { s with heap := h', toks := tk }) :
    wpAny (model PySem.Challenge.rw_ok0052_01.row.prog w) A (call (.builtin "sorted") [.ref l] [(Str.ofString "key", .ref 127)]) Q E s := by
  have hlen : vs.length = R.length := paired_length hE
  obtain ⟨ks, hk1, hk2⟩ := ent_keys hE
  have hD' : A.in1.in1.depth ≤ 600 := by simp only [depth_in1]; omega
  have hU' : A.in1.in1.units ≤ 2000 := by simp only [units_in1]; omega
  by_cases h2 : 2 ≤ vs.length
  · refine sorted_keyed (ws := R.map Row.word) (KeyP w h₀) hk1 F N hl (by rw [List.length_map]; exact hlen) h2 (by omega) hw (fun v k news' h' tk Q' hv F' N' hq => ?_) (fun k hk => ?_) (fun h' tk i j C F' hi hj hC => ?_) (fun D c h' tk news' p hp hup F' N' hD => ?_)
    · exact word_call F' N' X₀ T hD' hU' hh hv hq
    · obtain ⟨i, hi, rfl⟩ := List.getElem_of_mem hk
      obtain ⟨a, lvs, c, e, e1, _⟩ := paired_getD hk2 (i := i) (by rw [← paired_length hk2]; exact hi)
      rw [List.getD_eq_getElem?_getD, List.getElem?_eq_getElem hi, Option.getD_some] at e
      exact ⟨a, _, _, e, e1⟩
    · obtain ⟨a, lvs, c, e, e1, i1⟩ := paired_getD hk2 (i := i) (by omega)
      obtain ⟨b, lvs', c', e', e1', i1'⟩ := paired_getD hk2 (i := j) (by omega)
      unfold kas_ask
      rw [e, e']
      rw [words_getD, words_getD] at hC
      obtain ⟨k, k1, k2⟩ := ints_ltEnd (A := A.in1.in1.in1) (s := { s with heap := h', toks := tk }) i1 i1'
      exact oneLt_lists (F'.keep _ _ e1) (F'.keep _ _ e1') (by have : cLine = 9900 := rfl; omega) k1 k2 hC
    · rw [hlen] at hp hup
      exact h D c h' tk news' _ _ (sortOf_perm hp hup) (paired_pick hE fun i hi => List.mem_range.mp (hp.mem_iff.mp hi)) F' N' hD
  · refine sorted_keyed_few F N hl (by omega) (fun v news' h' tk Q' hv F' N' hq => ?_) (fun D c h' tk news' F' N' hD => h D c h' tk news' vs R (sortOf_few (by omega)) hE F' N' hD)
    obtain ⟨i, hi, rfl⟩ := List.getElem_of_mem hv
    have : ∃ k, KeyP w h₀ vs[i] k := by
      obtain ⟨ex, ed, e, lo, lc, lvs, lcs, u1, u2, u3, u4, u5, c1, c2, e1, e2, e3, e4, i1, i2⟩ := paired_getD hE (i := i) (by omega)
      rw [List.getD_eq_getElem?_getD, List.getElem?_eq_getElem hi, Option.getD_some] at e
      exact ⟨.ref lo, ex, ed, lo, u1, u2, u3, u4, _, _, _, e, rfl, e1, e2⟩
    obtain ⟨k, hk⟩ := this
    exact word_call F' N' X₀ T hD' hU' hh hk fun h'' tk' F'' N'' => hq k h'' tk' F'' N''
theorem value_at {K : Type} [DecidableEq K] {kvs : List (K × Value)} (hn : (kvs.map (·.1)).Nodup) {i : Nat} {k : K} {v : Value} (h : kvs[i]? = some (k, v)) : valueAt kvs k = some v := by
  induction kvs generalizing i with
  | nil => simp at h
  | cons p r ih =>
    rw [List.map_cons, List.nodup_cons] at hn
    unfold valueAt
    rw [List.find?_cons]
    cases i with
    | zero =>
      have e : p = (k, v) := by simpa using h
      subst e
      simp
    | succ i =>
      have h' : r[i]? = some (k, v) := by simpa using h
      have hm : k ∈ r.map (·.1) := List.mem_map.mpr ⟨(k, v), List.mem_of_getElem? h', rfl⟩
      rw [decide_eq_false (fun e : p.1 = k => hn.1 (by rw [e]; exact hm))]
      exact ih hn.2 h'
theorem writ_len {r : Row} (h1 : r.word.length ≤ 100) (h2 : r.codes.length ≤ 100) (h3 : 0 ≤ r.used ∧ r.used ≤ 10000) : (writ r).length ≤ 420 := by
  have q1 := quote_len r.word
  have q2 := quote_len r.codes
  have q3 : (dig r.used).length ≤ 6 := by unfold dig; rw [List.length_map]; exact txt_len h3
  unfold writ
  cases r.exact <;> simp only [List.length_append, List.length_cons, List.length_nil, if_true, if_false, Bool.false_eq_true] <;> omega
theorem flat_writ_len {B : Nat} : ∀ {S : List Row}, (∀ r ∈ S, (writ r).length ≤ B) → (S.flatMap writ).length ≤ B * S.length := by
  intro S
  induction S with
  | nil => intro _; simp
  | cons r S ih =>
    intro h
    have h1 := h r (.head _)
    have h2 := ih fun q hq => h q (.tail _ hq)
    rw [List.flatMap_cons, List.length_append, List.length_cons, Nat.mul_succ]
    omega
theorem flat_rows_take {S : List Row} {i : Nat} {r : Row} (h : S[i]? = some r) : (S.take (i + 1)).flatMap writ = (S.take i).flatMap writ ++ writ r := by
  rw [List.take_add_one, h]; simp
section
theorem etext_kept {w : World} {A : Around} {E : Value → Shared → Prop} {s : Shared} {V : Heap} {L : Addr} {m mg mb : Str → Option Value} {mean : ExcName → Option Value} {Q : Value → Shared → Prop}
    {ex ed : Addr} {r : Row}
    (F : Fr V L s.heap m) (X₀ : (hd.heap_1 w.params).In V) (T : Top headView (looseW headView [Str.ofString "EXACT"]) mean mg mb V)
    (hD : A.depth ≤ 580) (hU : A.units ≤ 1800) (hh : A.handled = none) (hE : EntryV w (HV V) ed ex r) (hz1 : r.word.length ≤ 100) (hz2 : r.codes.length ≤ 100) (hu : 0 ≤ r.used ∧ r.used ≤ 10000)
    (hfin : ∀ a vs' c h' tk', IntsAre vs' (writ r) → Grow s.heap h' → s.heap.get? a = none → h'.get? a = some (listOf vs'.toArray c) → Q (.ref a) { s with heap := h', toks := tk' }) :
    wpAny (model PySem.Challenge.rw_ok0052_01.row.prog w) A (call (.ref 120) [.ref ex]) Q E s :=
  etext_spec F.keep X₀ T hD hU hh (hE.mono F.keep) hz1 hz2 hu hfin
local macro_rules | `(tactic| walk_at "call ref") => ln_line "call Value.ref=120 _ _" true ``etext_kept "F X T d u hh e z1 z2 n _" "FX5 hh:a e:a z1:a z2:a n:a" "@FRESHED" [`(tactic| ((rename IntsAre _ (writ _) => iw'); (have lw' := iw'.length)))]
theorem ttext_spec {w : World} {A : Around} {E : Value → Shared → Prop} {s : Shared} {V : Heap} {mg mb : Str → Option Value} {mean : ExcName → Option Value} {Q : Value → Shared → Prop}
    {t D : Addr} {o : Obj} {kvs : List (Str × Value)} {R : List Row}
    (hV : Grow V s.heap) (X₀ : (hd.heap_1 w.params).In V) (T : Top headView (looseW headView [Str.ofString "EXACT"]) mean mg mb V)
    (hD : A.depth ≤ 570) (hU : A.units ≤ 1700) (hh : A.handled = none) (ht : TabHere w V t D) (hDs : s.heap.get? D = some o) (hDV : V.get? D = none) (hdo : o.IsDictOf (SK w) kvs) (lo : (D == sysModules) = false) (hE : Ents w V kvs R) (hw : Wds R) (hk : R.length < 20)
    (hR : ∀ r ∈ R, r.word.length ≤ 100 ∧ r.codes.length ≤ 100 ∧ 0 ≤ r.used ∧ r.used ≤ 10000)
    (hfin : Hold (∀ a vs' c S h' tk', SortOf R S → IntsAre vs' (S.flatMap writ) → Grow s.heap h' → s.heap.get? a = none → h'.get? a = some (listOf vs'.toArray c) → Q (.ref a) { s with heap := h', toks := tk' })) :
    wpAny (model PySem.Challenge.rw_ok0052_01.row.prog w) A (call (.ref 132) [.ref t]) Q E s := by
  revert X₀; k_fill; intro X₀
  refine wpAny_call ?_
  refine' enterNRC [(D, o)] [("table", .ref t)] hV X₀ T (fun p hp => by rw [List.mem_singleton.mp hp]; exact ⟨hDs, hDV⟩) ?k6 ?k7 ?k8 ?k9 ?kB ?kD ?_ ?c2 ?c3 ?c4
  case k6 => k_is
  case k7 => k_is
  case k8 => (simp only [recursionLimit]; omega)
  case k9 => exact BindsTo.of_eq rfl
  case kB => exact rfl
  case kD => decide +kernel
  case c2 => exact rfl
  case c3 => exact rfl
  case c4 => exact rfl
  intro g L' h₁ tk cells hg hL F' N' Y' X' T' hoff
  k_cells Y'
  rename _ = Data.cell (bindC _ _ _ _) => d2
  replace d2 : _ = Data.cell (some (Value.ref t)) := d2
  simp only [List.cons_append, List.nil_append] at N'
  have e1 : L' + 1 ≠ D := hoff _ (.head _) _ (.head _)
  try dsimp only
  have hVg : Grow V g := grow_hide hV hDV hg
  obtain ⟨td, nm, tn, p, t1, t2, t3, t4, n, ht1, ht2⟩ := (ht.grow hVg).ex
  walk_at "S"
  refine For_invV g rfl rfl ?_ (hE := PassesOwn.never)
  walk_at "S"
  refine' comp_inv' ?hc ?k1 rfl ?k2 rfl ?_
  case hc => with_unfolding_all rfl
  case k1 => decide
  case k2 => decide
  walk_at "S"
  rename_i lc h9 l0 H F₀ N₀
  have nlc := Nat.ne_of_gt l0.2
  rename Obj => oc
  have hkl : kvs.length = R.length := paired_length hE
  obtain ⟨_, _, _, _, _, _, hnd⟩ := id hdo
  refine comp_keys (fun i ys objs => objs = [] ∧ Paired (EntP w V) ys (R.take i)) hh lo (N₀.get (.tail _ (.tail _ (.head _)))) hdo (by omega) ⟨rfl, .nil⟩ ?_ ?_
  · rintro G C i k kv v ys objs own h₃ tk₃ m₃ hkv hkey hlen ⟨rfl, hR'⟩ hG hoff F₃ N₃
    obtain ⟨r, hr, hk1, hent⟩ := paired_at hE hkv
    have hGD := hG _ _ (N₀.get (.tail _ (.tail _ (.head _))))
    have hc := hG _ _ (N₀.get (.tail _ (.head _)))
    obtain ⟨F₄, N₄⟩ := fr_hide F₃ N₃ hGD
    have hgD : g.get? D = none := N₀.fresh (.tail _ (.tail _ (.head _)))
    have gG : ∀ b ob, g.get? b = some ob → (hideAll G [D]).get? b = some ob := fun b ob e => hideAll_get _ (hG _ _ (F₀.keep _ _ e)) (fun q => by rw [List.mem_singleton.mp q, hgD] at e; cases e)
    have X₃ : (hd.heap_1 w.params).In (hideAll G [D]) := X'.keeps gG
    have T₃ := T'.keeps gG
    have ht1' := gG _ _ ht1
    have ht2' := gG _ _ ht2
    have hc' := hideAll_get [D] hc (by simpa using e1)
    have hval := value_at hnd hkv
    obtain ⟨tk', rfl⟩ := Value.isStrOf_shape hkey
    have hown : ∀ p ∈ own, p.1 ≠ D := fun p hp e => by
      have := (N₃ p hp).2.2
      rw [e, hGD] at this; cases this
    clear F₀ N₀ X' T' F₃ N₃ ht1 ht2
    simp only [List.nil_append] at N₄
    walk_at "S"
    rename Fr _ _ _ _ => F₅
    rename News _ _ _ _ => N₅
    refine wpAny_getItem_of (strKind_is _ _ _ _) (kda_dict N₅ (.head _) hdo).mapOf hval ?_
    refine ⟨_, _, _, [], rfl, fr_show F₅ hGD (N₅.get (.head _)), news_show (o := o) (fun p hp => N₅ p (.tail _ hp)) hown, Off.nil, rfl, ?_⟩
    rw [List.take_add_one, hr]
    exact Paired.snoc hR' hent
  · rintro D' c h' tk ys objs ⟨rfl, hR'⟩ hlen ha ho hob hG
    rw [List.take_of_length_le (by omega)] at hR'
    obtain ⟨F₁, N₁, l1⟩ := led_new F₀ N₀ hG ha ho
    clear F₀ N₀
    (try simp only [AllLt, and_true] at l1)
    walk_at "S"
    refine sorted_entries F₁ N₁ X' T' (by walk_at "DU") (by walk_at "DU") hh ⟨_, N₁.get (.head _), rfl, _, rfl⟩ (R := R) ?_ hw (by omega) ?_
    · exact paired_mono hR' fun v r ⟨ex, ed, e, k⟩ => ⟨ex, ed, e, k.mono fun a o z => hVg _ _ z⟩
    intro D2 c2 h2 tk2 news2 xs S hS hx F₂ N₂ n2
    have hSl : S.length < 20 := by rw [hS.1.length_eq]; exact hk
    have hSb : ∀ r ∈ S, r.word.length ≤ 100 ∧ r.codes.length ≤ 100 ∧ 0 ≤ r.used ∧ r.used ≤ 10000 := fun r hr => hR r (hS.1.mem_iff.mp hr)
    have hSw : ∀ r ∈ S, (writ r).length ≤ 420 := fun r hr => writ_len (hSb r hr).1 (hSb r hr).2.1 (hSb r hr).2.2
    have two : ∀ {p : Addr × Obj}, p ∈ [(lc, listOf (List.toArray []) 0), (D, o)] → p ∈ [(D', listOf ys.toArray c), (lc, listOf (List.toArray []) 0), (L' + 1, oc), (D, o)] := fun {p} hp => by
      rcases List.mem_cons.mp hp with rfl | hp
      · exact .tail _ (.head _)
      · rw [List.mem_singleton.mp hp]; exact .tail _ (.tail _ (.tail _ (.head _)))
    refine for_list (fun i m news => ∃ r vs' c, m "codes" = some (.ref r) ∧ news = [(r, listOf (List.toArray vs') c), (D, o)] ∧ @Ne Nat r D ∧ IntsAre vs' ((S.take i).flatMap writ))
      rfl hh ⟨_, N₂.get (.head _), rfl, _, rfl⟩ (N₂ _ (.head _)).2.1 F₂ (news := [(lc, listOf (List.toArray []) 0), (D, o)]) (fun p hp => N₂ p (.tail _ (List.mem_append_right _ (two hp)))) (fun p hp => n2 p (List.mem_append_right _ (two hp))) ⟨lc, [], 0, rfl, rfl, nlc, .nil⟩ ?_ ?_
    · rintro i v m₁ news₁ h tk own s₂ rfl hv hJq hoff F₃ N₃
      obtain ⟨r, vs', c, hm1, rfl, hrD, hi'⟩ := hJq
      obtain ⟨rr, hrr, ex, ed, rfl, hent⟩ := paired_at hx hv
      have hrS := List.mem_of_getElem? hrr
      obtain ⟨b1, b2, b3⟩ := hSb rr hrS
      have hwl := hSw rr hrS
      rw [map_is hm1] at F₃
      simp only [List.cons_append, List.nil_append] at N₃
      have hln := hi'.length
      have hfl := flat_writ_len (S := S.take i) fun q hq => hSw q (List.mem_of_mem_take hq)
      have htl : (S.take i).length ≤ 20 := by have := List.length_take_le' i S; omega
      have ho1 := hoff.ne
      clear F₂ N₂ F₁ N₁
      walk_at "S"
      rename Fr _ _ _ _ => F₄
      rename News _ _ _ _ => N₄
      rename IntsAre _ (writ _) => iw
      refine ⟨_, _, _, [(r, _), (D, o)], rfl, F₄, fun q hq => N₄ q (.tail _ hq), hoff.to hoff.tail, r, vs' ++ _, _, rfl, by rw [List.append_toArray], hrD, ?_⟩
      rw [flat_rows_take hrr]
      exact hi'.append iw
    · rintro m' news' h tk hJq F₃ N₃
      obtain ⟨r, vs', c, hm1, rfl, hrD, hi'⟩ := hJq
      rw [map_is hm1] at F₃
      clear F₂ N₂ F₁ N₁
      walk_at "S"
      rename Fr _ _ _ _ => F₄
      rename News _ _ _ _ => N₄
      rw [List.take_of_length_le (Nat.le_of_eq (paired_length hx).symm)] at hi'
      refine hfin r vs' c S _ _ hS hi' (grow_but hg hDs F₄ (N₄.get (.tail _ (.head _)))) (fresh_back hg (N₄.fresh (.head _)) fun z => hrD (List.mem_singleton.mp z)) (N₄.get (.head _))
end
/-! a for over a list of the base, its target unpacked -/
section
variable {prog : Program} {w : World} {A : Around} {env : Env} {E : Value → Shared → Prop} {s₁ : Shared} {h₀ : Heap} {tgt : PySem.Expr} {body : List Stmt} {Q : Flow → Shared → Prop}
inductive TurnT (h₀ : Heap) (L : Addr) (s₁ : Shared) (own : List (Addr × Obj)) (J : (Str → Option Value) → List (Addr × Obj) → Prop) (f : Flow) (s₂ : Shared) : Prop
  | mk (k1 : f = .next) (h' : Heap) (tk : Nat) (m' : Str → Option Value) (news' : List (Addr × Obj)) (h1 : s₂ = { s₁ with heap := h', toks := tk }) (h2 : Fr h₀ L h' m') (h3 : News h₀ L h' (news' ++ own)) (h4 : Off news' own) (h5 : J m' news')
theorem for_listT {l L : Addr} {vs : List Value} {m : Str → Option Value} {news : List (Addr × Obj)} (J : Nat → (Str → Option Value) → List (Addr × Obj) → Prop)
    (hLe : env.locals = L) (hh : A.handled = none) (hl : h₀.IsList l vs.toArray) (F : Fr h₀ L s₁.heap m) (N : News h₀ L s₁.heap news) (h0 : J 0 m news)
    (hgo : ∀ (I l' : Addr) (i : Nat) (s' : Shared) (v : Value) (Q' : Unit → Shared → Prop), s'.heap.IsListIter I l' i → Q' () s' → wpAny (model prog w) A (letOwnedTupleGo tgt (.ref I) v) Q' E s')
    (turn : ∀ i v m₁ news₁ own s₂, vs[i]? = some v → J i m₁ news₁ → Off news₁ own → Fr h₀ L s₂.heap m₁ → News h₀ L s₂.heap (news₁ ++ own) →
      wpAny (model prog w) A (assign tgt env v) (fun _ s₃ => wpAny (model prog w) A (execs body env) (TurnT h₀ L s₂ own (J (i + 1))) E s₃) E s₂)
    (done : ∀ m' news' h tk, J vs.length m' news' → Fr h₀ L h m' → News h₀ L h news' → Q .next { s₁ with heap := h, toks := tk }) :
    wpAny (model prog w) A (pyIter (.ref l)) (fun it s₂ => LoopAtT prog w A h₀ env tgt body Q E it s₂) E s₁ := by
  subst hLe
  have hls : s₁.heap.IsList l vs.toArray := F.lst hl
  obtain ⟨ol, hol, _⟩ := id hl
  have hlt : l < h₀.objs.size := Heap.lt_size hol
  have hne : l ≠ s₁.heap.objs.size := Nat.ne_of_lt (Nat.lt_trans (Nat.lt_of_lt_of_le hlt F.above) F.ns.lt)
  refine wpAny_pyIter_list hls ?_
  have hnI : ∀ p ∈ news, p.1 ∉ [s₁.heap.objs.size] := fun p hp hI => absurd (Heap.lt_size (N p hp).1) ((List.mem_singleton.mp hI) ▸ Nat.lt_irrefl _)
  have hI0 : h₀.get? s₁.heap.objs.size = none := by
    cases e : h₀.get? s₁.heap.objs.size with
    | none => rfl
    | some o => exact absurd (Heap.lt_size (F.keep _ _ e)) (Nat.lt_irrefl _)
  refine ⟨s₁.heap.objs.size, [s₁.heap.objs.size, l], [s₁.heap.objs.size], vs.toArray.size, _, _, m, news, J, rfl, Walks.list hh s₁.heap.objs.size l hne vs.toArray, ?_, ?_, hnI,
    ⟨⟨_, Heap.get?_push_size _ rfl, rfl, rfl⟩, hls.at fun o e => Heap.get?_push_of_some _ e⟩, F.push _, (fun p hp => ⟨Heap.get?_push_of_some _ (N p hp).1, (N p hp).2⟩), (fun i s' v Q' st hQ' => hgo _ _ _ s' v Q' st.1 hQ'), h0, ?_, ?_⟩
  · intro hm
    rcases List.mem_cons.mp hm with e | hm
    · exact absurd F.ns.lt (e ▸ Nat.lt_irrefl _)
    · exact absurd (Nat.lt_of_lt_of_le hlt F.above) ((List.mem_singleton.mp hm) ▸ Nat.lt_irrefl _)
  · intro b hb
    rw [List.mem_singleton.mp hb]
    exact hI0
  · intro i v m₁ news₁ s₂ own hi hP hJ hnw hsub hat hin hst F₁ N₁
    have hoff : Off news₁ own := fun p hp q hq e => by
      rcases List.mem_cons.mp (hsub q hq) with e1 | e1
      · exact hnw p hp (by rw [e, e1]; exact .head _)
      · have := (N₁ p (List.mem_append_right _ hp)).2.2
        rw [e, List.mem_singleton.mp e1, hol] at this
        cases this
    refine wpAny_mono (turn i v m₁ news₁ own s₂ (by simpa using hP) hJ hoff F₁ (fun p hp => N₁ p ((List.mem_append.mp hp).elim (fun q => List.mem_append_right _ q) fun q => List.mem_append_left _ q))) (fun _ s₃ h₃ => wpAny_mono h₃ (fun f s₄ h₄ => ?_) fun _ _ e => e) fun _ _ e => e
    obtain ⟨rfl, h', tk, m', news', rfl, F₂, N₂, hoff', hJ'⟩ := h₄
    refine ⟨rfl, h', tk, m', news', rfl, F₂, (fun p hp => N₂ p ((List.mem_append.mp hp).elim (fun q => List.mem_append_right _ q) fun q => List.mem_append_left _ q)), fun p hp q => ?_, hJ'⟩
    obtain ⟨o, ho, _⟩ := hst.1
    exact hoff' p hp (s₁.heap.objs.size, o) (hin _ (.head _) hI0 o ho) (List.mem_singleton.mp q)
  · intro h' tk m' news' F' N' _ hJ
    rw [List.size_toArray] at hJ
    exact done m' news' h' tk hJ F' N'
end
theorem written_spec {w : World} {A : Around} {E : Value → Shared → Prop} {s : Shared} {V : Heap} {mg mb : Str → Option Value} {mean : ExcName → Option Value} {Q : Value → Shared → Prop}
    {l : Addr} {vs : List Value} {c : Nat} {S : List Row}
    (hV : Grow V s.heap) (X₀ : (hd.heap_1 w.params).In V) (T : Top headView (looseW headView [Str.ofString "EXACT"]) mean mg mb V)
    (hD : A.depth ≤ 570) (hU : A.units ≤ 1700) (hh : A.handled = none) (hl : s.heap.get? l = some (listOf vs.toArray c)) (hr : RowsV (HV s.heap) vs S) (hk : S.length < 20)
    (hR : ∀ r ∈ S, r.word.length ≤ 100 ∧ r.codes.length ≤ 100 ∧ 0 ≤ r.used ∧ r.used ≤ 10000)
    (hfin : Hold (∀ a vs' c h' tk', IntsAre vs' (S.flatMap writ) → Grow s.heap h' → s.heap.get? a = none → h'.get? a = some (listOf vs'.toArray c) → Q (.ref a) { s with heap := h', toks := tk' })) :
    wpAny (model PySem.Challenge.rw_ok0052_01.row.prog w) A (call (.ref 243) [.ref l]) Q E s := by
  revert X₀; k_fill; intro X₀
  refine wpAny_call ?_
  refine' enterNR [] [("rows", .ref l)] hV X₀ T (fun _ h => nomatch h) ?k6 ?k7 ?k8 ?k9 ?kB ?_ ?c2 ?c3 ?c4 ?c5
  walk_at "ENTER"
  intro g L' h₁ hg hL F' N' X' T'
  try dsimp only
  have hGg : Grow s.heap g := fun b o e => hg b o e (fun n => nomatch n)
  walk_at "S"
  rename_i mh h9 l0 H F₀ N₀
  refine For_invT g ?_ (by intro _; rfl) (hE := PassesOwn.never)
  walk_at "S"
  rename Fr _ _ _ _ => F₀
  rename News _ _ _ _ => N₀
  have hlg : g.IsList l vs.toArray := ⟨_, hGg _ _ hl, rfl, _, rfl⟩
  have hSw : ∀ r ∈ S, (writ r).length ≤ 420 := fun r hr => writ_len (hR r hr).1 (hR r hr).2.1 (hR r hr).2.2
  refine for_listT (fun i m news => ∃ r vs' c, m "made_here" = some (.ref r) ∧ news = [(r, listOf (List.toArray vs') c)] ∧ IntsAre vs' ((S.take i).flatMap writ)) rfl hh hlg F₀ N₀ ⟨_, [], 0, rfl, rfl, .nil⟩ (fun I l' i s' v Q' st hq => letGo_listiter st hq) ?_ ?_
  · rintro i v m₁ news₁ own s₂ hv hJq hoff F₃ N₃
    obtain ⟨r, vs', c, hm1, rfl, hi'⟩ := hJq
    obtain ⟨rr, hrr, a, rfl, ca, tu, lo, lc, lvs, lcs, c1, c2, e1, e2, e3, i1, i2⟩ := paired_at hr hv
    have hrS := List.mem_of_getElem? hrr
    obtain ⟨b1, b2, b3⟩ := hR rr hrS
    have hla : g.IsList a #[.ref lo, .int rr.used tu, .ref lc, .bool rr.exact] := ⟨_, hGg _ _ e1, rfl, _, rfl⟩
    have hlo : g.IsList lo lvs.toArray := ⟨_, hGg _ _ e2, rfl, _, rfl⟩
    have hlc : g.IsList lc lcs.toArray := ⟨_, hGg _ _ e3, rfl, _, rfl⟩
    refine kun_list F₃ N₃ (F₃.lst hla) hh rfl rfl ?_
    intro h' F₄ N₄
    rw [map_is hm1] at F₄
    have hln := hi'.length
    have hfl := flat_writ_len (S := S.take i) fun q hq => hSw q (List.mem_of_mem_take hq)
    have htl : (S.take i).length ≤ 20 := by have := List.length_take_le' i S; omega
    have hwl := hSw rr hrS
    have ho1 := hoff.ne
    have hq1 := quote_len rr.word
    have hq2 := quote_len rr.codes
    simp only [List.cons_append, List.nil_append] at N₄
    clear F₃ N₃ F₀ N₀
    walk_at "S"
    walk_at "COMP"
    rename Fr _ _ _ _ => F₅
    rename News _ _ _ _ => N₅
    have hts := txt_len b3
    refine comp_str (z := txt rr.used) (fun c y => ∃ t, y = .int (c : Int) t) hh ?_ ?_ ?_
    · have : (txt rr.used).cps.size = (txt rr.used).length := rfl
      omega
    · intro G C c u own' h₃ tk₃ m₃ hc hG F₆ N₆
      have X₃ : (hd.heap_1 w.params).In G := X'.keeps (fun b o e => hG b o (F₅.keep b o e))
      have T₃ := T'.keeps (fun b o e => hG b o (F₅.keep b o e))
      clear F₅ N₅ X' T'
      walk_at "S"
      exact ⟨_, _, _, rfl, F₆, N₆, _, rfl⟩
    · intro D c' h' tk ys hR' ha hG ho
      obtain ⟨F'', N'', l2⟩ := led_new F₅ N₅ hG ha ho
      have hid := paired_codes hR'
      have hdl : (((txt rr.used).cps.toList.map fun c : Nat => (c : Int))).length ≤ 6 := by rw [List.length_map]; exact hts
      clear F₅ N₅
      walk_at "S"
      · rename rr.exact = true => hx
        walk_at "COMP"
        rename Fr _ _ _ _ => F₅
        rename News _ _ _ _ => N₅
        refine comp_str (z := Str.ofString " exact") (fun c y => ∃ t, y = .int (c : Int) t) hh (by decide) ?_ ?_
        · intro G C c u own' h₃ tk₃ m₃ hc hG F₆ N₆
          have X₃ : (hd.heap_1 w.params).In G := X'.keeps (fun b o e => hG b o (F₅.keep b o e))
          have T₃ := T'.keeps (fun b o e => hG b o (F₅.keep b o e))
          clear F₅ N₅ X' T'
          walk_at "S"
          exact ⟨_, _, _, rfl, F₆, N₆, _, rfl⟩
        · intro D c' h' tk ys hR' ha hG ho
          obtain ⟨F'', N'', l2⟩ := led_new F₅ N₅ hG ha ho
          have hid2 : IntsAre ys [32, 101, 120, 97, 99, 116] := paired_codes hR'
          clear F₅ N₅
          walk_at "S"
          rename IntsAre _ (_ ++ [10]) => hI₃
          rename Fr _ _ _ _ => F₆
          rename News _ _ _ _ => N₆
          walk_at "SPLIT"
          refine ⟨rfl, _, _, _, [(_, _)], rfl, F₆, turn_sub N₆ (.head _) (by intro q hq; repeat (first | exact hq | apply List.Mem.tail)), Off.lt (by assumption) Off.nil, _, _, _, rfl, rfl, ?_⟩
          rw [flat_rows_take hrr]
          rw [show writ rr = quote rr.word ++ [32] ++ ((txt rr.used).cps.toList.map fun c : Nat => (c : Int)) ++ [32] ++ quote rr.codes ++ [32, 101, 120, 97, 99, 116] ++ [10] from by unfold writ dig; rw [hx, if_pos rfl]]
          simpa only [List.append_assoc, List.cons_append, List.nil_append] using hI₃
      · rename rr.exact = false => hx
        rename IntsAre _ (_ ++ [10]) => hI₃
        rename Fr _ _ _ _ => F₆
        rename News _ _ _ _ => N₆
        walk_at "SPLIT"
        refine ⟨rfl, _, _, _, [(_, _)], rfl, F₆, turn_sub N₆ (.head _) (by intro q hq; repeat (first | exact hq | apply List.Mem.tail)), Off.lt (by assumption) Off.nil, _, _, _, rfl, rfl, ?_⟩
        rw [flat_rows_take hrr]
        rw [show writ rr = quote rr.word ++ [32] ++ ((txt rr.used).cps.toList.map fun c : Nat => (c : Int)) ++ [32] ++ quote rr.codes ++ [] ++ [10] from by unfold writ dig; rw [hx, if_neg (by decide)]]
        simpa only [List.append_assoc, List.cons_append, List.nil_append] using hI₃
  · rintro m' news' h tk hJq F₃ N₃
    obtain ⟨r, vs', c, hm1, rfl, hi'⟩ := hJq
    rw [map_is hm1] at F₃
    rw [List.take_of_length_le (Nat.le_of_eq (paired_length hr).symm)] at hi'
    clear F₀ N₀
    walk_at "S"
    rename Fr _ _ _ _ => F₄
    rename News _ _ _ _ => N₄
    exact hfin r vs' c _ _ hi' (fun b o e => F₄.keep _ _ (hGg _ _ e)) (fresh_back hg (N₄.fresh (.head _)) (fun n => nomatch n)) (N₄.get (.head _))
theorem nodict_ints : ∀ ns : List Int, PyData.hasDictAll (ns.map PyData.int) = false
  | [] => rfl
  | n :: ns => by rw [List.map_cons, PyData.hasDictAll, nodict_ints ns]; rfl
theorem repr_len {ns : List Int} (hb : ∀ k ∈ ns, 0 ≤ k ∧ k ≤ 5000) (hz : ns.length ≤ 400) : (reprOf ns).length ≤ 10000 := by
  unfold reprOf
  rw [PyData.shown_list, PyData.shownAll_ints, ← listText_eq_join]
  refine Nat.le_trans (listText_len_le _) ?_
  have h1 := txts_len (ns := ns) fun k hk => by have := hb k hk; omega
  have h2 : ((ns.map fun n => ((toString n : String) : Str)).map (·.length)).sum ≤ 6 * ns.length := h1
  rw [List.length_map]
  omega
theorem str_ints {prog : Program} {w : World} {A : Around} {E : Value → Shared → Prop} {s : Shared} {h₀ : Heap} {L : Addr} {m : Str → Option Value} {news : List (Addr × Obj)} {l : Addr} {lvs : List Value} {ns : List Int} {c : Nat} {Q : Value → Shared → Prop}
    (F : Fr h₀ L s.heap m) (N : News h₀ L s.heap news) (hl : h₀.get? l = some (listOf lvs.toArray c)) (i : IntsAre lvs ns) (hb : ∀ k ∈ ns, 0 ≤ k ∧ k ≤ 5000) (hz : ns.length ≤ 400) (hg : A.guards = some []) (hu : A.units ≤ 2100)
    (h : ∀ h' u tk, Fr h₀ L h' m → News h₀ L h' news → Q (.str (reprOf ns) u) { s with heap := h', toks := tk }) : wpAny (model prog w) A (call (.type "str") [.ref l]) Q E s := by
  refine str_HN F N (reads_ints (F.keep _ _ hl) i) (nodict_ints ns) (PyData.showableAll_ints ns fun n hn => small_log2 (by have := hb n hn; omega)) hg ?_ h (Nat.le_trans (repr_len hb hz) (by rw [sizeLine_eq]; decide))
  have : cLine = 9900 := rfl
  show A.units + (PyData.depthAll _ + 1 + 3) < cLine
  rw [depth_ints]
  omega
theorem fold_lenF (f : List Int → Str) (l : List (Value × Row)) : ∀ kvs : List (Str × Value), (l.foldl (fun k vr => stored k (f vr.2.word) vr.1) kvs).length ≤ kvs.length + l.length := by
  induction l with
  | nil => intro kvs; exact Nat.le_refl _
  | cons a r ih =>
    intro kvs
    have h1 := ih (stored kvs (f a.2.word) a.1)
    have h2 := stored_length_le kvs (f a.2.word) a.1
    simp only [List.foldl_cons, List.length_cons]
    omega
theorem bears_rows {f : List Int → Str} {P : Addr → Obj → Prop} {kvs : List (Str × Value)} {R : List Row} (h : Bears f (fun v r => ∃ a, v = .ref a ∧ RowV P a r) kvs R) : RowsV P (kvs.map (·.2)) R := by
  unfold Bears at h
  unfold RowsV
  induction h with
  | nil => exact .nil
  | cons e _ ih => exact .cons e.2 ih
section
local macro_rules | `(tactic| walk_at "call type:str") => ln_line "call Value.type:1 _ _" true ``str_ints "F N l i b z g u _" "F:k N:k l:a i:a b:a z:a g:a u:DU" "h' u' tk' F' N'"
theorem last_spec {w : World} {A : Around} {E : Value → Shared → Prop} {s : Shared} {V : Heap} {mg mb : Str → Option Value} {mean : ExcName → Option Value} {Q : Value → Shared → Prop}
    {l : Addr} {vs : List Value} {c : Nat} {R : List Row}
    (hV : Grow V s.heap) (X₀ : (hd.heap_1 w.params).In V) (T : Top headView (looseW headView [Str.ofString "EXACT"]) mean mg mb V)
    (hD : A.depth ≤ 570) (hU : A.units ≤ 1700) (hh : A.handled = none) (hgd : A.guards = some []) (hl : s.heap.get? l = some (listOf vs.toArray c)) (hr : RowsV (HV s.heap) vs R) (hk : R.length < 60)
    (hR : ∀ r ∈ R, r.word.length ≤ 400 ∧ ∀ k ∈ r.word, 0 ≤ k ∧ k ≤ 5000)
    (hfin : Hold (∀ a xs c S h' tk', SortOf (R.foldl put []) S → RowsV (HV s.heap) xs S → Grow s.heap h' → s.heap.get? a = none → h'.get? a = some (listOf xs.toArray c) → Q (.ref a) { s with heap := h', toks := tk' })) :
    wpAny (model PySem.Challenge.rw_ok0052_01.row.prog w) A (call (.ref 269) [.ref l]) Q E s := by
  revert X₀; k_fill; intro X₀
  refine wpAny_call ?_
  refine' enterNR [] [("rows", .ref l)] hV X₀ T (fun _ h => nomatch h) ?k6 ?k7 ?k8 ?k9 ?kB ?_ ?c2 ?c3 ?c4 ?c5
  walk_at "ENTER"
  intro g L' h₁ hg hL F' N' X' T'
  try dsimp only
  have hGg : Grow s.heap g := fun b o e => hg b o e (fun n => nomatch n)
  walk_at "S"
  refine For_invV g rfl rfl ?_ (hE := PassesOwn.never)
  walk_at "S"
  rename_i kd h9 od lod hsd fsd hid fid l0 H F₀ N₀
  have hlg : g.IsList l vs.toArray := ⟨_, hGg _ _ hl, rfl, _, rfl⟩
  refine for_list (fun i m news => ∃ o', m "kept" = some (.ref kd) ∧ news = [(kd, o')] ∧ o'.IsDictOf (SK w) (((vs.zip R).take i).foldl (fun k vr => stored k (reprOf vr.2.word) vr.1) []))
    rfl hh (F₀.lst hlg) ?_ F₀ N₀ ?_ ⟨od, rfl, rfl, hsd⟩ ?_ ?_
  · obtain ⟨o, ho, _⟩ := hlg
    exact Nat.ne_of_lt (Nat.lt_of_lt_of_le (Heap.lt_size ho) F₀.above)
  · intro p hp e
    obtain ⟨o, ho, _⟩ := hlg
    have := (N₀ p hp).2.2
    rw [e, ho] at this; cases this
  · rintro i v m₁ news₁ h tk own s₂ rfl hv hJq hoff F₁ N₁
    obtain ⟨o', hm1, rfl, hd'⟩ := hJq
    obtain ⟨rr, hrr, a, rfl, ca, tu, lo, lc, lvs, lcs, c1, c2, e1, e2, e3, i1, i2⟩ := paired_at hr hv
    obtain ⟨b1, b2⟩ := hR rr (List.mem_of_getElem? hrr)
    have e1' := hGg _ _ e1
    have e2' := hGg _ _ e2
    have hla : g.IsList a (List.toArray [.ref lo, .int rr.used tu, .ref lc, .bool rr.exact]) := ⟨_, e1', rfl, _, rfl⟩
    have hgd' : (A.deeper (envOf (Str.ofString "_law_last") (default : Scope) L' 269 (.ref 268))).guards = some [] := hgd
    have hacc : ((vs.zip R).take (i + 1)).foldl (fun k vr => stored k (reprOf vr.2.word) vr.1) [] = stored (((vs.zip R).take i).foldl (fun k vr => stored k (reprOf vr.2.word) vr.1) []) (reprOf rr.word) (.ref a) := by
      rw [List.take_add_one, show (vs.zip R)[i]? = some (.ref a, rr) from by rw [List.getElem?_zip_eq_some]; exact ⟨hv, hrr⟩]
      simp
    rw [hacc]
    have hcl : (((vs.zip R).take i).foldl (fun k vr => stored k (reprOf vr.2.word) vr.1) []).length ≤ 100 := by
      refine Nat.le_trans (fold_lenF reprOf _ _) ?_
      have h1 := List.length_take_le' i (vs.zip R)
      rw [List.length_zip] at h1
      simp only [List.length_nil]
      omega
    generalize ((vs.zip R).take i).foldl (fun k vr => stored k (reprOf vr.2.word) vr.1) [] = cur at *
    rw [map_is hm1] at F₁
    simp only [List.cons_append, List.nil_append] at N₁
    have ho1 := hoff.ne
    clear F₀ N₀
    walk_at "S"
    rename Fr _ _ _ _ => F₃
    rename News _ _ _ _ => N₃
    rename Obj.IsDictOf _ _ _ => hd₃
    exact ⟨_, _, _, [(kd, _)], rfl, F₃, N₃, hoff.to Off.nil, _, rfl, rfl, hd₃⟩
  · rintro m' news' h tk hJq F₁ N₁
    obtain ⟨o', hm1, rfl, hd'⟩ := hJq
    rw [map_is hm1] at F₁
    have hrl : vs.length = R.length := paired_length hr
    rw [List.take_of_length_le (by simp [hrl])] at hd'
    clear F₀ N₀
    walk_at "S"
    rename Fr _ _ _ _ => F₃
    rename News _ _ _ _ => N₃
    have hNn : Nn R := fun r hr k hk => ((hR r hr).2 k hk).1
    have hfb := Bears.foldl (f := reprOf) (P := fun v r => ∃ a, v = .ref a ∧ RowV (HV s.heap) a r) (fun R w h1 h2 => injOn_repr h1 h2) hr (kvs := []) (R := []) (fun _ h => nomatch h) hNn .nil
    have hfr := bears_rows hfb
    have hfl := fold_lenF reprOf (vs.zip R) []
    rw [List.length_zip, List.length_nil] at hfl
    have hpl := foldl_put_len (S := R) (R := [])
    rw [List.length_nil] at hpl
    refine kdl_list_valuesP hh F₃ N₃ (.head _) (.tail _ (.head _)) hd' (by omega) ?_
    intro B c2 h2 tk2 F₄ N₄ l4
    walk_at "S"
    refine sorted_rows F₄ N₄ (fun h' a o F N k => F.keep _ _ (hGg _ _ k)) ⟨_, N₄.get (.head _), rfl, _, rfl⟩ hfr (foldl_put_words .nil) (by omega) (by walk_at "DU") ?_
    intro D2 c3 h3 xs S hS hx F₅ N₅ l5
    exact hfin D2 xs c3 S _ _ hS hx (fun b o e => F₅.keep _ _ (hGg _ _ e)) (fresh_back hg (N₅.fresh (.head _)) (fun n => nomatch n)) (N₅.get (.head _))
end
theorem paired_any {vs ys : List Value} (h : Paired (fun _ y => ∃ k u, y = Value.int k u) vs ys) : ∃ ks, IntsAre ys ks := by
  induction h with
  | nil => exact ⟨[], .nil⟩
  | cons e _ ih =>
    obtain ⟨k, u, rfl⟩ := e
    obtain ⟨ks, h⟩ := ih
    exact ⟨k :: ks, .cons k u h⟩
theorem deck_spec {w : World} {A : Around} {E : Value → Shared → Prop} {s : Shared} {V : Heap} {mg mb : Str → Option Value} {mean : ExcName → Option Value} {Q : Value → Shared → Prop}
    {l : Addr} {vs : List Value} {ns : List Int}
    (hV : Grow V s.heap) (X₀ : (hd.heap_1 w.params).In V) (T : Top headView (looseW headView [Str.ofString "EXACT"]) mean mg mb V)
    (hD : A.depth ≤ 570) (hU : A.units ≤ 1700) (hh : A.handled = none) (hl : s.heap.IsList l vs.toArray) (hi : IntsAre vs ns) (hz : ns.length ≤ 63)
    (hfin : Hold (∀ a xs ks c h' tk', IntsAre xs ks → ks.length ≤ 63 → Grow s.heap h' → s.heap.get? a = none → h'.get? a = some (listOf xs.toArray c) → Q (.ref a) { s with heap := h', toks := tk' })) :
    wpAny (model PySem.Challenge.rw_ok0052_01.row.prog w) A (call (.ref 214) [.ref l]) Q E s := by
  revert X₀; k_fill; intro X₀
  refine wpAny_call ?_
  refine' enterNR [] [("script", .ref l)] hV X₀ T (fun _ h => nomatch h) ?k6 ?k7 ?k8 ?k9 ?kB ?_ ?c2 ?c3 ?c4 ?c5
  walk_at "ENTER"
  intro g L' h₁ hg hL F' N' X' T'
  try dsimp only
  have hlg : g.IsList l vs.toArray := hl.at (fun o e => hg _ o e (fun n => nomatch n))
  have hlen := hi.length
  walk_at "S"
  walk_at "COMP"
  rename_i D5 ws5 H F₀ N₀ hI5 hC5 hL5 l5
  refine comp_list (fun _ y => ∃ k u, y = Value.int k u) hh ⟨_, N₀.get (.head _), rfl, _, rfl⟩ ?_ ?_ ?_
  · have := hI5.length
    rw [sizeLine_eq]; omega
  · intro G C v own h₃ tk₃ m₃ hv hG F₃ N₃
    obtain ⟨n, t, rfl⟩ := hI5.all v hv
    have X₃ : (hd.heap_1 w.params).In G := X'.keeps (fun b o e => hG b o (F₀.keep b o e))
    have T₃ := T'.keeps (fun b o e => hG b o (F₀.keep b o e))
    clear F₀ N₀ X' T'
    walk_at "S"
    exact ⟨_, _, _, rfl, F₃, N₃, _, _, rfl⟩
  · intro D c h' tk ys hR ha hG ho
    obtain ⟨ks, hks⟩ := paired_any hR
    have e1 := hks.length
    have e2 := paired_length hR
    have e3 := hI5.length
    exact hfin D ys ks c h' tk hks (by omega) (fun b o e => hG _ _ (F₀.keep _ _ (hg _ _ e (fun n => nomatch n)))) (fresh_back hg (by cases e : g.get? D with | none => rfl | some o => exact absurd (ha _ _ (F₀.keep _ _ e)) (Nat.lt_irrefl _)) (fun n => nomatch n)) ho
/-! the law's own body, told by the head -/
def recOf {q : Program} {loose : List Str} {XP : (Str → Option Value) → Heap → Prop} {YP : World → Heap → Prop} {r : RowW} {d : DefRec} {kwd : List (Str × PySem.Expr)} {run : Value → List Value → Sem Value} {P : Prop} (x : WalkO q loose XP YP r d kwd run → P) : DefRec := d
noncomputable def lawFd : DefRec := recOf hd
noncomputable def lawBody : List Stmt := lawFd.body
/-- old, or made in the call -/
def NewP (V h h' : Heap) : Addr → Obj → Prop := fun a o => V.get? a = some o ∨ (h.get? a = none ∧ h'.get? a = some o)
theorem NewP.hide {V h h' : Heap} {X : List Addr} (hV : Grow V (hideAll h' X)) (hX : ∀ x ∈ X, ∃ o, h.get? x = some o) {a : Addr} {o : Obj} (k : NewP V h h' a o) : (hideAll h' X).get? a = some o := by
  rcases k with k | ⟨k1, k2⟩
  · exact hV _ _ k
  · refine hideAll_get _ k2 fun q => ?_
    obtain ⟨o', e⟩ := hX _ q
    rw [k1] at e; cases e
theorem NewP.now {V h h' : Heap} (hV : Grow V h') {a : Addr} {o : Obj} (k : NewP V h h' a o) : h'.get? a = some o := k.elim (hV _ _) (·.2)
/-- a table as the law sees it: its dict, the rest in V -/
structure TabSt (w : World) (V : Heap) (o : Obj) (t D : Addr) (kvs : List (Str × Value)) (R : List Row) : Prop where
  dict : o.IsDictOf (SK w) kvs
  here : TabHere w V t D
  ents : Ents w V kvs R
  lo : (D == sysModules) = false
theorem TabSt.grow {w : World} {V V' : Heap} {o : Obj} {t D : Addr} {kvs : List (Str × Value)} {R : List Row} (s : TabSt w V o t D kvs R) (g : Grow V V') : TabSt w V' o t D kvs R := ⟨s.dict, s.here.grow g, s.ents.grow g, s.lo⟩
/-- all that stands, on the ledger -/
theorem snap {B h : Heap} {L : Addr} {m : Str → Option Value} {news : List (Addr × Obj)} (F : Fr B L h m) (N : News B L h news) {X : List Addr} (hL : L ∈ X) (hX : ∀ x ∈ X, B.get? x = none) :
    ∃ es, News B L h (news ++ es) ∧ Grow B (hideAll h X) ∧ ∀ h2 m2, Fr B L h2 m2 → (∀ p ∈ es, h2.get? p.1 = some p.2) → Grow (hideAll h X) (hideAll h2 X) := by
  have hB : Grow B (hideAll h X) := fun b o e => hideAll_get _ (F.keep _ _ e) (fun q => by rw [hX b q] at e; cases e)
  refine ⟨ownOf B ((List.range h.objs.size).filter fun a => decide (a ∉ X)) h, fun p hp => ?_, hB, fun h2 m2 F2 hes b o e => ?_⟩
  · rcases List.mem_append.mp hp with hp | hp
    · exact N p hp
    · exact news_ownOf (fun q => by
        have := (List.mem_filter.mp q).2
        exact absurd hL (of_decide_eq_true this)) p hp
  · have e' := of_hideAll _ e
    have hbX : b ∉ X := fun q => by rw [hideAll_none _ q] at e; cases e
    refine hideAll_get _ ?_ hbX
    cases hn : B.get? b with
    | some o₀ =>
      have : o₀ = o := by have := F.keep b o₀ hn; rw [e'] at this; exact (Option.some.inj this).symm
      exact this ▸ F2.keep b o₀ hn
    | none => exact hes (b, o) (mem_ownOf (List.mem_filter.mpr ⟨List.mem_range.mpr (Heap.lt_size e'), decide_eq_true hbX⟩) hn e')
section
variable {w : World} {A : Around} {E : Value → Shared → Prop} {s : Shared} {B V : Heap} {L : Addr} {m mg mb : Str → Option Value} {mean : ExcName → Option Value} {news : List (Addr × Obj)} {Q : Value → Shared → Prop}
theorem rows_lawH {t D : Addr} {o : Obj} {kvs : List (Str × Value)} {R : List Row} (F : Fr B L s.heap m) (N : News B L s.heap news) (X : (hd.heap_1 w.params).In B) (T : Top headView (looseW headView [Str.ofString "EXACT"]) mean mg mb B)
    (hD : A.depth ≤ 580) (hU : A.units ≤ 1800) (hh : HandOk A V) (hBV : Grow B V) (hV : Grow V s.heap) (hVD : V.get? D = none) (hDs : s.heap.get? D = some o) (ts : TabSt w V o t D kvs R) (hw : Wds R) (hk : R.length < 64)
    (hfin : ∀ D' xs c S h' tk', SortOf R S → RowsV (NewP V s.heap h') xs S → Grow s.heap h' → s.heap.get? D' = none → Fr B L h' m → News B L h' ((D', listOf (List.toArray xs) c) :: news) → AllNe D' news → Q (.ref D') { s with heap := h', toks := tk' }) :
    wpAny (model PySem.Challenge.rw_ok0052_01.row.prog w) A (call (.ref 238) [.ref t]) Q E s := by
  refine lawrows_spec (V := V) hV (X.keeps hBV) (T.keeps hBV) hD hU hh ts.here hDs hVD ts.dict ts.lo ts.ents hw hk ?_
  intro D' xs c es S h' tk' hS hx G hes
  obtain ⟨F', N', l'⟩ := led_fresh F N G (hes _ (.head _)).1 (hes _ (.head _)).2
  exact hfin D' xs c S h' tk' hS (hx.mono fun a o k => k.elim .inl fun q => .inr (hes _ (.tail _ q))) G (hes _ (.head _)).1 F' N' l'
theorem rows_law {t D : Addr} {o : Obj} {kvs : List (Str × Value)} {R : List Row} (F : Fr B L s.heap m) (N : News B L s.heap news) (X : (hd.heap_1 w.params).In B) (T : Top headView (looseW headView [Str.ofString "EXACT"]) mean mg mb B)
    (hD : A.depth ≤ 580) (hU : A.units ≤ 1800) (hh : A.handled = none) (hBV : Grow B V) (hV : Grow V s.heap) (hVD : V.get? D = none) (hDs : s.heap.get? D = some o) (ts : TabSt w V o t D kvs R) (hw : Wds R) (hk : R.length < 64)
    (hfin : ∀ D' xs c S h' tk', SortOf R S → RowsV (NewP V s.heap h') xs S → Grow s.heap h' → s.heap.get? D' = none → Fr B L h' m → News B L h' ((D', listOf (List.toArray xs) c) :: news) → AllNe D' news → Q (.ref D') { s with heap := h', toks := tk' }) :
    wpAny (model PySem.Challenge.rw_ok0052_01.row.prog w) A (call (.ref 238) [.ref t]) Q E s :=
  rows_lawH F N X T hD hU (.inl hh) hBV hV hVD hDs ts hw hk hfin
theorem last_law {l : Addr} {vs : List Value} {c : Nat} {R : List Row} (F : Fr B L s.heap m) (N : News B L s.heap news) (X : (hd.heap_1 w.params).In B) (T : Top headView (looseW headView [Str.ofString "EXACT"]) mean mg mb B)
    (hD : A.depth ≤ 570) (hU : A.units ≤ 1700) (hh : A.handled = none) (hgd : A.guards = some []) (hl : s.heap.get? l = some (listOf vs.toArray c)) (hr : RowsV (HV s.heap) vs R) (hk : R.length < 60)
    (hR : ∀ r ∈ R, r.word.length ≤ 400 ∧ ∀ k ∈ r.word, 0 ≤ k ∧ k ≤ 5000)
    (hfin : ∀ a xs c S h' tk', SortOf (R.foldl put []) S → RowsV (HV h') xs S → Grow s.heap h' → s.heap.get? a = none → Fr B L h' m → News B L h' ((a, listOf (List.toArray xs) c) :: news) → AllNe a news → Q (.ref a) { s with heap := h', toks := tk' }) :
    wpAny (model PySem.Challenge.rw_ok0052_01.row.prog w) A (call (.ref 269) [.ref l]) Q E s := by
  refine last_spec F.keep X T hD hU hh hgd hl hr hk hR ?_
  intro a xs c S h' tk' hS hx G hf ha
  obtain ⟨F', N', l'⟩ := led_fresh F N G hf ha
  exact hfin a xs c S h' tk' hS (hx.mono fun a o k => G _ _ k) G hf F' N' l'
theorem lread_law {l : Addr} {vs : List Value} {c : Nat} {ns : List Int} (F : Fr B L s.heap m) (N : News B L s.heap news) (X : (hd.heap_1 w.params).In B) (T : Top headView (looseW headView [Str.ofString "EXACT"]) mean mg mb B)
    (hD : A.depth ≤ 570) (hU : A.units ≤ 1700) (hh : A.handled = none) (hm : (l, listOf vs.toArray c) ∈ news) (hi : IntsAre vs ns) (hz : ns.length ≤ 400) (hb : ∀ n ∈ ns, 0 ≤ n)
    (hnone : rdAll ns (ns.length + 1) 0 = none → ∀ h' tk', Grow s.heap h' → Fr B L h' m → News B L h' news → Q .none { s with heap := h', toks := tk' })
    (hsome : ∀ rows D xs cD h' tk', rdAll ns (ns.length + 1) 0 = some rows → RowsV (NewP V s.heap h') xs rows → Grow s.heap h' → s.heap.get? D = none → Fr B L h' m → News B L h' ((D, listOf (List.toArray xs) cD) :: news) → AllNe D news → Q (.ref D) { s with heap := h', toks := tk' }) :
    wpAny (model PySem.Challenge.rw_ok0052_01.row.prog w) A (call (.ref 262) [.ref l]) Q E s := by
  refine lread_spec F.keep X T hD hU hh (N.get hm) (N.fresh hm) hi hz hb (fun hn h' tk' G => hnone hn h' tk' G (F.keeps G) (News.grown N G)) ?_
  intro rows D xs cD es h' tk' hr hx G hes
  obtain ⟨F', N', l'⟩ := led_fresh F N G (hes _ (.head _)).1 (hes _ (.head _)).2
  exact hsome rows D xs cD h' tk' hr (hx.mono fun a o q => .inr (hes _ (.tail _ q))) G (hes _ (.head _)).1 F' N' l'
theorem written_law {l : Addr} {vs : List Value} {c : Nat} {S : List Row} (F : Fr B L s.heap m) (N : News B L s.heap news) (X : (hd.heap_1 w.params).In B) (T : Top headView (looseW headView [Str.ofString "EXACT"]) mean mg mb B)
    (hD : A.depth ≤ 570) (hU : A.units ≤ 1700) (hh : A.handled = none) (hl : s.heap.get? l = some (listOf vs.toArray c)) (hr : RowsV (HV s.heap) vs S) (hk : S.length < 20)
    (hR : ∀ r ∈ S, r.word.length ≤ 100 ∧ r.codes.length ≤ 100 ∧ 0 ≤ r.used ∧ r.used ≤ 10000)
    (hfin : ∀ a xs c h' tk', IntsAre xs (S.flatMap writ) → Grow s.heap h' → s.heap.get? a = none → Fr B L h' m → News B L h' ((a, listOf (List.toArray xs) c) :: news) → AllNe a news → Q (.ref a) { s with heap := h', toks := tk' }) :
    wpAny (model PySem.Challenge.rw_ok0052_01.row.prog w) A (call (.ref 243) [.ref l]) Q E s := by
  refine written_spec F.keep X T hD hU hh hl hr hk hR ?_
  intro a xs c h' tk' hx G hf ha
  obtain ⟨F', N', l'⟩ := led_fresh F N G hf ha
  exact hfin a xs c h' tk' hx G hf F' N' l'
theorem ttext_law {t D : Addr} {o : Obj} {kvs : List (Str × Value)} {R : List Row} (F : Fr B L s.heap m) (N : News B L s.heap news) (X : (hd.heap_1 w.params).In B) (T : Top headView (looseW headView [Str.ofString "EXACT"]) mean mg mb B)
    (hD : A.depth ≤ 570) (hU : A.units ≤ 1700) (hh : A.handled = none) (hBV : Grow B V) (hV : Grow V s.heap) (hVD : V.get? D = none) (hDs : s.heap.get? D = some o) (ts : TabSt w V o t D kvs R) (hw : Wds R) (hk : R.length < 20)
    (hR : ∀ r ∈ R, r.word.length ≤ 100 ∧ r.codes.length ≤ 100 ∧ 0 ≤ r.used ∧ r.used ≤ 10000)
    (hfin : ∀ a xs c S h' tk', SortOf R S → IntsAre xs (S.flatMap writ) → Grow s.heap h' → s.heap.get? a = none → Fr B L h' m → News B L h' ((a, listOf (List.toArray xs) c) :: news) → AllNe a news → Q (.ref a) { s with heap := h', toks := tk' }) :
    wpAny (model PySem.Challenge.rw_ok0052_01.row.prog w) A (call (.ref 132) [.ref t]) Q E s := by
  refine ttext_spec (V := V) hV (X.keeps hBV) (T.keeps hBV) hD hU hh ts.here hDs hVD ts.dict ts.lo ts.ents hw hk hR ?_
  intro a xs c S h' tk' hS hx G hf ha
  obtain ⟨F', N', l'⟩ := led_fresh F N G hf ha
  exact hfin a xs c S h' tk' hS hx G hf F' N' l'
theorem past_hide {h h' : Heap} {D : Addr} {X : List Addr} (P : Past h [D] h') (hD : D ∈ X) : Grow (hideAll h X) (hideAll h' X) := fun b o e => by
  have hbX : b ∉ X := fun q => by rw [hideAll_none _ q] at e; cases e
  exact hideAll_get _ (P _ _ (of_hideAll _ e) (fun q => hbX (by rw [List.mem_singleton.mp q]; exact hD))) hbX
theorem past_law {h h' : Heap} {D : Addr} {o o' : Obj} {news : List (Addr × Obj)} (F : Fr B L h m) (N : News B L h ((D, o) :: news)) (hn : ∀ p ∈ news, p.1 ≠ D) (P : Past h [D] h') (ho : h'.get? D = some o') : Fr B L h' m ∧ News B L h' ((D, o') :: news) :=
  led_past F N (UpdF.head hn) P ho
theorem read_law {base : Bs} {outer : List Env} {t D lc : Addr} {o : Obj} {kvs : List (Str × Value)} {R : List Row} {c : Nat} {vs : List Value} {ns : List Int} (X : (hd.heap_1 w.params).In B) (T : Top headView (looseW headView [Str.ofString "EXACT"]) mean mg mb B)
    (KB : BelowM A base outer [(D, o)] s.heap) (hD : A.depth ≤ 560) (hU : A.units ≤ 1600) (hh : A.handled = none) (hBV : Grow B V) (hV : Grow V s.heap) (hVD : V.get? D = none) (hDs : s.heap.get? D = some o) (ts : TabSt w V o t D kvs R) (hk : R.length ≤ 900) (hN : Nn R)
    (hl : V.get? lc = some (listOf vs.toArray c)) (hi : IntsAre vs ns) (hz : ns.length ≤ 400) (hb : ∀ n ∈ ns, 0 ≤ n ∧ n ≤ 5000) {rows : List Row} (hr : rdAll ns (ns.length + 1) 0 = some rows) (hrN : Nn rows)
    (hfin : ∀ kvs' o' t' h' tk', (∀ V', Grow V V' → (∀ a ob, s.heap.get? a = none → h'.get? a = some ob → V'.get? a = some ob) → TabSt w V' o' t D kvs' (rows.foldl put R)) → Past s.heap [D] h' → h'.get? D = some o' → Q (.int rows.length t') { s with heap := h', toks := tk' }) :
    wpAny (model PySem.Challenge.rw_ok0052_01.row.prog w) A (call (.ref 209) [.ref t, .ref lc]) Q E s := by
  have hkl : kvs.length = R.length := paired_length ts.ents
  refine read_spec (V := V) (ns := ns) hV (X.keeps hBV) (T.keeps hBV) KB hD hU hh ts.here hDs hVD ts.dict ts.lo (by omega) hl hi hz hb ?_ (fun hn => by rw [hn] at hr; cases hr)
  intro rows' xs es o' t' h' tk' hr' hE hes P hD' ho'
  rw [hr] at hr'
  cases hr'
  refine hfin _ o' t' h' tk' (fun V' g1 g2 => ⟨ho', ts.here.grow g1, ?_, ts.lo⟩) P hD'
  have hp : Paired (fun v r => ∃ ex ed, v = .ref ex ∧ EntryV w (HV V') ed ex r) xs rows := paired_mono hE fun v r ⟨ex, ed, e, k⟩ => ⟨ex, ed, e, k.mono fun a ob q => g2 _ _ (hes _ q).1 (hes _ q).2⟩
  exact Bears.foldl (fun R w a b => injOn_key a b) hp hN hrN (ts.ents.grow g1)
/-- define, its new objects told apart -/
theorem define_new {t D l lc : Addr} {o : Obj} {kvs : List (Str × Value)} {vs vcs : List Value} {ns cs : List Int} {ex : Bool} {nl nc : Nat}
    (hV : Grow V s.heap) (X₀ : (hd.heap_1 w.params).In V) (T : Top headView (looseW headView [Str.ofString "EXACT"]) mean mg mb V)
    (hD : A.depth ≤ 560) (hU : A.units ≤ 1700) (hh : A.handled = none) (ht : TabHere w V t D) (hDs : s.heap.get? D = some o) (hDV : V.get? D = none) (hdo : o.IsDictOf (SK w) kvs) (lo : (D == sysModules) = false) (hk : kvs.length ≤ 900)
    (hl : V.get? l = some (listOf vs.toArray nl)) (hi : IntsAre vs ns) (hz : ns.length ≤ 100) (hb : ∀ n ∈ ns, 0 ≤ n ∧ n ≤ 5000) (hc : V.get? lc = some (listOf vcs.toArray nc)) (hci : IntsAre vcs cs)
    (hfin : ∀ d x o' h' tk', s.heap.get? x = none → s.heap.get? d = none → EntryV w (NewP V s.heap h') d x ⟨if ex then ns else ns.map dc, 0, cs, ex⟩ → o'.IsDictOf (SK w) (stored (without (without kvs (keyOf ns)) (keyOf (ns.map dc))) (keyOf (if ex then ns else ns.map dc)) (.ref x)) →
      Past s.heap [D] h' → h'.get? D = some o' → Q .none { s with heap := h', toks := tk' }) :
    wpAny (model PySem.Challenge.rw_ok0052_01.row.prog w) A (call (.ref 80) [.ref t, .ref l, .ref lc, .bool ex]) Q E s := by
  revert X₀; k_fill; intro X₀
  refine wpAny_call ?_
  refine' enterNR [(D, o)] [("table", .ref t), ("word", .ref l), ("codes", .ref lc), ("is_exact", .bool ex)] hV X₀ T (fun p hp => by rw [List.mem_singleton.mp hp]; exact ⟨hDs, hDV⟩) ?k6 ?k7 ?k8 ?k9 ?kB ?_ ?c2 ?c3 ?c4 ?c5
  walk_at "ENTER"
  intro g L' h₁ hg hL F' N' X' T'
  try dsimp only
  have hVg : Grow V g := grow_hide hV hDV hg
  have ht' := ht.grow hVg
  obtain ⟨td, nm, tn, p, t1, t2, t3, t4, n, ht1, ht2⟩ := ht'.ex
  have hlg : g.IsList l vs.toArray := ⟨_, hVg _ _ hl, rfl, _, rfl⟩
  have hb1 : ∀ n ∈ ns, 0 ≤ n ∧ n ≤ 10000 := fun n hn => by have := hb n hn; omega
  have hb2 : ∀ n ∈ ns.map dc, 0 ≤ n ∧ n ≤ 10000 := fun n hn => by
    obtain ⟨k, hk, rfl⟩ := List.mem_map.mp hn
    have := hb k hk
    unfold dc; split <;> omega
  have w1 : (without (without kvs (keyOf ns)) (keyOf (ns.map dc))).length ≤ 900 := Nat.le_trans without_len (Nat.le_trans without_len hk)
  have hls := hl
  clear hV X₀ T hl hDs
  cases ex
  all_goals (
    walk_at "S"
    rename Fr _ _ _ _ => F₃
    rename News _ _ _ _ => N₃
    rename Obj.IsDictOf _ _ _ => hd₃
    rename _ = keyOf _ => ek
    rw [ek] at hd₃)
  · rename IntsAre _ (ns.map dc) => i₃
    walk_at "SPLIT"
    refine hfin _ _ _ _ _ ?_ ?_ ⟨_, lc, _, vcs, _, _, _, _, _, _, nc, .inr ⟨?_, N₃.get (.head _)⟩, .inr ⟨?_, N₃.get (.tail _ (.head _))⟩, .inr ⟨?_, N₃.get (.tail _ (.tail _ (.head _)))⟩, .inl hc, i₃, hci⟩ hd₃ (fun b ob e n => F₃.keep b ob (hg b ob e (by simpa using n))) (N₃.get (by k_mem))
    · exact fresh_back hg (N₃.fresh (.head _)) (fun q => by have q' : @Eq Nat _ D := List.mem_singleton.mp q; omega)
    · exact fresh_back hg (N₃.fresh (.tail _ (.head _))) (fun q => by have q' : @Eq Nat _ D := List.mem_singleton.mp q; omega)
    · exact fresh_back hg (N₃.fresh (.head _)) (fun q => by have q' : @Eq Nat _ D := List.mem_singleton.mp q; omega)
    · exact fresh_back hg (N₃.fresh (.tail _ (.head _))) (fun q => by have q' : @Eq Nat _ D := List.mem_singleton.mp q; omega)
    · exact fresh_back hg (N₃.fresh (.tail _ (.tail _ (.head _)))) (fun q => by have q' : @Eq Nat _ D := List.mem_singleton.mp q; first | omega | exact absurd q' (by assumption) | exact absurd q'.symm (by assumption))
  · walk_at "SPLIT"
    refine hfin _ _ _ _ _ ?_ ?_ ⟨l, lc, vs, vcs, _, _, _, _, _, nl, nc, .inr ⟨?_, N₃.get (.head _)⟩, .inr ⟨?_, N₃.get (.tail _ (.head _))⟩, .inl hls, .inl hc, hi, hci⟩ hd₃ (fun b ob e n => F₃.keep b ob (hg b ob e (by simpa using n))) (N₃.get (by k_mem))
    · exact fresh_back hg (N₃.fresh (.head _)) (fun q => by have q' : @Eq Nat _ D := List.mem_singleton.mp q; omega)
    · exact fresh_back hg (N₃.fresh (.tail _ (.head _))) (fun q => by have q' : @Eq Nat _ D := List.mem_singleton.mp q; omega)
    · exact fresh_back hg (N₃.fresh (.head _)) (fun q => by have q' : @Eq Nat _ D := List.mem_singleton.mp q; omega)
    · exact fresh_back hg (N₃.fresh (.tail _ (.head _))) (fun q => by have q' : @Eq Nat _ D := List.mem_singleton.mp q; omega)
/-- a define at the law: the rows change, all but the dict stands -/
theorem define_law {t D l lc : Addr} {o : Obj} {kvs : List (Str × Value)} {R : List Row} {vs vcs : List Value} {ns cs : List Int} {ex : Bool} {nl nc : Nat} (X : (hd.heap_1 w.params).In B) (T : Top headView (looseW headView [Str.ofString "EXACT"]) mean mg mb B)
    (hD : A.depth ≤ 560) (hU : A.units ≤ 1700) (hh : A.handled = none) (hBV : Grow B V) (hV : Grow V s.heap) (hVD : V.get? D = none) (hDs : s.heap.get? D = some o) (ts : TabSt w V o t D kvs R) (hk : R.length ≤ 900) (hN : Nn R)
    (hl : V.get? l = some (listOf vs.toArray nl)) (hi : IntsAre vs ns) (hz : ns.length ≤ 100) (hb : ∀ n ∈ ns, 0 ≤ n ∧ n ≤ 5000) (hc : V.get? lc = some (listOf vcs.toArray nc)) (hci : IntsAre vcs cs)
    (hfin : ∀ kvs' o' h' tk', (∀ V', Grow V V' → (∀ a ob, s.heap.get? a = none → h'.get? a = some ob → V'.get? a = some ob) → TabSt w V' o' t D kvs' (put (drp (drp R ns) (ns.map dc)) ⟨if ex then ns else ns.map dc, 0, cs, ex⟩)) → Past s.heap [D] h' → h'.get? D = some o' → Q .none { s with heap := h', toks := tk' }) :
    wpAny (model PySem.Challenge.rw_ok0052_01.row.prog w) A (call (.ref 80) [.ref t, .ref l, .ref lc, .bool ex]) Q E s := by
  have hkl : kvs.length = R.length := paired_length ts.ents
  refine define_new (V := V) (ns := ns) (cs := cs) hV (X.keeps hBV) (T.keeps hBV) hD hU hh ts.here hDs hVD ts.dict ts.lo (by omega) hl hi hz hb hc hci ?_
  intro d x o' h' tk' _ _ hE ho' P hD'
  refine hfin _ o' h' tk' (fun V' g1 g2 => ⟨ho', ts.here.grow g1, ?_, ts.lo⟩) P hD'
  have hns : ∀ k ∈ ns, 0 ≤ k := fun k hk => (hb k hk).1
  have hdc : ∀ k ∈ ns.map dc, 0 ≤ k := fun k hk => by
    obtain ⟨n, hn, rfl⟩ := List.mem_map.mp hk
    have := hb n hn
    unfold dc; split <;> omega
  have hw' : ∀ k ∈ (if ex then ns else ns.map dc), 0 ≤ k := by cases ex <;> assumption
  have hEnt : EntryV w (HV V') d x ⟨if ex then ns else ns.map dc, 0, cs, ex⟩ := hE.mono fun a ob k => k.elim (g1 _ _) fun z => g2 _ _ z.1 z.2
  have n1 : Nn (drp R ns) := fun q hq => hN q (drp_mem hq)
  have n2 : Nn (drp (drp R ns) (ns.map dc)) := fun q hq => n1 q (drp_mem hq)
  have b1 := (ts.ents.grow g1).without (injOn_key hN hns)
  have b2 := Bears.without b1 (injOn_key n1 hdc)
  exact Bears.stored (r := ⟨if ex then ns else ns.map dc, 0, cs, ex⟩) b2 (injOn_key n2 hw') ⟨x, d, rfl, hEnt⟩
end
/-- the reader's own things ahead of its loop, the table left alone -/
inductive ReadNAt (w : World) (g : Heap) (L' : Addr) (H : Heap) (t lc : Addr) (ns : List Int) : Prop
  | mk (Df x dx : Addr) (vacc : List Value) (nD q : Nat) (t1 t2 t3 : Tok) (es : List (Addr × Obj)) (acc : List Row) (f : Nat)
    (h1 : Fr g L' H (fun y => if y = Str.ofString "found" then some (Value.ref Df) else if y = Str.ofString "reading" then some (Value.ref x) else List.lookup y ([(Str.ofString "table", Value.ref t), (Str.ofString "codes", Value.ref lc)] : List (Str × Value)).reverse)) (h2 : News g L' H ((Df, listOf vacc.toArray nD) :: (x, instObj 198 dx) :: (dx, rdDict w lc q t1 t2 t3) :: es)) (h3 : EntsOn w es vacc acc) (h4 : rdAll ns (ns.length + 1) 0 = (rdAll ns f q).map (fun r => acc ++ r)) (h5 : q ≤ ns.length) (h6 : ns.length + 1 ≤ f + q) (h7 : acc.length ≤ q) (h8 : @Ne Nat x dx) (h9 : @Ne Nat x Df) (h10 : @Ne Nat dx Df) (h11 : AllNe Df es) (h12 : AllNe dx es)
/-- a text that is no table's: read_entries raises, and nothing of the caller's has changed -/
theorem readn_spec {w : World} {A : Around} {E : Value → Shared → Prop} {s : Shared} {V : Heap} {base : Bs} {outer : List Env} {mg mb : Str → Option Value} {mean : ExcName → Option Value} {Q : Value → Shared → Prop}
    {t lc : Addr} {c : Nat} {vs : List Value} {ns : List Int}
    (hV : Grow V s.heap) (X₀ : (hd.heap_1 w.params).In V) (T : Top headView (looseW headView [Str.ofString "EXACT"]) mean mg mb V) (KB : BelowM A base outer [] s.heap)
    (hD : A.depth ≤ 560) (hU : A.units ≤ 1600) (hh : A.handled = none)
    (hl : V.get? lc = some (listOf vs.toArray c)) (hi : IntsAre vs ns) (hz : ns.length ≤ 400) (hn : rdAll ns (ns.length + 1) 0 = none)
    (hraise : ∀ e h' tk, Raised base outer h' e → E (.ref e) { s with heap := h', toks := tk }) :
    wpAny (model PySem.Challenge.rw_ok0052_01.row.prog w) A (call (.ref 209) [.ref t, .ref lc]) Q E s := by
  revert X₀; k_fill; intro X₀
  refine wpAny_call ?_
  refine' enterR True [] [("table", .ref t), ("codes", .ref lc)] hV X₀ T (fun _ h => nomatch h) KB ?k6 ?k7 ?k8 ?k9 ?kB ?R ?_ ?c2 ?c3 ?c4 ?c5
  case R => exact fun _ => hraise
  walk_at "ENTER"
  intro g L' h₁ E' hg hL F' N' X' T' K' hR' hPE
  try dsimp only
  have hVg : Grow V g := fun b o e => hg b o (hV _ _ e) (fun n => nomatch n)
  have hl' := hVg _ _ hl
  have hll : g.IsList lc vs.toArray := ⟨_, hl', rfl, _, rfl⟩
  have hlen := hi.length
  have hz' : ns.length ≤ 1000 := by omega
  walk_at "S"
  refine whl_start 1 ?_
  try dsimp only
  k_sweep
  rename Fr _ _ _ _ => F₀
  rename News _ _ _ _ => N₀
  rename Heap => H
  have e0 : ReadNAt w g L' H t lc ns := by
    rename (_ < _ ∧ _ < _) => l1
    refine ⟨_, _, _, [], _, 0, _, _, _, [], [], ns.length + 1, F₀, N₀, .nil, by cases rdAll ns (ns.length + 1) 0 <;> rfl, Nat.zero_le _, by omega, Nat.zero_le _, ?_, Nat.ne_of_lt l1.1, Nat.ne_of_lt l1.2, trivial, trivial⟩
    exact Nat.ne_of_gt (by assumption)
  clear F₀ N₀
  obtain ⟨Df, x, dx, vacc, nD, q, t1, t2, t3, es, acc, f, F₁, N₁, hE, e1, hq, hf, ha, n1, n2, n3, a1, a2⟩ := e0
  revert F₁ N₁
  generalize tk = tt
  induction f generalizing H q acc vacc nD t3 es tt with
  | zero => omega
  | succ f ih =>
  intro F₁ N₁
  refine whl_turn hPE ?_
  walk_at "S"
  by_cases hc : q < ns.length
  · refine WhlIf.yes (by simp; omega) ?_
    walk_at "S"
    rotate_left
    · unfold Hold
      intro ex ed es' t3' h' tk' r p' hr he F₃ N₃ hoff
      have bE := rdEntry_spec hr
      try dsimp only at N₃ hoff
      have o1 : ∀ p ∈ es' ++ es, p.1 ≠ Df := fun p hp => (List.mem_append.mp hp).elim (fun z => hoff p z _ (.head _)) (allNe_mem a1 p)
      have o2 : ∀ p ∈ es' ++ es, p.1 ≠ dx := fun p hp => (List.mem_append.mp hp).elim (fun z => hoff p z _ (.tail _ (.tail _ (.head _)))) (allNe_mem a2 p)
      have N₄ : News g L' h' ((Df, listOf vacc.toArray nD) :: (x, instObj 198 dx) :: (dx, rdDict w lc p' t1 t2 t3') :: (es' ++ es)) := fun p hp => N₃ p (by
        rcases List.mem_cons.mp hp with rfl | hp
        · exact List.mem_append_right _ (.head _)
        rcases List.mem_cons.mp hp with rfl | hp
        · exact List.mem_append_right _ (.tail _ (.head _))
        rcases List.mem_cons.mp hp with rfl | hp
        · exact List.mem_append_right _ (.tail _ (.tail _ (.head _)))
        rcases List.mem_append.mp hp with hp | hp
        · exact List.mem_append_left _ hp
        · exact List.mem_append_right _ (.tail _ (.tail _ (.tail _ hp))))
      clear N₃ hoff F₁ N₁
      have hvl : vacc.length = acc.length := paired_length hE
      generalize hes : es' ++ es = es₂ at N₄ o1 o2
      walk_at "S"
      rename News _ _ _ _ => N₃
      rename Fr _ _ _ _ => F₃
      simp only [List.push_toArray] at N₃
      refine ih (H := _) (q := p') (acc := acc ++ [r]) (vacc := vacc ++ [.ref ex]) (nD := _) (t3 := _) (es := es₂) (tt := _) ?_ ?_ (by omega) (by omega) (by simp; omega) (allNe_of o1) (allNe_of o2) F₃ N₃
      · exact Paired.snoc (hE.mono fun p hp => hes ▸ List.mem_append_right _ hp) ⟨ex, ed, rfl, he.mono fun a o z => hes ▸ List.mem_append_left _ z⟩
      · rw [e1, rdAll_succ, if_pos hc, hr]
        dsimp only
        cases rdAll ns f p' <;> simp
    · exact hR' trivial _ _ _ (by assumption)
  · have eall : rdAll ns (ns.length + 1) 0 = some acc := by rw [e1, rdAll_succ, if_neg hc]; simp
    rw [hn] at eall
    cases eall
theorem readn_law {w : World} {A : Around} {E : Value → Shared → Prop} {s : Shared} {B : Heap} {base : Bs} {outer : List Env} {L : Addr} {m mg mb : Str → Option Value} {mean : ExcName → Option Value} {Q : Value → Shared → Prop}
    {t lc : Addr} {c : Nat} {vs : List Value} {ns : List Int} (F : Fr B L s.heap m) (X : (hd.heap_1 w.params).In B) (T : Top headView (looseW headView [Str.ofString "EXACT"]) mean mg mb B) (KB : BelowM A base outer [] s.heap)
    (hD : A.depth ≤ 560) (hU : A.units ≤ 1600) (hh : A.handled = none)
    (hl : s.heap.get? lc = some (listOf vs.toArray c)) (hi : IntsAre vs ns) (hz : ns.length ≤ 400) (hn : rdAll ns (ns.length + 1) 0 = none)
    (hraise : ∀ e h' tk, Raised base outer h' e → E (.ref e) { s with heap := h', toks := tk }) :
    wpAny (model PySem.Challenge.rw_ok0052_01.row.prog w) A (call (.ref 209) [.ref t, .ref lc]) Q E s :=
  readn_spec (V := s.heap) Grow.rfl (X.keeps F.keep) (T.keeps F.keep) KB hD hU hh hl hi hz hn hraise
noncomputable def a0 : Row := ⟨[97], 0, [98], false⟩
noncomputable abbrev lawEnv (L fa : Addr) (cd : Value) : Env := envOf (Str.ofString "law") lawFd.scope L fa cd
theorem add_law {prog : Program} {w : World} {A : Around} {E : Value → Shared → Prop} {s : Shared} {B : Heap} {L : Addr} {m : Str → Option Value} {news : List (Addr × Obj)} {Q : Value → Shared → Prop} {a b : Addr} {xs ys : List Value} {c1 c2 : Nat}
    (F : Fr B L s.heap m) (N : News B L s.heap news) (ha : s.heap.get? a = some (listOf xs.toArray c1)) (hb : s.heap.get? b = some (listOf ys.toArray c2)) (hz : xs.length + ys.length ≤ 10000)
    (h : ∀ D h', Grow s.heap h' → Fr B L h' m → News B L h' ((D, listOf (xs ++ ys).toArray 0) :: news) → AllNe D news → Q (.ref D) { s with heap := h' }) :
    wpAny (model prog w) A (binaryOp .Add (.ref a) (.ref b)) Q E s := by
  refine P.add_list ha hb ?_ (by rw [List.size_toArray, List.size_toArray, sizeLine_eq]; omega)
  have G : Grow s.heap (s.heap.push { cls := .type "list", data := .seq (xs.toArray ++ ys.toArray) }) := fun b o e => Heap.get?_push_of_some _ e
  have hf : s.heap.get? s.heap.objs.size = none := Heap.get?_none_of_le (Nat.le_refl _)
  obtain ⟨F', N', l'⟩ := led_fresh (o := listOf (xs ++ ys).toArray 0) F N G hf (by rw [← List.append_toArray]; exact Heap.get?_push_size _ rfl)
  exact h _ _ G F' N' l'
theorem rows_app {P : Addr → Obj → Prop} {xs ys : List Value} {R S : List Row} (h : RowsV P xs R) (h' : RowsV P ys S) : RowsV P (xs ++ ys) (R ++ S) := by
  unfold RowsV at *
  induction h with
  | nil => exact h'
  | cons e _ ih => exact .cons e ih
theorem tail13 {w : World} {A₀ : Around} {E : Value → Shared → Prop} {s : Shared} {B V : Heap} {L fa : Addr} {cd : Value} {m mg mb : Str → Option Value} {mean : ExcName → Option Value} {Q : Flow → Shared → Prop}
    {du bf t3 D3 : Addr} {tm : Tok} {dxs bxs : List Value} {c1 c2 : Nat} {o3 : Obj} {kvs : List (Str × Value)} {due : List Row}
    (F : Fr B L s.heap m) (X : (hd.heap_1 w.params).In B) (T : Top headView (looseW headView [Str.ofString "EXACT"]) mean mg mb B) (hD : A₀.depth ≤ 400) (hU : A₀.units ≤ 1000) (hh : A₀.handled = none) (hgd : A₀.guards = some [])
    (m1 : m (Str.ofString "due") = some (.ref du)) (m2 : m (Str.ofString "many") = some (.int due.length tm)) (m3 : m (Str.ofString "third") = some (.ref t3)) (m4 : m (Str.ofString "before") = some (.ref bf))
    (N : News B L s.heap [(du, listOf (List.toArray dxs) c1), (bf, listOf (List.toArray bxs) c2), (D3, o3)]) (hBV : Grow B V) (hV : Grow V s.heap) (hVD : V.get? D3 = none) (ts : TabSt w V o3 t3 D3 kvs (due.foldl put [a0])) (hb : RowsV (HV V) bxs [a0]) (hd' : RowsV (HV V) dxs due)
    (hdb : ∀ r ∈ due, r.word.length ≤ 400 ∧ ∀ k ∈ r.word, 0 ≤ k ∧ k ≤ 5000) (hdl : due.length < 50)
    (hfin : Hold (∀ h' tk', Grow B h' → Q (.ret (.bool true)) { s with heap := h', toks := tk' })) :
    wpAny (model PySem.Challenge.rw_ok0052_01.row.prog w) (A₀.deeper (lawEnv L fa cd)) (execs (lawBody.drop 13) (lawEnv L fa cd)) Q E s := by
  revert X; k_fill; intro X
  unfold lawEnv lawBody lawFd recOf
  dsimp only [List.drop]
  rw [map_is m1, map_is m2, map_is m3, map_is m4] at F
  have hdl2 : dxs.length = due.length := paired_length hd'
  walk_at "S"
  refine call_len_list ⟨_, N.get (.head _), rfl, _, rfl⟩ (by rw [List.size_toArray]; omega) ?_
  rw [List.size_toArray, hdl2]
  walk_at "S"
  · rename Fr _ _ _ _ => F₁
    rename News _ _ _ _ => N₁
    have hwd : Wds (due.foldl put [a0]) := foldl_put_words (List.pairwise_singleton _ _)
    have hpl := foldl_put_len (S := due) (R := [a0])
    rw [show [a0].length = 1 from rfl] at hpl
    refine rows_law F₁ N₁ X T (by walk_at "DU") (by walk_at "DU") hh hBV hV hVD (N₁.get (.tail _ (.tail _ (.head _)))) ts hwd (by omega) ?_
    intro D4 xs4 c4 S4 h4 tk4 hS4 hx4 G4 hf4 F₂ N₂ n4
    have hb2 := hb.mono (P' := HV h4) fun a o e => G4 _ _ (hV _ _ e)
    have hd2 := hd'.mono (P' := HV h4) fun a o e => G4 _ _ (hV _ _ e)
    clear F₁ N₁
    walk_at "S"
    refine add_law F₂ N₂ (N₂.get (.tail _ (.tail _ (.head _)))) (N₂.get (.tail _ (.head _))) (by have := paired_length hb2; simp at this; omega) ?_
    intro D5 h5 G5 F₃ N₃ n5
    have hb3 := hb2.mono (P' := HV h5) fun a o e => G5 _ _ e
    have hd3 := hd2.mono (P' := HV h5) fun a o e => G5 _ _ e
    have hx5 := hx4.mono (P' := HV h5) fun a o e => G5 _ _ (e.now fun b o z => G4 _ _ (hV _ _ z))
    have hR5 : ∀ r ∈ [a0] ++ due, r.word.length ≤ 400 ∧ ∀ k ∈ r.word, 0 ≤ k ∧ k ≤ 5000 := fun r hr => by
      rcases List.mem_append.mp hr with z | z
      · rw [List.mem_singleton.mp z]
        exact ⟨by decide, by decide⟩
      · exact hdb r z
    clear F₂ N₂
    walk_at "S"
    refine last_law F₃ N₃ X T (by walk_at "DU") (by walk_at "DU") hh hgd (N₃.get (.head _)) (rows_app hb3 hd3) (by simp; omega) hR5 ?_
    intro D6 xs6 c6 S6 h6 tk6 hS6 hx6 G6 hf6 F₄ N₄ n6
    rw [List.foldl_append, show [a0].foldl put [] = [a0] from rfl] at hS6
    have e6 := hS4.uniq hS6
    subst e6
    have hx7 := hx5.mono (P' := HV h6) fun a o e => G6 _ _ e
    clear F₃ N₃
    refine eq_rows (N₄.get (.tail _ (.tail _ (.head _)))) (N₄.get (.head _)) hx7 hx6 (by walk_at "DU") ?_
    exact hfin _ _ F₄.keep
local macro_rules | `(tactic| walk_at "SL") => ln_walk ln_not
local macro_rules | `(tactic| walk_at "SX") => ln_walk ("execs List.cons:2 _" :: ln_not)
theorem hide_in {V h : Heap} {X : List Addr} (hV : Grow V h) (hX : ∀ x ∈ X, V.get? x = none) : Grow V (hideAll h X) := fun b o e => hideAll_get _ (hV _ _ e) fun q => by rw [hX b q] at e; cases e
theorem grow_un {V h : Heap} {X : List Addr} (g : Grow V (hideAll h X)) : Grow V h := fun b o e => of_hideAll _ (g b o e)
theorem new_in {h h' : Heap} {X : List Addr} (hX : ∀ x ∈ X, ∃ o, h.get? x = some o) : ∀ a ob, h.get? a = none → h'.get? a = some ob → (hideAll h' X).get? a = some ob := fun a ob e1 e2 => hideAll_get _ e2 fun q => by
  obtain ⟨o, e⟩ := hX a q
  rw [e1] at e; cases e
theorem in_two {α : Type} {P : α → Prop} {a b : α} (ha : P a) (hb : P b) : ∀ x ∈ [a, b], P x := by
  intro x hx
  rcases List.mem_cons.mp hx with rfl | hx
  · exact ha
  · rw [List.mem_singleton.mp hx]; exact hb
theorem tail12s {w : World} {A₀ : Around} {E : Value → Shared → Prop} {s : Shared} {B V : Heap} {outer : List Env} {L fa : Addr} {cd : Value} {m mg mb : Str → Option Value} {mean : ExcName → Option Value} {Q : Flow → Shared → Prop}
    {du bf t3 D3 sp : Addr} {dxs bxs sxs : List Value} {c1 c2 c4 : Nat} {o3 : Obj} {kvs : List (Str × Value)} {due : List Row} {ns : List Int}
    (F : Fr B L s.heap m) (X : (hd.heap_1 w.params).In B) (T : Top headView (looseW headView [Str.ofString "EXACT"]) mean mg mb B) (K0 : Below A₀ B outer B) (hD : A₀.depth ≤ 400) (hU : A₀.units ≤ 1000) (hh : A₀.handled = none) (hgd : A₀.guards = some [])
    (m1 : m (Str.ofString "due") = some (.ref du)) (m2 : m (Str.ofString "spoilt") = some (.ref sp)) (m3 : m (Str.ofString "third") = some (.ref t3)) (m4 : m (Str.ofString "before") = some (.ref bf))
    (N : News B L s.heap [(D3, o3), (du, listOf (List.toArray dxs) c1), (bf, listOf (List.toArray bxs) c2), (sp, listOf (List.toArray sxs) c4)]) (hBV : Grow B V) (hV : Grow V s.heap) (hVL : V.get? L = none) (hVD : V.get? D3 = none)
    (g1 : V.get? du = some (listOf (List.toArray dxs) c1)) (g2 : V.get? bf = some (listOf (List.toArray bxs) c2)) (g3 : V.get? sp = some (listOf (List.toArray sxs) c4))
    (ts : TabSt w V o3 t3 D3 kvs [a0]) (hb : RowsV (HV V) bxs [a0]) (hd' : RowsV (HV V) dxs due)
    (hi : IntsAre sxs ns) (hz : ns.length ≤ 400) (hbn : ∀ n ∈ ns, 0 ≤ n ∧ n ≤ 5000) (hr : rdAll ns (ns.length + 1) 0 = some due)
    (hdb : ∀ r ∈ due, r.word.length ≤ 400 ∧ ∀ k ∈ r.word, 0 ≤ k ∧ k ≤ 5000) (hdl : due.length < 50)
    (hfin : Hold (∀ h' tk', Grow B h' → Q (.ret (.bool true)) { s with heap := h', toks := tk' })) :
    wpAny (model PySem.Challenge.rw_ok0052_01.row.prog w) (A₀.deeper (lawEnv L fa cd)) (execs (lawBody.drop 12) (lawEnv L fa cd)) Q E s := by
  revert X; k_fill; intro X
  unfold lawEnv lawBody lawFd recOf
  dsimp only [List.drop]
  rw [map_is m1, map_is m2, map_is m3, map_is m4] at F
  walk_at "SL"
  walk1
  walk_at "SL"
  rename Fr _ _ _ _ => F₁
  rename News _ _ _ _ => N₁
  have nd : ∀ {a : Addr} {ob : Obj}, V.get? a = some ob → a ≠ D3 := fun {a ob} e q => by rw [q, hVD] at e; cases e
  refine read_law X T (below_law K0 F₁ (fun p hp => N₁ p (by rw [List.mem_singleton.mp hp]; exact .head _))) (by walk_at "DU") (by walk_at "DU") hh hBV hV hVD (N₁.get (.head _)) ts (by decide) (fun r hr k hk => by
    rw [List.mem_singleton.mp hr] at hk
    exact (show ∀ k ∈ a0.word, 0 ≤ k from by decide) k hk) g3 hi hz hbn hr (fun r hr k hk => ((hdb r hr).2 k hk).1) ?_
  intro kvs' o' t' h' tk' ts' P' ho'
  have hLs : ∃ o, s.heap.get? L = some o := by obtain ⟨oL, _, _, hL, _⟩ := F₁.ns; exact ⟨oL, hL⟩
  have hX1 : ∀ x ∈ [L, D3], ∃ o, s.heap.get? x = some o := in_two hLs ⟨_, N₁.get (.head _)⟩
  have hX2 : ∀ x ∈ [L, D3], B.get? x = none := in_two (Heap.get?_none_of_le F₁.above) (N₁.fresh (.head _))
  have hX3 : ∀ x ∈ [L, D3], V.get? x = none := in_two hVL hVD
  have hVV : Grow V (hideAll h' [L, D3]) := (hide_in hV hX3).trans (past_hide P' (.tail _ (.head _)))
  have ts2 := ts' _ hVV (new_in hX1)
  obtain ⟨F₂, N₂⟩ := past_law F₁ N₁ (of_three (nd g1) (nd g2) (nd g3)) P' ho'
  obtain ⟨es, N₃, hB2, hes⟩ := snap F₂ N₂ (X := [L, D3]) (.head _) hX2
  simp only [List.cons_append, List.nil_append] at N₃
  clear F₁ N₁ N₂ ts'
  walk_at "SX"
  rename_i h9 F₄ N₄
  have hV4 := hes _ _ F₄ fun p hp => N₄.get (.tail _ (.tail _ (.tail _ (.tail _ hp))))
  refine tail13 (kvs := kvs') F₄ X T hD hU hh hgd rfl rfl rfl rfl (of_three (N₄ _ (.tail _ (.head _))) (N₄ _ (.tail _ (.tail _ (.head _)))) (N₄ _ (.head _))) hB2 (grow_un hV4) (hideAll_none _ (.tail _ (.head _))) ts2 (hb.mono fun a o e => hVV _ _ e) (hd'.mono fun a o e => hVV _ _ e) hdb hdl ?_
  unfold Hold at hfin ⊢
  intro h2 tk2
  exact hfin h2 tk2
section
open Builtin Builtin.ObjectAttr
/-- a name of the exception's own dict, read -/
theorem sig_attr {prog : Program} {w : World} {A : Around} {E : Value → Shared → Prop} {h : Heap} {g : Array GenState} {d : Drawn} {t : Nat} {os : OsState} {x dx : Addr} {mN mA : Str → Option Value} {v : Value} {o : Obj} {vs : Array Value} {expr : Bool} {Q : Value → Shared → Prop}
    (hC : h.get? 104 = some sigC) (hn : h.Ns 103 mN) (hm1 : mN "__getattribute__" = none) (hm2 : mN "__getattr__" = none) (hm3 : mN "symbol" = none)
    (hx : h.get? x = some o) (hc : o.cls = .ref 104) (hdx : o.dict = some dx) (hdt : o.data = .fields vs) (hns : h.Ns dx mA) (hv : mA "symbol" = some v) (hh : handedOut v = pure v) (hq : Q v ⟨h, g, d, t + 1, os⟩) :
    wpAny (model prog w) A (getAttr (.ref x) "symbol" expr) Q E ⟨h, g, d, t, os⟩ := by
  have FB := PySem.F.attrBase_Exception
  have f3 := FB.ga.bind (.ref x)
  have hx0 : (expr && onTheHeap (Value.builtin "BaseException.__getattribute__")) = false := by cases expr <;> rfl
  have hx2 : (Value.builtin "BaseException.__getattribute__" == Value.builtin "object.__getattribute__") = false := by decide +kernel
  have hx1 : (onTheHeap (Value.ref 104) && Value.builtin "BaseException.__getattribute__" == Value.builtin "object.__getattribute__") = false := by rw [hx2]; rfl
  have hB : typeLookup (.type "Exception") "symbol" = pure none := by rw [typeLookup_type, builtinLookup_eq_fast]; kernel_rfl
  unfold getAttr
  repeat (any_goals (first | assumption | (with_reducible refine wpAny_loadPart_at hx ?_; rw [hc]) | (with_reducible refine wpAny_typeLookup_exc hC hn FB.mro FB.ga.lookup ?_; rw [hm1]) | (with_reducible refine wpAny_typeLookup_exc hC hn FB.mro FB.noGetattr ?_; rw [hm2]) | wp_step))
  refine codeAny_call_builtin FB.ga.plain F.entry_bexc_ga (wpAny_check_ga_own FB hC .base hx hc ?_)
  unfold Builtin.«object.__getattribute__»
  repeat (any_goals (first | assumption | (with_reducible refine wpAny_loadPart_at hx ?_; rw [hc]) | (with_reducible refine wpAny_typeLookup_exc hC hn FB.mro hB ?_; rw [hm3]) | wp_step))
  rw [hdt]
  dsimp only
  unfold instanceDict
  repeat (any_goals (first | assumption | (with_reducible refine wpAny_loadPart_at hx ?_; rw [hc]) | (with_reducible refine wpAny_loadPart_at hC ?_) | wp_step))
  rw [hdx]
  repeat (any_goals (first | (with_reducible refine wpAny_nsGet hns ?_; rw [hv]) | wp_step))
  exact hq
end
/-- at the law's frame: K0's base with all but the frame of the law -/
theorem below_law0 {A₀ : Around} {B H : Heap} {L a : Addr} {m : Str → Option Value} {name : Str} {scope : Scope} {cd : Value} (K0 : Below A₀ B [] B) (F : Fr B L H m) (hk : scope.kind = .function := by rfl) :
    BelowM (A₀.deeper (envOf name scope L a cd)) ⟨hideAll H [L], L, m⟩ [envOf name scope L a cd] [] H := by
  have b := (below_law K0 F (news := []) (fun _ h => nomatch h) hk (a := a) (name := name) (cd := cd)).k
  obtain ⟨oL, _, _, hL, hd, _⟩ := id F.ns
  refine ⟨⟨⟨b.b.stack, fun c o e => of_hideAll _ e, b.b.frames.1, ⟨L, oL, rfl, hideAll_none _ (.head _), hL, fun vs q => by rw [hd] at q; cases q⟩, trivial⟩, b.mem, F.ns⟩, fun _ h => nomatch h⟩
/-- what is left of the exception when the suite of its handler begins -/
inductive SigIs (h : Heap) (e : Addr) : Prop
  | mk (d : Addr) (oe : Obj) (vs : Array Value) (mA : Str → Option Value) (t : Tok) (h1 : h.get? e = some oe) (h2 : oe.cls = .ref 104) (h3 : oe.dict = some d) (h4 : oe.data = .fields vs) (h5 : h.Ns d mA) (h6 : mA "symbol" = some (.str "error" t)) (h7 : vs[2]? = some .none)
theorem caught_law {prog : Program} {w : World} {A₀ : Around} {E : Value → Shared → Prop} {s' : Shared} {B H : Heap} {L a e : Addr} {m mg mb : Str → Option Value} {mean : ExcName → Option Value} {name : Str} {scope : Scope} {cd : Value} {KF : Frag} {p : Program} {loose : List Str}
    {x n : Str} {np pos : Pos} {b₀ : Stmt} {suite : List Stmt} {rest : List ExceptHandler} {Q : Flow → Shared → Prop}
    (K0 : Below A₀ B [] B) (F : Fr B L H m) (X : KF.In B) (T : Top p loose mean mg mb B) (R : Raised ⟨hideAll H [L], L, m⟩ [envOf name scope L a cd] s'.heap e)
    (hC : B.get? 104 = some sigC) (ex : nsIn KF mainGlobals x = some (some (.ref 104)))
    (k : ∀ h' tk, Fr B L h' (fun y => if y = n then some (.ref e) else m y) → Grow (hideAll H [L]) (hideAll h' [L]) → SigIs h' e → H.get? e = none →
      wpAny (model prog w) ((A₀.deeper (envOf name scope L a cd)).mark (some (.ref e))) (execs (b₀ :: suite) (envOf name scope L a cd))
        (fun f s₄ => wpAny (model prog w) (A₀.deeper (envOf name scope L a cd)) (do bindName (envOf name scope L a cd) n .none; unbindBehindTheSuite (envOf name scope L a cd) n pos) (fun _ s₅ => Q f s₅) E s₄)
        (AsSuiteRaised (model prog w) ((A₀.deeper (envOf name scope L a cd)).mark (some (.ref e))) (envOf name scope L a cd) n pos (notedBy (model prog w) ((A₀.deeper (envOf name scope L a cd)).mark (some (.ref e))) (envOf name scope L a cd) (cameBackBy (model prog w) (A₀.deeper (envOf name scope L a cd)) (envOf name scope L a cd) E)))
        { s' with heap := h', toks := tk })
    (hk : scope.kind = .function := by rfl) (hlo : (envOf name scope L a cd).kindOf n = some .local := by rfl) (hx : (envOf name scope L a cd).kindOf x = some .globalImplicit := by rfl) (hd : (x == ("__debug__" : Str)) = false := by decide) :
    wpAny (model prog w) (A₀.deeper (envOf name scope L a cd)) (noteFrame (.ref e) (envOf name scope L a cd))
      (fun _ s₂ => wpAny (model prog w) (A₀.deeper (envOf name scope L a cd)) (setFlight (.ref e) none) (fun _ s₃ =>
        wpAny (model prog w) (A₀.deeper (envOf name scope L a cd)) (handleBy (.ref e) (envOf name scope L a cd) (.ExceptHandler (some (.Name x np)) (some n) (b₀ :: suite) pos :: rest)) Q E s₃) E s₂) E s' := by
  obtain ⟨B', d, mA, t, hB, hfl, hde, hns, hsy, hL⟩ := R
  have hBL : B.get? L = none := Heap.get?_none_of_le F.above
  have hL' : B'.get? L = none := by
    obtain ⟨_, ⟨L', _, hf, hn', _⟩, _⟩ := hfl.2.2.1
    obtain rfl : L = L' := Option.some.inj hf
    exact hn'
  have hBB : Grow B B' := fun b o q => hB _ _ (hideAll_get _ (F.keep _ _ q) fun z => by rw [List.mem_singleton.mp z, hBL] at q; cases q)
  have fr : ∀ {h : Heap}, B'.StaysIn h → h.Ns L m → Fr B L h m := fun st hn => ⟨hn, fun b o q => st _ _ (hBB _ _ q), F.above⟩
  refine fly_note_next (Around.frames_deeper K0.stack) rfl hfl fun h₄ fl₄ up₄ => ?_
  refine fly_setNone fl₄ fun h₅ fl₅ up₅ => ?_
  have n₅ := up₅.ns (up₄.ns hL)
  have F₅ := fr fl₅.1 n₅
  obtain ⟨oe₅, _, _, _, _, he₅, hc₅, _⟩ := fl₅.2.2.2
  refine wpAny_handleBy_cons (codeAny_handlers_test (name_K F₅ X (topRead_of T) ex ?_ hk hx hd)) (by intro q; cases q)
  refine wpAny_excMatches_sub_self (F₅.keep _ _ hC) he₅ hc₅ (by simp) (codeAny_handlers_suite_as ?_)
  refine fly_setNone fl₅ fun h₆ fl₆ up₆ => ?_
  have n₆ := up₆.ns n₅
  have F₆ := fr fl₆.1 n₆
  obtain ⟨oe₆, vs₆, _, _, _, he₆, hc₆, hd₆, hv₆, _, _, _, _, _, _, hz₆⟩ := fl₆.2.2.2
  refine wpAny_storeName_local hlo n₆ (fun h₇ hn₇ hs₇ => ?_) (by show (scope.kind == .class || (scope.kind == .module && L != mainGlobals)) = false; rw [hk]; rfl)
  have heB : B'.get? e = none := fl₆.2.1
  have keep : ∀ b o, b ≠ L → h₆.get? b = some o → h₇.get? b = some o := fun b o hb q => (hs₇.2 b hb).trans q
  have heL : e ≠ L := fun q => by
    obtain ⟨oL, es, ep, hoL, hdL, _⟩ := n₆
    rw [← q, he₆] at hoL
    cases hoL
    rw [hv₆] at hdL; cases hdL
  have hdL : d ≠ L := fun q => by
    obtain ⟨oL, es, ep, hoL, hdL, _⟩ := hns.ns
    rw [q, hL'] at hoL; cases hoL
  refine k h₇ _ (F₆.set hn₇ hs₇) (fun b o q => ?_) ⟨d, oe₆, vs₆, mA, t, keep _ _ heL he₆, hc₆, hd₆, hv₆, (hns.ns.at' (fl₆.1 _)).at' fun o q => keep _ _ hdL q, hsy, hz₆⟩ ?_
  · have hbL : b ≠ L := fun z => by rw [z, hideAll_none _ (.head _)] at q; cases q
    exact hideAll_get _ (keep _ _ hbL (fl₆.1 _ _ (hB _ _ q))) fun z => hbL (List.mem_singleton.mp z)
  · cases q : H.get? e with
    | none => rfl
    | some o => have := hB _ _ (hideAll_get _ q fun z => heL (List.mem_singleton.mp z)); rw [heB] at this; cases this
theorem rdAll_spec {ns : List Int} : ∀ {f p : Nat} {rows : List Row}, p ≤ ns.length → rdAll ns f p = some rows → 8 * rows.length + p ≤ ns.length ∧ ∀ r ∈ rows, r.word.length ≤ ns.length ∧ ∀ k ∈ r.word, k = 10 ∨ k = 34 ∨ k = 92 ∨ k ∈ ns := by
  intro f
  induction f with
  | zero => intro p rows _ h; cases h
  | succ f ih =>
    intro p rows hp h
    rw [rdAll_succ] at h
    split at h
    · split at h
      · cases h
      · rename_i r p' h1
        have b := rdEntry_spec h1
        cases e : rdAll ns f p' with
        | none => rw [e] at h; cases h
        | some rs =>
          rw [e] at h
          cases h
          have c := ih b.2.1 e
          refine ⟨by rw [List.length_cons]; omega, fun q hq => ?_⟩
          rcases List.mem_cons.mp hq with rfl | hq
          · exact ⟨by omega, b.2.2.2.2.2.1⟩
          · exact c.2 q hq
    · cases h
      exact ⟨by simpa using hp, fun _ h => nomatch h⟩
theorem due_bounds {ns : List Int} {due : List Row} (hz : ns.length ≤ 390) (hb : ∀ n ∈ ns, 0 ≤ n ∧ n ≤ 5000) (hr : rdAll ns (ns.length + 1) 0 = some due) : (∀ r ∈ due, r.word.length ≤ 400 ∧ ∀ k ∈ r.word, 0 ≤ k ∧ k ≤ 5000) ∧ due.length < 50 := by
  have c := rdAll_spec (Nat.zero_le _) hr
  refine ⟨fun r hq => ⟨Nat.le_trans (c.2 r hq).1 (by omega), fun k hk => ?_⟩, by omega⟩
  rcases (c.2 r hq).2 k hk with rfl | rfl | rfl | h
  · decide
  · decide
  · decide
  · exact hb k h
/-- a row of the law's own table -/
structure LawR (u : Int) (r : Row) : Prop where
  word : r.word.length ≤ 4
  codes : r.codes.length ≤ 5
  lo : 0 ≤ r.used
  hi : r.used ≤ u
  wb : ∀ k ∈ r.word, 0 ≤ k ∧ k ≤ 5000
  cb : ∀ k ∈ r.codes, 0 ≤ k ∧ k ≤ 5000
theorem LawR.ok {u : Int} {r : Row} (h : LawR u r) : RowOk r := ⟨fun k hk => (h.wb k hk).1, fun k hk => (h.cb k hk).1, h.lo⟩
theorem LawR.lift {u v : Int} {r : Row} (h : LawR u r) (e : u ≤ v) : LawR v r := ⟨h.1, h.2, h.3, Int.le_trans h.4 e, h.5, h.6⟩
theorem esc_bound {c : Int} (h : 0 ≤ c ∧ c ≤ 5000) : ∀ k ∈ esc c, 0 ≤ k ∧ k ≤ 5000 := by
  unfold esc
  intro k hk
  split at hk
  · simp at hk; omega
  · split at hk <;> simp at hk <;> omega
theorem quote_bound {l : List Int} (h : ∀ k ∈ l, 0 ≤ k ∧ k ≤ 5000) : ∀ k ∈ quote l, 0 ≤ k ∧ k ≤ 5000 := by
  unfold quote
  intro k hk
  rcases List.mem_append.mp hk with hk | hk
  · rcases List.mem_append.mp hk with hk | hk
    · rw [List.mem_singleton.mp hk]; decide
    · obtain ⟨c, hc, hk⟩ := List.mem_flatMap.mp hk
      exact esc_bound (h c hc) k hk
  · rw [List.mem_singleton.mp hk]; decide
theorem writ_bound {u : Int} {r : Row} (h : LawR u r) (hu : u ≤ 10000) : (writ r).length ≤ 37 ∧ ∀ k ∈ writ r, 0 ≤ k ∧ k ≤ 5000 := by
  have q1 := quote_len r.word
  have q2 := quote_len r.codes
  have q3 : (dig r.used).length ≤ 6 := by unfold dig; rw [List.length_map]; exact txt_len ⟨h.lo, Int.le_trans h.hi hu⟩
  have q4 := h.word
  have q5 := h.codes
  constructor
  · unfold writ
    cases r.exact <;> simp only [List.length_append, List.length_cons, List.length_nil, if_true, if_false, Bool.false_eq_true] <;> omega
  · intro k hk
    unfold writ at hk
    rcases List.mem_append.mp hk with hk | hk
    · rcases List.mem_append.mp hk with hk | hk
      · rcases List.mem_append.mp hk with hk | hk
        · rcases List.mem_append.mp hk with hk | hk
          · rcases List.mem_append.mp hk with hk | hk
            · rcases List.mem_append.mp hk with hk | hk
              · exact quote_bound h.wb k hk
              · rw [List.mem_singleton.mp hk]; decide
            · have := dig_digits h.lo k hk; omega
          · rw [List.mem_singleton.mp hk]; decide
        · exact quote_bound h.cb k hk
      · split at hk
        · simp at hk; omega
        · cases hk
    · rw [List.mem_singleton.mp hk]; decide
theorem text_bound {u : Int} {S : List Row} (h : ∀ r ∈ S, LawR u r) (hu : u ≤ 10000) (hl : S.length ≤ 5) : (S.flatMap writ).length ≤ 185 ∧ ∀ k ∈ S.flatMap writ, 0 ≤ k ∧ k ≤ 5000 := by
  have := flat_writ_len (B := 37) (S := S) fun r hr => (writ_bound (h r hr) hu).1
  refine ⟨by omega, fun k hk => ?_⟩
  obtain ⟨r, hr, hk⟩ := List.mem_flatMap.mp hk
  exact (writ_bound (h r hr) hu).2 k hk
theorem text_back {u : Int} {S : List Row} (h : ∀ r ∈ S, LawR u r) : rdAll (S.flatMap writ) ((S.flatMap writ).length + 1) 0 = some S :=
  rdAll_writ (fun r hr => (h r hr).ok) rfl (by omega) (Nat.zero_le _)
local macro_rules | `(tactic| walk_at "SE") => ln_walk ["compareOp CmpOp.Eq Value.ref:1 Value.ref:1", "getAttr Value.ref:1 _ _", "call Value.ref:1 _ _", "EX"]
theorem tail12n {w : World} {A₀ : Around} {E : Value → Shared → Prop} {s : Shared} {B V : Heap} {L fa : Addr} {cd : Value} {m mg mb : Str → Option Value} {mean : ExcName → Option Value} {Q : Flow → Shared → Prop}
    {bf t3 D3 sp : Addr} {bxs sxs : List Value} {c2 c4 : Nat} {o3 : Obj} {kvs : List (Str × Value)} {ns : List Int}
    (F : Fr B L s.heap m) (X : (hd.heap_1 w.params).In B) (T : Top headView (looseW headView [Str.ofString "EXACT"]) mean mg mb B) (K0 : Below A₀ B [] B) (hD : A₀.depth ≤ 400) (hU : A₀.units ≤ 1000) (hh : A₀.handled = none)
    (m1 : m (Str.ofString "due") = some .none) (m2 : m (Str.ofString "spoilt") = some (.ref sp)) (m3 : m (Str.ofString "third") = some (.ref t3)) (m4 : m (Str.ofString "before") = some (.ref bf))
    (N : News B L s.heap [(D3, o3), (bf, listOf (List.toArray bxs) c2), (sp, listOf (List.toArray sxs) c4)]) (hBV : Grow B V) (hV : Grow V s.heap) (hVL : V.get? L = none) (hVD : V.get? D3 = none)
    (ts : TabSt w V o3 t3 D3 kvs [a0]) (hb : RowsV (HV V) bxs [a0])
    (hi : IntsAre sxs ns) (hz : ns.length ≤ 400) (hr : rdAll ns (ns.length + 1) 0 = none)
    (hfin : Hold (∀ h' tk', Grow B h' → Q (.ret (.bool true)) { s with heap := h', toks := tk' })) :
    wpAny (model PySem.Challenge.rw_ok0052_01.row.prog w) (A₀.deeper (lawEnv L fa cd)) (execs (lawBody.drop 12) (lawEnv L fa cd)) Q E s := by
  revert X; k_fill; intro X
  unfold lawEnv lawBody lawFd recOf
  dsimp only [List.drop]
  rw [map_is m1, map_is m2, map_is m3, map_is m4] at F
  walk_at "SL"
  walk1
  walk_at "SL"
  rename Fr _ _ _ _ => F₁
  rename News _ _ _ _ => N₁
  have K := below_law0 (a := fa) (name := Str.ofString "law") (scope := lawFd.scope) (cd := cd) K0 F₁
  refine readn_law F₁ X T K (by walk_at "DU") (by walk_at "DU") hh (N₁.get (.tail _ (.tail _ (.head _)))) hi hz hr ?_
  intro e h' tk R
  have hC : B.get? 104 = some sigC := X 104 _ (by k_is)
  refine caught_law K0 F₁ X T R hC (by k_is) ?_
  intro h2 tk2 F₂ G₂ S₂ hne
  obtain ⟨de, oe, ve, mA, te, he, hce, hde, hve, hnse, hsy, hv2⟩ := S₂
  have up : ∀ {b : Addr} {o : Obj}, s.heap.get? b = some o → b ≠ L → h2.get? b = some o := fun {b o} q hb => of_hideAll _ (G₂ _ _ (hideAll_get _ q fun z => hb (List.mem_singleton.mp z)))
  have N₂ : News B L h2 _ := fun p hp => ⟨up (N₁ p hp).1 (N₁ p hp).2.1, (N₁ p hp).2⟩
  obtain ⟨mN, hn⟩ : ∃ mN, B.Ns 103 mN := by
    refine ⟨_, _, _, _, X 103 _ (by k_is), rfl, fun e he => ?_, fun _ => rfl⟩
    have he' := Array.mem_toList_iff.mpr he
    simp only [List.mem_cons, List.not_mem_nil, or_false] at he'
    rcases he' with rfl | rfl | rfl | rfl | rfl | rfl <;> exact ⟨_, _, rfl⟩
  have n1 : mN "__getattribute__" = none := ns_none_of X hn (by k_is)
  have n2 : mN "__getattr__" = none := ns_none_of X hn (by k_is)
  have n3 : mN "symbol" = none := ns_none_of X hn (by k_is)
  have hsX : ∀ x ∈ [L, D3], B.get? x = none := in_two (Heap.get?_none_of_le F₁.above) (N₁.fresh (.head _))
  have hVh : Grow V h2 := fun b o q => up (hV _ _ q) fun z => by rw [z, hVL] at q; cases q
  have hVV : Grow V (hideAll h2 [L, D3]) := hide_in hVh (in_two hVL hVD)
  have heL : e ≠ L := fun q => by
    obtain ⟨oL, es, ep, hoL, hdL, _⟩ := F₂.ns
    rw [← q, he] at hoL
    cases hoL
    rw [hve] at hdL; cases hdL
  have heD : e ≠ D3 := fun q => by have := N₁.get (.head _); rw [← q, hne] at this; cases this
  have hH : HandOk ((A₀.deeper (lawEnv L fa cd)).mark (some (.ref e))) (hideAll h2 [L, D3]) := .inr ⟨e, oe, ve, rfl, hideAll_get _ he (fun z => by
    rcases List.mem_cons.mp z with rfl | z
    · exact heL rfl
    · exact heD (List.mem_singleton.mp z)), hve, hv2⟩
  have ts2 := ts.grow hVV
  have hb2 := hb.mono (P' := HV h2) fun a o q => hVh _ _ q
  clear F₁ N₁ R K
  walk_at "SE"
  refine sig_attr (F₂.keep _ _ hC) (hn.at' (F₂.keep _)) n1 n2 n3 he hce hde hve hnse hsy rfl ?_
  walk_at "SE"
  refine rows_lawH F₂ N₂ X T (show (A₀.deeper (lawEnv L fa cd)).depth ≤ 580 from by walk_at "DU") (show (A₀.deeper (lawEnv L fa cd)).units ≤ 1800 from by walk_at "DU") hH (hBV.trans hVV) (fun b o q => of_hideAll _ q) (hideAll_none _ (.tail _ (.head _))) (N₂.get (.head _)) ts2 (List.pairwise_singleton _ _) (by decide) ?_
  intro D4 xs4 c4' S4 h4 tk4 hS4 hx4 G4 hf4 F₄ N₄ n4
  have e4 := (sortOf_few (R := [a0]) (by decide)).uniq hS4
  subst e4
  have hx5 := hx4.mono (P' := HV h4) fun a o z => z.now fun b o q => G4 _ _ (of_hideAll _ q)
  have hb5 := hb2.mono (P' := HV h4) fun a o q => G4 _ _ q
  clear F₂ N₂
  walk_at "SE"
  refine eq_rows (N₄.get (.head _)) (N₄.get (.tail _ (.tail _ (.head _)))) hx5 hb5 (show (A₀.deeper (lawEnv L fa cd)).units ≤ 2100 from by walk_at "DU") ?_
  walk_at "SE"
  exact hfin _ _ (Fr.keep (by assumption))
theorem hide_grow {h h' : Heap} {X : List Addr} (g : Grow h h') : Grow (hideAll h X) (hideAll h' X) := fun b o e => hideAll_get _ (g _ _ (of_hideAll _ e)) fun q => by rw [hideAll_none _ q] at e; cases e
/-- what the law's reader gave: None, or the list of the rows -/
inductive DueAt (B : Heap) (P : Addr → Obj → Prop) : Value → Option (List Row) → Prop where
  | no : DueAt B P .none none
  | yes {du : Addr} {dxs : List Value} {c : Nat} {due : List Row} : B.get? du = none → P du (listOf dxs.toArray c) → RowsV P dxs due → DueAt B P (.ref du) (some due)
theorem DueAt.mono {B : Heap} {P P' : Addr → Obj → Prop} {v : Value} {o : Option (List Row)} (h : DueAt B P v o) (hp : ∀ a o, P a o → P' a o) : DueAt B P' v o := by
  cases h with
  | no => exact .no
  | yes h1 h2 h3 => exact .yes h1 (hp _ _ h2) (h3.mono hp)
theorem tab_new {w : World} {B h : Heap} {L x d D p : Addr} {o : Obj} {nm : Str} {t t1 t2 t3 t4 : Tok} {n : Nat} {news : List (Addr × Obj)} (N : News B L h news)
    (h1 : (x, instObj 64 d) ∈ news) (h2 : (d, dictOf [fld w "name" t1 (.str nm t), fld w "parents" t2 (.ref p), fld w "entries" t3 (.ref D), fld w "is_all_great" t4 (.bool false)] n) ∈ news)
    (hx : x ≠ D) (hd : d ≠ D) (lo : (D == sysModules) = false) (hs : Obj.IsDictOf (SK w) o []) : TabSt w (hideAll h [L, D]) o x D [] [] := by
  have off : ∀ {a : Addr} {ob : Obj}, (a, ob) ∈ news → a ≠ D → (hideAll h [L, D]).get? a = some ob := fun {a ob} hm ha => hideAll_get _ (N.get hm) fun z => by
    rcases List.mem_cons.mp z with rfl | z
    · exact (N _ hm).2.1 rfl
    · exact ha (List.mem_singleton.mp z)
  exact ⟨hs, ⟨d, nm, t, p, t1, t2, t3, t4, n, off h1 hx, off h2 hd⟩, .nil, lo⟩
theorem tail10 {w : World} {A₀ : Around} {E : Value → Shared → Prop} {s : Shared} {B V : Heap} {L fa : Addr} {cd : Value} {m mg mb : Str → Option Value} {mean : ExcName → Option Value} {Q : Flow → Shared → Prop}
    {t3 D3 sp : Addr} {vd : Value} {sxs : List Value} {c4 : Nat} {o3 : Obj} {ns : List Int}
    (F : Fr B L s.heap m) (X : (hd.heap_1 w.params).In B) (T : Top headView (looseW headView [Str.ofString "EXACT"]) mean mg mb B) (K0 : Below A₀ B [] B) (hD : A₀.depth ≤ 400) (hU : A₀.units ≤ 1000) (hh : A₀.handled = none) (hgd : A₀.guards = some [])
    (m1 : m (Str.ofString "due") = some vd) (m2 : m (Str.ofString "spoilt") = some (.ref sp)) (m3 : m (Str.ofString "third") = some (.ref t3))
    (N : News B L s.heap [(D3, o3), (sp, listOf (List.toArray sxs) c4)]) (hBV : Grow B V) (hV : Grow V s.heap) (hVL : V.get? L = none) (hVD : V.get? D3 = none) (hVs : V.get? sp = some (listOf (List.toArray sxs) c4))
    (hdu : DueAt B (HV V) vd (rdAll ns (ns.length + 1) 0)) (ts : TabSt w V o3 t3 D3 [] [])
    (hi : IntsAre sxs ns) (hz : ns.length ≤ 390) (hbn : ∀ n ∈ ns, 0 ≤ n ∧ n ≤ 5000)
    (hfin : Hold (∀ h' tk', Grow B h' → Q (.ret (.bool true)) { s with heap := h', toks := tk' })) :
    wpAny (model PySem.Challenge.rw_ok0052_01.row.prog w) (A₀.deeper (lawEnv L fa cd)) (execs (lawBody.drop 10) (lawEnv L fa cd)) Q E s := by
  revert X; k_fill; intro X
  unfold lawEnv lawBody lawFd recOf
  dsimp only [List.drop]
  rw [map_is m1, map_is m2, map_is m3] at F
  have hspB : B.get? sp = none := N.fresh (.tail _ (.head _))
  have hXB : ∀ x ∈ [L, D3], B.get? x = none := in_two (Heap.get?_none_of_le F.above) (N.fresh (.head _))
  obtain ⟨es, N₁, hB1, hes⟩ := snap F N (X := [L, D3]) (.head _) hXB
  have hVV : Grow V (hideAll s.heap [L, D3]) := hide_in hV (in_two hVL hVD)
  simp only [List.cons_append, List.nil_append] at N₁
  clear N
  walk_at "SL"
  rename_i l1 h1 d1 l2 h2 F₂ N₂ d2
  have hV2 : Grow V (hideAll h2 [L, D3]) := hVV.trans (hes _ _ F₂ fun p hp => N₂.get (.tail _ (.tail _ (.tail _ (.tail _ hp)))))
  have hB2 : Grow B (hideAll h2 [L, D3]) := hBV.trans hV2
  have notX : ∀ {a : Addr} {ob : Obj}, h2.get? a = some ob → a ≠ L → a ≠ D3 → (hideAll h2 [L, D3]).get? a = some ob := fun {a ob} e n1 n2 => hideAll_get _ e fun z => by
    rcases List.mem_cons.mp z with z | z
    · exact n1 z
    · exact n2 (List.mem_singleton.mp z)
  have mL2 := N₂ _ (.head _)
  have mL1 := N₂ _ (.tail _ (.head _))
  have n21 : l1 ≠ D3 := Nat.ne_of_gt d1.1
  have n22 : l2 ≠ D3 := Nat.ne_of_gt d2.2.1
  refine define_law (ns := [97]) (cs := [98]) (vs := [.int 97 _]) (vcs := [.int 98 _]) (nl := 0) (nc := 0) X T (by walk_at "DU") (by walk_at "DU") hh hB2 (fun b o e => of_hideAll _ e) (hideAll_none _ (.tail _ (.head _))) (N₂.get (.tail _ (.tail _ (.head _)))) (ts.grow hV2) (by decide) (fun _ h => nomatch h)
    (notX mL1.1 mL1.2.1 n21) (.cons _ _ .nil) (by decide) (by decide) (notX mL2.1 mL2.2.1 n22) (.cons _ _ .nil) ?_
  intro kvs3 o3' h3 tk3 ts3 P3 ho3
  have hL2 : ∃ o, h2.get? L = some o := by obtain ⟨oL, _, _, hL, _⟩ := F₂.ns; exact ⟨oL, hL⟩
  have hV3 : Grow (hideAll h2 [L, D3]) (hideAll h3 [L, D3]) := past_hide P3 (.tail _ (.head _))
  have ts4 : TabSt w (hideAll h3 [L, D3]) o3' t3 D3 kvs3 [a0] := ts3 _ hV3 (new_in (in_two hL2 ⟨_, N₂.get (.tail _ (.tail _ (.head _)))⟩))
  obtain ⟨F₃, N₃⟩ := past_law (news := []) F₂ (news_sub N₂ fun p hp => by rw [List.mem_singleton.mp hp]; exact .tail _ (.tail _ (.head _))) (fun _ h => nomatch h) P3 ho3
  clear F₂ N₂
  have hVh3 : Grow V (hideAll h3 [L, D3]) := hV2.trans hV3
  obtain ⟨es3, N₄, hB4, hes4⟩ := snap F₃ N₃ (X := [L, D3]) (.head _) hXB
  simp only [List.cons_append, List.nil_append] at N₄
  clear N₃
  walk_at "SL"
  refine rows_law F₃ N₄ X T (by walk_at "DU") (by walk_at "DU") hh hB4 (fun b o e => of_hideAll _ e) (hideAll_none _ (.tail _ (.head _))) (N₄.get (.head _)) ts4 (List.pairwise_singleton _ _) (by decide) ?_
  intro Db bxs cb S h4 tk4 hS hx G4 hf4 F₅ N₅ n5
  have e4 := (sortOf_few (R := [a0]) (by decide)).uniq hS
  subst e4
  have hL3 : ∃ o, h3.get? L = some o := by obtain ⟨oL, _, _, hL, _⟩ := F₃.ns; exact ⟨oL, hL⟩
  have g34 : Grow (hideAll h3 [L, D3]) (hideAll h4 [L, D3]) := hide_grow G4
  have hb4 : RowsV (HV (hideAll h4 [L, D3])) bxs [a0] := hx.mono fun a o k => NewP.hide g34 (in_two hL3 ⟨_, N₄.get (.head _)⟩) k
  clear F₃ N₄
  obtain ⟨es5, N₆, hB6, hes6⟩ := snap F₅ (news_sub N₅ (xs := [(Db, listOf bxs.toArray cb), (D3, o3')]) fun p hp => by
    rcases List.mem_cons.mp hp with rfl | hp
    · exact .head _
    · rw [List.mem_singleton.mp hp]; exact .tail _ (.head _)) (X := [L, D3]) (.head _) hXB
  simp only [List.cons_append, List.nil_append] at N₆
  clear N₅
  walk_at "SX"
  rename Fr _ _ _ _ => F₇
  rename News _ _ _ _ => N₇
  rename Heap => h6
  have g46 : Grow (hideAll h4 [L, D3]) (hideAll h6 [L, D3]) := hes6 _ _ F₇ fun p hp => N₇.get (.tail _ (.tail _ hp))
  have gV : Grow V (hideAll h6 [L, D3]) := (hVh3.trans g34).trans g46
  have hB7 : Grow B (hideAll h6 [L, D3]) := hBV.trans gV
  have off : ∀ {a : Addr} {ob : Obj}, V.get? a = some ob → a ≠ L ∧ a ≠ D3 := fun {a ob} e => ⟨fun q => (by rw [q, hVL] at e; cases e), fun q => (by rw [q, hVD] at e; cases e)⟩
  have hs6 : h6.get? sp = some (listOf (List.toArray sxs) c4) := of_hideAll _ (gV _ _ hVs)
  have Nb := N₇ _ (.head _)
  have nb : Db ≠ D3 := fun q => by
    have := n5.1
    exact this q.symm
  have hb6 := hb4.mono (P' := HV (hideAll h6 [L, D3])) fun a o q => g46 _ _ q
  have ts6 := ts4.grow (g34.trans g46)
  have hdu6 := hdu.mono (P' := HV (hideAll h6 [L, D3])) fun a o q => gV _ _ q
  have ND := N₇ _ (.tail _ (.head _))
  have NS : h6.get? sp = some (listOf (List.toArray sxs) c4) ∧ sp ≠ L ∧ B.get? sp = none := ⟨hs6, (off hVs).1, hspB⟩
  have f2 : (hideAll h6 [L, D3]).get? Db = some (listOf bxs.toArray cb) := hideAll_get _ Nb.1 fun z => by
    rcases List.mem_cons.mp z with z | z
    · exact Nb.2.1 z
    · exact nb (List.mem_singleton.mp z)
  generalize hr : rdAll ns (ns.length + 1) 0 = rd at hdu6
  clear N₇ hes6 hes4 hes hdu
  cases hdu6 with
  | no =>
    refine tail12n (bxs := bxs) (sxs := sxs) (c2 := cb) (c4 := c4) (ns := ns) F₇ X T K0 hD hU hh rfl rfl rfl rfl (of_three ND Nb NS) hB7 (fun b o e => of_hideAll _ e) (hideAll_none _ (.head _)) (hideAll_none _ (.tail _ (.head _))) ts6 hb6 hi (by omega) hr ?_
    unfold Hold at hfin ⊢
    intro h2 tk2
    exact hfin h2 tk2
  | @yes du dxs cdu due hdB hd1 hd2 =>
    have bd := due_bounds hz hbn hr
    have hd1' : (hideAll h6 [L, D3]).get? du = some (listOf dxs.toArray cdu) := hd1
    have hduL : du ≠ L := fun q => by rw [q, hideAll_none _ (.head _)] at hd1'; cases hd1'
    refine tail12s (bxs := bxs) (sxs := sxs) (c2 := cb) (c4 := c4) (ns := ns) F₇ X T K0 hD hU hh hgd rfl rfl rfl rfl (fun p hp => ?_) hB7 (fun b o e => of_hideAll _ e) (hideAll_none _ (.head _)) (hideAll_none _ (.tail _ (.head _))) hd1' f2 (gV _ _ hVs) ts6 hb6 hd2 hi (by omega) hbn hr bd.1 bd.2 ?_
    · rcases List.mem_cons.mp hp with rfl | hp
      · exact ND
      rcases List.mem_cons.mp hp with rfl | hp
      · exact ⟨of_hideAll _ hd1', hduL, hdB⟩
      rcases List.mem_cons.mp hp with rfl | hp
      · exact Nb
      · rw [List.mem_singleton.mp hp]; exact NS
    · unfold Hold at hfin ⊢
      intro h2 tk2
      exact hfin h2 tk2
/-- all of V that the base has not, as a ledger -/
noncomputable def VL (B V : Heap) : List (Addr × Obj) := ownOf B (List.range V.objs.size) V
theorem vl_mem {B V : Heap} {p : Addr × Obj} (h : p ∈ VL B V) : V.get? p.1 = some p.2 ∧ B.get? p.1 = none := by
  obtain ⟨b, hb, e⟩ := List.mem_filterMap.mp h
  cases hn : B.get? b with
  | some x => simp [hn] at e
  | none =>
    cases q : V.get? b with
    | none => simp [hn, q] at e
    | some o => simp [hn, q] at e; subst e; exact ⟨q, hn⟩
theorem vl_all {B V : Heap} (g : Grow B V) {a : Addr} {o : Obj} (h : V.get? a = some o) : B.get? a = some o ∨ (a, o) ∈ VL B V := by
  cases hn : B.get? a with
  | some x => have := g _ _ hn; rw [h] at this; cases this; exact .inl rfl
  | none => exact .inr (mem_ownOf (List.mem_range.mpr (Heap.lt_size h)) hn h)
theorem vl_new {B V : Heap} (g : Grow B V) {a : Addr} {o : Obj} (h : V.get? a = some o) (hn : B.get? a = none) : (a, o) ∈ VL B V := (vl_all g h).resolve_left fun q => by rw [hn] at q; cases q
theorem news_vl {B V h : Heap} {L : Addr} (hV : Grow V h) (hL : V.get? L = none) : News B L h (VL B V) := fun p hp => by
  obtain ⟨a, b⟩ := vl_mem hp
  exact ⟨hV _ _ a, (fun (q : p.1 = L) => by rw [q, hL] at a; cases a), b⟩
theorem news_add {B h : Heap} {L : Addr} {a b : List (Addr × Obj)} (N : News B L h a) (M : News B L h b) : News B L h (a ++ b) := fun p hp => (List.mem_append.mp hp).elim (N p) (M p)
theorem vl_grow {B V h : Heap} {L : Addr} {m : Str → Option Value} (F : Fr B L h m) (g : Grow B V) (N : ∀ p ∈ VL B V, h.get? p.1 = some p.2) : Grow V h := fun a o e => (vl_all g e).elim (F.keep _ _) fun q => N _ q
theorem tail9 {w : World} {A₀ : Around} {E : Value → Shared → Prop} {s : Shared} {B : Heap} {L fa : Addr} {cd : Value} {m mg mb : Str → Option Value} {mean : ExcName → Option Value} {Q : Flow → Shared → Prop}
    {sp : Addr} {sxs : List Value} {c4 : Nat} {ns : List Int}
    (F : Fr B L s.heap m) (X : (hd.heap_1 w.params).In B) (T : Top headView (looseW headView [Str.ofString "EXACT"]) mean mg mb B) (K0 : Below A₀ B [] B) (hD : A₀.depth ≤ 400) (hU : A₀.units ≤ 1000) (hh : A₀.handled = none) (hgd : A₀.guards = some [])
    (m1 : m (Str.ofString "spoilt") = some (.ref sp)) (N : News B L s.heap [(sp, listOf (List.toArray sxs) c4)]) (hi : IntsAre sxs ns) (hz : ns.length ≤ 390) (hbn : ∀ n ∈ ns, 0 ≤ n ∧ n ≤ 5000)
    (hfin : Hold (∀ h' tk', Grow B h' → Q (.ret (.bool true)) { s with heap := h', toks := tk' })) :
    wpAny (model PySem.Challenge.rw_ok0052_01.row.prog w) (A₀.deeper (lawEnv L fa cd)) (execs (lawBody.drop 9) (lawEnv L fa cd)) Q E s := by
  revert X; k_fill; intro X
  unfold lawEnv lawBody lawFd recOf
  dsimp only [List.drop]
  rw [map_is m1] at F
  have hBL : B.get? L = none := Heap.get?_none_of_le F.above
  have hLs : ∃ o, s.heap.get? L = some o := by obtain ⟨oL, _, _, hL, _⟩ := F.ns; exact ⟨oL, hL⟩
  have one : ∀ {P : Addr → Prop}, P L → ∀ x ∈ [L], P x := fun h x hx => by rw [List.mem_singleton.mp hx]; exact h
  walk_at "SL"
  refine lread_law (V := B) F N X T (by walk_at "DU") (by walk_at "DU") hh (.head _) hi (by omega) (fun n h => (hbn n h).1) ?_ ?_
  · intro hn h1 tk1 G1 F1 N1
    have hdu1 : DueAt B (HV (hideAll h1 [L])) .none (rdAll ns (ns.length + 1) 0) := by rw [hn]; exact .no
    have hB1 : Grow B (hideAll h1 [L]) := hide_in F1.keep (one hBL)
    have N2 := news_add N1 (news_vl (V := hideAll h1 [L]) (fun b o e => of_hideAll _ e) (hideAll_none _ (.head _)))
    simp only [List.cons_append, List.nil_append] at N2
    clear F N N1
    walk_at "SL"
    rename Fr _ _ _ _ => F3
    rename News _ _ _ _ => N3
    refine table_make F3 N3 X T (by walk_at "DU") (by walk_at "DU") ?_
    intro x d D3 o3 t1 t2 t3 t4 n h4 tk4 F4 N4 lo4 hs4 l1 l2 l3
    have l4 : AllLt d (VL B (hideAll h1 [L])) := by first | exact l3.2.2 | exact l3.2.2.2
    have l5 : @LT.lt Nat _ sp d := allLt_mem l3 (sp, listOf (List.toArray sxs) c4) (by k_mem)
    clear F3 N3
    walk_at "SX"
    rename Fr _ _ _ _ => F6
    rename News _ _ _ _ => N6
    have hB6 : Grow B (hideAll h1 [L]) := hB1
    have g16 := vl_grow F6 hB1 fun p hp => N6.get (by repeat (first | exact hp | apply List.Mem.tail))
    have fD : B.get? D3 = none := N6.fresh (.tail _ (.head _))
    have nD : ∀ {a : Addr} {ob : Obj}, (hideAll h1 [L]).get? a = some ob → a ≠ D3 := fun {a ob} e q => by
      rcases vl_all hB1 e with z | z
      · rw [q, fD] at z; cases z
      · have z1 := allLt_mem l4 _ z
        have z2 : @LT.lt Nat _ D3 d := q ▸ z1
        exact Nat.lt_irrefl _ (Nat.lt_trans (Nat.lt_trans z2 l1) l2)
    have gV := show Grow (hideAll h1 [L]) (hideAll _ [L, D3]) from fun a ob e => hideAll_get _ (g16 _ _ e) fun z => by
      rcases List.mem_cons.mp z with z | z
      · rw [z, hideAll_none _ (.head _)] at e; cases e
      · exact nD e (List.mem_singleton.mp z)
    have hdu6 := hdu1.mono fun a o q => gV _ _ q
    have ts6 := tab_new N6 (.tail _ (.tail _ (.head _))) (.tail _ (.tail _ (.tail _ (.head _)))) (Nat.ne_of_lt l2) (Nat.ne_of_lt (Nat.lt_trans l1 l2)) lo4 hs4
    have ND := N6 _ (.tail _ (.head _))
    have NS := N6 (sp, listOf (List.toArray sxs) c4) (by k_mem)
    have hVs := show (hideAll _ [L, D3]).get? sp = some (listOf (List.toArray sxs) c4) from hideAll_get _ NS.1 fun z => by
      rcases List.mem_cons.mp z with z | z
      · exact NS.2.1 z
      · have z' : @Eq Nat sp D3 := List.mem_singleton.mp z
        omega
    refine tail10 (ns := ns) F6 X T K0 hD hU hh hgd rfl rfl rfl (in_two (P := fun p => _ ∧ _ ∧ _) ND NS) (hB1.trans gV) (fun b o e => of_hideAll _ e) (hideAll_none _ (.head _)) (hideAll_none _ (.tail _ (.head _))) hVs hdu6 ts6 hi hz hbn ?_
    unfold Hold at hfin ⊢
    intro h2 tk2
    exact hfin h2 tk2
  · intro due Dd dxs cd' h1 tk1 hr hx G1 hf1 F1 N1 n1
    have hx1 : RowsV (HV (hideAll h1 [L])) dxs due := hx.mono fun a o k => NewP.hide (hide_in F1.keep (one hBL)) (one hLs) k
    have mD := N1 _ (.head _)
    have hdu1 : DueAt B (HV (hideAll h1 [L])) (.ref Dd) (rdAll ns (ns.length + 1) 0) := by
      rw [hr]
      exact .yes mD.2.2 (hideAll_get _ mD.1 fun z => mD.2.1 (List.mem_singleton.mp z)) hx1
    have hB1 : Grow B (hideAll h1 [L]) := hide_in F1.keep (one hBL)
    have N2 := news_add N1 (news_vl (V := hideAll h1 [L]) (fun b o e => of_hideAll _ e) (hideAll_none _ (.head _)))
    simp only [List.cons_append, List.nil_append] at N2
    clear F N N1
    walk_at "SL"
    rename Fr _ _ _ _ => F3
    rename News _ _ _ _ => N3
    refine table_make F3 N3 X T (by walk_at "DU") (by walk_at "DU") ?_
    intro x d D3 o3 t1 t2 t3 t4 n h4 tk4 F4 N4 lo4 hs4 l1 l2 l3
    have l4 : AllLt d (VL B (hideAll h1 [L])) := by first | exact l3.2.2 | exact l3.2.2.2
    have l5 : @LT.lt Nat _ sp d := allLt_mem l3 (sp, listOf (List.toArray sxs) c4) (by k_mem)
    clear F3 N3
    walk_at "SX"
    rename Fr _ _ _ _ => F6
    rename News _ _ _ _ => N6
    have hB6 : Grow B (hideAll h1 [L]) := hB1
    have g16 := vl_grow F6 hB1 fun p hp => N6.get (by repeat (first | exact hp | apply List.Mem.tail))
    have fD : B.get? D3 = none := N6.fresh (.tail _ (.head _))
    have nD : ∀ {a : Addr} {ob : Obj}, (hideAll h1 [L]).get? a = some ob → a ≠ D3 := fun {a ob} e q => by
      rcases vl_all hB1 e with z | z
      · rw [q, fD] at z; cases z
      · have z1 := allLt_mem l4 _ z
        have z2 : @LT.lt Nat _ D3 d := q ▸ z1
        exact Nat.lt_irrefl _ (Nat.lt_trans (Nat.lt_trans z2 l1) l2)
    have gV := show Grow (hideAll h1 [L]) (hideAll _ [L, D3]) from fun a ob e => hideAll_get _ (g16 _ _ e) fun z => by
      rcases List.mem_cons.mp z with z | z
      · rw [z, hideAll_none _ (.head _)] at e; cases e
      · exact nD e (List.mem_singleton.mp z)
    have hdu6 := hdu1.mono fun a o q => gV _ _ q
    have ts6 := tab_new N6 (.tail _ (.tail _ (.head _))) (.tail _ (.tail _ (.tail _ (.head _)))) (Nat.ne_of_lt l2) (Nat.ne_of_lt (Nat.lt_trans l1 l2)) lo4 hs4
    have ND := N6 _ (.tail _ (.head _))
    have NS := N6 (sp, listOf (List.toArray sxs) c4) (by k_mem)
    have hVs := show (hideAll _ [L, D3]).get? sp = some (listOf (List.toArray sxs) c4) from hideAll_get _ NS.1 fun z => by
      rcases List.mem_cons.mp z with z | z
      · exact NS.2.1 z
      · have z' : @Eq Nat sp D3 := List.mem_singleton.mp z
        omega
    refine tail10 (ns := ns) F6 X T K0 hD hU hh hgd rfl rfl rfl (in_two (P := fun p => _ ∧ _ ∧ _) ND NS) (hB1.trans gV) (fun b o e => of_hideAll _ e) (hideAll_none _ (.head _)) (hideAll_none _ (.tail _ (.head _))) hVs hdu6 ts6 hi hz hbn ?_
    unfold Hold at hfin ⊢
    intro h2 tk2
    exact hfin h2 tk2
local macro_rules | `(tactic| walk_at "SB") => ln_walk ["binaryOp Operator.Add Value.ref:1 _", "call Value.ref:1 _ _", "EX"]
theorem tail8 {w : World} {A₀ : Around} {E : Value → Shared → Prop} {s : Shared} {B : Heap} {L fa : Addr} {cd : Value} {m mg mb : Str → Option Value} {mean : ExcName → Option Value} {Q : Flow → Shared → Prop}
    {tx : Addr} {txs : List Value} {ct p : Nat} {k : Int} {way : Int} {ts : List Int} {q1 q2 q3 : Tok}
    (F : Fr B L s.heap m) (X : (hd.heap_1 w.params).In B) (T : Top headView (looseW headView [Str.ofString "EXACT"]) mean mg mb B) (K0 : Below A₀ B [] B) (hD : A₀.depth ≤ 400) (hU : A₀.units ≤ 1000) (hh : A₀.handled = none) (hgd : A₀.guards = some [])
    (m1 : m (Str.ofString "at") = some (.int p q1)) (m2 : m (Str.ofString "text") = some (.ref tx)) (m3 : m (Str.ofString "way") = some (.int way q2)) (m4 : m (Str.ofString "code") = some (.int k q3)) (N : News B L s.heap [(tx, listOf (List.toArray txs) ct)])
    (hit : IntsAre txs ts) (hzt : ts.length ≤ 185) (hbt : ∀ n ∈ ts, 0 ≤ n ∧ n ≤ 5000) (hp : p ≤ ts.length) (hw : 0 ≤ way) (hw' : way < 3) (hk : 0 ≤ k) (hk' : k ≤ 5000)
    (hfin : Hold (∀ h' tk', Grow B h' → Q (.ret (.bool true)) { s with heap := h', toks := tk' })) :
    wpAny (model PySem.Challenge.rw_ok0052_01.row.prog w) (A₀.deeper (lawEnv L fa cd)) (execs (lawBody.drop 8) (lawEnv L fa cd)) Q E s := by
  revert X; k_fill; intro X
  unfold lawEnv lawBody lawFd recOf
  dsimp only [List.drop]
  rw [map_is m1, map_is m2, map_is m3, map_is m4] at F
  have hlt : txs.length = ts.length := hit.length
  have hp0 : (0 : Int) ≤ (p : Int) := by omega
  have hp1 : (0 : Int) ≤ (p : Int) + 1 := by omega
  have hp2 : (0 : Int) ≤ (p : Int) + 0 := by omega
  obtain rfl | rfl | rfl : way = 0 ∨ way = 1 ∨ way = 2 := by omega
  all_goals (
    walk_at "SB"
    rename_i Dp ws h1 hI hC hL l1 l2 h2 F2 N2 l3
    refine add_law F2 N2 (N2.get (.tail _ (.head _))) (N2.get (.head _)) (by simp at hI ⊢; have := hI.length; simp at this; omega) ?_
    intro D3 h3 G3 F3 N3 n3
    clear F2 N2
    walk_at "SB"
    rename_i Dw ws2 h4 F4 N4 hI2 hC2 hL2 l4
    refine add_law F4 N4 (N4.get (.tail _ (.head _))) (N4.get (.head _)) (by have := hI2.length; have := hI.length; simp; omega) ?_
    intro D5 h5 G5 F5 N5 n5
    clear F4 N4
    walk_at "SX"
    rename Fr _ _ _ _ => F6
    rename News _ _ _ _ => N6
    refine tail9 F6 X T K0 hD hU hh hgd rfl (fun p hp => N6 p (by rw [List.mem_singleton.mp hp]; exact .head _)) (by first | exact (hI.append (.cons k _ .nil)).append hI2 | exact (hI.append .nil).append hI2) ?_ ?_ ?_
    · simp only [List.length_append, List.length_cons, List.length_nil]; omega
    · intro n hn
      rcases List.mem_append.mp hn with hn | hn
      · rcases List.mem_append.mp hn with hn | hn
        · exact hbt _ (List.mem_of_mem_take hn)
        · first | (cases hn; done) | (rw [List.mem_singleton.mp hn]; exact ⟨hk, hk'⟩)
      · exact hbt _ (List.mem_of_mem_drop hn)
    · unfold Hold at hfin ⊢
      intro h2 tk2
      exact hfin h2 tk2)
theorem menu7 (r : Int) (h1 : 0 ≤ r) (h2 : r < 7) : 0 ≤ ([48, 34, 92, 10, 32, 97, 110] : List Int).getD r.toNat 0 ∧ ([48, 34, 92, 10, 32, 97, 110] : List Int).getD r.toNat 0 ≤ 5000 := by
  obtain ⟨n, rfl⟩ := Int.eq_ofNat_of_zero_le h1
  have : n < 7 := by omega
  have h : ∀ n : Fin 7, 0 ≤ ([48, 34, 92, 10, 32, 97, 110] : List Int).getD n.val 0 ∧ ([48, 34, 92, 10, 32, 97, 110] : List Int).getD n.val 0 ≤ 5000 := by decide
  exact h ⟨n, this⟩
theorem tail7 {w : World} {A₀ : Around} {E : Value → Shared → Prop} {s : Shared} {B : Heap} {L fa : Addr} {cd : Value} {m mg mb : Str → Option Value} {mean : ExcName → Option Value} {Q : Flow → Shared → Prop}
    {dk tx : Addr} {vs txs : List Value} {c ct : Nat} {ns ts : List Int}
    (F : Fr B L s.heap m) (X : (hd.heap_1 w.params).In B) (T : Top headView (looseW headView [Str.ofString "EXACT"]) mean mg mb B) (K0 : Below A₀ B [] B) (hD : A₀.depth ≤ 400) (hU : A₀.units ≤ 1000) (hh : A₀.handled = none) (hgd : A₀.guards = some [])
    (m1 : m (Str.ofString "deck") = some (.ref dk)) (m2 : m (Str.ofString "text") = some (.ref tx)) (N : News B L s.heap [(dk, listOf (List.toArray vs) c), (tx, listOf (List.toArray txs) ct)]) (hne : @Ne Nat tx dk)
    (hi : IntsAre vs ns) (hz : ns.length ≤ 100) (hit : IntsAre txs ts) (hzt : ts.length ≤ 185) (hbt : ∀ n ∈ ts, 0 ≤ n ∧ n ≤ 5000)
    (hfin : Hold (∀ h' tk', Grow B h' → Q (.ret (.bool true)) { s with heap := h', toks := tk' })) :
    wpAny (model PySem.Challenge.rw_ok0052_01.row.prog w) (A₀.deeper (lawEnv L fa cd)) (execs (lawBody.drop 7) (lawEnv L fa cd)) Q E s := by
  revert X; k_fill; intro X
  unfold lawEnv lawBody lawFd recOf
  dsimp only [List.drop]
  rw [map_is m1, map_is m2] at F
  have hlt : txs.length = ts.length := hit.length
  walk_at "SL"
  walk1
  walk_at "SL"
  walk1
  walk_at "SL"
  walk1
  walk_at "SX"
  rename_i r1 tka vsa nsa na ha tkb lo1 hi1 ia za r2 tkc vsb nsb nb hb tkd lo2 hi2 ib zb l0 h6 lx r3 tke vsc nsc nc hc tkf lo3 hi3 ic zc t0 D0 h4 lD h3 h2 h1 h0 F6 N6
  obtain ⟨p, rfl⟩ := Int.eq_ofNat_of_zero_le lo1
  have hm := menu7 r3 lo3 hi3
  refine tail8 F6 X T K0 hD hU hh hgd rfl rfl rfl rfl (fun p hp => N6 p (by rw [List.mem_singleton.mp hp]; exact .tail _ (.tail _ (.tail _ (.head _))))) hit hzt hbt (by omega) lo2 hi2 hm.1 hm.2 ?_
  unfold Hold at hfin ⊢
  intro h2 tk2
  exact hfin h2 tk2
theorem ne_rows {prog : Program} {w : World} {A : Around} {E : Value → Shared → Prop} {s : Shared} {D D' : Addr} {vs vs' : List Value} {rows : List Row} {c c' : Nat} {Q : Value → Shared → Prop}
    (e : s.heap.get? D = some (listOf vs.toArray c)) (e' : s.heap.get? D' = some (listOf vs'.toArray c')) (v : RowsV (HV s.heap) vs rows) (v' : RowsV (HV s.heap) vs' rows) (hu : A.units ≤ 2100) (h : Q (.bool false) s) :
    wpAny (model prog w) A (compareOp .NotEq (.ref D) (.ref D')) Q E s := by
  obtain ⟨as, r⟩ := reads_list_rows e v
  obtain ⟨as', r'⟩ := reads_list_rows e' v'
  refine SeqAt.compareNe_reads r r' (lay_rows rows) (lay_rows rows) ?_ ?_
  · have : cLine = 9900 := rfl
    show A.units + min (PyData.depthAll _ + 1) (PyData.depthAll _ + 1) < cLine
    have := depth_rows rows
    omega
  · rw [show PyData.eqv (.list (rows.map rowD)) (.list (rows.map rowD)) = true from SeqAt.eqv_refl _ (lay_rows rows)]
    exact h
theorem ne_codes {prog : Program} {w : World} {A : Around} {E : Value → Shared → Prop} {s : Shared} {D D' : Addr} {vs vs' : List Value} {ns : List Int} {c c' : Nat} {Q : Value → Shared → Prop}
    (e : s.heap.get? D = some (listOf vs.toArray c)) (e' : s.heap.get? D' = some (listOf vs'.toArray c')) (v : IntsAre vs ns) (v' : IntsAre vs' ns) (hu : A.units ≤ 2100) (h : Q (.bool false) s) :
    wpAny (model prog w) A (compareOp .NotEq (.ref D) (.ref D')) Q E s := by
  refine SeqAt.compareNe_reads (reads_ints e v) (reads_ints e' v') (lay_ints _) (lay_ints _) ?_ ?_
  · have hc : cLine = 9900 := rfl
    show A.units + min (PyData.depthAll _ + 1) (PyData.depthAll _ + 1) < cLine
    rw [depth_ints]
    omega
  · rw [show PyData.eqv (.list (ns.map .int)) (.list (ns.map .int)) = true from SeqAt.eqv_refl _ (lay_ints _)]
    exact h
theorem tail5 {w : World} {A₀ : Around} {E : Value → Shared → Prop} {s : Shared} {B V : Heap} {L fa : Addr} {cd : Value} {m mg mb : Str → Option Value} {mean : ExcName → Option Value} {Q : Flow → Shared → Prop}
    {dk tx rw_ : Addr} {vs txs rxs : List Value} {c ct cr : Nat} {ns : List Int} {S : List Row} {u : Int}
    (F : Fr B L s.heap m) (X : (hd.heap_1 w.params).In B) (T : Top headView (looseW headView [Str.ofString "EXACT"]) mean mg mb B) (K0 : Below A₀ B [] B) (hD : A₀.depth ≤ 400) (hU : A₀.units ≤ 1000) (hh : A₀.handled = none) (hgd : A₀.guards = some [])
    (m1 : m (Str.ofString "deck") = some (.ref dk)) (m2 : m (Str.ofString "text") = some (.ref tx)) (m3 : m (Str.ofString "rows") = some (.ref rw_)) (N : News B L s.heap [(dk, listOf (List.toArray vs) c), (tx, listOf (List.toArray txs) ct), (rw_, listOf (List.toArray rxs) cr)]) (hne : @Ne Nat tx dk)
    (hi : IntsAre vs ns) (hz : ns.length ≤ 100) (hit : IntsAre txs (S.flatMap writ)) (hV : Grow V s.heap) (hVL : V.get? L = none) (hx : RowsV (HV V) rxs S) (hl : ∀ r ∈ S, LawR u r) (hu : u ≤ 10000) (hk : S.length ≤ 5) (hs : SortOf S S)
    (hfin : Hold (∀ h' tk', Grow B h' → Q (.ret (.bool true)) { s with heap := h', toks := tk' })) :
    wpAny (model PySem.Challenge.rw_ok0052_01.row.prog w) (A₀.deeper (lawEnv L fa cd)) (execs (lawBody.drop 5) (lawEnv L fa cd)) Q E s := by
  revert X; k_fill; intro X
  unfold lawEnv lawBody lawFd recOf
  dsimp only [List.drop]
  rw [map_is m1, map_is m2, map_is m3] at F
  have one : ∀ {P : Addr → Prop}, P L → ∀ x ∈ [L], P x := fun h x hx => by rw [List.mem_singleton.mp hx]; exact h
  have hB1 : Grow B (hideAll s.heap [L]) := hide_in F.keep (one (Heap.get?_none_of_le F.above))
  have hx1 := hx.mono (P' := HV (hideAll s.heap [L])) fun a o e => hide_in hV (one hVL) _ _ e
  have Nall := news_add N (news_vl (V := hideAll s.heap [L]) (fun b o e => of_hideAll _ e) (hideAll_none _ (.head _)))
  have eT : (hideAll s.heap [L]).get? tx = some (listOf (List.toArray txs) ct) := hideAll_get _ (N.get (.tail _ (.head _))) fun z => (N _ (.tail _ (.head _))).2.1 (List.mem_singleton.mp z)
  have eK : (hideAll s.heap [L]).get? dk = some (listOf (List.toArray vs) c) := hideAll_get _ (N.get (.head _)) fun z => (N _ (.head _)).2.1 (List.mem_singleton.mp z)
  have eR : (hideAll s.heap [L]).get? rw_ = some (listOf (List.toArray rxs) cr) := hideAll_get _ (N.get (.tail _ (.tail _ (.head _)))) fun z => (N _ (.tail _ (.tail _ (.head _)))).2.1 (List.mem_singleton.mp z)
  have fT := N.fresh (.tail _ (.head _))
  have fK := N.fresh (.head _)
  have fR := N.fresh (.tail _ (.tail _ (.head _)))
  simp only [List.cons_append, List.nil_append] at Nall
  clear N
  walk_at "SL"
  rename Fr _ _ _ _ => F3
  rename News _ _ _ _ => N3
  refine table_make F3 N3 X T (by walk_at "DU") (by walk_at "DU") ?_
  intro x d D2 o2 t1 t2 t3 t4 n h4 tk4 F4 N4 lo4 hs4 l1 l2 l3
  have l4 : AllLt d (VL B (hideAll s.heap [L])) := l3.2.2.2.2
  clear F3 N3
  walk_at "SX"
  rename Fr _ _ _ _ => F6
  rename News _ _ _ _ => N6
  rename Heap => h6
  have g16 := vl_grow F6 hB1 fun p hp => N6.get (by repeat (first | exact hp | apply List.Mem.tail))
  have fD : B.get? D2 = none := N6.fresh (.head _)
  have nD : ∀ {a : Addr} {ob : Obj}, (hideAll s.heap [L]).get? a = some ob → a ≠ D2 := fun {a ob} e q => by
    rcases vl_all hB1 e with z | z
    · rw [q, fD] at z; cases z
    · have z1 := allLt_mem l4 _ z
      have z2 : @LT.lt Nat _ D2 d := q ▸ z1
      exact Nat.lt_irrefl _ (Nat.lt_trans (Nat.lt_trans z2 l1) l2)
  have gV : Grow (hideAll s.heap [L]) (hideAll h6 [L, D2]) := fun a ob e => hideAll_get _ (g16 _ _ e) fun z => by
    rcases List.mem_cons.mp z with z | z
    · rw [z, hideAll_none _ (.head _)] at e; cases e
    · exact nD e (List.mem_singleton.mp z)
  have ts6 := tab_new N6 (.tail _ (.head _)) (.tail _ (.tail _ (.head _))) (Nat.ne_of_lt l2) (Nat.ne_of_lt (Nat.lt_trans l1 l2)) lo4 hs4
  have N7 : News B L h6 [(D2, o2)] := fun p hp => N6 p (by rw [List.mem_singleton.mp hp]; exact .head _)
  clear N6
  walk_at "SL"
  have hw : Wds S := hs.words
  have bt := text_bound hl hu hk
  have hB6 : Grow B (hideAll h6 [L, D2]) := hB1.trans gV
  have hXB : ∀ x ∈ [L, D2], B.get? x = none := in_two (Heap.get?_none_of_le F6.above) fD
  have hL6 : ∃ o, h6.get? L = some o := by obtain ⟨oL, _, _, hL, _⟩ := F6.ns; exact ⟨oL, hL⟩
  refine read_law (R := []) X T (below_law K0 F6 N7) (by walk_at "DU") (by walk_at "DU") hh hB6 (fun b o e => of_hideAll _ e) (hideAll_none _ (.tail _ (.head _))) (N7.get (.head _)) ts6 (by decide) (fun _ h => nomatch h) (gV _ _ eT) hit (by omega) bt.2 (text_back hl) (fun r hr k hk => ((hl r hr).wb k hk).1) ?_
  intro kvs' o8 t8 h8 tk8 ts8 P8 ho8
  have g68 : Grow (hideAll h6 [L, D2]) (hideAll h8 [L, D2]) := past_hide P8 (.tail _ (.head _))
  have ts9 := ts8 _ g68 (new_in (in_two hL6 ⟨_, N7.get (.head _)⟩))
  rw [show S.foldl put [] = S from foldl_put (R := []) hw] at ts9
  obtain ⟨F8, N8⟩ := past_law (news := []) F6 N7 (fun _ h => nomatch h) P8 ho8
  have g18 := gV.trans g68
  have hB8 : Grow B (hideAll h8 [L, D2]) := hB1.trans g18
  have N9 := news_add N8 (news_vl (V := hideAll h8 [L, D2]) (fun b o e => of_hideAll _ e) (hideAll_none _ (.head _)))
  simp only [List.cons_append, List.nil_append] at N9
  have mk : ∀ {a : Addr} {ob : Obj}, (hideAll s.heap [L]).get? a = some ob → B.get? a = none → h8.get? a = some ob ∧ a ≠ L ∧ B.get? a = none := fun {a ob} e f => ⟨of_hideAll _ (g18 _ _ e), (fun (q : a = L) => by rw [q, hideAll_none _ (.head _)] at e; cases e), f⟩
  have N10 : News B L h8 ((rw_, listOf (List.toArray rxs) cr) :: (dk, listOf (List.toArray vs) c) :: (tx, listOf (List.toArray txs) ct) :: (D2, o8) :: VL B (hideAll h8 [L, D2])) := fun p hp => by
    rcases List.mem_cons.mp hp with rfl | hp
    · exact mk eR fR
    rcases List.mem_cons.mp hp with rfl | hp
    · exact mk eK fK
    rcases List.mem_cons.mp hp with rfl | hp
    · exact mk eT fT
    · exact N9 p hp
  have hx8 := hx1.mono (P' := HV (hideAll h8 [L, D2])) fun a o e => g18 _ _ e
  have hrl : rxs.length = S.length := paired_length hx
  clear F6 N7 N8 N9
  walk_at "SL"
  refine call_len_list ⟨_, N10.get (.head _), rfl, _, rfl⟩ (by rw [List.size_toArray]; omega) ?_
  rw [List.size_toArray, hrl]
  walk_at "SL"
  refine rows_law F8 N10 X T (by walk_at "DU") (by walk_at "DU") hh hB8 (fun b o e => of_hideAll _ e) (hideAll_none _ (.tail _ (.head _))) (N10.get (.tail _ (.tail _ (.tail _ (.head _))))) ts9 hw (by omega) ?_
  intro D4 xs4 c4 S4 h9 tk9 hS4 hx4 G9 hf9 F9 N9 n9
  have e4 := hs.uniq hS4
  subst e4
  have hx5 := hx4.mono (P' := HV h9) fun a o z => z.now fun b o q => G9 _ _ (of_hideAll _ q)
  have hx9 := hx8.mono (P' := HV h9) fun a o q => G9 _ _ (of_hideAll _ q)
  clear F8 N10
  walk_at "SL"
  refine ne_rows (N9.get (.head _)) (N9.get (.tail _ (.head _))) hx5 hx9 (by walk_at "DU") ?_
  walk_at "SX"
  rename Fr _ _ _ _ => Fz
  rename News _ _ _ _ => Nz
  refine tail7 (c := c) (ct := ct) Fz X T K0 hD hU hh hgd rfl rfl (fun p hp => Nz p ?_) hne hi hz hit bt.1 bt.2 ?_
  · rcases List.mem_cons.mp hp with rfl | hp
    · exact .tail _ (.tail _ (.head _))
    · rw [List.mem_singleton.mp hp]; exact .tail _ (.tail _ (.tail _ (.head _)))
  · unfold Hold at hfin ⊢
    intro h2 tk2
    exact hfin h2 tk2
theorem tail3 {w : World} {A₀ : Around} {E : Value → Shared → Prop} {s : Shared} {B V : Heap} {L fa : Addr} {cd : Value} {m mg mb : Str → Option Value} {mean : ExcName → Option Value} {Q : Flow → Shared → Prop}
    {dk t D : Addr} {o : Obj} {kvs : List (Str × Value)} {vs : List Value} {c : Nat} {ns : List Int} {R : List Row} {u : Int}
    (F : Fr B L s.heap m) (X : (hd.heap_1 w.params).In B) (T : Top headView (looseW headView [Str.ofString "EXACT"]) mean mg mb B) (K0 : Below A₀ B [] B) (hD : A₀.depth ≤ 400) (hU : A₀.units ≤ 1000) (hh : A₀.handled = none) (hgd : A₀.guards = some [])
    (m1 : m (Str.ofString "deck") = some (.ref dk)) (m2 : m (Str.ofString "table") = some (.ref t)) (N : News B L s.heap [(D, o), (dk, listOf (List.toArray vs) c)])
    (hi : IntsAre vs ns) (hz : ns.length ≤ 100) (hBV : Grow B V) (hV : Grow V s.heap) (hVL : V.get? L = none) (hVD : V.get? D = none) (ts : TabSt w V o t D kvs R) (hw : Wds R) (hl : ∀ r ∈ R, LawR u r) (hu : u ≤ 10000) (hk : R.length ≤ 5)
    (hfin : Hold (∀ h' tk', Grow B h' → Q (.ret (.bool true)) { s with heap := h', toks := tk' })) :
    wpAny (model PySem.Challenge.rw_ok0052_01.row.prog w) (A₀.deeper (lawEnv L fa cd)) (execs (lawBody.drop 3) (lawEnv L fa cd)) Q E s := by
  revert X; k_fill; intro X
  unfold lawEnv lawBody lawFd recOf
  dsimp only [List.drop]
  rw [map_is m1, map_is m2] at F
  have one : ∀ {P : Addr → Prop}, P L → ∀ x ∈ [L], P x := fun h x hx => by rw [List.mem_singleton.mp hx]; exact h
  have hBL : B.get? L = none := Heap.get?_none_of_le F.above
  have hLs : ∃ o, s.heap.get? L = some o := by obtain ⟨oL, _, _, hL, _⟩ := F.ns; exact ⟨oL, hL⟩
  walk_at "SL"
  rename Fr _ _ _ _ => F1
  rename News _ _ _ _ => N1
  refine rows_law F1 N1 X T (by walk_at "DU") (by walk_at "DU") hh hBV hV hVD (N1.get (.head _)) ts hw (by omega) ?_
  intro D4 xs4 c4 S h4 tk4 hS hx G4 hf4 F4 N4 n4
  have hlS : ∀ r ∈ S, LawR u r := fun r hr => hl r (hS.1.mem_iff.mp hr)
  have hkS : S.length ≤ 5 := by rw [hS.1.length_eq]; exact hk
  have hBR : ∀ r ∈ R, r.word.length ≤ 100 ∧ r.codes.length ≤ 100 ∧ 0 ≤ r.used ∧ r.used ≤ 10000 := fun r hr => by
    have q := hl r hr
    exact ⟨by have := q.word; omega, by have := q.codes; omega, q.lo, Int.le_trans q.hi hu⟩
  have hx4 : RowsV (HV (hideAll h4 [L])) xs4 S := hx.mono fun a o k => NewP.hide (hide_in (hV.trans G4) (one hVL)) (one hLs) k
  clear F1 N1
  walk_at "SL"
  rename Fr _ _ _ _ => F5
  rename News _ _ _ _ => N5
  refine ttext_law F5 N5 X T (by walk_at "DU") (by walk_at "DU") hh hBV (hV.trans G4) hVD (N5.get (.tail _ (.head _))) ts hw (by omega) hBR ?_
  intro tx txs ct S5 h6 tk6 hS5 hit G6 hf6 F6 N6 n6
  have e5 := hS.uniq hS5
  subst e5
  have hx6 := hx4.mono (P' := HV (hideAll h6 [L])) fun a o e => hide_grow G6 _ _ e
  have hB6 : Grow B (hideAll h6 [L]) := hide_in F6.keep (one hBL)
  have N7 := news_add N6 (news_vl (V := hideAll h6 [L]) (fun b o e => of_hideAll _ e) (hideAll_none _ (.head _)))
  simp only [List.cons_append, List.nil_append] at N7
  clear F5 N5 N6
  walk_at "SX"
  rename_i Dt h9 l1 h10 h11 h12 F7 N7
  have g67 := vl_grow F7 hB6 fun p hp => N7.get (by repeat (first | exact hp | apply List.Mem.tail))
  have hx7 := hx6.mono (P' := HV h12) fun a o e => g67 _ _ e
  have bt := text_bound hlS hu hkS
  have hBS : ∀ r ∈ S, r.word.length ≤ 100 ∧ r.codes.length ≤ 100 ∧ 0 ≤ r.used ∧ r.used ≤ 10000 := fun r hr => hBR r (hS.1.mem_iff.mp hr)
  have hVLz : ∀ {h : Heap}, Grow (hideAll h6 [L]) h → Grow (hideAll h6 [L]) (hideAll h [L]) := fun g => hide_in g (one (hideAll_none _ (.head _)))
  have N8 : News B L h12 [(tx, listOf txs.toArray ct), (D4, listOf xs4.toArray c4), (dk, listOf (List.toArray vs) c)] := fun p hp => N7 p (by
    rcases List.mem_cons.mp hp with rfl | hp
    · exact .tail _ (.head _)
    rcases List.mem_cons.mp hp with rfl | hp
    · exact .tail _ (.tail _ (.head _))
    · rw [List.mem_singleton.mp hp]; exact .tail _ (.tail _ (.tail _ (.tail _ (.head _)))))
  have nk : @Ne Nat tx dk := fun q => n6.2.2.1 q.symm
  clear N7
  walk_at "SL"
  refine written_law F7 N8 X T (by walk_at "DU") (by walk_at "DU") hh (N8.get (.tail _ (.head _))) hx7 (by omega) hBS ?_
  intro Dw wxs cw h13 tk13 hw13 G13 hf13 F13 N13 n13
  have hx13 := hx7.mono (P' := HV h13) fun a o e => G13 _ _ e
  clear F7 N8
  walk_at "SL"
  refine ne_codes (N13.get (.tail _ (.head _))) (N13.get (.head _)) hit hw13 (by walk_at "DU") ?_
  walk_at "SL"
  refine lread_law (V := B) F13 N13 X T (by walk_at "DU") (by walk_at "DU") hh (.tail _ (.head _)) hit (by omega) (fun n hn => (bt.2 n hn).1) (fun q => by rw [text_back hlS] at q; cases q) ?_
  intro rows8 D8 xs8 c8 h14 tk14 hr8 hx8 G14 hf14 F14 N14 n14
  rw [text_back hlS] at hr8
  cases hr8
  have hx15 := hx8.mono (P' := HV h14) fun a o z => z.now F14.keep
  have hx14 := hx13.mono (P' := HV h14) fun a o e => G14 _ _ e
  have hxz := hx6.mono (P' := HV (hideAll h14 [L])) fun a o e => hVLz (g67.trans (G13.trans G14)) _ _ e
  clear F13 N13
  have hB14 : Grow B (hideAll h14 [L]) := hide_in F14.keep (one hBL)
  have Nz := news_add N14 (news_vl (V := hideAll h14 [L]) (fun b o e => of_hideAll _ e) (hideAll_none _ (.head _)))
  simp only [List.cons_append, List.nil_append] at Nz
  walk_at "SL"
  refine ne_rows (N14.get (.head _)) (N14.get (.tail _ (.tail _ (.tail _ (.head _))))) hx15 hx14 (by walk_at "DU") ?_
  walk_at "SX"
  dsimp only
  refine tail5 (V := hideAll h14 [L]) (c := c) (ct := ct) (cr := c4) F14 X T K0 hD hU hh hgd rfl rfl rfl (fun p hp => Nz p ?_) nk hi hz hit (fun b o e => of_hideAll _ e) (hideAll_none _ (.head _)) hxz hlS hu hkS hS.self ?_
  · rcases List.mem_cons.mp hp with rfl | hp
    · exact .tail _ (.tail _ (.tail _ (.tail _ (.head _))))
    rcases List.mem_cons.mp hp with rfl | hp
    · exact .tail _ (.tail _ (.head _))
    · rw [List.mem_singleton.mp hp]; exact .tail _ (.tail _ (.tail _ (.head _)))
  · unfold Hold at hfin ⊢
    intro h2 tk2
    exact hfin h2 tk2
theorem snapX {B h : Heap} {L : Addr} {m : Str → Option Value} {news : List (Addr × Obj)} (F : Fr B L h m) (N : News B L h news) {X : List Addr} (hL : L ∈ X) (hX : ∀ x ∈ X, B.get? x = none) :
    ∃ es, News B L h (news ++ es) ∧ Grow B (hideAll h X) ∧ (∀ x ∈ X, AllNe x es) ∧ ∀ h2 m2, Fr B L h2 m2 → (∀ p ∈ es, h2.get? p.1 = some p.2) → Grow (hideAll h X) (hideAll h2 X) := by
  have hB : Grow B (hideAll h X) := fun b o e => hideAll_get _ (F.keep _ _ e) (fun q => by rw [hX b q] at e; cases e)
  have hmem : ∀ p, p ∈ ownOf B ((List.range h.objs.size).filter fun a => decide (a ∉ X)) h → p.1 ∉ X := fun p hp => by
    obtain ⟨b, hb, e⟩ := List.mem_filterMap.mp hp
    have hb' := of_decide_eq_true (List.mem_filter.mp hb).2
    split at e
    · cases q : h.get? b with
      | none => rw [q] at e; cases e
      | some o => rw [q] at e; cases e; exact hb'
    · cases e
  refine ⟨ownOf B ((List.range h.objs.size).filter fun a => decide (a ∉ X)) h, fun p hp => ?_, hB, fun x hx => allNe_of fun p hp e => hmem p hp (e ▸ hx), fun h2 m2 F2 hes b o e => ?_⟩
  · rcases List.mem_append.mp hp with hp | hp
    · exact N p hp
    · exact news_ownOf (fun q => absurd hL (of_decide_eq_true (List.mem_filter.mp q).2)) p hp
  · have e' := of_hideAll _ e
    have hbX : b ∉ X := fun q => by rw [hideAll_none _ q] at e; cases e
    refine hideAll_get _ ?_ hbX
    cases hn : B.get? b with
    | some o₀ =>
      have : o₀ = o := by have := F.keep b o₀ hn; rw [e'] at this; exact (Option.some.inj this).symm
      exact this ▸ F2.keep b o₀ hn
    | none => exact hes (b, o) (mem_ownOf (List.mem_filter.mpr ⟨List.mem_range.mpr (Heap.lt_size e'), decide_eq_true hbX⟩) hn e')
theorem in_three {α : Type} {P : α → Prop} {a b c : α} (ha : P a) (hb : P b) (hc : P c) : ∀ x ∈ [a, b, c], P x := by
  intro x hx
  rcases List.mem_cons.mp hx with rfl | hx
  · exact ha
  · exact in_two hb hc x hx
theorem take3 {B h : Heap} {L : Addr} {a b c : Addr × Obj} {l : List (Addr × Obj)} (N : News B L h (a :: b :: c :: l)) : News B L h [a, b, c] := fun p hp => N p (List.mem_append_left l hp)
noncomputable def lapBody : List Stmt := match lawBody.drop 2 with | .For _ _ b _ _ :: _ => b | _ => []
noncomputable def ownBody : List Stmt := match lapBody.drop 2 with | .For _ _ b _ _ :: _ => b | _ => []

noncomputable def entD (w : World) (lo lc : Addr) (x : Bool) (u : Int) (t1 t2 t3 t4 t5 : Tok) : Obj := dictOf [fld w "word" t1 (.ref lo), fld w "codes" t2 (.ref lc), fld w "is_exact" t3 (.bool x), fld w "used" t4 (.int u t5)] 4
/-- own.used = own.used + a draw -/
theorem used_turn {w : World} {A₀ : Around} {E : Value → Shared → Prop} {s : Shared} {B : Heap} {L fa : Addr} {cd : Value} {m mg mb : Str → Option Value} {mean : ExcName → Option Value} {Q : Flow → Shared → Prop}
    {dk ex ed lo lc : Addr} {vs : List Value} {ns : List Int} {c : Nat} {u : Int} {x : Bool} {t1 t2 t3 t4 t5 : Tok}
    (F : Fr B L s.heap m) (X : (hd.heap_1 w.params).In B) (T : Top headView (looseW headView [Str.ofString "EXACT"]) mean mg mb B) (hD : A₀.depth ≤ 400) (hU : A₀.units ≤ 1000)
    (m1 : m (Str.ofString "deck") = some (.ref dk)) (m2 : m (Str.ofString "own") = some (.ref ex))
    (N : News B L s.heap [(dk, listOf vs.toArray c), (ex, instObj 43 ed), (ed, entD w lo lc x u t1 t2 t3 t4 t5)]) (n1 : @Ne Nat ed dk) (n2 : @Ne Nat ex ed) (n3 : @Ne Nat ex dk)
    (hi : IntsAre vs ns) (hz : ns.length ≤ 100) (hu : 0 ≤ u) (hu' : u ≤ 1000)
    (hfin : Hold (∀ k vs' ns' c' t4' t5' h' tk', 0 ≤ k → k < 12 → IntsAre vs' ns' → ns'.length ≤ 100 → Fr B L h' m → News B L h' [(dk, listOf vs'.toArray c'), (ex, instObj 43 ed), (ed, entD w lo lc x (u + k) t1 t2 t3 t4' t5')] → Grow (hideAll s.heap [L, dk, ed]) (hideAll h' [L, dk, ed]) → Q .next { s with heap := h', toks := tk' })) :
    wpAny (model PySem.Challenge.rw_ok0052_01.row.prog w) (A₀.deeper (lawEnv L fa cd)) (execs ownBody (lawEnv L fa cd)) Q E s := by
  revert X; k_fill; intro X
  have hXB : ∀ x ∈ [L, dk, ed], B.get? x = none := in_three (Heap.get?_none_of_le F.above) (N.fresh (.head _)) (N.fresh (.tail _ (.tail _ (.head _))))
  obtain ⟨es, N₁, hB1, hne, hes⟩ := snapX F N (X := [L, dk, ed]) (.head _) hXB
  have a1 : AllNe dk es := hne _ (.tail _ (.head _))
  have a2 : AllNe ed es := hne _ (.tail _ (.tail _ (.head _)))
  simp only [List.cons_append, List.nil_append] at N₁
  clear N hne
  unfold entD at N₁
  unfold lawEnv ownBody lapBody lawBody lawFd recOf
  dsimp only [List.drop]
  rw [map_is m1, map_is m2] at F
  walk_at "S"
  rename Fr _ _ _ _ => F₁
  rename News _ _ _ _ => N₂
  rw [← map_is m2, ← map_is m1] at F₁
  refine hfin _ _ _ _ _ _ _ _ (by assumption) (by assumption) (by assumption) (by assumption) F₁ (take3 N₂) (hes _ _ F₁ fun p hp => N₂.get (.tail _ (.tail _ (.tail _ hp))))
theorem ints_uniq {vs : List Value} {ns ns' : List Int} (h : IntsAre vs ns) : IntsAre vs ns' → ns = ns' := by
  induction h generalizing ns' with
  | nil => intro h; cases h; rfl
  | cons n t _ ih => intro h; cases h with | cons _ _ h => rw [ih h]
theorem nodup_at {α : Type} {a : α} : ∀ {l : List α}, l.Nodup → ∀ {i j : Nat}, l[i]? = some a → l[j]? = some a → i = j
  | [], _, i, j, hi, _ => by simp at hi
  | x :: l, h, i, j, hi, hj => by
    have h := List.nodup_cons.mp h
    cases i with
    | zero =>
      cases j with
      | zero => rfl
      | succ j =>
        simp at hi hj
        subst hi
        exact absurd (List.mem_of_getElem? hj) h.1
    | succ i =>
      cases j with
      | zero =>
        simp at hi hj
        subst hj
        exact absurd (List.mem_of_getElem? hi) h.1
      | succ j =>
        have := nodup_at h.2 (by simpa using hi) (by simpa using hj)
        omega
theorem paired_imp_at {α β : Type} {P P' : α → β → Prop} : ∀ {xs : List α} {ys : List β}, Paired P xs ys → (∀ (j : Nat) a b, xs[j]? = some a → ys[j]? = some b → P a b → P' a b) → Paired P' xs ys := by
  intro xs ys h
  induction h with
  | nil => intro _; exact .nil
  | cons e hr ih => intro hj; exact .cons (hj 0 _ _ rfl rfl e) (ih fun j a b ha hb p => hj (j + 1) a b (by simpa using ha) (by simpa using hb) p)
theorem paired_set {α β : Type} {P P' : α → β → Prop} {x : α} {y' : β} : ∀ {xs : List α} {ys : List β} {i : Nat}, Paired P xs ys → xs[i]? = some x → P' x y' → (∀ (j : Nat) a b, j ≠ i → xs[j]? = some a → ys[j]? = some b → P a b → P' a b) → Paired P' xs (ys.set i y') := by
  intro xs ys i h
  induction h generalizing i with
  | nil => intro hx; simp at hx
  | cons e hr ih =>
    intro hx hy hj
    cases i with
    | zero =>
      simp at hx
      subst hx
      rw [List.set_cons_zero]
      refine .cons hy ?_
      refine paired_imp_at hr fun j a b ha hb p => hj (j + 1) a b (by omega) (by simpa using ha) (by simpa using hb) p
    | succ i =>
      rw [List.set_cons_succ]
      exact .cons (hj 0 _ _ (by omega) rfl rfl e) (ih (by simpa using hx) hy fun j a b hn ha hb p => hj (j + 1) a b (by omega) (by simpa using ha) (by simpa using hb) p)
/-! a for over the values of a dict, which is known behind it -/
section
variable {prog : Program} {w : World} {A : Around} {env : Env} {E : Value → Shared → Prop} {s₁ : Shared} {h₀ : Heap} {x : Str} {body : List Stmt} {Q : Flow → Shared → Prop}
variable {K : Type} [DecidableEq K] {knd : PySem.KeyKind prog w K}
theorem for_vals {L v D : Addr} {o : Obj} {kvs : List (K × Value)} {m : Str → Option Value} {news : List (Addr × Obj)} (J : Nat → List (Addr × Obj) → Prop)
    (hLe : env.locals = L) (hh : A.handled = none) (hv : s₁.heap.get? v = some { cls := .type "dict_values", data := .fields #[.ref D] }) (hdo : o.IsDictOf knd kvs) (F : Fr h₀ L s₁.heap m) (N : News h₀ L s₁.heap ((D, o) :: news)) (hln : ∀ p ∈ news, p.1 ≠ D) (h0 : J 0 news)
    (turn : ∀ i k v news₁ h tk own s₂, s₂ = { s₁ with heap := h, toks := tk } → kvs[i]? = some (k, v) → J i news₁ → Off news₁ own → Fr h₀ L h (fun y => if y = x then some v else m y) → News h₀ L h (news₁ ++ own) →
      wpAny (model prog w) A (execs body env) (TurnEnd h₀ L s₁ own (fun m₁ k => (∃ o, m₁ = fun y => if y = x then o else m y) ∧ J (i + 1) k) Q) E s₂)
    (done : ∀ o' news' h tk, J kvs.length news' → Fr h₀ L h (fun y => if y = x then o' else m y) → News h₀ L h ((D, o) :: news') → Q .next { s₁ with heap := h, toks := tk }) :
    wpAny (model prog w) A (pyIter (.ref v)) (fun it s₂ => LoopAtV prog w A h₀ env x body Q E it s₂) E s₁ := by
  subst hLe
  obtain ⟨es, ep, q⟩ := hdo
  have hD := N (D, o) (.head _)
  have hm : s₁.heap.DictAt knd D kvs ep := ⟨o, es, hD.1, q⟩
  have hlt : D < s₁.heap.objs.size := Heap.lt_size hD.1
  have hsm : ∀ b o, s₁.heap.get? b = some o → b ≠ s₁.heap.objs.size := fun b o e => Nat.ne_of_lt (Heap.lt_size e)
  refine wpAny_pyIter_values ⟨_, hv, rfl, rfl⟩ hm ?_
  have hF := F.push { cls := .type "dict_valueiterator", data := .fields #[.ref D, rawInt 0, rawInt kvs.length, rawInt ep] }
  refine for_walkK (l := D) (ol := o) (news := news) (m := m) (Walks.dictValues hh s₁.heap.objs.size D (Nat.ne_of_lt hlt) kvs ep) ?_ ?_ ?_ (fun i m₁ news₁ => (∃ o, m₁ = fun y => if y = x then o else m y) ∧ J i news₁)
    ⟨⟨_, Heap.get?_push_size _ rfl, rfl, rfl⟩, hm.at' fun o e => Heap.get?_push_of_some _ e⟩ hF (fun p hp => ⟨Heap.get?_push_of_some _ (N p hp).1, (N p hp).2⟩) (.tail _ (.head _)) (fun hm => hsm _ _ hD.1 (List.mem_singleton.mp hm)) ?_ ⟨⟨m x, ?_⟩, h0⟩ ?_ ?_
  · rintro i h ⟨⟨o, ho, _⟩, ⟨o', _, ho', _⟩⟩ b hb
    rcases List.mem_cons.mp hb with rfl | hb
    · exact ⟨o, ho⟩
    · rw [List.mem_singleton.mp hb]; exact ⟨o', ho'⟩
  · intro b hb
    rw [List.mem_singleton.mp hb]
    cases e : h₀.get? s₁.heap.objs.size with
    | none => rfl
    | some o => exact absurd rfl (hsm _ _ (F.keep _ _ e))
  · intro hm
    rcases List.mem_cons.mp hm with e | hm
    · exact absurd F.ns.lt (e ▸ Nat.lt_irrefl _)
    · exact hD.2.1 (List.mem_singleton.mp hm).symm
  · intro p hp hm
    rcases List.mem_cons.mp hm with e | hm
    · exact hsm _ _ (N p (.tail _ hp)).1 e
    · exact hln p hp (List.mem_singleton.mp hm)
  · funext y
    by_cases e : y = x
    · rw [if_pos e, e]
    · rw [if_neg e]
  · rintro i v m₁ news₁ h tk own hi ⟨k, hk⟩ ⟨⟨o, rfl⟩, hJ⟩ hoff F₁ N₁
    have e : (fun y => if y = x then some v else if y = x then o else m y) = fun y => if y = x then some v else m y := by
      funext y
      by_cases e : y = x
      · rw [if_pos e, if_pos e]
      · rw [if_neg e, if_neg e, if_neg e]
    rw [e] at F₁
    exact turn i k v news₁ h tk own _ rfl hk hJ hoff F₁ N₁
  · rintro m' news' h tk ⟨⟨o, rfl⟩, hJ⟩ F' N'
    exact done o news' h tk hJ F' N'
end
/-- a table of the law's own making, with what of it the base has not -/
structure TabF (w : World) (B V : Heap) (o : Obj) (t D : Addr) (kvs : List (Str × Value)) (R : List Row) : Prop where
  dict : o.IsDictOf (SK w) kvs
  here : ∃ td nm tn p t1 t2 t3 t4 n, V.get? t = some (instObj 64 td) ∧ V.get? td = some (dictOf [fld w "name" t1 (.str nm tn), fld w "parents" t2 (.ref p), fld w "entries" t3 (.ref D), fld w "is_all_great" t4 (.bool false)] n) ∧ B.get? t = none ∧ B.get? td = none
  ents : Bears keyOf (fun v r => ∃ ex ed, v = .ref ex ∧ EntryV w (HV V) ed ex r ∧ B.get? ex = none ∧ B.get? ed = none) kvs R
  lo : (D == sysModules) = false
theorem TabF.st {w : World} {B V : Heap} {o : Obj} {t D : Addr} {kvs : List (Str × Value)} {R : List Row} (h : TabF w B V o t D kvs R) : TabSt w V o t D kvs R :=
  ⟨h.dict, let ⟨td, nm, tn, p, t1, t2, t3, t4, n, a, b, _⟩ := h.here; ⟨td, nm, tn, p, t1, t2, t3, t4, n, a, b⟩, h.ents.imp fun v r ⟨ex, ed, a, b, _⟩ => ⟨ex, ed, a, b⟩, h.lo⟩
theorem TabF.grow {w : World} {B V V' : Heap} {o : Obj} {t D : Addr} {kvs : List (Str × Value)} {R : List Row} (h : TabF w B V o t D kvs R) (g : Grow V V') : TabF w B V' o t D kvs R :=
  ⟨h.dict, let ⟨td, nm, tn, p, t1, t2, t3, t4, n, a, b, c, d⟩ := h.here; ⟨td, nm, tn, p, t1, t2, t3, t4, n, g _ _ a, g _ _ b, c, d⟩, h.ents.imp fun v r ⟨ex, ed, a, b, c⟩ => ⟨ex, ed, a, b.mono fun _ _ z => g _ _ z, c⟩, h.lo⟩
/-- what the loop over the entries bears -/
inductive OwnJ (w : World) (B : Heap) (L D dk t : Addr) (o : Obj) (kvs : List (Str × Value)) (R : List Row) (u : Int) (keep : List (Addr × Obj)) (i : Nat) (news : List (Addr × Obj)) : Prop
  | mk (V : Heap) (vs : List Value) (ns : List Int) (c : Nat) (R' : List Row) (h1 : news = (dk, listOf (List.toArray vs) c) :: (keep ++ VL B V)) (h2 : IntsAre vs ns) (h3 : ns.length ≤ 100) (h4 : Grow B V) (h5 : (∀ x ∈ L :: D :: dk :: keep.map (·.1), V.get? x = none)) (h6 : TabF w B V o t D kvs R') (h7 : R'.map Row.word = R.map Row.word) (h8 : ∀ (j : Nat) r, R'[j]? = some r → (j < i → LawR (u + 11) r) ∧ (i ≤ j → LawR u r))
theorem entry_set {w : World} {B V V' : Heap} {kvs : List (Str × Value)} {R : List Row} {i : Nat} {k : Str} {ex ed lo lc : Addr} {r : Row} {lvs lcs : List Value} {c1 c2 : Nat} {v : Int} {t1 t2 t3 t4 t5 : Tok}
    (hE : Bears keyOf (fun v r => ∃ ex ed, v = .ref ex ∧ EntryV w (HV V) ed ex r ∧ B.get? ex = none ∧ B.get? ed = none) kvs R) (hw : Wds R) (hk : kvs[i]? = some (k, .ref ex)) (hr : R[i]? = some r) (hkey : k = keyOf r.word)
    (e1 : V.get? ex = some (instObj 43 ed)) (ed0 : V.get? ed = some (entD w lo lc r.exact r.used t1 t2 t3 t4 t5)) (e3 : V.get? lo = some (listOf lvs.toArray c1)) (e4 : V.get? lc = some (listOf lcs.toArray c2)) (i1 : IntsAre lvs r.word) (i2 : IntsAre lcs r.codes)
    (fx : B.get? ex = none) (fd : B.get? ed = none) {t4' t5' : Tok} (hed : V'.get? ed = some (entD w lo lc r.exact v t1 t2 t3 t4' t5')) (hg : ∀ a o, a ≠ ed → V.get? a = some o → V'.get? a = some o) :
    Bears keyOf (fun v r => ∃ ex ed, v = .ref ex ∧ EntryV w (HV V') ed ex r ∧ B.get? ex = none ∧ B.get? ed = none) kvs (R.set i { r with used := v }) := by
  have nl : ∀ {l : Addr} {xs : Array Value} {c : Nat}, V.get? l = some (listOf xs c) → l ≠ ed := fun {l xs c} e q => by
    rw [q, ed0] at e
    have h : Value.type "dict" = .type "list" := congrArg Obj.cls (Option.some.inj e)
    exact absurd h (by decide)
  have nx : ∀ {a d : Addr}, V.get? a = some (instObj 43 d) → a ≠ ed := fun {a d} e q => by
    rw [q, ed0] at e; cases e
  refine paired_set hE hk ⟨hkey, ex, ed, rfl, ⟨lo, lc, lvs, lcs, t1, t2, t3, t4', t5', c1, c2, hg _ _ (nx e1) e1, hed, hg _ _ (nl e3) e3, hg _ _ (nl e4) e4, i1, i2⟩, fx, fd⟩ ?_
  rintro j ⟨k', v'⟩ r' hj hkv' hr' hJq
  obtain ⟨hk', ex', ed', rfl, ⟨lo', lc', lvs', lcs', u1, u2, u3, u4, u5, c1', c2', a1, a2, a3, a4, a5, a6⟩, b1, b2⟩ := hJq
  have hne : ed' ≠ ed := fun q => by
    have a2' : V.get? ed' = _ := a2
    rw [q, ed0] at a2'
    have hlo : lo = lo' := by
      have h := Option.some.inj a2'
      unfold entD dictOf fld at h
      simp at h
      exact h.1.2
    have a3' : V.get? lo' = _ := a3
    rw [← hlo, e3] at a3'
    have hl : lvs = lvs' := by
      have h : Data.seq lvs.toArray c1 = Data.seq lvs'.toArray c1' := congrArg Obj.data (Option.some.inj a3')
      injection h with h1
      simpa using h1
    have hwd : r.word = r'.word := by rw [hl] at i1; exact ints_uniq i1 a5
    exact hj (nodup_at hw (by rw [List.getElem?_map, hr']; rfl) (by rw [List.getElem?_map, hr]; exact congrArg some hwd))
  exact ⟨hk', ex', ed', rfl, ⟨lo', lc', lvs', lcs', u1, u2, u3, u4, u5, c1', c2', hg _ _ (nx a1) a1, hg _ _ hne a2, hg _ _ (nl a3) a3, hg _ _ (nl a4) a4, a5, a6⟩, b1, b2⟩
theorem map_set_word {R : List Row} {i : Nat} {r : Row} {v : Int} (h : R[i]? = some r) : (R.set i { r with used := v }).map Row.word = R.map Row.word := by
  apply List.ext_getElem?
  intro j
  rw [List.getElem?_map, List.getElem?_map, List.getElem?_set]
  split
  · rename_i e
    subst e
    rw [h]
    split
    · rfl
    · rename_i e
      have := (List.getElem?_eq_some_iff.mp h).1
      exact absurd this e
  · rfl
theorem used_for {w : World} {A₀ : Around} {E : Value → Shared → Prop} {s : Shared} {B V : Heap} {L fa : Addr} {cd : Value} {m mg mb : Str → Option Value} {mean : ExcName → Option Value} {Q : Flow → Shared → Prop}
    {dk t D : Addr} {o : Obj} {kvs : List (Str × Value)} {vs : List Value} {c : Nat} {ns : List Int} {R : List Row} {u : Int} {keep : List (Addr × Obj)}
    (F : Fr B L s.heap m) (X : (hd.heap_1 w.params).In B) (T : Top headView (looseW headView [Str.ofString "EXACT"]) mean mg mb B) (hD : A₀.depth ≤ 400) (hU : A₀.units ≤ 1000) (hh : A₀.handled = none) (hPE : PassesOwn (model PySem.Challenge.rw_ok0052_01.row.prog w) (A₀.deeper (lawEnv L fa cd)) (lawEnv L fa cd) E)
    (m1 : m (Str.ofString "deck") = some (.ref dk)) (m2 : m (Str.ofString "table") = some (.ref t)) (N : News B L s.heap ((D, o) :: (dk, listOf (List.toArray vs) c) :: keep)) (hkD : ∀ p ∈ keep, p.1 ≠ D ∧ p.1 ≠ dk) (hDd : D ≠ dk)
    (hBV : Grow B V) (hV : Grow V s.heap) (hVX : ∀ x ∈ L :: D :: dk :: keep.map (·.1), V.get? x = none) (ts : TabF w B V o t D kvs R) (hw : Wds R) (hl : ∀ r ∈ R, LawR u r) (hu : 0 ≤ u) (hu' : u ≤ 900) (hk : R.length ≤ 100) (hi : IntsAre vs ns) (hz : ns.length ≤ 100)
    (hfin : Hold (∀ V' R' vs' ns' c' ow h' tk', IntsAre vs' ns' → ns'.length ≤ 100 → Fr B L h' (fun y => if y = Str.ofString "own" then ow else m y) → News B L h' ((D, o) :: (dk, listOf (List.toArray vs') c') :: keep) → Grow B V' → Grow V' h' → (∀ x ∈ L :: D :: dk :: keep.map (·.1), V'.get? x = none) →
      TabF w B V' o t D kvs R' → R'.map Row.word = R.map Row.word → (∀ r ∈ R', LawR (u + 11) r) → Q .next { s with heap := h', toks := tk' })) :
    wpAny (model PySem.Challenge.rw_ok0052_01.row.prog w) (A₀.deeper (lawEnv L fa cd)) (execs (lapBody.drop 2) (lawEnv L fa cd)) Q E s := by
  revert X; k_fill; intro X
  obtain ⟨td, nm, tn, p, t1, t2, t3, t4, n, ht1, ht2, ht3, ht4⟩ := ts.here
  have hVL : V.get? L = none := hVX _ (.head _)
  have inV : ∀ {a : Addr} {ob : Obj}, V.get? a = some ob → B.get? a = none → s.heap.get? a = some ob ∧ a ≠ L ∧ B.get? a = none := fun {a ob} e f => ⟨hV _ _ e, (fun (q : a = L) => by rw [q, hVL] at e; cases e), f⟩
  have N0 : News B L s.heap ((t, instObj 64 td) :: (td, dictOf [fld w "name" t1 (.str nm tn), fld w "parents" t2 (.ref p), fld w "entries" t3 (.ref D), fld w "is_all_great" t4 (.bool false)] n) :: (D, o) :: (dk, listOf (List.toArray vs) c) :: (keep ++ VL B V)) := fun q hq => by
    rcases List.mem_cons.mp hq with rfl | hq
    · exact inV ht1 ht3
    rcases List.mem_cons.mp hq with rfl | hq
    · exact inV ht2 ht4
    rcases List.mem_cons.mp hq with rfl | hq
    · exact N _ (.head _)
    rcases List.mem_cons.mp hq with rfl | hq
    · exact N _ (.tail _ (.head _))
    rcases List.mem_append.mp hq with hq | hq
    · exact N _ (.tail _ (.tail _ hq))
    · exact news_vl hV hVL q hq
  clear N
  unfold lawEnv lapBody lawBody lawFd recOf
  dsimp only [List.drop]
  rw [map_is m1, map_is m2] at F
  have hdo := ts.dict
  have lo := ts.lo
  have hkl : kvs.length = R.length := paired_length ts.ents
  walk_at "S"
  refine For_invV B rfl rfl ?_ (hE := hPE)
  walk_at "S"
  rename Fr _ _ _ _ => F1
  rename News _ _ _ _ => N1
  have hV1 : Grow V _ := vl_grow F1 hBV fun p hp => N1.get (by repeat (first | exact List.mem_append_right _ hp | apply List.Mem.tail))
  have hN1 : News B L _ ((D, o) :: (dk, listOf (List.toArray vs) c) :: (keep ++ VL B V)) := fun p hp => N1 p (.tail _ (.tail _ (.tail _ hp)))
  refine for_vals (o := o) (kvs := kvs) (news := (dk, listOf (List.toArray vs) c) :: (keep ++ VL B V)) (fun i news => OwnJ w B L D dk t o kvs R u keep i news) rfl hh (N1.get (.head _)) hdo F1 hN1 ?_ ⟨V, vs, ns, c, R, rfl, hi, hz, hBV, hVX, ts, rfl, fun j r hr => ⟨fun q => absurd q (Nat.not_lt_zero _), fun _ => hl r (List.mem_of_getElem? hr)⟩⟩ ?_ ?_
  · intro p hp
    rcases List.mem_cons.mp hp with rfl | hp
    · exact fun q => hDd q.symm
    rcases List.mem_append.mp hp with hp | hp
    · exact (hkD p hp).1
    · intro q
      have := (vl_mem hp).1
      rw [q, hVX _ (.tail _ (.head _))] at this; cases this
  · rintro i k v news₁ h2 tk2 own s₂ rfl hkv hJq hoff F2 N2
    obtain ⟨V1, vs1, ns1, c1, R1, rfl, hi1, hz1, hB1, hX1, ts1, hw1, hl1⟩ := hJq
    obtain ⟨r, hr, hkey, ex, ed, rfl, ⟨lo', lc', lvs, lcs, u1, u2, u3, u4, u5, c1', c2', e1, e2, e3, e4, i1, i2⟩, fx, fd⟩ := paired_at ts1.ents hkv
    have e1' : V1.get? ex = some (instObj 43 ed) := e1
    have e2' : V1.get? ed = some (entD w lo' lc' r.exact r.used u1 u2 u3 u4 u5) := e2
    have hVh : Grow V1 h2 := vl_grow F2 hB1 fun p hp => N2.get (List.mem_append_left _ (.tail _ (List.mem_append_right _ hp)))
    have nL : ∀ {a : Addr} {ob : Obj}, V1.get? a = some ob → ∀ x ∈ L :: D :: dk :: keep.map (·.1), a ≠ x := fun {a ob} e x hx q => by rw [q, hX1 x hx] at e; cases e
    have nO : ∀ {a : Addr} {ob : Obj}, V1.get? a = some ob → ∀ p ∈ own, a ≠ p.1 := fun {a ob} e p hp q => by
      rcases vl_all hB1 e with z | z
      · have := N2.fresh (List.mem_append_right _ hp)
        rw [q, this] at z; cases z
      · exact hoff _ (.tail _ (List.mem_append_right _ z)) p hp q
    have nX : ∀ {a : Addr} {ob : Obj}, V1.get? a = some ob → a ∉ L :: D :: dk :: (keep.map (·.1) ++ own.map (·.1)) := fun {a ob} e hm => by
      rcases List.mem_cons.mp hm with z | hm
      · exact nL e _ (.head _) z
      rcases List.mem_cons.mp hm with z | hm
      · exact nL e _ (.tail _ (.head _)) z
      rcases List.mem_cons.mp hm with z | hm
      · exact nL e _ (.tail _ (.tail _ (.head _))) z
      rcases List.mem_append.mp hm with hm | hm
      · exact nL e _ (.tail _ (.tail _ (.tail _ hm))) rfl
      · obtain ⟨p, hp, z⟩ := List.mem_map.mp hm
        exact nO e p hp z.symm
    have n2 : ex ≠ ed := fun q => by
      rw [q, e2'] at e1'
      have h : Value.type "dict" = .ref 43 := congrArg Obj.cls (Option.some.inj e1')
      exact nomatch h
    have N3 : News B L h2 [(dk, listOf (List.toArray vs1) c1), (ex, instObj 43 ed), (ed, entD w lo' lc' r.exact r.used u1 u2 u3 u4 u5)] := fun p hp => by
      rcases List.mem_cons.mp hp with rfl | hp
      · exact N2 _ (.head _)
      rcases List.mem_cons.mp hp with rfl | hp
      · exact ⟨hVh _ _ e1', nL e1' _ (.head _), fx⟩
      · rw [List.mem_singleton.mp hp]; exact ⟨hVh _ _ e2', nL e2' _ (.head _), fd⟩
    have hLr := (hl1 i r hr).2 (Nat.le_refl _)
    refine used_turn F2 X T hD hU rfl rfl N3 (nL e2' _ (.tail _ (.tail _ (.head _)))) n2 (nL e1' _ (.tail _ (.tail _ (.head _)))) hi1 hz1 hLr.lo (Int.le_trans hLr.hi (by omega)) ?_
    unfold Hold
    intro k4 vs' ns' c' t4' t5' h3 tk3 hk0 hk1 hi3 hz3 F3 N3' G3
    have nK : ∀ p ∈ keep, p.1 ≠ ed := fun p hp q => nL e2' _ (.tail _ (.tail _ (.tail _ (List.mem_map_of_mem hp)))) q.symm
    have up : ∀ {a : Addr} {ob : Obj}, h2.get? a = some ob → a ≠ L → a ≠ dk → a ≠ ed → h3.get? a = some ob := fun {a ob} e x1 x2 x3 => of_hideAll _ (G3 _ _ (hideAll_get _ e fun z => by
      rcases List.mem_cons.mp z with z | z
      · exact x1 z
      rcases List.mem_cons.mp z with z | z
      · exact x2 z
      · exact x3 (List.mem_singleton.mp z)))
    have g : ∀ a ob, a ≠ ed → V1.get? a = some ob → (hideAll h3 (L :: D :: dk :: (keep.map (·.1) ++ own.map (·.1)))).get? a = some ob := fun a ob x3 e => hideAll_get _ (up (hVh _ _ e) (nL e _ (.head _)) (nL e _ (.tail _ (.tail _ (.head _)))) x3) (nX e)
    have hed := show (hideAll h3 (L :: D :: dk :: (keep.map (·.1) ++ own.map (·.1)))).get? ed = some (entD w lo' lc' r.exact (r.used + k4) u1 u2 u3 t4' t5') from hideAll_get _ (N3'.get (.tail _ (.tail _ (.head _)))) (nX e2')
    have hB' : Grow B (hideAll h3 (L :: D :: dk :: (keep.map (·.1) ++ own.map (·.1)))) := fun a ob e => g _ _ (fun q => by rw [q, fd] at e; cases e) (hB1 _ _ e)
    obtain ⟨td', nm', tn', p', t1', t2', t3', t4'', n', ht1', ht2', ht3', ht4'⟩ := ts1.here
    have nt : t ≠ ed := fun q => by
      rw [q, e2'] at ht1'
      have h : Value.type "dict" = .ref 64 := congrArg Obj.cls (Option.some.inj ht1')
      exact nomatch h
    have ntd : td' ≠ ed := fun q => by
      rw [q, e2'] at ht2'
      have h := Option.some.inj ht2'
      unfold entD dictOf fld at h
      simp at h
    have ts' : TabF w B (hideAll h3 (L :: D :: dk :: (keep.map (·.1) ++ own.map (·.1)))) o t D kvs (R1.set i { r with used := r.used + k4 }) :=
      ⟨hdo, ⟨td', nm', tn', p', t1', t2', t3', t4'', n', g _ _ nt ht1', g _ _ ntd ht2', ht3', ht4'⟩, entry_set ts1.ents (by unfold Wds; rw [hw1]; exact hw) hkv hr hkey e1' e2' e3 e4 i1 i2 fx fd hed g, lo⟩
    refine ⟨h3, tk3, _, (dk, listOf (List.toArray vs') c') :: (keep ++ VL B (hideAll h3 (L :: D :: dk :: (keep.map (·.1) ++ own.map (·.1))))), rfl, F3, fun p hp => ?_, fun p hp q hq => ?_, ⟨_, rfl⟩, ⟨_, vs', ns', c', _, rfl, hi3, hz3, hB', fun x hx => ?_, ts', (map_set_word hr).trans hw1, fun j r' hr' => ?_⟩⟩
    · rcases List.mem_append.mp hp with hp | hp
      · rcases List.mem_cons.mp hp with rfl | hp
        · exact N3' _ (.head _)
        rcases List.mem_append.mp hp with hp | hp
        · have z := N2 p (List.mem_append_left _ (.tail _ (List.mem_append_left _ hp)))
          exact ⟨up z.1 z.2.1 (hkD p hp).2 (nK p hp), z.2⟩
        · exact news_vl (fun b ob e => of_hideAll _ e) (hideAll_none _ (.head _)) p hp
      · have z := N2 p (List.mem_append_right _ hp)
        exact ⟨up z.1 z.2.1 (fun q => hoff _ (.head _) p hp q.symm) (fun q => nO e2' p hp q.symm), z.2⟩
    · rcases List.mem_cons.mp hp with rfl | hp
      · exact hoff _ (.head _) q hq
      rcases List.mem_append.mp hp with hp | hp
      · exact hoff _ (.tail _ (List.mem_append_left _ hp)) q hq
      · intro z
        have y := (vl_mem hp).1
        rw [z, hideAll_none _ (.tail _ (.tail _ (.tail _ (List.mem_append_right _ (List.mem_map_of_mem hq)))))] at y; cases y
    · refine hideAll_none _ ?_
      rcases List.mem_cons.mp hx with rfl | hx
      · exact .head _
      rcases List.mem_cons.mp hx with rfl | hx
      · exact .tail _ (.head _)
      rcases List.mem_cons.mp hx with rfl | hx
      · exact .tail _ (.tail _ (.head _))
      · exact .tail _ (.tail _ (.tail _ (List.mem_append_left _ hx)))
    · rw [List.getElem?_set] at hr'
      split at hr'
      · rename_i e
        split at hr'
        · cases hr'
          subst e
          exact ⟨fun _ => ⟨hLr.word, hLr.codes, by have := hLr.lo; show 0 ≤ r.used + k4; omega, by have := hLr.hi; show r.used + k4 ≤ u + 11; omega, hLr.wb, hLr.cb⟩, fun q => by omega⟩
        · cases hr'
      · rename_i e
        have z := hl1 j r' hr'
        exact ⟨fun q => z.1 (by omega), fun q => z.2 (by omega)⟩
  · rintro ow news' h5 tk5 hJq F5 N5
    obtain ⟨V1, vs1, ns1, c1, R1, rfl, hi1, hz1, hB1, hX1, ts1, hw1, hl1⟩ := hJq
    have hVh : Grow V1 h5 := vl_grow F5 hB1 fun p hp => N5.get (.tail _ (.tail _ (List.mem_append_right _ hp)))
    have hRl : R1.length = R.length := by have := congrArg List.length hw1; simpa using this
    have eM : (fun y => if y = Str.ofString "own" then ow else m y) = (fun y => if y = Str.ofString "own" then ow else if y = Str.ofString "deck" then some (.ref dk) else if y = Str.ofString "table" then some (.ref t) else m y) := by
      funext y
      by_cases h1 : y = Str.ofString "own"
      · rw [if_pos h1, if_pos h1]
      rw [if_neg h1, if_neg h1]
      by_cases h2 : y = Str.ofString "deck"
      · rw [if_pos h2, h2, m1]
      rw [if_neg h2]
      by_cases h3 : y = Str.ofString "table"
      · rw [if_pos h3, h3, m2]
      rw [if_neg h3]
    have F6 : Fr B L h5 (fun y => if y = Str.ofString "own" then ow else m y) := by rw [eM]; exact F5
    have NZ : News B L h5 ((D, o) :: (dk, listOf (List.toArray vs1) c1) :: keep) := fun p hp => N5 p (by
      rcases List.mem_cons.mp hp with rfl | hp
      · exact .head _
      rcases List.mem_cons.mp hp with rfl | hp
      · exact .tail _ (.head _)
      · exact .tail _ (.tail _ (List.mem_append_left _ hp)))
    dsimp only
    walk1
    exact hfin V1 R1 vs1 ns1 c1 ow h5 _ hi1 hz1 F6 NZ hB1 hVh hX1 ts1 hw1 fun r hr => by
      obtain ⟨j, hj⟩ := List.getElem?_of_mem hr
      have hjl := (List.getElem?_eq_some_iff.mp hj).1
      exact (hl1 j r hj).1 (by omega)
section
variable {prog : Program} {w : World} {A : Around} {env : Env} {E : Value → Shared → Prop} {s₁ : Shared} {h₀ : Heap} {x : Str} {body : List Stmt} {Q : Flow → Shared → Prop}
theorem for_range {L r : Addr} {n : Nat} {t₀ u₀ v₀ : Tok} {m : Str → Option Value} {news : List (Addr × Obj)} (J : Nat → (Str → Option Value) → List (Addr × Obj) → Prop)
    (hLe : env.locals = L) (hh : A.handled = none) (hr : IsRange s₁.heap r 0 (n : Int) 1 t₀ u₀ v₀) (hz : n ≤ 1000) (F : Fr h₀ L s₁.heap m) (N : News h₀ L s₁.heap news) (h0 : J 0 m news)
    (turn : ∀ i v m₁ news₁ h tk own s₂, s₂ = { s₁ with heap := h, toks := tk } → i < n → J i m₁ news₁ → Off news₁ own → Fr h₀ L h (fun y => if y = x then some v else m₁ y) → News h₀ L h (news₁ ++ own) →
      wpAny (model prog w) A (execs body env) (TurnEnd h₀ L s₁ own (J (i + 1)) Q) E s₂)
    (done : ∀ m' news' h tk, J n m' news' → Fr h₀ L h m' → News h₀ L h news' → Q .next { s₁ with heap := h, toks := tk }) :
    wpAny (model prog w) A (pyIter (.ref r)) (fun it s₂ => LoopAtV prog w A h₀ env x body Q E it s₂) E s₁ := by
  subst hLe
  have hn : Builtin.Range.rangeSize 0 (n : Int) 1 = (n : Int) := by
    unfold Builtin.Range.rangeSize
    rw [if_pos (by omega)]
    split
    · rw [Int.ediv_one]; omega
    · omega
  have hsmall : Builtin.Range.small 0 (n : Int) 1 = true := small_one (by decide) (by decide) (by omega) (by omega)
  refine wpAny_pyIter_range hr hsmall ?_
  have hsm : ∀ b o, s₁.heap.get? b = some o → b ∉ [s₁.heap.objs.size] := fun b o e q => by
    rw [List.mem_singleton.mp q] at e; exact Nat.lt_irrefl _ (Heap.lt_size e)
  have e0 : ∀ b o, s₁.heap.get? b = some o → ∀ ob, (s₁.heap.push ob).get? b = some o := fun b o e ob => Heap.get?_push_of_some _ e
  refine for_walk (news := news) (m := m) (Walks.range hh s₁.heap.objs.size 0 1 n) ?_ ?_ ?_ J ?_ (F.push _) (fun p hp => ⟨Heap.get?_push_of_some _ (N p hp).1, (N p hp).2⟩) ?_ h0 ?_ ?_
  · intro i h st b hb
    rw [List.mem_singleton.mp hb]
    exact ⟨_, st⟩
  · intro b hb
    cases e : h₀.get? b with
    | none => rfl
    | some o => exact absurd hb (hsm _ _ (F.keep _ _ e))
  · intro hm
    exact absurd F.ns.lt (List.mem_singleton.mp hm ▸ Nat.lt_irrefl _)
  · show IsRangeIter _ _ _ _ _
    rw [hn]; simpa using Heap.get?_push_size _ rfl
  · intro p hp
    exact hsm _ _ (N p hp).1
  · intro i v m₁ news₁ h tk own hi hP hJ hoff F₁ N₁
    exact turn i v m₁ news₁ h tk own _ rfl hi hJ hoff F₁ N₁
  · intro m' news' h tk hJ F' N'
    exact done m' news' h tk hJ F' N'
end
section
variable {w : World} {A : Around} {E : Value → Shared → Prop} {s : Shared} {B V : Heap} {L : Addr} {m mg mb : Str → Option Value} {mean : ExcName → Option Value} {Q : Value → Shared → Prop}
theorem define_lawF {t D l lc : Addr} {o : Obj} {kvs : List (Str × Value)} {R : List Row} {vs vcs : List Value} {ns cs : List Int} {ex : Bool} {nl nc : Nat} (X : (hd.heap_1 w.params).In B) (T : Top headView (looseW headView [Str.ofString "EXACT"]) mean mg mb B)
    (hD : A.depth ≤ 560) (hU : A.units ≤ 1700) (hh : A.handled = none) (hBs : Grow B s.heap) (hBV : Grow B V) (hV : Grow V s.heap) (hVD : V.get? D = none) (hDs : s.heap.get? D = some o) (ts : TabF w B V o t D kvs R) (hk : R.length ≤ 900) (hN : Nn R)
    (hl : V.get? l = some (listOf vs.toArray nl)) (hi : IntsAre vs ns) (hz : ns.length ≤ 100) (hb : ∀ n ∈ ns, 0 ≤ n ∧ n ≤ 5000) (hc : V.get? lc = some (listOf vcs.toArray nc)) (hci : IntsAre vcs cs)
    (hfin : ∀ kvs' o' h' tk', (∀ V', Grow V V' → (∀ a ob, s.heap.get? a = none → h'.get? a = some ob → V'.get? a = some ob) → TabF w B V' o' t D kvs' (put (drp (drp R ns) (ns.map dc)) ⟨if ex then ns else ns.map dc, 0, cs, ex⟩)) → Past s.heap [D] h' → h'.get? D = some o' → Q .none { s with heap := h', toks := tk' }) :
    wpAny (model PySem.Challenge.rw_ok0052_01.row.prog w) A (call (.ref 80) [.ref t, .ref l, .ref lc, .bool ex]) Q E s := by
  have hkl : kvs.length = R.length := paired_length ts.ents
  refine define_new (V := V) (ns := ns) (cs := cs) hV (X.keeps hBV) (T.keeps hBV) hD hU hh ts.st.here hDs hVD ts.dict ts.lo (by omega) hl hi hz hb hc hci ?_
  intro d x o' h' tk' fx fd hE ho' P hD'
  have up : ∀ {a : Addr}, s.heap.get? a = none → B.get? a = none := fun {a} e => by
    cases q : B.get? a with
    | none => rfl
    | some ob => rw [hBs _ _ q] at e; cases e
  refine hfin _ o' h' tk' (fun V' g1 g2 => ⟨ho', (ts.grow g1).here, ?_, ts.lo⟩) P hD'
  have hns : ∀ k ∈ ns, 0 ≤ k := fun k hk => (hb k hk).1
  have hdc : ∀ k ∈ ns.map dc, 0 ≤ k := fun k hk => by
    obtain ⟨n, hn, rfl⟩ := List.mem_map.mp hk
    have := hb n hn
    unfold dc; split <;> omega
  have hw' : ∀ k ∈ (if ex then ns else ns.map dc), 0 ≤ k := by cases ex <;> assumption
  have hEnt : EntryV w (HV V') d x ⟨if ex then ns else ns.map dc, 0, cs, ex⟩ := hE.mono fun a ob k => k.elim (g1 _ _) fun z => g2 _ _ z.1 z.2
  have n1 : Nn (drp R ns) := fun q hq => hN q (drp_mem hq)
  have n2 : Nn (drp (drp R ns) (ns.map dc)) := fun q hq => n1 q (drp_mem hq)
  have b1 := (ts.grow g1).ents.without (injOn_key hN hns)
  have b2 := Bears.without b1 (injOn_key n1 hdc)
  exact Bears.stored (r := ⟨if ex then ns else ns.map dc, 0, cs, ex⟩) b2 (injOn_key n2 hw') ⟨x, d, rfl, hEnt, up fx, up fd⟩
theorem codes_law {dk : Addr} {vs : List Value} {ns : List Int} {n : Nat} {a b : Int} {ta tb : Tok} (F : Fr B L s.heap m) (N : News B L s.heap [(dk, listOf (List.toArray vs) n)]) (X : (hd.heap_1 w.params).In B) (T : Top headView (looseW headView [Str.ofString "EXACT"]) mean mg mb B)
    (hD : A.depth ≤ 590) (hU : A.units ≤ 1900) (hh : A.handled = none) (hi : IntsAre vs ns) (hz : ns.length ≤ 100) (ha : 0 ≤ a) (hab : a ≤ b) (hb : b ≤ 100)
    (hfin : ∀ r rs ks c vs' ns' n' h' tk', IntsAre rs ks → a ≤ ks.length → (ks.length : Int) ≤ b → (∀ k ∈ ks, 0 ≤ k ∧ k ≤ 1000) → IntsAre vs' ns' → ns'.length ≤ 100 → Past s.heap [dk] h' → s.heap.get? r = none → Fr B L h' m → News B L h' [(r, listOf (List.toArray rs) c), (dk, listOf (List.toArray vs') n')] → Q (.ref r) { s with heap := h', toks := tk' }) :
    wpAny (model PySem.Challenge.rw_ok0052_01.row.prog w) A (call (.ref 226) [.ref dk, .int a ta, .int b tb]) Q E s := by
  refine lawcodes_spec F.keep X T hD hU hh hi (N.get (.head _)) (N.fresh (.head _)) hz ha hab hb ?_
  intro r rs ks c vs' ns' n' h' tk' x1 x2 x3 x4 x5 x6 P hr hr' hD'
  obtain ⟨F', N'⟩ := past_law (news := []) F N (fun _ h => nomatch h) P hD'
  refine hfin r rs ks c vs' ns' n' h' tk' x1 x2 x3 x4 x5 x6 P hr F' fun p hp => ?_
  rcases List.mem_cons.mp hp with rfl | hp
  · refine ⟨hr', fun q => ?_, ?_⟩
    · obtain ⟨oL, _, _, hL, _⟩ := F.ns
      have q' : r = L := q
      rw [← q', hr] at hL; cases hL
    · cases q : B.get? r with
      | none => rfl
      | some ob => have := F.keep _ _ q; rw [hr] at this; cases this
  · exact N' p hp
end
theorem lap_turn {w : World} {A₀ : Around} {E : Value → Shared → Prop} {s : Shared} {B V : Heap} {L fa : Addr} {cd : Value} {m mg mb : Str → Option Value} {mean : ExcName → Option Value} {Q : Flow → Shared → Prop}
    {dk t D : Addr} {o : Obj} {kvs : List (Str × Value)} {vs : List Value} {c : Nat} {ns : List Int} {R : List Row} {u : Int} {own : List (Addr × Obj)}
    (F : Fr B L s.heap m) (X : (hd.heap_1 w.params).In B) (T : Top headView (looseW headView [Str.ofString "EXACT"]) mean mg mb B) (hD : A₀.depth ≤ 400) (hU : A₀.units ≤ 1000) (hh : A₀.handled = none) (hPE : PassesOwn (model PySem.Challenge.rw_ok0052_01.row.prog w) (A₀.deeper (lawEnv L fa cd)) (lawEnv L fa cd) E)
    (m1 : m (Str.ofString "deck") = some (.ref dk)) (m2 : m (Str.ofString "table") = some (.ref t)) (N : News B L s.heap ((D, o) :: (dk, listOf (List.toArray vs) c) :: own)) (hown : ∀ p ∈ own, p.1 ≠ D ∧ p.1 ≠ dk) (hDd : D ≠ dk)
    (hBV : Grow B V) (hV : Grow V s.heap) (hVX : ∀ x ∈ L :: D :: dk :: own.map (·.1), V.get? x = none) (ts : TabF w B V o t D kvs R) (hw : Wds R) (hl : ∀ r ∈ R, LawR u r) (hu : 0 ≤ u) (hu' : u ≤ 800) (hk : R.length ≤ 50) (hi : IntsAre vs ns) (hz : ns.length ≤ 100)
    (hfin : Hold (∀ V' o' kvs' R' vs' ns' c' m' h' tk', m' (Str.ofString "deck") = some (.ref dk) → m' (Str.ofString "table") = some (.ref t) → IntsAre vs' ns' → ns'.length ≤ 100 → Fr B L h' m' → News B L h' ((D, o') :: (dk, listOf (List.toArray vs') c') :: own) → Grow B V' → Grow V' h' → (∀ x ∈ L :: D :: dk :: own.map (·.1), V'.get? x = none) →
      TabF w B V' o' t D kvs' R' → Wds R' → R'.length ≤ R.length + 1 → (∀ r ∈ R', LawR (u + 11) r) → Q .next { s with heap := h', toks := tk' })) :
    wpAny (model PySem.Challenge.rw_ok0052_01.row.prog w) (A₀.deeper (lawEnv L fa cd)) (execs lapBody (lawEnv L fa cd)) Q E s := by
  revert X; k_fill; intro X
  have hXB : ∀ x ∈ L :: D :: dk :: own.map (·.1), B.get? x = none := fun x hx => by
    cases q : B.get? x with
    | none => rfl
    | some ob => have := hBV _ _ q; rw [hVX x hx] at this; cases this
  have hXs : ∀ {h : Heap} {m : Str → Option Value}, Fr B L h m → (∃ ob, h.get? D = some ob) → (∃ ob, h.get? dk = some ob) → (∀ p ∈ own, h.get? p.1 = some p.2) → ∀ x ∈ L :: D :: dk :: own.map (·.1), ∃ ob, h.get? x = some ob := fun F a b c x hx => by
    rcases List.mem_cons.mp hx with rfl | hx
    · obtain ⟨oL, _, _, hL, _⟩ := F.ns; exact ⟨oL, hL⟩
    rcases List.mem_cons.mp hx with rfl | hx
    · exact a
    rcases List.mem_cons.mp hx with rfl | hx
    · exact b
    · obtain ⟨p, hp, rfl⟩ := List.mem_map.mp hx
      exact ⟨_, c p hp⟩
  unfold lawEnv lapBody lawBody lawFd recOf
  dsimp only [List.drop]
  rw [map_is m1, map_is m2] at F
  have N0 : News B L s.heap [(dk, listOf (List.toArray vs) c)] := fun p hp => N p (by rw [List.mem_singleton.mp hp]; exact .tail _ (.head _))
  walk_at "SL"
  rename Fr _ _ _ _ => F0
  rename News B L _ [_] => N00
  refine codes_law F0 N00 X T (by walk_at "DU") (by walk_at "DU") hh hi hz (by decide) (by decide) (by decide) ?_
  intro r1 rs1 ks1 c1 vs1 ns1 n1 h1 tk1 a1 a2 a3 a4 a5 a6 P1 f1 F1 N1
  have xs0 := hXs F0 ⟨_, N.get (.head _)⟩ ⟨_, N.get (.tail _ (.head _))⟩ fun p hp => N.get (.tail _ (.tail _ hp))
  have gV1 : Grow V (hideAll h1 (L :: D :: dk :: own.map (·.1))) := fun a ob e => hideAll_get _ (P1 _ _ (hV _ _ e) fun z => by
    rw [List.mem_singleton.mp z, hVX _ (.tail _ (.tail _ (.head _)))] at e; cases e) fun z => by rw [hVX _ z] at e; cases e
  have hr1 : (hideAll h1 (L :: D :: dk :: own.map (·.1))).get? r1 = some (listOf (List.toArray rs1) c1) := hideAll_get _ (N1.get (.head _)) fun z => by
    obtain ⟨ob, e⟩ := xs0 _ z
    rw [f1] at e; cases e
  have hB1 := hBV.trans gV1
  have up1 : ∀ p ∈ (D, o) :: own, h1.get? p.1 = some p.2 ∧ p.1 ≠ L ∧ B.get? p.1 = none := fun p hp => by
    have hp' : p ∈ (D, o) :: (dk, listOf (List.toArray vs) c) :: own := by
      rcases List.mem_cons.mp hp with rfl | hp
      · exact .head _
      · exact .tail _ (.tail _ hp)
    have z := N p hp'
    refine ⟨P1 _ _ z.1 fun q => ?_, z.2⟩
    rcases List.mem_cons.mp hp with rfl | hp
    · exact hDd (List.mem_singleton.mp q)
    · exact (hown p hp).2 (List.mem_singleton.mp q)
  have N2 : News B L h1 ((r1, listOf (List.toArray rs1) c1) :: (dk, listOf (List.toArray vs1) n1) :: (D, o) :: (own ++ VL B (hideAll h1 (L :: D :: dk :: own.map (·.1))))) := fun p hp => by
    rcases List.mem_cons.mp hp with rfl | hp
    · exact N1 _ (.head _)
    rcases List.mem_cons.mp hp with rfl | hp
    · exact N1 _ (.tail _ (.head _))
    rcases List.mem_cons.mp hp with rfl | hp
    · exact up1 _ (.head _)
    rcases List.mem_append.mp hp with hp | hp
    · exact up1 _ (.tail _ hp)
    · exact news_vl (fun b ob e => of_hideAll _ e) (hideAll_none _ (.head _)) p hp
  have s1 : ∃ ob, s.heap.get? dk = some ob := ⟨_, N.get (.tail _ (.head _))⟩
  clear F0 N00 N1 N
  walk_at "SL"
  rename Fr _ _ _ _ => F2
  rename News _ _ _ _ => N3
  have gV2 := vl_grow F2 hB1 fun p hp => N3.get (.tail _ (.tail _ (.tail _ (List.mem_append_right _ hp))))
  have xs2 := hXs F2 ⟨_, N3.get (.tail _ (.tail _ (.head _)))⟩ ⟨_, N3.get (.tail _ (.head _))⟩ fun p hp => N3.get (.tail _ (.tail _ (.tail _ (List.mem_append_left _ hp))))
  refine codes_law F2 (fun p hp => N3 p (by rw [List.mem_singleton.mp hp]; exact .tail _ (.head _))) X T (by walk_at "DU") (by walk_at "DU") hh a5 a6 (by decide) (by decide) (by decide) ?_
  intro r2 rs2 ks2 c2 vs2 ns2 n2 h3 tk3 b1 b2 b3 b4 b5 b6 P3 f3 F3 N4
  have nX1 : ∀ {a : Addr} {ob : Obj}, (hideAll h1 (L :: D :: dk :: own.map (·.1))).get? a = some ob → a ∉ L :: D :: dk :: own.map (·.1) := fun {a ob} e z => by rw [hideAll_none _ z] at e; cases e
  have gV3 := show Grow (hideAll h1 (L :: D :: dk :: own.map (·.1))) (hideAll h3 (L :: D :: dk :: own.map (·.1))) from fun a ob e => hideAll_get _ (P3 _ _ (gV2 _ _ e) fun z => nX1 e (by rw [List.mem_singleton.mp z]; exact .tail _ (.tail _ (.head _)))) (nX1 e)
  have hr2 : (hideAll h3 (L :: D :: dk :: own.map (·.1))).get? r2 = some (listOf (List.toArray rs2) c2) := hideAll_get _ (N4.get (.head _)) fun z => by
    obtain ⟨ob, e⟩ := xs2 _ z
    rw [f3] at e; cases e
  have nr2 : @Ne Nat r2 dk := fun q => by
    obtain ⟨ob, e⟩ := xs2 dk (.tail _ (.tail _ (.head _)))
    have q' : r2 = dk := q
    rw [← q', f3] at e; cases e
  have hB3 := hB1.trans gV3
  have N5 : News B L h3 ((r2, listOf (List.toArray rs2) c2) :: (dk, listOf (List.toArray vs2) n2) :: (D, o) :: (own ++ VL B (hideAll h3 (L :: D :: dk :: own.map (·.1))))) := fun p hp => by
    rcases List.mem_cons.mp hp with rfl | hp
    · exact N4 _ (.head _)
    rcases List.mem_cons.mp hp with rfl | hp
    · exact N4 _ (.tail _ (.head _))
    rcases List.mem_cons.mp hp with rfl | hp
    · have z := N3 (D, o) (.tail _ (.tail _ (.head _)))
      exact ⟨P3 _ _ z.1 (fun q => hDd (List.mem_singleton.mp q)), z.2⟩
    rcases List.mem_append.mp hp with hp | hp
    · have z := N3 p (.tail _ (.tail _ (.tail _ (List.mem_append_left _ hp))))
      exact ⟨P3 _ _ z.1 (fun q => (hown p hp).2 (List.mem_singleton.mp q)), z.2⟩
    · exact news_vl (fun b ob e => of_hideAll _ e) (hideAll_none _ (.head _)) p hp
  have off1 : AllNe dk (own ++ VL B (hideAll h3 (L :: D :: dk :: own.map (·.1)))) := allNe_of fun p hp => by
    rcases List.mem_append.mp hp with hp | hp
    · exact (hown p hp).2
    · intro q
      have y := (vl_mem hp).1
      rw [q, hideAll_none _ (.tail _ (.tail _ (.head _)))] at y; cases y
  have hDd' : @Ne Nat D dk := hDd
  clear F2 N3 N4
  walk_at "SL"
  walk1
  walk_at "SL"
  rename_i k3 tkx vs3 ns3 n3 h4 tk4 lo3 hi3 i3 z3 F4 N6
  have gV4 := vl_grow F4 hB3 fun p hp => N6.get (.tail _ (.tail _ (.tail _ (List.mem_append_right _ hp))))
  have xs4 := hXs F4 ⟨_, N6.get (.tail _ (.tail _ (.head _)))⟩ ⟨_, N6.get (.tail _ (.head _))⟩ fun p hp => N6.get (.tail _ (.tail _ (.tail _ (List.mem_append_left _ hp))))
  refine define_lawF X T (by walk_at "DU") (by walk_at "DU") hh F4.keep hB3 gV4 (hideAll_none _ (.tail _ (.head _))) (N6.get (.tail _ (.tail _ (.head _)))) (ts.grow (gV1.trans gV3)) (by omega) (fun r hr k hk => ((hl r hr).wb k hk).1) (gV3 _ _ hr1) a1 (by omega) (fun k hk => by have := a4 k hk; omega) hr2 b1 ?_
  intro kvs' o' h5 tk5 tsN P5 ho5
  have nX3 : ∀ {a : Addr} {ob : Obj}, (hideAll h3 (L :: D :: dk :: own.map (·.1))).get? a = some ob → a ∉ L :: D :: dk :: own.map (·.1) := fun {a ob} e z => by rw [hideAll_none _ z] at e; cases e
  have gV5 := show Grow (hideAll h3 (L :: D :: dk :: own.map (·.1))) (hideAll h5 (L :: D :: dk :: own.map (·.1))) from fun a ob e => hideAll_get _ (P5 _ _ (gV4 _ _ e) fun z => nX3 e (by rw [List.mem_singleton.mp z]; exact .tail _ (.head _))) (nX3 e)
  have ts5 := tsN _ gV5 fun a ob e1 e2 => hideAll_get _ e2 fun z => by
    obtain ⟨ob', e⟩ := xs4 _ z
    rw [e1] at e; cases e
  obtain ⟨F5, N7⟩ := past_law (news := []) F4 (fun p hp => N6 p (by rw [List.mem_singleton.mp hp]; exact .tail _ (.tail _ (.head _)))) (fun _ h => nomatch h) P5 ho5
  have N8 : News B L h5 ((D, o') :: (dk, listOf (List.toArray vs3) n3) :: own) := fun p hp => by
    rcases List.mem_cons.mp hp with rfl | hp
    · exact N7 _ (.head _)
    rcases List.mem_cons.mp hp with rfl | hp
    · have z := N6 (dk, listOf (List.toArray vs3) n3) (.tail _ (.head _))
      exact ⟨P5 _ _ z.1 (fun q => hDd (List.mem_singleton.mp q).symm), z.2⟩
    · have z := N6 p (.tail _ (.tail _ (.tail _ (List.mem_append_left _ hp))))
      exact ⟨P5 _ _ z.1 (fun q => (hown p hp).1 (List.mem_singleton.mp q)), z.2⟩
  have hdc : ∀ k ∈ ks1.map dc, 0 ≤ k ∧ k ≤ 5000 := fun k hk => by
    obtain ⟨n, hn, rfl⟩ := List.mem_map.mp hk
    have := a4 n hn
    unfold dc; split <;> omega
  have hnew : LawR u ⟨if (k3 == 2) then ks1 else ks1.map dc, 0, ks2, k3 == 2⟩ := by
    refine ⟨?_, by show ks2.length ≤ 5; omega, Int.le_refl _, hu, ?_, fun k hk => by have := b4 k hk; omega⟩
    · show (if (k3 == 2) then ks1 else ks1.map dc).length ≤ 4
      split
      · omega
      · rw [List.length_map]; omega
    · show ∀ k ∈ (if (k3 == 2) then ks1 else ks1.map dc), _
      split
      · exact fun k hk => by have := a4 k hk; omega
      · exact hdc
  have hl5 : ∀ r ∈ put (drp (drp R ks1) (ks1.map dc)) ⟨if (k3 == 2) then ks1 else ks1.map dc, 0, ks2, k3 == 2⟩, LawR u r := fun r hr => by
    rcases put_mem hr with rfl | hr
    · exact hnew
    · exact hl r (drp_mem (drp_mem hr))
  have hw5 := put_words (r := ⟨if (k3 == 2) then ks1 else ks1.map dc, 0, ks2, k3 == 2⟩) (drp_words (w := ks1.map dc) (drp_words (w := ks1) hw))
  have len5 : (put (drp (drp R ks1) (ks1.map dc)) ⟨if (k3 == 2) then ks1 else ks1.map dc, 0, ks2, k3 == 2⟩).length ≤ R.length + 1 :=
    Nat.le_trans put_len (Nat.succ_le_succ (Nat.le_trans drp_len drp_len))
  generalize put (drp (drp R ks1) (ks1.map dc)) ⟨if (k3 == 2) then ks1 else ks1.map dc, 0, ks2, k3 == 2⟩ = R5 at *
  clear F4 N6 N7
  refine used_for F5 X T hD hU hh hPE rfl rfl N8 hown hDd (hB3.trans gV5) (fun b ob e => of_hideAll _ e) (fun x hx => hideAll_none _ hx) ts5 hw5 hl5 hu (by omega) (by omega) i3 z3 ?_
  unfold Hold at hfin ⊢
  intro V' R' vs' ns' c' ow h' tk' q1 q2 q3 q4 q5 q6 q7 q8 q9 q10
  refine hfin V' o' kvs' R' vs' ns' c' _ h' tk' rfl rfl q1 q2 q3 q4 q5 q6 q7 q8 (by unfold Wds; rw [q9]; exact hw5) ?_ q10
  have := congrArg List.length q9
  simp only [List.length_map] at this
  omega
/-- what the loop of the laps bears -/
inductive LapJ (w : World) (B : Heap) (L D dk t : Addr) (i : Nat) (m : Str → Option Value) (news : List (Addr × Obj)) : Prop
  | mk (k1 : m (Str.ofString "deck") = some (.ref dk)) (k2 : m (Str.ofString "table") = some (.ref t)) (V : Heap) (o : Obj) (kvs : List (Str × Value)) (R : List Row) (vs : List Value) (ns : List Int) (c : Nat) (h1 : news = (D, o) :: (dk, listOf (List.toArray vs) c) :: VL B V) (h2 : IntsAre vs ns) (h3 : ns.length ≤ 100) (h4 : Grow B V) (h5 : (∀ x ∈ [L, D, dk], V.get? x = none)) (h6 : TabF w B V o t D kvs R) (h7 : Wds R) (h8 : R.length ≤ i) (h9 : ∀ r ∈ R, LawR (11 * (i : Int)) r)
theorem tail2 {w : World} {A₀ : Around} {E : Value → Shared → Prop} {s : Shared} {B V : Heap} {L fa : Addr} {cd : Value} {m mg mb : Str → Option Value} {mean : ExcName → Option Value} {Q : Flow → Shared → Prop}
    {dk t D : Addr} {o : Obj} {kvs : List (Str × Value)} {vs : List Value} {c : Nat} {ns : List Int}
    (F : Fr B L s.heap m) (X : (hd.heap_1 w.params).In B) (T : Top headView (looseW headView [Str.ofString "EXACT"]) mean mg mb B) (K0 : Below A₀ B [] B) (hD : A₀.depth ≤ 400) (hU : A₀.units ≤ 1000) (hh : A₀.handled = none) (hgd : A₀.guards = some []) (hPE : PassesOwn (model PySem.Challenge.rw_ok0052_01.row.prog w) (A₀.deeper (lawEnv L fa cd)) (lawEnv L fa cd) E)
    (m1 : m (Str.ofString "deck") = some (.ref dk)) (m2 : m (Str.ofString "table") = some (.ref t)) (N : News B L s.heap [(D, o), (dk, listOf (List.toArray vs) c)]) (hDd : @Ne Nat D dk)
    (hBV : Grow B V) (hV : Grow V s.heap) (hVX : ∀ x ∈ [L, D, dk], V.get? x = none) (ts : TabF w B V o t D kvs []) (hi : IntsAre vs ns) (hz : ns.length ≤ 100)
    (hfin : Hold (∀ h' tk', Grow B h' → Q (.ret (.bool true)) { s with heap := h', toks := tk' })) :
    wpAny (model PySem.Challenge.rw_ok0052_01.row.prog w) (A₀.deeper (lawEnv L fa cd)) (execs (lawBody.drop 2) (lawEnv L fa cd)) Q E s := by
  revert X; k_fill; intro X
  have N0 : News B L s.heap ((D, o) :: (dk, listOf (List.toArray vs) c) :: VL B V) := news_add N (news_vl hV (hVX _ (.head _)))
  have off1 : AllNe dk (VL B V) := allNe_of fun p hp q => by
    have y := (vl_mem hp).1
    rw [q, hVX _ (.tail _ (.tail _ (.head _)))] at y; cases y
  clear N
  unfold lawEnv lawBody lawFd recOf
  dsimp only [List.drop]
  rw [map_is m1, map_is m2] at F
  walk_at "SL"
  refine For_invV B rfl rfl ?_ (hE := hPE)
  walk_at "SL"
  walk1
  walk_at "SL"
  rename_i k tka vs1 ns1 n1 h1 tkb lo1 hi1 i1 z1 F1 N1 h2 tk2 ta tb tc hrng F2 N2 hkeep
  obtain ⟨n, rfl⟩ := Int.eq_ofNat_of_zero_le lo1
  refine for_range (n := n) (LapJ w B L D dk t) rfl hh hrng (by omega) F2 N2 ⟨rfl, rfl, V, o, kvs, [], vs1, ns1, n1, rfl, i1, z1, hBV, hVX, ts, List.nodup_nil, Nat.le_refl _, fun _ h => nomatch h⟩ ?_ ?_
  · rintro i v m₁ news₁ h3 tk3 own s₂ rfl hin hJq hoff F3 N3
    obtain ⟨hm1, hm2, V1, o1, kvs1, R1, vs2, ns2, c2, rfl, i2, z2, hB1, hX1, ts1, hw1, hk1, hl1⟩ := hJq
    have hVh : Grow V1 h3 := vl_grow F3 hB1 fun p hp => N3.get (List.mem_append_left _ (.tail _ (.tail _ hp)))
    have hX : ∀ x ∈ L :: D :: dk :: own.map (·.1), V1.get? x = none := fun x hx => by
      rcases List.mem_cons.mp hx with rfl | hx
      · exact hX1 _ (.head _)
      rcases List.mem_cons.mp hx with rfl | hx
      · exact hX1 _ (.tail _ (.head _))
      rcases List.mem_cons.mp hx with rfl | hx
      · exact hX1 _ (.tail _ (.tail _ (.head _)))
      · obtain ⟨p, hp, rfl⟩ := List.mem_map.mp hx
        cases q : V1.get? p.1 with
        | none => rfl
        | some ob =>
          rcases vl_all hB1 q with z | z
          · have := N3.fresh (List.mem_append_right _ hp)
            rw [this] at z; cases z
          · exact absurd rfl (hoff _ (.tail _ (.tail _ z)) p hp)
    have N4 : News B L h3 ((D, o1) :: (dk, listOf (List.toArray vs2) c2) :: own) := fun p hp => N3 p (by
      rcases List.mem_cons.mp hp with rfl | hp
      · exact .head _
      rcases List.mem_cons.mp hp with rfl | hp
      · exact .tail _ (.head _)
      · exact List.mem_append_right _ hp)
    refine lap_turn (u := 11 * (i : Int)) F3 X T hD hU hh hPE (show (if Str.ofString "deck" = Str.ofString "lap" then some v else m₁ (Str.ofString "deck")) = some (.ref dk) from by rw [if_neg (by decide)]; exact hm1)
      (show (if Str.ofString "table" = Str.ofString "lap" then some v else m₁ (Str.ofString "table")) = some (.ref t) from by rw [if_neg (by decide)]; exact hm2) N4 (fun p hp => ⟨fun q => hoff _ (.head _) p hp q.symm, fun q => hoff _ (.tail _ (.head _)) p hp q.symm⟩) hDd hB1 hVh hX ts1 hw1 hl1 (by omega) (by omega) (by omega) i2 z2 ?_
    unfold Hold
    intro V' o' kvs' R' vs' ns' c' m' h' tk' q1 q2 q3 q4 q5 q6 q7 q8 q9 q10 q11 q12 q13
    refine ⟨h', tk', m', (D, o') :: (dk, listOf (List.toArray vs') c') :: VL B V', rfl, q5, fun p hp => ?_, fun p hp q hq => ?_, q1, q2, V', o', kvs', R', vs', ns', c', rfl, q3, q4, q7, fun x hx => q9 x ?_, q10, q11, by omega, fun r hr => (q13 r hr).lift (by omega)⟩
    · rcases List.mem_append.mp hp with hp | hp
      · rcases List.mem_cons.mp hp with rfl | hp
        · exact q6 _ (.head _)
        rcases List.mem_cons.mp hp with rfl | hp
        · exact q6 _ (.tail _ (.head _))
        · exact news_vl q8 (q9 _ (.head _)) p hp
      · exact q6 _ (.tail _ (.tail _ hp))
    · rcases List.mem_cons.mp hp with rfl | hp
      · exact hoff _ (.head _) q hq
      rcases List.mem_cons.mp hp with rfl | hp
      · exact hoff _ (.tail _ (.head _)) q hq
      · intro z
        have y := (vl_mem hp).1
        rw [z, q9 _ (.tail _ (.tail _ (.tail _ (List.mem_map_of_mem hq))))] at y; cases y
    · rcases List.mem_cons.mp hx with rfl | hx
      · exact .head _
      rcases List.mem_cons.mp hx with rfl | hx
      · exact .tail _ (.head _)
      · rw [List.mem_singleton.mp hx]; exact .tail _ (.tail _ (.head _))
  · rintro m' news' h5 tk5 hJq F5 N5
    obtain ⟨hm1, hm2, V1, o1, kvs1, R1, vs2, ns2, c2, rfl, i2, z2, hB1, hX1, ts1, hw1, hk1, hl1⟩ := hJq
    have hVh : Grow V1 h5 := vl_grow F5 hB1 fun p hp => N5.get (.tail _ (.tail _ hp))
    dsimp only
    refine tail3 (u := 11 * (n : Int)) F5 X T K0 hD hU hh hgd hm1 hm2 (in_two (P := fun p => _ ∧ _ ∧ _) (N5 _ (.head _)) (N5 _ (.tail _ (.head _)))) i2 z2 hB1 hVh (hX1 _ (.head _)) (hX1 _ (.tail _ (.head _))) ts1.st hw1 hl1 (by omega) (by omega) ?_
    unfold Hold at hfin ⊢
    intro h2 tk2
    exact hfin h2 tk2
theorem tail0 {w : World} {A₀ : Around} {E : Value → Shared → Prop} {s : Shared} {B : Heap} {L fa : Addr} {cd : Value} {m mg mb : Str → Option Value} {mean : ExcName → Option Value} {Q : Flow → Shared → Prop}
    {sc : Addr} {vs : List Value} {ns : List Int}
    (F : Fr B L s.heap m) (X : (hd.heap_1 w.params).In B) (T : Top headView (looseW headView [Str.ofString "EXACT"]) mean mg mb B) (K0 : Below A₀ B [] B) (hD : A₀.depth ≤ 400) (hU : A₀.units ≤ 1000) (hh : A₀.handled = none) (hgd : A₀.guards = some []) (hPE : PassesOwn (model PySem.Challenge.rw_ok0052_01.row.prog w) (A₀.deeper (lawEnv L fa cd)) (lawEnv L fa cd) E)
    (m1 : m (Str.ofString "script") = some (.ref sc)) (hl : B.IsList sc vs.toArray) (hi : IntsAre vs ns) (hz : ns.length ≤ 63)
    (hfin : Hold (∀ h' tk', Grow B h' → Q (.ret (.bool true)) { s with heap := h', toks := tk' })) :
    wpAny (model PySem.Challenge.rw_ok0052_01.row.prog w) (A₀.deeper (lawEnv L fa cd)) (execs lawBody (lawEnv L fa cd)) Q E s := by
  revert X; k_fill; intro X
  have N : News B L s.heap [] := fun _ h => nomatch h
  unfold lawEnv lawBody lawFd recOf
  dsimp only
  rw [map_is m1] at F
  walk_at "SL"
  rename Fr _ _ _ _ => F0
  refine deck_spec F0.keep X T (by walk_at "DU") (by walk_at "DU") hh (hl.at (F0.keep _)) hi hz ?_
  unfold Hold
  intro dk xs ks c h1 tk1 i1 z1 G1 f1 g1
  obtain ⟨F1, N1, l1⟩ := led_fresh (news := []) F0 (fun _ h => nomatch h) G1 f1 g1
  have z1' : ks.length ≤ 100 := by omega
  clear F0
  walk_at "SL"
  rename Fr _ _ _ _ => F3
  rename News _ _ _ _ => N3
  refine table_make F3 N3 X T (by walk_at "DU") (by walk_at "DU") ?_
  intro x d D o t1 t2 t3 t4 n h4 tk4 F4 N4 lo4 hs4 l2 l3 l4
  have l5 : @LT.lt Nat _ dk d := allLt_mem l4 (dk, listOf (List.toArray xs) c) (by k_mem)
  clear F3 N3
  walk_at "SX"
  rename Fr _ _ _ _ => F6
  rename News _ _ _ _ => N6
  rename Heap => h6
  have hLB : B.get? L = none := Heap.get?_none_of_le F6.above
  have mD := N6 _ (.head _)
  have mx := N6 _ (.tail _ (.head _))
  have md := N6 _ (.tail _ (.tail _ (.head _)))
  have mk := N6 (dk, listOf (List.toArray xs) c) (by k_mem)
  have hXB : ∀ y ∈ [L, D, dk], B.get? y = none := in_three hLB mD.2.2 mk.2.2
  have vx : (hideAll h6 [L, D, dk]).get? x = some (instObj 64 d) := hideAll_get _ mx.1 fun z => by
    rcases List.mem_cons.mp z with z | z
    · exact mx.2.1 z
    rcases List.mem_cons.mp z with z | z
    · have z' : @Eq Nat x D := z
      omega
    · have z' : @Eq Nat x dk := List.mem_singleton.mp z
      omega
  have vd := show (hideAll h6 [L, D, dk]).get? d = some _ from hideAll_get _ md.1 fun z => by
    rcases List.mem_cons.mp z with z | z
    · exact md.2.1 z
    rcases List.mem_cons.mp z with z | z
    · have z' : @Eq Nat d D := z
      omega
    · have z' : @Eq Nat d dk := List.mem_singleton.mp z
      omega
  have hDd : @Ne Nat D dk := fun z => by omega
  refine tail2 (V := hideAll h6 [L, D, dk]) (kvs := []) (c := c) F6 X T K0 hD hU hh hgd hPE rfl rfl (in_two (P := fun p => _ ∧ _ ∧ _) mD mk) hDd (hide_in F6.keep hXB) (fun b ob e => of_hideAll _ e) (fun y hy => hideAll_none _ hy) ⟨hs4, ⟨d, _, _, _, t1, t2, t3, t4, n, vx, vd, mx.2.2, md.2.2⟩, .nil, lo4⟩ i1 z1' ?_
  unfold Hold at hfin ⊢
  intro h2 tk2
  exact hfin h2 tk2
end Mine
open Mine
theorem PySem.Challenge.cw_ok0052_01_holds : PySem.Challenge.rw_ok0052_01.Holds := by
  refine hd ?_
  k_go0
  rename Fr _ _ _ _ => F
  rename Below _ _ _ _ => K0
  rename Top _ _ _ _ _ _ => T
  rename IntsAre _ _ => hI
  rename Heap.IsList _ _ _ => hL
  refine Mine.tail0 F (by assumption) T K0 (by decide) (by decide) rfl rfl ?pe rfl hL hI (by omega) ?_
  case pe => first | exact PassesOwn.never | passes_own
  unfold Mine.Hold
  intro h tk g
  refine ⟨.inl ⟨.bool true, .bool true, [], rfl, ?hn, ReadsW.bool _, ?hp, unshared_nil⟩, g, rfl, by assumption⟩
  case hn => first | (intro _; rfl) | exact raisesW_false (by wrow_none_raised)
  case hp => first | rfl | wrow_post
