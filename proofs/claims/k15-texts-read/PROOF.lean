import PyProof.Rows.All
import Wide.All
import OpenK.AllK
import Wide.FinOn
import KE.KStateDown
import Lean
import HandS.ForMost
import HandS.More
import HandS.IsInst
import HandS.TupAny
import HandS.Defaults
import HandS.DictComp
import HandS.Walk
import HandS.DeepEq
import HandS.Head0
import HandS.Head1
import HandS.Head2
import HandS.HeadEnd
import HandS.HeadHook1
import HandS.HeadHook2
import HandS.HeadHook3
import HandS.HeadHook4
import HandS.ExcIs
import PySem.Challenge.RW_hunch_k15_whole_texts_read
import HandS.Finally
import KE.KEqNest
import HandS.Iter
import HandS.Exc
import HandS.ExcOwn
import HandS.WordsExc
import HandS.TupMul
import HandS.RaiseMore
import PyProof.StrOps2
import HandS.Text
import HandS.StrMore
import HandS.Rev
import HandS.TryOnly
import HandS.HotCalls
import HandS.SuiteRaise
set_option Elab.async false
set_option linter.all false
set_option maxRecDepth 100000
set_option maxHeartbeats 4000000
set_option autoImplicit false
namespace Hn
open PySem PySem.Spec PyProof.Rows L2
/-! ### the text by places -/
def topS (i : Nat) : Stmt := PySem.Challenge.pw_hunch_k15_whole_texts_read.main.body.getD i (.Pass ⟨0, 0, 0, 0⟩)
abbrev s_part_text : Stmt := topS 12
abbrev s_lines_of : Stmt := topS 13
abbrev s_program_text : Stmt := topS 14
abbrev s_Words___init__ : Stmt := inClass (topS 15) 0
abbrev s_Words_take : Stmt := inClass (topS 15) 1
abbrev s_Words_need_name : Stmt := inClass (topS 15) 2
abbrev s_Words_part : Stmt := inClass (topS 15) 3
abbrev s_Words_ended : Stmt := inClass (topS 15) 4
abbrev s_text_of : Stmt := topS 16
abbrev s_number_of : Stmt := topS 17
abbrev s_Reader___init__ : Stmt := inClass (topS 18) 0
abbrev s_Reader_here : Stmt := inClass (topS 18) 1
abbrev s_Reader_block : Stmt := inClass (topS 18) 2
abbrev s_Reader_statement : Stmt := inClass (topS 18) 3
abbrev s_read_program : Stmt := topS 19
abbrev s_L_script : Stmt := topS 21
abbrev s_L_take : Stmt := topS 22
abbrev s_L_alike : Stmt := topS 23
abbrev s_L_text : Stmt := topS 24
abbrev s_L_name : Stmt := topS 25
abbrev s_L_part : Stmt := topS 26
abbrev s_L_row : Stmt := topS 27
abbrev s_L_statement : Stmt := topS 28
abbrev s_L_counted : Stmt := topS 29
abbrev s_L_program : Stmt := topS 30
abbrev s_L_value : Stmt := topS 31
abbrev s_L_names : Stmt := topS 32
abbrev s_L_part_text : Stmt := topS 33
abbrev s_L_lines : Stmt := topS 34
abbrev s_L_short : Stmt := topS 35
abbrev s_L_spoilt : Stmt := topS 36
abbrev s_L_text_of : Stmt := topS 37
abbrev s_L_good_part : Stmt := topS 38
abbrev s_L_good : Stmt := topS 39
abbrev s_L_good_statement : Stmt := topS 40
abbrev s_L_refused : Stmt := topS 41
abbrev s_law : Stmt := topS 42
/-! ### the head: what the top leaves -/
def mkD (x : Str) (m : Option Str) (qual : Str) (st : Stmt) : He.DefD := ⟨(x, m), m.getD x, qual, defArgs st, defBody st, defScope st, [], []⟩
def fn0 : List He.DefD := [mkD "_law_script" none "_law_script" s_L_script, mkD "_law_take" none "_law_take" s_L_take, mkD "Reader" (some "__init__") "Reader.__init__" s_Reader___init__, mkD "Reader" (some "here") "Reader.here" s_Reader_here, mkD "Words" (some "__init__") "Words.__init__" s_Words___init__, mkD "Words" (some "take") "Words.take" s_Words_take, mkD "Words" (some "need_name") "Words.need_name" s_Words_need_name, mkD "text_of" none "text_of" s_text_of, mkD "number_of" none "number_of" s_number_of, mkD "Words" (some "part") "Words.part" s_Words_part, mkD "Words" (some "ended") "Words.ended" s_Words_ended, mkD "Reader" (some "block") "Reader.block" s_Reader_block, mkD "Reader" (some "statement") "Reader.statement" s_Reader_statement, mkD "part_text" none "part_text" s_part_text, mkD "lines_of" none "lines_of" s_lines_of, mkD "program_text" none "program_text" s_program_text, mkD "read_program" none "read_program" s_read_program, mkD "_law_refused" none "_law_refused" s_L_refused, mkD "_law_alike" none "_law_alike" s_L_alike, mkD "_law_name" none "_law_name" s_L_name]
def fn1 : List He.DefD := [mkD "_law_text" none "_law_text" s_L_text, mkD "_law_part" none "_law_part" s_L_part, mkD "_law_row" none "_law_row" s_L_row, mkD "_law_statement" none "_law_statement" s_L_statement, mkD "_law_counted" none "_law_counted" s_L_counted, mkD "_law_program" none "_law_program" s_L_program, mkD "_law_part_text" none "_law_part_text" s_L_part_text, mkD "_law_lines" none "_law_lines" s_L_lines, mkD "_law_short" none "_law_short" s_L_short, mkD "_law_spoilt" none "_law_spoilt" s_L_spoilt, mkD "_law_text_of" none "_law_text_of" s_L_text_of, mkD "_law_good_part" none "_law_good_part" s_L_good_part, mkD "_law_good" none "_law_good" s_L_good, mkD "_law_good_statement" none "_law_good_statement" s_L_good_statement, mkD "law" none "law" s_law]
def fnAll : List He.DefD := fn0 ++ fn1
def fa0 : List He.Fa := [.glo "_law_script", .glo "_law_take", .glo "text_of", .glo "number_of", .glo "part_text", .glo "lines_of", .glo "program_text", .glo "read_program", .glo "_law_refused", .glo "_law_alike", .glo "_law_name", .glo "_law_text", .glo "_law_part", .glo "_law_row", .glo "_law_statement", .glo "_law_counted", .glo "_law_program", .glo "_law_part_text", .glo "_law_lines", .glo "_law_short", .glo "_law_spoilt", .glo "_law_text_of", .glo "_law_good_part", .glo "_law_good", .glo "_law_good_statement", .glo "law", .free "len", .free "range", .free "isinstance", .free "int"]
def fa1 : List He.Fa := [.free "str", .free "list", .free "tuple", .free "dict", .free "sum", .free "enumerate", .free "sorted", .free "bool", .free "reversed", .str "NAMES" "abcdefgh", .str "LETTERS" "abcdefghijklmnopqrstuvwxyz", .str "FIGURES" "0123456789", .glo "SIGNS", .int "MOST_LINES" 60, .int "MOST_DEEP" 5, .int "MOST_SIGNS" 12, .glo "Words", .cls "Words", .meth "Words" "take", .meth "Words" "need_name", .meth "Words" "part", .meth "Words" "ended", .mkr "Words", .noat "Words" "words", .noat "Words" "at", .glo "Reader", .cls "Reader", .meth "Reader" "here", .meth "Reader" "block", .meth "Reader" "statement"]
def fa2 : List He.Fa := [.mkr "Reader", .noat "Reader" "lines", .noat "Reader" "at", .glo "HunchError", .glo "Unread", .glo "NoTop", .exc "Unread", .exm "Unread" "HunchError" true, .free "ValueError", .exm "Unread" "Unread" true]
def faAll : List He.Fa := fa0 ++ fa1 ++ fa2
abbrev rowE : PySem.W.OpenRow := PySem.W.OpenLaw.row PySem.Challenge.rw_hunch_k15_whole_texts_read
def excCB (K : PySem.W.Frag) (D : Addr) : Bool := He.eqO (PySem.W.findIn K (.ref D) "__getattribute__") (some (some (.builtin "BaseException.__getattribute__"))) && (He.eqO (PySem.W.findIn K (.ref D) "__getattr__") (some none) && (decide (PySem.W.subIn K (.ref D) (.type "BaseException") = some true) && (PySem.W.hasDictIn K D && (He.eqO (PySem.W.findIn K (.ref D) "__class__") (some (some (.builtin "object.__class__"))) && (He.eqO (PySem.W.specialIn K (.builtin "object.__class__") "__get__") (some (some (.builtin "getset_descriptor.__get__"))) && (decide (PySem.W.takesIn K (.builtin "object.__class__") = some true) && decide (PySem.W.mroIn K D (.type "object") = some true)))))))
theorem excCB_ok {K : PySem.W.Frag} {D : Addr} (h : excCB K D = true) : ExcC K D := by
  obtain ⟨h1, h⟩ := He.ba h
  obtain ⟨h2, h⟩ := He.ba h
  obtain ⟨h3, h⟩ := He.ba h
  obtain ⟨h4, h⟩ := He.ba h
  obtain ⟨h5, h⟩ := He.ba h
  obtain ⟨h6, h⟩ := He.ba h
  obtain ⟨h7, h8⟩ := He.ba h
  exact ⟨He.eqO_ok h1, He.eqO_ok h2, of_decide_eq_true h3, h4, He.eqO_ok h5, He.eqO_ok h6, of_decide_eq_true h7, of_decide_eq_true h8⟩
def kst0 : Value → Option Str
  | .str x _ => some x
  | _ => none
/-- the entries of the dict of signs, in order -/
def sgEnt (K : PySem.W.Frag) : Bool := match K.lookup (He.ga K "SIGNS") with
  | some ⟨_, _, .dict es _, _⟩ => decide (es.toList.map (fun e => (kst0 e.key, kst0 e.val)) = [(some ("add" : Str), some ("+" : Str)), (some ("sub" : Str), some ("-" : Str)), (some ("less" : Str), some ("<" : Str)), (some ("same" : Str), some ("=" : Str))])
  | _ => false
theorem sgEnt_ok {K : PySem.W.Frag} {c : Value} {d : Option Addr} {es : Array DictEntry} {n : Nat} {sl : Array (Option Value)} (h : sgEnt K = true) (e : K.lookup (He.ga K "SIGNS") = some ⟨c, d, .dict es n, sl⟩) : es.toList.map (fun e => (kst0 e.key, kst0 e.val)) = [(some ("add" : Str), some ("+" : Str)), (some ("sub" : Str), some ("-" : Str)), (some ("less" : Str), some ("<" : Str)), (some ("same" : Str), some ("=" : Str))] := by
  unfold sgEnt at h
  rw [e] at h
  exact of_decide_eq_true h
def exE (K : PySem.W.Frag) : Bool := (excCB K (He.ga K "Unread") && (decide (PySem.W.kitOne K (.ref (He.ga K "Unread")) (.type "ValueError") = some true) && (decide (PySem.W.kitOne K (.ref (He.ga K "Unread")) (.ref (He.ga K "NoTop")) = some false) && decide (PySem.W.kitOne K (.ref (He.ga K "Unread")) (.ref (He.ga K "HunchError")) = some true)))) && ((He.valsB K (He.ga K "SIGNS") [("add", .str "+"), ("sub", .str "-"), ("less", .str "<"), ("same", .str "=")]) && ((sgEnt K)))
def tsE : List He.Tab := [(fun K => He.ga K "SIGNS", ["add", "sub", "less", "same"])]
abbrev hkE : PySem.W.Hook := He.hookX 6 faAll fnAll tsE [] exE
def obE (s : PySem.W.SharedT) : He.AlX := He.obsX 6 faAll fnAll tsE [] exE (HandSHeadRun.getT s)
theorem obE_eq (s : PySem.W.SharedT) : obE s = hkE.obs s.abs := He.obsX_eq (HandSHeadRun.getT_eq s)
def nmE0 : List Str := ["HunchError", "Unread", "NoTop", "NAMES", "LETTERS", "FIGURES", "SIGNS", "MOST_LINES", "MOST_DEEP", "MOST_SIGNS", "part_text", "lines_of", "program_text", "Words", "text_of", "number_of", "Reader", "read_program", "_law_script", "_law_take", "_law_alike", "_law_text", "_law_name", "_law_part", "_law_row", "_law_statement", "_law_counted", "_law_program", "_law_value", "_law_names"]
def nmE1 : List Str := ["_law_part_text", "_law_lines", "_law_short", "_law_spoilt", "_law_text_of", "_law_good_part", "_law_good", "_law_good_statement", "_law_refused"]
def looseE : List Str := nmE0 ++ nmE1
theorem runE_false (w : World) : HandSHeadRun.RunEq rowE (PySem.W.view rowE.prog [42]) hkE obE 20000 looseE (w.withFollow "special-get-raises" false) := by
  intro os
  kernel_rfl
theorem runE_true (w : World) : HandSHeadRun.RunEq rowE (PySem.W.view rowE.prog [42]) hkE obE 20000 looseE (w.withFollow "special-get-raises" true) := by
  intro os
  kernel_rfl
theorem runE (w : World) : HandSHeadRun.RunEq rowE (PySem.W.view rowE.prog [42]) hkE obE 20000 looseE w := PySem.W.byRow2 "special-get-raises" (P := fun w => HandSHeadRun.RunEq rowE (PySem.W.view rowE.prog [42]) hkE obE 20000 looseE w) runE_false runE_true w


/-! The layer of these proofs: a def's promise by its name, readings of the heap by plain equations, frames. -/

/-! ### sizes: what stands in the heap is within the line -/
def HSz (H : Hp) : Prop := ∀ a, (∀ xs, H a = some (.lst xs) → xs.length ≤ sizeLine) ∧ (∀ xs, H a = some (.tup xs) → xs.length ≤ sizeLine) ∧ ∀ kvs, H a = some (.dK kvs) → kvs.length ≤ sizeLine
theorem hsz_of {X : Cx} {pins : List (Addr × Obj)} {σ : List (Option V)} {H : Hp} {s : Shared} (I : Inv X pins σ H s) : HSz H := fun a => by
  refine ⟨fun xs h => ?_, fun xs h => ?_, fun xs h => ?_⟩
  · obtain ⟨z, _⟩ := I.hok a _ h; exact z
  · obtain ⟨z, _⟩ := I.hok a _ h; exact z
  · obtain ⟨z, _⟩ := I.hok a _ h; exact z
theorem pssSz {X : Cx} {b : List Stmt} {t : TS} (h : PSs X b t) : PSs X b (fun D σ H => HSz H → t D σ H) := ⟨fun pins s σ H D I q => h.run pins s σ H D I (q (hsz_of I))⟩

/-! ### defs by name -/
section
variable (P : Program) (w : World) (K : PySem.W.Frag) (mg : Str → Option Value) (base : Heap)
/-- the function object at f -/
def FuncAt (K : PySem.W.Frag) (f : Addr) (fd : FuncData) : Prop := ∃ oc od osl, K.lookup f = some ⟨oc, od, .func fd, osl⟩
/-- the module's def x keeps sp, k calls deep at most -/
def OkF (k : Nat) (x : Str) (ps : List Str) (sp : Sp) : Prop :=
  ∃ f fd, FnOk P w K mg base CX0 k f fd ps sp ∧ mg x = some (.ref f) ∧ PySem.W.keepIn K (.ref f) = true ∧ Binds K fd ps [] ∧ FuncAt K f fd
/-- the def st stands under the name x -/
def DefAt (x : Str) (st : Stmt) : Prop := ∃ f fd, FunD K x x (defArgs st) (defBody st) (defScope st) [] [] f fd ∧ mg x = some (.ref f)
end
section
variable {P : Program} {w : World} {K : PySem.W.Frag} {mg : Str → Option Value} {base : Heap}
theorem funcAt {x qual : Str} {params : Arguments} {body : List Stmt} {scope : Scope} {dvs : List V} {kws : List (Str × V)} {f : Addr} {fd : FuncData} (F : FunD K x qual params body scope dvs kws f fd) : FuncAt K f fd := by
  obtain ⟨oc, od, _, _, _, _, _, _, _, osl, _, e, _⟩ := F.ex
  exact ⟨oc, od, osl, e⟩
theorem FuncAt.uni {f : Addr} {fd fd' : FuncData} (a : FuncAt K f fd) (b : FuncAt K f fd') : fd = fd' := by
  obtain ⟨_, _, _, e⟩ := a
  obtain ⟨_, _, _, e'⟩ := b
  rw [e] at e'
  simp only [Option.some.injEq, Obj.mk.injEq, Data.func.injEq] at e'
  exact e'.2.2.1
theorem OkF.mono {j k : Nat} {x : Str} {ps : List Str} {sp : Sp} (F : OkF P w K mg base j x ps sp) (h : j ≤ k) : OkF P w K mg base k x ps sp := by
  obtain ⟨f, fd, F, a, b, c, d⟩ := F
  exact ⟨f, fd, F.mono h, a, b, c, d⟩
theorem DefAt.ok {x : Str} {st : Stmt} {N ps : List Str} {k : Nat} {sp : Sp} (D : DefAt K mg x st) (S : FnScope N ps (defScope st))
    (hb : ∀ (kV doc pm : Value) (an : Option Addr) (cdv ct : Value) (us : List Value), us.length = ps.length → bindArgs (PySem.W.fnOf x x (defArgs st) (defBody st) (defScope st) .none kV doc pm an cdv ct) ⟨us, []⟩ = pure (ps.zip us))
    (len : ∀ vs H Q E, sp vs H Q E → vs.length = ps.length)
    (hbody : ∀ (f : Addr) (cdv : Value) (A : Around) (outer : List Env) (s : Shared) (H : Hp) (vs : List V) (Q : VK) (E : XK), Room k (A.deeper (envOfC x (defScope st) s.heap.objs.size f cdv)) → sp vs H Q E →
      ∃ t, PSs (cxOf CX0 P w K mg base N x (defScope st) f cdv A outer s H E).nox (defBody st) t ∧ (HSz H → t { nx := fun _ H' => Q .non H', rt := Q } (start N vs) H)) : OkF P w K mg base (k + 1) x ps sp := by
  obtain ⟨f, fd, F, hm⟩ := D
  refine ⟨f, fd, F.ok S len fun cdv A outer s H vs Q E hr h => ?_, hm, F.kp, F.bindsN hb, funcAt F⟩
  obtain ⟨t, h1, h2⟩ := hbody f cdv A outer s H vs Q E hr h
  exact ⟨_, (pssSz h1).nox, h2⟩
/-- nothing is asked: nothing is to be kept -/
theorem DefAt.none {x : Str} {st : Stmt} {ps : List Str} {sp : Sp} (D : DefAt K mg x st)
    (hb : ∀ (kV doc pm : Value) (an : Option Addr) (cdv ct : Value) (us : List Value), us.length = ps.length → bindArgs (PySem.W.fnOf x x (defArgs st) (defBody st) (defScope st) .none kV doc pm an cdv ct) ⟨us, []⟩ = pure (ps.zip us))
    (no : ∀ vs H Q E, ¬ sp vs H Q E) : OkF P w K mg base 0 x ps sp := by
  obtain ⟨f, fd, F, hm⟩ := D
  exact ⟨f, fd, ⟨fun vs H Q E h => absurd h (no vs H Q E), fun A outer s H args us vs Q E _ _ _ _ h => absurd h (no vs H Q E)⟩, hm, F.kp, F.bindsN hb, funcAt F⟩
end
section
variable {X : Cx} {k : Nat} {x : Str} {ps : List Str} {sp : Sp} {e : Expr} {es : List Expr} {t : TA} {p pos : Pos}
theorem pe_callF (F : OkF X.prog X.w X.K X.mg X.base k x ps sp) (hr : Room k X.A) (hg : Gl X x) (ha : PA X (e :: es) t) (hdb : (x == ("__debug__" : Str)) = false := by decide) (he : starEach (e :: es) X.env = (false, eval e X.env) :: starEach es X.env := by rfl) (hpl : (backTo pos (starEach es X.env)).any (·.1) = false := by rfl) :
    PE X (.Call (.Name x p) (e :: es) [] pos) (tCall sp [] E0 t) := by
  obtain ⟨f, fd, F, hm, kp, b, _⟩ := F
  exact pe_call F hr hg hm kp b .nil pass0 ha hdb he hpl
end

/-! ### weaker readings -/
section
variable {X : Cx}
theorem peM {e : Expr} {t t' : TE} (h : PE X e t) (m : ∀ σ H Q, t' σ H Q → t σ H Q) : PE X e t' := ⟨fun pins s σ H Q I q => h.run pins s σ H Q I (m σ H Q q)⟩
theorem ptM {e : Expr} {t t' : TT} (h : PT X e t) (m : ∀ σ H Q, t' σ H Q → t σ H Q) : PT X e t' := ⟨fun pins s σ H Q I q => h.run pins s σ H Q I (m σ H Q q)⟩
theorem psM {e : Stmt} {t t' : TS} (h : PS X e t) (m : ∀ D σ H, t' D σ H → t D σ H) : PS X e t' := ⟨fun pins s σ H D I q => h.run pins s σ H D I (m D σ H q)⟩
/-- what follows may be weaker -/
def tMono (t : TE) : TE := fun σ H Q => ∃ Q0 : VK, t σ H Q0 ∧ ∀ x H1, Q0 x H1 → Q x H1
theorem mo {e : Expr} {t : TE} (h : PE X e t) : PE X e (tMono t) := by
  refine ⟨fun pins s σ H Q I ⟨Q0, h0, m⟩ => ?_⟩
  refine thn (h.run pins s σ H Q0 I h0) fun u s' ⟨v, H', I', r, q⟩ => ⟨v, H', I', r, m v H' q⟩
def tMonoA (t : TA) : TA := fun σ H Q => ∃ Q0 : List V → Hp → Prop, t σ H Q0 ∧ ∀ x H1, Q0 x H1 → Q x H1
theorem moA {es : List Expr} {t : TA} (h : PA X es t) : PA X es (tMonoA t) := by
  refine ⟨fun pos pins s σ H Q I ⟨Q0, h0, m⟩ => ?_⟩
  refine thn (h.run pos pins s σ H Q0 I h0) fun u s' ⟨v, H', I', r, q⟩ => ⟨v, H', I', r, m v H' q⟩
theorem opM {f : Value → Value → Sem Value} {r r' : R2} (h : OpR X f r) (m : ∀ x y H Q, r' x y H Q → r x y H Q) : OpR X f r' := fun pins s σ H x y v u Q I rx ry q => h pins s σ H x y v u Q I rx ry (m x y H Q q)
theorem ixM {r r' : R2} (h : IxR X r) (m : ∀ x y H Q, r' x y H Q → r x y H Q) : IxR X r' := fun a b pins s σ H x y v u Q I rx ry q => h a b pins s σ H x y v u Q I rx ry (m x y H Q q)
theorem clM {f : Value} {r r' : List V → Hp → VK → Prop} (h : CallR X f r) (m : ∀ xs H Q, r' xs H Q → r xs H Q) : CallR X f r' := fun pins s σ H xs us Q I r q => h pins s σ H xs us Q I r (m xs H Q q)
end

/-! ### a new object, a changed object -/
structure Al (H : Hp) (p : Addr) (o : HO) (H' : Hp) : Prop where
  new : H p = none
  at_ : H' p = some o
  k : ∀ {b u}, H b = some u → H' b = some u
structure Mu (H : Hp) (p : Addr) (o : HO) (H' : Hp) : Prop where
  nt : ∀ xs, H p ≠ some (.tup xs)
  at_ : H' p = some o
  k : ∀ {b u}, H b = some u → b ≠ p → H' b = some u
theorem Al.of {H : Hp} {p : Addr} {o : HO} (h : H p = none) : Al H p o (upd H p o) := ⟨h, upd_same, fun e => by rw [upd_ne (ne_of_none e h)]; exact e⟩
theorem Mu.of {H : Hp} {p : Addr} {o u : HO} (h : H p = some u) (hu : ∀ xs, u ≠ .tup xs) : Mu H p o (upd H p o) :=
  ⟨fun xs e => hu xs (by rw [h] at e; exact Option.some.inj e), upd_same, fun e ne => by rw [upd_ne ne]; exact e⟩

/-! ### readings of the heap by equations -/
def rXL : R2 := fun x y H Q => ∃ p xs i v, x = .ref p ∧ y = .int i ∧ H p = some (.lst xs) ∧ atI xs i = some v ∧ Q v H
def rXT : R2 := fun x y H Q => ∃ p xs i v, x = .ref p ∧ y = .int i ∧ H p = some (.tup xs) ∧ atI xs i = some v ∧ Q v H
/-- x in a tuple that was just laid -/
def rInT (neg : Bool) : R2 := fun x y H Q => ∃ p xs, y = .ref p ∧ H p = some (.tup xs) ∧ flatV x = true ∧ xs.all flatV = true ∧ Q (.bl (if neg then !inV x xs else inV x xs)) H
def rLenL : List V → Hp → VK → Prop := fun vs H Q => ∃ p xs, vs = [.ref p] ∧ H p = some (.lst xs) ∧ Q (.int xs.length) H
def rLenT : List V → Hp → VK → Prop := fun vs H Q => ∃ p xs, vs = [.ref p] ∧ H p = some (.tup xs) ∧ Q (.int xs.length) H
def rLenS : List V → Hp → VK → Prop := fun vs H Q => ∃ z, vs = [.str z] ∧ z.length ≤ sizeLine ∧ Q (.int z.length) H
def rInt1 : List V → Hp → VK → Prop := fun vs H Q => (∃ i, vs = [.int i] ∧ Q (.int i) H) ∨ ∃ k, vs = [.bl k] ∧ Q (.int (if k then 1 else 0)) H
def rTupL : List V → Hp → VK → Prop := fun vs H Q => ∃ p xs, vs = [.ref p] ∧ H p = some (.lst xs) ∧ ∀ l H', Al H l (.tup xs) H' → Q (.ref l) H'
def rLstL : List V → Hp → VK → Prop := fun vs H Q => ∃ p xs, vs = [.ref p] ∧ H p = some (.lst xs) ∧ ∀ l H', Al H l (.lst xs) H' → Q (.ref l) H'
/-- isinstance(x, a built-in class) -/
def rIs (T : String) : List V → Hp → VK → Prop := fun vs H Q => ∃ x b, vs = [x, .ty T] ∧ (∃ n, (match x with
  | .non => n = "NoneType"
  | .bl _ => n = "bool"
  | .int _ => n = "int"
  | .str _ => n = "str"
  | .ref a => (match H a with
    | some (.lst _) => n = "list"
    | some (.tup _) => n = "tuple"
    | some (.dK _) => n = "dict"
    | _ => False)
  | _ => False) ∧ kitB n T = some b) ∧ Q (.bl b) H
/-- a list of ints beside another -/
def rEqI : R2 := fun x y H Q => ∃ (p q : Addr) (ns ms : List Int), x = .ref p ∧ y = .ref q ∧ H p = some (.lst (ns.map V.int)) ∧ H q = some (.lst (ms.map V.int)) ∧ Q (.bl (decide (ns = ms))) H
def rCt : R2 := fun x y H Q => ∃ l b xs zs, x = .ref l ∧ y = .ref b ∧ H l = some (.lst xs) ∧ H b = some (.lst zs) ∧ xs.length + zs.length ≤ sizeLine ∧ ∀ p H', Al H p (.lst (xs ++ zs)) H' → Q (.ref p) H'
def rStL : V → V → V → Hp → (Hp → Prop) → Prop := fun o i v H Q => ∃ p xs k j, o = .ref p ∧ i = .int k ∧ H p = some (.lst xs) ∧ ixN xs.length k = some j ∧ ∀ H', Mu H p (.lst (xs.set j v)) H' → Q H'
def rSL : V → Option Int → Option Int → Hp → VK → Prop := fun x lo hi H Q => ∃ a xs, x = .ref a ∧ H a = some (.lst xs) ∧ ∀ p H', Al H p (.lst (cutV xs lo hi)) H' → Q (.ref p) H'
section
variable {X : Cx} {a b o : Expr} {ta tb : TE} {pos : Pos}
theorem ix_l : IxR X rXL := ixM ix_list fun _ _ _ _ ⟨p, xs, i, v, e1, e2, h, e, q⟩ => ⟨p, xs, i, v, e1, e2, SqL.of h, e, q⟩
theorem ix_t : IxR X rXT := ixM ix_tup fun _ _ _ _ ⟨p, xs, i, v, e1, e2, h, e, q⟩ => ⟨p, xs, i, v, e1, e2, SqT.of h, e, q⟩
theorem op_inT : OpR X (compareOp .In) (rInT false) := opM op_in_seq fun _ _ _ _ ⟨p, xs, e, h, h1, h2, q⟩ => ⟨p, xs, e, .inr (SqT.of h), h1, h2, q⟩
theorem op_ninT : OpR X (compareOp .NotIn) (rInT true) := opM op_notIn_seq fun _ _ _ _ ⟨p, xs, e, h, h1, h2, q⟩ => ⟨p, xs, e, .inr (SqT.of h), h1, h2, q⟩
theorem cl_lenL : CallR X (.builtin "len") rLenL := clM call_len_seq fun _ _ _ ⟨p, xs, e, h, q⟩ => ⟨p, xs, e, .inl (SqL.of h), q⟩
theorem cl_lenT : CallR X (.builtin "len") rLenT := clM call_len_seq fun _ _ _ ⟨p, xs, e, h, q⟩ => ⟨p, xs, e, .inr (SqT.of h), q⟩
theorem cl_lenS : CallR X (.builtin "len") rLenS := call_len_str
theorem cl_int1 : CallR X (.type "int") rInt1 := call_int1
theorem cl_tupL : CallR X (.type "tuple") rTupL := clM call_tuple_of fun _ _ _ ⟨p, xs, e, h, q⟩ => ⟨p, xs, e, .inl ⟨SqL.of h, fun l hl => q l _ (.of hl)⟩⟩
theorem cl_lstL : CallR X (.type "list") rLstL := clM call_list_of fun _ _ _ ⟨p, xs, e, h, q⟩ => ⟨p, xs, e, .inl (SqL.of h), fun l hl => q l _ (.of hl)⟩
theorem op_ct : OpR X (binaryOp .Add) rCt := opM op_cat fun _ _ _ _ ⟨l, b, xs, zs, e1, e2, h1, h2, hz, q⟩ => ⟨l, b, xs, zs, e1, e2, h1, h2, hz, fun p hp => q p _ (.of hp)⟩
theorem set_l : PSet X rStL := fun pins s σ H o i v ov iv u Q I ro ri rv ⟨p, xs, k, j, e1, e2, h, hj, q⟩ => set_list pins s σ H o i v ov iv u Q I ro ri rv ⟨p, xs, k, j, e1, e2, h, hj, q _ (.of h fun _ z => by cases z)⟩
theorem sl_l : SlR X rSL := fun pins s σ H x v vl vu lo hi sl Q I rx hs pl pu ⟨a, xs, e, h, q⟩ => sl_list pins s σ H x v vl vu lo hi sl Q I rx hs pl pu ⟨a, xs, e, SqL.of h, fun p hp => q p _ (.of hp)⟩
theorem cl_is {T : String} : CallR X (.builtin "isinstance") (rIs T) := by
  refine clM call_isi ?_
  rintro vs H Q ⟨x, b, e, ⟨n, hn, hk⟩, q⟩
  refine ⟨x, .ty T, .type n, .type T, b, e, .ty T, ?_, kit_ty hk, q⟩
  cases x with
  | non => cases hn; exact .base .non
  | bl b => cases hn; exact .base (.bl b)
  | int i => cases hn; exact .base (.int i)
  | str s => cases hn; exact .base (.str s)
  | ref a =>
    have hn' : (match H a with
      | some (.lst _) => n = "list"
      | some (.tup _) => n = "tuple"
      | some (.dK _) => n = "dict"
      | _ => False) := hn
    cases ea : H a with
    | none => rw [ea] at hn'; exact hn'.elim
    | some u =>
      rw [ea] at hn'
      cases u with
      | lst xs => cases hn'; exact .base (.lst ea)
      | tup xs => cases hn'; exact .base (.tup ea)
      | dK kvs => cases hn'; exact .base (.dK ea)
      | _ => exact hn'.elim
  | _ => exact hn.elim
end

/-! ### words: texts that differ -/
def wds : List Str := (["num", "text", "name", "add", "sub", "less", "same", "say", "set", "unless", "go", "top", "end", "row"] : List Str) ++ ((["if", "while",
  "turn", "get", "is", "so", "put", "again", "leave", "n", "t", "any", "done", "dry"] : List Str) ++ (["mixed", "else",
  "place", "names", "half", "left", "said", "last", "rows", "many", "slots", "kinds", "stack", "made"] : List Str))
def wd (i : Nat) : Str := wds.getD i ""
theorem wds_nd : wds.Nodup := by decide +kernel
theorem wds_len : wds.length = 42 := by decide +kernel
theorem wd_get {i : Nat} (h : i < 42) : wds[i]? = some (wd i) := by
  have h' : i < wds.length := by rw [wds_len]; exact h
  unfold wd
  rw [List.getD_eq_getElem?_getD, List.getElem?_eq_getElem h']
  rfl
/-- two words of the list are one only at one place -/
theorem wd_eq {i j : Nat} (hi : i < 42) (hj : j < 42) : (wd i = wd j) = (i = j) := by
  refine propext ⟨fun e => ?_, fun e => by rw [e]⟩
  have h1 := wd_get hi
  have h2 := wd_get hj
  rw [← e] at h2
  exact nd_ix wds_nd h1 h2
theorem wd_ne0 {i : Nat} (hi : i < 42) : (wd i = ("" : Str)) = False := by
  refine eq_false fun e => ?_
  have a : ("" : Str) ∉ wds := by decide +kernel
  exact a (by rw [← e]; exact List.mem_of_getElem? (wd_get hi))
theorem wd_ne0' {i : Nat} (hi : i < 42) : (("" : Str) = wd i) = False := (propext eq_comm).trans (wd_ne0 hi)
theorem eqV_str (a b : Str) : eqV (.str a) (.str b) = decide (a = b) := by
  show (a == b) = decide (a = b)
  by_cases e : a = b
  · subst e; simp
  · rw [decide_eq_false e]; exact beq_eq_false_iff_ne.mpr e
theorem eqV_int (a b : Int) : eqV (.int a) (.int b) = decide (a = b) := by
  show (a == b) = decide (a = b)
  by_cases e : a = b
  · subst e; simp
  · rw [decide_eq_false e]; exact beq_eq_false_iff_ne.mpr e
theorem eqV_is (a : Int) (b : Str) : eqV (.int a) (.str b) = false := rfl
theorem eqV_si (a : Int) (b : Str) : eqV (.str b) (.int a) = false := rfl
theorem inV_nil (x : V) : inV x [] = false := rfl
theorem inV_cons (x y : V) (ys : List V) : inV x (y :: ys) = (eqV y x || inV x ys) := rfl

/-! ### items at written places -/
theorem atI0 {α : Type} (x : α) (r : List α) : atI (x :: r) 0 = some x := atI_nat (j := 0) rfl
theorem atI1 {α : Type} (x y : α) (r : List α) : atI (x :: y :: r) 1 = some y := atI_nat (j := 1) rfl
theorem atI2 {α : Type} (x y z : α) (r : List α) : atI (x :: y :: z :: r) 2 = some z := atI_nat (j := 2) rfl
theorem atI3 {α : Type} (x y z u : α) (r : List α) : atI (x :: y :: z :: u :: r) 3 = some u := atI_nat (j := 3) rfl
theorem ixN_n {n j : Nat} (hj : j < n) : ixN n (j : Int) = some j := by
  unfold ixN
  rw [if_pos (by omega), if_pos (by omega)]
  simp
theorem ixN0 {α : Type} (x : α) (r : List α) : ixN (x :: r).length 0 = some 0 := ixN_n (j := 0) (by simp)
theorem ixN1 {α : Type} (x y : α) (r : List α) : ixN (x :: y :: r).length 1 = some 1 := ixN_n (j := 1) (by simp)
theorem ixN2 {α : Type} (x y z : α) (r : List α) : ixN (x :: y :: z :: r).length 2 = some 2 := ixN_n (j := 2) (by simp)
theorem ixN3 {α : Type} (x y z u : α) (r : List α) : ixN (x :: y :: z :: u :: r).length 3 = some 3 := ixN_n (j := 3) (by simp)
theorem atI_of {α : Type} {xs : List α} {i : Int} (h0 : 0 ≤ i) (h1 : i < xs.length) : ∃ v, atI xs i = some v ∧ v ∈ xs := by
  have h : i.toNat < xs.length := by omega
  have e : atI xs ((i.toNat : Nat) : Int) = some xs[i.toNat] := atI_nat (List.getElem?_eq_getElem h)
  rw [Int.toNat_of_nonneg h0] at e
  exact ⟨_, e, List.getElem_mem h⟩

/-! ### more rules -/
def rAddS : R2 := fun x y H Q => ∃ i j, x = .str i ∧ y = .str j ∧ i.length + j.length ≤ sizeLine ∧ Q (.str (i ++ j)) H
def rLtS : R2 := fun x y H Q => ∃ i j, x = .str i ∧ y = .str j ∧ Q (.bl (decide (i.cps.toList < j.cps.toList))) H
def rInS1 : R2 := fun x y H Q => ∃ (c : Nat) (z : Str), x = .str ⟨#[c]⟩ ∧ y = .str z ∧ Q (.bl (decide (c ∈ z.cps.toList))) H
def rNinS1 : R2 := fun x y H Q => ∃ (c : Nat) (z : Str), x = .str ⟨#[c]⟩ ∧ y = .str z ∧ Q (.bl (!decide (c ∈ z.cps.toList))) H
def rIsN : R2 := fun x y H Q => y = .non ∧ Q (.bl (decide (x = .non))) H
def rNotN : R2 := fun x y H Q => y = .non ∧ Q (.bl (!decide (x = .non))) H
/-- a list of ints beside an empty one -/
def rEqE : R2 := fun x y H Q => ∃ (p q : Addr) (ns : List Int), x = .ref p ∧ y = .ref q ∧ H p = some (.lst (ns.map V.int)) ∧ H q = some (.lst []) ∧ Q (.bl ns.isEmpty) H
def rXQ : R2 := fun x y H Q => ∃ p xs i v, x = .ref p ∧ y = .int i ∧ (H p = some (.lst xs) ∨ H p = some (.tup xs)) ∧ atI xs i = some v ∧ Q v H
def rLenQ : List V → Hp → VK → Prop := fun vs H Q => ∃ p xs, vs = [.ref p] ∧ (H p = some (.lst xs) ∨ H p = some (.tup xs)) ∧ Q (.int xs.length) H
def rLenK (K : PySem.W.Frag) : List V → Hp → VK → Prop := fun xs H Q => ∃ p ys, xs = [.ref p] ∧ (SqL K H p ys ∨ SqT K H p ys) ∧ Q (.int ys.length) H
def rLstK (K : PySem.W.Frag) : List V → Hp → VK → Prop := fun xs H Q => ∃ p ys, xs = [.ref p] ∧ (SqL K H p ys ∨ SqT K H p ys) ∧ ∀ l H', Al H l (.lst ys) H' → Q (.ref l) H'
def tApp (to te : TE) : TE := fun σ H Q => to σ H fun x H1 => ∃ l xs', x = .ref l ∧ H1 l = some (.lst xs') ∧ te σ H1 fun y H2 => ∃ xs, H2 l = some (.lst xs) ∧ xs.length < sizeLine ∧ ∀ H', Mu H2 l (.lst (xs ++ [y])) H' → Q .non H'
def tPopAt (to te : TE) : TE := fun σ H Q => to σ H fun x H1 => ∃ l xs', x = .ref l ∧ H1 l = some (.lst xs') ∧ te σ H1 fun y H2 => ∃ x0 xs, y = .int 0 ∧ H2 l = some (.lst (x0 :: xs)) ∧ ∀ H', Mu H2 l (.lst xs) H' → Q x0 H'
def tPopL (to : TE) : TE := fun σ H Q => to σ H fun x H1 => ∃ l xs y, x = .ref l ∧ H1 l = some (.lst xs) ∧ xs[xs.length - 1]? = some y ∧ ∀ H', Mu H1 l (.lst xs.dropLast) H' → Q y H'
def tJoinL (to te : TE) : TE := fun σ H Q => to σ H fun x H1 => ∃ a : Str, x = .str a ∧ te σ H1 fun y H2 => ∃ (p : Addr) (ys : List Str), y = .ref p ∧ H2 p = some (.lst (ys.map V.str)) ∧
  (ys.map (·.length)).sum + ys.length * a.length ≤ 16777216 ∧ Q (.str (Txt.join a ys)) H2
/-- displays -/
def xTup (t : TA) : TE := fun σ H Q => t σ H fun xs H1 => xs.length ≤ sizeLine ∧ ∀ p H2, Al H1 p (.tup xs) H2 → Q (.ref p) H2
def xLst (t : TA) : TE := fun σ H Q => t σ H fun xs H1 => xs.length ≤ sizeLine ∧ ∀ p H2, Al H1 p (.lst xs) H2 → Q (.ref p) H2
def xDic : TE := fun _ H Q => ∀ p H2, Al H p (.dK []) H2 → Q (.ref p) H2
def tIndex (to te : TE) : TE := fun σ H Q => to σ H fun x H1 => ∃ a ys', x = .ref a ∧ H1 a = some (.lst ys') ∧ te σ H1 fun y H2 => ∃ (ys : List V) (j : Nat) (z : V), H2 a = some (.lst ys) ∧ flatV y = true ∧ ys.all flatV = true ∧
  ys[j]? = some z ∧ eqV z y = true ∧ (∀ (m : Nat) (z' : V), m < j → ys[m]? = some z' → eqV z' y = false) ∧ Q (.int (j : Nat)) H2
section
variable {X : Cx} {a b o e : Expr} {ta tb to te : TE} {pos : Pos}
theorem cl_lstK : CallR X (.type "list") (rLstK X.K) := clM call_list_of fun _ _ _ ⟨p, xs, e, h, q⟩ => ⟨p, xs, e, h, fun l hl => q l _ (.of hl)⟩
theorem pe_tupX {es : List Expr} {x1 : Nat} {t : TA} (h : PA X es t) : PE X (.Tuple es x1 pos) (xTup t) := peM (pe_tup (moA h)) fun σ H Q h => ⟨_, h, fun xs H1 ⟨hl, q⟩ => ⟨hl, fun p hp => q p _ (.of hp)⟩⟩
theorem pe_lstX {es : List Expr} {t : TA} (h : PA X es t) : PE X (.List es pos) (xLst t) := peM (pe_lst (moA h)) fun σ H Q h => ⟨_, h, fun xs H1 ⟨hl, q⟩ => ⟨hl, fun p hp => q p _ (.of hp)⟩⟩
theorem pe_dicX : PE X (.Dict [] [] pos) xDic := peM pe_dnewK fun σ H Q h p hp => h p _ (.of hp)
theorem op_addS : OpR X (binaryOp .Add) rAddS := op_add_str
theorem op_ltS : OpR X (compareOp .Lt) rLtS := op_lt_str
theorem op_inS1 : OpR X (compareOp .In) rInS1 := op_in_sign
theorem op_ninS : OpR X (compareOp .NotIn) rNinS1 := op_notIn_sign
theorem op_isN1 : OpR X (compareOp .Is) rIsN := op_isN
theorem op_notN1 : OpR X (compareOp .IsNot) rNotN := op_notN
theorem cl_lenQ : CallR X (.builtin "len") rLenQ := clM call_len_seq fun _ _ _ ⟨p, xs, e, h, q⟩ => ⟨p, xs, e, h.imp SqL.of SqT.of, q⟩
theorem ix_q : IxR X rXQ := ixM (IxR.or ix_list ix_tup) fun _ _ _ _ ⟨p, xs, i, v, e1, e2, h, e, q⟩ => h.elim (fun h => .inl ⟨p, xs, i, v, e1, e2, SqL.of h, e, q⟩) fun h => .inr ⟨p, xs, i, v, e1, e2, SqT.of h, e, q⟩
theorem pe_int_glob {x : Str} {i : Int} (hg : Gl X x) (hm : ∃ t, X.mg x = some (.int i t)) (hd : (x == ("__debug__" : Str)) = false := by decide) : PE X (.Name x pos) (tC (.int i)) := by
  obtain ⟨t, hm⟩ := hm
  exact pe_glob hg hm ⟨t, rfl⟩ hd
theorem pe_str_glob {x i : Str} (hg : Gl X x) (hm : ∃ t, X.mg x = some (.str i t)) (hd : (x == ("__debug__" : Str)) = false := by decide) : PE X (.Name x pos) (tC (.str i)) := by
  obtain ⟨t, hm⟩ := hm
  exact pe_glob hg hm ⟨t, rfl⟩ hd
theorem dp_ints {K : PySem.W.Frag} {H : Hp} : ∀ ns : List Int, DpAll K H (ns.map V.int) (ns.map PyData.int)
  | [] => .nil
  | _ :: r => .cons (.int _) (dp_ints r)
theorem lay_ints : ∀ ns : List Int, PyData.canLayAll0 (ns.map PyData.int) = true ∧ PyData.depthAll (ns.map PyData.int) = 0
  | [] => ⟨rfl, rfl⟩
  | n :: r => by
    obtain ⟨h1, h2⟩ := lay_ints r
    refine ⟨?_, ?_⟩
    · show (PyData.canLay0 (.int n) && PyData.canLayAll0 (r.map PyData.int)) = true
      rw [h1] <;> rfl
    · show max (PyData.depth (.int n)) (PyData.depthAll (r.map PyData.int)) = 0
      rw [h2] <;> rfl
theorem shaped_ints (ns : List Int) : SeqAt.shaped (.list (ns.map PyData.int)) = true := by
  obtain ⟨h1, h2⟩ := lay_ints ns
  unfold SeqAt.shaped
  have e1 : PyData.canLay0 (.list (ns.map PyData.int)) = true := by simp only [PyData.canLay0]; exact h1
  have e2 : PyData.depth (.list (ns.map PyData.int)) = 1 := by simp only [PyData.depth]; rw [h2]
  rw [e1, e2] <;> rfl
theorem op_eqE (hu : X.A.units + 64 < cLine) : OpR X (compareOp .Eq) rEqE := by
  refine opM (op_eqD hu) ?_
  rintro x y H Q ⟨p, q, ns, e1, e2, h1, h2, k⟩
  subst e1 e2
  refine ⟨.list (ns.map PyData.int), .list [], .lst (SqL.of h1) (dp_ints ns), .lst (SqL.of h2) .nil, shaped_ints ns, rfl, ?_⟩
  have e : PyData.eqv (.list (ns.map PyData.int)) (.list []) = ns.isEmpty := by cases ns <;> rfl
  rw [e]; exact k
variable {apos cpos : Pos}
theorem pe_app (ho : PE X o to) (he : PE X e te) (hbase : attributeBase o "append" X.env (eval o X.env) = eval o X.env := by rfl)
    (hfew : ((backTo cpos (starEach (e :: []) X.env)).all (fun x => !x.1) && (backToKw cpos (keywordEach [] X.env)).all (fun x => x.1.isSome)
      && decide ((e :: ([] : List Expr)).length + ([] : List Keyword).length + (if ([] : List Keyword).isEmpty then 0 else 1) < 30)) = true := by rfl)
    (hline : (apos.endLine == cpos.line) = true := by rfl) (hs : starEach (e :: []) X.env = (false, eval e X.env) :: starEach [] X.env := by rfl) (hplain : (backTo cpos (starEach ([] : List Expr) X.env)).any (·.1) = false := by rfl) :
    PE X (.Call (.Attribute o "append" apos) [e] [] cpos) (tApp to te) := by
  refine peM (pe_bm PySem.F.plainAttrs_list PySem.F.slot_list_append PySem.F.type_list_append mt_append (mo ho) (pa_cons (mo he) pa_nil hs) hbase hfew hline hs hplain) ?_
  intro σ H Q h
  refine ⟨_, h, ?_⟩
  rintro x H1 ⟨l, xs', rfl, h1, h⟩
  refine ⟨Or.inl ⟨rfl, _, SqL.of h1⟩, _, h, ?_⟩
  rintro y H2 ⟨xs, h2, hz, q⟩
  exact ⟨l, xs, y, rfl, rfl, h2, hz, q _ (.of h2 fun _ z => by cases z)⟩
theorem pe_popAt (ho : PE X o to) (he : PE X e te) (hbase : attributeBase o "pop" X.env (eval o X.env) = eval o X.env := by rfl)
    (hfew : ((backTo cpos (starEach (e :: []) X.env)).all (fun x => !x.1) && (backToKw cpos (keywordEach [] X.env)).all (fun x => x.1.isSome)
      && decide ((e :: ([] : List Expr)).length + ([] : List Keyword).length + (if ([] : List Keyword).isEmpty then 0 else 1) < 30)) = true := by rfl)
    (hline : (apos.endLine == cpos.line) = true := by rfl) (hs : starEach (e :: []) X.env = (false, eval e X.env) :: starEach [] X.env := by rfl) (hplain : (backTo cpos (starEach ([] : List Expr) X.env)).any (·.1) = false := by rfl) :
    PE X (.Call (.Attribute o "pop" apos) [e] [] cpos) (tPopAt to te) := by
  refine peM (pe_bm PySem.F.plainAttrs_list PySem.F.slot_list_pop PySem.F.type_list_pop mt_popAt (mo ho) (pa_cons (mo he) pa_nil hs) hbase hfew hline hs hplain) ?_
  intro σ H Q h
  refine ⟨_, h, ?_⟩
  rintro x H1 ⟨l, xs', rfl, h1, h⟩
  refine ⟨Or.inl ⟨rfl, _, SqL.of h1⟩, _, h, ?_⟩
  rintro y H2 ⟨x0, xs, rfl, h2, q⟩
  exact ⟨l, x0 :: xs, 0, 0, x0, rfl, rfl, h2, by decide, by decide, seqIndex_of (by decide) (by simp), rfl, q _ (.of h2 fun _ z => by cases z)⟩
theorem pe_index (ho : PE X o to) (he : PE X e te) (hbase : attributeBase o "index" X.env (eval o X.env) = eval o X.env := by rfl)
    (hfew : ((backTo cpos (starEach (e :: []) X.env)).all (fun x => !x.1) && (backToKw cpos (keywordEach [] X.env)).all (fun x => x.1.isSome)
      && decide ((e :: ([] : List Expr)).length + ([] : List Keyword).length + (if ([] : List Keyword).isEmpty then 0 else 1) < 30)) = true := by rfl)
    (hline : (apos.endLine == cpos.line) = true := by rfl) (hs : starEach (e :: []) X.env = (false, eval e X.env) :: starEach [] X.env := by rfl) (hplain : (backTo cpos (starEach ([] : List Expr) X.env)).any (·.1) = false := by rfl) :
    PE X (.Call (.Attribute o "index" apos) [e] [] cpos) (tIndex to te) := by
  refine peM (pe_bm PySem.F.plainAttrs_list PySem.F.slot_list_index PySem.F.type_list_index mt_index (mo ho) (pa_cons (mo he) pa_nil hs) hbase hfew hline hs hplain) ?_
  intro σ H Q h
  refine ⟨_, h, ?_⟩
  rintro x H1 ⟨a, ys', rfl, h1, h⟩
  refine ⟨Or.inl ⟨rfl, _, SqL.of h1⟩, _, h, ?_⟩
  rintro y H2 ⟨ys, j, z, h2, f1, f2, hj, hz, hno, q⟩
  exact ⟨a, ys, y, j, z, rfl, rfl, SqL.of h2, f1, f2, hj, hz, hno, q⟩
theorem pe_popL (ho : PE X o to) (hbase : attributeBase o "pop" X.env (eval o X.env) = eval o X.env := by rfl) (hline : (apos.endLine == cpos.line) = true := by rfl) : PE X (.Call (.Attribute o "pop" apos) [] [] cpos) (tPopL to) := by
  refine peM (pe_bm0 PySem.F.plainAttrs_list PySem.F.slot_list_pop PySem.F.type_list_pop mt_pop (mo ho) hbase hline) ?_
  intro σ H Q h
  refine ⟨_, h, ?_⟩
  rintro x H1 ⟨l, xs, y, rfl, h1, hy, q⟩
  exact ⟨Or.inl ⟨rfl, _, SqL.of h1⟩, l, xs, y, rfl, rfl, h1, hy, q _ (.of h1 fun _ z => by cases z)⟩
theorem pe_joinL (ho : PE X o to) (he : PE X e te) (hs : starEach [e] X.env = [(false, eval e X.env)] := by rfl) (hbase : attributeBase o "join" X.env (eval o X.env) = eval o X.env := by rfl) (hline : (apos.endLine == cpos.line) = true := by rfl) :
    PE X (.Call (.Attribute o "join" apos) [e] [] cpos) (tJoinL to te) := by
  refine peM (pe_join (mo ho) (mo he) hs hbase hline) ?_
  intro σ H Q h
  refine ⟨_, h, ?_⟩
  rintro x H1 ⟨a, rfl, h⟩
  refine ⟨⟨a, rfl⟩, _, h, ?_⟩
  rintro y H2 ⟨p, ys, rfl, h2, hz, q⟩
  exact ⟨a, p, ys, rfl, rfl, .inl (SqL.of h2), hz, q⟩
end

/-! ### frames: what stands outside S stands on; tuples stand on -/
structure Fr (S : List Addr) (H H' : Hp) : Prop where
  keep : ∀ b o, H b = some o → b ∉ S → H' b = some o
  tups : ∀ b xs, H b = some (.tup xs) → H' b = some (.tup xs)
section
variable {S S' : List Addr} {H H1 H2 : Hp} {p : Addr} {o : HO}
theorem Fr.refl (S : List Addr) (H : Hp) : Fr S H H := ⟨fun _ _ h _ => h, fun _ _ h => h⟩
theorem Fr.trans (a : Fr S H H1) (b : Fr S H1 H2) : Fr S H H2 := ⟨fun c o h hc => b.keep c o (a.keep c o h hc) hc, fun c xs h => b.tups c xs (a.tups c xs h)⟩
theorem Fr.mono (a : Fr S H H1) (h : ∀ b ∈ S, b ∈ S') : Fr S' H H1 := ⟨fun c o e hc => a.keep c o e fun z => hc (h c z), a.tups⟩
theorem Fr.sub0 (a : Fr [] H H1) : Fr S H H1 := a.mono (by simp)
theorem Fr.new (h : H p = none) : Fr S H (upd H p o) := ⟨fun b u e _ => by rw [upd_ne (ne_of_none e h)]; exact e, fun b xs e => by rw [upd_ne (ne_of_none e h)]; exact e⟩
theorem Fr.mut {u : HO} (h : H p = some u) (hp : p ∈ S) (hu : ∀ xs, u ≠ .tup xs) : Fr S H (upd H p o) := by
  refine ⟨fun b z e hb => ?_, fun b xs e => ?_⟩
  · rw [upd_ne fun e' => hb (by rw [e']; exact hp)]; exact e
  · rw [upd_ne fun e' => ?_]; exact e
    rw [e', h] at e
    exact hu xs (Option.some.inj e)
theorem Al.fr {H' : Hp} (a : Al H p o H') : Fr S H H' := ⟨fun _ _ e _ => a.k e, fun _ _ e => a.k e⟩
theorem Mu.fr {H' : Hp} (a : Mu H p o H') (hp : p ∈ S) : Fr S H H' :=
  ⟨fun _ _ e hb => a.k e fun z => hb (by rw [z]; exact hp), fun b xs e => a.k e fun z => a.nt xs (by rw [← z]; exact e)⟩
theorem Fr.al {H' : Hp} (f : Fr S H H1) (a : Al H1 p o H') : Fr S H H' := f.trans a.fr
theorem Fr.mu {H' : Hp} (f : Fr S H H1) (a : Mu H1 p o H') (hp : p ∈ S) : Fr S H H' := f.trans (a.fr hp)
theorem Fr.free (a : Fr S H H1) (h : H1 p = none) (hp : p ∉ S) : H p = none := by
  cases e : H p with
  | none => rfl
  | some u => rw [a.keep p u e hp] at h; cases h
/-- an address that H does not know may leave S -/
theorem Fr.drop (a : Fr (p :: S) H H1) (h : H p = none) : Fr S H H1 := ⟨fun b u e hb => a.keep b u e (by
  intro z
  rcases List.mem_cons.mp z with z | z
  · rw [z, h] at e; cases e
  · exact hb z), a.tups⟩
theorem Fr.l {xs : List V} {a : Addr} (f : Fr S H H1) (h : H a = some (.lst xs)) (ha : a ∉ S) : H1 a = some (.lst xs) := f.keep a _ h ha
end

/-! ### data: values of any depth -/
mutual
inductive Rp (H : Hp) : V → PyData → Prop
  | non : Rp H .non .none
  | bl (b : Bool) : Rp H (.bl b) (.bool b)
  | int (i : Int) : Rp H (.int i) (.int i)
  | str (x : Str) : Rp H (.str x) (.str x)
  | lst {a : Addr} {xs : List V} {ds : List PyData} : H a = some (.lst xs) → RpAll H xs ds → Rp H (.ref a) (.list ds)
  | tup {a : Addr} {xs : List V} {ds : List PyData} : H a = some (.tup xs) → RpAll H xs ds → Rp H (.ref a) (.tuple ds)
inductive RpAll (H : Hp) : List V → List PyData → Prop
  | nil : RpAll H [] []
  | cons {v : V} {vs : List V} {d : PyData} {ds : List PyData} : Rp H v d → RpAll H vs ds → RpAll H (v :: vs) (d :: ds)
end
theorem RpAll.length {H : Hp} : ∀ {vs : List V} {ds : List PyData}, RpAll H vs ds → vs.length = ds.length
  | _, _, .nil => rfl
  | _, _, .cons _ r => congrArg Nat.succ r.length
theorem RpAll.get {H : Hp} : ∀ {vs : List V} {ds : List PyData} {i : Nat} {d : PyData}, RpAll H vs ds → ds[i]? = some d → ∃ v, vs[i]? = some v ∧ Rp H v d
  | _, _, _, _, .nil, e => by simp at e
  | _, _, 0, _, .cons h _, e => by
    have e' := Option.some.inj e
    subst e'
    exact ⟨_, rfl, h⟩
  | _, _, i + 1, d, .cons _ r, e => r.get (i := i) (d := d) e

/-! ### the box of the law: a list of ints and a number -/
def BoxAt (H : Hp) (b l : Addr) : Prop := b ≠ l ∧ ∃ (ns : List Int) (s : Int), H b = some (.lst [.ref l, .int s]) ∧ H l = some (.lst (ns.map V.int)) ∧ 0 ≤ s ∧ s < 2147483647
theorem BoxAt.keep {H H1 : Hp} {b l : Addr} (B : BoxAt H b l) (f : Fr [] H H1) : BoxAt H1 b l := by
  obtain ⟨ne, ns, s, h1, h2, h3⟩ := B
  exact ⟨ne, ns, s, f.keep _ _ h1 (by simp), f.keep _ _ h2 (by simp), h3⟩

/-! ### loops and comprehensions -/
theorem st_seq {t u : TS} {D : Ends} {σ : L2.St} {H : Hp} (h : t { D with nx := u D } σ H) : tSeq t u D σ H := h
section
variable {ta : TA} {te tl : TE} {g : TG} {tt : TT} {tb : TS} {vs : List Nat} {j : Nat} {σ : L2.St} {H : Hp} {Q : VK} {D : Ends} {K : PySem.W.Frag}
/-- a turn of a comprehension -/
def LcTurn (g : TG) (tt : TT) (te : TE) (vs : List Nat) (σ : L2.St) (L : Addr) (Nx : Hp → Prop) (x : V) (H' : Hp) : Prop := g x (wipe σ vs) H' fun σ2 H2 => wipe σ2 vs = wipe σ vs ∧ tt σ2 H2 fun b H3 =>
  if b = true then te σ2 H3 fun y H4 => ∃ acc, H4 L = some (.lst acc) ∧ acc.length < sizeLine ∧ Nx (upd H4 L (.lst (acc ++ [y]))) else Nx H3
theorem lcR {n : Int} (hv : ∀ R : List V → Hp → Prop, R [.int n] H → ta σ H R) (b0 : 0 ≤ n) (b1 : n < 4611686018427387904)
    (h : ∀ L, H L = none → ∃ Pv : Nat → Hp → Prop, Pv 0 (upd H L (.lst [])) ∧ (∀ (i : Nat) Hc, (i : Int) < n → Pv i Hc → LcTurn g tt te vs σ L (Pv (i + 1)) (.int (i : Int)) Hc) ∧ ∀ Hc, Pv n.toNat Hc → Q (.ref L) Hc) :
    tLc (iRng1 ta) g tt te vs σ H Q := by
  refine hv _ ⟨n, rfl, by omega, by omega, fun L hL => ?_⟩
  obtain ⟨Pv, h0, hs, hd⟩ := h L hL
  refine lc_it walk_range Pv h0 (fun _ _ _ _ => trivial) (fun i x H1 H2 hi p y => ?_) hd
  obtain ⟨e1, e2⟩ := y
  have e2' : x = .int (0 + (i : Int)) := e2
  rw [Int.zero_add] at e2'
  subst e1 e2'
  exact hs i _ (by omega) p
theorem lcS {z : Str} (hv : ∀ R : VK, R (.str z) H → te σ H R) {te' : TE}
    (h : ∀ L, H L = none → ∃ Pv : Nat → Hp → Prop, Pv 0 (upd H L (.lst [])) ∧ (∀ (i : Nat) c Hc, z.cps.toList[i]? = some c → Pv i Hc → LcTurn g tt te' vs σ L (Pv (i + 1)) (.str ⟨#[c]⟩) Hc) ∧ ∀ Hc, Pv z.cps.toList.length Hc → Q (.ref L) Hc) :
    tLc (iStr te) g tt te' vs σ H Q := by
  refine hv _ ⟨z, rfl, fun L hL => ?_⟩
  obtain ⟨Pv, h0, hs, hd⟩ := h L hL
  refine lc_it walk_str Pv h0 (fun _ _ _ _ => trivial) (fun i x H1 H2 hi p y => ?_) (by simpa using hd)
  obtain ⟨e1, c, e2, e3⟩ := y
  subst e1 e3
  exact hs i c _ (by simpa using e2) p
theorem forR {n : Int} (hv : ∀ R : List V → Hp → Prop, R [.int n] H → ta σ H R) (b0 : 0 ≤ n) (b1 : n < 4611686018427387904) (Pv : Nat → L2.St → Hp → Prop) (h0 : Pv 0 σ H)
    (hs : ∀ (i : Nat) σ' H', (i : Int) < n → Pv i σ' H' → tb { D with nx := Pv (i + 1), ct := Pv (i + 1), bk := D.nx } (σ'.set j (some (.int (i : Int)))) H') (hd : ∀ σ' H', Pv n.toNat σ' H' → D.nx σ' H') :
    tFor (iRng1 ta) (gName j) tb D σ H := by
  refine hv _ ⟨n, rfl, by omega, by omega, for_it walk_range Pv h0 (fun _ _ _ _ _ => trivial) (fun i x σ1 H1 H2 hi p y => ?_) hd⟩
  obtain ⟨e1, e2⟩ := y
  have e2' : x = .int (0 + (i : Int)) := e2
  rw [Int.zero_add] at e2'
  subst e1 e2'
  exact hs i σ1 _ (by omega) p
theorem forT {a : Addr} {xs : List V} (hv : ∀ R : VK, R (.ref a) H → tl σ H R) (hx : H a = some (.tup xs)) (Pv : Nat → L2.St → Hp → Prop) (h0 : Pv 0 σ H) (hl : ∀ i σ' H', Pv i σ' H' → H' a = some (.tup xs))
    (hs : ∀ (i : Nat) x σ' H', xs[i]? = some x → Pv i σ' H' → tb { D with nx := Pv (i + 1), ct := Pv (i + 1), bk := D.nx } (σ'.set j (some x)) H') (hd : ∀ σ' H', Pv xs.length σ' H' → D.nx σ' H') :
    tFor (iTup K tl) (gName j) tb D σ H := by
  refine hv _ ⟨a, rfl, ⟨xs, SqT.of hx⟩, for_it walk_tup Pv h0 (fun i σ' H' _ p => SqT.of (hl i σ' H' p)) (fun i x σ1 H1 H2 hi p y => ?_) hd⟩
  obtain ⟨e1, e2⟩ := y
  subst e1
  exact hs i x σ1 _ e2 p
theorem forS {z : Str} (hv : ∀ R : VK, R (.str z) H → te σ H R) (Pv : Nat → L2.St → Hp → Prop) (h0 : Pv 0 σ H)
    (hs : ∀ (i : Nat) c σ' H', z.cps.toList[i]? = some c → Pv i σ' H' → tb { D with nx := Pv (i + 1), ct := Pv (i + 1), bk := D.nx } (σ'.set j (some (.str ⟨#[c]⟩))) H') (hd : ∀ σ' H', Pv z.cps.toList.length σ' H' → D.nx σ' H') :
    tFor (iStr te) (gName j) tb D σ H := by
  refine hv _ ⟨z, rfl, for_it walk_str Pv h0 (fun _ _ _ _ _ => trivial) (fun i x σ1 H1 H2 hi p y => ?_) (by simpa using hd)⟩
  obtain ⟨e1, c, e2, e3⟩ := y
  subst e1 e3
  exact hs i c σ1 _ (by simpa using e2) p
end
/-- a new list that a frame does not see may change -/
theorem Fr.muN {S : List Addr} {H H1 H2 : Hp} {p : Addr} {o : HO} (f : Fr S H H1) (a : Mu H1 p o H2) (h : H p = none) : Fr S H H2 :=
  Fr.drop ((f.mono fun _ z => List.mem_cons_of_mem _ z).mu a (List.mem_cons_self ..)) h

/-! ### values of programs -/
/-- a number or a text -/
inductive Vl where
  | n (i : Int)
  | t (z : Str)
  deriving DecidableEq
def Vl.v : Vl → V
  | .n i => .int i
  | .t z => .str z
def Txt12 (z : Str) : Prop := z.cps.toList.length ≤ 12 ∧ ∀ c ∈ z.cps.toList, 97 ≤ c ∧ c < 123
def Vl.ok : Vl → Prop
  | .n i => 0 ≤ i ∧ i < 10007
  | .t z => Txt12 z
theorem Vl.v_inj {x y : Vl} : (x.v = y.v) = (x = y) := by
  refine propext ⟨fun e => ?_, fun e => by rw [e]⟩
  cases x <;> cases y <;> simp_all [Vl.v]
/-- the four signs -/
inductive Sg where
  | add | sub | less | same
  deriving DecidableEq
def Sg.ix : Sg → Nat
  | .add => 3
  | .sub => 4
  | .less => 5
  | .same => 6
def Sg.s (s : Sg) : Str := wd s.ix
def Vl.kd : Vl → Str
  | .n _ => wd 23
  | .t _ => wd 24
def Vl.so : Vl → Bool
  | .n i => !decide (i = 0)
  | .t z => !decide (z = ("" : Str))
def cut12 (a b : Str) : Str := cutS (a ++ b) none (some 12)
def subT (a b : Str) : Str := ⟨(a.cps.toList.filter fun c => !decide (c ∈ b.cps.toList)).toArray⟩
def b2n (b : Bool) : Int := if b then 1 else 0
/-- what a sign makes -/
def wk : Sg → Vl → Vl → Option Vl
  | .same, x, y => some (.n (b2n (decide (x = y))))
  | .add, .n i, .n j => some (.n ((i + j) % 10007))
  | .sub, .n i, .n j => some (.n ((i - j) % 10007))
  | .less, .n i, .n j => some (.n (b2n (decide (i < j))))
  | .add, .t a, .t b => some (.t (cut12 a b))
  | .sub, .t a, .t b => some (.t (subT a b))
  | .less, .t a, .t b => some (.n (b2n (decide (a.cps.toList < b.cps.toList))))
  | _, _, _ => none
def ov : Option Vl → V
  | none => .non
  | some x => x.v
/-! ### promises -/
def sp_L_take : Sp := fun vs H Q _ => ∃ (b l : Addr) (m : Int), vs = [.ref b, .int m] ∧ BoxAt H b l ∧ 0 < m ∧ m < 1073741824 ∧ ∀ r H', 0 ≤ r → r < m → BoxAt H' b l → Fr [b, l] H H' → Q (.int r) H'
theorem len_L_take (vs : List V) (H : Hp) (Q : VK) (E : XK) (h : sp_L_take vs H Q E) : vs.length = 2 := by
  obtain ⟨_, _, _, rfl, _⟩ := h
  rfl
def sp_L_script (K : PySem.W.Frag) : Sp := fun vs H Q _ => ∃ (a : Addr) (ns : List Int), vs = [.ref a] ∧ SqL K H a (ns.map V.int) ∧ ns.length ≤ 63 ∧ ∀ b l H', BoxAt H' b l → Fr [] H H' → Q (.ref b) H'
theorem len_L_script {K : PySem.W.Frag} (vs : List V) (H : Hp) (Q : VK) (E : XK) (h : sp_L_script K vs H Q E) : vs.length = 1 := by
  obtain ⟨_, _, rfl, _⟩ := h
  rfl
def sp_L_text : Sp := fun vs H Q _ => ∃ (b l : Addr), vs = [.ref b] ∧ BoxAt H b l ∧ ∀ z H', Txt12 z → BoxAt H' b l → Fr [b, l] H H' → Q (.str z) H'
theorem len_L_text (vs : List V) (H : Hp) (Q : VK) (E : XK) (h : sp_L_text vs H Q E) : vs.length = 1 := by
  obtain ⟨_, _, rfl, _⟩ := h
  rfl
def sp_L_value : Sp := fun vs H Q _ => ∃ (b l : Addr), vs = [.ref b] ∧ BoxAt H b l ∧ ∀ (x : Vl) H', x.ok → BoxAt H' b l → Fr [b, l] H H' → Q x.v H'
theorem len_L_value (vs : List V) (H : Hp) (Q : VK) (E : XK) (h : sp_L_value vs H Q E) : vs.length = 1 := by
  obtain ⟨_, _, rfl, _⟩ := h
  rfl
def sp_kind_of : Sp := fun vs H Q _ => ∃ x : Vl, vs = [x.v] ∧ Q (.str x.kd) H
theorem len_kind_of (vs : List V) (H : Hp) (Q : VK) (E : XK) (h : sp_kind_of vs H Q E) : vs.length = 1 := by
  obtain ⟨_, rfl, _⟩ := h
  rfl
def sp_is_so : Sp := fun vs H Q _ => ∃ x : Vl, vs = [x.v] ∧ ∀ H', Fr [] H H' → Q (.bl x.so) H'
theorem len_is_so (vs : List V) (H : Hp) (Q : VK) (E : XK) (h : sp_is_so vs H Q E) : vs.length = 1 := by
  obtain ⟨_, rfl, _⟩ := h
  rfl
abbrev sp_L_is_so : Sp := sp_is_so
theorem len_L_is_so (vs : List V) (H : Hp) (Q : VK) (E : XK) (h : sp_L_is_so vs H Q E) : vs.length = 1 := len_is_so vs H Q E h
def sp_worked : Sp := fun vs H Q _ => ∃ (s : Sg) (x y : Vl), vs = [.str s.s, x.v, y.v] ∧ x.ok ∧ y.ok ∧ ∀ H', Fr [] H H' → Q (ov (wk s x y)) H'
theorem len_worked (vs : List V) (H : Hp) (Q : VK) (E : XK) (h : sp_worked vs H Q E) : vs.length = 3 := by
  obtain ⟨_, _, _, rfl, _⟩ := h
  rfl
abbrev sp_L_worked : Sp := sp_worked
theorem len_L_worked (vs : List V) (H : Hp) (Q : VK) (E : XK) (h : sp_L_worked vs H Q E) : vs.length = 3 := len_worked vs H Q E h
def sp_of_numbers : Sp := fun vs H Q _ => ∃ (s : Sg) (i j : Int), vs = [.str s.s, .int i, .int j] ∧ s ≠ .same ∧ Q (ov (wk s (.n i) (.n j))) H
theorem len_of_numbers (vs : List V) (H : Hp) (Q : VK) (E : XK) (h : sp_of_numbers vs H Q E) : vs.length = 3 := by
  obtain ⟨_, _, _, rfl, _⟩ := h
  rfl
def sp_of_texts : Sp := fun vs H Q _ => ∃ (s : Sg) (a b : Str), vs = [.str s.s, .str a, .str b] ∧ s ≠ .same ∧ Txt12 a ∧ Txt12 b ∧ ∀ H', Fr [] H H' → Q (ov (wk s (.t a) (.t b))) H'
theorem len_of_texts (vs : List V) (H : Hp) (Q : VK) (E : XK) (h : sp_of_texts vs H Q E) : vs.length = 3 := by
  obtain ⟨_, _, _, rfl, _⟩ := h
  rfl
abbrev sp_L_of_texts : Sp := sp_of_texts
theorem len_L_of_texts (vs : List V) (H : Hp) (Q : VK) (E : XK) (h : sp_L_of_texts vs H Q E) : vs.length = 3 := len_of_texts vs H Q E h
/-- both tell the same data -/
def sp_L_alike (n : Nat) : Sp := fun vs H Q _ => ∃ (x y : V) (d : PyData), vs = [x, y] ∧ Rp H x d ∧ Rp H y d ∧ d.depth < n ∧ Q (.bl true) H
theorem len_L_alike {n : Nat} (vs : List V) (H : Hp) (Q : VK) (E : XK) (h : sp_L_alike n vs H Q E) : vs.length = 2 := by
  obtain ⟨_, _, _, rfl, _⟩ := h
  rfl
theorem no_L_alike (vs : List V) (H : Hp) (Q : VK) (E : XK) : ¬ sp_L_alike 0 vs H Q E := fun ⟨_, _, _, _, _, _, h, _⟩ => absurd h (Nat.not_lt_zero _)

/-! ### data that never changes -/
mutual
def Tp (H : Hp) : PyData → V → Prop
  | .none, v => v = .non
  | .bool b, v => v = .bl b
  | .int i, v => v = .int i
  | .str x, v => v = .str x
  | .tuple ds, v => ∃ a xs, v = .ref a ∧ H a = some (.tup xs) ∧ TpL H ds xs
  | .list _, _ => False
  | .dict _, _ => False
def TpL (H : Hp) : List PyData → List V → Prop
  | [], xs => xs = []
  | d :: ds, xs => ∃ v r, xs = v :: r ∧ Tp H d v ∧ TpL H ds r
end
def Tups (H H' : Hp) : Prop := ∀ b xs, H b = some (.tup xs) → H' b = some (.tup xs)
mutual
theorem Tp.tups {H H' : Hp} (t : Tups H H') : ∀ {d : PyData} {v : V}, Tp H d v → Tp H' d v
  | .none, _, h => by simpa only [Tp] using h
  | .bool _, _, h => by simpa only [Tp] using h
  | .int _, _, h => by simpa only [Tp] using h
  | .str _, _, h => by simpa only [Tp] using h
  | .tuple ds, v, h => by
    simp only [Tp] at h ⊢
    obtain ⟨a, xs, e, ha, hx⟩ := h
    exact ⟨a, xs, e, t _ _ ha, TpL.tups t hx⟩
  | .list _, _, h => by simp only [Tp] at h
  | .dict _, _, h => by simp only [Tp] at h
theorem TpL.tups {H H' : Hp} (t : Tups H H') : ∀ {ds : List PyData} {xs : List V}, TpL H ds xs → TpL H' ds xs
  | [], _, h => by simpa only [TpL] using h
  | d :: ds, xs, h => by
    simp only [TpL] at h ⊢
    obtain ⟨v, r, e, h1, h2⟩ := h
    exact ⟨v, r, e, Tp.tups t h1, TpL.tups t h2⟩
end
section
variable {H H' : Hp} {S : List Addr} {d : PyData} {v : V} {ds es : List PyData} {xs ys : List V} {p : Addr} {o : HO}
theorem Fr.tu (f : Fr S H H') : Tups H H' := f.tups
theorem Al.tu (a : Al H p o H') : Tups H H' := fun _ _ h => a.k h
theorem Mu.tu (a : Mu H p o H') : Tups H H' := (a.fr (S := [p]) (by simp)).tups
theorem Tups.refl (H : Hp) : Tups H H := fun _ _ h => h
theorem Tups.trans {H1 : Hp} (a : Tups H H1) (b : Tups H1 H') : Tups H H' := fun _ _ h => b _ _ (a _ _ h)
theorem tpl_nil : TpL H [] xs = (xs = []) := by simp only [TpL]
theorem tpl_cons : TpL H (d :: ds) xs = ∃ v r, xs = v :: r ∧ Tp H d v ∧ TpL H ds r := by simp only [TpL]
theorem tp_tup : Tp H (.tuple ds) v = ∃ a xs, v = .ref a ∧ H a = some (.tup xs) ∧ TpL H ds xs := by simp only [Tp]
theorem tp_int {i : Int} : Tp H (.int i) v = (v = .int i) := by simp only [Tp]
theorem tp_str {i : Str} : Tp H (.str i) v = (v = .str i) := by simp only [Tp]
theorem tp_non : Tp H .none v = (v = .non) := by simp only [Tp]
theorem tp_bl {i : Bool} : Tp H (.bool i) v = (v = .bl i) := by simp only [Tp]
theorem Tp.int (i : Int) : Tp H (.int i) (.int i) := by simp only [Tp]
theorem Tp.str (i : Str) : Tp H (.str i) (.str i) := by simp only [Tp]
theorem Tp.tup {a : Addr} (h : H a = some (.tup xs)) (hx : TpL H ds xs) : Tp H (.tuple ds) (.ref a) := by rw [tp_tup]; exact ⟨a, xs, rfl, h, hx⟩
theorem TpL.nil : TpL H [] [] := by simp only [TpL]
theorem TpL.cons (h : Tp H d v) (hr : TpL H ds xs) : TpL H (d :: ds) (v :: xs) := by rw [tpl_cons]; exact ⟨v, xs, rfl, h, hr⟩
theorem TpL.length : ∀ {ds : List PyData} {xs : List V}, TpL H ds xs → xs.length = ds.length
  | [], _, h => by rw [tpl_nil] at h; rw [h]; rfl
  | _ :: _, _, h => by
    rw [tpl_cons] at h
    obtain ⟨v, r, rfl, _, h⟩ := h
    rw [List.length_cons, List.length_cons, h.length]
theorem TpL.append : ∀ {ds : List PyData} {xs : List V}, TpL H ds xs → TpL H es ys → TpL H (ds ++ es) (xs ++ ys)
  | [], _, h, h' => by rw [tpl_nil] at h; rw [h]; exact h'
  | _ :: _, _, h, h' => by
    rw [tpl_cons] at h
    obtain ⟨v, r, rfl, h1, h⟩ := h
    exact .cons h1 (h.append h')
theorem TpL.get : ∀ {ds : List PyData} {xs : List V} {i : Nat} {d : PyData}, TpL H ds xs → ds[i]? = some d → ∃ v, xs[i]? = some v ∧ Tp H d v
  | [], _, _, _, _, e => by simp at e
  | _ :: _, _, 0, _, h, e => by
    rw [tpl_cons] at h
    obtain ⟨v, r, rfl, h1, h⟩ := h
    cases e
    exact ⟨v, rfl, h1⟩
  | _ :: _, _, i + 1, d, h, e => by
    rw [tpl_cons] at h
    obtain ⟨v, r, rfl, h1, h⟩ := h
    exact h.get (i := i) (d := d) e
theorem TpL.get' : ∀ {ds : List PyData} {xs : List V} {i : Nat} {v : V}, TpL H ds xs → xs[i]? = some v → ∃ d, ds[i]? = some d ∧ Tp H d v
  | [], _, _, _, h, e => by rw [tpl_nil] at h; subst h; simp at e
  | _ :: _, _, 0, _, h, e => by
    rw [tpl_cons] at h
    obtain ⟨v, r, rfl, h1, h⟩ := h
    cases e
    exact ⟨_, rfl, h1⟩
  | _ :: _, _, i + 1, d, h, e => by
    rw [tpl_cons] at h
    obtain ⟨v, r, rfl, h1, h⟩ := h
    exact h.get' (i := i) e
theorem TpL.set : ∀ {ds : List PyData} {xs : List V} (i : Nat), TpL H ds xs → Tp H d v → TpL H (ds.set i d) (xs.set i v)
  | [], _, _, h, _ => by rw [tpl_nil] at h; subst h; exact .nil
  | _ :: _, _, 0, h, h' => by
    rw [tpl_cons] at h
    obtain ⟨v, r, rfl, h1, h⟩ := h
    exact .cons h' h
  | _ :: _, _, i + 1, h, h' => by
    rw [tpl_cons] at h
    obtain ⟨v, r, rfl, h1, h⟩ := h
    exact .cons h1 (h.set i h')
theorem TpL.take : ∀ {ds : List PyData} {xs : List V} (i : Nat), TpL H ds xs → TpL H (ds.take i) (xs.take i)
  | [], _, _, h => by rw [tpl_nil] at h; subst h; simp only [List.take_nil]; exact .nil
  | _ :: _, _, 0, h => .nil
  | _ :: _, _, i + 1, h => by
    rw [tpl_cons] at h
    obtain ⟨v, r, rfl, h1, h⟩ := h
    exact .cons h1 (h.take i)
theorem TpL.drop : ∀ {ds : List PyData} {xs : List V} (i : Nat), TpL H ds xs → TpL H (ds.drop i) (xs.drop i)
  | [], _, _, h => by rw [tpl_nil] at h; subst h; simp only [List.drop_nil]; exact .nil
  | _ :: _, _, 0, h => h
  | _ :: _, _, i + 1, h => by
    rw [tpl_cons] at h
    obtain ⟨v, r, rfl, h1, h⟩ := h
    exact h.drop i
theorem TpL.single (h : Tp H d v) : TpL H [d] [v] := .cons h .nil
theorem TpL.snoc (h : TpL H ds xs) (h' : Tp H d v) : TpL H (ds ++ [d]) (xs ++ [v]) := h.append (.single h')
end
mutual
theorem Tp.rp {H : Hp} : ∀ {d : PyData} {v : V}, Tp H d v → Rp H v d
  | .none, _, h => by rw [tp_non] at h; subst h; exact .non
  | .bool _, _, h => by rw [tp_bl] at h; subst h; exact .bl _
  | .int _, _, h => by rw [tp_int] at h; subst h; exact .int _
  | .str _, _, h => by rw [tp_str] at h; subst h; exact .str _
  | .tuple ds, v, h => by
    rw [tp_tup] at h
    obtain ⟨a, xs, rfl, ha, hx⟩ := h
    exact .tup ha (TpL.rp hx)
  | .list _, _, h => by simp only [Tp] at h
  | .dict _, _, h => by simp only [Tp] at h
theorem TpL.rp {H : Hp} : ∀ {ds : List PyData} {xs : List V}, TpL H ds xs → RpAll H xs ds
  | [], _, h => by rw [tpl_nil] at h; subst h; exact .nil
  | d :: ds, xs, h => by
    rw [tpl_cons] at h
    obtain ⟨v, r, rfl, h1, h2⟩ := h
    exact .cons (Tp.rp h1) (TpL.rp h2)
end

/-! ### programs -/
def Nm8 (x : Str) : Prop := ∃ i, i < 8 ∧ x = ⟨#[97 + i]⟩
inductive Ex where
  | num (n : Int) | text (z : Str) | name (x : Str) | op (s : Sg) (a b : Ex)
def Ex.d : Ex → PyData
  | .num n => .tuple [.str (wd 0), .int n]
  | .text z => .tuple [.str (wd 1), .str z]
  | .name x => .tuple [.str (wd 2), .str x]
  | .op s a b => .tuple [.str s.s, a.d, b.d]
def Ex.ok : Ex → Prop
  | .num n => 0 ≤ n ∧ n < 10000
  | .text z => Txt12 z
  | .name x => Nm8 x
  | .op _ a b => a.ok ∧ b.ok
def Ex.dep : Ex → Nat
  | .op _ a b => 1 + max a.dep b.dep
  | _ => 1
inductive Rw where
  | num (n : Int) | text (z : Str) | name (x : Str) | op (s : Sg) | say | set (x : Str) | unless (q : Nat) | go (z : Nat) | top | fin
def Rw.d : Rw → PyData
  | .num n => .tuple [.str (wd 0), .int n]
  | .text z => .tuple [.str (wd 1), .str z]
  | .name x => .tuple [.str (wd 2), .str x]
  | .op s => .tuple [.str s.s]
  | .say => .tuple [.str (wd 7)]
  | .set x => .tuple [.str (wd 8), .str x]
  | .unless q => .tuple [.str (wd 9), .int (q : Nat)]
  | .go z => .tuple [.str (wd 10), .int (z : Nat)]
  | .top => .tuple [.str (wd 11)]
  | .fin => .tuple [.str (wd 12)]
def Ex.code : Ex → List Rw
  | .num n => [.num n]
  | .text z => [.text z]
  | .name x => [.name x]
  | .op s a b => a.code ++ b.code ++ [.op s]
inductive Sm where
  | say (e : Ex) | set (x : Str) (e : Ex) | ite (e : Ex) (s t : List Sm) | whl (e : Ex) (s : List Sm)
mutual
def Sm.d : Sm → PyData
  | .say e => .tuple [.str (wd 7), e.d]
  | .set x e => .tuple [.str (wd 8), .str x, e.d]
  | .ite e s t => .tuple [.str (wd 14), e.d, .tuple [.str (wd 13), .tuple (dL s)], .tuple [.str (wd 13), .tuple (dL t)]]
  | .whl e s => .tuple [.str (wd 15), e.d, .tuple [.str (wd 13), .tuple (dL s)]]
def dL : List Sm → List PyData
  | [] => []
  | a :: r => a.d :: dL r
end
def rowD (l : List Sm) : PyData := .tuple [.str (wd 13), .tuple (dL l)]
mutual
/-- its expressions are at most m deep -/
def Sm.ok (m : Nat) : Sm → Prop
  | .say e => e.ok ∧ e.dep ≤ m
  | .set x e => Nm8 x ∧ e.ok ∧ e.dep ≤ m
  | .ite e s t => (e.ok ∧ e.dep ≤ m) ∧ okL m s ∧ okL m t
  | .whl e s => (e.ok ∧ e.dep ≤ m) ∧ okL m s
def okL (m : Nat) : List Sm → Prop
  | [] => True
  | a :: r => a.ok m ∧ okL m r
end
mutual
/-- how many calls deep a walk goes -/
def Sm.dp : Sm → Nat
  | .say _ => 1
  | .set _ _ => 1
  | .ite _ s t => 1 + max (dpL s) (dpL t)
  | .whl _ s => 1 + dpL s
def dpL : List Sm → Nat
  | [] => 1
  | a :: r => max (1 + a.dp) (dpL r)
end
mutual
/-- how many statements -/
def Sm.cnt : Sm → Nat
  | .say _ => 1
  | .set _ _ => 1
  | .ite _ s t => 1 + cntL s + cntL t
  | .whl _ s => 1 + cntL s
def cntL : List Sm → Nat
  | [] => 0
  | a :: r => a.cnt + cntL r
end
mutual
def Sm.code : Sm → Nat → List Rw
  | .say e, _ => e.code ++ [.say]
  | .set x e, _ => e.code ++ [.set x]
  | .ite e s t, b => e.code ++ [.unless (b + e.code.length + (codeL s (b + e.code.length + 1)).length + 2)] ++ codeL s (b + e.code.length + 1) ++
      [.go (b + e.code.length + (codeL s (b + e.code.length + 1)).length + 2 + (codeL t (b + e.code.length + (codeL s (b + e.code.length + 1)).length + 2)).length)] ++
      codeL t (b + e.code.length + (codeL s (b + e.code.length + 1)).length + 2)
  | .whl e s, b => [.top] ++ e.code ++ [.unless (b + e.code.length + (codeL s (b + e.code.length + 2)).length + 3)] ++ codeL s (b + e.code.length + 2) ++ [.go b]
def codeL : List Sm → Nat → List Rw
  | [], _ => []
  | a :: r, b => a.code b ++ codeL r (b + (a.code b).length)
end
/-- a statement, or a row of them -/
inductive Un where
  | row (l : List Sm) | st (s : Sm)
def Un.d : Un → PyData
  | .row l => rowD l
  | .st s => s.d
def Un.dp : Un → Nat
  | .row l => dpL l
  | .st s => s.dp
def Un.ok (m : Nat) : Un → Prop
  | .row l => okL m l
  | .st s => s.ok m
def Un.cnt : Un → Nat
  | .row l => cntL l
  | .st s => s.cnt
def Un.code : Un → Nat → List Rw
  | .row l, b => codeL l b
  | .st s, b => s.code b
/-! sizes -/
theorem Ex.pos (e : Ex) : 0 < e.code.length := by
  cases e <;> simp only [Ex.code, List.length_append, List.length_cons, List.length_nil] <;> omega
theorem Ex.len2 : ∀ e : Ex, e.code.length + 1 ≤ 2 ^ e.dep
  | .num _ => by simp [Ex.code, Ex.dep]
  | .text _ => by simp [Ex.code, Ex.dep]
  | .name _ => by simp [Ex.code, Ex.dep]
  | .op s a b => by
    have h1 := Ex.len2 a
    have h2 := Ex.len2 b
    have h3 : 2 ^ a.dep ≤ 2 ^ max a.dep b.dep := Nat.pow_le_pow_right (by decide) (Nat.le_max_left ..)
    have h4 : 2 ^ b.dep ≤ 2 ^ max a.dep b.dep := Nat.pow_le_pow_right (by decide) (Nat.le_max_right ..)
    have h5 : 2 ^ (1 + max a.dep b.dep) = 2 * 2 ^ max a.dep b.dep := by rw [Nat.add_comm, Nat.pow_succ]; omega
    simp only [Ex.code, Ex.dep, List.length_append, List.length_cons, List.length_nil]
    omega
theorem Ex.lenM {e : Ex} {m : Nat} (h : e.dep ≤ m) : e.code.length ≤ 2 ^ m := by
  have h1 := e.len2
  have h2 : 2 ^ e.dep ≤ 2 ^ m := Nat.pow_le_pow_right (by decide) h
  omega
mutual
theorem Sm.len_le {m : Nat} : ∀ (s : Sm) (b : Nat), s.ok m → (s.code b).length ≤ (2 ^ m + 3) * s.cnt
  | .say e, b, h => by
    have := Ex.lenM h.2
    simp only [Sm.code, Sm.cnt, List.length_append, List.length_cons, List.length_nil]
    omega
  | .set x e, b, h => by
    have := Ex.lenM h.2.2
    simp only [Sm.code, Sm.cnt, List.length_append, List.length_cons, List.length_nil]
    omega
  | .ite e s t, b, h => by
    have h0 := Ex.lenM h.1.2
    have h1 := len_leL s (b + e.code.length + 1) h.2.1
    have h2 := len_leL t (b + e.code.length + (codeL s (b + e.code.length + 1)).length + 2) h.2.2
    simp only [Sm.code, Sm.cnt, List.length_append, List.length_cons, List.length_nil]
    rw [Nat.mul_add, Nat.mul_add, Nat.mul_one]
    omega
  | .whl e s, b, h => by
    have h0 := Ex.lenM h.1.2
    have h1 := len_leL s (b + e.code.length + 2) h.2
    simp only [Sm.code, Sm.cnt, List.length_append, List.length_cons, List.length_nil]
    rw [Nat.mul_add, Nat.mul_one]
    omega
theorem len_leL {m : Nat} : ∀ (l : List Sm) (b : Nat), okL m l → (codeL l b).length ≤ (2 ^ m + 3) * cntL l
  | [], b, _ => by simp [codeL, cntL]
  | a :: r, b, h => by
    have h1 := Sm.len_le a b h.1
    have h2 := len_leL r (b + (a.code b).length) h.2
    simp only [codeL, cntL, List.length_append]
    rw [Nat.mul_add]
    omega
end
theorem Un.len_le {m : Nat} (o : Un) (b : Nat) (h : o.ok m) : (o.code b).length ≤ (2 ^ m + 3) * o.cnt := by
  cases o with
  | row l => exact len_leL l b h
  | st s => exact s.len_le b h
theorem dL_map : ∀ l : List Sm, dL l = l.map Sm.d
  | [] => by simp [dL]
  | a :: r => by simp [dL, dL_map r]
theorem codeL_append : ∀ (l k : List Sm) (b : Nat), codeL (l ++ k) b = codeL l b ++ codeL k (b + (codeL l b).length)
  | [], k, b => by simp [codeL]
  | a :: r, k, b => by simp [codeL, codeL_append r k, Nat.add_assoc]
theorem okL_mem {m : Nat} : ∀ {l : List Sm} {s : Sm}, okL m l → s ∈ l → s.ok m
  | _ :: _, _, h, .head _ => h.1
  | _ :: _, _, h, .tail _ h' => okL_mem h.2 h'
theorem dpL_mem : ∀ {l : List Sm} {s : Sm}, s ∈ l → s.dp < dpL l
  | a :: r, _, .head _ => by simp only [dpL]; omega
  | a :: r, _, .tail _ h' => by have := dpL_mem h'; simp only [dpL]; omega
theorem cntL_append : ∀ (l k : List Sm), cntL (l ++ k) = cntL l + cntL k
  | [], k => by simp [cntL]
  | a :: r, k => by simp [cntL, cntL_append r k]; omega
theorem cntL_take : ∀ (l : List Sm) (i : Nat), cntL (l.take i) ≤ cntL l
  | [], i => by simp
  | a :: r, 0 => by simp [cntL]
  | a :: r, i + 1 => by have := cntL_take r i; simp only [List.take_succ_cons, cntL]; omega
theorem okL_take {m : Nat} : ∀ (l : List Sm) (i : Nat), okL m l → okL m (l.take i)
  | [], i, _ => by simp [okL]
  | a :: r, 0, _ => by simp [okL]
  | a :: r, i + 1, h => ⟨h.1, okL_take r i h.2⟩
theorem okL_append {m : Nat} : ∀ {l k : List Sm}, okL m l → okL m k → okL m (l ++ k)
  | [], _, _, h => h
  | _ :: _, _, h, h' => ⟨h.1, okL_append h.2 h'⟩

/-! classes and dicts in the layer's words -/
/-- the classes' addresses -/
structure CA where
  coder : Addr
  state : Addr
  notes : Addr
  maker : Addr
  slots : Addr
  machine : Addr
  words : Addr
  reader : Addr
  hunch : Addr
  unread : Addr
  notop : Addr
section
variable (P : Program) (w : World) (K : PySem.W.Frag) (mg : Str → Option Value) (base : Heap)
/-- the method m of the class at C keeps sp -/
def OkM (k : Nat) (C : Addr) (m : Str) (ps : List Str) (sp : Sp) : Prop := ∃ f fd, FnOk P w K mg base CX0 k f fd ps sp ∧ Meth K C m f ∧ Binds K fd ps []
/-- the class at C is made by an __init__ that keeps sp -/
def OkI (k : Nat) (C : Addr) (ps : List Str) (sp : Sp) : Prop := ∃ f fd, FnOk P w K mg base CX0 k f fd ps sp ∧ Mk K C f ∧ Binds K fd ps []
def MethAt (C : Addr) (m qual : Str) (st : Stmt) : Prop := ∃ f fd, FunD K m qual (defArgs st) (defBody st) (defScope st) [] [] f fd ∧ Meth K C m f
def InitAt (C : Addr) (qual : Str) (st : Stmt) : Prop := ∃ f fd, FunD K "__init__" qual (defArgs st) (defBody st) (defScope st) [] [] f fd ∧ Mk K C f
end
section
variable {P : Program} {w : World} {K : PySem.W.Frag} {mg : Str → Option Value} {base : Heap} {C : Addr}
theorem OkM.mono {j k : Nat} {m : Str} {ps : List Str} {sp : Sp} (F : OkM P w K mg base j C m ps sp) (h : j ≤ k) : OkM P w K mg base k C m ps sp := by
  obtain ⟨f, fd, F, a, b⟩ := F
  exact ⟨f, fd, F.mono h, a, b⟩
theorem OkI.mono {j k : Nat} {ps : List Str} {sp : Sp} (F : OkI P w K mg base j C ps sp) (h : j ≤ k) : OkI P w K mg base k C ps sp := by
  obtain ⟨f, fd, F, a, b⟩ := F
  exact ⟨f, fd, F.mono h, a, b⟩
theorem MethAt.ok {m qual : Str} {st : Stmt} {N ps : List Str} {k : Nat} {sp : Sp} (D : MethAt K C m qual st) (S : FnScope N ps (defScope st))
    (hb : ∀ (kV doc pm : Value) (an : Option Addr) (cdv ct : Value) (us : List Value), us.length = ps.length → bindArgs (PySem.W.fnOf m qual (defArgs st) (defBody st) (defScope st) .none kV doc pm an cdv ct) ⟨us, []⟩ = pure (ps.zip us))
    (len : ∀ vs H Q E, sp vs H Q E → vs.length = ps.length)
    (hbody : ∀ (f : Addr) (cdv : Value) (A : Around) (outer : List Env) (s : Shared) (H : Hp) (vs : List V) (Q : VK) (E : XK), Room k (A.deeper (envOfC qual (defScope st) s.heap.objs.size f cdv)) → sp vs H Q E →
      ∃ t, PSs (cxOf CX0 P w K mg base N qual (defScope st) f cdv A outer s H E).nox (defBody st) t ∧ (HSz H → t { nx := fun _ H' => Q .non H', rt := Q } (start N vs) H)) : OkM P w K mg base (k + 1) C m ps sp := by
  obtain ⟨f, fd, F, hm⟩ := D
  refine ⟨f, fd, F.ok S len fun cdv A outer s H vs Q E hr h => ?_, hm, F.bindsN hb⟩
  obtain ⟨t, h1, h2⟩ := hbody f cdv A outer s H vs Q E hr h
  exact ⟨_, (pssSz h1).nox, h2⟩
theorem MethAt.none {m qual : Str} {st : Stmt} {ps : List Str} {sp : Sp} (D : MethAt K C m qual st)
    (hb : ∀ (kV doc pm : Value) (an : Option Addr) (cdv ct : Value) (us : List Value), us.length = ps.length → bindArgs (PySem.W.fnOf m qual (defArgs st) (defBody st) (defScope st) .none kV doc pm an cdv ct) ⟨us, []⟩ = pure (ps.zip us))
    (no : ∀ vs H Q E, ¬ sp vs H Q E) : OkM P w K mg base 0 C m ps sp := by
  obtain ⟨f, fd, F, hm⟩ := D
  exact ⟨f, fd, ⟨fun vs H Q E h => absurd h (no vs H Q E), fun A outer s H args us vs Q E _ _ _ _ h => absurd h (no vs H Q E)⟩, hm, F.bindsN hb⟩
theorem InitAt.ok {qual : Str} {st : Stmt} {N ps : List Str} {k : Nat} {sp : Sp} (D : InitAt K C qual st) (S : FnScope N ps (defScope st))
    (hb : ∀ (kV doc pm : Value) (an : Option Addr) (cdv ct : Value) (us : List Value), us.length = ps.length → bindArgs (PySem.W.fnOf "__init__" qual (defArgs st) (defBody st) (defScope st) .none kV doc pm an cdv ct) ⟨us, []⟩ = pure (ps.zip us))
    (len : ∀ vs H Q E, sp vs H Q E → vs.length = ps.length)
    (hbody : ∀ (f : Addr) (cdv : Value) (A : Around) (outer : List Env) (s : Shared) (H : Hp) (vs : List V) (Q : VK) (E : XK), Room k (A.deeper (envOfC qual (defScope st) s.heap.objs.size f cdv)) → sp vs H Q E →
      ∃ t, PSs (cxOf CX0 P w K mg base N qual (defScope st) f cdv A outer s H E).nox (defBody st) t ∧ (HSz H → t { nx := fun _ H' => Q .non H', rt := Q } (start N vs) H)) : OkI P w K mg base (k + 1) C ps sp := by
  obtain ⟨f, fd, F, hm⟩ := D
  refine ⟨f, fd, F.ok S len fun cdv A outer s H vs Q E hr h => ?_, hm, F.bindsN hb⟩
  obtain ⟨t, h1, h2⟩ := hbody f cdv A outer s H vs Q E hr h
  exact ⟨_, (pssSz h1).nox, h2⟩
end

/-! ### fields, methods, new objects -/
def xFld (C : Addr) (ta : TE) (f : Str) : TE := fun σ H Q => ta σ H fun x H1 => ∃ a dx fs v, x = .ref a ∧ H1 a = some (.ins C dx fs) ∧ fs.lookup f = some v ∧ Q v H1
def xSet (C : Addr) (ta tv : TE) (f : Str) : TS := fun D σ H => tv σ H fun y H1 => ta σ H1 fun x H2 => ∃ a dx fs, x = .ref a ∧ H2 a = some (.ins C dx fs) ∧ fs.length < 1000 ∧ ∀ H', Mu H2 a (.ins C dx (putF f y fs)) H' → D.nx σ H'
def xMeth (C : Addr) (m : Str) (sp : Sp) (ta : TE) (t : TA) : TE := fun σ H Q => ta σ H fun x H1 => ∃ a dx fs, x = .ref a ∧ H1 a = some (.ins C dx fs) ∧ fs.lookup m = none ∧ t σ H1 fun vs H2 => sp (x :: vs) H2 Q E0
def xMake (C : Addr) (sp : Sp) (t : TA) : TE := fun σ H Q => t σ H fun vs H1 => ∀ x dx H2, Al H1 x (.ins C dx []) H2 → sp (.ref x :: vs) H2 (fun v H3 => v = .non ∧ Q (.ref x) H3) E0
section
variable {X : Cx} {C : Addr} {o e value : Expr} {es : List Expr} {f m x : Str} {pos pos' apos p : Pos} {ta tv : TE} {t : TA} {k : Nat} {ps : List Str} {sp : Sp}
theorem pe_fldC (cl : Cls X.K C) (na : NoAttr X.K C f) (he : PE X e ta) (hb : attributeBase e f X.env (eval e X.env) = eval e X.env := by rfl) : PE X (.Attribute e f pos) (xFld C ta f) := by
  refine peM (pe_fld (mo he) hb) ?_
  intro σ H Q h
  refine ⟨_, h, ?_⟩
  rintro x H1 ⟨a, dx, fs, v, e1, h1, l, q⟩
  exact ⟨a, C, dx, fs, v, e1, h1, cl, na, l, q⟩
theorem ps_fldC (cl : Cls X.K C) (na : NoAttr X.K C f) (ha : PE X o ta) (hv : PE X value tv) (hs : swapsWith value (some (.Attribute o f pos')) pos.line X.env = pure false := by rfl) : PS X (.Assign [.Attribute o f pos'] value pos) (xSet C ta tv f) := by
  refine psM (ps_fld (mo ha) (mo hv) hs) ?_
  intro D σ H h
  refine ⟨_, h, ?_⟩
  intro y H1 h
  refine ⟨_, h, ?_⟩
  rintro x H2 ⟨a, dx, fs, e1, h1, l, q⟩
  exact ⟨a, C, dx, fs, e1, h1, cl, na, l, q _ (.of h1 fun _ z => by cases z)⟩
theorem pe_methC {pl : Sem Bool} (F : OkM X.prog X.w X.K X.mg X.base k C m ps sp) (hr : Room k X.A) (cl : Cls X.K C) (he : PE X o ta) (ha : PA X (e :: es) t)
    (hst : starEach (e :: es) X.env = (false, eval e X.env) :: starEach es X.env := by rfl) (hpl : (backTo pos (starEach es X.env)).any (·.1) = false := by rfl)
    (ht : eval (.Call (.Attribute o m apos) (e :: es) [] pos) X.env = (do
      let ov ← eval o X.env
      standAt apos.atName
      let (f, first) ← holding [ov] (getMethod ov m pl)
      callWith pos f first (backTo pos (starEach (e :: es) X.env)) (backToKw pos (keywordEach [] X.env))) := by rfl) :
    PE X (.Call (.Attribute o m apos) (e :: es) [] pos) (xMeth C m sp ta t) := by
  obtain ⟨f, fd, F, hm, b⟩ := F
  refine peM (pe_meth (mo he) cl hm F hr b .nil pass0 (moA ha) hst hpl ht) ?_
  intro σ H Q h
  refine ⟨_, h, ?_⟩
  rintro x H1 ⟨a, dx, fs, e1, h1, l, q⟩
  refine ⟨a, dx, fs, e1, h1, l, _, q, ?_⟩
  intro xs H2 h
  rw [List.append_nil]
  exact h
theorem pe_methC0 {pl : Sem Bool} (F : OkM X.prog X.w X.K X.mg X.base k C m ps sp) (hr : Room k X.A) (cl : Cls X.K C) (he : PE X o ta)
    (ht : eval (.Call (.Attribute o m apos) [] [] pos) X.env = (do
      let ov ← eval o X.env
      standAt apos.atName
      let (f, first) ← holding [ov] (getMethod ov m pl)
      callWith pos f first (backTo pos (starEach [] X.env)) (backToKw pos (keywordEach [] X.env))) := by rfl) :
    PE X (.Call (.Attribute o m apos) [] [] pos) (xMeth C m sp ta tNil) := by
  obtain ⟨f, fd, F, hm, b⟩ := F
  refine peM (pe_meth0 (mo he) cl hm F hr b .nil pass0 ht) ?_
  intro σ H Q h
  refine ⟨_, h, ?_⟩
  rintro x H1 ⟨a, dx, fs, e1, h1, l, q⟩
  exact ⟨a, dx, fs, e1, h1, l, q⟩
theorem al_made {H : Hp} {x dx : Addr} (hx : H x = none) (hd : H dx = none) (ne : dx ≠ x) : Al H x (.ins C dx []) (upd (upd H dx (.own x)) x (.ins C dx [])) :=
  ⟨hx, upd_same, fun {b u} e => by rw [upd_ne (ne_of_none e hx), upd_ne (ne_of_none e hd)]; exact e⟩
theorem pe_makeC (F : OkI X.prog X.w X.K X.mg X.base k C ps sp) (hr : Room (k + 1) X.A) (hg : Gl X x) (hm : X.mg x = some (.ref C)) (ha : PA X (e :: es) t) (hdb : (x == ("__debug__" : Str)) = false := by decide)
    (he : starEach (e :: es) X.env = (false, eval e X.env) :: starEach es X.env := by rfl) (hpl : (backTo pos (starEach es X.env)).any (·.1) = false := by rfl) :
    PE X (.Call (.Name x p) (e :: es) [] pos) (xMake C sp t) := by
  obtain ⟨f, fd, F, M, b⟩ := F
  refine peM (pe_make M F hr hg hm b .nil pass0 (moA ha) hdb he hpl) ?_
  intro σ H Q h
  refine ⟨_, h, ?_⟩
  intro xs H1 h a dx h1 h2 h3
  rw [List.append_nil]
  exact h a dx _ (al_made h1 h2 h3)
theorem pe_makeC0 (F : OkI X.prog X.w X.K X.mg X.base k C ps sp) (hr : Room (k + 1) X.A) (hg : Gl X x) (hm : X.mg x = some (.ref C)) (hdb : (x == ("__debug__" : Str)) = false := by decide) :
    PE X (.Call (.Name x p) [] [] pos) (xMake C sp tNil) := by
  obtain ⟨f, fd, F, M, b⟩ := F
  refine peM (pe_make0 M F hr hg hm b .nil pass0 hdb) ?_
  intro σ H Q h a dx h1 h2 h3
  exact h a dx _ (al_made h1 h2 h3)
end

/-! ### dicts -/
def rGetS : R2 := fun x y H Q => ∃ a kvs z v, x = .ref a ∧ y = .str z ∧ H a = some (.dK kvs) ∧ valV kvs (.inr z) = some v ∧ Q v H
def rGetI : R2 := fun x y H Q => ∃ a kvs z v, x = .ref a ∧ y = .int z ∧ H a = some (.dK kvs) ∧ valV kvs (.inl z) = some v ∧ Q v H
/-- k in d, k not in d -/
def rInDS (neg : Bool) : R2 := fun y x H Q => ∃ a kvs z, x = .ref a ∧ y = .str z ∧ H a = some (.dK kvs) ∧ Q (.bl (if neg then !(valV kvs (.inr z)).isSome else (valV kvs (.inr z)).isSome)) H
def rInDI (neg : Bool) : R2 := fun y x H Q => ∃ a kvs z, x = .ref a ∧ y = .int z ∧ H a = some (.dK kvs) ∧ Q (.bl (if neg then !(valV kvs (.inl z)).isSome else (valV kvs (.inl z)).isSome)) H
def xPutS (td ty tv : TE) : TS := fun D σ H => tv σ H fun v H1 => td σ H1 fun x H2 => ty σ H2 fun y H3 => ∃ a kvs z, x = .ref a ∧ y = .str z ∧ H3 a = some (.dK kvs) ∧ kvs.length < sizeLine ∧ ∀ H', Mu H3 a (.dK (putK kvs (.inr z) v)) H' → D.nx σ H'
def xPutI (td ty tv : TE) : TS := fun D σ H => tv σ H fun v H1 => td σ H1 fun x H2 => ty σ H2 fun y H3 => ∃ a kvs z, x = .ref a ∧ y = .int z ∧ H3 a = some (.dK kvs) ∧ kvs.length < sizeLine ∧ ∀ H', Mu H3 a (.dK (putK kvs (.inl z) v)) H' → D.nx σ H'
def xGet2S (td ty tx : TE) : TE := fun σ H Q => td σ H fun x H1 => ∃ a kvs0, x = .ref a ∧ H1 a = some (.dK kvs0) ∧ ty σ H1 fun y H2 => tx σ H2 fun d H3 => ∃ kvs z, y = .str z ∧ H3 a = some (.dK kvs) ∧ Q ((valV kvs (.inr z)).getD d) H3
def xGet2I (td ty tx : TE) : TE := fun σ H Q => td σ H fun x H1 => ∃ a kvs0, x = .ref a ∧ H1 a = some (.dK kvs0) ∧ ty σ H1 fun y H2 => tx σ H2 fun d H3 => ∃ kvs z, y = .int z ∧ H3 a = some (.dK kvs) ∧ Q ((valV kvs (.inl z)).getD d) H3
def xPopI (td ty : TE) : TE := fun σ H Q => td σ H fun x H1 => ∃ a kvs0, x = .ref a ∧ H1 a = some (.dK kvs0) ∧ ty σ H1 fun y H2 => ∃ kvs z v, y = .int z ∧ H2 a = some (.dK kvs) ∧ valV kvs (.inl z) = some v ∧ ∀ H', Mu H2 a (.dK (dropK kvs (.inl z))) H' → Q v H'
def rDctD : List V → Hp → VK → Prop := fun vs H Q => ∃ a kvs, vs = [.ref a] ∧ H a = some (.dK kvs) ∧ ∀ p H', Al H p (.dK kvs) H' → Q (.ref p) H'
def rLstD : List V → Hp → VK → Prop := fun vs H Q => ∃ a kvs, vs = [.ref a] ∧ H a = some (.dK kvs) ∧ ∀ p H', Al H p (.lst (kvs.map fun kv => kV kv.1)) H' → Q (.ref p) H'
def rSrtL : List V → Hp → VK → Prop := fun vs H Q => ∃ (a : Addr) (xs : List Str), vs = [V.ref a] ∧ H a = some (.lst (xs.map V.str)) ∧ xs.length < 64 ∧ ∀ (ys : List Str) (p : Addr) H', ys.Perm xs → sortedS ys = true → Al H p (.lst (ys.map V.str)) H' → Q (.ref p) H'
def rSrtD : List V → Hp → VK → Prop := fun vs H Q => ∃ (a : Addr) (kvs : List (Key × V)) (ks : List Str), vs = [V.ref a] ∧ H a = some (.dK kvs) ∧ kvs.map (·.1) = ks.map Sum.inr ∧ ks.length < 64 ∧ ∀ (ys : List Str) (p : Addr) H', ys.Perm ks → sortedS ys = true → Al H p (.lst (ys.map V.str)) H' → Q (.ref p) H'
section
variable {X : Cx} {o i e f value : Expr} {pos pos' apos cpos : Pos} {td ty tv tx : TE}
theorem opW {e : Expr} {r r' : R2} {ta tb : TE} (h : PE X e (tOp r (tMono ta) (tMono tb))) (m : ∀ x y H Q, r' x y H Q → r x y H Q) : PE X e (tOp r' ta tb) :=
  peM h fun σ H Q h => ⟨_, h, fun x H1 h => ⟨_, h, fun y H2 h => m x y H2 Q h⟩⟩
theorem pcW {op : CmpOp} {a b : Expr} {r r' : R2} {ta tb : TE} (h : PC X op a b (tOp r (tMono ta) (tMono tb))) (m : ∀ x y H Q, r' x y H Q → r x y H Q) : PC X op a b (tOp r' ta tb) :=
  ⟨fun pins s σ H Q I q => h.run pins s σ H Q I ⟨_, q, fun x H1 h => ⟨_, h, fun y H2 h => m x y H2 Q h⟩⟩⟩
theorem pe_getS (hu : X.A.units + 1 < cLine) (ho : PE X o td) (hi : PE X i ty) (hs : NoSl i) : PE X (.Subscript o i pos) (tOp rGetS td ty) :=
  opW (pe_dget hu (mo ho) (mo hi) hs) fun x y H Q ⟨a, kvs, z, v, e1, e2, h, g, q⟩ => ⟨a, v, e1, by subst e2; have := DGet.k (k := .inr z) h; rw [g] at this; exact this, q⟩
theorem pe_getI (hu : X.A.units + 1 < cLine) (ho : PE X o td) (hi : PE X i ty) (hs : NoSl i) : PE X (.Subscript o i pos) (tOp rGetI td ty) :=
  opW (pe_dget hu (mo ho) (mo hi) hs) fun x y H Q ⟨a, kvs, z, v, e1, e2, h, g, q⟩ => ⟨a, v, e1, by subst e2; have := DGet.k (k := .inl z) h; rw [g] at this; exact this, q⟩
theorem pc_inS (hu : X.A.units + 1 < cLine) (hi : PE X i ty) (ho : PE X o td) : PC X .In i o (tOp (rInDS false) ty td) :=
  pcW (pc_din hu (mo hi) (mo ho)) fun y x H Q ⟨a, kvs, z, e1, e2, h, q⟩ => ⟨a, _, e1, by subst e2; exact DGet.k (k := .inr z) h, q⟩
theorem pc_ninS (hu : X.A.units + 1 < cLine) (hi : PE X i ty) (ho : PE X o td) : PC X .NotIn i o (tOp (rInDS true) ty td) :=
  pcW (pc_dnotin hu (mo hi) (mo ho)) fun y x H Q ⟨a, kvs, z, e1, e2, h, q⟩ => ⟨a, _, e1, by subst e2; exact DGet.k (k := .inr z) h, q⟩
theorem pc_inI (hu : X.A.units + 1 < cLine) (hi : PE X i ty) (ho : PE X o td) : PC X .In i o (tOp (rInDI false) ty td) :=
  pcW (pc_din hu (mo hi) (mo ho)) fun y x H Q ⟨a, kvs, z, e1, e2, h, q⟩ => ⟨a, _, e1, by subst e2; exact DGet.k (k := .inl z) h, q⟩
theorem pc_ninI (hu : X.A.units + 1 < cLine) (hi : PE X i ty) (ho : PE X o td) : PC X .NotIn i o (tOp (rInDI true) ty td) :=
  pcW (pc_dnotin hu (mo hi) (mo ho)) fun y x H Q ⟨a, kvs, z, e1, e2, h, q⟩ => ⟨a, _, e1, by subst e2; exact DGet.k (k := .inl z) h, q⟩
theorem ps_putS (hu : X.A.units + 1 < cLine) (ho : PE X o td) (hi : PE X i ty) (hv : PE X value tv) (hs : swapsWith value (some (.Subscript o i pos')) pos.line X.env = pure false := by rfl) : PS X (.Assign [.Subscript o i pos'] value pos) (xPutS td ty tv) := by
  refine psM (ps_dput hu (mo ho) (mo hi) (mo hv) hs) fun D σ H h => ⟨_, h, fun v H1 h => ⟨_, h, fun x H2 h => ⟨_, h, ?_⟩⟩⟩
  rintro y H3 ⟨a, kvs, z, e1, e2, hh, hl, q⟩
  subst e1 e2
  exact ⟨a, _, rfl, DPut.k (k := .inr z) hh hl, q _ (.of hh fun _ z => by cases z)⟩
theorem ps_putI (hu : X.A.units + 1 < cLine) (ho : PE X o td) (hi : PE X i ty) (hv : PE X value tv) (hs : swapsWith value (some (.Subscript o i pos')) pos.line X.env = pure false := by rfl) : PS X (.Assign [.Subscript o i pos'] value pos) (xPutI td ty tv) := by
  refine psM (ps_dput hu (mo ho) (mo hi) (mo hv) hs) fun D σ H h => ⟨_, h, fun v H1 h => ⟨_, h, fun x H2 h => ⟨_, h, ?_⟩⟩⟩
  rintro y H3 ⟨a, kvs, z, e1, e2, hh, hl, q⟩
  subst e1 e2
  exact ⟨a, _, rfl, DPut.k (k := .inl z) hh hl, q _ (.of hh fun _ z => by cases z)⟩
theorem pe_get2S (hu : X.A.units + 1 < cLine) (ho : PE X o td) (he : PE X e ty) (hf : PE X f tx) (m : M2 X o "get" apos e f cpos := by exact ⟨rfl, rfl, rfl, rfl⟩) : PE X (.Call (.Attribute o "get" apos) [e, f] [] cpos) (xGet2S td ty tx) := by
  refine peM (pe_dget2 hu (mo ho) (mo he) (mo hf) m) fun σ H Q h => ⟨_, h, ?_⟩
  rintro x H1 ⟨a, kvs0, e1, h1, h⟩
  refine ⟨a, e1, .inl ⟨_, .inl h1⟩, _, h, fun y H2 h => ⟨_, h, ?_⟩⟩
  rintro d H3 ⟨kvs, z, e2, h3, q⟩
  subst e2
  exact ⟨_, DGet.k (k := .inr z) h3, q⟩
theorem pe_get2I (hu : X.A.units + 1 < cLine) (ho : PE X o td) (he : PE X e ty) (hf : PE X f tx) (m : M2 X o "get" apos e f cpos := by exact ⟨rfl, rfl, rfl, rfl⟩) : PE X (.Call (.Attribute o "get" apos) [e, f] [] cpos) (xGet2I td ty tx) := by
  refine peM (pe_dget2 hu (mo ho) (mo he) (mo hf) m) fun σ H Q h => ⟨_, h, ?_⟩
  rintro x H1 ⟨a, kvs0, e1, h1, h⟩
  refine ⟨a, e1, .inl ⟨_, .inl h1⟩, _, h, fun y H2 h => ⟨_, h, ?_⟩⟩
  rintro d H3 ⟨kvs, z, e2, h3, q⟩
  subst e2
  exact ⟨_, DGet.k (k := .inl z) h3, q⟩
theorem pe_popI (ho : PE X o td) (he : PE X e ty) (m : M1 X o "pop" apos e cpos := by exact ⟨rfl, rfl, rfl, rfl⟩) : PE X (.Call (.Attribute o "pop" apos) [e] [] cpos) (xPopI td ty) := by
  refine peM (pe_dpop1 (mo ho) (mo he) m) fun σ H Q h => ⟨_, h, ?_⟩
  rintro x H1 ⟨a, kvs0, e1, h1, h⟩
  refine ⟨a, e1, .inl ⟨_, .inl h1⟩, _, h, ?_⟩
  rintro y H2 ⟨kvs, z, v, e2, h2, g, q⟩
  exact ⟨kvs, .inl z, v, h2, e2, g, q _ (.of h2 fun _ z => by cases z)⟩
theorem cl_dctD : CallR X (.type "dict") rDctD := clM call_dictD fun _ _ _ ⟨a, kvs, e, h, q⟩ => ⟨a, kvs, e, .inl h, fun p hp => q p _ (.of hp)⟩
theorem cl_lstD (hc : X.calm = true) : CallR X (.type "list") rLstD := clM (call_listD hc) fun _ _ _ ⟨a, kvs, e, h, q⟩ => ⟨a, kvs, e, .inl h, fun p hp => q p _ (.of hp)⟩
theorem cl_srtL : CallR X (.builtin "sorted") rSrtL := clM cr_sortedS fun _ _ _ ⟨a, xs, e, h, hl, q⟩ => ⟨a, xs, e, SqL.of h, hl, fun ys p h1 h2 hp => q ys p _ h1 h2 (.of hp)⟩
theorem cl_srtD (hc : X.calm = true) : CallR X (.builtin "sorted") rSrtD := clM (call_sortedD hc) fun _ _ _ ⟨a, kvs, ks, e, h, hk, hl, q⟩ => ⟨a, kvs, ks, e, .inl h, hk, hl, fun ys p h1 h2 hp => q ys p _ h1 h2 (.of hp)⟩
end

/-! ### dicts beside each other -/
def EqK (ks ls : List (Key × V)) : Prop := ks.length = ls.length ∧ ∀ p ∈ ks, valV ls p.1 = some p.2 ∧ flatB p.2 = true
def rEqDD : R2 := fun x y H Q => ∃ a b ks ls, x = .ref a ∧ y = .ref b ∧ H a = some (.dK ks) ∧ H b = some (.dK ls) ∧ EqK ks ls ∧ Q (.bl true) H
theorem op_eqDD {X : Cx} (hu : X.A.units + 64 < cLine) : OpR X (compareOp .Eq) rEqDD := opM (op_eqV hu) fun x y H Q ⟨a, b, ks, ls, e1, e2, h1, h2, hk, q⟩ =>
  ⟨1, by decide, .inr ⟨a, b, ks, ls, e1, e2, h1, h2, hk.1, fun p hp => ⟨p.2, (hk.2 p hp).1, .inl ⟨rfl, (hk.2 p hp).2⟩⟩⟩, q⟩
def rNeDD : R2 := fun x y H Q => ∃ a b ks ls, x = .ref a ∧ y = .ref b ∧ H a = some (.dK ks) ∧ H b = some (.dK ls) ∧ EqK ks ls ∧ Q (.bl false) H
theorem op_neDD {X : Cx} (hu : X.A.units + 64 < cLine) : OpR X (compareOp .NotEq) rNeDD := opM (op_ne_dictA (by omega)) fun x y H Q ⟨a, b, ks, ls, e1, e2, h1, h2, hk, q⟩ => ⟨a, b, ks, ls, e1, e2, h1, h2, hk.1, hk.2, q⟩
/-! ### a part of a tuple -/
def rSlT : V → Option Int → Option Int → Hp → VK → Prop := fun x lo hi H Q => ∃ a xs, x = .ref a ∧ H a = some (.tup xs) ∧ ∀ p H', H' p = some (.tup (cutV xs lo hi)) → Fr [] H H' → Q (.ref p) H'
theorem cutV_all {xs : List V} {lo hi : Option Int} (h : HT.sIx xs.length 0 lo = 0 ∧ HT.sIx xs.length xs.length hi = xs.length) : cutV xs lo hi = xs := by
  unfold cutV
  rw [h.1, h.2]
  simp
theorem sl_tX {X : Cx} : SlR X rSlT := fun pins s σ H x v vl vu lo hi sl Q I rx hs pl pu ⟨a, xs, e, h, q⟩ => sl_tupA pins s σ H x v vl vu lo hi sl Q I rx hs pl pu ⟨a, xs, e, SqT.of h, fun w => q a H (by rw [cutV_all w]; exact h) (.refl _ _), fun _ p hp => q p _ upd_same (Al.of hp).fr⟩
/-! ### tuples joined -/
def rCatX : R2 := fun x y H Q => ∃ a b xs ys, x = .ref a ∧ y = .ref b ∧ H a = some (.tup xs) ∧ H b = some (.tup ys) ∧ xs.length + ys.length ≤ sizeLine ∧ ∀ p H', H' p = some (.tup (xs ++ ys)) → Fr [] H H' → Q (.ref p) H'
theorem op_catX {X : Cx} : OpR X (binaryOp .Add) rCatX := opM op_catA fun x y H Q ⟨a, b, xs, ys, e1, e2, h1, h2, hz, q⟩ => ⟨a, b, xs, ys, e1, e2, SqT.of h1, SqT.of h2, hz,
  fun e => q b H (by rw [e]; exact h2) (.refl _ _), fun _ e => q a H (by rw [e, List.append_nil]; exact h1) (.refl _ _), fun _ _ p hp => q p _ upd_same (Al.of hp).fr⟩
/-! more rules: clear, dicts beside each other -/
def xClrD (to : TE) : TE := fun σ H Q => to σ H fun x H1 => ∃ a kvs, x = .ref a ∧ H1 a = some (.dK kvs) ∧ ∀ H', Mu H1 a (.dK []) H' → Q .non H'
def xClrL (to : TE) : TE := fun σ H Q => to σ H fun x H1 => ∃ a xs, x = .ref a ∧ H1 a = some (.lst xs) ∧ ∀ H', Mu H1 a (.lst []) H' → Q .non H'
section
variable {X : Cx} {o : Expr} {to : TE} {apos cpos : Pos}
theorem pe_clrD (ho : PE X o to) (hbase : attributeBase o "clear" X.env (eval o X.env) = eval o X.env := by rfl) (hline : (apos.endLine == cpos.line) = true := by rfl) : PE X (.Call (.Attribute o "clear" apos) [] [] cpos) (xClrD to) := by
  refine peM (pe_dclear (mo ho) hbase hline) ?_
  intro σ H Q h
  refine ⟨_, h, ?_⟩
  rintro x H1 ⟨a, kvs, rfl, h1, q⟩
  exact ⟨Or.inr (Or.inr (Or.inl ⟨rfl, .inl ⟨_, h1⟩⟩)), a, kvs, rfl, rfl, h1, q _ (.of h1 fun _ z => by cases z)⟩
theorem pe_clrL (ho : PE X o to) (hbase : attributeBase o "clear" X.env (eval o X.env) = eval o X.env := by rfl) (hline : (apos.endLine == cpos.line) = true := by rfl) : PE X (.Call (.Attribute o "clear" apos) [] [] cpos) (xClrL to) := by
  refine peM (pe_bm0 PySem.F.plainAttrs_list PySem.F.slot_list_clear PySem.F.type_list_clear mt_clear (mo ho) hbase hline) ?_
  intro σ H Q h
  refine ⟨_, h, ?_⟩
  rintro x H1 ⟨l, xs, rfl, h1, q⟩
  exact ⟨Or.inl ⟨rfl, _, SqL.of h1⟩, l, xs, rfl, rfl, h1, q _ (.of h1 fun _ z => by cases z)⟩
end
/-- values flat, or the same object -/
def EqX (ks ls : List (Key × V)) : Prop := ks.length = ls.length ∧ ∀ p ∈ ks, valV ls p.1 = some p.2 ∧ (flatB p.2 = true ∨ ∃ a, p.2 = .ref a)
def rEqDX : R2 := fun x y H Q => ∃ a b ks ls, x = .ref a ∧ y = .ref b ∧ H a = some (.dK ks) ∧ H b = some (.dK ls) ∧ EqX ks ls ∧ Q (.bl true) H
theorem op_eqDX {X : Cx} (hu : X.A.units + 64 < cLine) : OpR X (compareOp .Eq) rEqDX := opM (op_eqV hu) fun x y H Q ⟨a, b, ks, ls, e1, e2, h1, h2, hk, q⟩ =>
  ⟨1, by decide, .inr ⟨a, b, ks, ls, e1, e2, h1, h2, hk.1, fun p hp => ⟨p.2, (hk.2 p hp).1, (hk.2 p hp).2.elim (fun z => .inl ⟨rfl, z⟩) fun ⟨a, e⟩ => .inr (.inl ⟨a, e, e⟩)⟩⟩, q⟩
/-- two empty lists -/
def rNeE : R2 := fun x y H Q => ∃ p q, x = .ref p ∧ y = .ref q ∧ H p = some (.lst []) ∧ H q = some (.lst []) ∧ Q (.bl false) H
theorem op_neE {X : Cx} (hu : X.A.units + 64 < cLine) : OpR X (compareOp .NotEq) rNeE := by
  refine opM (op_neD hu) ?_
  rintro x y H Q ⟨p, q, rfl, rfl, h1, h2, k⟩
  exact ⟨.list [], .list [], .lst (SqL.of h1) .nil, .lst (SqL.of h2) .nil, rfl, rfl, k⟩

local macro_rules
  | `(tactic| push_cast [$as,*]) => `(tactic| simp only [tIfS, tRet, tRetN, tAsg, gName, gSub, gCons, gNil, gTup, tDrop, tNext, tVar, tC, tOp, tUn, tTest, tB, tAnd, tOr, tNot, tAndV, tOrV, tNotV, tIf, tCons, tNil, xLst, xTup, xDic, tCB, tCall, tChain, tSl, tPart, tNoPart, rI, rI0, rU, rEq, rNe, scal, rXL, rXT, rXQ, rLenL, rLenT, rLenS, rLenQ, rInt1, rTupL, rLstL, rIsN, rNotN, rInT, rAddS, rLtS, rInS1, rNinS1, rIxS, rSlS, rStL, rCt, rSL, tApp, tPopAt, tPopL, tJoinL, tIndex, xFld, xSet, xMeth, xMake, rGetS, rGetI, rInDS, rInDI, xPutS, xPutI, xGet2S, xGet2I, xPopI, xClrD, xClrL, rEqDX, rNeE, rDctD, rLstD, rCatX, rSlT, rEqDD, rNeDD, HO.ins.injEq, ixN0, ixN1, ixN2, ixN3, atI0, atI1, atI2, atI3, eqV_str, eqV_int, eqV_is, eqV_si, inV_nil, inV_cons, flatV, List.all_cons, List.all_nil, wd_eq, wd_ne0, wd_ne0', List.getElem?_cons_zero, List.getElem?_cons_succ, List.set_cons_zero, List.set_cons_succ, List.cons_append, List.nil_append, List.append_nil, Nat.reduceAdd, Nat.reduceLT, Option.some.injEq, V.int.injEq, V.str.injEq, V.bl.injEq, V.ref.injEq, HO.lst.injEq, HO.tup.injEq, HO.dK.injEq, List.cons.injEq, exists_eq_left, exists_eq_left', exists_eq_right, exists_eq_right', exists_and_left, exists_and_right, exists_const, exists_eq, exists_eq', and_assoc, true_and, and_true, false_and, and_false, true_or, or_true, false_or, or_false, reduceCtorEq, not_true_eq_false, not_false_eq_true, decide_true, decide_false, decide_eq_true_eq, decide_not, Bool.not_true, Bool.not_false, Bool.false_eq_true, Bool.true_and, Bool.and_true, Bool.false_and, Bool.and_false, Bool.true_or, Bool.or_true, Bool.false_or, Bool.or_false, if_true, if_false, ite_true, ite_false, Nat.reduceEqDiff, exists_false, eq_self, upd_same, Bool.not_eq_true', decide_eq_false_iff_not, $as,*])
  | `(tactic| push_cast) => `(tactic| simp only [tIfS, tRet, tRetN, tAsg, gName, gSub, gCons, gNil, gTup, tDrop, tNext, tVar, tC, tOp, tUn, tTest, tB, tAnd, tOr, tNot, tAndV, tOrV, tNotV, tIf, tCons, tNil, xLst, xTup, xDic, tCB, tCall, tChain, tSl, tPart, tNoPart, rI, rI0, rU, rEq, rNe, scal, rXL, rXT, rXQ, rLenL, rLenT, rLenS, rLenQ, rInt1, rTupL, rLstL, rIsN, rNotN, rInT, rAddS, rLtS, rInS1, rNinS1, rIxS, rSlS, rStL, rCt, rSL, tApp, tPopAt, tPopL, tJoinL, tIndex, xFld, xSet, xMeth, xMake, rGetS, rGetI, rInDS, rInDI, xPutS, xPutI, xGet2S, xGet2I, xPopI, xClrD, xClrL, rEqDX, rNeE, rDctD, rLstD, rCatX, rSlT, rEqDD, rNeDD, HO.ins.injEq, ixN0, ixN1, ixN2, ixN3, atI0, atI1, atI2, atI3, eqV_str, eqV_int, eqV_is, eqV_si, inV_nil, inV_cons, flatV, List.all_cons, List.all_nil, wd_eq, wd_ne0, wd_ne0', List.getElem?_cons_zero, List.getElem?_cons_succ, List.set_cons_zero, List.set_cons_succ, List.cons_append, List.nil_append, List.append_nil, Nat.reduceAdd, Nat.reduceLT, Option.some.injEq, V.int.injEq, V.str.injEq, V.bl.injEq, V.ref.injEq, HO.lst.injEq, HO.tup.injEq, HO.dK.injEq, List.cons.injEq, exists_eq_left, exists_eq_left', exists_eq_right, exists_eq_right', exists_and_left, exists_and_right, exists_const, exists_eq, exists_eq', and_assoc, true_and, and_true, false_and, and_false, true_or, or_true, false_or, or_false, reduceCtorEq, not_true_eq_false, not_false_eq_true, decide_true, decide_false, decide_eq_true_eq, decide_not, Bool.not_true, Bool.not_false, Bool.false_eq_true, Bool.true_and, Bool.and_true, Bool.false_and, Bool.and_false, Bool.true_or, Bool.or_true, Bool.false_or, Bool.or_false, if_true, if_false, ite_true, ite_false, Nat.reduceEqDiff, exists_false, eq_self, upd_same, Bool.not_eq_true', decide_eq_false_iff_not])

/-- _law_take from 3 -/
def t_L_take_3 (K : PySem.W.Frag) : TS :=
  (tSeq (tIfS (tTest (tOp (rInT false) (tOp rXL (tOp rXL (tVar 0) (tC (.int 0))) (tC (.int 0))) (xTup (tCons (tC (.int 0)) (tCons (tUn (rU fun i => .int (-i)) (tC (.int 1))) tNil))))) (tDrop (tPopAt (tOp rXL (tVar 0) (tC (.int 0))) (tC (.int 0)))) tNext)
    (tRet (tOp (rI (fun _ j => 0 < j) fun i j => .int (i % j)) (tVar 2) (tVar 1))))

/-- _law_take from 2 -/
def t_L_take_2 (K : PySem.W.Frag) : TS :=
  tSeq (tAsg (tOp (rI CDiv fun i j => .int (i / j)) (tVar 2) (tVar 1)) (gSub (tOp rXL (tVar 0) (tC (.int 0))) (tC (.int 0)) rStL)) (t_L_take_3 K)

/-- _law_take from 1 -/
def t_L_take_1 (K : PySem.W.Frag) : TS :=
  tSeq (tAsg (tOp rXL (tOp rXL (tVar 0) (tC (.int 0))) (tC (.int 0))) (gName 2)) (t_L_take_2 K)

/-- _law_take -/
def t_L_take (K : PySem.W.Frag) : TS :=
  tSeq (tIfS (tTest (tOp rEqE (tOp rXL (tVar 0) (tC (.int 0))) (xLst tNil))) (tSeq (tAsg (tOp (rI (fun _ j => 0 < j) fun i j => .int (i % j)) (tOp (rI CMul fun i j => .int (i * j)) (tOp rXL (tVar 0) (tC (.int 1))) (tC (.int 48271))) (tC (.int 2147483647))) (gSub (tVar 0) (tC (.int 1)) rStL))
    (tRet (tOp (rI (fun _ j => 0 < j) fun i j => .int (i % j)) (tOp (rI CDiv fun i j => .int (i / j)) (tOp rXL (tVar 0) (tC (.int 1))) (tC (.int 7))) (tVar 1)))) tNext) (t_L_take_1 K)

theorem map_int_head {ns : List Int} (h : ns.isEmpty = false) : ∃ n r, ns = n :: r := by
  cases ns with
  | nil => cases h
  | cons n r => exact ⟨n, r, rfl⟩
theorem rd_L_take {K : PySem.W.Frag} {vs : List V} {H : Hp} {Q : VK} {E : XK} (h : sp_L_take vs H Q E) : t_L_take K { nx := fun _ H' => Q .non H', rt := Q } (start ["_", "_", "_"] vs) H := by
  obtain ⟨b, l, m, rfl, ⟨ne, ns, s, hb, hl, s0, s1⟩, m0, m1, k⟩ := h
  show t_L_take K _ [some (.ref b), some (.int m), none] H
  unfold t_L_take
  refine st_seq ?_
  push_cast [hb]
  refine ⟨by decide, fun p H1 A => ⟨l, p, ns, rfl, rfl, A.k hl, A.at_, _, rfl, ?_⟩⟩
  cases e : ns.isEmpty with
  | true =>
    refine iteT (st_seq ?_)
    push_cast [A.k hb]
    refine ⟨.inl ⟨by omega, by omega⟩, by decide, ?_⟩
    intro H2 M
    push_cast [M.at_, List.set]
    have g0 : 0 ≤ s * 48271 % 2147483647 := Int.emod_nonneg _ (by decide)
    have g1 : s * 48271 % 2147483647 < 2147483647 := Int.emod_lt_of_pos _ (by decide)
    refine ⟨⟨by decide, by decide⟩, m0, ?_⟩
    exact k _ _ (Int.emod_nonneg _ (by omega)) (Int.emod_lt_of_pos _ m0) ⟨ne, ns, _, M.at_, M.k (A.k hl) ne.symm, g0, g1⟩ ((A.fr).mu M (by simp))
  | false =>
    refine iteF (st_seq ?_)
    obtain ⟨n, r, rfl⟩ := map_int_head e
    push_cast [A.k hb, A.k hl, List.map_cons]
    refine st_seq ?_
    push_cast [A.k hb, A.k hl, List.map_cons]
    refine ⟨⟨m0, m1⟩, fun H2 M => st_seq ?_⟩
    have hb2 := M.k (A.k hb) ne
    have hl2 : H2 l = some (.lst (.int (n / m) :: r.map V.int)) := M.at_
    have f2 : Fr [b, l] H H2 := A.fr.mu M (by simp)
    push_cast [hb2, hl2]
    refine ⟨by decide, fun q H3 A3 => ?_⟩
    push_cast [A3.at_]
    split
    · push_cast [A3.k hb2, A3.k hl2]
      intro H4 M4
      exact ⟨m0, k _ _ (Int.emod_nonneg _ (by omega)) (Int.emod_lt_of_pos _ m0) ⟨ne, r, s, M4.k (A3.k hb2) ne, M4.at_, s0, s1⟩ ((f2.al A3).mu M4 (by simp))⟩
    · exact ⟨m0, k _ _ (Int.emod_nonneg _ (by omega)) (Int.emod_lt_of_pos _ m0) ⟨ne, (n / m) :: r, s, A3.k hb2, A3.k hl2, s0, s1⟩ (f2.al A3)⟩

/-- kind_of -/
def t_kind_of (K : PySem.W.Frag) : TS :=
  (tSeq (tIfS (tB (tCB (rIs "str") (tCons (tVar 0) (tCons (tC (.ty "str")) tNil)))) (tRet (tC (.str (wd 24)))) tNext)
    (tRet (tC (.str (wd 23)))))

/-- is_so -/
def t_is_so (K : PySem.W.Frag) : TS :=
  (tRet (tAndV (tOp rNe (tVar 0) (tC (.int 0))) (tOp rNe (tVar 0) (tC (.str ("" : Str))))))

/-- of_numbers from 1 -/
def t_of_numbers_1 (K : PySem.W.Frag) : TS :=
  (tSeq (tIfS (tTest (tOp rEq (tVar 0) (tC (.str (wd 4))))) (tRet (tOp (rI (fun _ j => 0 < j) fun i j => .int (i % j)) (tOp (rI0 fun i j => .int (i - j)) (tVar 1) (tVar 2)) (tC (.int 10007)))) tNext)
    (tRet (tCB rInt1 (tCons (tOp (rI0 fun i j => .bl (decide (i < j))) (tVar 1) (tVar 2)) tNil))))

/-- of_numbers -/
def t_of_numbers (K : PySem.W.Frag) : TS :=
  tSeq (tIfS (tTest (tOp rEq (tVar 0) (tC (.str (wd 3))))) (tRet (tOp (rI (fun _ j => 0 < j) fun i j => .int (i % j)) (tOp (rI0 fun i j => .int (i + j)) (tVar 1) (tVar 2)) (tC (.int 10007)))) tNext) (t_of_numbers_1 K)

/-- worked from 2 -/
def t_worked_2 (K : PySem.W.Frag) : TS :=
  (tSeq (tIfS (tTest (tOp rEq (tCall sp_kind_of [] E0 (tCons (tVar 1) tNil)) (tC (.str (wd 23))))) (tRet (tCall sp_of_numbers [] E0 (tCons (tVar 0) (tCons (tVar 1) (tCons (tVar 2) tNil))))) tNext)
    (tRet (tCall sp_of_texts [] E0 (tCons (tVar 0) (tCons (tVar 1) (tCons (tVar 2) tNil))))))

/-- worked from 1 -/
def t_worked_1 (K : PySem.W.Frag) : TS :=
  tSeq (tIfS (tTest (tOp rNe (tCall sp_kind_of [] E0 (tCons (tVar 1) tNil)) (tCall sp_kind_of [] E0 (tCons (tVar 2) tNil)))) (tRet (tC .non)) tNext) (t_worked_2 K)

/-- worked -/
def t_worked (K : PySem.W.Frag) : TS :=
  tSeq (tIfS (tTest (tOp rEq (tVar 0) (tC (.str (wd 6))))) (tRet (tCB rInt1 (tCons (tAndV (tOp rEq (tCall sp_kind_of [] E0 (tCons (tVar 1) tNil)) (tCall sp_kind_of [] E0 (tCons (tVar 2) tNil))) (tOp rEq (tVar 1) (tVar 2))) tNil))) tNext) (t_worked_1 K)

/-- _law_worked from 3 -/
def t_L_worked_3 (K : PySem.W.Frag) : TS :=
  (tSeq (tIfS (tB (tCB (rIs "str") (tCons (tVar 1) (tCons (tC (.ty "str")) tNil)))) (tRet (tCall sp_L_of_texts [] E0 (tCons (tVar 0) (tCons (tVar 1) (tCons (tVar 2) tNil))))) tNext)
    (tRet (tOp rXL (xLst (tCons (tOp (rI (fun _ j => 0 < j) fun i j => .int (i % j)) (tOp (rI0 fun i j => .int (i + j)) (tVar 1) (tVar 2)) (tC (.int 10007))) (tCons (tOp (rI (fun _ j => 0 < j) fun i j => .int (i % j)) (tOp (rI0 fun i j => .int (i - j)) (tVar 1) (tVar 2)) (tC (.int 10007))) (tCons (tCB rInt1 (tCons (tOp (rI0 fun i j => .bl (decide (i < j))) (tVar 1) (tVar 2)) tNil)) tNil)))) (tIndex (xLst (tCons (tC (.str (wd 3))) (tCons (tC (.str (wd 4))) (tCons (tC (.str (wd 5))) tNil)))) (tVar 0)))))

/-- _law_worked from 2 -/
def t_L_worked_2 (K : PySem.W.Frag) : TS :=
  tSeq (tIfS (tNot (tB (tVar 3))) (tRet (tC .non)) tNext) (t_L_worked_3 K)

/-- _law_worked from 1 -/
def t_L_worked_1 (K : PySem.W.Frag) : TS :=
  tSeq (tIfS (tTest (tOp rEq (tVar 0) (tC (.str (wd 6))))) (tRet (tCB rInt1 (tCons (tAndV (tVar 3) (tOp rEq (tVar 1) (tVar 2))) tNil))) tNext) (t_L_worked_2 K)

/-- _law_worked -/
def t_L_worked (K : PySem.W.Frag) : TS :=
  tSeq (tAsg (tOp rEq (tCB (rIs "str") (tCons (tVar 1) (tCons (tC (.ty "str")) tNil))) (tCB (rIs "str") (tCons (tVar 2) (tCons (tC (.ty "str")) tNil)))) (gName 3)) (t_L_worked_1 K)

/-- _law_is_so -/
def t_L_is_so (K : PySem.W.Frag) : TS :=
  (tRet (tOp (rInT true) (tVar 0) (xTup (tCons (tC (.int 0)) (tCons (tC (.str ("" : Str))) tNil)))))

/-- _law_value -/
def t_L_value (K : PySem.W.Frag) : TS :=
  (tSeq (tIfS (tTest (tOp rEq (tCall sp_L_take [] E0 (tCons (tVar 0) (tCons (tC (.int 3)) tNil))) (tC (.int 1)))) (tRet (tCall sp_L_text [] E0 (tCons (tVar 0) tNil))) tNext)
    (tRet (tOp rXL (xLst (tCons (tCall sp_L_take [] E0 (tCons (tVar 0) (tCons (tC (.int 4)) tNil))) (tCons (tCall sp_L_take [] E0 (tCons (tVar 0) (tCons (tC (.int 10007)) tNil))) tNil))) (tCall sp_L_take [] E0 (tCons (tVar 0) (tCons (tC (.int 2)) tNil))))))

/-- _law_alike from 6 -/
def t_L_alike_6 (K : PySem.W.Frag) (n : Nat) : TS :=
  (tSeq (tFor (iRng1 (tCons (tCB rLenQ (tCons (tVar 1) tNil)) tNil)) (gName 2)
    (tIfS (tNot (tB (tCall (sp_L_alike n) [] E0 (tCons (tOp rXQ (tVar 0) (tVar 2)) (tCons (tOp rXQ (tVar 1) (tVar 2)) tNil))))) (tRet (tC (.bl false))) tNext))
    (tRet (tC (.bl true))))

/-- _law_alike from 5 -/
def t_L_alike_5 (K : PySem.W.Frag) (n : Nat) : TS :=
  tSeq (tIfS (tTest (tOp rNe (tCB rLenQ (tCons (tVar 0) tNil)) (tCB rLenQ (tCons (tVar 1) tNil)))) (tRet (tC (.bl false))) tNext) (t_L_alike_6 K n)

/-- _law_alike from 4 -/
def t_L_alike_4 (K : PySem.W.Frag) (n : Nat) : TS :=
  tSeq (tIfS (tOr (tTest (tOp rNe (tCB (rIs "tuple") (tCons (tVar 1) (tCons (tC (.ty "tuple")) tNil))) (tCB (rIs "tuple") (tCons (tVar 0) (tCons (tC (.ty "tuple")) tNil))))) (tTest (tOp rNe (tCB (rIs "list") (tCons (tVar 1) (tCons (tC (.ty "list")) tNil))) (tCB (rIs "list") (tCons (tVar 0) (tCons (tC (.ty "list")) tNil)))))) (tRet (tC (.bl false))) tNext) (t_L_alike_5 K n)

/-- _law_alike from 3 -/
def t_L_alike_3 (K : PySem.W.Frag) (n : Nat) : TS :=
  tSeq (tIfS (tB (tCB (rIs "str") (tCons (tVar 1) (tCons (tC (.ty "str")) tNil)))) (tRet (tAndV (tCB (rIs "str") (tCons (tVar 0) (tCons (tC (.ty "str")) tNil))) (tOp rEq (tVar 0) (tVar 1)))) tNext) (t_L_alike_4 K n)

/-- _law_alike from 2 -/
def t_L_alike_2 (K : PySem.W.Frag) (n : Nat) : TS :=
  tSeq (tIfS (tB (tCB (rIs "int") (tCons (tVar 1) (tCons (tC (.ty "int")) tNil)))) (tRet (tAndV (tCB (rIs "int") (tCons (tVar 0) (tCons (tC (.ty "int")) tNil))) (tAndV (tNotV (tCB (rIs "bool") (tCons (tVar 0) (tCons (tC (.ty "bool")) tNil)))) (tOp rEq (tVar 0) (tVar 1))))) tNext) (t_L_alike_3 K n)

/-- _law_alike from 1 -/
def t_L_alike_1 (K : PySem.W.Frag) (n : Nat) : TS :=
  tSeq (tIfS (tB (tCB (rIs "bool") (tCons (tVar 1) (tCons (tC (.ty "bool")) tNil)))) (tRet (tAndV (tCB (rIs "bool") (tCons (tVar 0) (tCons (tC (.ty "bool")) tNil))) (tOp rEq (tVar 0) (tVar 1)))) tNext) (t_L_alike_2 K n)

/-- _law_alike -/
def t_L_alike (K : PySem.W.Frag) (n : Nat) : TS :=
  tSeq (tIfS (tTest (tOp rIsN (tVar 1) (tC .non))) (tRet (tOp rIsN (tVar 0) (tC .non))) tNext) (t_L_alike_1 K n)

/-! ### isinstance of values -/
theorem kitB_ss : kitB "str" "str" = some true := by decide +kernel
theorem kitB_is : kitB "int" "str" = some false := by decide +kernel
theorem is_str (x : Vl) (H : Hp) (Q : VK) : rIs "str" [x.v, .ty "str"] H Q ↔ Q (.bl (match x with | .n _ => false | .t _ => true)) H := by
  constructor
  · rintro ⟨y, b, e, ⟨n, hn, hk⟩, q⟩
    have e' := (List.cons.inj e).1
    subst e'
    cases x with
    | n i => cases (show n = "int" from hn); rw [kitB_is] at hk; cases hk; exact q
    | t z => cases (show n = "str" from hn); rw [kitB_ss] at hk; cases hk; exact q
  · intro q
    cases x with
    | n i => exact ⟨_, _, rfl, ⟨"int", rfl, kitB_is⟩, q⟩
    | t z => exact ⟨_, _, rfl, ⟨"str", rfl, kitB_ss⟩, q⟩
theorem rd_kind_of {K : PySem.W.Frag} {vs : List V} {H : Hp} {Q : VK} {E : XK} (h : sp_kind_of vs H Q E) : t_kind_of K { nx := fun _ H' => Q .non H', rt := Q } (start ["_"] vs) H := by
  obtain ⟨x, rfl, k⟩ := h
  show t_kind_of K _ [some x.v] H
  unfold t_kind_of
  refine st_seq ?_
  push_cast [is_str]
  cases x with
  | n i => push_cast; exact k
  | t z => push_cast; exact k
theorem rd_is_so {K : PySem.W.Frag} {vs : List V} {H : Hp} {Q : VK} {E : XK} (h : sp_is_so vs H Q E) : t_is_so K { nx := fun _ H' => Q .non H', rt := Q } (start ["_"] vs) H := by
  obtain ⟨x, rfl, k⟩ := h
  show t_is_so K _ [some x.v] H
  unfold t_is_so
  have k0 := k H (.refl _ _)
  cases x with
  | n i =>
    push_cast [Vl.v]
    simp only [Vl.so] at k0
    split
    · next h => rw [decide_eq_false h] at k0; exact k0
    · next h => rw [decide_eq_true (by simpa using h)] at k0; exact k0
  | t z => push_cast [Vl.v]; exact k0
theorem rd_L_is_so {K : PySem.W.Frag} {vs : List V} {H : Hp} {Q : VK} {E : XK} (h : sp_L_is_so vs H Q E) : t_L_is_so K { nx := fun _ H' => Q .non H', rt := Q } (start ["_"] vs) H := by
  obtain ⟨x, rfl, k⟩ := h
  show t_L_is_so K _ [some x.v] H
  unfold t_L_is_so
  push_cast
  refine ⟨by decide, fun p H1 A => ?_⟩
  have k0 := k H1 A.fr
  cases x with
  | n i =>
    push_cast [Vl.v, A.at_]
    simp only [Vl.so] at k0
    rw [show decide (0 = i) = decide (i = 0) from by simp [eq_comm]]
    exact k0
  | t z =>
    push_cast [Vl.v, A.at_]
    simp only [Vl.so] at k0
    rw [show decide (("" : Str) = z) = decide (z = ("" : Str)) from by simp [eq_comm]]
    exact k0
theorem rd_of_numbers {K : PySem.W.Frag} {vs : List V} {H : Hp} {Q : VK} {E : XK} (h : sp_of_numbers vs H Q E) : t_of_numbers K { nx := fun _ H' => Q .non H', rt := Q } (start ["_", "_", "_"] vs) H := by
  obtain ⟨s, i, j, rfl, hs, k⟩ := h
  show t_of_numbers K _ [some (.str s.s), some (.int i), some (.int j)] H
  unfold t_of_numbers
  refine st_seq ?_
  cases s with
  | add => push_cast [Sg.s, Sg.ix]; exact ⟨by decide, k⟩
  | sub => push_cast [Sg.s, Sg.ix]; refine st_seq ?_; push_cast [Sg.s, Sg.ix]; exact ⟨by decide, k⟩
  | less => push_cast [Sg.s, Sg.ix]; refine st_seq ?_; push_cast [Sg.s, Sg.ix]; simpa [ov, wk, Vl.v, b2n] using k
  | same => exact absurd rfl hs
theorem sg_eq (s : Sg) (i : Nat) (hi : i < 42) : (s.s = wd i) = (s.ix = i) := wd_eq (by cases s <;> decide) hi
theorem kd_eq (x y : Vl) : (x.kd = y.kd) = ((match x with | .n _ => true | .t _ => false) = (match y with | .n _ => true | .t _ => false)) := by
  cases x <;> cases y <;> simp only [Vl.kd] <;> first | (rw [wd_eq (by decide) (by decide)] <;> simp) | simp
theorem scal_v (x y : Vl) : scal x.v y.v = true := by cases x <;> cases y <;> rfl
theorem rd_worked {K : PySem.W.Frag} {vs : List V} {H : Hp} {Q : VK} {E : XK} (h : sp_worked vs H Q E) : t_worked K { nx := fun _ H' => Q .non H', rt := Q } (start ["_", "_", "_"] vs) H := by
  obtain ⟨s, x, y, rfl, hx, hy, k⟩ := h
  show t_worked K _ [some (.str s.s), some x.v, some y.v] H
  unfold t_worked
  refine st_seq ?_
  push_cast [sg_eq]
  by_cases hs : s = .same
  · subst hs
    simp only [Sg.ix]
    push_cast
    refine ⟨x, rfl, y, rfl, ?_⟩
    push_cast [scal_v, kd_eq, Vl.v_inj]
    have k0 := k H (.refl _ _)
    cases x <;> cases y <;> simp_all [ov, wk, b2n, Vl.v]
  · have e : ¬ s.ix = 6 := by cases s <;> simp_all [Sg.ix]
    rw [if_neg e]
    refine st_seq ?_
    push_cast
    refine ⟨x, rfl, y, rfl, ?_⟩
    push_cast [kd_eq]
    cases x with
    | n i =>
      cases y with
      | n j =>
        push_cast
        refine st_seq ?_
        push_cast
        refine ⟨.n i, rfl, ?_⟩
        push_cast [Vl.kd]
        exact ⟨s, i, j, rfl, hs, k H (.refl _ _)⟩
      | t b =>
        push_cast
        have k0 := k H (.refl _ _)
        cases s <;> first | exact absurd rfl hs | exact k0
    | t a =>
      cases y with
      | n j =>
        push_cast
        have k0 := k H (.refl _ _)
        cases s <;> first | exact absurd rfl hs | exact k0
      | t b =>
        push_cast
        refine st_seq ?_
        push_cast
        refine ⟨.t a, rfl, ?_⟩
        push_cast [Vl.kd]
        exact ⟨s, a, b, rfl, hs, hx, hy, k⟩
theorem idx3 (s : Sg) (hs : s ≠ .same) : s.ix - 3 < 3 ∧ ∃ z, [V.str (wd 3), V.str (wd 4), V.str (wd 5)][s.ix - 3]? = some z ∧ eqV z (.str s.s) = true ∧
    ∀ (m : Nat) (z' : V), m < s.ix - 3 → [V.str (wd 3), V.str (wd 4), V.str (wd 5)][m]? = some z' → eqV z' (.str s.s) = false := by
  have ne : ∀ i j, i < 42 → j < 42 → i ≠ j → eqV (.str (wd i)) (.str (wd j)) = false := fun i j hi hj h => by rw [eqV_str]; exact decide_eq_false fun e => h (by rw [wd_eq hi hj] at e; exact e)
  have eq : ∀ i, eqV (.str (wd i)) (.str (wd i)) = true := fun i => by rw [eqV_str]; simp
  cases s with
  | add => exact ⟨by decide, _, rfl, eq 3, fun m z' h _ => absurd h (Nat.not_lt_zero _)⟩
  | sub =>
    refine ⟨by decide, _, rfl, eq 4, fun m z' h e => ?_⟩
    have hm : m = 0 := by simp only [Sg.ix] at h; omega
    subst hm
    cases e
    exact ne 3 4 (by decide) (by decide) (by decide)
  | less =>
    refine ⟨by decide, _, rfl, eq 5, fun m z' h e => ?_⟩
    have hm : m = 0 ∨ m = 1 := by simp only [Sg.ix] at h; omega
    rcases hm with hm | hm
    · subst hm
      cases e
      exact ne 3 5 (by decide) (by decide) (by decide)
    · subst hm
      cases e
      exact ne 4 5 (by decide) (by decide) (by decide)
  | same => exact absurd rfl hs
theorem rd_L_worked {K : PySem.W.Frag} {vs : List V} {H : Hp} {Q : VK} {E : XK} (h : sp_L_worked vs H Q E) : t_L_worked K { nx := fun _ H' => Q .non H', rt := Q } (start ["_", "_", "_", "_"] vs) H := by
  obtain ⟨s, x, y, rfl, hx, hy, k⟩ := h
  show t_L_worked K _ [some (.str s.s), some x.v, some y.v, none] H
  unfold t_L_worked
  refine st_seq ?_
  push_cast [is_str]
  refine st_seq ?_
  push_cast [sg_eq]
  by_cases hs : s = .same
  · subst hs
    simp only [Sg.ix]
    have k0 := k H (.refl _ _)
    push_cast [scal_v, Vl.v_inj]
    cases x <;> cases y <;> simp_all [ov, wk, b2n, Vl.v]
  · have e : ¬ s.ix = 6 := by cases s <;> simp_all [Sg.ix]
    rw [if_neg e]
    refine st_seq ?_
    cases x with
    | n i =>
      cases y with
      | n j =>
        push_cast
        refine st_seq ?_
        push_cast [is_str]
        push_cast [Vl.v]
        refine ⟨by decide, by decide, (by simp only [List.length_cons, List.length_nil]; decide), fun p H1 A => ⟨(by simp only [List.length_cons, List.length_nil]; decide), fun q H2 B => ?_⟩⟩
        have k0 := k H2 (A.fr.al B)
        push_cast [B.at_]
        obtain ⟨hj, z, h1, h2, h3⟩ := idx3 s hs
        refine ⟨s.ix - 3, z, h1, h2, h3, ?_⟩
        push_cast [B.k A.at_]
        cases s with
        | add => exact ⟨_, atI0 _ _, k0⟩
        | sub => exact ⟨_, atI1 _ _ _, k0⟩
        | less => refine ⟨_, atI2 _ _ _ _, ?_⟩; simpa [ov, wk, Vl.v, b2n] using k0
        | same => exact absurd rfl hs
      | t b =>
        push_cast
        have k0 := k H (.refl _ _)
        cases s <;> first | exact absurd rfl hs | exact k0
    | t a =>
      cases y with
      | n j =>
        push_cast
        have k0 := k H (.refl _ _)
        cases s <;> first | exact absurd rfl hs | exact k0
      | t b =>
        push_cast
        refine st_seq ?_
        push_cast [is_str]
        exact ⟨s, a, b, rfl, hs, hx, hy, k⟩

/-- _law_text from 1 -/
def t_L_text_1 (K : PySem.W.Frag) : TS :=
  (tSeq (tAsg (tOp rXL (xLst (tCons (tCall sp_L_take [] E0 (tCons (tVar 0) (tCons (tC (.int 3)) tNil))) (tCons (tCall sp_L_take [] E0 (tCons (tVar 0) (tCons (tC (.int 13)) tNil))) tNil))) (tCB rInt1 (tCons (tOp rEq (tCall sp_L_take [] E0 (tCons (tVar 0) (tCons (tC (.int 8)) tNil))) (tC (.int 1))) tNil))) (gName 2))
    (tRet (tJoinL (tC (.str ("" : Str))) (tLc (iRng1 (tCons (tVar 2) tNil)) (gName 3) tYes (tOp rIxS (tVar 1) (tCall sp_L_take [] E0 (tCons (tVar 0) (tCons (tCB rLenS (tCons (tVar 1) tNil)) tNil)))) [3]))))

/-- _law_text -/
def t_L_text (K : PySem.W.Frag) : TS :=
  tSeq (tAsg (tOp rXL (xLst (tCons (tC (.str ("abz" : Str))) (tCons (tC (.str ("abcdefghijklmnopqrstuvwxyz" : Str))) tNil))) (tCall sp_L_take [] E0 (tCons (tVar 0) (tCons (tC (.int 2)) tNil)))) (gName 1)) (t_L_text_1 K)

/-- of_texts from 1 -/
def t_of_texts_1 (K : PySem.W.Frag) : TS :=
  (tSeq (tIfS (tTest (tOp rEq (tVar 0) (tC (.str (wd 4))))) (tRet (tJoinL (tC (.str ("" : Str))) (tLc (iStr (tVar 1)) (gName 3) (tTest (tOp rNinS1 (tVar 3) (tVar 2))) (tVar 3) [3]))) tNext)
    (tRet (tCB rInt1 (tCons (tOp rLtS (tVar 1) (tVar 2)) tNil))))

/-- of_texts -/
def t_of_texts (K : PySem.W.Frag) : TS :=
  tSeq (tIfS (tTest (tOp rEq (tVar 0) (tC (.str (wd 3))))) (tRet (tSl rSlS (tOp rAddS (tVar 1) (tVar 2)) tNoPart (tPart (tC (.int 12))))) tNext) (t_of_texts_1 K)

/-- _law_of_texts from 1 -/
def t_L_of_texts_1 (K : PySem.W.Frag) : TS :=
  (tSeq (tIfS (tTest (tOp rEq (tVar 0) (tC (.str (wd 5))))) (tRet (tCB rInt1 (tCons (tOp rLtS (tVar 1) (tVar 2)) tNil))) tNext)
    (tRet (tJoinL (tC (.str ("" : Str))) (tLc (iStr (tVar 1)) (gName 3) (tTest (tOp rNinS1 (tVar 3) (tVar 2))) (tVar 3) [3]))))

/-- _law_of_texts -/
def t_L_of_texts (K : PySem.W.Frag) : TS :=
  tSeq (tIfS (tTest (tOp rEq (tVar 0) (tC (.str (wd 3))))) (tRet (tSl rSlS (tOp rAddS (tVar 1) (tVar 2)) tNoPart (tPart (tC (.int 12))))) tNext) (t_L_of_texts_1 K)

/-- _law_script -/
def t_L_script (K : PySem.W.Frag) : TS :=
  (tSeq (tAsg (tOp (rI (fun _ j => 0 < j) fun i j => .int (i % j)) (tCB (rSum K) (tCons (tLc (iEnum K (tCons (tVar 0) tNil)) (gTup K 2 (gCons (gName 2) (gCons (gName 3) gNil))) tYes (tOp (rI CMul fun i j => .int (i * j)) (tOp (rI0 fun i j => .int (i + j)) (tVar 2) (tC (.int 1))) (tOp (rI (fun _ j => 0 < j) fun i j => .int (i % j)) (tVar 3) (tC (.int 69621)))) [2, 3]) tNil)) (tC (.int 2147483647))) (gName 1))
    (tRet (xLst (tCons (tCB (rLstK K) (tCons (tVar 0) tNil)) (tCons (tOp (rI CMul fun i j => .int (i * j)) (tVar 1) (tCB rInt1 (tCons (tOp (rI0 fun i j => .bl (decide (j < i))) (tCB (rLenK K) (tCons (tVar 0) tNil)) (tC (.int 2))) tNil))) tNil)))))

theorem rd_L_value {K : PySem.W.Frag} {vs : List V} {H : Hp} {Q : VK} {E : XK} (h : sp_L_value vs H Q E) : t_L_value K { nx := fun _ H' => Q .non H', rt := Q } (start ["_"] vs) H := by
  obtain ⟨b, l, rfl, B, k⟩ := h
  show t_L_value K _ [some (.ref b)] H
  unfold t_L_value
  refine st_seq ?_
  push_cast
  refine ⟨b, l, 3, rfl, B, by decide, by decide, fun r H1 r0 r1 B1 f1 => ?_⟩
  push_cast
  split
  · exact ⟨b, l, rfl, B1, fun z H2 hz B2 f2 => k (.t z) H2 hz B2 (f1.trans f2)⟩
  · refine ⟨b, l, 4, rfl, B1, by decide, by decide, fun x H2 x0 x1 B2 f2 => ?_⟩
    refine ⟨b, l, 10007, rfl, B2, by decide, by decide, fun y H3 y0 y1 B3 f3 => ?_⟩
    push_cast
    refine ⟨(by simp only [List.length_cons, List.length_nil]; decide), fun p H4 A => ?_⟩
    have B4 := B3.keep A.fr
    refine ⟨b, l, 2, rfl, B4, by decide, by decide, fun z H5 z0 z1 B5 f5 => ?_⟩
    have hp : H5 p = some (.lst [.int x, .int y]) := by
      refine f5.keep _ _ A.at_ ?_
      obtain ⟨_, _, _, h1, h2, _⟩ := B3
      simp only [List.mem_cons, List.not_mem_nil, or_false, not_or]
      exact ⟨fun e => ne_of_none h1 A.new e.symm, fun e => ne_of_none h2 A.new e.symm⟩
    push_cast [hp]
    have fr : Fr [b, l] H H5 := (((f1.trans f2).trans f3).al A).trans f5
    have hz : z = 0 ∨ z = 1 := by omega
    rcases hz with hz | hz
    · subst hz
      exact ⟨_, atI0 _ _, k (.n x) _ ⟨x0, by omega⟩ B5 fr⟩
    · subst hz
      exact ⟨_, atI1 _ _ _, k (.n y) _ ⟨y0, by omega⟩ B5 fr⟩
theorem BoxAt.off {H : Hp} {b l p : Addr} (B : BoxAt H b l) (h : H p = none) : p ∉ [b, l] := by
  obtain ⟨_, _, _, h1, h2, _⟩ := B
  simp only [List.mem_cons, List.not_mem_nil, or_false, not_or]
  exact ⟨fun e => ne_of_none h1 h e.symm, fun e => ne_of_none h2 h e.symm⟩
theorem BoxAt.mu {H H' : Hp} {b l p : Addr} {o : HO} (B : BoxAt H b l) (M : Mu H p o H') (hp : p ∉ [b, l]) : BoxAt H' b l := by
  obtain ⟨ne, ns, s, h1, h2, h3⟩ := B
  simp only [List.mem_cons, List.not_mem_nil, or_false, not_or] at hp
  exact ⟨ne, ns, s, M.k h1 fun e => hp.1 e.symm, M.k h2 fun e => hp.2 e.symm, h3⟩
def Lets (z : Str) : Prop := 0 < z.cps.toList.length ∧ z.cps.toList.length ≤ 26 ∧ ∀ c ∈ z.cps.toList, 97 ≤ c ∧ c < 123
theorem lets3 : Lets ("abz" : Str) := by unfold Lets; decide +kernel
theorem lets26 : Lets ("abcdefghijklmnopqrstuvwxyz" : Str) := by unfold Lets; decide +kernel
theorem slen (z : Str) : z.length = z.cps.toList.length := by
  show z.cps.size = _
  simp
theorem joinL_one : ∀ l : List Nat, TL.joinL [] (l.map fun c => [c]) = l
  | [] => rfl
  | [_] => rfl
  | a :: b :: r => by
    have q := joinL_one (b :: r)
    show [a] ++ ([] ++ TL.joinL [] ((b :: r).map fun c => [c])) = a :: b :: r
    rw [q]
    rfl
theorem tl_empty : TL.tl ("" : Str) = [] := by decide +kernel
/-- letters, joined -/
theorem join_letters (l : List Nat) : Txt.join ("" : Str) (l.map fun c => (⟨#[c]⟩ : Str)) = ⟨l.toArray⟩ := by
  rw [TL.join_eq]
  have h : TL.tl (Str.join ("" : Str) (l.map fun c => (⟨#[c]⟩ : Str))) = l := by
    rw [TL.tl_join, tl_empty, List.map_map]
    exact joinL_one l
  have e : ∀ x : Str, x = ⟨(TL.tl x).toArray⟩ := fun x => by
    show x = ⟨x.cps.toList.toArray⟩
    simp
  rw [e (Str.join _ _), h]
theorem sum_ones (l : List Nat) : ((l.map fun c => (⟨#[c]⟩ : Str)).map (·.length)).sum = l.length := by
  induction l with
  | nil => rfl
  | cons a r ih =>
    rw [List.map_cons, List.map_cons, List.sum_cons, ih]
    show 1 + r.length = r.length + 1
    omega
theorem rd_L_text {K : PySem.W.Frag} {vs : List V} {H : Hp} {Q : VK} {E : XK} (h : sp_L_text vs H Q E) : t_L_text K { nx := fun _ H' => Q .non H', rt := Q } (start ["_", "_", "_", "_"] vs) H := by
  obtain ⟨b, l, rfl, B, k⟩ := h
  show t_L_text K _ [some (.ref b), none, none, none] H
  unfold t_L_text
  refine st_seq ?_
  push_cast
  refine ⟨(by simp only [List.length_cons, List.length_nil]; decide), fun p H1 A1 => ?_⟩
  have B1 := B.keep A1.fr
  refine ⟨b, l, 2, rfl, B1, by decide, by decide, fun r H2 r0 r1 B2 f2 => ?_⟩
  have hp : H2 p = _ := f2.keep _ _ A1.at_ (B.off A1.new)
  have fr2 : Fr [b, l] H H2 := A1.fr.trans f2
  have hl : ∃ z, atI [V.str ("abz" : Str), V.str ("abcdefghijklmnopqrstuvwxyz" : Str)] r = some (.str z) ∧ Lets z := by
    have hz : r = 0 ∨ r = 1 := by omega
    rcases hz with hz | hz
    · subst hz; exact ⟨_, atI0 _ _, lets3⟩
    · subst hz; exact ⟨_, atI1 _ _ _, lets26⟩
  obtain ⟨z, ez, lz⟩ := hl
  push_cast [hp, ez]
  refine st_seq ?_
  push_cast
  refine ⟨b, l, 3, rfl, B2, by decide, by decide, fun x H3 x0 x1 B3 f3 => ?_⟩
  refine ⟨b, l, 13, rfl, B3, by decide, by decide, fun y H4 y0 y1 B4 f4 => ?_⟩
  push_cast
  refine ⟨(by simp only [List.length_cons, List.length_nil]; decide), fun p5 H5 A5 => ?_⟩
  refine ⟨b, l, 8, rfl, B4.keep A5.fr, by decide, by decide, fun u H6 u0 u1 B6 f6 => ?_⟩
  have hp6 : H6 p5 = _ := f6.keep _ _ A5.at_ (B4.off A5.new)
  have fr6 : Fr [b, l] H H6 := (((fr2.trans f3).trans f4).al A5).trans f6
  have hl : ∃ m, atI [V.int x, V.int y] (if u = 1 then 1 else 0) = some (.int m) ∧ 0 ≤ m ∧ m < 13 := by
    split
    · exact ⟨_, atI1 _ _ _, y0, y1⟩
    · exact ⟨_, atI0 _ _, x0, by omega⟩
  obtain ⟨m, em, m0, m1⟩ := hl
  push_cast [hp6, em]
  refine lcR (n := m) (fun R h => ⟨_, rfl, h⟩) m0 (by omega) fun L hL => ?_
  refine ⟨fun i Hc => ∃ cs : List Nat, cs.length = i ∧ (∀ c ∈ cs, 97 ≤ c ∧ c < 123) ∧ Hc L = some (.lst ((cs.map fun c => (⟨#[c]⟩ : Str)).map V.str)) ∧ BoxAt Hc b l ∧ Fr [b, l] H6 Hc, ?_, ?_, ?_⟩
  · refine ⟨[], rfl, by simp, upd_same, B6.keep (Al.of hL).fr, (Al.of hL).fr⟩
  · rintro i Hc hi ⟨cs, hc1, hc2, hc3, hc4, hc5⟩
    show LcTurn _ _ _ _ _ _ _ _ _
    unfold LcTurn
    push_cast [wipe, tYes]
    have zs : z.length ≤ sizeLine := by rw [slen]; exact Nat.le_trans lz.2.1 (by decide)
    refine ⟨zs, b, l, _, rfl, hc4, by rw [slen]; have := lz.1; omega, by rw [slen]; have := lz.2.1; omega, fun r' H7 q0 q1 B7 f7 => ?_⟩
    push_cast
    rw [slen] at q1
    obtain ⟨c, ec, mc⟩ := atI_of q0 q1
    have oL := B6.off hL
    have hL7 : H7 L = _ := f7.keep _ _ hc3 oL
    have M := Mu.of (o := .lst ((cs.map fun c => (⟨#[c]⟩ : Str)).map V.str ++ [.str ⟨#[c]⟩])) hL7 fun _ z => by cases z
    refine ⟨zs, c, ec, _, hL7, ?_, cs ++ [c], ?_, ?_, ?_, B7.mu M oL, (hc5.trans f7).muN M hL⟩
    · simp only [List.length_map]; exact Nat.lt_of_le_of_lt (m := 13) (by omega) (by decide)
    · simp [hc1]
    · intro x hx
      rcases List.mem_append.mp hx with hx | hx
      · exact hc2 x hx
      · rw [List.mem_singleton.mp hx]; exact lz.2.2 c mc
    · simp
  · rintro Hc ⟨cs, hc1, hc2, hc3, hc4, hc5⟩
    refine ⟨L, rfl, _, hc3, ?_, ?_⟩
    · rw [sum_ones, List.length_map]
      show cs.length + cs.length * 0 ≤ _
      omega
    · rw [join_letters]
      exact k _ _ ⟨by simp; omega, by simpa using hc2⟩ hc4 (fr6.trans hc5)
theorem tl12 {z : Str} (h : Txt12 z) : z.length ≤ 12 := by rw [slen]; exact h.1
/-- letters of one that don't stand in the other -/
theorem lc_sub {a c : Str} {σ : L2.St} {H : Hp} {Q : VK} (i1 : σ[1]? = some (some (.str a))) (i2 : σ[2]? = some (some (.str c))) (l3 : 3 < σ.length) (ha : Txt12 a)
    (k : ∀ H', Fr [] H H' → Q (.str (subT a c)) H') : tJoinL (tC (.str ("" : Str))) (tLc (iStr (tVar 1)) (gName 3) (tTest (tOp rNinS1 (tVar 3) (tVar 2))) (tVar 3) [3]) σ H Q := by
  refine ⟨_, rfl, ?_⟩
  refine lcS (z := a) (fun R h => ⟨_, i1, h⟩) fun L hL => ?_
  refine ⟨fun i Hc => ∃ cs : List Nat, cs = (a.cps.toList.take i).filter (fun x => !decide (x ∈ c.cps.toList)) ∧ Hc L = some (.lst ((cs.map fun c => (⟨#[c]⟩ : Str)).map V.str)) ∧ Fr [] H Hc, ?_, ?_, ?_⟩
  · exact ⟨[], by simp, upd_same, (Al.of hL).fr⟩
  · rintro i x Hc hx ⟨cs, h1, h2, h3⟩
    have hlen : i < a.cps.toList.length := (List.getElem?_eq_some_iff.mp hx).1
    have tk : a.cps.toList.take (i + 1) = a.cps.toList.take i ++ [x] := by rw [List.take_succ, hx]; rfl
    refine ⟨by simp [wipe, List.set_set], ?_⟩
    have g3 : ((wipe σ [3]).set 3 (some (V.str ⟨#[x]⟩)))[3]? = some (some (V.str ⟨#[x]⟩)) := by simp [wipe, l3]
    have g2 : ((wipe σ [3]).set 3 (some (V.str ⟨#[x]⟩)))[2]? = some (some (V.str c)) := by simp [wipe, i2]
    refine ⟨_, g3, _, g2, x, c, rfl, rfl, _, rfl, ?_⟩
    by_cases hm : x ∈ c.cps.toList
    · rw [decide_eq_true hm]
      refine iteF ⟨cs, ?_, h2, h3⟩
      rw [tk, List.filter_append, ← h1, List.filter_cons, decide_eq_true hm]
      simp
    · rw [decide_eq_false hm]
      refine iteT ⟨_, g3, _, h2, ?_, cs ++ [x], ?_, ?_, ?_⟩
      · have := List.length_filter_le (fun x => !decide (x ∈ c.cps.toList)) (a.cps.toList.take i)
        rw [← h1] at this
        have h12 := ha.1
        simp only [List.length_map]
        rw [List.length_take] at this
        exact Nat.lt_of_le_of_lt (m := 12) (by omega) (by decide)
      · rw [tk, List.filter_append, ← h1, List.filter_cons, decide_eq_false hm]
        rfl
      · rw [upd_same]; simp
      · exact h3.muN (Mu.of h2 fun _ z => by cases z) hL
  · rintro Hc ⟨cs, h1, h2, h3⟩
    rw [List.take_length] at h1
    refine ⟨L, _, rfl, h2, ?_, ?_⟩
    · have := List.length_filter_le (fun x => !decide (x ∈ c.cps.toList)) a.cps.toList
      rw [← h1] at this
      have h12 := ha.1
      rw [sum_ones, List.length_map]
      show cs.length + cs.length * 0 ≤ _
      omega
    · rw [join_letters, h1]
      exact k _ h3
theorem rd_of_texts {K : PySem.W.Frag} {vs : List V} {H : Hp} {Q : VK} {E : XK} (h : sp_of_texts vs H Q E) : t_of_texts K { nx := fun _ H' => Q .non H', rt := Q } (start ["_", "_", "_", "_"] vs) H := by
  obtain ⟨s, a, b, rfl, hs, ha, hb, k⟩ := h
  show t_of_texts K _ [some (.str s.s), some (.str a), some (.str b), none] H
  unfold t_of_texts
  have z1 := tl12 ha
  have z2 := tl12 hb
  refine st_seq ?_
  cases s with
  | add =>
    simp only [tIfS, tTest, tOp, tVar, tC, rEq]
    push_cast [Sg.s, Sg.ix]
    have z3 : (a ++ b).length ≤ sizeLine := by
      rw [slen, show (a ++ b).cps.toList = a.cps.toList ++ b.cps.toList from TL.tl_append a b, List.length_append, ← slen, ← slen]
      exact Nat.le_trans (m := 24) (by omega) (by decide)
    exact ⟨Nat.le_trans (m := 24) (by omega) (by decide), z3, k H (.refl _ _)⟩
  | sub =>
    simp only [tIfS, tTest, tOp, tVar, tC, rEq]
    refine ⟨_, rfl, rfl, _, rfl, ?_⟩
    refine ite2 (fun e => absurd (of_decide_eq_true e) (by simp [Sg.s, Sg.ix, wd_eq])) fun _ => ?_
    refine st_seq ⟨_, rfl, rfl, _, rfl, ite2 (fun _ => ?_) fun e => absurd (show decide (V.str _ = V.str _) = true from decide_eq_true rfl) e⟩
    exact lc_sub rfl rfl (by simp) ha k
  | less =>
    simp only [tIfS, tTest, tOp, tVar, tC, rEq]
    refine ⟨_, rfl, rfl, _, rfl, ?_⟩
    refine ite2 (fun e => absurd (of_decide_eq_true e) (by simp [Sg.s, Sg.ix, wd_eq])) fun _ => ?_
    refine st_seq ⟨_, rfl, rfl, _, rfl, ite2 (fun e => absurd (of_decide_eq_true e) (by simp [Sg.s, Sg.ix, wd_eq])) fun _ => ?_⟩
    have k0 := k H (.refl _ _)
    push_cast
    simpa [ov, wk, Vl.v, b2n] using k0
  | same => exact absurd rfl hs
theorem rd_L_of_texts {K : PySem.W.Frag} {vs : List V} {H : Hp} {Q : VK} {E : XK} (h : sp_L_of_texts vs H Q E) : t_L_of_texts K { nx := fun _ H' => Q .non H', rt := Q } (start ["_", "_", "_", "_"] vs) H := by
  obtain ⟨s, a, b, rfl, hs, ha, hb, k⟩ := h
  show t_L_of_texts K _ [some (.str s.s), some (.str a), some (.str b), none] H
  unfold t_L_of_texts
  have z1 := tl12 ha
  have z2 := tl12 hb
  refine st_seq ?_
  cases s with
  | add =>
    simp only [tIfS, tTest, tOp, tVar, tC, rEq]
    push_cast [Sg.s, Sg.ix]
    have z3 : (a ++ b).length ≤ sizeLine := by
      rw [slen, show (a ++ b).cps.toList = a.cps.toList ++ b.cps.toList from TL.tl_append a b, List.length_append, ← slen, ← slen]
      exact Nat.le_trans (m := 24) (by omega) (by decide)
    exact ⟨Nat.le_trans (m := 24) (by omega) (by decide), z3, k H (.refl _ _)⟩
  | sub =>
    simp only [tIfS, tTest, tOp, tVar, tC, rEq]
    refine ⟨_, rfl, rfl, _, rfl, ?_⟩
    refine ite2 (fun e => absurd (of_decide_eq_true e) (by simp [Sg.s, Sg.ix, wd_eq])) fun _ => ?_
    refine st_seq ⟨_, rfl, rfl, _, rfl, ite2 (fun e => absurd (of_decide_eq_true e) (by simp [Sg.s, Sg.ix, wd_eq])) fun _ => ?_⟩
    exact lc_sub rfl rfl (by simp) ha k
  | less =>
    simp only [tIfS, tTest, tOp, tVar, tC, rEq]
    refine ⟨_, rfl, rfl, _, rfl, ?_⟩
    refine ite2 (fun e => absurd (of_decide_eq_true e) (by simp [Sg.s, Sg.ix, wd_eq])) fun _ => ?_
    refine st_seq ⟨_, rfl, rfl, _, rfl, ite2 (fun _ => ?_) fun e => absurd (show decide (V.str _ = V.str _) = true from decide_eq_true rfl) e⟩
    have k0 := k H (.refl _ _)
    push_cast
    simpa [ov, wk, Vl.v, b2n] using k0
  | same => exact absurd rfl hs
/-! ### the script, stirred -/
theorem Fr.sqL {K : PySem.W.Frag} {H H1 : Hp} {a : Addr} {xs : List V} (f : Fr [] H H1) (h : SqL K H a xs) : SqL K H1 a xs := by
  rcases h with (h | ⟨o, h⟩) | h
  · exact .inl (.inl (f.keep _ _ h (by simp)))
  · exact .inl (.inr ⟨o, f.keep _ _ h (by simp)⟩)
  · exact .inr h
theorem sum_nonneg : ∀ {l : List Int}, (∀ x ∈ l, 0 ≤ x) → 0 ≤ l.sum
  | [], _ => Int.le_refl 0
  | a :: r, h => by
    rw [List.sum_cons]
    have h1 := h a (List.mem_cons_self ..)
    have h2 := sum_nonneg (l := r) fun x hx => h x (List.mem_cons_of_mem _ hx)
    omega
theorem rd_L_script {K : PySem.W.Frag} {vs : List V} {H : Hp} {Q : VK} {E : XK} (h : sp_L_script K vs H Q E) : t_L_script K { nx := fun _ H' => Q .non H', rt := Q } (start ["_", "_", "_", "_"] vs) H := by
  obtain ⟨a, ns, rfl, hS, hl, k⟩ := h
  show t_L_script K _ [some (.ref a), none, none, none] H
  unfold t_L_script
  refine st_seq ?_
  push_cast
  refine ⟨_, rfl, a, _, rfl, hS, fun L hL => ?_⟩
  refine lc_it (walk_enum (xs := ns.map V.int)) (fun i Hc => ∃ ms : List Int, ms.length = i ∧ Hc L = some (.lst (ms.map V.int)) ∧ Fr [] H Hc) ?_ ?_ ?_ ?_
  · exact ⟨[], rfl, upd_same, (Al.of hL).fr⟩
  · rintro i Hc _ ⟨ms, h1, h2, h3⟩
    exact h3.sqL hS
  · rintro i x Hc H' hi ⟨ms, h1, h2, h3⟩ ⟨T, x1, x2, rfl, hT, rfl, e1, e2⟩
    cases e1
    replace e2 : (ns.map V.int)[i]? = some x2 := e2
    rw [List.getElem?_map] at e2
    cases en : ns[i]? with
    | none => rw [en] at e2; cases e2
    | some n =>
      rw [en] at e2
      cases e2
      have A := Al.of (o := .tup [.int (i : Int), .int n]) hT
      rw [List.length_map] at hi
      refine ⟨T, _, rfl, SqT.of A.at_, rfl, ?_⟩
      push_cast [wipe, tYes]
      have c1 : (0 : Int) ≤ n % 69621 := Int.emod_nonneg _ (by decide)
      have c2 : n % 69621 < 69621 := Int.emod_lt_of_pos _ (by decide)
      refine ⟨by decide, .inl ⟨by omega, by omega⟩, _, A.k h2, ?_, ms ++ [((i : Int) + 1) * (n % 69621)], ?_, ?_, ?_⟩
      · rw [List.length_map, h1]; exact Nat.lt_of_lt_of_le (m := 64) (by omega) (by decide)
      · simp [h1]
      · simp
      · exact (h3.al A).muN (Mu.of (A.k h2) fun _ z => by cases z) hL
  · rintro Hc ⟨ms, h1, h2, h3⟩
    refine ⟨L, ms, rfl, SqL.of h2, _, rfl, by decide, ?_⟩
    refine ⟨a, _, rfl, .inl (h3.sqL hS), fun l2 H2 A => ?_⟩
    refine ⟨a, _, rfl, .inl ((h3.al A).sqL hS), _, rfl, ?_⟩
    have g0 : 0 ≤ ms.sum % 2147483647 := Int.emod_nonneg _ (by decide)
    have g1 : ms.sum % 2147483647 < 2147483647 := Int.emod_lt_of_pos _ (by decide)
    refine ⟨.inl ⟨by omega, by omega⟩, (by simp only [List.length_cons, List.length_nil]; decide), fun b H3 A3 => ?_⟩
    refine k b l2 H3 ⟨fun e => ?_, ns, _, A3.at_, A3.k A.at_, ?_, ?_⟩ ((h3.al A).al A3)
    · rw [e] at A3; have := A3.new; rw [A.at_] at this; cases this
    · split <;> omega
    · split <;> omega
theorem sg4 {z : Int} (h0 : 0 ≤ z) (h1 : z < 4) : ∃ s : Sg, atI [V.str (wd 3), V.str (wd 4), V.str (wd 5), V.str (wd 6)] z = some (.str s.s) := by
  have hz : z = 0 ∨ z = 1 ∨ z = 2 ∨ z = 3 := by omega
  rcases hz with hz | hz | hz | hz <;> subst hz
  · exact ⟨.add, atI0 _ _⟩
  · exact ⟨.sub, atI1 _ _ _⟩
  · exact ⟨.less, atI2 _ _ _ _⟩
  · exact ⟨.same, atI3 _ _ _ _ _⟩
/-! ### isinstance by shapes -/
def tyIs (H : Hp) (x : V) (n : String) : Prop := match x with
  | .non => n = "NoneType"
  | .bl _ => n = "bool"
  | .int _ => n = "int"
  | .str _ => n = "str"
  | .ref a => (match H a with
    | some (.lst _) => n = "list"
    | some (.tup _) => n = "tuple"
    | some (.dK _) => n = "dict"
    | _ => False)
  | _ => False
theorem tyIs.uni {H : Hp} {x : V} {n m : String} (h : tyIs H x n) (h' : tyIs H x m) : n = m := by
  unfold tyIs at h h'
  cases x with
  | ref a =>
    simp only at h h'
    split at h <;> first | exact h.elim | (rename_i e; simp only [e] at h'; rw [h, h'])
  | non => rw [h, h']
  | bl _ => rw [h, h']
  | int _ => rw [h, h']
  | str _ => rw [h, h']
  | _ => exact h.elim
theorem is_eq {H : Hp} {x : V} {n T : String} {b : Bool} {Q : VK} (hn : tyIs H x n) (hk : kitB n T = some b) : rIs T [x, .ty T] H Q = Q (.bl b) H := by
  refine propext ⟨?_, fun q => ⟨_, _, rfl, ⟨n, hn, hk⟩, q⟩⟩
  rintro ⟨y, b', e, ⟨m, hm, hk'⟩, q⟩
  have e' := (List.cons.inj e).1
  subst e'
  have hm' : tyIs H x m := hm
  have e2 := hn.uni hm'
  subst e2
  rw [hk] at hk'
  cases hk'
  exact q
theorem tyIs.lst {H : Hp} {a : Addr} {xs : List V} (h : H a = some (.lst xs)) : tyIs H (.ref a) "list" := by unfold tyIs; simp only [h]
theorem tyIs.tup {H : Hp} {a : Addr} {xs : List V} (h : H a = some (.tup xs)) : tyIs H (.ref a) "tuple" := by unfold tyIs; simp only [h]
theorem tyIs.dic {H : Hp} {a : Addr} {xs : List (Key × V)} (h : H a = some (.dK xs)) : tyIs H (.ref a) "dict" := by unfold tyIs; simp only [h]
section
variable {H : Hp} {a : Addr} {xs : List V} {i : Int} {z : Str} {b : Bool} {Q : VK}
theorem is_NoneType_bool : rIs "bool" [.non, .ty "bool"] H Q = Q (.bl false) H := is_eq (show tyIs H (.non) "NoneType" from rfl) (by decide +kernel)
theorem is_NoneType_int : rIs "int" [.non, .ty "int"] H Q = Q (.bl false) H := is_eq (show tyIs H (.non) "NoneType" from rfl) (by decide +kernel)
theorem is_NoneType_str : rIs "str" [.non, .ty "str"] H Q = Q (.bl false) H := is_eq (show tyIs H (.non) "NoneType" from rfl) (by decide +kernel)
theorem is_NoneType_list : rIs "list" [.non, .ty "list"] H Q = Q (.bl false) H := is_eq (show tyIs H (.non) "NoneType" from rfl) (by decide +kernel)
theorem is_NoneType_tuple : rIs "tuple" [.non, .ty "tuple"] H Q = Q (.bl false) H := is_eq (show tyIs H (.non) "NoneType" from rfl) (by decide +kernel)
theorem is_bool_bool : rIs "bool" [.bl b, .ty "bool"] H Q = Q (.bl true) H := is_eq (show tyIs H (.bl b) "bool" from rfl) (by decide +kernel)
theorem is_bool_int : rIs "int" [.bl b, .ty "int"] H Q = Q (.bl true) H := is_eq (show tyIs H (.bl b) "bool" from rfl) (by decide +kernel)
theorem is_bool_str : rIs "str" [.bl b, .ty "str"] H Q = Q (.bl false) H := is_eq (show tyIs H (.bl b) "bool" from rfl) (by decide +kernel)
theorem is_bool_list : rIs "list" [.bl b, .ty "list"] H Q = Q (.bl false) H := is_eq (show tyIs H (.bl b) "bool" from rfl) (by decide +kernel)
theorem is_bool_tuple : rIs "tuple" [.bl b, .ty "tuple"] H Q = Q (.bl false) H := is_eq (show tyIs H (.bl b) "bool" from rfl) (by decide +kernel)
theorem is_int_bool : rIs "bool" [.int i, .ty "bool"] H Q = Q (.bl false) H := is_eq (show tyIs H (.int i) "int" from rfl) (by decide +kernel)
theorem is_int_int : rIs "int" [.int i, .ty "int"] H Q = Q (.bl true) H := is_eq (show tyIs H (.int i) "int" from rfl) (by decide +kernel)
theorem is_int_str : rIs "str" [.int i, .ty "str"] H Q = Q (.bl false) H := is_eq (show tyIs H (.int i) "int" from rfl) (by decide +kernel)
theorem is_int_list : rIs "list" [.int i, .ty "list"] H Q = Q (.bl false) H := is_eq (show tyIs H (.int i) "int" from rfl) (by decide +kernel)
theorem is_int_tuple : rIs "tuple" [.int i, .ty "tuple"] H Q = Q (.bl false) H := is_eq (show tyIs H (.int i) "int" from rfl) (by decide +kernel)
theorem is_str_bool : rIs "bool" [.str z, .ty "bool"] H Q = Q (.bl false) H := is_eq (show tyIs H (.str z) "str" from rfl) (by decide +kernel)
theorem is_str_int : rIs "int" [.str z, .ty "int"] H Q = Q (.bl false) H := is_eq (show tyIs H (.str z) "str" from rfl) (by decide +kernel)
theorem is_str_str : rIs "str" [.str z, .ty "str"] H Q = Q (.bl true) H := is_eq (show tyIs H (.str z) "str" from rfl) (by decide +kernel)
theorem is_str_list : rIs "list" [.str z, .ty "list"] H Q = Q (.bl false) H := is_eq (show tyIs H (.str z) "str" from rfl) (by decide +kernel)
theorem is_str_tuple : rIs "tuple" [.str z, .ty "tuple"] H Q = Q (.bl false) H := is_eq (show tyIs H (.str z) "str" from rfl) (by decide +kernel)
theorem is_list_bool (h : H a = some (.lst xs)) : rIs "bool" [.ref a, .ty "bool"] H Q = Q (.bl false) H := is_eq (tyIs.lst h) (by decide +kernel)
theorem is_list_int (h : H a = some (.lst xs)) : rIs "int" [.ref a, .ty "int"] H Q = Q (.bl false) H := is_eq (tyIs.lst h) (by decide +kernel)
theorem is_list_str (h : H a = some (.lst xs)) : rIs "str" [.ref a, .ty "str"] H Q = Q (.bl false) H := is_eq (tyIs.lst h) (by decide +kernel)
theorem is_list_list (h : H a = some (.lst xs)) : rIs "list" [.ref a, .ty "list"] H Q = Q (.bl true) H := is_eq (tyIs.lst h) (by decide +kernel)
theorem is_list_tuple (h : H a = some (.lst xs)) : rIs "tuple" [.ref a, .ty "tuple"] H Q = Q (.bl false) H := is_eq (tyIs.lst h) (by decide +kernel)
theorem is_tuple_bool (h : H a = some (.tup xs)) : rIs "bool" [.ref a, .ty "bool"] H Q = Q (.bl false) H := is_eq (tyIs.tup h) (by decide +kernel)
theorem is_tuple_int (h : H a = some (.tup xs)) : rIs "int" [.ref a, .ty "int"] H Q = Q (.bl false) H := is_eq (tyIs.tup h) (by decide +kernel)
theorem is_tuple_str (h : H a = some (.tup xs)) : rIs "str" [.ref a, .ty "str"] H Q = Q (.bl false) H := is_eq (tyIs.tup h) (by decide +kernel)
theorem is_tuple_list (h : H a = some (.tup xs)) : rIs "list" [.ref a, .ty "list"] H Q = Q (.bl false) H := is_eq (tyIs.tup h) (by decide +kernel)
theorem is_tuple_tuple (h : H a = some (.tup xs)) : rIs "tuple" [.ref a, .ty "tuple"] H Q = Q (.bl true) H := is_eq (tyIs.tup h) (by decide +kernel)
end
theorem is_dict_dict {H : Hp} {a : Addr} {ks : List (Key × V)} {Q : VK} (h : H a = some (.dK ks)) : rIs "dict" [.ref a, .ty "dict"] H Q = Q (.bl true) H := is_eq (tyIs.dic h) (by decide +kernel)
theorem RpAll.item {H : Hp} {vs : List V} {ds : List PyData} {i : Nat} (r : RpAll H vs ds) (h : i < ds.length) : ∃ v, vs[i]? = some v ∧ Rp H v ds[i] := r.get (List.getElem?_eq_getElem h)
theorem depth_lt_list {ds : List PyData} {n : Nat} (h : PyData.depthAll ds < n) : ∀ d ∈ ds, d.depth < n := by
  induction ds with
  | nil => intro d hd; cases hd
  | cons a r ih =>
    simp only [PyData.depthAll] at h
    intro d hd
    rcases List.mem_cons.mp hd with rfl | hd
    · omega
    · exact ih (by omega) d hd
/-- the items, one by one -/
theorem alike_loop {n : Nat} {x y : Addr} {xs ys : List V} {ds : List PyData} {H : Hp} {Q : VK} (hx : H x = some (.lst xs) ∨ H x = some (.tup xs)) (hy : H y = some (.lst ys) ∨ H y = some (.tup ys)) (rx : RpAll H xs ds) (ry : RpAll H ys ds)
    (hd : ∀ d ∈ ds, d.depth < n) (k : Q (.bl true) H) {K : PySem.W.Frag} (hz : ys.length < 4611686018427387904) :
    tSeq (tFor (iRng1 (tCons (tCB rLenQ (tCons (tVar 1) tNil)) tNil)) (gName 2)
      (tIfS (tNot (tB (tCall (sp_L_alike n) [] E0 (tCons (tOp rXQ (tVar 0) (tVar 2)) (tCons (tOp rXQ (tVar 1) (tVar 2)) tNil))))) (tRet (tC (.bl false))) tNext))
      (tRet (tC (.bl true))) { nx := fun _ H' => Q .non H', rt := Q } [some (.ref x), some (.ref y), none] H := by
  refine st_seq (forR (n := (ys.length : Int)) (fun R h => ⟨_, rfl, y, ys, rfl, hy, h⟩) (by omega) (by omega) (fun _ σ' H' => H' = H ∧ σ'[0]? = some (some (.ref x)) ∧ σ'[1]? = some (some (.ref y)) ∧ 2 < σ'.length) ⟨rfl, rfl, rfl, by simp⟩ ?_ ?_)
  · rintro i σ' H' hi ⟨rfl, g0, g1, g2⟩
    have e1 := rx.length
    have e2 := ry.length
    have hi' : i < ds.length := by omega
    obtain ⟨v, hv, rv⟩ := rx.item hi'
    obtain ⟨u, hu, ru⟩ := ry.item hi'
    have s0 : (σ'.set 2 (some (V.int (i : Int))))[0]? = some (some (.ref x)) := by simp [g0]
    have s1 : (σ'.set 2 (some (V.int (i : Int))))[1]? = some (some (.ref y)) := by simp [g1]
    have s2 : (σ'.set 2 (some (V.int (i : Int))))[2]? = some (some (.int (i : Int))) := by simp [g2]
    refine ⟨_, s0, _, s2, x, xs, _, v, rfl, rfl, hx, atI_nat hv, ?_⟩
    refine ⟨_, s1, _, s2, y, ys, _, u, rfl, rfl, hy, atI_nat hu, ?_⟩
    refine ⟨v, u, ds[i], rfl, rv, ru, hd _ (List.getElem_mem hi'), true, rfl, ?_⟩
    exact iteF ⟨rfl, s0, s1, by simpa using g2⟩
  · rintro σ' H' ⟨rfl, _⟩
    exact k
theorem ite_of {p : Prop} {c : Prop} [Decidable c] {q : Prop} (h : c) (k : p) : if c then p else q := by rw [if_pos h]; exact k
theorem rd_L_alike {K : PySem.W.Frag} {n : Nat} {vs : List V} {H : Hp} {Q : VK} {E : XK} (h : sp_L_alike (n + 1) vs H Q E) (hw : HSz H) : t_L_alike K n { nx := fun _ H' => Q .non H', rt := Q } (start ["_", "_", "_"] vs) H := by
  obtain ⟨x, y, d, rfl, hx, hy, hd, k⟩ := h
  show t_L_alike K n _ [some x, some y, none] H
  unfold t_L_alike
  refine st_seq ?_
  cases d with
  | none =>
    cases hx; cases hy
    push_cast
    exact k
  | bool b =>
    cases hx; cases hy
    push_cast
    refine st_seq ?_
    push_cast [is_bool_bool]
    exact k
  | int i =>
    cases hx; cases hy
    push_cast
    refine st_seq ?_
    push_cast [is_int_bool]
    refine st_seq ?_
    push_cast [is_int_bool, is_int_int]
    exact k
  | str z =>
    cases hx; cases hy
    push_cast
    refine st_seq ?_
    push_cast [is_str_bool]
    refine st_seq ?_
    push_cast [is_str_int]
    refine st_seq ?_
    push_cast [is_str_str]
    exact k
  | list ds =>
    cases hx with | lst hx rx => ?_
    cases hy with | lst hy ry => ?_
    push_cast
    refine st_seq ?_
    push_cast [is_list_bool hy]
    refine st_seq ?_
    push_cast [is_list_int hy]
    refine st_seq ?_
    push_cast [is_list_str hy]
    refine st_seq ?_
    push_cast [is_list_tuple hy, is_list_tuple hx, is_list_list hy, is_list_list hx]
    refine st_seq ?_
    have e1 := rx.length
    have e2 := ry.length
    push_cast [hx, hy]
    rw [e1, e2]
    push_cast [eq_self]
    exact alike_loop (.inl hx) (.inl hy) rx ry (depth_lt_list (by simp only [PyData.depth] at hd; omega)) k (K := K) (Nat.lt_of_le_of_lt ((hw _).1 _ hy) (by decide))
  | tuple ds =>
    cases hx with | tup hx rx => ?_
    cases hy with | tup hy ry => ?_
    push_cast
    refine st_seq ?_
    push_cast [is_tuple_bool hy]
    refine st_seq ?_
    push_cast [is_tuple_int hy]
    refine st_seq ?_
    push_cast [is_tuple_str hy]
    refine st_seq ?_
    push_cast [is_tuple_tuple hy, is_tuple_tuple hx, is_tuple_list hy, is_tuple_list hx]
    refine st_seq ?_
    have e1 := rx.length
    have e2 := ry.length
    push_cast [hx, hy]
    rw [e1, e2]
    push_cast [eq_self]
    exact alike_loop (.inr hx) (.inr hy) rx ry (depth_lt_list (by simp only [PyData.depth] at hd; omega)) k (K := K) (Nat.lt_of_le_of_lt ((hw _).2.1 _ hy) (by decide))
  | dict kvs => cases hx

section
variable {p q : Prop} [Decidable p] [Decidable q] {X Y : Prop}
theorem i2 (h1 : p → X) (h2 : ¬ p → Y) : if p then X else Y := by
  split
  · next h => exact h1 h
  · next h => exact h2 h
theorem iteT' (h : p) (k : X) : if p then X else Y := by rw [if_pos h]; exact k
theorem iteF' (h : ¬ p) (k : Y) : if p then X else Y := by rw [if_neg h]; exact k
theorem or2 (h1 : p ∨ q → X) (h2 : ¬ p → ¬ q → Y) : if p then X else if q then X else Y := i2 (fun h => h1 (.inl h)) fun h => i2 (fun h' => h1 (.inr h')) fun h' => h2 h h'
theorem and2 (h1 : p → q → X) (h2 : ¬ (p ∧ q) → Y) : if p then (if q then X else Y) else Y := i2 (fun h => i2 (fun h' => h1 h h') fun h' => h2 fun z => h' z.2) fun h => h2 fun z => h z.1
end
/-! ### promises of the makers of programs, and of codes -/
def rowC (f k m : Nat) : Nat := (if k < 2 then 8 else m) * f
def stC : Nat → Nat
  | 0 => 1
  | k + 1 => 1 + rowC (stC k) k 3 + rowC (stC k) k 2
def sp_L_name : Sp := fun vs H Q _ => ∃ (b l : Addr), vs = [.ref b] ∧ BoxAt H b l ∧ ∀ x H', Nm8 x → BoxAt H' b l → Fr [b, l] H H' → Q (.str x) H'
theorem len_L_name (vs : List V) (H : Hp) (Q : VK) (E : XK) (h : sp_L_name vs H Q E) : vs.length = 1 := by
  obtain ⟨_, _, rfl, _⟩ := h
  rfl
def sp_L_part (n : Nat) : Sp := fun vs H Q _ => ∃ (b l : Addr) (k : Nat), vs = [.ref b, .int k] ∧ BoxAt H b l ∧ k < n ∧ ∀ (e : Ex) v H', e.ok → e.dep ≤ k + 1 → Tp H' e.d v → BoxAt H' b l → Fr [b, l] H H' → Q v H'
theorem len_L_part {n : Nat} (vs : List V) (H : Hp) (Q : VK) (E : XK) (h : sp_L_part n vs H Q E) : vs.length = 2 := by
  obtain ⟨_, _, _, rfl, _⟩ := h
  rfl
theorem no_L_part (vs : List V) (H : Hp) (Q : VK) (E : XK) : ¬ sp_L_part 0 vs H Q E := fun ⟨_, _, _, _, _, h, _⟩ => absurd h (Nat.not_lt_zero _)
def sp_L_row (n : Nat) : Sp := fun vs H Q _ => ∃ (b l : Addr) (k m : Nat), vs = [.ref b, .int k, .int m] ∧ BoxAt H b l ∧ 2 * k + 1 < n ∧ m ≤ 8 ∧
  ∀ (p : List Sm) v H', okL 5 p → dpL p ≤ 2 * k + 2 → cntL p ≤ rowC (stC k) k m → Tp H' (rowD p) v → BoxAt H' b l → Fr [b, l] H H' → Q v H'
theorem len_L_row {n : Nat} (vs : List V) (H : Hp) (Q : VK) (E : XK) (h : sp_L_row n vs H Q E) : vs.length = 3 := by
  obtain ⟨_, _, _, _, rfl, _⟩ := h
  rfl
theorem no_L_row (vs : List V) (H : Hp) (Q : VK) (E : XK) : ¬ sp_L_row 0 vs H Q E := fun ⟨_, _, _, _, _, _, h, _⟩ => absurd h (Nat.not_lt_zero _)
def sp_L_statement (n : Nat) : Sp := fun vs H Q _ => ∃ (b l : Addr) (k : Nat), vs = [.ref b, .int k] ∧ BoxAt H b l ∧ 2 * k < n ∧
  ∀ (s : Sm) v H', s.ok 5 → s.dp ≤ 2 * k + 1 → s.cnt ≤ stC k → Tp H' s.d v → BoxAt H' b l → Fr [b, l] H H' → Q v H'
theorem len_L_statement {n : Nat} (vs : List V) (H : Hp) (Q : VK) (E : XK) (h : sp_L_statement n vs H Q E) : vs.length = 2 := by
  obtain ⟨_, _, _, rfl, _⟩ := h
  rfl
theorem no_L_statement (vs : List V) (H : Hp) (Q : VK) (E : XK) : ¬ sp_L_statement 0 vs H Q E := fun ⟨_, _, _, _, _, h, _⟩ => absurd h (Nat.not_lt_zero _)
/-- a row, within a while that counts down -/
def countP (t : Int) (p : List Sm) : List Sm := [.set ("d" : Str) (.num t), .whl (.name ("d" : Str)) (p ++ [.set ("d" : Str) (.op .sub (.name ("d" : Str)) (.num 1))])]
def sp_L_counted : Sp := fun vs H Q _ => ∃ (v : V) (t : Int) (p : List Sm), vs = [v, .int t] ∧ Tp H (rowD p) v ∧ cntL p ≤ 20000 ∧ ∀ v' H', Tp H' (rowD (countP t p)) v' → Fr [] H H' → Q v' H'
theorem len_L_counted (vs : List V) (H : Hp) (Q : VK) (E : XK) (h : sp_L_counted vs H Q E) : vs.length = 2 := by
  obtain ⟨_, _, _, rfl, _⟩ := h
  rfl
def sp_L_program : Sp := fun vs H Q _ => ∃ (b l : Addr), vs = [.ref b, .int 3] ∧ BoxAt H b l ∧ ∀ (p : List Sm) v H', okL 5 p → dpL p ≤ 10 → cntL p ≤ 10940 → Tp H' (rowD p) v → BoxAt H' b l → Fr [b, l] H H' → Q v H'
theorem len_L_program (vs : List V) (H : Hp) (Q : VK) (E : XK) (h : sp_L_program vs H Q E) : vs.length = 2 := by
  obtain ⟨_, _, rfl, _⟩ := h
  rfl
def sp_L_part_code (n : Nat) : Sp := fun vs H Q _ => ∃ (v : V) (e : Ex), vs = [v] ∧ Tp H e.d v ∧ e.dep ≤ n ∧ e.dep ≤ 10 ∧ ∀ a xs H', H' a = some (.lst xs) → TpL H' (e.code.map Rw.d) xs → Fr [] H H' → Q (.ref a) H'
theorem len_L_part_code {n : Nat} (vs : List V) (H : Hp) (Q : VK) (E : XK) (h : sp_L_part_code n vs H Q E) : vs.length = 1 := by
  obtain ⟨_, _, rfl, _⟩ := h
  rfl
theorem Ex.dep_pos (e : Ex) : 0 < e.dep := by cases e <;> simp only [Ex.dep] <;> omega
theorem no_L_part_code (vs : List V) (H : Hp) (Q : VK) (E : XK) : ¬ sp_L_part_code 0 vs H Q E := fun ⟨_, e, _, _, h, _⟩ => absurd e.dep_pos (by omega)
theorem Sm.dp_pos (s : Sm) : 0 < s.dp := by cases s <;> simp only [Sm.dp] <;> omega
theorem dpL_pos (l : List Sm) : 0 < dpL l := by cases l <;> simp only [dpL] <;> omega
theorem Un.dp_pos (o : Un) : 0 < o.dp := by
  cases o with
  | row l => exact dpL_pos l
  | st s => exact s.dp_pos
def sp_L_code (n : Nat) : Sp := fun vs H Q _ => ∃ (v : V) (b : Nat) (o : Un), vs = [v, .int b] ∧ Tp H o.d v ∧ o.dp ≤ n ∧ o.ok 5 ∧ o.cnt ≤ 20000 ∧ ∀ a xs H', H' a = some (.lst xs) → TpL H' ((o.code b).map Rw.d) xs → Fr [] H H' → Q (.ref a) H'
theorem len_L_code {n : Nat} (vs : List V) (H : Hp) (Q : VK) (E : XK) (h : sp_L_code n vs H Q E) : vs.length = 2 := by
  obtain ⟨_, _, _, rfl, _⟩ := h
  rfl
theorem no_L_code (vs : List V) (H : Hp) (Q : VK) (E : XK) : ¬ sp_L_code 0 vs H Q E := fun ⟨_, _, o, _, _, h, _⟩ => absurd o.dp_pos (by omega)
/-- all rows of a program -/
def progC (p : List Sm) : List Rw := codeL p 0 ++ [.fin]
def rowsD (rs : List Rw) : PyData := .tuple (rs.map Rw.d)
def PrOk (p : List Sm) : Prop := okL 5 p ∧ dpL p ≤ 12 ∧ cntL p ≤ 20000
def sp_L_coded : Sp := fun vs H Q _ => ∃ (v : V) (p : List Sm), vs = [v] ∧ Tp H (rowD p) v ∧ PrOk p ∧ ∀ v' H', Tp H' (rowsD (progC p)) v' → Fr [] H H' → Q v' H'
theorem len_L_coded (vs : List V) (H : Hp) (Q : VK) (E : XK) (h : sp_L_coded vs H Q E) : vs.length = 1 := by
  obtain ⟨_, _, rfl, _⟩ := h
  rfl
def sp_coded : Sp := sp_L_coded
theorem len_coded (vs : List V) (H : Hp) (Q : VK) (E : XK) (h : sp_coded vs H Q E) : vs.length = 1 := len_L_coded vs H Q E h
/-! Coder -/
def CoderAt (c : CA) (H : Hp) (o m : Addr) (xs : List V) : Prop := (∃ dx, H o = some (.ins c.coder dx [("made", .ref m)])) ∧ H m = some (.lst xs)
def sp_Coder___init__ (c : CA) : Sp := fun vs H Q _ => ∃ (o dx : Addr), vs = [.ref o] ∧ H o = some (.ins c.coder dx []) ∧ ∀ m H', H m = none → CoderAt c H' o m [] → Fr [o] H H' → Q .non H'
theorem len_Coder___init__ {c : CA} (vs : List V) (H : Hp) (Q : VK) (E : XK) (h : sp_Coder___init__ c vs H Q E) : vs.length = 1 := by
  obtain ⟨_, _, rfl, _⟩ := h
  rfl
def sp_Coder_put (c : CA) : Sp := fun vs H Q _ => ∃ (o m : Addr) (v : V) (xs : List V), vs = [.ref o, v] ∧ CoderAt c H o m xs ∧ xs.length < 4194304 ∧ ∀ H', CoderAt c H' o m (xs ++ [v]) → Fr [m] H H' → Q (.int xs.length) H'
theorem len_Coder_put {c : CA} (vs : List V) (H : Hp) (Q : VK) (E : XK) (h : sp_Coder_put c vs H Q E) : vs.length = 2 := by
  obtain ⟨_, _, _, _, rfl, _⟩ := h
  rfl
def sp_Coder_part (c : CA) (n : Nat) : Sp := fun vs H Q _ => ∃ (o m : Addr) (v : V) (xs : List V) (rs : List Rw) (e : Ex), vs = [.ref o, v] ∧ CoderAt c H o m xs ∧ TpL H (rs.map Rw.d) xs ∧ Tp H e.d v ∧ e.dep ≤ n ∧ rs.length + e.code.length < 4194304 ∧
  ∀ xs' H', CoderAt c H' o m xs' → TpL H' ((rs ++ e.code).map Rw.d) xs' → Fr [m] H H' → Q .non H'
theorem len_Coder_part {c : CA} {n : Nat} (vs : List V) (H : Hp) (Q : VK) (E : XK) (h : sp_Coder_part c n vs H Q E) : vs.length = 2 := by
  obtain ⟨_, _, _, _, _, _, rfl, _⟩ := h
  rfl
theorem no_Coder_part {c : CA} (vs : List V) (H : Hp) (Q : VK) (E : XK) : ¬ sp_Coder_part c 0 vs H Q E := fun ⟨_, _, _, _, _, e, _, _, _, _, h, _⟩ => absurd e.dep_pos (by omega)
def spLay (c : CA) (n j : Nat) (good : Un → Prop) : Sp := fun vs H Q _ => ∃ (o m : Addr) (v : V) (xs : List V) (rs : List Rw) (u : Un), vs = [.ref o, v] ∧ CoderAt c H o m xs ∧ TpL H (rs.map Rw.d) xs ∧ Tp H u.d v ∧ good u ∧ 2 * u.dp ≤ n + j ∧ u.ok 5 ∧ rs.length + 35 * u.cnt < 4194304 ∧
  ∀ xs' H', CoderAt c H' o m xs' → TpL H' ((rs ++ u.code rs.length).map Rw.d) xs' → Fr [m] H H' → Q .non H'
theorem len_spLay {c : CA} {n j : Nat} {g : Un → Prop} (vs : List V) (H : Hp) (Q : VK) (E : XK) (h : spLay c n j g vs H Q E) : vs.length = 2 := by
  obtain ⟨_, _, _, _, _, _, rfl, _⟩ := h
  rfl
theorem no_spLay {c : CA} {j : Nat} {g : Un → Prop} (hj : j ≤ 1) (vs : List V) (H : Hp) (Q : VK) (E : XK) : ¬ spLay c 0 j g vs H Q E := fun ⟨_, _, _, _, _, u, _, _, _, _, _, h, _⟩ => absurd u.dp_pos (by omega)
def isIte : Un → Prop
  | .st (.ite _ _ _) => True
  | _ => False
def isWhl : Un → Prop
  | .st (.whl _ _) => True
  | _ => False
def sp_Coder_lay (c : CA) (n : Nat) : Sp := spLay c n 0 fun _ => True
def sp_Coder_choice (c : CA) (n : Nat) : Sp := spLay c n 1 isIte
def sp_Coder_loop (c : CA) (n : Nat) : Sp := spLay c n 1 isWhl
theorem len_Coder_lay {c : CA} {n : Nat} (vs : List V) (H : Hp) (Q : VK) (E : XK) (h : sp_Coder_lay c n vs H Q E) : vs.length = 2 := len_spLay vs H Q E h
theorem len_Coder_choice {c : CA} {n : Nat} (vs : List V) (H : Hp) (Q : VK) (E : XK) (h : sp_Coder_choice c n vs H Q E) : vs.length = 2 := len_spLay vs H Q E h
theorem len_Coder_loop {c : CA} {n : Nat} (vs : List V) (H : Hp) (Q : VK) (E : XK) (h : sp_Coder_loop c n vs H Q E) : vs.length = 2 := len_spLay vs H Q E h
theorem no_Coder_lay {c : CA} (vs : List V) (H : Hp) (Q : VK) (E : XK) : ¬ sp_Coder_lay c 0 vs H Q E := no_spLay (by decide) vs H Q E
theorem no_Coder_choice {c : CA} (vs : List V) (H : Hp) (Q : VK) (E : XK) : ¬ sp_Coder_choice c 0 vs H Q E := no_spLay (by decide) vs H Q E
theorem no_Coder_loop {c : CA} (vs : List V) (H : Hp) (Q : VK) (E : XK) : ¬ sp_Coder_loop c 0 vs H Q E := no_spLay (by decide) vs H Q E
theorem CoderAt.al {c : CA} {H H' : Hp} {o m p : Addr} {xs : List V} {u : HO} (h : CoderAt c H o m xs) (a : Al H p u H') : CoderAt c H' o m xs := ⟨⟨_, a.k h.1.choose_spec⟩, a.k h.2⟩
def sp_law (K : PySem.W.Frag) : Sp := fun vs H Q _ => ∃ (a : Addr) (ns : List Int), vs = [.ref a] ∧ SqL K H a (ns.map V.int) ∧ ns.length ≤ 63 ∧ ∀ H', Q (.bl true) H'
theorem len_law {K : PySem.W.Frag} (vs : List V) (H : Hp) (Q : VK) (E : XK) (h : sp_law K vs H Q E) : vs.length = 1 := by
  obtain ⟨_, _, rfl, _⟩ := h
  rfl

/-- _law_name -/
def t_L_name (K : PySem.W.Frag) : TS :=
  (tSeq (tAsg (tOp (rI CMul fun i j => .int (i * j)) (tC (.int 4)) (tCB rInt1 (tCons (tOp rEq (tCall sp_L_take [] E0 (tCons (tVar 0) (tCons (tC (.int 6)) tNil))) (tC (.int 1))) tNil))) (gName 1))
    (tRet (tOp rIxS (tC (.str ("abcdefgh" : Str))) (tOp (rI0 fun i j => .int (i + j)) (tCall sp_L_take [] E0 (tCons (tVar 0) (tCons (tC (.int 4)) tNil))) (tVar 1)))))

/-- _law_part from 4 -/
def t_L_part_4 (K : PySem.W.Frag) (n : Nat) : TS :=
  (tSeq (tAsg (tCall (sp_L_part n) [] E0 (tCons (tVar 0) (tCons (tOp (rI0 fun i j => .int (i - j)) (tVar 1) (tC (.int 1))) tNil))) (gName 4))
    (tRet (xTup (tCons (tVar 3) (tCons (tVar 4) (tCons (tCall (sp_L_part n) [] E0 (tCons (tVar 0) (tCons (tOp (rI0 fun i j => .int (i - j)) (tVar 1) (tC (.int 1))) tNil))) tNil))))))

/-- _law_part from 3 -/
def t_L_part_3 (K : PySem.W.Frag) (n : Nat) : TS :=
  tSeq (tAsg (tOp rXL (xLst (tCons (tC (.str (wd 3))) (tCons (tC (.str (wd 4))) (tCons (tC (.str (wd 5))) (tCons (tC (.str (wd 6))) tNil))))) (tCall sp_L_take [] E0 (tCons (tVar 0) (tCons (tC (.int 4)) tNil)))) (gName 3)) (t_L_part_4 K n)

/-- _law_part from 2 -/
def t_L_part_2 (K : PySem.W.Frag) (n : Nat) : TS :=
  tSeq (tIfS (tOr (tTest (tOp rEq (tVar 1) (tC (.int 0)))) (tTest (tOp (rI0 fun i j => .bl (decide (i < j))) (tVar 2) (tC (.int 6))))) (tSeq (tIfS (tTest (tOp rEq (tVar 2) (tC (.int 5)))) (tRet (xTup (tCons (tC (.str (wd 1))) (tCons (tCall sp_L_text [] E0 (tCons (tVar 0) tNil)) tNil)))) tNext)
    (tRet (xTup (tCons (tC (.str (wd 0))) (tCons (tOp rXL (xLst (tCons (tCall sp_L_take [] E0 (tCons (tVar 0) (tCons (tC (.int 4)) tNil))) (tCons (tCall sp_L_take [] E0 (tCons (tVar 0) (tCons (tC (.int 10000)) tNil))) tNil))) (tCB rInt1 (tCons (tOp rEq (tVar 2) (tC (.int 4))) tNil))) tNil))))) tNext) (t_L_part_3 K n)

/-- _law_part from 1 -/
def t_L_part_1 (K : PySem.W.Frag) (n : Nat) : TS :=
  tSeq (tIfS (tTest (tOp (rI0 fun i j => .bl (decide (i < j))) (tVar 2) (tC (.int 4)))) (tRet (xTup (tCons (tC (.str (wd 2))) (tCons (tCall sp_L_name [] E0 (tCons (tVar 0) tNil)) tNil)))) tNext) (t_L_part_2 K n)

/-- _law_part -/
def t_L_part (K : PySem.W.Frag) (n : Nat) : TS :=
  tSeq (tAsg (tCall sp_L_take [] E0 (tCons (tVar 0) (tCons (tC (.int 9)) tNil))) (gName 2)) (t_L_part_1 K n)

/-- _law_row from 1 -/
def t_L_row_1 (K : PySem.W.Frag) (n : Nat) : TS :=
  (tRet (xTup (tCons (tC (.str (wd 13))) (tCons (tCB rTupL (tCons (tLc (iRng1 (tCons (tVar 2) tNil)) (gName 3) tYes (tCall (sp_L_statement n) [] E0 (tCons (tVar 0) (tCons (tVar 1) tNil))) [3]) tNil)) tNil))))

/-- _law_row -/
def t_L_row (K : PySem.W.Frag) (n : Nat) : TS :=
  tSeq (tIfS (tAnd (tTest (tOp (rI0 fun i j => .bl (decide (i < j))) (tVar 1) (tC (.int 2)))) (tTest (tOp rEq (tCall sp_L_take [] E0 (tCons (tVar 0) (tCons (tC (.int 8)) tNil))) (tC (.int 1))))) (tAsg (tCall sp_L_take [] E0 (tCons (tVar 0) (tCons (tC (.int 9)) tNil))) (gName 2)) tNext) (t_L_row_1 K n)

/-- _law_statement from 5 -/
def t_L_statement_5 (K : PySem.W.Frag) (n : Nat) : TS :=
  (tSeq (tIfS (tTest (tOp (rI0 fun i j => .bl (decide (i < j))) (tVar 2) (tC (.int 7)))) (tRet (xTup (tCons (tC (.str (wd 14))) (tCons (tVar 4) (tCons (tVar 5) (tCons (tCall (sp_L_row n) [] E0 (tCons (tVar 0) (tCons (tOp (rI0 fun i j => .int (i - j)) (tVar 1) (tC (.int 1))) (tCons (tCall sp_L_take [] E0 (tCons (tVar 0) (tCons (tC (.int 3)) tNil))) tNil)))) tNil)))))) tNext)
    (tRet (xTup (tCons (tC (.str (wd 15))) (tCons (tVar 4) (tCons (tVar 5) tNil))))))

/-- _law_statement from 4 -/
def t_L_statement_4 (K : PySem.W.Frag) (n : Nat) : TS :=
  tSeq (tAsg (tCall (sp_L_row n) [] E0 (tCons (tVar 0) (tCons (tOp (rI0 fun i j => .int (i - j)) (tVar 1) (tC (.int 1))) (tCons (tCall sp_L_take [] E0 (tCons (tVar 0) (tCons (tC (.int 4)) tNil))) tNil)))) (gName 5)) (t_L_statement_5 K n)

/-- _law_statement from 3 -/
def t_L_statement_3 (K : PySem.W.Frag) (n : Nat) : TS :=
  tSeq (tAsg (tCall (sp_L_part 6) [] E0 (tCons (tVar 0) (tCons (tC (.int 2)) tNil))) (gName 4)) (t_L_statement_4 K n)

/-- _law_statement from 2 -/
def t_L_statement_2 (K : PySem.W.Frag) (n : Nat) : TS :=
  tSeq (tIfS (tOr (tTest (tOp rEq (tVar 1) (tC (.int 0)))) (tTest (tOp (rI0 fun i j => .bl (decide (i < j))) (tVar 2) (tC (.int 5))))) (tSeq (tIfS (tTest (tOp (rInT false) (tVar 2) (xTup (tCons (tC (.int 0)) (tCons (tC (.int 1)) (tCons (tC (.int 9)) tNil)))))) (tRet (xTup (tCons (tC (.str (wd 7))) (tCons (tCall (sp_L_part 6) [] E0 (tCons (tVar 0) (tCons (tVar 3) tNil))) tNil)))) tNext)
    (tRet (xTup (tCons (tC (.str (wd 8))) (tCons (tCall sp_L_name [] E0 (tCons (tVar 0) tNil)) (tCons (tCall (sp_L_part 6) [] E0 (tCons (tVar 0) (tCons (tVar 3) tNil))) tNil)))))) tNext) (t_L_statement_3 K n)

/-- _law_statement from 1 -/
def t_L_statement_1 (K : PySem.W.Frag) (n : Nat) : TS :=
  tSeq (tAsg (tOp rXL (xLst (tCons (tC (.int 2)) (tCons (tC (.int 4)) tNil))) (tCB rInt1 (tCons (tOp rEq (tCall sp_L_take [] E0 (tCons (tVar 0) (tCons (tC (.int 8)) tNil))) (tC (.int 1))) tNil))) (gName 3)) (t_L_statement_2 K n)

/-- _law_statement -/
def t_L_statement (K : PySem.W.Frag) (n : Nat) : TS :=
  tSeq (tAsg (tCall sp_L_take [] E0 (tCons (tVar 0) (tCons (tC (.int 10)) tNil))) (gName 2)) (t_L_statement_1 K n)

/-- _law_counted from 1 -/
def t_L_counted_1 (K : PySem.W.Frag) : TS :=
  (tSeq (tAsg (xTup (tCons (tC (.str (wd 15))) (tCons (xTup (tCons (tC (.str (wd 2))) (tCons (tC (.str ("d" : Str))) tNil))) (tCons (xTup (tCons (tC (.str (wd 13))) (tCons (tOp rCatX (tOp rXT (tVar 0) (tC (.int 1))) (xTup (tCons (tVar 2) tNil))) tNil))) tNil)))) (gName 3))
    (tRet (xTup (tCons (tC (.str (wd 13))) (tCons (xTup (tCons (xTup (tCons (tC (.str (wd 8))) (tCons (tC (.str ("d" : Str))) (tCons (xTup (tCons (tC (.str (wd 0))) (tCons (tVar 1) tNil))) tNil)))) (tCons (tVar 3) tNil))) tNil)))))

/-- _law_counted -/
def t_L_counted (K : PySem.W.Frag) : TS :=
  tSeq (tAsg (xTup (tCons (tC (.str (wd 8))) (tCons (tC (.str ("d" : Str))) (tCons (xTup (tCons (tC (.str (wd 4))) (tCons (xTup (tCons (tC (.str (wd 2))) (tCons (tC (.str ("d" : Str))) tNil))) (tCons (xTup (tCons (tC (.str (wd 0))) (tCons (tC (.int 1)) tNil))) tNil)))) tNil)))) (gName 2)) (t_L_counted_1 K)

/-- _law_program from 4 -/
def t_L_program_4 (K : PySem.W.Frag) : TS :=
  (tRet (tVar 3))

/-- _law_program from 3 -/
def t_L_program_3 (K : PySem.W.Frag) : TS :=
  tSeq (tIfS (tTest (tOp rEq (tCall sp_L_take [] E0 (tCons (tVar 0) (tCons (tC (.int 2)) tNil))) (tC (.int 1)))) (tAsg (tCall sp_L_counted [] E0 (tCons (tVar 3) (tCons (tOp (rI0 fun i j => .int (i + j)) (tC (.int 1)) (tCall sp_L_take [] E0 (tCons (tVar 0) (tCons (tC (.int 20)) tNil)))) tNil))) (gName 3)) tNext) (t_L_program_4 K)

/-- _law_program from 2 -/
def t_L_program_2 (K : PySem.W.Frag) : TS :=
  tSeq (tAsg (tCall (sp_L_row 8) [] E0 (tCons (tVar 0) (tCons (tVar 1) (tCons (tVar 2) tNil)))) (gName 3)) (t_L_program_3 K)

/-- _law_program from 1 -/
def t_L_program_1 (K : PySem.W.Frag) : TS :=
  tSeq (tIfS (tTest (tOp rEq (tCall sp_L_take [] E0 (tCons (tVar 0) (tCons (tC (.int 8)) tNil))) (tC (.int 1)))) (tAsg (tOp (rI0 fun i j => .int (i + j)) (tC (.int 1)) (tCall sp_L_take [] E0 (tCons (tVar 0) (tCons (tC (.int 8)) tNil)))) (gName 2)) tNext) (t_L_program_2 K)

/-- _law_program -/
def t_L_program (K : PySem.W.Frag) : TS :=
  tSeq (tAsg (tOp (rI0 fun i j => .int (i + j)) (tC (.int 1)) (tCall sp_L_take [] E0 (tCons (tVar 0) (tCons (tC (.int 3)) tNil)))) (gName 2)) (t_L_program_1 K)

theorem abc8 : ("abcdefgh" : Str).cps.toList = [97, 98, 99, 100, 101, 102, 103, 104] := by decide +kernel
theorem abc8_len : ("abcdefgh" : Str).length ≤ sizeLine := by decide +kernel
theorem abc8_at {i : Int} (h0 : 0 ≤ i) (h1 : i < 8) : ∃ c : Nat, atI ("abcdefgh" : Str).cps.toList i = some c ∧ Nm8 ⟨#[c]⟩ := by
  rw [abc8]
  have hi : i = 0 ∨ i = 1 ∨ i = 2 ∨ i = 3 ∨ i = 4 ∨ i = 5 ∨ i = 6 ∨ i = 7 := by omega
  rcases hi with hi | hi | hi | hi | hi | hi | hi | hi <;> subst hi
  · exact ⟨97, rfl, 0, by decide, rfl⟩
  · exact ⟨98, rfl, 1, by decide, rfl⟩
  · exact ⟨99, rfl, 2, by decide, rfl⟩
  · exact ⟨100, rfl, 3, by decide, rfl⟩
  · exact ⟨101, rfl, 4, by decide, rfl⟩
  · exact ⟨102, rfl, 5, by decide, rfl⟩
  · exact ⟨103, rfl, 6, by decide, rfl⟩
  · exact ⟨104, rfl, 7, by decide, rfl⟩
theorem nm_d : Nm8 ("d" : Str) := ⟨3, by decide, by decide +kernel⟩
theorem rd_L_name {K : PySem.W.Frag} {vs : List V} {H : Hp} {Q : VK} {E : XK} (h : sp_L_name vs H Q E) : t_L_name K { nx := fun _ H' => Q .non H', rt := Q } (start ["_", "_"] vs) H := by
  obtain ⟨b, l, rfl, B, k⟩ := h
  show t_L_name K _ [some (.ref b), none] H
  unfold t_L_name; refine st_seq ?_
  push_cast
  refine ⟨b, l, 6, rfl, B, by decide, by decide, fun r H1 r0 r1 B1 f1 => ?_⟩
  push_cast
  refine ⟨.inl ⟨by decide, by decide⟩, b, l, 4, rfl, B1, by decide, by decide, fun s H2 s0 s1 B2 f2 => ?_⟩
  push_cast
  obtain ⟨c, hc, nc⟩ := abc8_at (i := s + 4 * if r = 1 then 1 else 0) (by split <;> omega) (by split <;> omega)
  exact ⟨abc8_len, c, hc, k _ _ nc B2 (f1.trans f2)⟩
theorem rd_L_part {K : PySem.W.Frag} {n : Nat} {vs : List V} {H : Hp} {Q : VK} {E : XK} (h : sp_L_part (n + 1) vs H Q E) : t_L_part K n { nx := fun _ H' => Q .non H', rt := Q } (start ["_", "_", "_", "_", "_"] vs) H := by
  obtain ⟨b, l, k, rfl, B, hk, kk⟩ := h
  show t_L_part K n _ [some (.ref b), some (.int k), none, none, none] H
  unfold t_L_part; refine st_seq ?_
  push_cast
  refine ⟨b, l, 9, rfl, B, by decide, by decide, fun r H1 r0 r1 B1 f1 => ?_⟩
  unfold t_L_part_1; refine st_seq ?_
  push_cast
  split
  · refine ⟨b, l, rfl, B1, fun x H2 nx B2 f2 => ⟨(by simp only [List.length_cons, List.length_nil]; decide), fun p H3 A => ?_⟩⟩
    exact kk (.name x) _ _ nx (by simp only [Ex.dep]; omega) (.tup A.at_ (.cons (.str _) (.cons (.str _) .nil))) (B2.keep A.fr) ((f1.trans f2).al A)
  · unfold t_L_part_2; refine st_seq ?_
    push_cast
    refine or2 (fun h6 => ?_) (fun h0 h6 => ?_)
    refine st_seq ?_
    push_cast
    refine i2 (fun h5 => ?_) fun h5 => ?_
    · refine ⟨b, l, rfl, B1, fun z H2 hz B2 f2 => ⟨(by simp only [List.length_cons, List.length_nil]; decide), fun p H3 A => ?_⟩⟩
      exact kk (.text z) _ _ hz (by simp only [Ex.dep]; omega) (.tup A.at_ (.cons (.str _) (.cons (.str _) .nil))) (B2.keep A.fr) ((f1.trans f2).al A)
    · refine ⟨b, l, 4, rfl, B1, by decide, by decide, fun x H2 x0 x1 B2 f2 => ?_⟩
      refine ⟨b, l, 10000, rfl, B2, by decide, by decide, fun y H3 y0 y1 B3 f3 => ?_⟩
      push_cast
      refine ⟨(by simp only [List.length_cons, List.length_nil]; decide), fun p H4 A => ?_⟩
      push_cast [A.at_]
      have hl : ∃ m, atI [V.int x, V.int y] (if r = 4 then 1 else 0) = some (.int m) ∧ 0 ≤ m ∧ m < 10000 := by
        split
        · exact ⟨_, atI1 _ _ _, y0, y1⟩
        · exact ⟨_, atI0 _ _, x0, by omega⟩
      obtain ⟨m, em, m0, m1⟩ := hl
      push_cast [em]
      refine ⟨(by simp only [List.length_cons, List.length_nil]; decide), fun q H5 A5 => ?_⟩
      exact kk (.num m) _ _ ⟨m0, m1⟩ (by simp only [Ex.dep]; omega) (.tup A5.at_ (.cons (.str _) (.cons (.int _) .nil))) ((B3.keep A.fr).keep A5.fr) ((((f1.trans f2).trans f3).al A).al A5)
    · unfold t_L_part_3; refine st_seq ?_
      push_cast
      refine ⟨(by simp only [List.length_cons, List.length_nil]; decide), fun p H2 A => ?_⟩
      refine ⟨b, l, 4, rfl, B1.keep A.fr, by decide, by decide, fun z H3 z0 z1 B3 f3 => ?_⟩
      have hp : H3 p = _ := f3.keep _ _ A.at_ (B1.off A.new)
      obtain ⟨s, es⟩ := sg4 z0 z1
      push_cast [hp, es]
      unfold t_L_part_4; refine st_seq ?_
      push_cast
      have ek : ((k - 1 : Nat) : Int) = (k : Int) - 1 := by omega
      refine ⟨b, l, k - 1, by rw [ek], B3, by omega, fun e1 v1 H4 ok1 d1 t1 B4 f4 => ?_⟩
      push_cast
      refine ⟨b, l, k - 1, by rw [ek], B4, by omega, fun e2 v2 H5 ok2 d2 t2 B5 f5 => ?_⟩
      refine ⟨(by simp only [List.length_cons, List.length_nil]; decide), fun q H6 A6 => ?_⟩
      exact kk (.op s e1 e2) _ _ ⟨ok1, ok2⟩ (by simp only [Ex.dep]; omega) (.tup A6.at_ (.cons (.str _) (.cons ((t1.tups f5.tu).tups A6.tu) (.cons (t2.tups A6.tu) .nil)))) (B5.keep A6.fr) (((((f1.al A).trans f3).trans f4).trans f5).al A6)
theorem cntL_snoc (l : List Sm) (s : Sm) : cntL (l ++ [s]) = cntL l + s.cnt := by rw [cntL_append]; simp [cntL]
theorem dpL_snoc : ∀ (l : List Sm) (s : Sm), dpL (l ++ [s]) = max (dpL l) (1 + s.dp)
  | [], s => by have := s.dp_pos; simp only [List.nil_append, dpL]; omega
  | a :: r, s => by rw [List.cons_append]; simp only [dpL, dpL_snoc r s]; omega
theorem okL_snoc {m : Nat} {l : List Sm} {s : Sm} (h : okL m l) (h' : s.ok m) : okL m (l ++ [s]) := okL_append h ⟨h', trivial⟩
theorem rowC_mono {f k m m' : Nat} (h : m ≤ m') : rowC f k m ≤ rowC f k m' := by
  unfold rowC
  split
  · exact Nat.le_refl _
  · exact Nat.mul_le_mul_right _ h
/-- the row's statements, one by one -/
theorem row_lc {K : PySem.W.Frag} {n : Nat} {b l : Addr} {k m m0 : Nat} {H : Hp} {Q : VK} {σ3 : Option V} (B : BoxAt H b l) (hk : 2 * k + 1 < n + 1) (hm : m ≤ 8) (hm0 : m * stC k ≤ rowC (stC k) k m0)
    (kk : ∀ (p : List Sm) v H', okL 5 p → dpL p ≤ 2 * k + 2 → cntL p ≤ rowC (stC k) k m0 → Tp H' (rowD p) v → BoxAt H' b l → Fr [b, l] H H' → Q v H') :
    t_L_row_1 K n { nx := fun _ H' => Q .non H', rt := Q } [some (.ref b), some (.int k), some (.int m), σ3] H := by
  unfold t_L_row_1
  push_cast
  refine lcR (n := (m : Int)) (fun R h => ⟨_, rfl, h⟩) (by omega) (by omega) fun L hL => ?_
  refine ⟨fun i Hc => ∃ (ss : List Sm) (xs : List V), ss.length = i ∧ Hc L = some (.lst xs) ∧ TpL Hc (ss.map Sm.d) xs ∧ okL 5 ss ∧ dpL ss ≤ 2 * k + 2 ∧ cntL ss ≤ i * stC k ∧ BoxAt Hc b l ∧ Fr [b, l] H Hc, ?_, ?_, ?_⟩
  · exact ⟨[], [], rfl, upd_same, .nil, trivial, by simp only [dpL]; omega, by simp [cntL], B.keep (Al.of hL).fr, (Al.of hL).fr⟩
  · rintro i Hc hi ⟨ss, xs, e1, h1, h2, h3, h4, h5, B1, f1⟩
    show LcTurn _ _ _ _ _ _ _ _ _
    unfold LcTurn
    push_cast [wipe, tYes]
    refine ⟨b, l, k, rfl, B1, by omega, fun s v H2 hs ds cs ts B2 f2 => ?_⟩
    have oL := B.off hL
    have hL2 : H2 L = _ := f2.keep _ _ h1 oL
    have M := Mu.of (o := .lst (xs ++ [v])) hL2 fun _ z => by cases z
    refine ⟨xs, hL2, ?_, ss ++ [s], by simp [e1], ?_, okL_snoc h3 hs, by rw [dpL_snoc]; omega, ?_, B2.mu M oL, (f1.trans f2).muN M hL⟩
    · rw [h2.length, List.length_map, e1]; exact Nat.lt_of_lt_of_le (m := 9) (by omega) (by decide)
    · rw [List.map_append]; exact (((h2.tups f2.tu).snoc ts).tups M.tu)
    · rw [cntL_snoc, Nat.succ_mul]; omega
  · rintro Hc ⟨ss, xs, e1, h1, h2, h3, h4, h5, B1, f1⟩
    push_cast [h1]
    intro p H2 A2
    refine ⟨(by simp only [List.length_cons, List.length_nil]; decide), fun q H3 A3 => ?_⟩
    refine kk ss _ _ h3 h4 (Nat.le_trans h5 (by simpa using hm0)) ?_ ((B1.keep A2.fr).keep A3.fr) ((f1.al A2).al A3)
    refine .tup A3.at_ (.cons (.str _) (.cons (.tup (A3.k A2.at_) ?_) .nil))
    rw [dL_map]
    exact (h2.tups A2.tu).tups A3.tu
theorem rd_L_row {K : PySem.W.Frag} {n : Nat} {vs : List V} {H : Hp} {Q : VK} {E : XK} (h : sp_L_row (n + 1) vs H Q E) : t_L_row K n { nx := fun _ H' => Q .non H', rt := Q } (start ["_", "_", "_", "_"] vs) H := by
  obtain ⟨b, l, k, m, rfl, B, hk, hm, kk⟩ := h
  show t_L_row K n _ [some (.ref b), some (.int k), some (.int m), none] H
  unfold t_L_row; refine st_seq ?_
  push_cast
  refine i2 (fun h2 => ?_) fun h2 => ?_
  · refine ⟨b, l, 8, rfl, B, by decide, by decide, fun r H1 r0 r1 B1 f1 => ?_⟩
    push_cast
    have h8 : ∀ m' : Nat, m' ≤ 8 → m' * stC k ≤ rowC (stC k) k m := fun m' h => by
      unfold rowC
      rw [if_pos (by omega)]
      exact Nat.mul_le_mul_right _ h
    refine i2 (fun h1 => ?_) fun h1 => ?_
    · refine ⟨b, l, 9, rfl, B1, by decide, by decide, fun s H2 s0 s1 B2 f2 => ?_⟩
      obtain ⟨m', rfl⟩ : ∃ m' : Nat, s = m' := ⟨s.toNat, by omega⟩
      exact row_lc B2 hk (by omega) (h8 m' (by omega)) fun p v H' o d ct t B' f' => kk p v H' o d ct t B' ((f1.trans f2).trans f')
    · exact row_lc B1 hk hm (h8 m hm) fun p v H' o d ct t B' f' => kk p v H' o d ct t B' (f1.trans f')
  · refine row_lc B hk hm ?_ kk
    unfold rowC
    rw [if_neg (by omega)]
    exact Nat.le_refl _
theorem rd_L_statement {K : PySem.W.Frag} {n : Nat} {vs : List V} {H : Hp} {Q : VK} {E : XK} (h : sp_L_statement (n + 1) vs H Q E) : t_L_statement K n { nx := fun _ H' => Q .non H', rt := Q } (start ["_", "_", "_", "_", "_", "_"] vs) H := by
  obtain ⟨b, l, k, rfl, B, hk, kk⟩ := h
  show t_L_statement K n _ [some (.ref b), some (.int k), none, none, none, none] H
  unfold t_L_statement; refine st_seq ?_
  push_cast
  refine ⟨b, l, 10, rfl, B, by decide, by decide, fun r H1 r0 r1 B1 f1 => ?_⟩
  unfold t_L_statement_1; refine st_seq ?_
  push_cast
  refine ⟨(by simp only [List.length_cons, List.length_nil]; decide), fun p H2 A2 => ?_⟩
  refine ⟨b, l, 8, rfl, B1.keep A2.fr, by decide, by decide, fun u H3 u0 u1 B3 f3 => ?_⟩
  have hp : H3 p = _ := f3.keep _ _ A2.at_ (B1.off A2.new)
  have hl : ∃ j : Nat, atI [V.int 2, V.int 4] (if u = 1 then 1 else 0) = some (.int j) ∧ j ≤ 4 := by
    split
    · exact ⟨4, atI1 _ _ _, by decide⟩
    · exact ⟨2, atI0 _ _, by decide⟩
  obtain ⟨j, ej, hj⟩ := hl
  push_cast [hp, ej]
  have F3 : Fr [b, l] H H3 := (f1.al A2).trans f3
  unfold t_L_statement_2; refine st_seq ?_
  push_cast
  have c0 : 1 ≤ stC k := by cases k <;> simp only [stC] <;> omega
  refine or2 (fun h0 => ?_) fun h0 h5 => ?_
  · refine st_seq ?_
    push_cast
    refine ⟨(by simp only [List.length_cons, List.length_nil]; decide), fun q H4 A4 => ?_⟩
    push_cast [A4.at_]
    have B4 := B3.keep A4.fr
    refine i2 (fun _ => ?_) fun _ => ?_
    · refine ⟨b, l, j, rfl, B4, by omega, fun e v H5 oe de te B5 f5 => ⟨(by simp only [List.length_cons, List.length_nil]; decide), fun z H6 A6 => ?_⟩⟩
      exact kk (.say e) _ _ ⟨oe, by omega⟩ (by simp only [Sm.dp]; omega) (by simp only [Sm.cnt]; omega) (.tup A6.at_ (.cons (.str _) (.cons (te.tups A6.tu) .nil))) (B5.keep A6.fr) (((F3.al A4).trans f5).al A6)
    · refine ⟨b, l, rfl, B4, fun x H5 nx B5 f5 => ?_⟩
      refine ⟨b, l, j, rfl, B5, by omega, fun e v H6 oe de te B6 f6 => ⟨(by simp only [List.length_cons, List.length_nil]; decide), fun z H7 A7 => ?_⟩⟩
      exact kk (.set x e) _ _ ⟨nx, oe, by omega⟩ (by simp only [Sm.dp]; omega) (by simp only [Sm.cnt]; omega) (.tup A7.at_ (.cons (.str _) (.cons (.str _) (.cons (te.tups A7.tu) .nil)))) (B6.keep A7.fr) ((((F3.al A4).trans f5).trans f6).al A7)
  · unfold t_L_statement_3; refine st_seq ?_
    push_cast
    refine ⟨b, l, 2, rfl, B3, by decide, fun e ve H4 oe de te B4 f4 => ?_⟩
    unfold t_L_statement_4; refine st_seq ?_
    push_cast
    have ek : ((k - 1 : Nat) : Int) = (k : Int) - 1 := by omega
    refine ⟨b, l, 4, rfl, B4, by decide, by decide, fun m5 H5 m0 m1 B5 f5 => ?_⟩
    obtain ⟨m, rfl⟩ : ∃ m : Nat, m5 = m := ⟨m5.toNat, by omega⟩
    refine ⟨b, l, k - 1, m, by rw [ek], B5, by omega, by omega, fun ps vs H6 os ds cs ts B6 f6 => ?_⟩
    unfold t_L_statement_5; refine st_seq ?_
    push_cast
    have F6 : Fr [b, l] H H6 := ((F3.trans f4).trans f5).trans f6
    have te6 : Tp H6 e.d ve := (te.tups f5.tu).tups f6.tu
    obtain ⟨k', rfl⟩ : ∃ k', k = k' + 1 := ⟨k - 1, by omega⟩
    have cs' : cntL ps ≤ rowC (stC k') k' 3 := Nat.le_trans cs (rowC_mono (by omega))
    refine i2 (fun h7 => ?_) fun h7 => ?_
    · refine ⟨b, l, 3, rfl, B6, by decide, by decide, fun q7 H7 q0 q1 B7 f7 => ?_⟩
      obtain ⟨q, rfl⟩ : ∃ q : Nat, q7 = q := ⟨q7.toNat, by omega⟩
      refine ⟨b, l, k' + 1 - 1, q, by rw [ek], B7, by omega, by omega, fun pt vt H8 ot dt ct tt B8 f8 => ?_⟩
      refine ⟨(by simp only [List.length_cons, List.length_nil]; decide), fun z H9 A9 => ?_⟩
      have ct' : cntL pt ≤ rowC (stC k') k' 2 := Nat.le_trans ct (rowC_mono (by omega))
      refine kk (.ite e ps pt) _ _ ⟨⟨oe, by omega⟩, os, ot⟩ ?_ ?_ ?_ (B8.keep A9.fr) (((F6.trans f7).trans f8).al A9)
      · simp only [Sm.dp]
        simp only [Nat.add_sub_cancel] at ds dt
        omega
      · simp only [Sm.cnt, stC]; omega
      · have g8 := (f7.trans f8).tu.trans A9.tu
        exact .tup A9.at_ (.cons (.str _) (.cons (te6.tups g8) (.cons (ts.tups g8) (.cons (tt.tups A9.tu) .nil))))
    · refine ⟨(by simp only [List.length_cons, List.length_nil]; decide), fun z H7 A7 => ?_⟩
      refine kk (.whl e ps) _ _ ⟨⟨oe, by omega⟩, os⟩ ?_ ?_ ?_ (B6.keep A7.fr) (F6.al A7)
      · simp only [Sm.dp]
        simp only [Nat.add_sub_cancel] at ds
        omega
      · simp only [Sm.cnt, stC]; omega
      · exact .tup A7.at_ (.cons (.str _) (.cons (te6.tups A7.tu) (.cons (ts.tups A7.tu) .nil)))
theorem cntL_len : ∀ l : List Sm, l.length ≤ cntL l
  | [] => Nat.le_refl _
  | a :: r => by
    have h1 := cntL_len r
    have h2 : 1 ≤ a.cnt := by cases a <;> simp only [Sm.cnt] <;> omega
    simp only [cntL, List.length_cons]
    omega
theorem rd_L_counted {K : PySem.W.Frag} {vs : List V} {H : Hp} {Q : VK} {E : XK} (h : sp_L_counted vs H Q E) : t_L_counted K { nx := fun _ H' => Q .non H', rt := Q } (start ["_", "_", "_", "_"] vs) H := by
  obtain ⟨v, t, p, rfl, hv, hc, k⟩ := h
  show t_L_counted K _ [some v, some (.int t), none, none] H
  have hl := cntL_len p
  unfold rowD at hv
  simp only [tp_tup, tpl_cons, tpl_nil, tp_str] at hv
  obtain ⟨a, xs, rfl, ha, _, r1, rfl, rfl, v2, r2, rfl, ⟨a2, ys, rfl, ha2, hy⟩, rfl⟩ := hv
  unfold t_L_counted; refine st_seq ?_
  push_cast
  refine ⟨(by simp only [List.length_cons, List.length_nil]; decide), fun p1 H1 A1 => ⟨(by simp only [List.length_cons, List.length_nil]; decide), fun p2 H2 A2 => ⟨(by simp only [List.length_cons, List.length_nil]; decide), fun p3 H3 A3 => ⟨(by simp only [List.length_cons, List.length_nil]; decide), fun p4 H4 A4 => ?_⟩⟩⟩⟩
  have T4 : Tp H4 (Sm.d (.set ("d" : Str) (.op .sub (.name ("d" : Str)) (.num 1)))) (.ref p4) :=
    .tup A4.at_ (.cons (.str _) (.cons (.str _) (.cons (.tup (A4.k A3.at_) (.cons (.str _) (.cons (.tup (A4.k (A3.k (A2.k A1.at_))) (.cons (.str _) (.cons (.str _) .nil))) (.cons (.tup (A4.k (A3.k A2.at_)) (.cons (.str _) (.cons (.int _) .nil))) .nil)))) .nil)))
  have U4 : Tups H H4 := ((A1.tu.trans A2.tu).trans A3.tu).trans A4.tu
  have F4 : Fr [] H H4 := ((A1.fr.al A2).al A3).al A4
  unfold t_L_counted_1; refine st_seq ?_
  push_cast
  refine ⟨(by simp only [List.length_cons, List.length_nil]; decide), fun p5 H5 A5 => ?_⟩
  push_cast [A5.k (U4 _ _ ha)]
  refine ⟨(by simp only [List.length_cons, List.length_nil]; decide), fun p6 H6 A6 => ?_⟩
  have U6 : Tups H4 H6 := A5.tu.trans A6.tu
  have yl : ys.length ≤ 20000 := by rw [hy.length, dL_map, List.length_map]; omega
  refine ⟨_, U6 _ _ (U4 _ _ ha2), _, A6.at_, Nat.le_trans (m := 20001) (by simp only [List.length_cons, List.length_nil]; omega) (by decide), fun p7 H7 h7 f7 => ?_⟩
  refine ⟨(by simp only [List.length_cons, List.length_nil]; decide), fun p8 H8 A8 => ⟨(by simp only [List.length_cons, List.length_nil]; decide), fun p9 H9 A9 => ?_⟩⟩
  refine ⟨(by simp only [List.length_cons, List.length_nil]; decide), fun q1 G1 C1 => ⟨(by simp only [List.length_cons, List.length_nil]; decide), fun q2 G2 C2 => ⟨(by simp only [List.length_cons, List.length_nil]; decide), fun q3 G3 C3 => ⟨(by simp only [List.length_cons, List.length_nil]; decide), fun q4 G4 C4 => ?_⟩⟩⟩⟩
  have W : Tups H9 G4 := ((C1.tu.trans C2.tu).trans C3.tu).trans C4.tu
  have W7 : Tups H7 G4 := (A8.tu.trans A9.tu).trans W
  have W4 : Tups H4 G4 := (U6.trans f7.tu).trans W7
  refine k _ _ ?_ ((((((((((F4.al A5).al A6).trans f7).al A8).al A9).al C1).al C2).al C3).al C4))
  refine .tup C4.at_ (.cons (.str _) (.cons (.tup (C4.k C3.at_) ?_) .nil))
  have e1 : dL (countP t p) = [Sm.d (.set ("d" : Str) (.num t)), Sm.d (.whl (.name ("d" : Str)) (p ++ [.set ("d" : Str) (.op .sub (.name ("d" : Str)) (.num 1))]))] := by simp only [countP, dL]
  rw [e1]
  refine .cons (.tup (C4.k (C3.k C2.at_)) (.cons (.str _) (.cons (.str _) (.cons (.tup (C4.k (C3.k (C2.k C1.at_))) (.cons (.str _) (.cons (.int _) .nil))) .nil)))) (.cons ?_ .nil)
  simp only [Sm.d]
  refine .tup (W _ _ A9.at_) (.cons (.str _) (.cons (.tup (((A6.tu.trans f7.tu).trans W7) _ _ A5.at_) (.cons (.str _) (.cons (.str _) .nil))) (.cons (.tup (W _ _ (A9.k A8.at_)) (.cons (.str _) (.cons (.tup (W7 _ _ h7) ?_) .nil))) .nil)))
  rw [dL_map, List.map_append]
  refine TpL.append ?_ (.cons (T4.tups W4) .nil)
  rw [← dL_map]
  exact hy.tups (U4.trans W4)
theorem rd_L_program {K : PySem.W.Frag} {vs : List V} {H : Hp} {Q : VK} {E : XK} (h : sp_L_program vs H Q E) : t_L_program K { nx := fun _ H' => Q .non H', rt := Q } (start ["_", "_", "_", "_"] vs) H := by
  obtain ⟨b, l, rfl, B, k⟩ := h
  show t_L_program K _ [some (.ref b), some (.int 3), none, none] H
  unfold t_L_program; refine st_seq ?_
  push_cast
  refine ⟨b, l, 3, rfl, B, by decide, by decide, fun r H1 r0 r1 B1 f1 => ?_⟩
  push_cast
  unfold t_L_program_1; refine st_seq ?_
  push_cast
  refine ⟨b, l, 8, rfl, B1, by decide, by decide, fun u H2 u0 u1 B2 f2 => ?_⟩
  push_cast
  have go : ∀ (m : Nat) (H3 : Hp), m ≤ 8 → BoxAt H3 b l → Fr [b, l] H H3 → t_L_program_2 K { nx := fun _ H' => Q .non H', rt := Q } [some (.ref b), some (.int 3), some (.int m), none] H3 := fun m H3 hm B3 f3 => ?tail
  refine i2 (fun _ => ?_) fun _ => ?_
  · refine ⟨b, l, 8, rfl, B2, by decide, by decide, fun s H3 s0 s1 B3 f3 => ?_⟩
    push_cast
    obtain ⟨m, hm⟩ : ∃ m : Nat, 1 + s = m := ⟨(1 + s).toNat, by omega⟩
    rw [hm]
    exact go m H3 (by omega) B3 ((f1.trans f2).trans f3)
  · obtain ⟨m, hm⟩ : ∃ m : Nat, 1 + r = m := ⟨(1 + r).toNat, by omega⟩
    rw [hm]
    exact go m H2 (by omega) B2 (f1.trans f2)
  case tail =>
    unfold t_L_program_2; refine st_seq ?_
    push_cast
    refine ⟨b, l, 3, m, rfl, B3, by decide, hm, fun p v H4 op dp cp tp B4 f4 => ?_⟩
    have cp' : cntL p ≤ 10928 := Nat.le_trans cp (Nat.le_trans (rowC_mono hm) (by decide))
    unfold t_L_program_3; refine st_seq ?_
    push_cast
    refine ⟨b, l, 2, rfl, B4, by decide, by decide, fun u H5 u0 u1 B5 f5 => ?_⟩
    push_cast
    refine i2 (fun _ => ?_) fun _ => ?_
    · refine ⟨b, l, 20, rfl, B5, by decide, by decide, fun t H6 t0 t1 B6 f6 => ?_⟩
      push_cast
      refine ⟨v, 1 + t, p, rfl, (tp.tups f5.tu).tups f6.tu, by omega, fun v' H7 t7 f7 => ?_⟩
      unfold t_L_program_4
      push_cast
      refine k (countP (1 + t) p) _ _ ?_ ?_ ?_ t7 (B6.keep f7) ((((f3.trans f4).trans f5).trans f6).trans f7.sub0)
      · refine ⟨⟨nm_d, ⟨by omega, by omega⟩, by simp only [Ex.dep]; decide⟩, ⟨⟨⟨nm_d, by decide⟩, okL_append op ⟨⟨nm_d, ⟨nm_d, by decide, by decide⟩, by decide⟩, trivial⟩⟩, trivial⟩⟩
      · simp only [countP, dpL, Sm.dp, dpL_snoc]; omega
      · simp only [countP, cntL, Sm.cnt, cntL_snoc]; omega
    · unfold t_L_program_4
      push_cast
      exact k p _ _ op (by omega) (by omega) (tp.tups f5.tu) B5 ((f3.trans f4).trans f5)

/-- _law_part_code -/
def t_L_part_code (K : PySem.W.Frag) (n : Nat) : TS :=
  (tSeq (tIfS (tTest (tOp (rInT false) (tOp rXT (tVar 0) (tC (.int 0))) (xTup (tCons (tC (.str (wd 0))) (tCons (tC (.str (wd 1))) (tCons (tC (.str (wd 2))) tNil)))))) (tRet (xLst (tCons (tVar 0) tNil))) tNext)
    (tRet (tOp rCt (tOp rCt (tCall (sp_L_part_code n) [] E0 (tCons (tOp rXT (tVar 0) (tC (.int 1))) tNil)) (tCall (sp_L_part_code n) [] E0 (tCons (tOp rXT (tVar 0) (tC (.int 2))) tNil))) (xLst (tCons (xTup (tCons (tOp rXT (tVar 0) (tC (.int 0))) tNil)) tNil)))))

/-- _law_code from 8 -/
def t_L_code_8 (K : PySem.W.Frag) (n : Nat) : TS :=
  (tSeq (tAsg (tCall (sp_L_code n) [] E0 (tCons (tOp rXT (tVar 0) (tC (.int 3))) (tCons (tVar 9) tNil))) (gName 10))
    (tRet (tOp rCt (tOp rCt (tOp rCt (tOp rCt (tVar 5) (xLst (tCons (xTup (tCons (tC (.str (wd 9))) (tCons (tVar 9) tNil))) tNil))) (tVar 8)) (xLst (tCons (xTup (tCons (tC (.str (wd 10))) (tCons (tOp (rI0 fun i j => .int (i + j)) (tVar 9) (tCB rLenL (tCons (tVar 10) tNil))) tNil))) tNil))) (tVar 10))))

/-- _law_code from 7 -/
def t_L_code_7 (K : PySem.W.Frag) (n : Nat) : TS :=
  tSeq (tAsg (tOp (rI0 fun i j => .int (i + j)) (tOp (rI0 fun i j => .int (i + j)) (tOp (rI0 fun i j => .int (i + j)) (tVar 1) (tCB rLenL (tCons (tVar 5) tNil))) (tCB rLenL (tCons (tVar 8) tNil))) (tC (.int 2))) (gName 9)) (t_L_code_8 K n)

/-- _law_code from 6 -/
def t_L_code_6 (K : PySem.W.Frag) (n : Nat) : TS :=
  tSeq (tAsg (tCall (sp_L_code n) [] E0 (tCons (tOp rXT (tVar 0) (tC (.int 2))) (tCons (tOp (rI0 fun i j => .int (i + j)) (tOp (rI0 fun i j => .int (i + j)) (tVar 1) (tCB rLenL (tCons (tVar 5) tNil))) (tC (.int 1))) tNil))) (gName 8)) (t_L_code_7 K n)

/-- _law_code from 5 -/
def t_L_code_5 (K : PySem.W.Frag) (n : Nat) : TS :=
  tSeq (tIfS (tTest (tOp rEq (tVar 2) (tC (.str (wd 15))))) (tSeq (tAsg (tCall (sp_L_code n) [] E0 (tCons (tOp rXT (tVar 0) (tC (.int 2))) (tCons (tOp (rI0 fun i j => .int (i + j)) (tOp (rI0 fun i j => .int (i + j)) (tVar 1) (tCB rLenL (tCons (tVar 5) tNil))) (tC (.int 2))) tNil))) (gName 6))
    (tSeq (tAsg (tOp (rI0 fun i j => .int (i + j)) (tOp (rI0 fun i j => .int (i + j)) (tOp (rI0 fun i j => .int (i + j)) (tVar 1) (tCB rLenL (tCons (tVar 5) tNil))) (tCB rLenL (tCons (tVar 6) tNil))) (tC (.int 3))) (gName 7))
    (tRet (tOp rCt (tOp rCt (tOp rCt (tOp rCt (xLst (tCons (xTup (tCons (tC (.str (wd 11))) tNil)) tNil)) (tVar 5)) (xLst (tCons (xTup (tCons (tC (.str (wd 9))) (tCons (tVar 7) tNil))) tNil))) (tVar 6)) (xLst (tCons (xTup (tCons (tC (.str (wd 10))) (tCons (tVar 1) tNil))) tNil)))))) tNext) (t_L_code_6 K n)

/-- _law_code from 4 -/
def t_L_code_4 (K : PySem.W.Frag) (n : Nat) : TS :=
  tSeq (tAsg (tCall (sp_L_part_code 7) [] E0 (tCons (tOp rXT (tVar 0) (tC (.int 1))) tNil)) (gName 5)) (t_L_code_5 K n)

/-- _law_code from 3 -/
def t_L_code_3 (K : PySem.W.Frag) (n : Nat) : TS :=
  tSeq (tIfS (tTest (tOp rEq (tVar 2) (tC (.str (wd 8))))) (tRet (tOp rCt (tCall (sp_L_part_code 7) [] E0 (tCons (tOp rXT (tVar 0) (tC (.int 2))) tNil)) (xLst (tCons (xTup (tCons (tC (.str (wd 8))) (tCons (tOp rXT (tVar 0) (tC (.int 1))) tNil))) tNil)))) tNext) (t_L_code_4 K n)

/-- _law_code from 2 -/
def t_L_code_2 (K : PySem.W.Frag) (n : Nat) : TS :=
  tSeq (tIfS (tTest (tOp rEq (tVar 2) (tC (.str (wd 7))))) (tRet (tOp rCt (tCall (sp_L_part_code 7) [] E0 (tCons (tOp rXT (tVar 0) (tC (.int 1))) tNil)) (xLst (tCons (xTup (tCons (tC (.str (wd 7))) tNil)) tNil)))) tNext) (t_L_code_3 K n)

/-- _law_code from 1 -/
def t_L_code_1 (K : PySem.W.Frag) (n : Nat) : TS :=
  tSeq (tIfS (tTest (tOp rEq (tVar 2) (tC (.str (wd 13))))) (tSeq (tAsg (xLst tNil) (gName 3))
    (tSeq (tFor (iTup K (tOp rXT (tVar 0) (tC (.int 1)))) (gName 4)
    (tAsg (tOp rCt (tVar 3) (tCall (sp_L_code n) [] E0 (tCons (tVar 4) (tCons (tOp (rI0 fun i j => .int (i + j)) (tVar 1) (tCB rLenL (tCons (tVar 3) tNil))) tNil)))) (gName 3)))
    (tRet (tVar 3)))) tNext) (t_L_code_2 K n)

/-- _law_code -/
def t_L_code (K : PySem.W.Frag) (n : Nat) : TS :=
  tSeq (tAsg (tOp rXT (tVar 0) (tC (.int 0))) (gName 2)) (t_L_code_1 K n)

/-- _law_coded -/
def t_L_coded (K : PySem.W.Frag) : TS :=
  (tRet (tCB rTupL (tCons (tOp rCt (tCall (sp_L_code 20) [] E0 (tCons (tVar 0) (tCons (tC (.int 0)) tNil))) (xLst (tCons (xTup (tCons (tC (.str (wd 12))) tNil)) tNil))) tNil)))

theorem wd_ne {i j : Nat} (hi : i < 42) (hj : j < 42) (h : i ≠ j) : decide (wd i = wd j) = false := decide_eq_false fun e => h (by rw [wd_eq hi hj] at e; exact e)
theorem sg_ne (s : Sg) {i : Nat} (hi : i < 3 ∨ (6 < i ∧ i < 42)) : decide (wd i = s.s) = false := by
  have h : s.ix < 42 ∧ 3 ≤ s.ix ∧ s.ix ≤ 6 := by cases s <;> decide
  exact wd_ne (by omega) h.1 (by omega)
theorem sg_ne' (s : Sg) {i : Nat} (hi : i < 3 ∨ (6 < i ∧ i < 42)) : decide (s.s = wd i) = false := by
  have h : s.ix < 42 ∧ 3 ≤ s.ix ∧ s.ix ≤ 6 := by cases s <;> decide
  exact wd_ne h.1 (by omega) (by omega)
theorem big {n : Nat} (h : n ≤ 8000000) : n ≤ sizeLine := Nat.le_trans h (by decide)
theorem bigL {n : Nat} (h : n ≤ 8000000) : n < sizeLine := Nat.lt_of_le_of_lt h (by decide)
theorem Ex.len10 {e : Ex} (h : e.dep ≤ 10) : e.code.length ≤ 1024 := Ex.lenM h
theorem rd_L_part_code {K : PySem.W.Frag} {n : Nat} {vs : List V} {H : Hp} {Q : VK} {E : XK} (h : sp_L_part_code (n + 1) vs H Q E) : t_L_part_code K n { nx := fun _ H' => Q .non H', rt := Q } (start ["_"] vs) H := by
  obtain ⟨v, e, rfl, hv, hd, hd', k⟩ := h
  show t_L_part_code K n _ [some v] H
  unfold t_L_part_code; refine st_seq ?_
  cases e with
  | num i =>
    have hv0 := hv
    simp only [Ex.d, tp_tup, tpl_cons, tpl_nil, tp_str, tp_int] at hv
    obtain ⟨a, xs, rfl, ha, _, r1, rfl, rfl, _, r2, rfl, rfl, rfl⟩ := hv
    push_cast [ha]
    refine ⟨(by simp only [List.length_cons, List.length_nil]; decide), fun p H1 A1 => ?_⟩
    push_cast [A1.at_]
    refine ⟨(by simp only [List.length_cons, List.length_nil]; decide), fun q H2 A2 => ?_⟩
    exact k _ _ _ A2.at_ (.cons ((hv0.tups A1.tu).tups A2.tu) .nil) (A1.fr.al A2)
  | text i =>
    have hv0 := hv
    simp only [Ex.d, tp_tup, tpl_cons, tpl_nil, tp_str, tp_int] at hv
    obtain ⟨a, xs, rfl, ha, _, r1, rfl, rfl, _, r2, rfl, rfl, rfl⟩ := hv
    push_cast [ha]
    refine ⟨(by simp only [List.length_cons, List.length_nil]; decide), fun p H1 A1 => ?_⟩
    push_cast [A1.at_]
    refine ⟨(by simp only [List.length_cons, List.length_nil]; decide), fun q H2 A2 => ?_⟩
    exact k _ _ _ A2.at_ (.cons ((hv0.tups A1.tu).tups A2.tu) .nil) (A1.fr.al A2)
  | name i =>
    have hv0 := hv
    simp only [Ex.d, tp_tup, tpl_cons, tpl_nil, tp_str, tp_int] at hv
    obtain ⟨a, xs, rfl, ha, _, r1, rfl, rfl, _, r2, rfl, rfl, rfl⟩ := hv
    push_cast [ha]
    refine ⟨(by simp only [List.length_cons, List.length_nil]; decide), fun p H1 A1 => ?_⟩
    push_cast [A1.at_]
    refine ⟨(by simp only [List.length_cons, List.length_nil]; decide), fun q H2 A2 => ?_⟩
    exact k _ _ _ A2.at_ (.cons ((hv0.tups A1.tu).tups A2.tu) .nil) (A1.fr.al A2)
  | op s e1 e2 =>
    simp only [Ex.d, tp_tup, tpl_cons, tpl_nil, tp_str, tp_int] at hv
    obtain ⟨a, xs, rfl, ha, _, r1, rfl, rfl, v1, r2, rfl, t1, v2, r3, rfl, t2, rfl⟩ := hv
    simp only [Ex.dep] at hd hd'
    push_cast [ha]
    refine ⟨(by simp only [List.length_cons, List.length_nil]; decide), fun p H1 A1 => ?_⟩
    push_cast [A1.at_, sg_ne s (i := 0) (by decide), sg_ne s (i := 1) (by decide), sg_ne s (i := 2) (by decide), A1.k ha]
    refine ⟨v1, e1, rfl, t1.tups A1.tu, by omega, by omega, fun b xs H2 hb tb f2 => ?_⟩
    push_cast [f2.tu _ _ (A1.k ha)]
    refine ⟨v2, e2, rfl, (t2.tups A1.tu).tups f2.tu, by omega, by omega, fun c ys H3 hc tc f3 => ?_⟩
    push_cast [f3.keep _ _ hb (by simp), hc]
    have l1 : xs.length ≤ 1024 := by rw [tb.length, List.length_map]; exact Ex.len10 (by omega)
    have l2 : ys.length ≤ 1024 := by rw [tc.length, List.length_map]; exact Ex.len10 (by omega)
    refine ⟨big (by omega), fun p4 H4 A4 => ?_⟩
    push_cast [A4.k (f3.tu _ _ (f2.tu _ _ (A1.k ha)))]
    refine ⟨(by simp only [List.length_cons, List.length_nil]; decide), fun p5 H5 A5 => ⟨(by simp only [List.length_cons, List.length_nil]; decide), fun p6 H6 A6 => ?_⟩⟩
    push_cast [A6.at_, A6.k (A5.k A4.at_)]
    refine ⟨big (by simp only [List.length_append, List.length_cons, List.length_nil]; omega), fun p7 H7 A7 => ?_⟩
    refine k _ _ _ A7.at_ ?_ ((((((A1.fr.trans f2).trans f3).al A4).al A5).al A6).al A7)
    have W : Tups H3 H7 := ((A4.tu.trans A5.tu).trans A6.tu).trans A7.tu
    simp only [Ex.code, List.map_append, List.map_cons, List.map_nil]
    exact TpL.append (TpL.append (tb.tups (f3.tu.trans W)) (tc.tups W)) (.cons (.tup (A7.k (A6.k A5.at_)) (.cons (.str _) .nil)) .nil)
theorem tp_row {H : Hp} {l : List Sm} {v : V} (h : Tp H (rowD l) v) : ∃ a a2 ys, v = .ref a ∧ H a = some (.tup [.str (wd 13), .ref a2]) ∧ H a2 = some (.tup ys) ∧ TpL H (l.map Sm.d) ys := by
  unfold rowD at h
  simp only [tp_tup, tpl_cons, tpl_nil, tp_str] at h
  obtain ⟨a, xs, rfl, ha, _, r1, rfl, rfl, v2, r2, rfl, ⟨a2, ys, rfl, ha2, hy⟩, rfl⟩ := h
  rw [dL_map] at hy
  exact ⟨a, a2, ys, rfl, ha, ha2, hy⟩
theorem tp_say {H : Hp} {e : Ex} {v : V} (h : Tp H (Sm.say e).d v) : ∃ a ve, v = .ref a ∧ H a = some (.tup [.str (wd 7), ve]) ∧ Tp H e.d ve := by
  simp only [Sm.d, tp_tup, tpl_cons, tpl_nil, tp_str] at h
  obtain ⟨a, xs, rfl, ha, _, r1, rfl, rfl, v1, r2, rfl, t1, rfl⟩ := h
  exact ⟨a, v1, rfl, ha, t1⟩
theorem tp_set {H : Hp} {x : Str} {e : Ex} {v : V} (h : Tp H (Sm.set x e).d v) : ∃ a ve, v = .ref a ∧ H a = some (.tup [.str (wd 8), .str x, ve]) ∧ Tp H e.d ve := by
  simp only [Sm.d, tp_tup, tpl_cons, tpl_nil, tp_str] at h
  obtain ⟨a, xs, rfl, ha, _, r1, rfl, rfl, _, r2, rfl, rfl, v1, r3, rfl, t1, rfl⟩ := h
  exact ⟨a, v1, rfl, ha, t1⟩
theorem tp_ite {H : Hp} {e : Ex} {s t : List Sm} {v : V} (h : Tp H (Sm.ite e s t).d v) : ∃ a ve vs vt, v = .ref a ∧ H a = some (.tup [.str (wd 14), ve, vs, vt]) ∧ Tp H e.d ve ∧ Tp H (rowD s) vs ∧ Tp H (rowD t) vt := by
  have h' : Tp H (.tuple [.str (wd 14), e.d, rowD s, rowD t]) v := by simpa only [Sm.d, rowD] using h
  rw [tp_tup] at h'
  simp only [tpl_cons, tpl_nil, tp_str] at h'
  obtain ⟨a, xs, rfl, ha, _, r1, rfl, rfl, v1, r2, rfl, t1, v2, r3, rfl, t2, v3, r4, rfl, t3, rfl⟩ := h'
  exact ⟨a, v1, v2, v3, rfl, ha, t1, t2, t3⟩
theorem tp_whl {H : Hp} {e : Ex} {s : List Sm} {v : V} (h : Tp H (Sm.whl e s).d v) : ∃ a ve vs, v = .ref a ∧ H a = some (.tup [.str (wd 15), ve, vs]) ∧ Tp H e.d ve ∧ Tp H (rowD s) vs := by
  have h' : Tp H (.tuple [.str (wd 15), e.d, rowD s]) v := by simpa only [Sm.d, rowD] using h
  rw [tp_tup] at h'
  simp only [tpl_cons, tpl_nil, tp_str] at h'
  obtain ⟨a, xs, rfl, ha, _, r1, rfl, rfl, v1, r2, rfl, t1, v2, r3, rfl, t2, rfl⟩ := h'
  exact ⟨a, v1, v2, rfl, ha, t1, t2⟩
theorem take_snoc {α : Type} {l : List α} {i : Nat} {s : α} (h : l[i]? = some s) : l.take (i + 1) = l.take i ++ [s] := by rw [List.take_succ, h]; rfl
theorem codeL_snoc (l : List Sm) (s : Sm) (b : Nat) : codeL (l ++ [s]) b = codeL l b ++ s.code (b + (codeL l b).length) := by rw [codeL_append]; simp [codeL]
theorem map_get {α β : Type} {f : α → β} {l : List α} {i : Nat} {y : β} (h : (l.map f)[i]? = some y) : ∃ x, l[i]? = some x ∧ f x = y := by
  rw [List.getElem?_map] at h
  cases e : l[i]? with
  | none => rw [e] at h; cases h
  | some x => rw [e] at h; exact ⟨x, rfl, Option.some.inj h⟩
theorem code_bound {o : Un} {b : Nat} (h : o.ok 5) (hc : o.cnt ≤ 20000) : (o.code b).length ≤ 700000 := by
  have := o.len_le b h
  have h2 : (2 ^ 5 + 3) * o.cnt ≤ 35 * 20000 := Nat.mul_le_mul (by decide) hc
  omega
theorem mem_of_get {α : Type} {l : List α} {i : Nat} {x : α} (h : l[i]? = some x) : x ∈ l := List.mem_of_getElem? h
theorem cnt_mem : ∀ {l : List Sm} {s : Sm}, s ∈ l → s.cnt ≤ cntL l
  | _ :: _, _, .head _ => by simp only [cntL]; omega
  | _ :: _, _, .tail _ h' => by have := cnt_mem h'; simp only [cntL]; omega
/-- the rows of a row -/
def CodeInv (b : Nat) (l : List Sm) (H : Hp) (w : V) (v0 : V) (i : Nat) (σ : L2.St) (H' : Hp) : Prop := ∃ (r : Addr) (xs : List V) (σ4 : Option V), σ = [some v0, some (.int b), some w, some (.ref r), σ4, none, none, none, none, none, none] ∧
  H' r = some (.lst xs) ∧ TpL H' ((codeL (l.take i) b).map Rw.d) xs ∧ Fr [] H H'
theorem rd_L_code {K : PySem.W.Frag} {n : Nat} {vs : List V} {H : Hp} {Q : VK} {E : XK} (h : sp_L_code (n + 1) vs H Q E) : t_L_code K n { nx := fun _ H' => Q .non H', rt := Q } (start ["_", "_", "_", "_", "_", "_", "_", "_", "_", "_", "_"] vs) H := by
  obtain ⟨v, b, o, rfl, hv, hd, ok, hc, k⟩ := h
  show t_L_code K n _ [some v, some (.int b), none, none, none, none, none, none, none, none, none] H
  unfold t_L_code; refine st_seq ?_
  cases o with
  | row l =>
    obtain ⟨a, a2, ys, rfl, ha, ha2, hy⟩ := tp_row hv
    push_cast [ha]
    unfold t_L_code_1; refine st_seq ?_
    push_cast
    refine st_seq ?_
    push_cast
    refine ⟨(by simp only [List.length_cons, List.length_nil]; decide), fun p H1 A1 => ?_⟩
    refine st_seq (forT (a := a2) (xs := ys) (fun R h => by push_cast [A1.k ha]; exact h) (A1.k ha2) (CodeInv b l H1 (.str (wd 13)) (.ref a)) ⟨p, [], none, rfl, A1.at_, by simp only [List.take_zero, codeL, List.map_nil]; exact .nil, .refl _ _⟩ ?_ ?_ ?_)
    · rintro i σ' H' ⟨r, xs, σ4, rfl, h1, h2, f⟩
      exact f.tu _ _ (A1.k ha2)
    · rintro i x σ' H' hx ⟨r, xs, σ4, rfl, h1, h2, f⟩
      obtain ⟨d, hd1, hd2⟩ := hy.get' hx
      obtain ⟨s, hs, rfl⟩ := map_get hd1
      have ms := mem_of_get hs
      have d1 := dpL_mem ms
      have c1 := cnt_mem ms
      have hlen : xs.length = (codeL (l.take i) b).length := by rw [h2.length, List.length_map]
      have lb : xs.length ≤ 700000 := by
        rw [hlen]
        exact code_bound (o := .row (l.take i)) (okL_take l i ok) (Nat.le_trans (cntL_take l i) hc)
      show tAsg _ _ _ [some (.ref a), some (.int b), some (.str (wd 13)), some (.ref r), some x, none, none, none, none, none, none] H'
      push_cast [h1]
      have ok1 := okL_mem ok ms
      refine ⟨x, b + xs.length, .st s, by rw [Int.natCast_add], (hd2.tups A1.tu).tups f.tu, by simp only [Un.dp] at hd ⊢; omega, ok1, by simp only [Un.cnt] at hc ⊢; omega, fun q zs H2 hq tq f2 => ?_⟩
      push_cast [f2.keep _ _ h1 (by simp), hq]
      have lz : zs.length ≤ 700000 := by
        rw [tq.length, List.length_map]
        exact code_bound (o := .st s) ok1 (by simp only [Un.cnt] at hc ⊢; omega)
      refine ⟨big (by omega), fun q3 H3 A3 => ⟨q3, _, _, rfl, A3.at_, ?_, (f.trans f2).al A3⟩⟩
      rw [take_snoc hs, codeL_snoc, List.map_append, ← hlen]
      exact TpL.append ((h2.tups f2.tu).tups A3.tu) (tq.tups A3.tu)
    · rintro σ' H' ⟨r, xs, σ4, rfl, h1, h2, f⟩
      push_cast
      rw [hy.length, List.length_map, List.take_length] at h2
      exact k _ _ _ h1 h2 (A1.fr.trans f)
  | st s =>
    cases s with
    | say e =>
      obtain ⟨a, ve, rfl, ha, te⟩ := tp_say hv
      push_cast [ha]
      unfold t_L_code_1; refine st_seq ?_
      push_cast
      unfold t_L_code_2; refine st_seq ?_
      push_cast [ha]
      refine ⟨ve, e, rfl, te, Nat.le_trans ok.2 (by decide), Nat.le_trans ok.2 (by decide), fun p xs H1 hp tp f1 => ?_⟩
      push_cast
      refine ⟨(by simp only [List.length_cons, List.length_nil]; decide), fun q2 H2 A2 => ⟨(by simp only [List.length_cons, List.length_nil]; decide), fun q3 H3 A3 => ?_⟩⟩
      push_cast [A3.at_, A3.k (A2.k hp)]
      have lz : xs.length ≤ 1024 := by rw [tp.length, List.length_map]; exact Ex.len10 (Nat.le_trans ok.2 (by decide))
      refine ⟨big (by simp only [List.length_cons, List.length_nil]; omega), fun q4 H4 A4 => ?_⟩
      refine k _ _ _ A4.at_ ?_ (((f1.al A2).al A3).al A4)
      simp only [Un.code, Sm.code, List.map_append, List.map_cons, List.map_nil]
      exact TpL.append (((tp.tups A2.tu).tups A3.tu).tups A4.tu) (.cons (.tup (A4.k (A3.k A2.at_)) (.cons (.str _) .nil)) .nil)
    | set x e =>
      obtain ⟨a, ve, rfl, ha, te⟩ := tp_set hv
      push_cast [ha]
      unfold t_L_code_1; refine st_seq ?_
      push_cast
      unfold t_L_code_2; refine st_seq ?_
      push_cast
      unfold t_L_code_3; refine st_seq ?_
      push_cast [ha]
      refine ⟨ve, e, rfl, te, Nat.le_trans ok.2.2 (by decide), Nat.le_trans ok.2.2 (by decide), fun p xs H1 hp tp f1 => ?_⟩
      push_cast [f1.tu _ _ ha]
      refine ⟨(by simp only [List.length_cons, List.length_nil]; decide), fun q2 H2 A2 => ⟨(by simp only [List.length_cons, List.length_nil]; decide), fun q3 H3 A3 => ?_⟩⟩
      push_cast [A3.at_, A3.k (A2.k hp)]
      have lz : xs.length ≤ 1024 := by rw [tp.length, List.length_map]; exact Ex.len10 (Nat.le_trans ok.2.2 (by decide))
      refine ⟨big (by simp only [List.length_cons, List.length_nil]; omega), fun q4 H4 A4 => ?_⟩
      refine k _ _ _ A4.at_ ?_ (((f1.al A2).al A3).al A4)
      simp only [Un.code, Sm.code, List.map_append, List.map_cons, List.map_nil]
      exact TpL.append (((tp.tups A2.tu).tups A3.tu).tups A4.tu) (.cons (.tup (A4.k (A3.k A2.at_)) (.cons (.str _) (.cons (.str _) .nil))) .nil)
    | ite e s1 s2 =>
      obtain ⟨a, ve, v1, v2, rfl, ha, te, ts1, ts2⟩ := tp_ite hv
      simp only [Un.dp, Sm.dp] at hd
      simp only [Un.cnt, Sm.cnt] at hc
      have hde := ok.1.2
      push_cast [ha]
      unfold t_L_code_1; refine st_seq ?_
      push_cast
      unfold t_L_code_2; refine st_seq ?_
      push_cast
      unfold t_L_code_3; refine st_seq ?_
      push_cast
      unfold t_L_code_4; refine st_seq ?_
      push_cast [ha]
      refine ⟨ve, e, rfl, te, Nat.le_trans hde (by decide), Nat.le_trans hde (by decide), fun p1 xs1 H1 h1 t1 f1 => ?_⟩
      unfold t_L_code_5; refine st_seq ?_
      push_cast
      unfold t_L_code_6; refine st_seq ?_
      push_cast [f1.tu _ _ ha, h1]
      have L1 : xs1.length = e.code.length := by rw [t1.length, List.length_map]
      refine ⟨v1, b + xs1.length + 1, .row s1, by simp only [Int.natCast_add]; rfl, ts1.tups f1.tu, by simp only [Un.dp]; omega, ok.2.1, by simp only [Un.cnt]; omega, fun p2 xs2 H2 h2 t2 f2 => ?_⟩
      have L2 : xs2.length = (codeL s1 (b + e.code.length + 1)).length := by rw [t2.length, List.length_map, L1]; rfl
      unfold t_L_code_7; refine st_seq ?_
      push_cast [f2.keep _ _ h1 (by simp), h2]
      unfold t_L_code_8; refine st_seq ?_
      push_cast [f2.tu _ _ (f1.tu _ _ ha)]
      refine ⟨v2, b + xs1.length + xs2.length + 2, .row s2, by simp only [Int.natCast_add]; rfl, (ts2.tups f1.tu).tups f2.tu, by simp only [Un.dp]; omega, ok.2.2, by simp only [Un.cnt]; omega, fun p3 xs3 H3 h3 t3 f3 => ?_⟩
      have L3 : xs3.length = (codeL s2 (b + e.code.length + (codeL s1 (b + e.code.length + 1)).length + 2)).length := by rw [t3.length, List.length_map, L1, L2]; rfl
      push_cast
      refine ⟨(by simp only [List.length_cons, List.length_nil]; decide), fun q4 H4 A4 => ⟨(by simp only [List.length_cons, List.length_nil]; decide), fun q5 H5 A5 => ?_⟩⟩
      have B1 : xs1.length ≤ 1024 := by rw [L1]; exact Ex.len10 (Nat.le_trans hde (by decide))
      have B2 : xs2.length ≤ 700000 := by rw [L2]; exact code_bound (o := .row s1) ok.2.1 (by simp only [Un.cnt]; omega)
      have B3 : xs3.length ≤ 700000 := by rw [L3]; exact code_bound (o := .row s2) ok.2.2 (by simp only [Un.cnt]; omega)
      have f12 : Fr [] H1 H3 := f2.trans f3
      push_cast [A5.at_, A5.k (A4.k (f12.keep _ _ h1 (by simp)))]
      refine ⟨big (by simp only [List.length_cons, List.length_nil]; omega), fun q6 H6 A6 => ?_⟩
      have f36 : Fr [] H3 H6 := (A4.fr.al A5).al A6
      push_cast [A6.at_, (f3.trans f36).keep _ _ h2 (by simp)]
      refine ⟨big (by simp only [List.length_append, List.length_cons, List.length_nil]; omega), fun q7 H7 A7 => ?_⟩
      push_cast [(f36.al A7).keep _ _ h3 (by simp)]
      refine ⟨(by simp only [List.length_cons, List.length_nil]; decide), fun q8 H8 A8 => ⟨(by simp only [List.length_cons, List.length_nil]; decide), fun q9 H9 A9 => ?_⟩⟩
      push_cast [A9.at_, A9.k (A8.k A7.at_)]
      refine ⟨big (by simp only [List.length_append, List.length_cons, List.length_nil]; omega), fun q10 H10 A10 => ?_⟩
      have f310 : Fr [] H3 H10 := (((f36.al A7).al A8).al A9).al A10
      push_cast [A10.at_, f310.keep _ _ h3 (by simp)]
      refine ⟨big (by simp only [List.length_append, List.length_cons, List.length_nil]; omega), fun q11 H11 A11 => ?_⟩
      refine k _ _ _ A11.at_ ?_ ((((f1.trans f2).trans f3).trans f310).al A11)
      have W : Tups H3 H11 := (f310.al A11).tu
      simp only [Un.code, Sm.code, List.map_append, List.map_cons, List.map_nil, Rw.d]
      refine TpL.append (TpL.append (TpL.append (TpL.append (t1.tups (f12.tu.trans W)) (.cons (.tup ((((((A5.tu.trans A6.tu).trans A7.tu).trans A8.tu).trans A9.tu).trans A10.tu).trans A11.tu |> fun z => z _ _ A4.at_) (.cons (.str _) (.cons ?_ .nil))) .nil)) ?_) (.cons (.tup (((A9.tu.trans A10.tu).trans A11.tu) _ _ A8.at_) (.cons (.str _) (.cons ?_ .nil))) .nil)) ?_
      · rw [tp_int, L1, L2]; simp only [Int.natCast_add]; rfl
      · have := t2.tups (f3.tu.trans W); rw [L1] at this; exact this
      · rw [tp_int, L3, L2, L1]; simp only [Int.natCast_add]; rfl
      · have := t3.tups W; rw [L1, L2] at this; exact this
    | whl e s1 =>
      obtain ⟨a, ve, v1, rfl, ha, te, ts1⟩ := tp_whl hv
      simp only [Un.dp, Sm.dp] at hd
      simp only [Un.cnt, Sm.cnt] at hc
      have hde := ok.1.2
      push_cast [ha]
      unfold t_L_code_1; refine st_seq ?_
      push_cast
      unfold t_L_code_2; refine st_seq ?_
      push_cast
      unfold t_L_code_3; refine st_seq ?_
      push_cast
      unfold t_L_code_4; refine st_seq ?_
      push_cast [ha]
      refine ⟨ve, e, rfl, te, Nat.le_trans hde (by decide), Nat.le_trans hde (by decide), fun p1 xs1 H1 h1 t1 f1 => ?_⟩
      unfold t_L_code_5; refine st_seq ?_
      push_cast
      refine st_seq ?_
      push_cast [f1.tu _ _ ha, h1]
      have L1 : xs1.length = e.code.length := by rw [t1.length, List.length_map]
      refine ⟨v1, b + xs1.length + 2, .row s1, by simp only [Int.natCast_add]; rfl, ts1.tups f1.tu, by simp only [Un.dp]; omega, ok.2, by simp only [Un.cnt]; omega, fun p2 xs2 H2 h2 t2 f2 => ?_⟩
      have L2 : xs2.length = (codeL s1 (b + e.code.length + 2)).length := by rw [t2.length, List.length_map, L1]; rfl
      refine st_seq ?_
      push_cast [f2.keep _ _ h1 (by simp), h2]
      have B1 : xs1.length ≤ 1024 := by rw [L1]; exact Ex.len10 (Nat.le_trans hde (by decide))
      have B2 : xs2.length ≤ 700000 := by rw [L2]; exact code_bound (o := .row s1) ok.2 (by simp only [Un.cnt]; omega)
      refine ⟨(by simp only [List.length_cons, List.length_nil]; decide), fun q3 H3 A3 => ⟨(by simp only [List.length_cons, List.length_nil]; decide), fun q4 H4 A4 => ?_⟩⟩
      have f24 : Fr [] H2 H4 := A3.fr.al A4
      push_cast [A4.at_, (f2.trans f24).keep _ _ h1 (by simp)]
      refine ⟨big (by simp only [List.length_cons, List.length_nil]; omega), fun q5 H5 A5 => ⟨(by simp only [List.length_cons, List.length_nil]; decide), fun q6 H6 A6 => ⟨(by simp only [List.length_cons, List.length_nil]; decide), fun q7 H7 A7 => ?_⟩⟩⟩
      push_cast [A7.at_, A7.k (A6.k A5.at_)]
      refine ⟨big (by simp only [List.length_append, List.length_cons, List.length_nil]; omega), fun q8 H8 A8 => ?_⟩
      have f28 : Fr [] H2 H8 := (((f24.al A5).al A6).al A7).al A8
      push_cast [A8.at_, f28.keep _ _ h2 (by simp)]
      refine ⟨big (by simp only [List.length_append, List.length_cons, List.length_nil]; omega), fun q9 H9 A9 => ⟨(by simp only [List.length_cons, List.length_nil]; decide), fun q10 H10 A10 => ⟨(by simp only [List.length_cons, List.length_nil]; decide), fun q11 H11 A11 => ?_⟩⟩⟩
      push_cast [A11.at_, A11.k (A10.k A9.at_)]
      refine ⟨big (by simp only [List.length_append, List.length_cons, List.length_nil]; omega), fun q12 H12 A12 => ?_⟩
      have f212 : Fr [] H2 H12 := (((f28.al A9).al A10).al A11).al A12
      refine k _ _ _ A12.at_ ?_ ((f1.trans f2).trans f212)
      simp only [Un.code, Sm.code, List.map_append, List.map_cons, List.map_nil, Rw.d]
      have W3 : Tups H3 H12 := (((((((A4.tu.trans A5.tu).trans A6.tu).trans A7.tu).trans A8.tu).trans A9.tu).trans A10.tu).trans A11.tu).trans A12.tu
      refine TpL.append (TpL.append (TpL.append (TpL.append (.cons (.tup (W3 _ _ A3.at_) (.cons (.str _) .nil)) .nil) (t1.tups (f2.tu.trans f212.tu))) (.cons (.tup ((((((A7.tu.trans A8.tu).trans A9.tu).trans A10.tu).trans A11.tu).trans A12.tu) _ _ A6.at_) (.cons (.str _) (.cons ?_ .nil))) .nil)) ?_) (.cons (.tup ((A11.tu.trans A12.tu) _ _ A10.at_) (.cons (.str _) (.cons (.int _) .nil))) .nil)
      · rw [tp_int, L2, L1]; simp only [Int.natCast_add]; rfl
      · have := t2.tups f212.tu; rw [L1] at this; exact this
theorem rd_L_coded {K : PySem.W.Frag} {vs : List V} {H : Hp} {Q : VK} {E : XK} (h : sp_L_coded vs H Q E) : t_L_coded K { nx := fun _ H' => Q .non H', rt := Q } (start ["_"] vs) H := by
  obtain ⟨v, p, rfl, hv, ⟨ok, hd, hc⟩, k⟩ := h
  show t_L_coded K _ [some v] H
  unfold t_L_coded
  push_cast
  refine ⟨v, 0, .row p, rfl, hv, by simp only [Un.dp]; omega, ok, hc, fun a xs H1 h1 t1 f1 => ?_⟩
  push_cast
  refine ⟨(by simp only [List.length_cons, List.length_nil]; decide), fun q2 H2 A2 => ⟨(by simp only [List.length_cons, List.length_nil]; decide), fun q3 H3 A3 => ?_⟩⟩
  push_cast [A3.at_, A3.k (A2.k h1)]
  have B1 : xs.length ≤ 700000 := by rw [t1.length, List.length_map]; exact code_bound ok hc
  refine ⟨big (by simp only [List.length_cons, List.length_nil]; omega), fun q4 H4 A4 => ?_⟩
  push_cast [A4.at_]
  intro q5 H5 A5
  refine k _ _ (.tup A5.at_ ?_) ((((f1.al A2).al A3).al A4).al A5)
  unfold progC
  simp only [List.map_append, List.map_cons, List.map_nil]
  exact TpL.append ((((t1.tups A2.tu).tups A3.tu).tups A4.tu).tups A5.tu) (.cons (.tup (A5.k (A4.k (A3.k A2.at_))) (.cons (.str _) .nil)) .nil)

/-! more rules: x in a list, extend -/
def rInL (neg : Bool) : R2 := fun x y H Q => ∃ p xs, y = .ref p ∧ H p = some (.lst xs) ∧ flatV x = true ∧ xs.all flatV = true ∧ Q (.bl (if neg then !inV x xs else inV x xs)) H
def xExt (to te : TE) : TE := fun σ H Q => to σ H fun x H1 => ∃ l xs', x = .ref l ∧ H1 l = some (.lst xs') ∧ te σ H1 fun y H2 => ∃ b xs zs, y = .ref b ∧ H2 l = some (.lst xs) ∧ H2 b = some (.lst zs) ∧ xs.length + zs.length ≤ sizeLine ∧ ∀ H', Mu H2 l (.lst (xs ++ zs)) H' → Q .non H'
section
variable {X : Cx} {o e : Expr} {to te : TE} {apos cpos : Pos}
theorem op_inL : OpR X (compareOp .In) (rInL false) := opM op_in_seq fun _ _ _ _ ⟨p, xs, e, h, h1, h2, q⟩ => ⟨p, xs, e, .inl (SqL.of h), h1, h2, q⟩
theorem op_ninL : OpR X (compareOp .NotIn) (rInL true) := opM op_notIn_seq fun _ _ _ _ ⟨p, xs, e, h, h1, h2, q⟩ => ⟨p, xs, e, .inl (SqL.of h), h1, h2, q⟩
theorem pe_ext (ho : PE X o to) (he : PE X e te) (hbase : attributeBase o "extend" X.env (eval o X.env) = eval o X.env := by rfl)
    (hfew : ((backTo cpos (starEach (e :: []) X.env)).all (fun x => !x.1) && (backToKw cpos (keywordEach [] X.env)).all (fun x => x.1.isSome)
      && decide ((e :: ([] : List Expr)).length + ([] : List Keyword).length + (if ([] : List Keyword).isEmpty then 0 else 1) < 30)) = true := by rfl)
    (hline : (apos.endLine == cpos.line) = true := by rfl) (hs : starEach (e :: []) X.env = (false, eval e X.env) :: starEach [] X.env := by rfl) (hplain : (backTo cpos (starEach ([] : List Expr) X.env)).any (·.1) = false := by rfl) :
    PE X (.Call (.Attribute o "extend" apos) [e] [] cpos) (xExt to te) := by
  refine peM (pe_bm PySem.F.plainAttrs_list PySem.F.slot_list_extend PySem.F.type_list_extend mt_extend (mo ho) (pa_cons (mo he) pa_nil hs) hbase hfew hline hs hplain) ?_
  intro σ H Q h
  refine ⟨_, h, ?_⟩
  rintro x H1 ⟨l, xs', rfl, h1, h⟩
  refine ⟨Or.inl ⟨rfl, _, SqL.of h1⟩, _, h, ?_⟩
  rintro y H2 ⟨b, xs, zs, rfl, h2, h3, hz, q⟩
  exact ⟨l, b, xs, zs, rfl, rfl, h2, h3, hz, q _ (.of h2 fun _ z => by cases z)⟩
end

/-! more rules: dicts beside each other, their values data -/
def EqT (K : PySem.W.Frag) (H : Hp) (ks ls : List (Key × V)) : Prop := ks.length = ls.length ∧ ∀ p ∈ ks, ∃ u d, valV ls p.1 = some u ∧ Dp K H p.2 d ∧ Dp K H u d ∧ d.canLay0 = true ∧ d.depth ≤ 3 ∧ PyData.eqv d d = true
def rNeDT (K : PySem.W.Frag) : R2 := fun x y H Q => ∃ a b ks ls, x = .ref a ∧ y = .ref b ∧ H a = some (.dK ks) ∧ H b = some (.dK ls) ∧ EqT K H ks ls ∧ Q (.bl false) H
theorem hits_T {X : Cx} {pins : List (Addr × Obj)} {σ : L2.St} {H : Hp} {s : Shared} (I : Inv X pins σ H s) {A : Around} (hu : A.units + 3 < cLine) {ls : List (Key × V)} {vb : List (Key × Value)} (rb : KV ls vb) {ks : List (Key × V)} {va : List (Key × Value)} (ra : KV ks va) :
    (∀ p ∈ ks, ∃ u d, valV ls p.1 = some u ∧ Dp X.K H p.2 d ∧ Dp X.K H u d ∧ d.canLay0 = true ∧ d.depth ≤ 3 ∧ PyData.eqv d d = true) → PySem.W.KeqHits A s vb va true := by
  unfold KV at ra
  induction ra with
  | nil => intro _; exact .nil
  | @cons p q ps qs h t ih =>
    intro hp
    obtain ⟨h1, h2⟩ := h
    obtain ⟨u, d, e, d1, d2, c1, c2, c3⟩ := hp p List.mem_cons_self
    have rr : RelO (some u) (valueAt vb p.1) := by rw [← e]; exact rb.val p.1
    obtain ⟨y, hy, ry⟩ := rr.some_of
    obtain ⟨k, v⟩ := q
    have h1' : p.1 = k := h1
    rw [h1'] at hy
    obtain ⟨as, r1⟩ := Dp.reads I d _ _ d1 h2
    obtain ⟨bs, r2⟩ := Dp.reads I d _ _ d2 ry
    have eq := SeqAt.eqAt_reads d d A s _ _ as bs r1 r2 c1 c1 (by rw [Nat.min_self]; omega)
    rw [c3] at eq
    show PySem.W.KeqHits A s vb ((k, v) :: qs) (true && true)
    exact .hit hy eq (ih fun p' hm => hp p' (List.mem_cons_of_mem _ hm))
theorem op_neDT {X : Cx} (hu : X.A.units + 64 < cLine) : OpR X (compareOp .NotEq) (rNeDT X.K) := by
  intro pins s σ H x y v u Q I rx ry h
  obtain ⟨a, b, ks, ls, rfl, rfl, ea, eb, ⟨hlen, hp⟩, q⟩ := h
  obtain rfl : v = Value.ref a := rx
  obtain rfl : u = Value.ref b := ry
  obtain ⟨_, ya, va, ra, da⟩ := (show ObjOk X.prog X.w H s.heap a (.dK ks) from I.hok a _ ea)
  obtain ⟨_, yb, vb, rb, db⟩ := (show ObjOk X.prog X.w H s.heap b (.dK ls) from I.hok b _ eb)
  have hl : va.length = vb.length := by rw [← ra.length, ← rb.length]; exact hlen
  exact PySem.W.keq_ne (knd := mixKind X.prog X.w) (r := true) ya yb da db (by omega) (fun _ => hits_T I (by show X.A.units + 1 + 3 < cLine; omega) rb ra hp) (fin_bl I q (by simp [hl]))
theorem kv_mem {ks : List (Key × V)} {va : List (Key × Value)} (ra : KV ks va) : ∀ {k : Key} {v : Value}, (k, v) ∈ va → ∃ p ∈ ks, p.1 = k ∧ RelV p.2 v := by
  unfold KV at ra
  induction ra with
  | nil => intro k v h; cases h
  | @cons p q ps qs h t ih =>
    intro k v hm
    rcases List.mem_cons.mp hm with e | hm
    · subst e
      exact ⟨p, List.mem_cons_self, h.1, h.2⟩
    · obtain ⟨p', h1, h2⟩ := ih hm
      exact ⟨p', List.mem_cons_of_mem _ h1, h2⟩
theorem tree_D {X : Cx} {pins : List (Addr × Obj)} {σ : L2.St} {H : Hp} {s : Shared} (I : Inv X pins σ H s) {a b : Addr} {ks ls : List (Key × V)} (ne : a ≠ b) (ea : H a = some (.dK ks)) (eb : H b = some (.dK ls)) (hk : EqX ks ls) : PySem.W.EqTree X.prog X.w s 2 (.ref a) (.ref b) true := by
  obtain ⟨_, ya, va, ra, da⟩ := (show ObjOk X.prog X.w H s.heap a (.dK ks) from I.hok a _ ea)
  obtain ⟨_, yb, vb, rb, db⟩ := (show ObjOk X.prog X.w H s.heap b (.dK ls) from I.hok b _ eb)
  have hl : va.length = vb.length := by rw [← ra.length, ← rb.length]; exact hk.1
  have t := PySem.W.EqTree.dicts (knd := mixKind X.prog X.w) (n := 1) (e := fun _ => true) ne ya yb da db (fun k v y hm hv => by
    obtain ⟨p, hp, e1, r1⟩ := kv_mem ra hm
    obtain ⟨e2, f⟩ := hk.2 p hp
    have rr : RelO (some p.2) (valueAt vb p.1) := by rw [← e2]; exact rb.val p.1
    obtain ⟨y', hy', ry'⟩ := rr.some_of
    rw [e1, hv] at hy'
    cases hy'
    rcases f with f | ⟨c, ec⟩
    · exact .leaf fun A hu => eqAt_same r1 ry' f
    · rw [ec] at r1 ry'
      cases (show v = Value.ref c from r1)
      cases (show y = Value.ref c from ry')
      exact .same)
  have e : (va.length == vb.length && va.all fun p => (valueAt vb p.1).isSome && true) = true := by
    rw [hl]
    simp only [BEq.rfl, Bool.true_and, Bool.and_true, List.all_eq_true]
    intro q hq
    obtain ⟨p, hp, e1, r1⟩ := kv_mem ra (k := q.1) (v := q.2) hq
    obtain ⟨e2, f⟩ := hk.2 p hp
    have rr : RelO (some p.2) (valueAt vb p.1) := by rw [← e2]; exact rb.val p.1
    obtain ⟨y', hy', _⟩ := rr.some_of
    rw [← e1, hy']
    rfl
  rw [e] at t
  exact t
/-- two tuples of two dicts -/
def rEqTT : R2 := fun x y H Q => ∃ p q a b a' b' ks ls ks' ls', x = .ref p ∧ y = .ref q ∧ H p = some (.tup [.ref a, .ref b]) ∧ H q = some (.tup [.ref a', .ref b']) ∧ a ≠ a' ∧ b ≠ b' ∧ H a = some (.dK ks) ∧ H a' = some (.dK ks') ∧ H b = some (.dK ls) ∧ H b' = some (.dK ls') ∧ EqX ks ks' ∧ EqX ls ls' ∧ Q (.bl true) H
theorem vals2 {a b : Addr} {its : List Value} (h : Vals [V.ref a, V.ref b] its) : its = [.ref a, .ref b] := by
  cases h with
  | cons h1 h2 =>
    cases h2 with
    | cons h3 h4 =>
      cases h4
      rw [show _ = Value.ref a from h1, show _ = Value.ref b from h3]
theorem op_eqTT {X : Cx} (hu : X.A.units + 64 < cLine) : OpR X (compareOp .Eq) rEqTT := by
  intro pins s σ H x y v u Q I rx ry h
  obtain ⟨p, q, a, b, a', b', ks, ls, ks', ls', rfl, rfl, hp, hq, n1, n2, e1, e2, e3, e4, h1, h2, k⟩ := h
  obtain rfl : v = Value.ref p := rx
  obtain rfl : u = Value.ref q := ry
  obtain ⟨i1, v1, t1, _⟩ := I.tuple (SqT.of hp)
  obtain ⟨i2, v2, t2, _⟩ := I.tuple (SqT.of hq)
  have z1 := vals2 v1
  have z2 := vals2 v2
  subst z1 z2
  refine PySem.W.eq_tuplesT (n := 2) (e := fun _ => true) (show s.heap.IsTuple p _ from t1) (show s.heap.IsTuple q _ from t2) ?_ (by omega) ?_
  · intro j h1' h2'
    have hj : j = 0 ∨ j = 1 := by simp only [List.size_toArray, List.length_cons, List.length_nil] at h1'; omega
    rcases hj with rfl | rfl
    · exact tree_D I n1 e1 e2 h1
    · exact tree_D I n2 e3 e4 h2
  · exact ⟨.bl true, H, I, rfl, k⟩
/-- d[k], d perhaps locked -/
def rGetR : R2 := fun x y H Q => ∃ a kvs z v, x = .ref a ∧ y = .int z ∧ Rd H a (.dK kvs) ∧ valV kvs (.inl z) = some v ∧ Q v H
theorem pe_getR {X : Cx} {o i : Expr} {pos : Pos} {td ty : TE} (hu : X.A.units + 1 < cLine) (ho : PE X o td) (hi : PE X i ty) (hs : NoSl i) : PE X (.Subscript o i pos) (tOp rGetR td ty) :=
  opW (pe_dget hu (mo ho) (mo hi) hs) fun x y H Q ⟨a, kvs, z, v, e1, e2, h, g, q⟩ => ⟨a, v, e1, by subst e2; exact .inl ⟨kvs, .inl z, h, rfl, g.symm⟩, q⟩

/-! rules for exceptions of one's own -/
section
variable (P : Program) (w : World) (K : PySem.W.Frag) (mg : Str → Option Value) (base : Heap)
/-- the module's def x keeps sp; an exception may leave it -/
def OkX (k : Nat) (x : Str) (ps : List Str) (sp : Sp) : Prop :=
  ∃ f fd, FnOk P w K mg base (L2.CX P w) k f fd ps sp ∧ mg x = some (.ref f) ∧ PySem.W.keepIn K (.ref f) = true ∧ Binds K fd ps []
end
section
variable {P : Program} {w : World} {K : PySem.W.Frag} {mg : Str → Option Value} {base : Heap}
theorem OkX.mono {j k : Nat} {x : Str} {ps : List Str} {sp : Sp} (F : OkX P w K mg base j x ps sp) (h : j ≤ k) : OkX P w K mg base k x ps sp := by
  obtain ⟨f, fd, F, a, b, c⟩ := F
  exact ⟨f, fd, F.mono h, a, b, c⟩
theorem DefAt.okX {x : Str} {st : Stmt} {N ps : List Str} {k : Nat} {sp : Sp} (D : DefAt K mg x st) (S : FnScope N ps (defScope st))
    (hb : ∀ (kV doc pm : Value) (an : Option Addr) (cdv ct : Value) (us : List Value), us.length = ps.length → bindArgs (PySem.W.fnOf x x (defArgs st) (defBody st) (defScope st) .none kV doc pm an cdv ct) ⟨us, []⟩ = pure (ps.zip us))
    (len : ∀ vs H Q E, sp vs H Q E → vs.length = ps.length)
    (hbody : ∀ (f : Addr) (cdv : Value) (A : Around) (outer : List Env) (s : Shared) (H : Hp) (vs : List V) (Q : VK) (E : XK), Room k (A.deeper (envOfC x (defScope st) s.heap.objs.size f cdv)) → sp vs H Q E →
      ∃ t, PSs (cxOf (L2.CX P w) P w K mg base N x (defScope st) f cdv A outer s H E) (defBody st) t ∧ (HSz H → t { nx := fun _ H' => Q .non H', rt := Q } (start N vs) H)) : OkX P w K mg base (k + 1) x ps sp := by
  obtain ⟨f, fd, F, hm⟩ := D
  refine ⟨f, fd, F.ok S len fun cdv A outer s H vs Q E hr h => ?_, hm, F.kp, F.bindsN hb⟩
  obtain ⟨t, h1, h2⟩ := hbody f cdv A outer s H vs Q E hr h
  exact ⟨_, pssSz h1, h2⟩
end
section
variable {X : Cx} {k : Nat} {x : Str} {ps : List Str} {sp : Sp} {e : Expr} {es : List Expr} {t : TA} {p pos : Pos} {W : WX}
theorem pe_callX (F : OkX X.prog X.w X.K X.mg X.base k x ps sp) (hr : Room k X.A) (hg : Gl X x) (tk : Takes X W) (ha : PA X (e :: es) t) (hdb : (x == ("__debug__" : Str)) = false := by decide) (he : starEach (e :: es) X.env = (false, eval e X.env) :: starEach es X.env := by rfl) (hpl : (backTo pos (starEach es X.env)).any (·.1) = false := by rfl) :
    PE X (.Call (.Name x p) (e :: es) [] pos) (tCallS sp (WE W) t) := by
  obtain ⟨f, fd, F, hm, kp, b⟩ := F
  exact pe_callS F hr hg hm kp b (fun σ => passAt tk σ) ha hdb he hpl
theorem pss_never {b : List Stmt} : PSs X b tNever := ⟨fun _ _ _ _ _ _ h => h.elim⟩
/-- what is known may be used -/
def tIf (A : Prop) (t : TS) : TS := fun D σ H => A ∧ t D σ H
theorem pss_if {A : Prop} {b : List Stmt} {t : TS} (h : A → PSs X b t) : PSs X b (tIf A t) := ⟨fun pins s σ H D I ⟨a, q⟩ => (h a).run pins s σ H D I q⟩
end
/-- raise C('..') -/
def tRz (C : Addr) (W : WX) : TS := fun _ σ H => W (.ref C) none σ H
/-- what the head says of an own exception -/
structure ExD (K : PySem.W.Frag) (mg : Str → Option Value) (x : Str) (C : Addr) : Prop where
  q : PySem.W.excIn K C [.type "ValueError", .type "Exception", .type "BaseException", .type "object"] "ValueError.__new__" = true
  g : mg x = some (.ref C)
  k : PySem.W.keepIn K (.ref C) = true
  s : PySem.W.subIn K (.ref C) (.type "BaseException") = some true
  t : PySem.W.typeIn K (.ref C) = some (.type "type")
theorem ps_rz {X : Cx} {C : Addr} {W : WX} {x m : Str} {j : Nat} {p p2 pos pos2 : Pos} (E : ExD X.K X.mg x C) (hc : X.calm = true) (tk : Takes X W) (hg : Gl X x) (hdb : (x == ("__debug__" : Str)) = false := by decide) :
    PS X (.Raise (some (.Call (.Name x p) [.Constant (.str m) j p2] [] pos)) none pos2) (tRz C W) :=
  ps_raise hc tk (pmk_own PySem.F.excBase_ValueError E.q E.g E.k (raises_own E.s E.t) hg hdb)
/-- try: body; except x as (slot i): suite, for exceptions of the class D -/
def tTryAs (K : PySem.W.Frag) (c : Value) (i : Nat) (tb : WX → TS) (ts : Addr → Value → Option Addr → TS) : TS := fun D σ H => tb (wAs K c i ts (fun _ _ _ _ => False) D) D σ H
def iE (K : PySem.W.Frag) (D a : Addr) (i : Nat) (c : V) : TE := tCB (rIsE K D a) (tCons (tVar i) (tCons (tC c) tNil))
/-- range(lo, hi) -/
theorem forR2 {ta : TA} {tb : TS} {j : Nat} {σ : L2.St} {H : Hp} {D : Ends} {lo hi : Int} (hv : ∀ R : List V → Hp → Prop, R [.int lo, .int hi] H → ta σ H R) (b0 : -4611686018427387904 ≤ lo) (b1 : hi < 4611686018427387904) (b2 : lo ≤ hi) (Pv : Nat → L2.St → Hp → Prop) (h0 : Pv 0 σ H)
    (hs : ∀ (i : Nat) σ' H', lo + (i : Int) < hi → Pv i σ' H' → tb { D with nx := Pv (i + 1), ct := Pv (i + 1), bk := D.nx } (σ'.set j (some (.int (lo + (i : Int))))) H') (hd : ∀ σ' H', Pv (hi - lo).toNat σ' H' → D.nx σ' H') :
    tFor (iRng2 ta) (gName j) tb D σ H := by
  refine hv _ ⟨lo, hi, rfl, ⟨by omega, by omega, by omega, by omega⟩, for_it walk_range Pv h0 (fun _ _ _ _ _ => trivial) (fun i x σ1 H1 H2 hi' p y => ?_) hd⟩
  obtain ⟨e1, e2⟩ := y
  have e2' : x = .int (lo + (i : Int)) := e2
  subst e1 e2'
  exact hs i σ1 _ (by omega) p

/-! rules for texts: text * int, tuple * 0, tuple * 1, str of an int, a written dict -/
def spc (n : Nat) : Str := ⟨(List.replicate (2 * n) 32).toArray⟩
def rMulS : R2 := fun x y H Q => ∃ n : Nat, x = .str ("  " : Str) ∧ y = .int (n : Int) ∧ n ≤ 1000 ∧ Q (.str (spc n)) H
theorem spc_fold (n : Nat) : (⟨(List.replicate n ("  " : Str).cps).foldl (· ++ ·) #[]⟩ : Str) = spc n := by
  have e : ("  " : Str).cps = #[32, 32] := rfl
  rw [e]
  unfold spc
  congr 1
  have go : ∀ (n : Nat) (a : Array Nat), (List.replicate n #[32, 32]).foldl (· ++ ·) a = a ++ (List.replicate (2 * n) 32).toArray := by
    intro n
    induction n with
    | zero => intro a; simp
    | succ n ih =>
      intro a
      rw [List.replicate_succ, List.foldl_cons, ih, Array.append_assoc]
      congr 1
      rw [show 2 * (n + 1) = 2 + 2 * n by omega, ← List.replicate_append_replicate]
      simp
  rw [go]
  simp
theorem spc_len (n : Nat) : (spc n).length = 2 * n := by unfold spc Str.length; simp
theorem op_mulS {X : Cx} : OpR X (binaryOp .Mult) rMulS := by
  intro pins s σ H x y v u Q I rx ry h
  obtain ⟨n, rfl, rfl, hn, q⟩ := h
  obtain ⟨t, rfl⟩ := rx
  obtain ⟨t', rfl⟩ := ry
  have l2 : ("  " : Str).length = 2 := rfl
  refine PySem.P.mul_str (by rw [decide_eq_false (by omega), decide_eq_false (by omega)]; rfl) (fun h1 h2 => by
    rw [l2]
    have : (0 : Int) < n := by omega
    have h3 : (2 : Int) ≤ (2 ^ 63 - 1) / (n : Int) := (Int.le_ediv_iff_mul_le this).mpr (by omega)
    omega) (fun h1 h2 => by
    rw [l2]
    unfold Builtin.Str.tooLong
    rw [sizeLine_eq]
    exact decide_eq_false (by omega)) ?_
  by_cases h0 : (n : Int) < 1
  · rw [if_pos h0]
    have : n = 0 := by omega
    subst this
    exact ⟨by decide, .str _, H, I.tok _, ⟨_, rfl⟩, q⟩
  · rw [if_neg h0]
    by_cases h1 : n = 1
    · subst h1
      exact ⟨.str _, H, I, ⟨_, rfl⟩, q⟩
    · rw [if_neg (by rw [l2]; simp; omega)]
      have e := spc_fold n
      have e2 : ((n : Int)).toNat = n := rfl
      rw [e2, e]
      exact ⟨by rw [spc_len, sizeLine_eq]; omega, .str _, H, I.tok _, ⟨_, rfl⟩, q⟩
theorem tuple_mul0 (l : Addr) (items : Array Value) (n : Nat) (dd : Option Addr) (sl : Array (Option Value)) (u : Tok) (c1 : items.isEmpty = false) :
    Meets (Builtin.«tuple.__mul__» ⟨[.ref l, .int 0 u], []⟩) (fun _ R s => s.heap.get? l = some { cls := .type "tuple", dict := dd, data := .seq items n, slots := sl } ∧
      R (.ok (.ret (Value.ref s.heap.objs.size))) { s with heap := s.heap.push { cls := Value.type "tuple", data := Data.seq #[] }, toks := s.toks }) :=
  .of_wp fun prog w A R s h => by
    obtain ⟨hp, g, d, tk, os⟩ := s
    obtain ⟨hl, h⟩ := h
    have f1 := AutoSeq1.idx_int
    wp_walk using wpAny_loadPart' hl
    repeat (first
      | (refine wpAny_ite_false (decide_eq_false (by simp)) ?_; wp_walk using wpAny_loadPart' hl)
      | (refine wpAny_ite_false (decide_eq_false (by rw [c1]; simp)) ?_; wp_walk using wpAny_loadPart' hl)
      | (refine wpAny_ite_true (decide_eq_true (by simp)) ?_; wp_walk using wpAny_loadPart' hl))
    exact ⟨_, rfl, h⟩
theorem tuple_mul1 (l : Addr) (items : Array Value) (n : Nat) (dd : Option Addr) (sl : Array (Option Value)) (u : Tok) (c1 : items.isEmpty = false) :
    Meets (Builtin.«tuple.__mul__» ⟨[.ref l, .int 1 u], []⟩) (fun _ R s => s.heap.get? l = some { cls := .type "tuple", dict := dd, data := .seq items n, slots := sl } ∧ R (.ok (.ret (Value.ref l))) s) :=
  .of_wp fun prog w A R s h => by
    obtain ⟨hp, g, d, tk, os⟩ := s
    obtain ⟨hl, h⟩ := h
    have f1 := AutoSeq1.idx_int
    wp_walk using wpAny_loadPart' hl
    repeat (first
      | (refine wpAny_ite_false (decide_eq_false (by simp)) ?_; wp_walk using wpAny_loadPart' hl)
      | (refine wpAny_ite_true (decide_eq_true (by simp)) ?_; wp_walk using wpAny_loadPart' hl))
    exact ⟨_, rfl, h⟩
/-- (a tuple) * 0, * 1 -/
def rMulT01 (K : PySem.W.Frag) : R2 := fun x y H Q => ∃ l xs, x = .ref l ∧ H l = some (.tup xs) ∧ xs ≠ [] ∧ ((y = .int 0 ∧ ∀ p H', Al H p (.tup []) H' → Q (.ref p) H') ∨ (y = .int 1 ∧ Q (.ref l) H))
theorem op_mulT01 {X : Cx} : OpR X (binaryOp .Mult) (rMulT01 X.K) := by
  intro pins s σ H x y v u Q I rx ry h
  obtain ⟨l, xs, rfl, hT, hne, h⟩ := h
  cases rx
  obtain ⟨its, r, ⟨⟨cls, dd, data, sl⟩, ho, hc, n, hd⟩, hs⟩ := I.tuple (SqT.of hT)
  simp only at hc hd
  subst hc hd
  have hle : its.length = xs.length := r.length.symm
  have hi : its.toArray.isEmpty = false := by
    cases its with
    | nil => exact absurd (List.eq_nil_of_length_eq_zero hle.symm) hne
    | cons a b => rfl
  rcases h with ⟨rfl, q⟩ | ⟨rfl, q⟩
  · obtain ⟨t, rfl⟩ := ry
    refine wpAny_binaryOp_repeat_ref (T := "tuple") (U := "int") (by decide) ⟨_, ho, rfl⟩ (fun s' => typeIs_int s' 0 t) noFill_tuple_mul F.fills_int_mul F.slot_int_rmul repeat_tuple F.slot_int_index.lookup
      (call_meets F.slot_int_rmul (typeIs_int s 0 t) F.entry_int_rmul (F.args_int_rmul_2 _ _) (int_rmul_tuple 0 t l its.toArray n dd sl)
        ⟨ho, rfl, ⟨_, ho, rfl⟩, call_meets F.slot_tuple_mul ⟨_, ho, rfl⟩ F.entry_tuple_mul (F.args_tuple_mul_2 _ _) (tuple_mul0 l its.toArray n dd sl t hi) ⟨ho, ?_⟩⟩)
    refine ⟨.ref s.heap.objs.size, _, I.laid (t' := s.toks) (o := .tup []) (fun b ob q => Heap.get?_push_of_some _ q) (Nat.le_refl _) ?_, rfl, q _ _ (Al.of (I.hok.fresh (Nat.le_refl _)))⟩
    exact ⟨by decide, _, .nil, IsTup.new _ _⟩
  · obtain ⟨t, rfl⟩ := ry
    refine wpAny_binaryOp_repeat_ref (T := "tuple") (U := "int") (by decide) ⟨_, ho, rfl⟩ (fun s' => typeIs_int s' 1 t) noFill_tuple_mul F.fills_int_mul F.slot_int_rmul repeat_tuple F.slot_int_index.lookup
      (call_meets F.slot_int_rmul (typeIs_int s 1 t) F.entry_int_rmul (F.args_int_rmul_2 _ _) (int_rmul_tuple 1 t l its.toArray n dd sl)
        ⟨ho, rfl, ⟨_, ho, rfl⟩, call_meets F.slot_tuple_mul ⟨_, ho, rfl⟩ F.entry_tuple_mul (F.args_tuple_mul_2 _ _) (tuple_mul1 l its.toArray n dd sl t hi) ⟨ho, ?_⟩⟩)
    exact ⟨.ref l, H, I, rfl, q⟩
/-- str(an int | a text) -/
def rStrI : List V → Hp → VK → Prop := fun vs H Q => ∃ i : Int, vs = [.int i] ∧ 0 ≤ i ∧ i < 4611686018427387904 ∧ Q (.str (toString i : String)) H
theorem cl_strI {X : Cx} : CallR X (.type "str") rStrI := clM call_str_int fun xs H Q ⟨i, e, h0, h1, q⟩ => ⟨i, e, by
  have : i.natAbs.log2 < 62 ∨ i.natAbs = 0 := by
    by_cases h : i.natAbs = 0
    · exact .inr h
    · exact .inl ((Nat.log2_lt h).mpr (by omega))
  rcases this with h | h
  · omega
  · rw [h]; decide, q⟩
def rStrV : List V → Hp → VK → Prop := fun vs H Q => (∃ i : Int, vs = [.int i] ∧ 0 ≤ i ∧ i < 4611686018427387904 ∧ Q (.str (toString i : String)) H) ∨ ∃ a, vs = [.str a] ∧ Q (.str a) H
theorem cl_strV {X : Cx} : CallR X (.type "str") rStrV := fun pins s σ H xs us Q I r h => by
  rcases h with h | h
  · exact cl_strI pins s σ H xs us Q I r h
  · exact SkE.call_str_str pins s σ H xs us Q I r h
/-! the signs: a dict of the module -/
def Sg.mark : Sg → Str
  | .add => "+"
  | .sub => "-"
  | .less => "<"
  | .same => "="
def SgD (w : World) (K : PySem.W.Frag) (mg : Str → Option Value) : Prop := ∃ a, mg "SIGNS" = some (.ref a) ∧ ∀ s : Sg, KDct K w a s.s (.str s.mark)
def tSgn (te : TE) : TE := fun σ H Q => te σ H fun x H1 => ∃ s : Sg, x = .str s.s ∧ Q (.str s.mark) H1
theorem pe_sgn {X : Cx} {e : Expr} {te : TE} {p pos : Pos} (T : SgD X.w X.K X.mg) (hg : Gl X "SIGNS") (he : PE X e te) (hs : PlainIx e) : PE X (.Subscript (.Name "SIGNS" p) e pos) (tSgn te) := by
  obtain ⟨a, hm, hk⟩ := T
  refine peM (pe_ix ix_kdict (pe_glob (v := .ref a) hg hm rfl) (mo he) hs) fun σ H Q h => ?_
  exact ⟨_, h, fun x H1 ⟨s, e, q⟩ => ⟨a, s.s, _, rfl, e, hk s, q⟩⟩

/-! programs as texts: the mirror, promises -/
theorem sa (a b c : Str) : (a ++ b) ++ c = a ++ (b ++ c) := by
  show (⟨(a.cps ++ b.cps) ++ c.cps⟩ : Str) = ⟨a.cps ++ (b.cps ++ c.cps)⟩
  rw [Array.append_assoc]
theorem sl (a b : Str) : (a ++ b).length = a.length + b.length := Str.length_append a b
def Ex.txt : Ex → Str
  | .num n => (toString n : String)
  | .text z => "'" ++ z
  | .name x => x
  | .op s a b => s.mark ++ " " ++ a.txt ++ " " ++ b.txt
theorem digits_len (n : Nat) (h : n < 10000) : (Nat.toDigits 10 n).length ≤ 4 := by
  have := Nat.length_toDigits_le_iff (b := 10) (k := 4) (n := n) (by decide) (by decide)
  exact this.mpr h
theorem str_of_len (s : String) : (Str.ofString s).length = s.length := PySem.ofString_length s
theorem num_len {n : Int} (h : 0 ≤ n ∧ n < 10000) : (Str.ofString (toString n)).length ≤ 4 := by
  obtain ⟨m, rfl⟩ : ∃ m : Nat, n = (m : Int) := ⟨n.toNat, by omega⟩
  rw [str_of_len]
  have e : toString (m : Int) = toString m := rfl
  rw [e]
  have e2 : (toString m).length = (Nat.toDigits 10 m).length := by
    show (Nat.repr m).length = _
    simp [Nat.repr]
  rw [e2]
  exact digits_len m (by omega)
theorem Sg.mark_len (s : Sg) : s.mark.length = 1 := by cases s <;> rfl
theorem Ex.txt_len : ∀ {e : Ex}, e.ok → e.txt.length + 3 ≤ 8 * 2 ^ e.dep
  | .num n, h => by
    have := num_len h
    show (Str.ofString (toString n)).length + 3 ≤ 8 * 2 ^ 1
    omega
  | .text z, h => by
    have h1 : z.length ≤ 12 := by simpa [Str.length] using h.1
    show ("'" ++ z : Str).length + 3 ≤ 8 * 2 ^ 1
    rw [sl]
    have : ("'" : Str).length = 1 := rfl
    omega
  | .name x, h => by
    obtain ⟨i, _, rfl⟩ := h
    show (1 : Nat) + 3 ≤ 8 * 2 ^ 1
    omega
  | .op s a b, h => by
    have h1 := Ex.txt_len h.1
    have h2 := Ex.txt_len h.2
    have p1 : 2 ^ a.dep ≤ 2 ^ (max a.dep b.dep) := Nat.pow_le_pow_right (by decide) (Nat.le_max_left _ _)
    have p2 : 2 ^ b.dep ≤ 2 ^ (max a.dep b.dep) := Nat.pow_le_pow_right (by decide) (Nat.le_max_right _ _)
    have p3 : 2 ^ (1 + max a.dep b.dep) = 2 * 2 ^ (max a.dep b.dep) := by rw [Nat.pow_add]
    simp only [Ex.txt, Ex.dep, sl, Sg.mark_len, p3]
    have : (" " : Str).length = 1 := rfl
    omega
theorem Ex.txt_max {e : Ex} (h : e.ok) (hd : e.dep ≤ 8) : e.txt.length ≤ 2048 := by
  have := Ex.txt_len h
  have p : 2 ^ e.dep ≤ 2 ^ 8 := Nat.pow_le_pow_right (by decide) hd
  omega
mutual
def Sm.lin (k : Nat) : Sm → List Str
  | .say e => [spc k ++ "say " ++ e.txt]
  | .set x e => [spc k ++ "set " ++ x ++ " " ++ e.txt]
  | .ite e s t => (spc k ++ "if " ++ e.txt) :: (linL (k + 1) s ++ (match t with | [] => [] | _ :: _ => (spc k ++ "else") :: linL (k + 1) t))
  | .whl e s => (spc k ++ "while " ++ e.txt) :: linL (k + 1) s
def linL (k : Nat) : List Sm → List Str
  | [] => []
  | a :: r => a.lin k ++ linL k r
end
def Un.lin (k : Nat) : Un → List Str
  | .row l => linL k l
  | .st s => s.lin k
theorem linL_append (k : Nat) (l m : List Sm) : linL k (l ++ m) = linL k l ++ linL k m := by
  induction l with
  | nil => simp [linL]
  | cons a r ih => simp only [List.cons_append, linL, ih, List.append_assoc]
theorem linL_snoc (k : Nat) (l : List Sm) (s : Sm) : linL k (l ++ [s]) = linL k l ++ s.lin k := by rw [linL_append]; simp [linL]
mutual
theorem Sm.lin_len (k : Nat) : ∀ s : Sm, (s.lin k).length ≤ 2 * s.cnt
  | .say e => by simp [Sm.lin, Sm.cnt]
  | .set x e => by simp [Sm.lin, Sm.cnt]
  | .ite e s t => by
    have h1 := linL_len (k + 1) s
    have h2 := linL_len (k + 1) t
    cases t with
    | nil => simp only [Sm.lin, Sm.cnt, List.length_cons, List.length_append, List.length_nil]; omega
    | cons a r => simp only [Sm.lin, Sm.cnt, List.length_cons, List.length_append]; omega
  | .whl e s => by
    have h1 := linL_len (k + 1) s
    simp only [Sm.lin, Sm.cnt, List.length_cons]; omega
theorem linL_len (k : Nat) : ∀ l : List Sm, (linL k l).length ≤ 2 * cntL l
  | [] => by simp [linL, cntL]
  | a :: r => by
    have h1 := Sm.lin_len k a
    have h2 := linL_len k r
    simp only [linL, cntL, List.length_append]; omega
end
theorem Un.lin_len (k : Nat) (o : Un) : (o.lin k).length ≤ 2 * o.cnt := by
  cases o with
  | row l => exact linL_len k l
  | st s => exact s.lin_len k
theorem spc_zero : spc 0 = ("" : Str) := rfl
theorem spc_succ (k : Nat) : spc k ++ ("  " : Str) = spc (k + 1) := by
  show (⟨(List.replicate (2 * k) 32).toArray ++ #[32, 32]⟩ : Str) = ⟨(List.replicate (2 * (k + 1)) 32).toArray⟩
  congr 1
  rw [show 2 * (k + 1) = 2 * k + 2 by omega, ← List.replicate_append_replicate]
  simp
mutual
theorem Sm.lin_max (k : Nat) : ∀ s : Sm, s.ok 8 → ∀ z ∈ s.lin k, z.length ≤ 2 * (k + s.dp) + 2060
  | .say e, h, z, hz => by
    have := Ex.txt_max h.1 h.2
    simp only [Sm.lin, List.mem_singleton] at hz
    subst hz
    rw [sl, sl, spc_len]
    have : ("say " : Str).length = 4 := rfl
    omega
  | .set x e, h, z, hz => by
    have := Ex.txt_max h.2.1 h.2.2
    obtain ⟨i, _, rfl⟩ := h.1
    simp only [Sm.lin, List.mem_singleton] at hz
    subst hz
    rw [sl, sl, sl, sl, spc_len]
    have : ("set " : Str).length = 4 := rfl
    have : (" " : Str).length = 1 := rfl
    have : (⟨#[97 + i]⟩ : Str).length = 1 := rfl
    omega
  | .ite e s t, h, z, hz => by
    have hx := Ex.txt_max h.1.1 h.1.2
    have m1 := Nat.le_max_left (dpL s) (dpL t)
    have m2 := Nat.le_max_right (dpL s) (dpL t)
    simp only [Sm.dp]
    simp only [Sm.lin] at hz
    rcases List.mem_cons.mp hz with rfl | hz
    · rw [sl, sl, spc_len]
      have : ("if " : Str).length = 3 := rfl
      omega
    · rcases List.mem_append.mp hz with hz | hz
      · have := linL_max (k + 1) s h.2.1 z hz
        omega
      · cases t with
        | nil => cases hz
        | cons a r =>
          rcases List.mem_cons.mp hz with rfl | hz
          · rw [sl, spc_len]
            have : ("else" : Str).length = 4 := rfl
            omega
          · have := linL_max (k + 1) (a :: r) h.2.2 z hz
            omega
  | .whl e s, h, z, hz => by
    have hx := Ex.txt_max h.1.1 h.1.2
    simp only [Sm.dp]
    simp only [Sm.lin] at hz
    rcases List.mem_cons.mp hz with rfl | hz
    · rw [sl, sl, spc_len]
      have : ("while " : Str).length = 6 := rfl
      omega
    · have := linL_max (k + 1) s h.2 z hz
      omega
theorem linL_max (k : Nat) : ∀ l : List Sm, okL 8 l → ∀ z ∈ linL k l, z.length ≤ 2 * (k + dpL l) + 2060
  | [], _, z, hz => by cases hz
  | a :: r, h, z, hz => by
    have m1 := Nat.le_max_left (1 + a.dp) (dpL r)
    have m2 := Nat.le_max_right (1 + a.dp) (dpL r)
    simp only [dpL]
    simp only [linL] at hz
    rcases List.mem_append.mp hz with hz | hz
    · have := Sm.lin_max k a h.1 z hz
      omega
    · have := linL_max k r h.2 z hz
      omega
end
theorem sum_le {l : List Str} {m : Nat} (h : ∀ z ∈ l, z.length ≤ m) : (l.map (·.length)).sum ≤ m * l.length := by
  induction l with
  | nil => simp
  | cons a r ih =>
    have h1 := h a (by simp)
    have h2 := ih fun z hz => h z (by simp [hz])
    simp only [List.map_cons, List.sum_cons, List.length_cons, Nat.mul_succ]
    omega
mutual
theorem Sm.ok_mono {m n : Nat} (h : m ≤ n) : ∀ s : Sm, s.ok m → s.ok n
  | .say e, k => ⟨k.1, Nat.le_trans k.2 h⟩
  | .set x e, k => ⟨k.1, k.2.1, Nat.le_trans k.2.2 h⟩
  | .ite e s t, k => ⟨⟨k.1.1, Nat.le_trans k.1.2 h⟩, okL_mono h s k.2.1, okL_mono h t k.2.2⟩
  | .whl e s, k => ⟨⟨k.1.1, Nat.le_trans k.1.2 h⟩, okL_mono h s k.2⟩
theorem okL_mono {m n : Nat} (h : m ≤ n) : ∀ l : List Sm, okL m l → okL n l
  | [], _ => trivial
  | a :: r, k => ⟨Sm.ok_mono h a k.1, okL_mono h r k.2⟩
end
/-! the data may be compared -/
theorem strOk_small {z : Str} (h : ∀ c ∈ z.cps.toList, c < 128) : PyData.strOk z = true := by
  unfold PyData.strOk
  simp only [Array.all_eq_true', Bool.and_eq_true, decide_eq_true_eq]
  intro x hx
  have := h x (by simpa using hx)
  omega
theorem Nm8.sok {x : Str} (h : Nm8 x) : PyData.strOk x = true := by
  obtain ⟨i, hi, rfl⟩ := h
  exact strOk_small fun c hc => by simp at hc; omega
theorem Txt12.sok {x : Str} (h : Txt12 x) : PyData.strOk x = true := strOk_small fun c hc => by have := h.2 c hc; omega
theorem wd_sok {i : Nat} (h : i < 42) : PyData.strOk (wd i) = true := by
  have : ∀ i : Fin 42, PyData.strOk (wd i.1) = true := by decide +kernel
  exact this ⟨i, h⟩
theorem Sg.sok (s : Sg) : PyData.strOk s.s = true := by cases s <;> exact wd_sok (by decide)
theorem Ex.lay : ∀ {e : Ex}, e.ok → e.d.canLay0 = true ∧ e.d.depth = e.dep
  | .num n, h => by simp [Ex.d, PyData.canLay0, PyData.canLayAll0, PyData.depth, PyData.depthAll, wd_sok, Ex.dep]
  | .text n, h => by simp [Ex.d, PyData.canLay0, PyData.canLayAll0, PyData.depth, PyData.depthAll, wd_sok, Ex.dep, Txt12.sok h]
  | .name n, h => by simp [Ex.d, PyData.canLay0, PyData.canLayAll0, PyData.depth, PyData.depthAll, wd_sok, Ex.dep, Nm8.sok h]
  | .op s a b, h => by
    have h1 := Ex.lay h.1
    have h2 := Ex.lay h.2
    simp only [Ex.d, PyData.canLay0, PyData.canLayAll0, PyData.depth, PyData.depthAll, Sg.sok, Ex.dep, h1, h2, Bool.and_self, true_and]
    omega
mutual
theorem Sm.lay : ∀ {s : Sm}, s.ok 8 → s.d.canLay0 = true ∧ s.d.depth ≤ 2 * s.dp + 8
  | .say e, h => by
    have h1 := Ex.lay h.1
    have := h.2
    simp only [Sm.d, PyData.canLay0, PyData.canLayAll0, PyData.depth, PyData.depthAll, wd_sok, h1, Bool.and_self, true_and, Sm.dp, Nat.reduceLT]
    omega
  | .set x e, h => by
    have h1 := Ex.lay h.2.1
    have := h.2.2
    simp only [Sm.d, PyData.canLay0, PyData.canLayAll0, PyData.depth, PyData.depthAll, wd_sok, h1, Nm8.sok h.1, Bool.and_self, true_and, Sm.dp, Nat.reduceLT]
    omega
  | .ite e s t, h => by
    have h1 := Ex.lay h.1.1
    have := h.1.2
    have h2 := dL_lay h.2.1
    have h3 := dL_lay h.2.2
    simp only [Sm.d, PyData.canLay0, PyData.canLayAll0, PyData.depth, PyData.depthAll, wd_sok, h1, h2, h3, Bool.and_self, true_and, Sm.dp, Nat.reduceLT]
    omega
  | .whl e s, h => by
    have h1 := Ex.lay h.1.1
    have := h.1.2
    have h2 := dL_lay h.2
    simp only [Sm.d, PyData.canLay0, PyData.canLayAll0, PyData.depth, PyData.depthAll, wd_sok, h1, h2, Bool.and_self, true_and, Sm.dp, Nat.reduceLT]
    omega
theorem dL_lay : ∀ {l : List Sm}, okL 8 l → PyData.canLayAll0 (dL l) = true ∧ PyData.depthAll (dL l) ≤ 2 * dpL l + 6
  | [], _ => by simp [dL, PyData.canLayAll0, PyData.depthAll]
  | a :: r, h => by
    have h1 := Sm.lay h.1
    have h2 := dL_lay h.2
    simp only [dL, PyData.canLayAll0, PyData.depthAll, h1, h2, Bool.and_self, true_and, dpL]
    omega
end
mutual
theorem Tp.dp {K : PySem.W.Frag} {H : Hp} : ∀ {d : PyData} {v : V}, Tp H d v → Dp K H v d
  | .none, _, h => by rw [tp_non] at h; subst h; exact .non
  | .bool _, _, h => by rw [tp_bl] at h; subst h; exact .bl _
  | .int _, _, h => by rw [tp_int] at h; subst h; exact .int _
  | .str _, _, h => by rw [tp_str] at h; subst h; exact .str _
  | .tuple ds, v, h => by
    rw [tp_tup] at h
    obtain ⟨a, xs, rfl, ha, hx⟩ := h
    exact .tup (SqT.of ha) (TpL.dp hx)
  | .list _, _, h => by simp only [Tp] at h
  | .dict _, _, h => by simp only [Tp] at h
theorem TpL.dp {K : PySem.W.Frag} {H : Hp} : ∀ {ds : List PyData} {xs : List V}, TpL H ds xs → DpAll K H xs ds
  | [], _, h => by rw [tpl_nil] at h; subst h; exact .nil
  | d :: ds, xs, h => by
    rw [tpl_cons] at h
    obtain ⟨v, r, rfl, h1, h2⟩ := h
    exact .cons (Tp.dp h1) (TpL.dp h2)
end
/-- two rows beside: one is empty -/
theorem ne_row {K : PySem.W.Frag} {H : Hp} {x y : V} {l : List Sm} {Q : VK} (ok : okL 8 l) (hd : dpL l ≤ 24) (h1 : Tp H (rowD l) x) (h2 : Tp H (rowD []) y) (q : Q (.bl (!l.isEmpty)) H) : rNeD K x y H Q := by
  have hl := dL_lay ok
  refine ⟨_, _, h1.dp, h2.dp, ?_, ?_, ?_⟩
  · unfold SeqAt.shaped
    simp only [rowD, PyData.canLay0, PyData.canLayAll0, PyData.depth, PyData.depthAll, wd_sok, hl, Bool.and_self, Nat.reduceLT, Bool.true_and, decide_eq_true_eq]
    omega
  · unfold SeqAt.shaped
    simp [rowD, dL, PyData.canLay0, PyData.canLayAll0, PyData.depth, PyData.depthAll, wd_sok]
  · cases l with
    | nil => simpa [rowD, dL, PyData.eqv, PyData.eqvAll] using q
    | cons a r => simpa [rowD, dL, PyData.eqv, PyData.eqvAll] using q
theorem ne_seq {K : PySem.W.Frag} {H : Hp} {x y : V} {l : List Sm} {Q : VK} (ok : okL 8 l) (hd : dpL l ≤ 24) (h1 : Tp H (.tuple (dL l)) x) (h2 : Tp H (.tuple []) y) (q : Q (.bl (!l.isEmpty)) H) : rNeD K x y H Q := by
  have hl := dL_lay ok
  refine ⟨_, _, h1.dp, h2.dp, ?_, ?_, ?_⟩
  · unfold SeqAt.shaped
    rw [Bool.and_eq_true]
    refine ⟨by simp only [PyData.canLay0]; exact hl.1, decide_eq_true ?_⟩
    simp only [PyData.depth]
    omega
  · unfold SeqAt.shaped
    simp [PyData.canLay0, PyData.canLayAll0, PyData.depth, PyData.depthAll]
  · cases l with
    | nil => simpa [dL, PyData.eqv, PyData.eqvAll] using q
    | cons a r => simpa [dL, PyData.eqv, PyData.eqvAll] using q
/-! promises -/
def svs (l : List Str) : List V := l.map V.str
def sp_part_text (n : Nat) : Sp := fun vs H Q _ => ∃ (v : V) (e : Ex), vs = [v] ∧ Tp H e.d v ∧ e.dep ≤ n ∧ e.ok ∧ e.dep ≤ 8 ∧ ∀ H', Fr [] H H' → Q (.str e.txt) H'
def sp_L_part_text (n : Nat) : Sp := sp_part_text n
theorem len_part_text {n : Nat} (vs : List V) (H : Hp) (Q : VK) (E : XK) (h : sp_part_text n vs H Q E) : vs.length = 1 := by
  obtain ⟨_, _, rfl, _⟩ := h
  rfl
theorem no_part_text (vs : List V) (H : Hp) (Q : VK) (E : XK) : ¬ sp_part_text 0 vs H Q E := fun ⟨_, e, _, _, h, _⟩ => absurd e.dep_pos (by omega)
theorem len_L_part_text {n : Nat} (vs : List V) (H : Hp) (Q : VK) (E : XK) (h : sp_L_part_text n vs H Q E) : vs.length = 1 := len_part_text vs H Q E h
theorem no_L_part_text (vs : List V) (H : Hp) (Q : VK) (E : XK) : ¬ sp_L_part_text 0 vs H Q E := no_part_text vs H Q E
def sp_lines_of (n : Nat) : Sp := fun vs H Q _ => ∃ (v : V) (k : Nat) (o : Un), vs = [v, .str (spc k)] ∧ Tp H o.d v ∧ o.dp ≤ n ∧ o.ok 8 ∧ o.cnt ≤ 20000 ∧ k + o.dp ≤ 24 ∧ ∀ a H', H' a = some (.lst (svs (o.lin k))) → Fr [] H H' → Q (.ref a) H'
theorem len_lines_of {n : Nat} (vs : List V) (H : Hp) (Q : VK) (E : XK) (h : sp_lines_of n vs H Q E) : vs.length = 2 := by
  obtain ⟨_, _, _, rfl, _⟩ := h
  rfl
theorem no_lines_of (vs : List V) (H : Hp) (Q : VK) (E : XK) : ¬ sp_lines_of 0 vs H Q E := fun ⟨_, _, o, _, _, h, _⟩ => absurd o.dp_pos (by omega)
def sp_L_lines (n : Nat) : Sp := fun vs H Q _ => ∃ (v : V) (k : Nat) (o : Un), vs = [v, .int (k : Nat)] ∧ Tp H o.d v ∧ o.dp ≤ n ∧ o.ok 8 ∧ o.cnt ≤ 20000 ∧ k + o.dp ≤ 24 ∧ ∀ a H', H' a = some (.lst (svs (o.lin k))) → Fr [] H H' → H a = none → Q (.ref a) H'
theorem len_L_lines {n : Nat} (vs : List V) (H : Hp) (Q : VK) (E : XK) (h : sp_L_lines n vs H Q E) : vs.length = 2 := by
  obtain ⟨_, _, _, rfl, _⟩ := h
  rfl
theorem no_L_lines (vs : List V) (H : Hp) (Q : VK) (E : XK) : ¬ sp_L_lines 0 vs H Q E := fun ⟨_, _, o, _, _, h, _⟩ => absurd o.dp_pos (by omega)
/-- the text of a program -/
def ptext (p : List Sm) : Str := Txt.join "\n" (linL 0 p)
def PrT (p : List Sm) : Prop := okL 8 p ∧ dpL p ≤ 24 ∧ cntL p ≤ 20000 ∧ (linL 0 p).length ≤ 200
def sp_program_text : Sp := fun vs H Q _ => ∃ (v : V) (p : List Sm), vs = [v] ∧ Tp H (rowD p) v ∧ PrT p ∧ ∀ H', Fr [] H H' → Q (.str (ptext p)) H'
theorem len_program_text (vs : List V) (H : Hp) (Q : VK) (E : XK) (h : sp_program_text vs H Q E) : vs.length = 1 := by
  obtain ⟨_, _, rfl, _⟩ := h
  rfl
def sp_L_short : Sp := fun vs H Q _ => ∃ (b l : Addr), vs = [.ref b] ∧ BoxAt H b l ∧ ∀ (p : List Sm) v H', PrT p → (linL 0 p).length ≤ 60 → okL 5 p → dpL p ≤ 12 → Tp H' (rowD p) v → BoxAt H' b l → Fr [b, l] H H' → Q v H'
theorem len_L_short (vs : List V) (H : Hp) (Q : VK) (E : XK) (h : sp_L_short vs H Q E) : vs.length = 1 := by
  obtain ⟨_, _, rfl, _⟩ := h
  rfl
theorem join_fit {p : List Sm} (h : PrT p) : ((linL 0 p).map (·.length)).sum + (linL 0 p).length * ("\n" : Str).length ≤ 16777216 := by
  obtain ⟨h1, h2, h3, h4⟩ := h
  have h5 := sum_le (m := 2 * (0 + dpL p) + 2060) (linL_max 0 p h1)
  have e : ("\n" : Str).length = 1 := rfl
  have h6 : (2 * (0 + dpL p) + 2060) * (linL 0 p).length ≤ 2108 * 200 := Nat.mul_le_mul (by omega) h4
  rw [e]
  omega

/-! rules for reading texts: the items of the signs; defs and methods that may raise, called by such -/
def kstr : Value → Option Str
  | .str x _ => some x
  | _ => none
theorem kstr_eq {v : Value} {x : Str} (h : kstr v = some x) : ∃ t, v = .str x t := by
  cases v with
  | str y t => cases h; exact ⟨t, rfl⟩
  | _ => cases h
theorem isStrOf_self (x : Str) (t : Tok) : Value.isStrOf x (.str x t) = true := by simp [Value.isStrOf]
/-- the signs, with their marks, in order -/
def sgKs : List (Key × V) := [(.inr (wd 3), .str "+"), (.inr (wd 4), .str "-"), (.inr (wd 5), .str "<"), (.inr (wd 6), .str "=")]
def sgSs : List (Str × Str) := [(wd 3, "+"), (wd 4, "-"), (wd 5, "<"), (wd 6, "=")]
structure SgAt (w : World) (K : PySem.W.Frag) (d : Addr) (es : Array DictEntry) (ep : Nat) : Prop where
  at_ : K.lookup d = some ⟨.type "dict", none, .dict es ep, #[]⟩
  lit : PySem.W.KeysLit w.params es.toList
  low : (d == sysModules) = false
  ent : es.toList.map (fun e => (kstr e.key, kstr e.val)) = sgSs.map fun p => (some p.1, some p.2)
theorem SgAt.dict {w : World} {K : PySem.W.Frag} {d : Addr} {es : Array DictEntry} {ep : Nat} (S : SgAt w K d es ep) (P : Program) {h : Heap} (X : K.In h) :
    ∃ vs : List (Key × Value), KV sgKs vs ∧ h.DictAt (mixKind P w) d vs ep ∧ es.size = 4 := by
  have ho := X _ _ S.at_
  have e := S.ent
  have l := S.lit
  have hn : es.toList.length = 4 := by
    have := congrArg List.length e
    simpa [sgSs] using this
  obtain ⟨el⟩ := es
  simp only at hn e l
  obtain ⟨e0, e1, e2, e3, rfl⟩ : ∃ e0 e1 e2 e3, el = [e0, e1, e2, e3] := by
    cases el with
    | nil => cases hn
    | cons e0 r => cases r with
      | nil => cases hn
      | cons e1 r => cases r with
        | nil => cases hn
        | cons e2 r => cases r with
          | nil => cases hn
          | cons e3 r => cases r with
            | nil => exact ⟨e0, e1, e2, e3, rfl⟩
            | cons e4 r => simp at hn
  simp only [sgSs, List.map_cons, List.map_nil, List.cons.injEq, Prod.mk.injEq, and_true] at e
  obtain ⟨⟨a0, b0⟩, ⟨a1, b1⟩, ⟨a2, b2⟩, a3, b3⟩ := e
  obtain ⟨t0, a0⟩ := kstr_eq a0
  obtain ⟨t1, a1⟩ := kstr_eq a1
  obtain ⟨t2, a2⟩ := kstr_eq a2
  obtain ⟨t3, a3⟩ := kstr_eq a3
  obtain ⟨u0, b0⟩ := kstr_eq b0
  obtain ⟨u1, b1⟩ := kstr_eq b1
  obtain ⟨u2, b2⟩ := kstr_eq b2
  obtain ⟨u3, b3⟩ := kstr_eq b3
  refine ⟨[(.inr (wd 3), e0.val), (.inr (wd 4), e1.val), (.inr (wd 5), e2.val), (.inr (wd 6), e3.val)], ?_, ⟨_, _, ho, ⟨rfl, rfl, rfl⟩, rfl, ?_, ?_, ?_⟩, rfl⟩
  · exact .cons ⟨rfl, ⟨u0, b0⟩⟩ (.cons ⟨rfl, ⟨u1, b1⟩⟩ (.cons ⟨rfl, ⟨u2, b2⟩⟩ (.cons ⟨rfl, ⟨u3, b3⟩⟩ .nil)))
  · intro e he
    have he' : e ∈ [e0, e1, e2, e3] := by simpa using he
    obtain ⟨x, t, h1, h2⟩ := l.all e he'
    exact ⟨.inr x, by rw [h1]; exact isStrOf_self x t, h2⟩
  · refine .cons ?_ rfl (.cons ?_ rfl (.cons ?_ rfl (.cons ?_ rfl .nil)))
    · show Value.isStrOf (wd 3) e0.key = true; rw [a0]; exact isStrOf_self _ _
    · show Value.isStrOf (wd 4) e1.key = true; rw [a1]; exact isStrOf_self _ _
    · show Value.isStrOf (wd 5) e2.key = true; rw [a2]; exact isStrOf_self _ _
    · show Value.isStrOf (wd 6) e3.key = true; rw [a3]; exact isStrOf_self _ _
  · show ([.inr (wd 3), .inr (wd 4), .inr (wd 5), .inr (wd 6)] : List Key).Nodup
    decide +kernel
/-- the items of the signs -/
def ItSg : It := ⟨fun i _ => i < 4, fun i H x H' => ∃ T k v, sgKs[i]? = some (k, v) ∧ x = .ref T ∧ H T = none ∧ H' = upd H T (.tup [kV k, v]), fun i _ => 4 ≤ i⟩
theorem turn_sg {P : Program} {w : World} {K : PySem.W.Frag} {d : Addr} {es : Array DictEntry} {ep : Nat} {elts : List Expr} {kk : Nat} {tpos : Pos} (it : Addr) (S : SgAt w K d es ep) :
    Turn P w K (.Tuple elts kk tpos) ItSg [it] it (fun i h => ∃ ok ov, IsItemIter h it d i 4 ep ok ov) where
  mem := by simp
  obj := fun i h st b hb => by
    have e : b = it := by simpa using hb
    subst e
    obtain ⟨ok, ov, e⟩ := st
    exact ⟨_, e, fun v z => nomatch z⟩
  keep := fun i h h' st k => let ⟨ok, ov, e⟩ := st; ⟨ok, ov, k it (by simp) _ e⟩
  item := by
    intro X hP hw hK hc i pins s σ H E I hf st hg
    subst hP hw hK
    obtain ⟨vs, kv, hm, hsz⟩ := S.dict X.prog I.kIn
    have hi : i < sgKs.length := hg
    obtain ⟨⟨k, v⟩, hkv⟩ : ∃ p, sgKs[i]? = some p := ⟨sgKs[i], List.getElem?_eq_getElem hi⟩
    obtain ⟨u, hu, ru⟩ := kv_get kv hkv
    have hl : 4 = vs.length := Paired.length kv
    obtain ⟨ok, ov, he⟩ := st
    rw [hl] at he
    have hlt : it < s.heap.objs.size := Heap.lt_size he
    refine wpAny_pyNext_items_item he hm hu fun key h' hkey ho hT hz hk => ?_
    refine ⟨_, rfl, wpAny_letOwnedTupleGo_items (s := { s with heap := h' }) ho fun h'' he' sb => ?_⟩
    have hT2 : h''.get? s.heap.objs.size = some { cls := .type "tuple", data := .seq #[key, u] } := (sb.2 _ (Nat.ne_of_gt hlt)).trans hT
    have new : ObjOk X.prog X.w (upd H s.heap.objs.size (.tup [kV k, v])) h'' s.heap.objs.size (.tup [kV k, v]) :=
      ⟨by show 2 ≤ sizeLine; decide, [key, u], .cons (relV_key (show keyIs k key = true from hkey)) (.cons ru .nil), ⟨_, hT2, rfl, _, rfl⟩⟩
    have I1 : Inv X pins σ (upd H s.heap.objs.size (.tup [kV k, v])) { s with heap := h'' } :=
      I.turnedNew (t' := s.toks) (ch := [it]) (fun b ob hb e => (sb.2 b (by simpa using hb)).trans (hk b ob (by simpa using hb) e)) hf (Nat.le_refl _) new
    refine ⟨.ref s.heap.objs.size, _, I1, rfl, ⟨_, k, v, hkv, rfl, I.hok.fresh (Nat.le_refl _), rfl⟩, ⟨key, u, ?_⟩, fun b hb => ?_⟩
    · rw [hl]; exact he'
    · have e : b = it := by simpa using hb
      rw [e, upd_ne (Nat.ne_of_lt hlt)]
      exact (hf it (by simp)).1
  done := by
    intro X hP hw hK hc i pins s σ H E I hf st hg
    subst hP hw hK
    have hi : 4 ≤ i := hg
    obtain ⟨f0, f1, f2, f3, f4, f5⟩ := hf it (by simp)
    obtain ⟨vs, kv, hm, hsz⟩ := S.dict X.prog I.kIn
    have hl : 4 = vs.length := Paired.length kv
    obtain ⟨ok, ov, he⟩ := st
    rw [hl] at he
    exact wpAny_pyNext_items_end (I.ok.hd hc) he hm (List.getElem?_eq_none (by omega)) fun h' eb => ⟨rfl, I.turned (t' := s.toks) (fun b ob hb e => eb b ob hb e) f0 f1 f3 f4 f5⟩
  self := fun A i s Q E st h => let ⟨_, _, e⟩ := st; PySem.W.kcp_self e h
def SgD2 (w : World) (K : PySem.W.Frag) (mg : Str → Option Value) : Prop := ∃ d es ep, mg "SIGNS" = some (.ref d) ∧ SgAt w K d es ep
def iSg : TI := fun _ H R => R ItSg H
theorem pi_sg {X : Cx} {p apos cpos : Pos} {elts : List Expr} {kk : Nat} {tpos : Pos} (T : SgD2 X.w X.K X.mg) (hg : Gl X "SIGNS") (hbase : attributeBase (.Name "SIGNS" p) "items" X.env (eval (.Name "SIGNS" p) X.env) = eval (.Name "SIGNS" p) X.env := by rfl) (hline : (apos.endLine == cpos.line) = true := by rfl) :
    PI X (.Tuple elts kk tpos) (.Call (.Attribute (.Name "SIGNS" p) "items" apos) [] [] cpos) iSg := by
  obtain ⟨d, es, ep, hmg, S⟩ := T
  refine ⟨fun pins s σ H R I h => ?_⟩
  have he : PE X (.Name "SIGNS" p) (tC (.ref d)) := pe_glob (v := .ref d) hg hmg rfl
  refine wpAny_Call_method (T := "dict") (id := "dict.items") hbase rfl hline F.plainAttrs_dict F.slot_dict_items F.type_dict_items (thn (he.run pins s σ H (fun x H1 => x = .ref d ∧ H1 = H) I ⟨rfl, rfl⟩) fun u s1 ⟨x, H1, I1, rx, ex, eH⟩ => ?_)
  subst ex eH
  obtain rfl : u = Value.ref d := rx
  obtain ⟨vs, kv, hm, hsz⟩ := S.dict X.prog I1.kIn
  have hl : 4 = vs.length := Paired.length kv
  refine ⟨hm.dictOf.typeIs, hm.dictOf.mapOf.noDict, ?_⟩
  have I2 : Inv X pins σ H1 { s1 with heap := s1.heap.push { cls := .type "dict_items", data := .fields #[.ref d] } } := I1.kept (t' := s1.toks) fun b ob q => Heap.get?_push_of_some _ q
  have fin : wpAny (model X.prog X.w) X.A (pyIter (.ref s1.heap.objs.size)) (PIE X pins σ (.Tuple elts kk tpos) R) X.xe { s1 with heap := s1.heap.push { cls := .type "dict_items", data := .fields #[.ref d] } } := by
    refine wpAny_pyIter_items (d := d) (knd := mixKind X.prog X.w) ⟨_, Heap.get?_push_size _ rfl, rfl, rfl⟩ (hm.push _) (pi_one (tk := s1.toks) I2 _ (turn_sg _ S) ⟨.none, .none, ?_⟩ h)
    rw [hl]
    exact Heap.get?_push_size _ rfl
  show wpAny _ _ (callWith cpos (.builtin "dict.items") [.ref d] [] []) _ X.xe s1
  exact method_meetsIn F.slot_dict_items F.entry_dict_items rfl (PySem.evalArgs_none ⟨rfl, hm.dictOf.typeIs, F.args_dict_items_1 _, _, meets_dict_items (mixKind X.prog X.w) d S.low, ⟨vs, hm.dictOf⟩, fin⟩)

/-! defs and methods that may raise, called by such; methods of texts -/
section
variable (P : Program) (w : World) (K : PySem.W.Frag) (mg : Str → Option Value) (base : Heap)
/-- the method m of the class at C keeps sp; an exception may leave it -/
def OkMX (k : Nat) (C : Addr) (m : Str) (ps : List Str) (sp : Sp) : Prop := ∃ f fd, FnOk P w K mg base (L2.CX P w) k f fd ps sp ∧ Meth K C m f ∧ Binds K fd ps []
end
section
variable {P : Program} {w : World} {K : PySem.W.Frag} {mg : Str → Option Value} {base : Heap} {C : Addr}
theorem OkMX.mono {j k : Nat} {m : Str} {ps : List Str} {sp : Sp} (F : OkMX P w K mg base j C m ps sp) (h : j ≤ k) : OkMX P w K mg base k C m ps sp := by
  obtain ⟨f, fd, F, a, b⟩ := F
  exact ⟨f, fd, F.mono h, a, b⟩
theorem MethAt.okX {m qual : Str} {st : Stmt} {N ps : List Str} {k : Nat} {sp : Sp} (D : MethAt K C m qual st) (S : FnScope N ps (defScope st))
    (hb : ∀ (kV doc pm : Value) (an : Option Addr) (cdv ct : Value) (us : List Value), us.length = ps.length → bindArgs (PySem.W.fnOf m qual (defArgs st) (defBody st) (defScope st) .none kV doc pm an cdv ct) ⟨us, []⟩ = pure (ps.zip us))
    (len : ∀ vs H Q E, sp vs H Q E → vs.length = ps.length)
    (hbody : ∀ (f : Addr) (cdv : Value) (A : Around) (outer : List Env) (s : Shared) (H : Hp) (vs : List V) (Q : VK) (E : XK), Room k (A.deeper (envOfC qual (defScope st) s.heap.objs.size f cdv)) → sp vs H Q E →
      ∃ t, PSs (cxOf (L2.CX P w) P w K mg base N qual (defScope st) f cdv A outer s H E) (defBody st) t ∧ (HSz H → t { nx := fun _ H' => Q .non H', rt := Q } (start N vs) H)) : OkMX P w K mg base (k + 1) C m ps sp := by
  obtain ⟨f, fd, F, hm⟩ := D
  refine ⟨f, fd, F.ok S len fun cdv A outer s H vs Q E hr h => ?_, hm, F.bindsN hb⟩
  obtain ⟨t, h1, h2⟩ := hbody f cdv A outer s H vs Q E hr h
  exact ⟨_, pssSz h1, h2⟩
theorem MethAt.noneX {m qual : Str} {st : Stmt} {ps : List Str} {sp : Sp} (D : MethAt K C m qual st)
    (hb : ∀ (kV doc pm : Value) (an : Option Addr) (cdv ct : Value) (us : List Value), us.length = ps.length → bindArgs (PySem.W.fnOf m qual (defArgs st) (defBody st) (defScope st) .none kV doc pm an cdv ct) ⟨us, []⟩ = pure (ps.zip us))
    (no : ∀ vs H Q E, ¬ sp vs H Q E) : OkMX P w K mg base 0 C m ps sp := by
  obtain ⟨f, fd, F, hm⟩ := D
  exact ⟨f, fd, ⟨fun vs H Q E h => absurd h (no vs H Q E), fun A outer s H args us vs Q E _ _ _ _ h => absurd h (no vs H Q E)⟩, hm, F.bindsN hb⟩
end
def xMethE (C : Addr) (m : Str) (sp : Sp) (E : XK) (ta : TE) (t : TA) : TE := fun σ H Q => ta σ H fun x H1 => ∃ a dx fs, x = .ref a ∧ H1 a = some (.ins C dx fs) ∧ fs.lookup m = none ∧ t σ H1 fun vs H2 => sp (x :: vs) H2 Q E
section
variable {X : Cx} {C : Addr} {o e value : Expr} {es : List Expr} {f m x : Str} {pos pos' apos p : Pos} {ta tv to te : TE} {t : TA} {k : Nat} {ps : List Str} {sp : Sp} {E : XK}
theorem passE (tk : Takes X (fun cls d _ H => E cls d H)) : Passes (L2.CX X.prog X.w) X E := passes_call tk (fun _ _ _ _ h => h)
theorem pe_callE (F : OkX X.prog X.w X.K X.mg X.base k x ps sp) (hr : Room k X.A) (hg : Gl X x) (tk : Takes X (fun cls d _ H => E cls d H)) (ha : PA X (e :: es) t) (hdb : (x == ("__debug__" : Str)) = false := by decide) (he : starEach (e :: es) X.env = (false, eval e X.env) :: starEach es X.env := by rfl) (hpl : (backTo pos (starEach es X.env)).any (·.1) = false := by rfl) :
    PE X (.Call (.Name x p) (e :: es) [] pos) (tCall sp [] E t) := by
  obtain ⟨f, fd, F, hm, kp, b⟩ := F
  exact pe_call F hr hg hm kp b .nil (passE tk) ha hdb he hpl
theorem pe_methE {pl : Sem Bool} (F : OkMX X.prog X.w X.K X.mg X.base k C m ps sp) (hr : Room k X.A) (cl : Cls X.K C) (tk : Takes X (fun cls d _ H => E cls d H)) (he : PE X o ta) (ha : PA X (e :: es) t)
    (hst : starEach (e :: es) X.env = (false, eval e X.env) :: starEach es X.env := by rfl) (hpl : (backTo pos (starEach es X.env)).any (·.1) = false := by rfl)
    (ht : eval (.Call (.Attribute o m apos) (e :: es) [] pos) X.env = (do
      let ov ← eval o X.env
      standAt apos.atName
      let (f, first) ← holding [ov] (getMethod ov m pl)
      callWith pos f first (backTo pos (starEach (e :: es) X.env)) (backToKw pos (keywordEach [] X.env))) := by rfl) :
    PE X (.Call (.Attribute o m apos) (e :: es) [] pos) (xMethE C m sp E ta t) := by
  obtain ⟨f, fd, F, hm, b⟩ := F
  refine peM (pe_meth (mo he) cl hm F hr b .nil (passE tk) (moA ha) hst hpl ht) ?_
  intro σ H Q h
  refine ⟨_, h, ?_⟩
  rintro x H1 ⟨a, dx, fs, e1, h1, l, q⟩
  refine ⟨a, dx, fs, e1, h1, l, _, q, ?_⟩
  intro xs H2 h
  rw [List.append_nil]
  exact h
theorem pe_methE0 {pl : Sem Bool} (F : OkMX X.prog X.w X.K X.mg X.base k C m ps sp) (hr : Room k X.A) (cl : Cls X.K C) (tk : Takes X (fun cls d _ H => E cls d H)) (he : PE X o ta)
    (ht : eval (.Call (.Attribute o m apos) [] [] pos) X.env = (do
      let ov ← eval o X.env
      standAt apos.atName
      let (f, first) ← holding [ov] (getMethod ov m pl)
      callWith pos f first (backTo pos (starEach [] X.env)) (backToKw pos (keywordEach [] X.env))) := by rfl) :
    PE X (.Call (.Attribute o m apos) [] [] pos) (xMethE C m sp E ta tNil) := by
  obtain ⟨f, fd, F, hm, b⟩ := F
  refine peM (pe_meth0 (mo he) cl hm F hr b .nil (passE tk) ht) ?_
  intro σ H Q h
  refine ⟨_, h, ?_⟩
  rintro x H1 ⟨a, dx, fs, e1, h1, l, q⟩
  exact ⟨a, dx, fs, e1, h1, l, q⟩
/-! methods of texts -/
/-- x.split(sep) -/
def xSplit (to te : TE) : TE := fun σ H Q => to σ H fun x H1 => ∃ a : Str, x = .str a ∧ te σ H1 fun y H2 => ∃ b : Str, y = .str b ∧ (b.length == 0) = false ∧ a.length + 2 ≤ sizeLine ∧ ∀ p H', Al H2 p (.lst ((Txt.split a b).map V.str)) H' → Q (.ref p) H'
theorem pe_split (ho : PE X o to) (he : PE X e te) (hbase : attributeBase o "split" X.env (eval o X.env) = eval o X.env := by rfl)
    (hfew : ((backTo pos (starEach (e :: []) X.env)).all (fun x => !x.1) && (backToKw pos (keywordEach [] X.env)).all (fun x => x.1.isSome)
      && decide ((e :: ([] : List Expr)).length + ([] : List Keyword).length + (if ([] : List Keyword).isEmpty then 0 else 1) < 30)) = true := by rfl)
    (hline : (apos.endLine == pos.line) = true := by rfl) (hs : starEach (e :: []) X.env = (false, eval e X.env) :: starEach [] X.env := by rfl) (hplain : (backTo pos (starEach ([] : List Expr) X.env)).any (·.1) = false := by rfl) :
    PE X (.Call (.Attribute o "split" apos) [e] [] pos) (xSplit to te) := by
  refine peM (pe_bm F.plainAttrs_str F.slot_str_split F.type_str_split mt_split (mo ho) (moA (pa_cons (mo he) pa_nil (hs := hs))) hbase hfew hline hs hplain) fun σ H Q h => ?_
  refine ⟨_, h, ?_⟩
  rintro x H1 ⟨a, rfl, h⟩
  refine ⟨rfl, fun xs H2 => ∃ y, xs = [y] ∧ ∃ b : Str, y = .str b ∧ (b.length == 0) = false ∧ a.length + 2 ≤ sizeLine ∧ ∀ p H', Al H2 p (.lst ((Txt.split a b).map V.str)) H' → Q (.ref p) H', ⟨_, h, fun y H2 q => ⟨y, rfl, q⟩⟩, ?_⟩
  rintro xs H2 ⟨y, rfl, b, rfl, hb, hz, q⟩
  exact ⟨a, b, rfl, rfl, hb, hz, fun p hp => q p _ (Al.of hp)⟩
/-- x.lstrip(chars) -/
def xLst2 (to te : TE) : TE := fun σ H Q => to σ H fun x H1 => ∃ a : Str, x = .str a ∧ te σ H1 fun y H2 => ∃ b : Str, y = .str b ∧ a.length ≤ sizeLine ∧ Q (.str (Txt.lstripChars a b)) H2
theorem pe_lstrip (ho : PE X o to) (he : PE X e te) (hbase : attributeBase o "lstrip" X.env (eval o X.env) = eval o X.env := by rfl)
    (hfew : ((backTo pos (starEach (e :: []) X.env)).all (fun x => !x.1) && (backToKw pos (keywordEach [] X.env)).all (fun x => x.1.isSome)
      && decide ((e :: ([] : List Expr)).length + ([] : List Keyword).length + (if ([] : List Keyword).isEmpty then 0 else 1) < 30)) = true := by rfl)
    (hline : (apos.endLine == pos.line) = true := by rfl) (hs : starEach (e :: []) X.env = (false, eval e X.env) :: starEach [] X.env := by rfl) (hplain : (backTo pos (starEach ([] : List Expr) X.env)).any (·.1) = false := by rfl) :
    PE X (.Call (.Attribute o "lstrip" apos) [e] [] pos) (xLst2 to te) := by
  refine peM (pe_bm F.plainAttrs_str F.slot_str_lstrip F.type_str_lstrip mt_lstripChars (mo ho) (moA (pa_cons (mo he) pa_nil (hs := hs))) hbase hfew hline hs hplain) fun σ H Q h => ?_
  refine ⟨_, h, ?_⟩
  rintro x H1 ⟨a, rfl, h⟩
  refine ⟨rfl, fun xs H2 => ∃ y, xs = [y] ∧ ∃ b : Str, y = .str b ∧ a.length ≤ sizeLine ∧ Q (.str (Txt.lstripChars a b)) H2, ⟨_, h, fun y H2 q => ⟨y, rfl, q⟩⟩, ?_⟩
  rintro xs H2 ⟨y, rfl, b, rfl, hz, q⟩
  exact ⟨a, b, rfl, rfl, hz, q⟩
def rIntS : List V → Hp → VK → Prop := fun vs H Q => ∃ (a : Str) (n : Int), vs = [.str a] ∧ PySem.intText? a = some n ∧ a.length ≤ 640 ∧ Q (.int n) H
theorem cl_intS : CallR X (.type "int") rIntS := call_int_str
end

/-! the reader's mirror -/
def sgOf (w : Str) : Option Sg := if w = ("+" : Str) then some .add else if w = ("-" : Str) then some .sub else if w = ("<" : Str) then some .less else if w = ("=" : Str) then some .same else none
def isNm (w : Str) : Bool := decide (w.length = 1) && w.cps.toList.all (fun c => decide (97 ≤ c ∧ c < 105))
def isTx (w : Str) : Bool := decide (w.length ≤ 12) && w.cps.toList.all (fun c => decide (97 ≤ c ∧ c < 123))
def isNu (w : Str) : Bool := decide (1 ≤ w.length ∧ w.length ≤ 4) && (!(decide (w.cps.toList.head? = some 48) && decide (1 < w.length)) && w.cps.toList.all (fun c => decide (48 ≤ c ∧ c < 58)))
/-- the word without its first sign -/
def tl1 (w : Str) : Str := ⟨(w.cps.toList.drop 1).toArray⟩
def leaf (w : Str) : Option Ex :=
  if w.cps.toList.head? = some 39 then (if isTx (tl1 w) = true then some (.text (tl1 w)) else none)
  else if isNm w = true then some (.name w) else if isNu w = true then some (.num (NumText.digitsVal w.cps.toList : Nat)) else none
def pp : Nat → List Str → Option (Ex × List Str)
  | 0, _ => none
  | _ + 1, [] => none
  | n + 1, w :: ws => match sgOf w with
    | some s => (match pp n ws with
      | none => none
      | some (a, ws1) => (match pp n ws1 with
        | none => none
        | some (b, ws2) => some (.op s a b, ws2)))
    | none => (leaf w).map fun e => (e, ws)
theorem pp_drop : ∀ {n : Nat} {ws : List Str} {e : Ex} {r : List Str}, pp n ws = some (e, r) → ∃ i, 0 < i ∧ i ≤ ws.length ∧ r = ws.drop i
  | 0, _, _, _, h => by cases h
  | _ + 1, [], _, _, h => by cases h
  | n + 1, w :: ws, e, r, h => by
    unfold pp at h
    cases hs : sgOf w with
    | none =>
      rw [hs] at h
      cases hl : leaf w with
      | none => rw [hl] at h; cases h
      | some x =>
        rw [hl] at h
        simp only [Option.map_some, Option.some.injEq, Prod.mk.injEq] at h
        obtain ⟨rfl, rfl⟩ := h
        exact ⟨1, by decide, by simp, rfl⟩
    | some s =>
      rw [hs] at h
      simp only at h
      cases h1 : pp n ws with
      | none => rw [h1] at h; cases h
      | some p =>
        obtain ⟨a, ws1⟩ := p
        rw [h1] at h
        simp only at h
        cases h2 : pp n ws1 with
        | none => rw [h2] at h; cases h
        | some p =>
          obtain ⟨b, ws2⟩ := p
          rw [h2] at h
          simp only [Option.some.injEq, Prod.mk.injEq] at h
          obtain ⟨rfl, rfl⟩ := h
          obtain ⟨i, i0, i1, rfl⟩ := pp_drop h1
          obtain ⟨j, j0, j1, rfl⟩ := pp_drop h2
          rw [List.length_drop] at j1
          exact ⟨1 + i + j, by omega, by simp only [List.length_cons]; omega, by rw [List.drop_drop, show 1 + i + j = (i + j) + 1 by omega, List.drop_succ_cons]⟩
/-- what a line says -/
inductive Ln where
  | set (x : Str) (e : Ex) | say (e : Ex) | ifl (e : Ex) | whl (e : Ex)
def whole : Option (Ex × List Str) → Option Ex
  | some (e, []) => some e
  | _ => none
def lineP : List Str → Option Ln
  | [] => none
  | w :: r => if w = wd 8 then (match r with
      | [] => none
      | x :: r' => if isNm x = true then (whole (pp 5 r')).map (.set x) else none)
    else if w = wd 7 then (whole (pp 5 r)).map .say
    else if w = wd 14 then (whole (pp 5 r)).map .ifl
    else if w = wd 15 then (whole (pp 5 r)).map .whl else none
/-- a line without what is ahead -/
def lsp (x : Str) : Str := Txt.lstripChars x " "
def here (L : List Str) (d at_ : Nat) : Str := match L[at_]? with
  | none => ""
  | some l => if l.length - (lsp l).length = 2 * d then lsp l else ""
def stopH (L : List Str) (d at_ : Nat) : Prop := here L d at_ = "" ∨ here L d at_ = wd 29
def lineAt (L : List Str) (d at_ : Nat) : Option Ln := lineP (Txt.split (here L d at_) " ")
mutual
inductive BlkR (L : List Str) : Nat → Nat → Option (List Sm × Nat) → Prop
  | deep {d i : Nat} : 5 < d → BlkR L d i none
  | loop {d i : Nat} {r : Option (List Sm × Nat)} : d ≤ 5 → LoopR L d i r → BlkR L d i r
inductive LoopR (L : List Str) : Nat → Nat → Option (List Sm × Nat) → Prop
  | stop {d i : Nat} : stopH L d i → LoopR L d i (some ([], i))
  | fail {d i : Nat} : ¬ stopH L d i → StR L d i none → LoopR L d i none
  | more {d i j : Nat} {s : Sm} : ¬ stopH L d i → StR L d i (some (s, j)) → LoopR L d j none → LoopR L d i none
  | cons {d i j k : Nat} {s : Sm} {p : List Sm} : ¬ stopH L d i → StR L d i (some (s, j)) → LoopR L d j (some (p, k)) → LoopR L d i (some (s :: p, k))
inductive StR (L : List Str) : Nat → Nat → Option (Sm × Nat) → Prop
  | bad {d i : Nat} : lineAt L d i = none → StR L d i none
  | set {d i : Nat} {x : Str} {e : Ex} : lineAt L d i = some (.set x e) → StR L d i (some (.set x e, i + 1))
  | say {d i : Nat} {e : Ex} : lineAt L d i = some (.say e) → StR L d i (some (.say e, i + 1))
  | whlN {d i : Nat} {e : Ex} : lineAt L d i = some (.whl e) → BlkR L (d + 1) (i + 1) none → StR L d i none
  | whl {d i j : Nat} {e : Ex} {p : List Sm} : lineAt L d i = some (.whl e) → BlkR L (d + 1) (i + 1) (some (p, j)) → StR L d i (some (.whl e p, j))
  | ifN {d i : Nat} {e : Ex} : lineAt L d i = some (.ifl e) → BlkR L (d + 1) (i + 1) none → StR L d i none
  | if1 {d i j : Nat} {e : Ex} {p : List Sm} : lineAt L d i = some (.ifl e) → BlkR L (d + 1) (i + 1) (some (p, j)) → here L d j ≠ wd 29 → StR L d i (some (.ite e p [], j))
  | if2N {d i j : Nat} {e : Ex} {p : List Sm} : lineAt L d i = some (.ifl e) → BlkR L (d + 1) (i + 1) (some (p, j)) → here L d j = wd 29 → BlkR L (d + 1) (j + 1) none → StR L d i none
  | if2 {d i j k : Nat} {e : Ex} {p q : List Sm} : lineAt L d i = some (.ifl e) → BlkR L (d + 1) (i + 1) (some (p, j)) → here L d j = wd 29 → BlkR L (d + 1) (j + 1) (some (q, k)) → StR L d i (some (.ite e p q, k))
end

/-! what is read is within bounds; promises of the reader -/
theorem isNm_ok {w : Str} (h : isNm w = true) : Nm8 w := by
  unfold isNm at h
  simp only [Bool.and_eq_true, decide_eq_true_eq, List.all_eq_true] at h
  obtain ⟨h1, h2⟩ := h
  obtain ⟨⟨l⟩⟩ := w
  match l, h1 with
  | [c], _ =>
    have := h2 c (by simp)
    exact ⟨c - 97, by omega, by rw [show 97 + (c - 97) = c by omega]⟩
theorem isTx_ok {w : Str} (h : isTx w = true) : Txt12 w := by
  unfold isTx at h
  simp only [Bool.and_eq_true, decide_eq_true_eq, List.all_eq_true] at h
  exact ⟨by simpa [Str.length] using h.1, h.2⟩
theorem digits_lt : ∀ (l : List Nat) (a : Nat), (∀ c ∈ l, 48 ≤ c ∧ c < 58) → l.foldl (fun a c => a * 10 + (c - 48)) a < (a + 1) * 10 ^ l.length
  | [], a, _ => by simp
  | c :: r, a, h => by
    have h1 := h c (by simp)
    have h2 := digits_lt r (a * 10 + (c - 48)) fun x hx => h x (by simp [hx])
    simp only [List.foldl_cons, List.length_cons, Nat.pow_succ]
    refine Nat.lt_of_lt_of_le h2 ?_
    rw [← Nat.mul_assoc, Nat.mul_right_comm]
    exact Nat.mul_le_mul_right _ (by omega)
theorem isNu_ok {w : Str} (h : isNu w = true) : (0 : Int) ≤ (NumText.digitsVal w.cps.toList : Nat) ∧ ((NumText.digitsVal w.cps.toList : Nat) : Int) < 10000 := by
  unfold isNu at h
  simp only [Bool.and_eq_true, decide_eq_true_eq, List.all_eq_true] at h
  obtain ⟨⟨_, h1⟩, _, h2⟩ := h
  have h3 : w.cps.toList.length ≤ 4 := by simpa [Str.length] using h1
  have h4 : NumText.digitsVal w.cps.toList < 10 ^ w.cps.toList.length := by
    have := digits_lt w.cps.toList 0 h2
    simpa [NumText.digitsVal] using this
  have h5 : 10 ^ w.cps.toList.length ≤ 10 ^ 4 := Nat.pow_le_pow_right (by decide) h3
  omega
theorem leaf_ok {w : Str} {e : Ex} (h : leaf w = some e) : e.ok ∧ e.dep = 1 := by
  unfold leaf at h
  split at h
  · split at h
    · next hx => cases h; exact ⟨isTx_ok hx, rfl⟩
    · cases h
  · split at h
    · next hx => cases h; exact ⟨isNm_ok hx, rfl⟩
    · split at h
      · next hx => cases h; exact ⟨isNu_ok hx, rfl⟩
      · cases h
theorem pp_ok : ∀ {n : Nat} {ws : List Str} {e : Ex} {r : List Str}, pp n ws = some (e, r) → e.ok ∧ e.dep ≤ n
  | 0, _, _, _, h => by cases h
  | _ + 1, [], _, _, h => by cases h
  | n + 1, w :: ws, e, r, h => by
    unfold pp at h
    cases hs : sgOf w with
    | none =>
      rw [hs] at h
      cases hl : leaf w with
      | none => rw [hl] at h; cases h
      | some x =>
        rw [hl] at h
        simp only [Option.map_some, Option.some.injEq, Prod.mk.injEq] at h
        obtain ⟨rfl, rfl⟩ := h
        have := leaf_ok hl
        exact ⟨this.1, by omega⟩
    | some s =>
      rw [hs] at h
      simp only at h
      cases h1 : pp n ws with
      | none => rw [h1] at h; cases h
      | some p =>
        obtain ⟨a, ws1⟩ := p
        rw [h1] at h
        simp only at h
        cases h2 : pp n ws1 with
        | none => rw [h2] at h; cases h
        | some p =>
          obtain ⟨b, ws2⟩ := p
          rw [h2] at h
          simp only [Option.some.injEq, Prod.mk.injEq] at h
          obtain ⟨rfl, rfl⟩ := h
          have p1 := pp_ok h1
          have p2 := pp_ok h2
          exact ⟨⟨p1.1, p2.1⟩, by simp only [Ex.dep]; omega⟩
def Ln.ok : Ln → Prop
  | .set x e => Nm8 x ∧ e.ok ∧ e.dep ≤ 5
  | .say e => e.ok ∧ e.dep ≤ 5
  | .ifl e => e.ok ∧ e.dep ≤ 5
  | .whl e => e.ok ∧ e.dep ≤ 5
theorem whole_ok {n : Nat} {ws : List Str} {e : Ex} (h : whole (pp n ws) = some e) : e.ok ∧ e.dep ≤ n := by
  cases hp : pp n ws with
  | none => rw [hp] at h; cases h
  | some p =>
    obtain ⟨a, r⟩ := p
    rw [hp] at h
    cases r with
    | nil => cases h; exact pp_ok hp
    | cons => cases h
theorem lineP_ok {ws : List Str} {l : Ln} (h : lineP ws = some l) : l.ok := by
  have mp : ∀ {α : Type} {o : Option Ex} {f : Ex → Ln}, o.map f = some l → ∃ e, o = some e ∧ f e = l := fun h => by
    rename_i o f
    cases o with
    | none => cases h
    | some e => exact ⟨e, rfl, Option.some.inj h⟩
  cases ws with
  | nil => cases h
  | cons w r =>
    simp only [lineP] at h
    by_cases h8 : w = wd 8
    · rw [if_pos h8] at h
      cases r with
      | nil => cases h
      | cons x r' =>
        simp only at h
        by_cases hx : isNm x = true
        · rw [if_pos hx] at h
          obtain ⟨e, he, rfl⟩ := mp (α := Nat) h
          exact ⟨isNm_ok hx, whole_ok he⟩
        · rw [if_neg hx] at h; cases h
    · rw [if_neg h8] at h
      by_cases h7 : w = wd 7
      · rw [if_pos h7] at h
        obtain ⟨e, he, rfl⟩ := mp (α := Nat) h
        exact whole_ok he
      · rw [if_neg h7] at h
        by_cases h14 : w = wd 14
        · rw [if_pos h14] at h
          obtain ⟨e, he, rfl⟩ := mp (α := Nat) h
          exact whole_ok he
        · rw [if_neg h14] at h
          by_cases h15 : w = wd 15
          · rw [if_pos h15] at h
            obtain ⟨e, he, rfl⟩ := mp (α := Nat) h
            exact whole_ok he
          · rw [if_neg h15] at h; cases h
/-! promises -/
theorem mem_sum {l : List Str} {w : Str} (h : w ∈ l) : w.length ≤ (l.map (·.length)).sum := by
  induction l with
  | nil => cases h
  | cons a r ih =>
    simp only [List.map_cons, List.sum_cons]
    rcases List.mem_cons.mp h with rfl | h
    · omega
    · have := ih h; omega
theorem split_each {x : Str} {w : Str} {y : Str} (hy : 1 ≤ y.length) (h : w ∈ Txt.split x y) : w.length ≤ x.length := by
  have hw := PyProof.Rows.split_weight x y hy
  have h1 := mem_sum h
  have h2 : 1 ≤ (Txt.split x y).length := List.length_pos_of_mem h
  omega
theorem split_count {x y : Str} (hy : 1 ≤ y.length) : (Txt.split x y).length ≤ x.length + 1 := by
  have := PyProof.Rows.split_weight x y hy
  omega

def wdF (wl : Addr) (i : Nat) : List (Str × V) := [("words", .ref wl), ("at", .int (i : Nat))]
def WdAt (c : CA) (H : Hp) (o wl : Addr) (ws : List Str) (i : Nat) : Prop := (∃ dx, H o = some (.ins c.words dx (wdF wl i))) ∧ H wl = some (.lst (svs ws))
def rdF (ll : Addr) (i : Nat) : List (Str × V) := [("lines", .ref ll), ("at", .int (i : Nat))]
def RdAt (c : CA) (H : Hp) (o ll : Addr) (L : List Str) (i : Nat) : Prop := (∃ dx, H o = some (.ins c.reader dx (rdF ll i))) ∧ H ll = some (.lst (svs L))
section
variable {wl ll : Addr} {i : Nat}
theorem wd_words : (wdF wl i).lookup ("words" : Str) = some (.ref wl) := rfl
theorem wd_at : (wdF wl i).lookup ("at" : Str) = some (.int (i : Nat)) := rfl
theorem wd_take : (wdF wl i).lookup ("take" : Str) = none := rfl
theorem wd_need : (wdF wl i).lookup ("need_name" : Str) = none := rfl
theorem wd_part : (wdF wl i).lookup ("part" : Str) = none := rfl
theorem wd_ended : (wdF wl i).lookup ("ended" : Str) = none := rfl
theorem wd_put : putF ("at" : Str) (.int ((i : Nat) + 1)) (wdF wl i) = wdF wl (i + 1) := rfl
theorem rd_lines : (rdF ll i).lookup ("lines" : Str) = some (.ref ll) := rfl
theorem rd_at : (rdF ll i).lookup ("at" : Str) = some (.int (i : Nat)) := rfl
theorem rd_here : (rdF ll i).lookup ("here" : Str) = none := rfl
theorem rd_block : (rdF ll i).lookup ("block" : Str) = none := rfl
theorem rd_state : (rdF ll i).lookup ("statement" : Str) = none := rfl
theorem rd_put : putF ("at" : Str) (.int ((i : Nat) + 1)) (rdF ll i) = rdF ll (i + 1) := rfl
end
/-- words that may be measured -/
def Szs (ws : List Str) : Prop := ws.length ≤ 1000000 ∧ ∀ w ∈ ws, w.length ≤ 1000000
/-- lines that may be measured -/
def SzL (ws : List Str) : Prop := ws.length ≤ 1000000 ∧ ∀ w ∈ ws, w.length ≤ 900000
theorem split_szs {x : Str} (h : x.length ≤ 900000) : Szs (Txt.split x " ") := ⟨by have := split_count (x := x) (y := " ") (by decide); omega, fun w hw => by have := split_each (y := " ") (by decide) hw; omega⟩
/-- Unread leaves; of what stood at H only S has changed -/
def UnR (c : CA) (S : List Addr) (H : Hp) (E : XK) : Prop := ∀ H', Fr S H H' → E (.ref c.unread) none H'
theorem UnR.from {c : CA} {S : List Addr} {H H1 : Hp} {E : XK} (u : UnR c S H E) (f : Fr S H H1) : UnR c S H1 E := fun H' g => u H' (f.trans g)
theorem UnR.sub {c : CA} {S S' : List Addr} {H : Hp} {E : XK} (u : UnR c S' H E) (h : ∀ b ∈ S, b ∈ S') : UnR c S H E := fun H' g => u H' (g.mono h)
def sp_Words___init__ (c : CA) : Sp := fun vs H Q _ => ∃ (o dx wl : Addr), vs = [.ref o, .ref wl] ∧ H o = some (.ins c.words dx []) ∧ ∀ dx' H', H' o = some (.ins c.words dx' (wdF wl 0)) → Fr [o] H H' → Q .non H'
def sp_Reader___init__ (c : CA) : Sp := fun vs H Q _ => ∃ (o dx wl : Addr), vs = [.ref o, .ref wl] ∧ H o = some (.ins c.reader dx []) ∧ ∀ dx' H', H' o = some (.ins c.reader dx' (rdF wl 0)) → Fr [o] H H' → Q .non H'
def sp_Words_take (c : CA) : Sp := fun vs H Q E => ∃ (o wl : Addr) (ws : List Str) (i : Nat), vs = [.ref o] ∧ WdAt c H o wl ws i ∧ (ws[i]? = none → UnR c [o] H E) ∧ ∀ w H', ws[i]? = some w → WdAt c H' o wl ws (i + 1) → Fr [o] H H' → Q (.str w) H'
def sp_Words_need_name (c : CA) : Sp := fun vs H Q E => ∃ (o wl : Addr) (ws : List Str) (i : Nat), vs = [.ref o] ∧ WdAt c H o wl ws i ∧ Szs ws ∧ ((∀ w, ws[i]? = some w → isNm w = false) → UnR c [o] H E) ∧ ∀ w H', ws[i]? = some w → isNm w = true → WdAt c H' o wl ws (i + 1) → Fr [o] H H' → Q (.str w) H'
def sp_Words_part (c : CA) (n : Nat) : Sp := fun vs H Q E => ∃ (o wl : Addr) (ws : List Str) (i k d : Nat), vs = [.ref o, .int (d : Nat)] ∧ d + k = 6 ∧ k < n ∧ WdAt c H o wl ws i ∧ Szs ws ∧ (pp k (ws.drop i) = none → UnR c [o] H E) ∧
  ∀ e v j H', pp k (ws.drop i) = some (e, ws.drop j) → i < j → j ≤ ws.length → Tp H' e.d v → WdAt c H' o wl ws j → Fr [o] H H' → Q v H'
def sp_Words_ended (c : CA) : Sp := fun vs H Q E => ∃ (o wl : Addr) (ws : List Str) (i : Nat), vs = [.ref o] ∧ WdAt c H o wl ws i ∧ (i < ws.length → UnR c [o] H E) ∧ (ws.length ≤ i → Q .non H)
def sp_text_of (c : CA) : Sp := fun vs H Q E => ∃ w : Str, vs = [.str w] ∧ w.length ≤ 1000000 ∧ (isTx w = false → UnR c [] H E) ∧ (isTx w = true → Q (.str w) H)
def sp_number_of (c : CA) : Sp := fun vs H Q E => ∃ w : Str, vs = [.str w] ∧ w.length ≤ 1000000 ∧ (isNu w = false → UnR c [] H E) ∧ (isNu w = true → Q (.int (NumText.digitsVal w.cps.toList : Nat)) H)
def sp_Reader_here (c : CA) : Sp := fun vs H Q _ => ∃ (o ll : Addr) (L : List Str) (i d : Nat), vs = [.ref o, .int (d : Nat)] ∧ RdAt c H o ll L i ∧ SzL L ∧ d ≤ 1000 ∧ Q (.str (here L d i)) H
def sp_Reader_block (c : CA) (n : Nat) : Sp := fun vs H Q E => ∃ (o ll : Addr) (L : List Str) (i d : Nat), vs = [.ref o, .int (d : Nat)] ∧ 2 * (6 - d) < n ∧ d ≤ 6 ∧ RdAt c H o ll L i ∧ SzL L ∧ (BlkR L d i none → UnR c [o] H E) ∧
  ∀ p j v H', BlkR L d i (some (p, j)) → i ≤ j → Tp H' (rowD p) v → RdAt c H' o ll L j → Fr [o] H H' → Q v H'
def sp_Reader_statement (c : CA) (n : Nat) : Sp := fun vs H Q E => ∃ (o ll : Addr) (L : List Str) (i d : Nat), vs = [.ref o, .int (d : Nat)] ∧ 2 * (6 - d) ≤ n ∧ d ≤ 5 ∧ RdAt c H o ll L i ∧ SzL L ∧ (StR L d i none → UnR c [o] H E) ∧
  ∀ s j v H', StR L d i (some (s, j)) → i < j → Tp H' s.d v → RdAt c H' o ll L j → Fr [o] H H' → Q v H'
/-- what a text reads as -/
inductive ReadR : Str → Option (List Sm) → Prop
  | empty : ReadR "" (some [])
  | long {t : Str} : t ≠ "" → 60 < (Txt.split t "\n").length → ReadR t none
  | bad {t : Str} : t ≠ "" → (Txt.split t "\n").length ≤ 60 → BlkR (Txt.split t "\n") 0 0 none → ReadR t none
  | other {t : Str} {p : List Sm} {j : Nat} : t ≠ "" → (Txt.split t "\n").length ≤ 60 → BlkR (Txt.split t "\n") 0 0 (some (p, j)) → ptext p ≠ t → ReadR t none
  | good {t : Str} {p : List Sm} {j : Nat} : t ≠ "" → (Txt.split t "\n").length ≤ 60 → BlkR (Txt.split t "\n") 0 0 (some (p, j)) → ptext p = t → ReadR t (some p)
def sp_read_program (c : CA) : Sp := fun vs H Q E => ∃ t : Str, vs = [.str t] ∧ t.length ≤ 900000 ∧ (ReadR t none → UnR c [] H E) ∧ ∀ p v H', ReadR t (some p) → Tp H' (rowD p) v → Fr [] H H' → Q v H'
section
variable {c : CA} {n : Nat} (vs : List V) (H : Hp) (Q : VK) (E : XK)
theorem len_Words___init__ (h : sp_Words___init__ c vs H Q E) : vs.length = 2 := by obtain ⟨_, _, _, rfl, _⟩ := h; rfl
theorem len_Reader___init__ (h : sp_Reader___init__ c vs H Q E) : vs.length = 2 := by obtain ⟨_, _, _, rfl, _⟩ := h; rfl
theorem len_Words_take (h : sp_Words_take c vs H Q E) : vs.length = 1 := by obtain ⟨_, _, _, _, rfl, _⟩ := h; rfl
theorem len_Words_need_name (h : sp_Words_need_name c vs H Q E) : vs.length = 1 := by obtain ⟨_, _, _, _, rfl, _⟩ := h; rfl
theorem len_Words_part (h : sp_Words_part c n vs H Q E) : vs.length = 2 := by obtain ⟨_, _, _, _, _, _, rfl, _⟩ := h; rfl
theorem no_Words_part : ¬ sp_Words_part c 0 vs H Q E := fun ⟨_, _, _, _, _, _, _, _, h, _⟩ => absurd h (Nat.not_lt_zero _)
theorem len_Words_ended (h : sp_Words_ended c vs H Q E) : vs.length = 1 := by obtain ⟨_, _, _, _, rfl, _⟩ := h; rfl
theorem len_text_of (h : sp_text_of c vs H Q E) : vs.length = 1 := by obtain ⟨_, rfl, _⟩ := h; rfl
theorem len_number_of (h : sp_number_of c vs H Q E) : vs.length = 1 := by obtain ⟨_, rfl, _⟩ := h; rfl
theorem len_Reader_here (h : sp_Reader_here c vs H Q E) : vs.length = 2 := by obtain ⟨_, _, _, _, _, rfl, _⟩ := h; rfl
theorem len_Reader_block (h : sp_Reader_block c n vs H Q E) : vs.length = 2 := by obtain ⟨_, _, _, _, _, rfl, _⟩ := h; rfl
theorem no_Reader_block : ¬ sp_Reader_block c 0 vs H Q E := fun ⟨_, _, _, _, _, _, h, _⟩ => absurd h (Nat.not_lt_zero _)
theorem len_Reader_statement (h : sp_Reader_statement c n vs H Q E) : vs.length = 2 := by obtain ⟨_, _, _, _, _, rfl, _⟩ := h; rfl
theorem no_Reader_statement : ¬ sp_Reader_statement c 0 vs H Q E := fun ⟨_, _, _, _, d, _, h, hd, _⟩ => by omega
theorem len_read_program (h : sp_read_program c vs H Q E) : vs.length = 1 := by obtain ⟨_, rfl, _⟩ := h; rfl
end

/-- Words.__init__ -/
def t_Words___init__ (K : PySem.W.Frag) (c : CA) : TS :=
  (tSeq (xSet c.words (tVar 0) (tVar 1) ("words" : Str))
    (xSet c.words (tVar 0) (tC (.int 0)) ("at" : Str)))

/-- Words.take from 1 -/
def t_Words_take_1 (K : PySem.W.Frag) (c : CA) (E : XK) : TS :=
  (tSeq (xSet c.words (tVar 0) (tOp (rI0 fun i j => .int (i + j)) (xFld c.words (tVar 0) ("at" : Str)) (tC (.int 1))) ("at" : Str))
    (tRet (tOp rXL (xFld c.words (tVar 0) ("words" : Str)) (tOp (rI0 fun i j => .int (i - j)) (xFld c.words (tVar 0) ("at" : Str)) (tC (.int 1))))))

/-- Words.take -/
def t_Words_take (K : PySem.W.Frag) (c : CA) (E : XK) : TS :=
  tSeq (tIfS (tTest (tOp (rI0 fun i j => .bl (decide (j ≤ i))) (xFld c.words (tVar 0) ("at" : Str)) (tCB rLenL (tCons (xFld c.words (tVar 0) ("words" : Str)) tNil)))) (tRz c.unread (fun cls d _ H => E cls d H)) tNext) (t_Words_take_1 K c E)

/-- Words.need_name from 1 -/
def t_Words_need_name_1 (K : PySem.W.Frag) (c : CA) (E : XK) : TS :=
  (tSeq (tIfS (tOr (tTest (tOp rNe (tCB rLenS (tCons (tVar 1) tNil)) (tC (.int 1)))) (tTest (tOp rNinS1 (tVar 1) (tC (.str ("abcdefgh" : Str)))))) (tRz c.unread (fun cls d _ H => E cls d H)) tNext)
    (tRet (tVar 1)))

/-- Words.need_name -/
def t_Words_need_name (K : PySem.W.Frag) (c : CA) (E : XK) : TS :=
  tSeq (tAsg (xMethE c.words ("take" : Str) (sp_Words_take c) E (tVar 0) tNil) (gName 1)) (t_Words_need_name_1 K c E)

/-- Words.ended -/
def t_Words_ended (K : PySem.W.Frag) (c : CA) (E : XK) : TS :=
  (tIfS (tTest (tOp (rI0 fun i j => .bl (decide (i < j))) (xFld c.words (tVar 0) ("at" : Str)) (tCB rLenL (tCons (xFld c.words (tVar 0) ("words" : Str)) tNil)))) (tRz c.unread (fun cls d _ H => E cls d H)) tNext)

/-- text_of from 1 -/
def t_text_of_1 (K : PySem.W.Frag) (c : CA) (E : XK) : TS :=
  (tSeq (tFor (iStr (tVar 0)) (gName 1)
    (tIfS (tTest (tOp rNinS1 (tVar 1) (tC (.str ("abcdefghijklmnopqrstuvwxyz" : Str))))) (tRz c.unread (fun cls d _ H => E cls d H)) tNext))
    (tRet (tVar 0)))

/-- text_of -/
def t_text_of (K : PySem.W.Frag) (c : CA) (E : XK) : TS :=
  tSeq (tIfS (tTest (tOp (rI0 fun i j => .bl (decide (j < i))) (tCB rLenS (tCons (tVar 0) tNil)) (tC (.int 12)))) (tRz c.unread (fun cls d _ H => E cls d H)) tNext) (t_text_of_1 K c E)

/-- number_of from 1 -/
def t_number_of_1 (K : PySem.W.Frag) (c : CA) (E : XK) : TS :=
  (tSeq (tFor (iStr (tVar 0)) (gName 1)
    (tIfS (tTest (tOp rNinS1 (tVar 1) (tC (.str ("0123456789" : Str))))) (tRz c.unread (fun cls d _ H => E cls d H)) tNext))
    (tRet (tCB rIntS (tCons (tVar 0) tNil))))

/-- number_of -/
def t_number_of (K : PySem.W.Frag) (c : CA) (E : XK) : TS :=
  tSeq (tIfS (tOr (tNot (tTest (tChain (rI0 fun i j => .bl (decide (i ≤ j))) (rI0 fun i j => .bl (decide (i ≤ j))) (tC (.int 1)) (tCB rLenS (tCons (tVar 0) tNil)) (tC (.int 4))))) (tAnd (tTest (tOp rEq (tOp rIxS (tVar 0) (tC (.int 0))) (tC (.str ("0" : Str))))) (tTest (tOp (rI0 fun i j => .bl (decide (j < i))) (tCB rLenS (tCons (tVar 0) tNil)) (tC (.int 1)))))) (tRz c.unread (fun cls d _ H => E cls d H)) tNext) (t_number_of_1 K c E)

/-- Reader.__init__ -/
def t_Reader___init__ (K : PySem.W.Frag) (c : CA) : TS :=
  (tSeq (xSet c.reader (tVar 0) (tVar 1) ("lines" : Str))
    (xSet c.reader (tVar 0) (tC (.int 0)) ("at" : Str)))

/-- Reader.here from 3 -/
def t_Reader_here_3 (K : PySem.W.Frag) (c : CA) : TS :=
  (tSeq (tIfS (tTest (tOp rNe (tOp (rI0 fun i j => .int (i - j)) (tCB rLenS (tCons (tVar 2) tNil)) (tCB rLenS (tCons (tVar 3) tNil))) (tOp (rI CMul fun i j => .int (i * j)) (tC (.int 2)) (tVar 1)))) (tRet (tC (.str ("" : Str)))) tNext)
    (tRet (tVar 3)))

/-- Reader.here from 2 -/
def t_Reader_here_2 (K : PySem.W.Frag) (c : CA) : TS :=
  tSeq (tAsg (xLst2 (tVar 2) (tC (.str (" " : Str)))) (gName 3)) (t_Reader_here_3 K c)

/-- Reader.here from 1 -/
def t_Reader_here_1 (K : PySem.W.Frag) (c : CA) : TS :=
  tSeq (tAsg (tOp rXL (xFld c.reader (tVar 0) ("lines" : Str)) (xFld c.reader (tVar 0) ("at" : Str))) (gName 2)) (t_Reader_here_2 K c)

/-- Reader.here -/
def t_Reader_here (K : PySem.W.Frag) (c : CA) : TS :=
  tSeq (tIfS (tTest (tOp (rI0 fun i j => .bl (decide (j ≤ i))) (xFld c.reader (tVar 0) ("at" : Str)) (tCB rLenL (tCons (xFld c.reader (tVar 0) ("lines" : Str)) tNil)))) (tRet (tC (.str ("" : Str)))) tNext) (t_Reader_here_1 K c)

theorem rd_Words___init__ {K : PySem.W.Frag} {c : CA} {vs : List V} {H : Hp} {Q : VK} {E : XK} (h : sp_Words___init__ c vs H Q E) : t_Words___init__ K c { nx := fun _ H' => Q .non H', rt := Q } (start ["_", "_"] vs) H := by
  obtain ⟨o, dx, wl, rfl, ho, k⟩ := h
  show t_Words___init__ K c _ [some (.ref o), some (.ref wl)] H
  unfold t_Words___init__
  refine st_seq ?_
  push_cast [ho]
  refine ⟨by decide, fun H1 M1 => ?_⟩
  push_cast [M1.at_]
  refine ⟨Nat.le_of_ble_eq_true rfl, fun H2 M2 => ?_⟩
  exact k dx H2 M2.at_ ((M1.fr (by simp)).mu M2 (by simp))
theorem rd_Reader___init__ {K : PySem.W.Frag} {c : CA} {vs : List V} {H : Hp} {Q : VK} {E : XK} (h : sp_Reader___init__ c vs H Q E) : t_Reader___init__ K c { nx := fun _ H' => Q .non H', rt := Q } (start ["_", "_"] vs) H := by
  obtain ⟨o, dx, wl, rfl, ho, k⟩ := h
  show t_Reader___init__ K c _ [some (.ref o), some (.ref wl)] H
  unfold t_Reader___init__
  refine st_seq ?_
  push_cast [ho]
  refine ⟨by decide, fun H1 M1 => ?_⟩
  push_cast [M1.at_]
  refine ⟨Nat.le_of_ble_eq_true rfl, fun H2 M2 => ?_⟩
  exact k dx H2 M2.at_ ((M1.fr (by simp)).mu M2 (by simp))
theorem svs_len' (l : List Str) : (svs l).length = l.length := by simp [svs]
theorem svs_at {l : List Str} {i : Nat} {w : Str} (h : l[i]? = some w) : atI (svs l) (i : Nat) = some (.str w) := atI_nat (by rw [svs, List.getElem?_map, h]; rfl)
theorem rd_Words_take {K : PySem.W.Frag} {c : CA}  {vs : List V} {H : Hp} {Q : VK} {E : XK} (h : sp_Words_take c vs H Q E) : t_Words_take K c E { nx := fun _ H' => Q .non H', rt := Q } (start ["_"] vs) H := by
  obtain ⟨o, wl, ws, i, rfl, ⟨⟨dx, ho⟩, hw⟩, hn, k⟩ := h
  show t_Words_take K c E _ [some (.ref o)] H
  have ne : wl ≠ o := ne_of hw ho (by simp)
  unfold t_Words_take; refine st_seq ?_
  push_cast [ho, wd_at, wd_words, hw, svs_len']
  cases hi : ws[i]? with
  | none =>
    have : ws.length ≤ i := List.getElem?_eq_none_iff.mp hi
    exact iteT' (by omega) (hn hi _ (Fr.refl _ _))
  | some w =>
    have : i < ws.length := (List.getElem?_eq_some_iff.mp hi).1
    refine iteF' (by omega) ?_
    unfold t_Words_take_1; refine st_seq ?_
    push_cast [ho, wd_at]
    refine ⟨Nat.le_of_ble_eq_true rfl, fun H1 M1 => ?_⟩
    rw [wd_put] at M1
    have hw1 := M1.k hw ne
    have e : (((i + 1 : Nat) : Int)) - 1 = (i : Nat) := by omega
    push_cast [M1.at_, wd_at, wd_words, hw1, e]
    refine ⟨_, svs_at hi, ?_⟩
    exact k w H1 hi ⟨⟨_, M1.at_⟩, hw1⟩ (M1.fr (by simp))
theorem rd_Words_ended {K : PySem.W.Frag} {c : CA}  {vs : List V} {H : Hp} {Q : VK} {E : XK} (h : sp_Words_ended c vs H Q E) : t_Words_ended K c E { nx := fun _ H' => Q .non H', rt := Q } (start ["_"] vs) H := by
  obtain ⟨o, wl, ws, i, rfl, ⟨⟨dx, ho⟩, hw⟩, hn, k⟩ := h
  show t_Words_ended K c E _ [some (.ref o)] H
  unfold t_Words_ended
  push_cast [ho, wd_at, wd_words, hw, svs_len']
  exact i2 (fun h => hn (by omega) _ (Fr.refl _ _)) fun h => k (by omega)
theorem abc_l : ("abcdefgh" : Str).cps.toList = [97, 98, 99, 100, 101, 102, 103, 104] := by decide +kernel
theorem abc26_l : ("abcdefghijklmnopqrstuvwxyz" : Str).cps.toList = (List.range 26).map (97 + ·) := by decide +kernel
theorem fig_l : ("0123456789" : Str).cps.toList = (List.range 10).map (48 + ·) := by decide +kernel
theorem in8 (ch : Nat) : ch ∈ ("abcdefgh" : Str).cps.toList ↔ 97 ≤ ch ∧ ch < 105 := by
  rw [abc_l]; simp; omega
theorem in26 (ch : Nat) : ch ∈ ("abcdefghijklmnopqrstuvwxyz" : Str).cps.toList ↔ 97 ≤ ch ∧ ch < 123 := by
  rw [abc26_l]; simp only [List.mem_map, List.mem_range]
  exact ⟨fun ⟨a, h, e⟩ => by omega, fun h => ⟨ch - 97, by omega, by omega⟩⟩
theorem in10 (ch : Nat) : ch ∈ ("0123456789" : Str).cps.toList ↔ 48 ≤ ch ∧ ch < 58 := by
  rw [fig_l]; simp only [List.mem_map, List.mem_range]
  exact ⟨fun ⟨a, h, e⟩ => by omega, fun h => ⟨ch - 48, by omega, by omega⟩⟩
theorem one_sign {w : Str} (h : w.length = 1) : ∃ ch, w = ⟨#[ch]⟩ := by
  obtain ⟨⟨l⟩⟩ := w
  match l, h with
  | [ch], _ => exact ⟨ch, rfl⟩
theorem isNm_one (ch : Nat) : isNm ⟨#[ch]⟩ = decide (97 ≤ ch ∧ ch < 105) := by simp [isNm, Str.length]
theorem szW {n : Nat} (h : n ≤ 1000000) : n ≤ sizeLine := Nat.le_trans h (by decide)
theorem rd_Words_need_name {K : PySem.W.Frag} {c : CA}  {vs : List V} {H : Hp} {Q : VK} {E : XK} (h : sp_Words_need_name c vs H Q E) : t_Words_need_name K c E { nx := fun _ H' => Q .non H', rt := Q } (start ["_", "_"] vs) H := by
  obtain ⟨o, wl, ws, i, rfl, W, ⟨_, sz⟩, hn, k⟩ := h
  show t_Words_need_name K c E _ [some (.ref o), none] H
  have W0 := W
  obtain ⟨⟨dx, ho⟩, hw⟩ := W
  unfold t_Words_need_name; refine st_seq ?_
  push_cast [xMethE, ho, wd_take]
  refine ⟨o, wl, ws, i, rfl, W0, fun h => hn (fun w hw => by rw [h] at hw; cases hw), fun w H1 hi W1 f1 => ?_⟩
  have lw := sz w (List.mem_of_getElem? hi)
  unfold t_Words_need_name_1; refine st_seq ?_
  push_cast
  refine ⟨szW lw, ?_⟩
  by_cases h1 : w.length = 1
  · obtain ⟨ch, rfl⟩ := one_sign h1
    refine iteF' (by omega) ?_
    refine ⟨ch, rfl, ?_⟩
    by_cases h2 : 97 ≤ ch ∧ ch < 105
    · have nm : isNm ⟨#[ch]⟩ = true := by rw [isNm_one]; exact decide_eq_true h2
      refine iteF' (fun z => z ((in8 ch).mpr h2)) ?_
      exact k _ H1 hi nm W1 f1
    · have nm : isNm ⟨#[ch]⟩ = false := by rw [isNm_one]; exact decide_eq_false h2
      exact iteT' (fun z => h2 ((in8 ch).mp z)) (hn (fun w hw => by rw [hi] at hw; cases hw; exact nm) _ f1)
  · refine iteT' (by omega) (hn (fun w' hw => ?_) _ f1)
    rw [hi] at hw
    cases hw
    unfold isNm
    rw [decide_eq_false h1]
    rfl
theorem rd_text_of {K : PySem.W.Frag} {c : CA}  {vs : List V} {H : Hp} {Q : VK} {E : XK} (h : sp_text_of c vs H Q E) : t_text_of K c E { nx := fun _ H' => Q .non H', rt := Q } (start ["_", "_"] vs) H := by
  obtain ⟨w, rfl, lw, hn, k⟩ := h
  show t_text_of K c E _ [some (.str w), none] H
  unfold t_text_of; refine st_seq ?_
  push_cast
  refine ⟨szW lw, ?_⟩
  by_cases hl : 12 < w.length
  · refine iteT' (by omega) (hn ?_ _ (Fr.refl _ _))
    unfold isTx
    rw [decide_eq_false (by omega)]
    rfl
  · refine iteF' (by omega) ?_
    unfold t_text_of_1; refine st_seq ?_
    refine forS (z := w) (fun R h => by push_cast; exact h) (fun i σ G => ∃ v1, σ = [some (.str w), v1] ∧ G = H ∧ ∀ j, j < i → ∀ ch, w.cps.toList[j]? = some ch → 97 ≤ ch ∧ ch < 123) ⟨none, rfl, rfl, fun _ h => absurd h (Nat.not_lt_zero _)⟩ ?_ ?_
    · rintro i ch _ G hc ⟨v1, rfl, rfl, ok⟩
      show tIfS _ _ _ _ [some (.str w), some (.str ⟨#[ch]⟩)] G
      push_cast
      refine ⟨ch, rfl, ?_⟩
      by_cases h2 : 97 ≤ ch ∧ ch < 123
      · refine iteF' (fun z => z ((in26 ch).mpr h2)) fun j hj c' hc' => ?_
        rcases Nat.lt_succ_iff_lt_or_eq.mp hj with h | rfl
        · exact ok j h c' hc'
        · rw [hc] at hc'; cases hc'; exact h2
      · refine iteT' (fun z => h2 ((in26 ch).mp z)) (hn ?_ _ (Fr.refl _ _))
        unfold isTx
        rw [Bool.and_eq_false_iff]
        right
        rw [List.all_eq_false]
        exact ⟨ch, List.mem_of_getElem? hc, by simpa using h2⟩
    · rintro _ G ⟨v1, rfl, rfl, ok⟩
      push_cast
      refine k ?_
      unfold isTx
      rw [Bool.and_eq_true]
      refine ⟨decide_eq_true (by omega), List.all_eq_true.mpr fun ch hc => ?_⟩
      obtain ⟨j, hj, e⟩ := List.mem_iff_getElem.mp hc
      exact decide_eq_true (ok j hj ch (by rw [List.getElem?_eq_getElem hj, e]))

theorem head0 {w : Str} (h : 1 ≤ w.length) : ∃ ch, atI w.cps.toList 0 = some ch ∧ w.cps.toList.head? = some ch := by
  obtain ⟨⟨l⟩⟩ := w
  match l, h with
  | ch :: r, _ => exact ⟨ch, atI0 _ _, rfl⟩
theorem zero_s (ch : Nat) : ((⟨#[ch]⟩ : Str) = ("0" : Str)) ↔ ch = 48 := by
  constructor
  · intro h
    have := congrArg (fun z : Str => z.cps.toList) h
    have e : ("0" : Str).cps.toList = [48] := by decide +kernel
    rw [e] at this
    simpa using this
  · rintro rfl
    decide +kernel
theorem rd_number_of {K : PySem.W.Frag} {c : CA}  {vs : List V} {H : Hp} {Q : VK} {E : XK} (h : sp_number_of c vs H Q E) : t_number_of K c E { nx := fun _ H' => Q .non H', rt := Q } (start ["_", "_"] vs) H := by
  obtain ⟨w, rfl, lw, hn, k⟩ := h
  show t_number_of K c E _ [some (.str w), none] H
  have bad : ¬ (1 ≤ w.length ∧ w.length ≤ 4) → isNu w = false := fun h => by
    unfold isNu
    rw [decide_eq_false h]
    rfl
  have go : (1 ≤ w.length ∧ w.length ≤ 4) → ¬ (w.cps.toList.head? = some 48 ∧ 1 < w.length) → t_number_of_1 K c E { nx := fun _ H' => Q .non H', rt := Q } [some (.str w), none] H := fun h1 h2 => by
    unfold t_number_of_1; refine st_seq ?_
    refine forS (z := w) (fun R h => by push_cast; exact h) (fun i σ G => ∃ v1, σ = [some (.str w), v1] ∧ G = H ∧ ∀ j, j < i → ∀ ch, w.cps.toList[j]? = some ch → 48 ≤ ch ∧ ch < 58) ⟨none, rfl, rfl, fun _ h => absurd h (Nat.not_lt_zero _)⟩ ?_ ?_
    · rintro i ch _ G hc ⟨v1, rfl, rfl, ok⟩
      show tIfS _ _ _ _ [some (.str w), some (.str ⟨#[ch]⟩)] G
      push_cast
      refine ⟨ch, rfl, ?_⟩
      by_cases h2 : 48 ≤ ch ∧ ch < 58
      · refine iteF' (fun z => z ((in10 ch).mpr h2)) fun j hj c' hc' => ?_
        rcases Nat.lt_succ_iff_lt_or_eq.mp hj with h | rfl
        · exact ok j h c' hc'
        · rw [hc] at hc'; cases hc'; exact h2
      · refine iteT' (fun z => h2 ((in10 ch).mp z)) (hn ?_ _ (Fr.refl _ _))
        unfold isNu
        rw [Bool.and_eq_false_iff, Bool.and_eq_false_iff]
        right; right
        rw [List.all_eq_false]
        exact ⟨ch, List.mem_of_getElem? hc, by simpa using h2⟩
    · rintro _ G ⟨v1, rfl, rfl, ok⟩
      have dg : ∀ ch ∈ w.cps.toList, 48 ≤ ch ∧ ch < 58 := fun ch hc => by
        obtain ⟨j, hj, e⟩ := List.mem_iff_getElem.mp hc
        exact ok j hj ch (by rw [List.getElem?_eq_getElem hj, e])
      have nu : isNu w = true := by
        unfold isNu
        rw [Bool.and_eq_true, Bool.and_eq_true]
        refine ⟨decide_eq_true h1, ?_, List.all_eq_true.mpr fun ch hc => decide_eq_true (dg ch hc)⟩
        rw [Bool.not_eq_true', Bool.and_eq_false_iff]
        by_cases hh : w.cps.toList.head? = some 48
        · exact .inr (decide_eq_false fun z => h2 ⟨hh, z⟩)
        · exact .inl (decide_eq_false hh)
      push_cast [rIntS]
      refine ⟨_, PySem.intText_digits ?_ ?_ (by omega), by omega, k nu⟩
      · intro ch hc
        have := dg ch hc
        exact ⟨this.1, by omega⟩
      · intro z
        have : w.length = 0 := by simpa [Str.length] using congrArg List.length z
        omega
  unfold t_number_of; refine st_seq ?_
  push_cast
  refine ⟨szW lw, ?_⟩
  by_cases h1 : 1 ≤ w.length
  · refine iteT' (by omega) ?_
    by_cases h4 : w.length ≤ 4
    · obtain ⟨ch, hc, hh⟩ := head0 h1
      refine iteF' (fun z => z (by omega)) ⟨szW lw, ch, hc, ?_⟩
      by_cases h0 : ch = 48
      · refine iteT' ((zero_s ch).mpr h0) ⟨szW lw, ?_⟩
        subst h0
        by_cases h2 : 1 < w.length
        · refine iteT' (by omega) (hn ?_ _ (Fr.refl _ _))
          unfold isNu
          rw [Bool.and_eq_false_iff, Bool.and_eq_false_iff]
          right; left
          rw [hh, decide_eq_true h2]
          rfl
        · exact iteF' (by omega) (go ⟨h1, h4⟩ fun z => h2 z.2)
      · exact iteF' (fun z => h0 ((zero_s ch).mp z)) (go ⟨h1, h4⟩ fun z => h0 (by rw [hh] at z; exact Option.some.inj z.1))
    · exact iteT' (by omega) (hn (bad fun z => h4 z.2) _ (Fr.refl _ _))
  · exact iteF' (by omega) (hn (bad fun z => h1 z.1) _ (Fr.refl _ _))
theorem lsp_list (x : Str) : (lsp x).cps.toList = x.cps.toList.dropWhile (· == 32) := by
  have e : ((" " : Str).cps).contains = fun c : Nat => c == 32 := by
    funext c
    have : (" " : Str).cps = #[32] := by decide +kernel
    rw [this]
    simp [Array.contains, eq_comm]
  have go : ∀ l : List Nat, l.drop (l.takeWhile (· == 32)).length = l.dropWhile (· == 32) := by
    intro l
    induction l with
    | nil => rfl
    | cons a r ih =>
      by_cases h : (a == 32) = true
      · simp only [List.takeWhile_cons, List.dropWhile_cons, h, if_true, List.length_cons, List.drop_succ_cons, ih]
      · simp only [List.takeWhile_cons, List.dropWhile_cons, h, if_false, Bool.false_eq_true, List.length_nil, List.drop_zero]
  unfold lsp Txt.lstripChars Txt.stripBy
  rw [e]
  split
  · next h =>
    unfold stripSame stripLo stripHi at h
    simp only [if_true, if_false, Bool.and_eq_true, beq_iff_eq] at h
    have := go x.cps.toList
    rw [h.1] at this
    simpa using this
  · unfold stripped stripLo stripHi Builtin.Str.strSub
    simp only [if_true, if_false, Bool.false_eq_true]
    rw [Array.toList_extract]
    rw [← go]
    simp only [List.extract_eq_drop_take, Str.length]
    exact List.take_of_length_le (by simp)
theorem lsp_len (x : Str) : (lsp x).length ≤ x.length := by
  have h := congrArg List.length (lsp_list x)
  have := (List.dropWhile_sublist (fun c : Nat => c == 32) (l := x.cps.toList)).length_le
  simp only [Array.length_toList] at h this
  show (lsp x).cps.size ≤ x.cps.size
  omega
theorem rd_Reader_here {K : PySem.W.Frag} {c : CA} {vs : List V} {H : Hp} {Q : VK} {E : XK} (h : sp_Reader_here c vs H Q E) : t_Reader_here K c { nx := fun _ H' => Q .non H', rt := Q } (start ["_", "_", "_", "_"] vs) H := by
  obtain ⟨o, ll, L, i, d, rfl, ⟨⟨dx, ho⟩, hL⟩, ⟨_, sz⟩, hd, k⟩ := h
  show t_Reader_here K c _ [some (.ref o), some (.int (d : Nat)), none, none] H
  unfold t_Reader_here; refine st_seq ?_
  push_cast [ho, rd_at, rd_lines, hL, svs_len']
  unfold here at k
  cases hi : L[i]? with
  | none =>
    have : L.length ≤ i := List.getElem?_eq_none_iff.mp hi
    rw [hi] at k
    exact iteT' (by omega) k
  | some l =>
    have : i < L.length := (List.getElem?_eq_some_iff.mp hi).1
    rw [hi] at k
    simp only at k
    refine iteF' (by omega) ?_
    unfold t_Reader_here_1; refine st_seq ?_
    push_cast [ho, rd_at, rd_lines, hL]
    refine ⟨_, svs_at hi, ?_⟩
    have ll' := sz l (List.mem_of_getElem? hi)
    have l2 := lsp_len l
    unfold t_Reader_here_2; refine st_seq ?_
    push_cast [xLst2]
    refine ⟨szW (by omega), ?_⟩
    show t_Reader_here_3 K c _ [some (.ref o), some (.int (d : Nat)), some (.str l), some (.str (lsp l))] H
    unfold t_Reader_here_3; refine st_seq ?_
    push_cast
    refine ⟨szW (by omega), szW (by omega), .inl ⟨by decide, by decide⟩, ?_⟩
    by_cases h2 : l.length - (lsp l).length = 2 * d
    · rw [if_pos h2] at k
      exact iteF' (fun z => z (by omega)) k
    · rw [if_neg h2] at k
      exact iteT' (by omega) k

/-- Words.part from 5 -/
def t_Words_part_5 (K : PySem.W.Frag) (c : CA) (n : Nat) (E : XK) : TS :=
  (tSeq (tIfS (tAnd (tTest (tOp rEq (tCB rLenS (tCons (tVar 2) tNil)) (tC (.int 1)))) (tTest (tOp rInS1 (tVar 2) (tC (.str ("abcdefgh" : Str)))))) (tRet (xTup (tCons (tC (.str (wd 2))) (tCons (tVar 2) tNil)))) tNext)
    (tRet (xTup (tCons (tC (.str (wd 0))) (tCons (tCall (sp_number_of c) [] E (tCons (tVar 2) tNil)) tNil)))))

/-- Words.part from 4 -/
def t_Words_part_4 (K : PySem.W.Frag) (c : CA) (n : Nat) (E : XK) : TS :=
  tSeq (tIfS (tTest (tOp rEq (tSl rSlS (tVar 2) tNoPart (tPart (tC (.int 1)))) (tC (.str ("'" : Str))))) (tRet (xTup (tCons (tC (.str (wd 1))) (tCons (tCall (sp_text_of c) [] E (tCons (tSl rSlS (tVar 2) (tPart (tC (.int 1))) tNoPart) tNil)) tNil)))) tNext) (t_Words_part_5 K c n E)

/-- Words.part from 3 -/
def t_Words_part_3 (K : PySem.W.Frag) (c : CA) (n : Nat) (E : XK) : TS :=
  tSeq (tIfS (tTest (tOp (rNeD K) (tVar 3) (xLst tNil))) (tSeq (tAsg (xMethE c.words ("part" : Str) (sp_Words_part c n) E (tVar 0) (tCons (tOp (rI0 fun i j => .int (i + j)) (tVar 1) (tC (.int 1))) tNil)) (gName 6))
    (tRet (xTup (tCons (tOp rXL (tVar 3) (tC (.int 0))) (tCons (tVar 6) (tCons (xMethE c.words ("part" : Str) (sp_Words_part c n) E (tVar 0) (tCons (tOp (rI0 fun i j => .int (i + j)) (tVar 1) (tC (.int 1))) tNil)) tNil)))))) tNext) (t_Words_part_4 K c n E)

/-- Words.part from 2 -/
def t_Words_part_2 (K : PySem.W.Frag) (c : CA) (n : Nat) (E : XK) : TS :=
  tSeq (tAsg (tLc iSg (gTup K 2 (gCons (gName 4) (gCons (gName 5) gNil))) (tTest (tOp rEq (tVar 5) (tVar 2))) (tVar 4) [4, 5]) (gName 3)) (t_Words_part_3 K c n E)

/-- Words.part from 1 -/
def t_Words_part_1 (K : PySem.W.Frag) (c : CA) (n : Nat) (E : XK) : TS :=
  tSeq (tAsg (xMethE c.words ("take" : Str) (sp_Words_take c) E (tVar 0) tNil) (gName 2)) (t_Words_part_2 K c n E)

/-- Words.part -/
def t_Words_part (K : PySem.W.Frag) (c : CA) (n : Nat) (E : XK) : TS :=
  tSeq (tIfS (tTest (tOp (rI0 fun i j => .bl (decide (j < i))) (tVar 1) (tC (.int 5)))) (tRz c.unread (fun cls d _ H => E cls d H)) tNext) (t_Words_part_1 K c n E)

theorem walk_sg : Walk ItSg 4 (fun _ => True) (fun i H x H' => ∃ T k v, sgKs[i]? = some (k, v) ∧ x = .ref T ∧ H T = none ∧ H' = upd H T (.tup [kV k, v])) :=
  ⟨fun _ _ hi _ => hi, fun _ _ => Nat.le_refl _, fun _ _ _ _ _ _ y => y⟩
/-- the signs that a word is the mark of, among the first i -/
def sgAc (w : Str) (i : Nat) : List Str := ((sgSs.take i).filter fun p => decide (p.2 = w)).map (·.1)
theorem sgAc_all (w : Str) : sgAc w 4 = match sgOf w with
    | some s => [s.s]
    | none => [] := by
  unfold sgAc sgOf sgSs
  by_cases h1 : w = ("+" : Str)
  · subst h1
    rw [if_pos rfl]
    decide +kernel
  · rw [if_neg h1]
    by_cases h2 : w = ("-" : Str)
    · subst h2
      rw [if_pos rfl]
      decide +kernel
    · rw [if_neg h2]
      by_cases h3 : w = ("<" : Str)
      · subst h3
        rw [if_pos rfl]
        decide +kernel
      · rw [if_neg h3]
        by_cases h4 : w = ("=" : Str)
        · subst h4
          rw [if_pos rfl]
          decide +kernel
        · rw [if_neg h4]
          have e1 : ¬ ("+" : Str) = w := fun z => h1 z.symm
          have e2 : ¬ ("-" : Str) = w := fun z => h2 z.symm
          have e3 : ¬ ("<" : Str) = w := fun z => h3 z.symm
          have e4 : ¬ ("=" : Str) = w := fun z => h4 z.symm
          simp [e1, e2, e3, e4]
theorem sgAc_le (w : Str) (i : Nat) : (sgAc w i).length ≤ 4 := by
  unfold sgAc
  rw [List.length_map]
  refine Nat.le_trans (List.length_filter_le _ _) ?_
  rw [List.length_take]
  exact Nat.le_trans (Nat.min_le_right _ _) (by decide)
theorem sgK_at {i : Nat} {k : Key} {v : V} (h : sgKs[i]? = some (k, v)) : ∃ p : Str × Str, sgSs[i]? = some p ∧ kV k = .str p.1 ∧ v = .str p.2 := by
  have : i < 4 := (List.getElem?_eq_some_iff.mp h).1
  match i, this, h with
  | 0, _, h => cases h; exact ⟨_, rfl, rfl, rfl⟩
  | 1, _, h => cases h; exact ⟨_, rfl, rfl, rfl⟩
  | 2, _, h => cases h; exact ⟨_, rfl, rfl, rfl⟩
  | 3, _, h => cases h; exact ⟨_, rfl, rfl, rfl⟩
theorem sgAc_succ {w : Str} {i : Nat} {p : Str × Str} (h : sgSs[i]? = some p) : sgAc w (i + 1) = if p.2 = w then sgAc w i ++ [p.1] else sgAc w i := by
  unfold sgAc
  rw [take_snoc h, List.filter_append, List.map_append]
  by_cases e : p.2 = w
  · simp [e]
  · simp [e]
theorem cut_hd (w : Str) : cutS w none (some 1) = ("'" : Str) ↔ w.cps.toList.head? = some 39 := by
  obtain ⟨⟨l⟩⟩ := w
  have e : ("'" : Str) = ⟨#[39]⟩ := by decide +kernel
  rw [e]
  cases l with
  | nil => simp [cutS, HT.sIx, Str.length]
  | cons a r => simp [cutS, HT.sIx, Str.length]
theorem cut_tl (w : Str) : cutS w (some 1) none = tl1 w := by
  obtain ⟨⟨l⟩⟩ := w
  unfold tl1
  cases l with
  | nil => simp [cutS, HT.sIx, Str.length]
  | cons a r => simp [cutS, HT.sIx, Str.length]
theorem tl1_len (w : Str) : (tl1 w).length ≤ w.length := by
  simp [tl1, Str.length]
theorem rd_Words_part {K : PySem.W.Frag} {c : CA} {n : Nat}  {vs : List V} {H : Hp} {Q : VK} {E : XK} (h : sp_Words_part c (n + 1) vs H Q E) : t_Words_part K c n E { nx := fun _ H' => Q .non H', rt := Q } (start ["_", "_", "_", "_", "_", "_", "_"] vs) H := by
  obtain ⟨o, wl, ws, i, k', d, rfl, hdk, hk, W, sz, hn, k⟩ := h
  show t_Words_part K c n E _ [some (.ref o), some (.int (d : Nat)), none, none, none, none, none] H
  have W0 := W
  obtain ⟨⟨dx, ho⟩, hw⟩ := W
  unfold t_Words_part; refine st_seq ?_
  push_cast
  cases k' with
  | zero => exact iteT' (by omega) (hn rfl _ (Fr.refl _ _))
  | succ k' =>
  refine iteF' (by omega) ?_
  unfold t_Words_part_1; refine st_seq ?_
  push_cast [xMethE, ho, wd_take]
  refine ⟨o, wl, ws, i, rfl, W0, fun h => hn (by rw [List.drop_eq_nil_of_le (List.getElem?_eq_none_iff.mp h)]; rfl), fun w H1 hi W1 f1 => ?_⟩
  have il : i < ws.length := (List.getElem?_eq_some_iff.mp hi).1
  have lw := sz.2 w (List.mem_of_getElem? hi)
  have hdr : ws.drop i = w :: ws.drop (i + 1) := by
    rw [List.drop_eq_getElem_cons il]
    rw [List.getElem?_eq_getElem il] at hi
    rw [Option.some.inj hi]
  rw [hdr] at hn k
  unfold pp at hn k
  unfold t_Words_part_2; refine st_seq ?_
  simp only [tAsg]
  intro L hL
  refine lc_it walk_sg (fun j G => G L = some (.lst (svs (sgAc w j))) ∧ Fr [] H1 G) ⟨upd_same, (Al.of hL).fr⟩ (fun _ _ _ _ => trivial) ?_ ?_
  · rintro j x G G' hj ⟨hG, fG⟩ ⟨T, kk, v, hkv, rfl, hT, rfl⟩
    obtain ⟨p, hp, e1, rfl⟩ := sgK_at hkv
    have A := Al.of (o := HO.tup [kV kk, .str p.2]) hT
    rw [e1] at A ⊢
    push_cast [wipe]
    have hGA := A.k hG
    have nLT : L ≠ T := ne_of_none hG hT
    refine ⟨_, SqT.of A.at_, rfl, _, _, rfl, _, _, rfl, rfl, rfl, ?_⟩
    have sc := sgAc_succ (w := w) hp
    have le := sgAc_le w j
    by_cases e : p.2 = w
    · rw [if_pos (by rw [e])]
      rw [if_pos e] at sc
      refine ⟨_, hGA, bigL (by rw [svs_len']; omega), by rw [sc]; simp [svs], ?_⟩
      exact (fG.al A).muN (Mu.of hGA fun _ z => by cases z) hL
    · rw [if_neg (by simpa using e)]
      rw [if_neg e] at sc
      rw [sc]
      exact ⟨hGA, fG.al A⟩
  rintro H2 ⟨hL2, f2⟩
  rw [sgAc_all] at hL2
  have W2 : WdAt c H2 o wl ws (i + 1) := ⟨⟨_, f2.keep _ _ W1.1.choose_spec (by simp)⟩, f2.keep _ _ W1.2 (by simp)⟩
  have F2 : Fr [o] H H2 := f1.trans (f2.mono (by simp))
  show t_Words_part_3 K c n E _ [some (.ref o), some (.int (d : Nat)), some (.str w), some (.ref L), none, none, none] H2
  unfold t_Words_part_3; refine st_seq ?_
  cases hs : sgOf w with
  | some s =>
    rw [hs] at hL2 hn k
    simp only at hL2 hn k
    push_cast
    refine ⟨(by simp only [List.length_cons, List.length_nil]; decide), fun p H3 A3 => ?_⟩
    have W3 : WdAt c H3 o wl ws (i + 1) := ⟨⟨_, A3.k W2.1.choose_spec⟩, A3.k W2.2⟩
    have F3 : Fr [o] H H3 := F2.al A3
    have hL3 := A3.k hL2
    refine ⟨.list [.str s.s], .list [], .lst (SqL.of hL3) (.cons (.str _) .nil), .lst (SqL.of A3.at_) .nil, ?_, ?_, ?_⟩
    · simp [SeqAt.shaped, PyData.canLay0, PyData.canLayAll0, PyData.depth, PyData.depthAll, s.sok]
    · simp [SeqAt.shaped, PyData.canLay0, PyData.canLayAll0, PyData.depth, PyData.depthAll]
    simp only [PyData.eqv, PyData.eqvAll]
    refine ⟨true, rfl, ?_⟩
    rw [if_pos rfl]
    obtain ⟨dx3, ho3⟩ := id W3.1
    have ed : ((d : Nat) : Int) + 1 = ((d + 1 : Nat) : Int) := by omega
    refine st_seq ?_
    push_cast [xMethE, ho3, wd_part]
    refine ⟨o, wl, ws, i + 1, k', d + 1, by rw [ed], by omega, by omega, W3, sz, fun h => (hn (by rw [h])).from F3, fun a va j1 H4 h1 j1l j1u ta W4 f4 => ?_⟩
    rw [h1] at hn k
    simp only at hn k
    have nLo : L ∉ [o] := by
      intro z
      have z' : L = o := by simpa using z
      obtain ⟨dx1, ho1⟩ := W1.1
      rw [z', ho1] at hL
      cases hL
    have hL4 := f4.keep _ _ hL3 nLo
    have F4 : Fr [o] H H4 := F3.trans f4
    obtain ⟨dx4, ho4⟩ := id W4.1
    push_cast [xMethE, hL4, ho4, wd_part, svs, List.map_cons]
    refine ⟨o, wl, ws, j1, k', d + 1, by rw [ed], by omega, by omega, W4, sz, fun h => (hn (by rw [h])).from F4, fun b vb j2 H5 h2 j2l j2u tb W5 f5 => ?_⟩
    rw [h2] at k
    simp only at k
    refine ⟨(by simp only [List.length_cons, List.length_nil]; decide), fun q H6 A6 => ?_⟩
    refine k (.op s a b) (.ref q) j2 H6 rfl (by omega) j2u ?_ ⟨⟨_, A6.k W5.1.choose_spec⟩, A6.k W5.2⟩ ((F4.trans f5).al A6)
    exact .tup A6.at_ (.cons (.str _) (.cons ((ta.tups f5.tu).tups A6.tu) (.cons (tb.tups A6.tu) .nil)))
  | none =>
    rw [hs] at hL2 hn k
    simp only at hL2 hn k
    push_cast
    refine ⟨(by simp only [List.length_cons, List.length_nil]; decide), fun p H3 A3 => ?_⟩
    have W3 : WdAt c H3 o wl ws (i + 1) := ⟨⟨_, A3.k W2.1.choose_spec⟩, A3.k W2.2⟩
    have F3 : Fr [o] H H3 := F2.al A3
    have hL3 := A3.k hL2
    refine ⟨.list [], .list [], .lst (SqL.of hL3) .nil, .lst (SqL.of A3.at_) .nil, ?_, ?_, ?_⟩
    · simp [SeqAt.shaped, PyData.canLay0, PyData.canLayAll0, PyData.depth, PyData.depthAll]
    · simp [SeqAt.shaped, PyData.canLay0, PyData.canLayAll0, PyData.depth, PyData.depthAll]
    simp only [PyData.eqv, PyData.eqvAll]
    refine ⟨false, rfl, ?_⟩
    rw [if_neg (by simp)]
    show t_Words_part_4 K c n E _ [some (.ref o), some (.int (d : Nat)), some (.str w), some (.ref L), none, none, none] H3
    unfold t_Words_part_4; refine st_seq ?_
    push_cast
    have lt := tl1_len w
    refine ⟨szW lw, ?_⟩
    by_cases h39 : w.cps.toList.head? = some 39
    · refine iteT' ((cut_hd w).mpr h39) ⟨szW lw, ?_⟩
      rw [cut_tl]
      refine ⟨tl1 w, rfl, by omega, fun h => ((hn ?_).from F3).sub (by simp), fun h => ⟨(by simp only [List.length_cons, List.length_nil]; decide), fun q H4 A4 => ?_⟩⟩
      · unfold leaf
        rw [if_pos h39, h]
        rfl
      · refine k (.text (tl1 w)) _ (i + 1) H4 ?_ (by omega) (by omega) (.tup A4.at_ (.cons (.str _) (.cons (.str _) .nil))) ⟨⟨_, A4.k W3.1.choose_spec⟩, A4.k W3.2⟩ (F3.al A4)
        unfold leaf
        rw [if_pos h39, if_pos h]
        rfl
    · refine iteF' (fun z => h39 ((cut_hd w).mp z)) ?_
      have lf : leaf w = if isNm w = true then some (.name w) else if isNu w = true then some (.num (NumText.digitsVal w.cps.toList : Nat)) else none := by
        unfold leaf
        rw [if_neg h39]
      have num : isNm w = false → sp_number_of c [.str w] H3 (fun x H1 => [V.str (wd 0), x].length ≤ sizeLine ∧ ∀ (p : Addr) (H2 : Hp), Al H1 p (HO.tup [V.str (wd 0), x]) H2 → Q (V.ref p) H2) E := fun nm => by
        refine ⟨w, rfl, lw, fun h => ((hn ?_).from F3).sub (by simp), fun h => ⟨(by simp only [List.length_cons, List.length_nil]; decide), fun q H4 A4 => ?_⟩⟩
        · rw [lf, nm, h]
          rfl
        · refine k (.num (NumText.digitsVal w.cps.toList : Nat)) _ (i + 1) H4 ?_ (by omega) (by omega) (.tup A4.at_ (.cons (.str _) (.cons (.int _) .nil))) ⟨⟨_, A4.k W3.1.choose_spec⟩, A4.k W3.2⟩ (F3.al A4)
          rw [lf, nm, h]
          rfl
      unfold t_Words_part_5; refine st_seq ?_
      push_cast
      refine ⟨szW lw, ?_⟩
      by_cases h1 : w.length = 1
      · obtain ⟨ch, rfl⟩ := one_sign h1
        refine iteT' (by omega) ⟨ch, rfl, ?_⟩
        by_cases h2 : 97 ≤ ch ∧ ch < 105
        · have nm : isNm ⟨#[ch]⟩ = true := by rw [isNm_one]; exact decide_eq_true h2
          refine iteT' ((in8 ch).mpr h2) ⟨(by simp only [List.length_cons, List.length_nil]; decide), fun q H4 A4 => ?_⟩
          refine k (.name ⟨#[ch]⟩) _ (i + 1) H4 ?_ (by omega) (by omega) (.tup A4.at_ (.cons (.str _) (.cons (.str _) .nil))) ⟨⟨_, A4.k W3.1.choose_spec⟩, A4.k W3.2⟩ (F3.al A4)
          rw [lf, nm]
          rfl
        · refine iteF' (fun z => h2 ((in8 ch).mp z)) (num ?_)
          rw [isNm_one]
          exact decide_eq_false h2
      · refine iteF' (by omega) (num ?_)
        unfold isNm
        rw [decide_eq_false h1]
        rfl

/-- Reader.block from 2 -/
def t_Reader_block_2 (K : PySem.W.Frag) (c : CA) (n : Nat) (E : XK) : TS :=
  (tSeq (tWhile (tTest (tOp (rInT true) (xMeth c.reader ("here" : Str) (sp_Reader_here c) (tVar 0) (tCons (tVar 1) tNil)) (xTup (tCons (tC (.str ("" : Str))) (tCons (tC (.str (wd 29))) tNil)))))
    (tDrop (tApp (tVar 2) (xMethE c.reader ("statement" : Str) (sp_Reader_statement c n) E (tVar 0) (tCons (tVar 1) tNil)))))
    (tRet (xTup (tCons (tC (.str (wd 13))) (tCons (tCB rTupL (tCons (tVar 2) tNil)) tNil)))))

/-- Reader.block from 1 -/
def t_Reader_block_1 (K : PySem.W.Frag) (c : CA) (n : Nat) (E : XK) : TS :=
  tSeq (tAsg (xLst tNil) (gName 2)) (t_Reader_block_2 K c n E)

/-- Reader.block -/
def t_Reader_block (K : PySem.W.Frag) (c : CA) (n : Nat) (E : XK) : TS :=
  tSeq (tIfS (tTest (tOp (rI0 fun i j => .bl (decide (j < i))) (tVar 1) (tC (.int 5)))) (tRz c.unread (fun cls d _ H => E cls d H)) tNext) (t_Reader_block_1 K c n E)

/-- Reader.statement from 11 -/
def t_Reader_statement_11 (K : PySem.W.Frag) (c : CA) (n : Nat) (E : XK) : TS :=
  (tSeq (tIfS (tTest (tOp rEq (xMeth c.reader ("here" : Str) (sp_Reader_here c) (tVar 0) (tCons (tVar 1) tNil)) (tC (.str (wd 29))))) (tSeq (xSet c.reader (tVar 0) (tOp (rI0 fun i j => .int (i + j)) (xFld c.reader (tVar 0) ("at" : Str)) (tC (.int 1))) ("at" : Str))
    (tAsg (xMethE c.reader ("block" : Str) (sp_Reader_block c n) E (tVar 0) (tCons (tOp (rI0 fun i j => .int (i + j)) (tVar 1) (tC (.int 1))) tNil)) (gName 7))) tNext)
    (tRet (xTup (tCons (tC (.str (wd 14))) (tCons (tVar 5) (tCons (tVar 6) (tCons (tVar 7) tNil)))))))

/-- Reader.statement from 10 -/
def t_Reader_statement_10 (K : PySem.W.Frag) (c : CA) (n : Nat) (E : XK) : TS :=
  tSeq (tAsg (xTup (tCons (tC (.str (wd 13))) (tCons (xTup tNil) tNil))) (gName 7)) (t_Reader_statement_11 K c n E)

/-- Reader.statement from 9 -/
def t_Reader_statement_9 (K : PySem.W.Frag) (c : CA) (n : Nat) (E : XK) : TS :=
  tSeq (tIfS (tTest (tOp rEq (tVar 3) (tC (.str (wd 15))))) (tRet (xTup (tCons (tC (.str (wd 15))) (tCons (tVar 5) (tCons (tVar 6) tNil))))) tNext) (t_Reader_statement_10 K c n E)

/-- Reader.statement from 8 -/
def t_Reader_statement_8 (K : PySem.W.Frag) (c : CA) (n : Nat) (E : XK) : TS :=
  tSeq (tAsg (xMethE c.reader ("block" : Str) (sp_Reader_block c n) E (tVar 0) (tCons (tOp (rI0 fun i j => .int (i + j)) (tVar 1) (tC (.int 1))) tNil)) (gName 6)) (t_Reader_statement_9 K c n E)

/-- Reader.statement from 7 -/
def t_Reader_statement_7 (K : PySem.W.Frag) (c : CA) (n : Nat) (E : XK) : TS :=
  tSeq (tIfS (tTest (tOp rEq (tVar 3) (tC (.str (wd 7))))) (tRet (xTup (tCons (tC (.str (wd 7))) (tCons (tVar 5) tNil)))) tNext) (t_Reader_statement_8 K c n E)

/-- Reader.statement from 6 -/
def t_Reader_statement_6 (K : PySem.W.Frag) (c : CA) (n : Nat) (E : XK) : TS :=
  tSeq (tDrop (xMethE c.words ("ended" : Str) (sp_Words_ended c) E (tVar 2) tNil)) (t_Reader_statement_7 K c n E)

/-- Reader.statement from 5 -/
def t_Reader_statement_5 (K : PySem.W.Frag) (c : CA) (n : Nat) (E : XK) : TS :=
  tSeq (tAsg (xMethE c.words ("part" : Str) (sp_Words_part c 7) E (tVar 2) (tCons (tC (.int 1)) tNil)) (gName 5)) (t_Reader_statement_6 K c n E)

/-- Reader.statement from 4 -/
def t_Reader_statement_4 (K : PySem.W.Frag) (c : CA) (n : Nat) (E : XK) : TS :=
  tSeq (tIfS (tTest (tOp (rInT true) (tVar 3) (xTup (tCons (tC (.str (wd 7))) (tCons (tC (.str (wd 14))) (tCons (tC (.str (wd 15))) tNil)))))) (tRz c.unread (fun cls d _ H => E cls d H)) tNext) (t_Reader_statement_5 K c n E)

/-- Reader.statement from 3 -/
def t_Reader_statement_3 (K : PySem.W.Frag) (c : CA) (n : Nat) (E : XK) : TS :=
  tSeq (tIfS (tTest (tOp rEq (tVar 3) (tC (.str (wd 8))))) (tSeq (tAsg (xMethE c.words ("need_name" : Str) (sp_Words_need_name c) E (tVar 2) tNil) (gName 4))
    (tSeq (tAsg (xMethE c.words ("part" : Str) (sp_Words_part c 7) E (tVar 2) (tCons (tC (.int 1)) tNil)) (gName 5))
    (tSeq (tDrop (xMethE c.words ("ended" : Str) (sp_Words_ended c) E (tVar 2) tNil))
    (tRet (xTup (tCons (tC (.str (wd 8))) (tCons (tVar 4) (tCons (tVar 5) tNil)))))))) tNext) (t_Reader_statement_4 K c n E)

/-- Reader.statement from 2 -/
def t_Reader_statement_2 (K : PySem.W.Frag) (c : CA) (n : Nat) (E : XK) : TS :=
  tSeq (tAsg (xMethE c.words ("take" : Str) (sp_Words_take c) E (tVar 2) tNil) (gName 3)) (t_Reader_statement_3 K c n E)

/-- Reader.statement from 1 -/
def t_Reader_statement_1 (K : PySem.W.Frag) (c : CA) (n : Nat) (E : XK) : TS :=
  tSeq (xSet c.reader (tVar 0) (tOp (rI0 fun i j => .int (i + j)) (xFld c.reader (tVar 0) ("at" : Str)) (tC (.int 1))) ("at" : Str)) (t_Reader_statement_2 K c n E)

/-- Reader.statement -/
def t_Reader_statement (K : PySem.W.Frag) (c : CA) (n : Nat) (E : XK) : TS :=
  tSeq (tAsg (xMake c.words (sp_Words___init__ c) (tCons (xSplit (xMeth c.reader ("here" : Str) (sp_Reader_here c) (tVar 0) (tCons (tVar 1) tNil)) (tC (.str (" " : Str)))) tNil)) (gName 2)) (t_Reader_statement_1 K c n E)

theorem RdAt.keep {c : CA} {H H' : Hp} {o ll : Addr} {L : List Str} {i : Nat} (h : RdAt c H o ll L i) {S : List Addr} (f : Fr S H H') (ho : o ∉ S) (hl : ll ∉ S) : RdAt c H' o ll L i := by
  obtain ⟨⟨dx, h1⟩, h2⟩ := h
  exact ⟨⟨dx, f.keep _ _ h1 ho⟩, f.keep _ _ h2 hl⟩
theorem RdAt.ne {c : CA} {H : Hp} {o ll : Addr} {L : List Str} {i : Nat} (h : RdAt c H o ll L i) : ll ≠ o := by
  obtain ⟨⟨dx, h1⟩, h2⟩ := h
  exact ne_of h2 h1 (by simp)
theorem not_stop_lt {L : List Str} {d i : Nat} (h : ¬ stopH L d i) : i < L.length := by
  by_cases hi : i < L.length
  · exact hi
  · refine absurd (.inl ?_) h
    unfold here
    rw [List.getElem?_eq_none (by omega)]
/-- the loop of a block -/
def BlkI (c : CA) (o ll : Addr) (L : List Str) (H : Hp) (d i0 : Nat) (m : Nat) (σ : L2.St) (G : Hp) : Prop := ∃ (P : Addr) (xs : List V) (acc : List Sm) (i : Nat), σ = [some (.ref o), some (.int (d : Nat)), some (.ref P)] ∧ G P = some (.lst xs) ∧ H P = none ∧
  TpL G (acc.map Sm.d) xs ∧ RdAt c G o ll L i ∧ i0 ≤ i ∧ acc.length ≤ i - i0 ∧ (∀ r : Option (List Sm × Nat), LoopR L d i r → LoopR L d i0 (r.map fun q => (acc ++ q.1, q.2))) ∧ Fr [o] H G ∧ L.length + 1 - i < m
theorem rd_Reader_block {K : PySem.W.Frag} {c : CA} {n : Nat}  {vs : List V} {H : Hp} {Q : VK} {E : XK} (h : sp_Reader_block c (n + 1) vs H Q E) : t_Reader_block K c n E { nx := fun _ H' => Q .non H', rt := Q } (start ["_", "_", "_"] vs) H := by
  obtain ⟨o, ll, L, i0, d, rfl, hdn, hd6, R, sz, hn, k⟩ := h
  show t_Reader_block K c n E _ [some (.ref o), some (.int (d : Nat)), none] H
  unfold t_Reader_block; refine st_seq ?_
  push_cast
  by_cases h5 : 5 < d
  · exact iteT' (by omega) (hn (.deep h5) _ (Fr.refl _ _))
  refine iteF' (by omega) ?_
  unfold t_Reader_block_1; refine st_seq ?_
  push_cast
  refine ⟨(by simp only [List.length_cons, List.length_nil]; decide), fun P H1 A1 => ?_⟩
  have R1 : RdAt c H1 o ll L i0 := R.keep (A1.fr (S := [])) (by simp) (by simp)
  unfold t_Reader_block_2; refine st_seq ?_
  refine ⟨BlkI c o ll L H d i0, ⟨L.length + 2, P, [], [], i0, rfl, A1.at_, A1.new, .nil, R1, Nat.le_refl _, Nat.zero_le _, fun r h => by cases r <;> simpa using h, A1.fr, by omega⟩, ?_⟩
  rintro m σ G ⟨P, xs, acc, i, rfl, hP, nP, tx, RG, i0i, al, hr, fG, mi⟩
  obtain ⟨dx, ho⟩ := id RG.1
  push_cast [ho, rd_here]
  refine ⟨o, ll, L, i, d, rfl, RG, sz, by omega, ⟨(by simp only [List.length_cons, List.length_nil]; decide), fun q H2 A2 => ⟨_, A2.at_, rfl, rfl, ?_⟩⟩⟩
  have R2 : RdAt c H2 o ll L i := RG.keep (A2.fr (S := [])) (by simp) (by simp)
  have f2 : Fr [o] H H2 := fG.al A2
  have hP2 := A2.k hP
  have tx2 := tx.tups A2.tu
  have oP : P ∉ [o] := by
    intro z
    have z' : P = o := by simpa using z
    obtain ⟨dx0, h0⟩ := R.1
    rw [z', h0] at nP
    cases nP
  by_cases hs : stopH L d i
  · have inn : inV (.str (here L d i)) [V.str (Str.ofString ""), V.str (wd 29)] = true := by
      rcases hs with h | h
      · rw [h]; simp [inV_cons, eqV_str]
      · rw [h]; simp [inV_cons, eqV_str]
    rw [inn, if_neg (by simp)]
    refine ⟨_, hP2, fun l H3 A3 => ⟨(by simp only [List.length_cons, List.length_nil]; decide), fun q2 H4 A4 => ?_⟩⟩
    have lr := hr (some ([], i)) (.stop hs)
    simp only [Option.map_some, List.append_nil] at lr
    have dl : dL acc = acc.map Sm.d := by
      clear lr hr al tx tx2
      induction acc with
      | nil => rfl
      | cons a r ih => simp only [dL, List.map_cons, ih]
    refine k acc i _ H4 (.loop (by omega) lr) i0i ?_ (R2.keep ((A3.fr (S := [])).al A4) (by simp) (by simp)) ((f2.al A3).al A4)
    unfold rowD
    rw [dl]
    exact .tup A4.at_ (.cons (.str _) (.cons (.tup (A4.k A3.at_) ((tx2.tups A3.tu).tups A4.tu)) .nil))
  · have inn : inV (.str (here L d i)) [V.str (Str.ofString ""), V.str (wd 29)] = false := by
      have h1 : ¬ here L d i = Str.ofString "" := fun h => hs (.inl h)
      have h2 : ¬ here L d i = wd 29 := fun h => hs (.inr h)
      simp only [inV_cons, inV_nil, eqV_str, Bool.or_false, Bool.or_eq_false_iff, decide_eq_false_iff_not]
      exact ⟨fun z => h1 z.symm, fun z => h2 z.symm⟩
    rw [inn, if_pos rfl]
    have iL := not_stop_lt hs
    refine ⟨fun σ' H' => ∃ m', m' < m ∧ BlkI c o ll L H d i0 m' σ' H', fun _ _ h => h, ⟨_, hP2⟩, ?_⟩
    obtain ⟨dx2, ho2⟩ := id R2.1
    push_cast [xMethE, ho2, rd_state]
    refine ⟨o, ll, L, i, d, rfl, by omega, by omega, R2, sz, fun h => (hn (.loop (by omega) (by simpa using hr none (.fail hs h)))).from f2, fun s j v H3 st ij tv R3 f3 => ?_⟩
    have hP3 := f3.keep _ _ hP2 oP
    have xl : xs.length = acc.length := by rw [tx.length, List.length_map]
    have := sz.1
    refine ⟨_, hP3, bigL (by omega), fun H4 M4 => ?_⟩
    have f4 : Fr [o] H H4 := (f2.trans f3).muN M4 nP
    have R4 : RdAt c H4 o ll L j := by
      obtain ⟨⟨dx3, h1⟩, h2⟩ := R3
      exact ⟨⟨dx3, M4.k h1 fun z => oP (by simp [z])⟩, M4.k h2 (ne_of_none R.2 nP)⟩
    refine ⟨L.length + 1 - i, mi, P, _, acc ++ [s], j, rfl, M4.at_, nP, ?_, R4, by omega, by simp only [List.length_append, List.length_cons, List.length_nil]; omega, fun r h => ?_, f4, by omega⟩
    · rw [List.map_append]
      exact TpL.append ((tx2.tups f3.tu).tups M4.tu) (.cons (tv.tups M4.tu) .nil)
    · cases r with
      | none => simpa using hr none (.more hs st h)
      | some q => simpa using hr (some (s :: q.1, q.2)) (.cons hs st h)

theorem lineP_say (r : List Str) : lineP (wd 7 :: r) = (whole (pp 5 r)).map .say := by
  simp only [lineP, wd_eq (i := 7) (j := 8) (by decide) (by decide)]
  simp
theorem lineP_if (r : List Str) : lineP (wd 14 :: r) = (whole (pp 5 r)).map .ifl := by
  simp only [lineP, wd_eq (i := 14) (j := 8) (by decide) (by decide), wd_eq (i := 14) (j := 7) (by decide) (by decide)]
  simp
theorem lineP_whl (r : List Str) : lineP (wd 15 :: r) = (whole (pp 5 r)).map .whl := by
  simp only [lineP, wd_eq (i := 15) (j := 8) (by decide) (by decide), wd_eq (i := 15) (j := 7) (by decide) (by decide), wd_eq (i := 15) (j := 14) (by decide) (by decide)]
  simp
theorem lineP_set (x : Str) (r : List Str) : lineP (wd 8 :: x :: r) = if isNm x = true then (whole (pp 5 r)).map (.set x) else none := by
  simp [lineP]
theorem lineP_set0 : lineP [wd 8] = none := by simp [lineP]
theorem lineP_no {w : Str} {r : List Str} (h8 : w ≠ wd 8) (h7 : w ≠ wd 7) (h14 : w ≠ wd 14) (h15 : w ≠ wd 15) : lineP (w :: r) = none := by
  simp [lineP, h8, h7, h14, h15]
theorem whole_end {ws : List Str} {j : Nat} {e : Ex} : whole (some (e, ws.drop j)) = if ws.length ≤ j then some e else none := by
  by_cases h : ws.length ≤ j
  · rw [List.drop_eq_nil_of_le h, if_pos h]; rfl
  · rw [if_neg h]
    have : (ws.drop j).length ≠ 0 := by rw [List.length_drop]; omega
    cases hd : ws.drop j with
    | nil => rw [hd] at this; exact absurd rfl this
    | cons a r => rfl
theorem here_len {L : List Str} {d i : Nat} (sz : SzL L) : (here L d i).length ≤ 900000 := by
  unfold here
  split
  · decide
  · next l hl =>
    have := sz.2 l (List.mem_of_getElem? hl)
    have := lsp_len l
    split
    · omega
    · decide
theorem rd_Reader_statement {K : PySem.W.Frag} {c : CA} {n : Nat}  {vs : List V} {H : Hp} {Q : VK} {E : XK} (h : sp_Reader_statement c (n + 1) vs H Q E) : t_Reader_statement K c n E { nx := fun _ H' => Q .non H', rt := Q } (start ["_", "_", "_", "_", "_", "_", "_", "_"] vs) H := by
  obtain ⟨o, ll, L, i, d, rfl, hdn, hd5, R, sz, hn, k⟩ := h
  show t_Reader_statement K c n E _ [some (.ref o), some (.int (d : Nat)), none, none, none, none, none, none] H
  obtain ⟨dx, ho⟩ := id R.1
  unfold t_Reader_statement; refine st_seq ?_
  push_cast [xSplit, ho, rd_here]
  have hl := here_len (d := d) (i := i) sz
  refine ⟨o, ll, L, i, d, rfl, R, sz, by omega, ⟨_, rfl, rfl, Nat.le_trans (Nat.add_le_add_right hl 2) (by decide), fun wl H1 A1 wo dxw H2 A2 => ?_⟩⟩
  have ehl : lineAt L d i = lineP (Txt.split (here L d i) " ") := rfl
  have zs := split_szs hl
  generalize Txt.split (here L d i) " " = ws at A1 ehl zs
  refine ⟨wo, dxw, wl, rfl, A2.at_, fun dxw' H3 hwo3 f3 => ⟨rfl, ?_⟩⟩
  have nwo : H wo = none := A1.fr (S := []) |>.free A2.new (by simp)
  have nwl : H wl = none := A1.new
  have now : o ∉ [wo] := fun z => by
    have z' : o = wo := by simpa using z
    rw [← z', ho] at nwo
    cases nwo
  have llw : ll ∉ [wo] := fun z => by
    have z' : ll = wo := by simpa using z
    have := R.2
    rw [z', nwo] at this
    cases this
  have W3 : WdAt c H3 wo wl ws 0 := ⟨⟨_, hwo3⟩, f3.keep _ _ (A2.k A1.at_) (fun z => by
    have z' : wl = wo := by simpa using z
    exact ne_of_none A1.at_ A2.new z')⟩
  have R3 : RdAt c H3 o ll L i := ((R.keep (A1.fr (S := [])) (by simp) (by simp)).keep (A2.fr (S := [])) (by simp) (by simp)).keep f3 now llw
  have F3 : Fr [wo] H H3 := (A1.fr.al A2).trans f3
  obtain ⟨dx3, ho3⟩ := id R3.1
  unfold t_Reader_statement_1; refine st_seq ?_
  push_cast [ho3, rd_at]
  refine ⟨Nat.le_of_ble_eq_true rfl, fun H4 M4 => ?_⟩
  rw [rd_put] at M4
  have llo : ll ≠ o := R.ne
  have R4 : RdAt c H4 o ll L (i + 1) := ⟨⟨_, M4.at_⟩, M4.k R3.2 llo⟩
  have woo : wo ≠ o := fun z => now (by simp [z])
  have wlo : wl ≠ o := fun z => by rw [z, ho] at nwl; cases nwl
  have W4 : WdAt c H4 wo wl ws 0 := ⟨⟨_, M4.k hwo3 woo⟩, M4.k W3.2 wlo⟩
  have F4 : Fr [wo, o] H H4 := (F3.mono (by simp)).mu M4 (by simp)
  have fin : ∀ {G : Hp}, Fr [wo, o] H G → Fr [o] H G := fun f => f.drop nwo
  have keepR : ∀ {G G' : Hp} {j : Nat}, RdAt c G o ll L j → Fr [wo] G G' → RdAt c G' o ll L j := fun r f => r.keep f now llw
  obtain ⟨dx4, hwo4⟩ := id W4.1
  unfold t_Reader_statement_2; refine st_seq ?_
  push_cast [xMethE, hwo4, wd_take]
  refine ⟨wo, wl, ws, 0, rfl, W4, fun h G g => hn (.bad ?_) G (fin (F4.trans (g.mono (by simp)))), fun w H5 hw W5 f5 => ?_⟩
  · have : ws = [] := by
      cases ws with
      | nil => rfl
      | cons a r => cases h
    rw [ehl, this]
    rfl
  obtain ⟨r, rfl⟩ : ∃ r, ws = w :: r := by
    cases ws with
    | nil => cases hw
    | cons a r => cases hw; exact ⟨r, rfl⟩
  have F5 : Fr [wo, o] H H5 := F4.trans (f5.mono (by simp))
  have R5 := keepR R4 f5
  obtain ⟨dx5, hwo5⟩ := id W5.1
  unfold t_Reader_statement_3; refine st_seq ?_
  by_cases h8 : w = wd 8
  · subst h8
    push_cast
    refine st_seq ?_
    push_cast [xMethE, hwo5, wd_need]
    refine ⟨wo, wl, _, 1, rfl, W5, zs, fun h G g => hn (.bad ?_) G (fin (F5.trans (g.mono (by simp)))), fun x H6 hx nx W6 f6 => ?_⟩
    · rw [ehl]
      cases r with
      | nil => exact lineP_set0
      | cons x r' => rw [lineP_set, h x rfl]; rfl
    obtain ⟨r', rfl⟩ : ∃ r', r = x :: r' := by
      cases r with
      | nil => cases hx
      | cons a r' => cases hx; exact ⟨r', rfl⟩
    rw [lineP_set, if_pos nx] at ehl
    have F6 : Fr [wo, o] H H6 := F5.trans (f6.mono (by simp))
    have R6 := keepR R5 f6
    obtain ⟨dx6, hwo6⟩ := id W6.1
    refine st_seq ?_
    push_cast [xMethE, hwo6, wd_part]
    refine ⟨wo, wl, _, 2, 5, 1, rfl, rfl, by decide, W6, zs, fun h G g => hn (.bad ?_) G (fin (F6.trans (g.mono (by simp)))), fun e ve j H7 hp j1 j2 te W7 f7 => ?_⟩
    · rw [ehl]
      have h' : pp 5 r' = none := h
      rw [h']
      rfl
    have hp' : pp 5 r' = some (e, (wd 8 :: x :: r').drop j) := hp
    rw [hp', whole_end] at ehl
    have F7 : Fr [wo, o] H H7 := F6.trans (f7.mono (by simp))
    have R7 := keepR R6 f7
    obtain ⟨dx7, hwo7⟩ := id W7.1
    refine st_seq ?_
    push_cast [xMethE, hwo7, wd_ended]
    refine ⟨wo, wl, _, j, rfl, W7, fun h G g => hn (.bad (by rw [ehl, if_neg (by omega)]; rfl)) G (fin (F7.trans (g.mono (by simp)))), fun h => ?_⟩
    rw [if_pos h] at ehl
    refine ⟨(by simp only [List.length_cons, List.length_nil]; decide), fun q H8 A8 => ?_⟩
    refine k (.set x e) (i + 1) _ H8 (.set ehl) (by omega) ?_ (R7.keep (A8.fr (S := [])) (by simp) (by simp)) (fin (F7.al A8))
    exact .tup A8.at_ (.cons (.str _) (.cons (.str _) (.cons (te.tups A8.tu) .nil)))
  push_cast [h8]
  unfold t_Reader_statement_4; refine st_seq ?_
  push_cast
  refine ⟨(by simp only [List.length_cons, List.length_nil]; decide), fun q6 H6 A6 => ?_⟩
  push_cast [A6.at_]
  have F6 : Fr [wo, o] H H6 := F5.al A6
  have R6 : RdAt c H6 o ll L (i + 1) := R5.keep (A6.fr (S := [])) (by simp) (by simp)
  have W6 : WdAt c H6 wo wl (w :: r) 1 := ⟨⟨_, A6.k hwo5⟩, A6.k W5.2⟩
  by_cases h3 : w = wd 7 ∨ w = wd 14 ∨ w = wd 15
  · have inn : (decide (wd 7 = w) || (decide (wd 14 = w) || decide (wd 15 = w))) = true := by
      rcases h3 with h | h | h <;> simp [h]
    rw [inn, if_neg (by simp)]
    obtain ⟨dx6, hwo6⟩ := id W6.1
    unfold t_Reader_statement_5; refine st_seq ?_
    push_cast [xMethE, hwo6, wd_part]
    have lnone : pp 5 r = none → lineAt L d i = none := fun h => by
      rw [ehl]
      rcases h3 with rfl | rfl | rfl
      · rw [lineP_say, h]; rfl
      · rw [lineP_if, h]; rfl
      · rw [lineP_whl, h]; rfl
    refine ⟨wo, wl, _, 1, 5, 1, rfl, rfl, by decide, W6, zs, fun h G g => hn (.bad (lnone h)) G (fin (F6.trans (g.mono (by simp)))), fun e ve j H7 hp j1 j2 te W7 f7 => ?_⟩
    have hp' : pp 5 r = some (e, (w :: r).drop j) := hp
    have F7 : Fr [wo, o] H H7 := F6.trans (f7.mono (by simp))
    have R7 := keepR R6 f7
    obtain ⟨dx7, hwo7⟩ := id W7.1
    unfold t_Reader_statement_6; refine st_seq ?_
    push_cast [xMethE, hwo7, wd_ended]
    have wh : whole (pp 5 r) = if (w :: r).length ≤ j then some e else none := by rw [hp', whole_end]
    refine ⟨wo, wl, _, j, rfl, W7, fun h G g => hn (.bad ?_) G (fin (F7.trans (g.mono (by simp)))), fun h => ?_⟩
    · rw [if_neg (by omega)] at wh
      rw [ehl]
      rcases h3 with rfl | rfl | rfl
      · rw [lineP_say, wh]; rfl
      · rw [lineP_if, wh]; rfl
      · rw [lineP_whl, wh]; rfl
    rw [if_pos h] at wh
    unfold t_Reader_statement_7; refine st_seq ?_
    by_cases h7 : w = wd 7
    · subst h7
      rw [lineP_say, wh] at ehl
      push_cast
      refine ⟨(by simp only [List.length_cons, List.length_nil]; decide), fun q H8 A8 => ?_⟩
      refine k (.say e) (i + 1) _ H8 (.say ehl) (by omega) ?_ (R7.keep (A8.fr (S := [])) (by simp) (by simp)) (fin (F7.al A8))
      exact .tup A8.at_ (.cons (.str _) (.cons (te.tups A8.tu) .nil))
    push_cast [h7]
    have ed : ((d : Nat) : Int) + 1 = ((d + 1 : Nat) : Int) := by omega
    obtain ⟨dxo7, ho7⟩ := id R7.1
    unfold t_Reader_statement_8; refine st_seq ?_
    push_cast [xMethE, ho7, rd_block]
    have bn : BlkR L (d + 1) (i + 1) none → StR L d i none := fun hbn => by
      rcases h3 with rfl | rfl | rfl
      · exact absurd rfl h7
      · have e1 : lineAt L d i = some (.ifl e) := by rw [ehl, lineP_if, wh]; rfl
        exact .ifN e1 hbn
      · have e1 : lineAt L d i = some (.whl e) := by rw [ehl, lineP_whl, wh]; rfl
        exact .whlN e1 hbn
    refine ⟨o, ll, L, i + 1, d + 1, by rw [ed], by omega, by omega, R7, sz, fun h G g => hn (bn h) G (fin (F7.trans (g.mono (by simp)))), fun p j8 v8 H8 hb ij t8 R8 f8 => ?_⟩
    have F8 : Fr [wo, o] H H8 := F7.trans (f8.mono (by simp))
    have te8 := te.tups f8.tu
    unfold t_Reader_statement_9; refine st_seq ?_
    by_cases h15 : w = wd 15
    · subst h15
      rw [lineP_whl, wh] at ehl
      push_cast
      refine ⟨(by simp only [List.length_cons, List.length_nil]; decide), fun q H9 A9 => ?_⟩
      refine k (.whl e p) j8 _ H9 (.whl ehl hb) (by omega) ?_ (R8.keep (A9.fr (S := [])) (by simp) (by simp)) (fin (F8.al A9))
      have z : Tp H9 (.tuple [.str (wd 15), e.d, rowD p]) (.ref q) := .tup A9.at_ (.cons (.str _) (.cons (te8.tups A9.tu) (.cons (t8.tups A9.tu) .nil)))
      simpa only [Sm.d, rowD] using z
    have h14 : w = wd 14 := by
      rcases h3 with h | h | h
      · exact absurd h h7
      · exact h
      · exact absurd h h15
    subst h14
    rw [lineP_if, wh] at ehl
    push_cast
    unfold t_Reader_statement_10; refine st_seq ?_
    push_cast
    refine ⟨(by simp only [List.length_cons, List.length_nil]; decide), fun q1 H9 A9 => ⟨(by simp only [List.length_cons, List.length_nil]; decide), fun q2 H10 A10 => ?_⟩⟩
    have R10 : RdAt c H10 o ll L j8 := R8.keep ((A9.fr (S := [])).al A10) (by simp) (by simp)
    have F10 : Fr [wo, o] H H10 := (F8.al A9).al A10
    have te10 := (te8.tups A9.tu).tups A10.tu
    have t10 := (t8.tups A9.tu).tups A10.tu
    obtain ⟨dx10, ho10⟩ := id R10.1
    unfold t_Reader_statement_11; refine st_seq ?_
    push_cast [ho10, rd_here]
    refine ⟨o, ll, L, j8, d, rfl, R10, sz, by omega, rfl, ?_⟩
    by_cases hel : here L d j8 = wd 29
    · rw [if_pos (by rw [hel])]
      refine st_seq ?_
      push_cast [ho10, rd_at]
      refine ⟨Nat.le_of_ble_eq_true rfl, fun H11 M11 => ?_⟩
      rw [rd_put] at M11
      have R11 : RdAt c H11 o ll L (j8 + 1) := ⟨⟨_, M11.at_⟩, M11.k R10.2 llo⟩
      have F11 : Fr [wo, o] H H11 := F10.mu M11 (by simp)
      push_cast [xMethE, M11.at_, rd_block]
      refine ⟨o, ll, L, j8 + 1, d + 1, by rw [ed], by omega, by omega, R11, sz, fun h G g => hn (.if2N (e := e) ehl hb hel h) G (fin (F11.trans (g.mono (by simp)))), fun p2 j12 v12 H12 hb2 ij2 t12 R12 f12 => ?_⟩
      refine ⟨(by simp only [List.length_cons, List.length_nil]; decide), fun q H13 A13 => ?_⟩
      refine k (.ite e p p2) j12 _ H13 (.if2 (e := e) ehl hb hel hb2) (by omega) ?_ (R12.keep (A13.fr (S := [])) (by simp) (by simp)) (fin ((F11.trans (f12.mono (by simp))).al A13))
      have tu : Tups H10 H13 := (M11.tu.trans f12.tu).trans A13.tu
      have z : Tp H13 (.tuple [.str (wd 14), e.d, rowD p, rowD p2]) (.ref q) := .tup A13.at_ (.cons (.str _) (.cons (te10.tups tu) (.cons (t10.tups tu) (.cons (t12.tups A13.tu) .nil))))
      simpa only [Sm.d, rowD] using z
    · rw [if_neg (by simpa using hel)]
      refine ⟨(by simp only [List.length_cons, List.length_nil]; decide), fun q H11 A11 => ?_⟩
      refine k (.ite e p []) j8 _ H11 (.if1 (e := e) ehl hb hel) (by omega) ?_ (R10.keep (A11.fr (S := [])) (by simp) (by simp)) (fin (F10.al A11))
      have z : Tp H11 (.tuple [.str (wd 14), e.d, rowD p, rowD []]) (.ref q) := .tup A11.at_ (.cons (.str _) (.cons (te10.tups A11.tu) (.cons (t10.tups A11.tu) (.cons (.tup (A11.k A10.at_) (.cons (.str _) (.cons (.tup (A11.k (A10.k A9.at_)) .nil) .nil))) .nil))))
      simpa only [Sm.d, rowD] using z
  · have inn : (decide (wd 7 = w) || (decide (wd 14 = w) || decide (wd 15 = w))) = false := by
      rw [decide_eq_false fun z => h3 (.inl z.symm), decide_eq_false fun z => h3 (.inr (.inl z.symm)), decide_eq_false fun z => h3 (.inr (.inr z.symm))]
      rfl
    rw [inn, if_pos rfl]
    refine hn (.bad ?_) _ (fin F6)
    rw [ehl]
    exact lineP_no h8 (fun z => h3 (.inl z)) (fun z => h3 (.inr (.inl z))) fun z => h3 (.inr (.inr z))

/-! what is read: its bounds; it is one -/
def GB (d i : Nat) : Option (List Sm × Nat) → Prop
  | none => True
  | some (p, j) => d ≤ 5 ∧ okL 5 p ∧ i ≤ j ∧ cntL p ≤ j - i ∧ dpL p ≤ 2 * (6 - d) ∧ ∀ k, (linL k p).length ≤ j - i
def GS (d i : Nat) : Option (Sm × Nat) → Prop
  | none => True
  | some (s, j) => s.ok 5 ∧ i < j ∧ s.cnt ≤ j - i ∧ s.dp + 1 ≤ 2 * (6 - d) ∧ ∀ k, (s.lin k).length ≤ j - i
theorem lineAt_ok {L : List Str} {d i : Nat} {l : Ln} (h : lineAt L d i = some l) : l.ok := lineP_ok h
theorem lineP_no0 : lineP [("" : Str)] = none := by
  have h : ∀ i : Fin 42, ("" : Str) ≠ wd i.1 := by decide +kernel
  simp [lineP, h ⟨8, by decide⟩, h ⟨7, by decide⟩, h ⟨14, by decide⟩, h ⟨15, by decide⟩]
theorem lineAt_lt {L : List Str} {d i : Nat} {l : Ln} (h : lineAt L d i = some l) : i < L.length := by
  by_cases hi : i < L.length
  · exact hi
  · have e : here L d i = "" := by
      unfold here
      rw [List.getElem?_eq_none (by omega)]
    unfold lineAt at h
    rw [e] at h
    have e2 : Txt.split "" " " = [("" : Str)] := by decide +kernel
    rw [e2] at h
    have e3 : lineP [("" : Str)] = none := by
      exact lineP_no0
    rw [e3] at h
    cases h
theorem else_lt {L : List Str} {d i : Nat} (h : here L d i = wd 29) : i < L.length := by
  by_cases hi : i < L.length
  · exact hi
  · unfold here at h
    rw [List.getElem?_eq_none (by omega)] at h
    have h' : ("" : Str) = wd 29 := h
    exact absurd h' (by decide +kernel)
mutual
theorem BlkR.in {L : List Str} : ∀ {d i j : Nat} {p : List Sm}, BlkR L d i (some (p, j)) → i ≤ L.length → j ≤ L.length
  | _, _, _, _, .loop _ l, h => LoopR.in l h
theorem LoopR.in {L : List Str} : ∀ {d i j : Nat} {p : List Sm}, LoopR L d i (some (p, j)) → i ≤ L.length → j ≤ L.length
  | _, _, _, _, .stop _, h => h
  | _, _, _, _, .cons _ hs hl, h => LoopR.in hl (StR.in hs)
theorem StR.in {L : List Str} : ∀ {d i j : Nat} {s : Sm}, StR L d i (some (s, j)) → j ≤ L.length
  | _, _, _, _, .set h => lineAt_lt h
  | _, _, _, _, .say h => lineAt_lt h
  | _, _, _, _, .whl h hb => BlkR.in hb (lineAt_lt h)
  | _, _, _, _, .if1 h hb _ => BlkR.in hb (lineAt_lt h)
  | _, _, _, _, .if2 h hb he hq => BlkR.in hq (else_lt he)
end
mutual
theorem BlkR.good {L : List Str} : ∀ {d i : Nat} {r : Option (List Sm × Nat)}, BlkR L d i r → GB d i r
  | _, _, _, .deep _ => trivial
  | d, i, r, .loop h l => by
    have := LoopR.good h l
    exact this
theorem LoopR.good {L : List Str} : ∀ {d i : Nat} {r : Option (List Sm × Nat)}, d ≤ 5 → LoopR L d i r → GB d i r
  | d, i, _, h5, .stop _ => ⟨h5, trivial, Nat.le_refl _, by simp [cntL], by simp only [dpL]; omega, fun k => by simp [linL]⟩
  | _, _, _, _, .fail _ _ => trivial
  | _, _, _, _, .more _ _ _ => trivial
  | d, i, _, h5, .cons (j := j) (k := k) (s := s) (p := p) _ hs hl => by
    obtain ⟨s1, s2, s3, s4, s5⟩ : GS d i (some (s, j)) := StR.good h5 hs
    obtain ⟨_, l1, l2, l3, l4, l5⟩ : GB d j (some (p, k)) := LoopR.good h5 hl
    refine ⟨h5, ⟨s1, l1⟩, by omega, by simp only [cntL]; omega, by simp only [dpL]; omega, fun n => ?_⟩
    have := s5 n
    have := l5 n
    simp only [linL, List.length_append]
    omega
theorem StR.good {L : List Str} : ∀ {d i : Nat} {r : Option (Sm × Nat)}, d ≤ 5 → StR L d i r → GS d i r
  | _, _, _, _, .bad _ => trivial
  | d, i, _, h5, .set h => ⟨lineAt_ok h, by omega, by simp only [Sm.cnt]; omega, by simp only [Sm.dp]; omega, fun k => by simp only [Sm.lin, List.length_cons, List.length_nil]; omega⟩
  | d, i, _, h5, .say h => ⟨lineAt_ok h, by omega, by simp only [Sm.cnt]; omega, by simp only [Sm.dp]; omega, fun k => by simp only [Sm.lin, List.length_cons, List.length_nil]; omega⟩
  | _, _, _, _, .whlN _ _ => trivial
  | d, i, _, h5, .whl (j := j) (e := e) (p := p) h hb => by
    obtain ⟨_, l1, l2, l3, l4, l5⟩ : GB (d + 1) (i + 1) (some (p, j)) := BlkR.good hb
    refine ⟨⟨lineAt_ok h, l1⟩, by omega, by simp only [Sm.cnt]; omega, by simp only [Sm.dp]; omega, fun k => ?_⟩
    have := l5 (k + 1)
    simp only [Sm.lin, List.length_cons]
    omega
  | _, _, _, _, .ifN _ _ => trivial
  | d, i, _, h5, .if1 (j := j) (e := e) (p := p) h hb _ => by
    obtain ⟨_, l1, l2, l3, l4, l5⟩ : GB (d + 1) (i + 1) (some (p, j)) := BlkR.good hb
    refine ⟨⟨lineAt_ok h, l1, trivial⟩, by omega, by simp only [Sm.cnt, cntL]; omega, by simp only [Sm.dp, dpL]; omega, fun k => ?_⟩
    have := l5 (k + 1)
    simp only [Sm.lin, List.length_cons, List.append_nil]
    omega
  | _, _, _, _, .if2N _ _ _ _ => trivial
  | d, i, _, h5, .if2 (j := j) (k := k) (e := e) (p := p) (q := q) h hb _ hq => by
    obtain ⟨_, l1, l2, l3, l4, l5⟩ : GB (d + 1) (i + 1) (some (p, j)) := BlkR.good hb
    obtain ⟨_, m1, m2, m3, m4, m5⟩ : GB (d + 1) (j + 1) (some (q, k)) := BlkR.good hq
    refine ⟨⟨lineAt_ok h, l1, m1⟩, by omega, by simp only [Sm.cnt]; omega, by simp only [Sm.dp]; omega, fun n => ?_⟩
    have := l5 (n + 1)
    have := m5 (n + 1)
    cases q with
    | nil => simp only [Sm.lin, List.length_cons, List.append_nil]; omega
    | cons a r => simp only [Sm.lin, List.length_cons, List.length_append]; omega
end

/-- part_text from 2 -/
def t_part_text_2 (K : PySem.W.Frag) (n : Nat) : TS :=
  (tSeq (tIfS (tTest (tOp rEq (tOp rXT (tVar 0) (tC (.int 0))) (tC (.str (wd 2))))) (tRet (tOp rXT (tVar 0) (tC (.int 1)))) tNext)
    (tRet (tOp rAddS (tOp rAddS (tOp rAddS (tOp rAddS (tSgn (tOp rXT (tVar 0) (tC (.int 0)))) (tC (.str (" " : Str)))) (tCall (sp_part_text n) [] E0 (tCons (tOp rXT (tVar 0) (tC (.int 1))) tNil))) (tC (.str (" " : Str)))) (tCall (sp_part_text n) [] E0 (tCons (tOp rXT (tVar 0) (tC (.int 2))) tNil)))))

/-- part_text from 1 -/
def t_part_text_1 (K : PySem.W.Frag) (n : Nat) : TS :=
  tSeq (tIfS (tTest (tOp rEq (tOp rXT (tVar 0) (tC (.int 0))) (tC (.str (wd 1))))) (tRet (tOp rAddS (tC (.str ("'" : Str))) (tOp rXT (tVar 0) (tC (.int 1))))) tNext) (t_part_text_2 K n)

/-- part_text -/
def t_part_text (K : PySem.W.Frag) (n : Nat) : TS :=
  tSeq (tIfS (tTest (tOp rEq (tOp rXT (tVar 0) (tC (.int 0))) (tC (.str (wd 0))))) (tRet (tCB rStrI (tCons (tOp rXT (tVar 0) (tC (.int 1))) tNil))) tNext) (t_part_text_1 K n)

/-- _law_part_text from 2 -/
def t_L_part_text_2 (K : PySem.W.Frag) (n : Nat) : TS :=
  (tSeq (tAsg (tOp rGetS (tDisp (((tC (.str (wd 3))), (tC (.str ("+" : Str)))) :: (((tC (.str (wd 4))), (tC (.str ("-" : Str)))) :: (((tC (.str (wd 5))), (tC (.str ("<" : Str)))) :: (((tC (.str (wd 6))), (tC (.str ("=" : Str)))) :: []))))) (tOp rXT (tVar 0) (tC (.int 0)))) (gName 1))
    (tRet (tJoinL (tC (.str (" " : Str))) (xLst (tCons (tVar 1) (tCons (tCall (sp_L_part_text n) [] E0 (tCons (tOp rXT (tVar 0) (tC (.int 1))) tNil)) (tCons (tCall (sp_L_part_text n) [] E0 (tCons (tOp rXT (tVar 0) (tC (.int 2))) tNil)) tNil)))))))

/-- _law_part_text from 1 -/
def t_L_part_text_1 (K : PySem.W.Frag) (n : Nat) : TS :=
  tSeq (tIfS (tTest (tOp (rInT false) (tOp rXT (tVar 0) (tC (.int 0))) (xTup (tCons (tC (.str (wd 0))) (tCons (tC (.str (wd 2))) tNil))))) (tRet (tCB rStrV (tCons (tOp rXT (tVar 0) (tC (.int 1))) tNil))) tNext) (t_L_part_text_2 K n)

/-- _law_part_text -/
def t_L_part_text (K : PySem.W.Frag) (n : Nat) : TS :=
  tSeq (tIfS (tTest (tOp rEq (tOp rXT (tVar 0) (tC (.int 0))) (tC (.str (wd 1))))) (tRet (tOp rAddS (tC (.str ("'" : Str))) (tOp rXT (tVar 0) (tC (.int 1))))) tNext) (t_L_part_text_1 K n)

theorem s1 : (" " : Str).length = 1 := rfl
theorem q1 : ("'" : Str).length = 1 := rfl
theorem szS {n : Nat} (h : n ≤ 100000) : n ≤ sizeLine := Nat.le_trans h (by decide)
theorem rd_part_text {K : PySem.W.Frag} {n : Nat} {vs : List V} {H : Hp} {Q : VK} {E : XK} (h : sp_part_text (n + 1) vs H Q E) : t_part_text K n { nx := fun _ H' => Q .non H', rt := Q } (start ["_"] vs) H := by
  obtain ⟨v, e, rfl, hv, hd, ok, hd8, k⟩ := h
  show t_part_text K n _ [some v] H
  unfold t_part_text; refine st_seq ?_
  have hv0 := hv
  cases e with
  | num i =>
    simp only [Ex.d, tp_tup, tpl_cons, tpl_nil, tp_str, tp_int] at hv
    obtain ⟨a, xs, rfl, ha, _, r1, rfl, rfl, _, r2, rfl, rfl, rfl⟩ := hv
    obtain ⟨h0, h1⟩ := id ok
    push_cast [ha, rStrI]
    exact ⟨h0, by omega, k _ (.refl _ _)⟩
  | text i =>
    simp only [Ex.d, tp_tup, tpl_cons, tpl_nil, tp_str, tp_int] at hv
    obtain ⟨a, xs, rfl, ha, _, r1, rfl, rfl, _, r2, rfl, rfl, rfl⟩ := hv
    have hz : i.length ≤ 12 := by simpa [Str.length] using ok.1
    push_cast [ha]
    unfold t_part_text_1; refine st_seq ?_
    push_cast [ha]
    exact ⟨szS (by rw [q1]; omega), k _ (.refl _ _)⟩
  | name i =>
    simp only [Ex.d, tp_tup, tpl_cons, tpl_nil, tp_str, tp_int] at hv
    obtain ⟨a, xs, rfl, ha, _, r1, rfl, rfl, _, r2, rfl, rfl, rfl⟩ := hv
    push_cast [ha]
    unfold t_part_text_1; refine st_seq ?_
    push_cast [ha]
    unfold t_part_text_2; refine st_seq ?_
    push_cast [ha]
    exact k _ (.refl _ _)
  | op s e1 e2 =>
    simp only [Ex.d, tp_tup, tpl_cons, tpl_nil, tp_str, tp_int] at hv
    obtain ⟨a, xs, rfl, ha, _, r1, rfl, rfl, v1, r2, rfl, t1, v2, r3, rfl, t2, rfl⟩ := hv
    simp only [Ex.dep] at hd hd8
    have m1 := Nat.le_max_left e1.dep e2.dep
    have m2 := Nat.le_max_right e1.dep e2.dep
    have l1 := Ex.txt_max ok.1 (by omega)
    have l2 := Ex.txt_max ok.2 (by omega)
    have n0 := of_decide_eq_false (sg_ne' s (i := 0) (by decide))
    have n1 := of_decide_eq_false (sg_ne' s (i := 1) (by decide))
    have n2 := of_decide_eq_false (sg_ne' s (i := 2) (by decide))
    push_cast [ha, n0]
    unfold t_part_text_1; refine st_seq ?_
    push_cast [ha, n1]
    unfold t_part_text_2; refine st_seq ?_
    push_cast [ha, n2, tSgn]
    refine ⟨s, rfl, szS (by rw [s.mark_len, s1]; omega), ?_⟩
    refine ⟨v1, e1, rfl, t1, by omega, ok.1, by omega, fun H1 f1 => ?_⟩
    push_cast [f1.tu _ _ ha]
    simp only [sl, s.mark_len, s1]
    refine ⟨szS (by omega), szS (by omega), ?_⟩
    refine ⟨v2, e2, rfl, t2.tups f1.tu, by omega, ok.2, by omega, fun H2 f2 => ?_⟩
    simp only [sl, s.mark_len, s1]
    exact ⟨_, rfl, szS (by omega), k _ (f1.trans f2)⟩
theorem join3 (m a b : Str) : Txt.join " " [m, a, b] = m ++ " " ++ a ++ " " ++ b := rfl
theorem rd_L_part_text {K : PySem.W.Frag} {n : Nat} {vs : List V} {H : Hp} {Q : VK} {E : XK} (h : sp_L_part_text (n + 1) vs H Q E) : t_L_part_text K n { nx := fun _ H' => Q .non H', rt := Q } (start ["_", "_"] vs) H := by
  obtain ⟨v, e, rfl, hv, hd, ok, hd8, k⟩ := h
  show t_L_part_text K n _ [some v, none] H
  unfold t_L_part_text; refine st_seq ?_
  have hv0 := hv
  cases e with
  | num i =>
    simp only [Ex.d, tp_tup, tpl_cons, tpl_nil, tp_str, tp_int] at hv
    obtain ⟨a, xs, rfl, ha, _, r1, rfl, rfl, _, r2, rfl, rfl, rfl⟩ := hv
    obtain ⟨h0, h1⟩ := id ok
    push_cast [ha]
    unfold t_L_part_text_1; refine st_seq ?_
    push_cast [ha]
    refine ⟨(by simp only [List.length_cons, List.length_nil]; decide), fun p H1 A1 => ?_⟩
    push_cast [A1.at_, A1.k ha, rStrV]
    exact ⟨h0, by omega, k _ A1.fr⟩
  | text i =>
    simp only [Ex.d, tp_tup, tpl_cons, tpl_nil, tp_str, tp_int] at hv
    obtain ⟨a, xs, rfl, ha, _, r1, rfl, rfl, _, r2, rfl, rfl, rfl⟩ := hv
    have hz : i.length ≤ 12 := by simpa [Str.length] using ok.1
    push_cast [ha]
    exact ⟨szS (by rw [q1]; omega), k _ (.refl _ _)⟩
  | name i =>
    simp only [Ex.d, tp_tup, tpl_cons, tpl_nil, tp_str, tp_int] at hv
    obtain ⟨a, xs, rfl, ha, _, r1, rfl, rfl, _, r2, rfl, rfl, rfl⟩ := hv
    push_cast [ha]
    unfold t_L_part_text_1; refine st_seq ?_
    push_cast [ha]
    refine ⟨(by simp only [List.length_cons, List.length_nil]; decide), fun p H1 A1 => ?_⟩
    push_cast [A1.at_, A1.k ha, rStrV]
    exact k _ A1.fr
  | op s e1 e2 =>
    simp only [Ex.d, tp_tup, tpl_cons, tpl_nil, tp_str, tp_int] at hv
    obtain ⟨a, xs, rfl, ha, _, r1, rfl, rfl, v1, r2, rfl, t1, v2, r3, rfl, t2, rfl⟩ := hv
    simp only [Ex.dep] at hd hd8
    have m1 := Nat.le_max_left e1.dep e2.dep
    have m2 := Nat.le_max_right e1.dep e2.dep
    have l1 := Ex.txt_max ok.1 (by omega)
    have l2 := Ex.txt_max ok.2 (by omega)
    have n0 := of_decide_eq_false (sg_ne s (i := 0) (by decide))
    have n1 := of_decide_eq_false (sg_ne' s (i := 1) (by decide))
    have n2 := of_decide_eq_false (sg_ne s (i := 2) (by decide))
    have n0' := sg_ne s (i := 0) (by decide)
    have n2' := sg_ne s (i := 2) (by decide)
    push_cast [ha, n1]
    unfold t_L_part_text_1; refine st_seq ?_
    push_cast [ha]
    refine ⟨(by simp only [List.length_cons, List.length_nil]; decide), fun p H1 A1 => ?_⟩
    push_cast [A1.at_, n0', n2']
    replace ha := A1.k ha
    unfold t_L_part_text_2; refine st_seq ?_
    push_cast [tDisp, tPairs]
    intro d hd'
    have A2 := Al.of (o := HO.dK []) hd'
    have M := Mu.of (o := HO.dK (mergeK [] [(.inr (wd 3), .str "+"), (.inr (wd 4), .str "-"), (.inr (wd 5), .str "<"), (.inr (wd 6), .str "=")])) A2.at_ fun _ z => by cases z
    have ha3 := M.tu _ _ (A2.k ha)
    have F3 : Fr [] H _ := (A1.fr.al A2).muN M (A1.fr (S := []) |>.free hd' (by simp))
    refine ⟨[(.inr (wd 3), .str "+"), (.inr (wd 4), .str "-"), (.inr (wd 5), .str "<"), (.inr (wd 6), .str "=")], rfl, by decide, _, ha3, _, rfl, _, _, rfl, rfl, .str s.mark, by cases s <;> rfl, _, ha3, _, rfl, ?_⟩
    refine ⟨v1, e1, rfl, (t1.tups F3.tu), by omega, ok.1, by omega, fun H4 f4 => ?_⟩
    refine ⟨_, f4.tu _ _ ha3, _, rfl, v2, e2, rfl, (t2.tups F3.tu).tups f4.tu, by omega, ok.2, by omega, fun H5 f5 => ?_⟩
    refine ⟨(by simp only [List.length_cons, List.length_nil]; decide), fun q H6 A6 => ⟨[s.mark, e1.txt, e2.txt], A6.at_, ?_, k _ (((F3.trans f4).trans f5).al A6)⟩⟩
    simp only [List.map_cons, List.map_nil, List.sum_cons, List.sum_nil, List.length_cons, List.length_nil, s.mark_len, s1]
    omega

/-- lines_of from 6 -/
def t_lines_of_6 (K : PySem.W.Frag) (n : Nat) : TS :=
  (tSeq (tIfS (tAnd (tTest (tOp rEq (tVar 2) (tC (.str (wd 14))))) (tTest (tOp (rNeD K) (tOp rXT (tVar 0) (tC (.int 3))) (xTup (tCons (tC (.str (wd 13))) (tCons (xTup tNil) tNil)))))) (tAsg (tOp rCt (tOp rCt (tVar 3) (xLst (tCons (tOp rAddS (tVar 1) (tC (.str (wd 29)))) tNil))) (tCall (sp_lines_of n) [] E0 (tCons (tOp rXT (tVar 0) (tC (.int 3))) (tCons (tVar 5) tNil)))) (gName 3)) tNext)
    (tRet (tVar 3)))

/-- lines_of from 5 -/
def t_lines_of_5 (K : PySem.W.Frag) (n : Nat) : TS :=
  tSeq (tAsg (tOp rCt (xLst (tCons (tOp rAddS (tOp rAddS (tOp rAddS (tVar 1) (tVar 2)) (tC (.str (" " : Str)))) (tCall (sp_part_text 9) [] E0 (tCons (tOp rXT (tVar 0) (tC (.int 1))) tNil))) tNil)) (tCall (sp_lines_of n) [] E0 (tCons (tOp rXT (tVar 0) (tC (.int 2))) (tCons (tVar 5) tNil)))) (gName 3)) (t_lines_of_6 K n)

/-- lines_of from 4 -/
def t_lines_of_4 (K : PySem.W.Frag) (n : Nat) : TS :=
  tSeq (tAsg (tOp rAddS (tVar 1) (tC (.str ("  " : Str)))) (gName 5)) (t_lines_of_5 K n)

/-- lines_of from 3 -/
def t_lines_of_3 (K : PySem.W.Frag) (n : Nat) : TS :=
  tSeq (tIfS (tTest (tOp rEq (tVar 2) (tC (.str (wd 8))))) (tRet (xLst (tCons (tOp rAddS (tOp rAddS (tOp rAddS (tOp rAddS (tVar 1) (tC (.str ("set " : Str)))) (tOp rXT (tVar 0) (tC (.int 1)))) (tC (.str (" " : Str)))) (tCall (sp_part_text 9) [] E0 (tCons (tOp rXT (tVar 0) (tC (.int 2))) tNil))) tNil))) tNext) (t_lines_of_4 K n)

/-- lines_of from 2 -/
def t_lines_of_2 (K : PySem.W.Frag) (n : Nat) : TS :=
  tSeq (tIfS (tTest (tOp rEq (tVar 2) (tC (.str (wd 7))))) (tRet (xLst (tCons (tOp rAddS (tOp rAddS (tVar 1) (tC (.str ("say " : Str)))) (tCall (sp_part_text 9) [] E0 (tCons (tOp rXT (tVar 0) (tC (.int 1))) tNil))) tNil))) tNext) (t_lines_of_3 K n)

/-- lines_of from 1 -/
def t_lines_of_1 (K : PySem.W.Frag) (n : Nat) : TS :=
  tSeq (tIfS (tTest (tOp rEq (tVar 2) (tC (.str (wd 13))))) (tSeq (tAsg (xLst tNil) (gName 3))
    (tSeq (tFor (iTup K (tOp rXT (tVar 0) (tC (.int 1)))) (gName 4)
    (tAsg (tOp rCt (tVar 3) (tCall (sp_lines_of n) [] E0 (tCons (tVar 4) (tCons (tVar 1) tNil)))) (gName 3)))
    (tRet (tVar 3)))) tNext) (t_lines_of_2 K n)

/-- lines_of -/
def t_lines_of (K : PySem.W.Frag) (n : Nat) : TS :=
  tSeq (tAsg (tOp rXT (tVar 0) (tC (.int 0))) (gName 2)) (t_lines_of_1 K n)

/-- _law_lines from 6 -/
def t_L_lines_6 (K : PySem.W.Frag) (n : Nat) : TS :=
  (tSeq (tIfS (tAnd (tTest (tOp rEq (tVar 3) (tC (.str (wd 14))))) (tTest (tOp (rNeD K) (tOp rXT (tOp rXT (tVar 0) (tC (.int 3))) (tC (.int 1))) (xTup tNil)))) (tSeq (tDrop (tApp (tVar 4) (tOp rAddS (tVar 2) (tC (.str (wd 29))))))
    (tDrop (xExt (tVar 4) (tCall (sp_L_lines n) [] E0 (tCons (tOp rXT (tVar 0) (tC (.int 3))) (tCons (tOp (rI0 fun i j => .int (i + j)) (tVar 1) (tC (.int 1))) tNil)))))) tNext)
    (tRet (tVar 4)))

/-- _law_lines from 5 -/
def t_L_lines_5 (K : PySem.W.Frag) (n : Nat) : TS :=
  tSeq (tIfS (tTest (tOp (rInT false) (tVar 3) (xTup (tCons (tC (.str (wd 14))) (tCons (tC (.str (wd 15))) tNil))))) (tDrop (xExt (tVar 4) (tCall (sp_L_lines n) [] E0 (tCons (tOp rXT (tVar 0) (tC (.int 2))) (tCons (tOp (rI0 fun i j => .int (i + j)) (tVar 1) (tC (.int 1))) tNil))))) tNext) (t_L_lines_6 K n)

/-- _law_lines from 4 -/
def t_L_lines_4 (K : PySem.W.Frag) (n : Nat) : TS :=
  tSeq (tAsg (xLst (tCons (tOp rAddS (tOp rAddS (tOp rAddS (tVar 2) (tVar 3)) (tC (.str (" " : Str)))) (tCall (sp_L_part_text 9) [] E0 (tCons (tOp rXT (tVar 0) (tC (.int 1))) tNil))) tNil)) (gName 4)) (t_L_lines_5 K n)

/-- _law_lines from 3 -/
def t_L_lines_3 (K : PySem.W.Frag) (n : Nat) : TS :=
  tSeq (tIfS (tTest (tOp rEq (tVar 3) (tC (.str (wd 8))))) (tRet (xLst (tCons (tOp rAddS (tOp rAddS (tOp rAddS (tOp rAddS (tVar 2) (tC (.str ("set " : Str)))) (tOp rXT (tVar 0) (tC (.int 1)))) (tC (.str (" " : Str)))) (tCall (sp_L_part_text 9) [] E0 (tCons (tOp rXT (tVar 0) (tC (.int 2))) tNil))) tNil))) tNext) (t_L_lines_4 K n)

/-- _law_lines from 2 -/
def t_L_lines_2 (K : PySem.W.Frag) (n : Nat) : TS :=
  tSeq (tIfS (tTest (tOp rEq (tVar 3) (tC (.str (wd 13))))) (tSeq (tAsg (xLst tNil) (gName 4))
    (tSeq (tFor (iTup K (tOp rXT (tVar 0) (tC (.int 1)))) (gName 5)
    (tDrop (xExt (tVar 4) (tCall (sp_L_lines n) [] E0 (tCons (tVar 5) (tCons (tVar 1) tNil))))))
    (tRet (tVar 4)))) tNext) (t_L_lines_3 K n)

/-- _law_lines from 1 -/
def t_L_lines_1 (K : PySem.W.Frag) (n : Nat) : TS :=
  tSeq (tAsg (tOp rXT (tVar 0) (tC (.int 0))) (gName 3)) (t_L_lines_2 K n)

/-- _law_lines -/
def t_L_lines (K : PySem.W.Frag) (n : Nat) : TS :=
  tSeq (tAsg (tOp rMulS (tC (.str ("  " : Str))) (tVar 1)) (gName 2)) (t_L_lines_1 K n)

/-- program_text -/
def t_program_text (K : PySem.W.Frag) : TS :=
  (tRet (tJoinL (tC (.str ("\n" : Str))) (tCall (sp_lines_of 26) [] E0 (tCons (tVar 0) (tCons (tC (.str ("" : Str))) tNil)))))

theorem l_say : ("say " : Str).length = 4 := rfl
theorem l_set : ("set " : Str).length = 4 := rfl
theorem l_two : ("  " : Str).length = 2 := rfl
theorem l_if : (wd 14).length = 2 := rfl
theorem l_wh : (wd 15).length = 5 := rfl
theorem l_el : (wd 29).length = 4 := rfl
theorem l_sy : (wd 7).length = 3 := rfl
theorem w_if (a t : Str) : a ++ wd 14 ++ (" " : Str) ++ t = a ++ ("if " : Str) ++ t := by rw [sa a (wd 14)]; rfl
theorem w_wh (a t : Str) : a ++ wd 15 ++ (" " : Str) ++ t = a ++ ("while " : Str) ++ t := by rw [sa a (wd 15)]; rfl
theorem w_sy (a t : Str) : a ++ wd 7 ++ (" " : Str) ++ t = a ++ ("say " : Str) ++ t := by rw [sa a (wd 7)]; rfl
theorem svs_len (l : List Str) : (svs l).length = l.length := by simp [svs]
theorem svs_app (l m : List Str) : svs (l ++ m) = svs l ++ svs m := by simp [svs]
theorem take_cnt' {l : List Sm} {i : Nat} {s : Sm} (h : l[i]? = some s) : cntL (l.take i) + s.cnt ≤ cntL l := by
  have h1 := cntL_take l (i + 1)
  rw [take_snoc h, cntL_snoc] at h1
  exact h1
theorem Nm8.len {x : Str} (h : Nm8 x) : x.length = 1 := by
  obtain ⟨i, _, rfl⟩ := h
  rfl
theorem rd_lines_of {K : PySem.W.Frag} {n : Nat} {vs : List V} {H : Hp} {Q : VK} {E : XK} (h : sp_lines_of (n + 1) vs H Q E) : t_lines_of K n { nx := fun _ H' => Q .non H', rt := Q } (start ["_", "_", "_", "_", "_", "_"] vs) H := by
  obtain ⟨v, k', o, rfl, hv, hd, ok, hc, hk, k⟩ := h
  show t_lines_of K n _ [some v, some (.str (spc k')), none, none, none, none] H
  have lsp := spc_len k'
  have dpos := o.dp_pos
  unfold t_lines_of; refine st_seq ?_
  cases o with
  | row l =>
    obtain ⟨a, a2, ys, rfl, ha, ha2, hy⟩ := tp_row hv
    simp only [Un.dp, Un.cnt] at hd hk hc
    push_cast [ha]
    unfold t_lines_of_1; refine st_seq ?_
    push_cast
    refine st_seq ?_
    push_cast
    refine ⟨(by simp only [List.length_cons, List.length_nil]; decide), fun p H1 A1 => ?_⟩
    refine st_seq ?_
    refine forT (a := a2) (xs := ys) (fun R h => by push_cast [A1.k ha]; exact h) (A1.k ha2) (fun i σ G => ∃ q v4, σ = [some (.ref a), some (.str (spc k')), some (.str (wd 13)), some (.ref q), v4, none] ∧ G q = some (.lst (svs (linL k' (l.take i)))) ∧ Fr [] H G) ⟨p, none, rfl, A1.at_, A1.fr⟩ ?_ ?_ ?_
    · rintro i σ G ⟨q, v4, rfl, hq, f⟩
      exact f.tu _ _ ha2
    · rintro i x σ G hx ⟨q, v4, rfl, hq, f⟩
      obtain ⟨d, hd1, hd2⟩ := hy.get' hx
      obtain ⟨s, hs, rfl⟩ := map_get hd1
      have ms := mem_of_get hs
      have d1 := dpL_mem ms
      have c1 := take_cnt' hs
      have q1' := linL_len k' (l.take i)
      have q2' := s.lin_len k'
      show tAsg _ _ _ [some (.ref a), some (.str (spc k')), some (.str (wd 13)), some (.ref q), some x, none] G
      push_cast
      refine ⟨x, k', .st s, rfl, hd2.tups f.tu, by simp only [Un.dp]; omega, okL_mem ok ms, by simp only [Un.cnt]; omega, by simp only [Un.dp]; omega, fun b G1 hb f1 => ?_⟩
      push_cast [f1.keep _ _ hq (by simp), hb]
      refine ⟨?_, fun p' G2 A2 => ?_⟩
      · rw [svs_len, svs_len]
        simp only [Un.lin]
        exact big (by omega)
      · refine ⟨?_, (f.trans f1).al A2⟩
        rw [A2.at_, take_snoc hs, linL_snoc, svs_app]
        rfl
    · rintro σ G ⟨q, v4, rfl, hq, f⟩
      rw [hy.length, List.length_map, List.take_length] at hq
      push_cast
      exact k q G hq f
  | st s =>
    simp only [Un.dp, Un.cnt] at hd hk hc
    cases s with
    | say e =>
      obtain ⟨a, ve, rfl, ha, te⟩ := tp_say hv
      have le := Ex.txt_max ok.1 ok.2
      push_cast [ha]
      unfold t_lines_of_1; refine st_seq ?_
      push_cast
      unfold t_lines_of_2; refine st_seq ?_
      push_cast [ha]
      simp only [sl, lsp, l_say]
      refine ⟨szS (by omega), ve, e, rfl, te, by have := ok.2; omega, ok.1, ok.2, fun H1 f1 => ?_⟩
      refine ⟨_, rfl, szS (by omega), (by simp only [List.length_cons, List.length_nil]; decide), fun p H2 A2 => ?_⟩
      exact k p H2 A2.at_ (f1.al A2)
    | set x e =>
      obtain ⟨a, ve, rfl, ha, te⟩ := tp_set hv
      have le := Ex.txt_max ok.2.1 ok.2.2
      have lx := ok.1.len
      push_cast [ha]
      unfold t_lines_of_1; refine st_seq ?_
      push_cast
      unfold t_lines_of_2; refine st_seq ?_
      push_cast
      unfold t_lines_of_3; refine st_seq ?_
      push_cast [ha]
      simp only [sl, lsp, l_set, lx, s1]
      refine ⟨szS (by omega), szS (by omega), szS (by omega), ve, e, rfl, te, by have := ok.2.2; omega, ok.2.1, ok.2.2, fun H1 f1 => ?_⟩
      refine ⟨_, rfl, szS (by omega), (by simp only [List.length_cons, List.length_nil]; decide), fun p H2 A2 => ?_⟩
      exact k p H2 A2.at_ (f1.al A2)
    | ite e s t =>
      obtain ⟨a, ve, v1, v2, rfl, ha, te, t1, t2⟩ := tp_ite hv
      have le := Ex.txt_max ok.1.1 ok.1.2
      have m1 := Nat.le_max_left (dpL s) (dpL t)
      have m2 := Nat.le_max_right (dpL s) (dpL t)
      simp only [Sm.dp, Sm.cnt] at hd hk hc
      have q1' := linL_len (k' + 1) s
      have q2' := linL_len (k' + 1) t
      push_cast [ha]
      unfold t_lines_of_1; refine st_seq ?_
      push_cast
      unfold t_lines_of_2; refine st_seq ?_
      push_cast
      unfold t_lines_of_3; refine st_seq ?_
      push_cast
      unfold t_lines_of_4; refine st_seq ?_
      push_cast
      simp only [spc_succ, lsp, l_two]
      refine ⟨szS (by omega), ?_⟩
      unfold t_lines_of_5; refine st_seq ?_
      push_cast [ha]
      simp only [sl, lsp, l_if, s1]
      refine ⟨szS (by omega), szS (by omega), ve, e, rfl, te, by have := ok.1.2; omega, ok.1.1, ok.1.2, fun H1 f1 => ?_⟩
      refine ⟨_, rfl, szS (by omega), (by simp only [List.length_cons, List.length_nil]; decide), fun p H2 A2 => ?_⟩
      have ha2 := A2.k (f1.tu _ _ ha)
      push_cast [ha2]
      refine ⟨v1, k' + 1, .row s, rfl, (t1.tups f1.tu).tups A2.tu, by simp only [Un.dp]; omega, ok.2.1, by simp only [Un.cnt]; omega, by simp only [Un.dp]; omega, fun b H3 hb f3 => ?_⟩
      push_cast [f3.keep _ _ A2.at_ (by simp), hb]
      refine ⟨by simp only [svs_len, Un.lin, List.length_cons, List.length_nil]; exact big (by omega), fun q H4 A4 => ?_⟩
      have F4 : Fr [] H H4 := ((f1.al A2).trans f3).al A4
      have ha4 := F4.tu _ _ ha
      unfold t_lines_of_6; refine st_seq ?_
      push_cast [ha4]
      refine ⟨(by simp only [List.length_cons, List.length_nil]; decide), fun r1 H5 A5 => ⟨(by simp only [List.length_cons, List.length_nil]; decide), fun r2 H6 A6 => ?_⟩⟩
      have F6 : Fr [] H H6 := (F4.al A5).al A6
      refine ne_row (l := t) ok.2.2 (by omega) (t2.tups F6.tu) (.tup A6.at_ (.cons (.str _) (.cons (.tup (A6.k A5.at_) .nil) .nil))) ?_
      have hq6 := A6.k (A5.k A4.at_)
      cases t with
      | nil =>
        push_cast [List.isEmpty_nil]
        refine k q H6 ?_ F6
        rw [hq6]
        simp only [Un.lin, Sm.lin, w_if, svs, List.map_cons, List.append_nil, List.cons_append, List.nil_append]
      | cons t0 tr =>
        push_cast [List.isEmpty_cons]
        simp only [sl, lsp, l_el]
        refine ⟨szS (by omega), (by simp only [List.length_cons, List.length_nil]; decide), fun r3 H7 A7 => ?_⟩
        have ha7 := A7.k (F6.tu _ _ ha)
        push_cast [A7.k hq6, A7.at_]
        refine ⟨by simp only [svs_len, Un.lin, List.length_cons, List.length_nil, List.length_append]; exact big (by omega), fun r4 H8 A8 => ?_⟩
        push_cast [A8.k ha7]
        have F8 : Fr [] H H8 := (F6.al A7).al A8
        refine ⟨v2, k' + 1, .row (t0 :: tr), rfl, t2.tups F8.tu, by simp only [Un.dp]; omega, ok.2.2, by simp only [Un.cnt]; omega, by simp only [Un.dp]; omega, fun b2 H9 hb2 f9 => ?_⟩
        push_cast [f9.keep _ _ A8.at_ (by simp), hb2]
        refine ⟨by simp only [svs_len, Un.lin, List.length_cons, List.length_nil, List.length_append] at q2' ⊢; exact big (by omega), fun r5 H10 A10 => ?_⟩
        refine k r5 H10 ?_ ((F8.trans f9).al A10)
        rw [A10.at_]
        simp only [Un.lin, Sm.lin, w_if, svs, List.map_cons, List.map_append, List.append_nil, List.cons_append, List.nil_append, List.append_assoc]
        rfl
    | whl e s =>
      obtain ⟨a, ve, v1, rfl, ha, te, t1⟩ := tp_whl hv
      have le := Ex.txt_max ok.1.1 ok.1.2
      simp only [Sm.dp, Sm.cnt] at hd hk hc
      have q1' := linL_len (k' + 1) s
      push_cast [ha]
      unfold t_lines_of_1; refine st_seq ?_
      push_cast
      unfold t_lines_of_2; refine st_seq ?_
      push_cast
      unfold t_lines_of_3; refine st_seq ?_
      push_cast
      unfold t_lines_of_4; refine st_seq ?_
      push_cast
      simp only [spc_succ, lsp, l_two]
      refine ⟨szS (by omega), ?_⟩
      unfold t_lines_of_5; refine st_seq ?_
      push_cast [ha]
      simp only [sl, lsp, l_wh, s1]
      refine ⟨szS (by omega), szS (by omega), ve, e, rfl, te, by have := ok.1.2; omega, ok.1.1, ok.1.2, fun H1 f1 => ?_⟩
      refine ⟨_, rfl, szS (by omega), (by simp only [List.length_cons, List.length_nil]; decide), fun p H2 A2 => ?_⟩
      have ha2 := A2.k (f1.tu _ _ ha)
      push_cast [ha2]
      refine ⟨v1, k' + 1, .row s, rfl, (t1.tups f1.tu).tups A2.tu, by simp only [Un.dp]; omega, ok.2, by simp only [Un.cnt]; omega, by simp only [Un.dp]; omega, fun b H3 hb f3 => ?_⟩
      push_cast [f3.keep _ _ A2.at_ (by simp), hb]
      refine ⟨by simp only [svs_len, Un.lin, List.length_cons, List.length_nil]; exact big (by omega), fun q H4 A4 => ?_⟩
      have F4 : Fr [] H H4 := ((f1.al A2).trans f3).al A4
      unfold t_lines_of_6; refine st_seq ?_
      push_cast
      refine k q H4 ?_ F4
      rw [A4.at_]
      simp only [Un.lin, Sm.lin, w_wh, svs, List.map_cons, List.append_nil, List.cons_append, List.nil_append]

theorem rd_L_lines {K : PySem.W.Frag} {n : Nat} {vs : List V} {H : Hp} {Q : VK} {E : XK} (h : sp_L_lines (n + 1) vs H Q E) : t_L_lines K n { nx := fun _ H' => Q .non H', rt := Q } (start ["_", "_", "_", "_", "_", "_"] vs) H := by
  obtain ⟨v, k', o, rfl, hv, hd, ok, hc, hk, k⟩ := h
  show t_L_lines K n _ [some v, some (.int (k' : Nat)), none, none, none, none] H
  have lsp := spc_len k'
  have dpos := o.dp_pos
  have ek : ((k' : Nat) : Int) + 1 = ((k' + 1 : Nat) : Int) := by omega
  unfold t_L_lines; refine st_seq ?_
  push_cast [rMulS]
  refine ⟨k', rfl, by omega, ?_⟩
  cases o with
  | row l =>
    obtain ⟨a, a2, ys, rfl, ha, ha2, hy⟩ := tp_row hv
    simp only [Un.dp, Un.cnt] at hd hk hc
    unfold t_L_lines_1; refine st_seq ?_
    push_cast [ha]
    unfold t_L_lines_2; refine st_seq ?_
    push_cast
    refine st_seq ?_
    push_cast
    refine ⟨(by simp only [List.length_cons, List.length_nil]; decide), fun p H1 A1 => ?_⟩
    refine st_seq ?_
    refine forT (a := a2) (xs := ys) (fun R h => by push_cast [A1.k ha]; exact h) (A1.k ha2) (fun i σ G => ∃ v5, σ = [some (.ref a), some (.int (k' : Nat)), some (.str (spc k')), some (.str (wd 13)), some (.ref p), v5] ∧ G p = some (.lst (svs (linL k' (l.take i)))) ∧ Fr [] H G) ⟨none, rfl, A1.at_, A1.fr⟩ ?_ ?_ ?_
    · rintro i σ G ⟨v5, rfl, hq, f⟩
      exact f.tu _ _ ha2
    · rintro i x σ G hx ⟨v5, rfl, hq, f⟩
      obtain ⟨d, hd1, hd2⟩ := hy.get' hx
      obtain ⟨s, hs, rfl⟩ := map_get hd1
      have ms := mem_of_get hs
      have d1 := dpL_mem ms
      have c1 := take_cnt' hs
      have q1' := linL_len k' (l.take i)
      have q2' := s.lin_len k'
      show tDrop _ _ [some (.ref a), some (.int (k' : Nat)), some (.str (spc k')), some (.str (wd 13)), some (.ref p), some x] G
      push_cast [xExt, hq]
      refine ⟨x, k', .st s, rfl, hd2.tups f.tu, by simp only [Un.dp]; omega, okL_mem ok ms, by simp only [Un.cnt]; omega, by simp only [Un.dp]; omega, fun b G1 hb f1 _ => ?_⟩
      push_cast [f1.keep _ _ hq (by simp), hb]
      refine ⟨?_, fun G2 M2 => ?_⟩
      · rw [svs_len, svs_len]
        simp only [Un.lin]
        exact big (by omega)
      · refine ⟨?_, (f.trans f1).muN M2 A1.new⟩
        rw [M2.at_, take_snoc hs, linL_snoc, svs_app]
        rfl
    · rintro σ G ⟨v5, rfl, hq, f⟩
      rw [hy.length, List.length_map, List.take_length] at hq
      push_cast
      exact k p G hq f A1.new
  | st s =>
    simp only [Un.dp, Un.cnt] at hd hk hc
    unfold t_L_lines_1; refine st_seq ?_
    cases s with
    | say e =>
      obtain ⟨a, ve, rfl, ha, te⟩ := tp_say hv
      have le := Ex.txt_max ok.1 ok.2
      push_cast [ha]
      unfold t_L_lines_2; refine st_seq ?_
      push_cast
      unfold t_L_lines_3; refine st_seq ?_
      push_cast
      unfold t_L_lines_4; refine st_seq ?_
      push_cast [ha]
      simp only [sl, lsp, l_sy, s1]
      refine ⟨szS (by omega), szS (by omega), ve, e, rfl, te, by have := ok.2; omega, ok.1, ok.2, fun H1 f1 => ?_⟩
      refine ⟨_, rfl, szS (by omega), (by simp only [List.length_cons, List.length_nil]; decide), fun p H2 A2 => ?_⟩
      unfold t_L_lines_5; refine st_seq ?_
      push_cast
      refine ⟨(by simp only [List.length_cons, List.length_nil]; decide), fun p3 H3 A3 => ?_⟩
      push_cast [A3.at_]
      unfold t_L_lines_6; refine st_seq ?_
      push_cast
      refine k p H3 ?_ ((f1.al A2).al A3) (f1.free A2.new (by simp))
      rw [A3.k A2.at_]
      simp only [Un.lin, Sm.lin, w_sy, svs, List.map_cons, List.map_nil]
    | set x e =>
      obtain ⟨a, ve, rfl, ha, te⟩ := tp_set hv
      have le := Ex.txt_max ok.2.1 ok.2.2
      have lx := ok.1.len
      push_cast [ha]
      unfold t_L_lines_2; refine st_seq ?_
      push_cast
      unfold t_L_lines_3; refine st_seq ?_
      push_cast [ha]
      simp only [sl, lsp, l_set, lx, s1]
      refine ⟨szS (by omega), szS (by omega), szS (by omega), ve, e, rfl, te, by have := ok.2.2; omega, ok.2.1, ok.2.2, fun H1 f1 => ?_⟩
      refine ⟨_, rfl, szS (by omega), (by simp only [List.length_cons, List.length_nil]; decide), fun p H2 A2 => ?_⟩
      exact k p H2 A2.at_ (f1.al A2) (f1.free A2.new (by simp))
    | ite e s t =>
      obtain ⟨a, ve, v1, v2, rfl, ha, te, t1, t2⟩ := tp_ite hv
      have le := Ex.txt_max ok.1.1 ok.1.2
      have m1 := Nat.le_max_left (dpL s) (dpL t)
      have m2 := Nat.le_max_right (dpL s) (dpL t)
      simp only [Sm.dp, Sm.cnt] at hd hk hc
      have q1' := linL_len (k' + 1) s
      have q2' := linL_len (k' + 1) t
      push_cast [ha]
      unfold t_L_lines_2; refine st_seq ?_
      push_cast
      unfold t_L_lines_3; refine st_seq ?_
      push_cast
      unfold t_L_lines_4; refine st_seq ?_
      push_cast [ha]
      simp only [sl, lsp, l_if, s1]
      refine ⟨szS (by omega), szS (by omega), ve, e, rfl, te, by have := ok.1.2; omega, ok.1.1, ok.1.2, fun H1 f1 => ?_⟩
      refine ⟨_, rfl, szS (by omega), (by simp only [List.length_cons, List.length_nil]; decide), fun p H2 A2 => ?_⟩
      have np : H p = none := f1.free A2.new (by simp)
      have ha2 := A2.k (f1.tu _ _ ha)
      unfold t_L_lines_5; refine st_seq ?_
      push_cast
      refine ⟨(by simp only [List.length_cons, List.length_nil]; decide), fun p3 H3 A3 => ?_⟩
      push_cast [A3.at_, xExt, A3.k A2.at_, A3.k ha2]
      have F3 : Fr [] H H3 := (f1.al A2).al A3
      refine ⟨v1, k' + 1, .row s, by rw [ek], t1.tups F3.tu, by simp only [Un.dp]; omega, ok.2.1, by simp only [Un.cnt]; omega, by simp only [Un.dp]; omega, fun b H4 hb f4 _ => ?_⟩
      have hp4 := f4.keep _ _ (A3.k A2.at_) (by simp)
      push_cast [hp4, hb]
      refine ⟨by simp only [svs_len, Un.lin, List.length_cons, List.length_nil]; exact big (by omega), fun H5 M5 => ?_⟩
      have F5 : Fr [] H H5 := (F3.trans f4).muN M5 np
      have ha5 := F5.tu _ _ ha
      have t2' := t2.tups F5.tu
      obtain ⟨b1, b2, zs, rfl, hb1, hb2, hz⟩ := tp_row t2'
      unfold t_L_lines_6; refine st_seq ?_
      push_cast [ha5, hb1]
      refine ⟨(by simp only [List.length_cons, List.length_nil]; decide), fun r1 H6 A6 => ?_⟩
      have F6 : Fr [] H H6 := F5.al A6
      have t2s : Tp H5 (.tuple (dL t)) (.ref b2) := by
        have z := t2'
        unfold rowD at z
        simp only [tp_tup, tpl_cons, tpl_nil, tp_str] at z
        obtain ⟨c1, xs, e1, hc1, _, r1, rfl, rfl, w2, r2, rfl, hw, rfl⟩ := z
        cases e1
        rw [hb1] at hc1
        cases hc1
        rw [tp_tup]
        exact hw
      refine ne_seq (l := t) ok.2.2 (by omega) (t2s.tups A6.tu) (.tup A6.at_ .nil) ?_
      have hp6 := A6.k M5.at_
      cases t with
      | nil =>
        push_cast [List.isEmpty_nil]
        refine k p H6 ?_ F6 np
        rw [hp6]
        simp only [Un.lin, Sm.lin, w_if, svs, List.map_cons, List.append_nil, List.cons_append, List.nil_append]
      | cons t0 tr =>
        push_cast [List.isEmpty_cons]
        refine st_seq ?_
        push_cast
        simp only [sl, lsp, l_el]
        refine ⟨⟨_, hp6⟩, szS (by omega), _, hp6, by simp only [svs_len, Un.lin, List.length_cons, List.length_nil, List.length_append]; exact bigL (by omega), fun H7 M7 => ?_⟩
        have F7 : Fr [] H H7 := F6.muN M7 np
        push_cast [xExt, M7.at_, F7.tu _ _ ha]
        refine ⟨_, k' + 1, .row (t0 :: tr), by rw [ek], t2.tups F7.tu, by simp only [Un.dp]; omega, ok.2.2, by simp only [Un.cnt]; omega, by simp only [Un.dp]; omega, fun b3 H8 hb3 f8 _ => ?_⟩
        have hp8 := f8.keep _ _ M7.at_ (by simp)
        push_cast [hp8, hb3]
        refine ⟨by simp only [svs_len, Un.lin, List.length_cons, List.length_nil, List.length_append]; exact big (by omega), fun H9 M9 => ?_⟩
        refine k p H9 ?_ ((F7.trans f8).muN M9 np) np
        rw [M9.at_]
        simp only [Un.lin, Sm.lin, w_if, svs, List.map_cons, List.map_append, List.append_nil, List.cons_append, List.nil_append, List.append_assoc]
        rfl
    | whl e s =>
      obtain ⟨a, ve, v1, rfl, ha, te, t1⟩ := tp_whl hv
      have le := Ex.txt_max ok.1.1 ok.1.2
      simp only [Sm.dp, Sm.cnt] at hd hk hc
      have q1' := linL_len (k' + 1) s
      push_cast [ha]
      unfold t_L_lines_2; refine st_seq ?_
      push_cast
      unfold t_L_lines_3; refine st_seq ?_
      push_cast
      unfold t_L_lines_4; refine st_seq ?_
      push_cast [ha]
      simp only [sl, lsp, l_wh, s1]
      refine ⟨szS (by omega), szS (by omega), ve, e, rfl, te, by have := ok.1.2; omega, ok.1.1, ok.1.2, fun H1 f1 => ?_⟩
      refine ⟨_, rfl, szS (by omega), (by simp only [List.length_cons, List.length_nil]; decide), fun p H2 A2 => ?_⟩
      have np : H p = none := f1.free A2.new (by simp)
      have ha2 := A2.k (f1.tu _ _ ha)
      unfold t_L_lines_5; refine st_seq ?_
      push_cast
      refine ⟨(by simp only [List.length_cons, List.length_nil]; decide), fun p3 H3 A3 => ?_⟩
      push_cast [A3.at_, xExt, A3.k A2.at_, A3.k ha2]
      have F3 : Fr [] H H3 := (f1.al A2).al A3
      refine ⟨v1, k' + 1, .row s, by rw [ek], t1.tups F3.tu, by simp only [Un.dp]; omega, ok.2, by simp only [Un.cnt]; omega, by simp only [Un.dp]; omega, fun b H4 hb f4 _ => ?_⟩
      have hp4 := f4.keep _ _ (A3.k A2.at_) (by simp)
      push_cast [hp4, hb]
      refine ⟨by simp only [svs_len, Un.lin, List.length_cons, List.length_nil]; exact big (by omega), fun H5 M5 => ?_⟩
      have F5 : Fr [] H H5 := (F3.trans f4).muN M5 np
      unfold t_L_lines_6; refine st_seq ?_
      push_cast
      refine k p H5 ?_ F5 np
      rw [M5.at_]
      simp only [Un.lin, Sm.lin, w_wh, svs, List.map_cons, List.append_nil, List.cons_append, List.nil_append]
theorem rd_program_text {K : PySem.W.Frag} {vs : List V} {H : Hp} {Q : VK} {E : XK} (h : sp_program_text vs H Q E) : t_program_text K { nx := fun _ H' => Q .non H', rt := Q } (start ["_"] vs) H := by
  obtain ⟨v, p, rfl, tp, pk, k⟩ := h
  show t_program_text K _ [some v] H
  unfold t_program_text
  have hfit := join_fit pk
  obtain ⟨ok, hd, hc, hn⟩ := pk
  push_cast
  refine ⟨v, 0, .row p, rfl, tp, by simp only [Un.dp]; omega, ok, by simp only [Un.cnt]; omega, by simp only [Un.dp]; omega, fun a H1 ha f1 => ?_⟩
  exact ⟨a, rfl, _, ha, hfit, k _ f1⟩

/-- read_program from 4 -/
def t_read_program_4 (K : PySem.W.Frag) (c : CA) (E : XK) : TS :=
  (tSeq (tIfS (tTest (tOp rNe (tCall sp_program_text [] E0 (tCons (tVar 2) tNil)) (tVar 0))) (tRz c.unread (fun cls d _ H => E cls d H)) tNext)
    (tRet (tVar 2)))

/-- read_program from 3 -/
def t_read_program_3 (K : PySem.W.Frag) (c : CA) (E : XK) : TS :=
  tSeq (tAsg (xMethE c.reader ("block" : Str) (sp_Reader_block c 14) E (xMake c.reader (sp_Reader___init__ c) (tCons (tVar 1) tNil)) (tCons (tC (.int 0)) tNil)) (gName 2)) (t_read_program_4 K c E)

/-- read_program from 2 -/
def t_read_program_2 (K : PySem.W.Frag) (c : CA) (E : XK) : TS :=
  tSeq (tIfS (tTest (tOp (rI0 fun i j => .bl (decide (j < i))) (tCB rLenL (tCons (tVar 1) tNil)) (tC (.int 60)))) (tRz c.unread (fun cls d _ H => E cls d H)) tNext) (t_read_program_3 K c E)

/-- read_program from 1 -/
def t_read_program_1 (K : PySem.W.Frag) (c : CA) (E : XK) : TS :=
  tSeq (tAsg (xSplit (tVar 0) (tC (.str ("\n" : Str)))) (gName 1)) (t_read_program_2 K c E)

/-- read_program -/
def t_read_program (K : PySem.W.Frag) (c : CA) (E : XK) : TS :=
  tSeq (tIfS (tTest (tOp rEq (tVar 0) (tC (.str ("" : Str))))) (tRet (xTup (tCons (tC (.str (wd 13))) (tCons (xTup tNil) tNil)))) tNext) (t_read_program_1 K c E)

theorem split_szl {x : Str} (h : x.length ≤ 900000) : SzL (Txt.split x "\n") := ⟨by have := split_count (x := x) (y := "\n") (by decide); omega, fun w hw => by have := split_each (y := "\n") (by decide) hw; omega⟩
theorem rd_read_program {K : PySem.W.Frag} {c : CA}  {vs : List V} {H : Hp} {Q : VK} {E : XK} (h : sp_read_program c vs H Q E) : t_read_program K c E { nx := fun _ H' => Q .non H', rt := Q } (start ["_", "_", "_"] vs) H := by
  obtain ⟨t, rfl, ht, hn, k⟩ := h
  show t_read_program K c E _ [some (.str t), none, none] H
  unfold t_read_program; refine st_seq ?_
  push_cast
  by_cases h0 : t = ("" : Str)
  · subst h0
    refine iteT' rfl ⟨(by simp only [List.length_cons, List.length_nil]; decide), fun p H1 A1 => ⟨(by simp only [List.length_cons, List.length_nil]; decide), fun q H2 A2 => ?_⟩⟩
    exact k [] _ H2 .empty (.tup A2.at_ (.cons (.str _) (.cons (.tup (A2.k A1.at_) .nil) .nil))) (A1.fr.al A2)
  refine iteF' h0 ?_
  unfold t_read_program_1; refine st_seq ?_
  push_cast [xSplit]
  refine ⟨rfl, Nat.le_trans (Nat.add_le_add_right ht 2) (by decide), fun ll H1 A1 => ?_⟩
  have sz := split_szl ht
  unfold t_read_program_2; refine st_seq ?_
  push_cast [A1.at_, List.length_map]
  by_cases h60 : 60 < (Txt.split t "\n").length
  · exact iteT' (by omega) (hn (.long h0 h60) _ A1.fr)
  refine iteF' (by omega) ?_
  unfold t_read_program_3; refine st_seq ?_
  push_cast [xMethE]
  intro o dx H2 A2
  refine ⟨o, dx, ll, rfl, A2.at_, fun dx' H3 ho3 f3 => ⟨rfl, ?_⟩⟩
  have R3 : RdAt c H3 o ll (Txt.split t "\n") 0 := ⟨⟨_, ho3⟩, f3.keep _ _ (A2.k A1.at_) fun z => by
    have z' : ll = o := by simpa using z
    exact ne_of_none A1.at_ A2.new z'⟩
  have no : H o = none := A1.fr (S := []) |>.free A2.new (by simp)
  refine ⟨_, _, ho3, rfl, o, ll, _, 0, 0, rfl, by decide, by decide, R3, sz, fun h G g => hn (.bad h0 (by omega) h) G ((((A1.fr.al A2).trans f3).trans g).drop no), fun p j v H4 hb _ tp R4 f4 => ?_⟩
  obtain ⟨_, g1, g2, g3, g4, g5⟩ : GB 0 0 (some (p, j)) := BlkR.good hb
  have jl := BlkR.in hb (Nat.zero_le _)
  have F4 : Fr [] H H4 := (((A1.fr.al A2).trans f3).trans f4).drop no
  have pt : PrT p := ⟨okL_mono (by decide) p g1, by omega, by omega, by have := g5 0; omega⟩
  unfold t_read_program_4; refine st_seq ?_
  push_cast
  refine ⟨v, p, rfl, tp, pt, fun H5 f5 => ?_⟩
  push_cast
  by_cases he : ptext p = t
  · refine iteF' (fun z => z he) ?_
    exact k p v H5 (.good h0 (by omega) hb he) (tp.tups f5.tu) (F4.trans f5)
  · exact iteT' he (hn (.other h0 (by omega) hb he) _ (F4.trans f5))

/-! what is read is one -/
mutual
theorem BlkR.uni {L : List Str} : ∀ {d i : Nat} {r r' : Option (List Sm × Nat)}, BlkR L d i r → BlkR L d i r' → r = r'
  | _, _, _, _, .deep _, .deep _ => rfl
  | _, _, _, _, .deep h, .loop h' _ => absurd h (by omega)
  | _, _, _, _, .loop h' _, .deep h => absurd h (by omega)
  | _, _, _, _, .loop _ a, .loop _ b => LoopR.uni a b
theorem LoopR.uni {L : List Str} : ∀ {d i : Nat} {r r' : Option (List Sm × Nat)}, LoopR L d i r → LoopR L d i r' → r = r'
  | _, _, _, _, .stop _, .stop _ => rfl
  | _, _, _, _, .stop h, .fail n _ => absurd h n
  | _, _, _, _, .stop h, .more n _ _ => absurd h n
  | _, _, _, _, .stop h, .cons n _ _ => absurd h n
  | _, _, _, _, .fail n _, .stop h => absurd h n
  | _, _, _, _, .fail _ _, .fail _ _ => rfl
  | _, _, _, _, .fail _ _, .more _ _ _ => rfl
  | _, _, _, _, .fail _ a, .cons _ b _ => by have := StR.uni a b; cases this
  | _, _, _, _, .more n _ _, .stop h => absurd h n
  | _, _, _, _, .more _ _ _, .fail _ _ => rfl
  | _, _, _, _, .more _ _ _, .more _ _ _ => rfl
  | _, _, _, _, .more _ a c, .cons _ b e => by
    have := StR.uni a b
    simp only [Option.some.injEq, Prod.mk.injEq] at this
    obtain ⟨rfl, rfl⟩ := this
    have := LoopR.uni c e
    cases this
  | _, _, _, _, .cons n _ _, .stop h => absurd h n
  | _, _, _, _, .cons _ a _, .fail _ b => by have := StR.uni a b; cases this
  | _, _, _, _, .cons _ a c, .more _ b e => by
    have := StR.uni a b
    simp only [Option.some.injEq, Prod.mk.injEq] at this
    obtain ⟨rfl, rfl⟩ := this
    have := LoopR.uni c e
    cases this
  | _, _, _, _, .cons _ a c, .cons _ b e => by
    have := StR.uni a b
    simp only [Option.some.injEq, Prod.mk.injEq] at this
    obtain ⟨rfl, rfl⟩ := this
    have := LoopR.uni c e
    simp only [Option.some.injEq, Prod.mk.injEq] at this
    obtain ⟨rfl, rfl⟩ := this
    rfl
theorem StR.uni {L : List Str} : ∀ {d i : Nat} {r r' : Option (Sm × Nat)}, StR L d i r → StR L d i r' → r = r'
  | _, _, _, _, .bad _, .bad _ => rfl
  | _, _, _, _, .bad h1, .set h2 => by
    rw [h1] at h2
    cases h2
  | _, _, _, _, .bad h1, .say h2 => by
    rw [h1] at h2
    cases h2
  | _, _, _, _, .bad _, .whlN _ _ => rfl
  | _, _, _, _, .bad h1, .whl h2 b2 => by
    rw [h1] at h2
    cases h2
  | _, _, _, _, .bad _, .ifN _ _ => rfl
  | _, _, _, _, .bad h1, .if1 h2 b2 n2 => by
    rw [h1] at h2
    cases h2
  | _, _, _, _, .bad _, .if2N _ _ _ _ => rfl
  | _, _, _, _, .bad h1, .if2 h2 b2 el2 q2 => by
    rw [h1] at h2
    cases h2
  | _, _, _, _, .set h1, .bad h2 => by
    rw [h1] at h2
    cases h2
  | _, _, _, _, .set h1, .set h2 => by
    rw [h1] at h2
    cases h2
    rfl
  | _, _, _, _, .set h1, .say h2 => by
    rw [h1] at h2
    cases h2
  | _, _, _, _, .set h1, .whlN h2 b2 => by
    rw [h1] at h2
    cases h2
  | _, _, _, _, .set h1, .whl h2 b2 => by
    rw [h1] at h2
    cases h2
  | _, _, _, _, .set h1, .ifN h2 b2 => by
    rw [h1] at h2
    cases h2
  | _, _, _, _, .set h1, .if1 h2 b2 n2 => by
    rw [h1] at h2
    cases h2
  | _, _, _, _, .set h1, .if2N h2 b2 el2 q2 => by
    rw [h1] at h2
    cases h2
  | _, _, _, _, .set h1, .if2 h2 b2 el2 q2 => by
    rw [h1] at h2
    cases h2
  | _, _, _, _, .say h1, .bad h2 => by
    rw [h1] at h2
    cases h2
  | _, _, _, _, .say h1, .set h2 => by
    rw [h1] at h2
    cases h2
  | _, _, _, _, .say h1, .say h2 => by
    rw [h1] at h2
    cases h2
    rfl
  | _, _, _, _, .say h1, .whlN h2 b2 => by
    rw [h1] at h2
    cases h2
  | _, _, _, _, .say h1, .whl h2 b2 => by
    rw [h1] at h2
    cases h2
  | _, _, _, _, .say h1, .ifN h2 b2 => by
    rw [h1] at h2
    cases h2
  | _, _, _, _, .say h1, .if1 h2 b2 n2 => by
    rw [h1] at h2
    cases h2
  | _, _, _, _, .say h1, .if2N h2 b2 el2 q2 => by
    rw [h1] at h2
    cases h2
  | _, _, _, _, .say h1, .if2 h2 b2 el2 q2 => by
    rw [h1] at h2
    cases h2
  | _, _, _, _, .whlN _ _, .bad _ => rfl
  | _, _, _, _, .whlN h1 b1, .set h2 => by
    rw [h1] at h2
    cases h2
  | _, _, _, _, .whlN h1 b1, .say h2 => by
    rw [h1] at h2
    cases h2
  | _, _, _, _, .whlN _ _, .whlN _ _ => rfl
  | _, _, _, _, .whlN h1 b1, .whl h2 b2 => by
    rw [h1] at h2
    cases h2
    have u := BlkR.uni b1 b2
    cases u
  | _, _, _, _, .whlN _ _, .ifN _ _ => rfl
  | _, _, _, _, .whlN h1 b1, .if1 h2 b2 n2 => by
    rw [h1] at h2
    cases h2
  | _, _, _, _, .whlN _ _, .if2N _ _ _ _ => rfl
  | _, _, _, _, .whlN h1 b1, .if2 h2 b2 el2 q2 => by
    rw [h1] at h2
    cases h2
  | _, _, _, _, .whl h1 b1, .bad h2 => by
    rw [h1] at h2
    cases h2
  | _, _, _, _, .whl h1 b1, .set h2 => by
    rw [h1] at h2
    cases h2
  | _, _, _, _, .whl h1 b1, .say h2 => by
    rw [h1] at h2
    cases h2
  | _, _, _, _, .whl h1 b1, .whlN h2 b2 => by
    rw [h1] at h2
    cases h2
    have u := BlkR.uni b1 b2
    cases u
  | _, _, _, _, .whl h1 b1, .whl h2 b2 => by
    rw [h1] at h2
    cases h2
    have u := BlkR.uni b1 b2
    simp only [Option.some.injEq, Prod.mk.injEq] at u
    obtain ⟨rfl, rfl⟩ := u
    rfl
  | _, _, _, _, .whl h1 b1, .ifN h2 b2 => by
    rw [h1] at h2
    cases h2
  | _, _, _, _, .whl h1 b1, .if1 h2 b2 n2 => by
    rw [h1] at h2
    cases h2
  | _, _, _, _, .whl h1 b1, .if2N h2 b2 el2 q2 => by
    rw [h1] at h2
    cases h2
  | _, _, _, _, .whl h1 b1, .if2 h2 b2 el2 q2 => by
    rw [h1] at h2
    cases h2
  | _, _, _, _, .ifN _ _, .bad _ => rfl
  | _, _, _, _, .ifN h1 b1, .set h2 => by
    rw [h1] at h2
    cases h2
  | _, _, _, _, .ifN h1 b1, .say h2 => by
    rw [h1] at h2
    cases h2
  | _, _, _, _, .ifN _ _, .whlN _ _ => rfl
  | _, _, _, _, .ifN h1 b1, .whl h2 b2 => by
    rw [h1] at h2
    cases h2
  | _, _, _, _, .ifN _ _, .ifN _ _ => rfl
  | _, _, _, _, .ifN h1 b1, .if1 h2 b2 n2 => by
    rw [h1] at h2
    cases h2
    have u := BlkR.uni b1 b2
    cases u
  | _, _, _, _, .ifN _ _, .if2N _ _ _ _ => rfl
  | _, _, _, _, .ifN h1 b1, .if2 h2 b2 el2 q2 => by
    rw [h1] at h2
    cases h2
    have u := BlkR.uni b1 b2
    cases u
  | _, _, _, _, .if1 h1 b1 n1, .bad h2 => by
    rw [h1] at h2
    cases h2
  | _, _, _, _, .if1 h1 b1 n1, .set h2 => by
    rw [h1] at h2
    cases h2
  | _, _, _, _, .if1 h1 b1 n1, .say h2 => by
    rw [h1] at h2
    cases h2
  | _, _, _, _, .if1 h1 b1 n1, .whlN h2 b2 => by
    rw [h1] at h2
    cases h2
  | _, _, _, _, .if1 h1 b1 n1, .whl h2 b2 => by
    rw [h1] at h2
    cases h2
  | _, _, _, _, .if1 h1 b1 n1, .ifN h2 b2 => by
    rw [h1] at h2
    cases h2
    have u := BlkR.uni b1 b2
    cases u
  | _, _, _, _, .if1 h1 b1 n1, .if1 h2 b2 n2 => by
    rw [h1] at h2
    cases h2
    have u := BlkR.uni b1 b2
    simp only [Option.some.injEq, Prod.mk.injEq] at u
    obtain ⟨rfl, rfl⟩ := u
    rfl
  | _, _, _, _, .if1 h1 b1 n1, .if2N h2 b2 el2 q2 => by
    rw [h1] at h2
    cases h2
    have u := BlkR.uni b1 b2
    simp only [Option.some.injEq, Prod.mk.injEq] at u
    obtain ⟨rfl, rfl⟩ := u
    exact absurd el2 n1
  | _, _, _, _, .if1 h1 b1 n1, .if2 h2 b2 el2 q2 => by
    rw [h1] at h2
    cases h2
    have u := BlkR.uni b1 b2
    simp only [Option.some.injEq, Prod.mk.injEq] at u
    obtain ⟨rfl, rfl⟩ := u
    exact absurd el2 n1
  | _, _, _, _, .if2N _ _ _ _, .bad _ => rfl
  | _, _, _, _, .if2N h1 b1 el1 q1, .set h2 => by
    rw [h1] at h2
    cases h2
  | _, _, _, _, .if2N h1 b1 el1 q1, .say h2 => by
    rw [h1] at h2
    cases h2
  | _, _, _, _, .if2N _ _ _ _, .whlN _ _ => rfl
  | _, _, _, _, .if2N h1 b1 el1 q1, .whl h2 b2 => by
    rw [h1] at h2
    cases h2
  | _, _, _, _, .if2N _ _ _ _, .ifN _ _ => rfl
  | _, _, _, _, .if2N h1 b1 el1 q1, .if1 h2 b2 n2 => by
    rw [h1] at h2
    cases h2
    have u := BlkR.uni b1 b2
    simp only [Option.some.injEq, Prod.mk.injEq] at u
    obtain ⟨rfl, rfl⟩ := u
    exact absurd el1 n2
  | _, _, _, _, .if2N _ _ _ _, .if2N _ _ _ _ => rfl
  | _, _, _, _, .if2N h1 b1 el1 q1, .if2 h2 b2 el2 q2 => by
    rw [h1] at h2
    cases h2
    have u := BlkR.uni b1 b2
    simp only [Option.some.injEq, Prod.mk.injEq] at u
    obtain ⟨rfl, rfl⟩ := u
    have v := BlkR.uni q1 q2
    cases v
  | _, _, _, _, .if2 h1 b1 el1 q1, .bad h2 => by
    rw [h1] at h2
    cases h2
  | _, _, _, _, .if2 h1 b1 el1 q1, .set h2 => by
    rw [h1] at h2
    cases h2
  | _, _, _, _, .if2 h1 b1 el1 q1, .say h2 => by
    rw [h1] at h2
    cases h2
  | _, _, _, _, .if2 h1 b1 el1 q1, .whlN h2 b2 => by
    rw [h1] at h2
    cases h2
  | _, _, _, _, .if2 h1 b1 el1 q1, .whl h2 b2 => by
    rw [h1] at h2
    cases h2
  | _, _, _, _, .if2 h1 b1 el1 q1, .ifN h2 b2 => by
    rw [h1] at h2
    cases h2
    have u := BlkR.uni b1 b2
    cases u
  | _, _, _, _, .if2 h1 b1 el1 q1, .if1 h2 b2 n2 => by
    rw [h1] at h2
    cases h2
    have u := BlkR.uni b1 b2
    simp only [Option.some.injEq, Prod.mk.injEq] at u
    obtain ⟨rfl, rfl⟩ := u
    exact absurd el1 n2
  | _, _, _, _, .if2 h1 b1 el1 q1, .if2N h2 b2 el2 q2 => by
    rw [h1] at h2
    cases h2
    have u := BlkR.uni b1 b2
    simp only [Option.some.injEq, Prod.mk.injEq] at u
    obtain ⟨rfl, rfl⟩ := u
    have v := BlkR.uni q1 q2
    cases v
  | _, _, _, _, .if2 h1 b1 el1 q1, .if2 h2 b2 el2 q2 => by
    rw [h1] at h2
    cases h2
    have u := BlkR.uni b1 b2
    simp only [Option.some.injEq, Prod.mk.injEq] at u
    obtain ⟨rfl, rfl⟩ := u
    have v := BlkR.uni q1 q2
    simp only [Option.some.injEq, Prod.mk.injEq] at v
    obtain ⟨rfl, rfl⟩ := v
    rfl
end
theorem ReadR.uni {t : Str} {r r' : Option (List Sm)} (a : ReadR t r) (b : ReadR t r') : r = r' := by
  cases a with
  | empty => cases b with
    | empty => rfl
    | long h => exact absurd rfl h
    | bad h => exact absurd rfl h
    | other h => exact absurd rfl h
    | good h => exact absurd rfl h
  | long h h1 => cases b with
    | empty => exact absurd rfl h
    | long => rfl
    | bad => rfl
    | other => rfl
    | good _ h2 => omega
  | bad h h1 hb => cases b with
    | empty => exact absurd rfl h
    | long => rfl
    | bad => rfl
    | other => rfl
    | good _ _ hb' => have := BlkR.uni hb hb'; cases this
  | other h h1 hb hne => cases b with
    | empty => exact absurd rfl h
    | long => rfl
    | bad => rfl
    | other => rfl
    | good _ _ hb' he =>
      have u := BlkR.uni hb hb'
      simp only [Option.some.injEq, Prod.mk.injEq] at u
      obtain ⟨rfl, rfl⟩ := u
      exact absurd he hne
  | good h h1 hb he => cases b with
    | empty => exact absurd rfl h
    | long _ h2 => omega
    | bad _ _ hb' => have := BlkR.uni hb hb'; cases this
    | other _ _ hb' hne =>
      have u := BlkR.uni hb hb'
      simp only [Option.some.injEq, Prod.mk.injEq] at u
      obtain ⟨rfl, rfl⟩ := u
      exact absurd he hne
    | good _ _ hb' _ =>
      have u := BlkR.uni hb hb'
      simp only [Option.some.injEq, Prod.mk.injEq] at u
      obtain ⟨rfl, rfl⟩ := u
      rfl

/-! a text split at a sign -/
def one (ch : Nat) : Str := ⟨#[ch]⟩
theorem cut_uni {α : Type} {c : α} : ∀ {a b r s : List α}, c ∉ a → c ∉ b → a ++ c :: r = b ++ c :: s → a = b ∧ r = s
  | [], [], _, _, _, _, h => ⟨rfl, by simpa using h⟩
  | [], y :: b, _, _, _, hb, h => by
    simp only [List.nil_append, List.cons_append, List.cons.injEq] at h
    exact absurd (by rw [h.1]; simp) hb
  | x :: a, [], _, _, ha, _, h => by
    simp only [List.nil_append, List.cons_append, List.cons.injEq] at h
    exact absurd (by rw [← h.1]; simp) ha
  | x :: a, y :: b, _, _, ha, hb, h => by
    simp only [List.cons_append, List.cons.injEq] at h
    have := cut_uni (fun z => ha (by simp [z])) (fun z => hb (by simp [z])) h.2
    exact ⟨by rw [h.1, this.1], this.2⟩
theorem join_cons (ch : Nat) (x y : Str) (r : List Str) : (Str.join (one ch) (x :: y :: r)).cps.toList = x.cps.toList ++ ch :: (Str.join (one ch) (y :: r)).cps.toList := by
  show ((x ++ one ch) ++ Str.join (one ch) (y :: r)).cps.toList = _
  show ((x.cps ++ #[ch]) ++ (Str.join (one ch) (y :: r)).cps).toList = _
  simp
theorem join_one (ch : Nat) (x : Str) : Str.join (one ch) [x] = x := rfl
def Free (ch : Nat) (l : List Str) : Prop := ∀ w ∈ l, ch ∉ w.cps.toList
theorem join_uni {ch : Nat} : ∀ {l m : List Str}, l ≠ [] → m ≠ [] → Free ch l → Free ch m → (Str.join (one ch) l).cps.toList = (Str.join (one ch) m).cps.toList → l = m
  | [], _, h, _, _, _, _ => absurd rfl h
  | _, [], _, h, _, _, _ => absurd rfl h
  | [x], [y], _, _, _, _, h => by
    rw [join_one, join_one] at h
    have : x = y := Str.ext' (Array.toList_inj.mp h)
    rw [this]
  | [x], y :: z :: m, _, _, fx, _, h => by
    rw [join_one, join_cons] at h
    exact absurd (by rw [h]; simp) (fx x (by simp))
  | x :: y :: l, [z], _, _, _, fz, h => by
    rw [join_one, join_cons] at h
    exact absurd (by rw [← h]; simp) (fz z (by simp))
  | x :: x' :: l, y :: y' :: m, _, _, fx, fy, h => by
    rw [join_cons, join_cons] at h
    obtain ⟨h1, h2⟩ := cut_uni (fx x (by simp)) (fy y (by simp)) h
    have e1 : x = y := Str.ext' (Array.toList_inj.mp h1)
    have e2 := join_uni (l := x' :: l) (m := y' :: m) (by simp) (by simp) (fun w hw => fx w (by simp at hw ⊢; exact .inr hw)) (fun w hw => fy w (by simp at hw ⊢; exact .inr hw)) h2
    rw [e1, e2]
theorem split_join {ch : Nat} {l : List Str} (hne : l ≠ []) (hf : Free ch l) : Txt.split (Str.join (one ch) l) (one ch) = l := by
  refine join_uni (ch := ch) ?_ hne (StrLaws.split_free _ ch) hf ?_
  · intro h
    have := StrLaws.join_split (Str.join (one ch) l) (one ch)
    have h2 := PyProof.Rows.split_pos (Str.join (one ch) l) (one ch)
    rw [h] at h2
    simp at h2
  · rw [StrLaws.join_split]

/-! what is printed reads back -/
theorem numL_head : ∀ n : Nat, 1 ≤ n → (TL.numL n).head? ≠ some 48 := by
  intro n
  induction n using Nat.strongRecOn with
  | _ n ih =>
    intro h1
    by_cases h : n < 10
    · rw [TL.numL_lt h]
      simp only [List.head?_cons, ne_eq, Option.some.injEq]
      omega
    · rw [TL.numL_step (by omega)]
      have h2 := ih (n / 10) (by omega) (by omega)
      cases hn : TL.numL (n / 10) with
      | nil => exact absurd hn (TL.numL_ne _)
      | cons a r => rw [hn] at h2; simpa using h2
theorem leaf_num {n : Int} (h : 0 ≤ n ∧ n < 10000) : leaf (Str.ofString (toString n)) = some (.num n) := by
  obtain ⟨m, rfl⟩ : ∃ m : Nat, n = (m : Int) := ⟨n.toNat, by omega⟩
  have e : (Str.ofString (toString (m : Int))).cps.toList = TL.numL m := TL.tl_num m
  have dg := TL.numL_digits m
  have ln := TL.numL_len (n := m) (k := 4) (by decide) (by omega)
  have ll : (Str.ofString (toString (m : Int))).length = (TL.numL m).length := by rw [TL.len_tl]; exact congrArg List.length e
  obtain ⟨a, r, hn⟩ : ∃ a r, TL.numL m = a :: r := by
    cases hn : TL.numL m with
    | nil => exact absurd hn (TL.numL_ne _)
    | cons a r => exact ⟨a, r, rfl⟩
  have da := dg a (by rw [hn]; simp)
  have h39 : ¬ (Str.ofString (toString (m : Int))).cps.toList.head? = some 39 := by
    rw [e, hn]
    simp only [List.head?_cons, Option.some.injEq]
    omega
  have nm : ¬ isNm (Str.ofString (toString (m : Int))) = true := by
    unfold isNm
    rw [e, hn]
    simp only [List.all_cons, Bool.and_eq_true, decide_eq_true_eq]
    omega
  have nu : isNu (Str.ofString (toString (m : Int))) = true := by
    unfold isNu
    rw [e, ll]
    simp only [Bool.and_eq_true, decide_eq_true_eq, Bool.not_eq_true', Bool.and_eq_false_iff, decide_eq_false_iff_not, List.all_eq_true]
    refine ⟨⟨by rw [hn]; simp, ln⟩, ?_, fun c hc => by have := dg c hc; omega⟩
    by_cases hm : m < 10
    · right
      rw [TL.numL_lt hm]
      simp
    · left
      exact numL_head m (by omega)
  unfold leaf
  rw [if_neg h39, if_neg nm, if_pos nu, e, TL.numL_val]
theorem leaf_text {z : Str} (h : Txt12 z) : leaf ("'" ++ z) = some (.text z) := by
  have e : ("'" ++ z : Str).cps.toList = 39 :: z.cps.toList := by
    have : ("'" : Str).cps.toList = [39] := by decide +kernel
    have h2 := TL.tl_append "'" z
    simp only [TL.tl] at h2
    rw [h2, this]
    rfl
  have t : tl1 ("'" ++ z) = z := by
    unfold tl1
    rw [e]
    exact TL.mk_tl z
  have hx : isTx z = true := by
    unfold isTx
    simp only [Bool.and_eq_true, decide_eq_true_eq, List.all_eq_true]
    exact ⟨by simpa [Str.length] using h.1, h.2⟩
  unfold leaf
  rw [if_pos (by rw [e]; rfl), t, if_pos hx]
theorem leaf_name {x : Str} (h : Nm8 x) : leaf x = some (.name x) := by
  obtain ⟨i, hi, rfl⟩ := h
  unfold leaf
  rw [if_neg (by simp; omega), if_pos (by rw [isNm_one]; exact decide_eq_true (by omega))]
theorem sgOf_no {w : Str} (h : ∀ c, w.cps.toList.head? = some c → c ≠ 43 ∧ c ≠ 45 ∧ c ≠ 60 ∧ c ≠ 61) : sgOf w = none := by
  have e1 : ("+" : Str).cps.toList = [43] := by decide +kernel
  have e2 : ("-" : Str).cps.toList = [45] := by decide +kernel
  have e3 : ("<" : Str).cps.toList = [60] := by decide +kernel
  have e4 : ("=" : Str).cps.toList = [61] := by decide +kernel
  unfold sgOf
  rw [if_neg, if_neg, if_neg, if_neg]
  · rintro rfl; exact (h 61 (by rw [e4]; rfl)).2.2.2 rfl
  · rintro rfl; exact (h 60 (by rw [e3]; rfl)).2.2.1 rfl
  · rintro rfl; exact (h 45 (by rw [e2]; rfl)).2.1 rfl
  · rintro rfl; exact (h 43 (by rw [e1]; rfl)).1 rfl
theorem sgOf_mark (s : Sg) : sgOf s.mark = some s := by
  cases s <;> decide +kernel
def Ex.ws : Ex → List Str
  | .num n => [Str.ofString (toString n)]
  | .text z => ["'" ++ z]
  | .name x => [x]
  | .op s a b => s.mark :: (a.ws ++ b.ws)
theorem Ex.ws_ne (e : Ex) : e.ws ≠ [] := by cases e <;> simp [Ex.ws]
theorem joinL_app {S : List Nat} : ∀ {a b : List (List Nat)}, a ≠ [] → b ≠ [] → TL.joinL S (a ++ b) = TL.joinL S a ++ (S ++ TL.joinL S b)
  | [], _, h, _ => absurd rfl h
  | [p], [], _, h => absurd rfl h
  | [p], q :: r, _, _ => rfl
  | p :: q :: a, b, _, hb => by
    show p ++ (S ++ TL.joinL S ((q :: a) ++ b)) = p ++ (S ++ TL.joinL S (q :: a)) ++ (S ++ TL.joinL S b)
    rw [joinL_app (by simp) hb]
    simp only [List.append_assoc]
theorem bl_l : TL.tl (" " : Str) = [32] := by decide +kernel
theorem Ex.txt_ws : ∀ e : Ex, TL.tl e.txt = TL.joinL [32] (e.ws.map TL.tl)
  | .num _ => rfl
  | .text _ => rfl
  | .name _ => rfl
  | .op s a b => by
    have h1 := Ex.txt_ws a
    have h2 := Ex.txt_ws b
    have n1 : a.ws.map TL.tl ≠ [] := fun z => a.ws_ne (List.map_eq_nil_iff.mp z)
    have n2 : b.ws.map TL.tl ≠ [] := fun z => b.ws_ne (List.map_eq_nil_iff.mp z)
    show TL.tl (s.mark ++ " " ++ a.txt ++ " " ++ b.txt) = TL.joinL [32] ([TL.tl s.mark] ++ List.map TL.tl (a.ws ++ b.ws))
    rw [List.map_append, joinL_app (by simp) (by simp [n1]), joinL_app n1 n2, ← h1, ← h2]
    simp only [TL.tl_append, bl_l, TL.joinL, List.append_assoc]
theorem pp_ws : ∀ (e : Ex) (n : Nat) (r : List Str), e.ok → e.dep ≤ n → pp n (e.ws ++ r) = some (e, r)
  | .num m, 0, _, _, h => by simp [Ex.dep] at h
  | .text z, 0, _, _, h => by simp [Ex.dep] at h
  | .name z, 0, _, _, h => by simp [Ex.dep] at h
  | .op s a b, 0, _, _, h => by simp [Ex.dep] at h
  | .num m, n + 1, r, ok, h => by
    have hs : sgOf (Str.ofString (toString m)) = none := by
      obtain ⟨k, rfl⟩ : ∃ k : Nat, m = (k : Int) := ⟨m.toNat, by have := ok.1; omega⟩
      refine sgOf_no fun c hc => ?_
      rw [show (Str.ofString (toString (k : Int))).cps.toList = TL.numL k from TL.tl_num k] at hc
      have := TL.numL_digits k c (List.mem_of_mem_head? hc)
      omega
    show pp (n + 1) (Str.ofString (toString m) :: r) = _
    unfold pp
    rw [hs, leaf_num ok]
    rfl
  | .text z, n + 1, r, ok, h => by
    have hs : sgOf ("'" ++ z) = none := by
      refine sgOf_no fun c hc => ?_
      have e : ("'" ++ z : Str).cps.toList = ("'" : Str).cps.toList ++ z.cps.toList := TL.tl_append "'" z
      have e1 : ("'" : Str).cps.toList = [39] := by decide +kernel
      rw [e, e1] at hc
      cases hc
      decide
    show pp (n + 1) (("'" ++ z) :: r) = _
    unfold pp
    rw [hs, leaf_text ok]
    rfl
  | .name x, n + 1, r, ok, h => by
    have hs : sgOf x = none := by
      obtain ⟨i, hi, rfl⟩ := ok
      refine sgOf_no fun c hc => ?_
      cases hc
      omega
    show pp (n + 1) (x :: r) = _
    unfold pp
    rw [hs, leaf_name ok]
    rfl
  | .op s a b, n + 1, r, ok, h => by
    simp only [Ex.dep] at h
    have h1 := pp_ws a n (b.ws ++ r) ok.1 (by omega)
    have h2 := pp_ws b n r ok.2 (by omega)
    show pp (n + 1) (s.mark :: ((a.ws ++ b.ws) ++ r)) = _
    unfold pp
    rw [sgOf_mark, List.append_assoc]
    simp only [h1, h2]
/-! signs of what is printed -/
theorem num_big {n : Int} (h : 0 ≤ n) : ∀ c ∈ TL.tl (Str.ofString (toString n)), 33 ≤ c := by
  obtain ⟨m, rfl⟩ : ∃ m : Nat, n = (m : Int) := ⟨n.toNat, by omega⟩
  rw [TL.tl_num]
  intro c hc
  have := TL.numL_digits m c hc
  omega
theorem Sg.mark_big (s : Sg) : ∀ c ∈ TL.tl s.mark, 33 ≤ c := by
  cases s <;> decide +kernel
theorem Ex.ws_big : ∀ (e : Ex), e.ok → ∀ w ∈ e.ws, ∀ c ∈ TL.tl w, 33 ≤ c
  | .num m, ok, w, hw, c, hc => by
    simp only [Ex.ws, List.mem_singleton] at hw
    subst hw
    exact num_big ok.1 c hc
  | .text z, ok, w, hw, c, hc => by
    simp only [Ex.ws, List.mem_singleton] at hw
    subst hw
    have e1 : TL.tl ("'" : Str) = [39] := by decide +kernel
    rw [TL.tl_append, e1] at hc
    rcases List.mem_cons.mp hc with rfl | hc
    · decide
    · have := ok.2 c hc
      omega
  | .name x, ok, w, hw, c, hc => by
    simp only [Ex.ws, List.mem_singleton] at hw
    subst hw
    obtain ⟨i, hi, rfl⟩ := ok
    simp [TL.tl] at hc
    omega
  | .op s a b, ok, w, hw, c, hc => by
    simp only [Ex.ws, List.mem_cons, List.mem_append] at hw
    rcases hw with rfl | hw | hw
    · exact s.mark_big c hc
    · exact Ex.ws_big a ok.1 w hw c hc
    · exact Ex.ws_big b ok.2 w hw c hc
/-- a line without blanks ahead, by its words -/
structure Bd (b : Str) (l : List Str) : Prop where
  ne : l ≠ []
  tx : TL.tl b = TL.joinL [32] (l.map TL.tl)
  big : ∀ w ∈ l, ∀ c ∈ TL.tl w, 33 ≤ c
  h0 : ∀ w, l.head? = some w → w ≠ ""
theorem joinL_mem {S : List Nat} {c : Nat} : ∀ {l : List (List Nat)}, c ∈ TL.joinL S l → c ∈ S ∨ ∃ w ∈ l, c ∈ w
  | [], h => by cases h
  | [p], h => .inr ⟨p, by simp, h⟩
  | p :: q :: r, h => by
    have h' : c ∈ p ++ (S ++ TL.joinL S (q :: r)) := h
    rcases List.mem_append.mp h' with h | h
    · exact .inr ⟨p, by simp, h⟩
    · rcases List.mem_append.mp h with h | h
      · exact .inl h
      · rcases joinL_mem h with h | ⟨w, hw, hc⟩
        · exact .inl h
        · exact .inr ⟨w, List.mem_cons_of_mem _ hw, hc⟩
theorem Bd.split {b : Str} {l : List Str} (h : Bd b l) : Txt.split b " " = l := by
  have e : b = Txt.join " " l := TL.ext_tl (by rw [TL.join_eq, TL.tl_join, bl_l]; exact h.tx)
  rw [e]
  exact TL.split_join (s := 32) (S := []) bl_l (by decide +kernel) h.ne fun p hp hc => by have := h.big p hp 32 hc; omega
theorem Bd.big32 {b : Str} {l : List Str} (h : Bd b l) : ∀ c ∈ TL.tl b, 32 ≤ c := by
  intro c hc
  rw [h.tx] at hc
  rcases joinL_mem hc with z | ⟨w, hw, hc⟩
  · simp at z; omega
  · obtain ⟨x, hx, rfl⟩ := List.mem_map.mp hw
    have := h.big x hx c hc
    omega
theorem Bd.head {b : Str} {l : List Str} (h : Bd b l) : ∃ c r, TL.tl b = c :: r ∧ 33 ≤ c := by
  cases l with
  | nil => exact absurd rfl h.ne
  | cons w l =>
    have hw := h.h0 w rfl
    have bg := h.big w (by simp)
    have e := h.tx
    cases hc : TL.tl w with
    | nil => exact absurd (TL.ext_tl (y := "") (by rw [hc]; rfl)) hw
    | cons c r =>
      have hc33 := bg c (by rw [hc]; simp)
      cases l with
      | nil =>
        refine ⟨c, r, ?_, hc33⟩
        rw [e]
        exact hc
      | cons x l =>
        refine ⟨c, r ++ ([32] ++ TL.joinL [32] ((x :: l).map TL.tl)), ?_, hc33⟩
        rw [e]
        show TL.tl w ++ ([32] ++ TL.joinL [32] ((x :: l).map TL.tl)) = _
        rw [hc]
        rfl
theorem Bd.ne0 {b : Str} {l : List Str} (h : Bd b l) : b ≠ "" := by
  rintro rfl
  obtain ⟨c, r, e, _⟩ := h.head
  cases e

/-! lines that are printed read back -/
theorem wd_big : ∀ i : Fin 42, ∀ c ∈ TL.tl (wd i.1), 33 ≤ c := by decide +kernel
theorem kw_say : TL.tl ("say " : Str) = TL.tl (wd 7) ++ [32] := by decide +kernel
theorem kw_set : TL.tl ("set " : Str) = TL.tl (wd 8) ++ [32] := by decide +kernel
theorem kw_if : TL.tl ("if " : Str) = TL.tl (wd 14) ++ [32] := by decide +kernel
theorem kw_while : TL.tl ("while " : Str) = TL.tl (wd 15) ++ [32] := by decide +kernel
theorem wd_nz {i : Nat} (h : i < 42) : wd i ≠ "" := fun z => by
  have := wd_ne0 h
  rw [this] at z
  exact z
theorem bd_kw {k : Str} {i : Nat} {e : Ex} (hi : i < 42) (hk : TL.tl k = TL.tl (wd i) ++ [32]) (ok : e.ok) : Bd (k ++ e.txt) (wd i :: e.ws) where
  ne := by simp
  tx := by
    have n1 : e.ws.map TL.tl ≠ [] := fun z => e.ws_ne (List.map_eq_nil_iff.mp z)
    show _ = TL.joinL [32] ([TL.tl (wd i)] ++ e.ws.map TL.tl)
    rw [joinL_app (by simp) n1, TL.tl_append, hk, ← e.txt_ws]
    simp only [TL.joinL, List.append_assoc]
  big := fun w hw c hc => by
    rcases List.mem_cons.mp hw with rfl | hw
    · exact wd_big ⟨i, hi⟩ c hc
    · exact e.ws_big ok w hw c hc
  h0 := fun w hw => by cases hw; exact wd_nz hi
theorem bd_set {x : Str} {e : Ex} (hx : Nm8 x) (ok : e.ok) : Bd ("set " ++ x ++ " " ++ e.txt) (wd 8 :: x :: e.ws) where
  ne := by simp
  tx := by
    have n1 : e.ws.map TL.tl ≠ [] := fun z => e.ws_ne (List.map_eq_nil_iff.mp z)
    show _ = TL.joinL [32] ([TL.tl (wd 8), TL.tl x] ++ e.ws.map TL.tl)
    rw [joinL_app (by simp) n1, TL.tl_append, TL.tl_append, TL.tl_append, kw_set, bl_l, ← e.txt_ws]
    simp only [TL.joinL, List.append_assoc]
  big := fun w hw c hc => by
    rcases List.mem_cons.mp hw with rfl | hw
    · exact wd_big ⟨8, by decide⟩ c hc
    · rcases List.mem_cons.mp hw with rfl | hw
      · obtain ⟨i, hi, rfl⟩ := hx
        simp [TL.tl] at hc
        omega
      · exact e.ws_big ok w hw c hc
  h0 := fun w hw => by cases hw; exact wd_nz (by decide)
theorem bd_else : Bd (wd 29) [wd 29] where
  ne := by simp
  tx := rfl
  big := fun w hw c hc => by
    simp only [List.mem_singleton] at hw
    subst hw
    exact wd_big ⟨29, by decide⟩ c hc
  h0 := fun w hw => by cases hw; exact wd_nz (by decide)
theorem whole_ws {e : Ex} (ok : e.ok) (hd : e.dep ≤ 5) : whole (pp 5 e.ws) = some e := by
  have := pp_ws e 5 [] ok hd
  rw [List.append_nil] at this
  rw [this]
  rfl
theorem Nm8.isNm {x : Str} (h : Nm8 x) : isNm x = true := by
  obtain ⟨i, hi, rfl⟩ := h
  rw [isNm_one]
  exact decide_eq_true (by omega)
theorem lnP_say {e : Ex} (ok : e.ok) (hd : e.dep ≤ 5) : lineP (wd 7 :: e.ws) = some (.say e) := by
  simp only [lineP, wd_eq, Nat.reduceEqDiff, Nat.reduceLT, if_true, if_false, whole_ws ok hd, Option.map_some]
theorem lnP_if {e : Ex} (ok : e.ok) (hd : e.dep ≤ 5) : lineP (wd 14 :: e.ws) = some (.ifl e) := by
  simp only [lineP, wd_eq, Nat.reduceEqDiff, Nat.reduceLT, if_true, if_false, whole_ws ok hd, Option.map_some]
theorem lnP_whl {e : Ex} (ok : e.ok) (hd : e.dep ≤ 5) : lineP (wd 15 :: e.ws) = some (.whl e) := by
  simp only [lineP, wd_eq, Nat.reduceEqDiff, Nat.reduceLT, if_true, if_false, whole_ws ok hd, Option.map_some]
theorem lnP_set {x : Str} {e : Ex} (hx : Nm8 x) (ok : e.ok) (hd : e.dep ≤ 5) : lineP (wd 8 :: x :: e.ws) = some (.set x e) := by
  simp only [lineP, if_true, hx.isNm, whole_ws ok hd, Option.map_some]
/-! a line at its place -/
theorem tl_spc (k : Nat) : TL.tl (spc k) = List.replicate (2 * k) 32 := by simp [spc, TL.tl]
theorem lsp_spc {k : Nat} {b : Str} {l : List Str} (h : Bd b l) : lsp (spc k ++ b) = b := by
  refine TL.ext_tl ?_
  show (lsp (spc k ++ b)).cps.toList = _
  rw [lsp_list]
  show (TL.tl (spc k ++ b)).dropWhile (· == 32) = _
  rw [TL.tl_append, tl_spc]
  obtain ⟨c, r, e, hc⟩ := h.head
  have z : ∀ n : Nat, (List.replicate n 32 ++ TL.tl b).dropWhile (· == 32) = TL.tl b := by
    intro n
    induction n with
    | zero =>
      rw [e]
      show List.dropWhile _ (c :: r) = _
      rw [List.dropWhile_cons, if_neg (by simp; omega)]
    | succ n ih =>
      rw [List.replicate_succ, List.cons_append, List.dropWhile_cons, if_pos (by simp), ih]
  exact z _
theorem here_of {L : List Str} {i k d : Nat} {b : Str} {l : List Str} (h : Bd b l) (hl : L[i]? = some (spc k ++ b)) : here L d i = if k = d then b else "" := by
  unfold here
  rw [hl]
  simp only
  rw [lsp_spc h, sl, spc_len]
  by_cases e : k = d
  · subst e
    rw [if_pos (by omega), if_pos rfl]
  · rw [if_neg (by omega), if_neg e]
theorem here_none {L : List Str} {i d : Nat} (hl : L[i]? = none) : here L d i = "" := by
  unfold here
  rw [hl]
/-- from that depth on nothing stands there -/
def low (L : List Str) (d j : Nat) : Prop := ∀ d', d ≤ d' → here L d' j = ""
theorem low.mono {L : List Str} {d e j : Nat} (h : low L d j) (he : d ≤ e) : low L e j := fun d' hd => h d' (by omega)
theorem low_of {L : List Str} {i k d : Nat} {b : Str} {l : List Str} (h : Bd b l) (hl : L[i]? = some (spc k ++ b)) (hk : k < d) : low L d i := fun d' hd => by
  rw [here_of h hl, if_neg (by omega)]
/-- its first line -/
theorem Sm.fst (k : Nat) : ∀ {s : Sm}, s.ok 5 → ∃ b l r, s.lin k = (spc k ++ b) :: r ∧ Bd b l ∧ b ≠ wd 29
  | .say e, ok => ⟨"say " ++ e.txt, _, [], by simp only [Sm.lin, sa], bd_kw (i := 7) (by decide) kw_say ok.1, fun z => by
    have h := (bd_kw (i := 7) (by decide) kw_say ok.1).split
    rw [z, bd_else.split] at h
    have := (List.cons.inj h).1
    rw [wd_eq (by decide) (by decide)] at this
    omega⟩
  | .set x e, ok => ⟨"set " ++ x ++ " " ++ e.txt, _, [], by simp only [Sm.lin, sa], bd_set ok.1 ok.2.1, fun z => by
    have h := (bd_set ok.1 ok.2.1).split
    rw [z, bd_else.split] at h
    have := (List.cons.inj h).1
    rw [wd_eq (by decide) (by decide)] at this
    omega⟩
  | .ite e s t, ok => ⟨"if " ++ e.txt, _, _, by simp only [Sm.lin, sa]; rfl, bd_kw (i := 14) (by decide) kw_if ok.1.1, fun z => by
    have h := (bd_kw (i := 14) (by decide) kw_if ok.1.1).split
    rw [z, bd_else.split] at h
    have := (List.cons.inj h).1
    rw [wd_eq (by decide) (by decide)] at this
    omega⟩
  | .whl e s, ok => ⟨"while " ++ e.txt, _, _, by simp only [Sm.lin, sa]; rfl, bd_kw (i := 15) (by decide) kw_while ok.1.1, fun z => by
    have h := (bd_kw (i := 15) (by decide) kw_while ok.1.1).split
    rw [z, bd_else.split] at h
    have := (List.cons.inj h).1
    rw [wd_eq (by decide) (by decide)] at this
    omega⟩
theorem at_drop {L A B : List Str} {i : Nat} {x : Str} (h : L.drop i = x :: B) : L[i]? = some x := by
  have := congrArg List.head? h
  rwa [List.head?_drop, List.head?_cons] at this
theorem drop_add {L A B : List Str} {i : Nat} (h : L.drop i = A ++ B) : L.drop (i + A.length) = B := by
  rw [← List.drop_drop, h, List.drop_left]
theorem lineAt_of {L : List Str} {i k : Nat} {b : Str} {l : List Str} {x : Ln} (h : Bd b l) (hl : L[i]? = some (spc k ++ b)) (hp : lineP l = some x) : lineAt L k i = some x := by
  unfold lineAt
  rw [here_of h hl, if_pos rfl, h.split, hp]
mutual
theorem Sm.rdb {L : List Str} : ∀ (s : Sm) (d i : Nat) (B : List Str), s.ok 5 → 1 + s.dp ≤ 2 * (6 - d) → L.drop i = s.lin d ++ B → low L (d + 1) (i + (s.lin d).length) → here L d (i + (s.lin d).length) ≠ wd 29 →
    StR L d i (some (s, i + (s.lin d).length))
  | .say e, d, i, B, ok, hd, h, _, _ => by
    simp only [Sm.lin, sa, List.cons_append, List.nil_append] at h
    exact .say (lineAt_of (bd_kw (i := 7) (by decide) kw_say ok.1) (at_drop (A := []) h) (lnP_say ok.1 ok.2))
  | .set x e, d, i, B, ok, hd, h, _, _ => by
    simp only [Sm.lin, sa, List.cons_append, List.nil_append] at h
    exact .set (lineAt_of (bd_set ok.1 ok.2.1) (by rw [at_drop (A := []) h]; simp only [sa]) (lnP_set ok.1 ok.2.1 ok.2.2))
  | .whl e s, d, i, B, ok, hd, h, hlow, hne => by
    simp only [Sm.dp] at hd
    have hp := dpL_pos s
    have e1 : i + ((Sm.whl e s).lin d).length = i + 1 + (linL (d + 1) s).length := by simp only [Sm.lin, List.length_cons]; omega
    rw [e1] at hlow hne ⊢
    simp only [Sm.lin, sa, List.cons_append] at h
    have hl := lineAt_of (bd_kw (i := 15) (by decide) kw_while ok.1.1) (at_drop (A := []) h) (lnP_whl ok.1.1 ok.1.2)
    have h2 : L.drop (i + 1) = linL (d + 1) s ++ B := drop_add (A := [_]) h
    exact .whl hl (.loop (by omega) (linL_rdb s (d + 1) (i + 1) B ok.2 (by omega) h2 hlow))
  | .ite e s [], d, i, B, ok, hd, h, hlow, hne => by
    simp only [Sm.dp] at hd
    have hp := dpL_pos s
    have m1 := Nat.le_max_left (dpL s) (dpL [])
    have e1 : i + ((Sm.ite e s []).lin d).length = i + 1 + (linL (d + 1) s).length := by simp only [Sm.lin, List.length_cons, List.append_nil]; omega
    rw [e1] at hlow hne ⊢
    simp only [Sm.lin, sa, List.cons_append, List.append_nil] at h
    have hl := lineAt_of (bd_kw (i := 14) (by decide) kw_if ok.1.1) (at_drop (A := []) h) (lnP_if ok.1.1 ok.1.2)
    have h2 : L.drop (i + 1) = linL (d + 1) s ++ B := drop_add (A := [_]) h
    exact .if1 hl (.loop (by omega) (linL_rdb s (d + 1) (i + 1) B ok.2.1 (by omega) h2 hlow)) hne
  | .ite e s (a :: r), d, i, B, ok, hd, h, hlow, hne => by
    simp only [Sm.dp] at hd
    have hp := dpL_pos s
    have m1 := Nat.le_max_left (dpL s) (dpL (a :: r))
    have m2 := Nat.le_max_right (dpL s) (dpL (a :: r))
    have e1 : i + ((Sm.ite e s (a :: r)).lin d).length = i + 1 + (linL (d + 1) s).length + 1 + (linL (d + 1) (a :: r)).length := by simp only [Sm.lin, List.length_cons, List.length_append]; omega
    rw [e1] at hlow hne ⊢
    simp only [Sm.lin, sa, List.cons_append, List.append_assoc] at h
    have hl := lineAt_of (bd_kw (i := 14) (by decide) kw_if ok.1.1) (at_drop (A := []) h) (lnP_if ok.1.1 ok.1.2)
    have h2 := drop_add (A := [_]) h
    have h3 := drop_add h2
    have h3' : L[i + 1 + (linL (d + 1) s).length]? = some (spc d ++ wd 29) := at_drop (A := []) h3
    have h4 := drop_add (A := [_]) h3
    exact .if2 hl (.loop (by omega) (linL_rdb s (d + 1) (i + 1) _ ok.2.1 (by omega) h2 (low_of bd_else h3' (by omega)))) (by rw [here_of bd_else h3', if_pos rfl])
      (.loop (by omega) (linL_rdb (a :: r) (d + 1) _ B ok.2.2 (by omega) h4 hlow))
theorem linL_rdb {L : List Str} : ∀ (p : List Sm) (d i : Nat) (B : List Str), okL 5 p → dpL p ≤ 2 * (6 - d) → L.drop i = linL d p ++ B → low L d (i + (linL d p).length) → LoopR L d i (some (p, i + (linL d p).length))
  | [], d, i, B, ok, hd, h, hlow => .stop (.inl (hlow d (Nat.le_refl _)))
  | a :: r, d, i, B, ok, hd, h, hlow => by
    simp only [dpL] at hd
    obtain ⟨b, l, q, e1, hb, hne⟩ := Sm.fst d ok.1
    simp only [linL, List.append_assoc] at h
    have e2 : i + (linL d (a :: r)).length = i + (a.lin d).length + (linL d r).length := by simp only [linL, List.length_append]; omega
    rw [e2] at hlow ⊢
    have hi : L[i]? = some (spc d ++ b) := at_drop (A := []) (by rw [h, e1]; rfl)
    have h2 := drop_add h
    have ns : ¬ stopH L d i := by
      unfold stopH
      rw [here_of hb hi, if_pos rfl]
      exact fun z => z.elim hb.ne0 hne
    have hn : low L (d + 1) (i + (a.lin d).length) ∧ here L d (i + (a.lin d).length) ≠ wd 29 := by
      cases r with
      | nil =>
        have hlow' : low L d (i + (a.lin d).length) := hlow
        refine ⟨hlow'.mono (by omega), ?_⟩
        rw [hlow' d (Nat.le_refl _)]
        exact fun z => wd_nz (by decide) z.symm
      | cons a' r' =>
        obtain ⟨b', l', q', e1', hb', hne'⟩ := Sm.fst d ok.2.1
        have hi' : L[i + (a.lin d).length]? = some (spc d ++ b') := at_drop (A := []) (by rw [h2, linL, e1']; rfl)
        refine ⟨low_of hb' hi' (by omega), ?_⟩
        rw [here_of hb' hi', if_pos rfl]
        exact hne'
    exact .cons ns (Sm.rdb a d i _ ok.1 (by omega) h hn.1 hn.2) (linL_rdb r d _ B ok.2 (by omega) h2 hlow)
end
/-! all signs of lines are blanks or beyond -/
theorem spc_big {k : Nat} {b : Str} (h : ∀ c ∈ TL.tl b, 32 ≤ c) : ∀ c ∈ TL.tl (spc k ++ b), 32 ≤ c := by
  intro c hc
  rw [TL.tl_append, tl_spc] at hc
  rcases List.mem_append.mp hc with hc | hc
  · have := List.eq_of_mem_replicate hc
    omega
  · exact h c hc
mutual
theorem Sm.lin_big (k : Nat) : ∀ s : Sm, s.ok 5 → ∀ z ∈ s.lin k, ∀ c ∈ TL.tl z, 32 ≤ c
  | .say e, ok, z, hz => by
    simp only [Sm.lin, sa, List.mem_singleton] at hz
    subst hz
    exact spc_big (bd_kw (i := 7) (by decide) kw_say ok.1).big32
  | .set x e, ok, z, hz => by
    simp only [Sm.lin, List.mem_singleton] at hz
    subst hz
    have := spc_big (k := k) (bd_set ok.1 ok.2.1).big32
    simpa only [sa] using this
  | .ite e s t, ok, z, hz => by
    simp only [Sm.lin, sa] at hz
    rcases List.mem_cons.mp hz with rfl | hz
    · exact spc_big (bd_kw (i := 14) (by decide) kw_if ok.1.1).big32
    · rcases List.mem_append.mp hz with hz | hz
      · exact linL_big (k + 1) s ok.2.1 z hz
      · cases t with
        | nil => cases hz
        | cons a r =>
          rcases List.mem_cons.mp hz with rfl | hz
          · exact spc_big bd_else.big32
          · exact linL_big (k + 1) (a :: r) ok.2.2 z hz
  | .whl e s, ok, z, hz => by
    simp only [Sm.lin, sa] at hz
    rcases List.mem_cons.mp hz with rfl | hz
    · exact spc_big (bd_kw (i := 15) (by decide) kw_while ok.1.1).big32
    · exact linL_big (k + 1) s ok.2 z hz
theorem linL_big (k : Nat) : ∀ l : List Sm, okL 5 l → ∀ z ∈ linL k l, ∀ c ∈ TL.tl z, 32 ≤ c
  | [], _, z, hz => by cases hz
  | a :: r, ok, z, hz => by
    simp only [linL] at hz
    rcases List.mem_append.mp hz with hz | hz
    · exact Sm.lin_big k a ok.1 z hz
    · exact linL_big k r ok.2 z hz
end
theorem nl_l : TL.tl ("\n" : Str) = [10] := by decide +kernel
theorem split_ptext {p : List Sm} (ok : okL 5 p) (hne : linL 0 p ≠ []) : Txt.split (ptext p) "\n" = linL 0 p := by
  unfold ptext
  exact TL.split_join (s := 10) (S := []) nl_l (by decide +kernel) hne fun z hz hc => by have := linL_big 0 p ok z hz 10 hc; omega
theorem split_0 : Txt.split "" "\n" = [("" : Str)] := by decide +kernel
theorem read_back {p : List Sm} (ok : okL 5 p) (hd : dpL p ≤ 12) (h60 : (linL 0 p).length ≤ 60) : ReadR (ptext p) (some p) := by
  cases p with
  | nil => exact .empty
  | cons a r =>
    obtain ⟨b, l, q, e1, hb, hne⟩ := Sm.fst 0 ok.1
    have e2 : linL 0 (a :: r) = b :: (q ++ linL 0 r) := by
      rw [linL, e1]
      show (spc 0 ++ b) :: (q ++ linL 0 r) = _
      have : spc 0 ++ b = b := TL.ext_tl (by rw [TL.tl_append, tl_spc]; rfl)
      rw [this]
    have hs := split_ptext ok (by rw [e2]; simp)
    have h0 : ptext (a :: r) ≠ "" := by
      intro z
      rw [z, split_0, e2] at hs
      exact hb.ne0 (List.cons.inj hs).1.symm
    refine .good h0 (by rw [hs]; exact h60) (j := 0 + (linL 0 (a :: r)).length) ?_ rfl
    rw [hs]
    refine .loop (by decide) (linL_rdb (a :: r) 0 0 [] ok (by omega) (by simp) ?_)
    intro d' _
    exact here_none (List.getElem?_eq_none (by omega))

/-! the plain machine: states, steps, heights -/
/-! ### names with values -/
abbrev Nms := List (Str × Vl)
def nget (m : Nms) (x : Str) : Option Vl := (m.find? fun p => decide (p.1 = x)).map (·.2)
def nput (m : Nms) (x : Str) (v : Vl) : Nms := if (m.any fun p => decide (p.1 = x)) = true then m.map (fun p => if p.1 = x then (p.1, v) else p) else m ++ [(x, v)]
def kvs (m : Nms) : List (Key × V) := m.map fun p => (.inr p.1, p.2.v)
def NmOk (m : Nms) : Prop := (m.map (·.1)).Nodup ∧ ∀ p ∈ m, Nm8 p.1 ∧ p.2.ok
theorem valV_kvs (x : Str) : ∀ m : Nms, valV (kvs m) (.inr x) = (nget m x).map Vl.v
  | [] => rfl
  | p :: r => by
    have ih := valV_kvs x r
    by_cases e : p.1 = x
    · rw [show kvs (p :: r) = (Sum.inr p.1, p.2.v) :: kvs r from rfl, valV_pos (by rw [e])]
      simp [nget, List.find?_cons, e]
    · rw [show kvs (p :: r) = (Sum.inr p.1, p.2.v) :: kvs r from rfl, valV_neg (by intro z; exact e (Sum.inr.inj z)), ih]
      simp [nget, List.find?_cons, e]
theorem kvs_length (m : Nms) : (kvs m).length = m.length := by simp [kvs]
theorem putK_kvs (m : Nms) (x : Str) (v : Vl) : putK (kvs m) (.inr x) v.v = kvs (nput m x v) := by
  have e : ((kvs m).any fun kv => decide (kv.1 = Sum.inr x)) = m.any fun p => decide (p.1 = x) := by
    simp only [kvs, List.any_map]
    congr 1
    funext p
    simp
  unfold putK nput
  rw [e]
  split
  · simp only [kvs, List.map_map]
    congr 1
    funext p
    by_cases h : p.1 = x
    · simp [h]
    · simp [h]
  · simp [kvs]
theorem nget_put (m : Nms) (x y : Str) (v : Vl) : nget (nput m x v) y = if y = x then some v else nget m y := by
  have h := valV_put (kvs m) (.inr x) (.inr y) v.v
  rw [putK_kvs, valV_kvs, valV_kvs] at h
  have inj : ∀ a b : Option Vl, a.map Vl.v = b.map Vl.v → a = b := by
    intro a b e
    cases a <;> cases b <;> simp_all [Vl.v_inj]
  apply inj
  rw [h]
  by_cases e : y = x
  · subst e; simp
  · rw [if_neg e, if_neg fun z => e (Sum.inr.inj z)]
theorem nput_keys (m : Nms) (x : Str) (v : Vl) : (nput m x v).map (·.1) = if x ∈ m.map (·.1) then m.map (·.1) else m.map (·.1) ++ [x] := by
  have e : (m.any fun p => decide (p.1 = x)) = decide (x ∈ m.map (·.1)) := by
    rw [Bool.eq_iff_iff]
    simp only [List.any_eq_true, decide_eq_true_eq, List.mem_map]
  unfold nput
  rw [e]
  by_cases h : x ∈ m.map (·.1)
  · rw [if_pos (decide_eq_true h), if_pos h, List.map_map]
    congr 1
    funext p
    by_cases h : p.1 = x <;> simp [h]
  · rw [if_neg (by simpa using h), if_neg h]
    simp
theorem NmOk.put {m : Nms} {x : Str} {v : Vl} (h : NmOk m) (hx : Nm8 x) (hv : v.ok) : NmOk (nput m x v) := by
  refine ⟨?_, ?_⟩
  · rw [nput_keys]
    split
    · exact h.1
    · next n => rw [List.nodup_append]; exact ⟨h.1, by simp, fun a ha b hb e => n (by rw [List.mem_singleton.mp hb] at e; rw [← e]; exact ha)⟩
  · intro p hp
    unfold nput at hp
    split at hp
    · obtain ⟨q, hq, rfl⟩ := List.mem_map.mp hp
      split
      · exact ⟨(h.2 q hq).1, hv⟩
      · exact h.2 q hq
    · rcases List.mem_append.mp hp with hp | hp
      · exact h.2 p hp
      · rw [List.mem_singleton.mp hp]; exact ⟨hx, hv⟩
theorem nodup_lt : ∀ (n : Nat) (l : List Nat), l.Nodup → (∀ x ∈ l, x < n) → l.length ≤ n
  | 0, l, _, h => by
    cases l with
    | nil => exact Nat.le_refl _
    | cons a r => exact absurd (h a (List.mem_cons_self ..)) (Nat.not_lt_zero _)
  | n + 1, l, hn, h => by
    by_cases hm : n ∈ l
    · have h1 := List.length_erase_of_mem hm
      have h2 := nodup_lt n (l.erase n) (hn.erase n) (fun x hx => by
        have := (hn.mem_erase_iff).mp hx
        have := h x this.2
        omega)
      omega
    · have := nodup_lt n l hn (fun x hx => by
        have h1 := h x hx
        have : x ≠ n := fun e => hm (by rw [← e]; exact hx)
        omega)
      omega
theorem NmOk.len {m : Nms} (h : NmOk m) : m.length ≤ 8 := by
  have hx : ∀ p ∈ m, ∃ i, i < 8 ∧ p.1 = (⟨#[97 + i]⟩ : Str) := fun p hp => (h.2 p hp).1
  let f : Str → Nat := fun x => (x.cps.toList.getD 0 0) - 97
  have h1 : ((m.map (·.1)).map f).Nodup := by
    have inj : ∀ a ∈ m.map (·.1), ∀ b ∈ m.map (·.1), f a = f b → a = b := by
      intro a ha b hb e
      obtain ⟨p, hp, rfl⟩ := List.mem_map.mp ha
      obtain ⟨q, hq, rfl⟩ := List.mem_map.mp hb
      obtain ⟨i, hi, ei⟩ := hx p hp
      obtain ⟨j, hj, ej⟩ := hx q hq
      have fi : f p.1 = i := by rw [ei]; simp [f]
      have fj : f q.1 = j := by rw [ej]; simp [f]
      rw [ei, ej, ← fi, ← fj, e]
    have go : ∀ l : List Str, l.Nodup → (∀ a ∈ l, ∀ b ∈ l, f a = f b → a = b) → (l.map f).Nodup := by
      intro l
      induction l with
      | nil => intro _ _; simp
      | cons a r ih =>
        intro hn hi
        rw [List.nodup_cons] at hn
        rw [List.map_cons, List.nodup_cons]
        refine ⟨fun z => ?_, ih hn.2 fun x hx y hy => hi x (List.mem_cons_of_mem _ hx) y (List.mem_cons_of_mem _ hy)⟩
        obtain ⟨y, hy, e⟩ := List.mem_map.mp z
        exact hn.1 (by rw [← hi y (List.mem_cons_of_mem _ hy) a (List.mem_cons_self ..) e]; exact hy)
    exact go _ h.1 inj
  have h2 := nodup_lt 8 _ h1 (by
    intro x hx'
    obtain ⟨y, hy, rfl⟩ := List.mem_map.mp hx'
    obtain ⟨p, hp, rfl⟩ := List.mem_map.mp hy
    obtain ⟨i, hi, ei⟩ := hx p hp
    rw [ei]
    simp [f]
    exact hi)
  simpa using h2
theorem nget_mem {m : Nms} {x : Str} {v : Vl} (h : nget m x = some v) : ∃ p ∈ m, p.1 = x ∧ p.2 = v := by
  unfold nget at h
  cases e : m.find? (fun p => decide (p.1 = x)) with
  | none => rw [e] at h; cases h
  | some p =>
    rw [e] at h
    refine ⟨p, List.mem_of_find?_eq_some e, ?_, Option.some.inj h⟩
    have := List.find?_some e
    exact of_decide_eq_true this
def ngetD (m : Nms) (x : Str) : Vl := (nget m x).getD (.n 0)
theorem NmOk.get {m : Nms} (h : NmOk m) (x : Str) : (ngetD m x).ok := by
  unfold ngetD
  cases e : nget m x with
  | none => exact ⟨by decide, by decide⟩
  | some v => obtain ⟨p, hp, _, rfl⟩ := nget_mem e; exact (h.2 p hp).2
theorem nget_of_mem {m : Nms} (h : (m.map (·.1)).Nodup) {p : Str × Vl} (hp : p ∈ m) : nget m p.1 = some p.2 := by
  induction m with
  | nil => cases hp
  | cons q r ih =>
    rw [List.map_cons, List.nodup_cons] at h
    rcases List.mem_cons.mp hp with rfl | hp
    · simp [nget, List.find?_cons]
    · have ne : q.1 ≠ p.1 := fun e => h.1 (by rw [e]; exact List.mem_map_of_mem hp)
      have := ih h.2 hp
      unfold nget at this ⊢
      rw [List.find?_cons, show decide (q.1 = p.1) = false from decide_eq_false ne]
      exact this
/-! ### what signs make is a value -/
theorem cut12_tl (a b : Str) : ∃ k, (cut12 a b).cps.toList = (a.cps.toList ++ b.cps.toList).take k ∧ k ≤ 12 := by
  unfold cut12 cutS
  refine ⟨min 12 (a ++ b).length, ?_, Nat.min_le_left _ _⟩
  have e0 : HT.sIx (a ++ b).length 0 none = 0 := rfl
  have e1 : HT.sIx (a ++ b).length (a ++ b).length (some 12) = min 12 (a ++ b).length := HT.sIx_nat _ _ 12
  rw [e0, e1]
  simp only [List.drop_zero, Nat.sub_zero]
  rw [show (a ++ b).cps.toList = a.cps.toList ++ b.cps.toList from TL.tl_append a b]
theorem wk_ok {s : Sg} {x y z : Vl} (hx : x.ok) (hy : y.ok) (h : wk s x y = some z) : z.ok := by
  have b1 : ∀ b : Bool, (Vl.n (b2n b)).ok := fun b => by cases b <;> exact ⟨by decide, by decide⟩
  cases s <;> cases x <;> cases y <;> simp only [wk, Option.some.injEq, reduceCtorEq] at h <;> subst h
  all_goals first
    | exact b1 _
    | exact ⟨Int.emod_nonneg _ (by decide), Int.emod_lt_of_pos _ (by decide)⟩
    | skip
  · next a b =>
    obtain ⟨k, e, hk⟩ := cut12_tl a b
    refine ⟨by rw [e, List.length_take]; omega, fun c hc => ?_⟩
    rw [e] at hc
    rcases List.mem_append.mp (List.mem_of_mem_take hc) with hc | hc
    · exact hx.2 c hc
    · exact hy.2 c hc
  · next a b =>
    have e : (subT a b).cps.toList = a.cps.toList.filter fun c => !decide (c ∈ b.cps.toList) := by simp [subT]
    refine ⟨by rw [e]; exact Nat.le_trans (List.length_filter_le _ _) hx.1, fun c hc => ?_⟩
    rw [e] at hc
    exact hx.2 c (List.mem_filter.mp hc).1
/-! ### states and steps -/
inductive Ls where
  | done | dry | mixed (p : Nat)
def Ls.d : Ls → PyData
  | .done => .tuple [.str (wd 26)]
  | .dry => .tuple [.str (wd 27)]
  | .mixed p => .tuple [.str (wd 28), .int (p : Nat)]
def lastD : Option Ls → PyData
  | none => .none
  | some l => l.d
structure MS where
  names : Nms
  st : List Vl
  place : Nat
  left : Int
  said : List Vl
  last : Option Ls
def stepR (r : Rw) (s : MS) : MS :=
  match r with
  | .num n => { s with st := .n n :: s.st, place := s.place + 1 }
  | .text z => { s with st := .t z :: s.st, place := s.place + 1 }
  | .name x => { s with st := ngetD s.names x :: s.st, place := s.place + 1 }
  | .op g => (match s.st with
    | y :: x :: r => (match wk g x y with
      | some z => { s with st := z :: r, place := s.place + 1 }
      | none => { s with last := some (.mixed s.place) })
    | _ => s)
  | .say => (match s.st with
    | y :: r => { s with st := r, said := s.said ++ [y], place := s.place + 1 }
    | _ => s)
  | .set x => (match s.st with
    | y :: r => { s with st := r, names := nput s.names x y, place := s.place + 1 }
    | _ => s)
  | .unless q => (match s.st with
    | y :: r => { s with st := r, place := if y.so then s.place + 1 else q }
    | _ => s)
  | .go z => { s with place := z }
  | .top => if s.left - 1 < 0 then { s with left := s.left - 1, last := some .dry } else { s with left := s.left - 1, place := s.place + 1 }
  | .fin => { s with last := some .done }
def step (code : List Rw) (s : MS) : MS := match code[s.place]? with
  | some r => stepR r s
  | none => s
theorem step_at {code : List Rw} {s : MS} {r : Rw} (h : code[s.place]? = some r) : step code s = stepR r s := by
  unfold step
  rw [h]
/-- how many of the stack a row takes -/
def Rw.need : Rw → Nat
  | .op _ => 2
  | .say => 1
  | .set _ => 1
  | .unless _ => 1
  | _ => 0
def Rw.okv : Rw → Prop
  | .num n => 0 ≤ n ∧ n < 10000
  | .text z => Txt12 z
  | .name x => Nm8 x
  | .set x => Nm8 x
  | _ => True
/-- values in a state -/
structure MS.ok (s : MS) : Prop where
  nm : NmOk s.names
  st : ∀ v ∈ s.st, v.ok
  said : ∀ v ∈ s.said, v.ok
/-- a row can be done -/
structure Fit (code : List Rw) (s : MS) : Prop where
  row : ∃ r, code[s.place]? = some r ∧ r.need ≤ s.st.length ∧ r.okv
theorem step_ok {code : List Rw} {s : MS} (h : s.ok) (f : Fit code s) : (step code s).ok := by
  obtain ⟨r, hr, hn, hv⟩ := f.row
  rw [step_at hr]
  unfold stepR
  cases r with
  | num n => exact ⟨h.nm, fun v hv' => by rcases List.mem_cons.mp hv' with rfl | hv'; exact ⟨hv.1, by have := hv.2; omega⟩; exact h.st v hv', h.said⟩
  | text z => exact ⟨h.nm, fun v hv' => by rcases List.mem_cons.mp hv' with rfl | hv'; exact hv; exact h.st v hv', h.said⟩
  | name x => exact ⟨h.nm, fun v hv' => by rcases List.mem_cons.mp hv' with rfl | hv'; exact h.nm.get x; exact h.st v hv', h.said⟩
  | op g =>
    match hs : s.st, hn with
    | y :: x :: r, _ =>
      simp only
      have hx : x.ok := h.st x (by rw [hs]; simp)
      have hy : y.ok := h.st y (by rw [hs]; simp)
      cases e : wk g x y with
      | none => exact ⟨h.nm, fun v hv' => h.st v (by rw [hs]; exact hv'), h.said⟩
      | some z => exact ⟨h.nm, fun v hv' => by rcases List.mem_cons.mp hv' with rfl | hv'; exact wk_ok hx hy e; exact h.st v (by rw [hs]; exact List.mem_cons_of_mem _ (List.mem_cons_of_mem _ hv')), h.said⟩
  | say =>
    match hs : s.st, hn with
    | y :: r, _ =>
      simp only
      exact ⟨h.nm, fun v hv' => h.st v (by rw [hs]; exact List.mem_cons_of_mem _ hv'), fun v hv' => by rcases List.mem_append.mp hv' with hv' | hv'; exact h.said v hv'; rw [List.mem_singleton.mp hv']; exact h.st y (by rw [hs]; simp)⟩
  | set x =>
    match hs : s.st, hn with
    | y :: r, _ =>
      simp only
      exact ⟨h.nm.put hv (h.st y (by rw [hs]; simp)), fun v hv' => h.st v (by rw [hs]; exact List.mem_cons_of_mem _ hv'), h.said⟩
  | «unless» q =>
    match hs : s.st, hn with
    | y :: r, _ =>
      simp only
      exact ⟨h.nm, fun v hv' => h.st v (by rw [hs]; exact List.mem_cons_of_mem _ hv'), h.said⟩
  | go z => exact ⟨h.nm, h.st, h.said⟩
  | top => simp only; split <;> exact ⟨h.nm, h.st, h.said⟩
  | fin => exact ⟨h.nm, h.st, h.said⟩

/-! heights of what is half reckoned -/
def Ex.hs : Ex → Nat → List Nat
  | .num _, k => [k]
  | .text _, k => [k]
  | .name _, k => [k]
  | .op _ a b, k => a.hs k ++ b.hs (k + 1) ++ [k + 2]
mutual
def Sm.hs : Sm → List Nat
  | .say e => e.hs 0 ++ [1]
  | .set _ e => e.hs 0 ++ [1]
  | .ite e s t => e.hs 0 ++ [1] ++ hsL s ++ [0] ++ hsL t
  | .whl e s => [0] ++ e.hs 0 ++ [1] ++ hsL s ++ [0]
def hsL : List Sm → List Nat
  | [] => []
  | a :: r => a.hs ++ hsL r
end
theorem Ex.hs_len : ∀ (e : Ex) (k : Nat), (e.hs k).length = e.code.length
  | .num _, _ => rfl
  | .text _, _ => rfl
  | .name _, _ => rfl
  | .op _ a b, k => by simp only [Ex.hs, Ex.code, List.length_append, Ex.hs_len a, Ex.hs_len b]; rfl
mutual
theorem Sm.hs_len : ∀ (s : Sm) (b : Nat), s.hs.length = (s.code b).length
  | .say e, b => by simp [Sm.hs, Sm.code, Ex.hs_len]
  | .set x e, b => by simp [Sm.hs, Sm.code, Ex.hs_len]
  | .ite e s t, b => by
    simp only [Sm.hs, Sm.code, List.length_append, Ex.hs_len, hsL_len s (b + e.code.length + 1), hsL_len t (b + e.code.length + (codeL s (b + e.code.length + 1)).length + 2), List.length_cons, List.length_nil]
  | .whl e s, b => by
    simp only [Sm.hs, Sm.code, List.length_append, Ex.hs_len, hsL_len s (b + e.code.length + 2), List.length_cons, List.length_nil]
theorem hsL_len : ∀ (l : List Sm) (b : Nat), (hsL l).length = (codeL l b).length
  | [], b => rfl
  | a :: r, b => by simp only [hsL, codeL, List.length_append, Sm.hs_len a b, hsL_len r (b + (a.code b).length)]
end
/-- rows stands in l from b on -/
def At {α : Type} (l : List α) (b : Nat) (rows : List α) : Prop := ∀ i r, rows[i]? = some r → l[b + i]? = some r
section
variable {α : Type} {l r1 r2 : List α} {b : Nat} {x : α}
theorem At.split (h : At l b (r1 ++ r2)) : At l b r1 ∧ At l (b + r1.length) r2 := by
  refine ⟨fun i r e => h i r ?_, fun i r e => ?_⟩
  · have : i < r1.length := (List.getElem?_eq_some_iff.mp e).1
    rw [List.getElem?_append_left this]; exact e
  · have := h (r1.length + i) r (by rw [List.getElem?_append_right (by omega), Nat.add_sub_cancel_left]; exact e)
    rw [Nat.add_assoc]; exact this
theorem At.one (h : At l b [x]) : l[b]? = some x := h 0 x rfl
theorem At.all (l : List α) : At l 0 l := fun i r e => by rw [Nat.zero_add]; exact e
theorem At.app (l k : List α) : At (l ++ k) 0 l := fun i r e => by
  have : i < l.length := (List.getElem?_eq_some_iff.mp e).1
  rw [Nat.zero_add, List.getElem?_append_left this]; exact e
end
def Rng (b n : Nat) (P : Nat → Prop) : Prop := ∀ p, b ≤ p → p < b + n → P p
theorem Rng.app {b m n : Nat} {P : Nat → Prop} (h1 : Rng b m P) (h2 : Rng (b + m) n P) : Rng b (m + n) P := fun p a c => by
  by_cases h : p < b + m
  · exact h1 p a h
  · exact h2 p (by omega) (by omega)
theorem Rng.one {b : Nat} {P : Nat → Prop} (h : P b) : Rng b 1 P := fun p a c => by
  have : p = b := by omega
  rw [this]; exact h
/-- what a row does to heights -/
def RowTy (code : List Rw) (hts : List Nat) (p k : Nat) : Rw → Prop
  | .op _ => 2 ≤ k ∧ hts[p + 1]? = some (k - 1)
  | .say => 1 ≤ k ∧ hts[p + 1]? = some (k - 1)
  | .set _ => 1 ≤ k ∧ hts[p + 1]? = some (k - 1)
  | .unless q => 1 ≤ k ∧ hts[p + 1]? = some (k - 1) ∧ p < q ∧ hts[q]? = some (k - 1)
  | .go z => hts[z]? = some k ∧ (p < z ∨ code[z]? = some .top)
  | .top => k = 0 ∧ hts[p + 1]? = some 0
  | .fin => True
  | _ => hts[p + 1]? = some (k + 1)
def RowOk (code : List Rw) (hts : List Nat) (p : Nat) : Prop := ∃ r k, code[p]? = some r ∧ hts[p]? = some k ∧ RowTy code hts p k r ∧ r.okv ∧ k ≤ 12
theorem Ex.hs_le : ∀ (e : Ex) (k x : Nat), x ∈ e.hs k → x ≤ k + e.dep
  | .num _, k, x, h => by simp [Ex.hs] at h; omega
  | .text _, k, x, h => by simp [Ex.hs] at h; omega
  | .name _, k, x, h => by simp [Ex.hs] at h; omega
  | .op _ a b, k, x, h => by
    simp only [Ex.hs, List.mem_append, List.mem_singleton] at h
    have ha := a.dep_pos
    simp only [Ex.dep]
    rcases h with (h | h) | h
    · have := Ex.hs_le a k x h; omega
    · have := Ex.hs_le b (k + 1) x h; omega
    · omega
theorem Ex.hs_cons : ∀ (e : Ex) (k : Nat), ∃ r, e.hs k = k :: r
  | .num _, k => ⟨_, rfl⟩
  | .text _, k => ⟨_, rfl⟩
  | .name _, k => ⟨_, rfl⟩
  | .op _ a b, k => by
    obtain ⟨r, e⟩ := Ex.hs_cons a k
    exact ⟨_, by rw [Ex.hs, e]; rfl⟩
theorem Ex.ty {code : List Rw} {hts : List Nat} : ∀ (e : Ex) (k b : Nat), e.ok → k + e.dep ≤ 12 → At code b e.code → At hts b (e.hs k) → hts[b + e.code.length]? = some (k + 1) → Rng b e.code.length (RowOk code hts)
  | .num i, k, b, ok, hk, hc, hh, hn => Rng.one ⟨_, k, hc.one, hh.one, hn, ok, by omega⟩
  | .text i, k, b, ok, hk, hc, hh, hn => Rng.one ⟨_, k, hc.one, hh.one, hn, ok, by omega⟩
  | .name i, k, b, ok, hk, hc, hh, hn => Rng.one ⟨_, k, hc.one, hh.one, hn, ok, by omega⟩
  | .op s a1 b1, k, b, ok, hk, hc, hh, hn => by
    simp only [Ex.code] at hc hn ⊢
    simp only [Ex.hs] at hh
    simp only [Ex.dep] at hk
    obtain ⟨hc, hc3⟩ := hc.split
    obtain ⟨hc1, hc2⟩ := hc.split
    obtain ⟨hh, hh3⟩ := hh.split
    obtain ⟨hh1, hh2⟩ := hh.split
    rw [Ex.hs_len] at hh2
    rw [List.length_append, Ex.hs_len, Ex.hs_len] at hh3
    rw [List.length_append] at hc3
    have e2 : hts[b + a1.code.length]? = some (k + 1) := by
      obtain ⟨r, e⟩ := b1.hs_cons (k + 1)
      rw [e] at hh2
      exact hh2 0 _ rfl
    have e3 : hts[b + a1.code.length + b1.code.length]? = some (k + 1 + 1) := by
      have := hh3.one
      rw [← Nat.add_assoc] at this
      exact this
    rw [List.length_append, List.length_append]
    refine ((Ex.ty a1 k b ok.1 (by omega) hc1 hh1 e2).app (Ex.ty b1 (k + 1) _ ok.2 (by omega) hc2 hh2 e3)).app (Rng.one ?_)
    refine ⟨.op s, k + 2, hc3.one, hh3.one, ⟨by omega, ?_⟩, trivial, by have := a1.dep_pos; omega⟩
    simp only [List.length_append, List.length_cons, List.length_nil] at hn
    exact hn
theorem Sm.hs_cons (s : Sm) : ∃ r, s.hs = 0 :: r := by
  cases s with
  | say e => obtain ⟨r, h⟩ := e.hs_cons 0; exact ⟨_, by rw [Sm.hs, h]; rfl⟩
  | set x e => obtain ⟨r, h⟩ := e.hs_cons 0; exact ⟨_, by rw [Sm.hs, h]; rfl⟩
  | ite e s t => obtain ⟨r, h⟩ := e.hs_cons 0; exact ⟨_, by rw [Sm.hs, h]; rfl⟩
  | whl e s => exact ⟨_, by rw [Sm.hs]; rfl⟩
theorem hsL_first {hts : List Nat} {l : List Sm} {b : Nat} (h : At hts b (hsL l)) (hn : hts[b + (hsL l).length]? = some 0) : hts[b]? = some 0 := by
  cases l with
  | nil => exact hn
  | cons a r =>
    rw [hsL] at h
    obtain ⟨q, e⟩ := a.hs_cons
    have := h.split.1
    rw [e] at this
    exact this 0 _ rfl
section
variable {code : List Rw} {hts : List Nat}
theorem len1 {α : Type} (x : α) : [x].length = 1 := rfl
mutual
theorem Sm.ty : ∀ (s : Sm) (b : Nat), s.ok 5 → At code b (s.code b) → At hts b s.hs → hts[b + (s.code b).length]? = some 0 → Rng b (s.code b).length (RowOk code hts)
  | .say e, b, ok, hc, hh, hn => by
    simp only [Sm.code, Sm.hs] at hc hh hn ⊢
    obtain ⟨hc1, hc2⟩ := hc.split
    obtain ⟨hh1, hh2⟩ := hh.split
    rw [Ex.hs_len] at hh2
    rw [List.length_append, len1]
    rw [List.length_append, len1] at hn
    have := ok.2
    exact (Ex.ty e 0 b ok.1 (by omega) hc1 hh1 hh2.one).app (Rng.one ⟨.say, 1, hc2.one, hh2.one, ⟨Nat.le_refl _, hn⟩, trivial, by decide⟩)
  | .set x e, b, ok, hc, hh, hn => by
    simp only [Sm.code, Sm.hs] at hc hh hn ⊢
    obtain ⟨hc1, hc2⟩ := hc.split
    obtain ⟨hh1, hh2⟩ := hh.split
    rw [Ex.hs_len] at hh2
    rw [List.length_append, len1]
    rw [List.length_append, len1] at hn
    have := ok.2.2
    exact (Ex.ty e 0 b ok.2.1 (by omega) hc1 hh1 hh2.one).app (Rng.one ⟨.set x, 1, hc2.one, hh2.one, ⟨Nat.le_refl _, hn⟩, ok.1, by decide⟩)
  | .ite e s t, b, ok, hc, hh, hn => by
    simp only [Sm.code, Sm.hs] at hc hh hn ⊢
    obtain ⟨hc, hc5⟩ := hc.split
    obtain ⟨hc, hc4⟩ := hc.split
    obtain ⟨hc, hc3⟩ := hc.split
    obtain ⟨hc1, hc2⟩ := hc.split
    obtain ⟨hh, hh5⟩ := hh.split
    obtain ⟨hh, hh4⟩ := hh.split
    obtain ⟨hh, hh3⟩ := hh.split
    obtain ⟨hh1, hh2⟩ := hh.split
    have ls := hsL_len s (b + e.code.length + 1)
    have lt := hsL_len t (b + e.code.length + (codeL s (b + e.code.length + 1)).length + 2)
    generalize hq : b + e.code.length + (codeL s (b + e.code.length + 1)).length + 2 = q at *
    simp only [List.length_append, len1, Ex.hs_len, ls, lt] at hc2 hc3 hc4 hc5 hh2 hh3 hh4 hh5 hn
    simp only [List.length_append, len1]
    have q3 : b + (e.code.length + 1) = b + e.code.length + 1 := by omega
    have q4 : b + (e.code.length + 1 + (codeL s (b + e.code.length + 1)).length) = b + e.code.length + 1 + (codeL s (b + e.code.length + 1)).length := by omega
    have q5 : b + (e.code.length + 1 + (codeL s (b + e.code.length + 1)).length + 1) = q := by omega
    have q6 : b + (e.code.length + 1 + (codeL s (b + e.code.length + 1)).length + 1 + (codeL t q).length) = q + (codeL t q).length := by omega
    rw [q3] at hc3 hh3
    rw [q4] at hc4 hh4
    rw [q5] at hc5 hh5
    rw [q6] at hn
    have e1 := ok.1.2
    have z5 : hts[q]? = some 0 := hsL_first hh5 (by rw [lt]; exact hn)
    have z3 : hts[b + e.code.length + 1]? = some 0 := hsL_first hh3 (by rw [ls]; exact hh4.one)
    refine ((((Ex.ty e 0 b ok.1.1 (by omega) hc1 hh1 hh2.one).app (Rng.one ?_)).app ?_).app (Rng.one ?_)).app ?_
    · exact ⟨.unless q, 1, hc2.one, hh2.one, ⟨Nat.le_refl _, z3, by omega, z5⟩, trivial, by decide⟩
    · rw [q3]
      exact tyL s _ ok.2.1 hc3 hh3 hh4.one
    · rw [q4]
      refine ⟨.go (q + (codeL t q).length), 0, hc4.one, hh4.one, ⟨hn, .inl (by omega)⟩, trivial, by decide⟩
    · rw [q5]
      exact tyL t _ ok.2.2 hc5 hh5 hn
  | .whl e s, b, ok, hc, hh, hn => by
    simp only [Sm.code, Sm.hs] at hc hh hn ⊢
    obtain ⟨hc, hc5⟩ := hc.split
    obtain ⟨hc, hc4⟩ := hc.split
    obtain ⟨hc, hc3⟩ := hc.split
    obtain ⟨hc1, hc2⟩ := hc.split
    obtain ⟨hh, hh5⟩ := hh.split
    obtain ⟨hh, hh4⟩ := hh.split
    obtain ⟨hh, hh3⟩ := hh.split
    obtain ⟨hh1, hh2⟩ := hh.split
    have ls := hsL_len s (b + e.code.length + 2)
    simp only [List.length_append, len1, Ex.hs_len, ls] at hc2 hc3 hc4 hc5 hh2 hh3 hh4 hh5 hn
    simp only [List.length_append, len1]
    have q3 : b + (1 + e.code.length) = b + 1 + e.code.length := by omega
    have q4 : b + (1 + e.code.length + 1) = b + e.code.length + 2 := by omega
    have q5 : b + (1 + e.code.length + 1 + (codeL s (b + e.code.length + 2)).length) = b + e.code.length + 2 + (codeL s (b + e.code.length + 2)).length := by omega
    have q6 : b + (1 + e.code.length + 1 + (codeL s (b + e.code.length + 2)).length + 1) = b + e.code.length + (codeL s (b + e.code.length + 2)).length + 3 := by omega
    rw [q3] at hc3 hh3
    rw [q4] at hc4 hh4
    rw [q5] at hc5 hh5
    rw [q6] at hn
    have e1 := ok.1.2
    obtain ⟨er, ee⟩ := e.hs_cons 0
    have z2 : hts[b + 1]? = some 0 := by
      rw [ee] at hh2
      exact hh2 0 _ rfl
    have z4 : hts[b + e.code.length + 2]? = some 0 := hsL_first hh4 (by rw [ls]; exact hh5.one)
    refine ((((Rng.one ?_).app (Ex.ty e 0 (b + 1) ok.1.1 (by omega) hc2 hh2 hh3.one)).app (Rng.one ?_)).app ?_).app (Rng.one ?_)
    · exact ⟨.top, 0, hc1.one, hh1.one, ⟨rfl, z2⟩, trivial, by decide⟩
    · rw [q3]
      exact ⟨.unless _, 1, hc3.one, hh3.one, ⟨Nat.le_refl _, by rw [show b + 1 + e.code.length + 1 = b + e.code.length + 2 by omega]; exact z4, by omega, hn⟩, trivial, by decide⟩
    · rw [q4]
      exact tyL s _ ok.2 hc4 hh4 hh5.one
    · rw [q5]
      exact ⟨.go b, 0, hc5.one, hh5.one, ⟨hh1.one, .inr hc1.one⟩, trivial, by decide⟩
theorem tyL : ∀ (l : List Sm) (b : Nat), okL 5 l → At code b (codeL l b) → At hts b (hsL l) → hts[b + (codeL l b).length]? = some 0 → Rng b (codeL l b).length (RowOk code hts)
  | [], b, _, _, _, _ => fun p h1 h2 => by simp only [codeL, List.length_nil] at h2; omega
  | a :: r, b, ok, hc, hh, hn => by
    simp only [codeL, hsL] at hc hh hn ⊢
    obtain ⟨hc1, hc2⟩ := hc.split
    obtain ⟨hh1, hh2⟩ := hh.split
    rw [Sm.hs_len a b] at hh2
    rw [List.length_append] at hn ⊢
    rw [← Nat.add_assoc] at hn
    refine (Sm.ty a b ok.1 hc1 hh1 ?_).app (tyL r _ ok.2 hc2 hh2 hn)
    exact hsL_first hh2 (by rw [hsL_len r (b + (a.code b).length)]; exact hn)
end
end
/-- the code of a program, with its heights -/
structure Ty (code : List Rw) (hts : List Nat) : Prop where
  rows : ∀ p, p < code.length → RowOk code hts p
  len : hts.length = code.length
  zero : hts[0]? = some 0
theorem prog_ty {p : List Sm} (ok : okL 5 p) : Ty (progC p) (hsL p ++ [0]) := by
  have hl := hsL_len p 0
  have hz : (hsL p ++ [0])[0 + (codeL p 0).length]? = some 0 := by rw [Nat.zero_add, List.getElem?_append_right (by omega), hl]; simp
  have h1 : At (hsL p ++ [0]) 0 (hsL p) := At.app _ _
  have h := tyL (code := progC p) (hts := hsL p ++ [0]) p 0 ok (At.app _ _) h1 hz
  refine ⟨fun q hq => ?_, by simp [progC, hl], hsL_first h1 (by rw [hl]; exact hz)⟩
  by_cases hlt : q < (codeL p 0).length
  · exact h q (Nat.zero_le _) (by omega)
  · have e : q = (codeL p 0).length := by simp only [progC, List.length_append, len1] at hq; omega
    subst e
    exact ⟨.fin, 0, by simp [progC], by rw [Nat.zero_add] at hz; exact hz, trivial, trivial, by decide⟩
theorem RowTy.need {code : List Rw} {hts : List Nat} {p k : Nat} {r : Rw} (h : RowTy code hts p k r) : r.need ≤ k := by
  cases r <;> simp only [RowTy, Rw.need] at h ⊢ <;> omega
/-- a state within typed code; x more lie under what is half reckoned -/
structure In (code : List Rw) (hts : List Nat) (x : Nat) (s : MS) : Prop where
  ok : s.ok
  at_ : ∃ k, hts[s.place]? = some k ∧ s.st.length = k + x
theorem In.lt {code : List Rw} {hts : List Nat} {x : Nat} {s : MS} (T : Ty code hts) (i : In code hts x s) : s.place < code.length := by
  obtain ⟨k, h, _⟩ := i.at_
  have := (List.getElem?_eq_some_iff.mp h).1
  rw [← T.len]; exact this
theorem In.fit {code : List Rw} {hts : List Nat} {x : Nat} {s : MS} (T : Ty code hts) (i : In code hts x s) : Fit code s := by
  obtain ⟨r, k, h1, h2, h3, h4, h5⟩ := T.rows _ (i.lt T)
  obtain ⟨k', e, hl⟩ := i.at_
  rw [h2] at e
  cases e
  exact ⟨r, h1, by have := h3.need; omega, h4⟩
theorem In.small {code : List Rw} {hts : List Nat} {x : Nat} {s : MS} (T : Ty code hts) (i : In code hts x s) : s.st.length ≤ 12 + x := by
  obtain ⟨r, k, h1, h2, h3, h4, h5⟩ := T.rows _ (i.lt T)
  obtain ⟨k', e, hl⟩ := i.at_
  rw [h2] at e
  cases e
  omega
theorem In.step {code : List Rw} {hts : List Nat} {x : Nat} {s : MS} (T : Ty code hts) (i : In code hts x s) : In code hts x (step code s) := by
  refine ⟨step_ok i.ok (i.fit T), ?_⟩
  obtain ⟨r, k, h1, h2, h3, h4, h5⟩ := T.rows _ (i.lt T)
  obtain ⟨k', e, hl⟩ := i.at_
  rw [h2] at e
  cases e
  rw [step_at h1]
  unfold stepR
  cases r with
  | num n => exact ⟨k + 1, h3, by simp only [List.length_cons]; omega⟩
  | text n => exact ⟨k + 1, h3, by simp only [List.length_cons]; omega⟩
  | name n => exact ⟨k + 1, h3, by simp only [List.length_cons]; omega⟩
  | op g =>
    have h6 : 2 ≤ k := h3.1
    match hs : s.st with
    | [] => rw [hs] at hl; simp only [List.length_nil] at hl; omega
    | [_] => rw [hs] at hl; simp only [List.length_cons, List.length_nil] at hl; omega
    | y :: z :: q =>
      simp only
      rw [hs] at hl
      simp only [List.length_cons] at hl
      split
      · exact ⟨k - 1, h3.2, by simp only [List.length_cons]; omega⟩
      · exact ⟨k, h2, by simp only [List.length_cons]; omega⟩
  | say =>
    have h6 : 1 ≤ k := h3.1
    match hs : s.st with
    | [] => rw [hs] at hl; simp only [List.length_nil] at hl; omega
    | y :: q =>
      simp only
      rw [hs] at hl
      simp only [List.length_cons] at hl
      exact ⟨k - 1, h3.2, by omega⟩
  | set g =>
    have h6 : 1 ≤ k := h3.1
    match hs : s.st with
    | [] => rw [hs] at hl; simp only [List.length_nil] at hl; omega
    | y :: q =>
      simp only
      rw [hs] at hl
      simp only [List.length_cons] at hl
      exact ⟨k - 1, h3.2, by omega⟩
  | «unless» g =>
    have h6 : 1 ≤ k := h3.1
    match hs : s.st with
    | [] => rw [hs] at hl; simp only [List.length_nil] at hl; omega
    | y :: q =>
      simp only
      rw [hs] at hl
      simp only [List.length_cons] at hl
      split
      · exact ⟨k - 1, h3.2.1, by omega⟩
      · exact ⟨k - 1, h3.2.2.2, by omega⟩
  | go z => exact ⟨k, h3.1, hl⟩
  | top =>
    simp only
    split
    · exact ⟨k, h2, hl⟩
    · refine ⟨0, h3.2, ?_⟩
      have := h3.1
      simp only
      omega
  | fin => exact ⟨k, h2, hl⟩

/-! states in the heap -/
/-! ### footprints -/
/-- what T holds stood in S, or is new -/
def Own (H : Hp) (S T : List Addr) : Prop := ∀ x ∈ T, x ∈ S ∨ H x = none
theorem Own.refl (H : Hp) (S : List Addr) : Own H S S := fun _ h => .inl h
theorem Fr.own {S T : List Addr} {H H1 H2 : Hp} (f : Fr S H H1) (o : Own H S T) (g : Fr T H1 H2) : Fr S H H2 := by
  refine ⟨fun b u h hb => g.keep b u (f.keep b u h hb) fun hT => ?_, fun b xs h => g.tups b xs (f.tups b xs h)⟩
  rcases o b hT with z | z
  · exact hb z
  · rw [z] at h; cases h
theorem Own.trans {S T U : List Addr} {H H1 : Hp} (a : Own H S T) (f : Fr S H H1) (b : Own H1 T U) : Own H S U := fun x hx => by
  rcases b x hx with h | h
  · exact a x h
  · by_cases hs : x ∈ S
    · exact .inl hs
    · exact .inr (f.free h hs)
theorem Own.mono {S S' T : List Addr} {H : Hp} (o : Own H S T) (h : ∀ x ∈ S, x ∈ S') : Own H S' T := fun x hx => (o x hx).imp_left (h x)
def Disj (S T : List Addr) : Prop := ∀ x ∈ S, x ∉ T
theorem Disj.symm {S T : List Addr} (d : Disj S T) : Disj T S := fun x hx hs => d x hs hx
/-- S stands in the heap, T moves on -/
theorem Disj.own {S T U : List Addr} {H : Hp} (d : Disj S T) (hS : ∀ x ∈ S, H x ≠ none) (o : Own H T U) : Disj S U := fun x hx hu => by
  rcases o x hu with h | h
  · exact d x hx h
  · exact hS x hx h
/-! ### states -/
def vls (l : List Vl) : List V := l.map Vl.v
def stF (na sk : Addr) (p : Nat) (l : Int) (sd : Addr) (la : V) : List (Str × V) := [("names", .ref na), ("stack", .ref sk), ("place", .int (p : Nat)), ("left", .int l), ("said", .ref sd), ("last", la)]
section
variable {na sk na' sk' sd sd' : Addr} {p p' : Nat} {l l' : Int} {la la' : V}
theorem st_names : (stF na sk p l sd la).lookup ("names" : Str) = some (.ref na) := rfl
theorem st_stack : (stF na sk p l sd la).lookup ("stack" : Str) = some (.ref sk) := rfl
theorem st_place : (stF na sk p l sd la).lookup ("place" : Str) = some (.int (p : Nat)) := rfl
theorem st_left : (stF na sk p l sd la).lookup ("left" : Str) = some (.int l) := rfl
theorem st_said : (stF na sk p l sd la).lookup ("said" : Str) = some (.ref sd) := rfl
theorem st_last : (stF na sk p l sd la).lookup ("last" : Str) = some la := rfl
theorem st_turn : (stF na sk p l sd la).lookup ("turn" : Str) = none := rfl
theorem st_stand : (stF na sk p l sd la).lookup ("stand" : Str) = none := rfl
theorem sp_stack : putF ("stack" : Str) (.ref sk') (stF na sk p l sd la) = stF na sk' p l sd la := rfl
theorem sp_place : putF ("place" : Str) (.int (p' : Nat)) (stF na sk p l sd la) = stF na sk p' l sd la := rfl
theorem sp_place1 : putF ("place" : Str) (.int ((p : Nat) + 1)) (stF na sk p l sd la) = stF na sk (p + 1) l sd la := rfl
theorem sp_left : putF ("left" : Str) (.int l') (stF na sk p l sd la) = stF na sk p l' sd la := rfl
theorem sp_last : putF ("last" : Str) la' (stF na sk p l sd la) = stF na sk p l sd la' := rfl
theorem st_len : (stF na sk p l sd la).length < 1000 := by show 6 < 1000; decide
end
/-- the state s at o: its dict, its lists -/
structure StAt (c : CA) (H : Hp) (o na sk sd : Addr) (s : MS) : Prop where
  ins : ∃ dx la, H o = some (.ins c.state dx (stF na sk s.place s.left sd la)) ∧ Tp H (lastD s.last) la
  nm : H na = some (.dK (kvs s.names))
  st : H sk = some (.lst (vls s.st.reverse))
  said : H sd = some (.lst (vls s.said))
  ne : sk ≠ sd
theorem StAt.there {c : CA} {H : Hp} {o na sk sd : Addr} {s : MS} (h : StAt c H o na sk sd s) : ∀ x ∈ [o, na, sk, sd], H x ≠ none := by
  obtain ⟨dx, la, h1, _⟩ := h.ins
  intro x hx
  simp only [List.mem_cons, List.not_mem_nil, or_false] at hx
  rcases hx with rfl | rfl | rfl | rfl
  · rw [h1]; simp
  · rw [h.nm]; simp
  · rw [h.st]; simp
  · rw [h.said]; simp
theorem StAt.keep {c : CA} {H H' : Hp} {o na sk sd : Addr} {s : MS} {S : List Addr} (h : StAt c H o na sk sd s) (f : Fr S H H') (d : Disj [o, na, sk, sd] S) : StAt c H' o na sk sd s := by
  obtain ⟨dx, la, h1, h2⟩ := h.ins
  exact ⟨⟨dx, la, f.keep _ _ h1 (d _ (by simp)), h2.tups f.tu⟩, f.keep _ _ h.nm (d _ (by simp)), f.keep _ _ h.st (d _ (by simp)), f.keep _ _ h.said (d _ (by simp)), h.ne⟩
theorem StAt.al {c : CA} {H H' : Hp} {o na sk sd p : Addr} {s : MS} {u : HO} (h : StAt c H o na sk sd s) (a : Al H p u H') : StAt c H' o na sk sd s := h.keep (a.fr (S := [])) (fun _ _ z => by cases z)
/-- what a state's step leaves -/
def sp_State___init__ (c : CA) : Sp := fun vs H Q _ => ∃ (o dx a : Addr) (m : Nms) (l : Int), vs = [.ref o, .ref a, .int l] ∧ H o = some (.ins c.state dx []) ∧ H a = some (.dK (kvs m)) ∧ a ≠ o ∧
  ∀ na sk sd H', H na = none → H sk = none → H sd = none → StAt c H' o na sk sd ⟨m, [], 0, l, [], none⟩ → Fr [o] H H' → Q .non H'
theorem len_State___init__ {c : CA} (vs : List V) (H : Hp) (Q : VK) (E : XK) (h : sp_State___init__ c vs H Q E) : vs.length = 3 := by
  obtain ⟨_, _, _, _, _, rfl, _⟩ := h
  rfl
def sp_State_turn (c : CA) : Sp := fun vs H Q _ => ∃ (o na sk sd : Addr) (s : MS), vs = [.ref o] ∧ StAt c H o na sk sd s ∧
  ∀ H', StAt c H' o na sk sd { s with left := s.left - 1, last := if s.left - 1 < 0 then some .dry else s.last } → Fr [o] H H' → Q (.bl (decide (0 ≤ s.left - 1))) H'
theorem len_State_turn {c : CA} (vs : List V) (H : Hp) (Q : VK) (E : XK) (h : sp_State_turn c vs H Q E) : vs.length = 1 := by
  obtain ⟨_, _, _, _, _, rfl, _⟩ := h
  rfl
def sp_work (c : CA) : Sp := fun vs H Q _ => ∃ (o na sk sd : Addr) (s : MS) (g : Sg) (x y : Vl) (r : List Vl), vs = [.ref o, .str g.s] ∧ StAt c H o na sk sd s ∧ s.st = y :: x :: r ∧ x.ok ∧ y.ok ∧ r.length < 8000000 ∧
  ∀ H' sk', StAt c H' o na sk' sd (match wk g x y with
    | some z => { s with st := z :: r, place := s.place + 1 }
    | none => { s with last := some (.mixed s.place) }) → (sk' = sk ∨ H sk' = none) → Fr [o] H H' → Q .non H'
theorem len_work {c : CA} (vs : List V) (H : Hp) (Q : VK) (E : XK) (h : sp_work c vs H Q E) : vs.length = 2 := by
  obtain ⟨_, _, _, _, _, _, _, _, _, rfl, _⟩ := h
  rfl
def sp_do_row (c : CA) : Sp := fun vs H Q _ => ∃ (v : V) (code : List Rw) (o na sk sd : Addr) (s : MS), vs = [v, .ref o] ∧ Tp H (rowsD code) v ∧ StAt c H o na sk sd s ∧ s.ok ∧ Fit code s ∧ s.st.length < 8000000 ∧ s.said.length < 8000000 ∧
  ∀ H' sk', StAt c H' o na sk' sd (step code s) → (sk' = sk ∨ H sk' = none) → Fr [o, na, sk, sd] H H' → Q .non H'
theorem len_do_row {c : CA} (vs : List V) (H : Hp) (Q : VK) (E : XK) (h : sp_do_row c vs H Q E) : vs.length = 2 := by
  obtain ⟨_, _, _, _, _, _, _, rfl, _⟩ := h
  rfl
/-! ### the law's own state: a dict -/
def lsK (nb : Addr) (l : Int) (p : Nat) (hb sb : Addr) (la : V) : List (Key × V) := [(.inr (wd 31), .ref nb), (.inr (wd 33), .int l), (.inr (wd 30), .int (p : Nat)), (.inr (wd 32), .ref hb), (.inr (wd 34), .ref sb), (.inr (wd 35), la)]
structure LsAt (H : Hp) (d nb hb sb : Addr) (s : MS) : Prop where
  dic : ∃ la, H d = some (.dK (lsK nb s.left s.place hb sb la)) ∧ Tp H (lastD s.last) la
  nm : H nb = some (.dK (kvs s.names))
  st : H hb = some (.lst (vls s.st.reverse))
  said : H sb = some (.lst (vls s.said))
  ne : nb ≠ d
theorem LsAt.keep {H H' : Hp} {d nb hb sb : Addr} {s : MS} {S : List Addr} (h : LsAt H d nb hb sb s) (f : Fr S H H') (dj : Disj [d, nb, hb, sb] S) : LsAt H' d nb hb sb s := by
  obtain ⟨la, h1, h2⟩ := h.dic
  exact ⟨⟨la, f.keep _ _ h1 (dj _ (by simp)), h2.tups f.tu⟩, f.keep _ _ h.nm (dj _ (by simp)), f.keep _ _ h.st (dj _ (by simp)), f.keep _ _ h.said (dj _ (by simp)), h.ne⟩
theorem LsAt.there {H : Hp} {d nb hb sb : Addr} {s : MS} (h : LsAt H d nb hb sb s) : ∀ x ∈ [d, nb, hb, sb], H x ≠ none := by
  obtain ⟨la, h1, _⟩ := h.dic
  intro x hx
  simp only [List.mem_cons, List.not_mem_nil, or_false] at hx
  rcases hx with rfl | rfl | rfl | rfl
  · rw [h1]; simp
  · rw [h.nm]; simp
  · rw [h.st]; simp
  · rw [h.said]; simp
def sp_L_step : Sp := fun vs H Q _ => ∃ (v : V) (code : List Rw) (d nb hb sb : Addr) (s : MS), vs = [v, .ref d] ∧ Tp H (rowsD code) v ∧ LsAt H d nb hb sb s ∧ s.ok ∧ Fit code s ∧ s.st.length < 8000000 ∧ s.said.length < 8000000 ∧
  ∀ H' nb' hb' sb', LsAt H' d nb' hb' sb' (step code s) → Own H [d, nb, hb, sb] [d, nb', hb', sb'] → Fr [d] H H' → Q .non H'
theorem len_L_step (vs : List V) (H : Hp) (Q : VK) (E : XK) (h : sp_L_step vs H Q E) : vs.length = 2 := by
  obtain ⟨_, _, _, _, _, _, _, rfl, _⟩ := h
  rfl
def sp_L_begun : Sp := fun vs H Q _ => ∃ (a : Addr) (m : Nms) (l : Int) (p : Nat), vs = [.ref a, .int l, .int (p : Nat)] ∧ H a = some (.dK (kvs m)) ∧
  ∀ d nb hb sb H', H d = none → H nb = none → H hb = none → H sb = none → LsAt H' d nb hb sb ⟨m, [], p, l, [], none⟩ → Fr [] H H' → Q (.ref d) H'
theorem len_L_begun (vs : List V) (H : Hp) (Q : VK) (E : XK) (h : sp_L_begun vs H Q E) : vs.length = 3 := by
  obtain ⟨_, _, _, _, rfl, _⟩ := h
  rfl
def sp_L_same (c : CA) : Sp := fun vs H Q _ => ∃ (o na sk sd d nb hb sb : Addr) (s : MS), vs = [.ref d, .ref o] ∧ StAt c H o na sk sd s ∧ LsAt H d nb hb sb s ∧ s.ok ∧ Q (.bl true) H
theorem len_L_same {c : CA} (vs : List V) (H : Hp) (Q : VK) (E : XK) (h : sp_L_same c vs H Q E) : vs.length = 2 := by
  obtain ⟨_, _, _, _, _, _, _, _, _, rfl, _⟩ := h
  rfl
def sp_L_names : Sp := fun vs H Q _ => ∃ (b l : Addr), vs = [.ref b] ∧ BoxAt H b l ∧ ∀ a m H', H a = none → H' a = some (.dK (kvs m)) → NmOk m → BoxAt H' b l → Fr [b, l] H H' → Q (.ref a) H'
theorem len_L_names (vs : List V) (H : Hp) (Q : VK) (E : XK) (h : sp_L_names vs H Q E) : vs.length = 1 := by
  obtain ⟨_, _, rfl, _⟩ := h
  rfl

/-- State.__init__ from 4 -/
def t_State___init___4 (K : PySem.W.Frag) (c : CA) : TS :=
  (tSeq (xSet c.state (tVar 0) (xLst tNil) ("said" : Str))
    (xSet c.state (tVar 0) (tC .non) ("last" : Str)))

/-- State.__init__ from 3 -/
def t_State___init___3 (K : PySem.W.Frag) (c : CA) : TS :=
  tSeq (xSet c.state (tVar 0) (tVar 2) ("left" : Str)) (t_State___init___4 K c)

/-- State.__init__ from 2 -/
def t_State___init___2 (K : PySem.W.Frag) (c : CA) : TS :=
  tSeq (xSet c.state (tVar 0) (tC (.int 0)) ("place" : Str)) (t_State___init___3 K c)

/-- State.__init__ from 1 -/
def t_State___init___1 (K : PySem.W.Frag) (c : CA) : TS :=
  tSeq (xSet c.state (tVar 0) (xLst tNil) ("stack" : Str)) (t_State___init___2 K c)

/-- State.__init__ -/
def t_State___init__ (K : PySem.W.Frag) (c : CA) : TS :=
  tSeq (xSet c.state (tVar 0) (tCB rDctD (tCons (tVar 1) tNil)) ("names" : Str)) (t_State___init___1 K c)

/-- State.turn from 1 -/
def t_State_turn_1 (K : PySem.W.Frag) (c : CA) : TS :=
  (tSeq (tIfS (tTest (tOp (rI0 fun i j => .bl (decide (i < j))) (xFld c.state (tVar 0) ("left" : Str)) (tC (.int 0)))) (xSet c.state (tVar 0) (xTup (tCons (tC (.str (wd 27))) tNil)) ("last" : Str)) tNext)
    (tRet (tOp (rI0 fun i j => .bl (decide (j ≤ i))) (xFld c.state (tVar 0) ("left" : Str)) (tC (.int 0)))))

/-- State.turn -/
def t_State_turn (K : PySem.W.Frag) (c : CA) : TS :=
  tSeq (xSet c.state (tVar 0) (tOp (rI0 fun i j => .int (i - j)) (xFld c.state (tVar 0) ("left" : Str)) (tC (.int 1))) ("left" : Str)) (t_State_turn_1 K c)

/-- work from 2 -/
def t_work_2 (K : PySem.W.Frag) (c : CA) : TS :=
  (tSeq (xSet c.state (tVar 0) (tOp rCt (tSl rSL (xFld c.state (tVar 0) ("stack" : Str)) tNoPart (tPart (tUn (rU fun i => .int (-i)) (tC (.int 2))))) (xLst (tCons (tVar 2) tNil))) ("stack" : Str))
    (xSet c.state (tVar 0) (tOp (rI0 fun i j => .int (i + j)) (xFld c.state (tVar 0) ("place" : Str)) (tC (.int 1))) ("place" : Str)))

/-- work from 1 -/
def t_work_1 (K : PySem.W.Frag) (c : CA) : TS :=
  tSeq (tIfS (tTest (tOp rIsN (tVar 2) (tC .non))) (tSeq (xSet c.state (tVar 0) (xTup (tCons (tC (.str (wd 28))) (tCons (xFld c.state (tVar 0) ("place" : Str)) tNil))) ("last" : Str))
    tRetN) tNext) (t_work_2 K c)

/-- work -/
def t_work (K : PySem.W.Frag) (c : CA) : TS :=
  tSeq (tAsg (tCall sp_worked [] E0 (tCons (tVar 1) (tCons (tOp rXL (xFld c.state (tVar 0) ("stack" : Str)) (tUn (rU fun i => .int (-i)) (tC (.int 2)))) (tCons (tOp rXL (xFld c.state (tVar 0) ("stack" : Str)) (tUn (rU fun i => .int (-i)) (tC (.int 1)))) tNil)))) (gName 2)) (t_work_1 K c)

/-- do_row from 6 -/
def t_do_row_6 (K : PySem.W.Frag) (c : CA) : TS :=
  (tSeq (tIfS (tOr (tTest (tOp rEq (tVar 3) (tC (.str (wd 0))))) (tTest (tOp rEq (tVar 3) (tC (.str (wd 1)))))) (tDrop (tApp (xFld c.state (tVar 1) ("stack" : Str)) (tOp rXT (tVar 2) (tC (.int 1))))) (tIfS (tTest (tOp rEq (tVar 3) (tC (.str (wd 2))))) (tDrop (tApp (xFld c.state (tVar 1) ("stack" : Str)) (xGet2S (xFld c.state (tVar 1) ("names" : Str)) (tOp rXT (tVar 2) (tC (.int 1))) (tC (.int 0))))) (tIfS (tTest (tOp rEq (tVar 3) (tC (.str (wd 8))))) (xPutS (xFld c.state (tVar 1) ("names" : Str)) (tOp rXT (tVar 2) (tC (.int 1))) (tPopL (xFld c.state (tVar 1) ("stack" : Str)))) (tIfS (tTest (tOp rEq (tVar 3) (tC (.str (wd 7))))) (tDrop (tApp (xFld c.state (tVar 1) ("said" : Str)) (tPopL (xFld c.state (tVar 1) ("stack" : Str))))) tNext))))
    (xSet c.state (tVar 1) (tOp (rI0 fun i j => .int (i + j)) (xFld c.state (tVar 1) ("place" : Str)) (tC (.int 1))) ("place" : Str)))

/-- do_row from 5 -/
def t_do_row_5 (K : PySem.W.Frag) (c : CA) : TS :=
  tSeq (tIfS (tOr (tTest (tOp rEq (tVar 3) (tC (.str (wd 10))))) (tAnd (tTest (tOp rEq (tVar 3) (tC (.str (wd 9))))) (tNot (tB (tCall sp_is_so [] E0 (tCons (tPopL (xFld c.state (tVar 1) ("stack" : Str))) tNil)))))) (tSeq (xSet c.state (tVar 1) (tOp rXT (tVar 2) (tC (.int 1))) ("place" : Str))
    tRetN) tNext) (t_do_row_6 K c)

/-- do_row from 4 -/
def t_do_row_4 (K : PySem.W.Frag) (c : CA) : TS :=
  tSeq (tIfS (tAnd (tTest (tOp rEq (tVar 3) (tC (.str (wd 11))))) (tNot (tB (xMeth c.state ("turn" : Str) (sp_State_turn c) (tVar 1) tNil)))) tRetN tNext) (t_do_row_5 K c)

/-- do_row from 3 -/
def t_do_row_3 (K : PySem.W.Frag) (c : CA) : TS :=
  tSeq (tIfS (tTest (tOp rEq (tVar 3) (tC (.str (wd 12))))) (tSeq (xSet c.state (tVar 1) (xTup (tCons (tC (.str (wd 26))) tNil)) ("last" : Str))
    tRetN) tNext) (t_do_row_4 K c)

/-- do_row from 2 -/
def t_do_row_2 (K : PySem.W.Frag) (c : CA) : TS :=
  tSeq (tIfS (tTest (tOp (rInT false) (tVar 3) (xTup (tCons (tC (.str (wd 3))) (tCons (tC (.str (wd 4))) (tCons (tC (.str (wd 5))) (tCons (tC (.str (wd 6))) tNil))))))) (tSeq (tDrop (tCall (sp_work c) [] E0 (tCons (tVar 1) (tCons (tVar 3) tNil))))
    tRetN) tNext) (t_do_row_3 K c)

/-- do_row from 1 -/
def t_do_row_1 (K : PySem.W.Frag) (c : CA) : TS :=
  tSeq (tAsg (tOp rXT (tVar 2) (tC (.int 0))) (gName 3)) (t_do_row_2 K c)

/-- do_row -/
def t_do_row (K : PySem.W.Frag) (c : CA) : TS :=
  tSeq (tAsg (tOp rXT (tVar 0) (xFld c.state (tVar 1) ("place" : Str))) (gName 2)) (t_do_row_1 K c)

/-! ### the end of a list -/
theorem atI_last1 {f : Vl → V} {y : Vl} {r : List Vl} : atI ((y :: r).reverse.map f) (-1) = some (f y) := by
  have h : ((y :: r).reverse.map f)[r.length]? = some (f y) := by simp
  unfold atI ixN
  simp only [List.length_map, List.length_reverse, List.length_cons]
  rw [if_neg (by omega), if_pos (by omega)]
  simp only [Option.bind_some]
  rw [show ((-1 : Int) + ((r.length + 1 : Nat) : Int)).toNat = r.length by omega]
  exact h
theorem atI_last2 {f : Vl → V} {x y : Vl} {r : List Vl} : atI ((y :: x :: r).reverse.map f) (-2) = some (f x) := by
  have h : ((y :: x :: r).reverse.map f)[r.length]? = some (f x) := by simp
  unfold atI ixN
  simp only [List.length_map, List.length_reverse, List.length_cons]
  rw [if_neg (by omega), if_pos (by omega)]
  simp only [Option.bind_some]
  rw [show ((-2 : Int) + ((r.length + 1 + 1 : Nat) : Int)).toNat = r.length by omega]
  exact h
theorem cut_last1 {f : Vl → V} {y : Vl} {r : List Vl} : cutV ((y :: r).reverse.map f) none (some (-1)) = r.reverse.map f := by
  unfold cutV HT.sIx
  simp only [List.length_map, List.length_reverse, List.length_cons, List.drop_zero, Nat.sub_zero]
  rw [if_pos (by decide), show ((-1 : Int) + ((r.length + 1 : Nat) : Int)).toNat = r.length by omega]
  simp
theorem cut_last2 {f : Vl → V} {x y : Vl} {r : List Vl} : cutV ((y :: x :: r).reverse.map f) none (some (-2)) = r.reverse.map f := by
  unfold cutV HT.sIx
  simp only [List.length_map, List.length_reverse, List.length_cons, List.drop_zero, Nat.sub_zero]
  rw [if_pos (by decide), show ((-2 : Int) + ((r.length + 1 + 1 : Nat) : Int)).toNat = r.length by omega]
  simp
theorem get_last {f : Vl → V} {y : Vl} {r : List Vl} : ((y :: r).reverse.map f)[((y :: r).reverse.map f).length - 1]? = some (f y) := by simp
theorem drop_last {f : Vl → V} {y : Vl} {r : List Vl} : ((y :: r).reverse.map f).dropLast = r.reverse.map f := by simp
theorem push_last {f : Vl → V} {y : Vl} {r : List Vl} : r.reverse.map f ++ [f y] = (y :: r).reverse.map f := by simp
theorem lt1000 {n : Nat} (h : Nat.ble n 999 = true) : n < 1000 := Nat.lt_succ_of_le (Nat.le_of_ble_eq_true h)
theorem rd_State___init__ {K : PySem.W.Frag} {c : CA} {vs : List V} {H : Hp} {Q : VK} {E : XK} (h : sp_State___init__ c vs H Q E) : t_State___init__ K c { nx := fun _ H' => Q .non H', rt := Q } (start ["_", "_", "_"] vs) H := by
  obtain ⟨o, dx, a, m, l, rfl, ho, ha, hne, k⟩ := h
  show t_State___init__ K c _ [some (.ref o), some (.ref a), some (.int l)] H
  unfold t_State___init__; refine st_seq ?_
  push_cast [ha]
  intro na H1 A1
  replace ho := A1.k ho
  push_cast [ho]
  refine ⟨lt1000 rfl, fun H2 M2 => ?_⟩
  have nn : na ≠ o := ne_of A1.at_ ho (by simp)
  have hna := M2.k A1.at_ nn
  replace ho := M2.at_
  unfold t_State___init___1; refine st_seq ?_
  push_cast
  refine ⟨(by simp only [List.length_cons, List.length_nil]; decide), fun sk H3 A3 => ?_⟩
  replace ho := A3.k ho; replace hna := A3.k hna
  have hsk := A3.at_
  push_cast [ho]
  refine ⟨lt1000 rfl, fun H4 M4 => ?_⟩
  replace hna := M4.k hna (ne_of hna ho (by simp)); replace hsk := M4.k hsk (ne_of hsk ho (by simp)); replace ho := M4.at_
  unfold t_State___init___2; refine st_seq ?_
  push_cast [ho]
  refine ⟨lt1000 rfl, fun H5 M5 => ?_⟩
  replace hna := M5.k hna (ne_of hna ho (by simp)); replace hsk := M5.k hsk (ne_of hsk ho (by simp)); replace ho := M5.at_
  unfold t_State___init___3; refine st_seq ?_
  push_cast [ho]
  refine ⟨lt1000 rfl, fun H6 M6 => ?_⟩
  replace hna := M6.k hna (ne_of hna ho (by simp)); replace hsk := M6.k hsk (ne_of hsk ho (by simp)); replace ho := M6.at_
  unfold t_State___init___4; refine st_seq ?_
  push_cast
  refine ⟨(by simp only [List.length_cons, List.length_nil]; decide), fun sd H7 A7 => ?_⟩
  have nsd : sk ≠ sd := ne_of_none hsk A7.new
  replace ho := A7.k ho; replace hna := A7.k hna; replace hsk := A7.k hsk
  have hsd := A7.at_
  push_cast [ho]
  refine ⟨lt1000 rfl, fun H8 M8 => ?_⟩
  replace hna := M8.k hna (ne_of hna ho (by simp)); replace hsk := M8.k hsk (ne_of hsk ho (by simp)); replace hsd := M8.k hsd (ne_of hsd ho (by simp)); replace ho := M8.at_
  push_cast [ho]
  refine ⟨lt1000 rfl, fun H9 M9 => ?_⟩
  replace hna := M9.k hna (ne_of hna ho (by simp)); replace hsk := M9.k hsk (ne_of hsk ho (by simp)); replace hsd := M9.k hsd (ne_of hsd ho (by simp)); replace ho := M9.at_
  have f1 : Fr [o] H H1 := A1.fr
  have f2 := f1.mu M2 (by simp)
  have f6 := (((f2.al A3).mu M4 (by simp)).mu M5 (by simp)).mu M6 (by simp)
  have f9 := ((f6.al A7).mu M8 (by simp)).mu M9 (by simp)
  have no : ∀ x, x ≠ o → x ∉ [o] := fun x h => by simpa using h
  refine k na sk sd H9 A1.new (f2.free A3.new (no _ (ne_of hsk ho (by simp)))) (f6.free A7.new (no _ (ne_of hsd ho (by simp)))) ⟨⟨dx, .non, ho, by simp only [lastD, tp_non]⟩, hna, hsk, hsd, nsd⟩ f9
theorem rd_State_turn {K : PySem.W.Frag} {c : CA} {vs : List V} {H : Hp} {Q : VK} {E : XK} (h : sp_State_turn c vs H Q E) : t_State_turn K c { nx := fun _ H' => Q .non H', rt := Q } (start ["_"] vs) H := by
  obtain ⟨o, na, sk, sd, s, rfl, S, k⟩ := h
  show t_State_turn K c _ [some (.ref o)] H
  obtain ⟨⟨dx, la, ho, hla⟩, hna, hsk, hsd, ne⟩ := S
  unfold t_State_turn; refine st_seq ?_
  push_cast [ho, st_left]
  refine ⟨st_len, fun H1 M1 => ?_⟩
  replace hna := M1.k hna (ne_of hna ho (by simp)); replace hsk := M1.k hsk (ne_of hsk ho (by simp)); replace hsd := M1.k hsd (ne_of hsd ho (by simp)); replace ho := M1.at_
  replace hla := hla.tups M1.tu
  rw [sp_left] at ho
  unfold t_State_turn_1; refine st_seq ?_
  push_cast [ho, st_left]
  refine i2 (fun hl => ?_) fun hl => ?_
  · refine ⟨(by simp only [List.length_cons, List.length_nil]; decide), fun p H2 A2 => ?_⟩
    replace ho := A2.k ho; replace hna := A2.k hna; replace hsk := A2.k hsk; replace hsd := A2.k hsd
    have hp := A2.at_
    push_cast [ho]
    refine ⟨st_len, fun H3 M3 => ?_⟩
    replace hna := M3.k hna (ne_of hna ho (by simp)); replace hsk := M3.k hsk (ne_of hsk ho (by simp)); replace hsd := M3.k hsd (ne_of hsd ho (by simp)); replace hp := M3.k hp (ne_of hp ho (by simp)); replace ho := M3.at_
    rw [sp_last] at ho
    push_cast [ho, st_left]
    refine k H3 ⟨⟨dx, _, ho, ?_⟩, hna, hsk, hsd, ne⟩ (((M1.fr (by simp)).al A2).mu M3 (by simp))
    rw [if_pos hl]
    exact .tup hp (.cons (.str _) .nil)
  · refine k H1 ⟨⟨dx, la, ho, ?_⟩, hna, hsk, hsd, ne⟩ (M1.fr (by simp))
    rw [if_neg hl]
    exact hla
theorem rd_work {K : PySem.W.Frag} {c : CA} {vs : List V} {H : Hp} {Q : VK} {E : XK} (h : sp_work c vs H Q E) : t_work K c { nx := fun _ H' => Q .non H', rt := Q } (start ["_", "_", "_"] vs) H := by
  obtain ⟨o, na, sk, sd, s, g, x, y, r, rfl, S, es, hx, hy, hl, k⟩ := h
  show t_work K c _ [some (.ref o), some (.str g.s), none] H
  obtain ⟨⟨dx, la, ho, hla⟩, hna, hsk, hsd, ne⟩ := S
  rw [es] at hsk
  unfold vls at hsk
  unfold t_work; refine st_seq ?_
  push_cast [ho, st_stack, hsk, Int.reduceNeg, atI_last1, atI_last2]
  refine ⟨g, x, y, rfl, hx, hy, fun H1 f1 => ?_⟩
  have keep : ∀ a u, H a = some u → H1 a = some u := fun a u h => f1.keep a u h (by simp)
  replace ho := keep _ _ ho
  replace hna := keep _ _ hna
  replace hsk := keep _ _ hsk
  replace hsd := keep _ _ hsd
  replace hla := hla.tups f1.tu
  unfold t_work_1; refine st_seq ?_
  cases e : wk g x y with
  | none =>
    simp only [e] at k
    push_cast [ov, e]
    refine st_seq ?_
    push_cast [ho, st_place]
    refine ⟨(by simp only [List.length_cons, List.length_nil]; decide), fun p H2 A2 => ?_⟩
    replace ho := A2.k ho; replace hna := A2.k hna; replace hsk := A2.k hsk; replace hsd := A2.k hsd
    have hp := A2.at_
    push_cast [ho]
    refine ⟨st_len, fun H3 M3 => ?_⟩
    replace hna := M3.k hna (ne_of hna ho (by simp)); replace hsk := M3.k hsk (ne_of hsk ho (by simp)); replace hsd := M3.k hsd (ne_of hsd ho (by simp)); replace hp := M3.k hp (ne_of hp ho (by simp)); replace ho := M3.at_
    rw [sp_last] at ho
    exact k H3 sk ⟨⟨dx, _, ho, .tup hp (.cons (.str _) (.cons (.int _) .nil))⟩, hna, by rw [es]; exact hsk, hsd, ne⟩ (.inl rfl) (((f1.sub0).al A2).mu M3 (by simp))
  | some z =>
    simp only [e] at k
    have nz : (z.v = V.non) = False := by cases z <;> simp [Vl.v]
    push_cast [ov, nz]
    unfold t_work_2; refine st_seq ?_
    push_cast [ho, st_stack, hsk, Int.reduceNeg, cut_last2]
    intro p H2 A2
    refine ⟨(by simp only [List.length_cons, List.length_nil]; decide), fun q H3 A3 => ?_⟩
    replace ho := A2.k ho; replace hna := A2.k hna; replace hsk := A2.k hsk; replace hsd := A2.k hsd
    have hp := A2.at_
    replace ho := A3.k ho; replace hna := A3.k hna; replace hsk := A3.k hsk; replace hsd := A3.k hsd; replace hp := A3.k hp
    push_cast [hp, A3.at_]
    refine ⟨big (by simp only [List.length_map, List.length_reverse, List.length_cons, List.length_nil]; omega), fun q4 H4 A4 => ?_⟩
    have nq : H q4 = none := ((f1.al A2).al A3).free A4.new (by simp)
    have nd : q4 ≠ sd := fun e => ne_of_none hsd A4.new e.symm
    replace ho := A4.k ho; replace hna := A4.k hna; replace hsk := A4.k hsk; replace hsd := A4.k hsd
    have hq := A4.at_
    push_cast [ho]
    refine ⟨st_len, fun H5 M5 => ?_⟩
    replace hna := M5.k hna (ne_of hna ho (by simp)); replace hsk := M5.k hsk (ne_of hsk ho (by simp)); replace hsd := M5.k hsd (ne_of hsd ho (by simp)); replace hq := M5.k hq (ne_of hq ho (by simp)); replace ho := M5.at_
    rw [sp_stack] at ho
    push_cast [ho, st_place]
    refine ⟨st_len, fun H6 M6 => ?_⟩
    replace hna := M6.k hna (ne_of hna ho (by simp)); replace hsk := M6.k hsk (ne_of hsk ho (by simp)); replace hsd := M6.k hsd (ne_of hsd ho (by simp)); replace hq := M6.k hq (ne_of hq ho (by simp)); replace ho := M6.at_
    rw [sp_place1] at ho
    rw [push_last] at hq
    refine k H6 q4 ⟨⟨dx, la, ho, ((((hla.tups A2.tu).tups A3.tu).tups A4.tu).tups M5.tu).tups M6.tu⟩, hna, hq, hsd, nd⟩ (.inr nq) ((((((f1.sub0).al A2).al A3).al A4).mu M5 (by simp)).mu M6 (by simp))
theorem Fit.at_ {code : List Rw} {s : MS} {H : Hp} {v : V} (f : Fit code s) (t : Tp H (rowsD code) v) : ∃ a rows r y, v = .ref a ∧ H a = some (.tup rows) ∧ atI rows (s.place : Int) = some y ∧ code[s.place]? = some r ∧ Tp H r.d y ∧ r.need ≤ s.st.length ∧ r.okv := by
  obtain ⟨r, h1, h2, h3⟩ := f.row
  unfold rowsD at t
  rw [tp_tup] at t
  obtain ⟨a, xs, rfl, ha, hx⟩ := t
  obtain ⟨y, hy, ty⟩ := hx.get (i := s.place) (d := r.d) (by rw [List.getElem?_map, h1]; rfl)
  exact ⟨a, xs, r, y, rfl, ha, atI_nat hy, h1, ty, h2, h3⟩
theorem tp1 {H : Hp} {a : Str} {v : V} (h : Tp H (.tuple [.str a]) v) : ∃ p, v = .ref p ∧ H p = some (.tup [.str a]) := by
  simp only [tp_tup, tpl_cons, tpl_nil, tp_str] at h
  obtain ⟨p, xs, rfl, hp, _, r1, rfl, rfl, rfl⟩ := h
  exact ⟨p, rfl, hp⟩
theorem tp2i {H : Hp} {a : Str} {i : Int} {v : V} (h : Tp H (.tuple [.str a, .int i]) v) : ∃ p, v = .ref p ∧ H p = some (.tup [.str a, .int i]) := by
  simp only [tp_tup, tpl_cons, tpl_nil, tp_str, tp_int] at h
  obtain ⟨p, xs, rfl, hp, _, r1, rfl, rfl, _, r2, rfl, rfl, rfl⟩ := h
  exact ⟨p, rfl, hp⟩
theorem tp2s {H : Hp} {a i : Str} {v : V} (h : Tp H (.tuple [.str a, .str i]) v) : ∃ p, v = .ref p ∧ H p = some (.tup [.str a, .str i]) := by
  simp only [tp_tup, tpl_cons, tpl_nil, tp_str, tp_int] at h
  obtain ⟨p, xs, rfl, hp, _, r1, rfl, rfl, _, r2, rfl, rfl, rfl⟩ := h
  exact ⟨p, rfl, hp⟩
theorem getD_v (m : Nms) (x : Str) : (Option.map Vl.v (nget m x)).getD (.int 0) = (ngetD m x).v := by
  unfold ngetD
  cases nget m x <;> rfl
theorem vls_snoc (l : List Vl) (y : Vl) : vls l ++ [y.v] = vls (l ++ [y]) := by simp [vls]
theorem rd_do_row {K : PySem.W.Frag} {c : CA} {vs : List V} {H : Hp} {Q : VK} {E : XK} (h : sp_do_row c vs H Q E) : t_do_row K c { nx := fun _ H' => Q .non H', rt := Q } (start ["_", "_", "_", "_"] vs) H := by
  obtain ⟨v, code, o, na, sk, sd, s, rfl, hv, S, ok, fit, l1, l2, k⟩ := h
  show t_do_row K c _ [some v, some (.ref o), none, none] H
  have S0 := S
  obtain ⟨⟨dx, la, ho, hla⟩, hna, hsk, hsd, ne⟩ := S
  obtain ⟨ca, rows, r, y, rfl, hca, hix, hr, ty, hn, hok⟩ := fit.at_ hv
  rw [step_at hr] at k
  unfold stepR at k
  have nl := ok.nm.len
  cases r with
  | num n =>
    obtain ⟨ra, rfl, hra⟩ := tp2i ty
    unfold t_do_row; refine st_seq ?_
    push_cast [hca, ho, st_place, hix]
    unfold t_do_row_1; refine st_seq ?_
    push_cast [hra]
    unfold t_do_row_2; refine st_seq ?_
    push_cast
    refine ⟨(by simp only [List.length_cons, List.length_nil]; decide), fun p H1 A1 => ?_⟩
    push_cast [A1.at_]
    replace ho := A1.k ho; replace hna := A1.k hna; replace hsk := A1.k hsk; replace hsd := A1.k hsd; replace hra := A1.k hra
    replace hla := hla.tups A1.tu
    unfold t_do_row_3; refine st_seq ?_
    push_cast
    unfold t_do_row_4; refine st_seq ?_
    push_cast
    unfold t_do_row_5; refine st_seq ?_
    push_cast
    unfold t_do_row_6; refine st_seq ?_
    push_cast [ho, st_stack, hsk, hra]
    refine ⟨bigL (by simp [vls]; omega), fun H2 M2 => ?_⟩
    replace hsd := M2.k hsd ne.symm
    replace ho := M2.k ho (ne_of ho hsk (by simp)); replace hna := M2.k hna (ne_of hna hsk (by simp)); replace hsk := M2.at_
    push_cast [ho, st_place]
    refine ⟨st_len, fun H3 M3 => ?_⟩
    replace hna := M3.k hna (ne_of hna ho (by simp)); replace hsk := M3.k hsk (ne_of hsk ho (by simp)); replace hsd := M3.k hsd (ne_of hsd ho (by simp)); replace ho := M3.at_
    rw [sp_place1] at ho
    exact k H3 sk ⟨⟨dx, la, ho, (hla.tups M2.tu).tups M3.tu⟩, hna, by rw [hsk]; simp [vls, Vl.v], hsd, ne⟩ (.inl rfl) ((A1.fr.mu M2 (by simp)).mu M3 (by simp))
  | text n =>
    obtain ⟨ra, rfl, hra⟩ := tp2s ty
    unfold t_do_row; refine st_seq ?_
    push_cast [hca, ho, st_place, hix]
    unfold t_do_row_1; refine st_seq ?_
    push_cast [hra]
    unfold t_do_row_2; refine st_seq ?_
    push_cast
    refine ⟨(by simp only [List.length_cons, List.length_nil]; decide), fun p H1 A1 => ?_⟩
    push_cast [A1.at_]
    replace ho := A1.k ho; replace hna := A1.k hna; replace hsk := A1.k hsk; replace hsd := A1.k hsd; replace hra := A1.k hra
    replace hla := hla.tups A1.tu
    unfold t_do_row_3; refine st_seq ?_
    push_cast
    unfold t_do_row_4; refine st_seq ?_
    push_cast
    unfold t_do_row_5; refine st_seq ?_
    push_cast
    unfold t_do_row_6; refine st_seq ?_
    push_cast [ho, st_stack, hsk, hra]
    refine ⟨bigL (by simp [vls]; omega), fun H2 M2 => ?_⟩
    replace hsd := M2.k hsd ne.symm
    replace ho := M2.k ho (ne_of ho hsk (by simp)); replace hna := M2.k hna (ne_of hna hsk (by simp)); replace hsk := M2.at_
    push_cast [ho, st_place]
    refine ⟨st_len, fun H3 M3 => ?_⟩
    replace hna := M3.k hna (ne_of hna ho (by simp)); replace hsk := M3.k hsk (ne_of hsk ho (by simp)); replace hsd := M3.k hsd (ne_of hsd ho (by simp)); replace ho := M3.at_
    rw [sp_place1] at ho
    exact k H3 sk ⟨⟨dx, la, ho, (hla.tups M2.tu).tups M3.tu⟩, hna, by rw [hsk]; simp [vls, Vl.v], hsd, ne⟩ (.inl rfl) ((A1.fr.mu M2 (by simp)).mu M3 (by simp))
  | name x =>
    obtain ⟨ra, rfl, hra⟩ := tp2s ty
    unfold t_do_row; refine st_seq ?_
    push_cast [hca, ho, st_place, hix]
    unfold t_do_row_1; refine st_seq ?_
    push_cast [hra]
    unfold t_do_row_2; refine st_seq ?_
    push_cast
    refine ⟨(by simp only [List.length_cons, List.length_nil]; decide), fun p H1 A1 => ?_⟩
    push_cast [A1.at_]
    replace ho := A1.k ho; replace hna := A1.k hna; replace hsk := A1.k hsk; replace hsd := A1.k hsd; replace hra := A1.k hra
    replace hla := hla.tups A1.tu
    unfold t_do_row_3; refine st_seq ?_
    push_cast
    unfold t_do_row_4; refine st_seq ?_
    push_cast
    unfold t_do_row_5; refine st_seq ?_
    push_cast
    unfold t_do_row_6; refine st_seq ?_
    push_cast [ho, st_stack, st_names, hsk, hna, hra, valV_kvs, getD_v]
    refine ⟨bigL (by simp [vls]; omega), fun H2 M2 => ?_⟩
    replace hsd := M2.k hsd ne.symm
    replace ho := M2.k ho (ne_of ho hsk (by simp)); replace hna := M2.k hna (ne_of hna hsk (by simp)); replace hsk := M2.at_
    push_cast [ho, st_place]
    refine ⟨st_len, fun H3 M3 => ?_⟩
    replace hna := M3.k hna (ne_of hna ho (by simp)); replace hsk := M3.k hsk (ne_of hsk ho (by simp)); replace hsd := M3.k hsd (ne_of hsd ho (by simp)); replace ho := M3.at_
    rw [sp_place1] at ho
    exact k H3 sk ⟨⟨dx, la, ho, (hla.tups M2.tu).tups M3.tu⟩, hna, by rw [hsk]; simp [vls], hsd, ne⟩ (.inl rfl) ((A1.fr.mu M2 (by simp)).mu M3 (by simp))
  | op g =>
    obtain ⟨ra, rfl, hra⟩ := tp1 ty
    match hst : s.st, hn with
    | y :: x :: q, _ =>
      simp only [hst] at k
      have hx : x.ok := ok.st x (by rw [hst]; simp)
      have hy : y.ok := ok.st y (by rw [hst]; simp)
      unfold t_do_row; refine st_seq ?_
      push_cast [hca, ho, st_place, hix]
      unfold t_do_row_1; refine st_seq ?_
      push_cast [hra]
      unfold t_do_row_2; refine st_seq ?_
      push_cast
      refine ⟨(by simp only [List.length_cons, List.length_nil]; decide), fun p H1 A1 => ?_⟩
      have hin : (decide (wd 3 = g.s) || (decide (wd 4 = g.s) || (decide (wd 5 = g.s) || decide (wd 6 = g.s)))) = true := by cases g <;> simp [Sg.s, Sg.ix]
      push_cast [A1.at_, hin]
      refine st_seq ?_
      push_cast
      refine ⟨o, na, sk, sd, s, g, x, y, q, rfl, S0.al A1, hst, hx, hy, by rw [hst] at l1; simp only [List.length_cons] at l1; omega, fun H2 sk' S2 o2 f2 => ?_⟩
      simp only [hst] at S2
      refine k H2 sk' S2 (o2.imp_right fun z => A1.fr (S := []) |>.free z (by simp)) ((A1.fr.trans f2).mono (by simp))
  | say =>
    obtain ⟨ra, rfl, hra⟩ := tp1 ty
    match hst : s.st, hn with
    | y :: q, _ =>
      simp only [hst] at k
      rw [hst] at hsk
      unfold vls at hsk
      unfold t_do_row; refine st_seq ?_
      push_cast [hca, ho, st_place, hix]
      unfold t_do_row_1; refine st_seq ?_
      push_cast [hra]
      unfold t_do_row_2; refine st_seq ?_
      push_cast
      refine ⟨(by simp only [List.length_cons, List.length_nil]; decide), fun p H1 A1 => ?_⟩
      push_cast [A1.at_]
      replace ho := A1.k ho; replace hna := A1.k hna; replace hsk := A1.k hsk; replace hsd := A1.k hsd; replace hra := A1.k hra
      replace hla := hla.tups A1.tu
      unfold t_do_row_3; refine st_seq ?_
      push_cast
      unfold t_do_row_4; refine st_seq ?_
      push_cast
      unfold t_do_row_5; refine st_seq ?_
      push_cast
      unfold t_do_row_6; refine st_seq ?_
      push_cast [ho, st_stack, st_said, hsk, hsd, get_last]
      intro H2 M2
      replace hsd := M2.k hsd ne.symm
      replace ho := M2.k ho (ne_of ho hsk (by simp)); replace hna := M2.k hna (ne_of hna hsk (by simp)); replace hsk := M2.at_
      rw [drop_last] at hsk
      push_cast [hsd]
      refine ⟨bigL (by simp [vls]; omega), fun H3 M3 => ?_⟩
      replace hsk := M3.k hsk ne
      replace ho := M3.k ho (ne_of ho hsd (by simp)); replace hna := M3.k hna (ne_of hna hsd (by simp)); replace hsd := M3.at_
      push_cast [ho, st_place]
      refine ⟨st_len, fun H4 M4 => ?_⟩
      replace hna := M4.k hna (ne_of hna ho (by simp)); replace hsk := M4.k hsk (ne_of hsk ho (by simp)); replace hsd := M4.k hsd (ne_of hsd ho (by simp)); replace ho := M4.at_
      rw [sp_place1] at ho
      rw [vls_snoc] at hsd
      exact k H4 sk ⟨⟨dx, la, ho, ((hla.tups M2.tu).tups M3.tu).tups M4.tu⟩, hna, hsk, hsd, ne⟩ (.inl rfl) (((A1.fr.mu M2 (by simp)).mu M3 (by simp)).mu M4 (by simp))
  | set x =>
    obtain ⟨ra, rfl, hra⟩ := tp2s ty
    match hst : s.st, hn with
    | y :: q, _ =>
      simp only [hst] at k
      rw [hst] at hsk
      unfold vls at hsk
      unfold t_do_row; refine st_seq ?_
      push_cast [hca, ho, st_place, hix]
      unfold t_do_row_1; refine st_seq ?_
      push_cast [hra]
      unfold t_do_row_2; refine st_seq ?_
      push_cast
      refine ⟨(by simp only [List.length_cons, List.length_nil]; decide), fun p H1 A1 => ?_⟩
      push_cast [A1.at_]
      replace ho := A1.k ho; replace hna := A1.k hna; replace hsk := A1.k hsk; replace hsd := A1.k hsd; replace hra := A1.k hra
      replace hla := hla.tups A1.tu
      unfold t_do_row_3; refine st_seq ?_
      push_cast
      unfold t_do_row_4; refine st_seq ?_
      push_cast
      unfold t_do_row_5; refine st_seq ?_
      push_cast
      unfold t_do_row_6; refine st_seq ?_
      push_cast [ho, st_stack, st_said, hsk, hsd, get_last]
      intro H2 M2
      replace hsd := M2.k hsd ne.symm
      replace ho := M2.k ho (ne_of ho hsk (by simp)); replace hna := M2.k hna (ne_of hna hsk (by simp)); replace hra := M2.k hra (ne_of hra hsk (by simp)); replace hsk := M2.at_
      rw [drop_last] at hsk
      push_cast [ho, st_names, hna, hra]
      refine ⟨bigL (by rw [kvs_length]; omega), fun H3 M3 => ?_⟩
      replace ho := M3.k ho (ne_of ho hna (by simp)); replace hsk := M3.k hsk (ne_of hsk hna (by simp)); replace hsd := M3.k hsd (ne_of hsd hna (by simp)); replace hna := M3.at_
      rw [putK_kvs] at hna
      push_cast [ho, st_place]
      refine ⟨st_len, fun H4 M4 => ?_⟩
      replace hna := M4.k hna (ne_of hna ho (by simp)); replace hsk := M4.k hsk (ne_of hsk ho (by simp)); replace hsd := M4.k hsd (ne_of hsd ho (by simp)); replace ho := M4.at_
      rw [sp_place1] at ho
      exact k H4 sk ⟨⟨dx, la, ho, ((hla.tups M2.tu).tups M3.tu).tups M4.tu⟩, hna, hsk, hsd, ne⟩ (.inl rfl) (((A1.fr.mu M2 (by simp)).mu M3 (by simp)).mu M4 (by simp))
  | «unless» q =>
    obtain ⟨ra, rfl, hra⟩ := tp2i ty
    match hst : s.st, hn with
    | y :: z, _ =>
      simp only [hst] at k
      rw [hst] at hsk
      unfold vls at hsk
      unfold t_do_row; refine st_seq ?_
      push_cast [hca, ho, st_place, hix]
      unfold t_do_row_1; refine st_seq ?_
      push_cast [hra]
      unfold t_do_row_2; refine st_seq ?_
      push_cast
      refine ⟨(by simp only [List.length_cons, List.length_nil]; decide), fun p H1 A1 => ?_⟩
      push_cast [A1.at_]
      replace ho := A1.k ho; replace hna := A1.k hna; replace hsk := A1.k hsk; replace hsd := A1.k hsd; replace hra := A1.k hra
      replace hla := hla.tups A1.tu
      unfold t_do_row_3; refine st_seq ?_
      push_cast
      unfold t_do_row_4; refine st_seq ?_
      push_cast
      unfold t_do_row_5; refine st_seq ?_
      push_cast [ho, st_stack, hsk, get_last]
      intro H2 M2
      replace hsd := M2.k hsd ne.symm
      replace ho := M2.k ho (ne_of ho hsk (by simp)); replace hna := M2.k hna (ne_of hna hsk (by simp)); replace hra := M2.k hra (ne_of hra hsk (by simp)); replace hsk := M2.at_
      rw [drop_last] at hsk
      refine ⟨y, rfl, fun H3 f3 => ?_⟩
      have keep : ∀ a u, H2 a = some u → H3 a = some u := fun a u h => f3.keep a u h (by simp)
      replace ho := keep _ _ ho
      replace hna := keep _ _ hna
      replace hsk := keep _ _ hsk
      replace hsd := keep _ _ hsd
      replace hra := keep _ _ hra
      replace hla := (hla.tups M2.tu).tups f3.tu
      have F3 : Fr [o, na, sk, sd] H H3 := (A1.fr.mu M2 (by simp)).trans f3.sub0
      cases hy : y.so with
      | false =>
        simp only [hy] at k
        push_cast
        refine st_seq ?_
        push_cast [hra, ho]
        refine ⟨st_len, fun H4 M4 => ?_⟩
        replace hna := M4.k hna (ne_of hna ho (by simp)); replace hsk := M4.k hsk (ne_of hsk ho (by simp)); replace hsd := M4.k hsd (ne_of hsd ho (by simp)); replace ho := M4.at_
        rw [sp_place] at ho
        exact k H4 sk ⟨⟨dx, la, ho, hla.tups M4.tu⟩, hna, hsk, hsd, ne⟩ (.inl rfl) (F3.mu M4 (by simp))
      | true =>
        simp only [hy] at k
        push_cast
        unfold t_do_row_6; refine st_seq ?_
        push_cast [ho, st_place]
        refine ⟨st_len, fun H4 M4 => ?_⟩
        replace hna := M4.k hna (ne_of hna ho (by simp)); replace hsk := M4.k hsk (ne_of hsk ho (by simp)); replace hsd := M4.k hsd (ne_of hsd ho (by simp)); replace ho := M4.at_
        rw [sp_place1] at ho
        exact k H4 sk ⟨⟨dx, la, ho, hla.tups M4.tu⟩, hna, hsk, hsd, ne⟩ (.inl rfl) (F3.mu M4 (by simp))
  | go z =>
    obtain ⟨ra, rfl, hra⟩ := tp2i ty
    unfold t_do_row; refine st_seq ?_
    push_cast [hca, ho, st_place, hix]
    unfold t_do_row_1; refine st_seq ?_
    push_cast [hra]
    unfold t_do_row_2; refine st_seq ?_
    push_cast
    refine ⟨(by simp only [List.length_cons, List.length_nil]; decide), fun p H1 A1 => ?_⟩
    push_cast [A1.at_]
    replace ho := A1.k ho; replace hna := A1.k hna; replace hsk := A1.k hsk; replace hsd := A1.k hsd; replace hra := A1.k hra
    replace hla := hla.tups A1.tu
    unfold t_do_row_3; refine st_seq ?_
    push_cast
    unfold t_do_row_4; refine st_seq ?_
    push_cast
    unfold t_do_row_5; refine st_seq ?_
    push_cast
    refine st_seq ?_
    push_cast [hra, ho]
    refine ⟨st_len, fun H4 M4 => ?_⟩
    replace hna := M4.k hna (ne_of hna ho (by simp)); replace hsk := M4.k hsk (ne_of hsk ho (by simp)); replace hsd := M4.k hsd (ne_of hsd ho (by simp)); replace ho := M4.at_
    rw [sp_place] at ho
    exact k H4 sk ⟨⟨dx, la, ho, hla.tups M4.tu⟩, hna, hsk, hsd, ne⟩ (.inl rfl) (A1.fr.mu M4 (by simp))
  | top =>
    obtain ⟨ra, rfl, hra⟩ := tp1 ty
    unfold t_do_row; refine st_seq ?_
    push_cast [hca, ho, st_place, hix]
    unfold t_do_row_1; refine st_seq ?_
    push_cast [hra]
    unfold t_do_row_2; refine st_seq ?_
    push_cast
    refine ⟨(by simp only [List.length_cons, List.length_nil]; decide), fun p H1 A1 => ?_⟩
    push_cast [A1.at_]
    replace ho := A1.k ho; replace hna := A1.k hna; replace hsk := A1.k hsk; replace hsd := A1.k hsd; replace hra := A1.k hra
    replace hla := hla.tups A1.tu
    unfold t_do_row_3; refine st_seq ?_
    push_cast
    unfold t_do_row_4; refine st_seq ?_
    push_cast [ho, st_turn]
    refine ⟨o, na, sk, sd, s, rfl, ⟨⟨dx, la, ho, hla⟩, hna, hsk, hsd, ne⟩, fun H2 S2 f2 => ?_⟩
    by_cases hl : s.left - 1 < 0
    · simp only [if_pos hl] at k S2
      rw [decide_eq_false (by omega : ¬ 0 ≤ s.left - 1)]
      push_cast
      exact k H2 sk S2 (.inl rfl) ((A1.fr.trans f2).mono (by simp))
    · simp only [if_neg hl] at k S2
      rw [decide_eq_true (by omega : 0 ≤ s.left - 1)]
      push_cast
      obtain ⟨⟨dx, la, ho, hla⟩, hna, hsk, hsd, ne⟩ := S2
      unfold t_do_row_5; refine st_seq ?_
      push_cast
      unfold t_do_row_6; refine st_seq ?_
      push_cast [ho, st_place]
      refine ⟨st_len, fun H4 M4 => ?_⟩
      replace hna := M4.k hna (ne_of hna ho (by simp)); replace hsk := M4.k hsk (ne_of hsk ho (by simp)); replace hsd := M4.k hsd (ne_of hsd ho (by simp)); replace ho := M4.at_
      rw [sp_place1] at ho
      exact k H4 sk ⟨⟨dx, la, ho, hla.tups M4.tu⟩, hna, hsk, hsd, ne⟩ (.inl rfl) (((A1.fr.trans f2).mono (by simp)).mu M4 (by simp))
  | fin =>
    obtain ⟨ra, rfl, hra⟩ := tp1 ty
    unfold t_do_row; refine st_seq ?_
    push_cast [hca, ho, st_place, hix]
    unfold t_do_row_1; refine st_seq ?_
    push_cast [hra]
    unfold t_do_row_2; refine st_seq ?_
    push_cast
    refine ⟨(by simp only [List.length_cons, List.length_nil]; decide), fun p H1 A1 => ?_⟩
    push_cast [A1.at_]
    replace ho := A1.k ho; replace hna := A1.k hna; replace hsk := A1.k hsk; replace hsd := A1.k hsd; replace hra := A1.k hra
    replace hla := hla.tups A1.tu
    unfold t_do_row_3; refine st_seq ?_
    push_cast
    refine st_seq ?_
    push_cast
    refine ⟨(by simp only [List.length_cons, List.length_nil]; decide), fun q H2 A2 => ?_⟩
    replace ho := A2.k ho; replace hna := A2.k hna; replace hsk := A2.k hsk; replace hsd := A2.k hsd
    have hq := A2.at_
    push_cast [ho]
    refine ⟨st_len, fun H4 M4 => ?_⟩
    replace hna := M4.k hna (ne_of hna ho (by simp)); replace hsk := M4.k hsk (ne_of hsk ho (by simp)); replace hsd := M4.k hsd (ne_of hsd ho (by simp)); replace hq := M4.k hq (ne_of hq ho (by simp)); replace ho := M4.at_
    rw [sp_last] at ho
    exact k H4 sk ⟨⟨dx, _, ho, .tup hq (.cons (.str _) .nil)⟩, hna, hsk, hsd, ne⟩ (.inl rfl) ((A1.fr.al A2).mu M4 (by simp))

/-- _law_names from 1 -/
def t_L_names_1 (K : PySem.W.Frag) : TS :=
  (tSeq (tFor (iStr (tC (.str ("abcdefgh" : Str)))) (gName 2)
    (tIfS (tTest (tOp (rI0 fun i j => .bl (decide (j < i))) (tCall sp_L_take [] E0 (tCons (tVar 0) (tCons (tC (.int 3)) tNil))) (tC (.int 0)))) (xPutS (tVar 1) (tVar 2) (tCall sp_L_value [] E0 (tCons (tVar 0) tNil))) tNext))
    (tRet (tVar 1)))

/-- _law_names -/
def t_L_names (K : PySem.W.Frag) : TS :=
  tSeq (tAsg xDic (gName 1)) (t_L_names_1 K)

/-- _law_begun -/
def t_L_begun (K : PySem.W.Frag) : TS :=
  (tRet (tDisp (((tC (.str (wd 31))), (tCB rDctD (tCons (tVar 0) tNil))) :: (((tC (.str (wd 33))), (tVar 1)) :: (((tC (.str (wd 30))), (tVar 2)) :: (((tC (.str (wd 32))), (xLst tNil)) :: (((tC (.str (wd 34))), (xLst tNil)) :: (((tC (.str (wd 35))), (tC .non)) :: []))))))))

/-- _law_same from 1 -/
def t_L_same_1 (K : PySem.W.Frag) (c : CA) : TS :=
  (tSeq (tIfS (tOr (tNot (tB (tCall (sp_L_alike 40) [] E0 (tCons (xFld c.state (tVar 1) ("said" : Str)) (tCons (tOp rGetS (tVar 0) (tC (.str (wd 34)))) tNil))))) (tNot (tB (tCall (sp_L_alike 40) [] E0 (tCons (xFld c.state (tVar 1) ("left" : Str)) (tCons (tOp rGetS (tVar 0) (tC (.str (wd 33)))) tNil)))))) (tRet (tC (.bl false))) tNext)
    (tRet (tAndV (tOp rEqDD (xFld c.state (tVar 1) ("names" : Str)) (tOp rGetS (tVar 0) (tC (.str (wd 31))))) (tCall (sp_L_alike 40) [] E0 (tCons (xFld c.state (tVar 1) ("last" : Str)) (tCons (tOp rGetS (tVar 0) (tC (.str (wd 35)))) tNil))))))

/-- _law_same -/
def t_L_same (K : PySem.W.Frag) (c : CA) : TS :=
  tSeq (tIfS (tOr (tNot (tB (tCall (sp_L_alike 40) [] E0 (tCons (xFld c.state (tVar 1) ("place" : Str)) (tCons (tOp rGetS (tVar 0) (tC (.str (wd 30)))) tNil))))) (tNot (tB (tCall (sp_L_alike 40) [] E0 (tCons (xFld c.state (tVar 1) ("stack" : Str)) (tCons (tOp rGetS (tVar 0) (tC (.str (wd 32)))) tNil)))))) (tRet (tC (.bl false))) tNext) (t_L_same_1 K c)

section
variable {nb nb' hb hb' sb sb' : Addr} {l l' : Int} {p p' : Nat} {la la' : V}
theorem ls_names : valV (lsK nb l p hb sb la) (.inr (wd 31)) = some (.ref nb) := rfl
theorem ls_left : valV (lsK nb l p hb sb la) (.inr (wd 33)) = some (.int l) := rfl
theorem ls_place : valV (lsK nb l p hb sb la) (.inr (wd 30)) = some (.int (p : Nat)) := rfl
theorem ls_half : valV (lsK nb l p hb sb la) (.inr (wd 32)) = some (.ref hb) := rfl
theorem ls_said : valV (lsK nb l p hb sb la) (.inr (wd 34)) = some (.ref sb) := rfl
theorem ls_last : valV (lsK nb l p hb sb la) (.inr (wd 35)) = some la := rfl
theorem lp_names : putK (lsK nb l p hb sb la) (.inr (wd 31)) (.ref nb') = lsK nb' l p hb sb la := rfl
theorem lp_left : putK (lsK nb l p hb sb la) (.inr (wd 33)) (.int l') = lsK nb l' p hb sb la := rfl
theorem lp_place : putK (lsK nb l p hb sb la) (.inr (wd 30)) (.int (p' : Nat)) = lsK nb l p' hb sb la := rfl
theorem lp_place1 : putK (lsK nb l p hb sb la) (.inr (wd 30)) (.int ((p' : Nat) + 1)) = lsK nb l (p' + 1) hb sb la := rfl
theorem lp_half : putK (lsK nb l p hb sb la) (.inr (wd 32)) (.ref hb') = lsK nb l p hb' sb la := rfl
theorem lp_said : putK (lsK nb l p hb sb la) (.inr (wd 34)) (.ref sb') = lsK nb l p hb sb' la := rfl
theorem lp_last : putK (lsK nb l p hb sb la) (.inr (wd 35)) la' = lsK nb l p hb sb la' := rfl
theorem ls_len : (lsK nb l p hb sb la).length < sizeLine := by show 6 < sizeLine; decide
end
theorem abc8_mem {i c : Nat} (h : ("abcdefgh" : Str).cps.toList[i]? = some c) : Nm8 ⟨#[c]⟩ := by
  rw [abc8] at h
  have hi : i < 8 := (List.getElem?_eq_some_iff.mp h).1
  refine ⟨i, hi, ?_⟩
  have hi : i = 0 ∨ i = 1 ∨ i = 2 ∨ i = 3 ∨ i = 4 ∨ i = 5 ∨ i = 6 ∨ i = 7 := by omega
  rcases hi with rfl | rfl | rfl | rfl | rfl | rfl | rfl | rfl <;> simp at h <;> subst h <;> rfl
def NamesInv (H : Hp) (b l a : Addr) (i : Nat) (σ : L2.St) (H' : Hp) : Prop := ∃ (m : Nms) (σ2 : Option V), σ = [some (.ref b), some (.ref a), σ2] ∧ H' a = some (.dK (kvs m)) ∧ NmOk m ∧ BoxAt H' b l ∧ Fr [b, l] H H'
theorem rd_L_names {K : PySem.W.Frag} {vs : List V} {H : Hp} {Q : VK} {E : XK} (h : sp_L_names vs H Q E) : t_L_names K { nx := fun _ H' => Q .non H', rt := Q } (start ["_", "_", "_"] vs) H := by
  obtain ⟨b, l, rfl, B, k⟩ := h
  show t_L_names K _ [some (.ref b), none, none] H
  unfold t_L_names; refine st_seq ?_
  push_cast
  intro a H1 A1
  unfold t_L_names_1; refine st_seq ?_
  refine forS (z := "abcdefgh") (fun R h => h) (NamesInv H b l a) ⟨[], none, rfl, A1.at_, ⟨by simp, fun p hp => by cases hp⟩, B.keep A1.fr, A1.fr⟩ ?_ ?_
  · rintro i ch σ' H' hc ⟨m, σ2, rfl, ha, mo, B1, f⟩
    show tIfS _ _ _ _ [some (.ref b), some (.ref a), some (.str ⟨#[ch]⟩)] H'
    push_cast
    refine ⟨b, l, 3, rfl, B1, by decide, by decide, fun r H2 r0 r1 B2 f2 => ?_⟩
    have ha2 := f2.keep _ _ ha (B.off A1.new)
    push_cast
    refine i2 (fun _ => ?_) fun _ => ⟨m, _, rfl, ha2, mo, B2, f.trans f2⟩
    refine ⟨b, l, rfl, B2, fun x H3 hx B3 f3 => ?_⟩
    have ha3 := f3.keep _ _ ha2 (B.off A1.new)
    push_cast [ha3]
    refine ⟨bigL (by rw [kvs_length]; have := mo.len; omega), fun H4 M4 => ?_⟩
    refine ⟨nput m ⟨#[ch]⟩ x, _, rfl, by rw [M4.at_, putK_kvs], mo.put (abc8_mem hc) hx, B3.mu M4 (B.off A1.new), ((f.trans f2).trans f3).muN M4 A1.new⟩
  · rintro σ' H' ⟨m, σ2, rfl, ha, mo, B1, f⟩
    push_cast
    exact k a m H' A1.new ha mo B1 f
theorem rd_L_begun {K : PySem.W.Frag} {vs : List V} {H : Hp} {Q : VK} {E : XK} (h : sp_L_begun vs H Q E) : t_L_begun K { nx := fun _ H' => Q .non H', rt := Q } (start ["_", "_", "_"] vs) H := by
  obtain ⟨a, m, l, p, rfl, ha, k⟩ := h
  show t_L_begun K _ [some (.ref a), some (.int l), some (.int (p : Nat))] H
  unfold t_L_begun
  push_cast [tDisp, tPairs]
  intro d hd
  have A0 := Al.of (o := HO.dK []) hd
  push_cast [A0.k ha]
  intro nb H1 A1
  refine ⟨(by simp only [List.length_cons, List.length_nil]; decide), fun hb H2 A2 => ⟨(by simp only [List.length_cons, List.length_nil]; decide), fun sb H3 A3 => ?_⟩⟩
  have hd3 := A3.k (A2.k (A1.k A0.at_))
  have F3 : Fr [] H H3 := ((A0.fr.al A1).al A2).al A3
  refine ⟨hd3, [(.inr (wd 31), .ref nb), (.inr (wd 33), .int l), (.inr (wd 30), .int (p : Nat)), (.inr (wd 32), .ref hb), (.inr (wd 34), .ref sb), (.inr (wd 35), .non)], rfl, Nat.le_of_ble_eq_true rfl, ?_⟩
  have M := Mu.of (o := .dK (lsK nb l p hb sb .non)) hd3 fun _ z => by cases z
  have n1 : nb ≠ d := fun e => ne_of_none A0.at_ A1.new e.symm
  refine k d nb hb sb _ hd (A0.fr (S := []) |>.free A1.new (by simp)) ((A0.fr (S := [])).al A1 |>.free A2.new (by simp)) (((A0.fr (S := [])).al A1).al A2 |>.free A3.new (by simp)) ⟨⟨_, M.at_, by simp only [lastD, tp_non]⟩, M.k (A3.k (A2.k A1.at_)) n1, M.k (A3.k A2.at_) (ne_of (A3.k A2.at_) hd3 (by simp)), M.k A3.at_ (ne_of A3.at_ hd3 (by simp)), n1⟩ (F3.muN M hd)
theorem rp_vls {H : Hp} {a : Addr} {l : List Vl} (h : H a = some (.lst (vls l))) : ∃ d : PyData, Rp H (.ref a) d ∧ d.depth ≤ 1 ∧ ∀ b, H b = some (.lst (vls l)) → Rp H (.ref b) d := by
  have go : ∀ l : List Vl, ∃ ds : List PyData, RpAll H (vls l) ds ∧ PyData.depthAll ds = 0 := by
    intro l
    induction l with
    | nil => exact ⟨[], .nil, rfl⟩
    | cons x r ih =>
      obtain ⟨ds, h1, h2⟩ := ih
      obtain ⟨d, h3, h4⟩ := (show ∃ d : PyData, Rp H x.v d ∧ d.depth = 0 by cases x with | n i => exact ⟨.int i, .int i, rfl⟩ | t z => exact ⟨.str z, .str z, rfl⟩)
      exact ⟨d :: ds, .cons h3 h1, by simp only [PyData.depthAll, h2, h4]; rfl⟩
  obtain ⟨ds, h1, h2⟩ := go l
  exact ⟨.list ds, .lst h h1, by simp only [PyData.depth, h2]; omega, fun b hb => .lst hb h1⟩
theorem eqK_refl {m : Nms} (h : NmOk m) : EqK (kvs m) (kvs m) := by
  refine ⟨rfl, fun p hp => ?_⟩
  obtain ⟨q, hq, rfl⟩ := List.mem_map.mp hp
  refine ⟨by show valV (kvs m) (.inr q.1) = _; rw [valV_kvs, nget_of_mem h.1 hq]; rfl, ?_⟩
  cases q.2 <;> rfl
theorem lastD_depth (l : Option Ls) : (lastD l).depth ≤ 1 := by
  cases l with
  | none => simp [lastD, PyData.depth]
  | some l => cases l <;> simp [lastD, Ls.d, PyData.depth, PyData.depthAll]
theorem rd_L_same {K : PySem.W.Frag} {c : CA} {vs : List V} {H : Hp} {Q : VK} {E : XK} (h : sp_L_same c vs H Q E) : t_L_same K c { nx := fun _ H' => Q .non H', rt := Q } (start ["_", "_"] vs) H := by
  obtain ⟨o, na, sk, sd, d, nb, hb, sb, s, rfl, S, L, ok, k⟩ := h
  show t_L_same K c _ [some (.ref d), some (.ref o)] H
  obtain ⟨⟨dx, la, ho, hla⟩, hna, hsk, hsd, ne⟩ := S
  obtain ⟨⟨lb, hd, hlb⟩, hnb, hhb, hsb, ne2⟩ := L
  obtain ⟨d1, r1, e1, g1⟩ := rp_vls hsk
  obtain ⟨d2, r2, e2, g2⟩ := rp_vls hsd
  have e3 := lastD_depth s.last
  unfold t_L_same; refine st_seq ?_
  push_cast [ho, st_place, hd, ls_place]
  refine ⟨_, _, .int s.place, rfl, .int _, .int _, by simp only [PyData.depth]; decide, ?_⟩
  push_cast [ho, hd, st_stack, ls_half]
  refine ⟨_, _, d1, rfl, r1, g1 _ hhb, by omega, ?_⟩
  push_cast
  unfold t_L_same_1; refine st_seq ?_
  push_cast [ho, st_said, hd, ls_said]
  refine ⟨_, _, d2, rfl, r2, g2 _ hsb, by omega, ?_⟩
  push_cast [ho, st_left, hd, ls_left]
  refine ⟨_, _, .int s.left, rfl, .int _, .int _, by simp only [PyData.depth]; decide, ?_⟩
  push_cast [ho, st_names, hd, ls_names, rEqDD, hna, hnb]
  refine ⟨eqK_refl ok.nm, ?_⟩
  push_cast [ho, hd, st_last, ls_last]
  exact ⟨_, _, lastD s.last, rfl, hla.rp, hlb.rp, by omega, k⟩
theorem step_said {code : List Rw} {s : MS} : (step code s).said.length ≤ s.said.length + 1 := by
  unfold step
  split
  · unfold stepR
    repeat' split
    all_goals first | omega | (simp only [List.length_append, List.length_cons, List.length_nil]; omega)
  · omega
theorem lastN {H : Hp} {l : Option Ls} {v : V} (h : Tp H (lastD l) v) : decide (v = .non) = l.isNone := by
  cases l with
  | none => simp only [lastD, tp_non] at h; subst h; rfl
  | some l => cases l <;> simp only [lastD, Ls.d, tp_tup] at h <;> obtain ⟨a, xs, rfl, _⟩ := h <;> rfl
theorem lastN' {H : Hp} {l : Option Ls} {v : V} (h : Tp H (lastD l) v) : (v = .non) = (l = none) := by
  have := lastN h
  cases l with
  | none => simp only [lastD, tp_non] at h; subst h; simp
  | some l => cases l <;> simp only [lastD, Ls.d, tp_tup] at h <;> obtain ⟨a, xs, rfl, _⟩ := h <;> simp

/-- _law_step from 3 -/
def t_L_step_3 (K : PySem.W.Frag) : TS :=
  (tSeq (tIfS (tTest (tOp (rInT false) (tVar 3) (xTup (tCons (tC (.str (wd 0))) (tCons (tC (.str (wd 1))) tNil))))) (xPutS (tVar 1) (tC (.str (wd 32))) (tOp rCt (tOp rGetS (tVar 1) (tC (.str (wd 32)))) (xLst (tCons (tOp rXT (tVar 2) (tC (.int 1))) tNil)))) (tIfS (tTest (tOp rEq (tVar 3) (tC (.str (wd 2))))) (xPutS (tVar 1) (tC (.str (wd 32))) (tOp rCt (tOp rGetS (tVar 1) (tC (.str (wd 32)))) (xLst (tCons (xGet2S (tOp rGetS (tVar 1) (tC (.str (wd 31)))) (tOp rXT (tVar 2) (tC (.int 1))) (tC (.int 0))) tNil)))) (tIfS (tTest (tOp rEq (tVar 3) (tC (.str (wd 11))))) (tSeq (xPutS (tVar 1) (tC (.str (wd 33))) (tOp (rI0 fun i j => .int (i - j)) (tOp rGetS (tVar 1) (tC (.str (wd 33)))) (tC (.int 1))))
    (tIfS (tTest (tOp (rI0 fun i j => .bl (decide (i < j))) (tOp rGetS (tVar 1) (tC (.str (wd 33)))) (tC (.int 0)))) (tSeq (xPutS (tVar 1) (tC (.str (wd 35))) (xTup (tCons (tC (.str (wd 27))) tNil)))
    tRetN) tNext)) (tIfS (tTest (tOp rEq (tVar 3) (tC (.str (wd 12))))) (tSeq (xPutS (tVar 1) (tC (.str (wd 35))) (xTup (tCons (tC (.str (wd 26))) tNil)))
    tRetN) (tIfS (tTest (tOp rEq (tVar 3) (tC (.str (wd 10))))) (tAsg (tOp rXT (tVar 2) (tC (.int 1))) (gName 4)) (tIfS (tTest (tOp (rInT false) (tVar 3) (xTup (tCons (tC (.str (wd 7))) (tCons (tC (.str (wd 8))) (tCons (tC (.str (wd 9))) tNil)))))) (tSeq (tAsg (tOp rXL (tOp rGetS (tVar 1) (tC (.str (wd 32)))) (tUn (rU fun i => .int (-i)) (tC (.int 1)))) (gName 5))
    (tSeq (xPutS (tVar 1) (tC (.str (wd 32))) (tSl rSL (tOp rGetS (tVar 1) (tC (.str (wd 32)))) tNoPart (tPart (tUn (rU fun i => .int (-i)) (tC (.int 1))))))
    (tIfS (tTest (tOp rEq (tVar 3) (tC (.str (wd 7))))) (xPutS (tVar 1) (tC (.str (wd 34))) (tOp rCt (tOp rGetS (tVar 1) (tC (.str (wd 34)))) (xLst (tCons (tVar 5) tNil)))) (tIfS (tTest (tOp rEq (tVar 3) (tC (.str (wd 8))))) (tSeq (xPutS (tVar 1) (tC (.str (wd 31))) (tCB rDctD (tCons (tOp rGetS (tVar 1) (tC (.str (wd 31)))) tNil)))
    (xPutS (tOp rGetS (tVar 1) (tC (.str (wd 31)))) (tOp rXT (tVar 2) (tC (.int 1))) (tVar 5))) (tIfS (tNot (tB (tCall sp_L_is_so [] E0 (tCons (tVar 5) tNil)))) (tAsg (tOp rXT (tVar 2) (tC (.int 1))) (gName 4)) tNext))))) (tSeq (tAsg (tCall sp_L_worked [] E0 (tCons (tVar 3) (tCons (tOp rXL (tOp rGetS (tVar 1) (tC (.str (wd 32)))) (tUn (rU fun i => .int (-i)) (tC (.int 2)))) (tCons (tOp rXL (tOp rGetS (tVar 1) (tC (.str (wd 32)))) (tUn (rU fun i => .int (-i)) (tC (.int 1)))) tNil)))) (gName 6))
    (tSeq (tIfS (tTest (tOp rIsN (tVar 6) (tC .non))) (tSeq (xPutS (tVar 1) (tC (.str (wd 35))) (xTup (tCons (tC (.str (wd 28))) (tCons (tOp rGetS (tVar 1) (tC (.str (wd 30)))) tNil))))
    tRetN) tNext)
    (xPutS (tVar 1) (tC (.str (wd 32))) (tOp rCt (tSl rSL (tOp rGetS (tVar 1) (tC (.str (wd 32)))) tNoPart (tPart (tUn (rU fun i => .int (-i)) (tC (.int 2))))) (xLst (tCons (tVar 6) tNil))))))))))))
    (xPutS (tVar 1) (tC (.str (wd 30))) (tVar 4)))

/-- _law_step from 2 -/
def t_L_step_2 (K : PySem.W.Frag) : TS :=
  tSeq (tAsg (tOp (rI0 fun i j => .int (i + j)) (tOp rGetS (tVar 1) (tC (.str (wd 30)))) (tC (.int 1))) (gName 4)) (t_L_step_3 K)

/-- _law_step from 1 -/
def t_L_step_1 (K : PySem.W.Frag) : TS :=
  tSeq (tAsg (tOp rXT (tVar 2) (tC (.int 0))) (gName 3)) (t_L_step_2 K)

/-- _law_step -/
def t_L_step (K : PySem.W.Frag) : TS :=
  tSeq (tAsg (tOp rXT (tVar 0) (tOp rGetS (tVar 1) (tC (.str (wd 30))))) (gName 2)) (t_L_step_1 K)

theorem own1 {H : Hp} {d nb hb sb x : Addr} (h : H x = none) : Own H [d, nb, hb, sb] [d, nb, x, sb] := fun y hy => by
  simp only [List.mem_cons, List.not_mem_nil, or_false] at hy ⊢
  rcases hy with rfl | rfl | rfl | rfl <;> simp [h]
theorem own2 {H : Hp} {d nb hb sb x y : Addr} (h : H x = none) (h' : H y = none) : Own H [d, nb, hb, sb] [d, nb, x, y] := fun z hz => by
  simp only [List.mem_cons, List.not_mem_nil, or_false] at hz ⊢
  rcases hz with rfl | rfl | rfl | rfl <;> simp [h, h']
theorem own3 {H : Hp} {d nb hb sb x y : Addr} (h : H x = none) (h' : H y = none) : Own H [d, nb, hb, sb] [d, y, x, sb] := fun z hz => by
  simp only [List.mem_cons, List.not_mem_nil, or_false] at hz ⊢
  rcases hz with rfl | rfl | rfl | rfl <;> simp [h, h']
theorem rd_L_step {K : PySem.W.Frag} {vs : List V} {H : Hp} {Q : VK} {E : XK} (h : sp_L_step vs H Q E) : t_L_step K { nx := fun _ H' => Q .non H', rt := Q } (start ["_", "_", "_", "_", "_", "_", "_"] vs) H := by
  obtain ⟨v, code, d, nb, hb, sb, s, rfl, hv, L, ok, fit, l1, l2, k⟩ := h
  show t_L_step K _ [some v, some (.ref d), none, none, none, none, none] H
  obtain ⟨⟨la, hd, hla⟩, hnb, hhb, hsb, ne⟩ := L
  obtain ⟨ca, rows, r, y, rfl, hca, hix, hr, ty, hn, hok⟩ := fit.at_ hv
  rw [step_at hr] at k
  unfold stepR at k
  have nl := ok.nm.len
  cases r with
  | num n =>
    obtain ⟨ra, rfl, hra⟩ := tp2i ty
    unfold t_L_step; refine st_seq ?_
    push_cast [hca, hd, ls_place, hix]
    unfold t_L_step_1; refine st_seq ?_
    push_cast [hra]
    unfold t_L_step_2; refine st_seq ?_
    push_cast [hd, ls_place]
    unfold t_L_step_3; refine st_seq ?_
    push_cast
    refine ⟨(by simp only [List.length_cons, List.length_nil]; decide), fun p H1 A1 => ?_⟩
    replace hd := A1.k hd; replace hnb := A1.k hnb; replace hhb := A1.k hhb; replace hsb := A1.k hsb; replace hra := A1.k hra
    replace hla := hla.tups A1.tu
    push_cast [A1.at_, hd, ls_half, hra]
    refine ⟨(by simp only [List.length_cons, List.length_nil]; decide), fun q H2 A2 => ?_⟩
    replace hd := A2.k hd; replace hnb := A2.k hnb; replace hhb := A2.k hhb; replace hsb := A2.k hsb
    push_cast [hhb, A2.at_]
    refine ⟨big (by simp [vls]; omega), fun q3 H3 A3 => ?_⟩
    have nq : H q3 = none := ((A1.fr (S := [])).al A2).free A3.new (by simp)
    replace hd := A3.k hd; replace hnb := A3.k hnb; replace hhb := A3.k hhb; replace hsb := A3.k hsb
    have hq := A3.at_
    push_cast [hd]
    refine ⟨ls_len, fun H4 M4 => ?_⟩
    replace hnb := M4.k hnb ne
    replace hhb := M4.k hhb (ne_of hhb hd (by simp)); replace hsb := M4.k hsb (ne_of hsb hd (by simp)); replace hq := M4.k hq (ne_of hq hd (by simp)); replace hd := M4.at_
    rw [lp_half] at hd
    push_cast [hd]
    refine ⟨ls_len, fun H5 M5 => ?_⟩
    replace hnb := M5.k hnb ne
    replace hhb := M5.k hhb (ne_of hhb hd (by simp)); replace hsb := M5.k hsb (ne_of hsb hd (by simp)); replace hq := M5.k hq (ne_of hq hd (by simp)); replace hd := M5.at_
    rw [lp_place1] at hd
    refine k H5 nb q3 sb ⟨⟨la, hd, (((hla.tups A2.tu).tups A3.tu).tups M4.tu).tups M5.tu⟩, hnb, by rw [hq]; simp [vls, Vl.v], hsb, ne⟩ (own1 nq) ((((A1.fr.al A2).al A3).mu M4 (by simp)).mu M5 (by simp))
  | text n =>
    obtain ⟨ra, rfl, hra⟩ := tp2s ty
    unfold t_L_step; refine st_seq ?_
    push_cast [hca, hd, ls_place, hix]
    unfold t_L_step_1; refine st_seq ?_
    push_cast [hra]
    unfold t_L_step_2; refine st_seq ?_
    push_cast [hd, ls_place]
    unfold t_L_step_3; refine st_seq ?_
    push_cast
    refine ⟨(by simp only [List.length_cons, List.length_nil]; decide), fun p H1 A1 => ?_⟩
    replace hd := A1.k hd; replace hnb := A1.k hnb; replace hhb := A1.k hhb; replace hsb := A1.k hsb; replace hra := A1.k hra
    replace hla := hla.tups A1.tu
    push_cast [A1.at_, hd, ls_half, hra]
    refine ⟨(by simp only [List.length_cons, List.length_nil]; decide), fun q H2 A2 => ?_⟩
    replace hd := A2.k hd; replace hnb := A2.k hnb; replace hhb := A2.k hhb; replace hsb := A2.k hsb
    push_cast [hhb, A2.at_]
    refine ⟨big (by simp [vls]; omega), fun q3 H3 A3 => ?_⟩
    have nq : H q3 = none := ((A1.fr (S := [])).al A2).free A3.new (by simp)
    replace hd := A3.k hd; replace hnb := A3.k hnb; replace hhb := A3.k hhb; replace hsb := A3.k hsb
    have hq := A3.at_
    push_cast [hd]
    refine ⟨ls_len, fun H4 M4 => ?_⟩
    replace hnb := M4.k hnb ne
    replace hhb := M4.k hhb (ne_of hhb hd (by simp)); replace hsb := M4.k hsb (ne_of hsb hd (by simp)); replace hq := M4.k hq (ne_of hq hd (by simp)); replace hd := M4.at_
    rw [lp_half] at hd
    push_cast [hd]
    refine ⟨ls_len, fun H5 M5 => ?_⟩
    replace hnb := M5.k hnb ne
    replace hhb := M5.k hhb (ne_of hhb hd (by simp)); replace hsb := M5.k hsb (ne_of hsb hd (by simp)); replace hq := M5.k hq (ne_of hq hd (by simp)); replace hd := M5.at_
    rw [lp_place1] at hd
    refine k H5 nb q3 sb ⟨⟨la, hd, (((hla.tups A2.tu).tups A3.tu).tups M4.tu).tups M5.tu⟩, hnb, by rw [hq]; simp [vls, Vl.v], hsb, ne⟩ (own1 nq) ((((A1.fr.al A2).al A3).mu M4 (by simp)).mu M5 (by simp))
  | name x =>
    obtain ⟨ra, rfl, hra⟩ := tp2s ty
    unfold t_L_step; refine st_seq ?_
    push_cast [hca, hd, ls_place, hix]
    unfold t_L_step_1; refine st_seq ?_
    push_cast [hra]
    unfold t_L_step_2; refine st_seq ?_
    push_cast [hd, ls_place]
    unfold t_L_step_3; refine st_seq ?_
    push_cast
    refine ⟨(by simp only [List.length_cons, List.length_nil]; decide), fun p H1 A1 => ?_⟩
    replace hd := A1.k hd; replace hnb := A1.k hnb; replace hhb := A1.k hhb; replace hsb := A1.k hsb; replace hra := A1.k hra
    replace hla := hla.tups A1.tu
    push_cast [A1.at_, hd, ls_half, ls_names, hra, hnb, valV_kvs, getD_v]
    refine ⟨(by simp only [List.length_cons, List.length_nil]; decide), fun q H2 A2 => ?_⟩
    replace hd := A2.k hd; replace hnb := A2.k hnb; replace hhb := A2.k hhb; replace hsb := A2.k hsb
    push_cast [hhb, A2.at_]
    refine ⟨big (by simp [vls]; omega), fun q3 H3 A3 => ?_⟩
    have nq : H q3 = none := ((A1.fr (S := [])).al A2).free A3.new (by simp)
    replace hd := A3.k hd; replace hnb := A3.k hnb; replace hhb := A3.k hhb; replace hsb := A3.k hsb
    have hq := A3.at_
    push_cast [hd]
    refine ⟨ls_len, fun H4 M4 => ?_⟩
    replace hnb := M4.k hnb ne
    replace hhb := M4.k hhb (ne_of hhb hd (by simp)); replace hsb := M4.k hsb (ne_of hsb hd (by simp)); replace hq := M4.k hq (ne_of hq hd (by simp)); replace hd := M4.at_
    rw [lp_half] at hd
    push_cast [hd]
    refine ⟨ls_len, fun H5 M5 => ?_⟩
    replace hnb := M5.k hnb ne
    replace hhb := M5.k hhb (ne_of hhb hd (by simp)); replace hsb := M5.k hsb (ne_of hsb hd (by simp)); replace hq := M5.k hq (ne_of hq hd (by simp)); replace hd := M5.at_
    rw [lp_place1] at hd
    refine k H5 nb q3 sb ⟨⟨la, hd, (((hla.tups A2.tu).tups A3.tu).tups M4.tu).tups M5.tu⟩, hnb, by rw [hq]; simp [vls], hsb, ne⟩ (own1 nq) ((((A1.fr.al A2).al A3).mu M4 (by simp)).mu M5 (by simp))
  | op g =>
    obtain ⟨ra, rfl, hra⟩ := tp1 ty
    match hst : s.st, hn with
    | y :: x :: q, _ =>
      simp only [hst] at k
      have hx : x.ok := ok.st x (by rw [hst]; simp)
      have hy : y.ok := ok.st y (by rw [hst]; simp)
      rw [hst] at hhb
      unfold vls at hhb
      have S0 : (g.s = wd 0) = False ∧ (g.s = wd 1) = False ∧ (g.s = wd 2) = False ∧ (g.s = wd 7) = False ∧ (g.s = wd 8) = False ∧ (g.s = wd 9) = False ∧ (g.s = wd 10) = False ∧ (g.s = wd 11) = False ∧ (g.s = wd 12) = False := by
        have hg : 3 ≤ g.ix ∧ g.ix ≤ 6 := by cases g <;> decide
        simp only [sg_eq g _ (show 0 < 42 by decide), sg_eq g _ (show 1 < 42 by decide), sg_eq g _ (show 2 < 42 by decide), sg_eq g _ (show 7 < 42 by decide), sg_eq g _ (show 8 < 42 by decide), sg_eq g _ (show 9 < 42 by decide), sg_eq g _ (show 10 < 42 by decide), sg_eq g _ (show 11 < 42 by decide), sg_eq g _ (show 12 < 42 by decide)]
        refine ⟨?_, ?_, ?_, ?_, ?_, ?_, ?_, ?_, ?_⟩ <;> simp only [eq_iff_iff, iff_false] <;> omega
      obtain ⟨n0, n1, n2, n7, n8, n9, n10, n11, n12⟩ := S0
      unfold t_L_step; refine st_seq ?_
      push_cast [hca, hd, ls_place, hix]
      unfold t_L_step_1; refine st_seq ?_
      push_cast [hra]
      unfold t_L_step_2; refine st_seq ?_
      push_cast [hd, ls_place]
      unfold t_L_step_3; refine st_seq ?_
      push_cast
      refine ⟨(by simp only [List.length_cons, List.length_nil]; decide), fun p H1 A1 => ?_⟩
      replace hd := A1.k hd; replace hnb := A1.k hnb; replace hhb := A1.k hhb; replace hsb := A1.k hsb; replace hra := A1.k hra
      replace hla := hla.tups A1.tu
      push_cast [A1.at_, sg_ne g (i := 0) (by decide), sg_ne g (i := 1) (by decide), n2, n10, n11, n12]
      refine ⟨(by simp only [List.length_cons, List.length_nil]; decide), fun p2 H2 A2 => ?_⟩
      replace hd := A2.k hd; replace hnb := A2.k hnb; replace hhb := A2.k hhb; replace hsb := A2.k hsb; replace hra := A2.k hra
      replace hla := hla.tups A2.tu
      push_cast [A2.at_, sg_ne g (i := 7) (by decide), sg_ne g (i := 8) (by decide), sg_ne g (i := 9) (by decide)]
      refine st_seq ?_
      push_cast [hd, ls_half, hhb, Int.reduceNeg, atI_last1, atI_last2]
      refine ⟨g, x, y, rfl, hx, hy, fun H3 f3 => ?_⟩
      have keep : ∀ a u, H2 a = some u → H3 a = some u := fun a u h => f3.keep a u h (by simp)
      replace hd := keep _ _ hd
      replace hnb := keep _ _ hnb
      replace hhb := keep _ _ hhb
      replace hsb := keep _ _ hsb
      replace hla := hla.tups f3.tu
      have F3 : Fr [] H H3 := (A1.fr.al A2).trans f3
      refine st_seq ?_
      cases e : wk g x y with
      | none =>
        simp only [e] at k
        push_cast [ov]
        refine st_seq ?_
        push_cast [hd, ls_place]
        refine ⟨(by simp only [List.length_cons, List.length_nil]; decide), fun p4 H4 A4 => ?_⟩
        replace hd := A4.k hd; replace hnb := A4.k hnb; replace hhb := A4.k hhb; replace hsb := A4.k hsb
        have hp := A4.at_
        push_cast [hd]
        refine ⟨ls_len, fun H5 M5 => ?_⟩
        replace hnb := M5.k hnb ne
        replace hhb := M5.k hhb (ne_of hhb hd (by simp)); replace hsb := M5.k hsb (ne_of hsb hd (by simp)); replace hp := M5.k hp (ne_of hp hd (by simp)); replace hd := M5.at_
        rw [lp_last] at hd
        refine k H5 nb hb sb ⟨⟨_, hd, .tup hp (.cons (.str _) (.cons (.int _) .nil))⟩, hnb, hhb, hsb, ne⟩ (.refl _ _) (((F3.sub0).al A4).mu M5 (by simp))
      | some z =>
        simp only [e] at k
        have nz : (z.v = V.non) = False := by cases z <;> simp [Vl.v]
        push_cast [ov, nz, hd, ls_half, hhb, Int.reduceNeg, cut_last2]
        intro p4 H4 A4
        refine ⟨(by simp only [List.length_cons, List.length_nil]; decide), fun p5 H5 A5 => ?_⟩
        replace hd := A4.k hd; replace hnb := A4.k hnb; replace hhb := A4.k hhb; replace hsb := A4.k hsb
        have hp := A4.at_
        replace hd := A5.k hd; replace hnb := A5.k hnb; replace hhb := A5.k hhb; replace hsb := A5.k hsb; replace hp := A5.k hp
        push_cast [hp, A5.at_]
        refine ⟨big (by simp only [List.length_map, List.length_reverse, List.length_cons, List.length_nil]; rw [hst] at l1; simp only [List.length_cons] at l1; omega), fun q6 H6 A6 => ?_⟩
        have nq : H q6 = none := ((F3.al A4).al A5).free A6.new (by simp)
        replace hd := A6.k hd; replace hnb := A6.k hnb; replace hhb := A6.k hhb; replace hsb := A6.k hsb
        have hq := A6.at_
        push_cast [hd]
        refine ⟨ls_len, fun H7 M7 => ?_⟩
        replace hnb := M7.k hnb ne
        replace hsb := M7.k hsb (ne_of hsb hd (by simp)); replace hq := M7.k hq (ne_of hq hd (by simp)); replace hd := M7.at_
        rw [lp_half] at hd
        push_cast [hd]
        refine ⟨ls_len, fun H8 M8 => ?_⟩
        replace hnb := M8.k hnb ne
        replace hsb := M8.k hsb (ne_of hsb hd (by simp)); replace hq := M8.k hq (ne_of hq hd (by simp)); replace hd := M8.at_
        rw [lp_place1] at hd
        rw [push_last] at hq
        refine k H8 nb q6 sb ⟨⟨la, hd, ((((hla.tups A4.tu).tups A5.tu).tups A6.tu).tups M7.tu).tups M8.tu⟩, hnb, hq, hsb, ne⟩ (own1 nq) ((((((F3.sub0).al A4).al A5).al A6).mu M7 (by simp)).mu M8 (by simp))
  | say =>
    obtain ⟨ra, rfl, hra⟩ := tp1 ty
    match hst : s.st, hn with
    | y :: q, _ =>
      simp only [hst] at k
      rw [hst] at hhb
      unfold vls at hhb
      unfold t_L_step; refine st_seq ?_
      push_cast [hca, hd, ls_place, hix]
      unfold t_L_step_1; refine st_seq ?_
      push_cast [hra]
      unfold t_L_step_2; refine st_seq ?_
      push_cast [hd, ls_place]
      unfold t_L_step_3; refine st_seq ?_
      push_cast
      refine ⟨(by simp only [List.length_cons, List.length_nil]; decide), fun p H1 A1 => ?_⟩
      replace hd := A1.k hd; replace hnb := A1.k hnb; replace hhb := A1.k hhb; replace hsb := A1.k hsb; replace hra := A1.k hra
      replace hla := hla.tups A1.tu
      push_cast [A1.at_]
      refine ⟨(by simp only [List.length_cons, List.length_nil]; decide), fun p2 H2 A2 => ?_⟩
      replace hd := A2.k hd; replace hnb := A2.k hnb; replace hhb := A2.k hhb; replace hsb := A2.k hsb; replace hra := A2.k hra
      replace hla := hla.tups A2.tu
      push_cast [A2.at_]
      refine st_seq ?_
      push_cast [hd, ls_half, hhb, Int.reduceNeg, atI_last1]
      refine st_seq ?_
      push_cast [hd, ls_half, hhb, Int.reduceNeg, cut_last1]
      intro p3 H3 A3
      have n3 : H p3 = none := ((A1.fr (S := [])).al A2).free A3.new (by simp)
      replace hd := A3.k hd; replace hnb := A3.k hnb; replace hhb := A3.k hhb; replace hsb := A3.k hsb
      have hp := A3.at_
      push_cast [hd]
      refine ⟨ls_len, fun H4 M4 => ?_⟩
      replace hnb := M4.k hnb ne
      replace hsb := M4.k hsb (ne_of hsb hd (by simp)); replace hp := M4.k hp (ne_of hp hd (by simp)); replace hd := M4.at_
      rw [lp_half] at hd
      push_cast [hd, ls_said]
      refine ⟨(by simp only [List.length_cons, List.length_nil]; decide), fun p5 H5 A5 => ?_⟩
      replace hd := A5.k hd; replace hnb := A5.k hnb; replace hsb := A5.k hsb; replace hp := A5.k hp
      push_cast [hsb, A5.at_]
      refine ⟨big (by simp [vls]; omega), fun p6 H6 A6 => ?_⟩
      have f4 : Fr [d] H H4 := (((A1.fr).al A2).al A3).mu M4 (by simp)
      have n6 : H p6 = none := (f4.al A5).free A6.new (by intro z; rw [List.mem_singleton.mp z] at A6; exact ne_of_none hd A6.new rfl)
      replace hd := A6.k hd; replace hnb := A6.k hnb; replace hsb := A6.k hsb; replace hp := A6.k hp
      have hq := A6.at_
      push_cast [hd]
      refine ⟨ls_len, fun H7 M7 => ?_⟩
      replace hnb := M7.k hnb ne
      replace hsb := M7.k hsb (ne_of hsb hd (by simp)); replace hp := M7.k hp (ne_of hp hd (by simp)); replace hq := M7.k hq (ne_of hq hd (by simp)); replace hd := M7.at_
      rw [lp_said] at hd
      push_cast [hd]
      refine ⟨ls_len, fun H8 M8 => ?_⟩
      replace hnb := M8.k hnb ne
      replace hsb := M8.k hsb (ne_of hsb hd (by simp)); replace hp := M8.k hp (ne_of hp hd (by simp)); replace hq := M8.k hq (ne_of hq hd (by simp)); replace hd := M8.at_
      rw [lp_place1] at hd
      rw [vls_snoc] at hq
      refine k H8 nb p3 p6 ⟨⟨la, hd, (((((hla.tups A3.tu).tups M4.tu).tups A5.tu).tups A6.tu).tups M7.tu).tups M8.tu⟩, hnb, hp, hq, ne⟩ (own2 n3 n6) ((((f4.al A5).al A6).mu M7 (by simp)).mu M8 (by simp))
  | set x =>
    obtain ⟨ra, rfl, hra⟩ := tp2s ty
    match hst : s.st, hn with
    | y :: q, _ =>
      simp only [hst] at k
      rw [hst] at hhb
      unfold vls at hhb
      unfold t_L_step; refine st_seq ?_
      push_cast [hca, hd, ls_place, hix]
      unfold t_L_step_1; refine st_seq ?_
      push_cast [hra]
      unfold t_L_step_2; refine st_seq ?_
      push_cast [hd, ls_place]
      unfold t_L_step_3; refine st_seq ?_
      push_cast
      refine ⟨(by simp only [List.length_cons, List.length_nil]; decide), fun p H1 A1 => ?_⟩
      replace hd := A1.k hd; replace hnb := A1.k hnb; replace hhb := A1.k hhb; replace hsb := A1.k hsb; replace hra := A1.k hra
      replace hla := hla.tups A1.tu
      push_cast [A1.at_]
      refine ⟨(by simp only [List.length_cons, List.length_nil]; decide), fun p2 H2 A2 => ?_⟩
      replace hd := A2.k hd; replace hnb := A2.k hnb; replace hhb := A2.k hhb; replace hsb := A2.k hsb; replace hra := A2.k hra
      replace hla := hla.tups A2.tu
      push_cast [A2.at_]
      refine st_seq ?_
      push_cast [hd, ls_half, hhb, Int.reduceNeg, atI_last1]
      refine st_seq ?_
      push_cast [hd, ls_half, hhb, Int.reduceNeg, cut_last1]
      intro p3 H3 A3
      have n3 : H p3 = none := ((A1.fr (S := [])).al A2).free A3.new (by simp)
      replace hd := A3.k hd; replace hnb := A3.k hnb; replace hhb := A3.k hhb; replace hsb := A3.k hsb; replace hra := A3.k hra
      have hp := A3.at_
      push_cast [hd]
      refine ⟨ls_len, fun H4 M4 => ?_⟩
      replace hnb := M4.k hnb ne
      replace hsb := M4.k hsb (ne_of hsb hd (by simp)); replace hp := M4.k hp (ne_of hp hd (by simp)); replace hra := M4.k hra (ne_of hra hd (by simp)); replace hd := M4.at_
      rw [lp_half] at hd
      refine st_seq ?_
      push_cast [hd, ls_names, hnb]
      intro p5 H5 A5
      have f4 : Fr [d] H H4 := (((A1.fr).al A2).al A3).mu M4 (by simp)
      have nd : d ≠ p5 := ne_of_none hd A5.new
      have n5 : H p5 = none := f4.free A5.new (by intro z; exact nd (List.mem_singleton.mp z).symm)
      replace hd := A5.k hd; replace hnb := A5.k hnb; replace hsb := A5.k hsb; replace hp := A5.k hp; replace hra := A5.k hra
      have hq := A5.at_
      push_cast [hd]
      refine ⟨ls_len, fun H6 M6 => ?_⟩
      replace hq := M6.k hq nd.symm
      replace hnb := M6.k hnb ne
      replace hsb := M6.k hsb (ne_of hsb hd (by simp)); replace hp := M6.k hp (ne_of hp hd (by simp)); replace hra := M6.k hra (ne_of hra hd (by simp)); replace hd := M6.at_
      rw [lp_names] at hd
      push_cast [hd, ls_names, hq, hra]
      refine ⟨bigL (by rw [kvs_length]; omega), fun H7 M7 => ?_⟩
      replace hd := M7.k hd nd
      replace hsb := M7.k hsb (ne_of hsb hq (by simp)); replace hp := M7.k hp (ne_of hp hq (by simp)); replace hra := M7.k hra (ne_of hra hq (by simp)); replace hq := M7.at_
      rw [putK_kvs] at hq
      push_cast [hd]
      refine ⟨ls_len, fun H8 M8 => ?_⟩
      replace hq := M8.k hq nd.symm
      replace hsb := M8.k hsb (ne_of hsb hd (by simp)); replace hp := M8.k hp (ne_of hp hd (by simp)); replace hd := M8.at_
      rw [lp_place1] at hd
      refine k H8 p5 p3 sb ⟨⟨la, hd, (((((hla.tups A3.tu).tups M4.tu).tups A5.tu).tups M6.tu).tups M7.tu).tups M8.tu⟩, hq, hp, hsb, nd.symm⟩ (own3 n3 n5) ((((f4.al A5).mu M6 (by simp)).muN M7 n5).mu M8 (by simp))
  | «unless» q =>
    obtain ⟨ra, rfl, hra⟩ := tp2i ty
    match hst : s.st, hn with
    | y :: z, _ =>
      simp only [hst] at k
      rw [hst] at hhb
      unfold vls at hhb
      unfold t_L_step; refine st_seq ?_
      push_cast [hca, hd, ls_place, hix]
      unfold t_L_step_1; refine st_seq ?_
      push_cast [hra]
      unfold t_L_step_2; refine st_seq ?_
      push_cast [hd, ls_place]
      unfold t_L_step_3; refine st_seq ?_
      push_cast
      refine ⟨(by simp only [List.length_cons, List.length_nil]; decide), fun p H1 A1 => ?_⟩
      replace hd := A1.k hd; replace hnb := A1.k hnb; replace hhb := A1.k hhb; replace hsb := A1.k hsb; replace hra := A1.k hra
      replace hla := hla.tups A1.tu
      push_cast [A1.at_]
      refine ⟨(by simp only [List.length_cons, List.length_nil]; decide), fun p2 H2 A2 => ?_⟩
      replace hd := A2.k hd; replace hnb := A2.k hnb; replace hhb := A2.k hhb; replace hsb := A2.k hsb; replace hra := A2.k hra
      replace hla := hla.tups A2.tu
      push_cast [A2.at_]
      refine st_seq ?_
      push_cast [hd, ls_half, hhb, Int.reduceNeg, atI_last1]
      refine st_seq ?_
      push_cast [hd, ls_half, hhb, Int.reduceNeg, cut_last1]
      intro p3 H3 A3
      have n3 : H p3 = none := ((A1.fr (S := [])).al A2).free A3.new (by simp)
      replace hd := A3.k hd; replace hnb := A3.k hnb; replace hhb := A3.k hhb; replace hsb := A3.k hsb; replace hra := A3.k hra
      have hp := A3.at_
      push_cast [hd]
      refine ⟨ls_len, fun H4 M4 => ?_⟩
      replace hnb := M4.k hnb ne
      replace hsb := M4.k hsb (ne_of hsb hd (by simp)); replace hp := M4.k hp (ne_of hp hd (by simp)); replace hra := M4.k hra (ne_of hra hd (by simp)); replace hd := M4.at_
      rw [lp_half] at hd
      have f4 : Fr [d] H H4 := (((A1.fr).al A2).al A3).mu M4 (by simp)
      refine ⟨y, rfl, fun H5 f5 => ?_⟩
      have keep : ∀ a u, H4 a = some u → H5 a = some u := fun a u h => f5.keep a u h (by simp)
      replace hd := keep _ _ hd
      replace hnb := keep _ _ hnb
      replace hp := keep _ _ hp
      replace hsb := keep _ _ hsb
      replace hra := keep _ _ hra
      replace hla := ((hla.tups A3.tu).tups M4.tu).tups f5.tu
      cases hy : y.so with
      | false =>
        simp only [hy] at k
        push_cast [hra, hd]
        refine ⟨ls_len, fun H6 M6 => ?_⟩
        replace hnb := M6.k hnb ne
        replace hsb := M6.k hsb (ne_of hsb hd (by simp)); replace hp := M6.k hp (ne_of hp hd (by simp)); replace hd := M6.at_
        rw [lp_place] at hd
        refine k H6 nb p3 sb ⟨⟨la, hd, hla.tups M6.tu⟩, hnb, hp, hsb, ne⟩ (own1 n3) ((f4.trans f5.sub0).mu M6 (by simp))
      | true =>
        simp only [hy] at k
        push_cast [hra, hd]
        refine ⟨ls_len, fun H6 M6 => ?_⟩
        replace hnb := M6.k hnb ne
        replace hsb := M6.k hsb (ne_of hsb hd (by simp)); replace hp := M6.k hp (ne_of hp hd (by simp)); replace hd := M6.at_
        rw [lp_place1] at hd
        refine k H6 nb p3 sb ⟨⟨la, hd, hla.tups M6.tu⟩, hnb, hp, hsb, ne⟩ (own1 n3) ((f4.trans f5.sub0).mu M6 (by simp))
  | go z =>
    obtain ⟨ra, rfl, hra⟩ := tp2i ty
    unfold t_L_step; refine st_seq ?_
    push_cast [hca, hd, ls_place, hix]
    unfold t_L_step_1; refine st_seq ?_
    push_cast [hra]
    unfold t_L_step_2; refine st_seq ?_
    push_cast [hd, ls_place]
    unfold t_L_step_3; refine st_seq ?_
    push_cast
    refine ⟨(by simp only [List.length_cons, List.length_nil]; decide), fun p H1 A1 => ?_⟩
    replace hd := A1.k hd; replace hnb := A1.k hnb; replace hhb := A1.k hhb; replace hsb := A1.k hsb; replace hra := A1.k hra
    replace hla := hla.tups A1.tu
    push_cast [A1.at_, hra, hd]
    refine ⟨ls_len, fun H4 M4 => ?_⟩
    replace hnb := M4.k hnb ne
    replace hhb := M4.k hhb (ne_of hhb hd (by simp)); replace hsb := M4.k hsb (ne_of hsb hd (by simp)); replace hd := M4.at_
    rw [lp_place] at hd
    exact k H4 nb hb sb ⟨⟨la, hd, hla.tups M4.tu⟩, hnb, hhb, hsb, ne⟩ (.refl _ _) (A1.fr.mu M4 (by simp))
  | top =>
    obtain ⟨ra, rfl, hra⟩ := tp1 ty
    unfold t_L_step; refine st_seq ?_
    push_cast [hca, hd, ls_place, hix]
    unfold t_L_step_1; refine st_seq ?_
    push_cast [hra]
    unfold t_L_step_2; refine st_seq ?_
    push_cast [hd, ls_place]
    unfold t_L_step_3; refine st_seq ?_
    push_cast
    refine ⟨(by simp only [List.length_cons, List.length_nil]; decide), fun p H1 A1 => ?_⟩
    replace hd := A1.k hd; replace hnb := A1.k hnb; replace hhb := A1.k hhb; replace hsb := A1.k hsb; replace hra := A1.k hra
    replace hla := hla.tups A1.tu
    push_cast [A1.at_]
    refine st_seq ?_
    push_cast [hd, ls_left]
    refine ⟨ls_len, fun H2 M2 => ?_⟩
    replace hnb := M2.k hnb ne
    replace hhb := M2.k hhb (ne_of hhb hd (by simp)); replace hsb := M2.k hsb (ne_of hsb hd (by simp)); replace hd := M2.at_
    replace hla := hla.tups M2.tu
    rw [lp_left] at hd
    push_cast [hd, ls_left]
    by_cases hl : s.left - 1 < 0
    · simp only [if_pos hl] at k
      refine iteT' hl ?_
      refine st_seq ?_
      push_cast
      refine ⟨(by simp only [List.length_cons, List.length_nil]; decide), fun q H3 A3 => ?_⟩
      replace hd := A3.k hd; replace hnb := A3.k hnb; replace hhb := A3.k hhb; replace hsb := A3.k hsb
      have hq := A3.at_
      push_cast [hd]
      refine ⟨ls_len, fun H4 M4 => ?_⟩
      replace hnb := M4.k hnb ne
      replace hhb := M4.k hhb (ne_of hhb hd (by simp)); replace hsb := M4.k hsb (ne_of hsb hd (by simp)); replace hq := M4.k hq (ne_of hq hd (by simp)); replace hd := M4.at_
      rw [lp_last] at hd
      exact k H4 nb hb sb ⟨⟨_, hd, .tup hq (.cons (.str _) .nil)⟩, hnb, hhb, hsb, ne⟩ (.refl _ _) (((A1.fr.mu M2 (by simp)).al A3).mu M4 (by simp))
    · simp only [if_neg hl] at k
      refine iteF' hl ?_
      refine ⟨ls_len, fun H4 M4 => ?_⟩
      replace hnb := M4.k hnb ne
      replace hhb := M4.k hhb (ne_of hhb hd (by simp)); replace hsb := M4.k hsb (ne_of hsb hd (by simp)); replace hd := M4.at_
      rw [lp_place1] at hd
      exact k H4 nb hb sb ⟨⟨la, hd, hla.tups M4.tu⟩, hnb, hhb, hsb, ne⟩ (.refl _ _) ((A1.fr.mu M2 (by simp)).mu M4 (by simp))
  | fin =>
    obtain ⟨ra, rfl, hra⟩ := tp1 ty
    unfold t_L_step; refine st_seq ?_
    push_cast [hca, hd, ls_place, hix]
    unfold t_L_step_1; refine st_seq ?_
    push_cast [hra]
    unfold t_L_step_2; refine st_seq ?_
    push_cast [hd, ls_place]
    unfold t_L_step_3; refine st_seq ?_
    push_cast
    refine ⟨(by simp only [List.length_cons, List.length_nil]; decide), fun p H1 A1 => ?_⟩
    replace hd := A1.k hd; replace hnb := A1.k hnb; replace hhb := A1.k hhb; replace hsb := A1.k hsb; replace hra := A1.k hra
    replace hla := hla.tups A1.tu
    push_cast [A1.at_]
    refine st_seq ?_
    push_cast
    refine ⟨(by simp only [List.length_cons, List.length_nil]; decide), fun q H3 A3 => ?_⟩
    replace hd := A3.k hd; replace hnb := A3.k hnb; replace hhb := A3.k hhb; replace hsb := A3.k hsb
    have hq := A3.at_
    push_cast [hd]
    refine ⟨ls_len, fun H4 M4 => ?_⟩
    replace hnb := M4.k hnb ne
    replace hhb := M4.k hhb (ne_of hhb hd (by simp)); replace hsb := M4.k hsb (ne_of hsb hd (by simp)); replace hq := M4.k hq (ne_of hq hd (by simp)); replace hd := M4.at_
    rw [lp_last] at hd
    exact k H4 nb hb sb ⟨⟨_, hd, .tup hq (.cons (.str _) .nil)⟩, hnb, hhb, hsb, ne⟩ (.refl _ _) ((A1.fr.al A3).mu M4 (by simp))

/-- _law_short from 4 -/
def t_L_short_4 (K : PySem.W.Frag) : TS :=
  (tSeq (tIfS (tTest (tOp (rI0 fun i j => .bl (decide (i < j))) (tVar 2) (tC (.int 4)))) (tSeq (tAsg (xTup (tCons (tC (.str (wd 13))) (tCons (xTup (tCons (xTup (tCons (tC (.str (wd 8))) (tCons (tOp rIxS (tC (.str ("abcdefgh" : Str))) (tCall sp_L_take [] E0 (tCons (tVar 0) (tCons (tC (.int 8)) tNil)))) (tCons (tCall (sp_L_part 6) [] E0 (tCons (tVar 0) (tCons (tC (.int 4)) tNil))) tNil)))) tNil)) tNil))) (gName 1))
    (tFor (iRng1 (tCons (tOp (rI0 fun i j => .int (i + j)) (tVar 2) (tC (.int 2))) tNil)) (gName 3)
    (tSeq (tAsg (tOp rXL (xLst (tCons (xTup (tCons (tC (.str (wd 13))) (tCons (xTup tNil) tNil))) (tCons (xTup (tCons (tC (.str (wd 13))) (tCons (xTup (tCons (xTup (tCons (tC (.str (wd 7))) (tCons (tCall (sp_L_part 6) [] E0 (tCons (tVar 0) (tCons (tC (.int 1)) tNil))) tNil))) tNil)) tNil))) tNil))) (tCall sp_L_take [] E0 (tCons (tVar 0) (tCons (tC (.int 2)) tNil)))) (gName 4))
    (tAsg (xTup (tCons (tC (.str (wd 13))) (tCons (xTup (tCons (tOp rCatX (xTup (tCons (tOp rXL (xLst (tCons (tC (.str (wd 15))) (tCons (tC (.str (wd 14))) tNil))) (tOp (rI (fun _ j => 0 < j) fun i j => .int (i % j)) (tVar 3) (tC (.int 2)))) (tCons (tCall (sp_L_part 6) [] E0 (tCons (tVar 0) (tCons (tC (.int 1)) tNil))) (tCons (tVar 1) tNil)))) (tOp (rMulT01 K) (xTup (tCons (tVar 4) tNil)) (tOp (rI (fun _ j => 0 < j) fun i j => .int (i % j)) (tVar 3) (tC (.int 2))))) tNil)) tNil))) (gName 1))))) tNext)
    (tRet (tVar 1)))

/-- _law_short from 3 -/
def t_L_short_3 (K : PySem.W.Frag) : TS :=
  tSeq (tAsg (tCall sp_L_take [] E0 (tCons (tVar 0) (tCons (tC (.int 8)) tNil))) (gName 2)) (t_L_short_4 K)

/-- _law_short from 2 -/
def t_L_short_2 (K : PySem.W.Frag) : TS :=
  tSeq (tIfS (tTest (tOp (rI0 fun i j => .bl (decide (j < i))) (tCB rLenL (tCons (tCall (sp_L_lines 26) [] E0 (tCons (tVar 1) (tCons (tC (.int 0)) tNil))) tNil)) (tC (.int 60)))) (tAsg (xTup (tCons (tC (.str (wd 13))) (tCons (xTup (tCons (xTup (tCons (tC (.str (wd 7))) (tCons (tCall (sp_L_part 6) [] E0 (tCons (tVar 0) (tCons (tC (.int 4)) tNil))) tNil))) tNil)) tNil))) (gName 1)) tNext) (t_L_short_3 K)

/-- _law_short from 1 -/
def t_L_short_1 (K : PySem.W.Frag) : TS :=
  tSeq (tAsg (tCall sp_L_program [] E0 (tCons (tVar 0) (tCons (tC (.int 3)) tNil))) (gName 1)) (t_L_short_2 K)

/-- _law_short -/
def t_L_short (K : PySem.W.Frag) : TS :=
  tSeq (tIfS (tTest (tOp rEq (tCall sp_L_take [] E0 (tCons (tVar 0) (tCons (tC (.int 16)) tNil))) (tC (.int 1)))) (tRet (xTup (tCons (tC (.str (wd 13))) (tCons (xTup tNil) tNil)))) tNext) (t_L_short_1 K)

theorem PrT.of {p : List Sm} (ok : okL 5 p) (hd : dpL p ≤ 12) (hc : cntL p ≤ 11) : PrT p := ⟨okL_mono (by decide) p ok, by omega, by omega, Nat.le_trans (linL_len 0 p) (by omega)⟩
theorem PrT.l60 {p : List Sm} (hc : cntL p ≤ 11) : (linL 0 p).length ≤ 60 := Nat.le_trans (linL_len 0 p) (by omega)
theorem rowD_nil {H : Hp} {p q : Addr} (h1 : H p = some (.tup [])) (h2 : H q = some (.tup [.str (wd 13), .ref p])) : Tp H (rowD []) (.ref q) := .tup h2 (.cons (.str _) (.cons (.tup h1 .nil) .nil))
theorem rowD_one {H : Hp} {p q : Addr} {s : Sm} {v : V} (h : Tp H s.d v) (h1 : H p = some (.tup [v])) (h2 : H q = some (.tup [.str (wd 13), .ref p])) : Tp H (rowD [s]) (.ref q) := .tup h2 (.cons (.str _) (.cons (.tup h1 (.cons h .nil)) .nil))
def ShI (b l : Addr) (H : Hp) (d : Int) (i : Nat) (σ : L2.St) (G : Hp) : Prop := ∃ (p : List Sm) (v : V) (v3 v4 : Option V), σ = [some (.ref b), some v, some (.int d), v3, v4] ∧ Tp G (rowD p) v ∧ okL 5 p ∧ dpL p ≤ 2 + 2 * i ∧ cntL p ≤ 1 + 2 * i ∧ BoxAt G b l ∧ Fr [b, l] H G
theorem rd_L_short {K : PySem.W.Frag} {vs : List V} {H : Hp} {Q : VK} {E : XK} (h : sp_L_short vs H Q E) : t_L_short K { nx := fun _ H' => Q .non H', rt := Q } (start ["_", "_", "_", "_", "_"] vs) H := by
  obtain ⟨b, l, rfl, B, k⟩ := h
  show t_L_short K _ [some (.ref b), none, none, none, none] H
  unfold t_L_short; refine st_seq ?_
  push_cast
  refine ⟨b, l, 16, rfl, B, by decide, by decide, fun r H1 r0 r1 B1 f1 => ⟨rfl, ?_⟩⟩
  refine i2 (fun _ => ?_) fun _ => ?_
  · refine ⟨(by simp only [List.length_cons, List.length_nil]; decide), fun p H2 A2 => ⟨(by simp only [List.length_cons, List.length_nil]; decide), fun q H3 A3 => ?_⟩⟩
    exact k [] _ _ (.of trivial (by decide) (by decide)) (by decide) trivial (by decide) (rowD_nil (A3.k A2.at_) A3.at_) ((B1.keep A2.fr).keep A3.fr) ((f1.al A2).al A3)
  unfold t_L_short_1; refine st_seq ?_
  push_cast
  refine ⟨b, l, rfl, B1, fun p v H2 ok hd hc tp B2 f2 => ?_⟩
  have F2 : Fr [b, l] H H2 := f1.trans f2
  have ok8 := okL_mono (m := 5) (n := 8) (by decide) p ok
  have key : ∀ (p : List Sm) (v : V) (G : Hp), PrT p → (linL 0 p).length ≤ 60 → okL 5 p → dpL p ≤ 12 → Tp G (rowD p) v → BoxAt G b l → Fr [b, l] H G → t_L_short_3 K { nx := fun _ H' => Q .non H', rt := Q } [some (.ref b), some v, none, none, none] G := by
    intro p v G pt p60 ok hd tp BG FG
    unfold t_L_short_3; refine st_seq ?_
    push_cast
    refine ⟨b, l, 8, rfl, BG, by decide, by decide, fun d H4 d0 d1 B4 f4 => ?_⟩
    have F4 : Fr [b, l] H H4 := FG.trans f4
    unfold t_L_short_4; refine st_seq ?_
    push_cast
    refine i2 (fun hd4 => ?_) fun _ => k p v H4 pt p60 ok hd (tp.tups f4.tu) B4 F4
    refine st_seq ?_
    push_cast
    refine ⟨b, l, 8, rfl, B4, by decide, by decide, fun r H5 r0 r1 B5 f5 => ?_⟩
    obtain ⟨c, hc, nc⟩ := abc8_at r0 r1
    refine ⟨r, rfl, abc8_len, c, hc, ?_⟩
    refine ⟨b, l, 4, rfl, B5, by decide, fun e ve H6 oe de te B6 f6 => ⟨(by simp only [List.length_cons, List.length_nil]; decide), fun p1 H7 A7 => ⟨(by simp only [List.length_cons, List.length_nil]; decide), fun p2 H8 A8 => ⟨(by simp only [List.length_cons, List.length_nil]; decide), fun p3 H9 A9 => ?_⟩⟩⟩⟩
    have F9 : Fr [b, l] H H9 := ((((F4.trans f5).trans f6).al A7).al A8).al A9
    have B9 := ((B6.keep A7.fr).keep A8.fr).keep A9.fr
    have ts : Tp H9 (Sm.set ⟨#[c]⟩ e).d (.ref p1) := .tup (A9.k (A8.k A7.at_)) (.cons (.str _) (.cons (.str _) (.cons (((te.tups A7.tu).tups A8.tu).tups A9.tu) .nil)))
    refine forR (n := d + 2) (fun R h => by push_cast; exact h) (by omega) (by omega) (ShI b l H d) ⟨[.set ⟨#[c]⟩ e], _, none, none, rfl, rowD_one ts (A9.k A8.at_) A9.at_, ⟨⟨nc, oe, by omega⟩, trivial⟩, by simp only [dpL, Sm.dp]; omega, by simp only [cntL, Sm.cnt]; omega, B9, F9⟩ ?_ ?_
    · rintro i _ G hi ⟨p, v, v3, v4, rfl, tp, ok, hd, hc, BG, FG⟩
      show tSeq _ _ _ [some (.ref b), some v, some (.int d), some (.int (i : Nat)), v4] G
      refine st_seq ?_
      push_cast
      refine ⟨(by simp only [List.length_cons, List.length_nil]; decide), fun a1 G1 A1 => ⟨(by simp only [List.length_cons, List.length_nil]; decide), fun a2 G2 A2 => ?_⟩⟩
      refine ⟨b, l, 1, rfl, (BG.keep A1.fr).keep A2.fr, by decide, fun e1 ve1 G3 oe1 de1 te1 B3 f3 => ⟨(by simp only [List.length_cons, List.length_nil]; decide), fun a3 G4 A4 => ⟨(by simp only [List.length_cons, List.length_nil]; decide), fun a4 G5 A5 => ⟨(by simp only [List.length_cons, List.length_nil]; decide), fun a5 G6 A6 => ⟨(by simp only [List.length_cons, List.length_nil]; decide), fun a6 G7 A7 => ?_⟩⟩⟩⟩⟩
      have B7 := (((B3.keep A4.fr).keep A5.fr).keep A6.fr).keep A7.fr
      refine ⟨b, l, 2, rfl, B7, by decide, by decide, fun w G8 w0 w1 B8 f8 => ?_⟩
      have off6 : a6 ∉ [b, l] := (((B3.keep A4.fr).keep A5.fr).keep A6.fr).off A7.new
      have F8 : Fr [b, l] H G8 := (((((((FG.al A1).al A2).trans f3).al A4).al A5).al A6).al A7).trans f8
      have tu8 : Tups G2 G8 := ((((f3.tu.trans A4.tu).trans A5.tu).trans A6.tu).trans A7.tu).trans f8.tu
      have o1 : Tp G8 (rowD []) (.ref a2) := rowD_nil (tu8 _ _ (A2.k A1.at_)) (tu8 _ _ A2.at_)
      have tu4 : Tups G4 G8 := ((A5.tu.trans A6.tu).trans A7.tu).trans f8.tu
      have o2 : Tp G8 (rowD [.say e1]) (.ref a5) := rowD_one (p := a4) (v := .ref a3) (.tup (tu4 _ _ A4.at_) (.cons (.str _) (.cons ((te1.tups A4.tu).tups tu4) .nil))) ((A6.tu.trans (A7.tu.trans f8.tu)) _ _ A5.at_) ((A7.tu.trans f8.tu) _ _ A6.at_)
      obtain ⟨t, vo, hvo, to, okt, dt, ct⟩ : ∃ (t : List Sm) (vo : V), atI [V.ref a2, V.ref a5] w = some vo ∧ Tp G8 (rowD t) vo ∧ okL 5 t ∧ dpL t ≤ 2 ∧ cntL t ≤ 1 := by
        have : w = 0 ∨ w = 1 := by omega
        rcases this with rfl | rfl
        · exact ⟨[], _, atI0 _ _, o1, trivial, by decide, by decide⟩
        · exact ⟨[.say e1], _, atI1 _ _ _, o2, ⟨⟨oe1, by omega⟩, trivial⟩, by simp [dpL, Sm.dp], by simp [cntL, Sm.cnt]⟩
      have tp8 : Tp G8 (rowD p) v := (((tp.tups A1.tu).tups A2.tu).tups tu8)
      rcases Int.emod_two_eq (i : Int) with h2 | h2
      · rw [h2]
        refine ⟨_, w, rfl, f8.keep _ _ A7.at_ off6, vo, hvo, (by simp only [List.length_cons, List.length_nil]; decide), fun a7 G9 A9 => ⟨by decide, _, A9.at_, _, atI0 _ _, ?_⟩⟩
        refine ⟨b, l, 1, rfl, B8.keep A9.fr, by decide, fun e2 ve2 G10 oe2 de2 te2 B10 f10 => ⟨(by simp only [List.length_cons, List.length_nil]; decide), fun a8 G11 A11 => ⟨(by simp only [List.length_cons, List.length_nil]; decide), fun a9 G12 A12 => ⟨by decide, a9, _, rfl, A12.at_, by simp, .inl ⟨rfl, fun a10 G13 A13 => ?_⟩⟩⟩⟩⟩
        refine ⟨a10, rfl, _, A13.k (A12.k A11.at_), _, A13.at_, (by simp only [List.length_cons, List.length_nil]; decide), fun a11 G14 h14 f14 => ⟨(by simp only [List.length_cons, List.length_nil]; decide), fun a12 G15 A15 => ⟨(by simp only [List.length_cons, List.length_nil]; decide), fun a13 G16 A16 => ?_⟩⟩⟩
        have tuA : Tups G10 G16 := ((((A11.tu.trans A12.tu).trans A13.tu).trans f14.tu).trans A15.tu).trans A16.tu
        have F16 : Fr [b, l] H G16 := ((((((((F8.al A9).trans f10).al A11).al A12).al A13).trans (f14.mono (by simp))).al A15).al A16)
        have B16 := (((((B10.keep A11.fr).keep A12.fr).keep A13.fr).keep f14).keep A15.fr).keep A16.fr
        have ts : Tp G16 (Sm.whl e2 p).d (.ref a11) := by
          have z : Tp G16 (.tuple [.str (wd 15), e2.d, rowD p]) (.ref a11) := .tup (A16.k (A15.k h14)) (.cons (.str _) (.cons (te2.tups tuA) (.cons (((tp8.tups A9.tu).tups f10.tu).tups tuA) .nil)))
          simpa only [Sm.d, rowD] using z
        refine ⟨[.whl e2 p], .ref a13, _, _, rfl, rowD_one ts (A16.k A15.at_) A16.at_, ⟨⟨⟨oe2, by omega⟩, ok⟩, trivial⟩, by simp only [dpL, Sm.dp]; omega, by simp only [cntL, Sm.cnt]; omega, B16, F16⟩
      · rw [h2]
        refine ⟨_, w, rfl, f8.keep _ _ A7.at_ off6, vo, hvo, (by simp only [List.length_cons, List.length_nil]; decide), fun a7 G9 A9 => ⟨by decide, _, A9.at_, _, atI1 _ _ _, ?_⟩⟩
        refine ⟨b, l, 1, rfl, B8.keep A9.fr, by decide, fun e2 ve2 G10 oe2 de2 te2 B10 f10 => ⟨(by simp only [List.length_cons, List.length_nil]; decide), fun a8 G11 A11 => ⟨(by simp only [List.length_cons, List.length_nil]; decide), fun a9 G12 A12 => ⟨by decide, a9, _, rfl, A12.at_, by simp, .inr ⟨rfl, ?_⟩⟩⟩⟩⟩
        refine ⟨a9, rfl, _, A12.k A11.at_, _, A12.at_, (by simp only [List.length_cons, List.length_nil]; decide), fun a11 G14 h14 f14 => ⟨(by simp only [List.length_cons, List.length_nil]; decide), fun a12 G15 A15 => ⟨(by simp only [List.length_cons, List.length_nil]; decide), fun a13 G16 A16 => ?_⟩⟩⟩
        have tuA : Tups G10 G16 := (((A11.tu.trans A12.tu).trans f14.tu).trans A15.tu).trans A16.tu
        have F16 : Fr [b, l] H G16 := (((((((F8.al A9).trans f10).al A11).al A12).trans (f14.mono (by simp))).al A15).al A16)
        have B16 := ((((B10.keep A11.fr).keep A12.fr).keep f14).keep A15.fr).keep A16.fr
        have ts : Tp G16 (Sm.ite e2 p t).d (.ref a11) := by
          have z : Tp G16 (.tuple [.str (wd 14), e2.d, rowD p, rowD t]) (.ref a11) := .tup (A16.k (A15.k h14)) (.cons (.str _) (.cons (te2.tups tuA) (.cons (((tp8.tups A9.tu).tups f10.tu).tups tuA) (.cons (((to.tups A9.tu).tups f10.tu).tups tuA) .nil))))
          simpa only [Sm.d, rowD] using z
        refine ⟨[.ite e2 p t], .ref a13, _, _, rfl, rowD_one ts (A16.k A15.at_) A16.at_, ⟨⟨⟨oe2, by omega⟩, ok, okt⟩, trivial⟩, by simp only [dpL, Sm.dp]; omega, by simp only [cntL, Sm.cnt]; omega, B16, F16⟩
    · rintro _ G ⟨p, v, v3, v4, rfl, tp, ok, hd, hc, BG, FG⟩
      push_cast
      exact k p v G (.of ok (by omega) (by omega)) (PrT.l60 (by omega)) ok (by omega) tp BG FG
  unfold t_L_short_2; refine st_seq ?_
  push_cast
  refine ⟨v, 0, .row p, rfl, tp, by simp only [Un.dp]; omega, ok8, by simp only [Un.cnt]; omega, by simp only [Un.dp]; omega, fun a H3 ha f3 _ => ?_⟩
  push_cast [ha, svs_len]
  refine i2 (fun h60 => ?_) fun h60 => key p v H3 ⟨ok8, by omega, by omega, by simp only [Un.lin] at h60; omega⟩ (by simp only [Un.lin] at h60; omega) ok (by omega) (tp.tups f3.tu) (B2.keep f3) (F2.trans (f3.mono (by simp)))
  refine ⟨b, l, 4, rfl, B2.keep f3, by decide, fun e ve H4 oe de te B4 f4 => ⟨(by simp only [List.length_cons, List.length_nil]; decide), fun p1 H5 A5 => ⟨(by simp only [List.length_cons, List.length_nil]; decide), fun p2 H6 A6 => ⟨(by simp only [List.length_cons, List.length_nil]; decide), fun p3 H7 A7 => ?_⟩⟩⟩⟩
  have ts : Tp H7 (Sm.say e).d (.ref p1) := .tup (A7.k (A6.k A5.at_)) (.cons (.str _) (.cons (((te.tups A5.tu).tups A6.tu).tups A7.tu) .nil))
  exact key [.say e] _ _ (.of ⟨⟨oe, by omega⟩, trivial⟩ (by simp [dpL, Sm.dp]) (by simp [cntL, Sm.cnt])) (PrT.l60 (by simp [cntL, Sm.cnt])) ⟨⟨oe, by omega⟩, trivial⟩ (by simp [dpL, Sm.dp]) (rowD_one ts (A7.k A6.at_) A7.at_) (((B4.keep A5.fr).keep A6.fr).keep A7.fr) (((((F2.trans (f3.mono (by simp))).trans f4).al A5).al A6).al A7)

/-! list(reversed(a list)); try .. except X: without a name -/
section
variable {prog : Program} {w : World} {A : Around} {E : Value → Shared → Prop} {s : Shared}
theorem extend_rev {R : Result → Shared → Prop} {it l : Addr} {items : Array Value} (hh : A.handled = none) (hit : s.heap.IsRevIter it l ((items.size : Int) - 1)) (hl : s.heap.IsList l items) (hne : l ≠ it) (hn : items.size ≤ sizeLine)
    (S : Addr) (res : Value) (c₀ : Nat) (hSi : S ≠ it) (hSl : S ≠ l) (hS : s.heap.get? S = some { cls := .type "list", data := .seq #[] c₀ })
    (hR : ∀ h' tk acc' c', (∀ b o, b ≠ S → b ≠ it → s.heap.get? b = some o → h'.get? b = some o) → h'.get? S = some { cls := .type "list", dict := none, data := .seq acc' c', slots := #[] } →
      ItemsOf (fun i v => items[items.size - 1 - i]? = some v) acc' items.size → R (.ok (.ret res)) { s with heap := h', toks := tk }) :
    wpAny (model prog w) A.in1 (Builtin.List.listExtendWith (.ref S) (.ref it) res)
      (fun fin s' => match fin with | .done f => R (.ok f) s' | .again c' => c'.quiet = true ∧ codeAny (model prog w) A c' R s') (fun e s' => R (.error e) s') s := by
  have W := (Walks.listRev (prog := prog) (w := w) (A := A.in1) hh it l hne items).toS
  have hSf : S ∉ [it, l] := by simp only [List.mem_cons, List.not_mem_nil, or_false, not_or]; exact ⟨hSi, hSl⟩
  have hT : s.TypeIs (.ref it) "list_reverseiterator" := hit.typeIs
  have h1 : Builtin.List.listSameRef (.ref S) (.ref it) = false := by simp [Builtin.List.listSameRef, hSi]
  unfold Builtin.List.listExtendWith
  refine wpAny_bind (wpAny_typeOf hT ?_)
  rw [if_neg (by rw [h1]; decide)]
  refine wpAny_bind (wpAny_pyIter_revIter hit ?_)
  refine wpAny_bind (wpAny_holding ?_)
  unfold Builtin.List.listLengthHint
  refine wpAny_bind (wpAny_specialOf hT RT.nolen_lri ?_)
  show wpAny _ A.in1 (specialOf (Value.ref it) (Str.ofString "__length_hint__") >>= _) _ _ _
  refine wpAny_bind (wpAny_specialOf hT RT.hint_lri ?_)
  generalize hid : ("list_reverseiterator.__length_hint__" : String) = id0
  wp_delta
  rw [show splitId id0 = some ("list_reverseiterator", "__length_hint__") from by subst hid; decide +kernel]
  subst hid
  refine wpAny_bind (wpAny_isInstance (b := true) hT (by rw [isSubtype_type]; kernel_rfl) ?_)
  refine wpAny_pure ?_
  rw [if_neg (by decide)]
  have e0 : ((items.size : Nat) : Int) - 1 - ((0 : Nat) : Int) = (items.size : Int) - 1 := by omega
  refine wpAny_pure ⟨plainId_quiet F.plain_extend_loop _, codeAny_extend_loopS W hn _ hSf _ items.size 0 _ _ _ rfl (Nat.zero_le _) ⟨Nat.zero_le _, by rw [e0]; exact hit, hl⟩ hS (ItemsOf.nil _) fun s' acc' c' hm hS' hacc => ?_⟩
  rw [Moved.eq_with hm]
  refine hR s'.heap s'.toks acc' c' (fun b o hb hb2 e => hm.heap b o (fun hmem => ?_) e) hS' hacc
  rcases List.mem_cons.mp hmem with e' | hmem
  · exact hb e'
  · exact hb2 (List.mem_singleton.mp hmem)
theorem list_init_rev {R : Result → Shared → Prop} {it l : Addr} {items : Array Value} (hh : A.handled = none) (hit : s.heap.IsRevIter it l ((items.size : Int) - 1)) (hl : s.heap.IsList l items) (hne : l ≠ it) (hn : items.size ≤ sizeLine)
    (S : Addr) (hSi : S ≠ it) (hSl : S ≠ l) (hS : s.heap.get? S = some { cls := .type "list", data := .seq #[] })
    (hR : ∀ h' tk acc' c', (∀ b o, b ≠ S → b ≠ it → s.heap.get? b = some o → h'.get? b = some o) → h'.get? S = some { cls := .type "list", dict := none, data := .seq acc' c', slots := #[] } →
      ItemsOf (fun i v => items[items.size - 1 - i]? = some v) acc' items.size → R (.ok (.ret .none)) { s with heap := h', toks := tk }) :
    wpAny (model prog w) A.in1 (Builtin.«list.__init__» ⟨[.ref S, .ref it], []⟩)
      (fun fin s' => match fin with | .done f => R (.ok f) s' | .again c' => c'.quiet = true ∧ codeAny (model prog w) A c' R s') (fun e s' => R (.error e) s') s := by
  show wpAny _ _ (do let old ← Builtin.List.listItems (.ref S); Builtin.List.listUpdate (.ref S) (fun _ => #[]); letGo old.toList.reverse; Builtin.List.listExtendWith (.ref S) (.ref it) .none) _ _ s
  refine wpAny_bind ?_
  unfold Builtin.List.listItems
  refine wpAny_bind (wpAny_seqItems hS rfl (wpAny_pure ?_))
  show wpAny _ _ (updateSeq S (fun _ => #[]) >>= fun _ => letGo (#[] : Array Value).toList.reverse >>= fun _ => Builtin.List.listExtendWith (.ref S) (.ref it) .none) _ _ s
  refine wpAny_bind (wpAny_updateSeq hS rfl ?_)
  have hS₂ := Heap.get?_update_self (Obj.mapSeq (fun _ => (#[] : Array Value))) hS rfl
  have oth : ∀ b o, b ≠ S → s.heap.get? b = some o → (s.heap.update S (Obj.mapSeq (fun _ => (#[] : Array Value)))).get? b = some o :=
    fun b o hb e => (Heap.get?_update_other _ _ (Ne.symm hb)).trans e
  refine wpAny_bind (wpAny_letGo ?_)
  refine extend_rev hh (hit.at fun o e => oth it o (Ne.symm hSi) e) (hl.at fun o e => oth l o (Ne.symm hSl) e) hne hn S .none _ hSi hSl hS₂ fun h' tk acc' c' hk hS' hacc => ?_
  exact hR h' tk acc' c' (fun b o hb hb2 e => hk b o hb hb2 (oth b o hb e)) hS' hacc
theorem call_list_rev {Q : Value → Shared → Prop} {it l : Addr} {items : Array Value} (hh : A.handled = none) (hit : s.heap.IsRevIter it l ((items.size : Int) - 1)) (hl : s.heap.IsList l items) (hne : l ≠ it) (hn : items.size ≤ sizeLine)
    (hQ : ∀ h' tk acc' c', (∀ b o, b ≠ it → s.heap.get? b = some o → h'.get? b = some o) →
      h'.get? s.heap.objs.size = some { cls := .type "list", dict := none, data := .seq acc' c', slots := #[] } → ItemsOf (fun i v => items[items.size - 1 - i]? = some v) acc' items.size → Q (.ref s.heap.objs.size) { s with heap := h', toks := tk }) :
    wpAny (model prog w) A (call (.type "list") [.ref it]) Q E s := by
  refine callType_codes (Q₁ := fun obj s₁ => obj = .ref s.heap.objs.size ∧ s₁ = { s with heap := s.heap.push { cls := .type "list", data := .seq #[] } }) F.called_list (F.typeCall_list_1 _) F.entry_list_init
    (code_list_new _ ⟨rfl, rfl⟩) fun obj s₁ h₁ => ?_
  obtain ⟨rfl, rfl⟩ := h₁
  obtain ⟨oi, hoi, _⟩ := id hit
  obtain ⟨ol, hol, _⟩ := id hl
  have hS : (s.heap.push { cls := .type "list", data := .seq #[] }).get? s.heap.objs.size = some { cls := .type "list", data := .seq #[] } := Heap.get?_push_size _ rfl
  refine ⟨⟨_, hS, rfl⟩, F.args_list_init_2 _ _, list_init_rev (A := A.in1) hh (hit.at fun o e => Heap.get?_push_of_some _ e) (hl.push _) hne hn _ (Nat.ne_of_gt (Heap.lt_size hoi)) (Nat.ne_of_gt (Heap.lt_size hol)) hS fun h' tk acc' c' hk hS' hacc => ?_⟩
  exact ⟨rfl, hQ h' tk acc' c' (fun b o hb e => hk b o (Nat.ne_of_lt (Heap.lt_size e)) hb (Heap.get?_push_of_some _ e)) hS' hacc⟩
end
section
variable {X : Cx}
/-- list(reversed(x)), x a list: a new list -/
def tLstRev (te : TE) : TE := fun σ H Q => te σ H fun v H1 => ∃ (a : Addr) (xs : List V), v = .ref a ∧ H1 a = some (.lst xs) ∧ ∀ q H2, Al H1 q (.lst xs.reverse) H2 → Q (.ref q) H2
theorem pe_lstRev {e : Expr} {te : TE} {p p2 pos pos2 : Pos} (hc : X.calm = true) (hg : Gl X "list") (hm : X.mg "list" = none) (hg2 : Gl X "reversed") (hm2 : X.mg "reversed" = none) (he : PE X e te)
    (hs : starEach [e] X.env = (false, eval e X.env) :: starEach [] X.env := by rfl)
    (hs2 : starEach [.Call (.Name "reversed" p2) [e] [] pos2] X.env = (false, eval (.Call (.Name "reversed" p2) [e] [] pos2) X.env) :: starEach [] X.env := by rfl) :
    PE X (.Call (.Name "list" p) [.Call (.Name "reversed" p2) [e] [] pos2] [] pos) (tLstRev te) := by
  refine ⟨fun pins s σ H Q I h => ?_⟩
  refine Call_ (ld_blt I hg hm boot_list (PyProof.Rows.callWith_type1 (args_cons (Call_ (ld_blt I hg2 hm2 PyProof.Rows.boot_reversed (PyProof.Rows.callWith_type1 (args_cons (thn (he.run pins s σ H _ I h) fun u s1 ⟨v, H1, I1, r1, q1⟩ => args_nil ?_) hs) hs rfl))) hs2) hs2 rfl))
  obtain ⟨a, xs, ev, hq, q⟩ := q1
  subst ev
  obtain rfl : u = Value.ref a := r1
  obtain ⟨its, rv, p', hz⟩ := I1.list (SqL.of hq)
  refine call_reversed_list p'.isList (args_nil ?_)
  have k0 : ∀ b o, s1.heap.get? b = some o → (s1.heap.push (revObj a ((its.toArray.size : Int) - 1))).get? b = some o := fun b o e => Heap.get?_push_of_some _ e
  have I2 : Inv X pins σ H1 { s1 with heap := s1.heap.push (revObj a ((its.toArray.size : Int) - 1)) } := I1.kept (t' := s1.toks) k0
  have fp : FpOk X pins H1 s1.heap.objs.size := I1.fpOk (H' := H1) (b := s1.heap.objs.size) (Nat.le_refl _) (I1.hok.fresh (Nat.le_refl _))
  have hl := p'.isList
  obtain ⟨ol, hol, _⟩ := id hl
  have hne : a ≠ s1.heap.objs.size := Nat.ne_of_lt (Heap.lt_size hol)
  have hn : its.toArray.size ≤ sizeLine := by rw [List.size_toArray, ← rv.length]; exact hz
  refine call_list_rev (s := { s1 with heap := s1.heap.push (revObj a ((its.toArray.size : Int) - 1)) }) (I1.ok.hd hc) ⟨_, Heap.get?_push_size _ rfl, rfl, rfl⟩ (hl.push _) hne hn fun h' tk acc c' hk hS hi => ?_
  have hn2 := I2.hok.fresh (Nat.le_refl _)
  have new : ObjOk X.prog X.w (upd H1 (s1.heap.push (revObj a ((its.toArray.size : Int) - 1))).objs.size (.lst xs.reverse)) h' (s1.heap.push (revObj a ((its.toArray.size : Int) - 1))).objs.size (.lst xs.reverse) :=
    ⟨by rw [List.length_reverse]; exact hz, acc.toList, c', RT.vals_rev rv hi, by rw [Array.toArray_toList]; exact hS⟩
  have I3 := I2.turnedNew (t' := tk) (ch := [s1.heap.objs.size]) (fun b o hb e => hk b o (by simpa using hb) e) (fun b hb => by
    have e : b = s1.heap.objs.size := by simpa using hb
    rw [e]; exact fp) (Nat.le_refl _) new
  exact ⟨.ref (s1.heap.push (revObj a ((its.toArray.size : Int) - 1))).objs.size, _, I3, rfl, q _ _ (Al.of hn2)⟩
end
/-- try: body; except x: suite -/
def tTryOnly (K : PySem.W.Frag) (c : Value) (tb : WX → TS) (ts : Addr → Value → Option Addr → TS) : TS := fun D σ H => tb (wOnly K c ts (fun _ _ _ _ => False) D) D σ H

/-! while an exception is handled: the ends of iterators, unpacking -/
open HotX (HotAt)
section
variable {prog : Program} {w : World} {A : Around} {E : Value → Shared → Prop} {s : Shared} {x1 it : Addr}
/-- StopIteration, raised while x1 is handled -/
theorem stop_hot {α : Type} {Q : α → Shared → Prop} (hot : HotAt A x1 s.heap) (hE : ∀ a h', (∀ b o, s.heap.get? b = some o → h'.get? b = some o) → ({ s with heap := h' } : Shared).TypeIs (.ref a) "StopIteration" → E (.ref a) { s with heap := h' }) :
    wpAny (model prog w) A (newExc (.type "StopIteration") [] >>= fun e => (raiseNew e : Sem α)) Q E s := by
  obtain ⟨hh, o1, vs1, h1, d1, c1⟩ := hot
  refine wpAny_bind ?_
  simp only [newExc, newTuple]
  refine wpAny_bind (wpAny_newObj_type (wpAny_bind (m := firstArgMember _ _) (wpAny_of_eq (a := Value.none) (by first | rfl | (simp only [firstArgMember]; rfl)) (wpAny_newObj_type ?_ (by size_fits)))) (by size_fits))
  refine HotX.raiseNew_hot ⟨hh, o1, vs1, Heap.get?_push_of_some _ (Heap.get?_push_of_some _ h1), d1, c1⟩ (Nat.ne_of_lt (Heap.lt_size (Heap.get?_push_of_some _ h1))) (Heap.get?_push_size _ rfl) rfl (by first | (simp; done) | (simp; omega) | (simp only [Array.size_append]; simp; omega)) ?_
  refine hE _ _ (fun b o e => ?_) ⟨_, Heap.get?_update_self _ (Heap.get?_push_size _ rfl) rfl, rfl⟩
  rw [Heap.get?_update_other _ _ (Nat.ne_of_gt (Heap.lt_size (Heap.get?_push_of_some _ e)))]
  exact Heap.get?_push_of_some _ (Heap.get?_push_of_some _ e)
theorem hot_upd {f : Obj → Obj} (hot : HotAt A x1 s.heap) (hne : x1 ≠ it) : HotAt A x1 (s.heap.update it f) := by
  obtain ⟨hh, o1, vs1, h1, r⟩ := hot
  exact ⟨hh, o1, vs1, (Heap.get?_update_other _ _ (Ne.symm hne)).trans h1, r⟩
variable {x : Str} {t : Tok} {i : Nat} {Q : Option Value → Shared → Prop}
theorem ascii_end_hot (hot : HotAt A x1 s.heap) (hne : x1 ≠ it) (hit : s.heap.IsStrIter it "str_ascii_iterator" x t i) (hx : x.cps[i]? = none)
    (hQ : ∀ h', Heap.ExtBut it s.heap h' → Q none { s with heap := h' }) : wpAny (model prog w) A (pyNext (.ref it)) Q E s := by
  obtain ⟨o, ho, hc, hd⟩ := id hit
  unfold pyNext
  refine wpAny_bind (wpAny_attempt (wpAny_callSpecial?_slot (name := Str.ofString "__next__") hit.typeIs F.slot_str_ascii_iterator_next (wpAny_call_entry F.slot_str_ascii_iterator_next hit.typeIs F.entry_str_ascii_iterator_next ?_ (F.args_str_ascii_iterator_next_1 _))))
  show wpAny _ _ (field (.ref it) 0 >>= _) _ _ s
  refine wpAny_bind (wpAny_field ho hd (x := .str x t) rfl ?_)
  show wpAny _ _ (field (.ref it) 1 >>= _) _ _ s
  refine wpAny_bind (wpAny_field ho hd (x := .int i 0) rfl ?_)
  simp only [Int.toNat_natCast, hx]
  refine wpAny_bind (wpAny_rule (wpAny_bind (wpAny_setField ho hd (by simp) (wpAny_bind (wpAny_letGo ?_)))))
  show wpAny _ _ (newExc (.type "StopIteration") [] >>= fun e => raiseNew e) _ _ _
  refine stop_hot (x1 := x1) (hot_upd hot hne) fun a h' k hT => wpAny_bind (wpAny_isInstance (b := true) hT isSubtype_stop (wpAny_pure (hQ _ fun b o hb e => k b o ((Heap.SameBut.update ..).extBut b o hb e))))
theorem wide_end_hot (hot : HotAt A x1 s.heap) (hne : x1 ≠ it) (hit : s.heap.IsStrIter it "str_iterator" x t i) (hx : x.cps[i]? = none)
    (hQ : ∀ h', Heap.ExtBut it s.heap h' → Q none { s with heap := h' }) : wpAny (model prog w) A (pyNext (.ref it)) Q E s := by
  obtain ⟨o, ho, hc, hd⟩ := id hit
  unfold pyNext
  refine wpAny_bind (wpAny_attempt (wpAny_callSpecial?_slot (name := Str.ofString "__next__") hit.typeIs F.slot_str_iterator_next (wpAny_call_entry F.slot_str_iterator_next hit.typeIs F.entry_str_iterator_next ?_ (F.args_str_iterator_next_1 _))))
  show wpAny _ _ (field (.ref it) 0 >>= _) _ _ s
  refine wpAny_bind (wpAny_field ho hd (x := .str x t) rfl ?_)
  show wpAny _ _ (field (.ref it) 1 >>= _) _ _ s
  refine wpAny_bind (wpAny_field ho hd (x := .int i 0) rfl ?_)
  simp only [Int.toNat_natCast, hx]
  refine wpAny_bind (wpAny_rule (wpAny_bind (wpAny_setField ho hd (by simp) (wpAny_bind (wpAny_letGo ?_)))))
  show wpAny _ _ (newExc (.type "StopIteration") [] >>= fun e => raiseNew e) _ _ _
  refine stop_hot (x1 := x1) (hot_upd hot hne) fun a h' k hT => wpAny_bind (wpAny_isInstance (b := true) hT isSubtype_stop (wpAny_pure (hQ _ fun b o hb e => k b o ((Heap.SameBut.update ..).extBut b o hb e))))
theorem tup_end_hot {a : Addr} {items : Array Value} (hot : HotAt A x1 s.heap) (hne : x1 ≠ it) (hit : IsTupIter s.heap it a i) (ht : IsTup s.heap a items) (hx : items[i]? = none)
    (hQ : ∀ h', Heap.ExtBut it s.heap h' → Q none { s with heap := h' }) : wpAny (model prog w) A (pyNext (.ref it)) Q E s := by
  obtain ⟨o, ho, hc, hd⟩ := id hit
  obtain ⟨ol, hol, _, nl, hdl⟩ := ht
  unfold pyNext
  refine wpAny_bind (wpAny_attempt (wpAny_callSpecial?_slot (name := Str.ofString "__next__") hit.typeIs slot_tupleiter_next (wpAny_call_entry slot_tupleiter_next hit.typeIs entry_tupleiter_next ?_ (args_tupleiter_next _))))
  show wpAny _ _ (field (.ref it) 0 >>= _) _ _ s
  refine wpAny_bind (wpAny_field ho hd (x := .ref a) rfl ?_)
  show wpAny _ _ (if (Value.ref a == Value.none) = true then _ else _) _ _ s
  rw [if_neg (show ¬ ((Value.ref a == Value.none) = true) from Bool.false_ne_true)]
  show wpAny _ _ (field (.ref it) 1 >>= _) _ _ s
  refine wpAny_bind (wpAny_field ho hd (x := .int i 0) rfl ?_)
  show wpAny _ _ (seqItems? (.ref a) >>= _) _ _ s
  refine wpAny_bind (wpAny_seqItems hol hdl ?_)
  simp only [Int.toNat_natCast, hx]
  refine wpAny_bind (wpAny_rule (wpAny_bind (wpAny_setField ho hd (by simp) ?_)))
  show wpAny _ _ (newExc (.type "StopIteration") [] >>= fun e => raiseNew e) _ _ _
  refine stop_hot (x1 := x1) (hot_upd hot hne) fun a h' k hT => wpAny_bind (wpAny_isInstance (b := true) hT isSubtype_stop (wpAny_pure (hQ _ fun b o hb e => k b o ((Heap.SameBut.update ..).extBut b o hb e))))
theorem items_end_hot {κ : Type} [DecidableEq κ] {knd : PySem.KeyKind prog w κ} {d : Addr} {ep : Nat} {kvs : List (κ × Value)} {ok ov : Value} (hot : HotAt A x1 s.heap) (hne : x1 ≠ it) (hit : IsItemIter s.heap it d i kvs.length ep ok ov)
    (hm : s.heap.DictAt knd d kvs ep) (hx : kvs[i]? = none)
    (hQ : ∀ h', Heap.ExtBut it s.heap h' → Q none { s with heap := h' }) : wpAny (model prog w) A (pyNext (.ref it)) Q E s := by
  obtain ⟨od, es, hod, hcd, hdd, hk, hpr, hn⟩ := id hm
  have hT : s.TypeIs (.ref it) "dict_itemiterator" := ⟨_, hit, rfl⟩
  have hsz : es.size = kvs.length := by rw [← hpr.length]; simp
  have hge : es.size ≤ i := by rw [hsz]; simpa using hx
  unfold pyNext
  refine wpAny_bind (wpAny_attempt (wpAny_callSpecial?_slot (name := Str.ofString "__next__") hT F.slot_dict_itemiterator_next (wpAny_call_entry F.slot_dict_itemiterator_next hT F.entry_dict_itemiterator_next ?_ (F.args_dict_itemiterator_next_1 _))))
  refine wpAny_bind (wpAny_pure (wpAny_bind (wpAny_bind ?_)))
  first | refine wpAny_bind (wpAny_typeNameOfWhole_itemiter hT (wpAny_pure (wpAny_bind (wpAny_fieldsOf hit rfl ?_)))) | refine wpAny_bind (wpAny_typeNameOf_itemiter hT (wpAny_pure (wpAny_bind (wpAny_fieldsOf hit rfl ?_))))
  have hown : Builtin.Dict_items.ownsTuple "dict_itemiterator" = true := by decide
  simp only [hown, if_true]
  show wpAny _ _ (if (Value.ref d == Value.none) = true then _ else _) _ _ s
  rw [if_neg (show ¬ ((Value.ref d == Value.none) = true) from Bool.false_ne_true)]
  refine wpAny_bind (wpAny_pure (wpAny_bind (wpAny_dictEntries hod hdd ?_)))
  rw [if_neg (by rw [hsz]; simp)]
  refine wpAny_bind (wpAny_pure (wpAny_bind (wpAny_dictEpoch hod hdd ?_)))
  rw [if_neg (by simp)]
  refine wpAny_pure ?_
  simp only [show ¬ ((i : Int) < 0) from by omega, if_false, Int.toNat_natCast, Array.getElem?_eq_none hge]
  refine wpAny_bind ?_
  first | refine wpAny_bind (wpAny_typeNameOfWhole_itemiter hT (wpAny_pure ?_)) | refine wpAny_bind (wpAny_typeNameOf_itemiter hT (wpAny_pure ?_))
  show wpAny _ _ (setField (.ref it) 2 .none >>= _) _ _ s
  refine wpAny_bind (wpAny_setField hit rfl (by simp) ?_)
  show wpAny _ _ (newExc (.type "StopIteration") [] >>= fun e => raiseNew e) _ _ _
  refine stop_hot (x1 := x1) (hot_upd hot hne) fun a h' k hT => wpAny_bind (wpAny_isInstance (b := true) hT isSubtype_stop (wpAny_pure (hQ _ fun b o hb e => k b o ((Heap.SameBut.update ..).extBut b o hb e))))
/-- (a, b, ..) = a tuple -/
theorem assign_tup_hot {env : Env} {elts : List Expr} {y1 : Nat} {pos : Pos} {a : Addr} {items : Array Value} {R : Unit → Shared → Prop} (hot : HotAt A x1 s.heap) (ht : IsTup s.heap a items)
    (hn : (assignEach elts env).length = items.size) (hstar : (assignEach elts env).findIdx? (·.1) = none)
    (h : ∀ h', Heap.ExtBut s.heap.objs.size s.heap h' → wpAny (model prog w) A (assignInOrder ((assignEach elts env).map (·.2)) items.toList) R E { s with heap := h' }) :
    wpAny (model prog w) A (assign (.Tuple elts y1 pos) env (.ref a)) R E s := by
  have hlt : a ≠ s.heap.objs.size := by obtain ⟨o, ho, _⟩ := ht; exact Nat.ne_of_lt (Heap.lt_size ho)
  rw [assign_Tuple]
  refine wpAny_bind (wpAny_standAt ?_)
  unfold unpack
  rw [hn, hstar]
  refine wpAny_bind (wpAny_holding ?_)
  unfold unpackItems notIterableAtAll
  refine wpAny_bind (wpAny_bind (wpAny_specialOf ht.typeIs slot_tuple_iter.lookup (wpAny_pure ?_)))
  simp only [Bool.false_eq_true, if_false]
  refine wpAny_bind (wpAny_holding (iter_tuple ht (wpAny_bind (wpAny_holding (draw_tuple hlt items.size 0 _ _ ⟨_, Heap.get?_push_size _ rfl, rfl, rfl⟩ (ht.push _) (by omega) fun h₁ hit₁ hs₁ => ?_)))))
  have hall : List.take items.size (List.drop 0 items.toList) = items.toList := by
    rw [List.drop_zero]; exact List.take_of_length_le (by simp)
  rw [hall, if_neg (by simp)]
  obtain ⟨hh, o1, vs1, g1, d1, c1⟩ := hot
  have ne : x1 ≠ s.heap.objs.size := Nat.ne_of_lt (Heap.lt_size g1)
  refine wpAny_bind (wpAny_holding (tup_end_hot (x1 := x1) ⟨hh, o1, vs1, hs₁.extBut _ _ ne (Heap.get?_push_of_some _ g1), d1, c1⟩ ne hit₁ ((ht.push _).extBut hs₁.extBut hlt) (by simp) fun h₂ he₂ => ?_))
  simp only [Option.isSome_none, Bool.false_eq_true, if_false]
  exact wpAny_pure (h h₂ fun b o hb e => he₂ b o hb (hs₁.extBut b o hb (Heap.get?_push_of_some _ e)))
end

/-! while an exception is handled: defs, methods, new objects, raise, loops -/
open HotX (HotAt)
open L2H (HotC Hot1 PinOk RoomH FnH cxH TurnH PIH PIEH)
section
variable (P : Program) (w : World) (K : PySem.W.Frag) (mg : Str → Option Value) (base : Heap) (CX : CXT)
/-- .. where an exception is handled: the module's def x keeps sp -/
def HkF (k : Nat) (x : Str) (ps : List Str) (sp : Sp) : Prop := ∃ f fd, FnH P w K mg base CX k f fd ps sp ∧ mg x = some (.ref f) ∧ PySem.W.keepIn K (.ref f) = true ∧ Binds K fd ps []
def HkM (k : Nat) (C : Addr) (m : Str) (ps : List Str) (sp : Sp) : Prop := ∃ f fd, FnH P w K mg base CX k f fd ps sp ∧ Meth K C m f ∧ Binds K fd ps []
def HkI (k : Nat) (C : Addr) (ps : List Str) (sp : Sp) : Prop := ∃ f fd, FnH P w K mg base CX k f fd ps sp ∧ Mk K C f ∧ Binds K fd ps []
end
section
variable {P : Program} {w : World} {K : PySem.W.Frag} {mg : Str → Option Value} {base : Heap} {CX : CXT} {C : Addr} {x m qual : Str} {st : Stmt} {N ps : List Str} {k j : Nat} {sp : Sp}
theorem FnH.mono {f : Addr} {fd : FuncData} (F : FnH P w K mg base CX j f fd ps sp) (h : j ≤ k) : FnH P w K mg base CX k f fd ps sp := ⟨F.len, fun A outer s H args us vs Q E p hr => F.run A outer s H args us vs Q E p (hr.mono h)⟩
theorem HkF.mono (F : HkF P w K mg base CX j x ps sp) (h : j ≤ k) : HkF P w K mg base CX k x ps sp := by
  obtain ⟨f, fd, F, r⟩ := F
  exact ⟨f, fd, Hn.FnH.mono F h, r⟩
theorem HkM.mono (F : HkM P w K mg base CX j C m ps sp) (h : j ≤ k) : HkM P w K mg base CX k C m ps sp := by
  obtain ⟨f, fd, F, r⟩ := F
  exact ⟨f, fd, Hn.FnH.mono F h, r⟩
/-- what a body is to keep there -/
abbrev HBody (P : Program) (w : World) (K : PySem.W.Frag) (mg : Str → Option Value) (base : Heap) (CX : CXT) (qual : Str) (st : Stmt) (N : List Str) (k : Nat) (sp : Sp) : Prop :=
  ∀ (f : Addr) (cdv : Value) (A : Around) (outer : List Env) (s : Shared) (H : Hp) (vs : List V) (Q : VK) (E : XK) (p : Addr × Obj), HotC (cxH CX P w K mg base N qual (defScope st) f cdv A outer s H E p) → RoomH k (A.deeper (envOfC qual (defScope st) s.heap.objs.size f cdv)) → sp vs H Q E →
    ∃ t, PSs (cxH CX P w K mg base N qual (defScope st) f cdv A outer s H E p) (defBody st) t ∧ (HSz H → t { nx := fun _ H' => Q .non H', rt := Q } (start N vs) H)
theorem FunD.okH {nm : Str} {dvs : List V} {kws : List (Str × V)} {f : Addr} {fd : FuncData} (F : FunD K nm qual (defArgs st) (defBody st) (defScope st) dvs kws f fd) (S : FnScope N ps (defScope st)) (len : ∀ vs H Q E, sp vs H Q E → vs.length = ps.length)
    (hbody : HBody P w K mg base CX qual st N k sp) : FnH P w K mg base CX (k + 1) f fd ps sp := by
  obtain ⟨oc, od, dV, kV, doc, pm, an, cdv, ct, osl, rfl, lk, hcd, _, _⟩ := F.ex
  refine L2H.fn_ofH lk hcd S len fun A outer s H vs Q E p hot hr hsp => ?_
  obtain ⟨t, h1, h2⟩ := hbody f cdv A outer s H vs Q E p ⟨p, hot, by show p ∈ [p]; simp⟩ hr hsp
  exact ⟨_, pssSz h1, h2⟩
abbrev BindsBy (nm qual : Str) (st : Stmt) (ps : List Str) : Prop := ∀ (kV doc pm : Value) (an : Option Addr) (cdv ct : Value) (us : List Value), us.length = ps.length → bindArgs (PySem.W.fnOf nm qual (defArgs st) (defBody st) (defScope st) .none kV doc pm an cdv ct) ⟨us, []⟩ = pure (ps.zip us)
theorem DefAt.okH (D : DefAt K mg x st) (S : FnScope N ps (defScope st)) (hb : BindsBy x x st ps) (len : ∀ vs H Q E, sp vs H Q E → vs.length = ps.length) (hbody : HBody P w K mg base CX x st N k sp) : HkF P w K mg base CX (k + 1) x ps sp := by
  obtain ⟨f, fd, F, hm⟩ := D
  exact ⟨f, fd, Hn.FunD.okH F S len hbody, hm, F.kp, F.bindsN hb⟩
theorem MethAt.okH (D : MethAt K C m qual st) (S : FnScope N ps (defScope st)) (hb : BindsBy m qual st ps) (len : ∀ vs H Q E, sp vs H Q E → vs.length = ps.length) (hbody : HBody P w K mg base CX qual st N k sp) : HkM P w K mg base CX (k + 1) C m ps sp := by
  obtain ⟨f, fd, F, hm⟩ := D
  exact ⟨f, fd, Hn.FunD.okH F S len hbody, hm, F.bindsN hb⟩
theorem InitAt.okH (D : InitAt K C qual st) (S : FnScope N ps (defScope st)) (hb : BindsBy "__init__" qual st ps) (len : ∀ vs H Q E, sp vs H Q E → vs.length = ps.length) (hbody : HBody P w K mg base CX qual st N k sp) : HkI P w K mg base CX (k + 1) C ps sp := by
  obtain ⟨f, fd, F, hm⟩ := D
  exact ⟨f, fd, Hn.FunD.okH F S len hbody, hm, F.bindsN hb⟩
theorem FnH.none {f : Addr} {fd : FuncData} (no : ∀ vs H Q E, ¬ sp vs H Q E) : FnH P w K mg base CX 0 f fd ps sp := ⟨fun vs H Q E h => absurd h (no vs H Q E), fun A outer s H args us vs Q E _ _ _ _ _ _ _ h => absurd h (no vs H Q E)⟩
theorem DefAt.noneH (D : DefAt K mg x st) (hb : BindsBy x x st ps) (no : ∀ vs H Q E, ¬ sp vs H Q E) : HkF P w K mg base CX 0 x ps sp := by
  obtain ⟨f, fd, F, hm⟩ := D
  exact ⟨f, fd, Hn.FnH.none no, hm, F.kp, F.bindsN hb⟩
theorem MethAt.noneH (D : MethAt K C m qual st) (hb : BindsBy m qual st ps) (no : ∀ vs H Q E, ¬ sp vs H Q E) : HkM P w K mg base CX 0 C m ps sp := by
  obtain ⟨f, fd, F, hm⟩ := D
  exact ⟨f, fd, Hn.FnH.none no, hm, F.bindsN hb⟩
end
theorem RoomH.units {k : Nat} {A : Around} (r : RoomH k A) : A.units + 64 < cLine := by have := r.un; omega
section
variable {X : Cx} {C : Addr} {o e value : Expr} {es : List Expr} {f m x : Str} {pos pos' apos p : Pos} {ta tv to te : TE} {t : TA} {k : Nat} {ps : List Str} {sp : Sp} {E : XK}
theorem at0 {E : XK} (σ : L2.St) : PassesAt CX0 X σ E := fun _ _ _ _ _ _ h => h.elim
theorem atE (tk : Takes X (fun cls d _ H => E cls d H)) (σ : L2.St) : PassesAt (L2.CX X.prog X.w) X σ E := passAt tk σ
theorem pe_callQ {CX : CXT} (F : HkF X.prog X.w X.K X.mg X.base CX k x ps sp) (hr : RoomH k X.A) (hc : HotC X) (hx : ∀ σ, PassesAt CX X σ E) (hg : Gl X x) (ha : PA X (e :: es) t) (hdb : (x == ("__debug__" : Str)) = false := by decide) (he : starEach (e :: es) X.env = (false, eval e X.env) :: starEach es X.env := by rfl) (hpl : (backTo pos (starEach es X.env)).any (·.1) = false := by rfl) :
    PE X (.Call (.Name x p) (e :: es) [] pos) (tCall sp [] E t) := by
  obtain ⟨f, fd, F, hm, kp, b⟩ := F
  refine peM (L2H.pe_callH (E := fun _ => E) F hr hc hg hm kp b hx ha hdb he hpl) fun σ H Q h => ?_
  have z : (fun (vs : List V) (H1 : Hp) => sp (vs ++ []) H1 Q E) = fun vs H1 => sp vs H1 Q E := by funext vs H1; rw [List.append_nil]
  have h' : t σ H (fun vs H1 => sp (vs ++ []) H1 Q E) := h
  rw [z] at h'
  exact h'
theorem pe_callFH (F : HkF X.prog X.w X.K X.mg X.base CX0 k x ps sp) (hr : RoomH k X.A) (hc : HotC X) (hg : Gl X x) (ha : PA X (e :: es) t) (hdb : (x == ("__debug__" : Str)) = false := by decide) (he : starEach (e :: es) X.env = (false, eval e X.env) :: starEach es X.env := by rfl) (hpl : (backTo pos (starEach es X.env)).any (·.1) = false := by rfl) :
    PE X (.Call (.Name x p) (e :: es) [] pos) (tCall sp [] E0 t) := pe_callQ F hr hc at0 hg ha hdb he hpl
theorem pe_callEH (F : HkF X.prog X.w X.K X.mg X.base (L2.CX X.prog X.w) k x ps sp) (hr : RoomH k X.A) (hc : HotC X) (hg : Gl X x) (tk : Takes X (fun cls d _ H => E cls d H)) (ha : PA X (e :: es) t) (hdb : (x == ("__debug__" : Str)) = false := by decide) (he : starEach (e :: es) X.env = (false, eval e X.env) :: starEach es X.env := by rfl) (hpl : (backTo pos (starEach es X.env)).any (·.1) = false := by rfl) :
    PE X (.Call (.Name x p) (e :: es) [] pos) (tCall sp [] E t) := pe_callQ F hr hc (atE tk) hg ha hdb he hpl
theorem pe_methEH {pl : Sem Bool} (F : HkM X.prog X.w X.K X.mg X.base (L2.CX X.prog X.w) k C m ps sp) (hr : RoomH k X.A) (hc : HotC X) (cl : Cls X.K C) (tk : Takes X (fun cls d _ H => E cls d H)) (he : PE X o ta) (ha : PA X (e :: es) t)
    (hst : starEach (e :: es) X.env = (false, eval e X.env) :: starEach es X.env := by rfl) (hpl : (backTo pos (starEach es X.env)).any (·.1) = false := by rfl)
    (ht : eval (.Call (.Attribute o m apos) (e :: es) [] pos) X.env = (do
      let ov ← eval o X.env
      standAt apos.atName
      let (f, first) ← holding [ov] (getMethod ov m pl)
      callWith pos f first (backTo pos (starEach (e :: es) X.env)) (backToKw pos (keywordEach [] X.env))) := by rfl) :
    PE X (.Call (.Attribute o m apos) (e :: es) [] pos) (xMethE C m sp E ta t) := by
  obtain ⟨f, fd, F, hm, b⟩ := F
  exact L2H.pe_methH (E := fun _ => E) he cl hm F hr hc b (atE tk) ha hst hpl ht
theorem pe_methCH {pl : Sem Bool} (F : HkM X.prog X.w X.K X.mg X.base CX0 k C m ps sp) (hr : RoomH k X.A) (hc : HotC X) (cl : Cls X.K C) (he : PE X o ta) (ha : PA X (e :: es) t)
    (hst : starEach (e :: es) X.env = (false, eval e X.env) :: starEach es X.env := by rfl) (hpl : (backTo pos (starEach es X.env)).any (·.1) = false := by rfl)
    (ht : eval (.Call (.Attribute o m apos) (e :: es) [] pos) X.env = (do
      let ov ← eval o X.env
      standAt apos.atName
      let (f, first) ← holding [ov] (getMethod ov m pl)
      callWith pos f first (backTo pos (starEach (e :: es) X.env)) (backToKw pos (keywordEach [] X.env))) := by rfl) :
    PE X (.Call (.Attribute o m apos) (e :: es) [] pos) (xMeth C m sp ta t) := by
  obtain ⟨f, fd, F, hm, b⟩ := F
  exact L2H.pe_methH (E := fun _ => E0) he cl hm F hr hc b at0 ha hst hpl ht
theorem pe_methE0H {pl : Sem Bool} (F : HkM X.prog X.w X.K X.mg X.base (L2.CX X.prog X.w) k C m ps sp) (hr : RoomH k X.A) (hc : HotC X) (cl : Cls X.K C) (tk : Takes X (fun cls d _ H => E cls d H)) (he : PE X o ta)
    (ht : eval (.Call (.Attribute o m apos) [] [] pos) X.env = (do
      let ov ← eval o X.env
      standAt apos.atName
      let (f, first) ← holding [ov] (getMethod ov m pl)
      callWith pos f first (backTo pos (starEach [] X.env)) (backToKw pos (keywordEach [] X.env))) := by rfl) :
    PE X (.Call (.Attribute o m apos) [] [] pos) (xMethE C m sp E ta tNil) := by
  obtain ⟨f, fd, F, hm, b⟩ := F
  refine ⟨fun pins s σ H Q I h => PySem.W.methodCall_KW (pl := pl) (thn (he.run pins s σ H _ I h) fun u s1 ⟨x, H1, I1, rx, a, dx, fs, ex, ea, l, q⟩ => ?_) ht⟩
  subst ex
  obtain rfl : u = Value.ref a := rx
  exact getmeth_ok I1 ea cl hm l (PySem.W.callWith_K0 (first := [.ref a]) I1.kIn hm.kp (L2H.run_fnH (us := [.ref a]) (vs := [.ref a]) (E := fun _ => E) F hr hc b (atE tk σ) I1 (.cons rfl .nil) q))
/-- C(e, ..) -/
theorem pe_makeCH (F : HkI X.prog X.w X.K X.mg X.base CX0 k C ps sp) (hr : RoomH (k + 1) X.A) (hc : HotC X) (hg : Gl X x) (hm : X.mg x = some (.ref C)) (ha : PA X (e :: es) t) (hdb : (x == ("__debug__" : Str)) = false := by decide)
    (he : starEach (e :: es) X.env = (false, eval e X.env) :: starEach es X.env := by rfl) (hpl : (backTo pos (starEach es X.env)).any (·.1) = false := by rfl) :
    PE X (.Call (.Name x p) (e :: es) [] pos) (xMake C sp t) := by
  obtain ⟨f, fd, F, M, hb⟩ := F
  refine ⟨fun pins s0 σ H0 Q I0 h => wpAny_Call_Name_kw (ld_glob I0 hg hm (PySem.W.callWith_K (h₀ := X.base) I0.ok.mod.kin M.kp (thn (ha.run pos pins s0 σ H0 _ I0 h) fun us s ⟨vs, H, I, r, q⟩ => ⟨I.kIn, ?_⟩) he hpl) hdb)⟩
  have n1 := I.hok.fresh (Nat.le_succ s.heap.objs.size)
  have n2 := I.hok.fresh (Nat.le_refl s.heap.objs.size)
  have hq := q (s.heap.objs.size + 1) s.heap.objs.size _ (al_made n1 n2 (Nat.ne_of_lt (Nat.lt_succ_self _)))
  have I2 := Inv.made (C := C) I
  have r2 : Vals (V.ref (s.heap.objs.size + 1) :: vs) (Value.ref (s.heap.objs.size + 1) :: us) := .cons rfl r
  have hl : (Value.ref (s.heap.objs.size + 1) :: us).length = ps.length := by rw [← r2.length]; exact F.len _ _ _ _ hq
  obtain ⟨y, hot, hp⟩ := hc
  have P1 := I2.pin y (List.mem_append_left _ hp)
  have pk : PinOk X.stack _ _ y := ⟨P1.1, P1.2.1, fun hm => (List.mem_cons.mp (I2.stkSub y.1 hm)).elim P1.2.2.1 P1.2.2.2.1, P1.2.2.2.2⟩
  have hr2 : RoomH k (X.A.under (.builtin "type.__call__" ⟨.ref C :: us, []⟩)) := ⟨by have := hr.dp; rw [make_depth]; omega, by have := hr.un; rw [make_units]; omega⟩
  have b := hb _ (Value.ref (s.heap.objs.size + 1) :: us) I2.kIn (by rw [List.append_nil]; exact hl)
  rw [List.append_nil] at b
  refine wpAny_call (make_map (f := f) I.kIn M.makes M.init (beq_iff_eq.mp M.fn) (codeAny_mono (F.run _ X.stack _ _ ⟨Value.ref (s.heap.objs.size + 1) :: us, []⟩ _ _ _ _ y hr2 hot pk (I2.env0.make C us []) b r2 hq) fun r s' hq' => ?_))
  cases r with
  | error e => exact False.elim hq'
  | ok fl =>
    cases fl with
    | ret u =>
      obtain ⟨v, H', I3, rv, ev, q3⟩ := I2.after hq'
      subst ev
      exact ⟨rv, ⟨V.ref (s.heap.objs.size + 1), H', I3, rfl, q3⟩⟩
    | next => exact False.elim hq'
    | brk => exact False.elim hq'
    | cont => exact False.elim hq'
end
theorem ps_rzH {X : Cx} {C : Addr} {W : WX} {x m : Str} {j : Nat} {p p2 pos pos2 : Pos} (E : ExD X.K X.mg x C) (hc : HotC X) (tk : Takes X W) (hg : Gl X x) (hdb : (x == ("__debug__" : Str)) = false := by decide) :
    PS X (.Raise (some (.Call (.Name x p) [.Constant (.str m) j p2] [] pos)) none pos2) (tRz C W) :=
  L2H.ps_raiseH hc tk (L2N.pmk_own PySem.F.excBase_ValueError E.q E.g E.k (raises_own E.s E.t) hg hdb)
/-! loops -/
theorem turn_tupH {P : Program} {w : World} {K : PySem.W.Frag} {tg : Expr} (a it : Addr) : TurnH P w K tg (Itt K a) [it] it (fun i h => h.IsTupleIter it a i) where
  mem := by simp
  obj := fun i h st b hb => by
    obtain rfl : b = it := by simpa using hb
    obtain ⟨o, e, c, d⟩ := st
    exact ⟨o, e, fun v z => by rw [d] at z; cases z⟩
  keep := fun i h h' st k => st.at fun o e => k it (by simp) o e
  item := by
    intro X hP hw hK hc i pins s σ H E I hf st ⟨xs, x, hq, hx⟩
    subst hP hw hK
    obtain ⟨its, rv, p, hz⟩ := I.tuple hq
    obtain ⟨u, hu, ru⟩ := rv.get hx
    obtain ⟨f0, f1, f2, f3, f4, f5⟩ := hf it (by simp)
    refine wpAny_pyNext_tuple_item st (show s.heap.IsTuple a its.toArray from p) (x := u) (by simpa using hu) fun h' st' sb => ?_
    obtain ⟨o, e, c, d⟩ := id st'
    exact ⟨u, rfl, go_of (s := { s with heap := h' }) e c d (by decide) ⟨x, H, I.turned (t' := s.toks) (fun b o hb e => (sb.2 b hb).trans e) f0 f1 f3 f4 f5, ru, ⟨rfl, fun ys hy => by rw [I.tuple_inj hy hq]; exact hx⟩, st', fun b hb => (hf b hb).1⟩⟩
  done := by
    intro X hP hw hK hc i pins s σ H E I hf st ⟨xs, hq, hx⟩
    subst hP hw hK
    obtain ⟨its, rv, p, hz⟩ := I.tuple hq
    obtain ⟨f0, f1, f2, f3, f4, f5⟩ := hf it (by simp)
    have hl := rv.length
    obtain ⟨y, ⟨hh, v1, e1, c1⟩, hy⟩ := hc
    refine tup_end_hot (x1 := y.1) ⟨hh, y.2, v1, (I.pin y (List.mem_append_left _ hy)).1, e1, c1⟩ (f5 y (List.mem_append_left _ hy)) st p (by simp; omega) fun h' eb => ⟨rfl, I.turned (t' := s.toks) (fun b o hb e => eb b o hb e) f0 f1 f3 f4 f5⟩
  self := fun _ _ _ _ _ st h => wpAny_pyIter_tupleiter st h
theorem turn_strH {P : Program} {w : World} {K : PySem.W.Frag} {tg : Expr} (it : Addr) (x : Str) (t : Tok) (ty : String) (hty : ty = "str_ascii_iterator" ∨ ty = "str_iterator") : TurnH P w K tg (Its x) [it] it (fun i h => h.IsStrIter it ty x t i) where
  mem := by simp
  obj := fun i h st b hb => by
    obtain rfl : b = it := by simpa using hb
    obtain ⟨o, e, c, d⟩ := st
    exact ⟨o, e, fun v z => by rw [d] at z; cases z⟩
  keep := fun i h h' st k => let ⟨o, ho, r⟩ := st; ⟨o, k it (by simp) o ho, r⟩
  item := by
    intro X hP hw hK hc i pins s σ H E I hf st hg
    subst hP hw hK
    obtain ⟨f0, f1, f2, f3, f4, f5⟩ := hf it (by simp)
    have hi : i < x.cps.size := hg
    have hx : x.cps[i]? = some x.cps[i] := by simp [hi]
    rcases hty with e | e
    · subst e
      refine wpAny_pyNext_ascii_item st hx fun h' st' sb => ?_
      obtain ⟨oi, e, cc, dd⟩ := id st'
      exact ⟨_, rfl, go_of (s := { s with heap := h', toks := s.toks + 1 }) e cc dd (by decide) ⟨.str ⟨#[x.cps[i]]⟩, H, I.turned (t' := s.toks + 1) (fun b o hb e => (sb.2 b hb).trans e) f0 f1 f3 f4 f5, ⟨_, rfl⟩, ⟨rfl, _, hx, rfl⟩, st', fun b hb => (hf b hb).1⟩⟩
    · subst e
      refine wpAny_pyNext_wide_item st hx fun h' st' sb => ?_
      obtain ⟨oi, e, cc, dd⟩ := id st'
      exact ⟨_, rfl, go_of (s := { s with heap := h', toks := s.toks + 1 }) e cc dd (by decide) ⟨.str ⟨#[x.cps[i]]⟩, H, I.turned (t' := s.toks + 1) (fun b o hb e => (sb.2 b hb).trans e) f0 f1 f3 f4 f5, ⟨_, rfl⟩, ⟨rfl, _, hx, rfl⟩, st', fun b hb => (hf b hb).1⟩⟩
  done := by
    intro X hP hw hK hc i pins s σ H E I hf st hg
    subst hP hw hK
    obtain ⟨f0, f1, f2, f3, f4, f5⟩ := hf it (by simp)
    have hx : x.cps[i]? = none := Array.getElem?_eq_none hg
    obtain ⟨y, ⟨hh, v1, e1, c1⟩, hy⟩ := hc
    have hot : HotAt X.A y.1 s.heap := ⟨hh, y.2, v1, (I.pin y (List.mem_append_left _ hy)).1, e1, c1⟩
    have ne := f5 y (List.mem_append_left _ hy)
    rcases hty with e | e
    · subst e
      exact ascii_end_hot hot ne st hx fun h' eb => ⟨rfl, I.turned (t' := s.toks) (fun b o hb e => eb b o hb e) f0 f1 f3 f4 f5⟩
    · subst e
      exact wide_end_hot hot ne st hx fun h' eb => ⟨rfl, I.turned (t' := s.toks) (fun b o hb e => eb b o hb e) f0 f1 f3 f4 f5⟩
  self := fun A i s Q E st h => by
    rcases hty with e | e
    · subst e; exact wpAny_pyIter_striter_ascii st h
    · subst e; exact wpAny_pyIter_striter_wide st h
section
variable {X : Cx} {tg : Expr}
theorem pi_oneH {pins : List (Addr × Obj)} {σ : L2.St} {H : Hp} {s : Shared} {R : It → Hp → Prop} {J : It} {tn : Nat → Heap → Prop} {tk : Nat} (I : Inv X pins σ H s) (o : Obj)
    (T : TurnH X.prog X.w X.K tg J [s.heap.objs.size] s.heap.objs.size tn) (st : tn 0 (s.heap.push o)) (q : R J H) : PIEH X pins σ tg R (.ref s.heap.objs.size) { s with heap := s.heap.push o, toks := tk } := by
  refine ⟨s.heap.objs.size, [s.heap.objs.size], tn, J, H, rfl, I.kept fun b ob e => Heap.get?_push_of_some _ e, T, st, fun b hb => ?_, q⟩
  obtain rfl : b = s.heap.objs.size := by simpa using hb
  exact I.fpOk (Nat.le_refl _) (I.hok.fresh (Nat.le_refl _))
theorem pi_tupH {l : Expr} {tl : TE} (hl : PE X l tl) : PIH X tg l (iTup X.K tl) := by
  refine ⟨fun pins s σ H R I h => thn (hl.run pins s σ H _ I h) fun v s1 ⟨x, H1, I1, r1, a, e, ⟨xs, hq⟩, q⟩ => ?_⟩
  subst e
  cases r1
  obtain ⟨its, rv, p, hz⟩ := I1.tuple hq
  exact wpAny_pyIter_tuple (show s1.heap.IsTuple a its.toArray from p) (pi_oneH (tk := s1.toks) I1 _ (turn_tupH a _) ⟨_, Heap.get?_push_size _ rfl, rfl, rfl⟩ q)
theorem pi_strH {e : Expr} {te : TE} (he : PE X e te) : PIH X tg e (iStr te) := by
  refine ⟨fun pins s σ H R I h => thn (he.run pins s σ H _ I h) fun v s1 ⟨y, H1, I1, r1, x, ex, q⟩ => ?_⟩
  subst ex
  obtain ⟨t, rfl⟩ := r1
  cases ha : x.cps.all (· < 128)
  · exact wpAny_pyIter_wide ha (pi_oneH (tk := s1.toks) I1 _ (turn_strH _ x t "str_iterator" (.inr rfl)) ⟨_, Heap.get?_push_size _ rfl, rfl, rfl⟩ q)
  · exact wpAny_pyIter_ascii ha (pi_oneH (tk := s1.toks) I1 _ (turn_strH _ x t "str_ascii_iterator" (.inl rfl)) ⟨_, Heap.get?_push_size _ rfl, rfl, rfl⟩ q)
theorem ps_forQ {iter : Expr} {body : List Stmt} {wi : TI} {g : TG} {tb : TS} {pos : Pos} (hp : PassesOwn (model X.prog X.w) X.A X.env X.xe) (hc : HotC X) (hi : PIH X tg iter wi) (hg : PG X tg g) (hb : PSs X body tb)
    (hs : ∀ x, foldedSetIterable iter X.env x = pure x := by intro _; rfl) : PS X (.For tg iter body [] pos) (tFor wi g tb) := L2H.ps_forH hp hc hi hg hb hs
end

/-! while an exception is handled: a list made over the items of the signs -/
open HotX (HotAt)
open L2H (HotC Hot1 PinOk RoomH FnH cxH)
/-- what is held tells the handled exception; it is none of an iterator's objects -/
def HotR (X : Cx) : Prop := ∀ (pins : List (Addr × Obj)) (σ : L2.St) (H : Hp) (s : Shared), Inv X pins σ H s → ∃ x1, HotAt X.A x1 s.heap ∧ ∀ b, FpOk X pins H b → x1 ≠ b
structure TurnQ (P : Program) (w : World) (K : PySem.W.Frag) (tg : Expr) (J : It) (fp : List Addr) (it : Addr) (tn : Nat → Heap → Prop) : Prop where
  obj : ∀ i h, tn i h → ∀ b ∈ fp, ∃ o, h.get? b = some o ∧ ∀ v, o.data ≠ .cell v
  keep : ∀ i h h', tn i h → (∀ b ∈ fp, ∀ o, h.get? b = some o → h'.get? b = some o) → tn i h'
  item : ∀ (X : Cx), X.prog = P → X.w = w → X.K = K → ∀ (i : Nat) (pins : List (Addr × Obj)) (s : Shared) (σ : L2.St) (H : Hp) (E : Value → Shared → Prop), Inv X pins σ H s → (∀ b ∈ fp, FpOk X pins H b) → tn i s.heap → J.go i H →
    wpAny (model P w) X.A (pyNext (.ref it)) (fun r s1 => ∃ u, r = some u ∧
      wpAny (model P w) X.A (letOwnedTupleGo tg (.ref it) u) (fun _ s2 => ∃ x H', Inv X pins σ H' s2 ∧ RelV x u ∧ J.yld i H x H' ∧ tn (i + 1) s2.heap ∧ ∀ b ∈ fp, H' b = none) E s1) E s
  done : ∀ (X : Cx), X.prog = P → X.w = w → X.K = K → HotR X → ∀ (i : Nat) (pins : List (Addr × Obj)) (s : Shared) (σ : L2.St) (H : Hp) (E : Value → Shared → Prop), Inv X pins σ H s → (∀ b ∈ fp, FpOk X pins H b) → tn i s.heap → J.stop i H →
    wpAny (model P w) X.A (pyNext (.ref it)) (fun r s1 => r = none ∧ Inv X pins σ H s1) E s
  self : ∀ (A : Around) (i : Nat) (s : Shared) (Q : Value → Shared → Prop) (E : Value → Shared → Prop), tn i s.heap → Q (.ref it) s → wpAny (model P w) A (pyIter (.ref it)) Q E s
theorem turn_sgQ {P : Program} {w : World} {K : PySem.W.Frag} {d : Addr} {es : Array DictEntry} {ep : Nat} {elts : List Expr} {kk : Nat} {tpos : Pos} (it : Addr) (S : SgAt w K d es ep) :
    TurnQ P w K (.Tuple elts kk tpos) ItSg [it] it (fun i h => ∃ ok ov, IsItemIter h it d i 4 ep ok ov) where
  obj := fun i h st b hb => by
    obtain rfl : b = it := by simpa using hb
    obtain ⟨ok, ov, e⟩ := st
    exact ⟨_, e, fun v z => nomatch z⟩
  keep := fun i h h' st k => let ⟨ok, ov, e⟩ := st; ⟨ok, ov, k it (by simp) _ e⟩
  item := by
    intro X hP hw hK i pins s σ H E I hf st hg
    subst hP hw hK
    obtain ⟨vs, kv, hm, hsz⟩ := S.dict X.prog I.kIn
    have hi : i < sgKs.length := hg
    obtain ⟨⟨k, v⟩, hkv⟩ : ∃ p, sgKs[i]? = some p := ⟨sgKs[i], List.getElem?_eq_getElem hi⟩
    obtain ⟨u, hu, ru⟩ := kv_get kv hkv
    have hl : 4 = vs.length := Paired.length kv
    obtain ⟨ok, ov, he⟩ := st
    rw [hl] at he
    have hlt : it < s.heap.objs.size := Heap.lt_size he
    refine wpAny_pyNext_items_item he hm hu fun key h' hkey ho hT hz hk => ?_
    refine ⟨_, rfl, wpAny_letOwnedTupleGo_items (s := { s with heap := h' }) ho fun h'' he' sb => ?_⟩
    have hT2 : h''.get? s.heap.objs.size = some { cls := .type "tuple", data := .seq #[key, u] } := (sb.2 _ (Nat.ne_of_gt hlt)).trans hT
    have new : ObjOk X.prog X.w (upd H s.heap.objs.size (.tup [kV k, v])) h'' s.heap.objs.size (.tup [kV k, v]) :=
      ⟨by show 2 ≤ sizeLine; decide, [key, u], .cons (relV_key (show keyIs k key = true from hkey)) (.cons ru .nil), ⟨_, hT2, rfl, _, rfl⟩⟩
    have I1 : Inv X pins σ (upd H s.heap.objs.size (.tup [kV k, v])) { s with heap := h'' } :=
      I.turnedNew (t' := s.toks) (ch := [it]) (fun b ob hb e => (sb.2 b (by simpa using hb)).trans (hk b ob (by simpa using hb) e)) hf (Nat.le_refl _) new
    refine ⟨.ref s.heap.objs.size, _, I1, rfl, ⟨_, k, v, hkv, rfl, I.hok.fresh (Nat.le_refl _), rfl⟩, ⟨key, u, ?_⟩, fun b hb => ?_⟩
    · rw [hl]; exact he'
    · obtain rfl : b = it := by simpa using hb
      rw [upd_ne (Nat.ne_of_lt hlt)]
      exact (hf _ (by simp)).1
  done := by
    intro X hP hw hK hr i pins s σ H E I hf st hg
    subst hP hw hK
    have hi : 4 ≤ i := hg
    have fp := hf it (by simp)
    obtain ⟨f0, f1, f2, f3, f4, f5⟩ := id fp
    obtain ⟨vs, kv, hm, hsz⟩ := S.dict X.prog I.kIn
    have hl : 4 = vs.length := Paired.length kv
    obtain ⟨ok, ov, he⟩ := st
    rw [hl] at he
    obtain ⟨x1, hot, hne⟩ := hr pins σ H s I
    exact items_end_hot hot (hne it fp) he hm (List.getElem?_eq_none (by omega)) fun h' eb => ⟨rfl, I.turned (t' := s.toks) (fun b ob hb e => eb b ob hb e) f0 f1 f3 f4 f5⟩
  self := fun A i s Q E st h => let ⟨_, _, e⟩ := st; PySem.W.kcp_self e h
structure PIQ (X : Cx) (tg iter : Expr) (wi : TI) : Prop where
  run : ∀ (pins : List (Addr × Obj)) (s : Shared) (σ : L2.St) (H : Hp) (R : It → Hp → Prop), Inv X pins σ H s → wi σ H R →
    wpAny (model X.prog X.w) X.A (eval iter X.env) (fun v s1 => wpAny (model X.prog X.w) X.A (pyIter v) (fun itv s2 => ∃ (it : Addr) (fp : List Addr) (tn : Nat → Heap → Prop) (J : It) (H' : Hp), itv = .ref it ∧ Inv X pins σ H' s2 ∧ TurnQ X.prog X.w X.K tg J fp it tn ∧ tn 0 s2.heap ∧ (∀ b ∈ fp, FpOk X pins H' b) ∧ R J H') X.xe s1) X.xe s
theorem pi_sgQ {X : Cx} {p apos cpos : Pos} {elts : List Expr} {kk : Nat} {tpos : Pos} (T : SgD2 X.w X.K X.mg) (hg : Gl X "SIGNS") (hbase : attributeBase (.Name "SIGNS" p) "items" X.env (eval (.Name "SIGNS" p) X.env) = eval (.Name "SIGNS" p) X.env := by rfl) (hline : (apos.endLine == cpos.line) = true := by rfl) :
    PIQ X (.Tuple elts kk tpos) (.Call (.Attribute (.Name "SIGNS" p) "items" apos) [] [] cpos) iSg := by
  obtain ⟨d, es, ep, hmg, S⟩ := T
  refine ⟨fun pins s σ H R I h => ?_⟩
  have he : PE X (.Name "SIGNS" p) (tC (.ref d)) := pe_glob (v := .ref d) hg hmg rfl
  refine wpAny_Call_method (T := "dict") (id := "dict.items") hbase rfl hline F.plainAttrs_dict F.slot_dict_items F.type_dict_items (thn (he.run pins s σ H (fun x H1 => x = .ref d ∧ H1 = H) I ⟨rfl, rfl⟩) fun u s1 ⟨x, H1, I1, rx, ex, eH⟩ => ?_)
  subst ex eH
  obtain rfl : u = Value.ref d := rx
  obtain ⟨vs, kv, hm, hsz⟩ := S.dict X.prog I1.kIn
  have hl : 4 = vs.length := Paired.length kv
  refine ⟨hm.dictOf.typeIs, hm.dictOf.mapOf.noDict, ?_⟩
  have I2 : Inv X pins σ H1 { s1 with heap := s1.heap.push { cls := .type "dict_items", data := .fields #[.ref d] } } := I1.kept (t' := s1.toks) fun b ob q => Heap.get?_push_of_some _ q
  refine method_meetsIn F.slot_dict_items F.entry_dict_items rfl (PySem.evalArgs_none ⟨rfl, hm.dictOf.typeIs, F.args_dict_items_1 _, _, meets_dict_items (mixKind X.prog X.w) d S.low, ⟨vs, hm.dictOf⟩, ?_⟩)
  refine wpAny_pyIter_items (d := d) (knd := mixKind X.prog X.w) ⟨_, Heap.get?_push_size _ rfl, rfl, rfl⟩ (hm.push _) ?_
  refine ⟨_, [_], _, _, H1, rfl, I2.kept (t' := s1.toks) fun b ob e => Heap.get?_push_of_some _ e, turn_sgQ _ S, ⟨.none, .none, ?_⟩, fun b hb => ?_, h⟩
  · rw [hl]
    exact Heap.get?_push_size _ rfl
  · obtain rfl := List.mem_singleton.mp hb
    exact I2.fpOk (Nat.le_refl _) (I2.hok.fresh (Nat.le_refl _))
section
variable {X : Cx}
/-- (a, b, ..) = a tuple -/
theorem pg_tupH {es : List Expr} {k : Nat} {t : TGs} {n : Nat} {pos : Pos} (hr : HotR X) (h : PGs X es t)
    (hn : (assignEach es X.env).length = n := by rfl) (hst : (assignEach es X.env).findIdx? (·.1) = none := by rfl) : PG X (.Tuple es k pos) (gTup X.K n t) := by
  refine ⟨fun pins s σ H v u Q I r ⟨a, xs, e1, hq, hl, hw⟩ => ?_⟩
  subst e1
  cases r
  obtain ⟨its, rv, ht, hz⟩ := I.tuple hq
  obtain ⟨x1, hot, _⟩ := hr pins σ H s I
  refine assign_tup_hot hot ht (by simp [hn, ← hl, rv.length]) hst fun h' hx => ?_
  exact h.run pins _ σ H xs _ Q (I.kept (t' := s.toks) fun b o e => hx b o (Nat.ne_of_lt (Heap.lt_size e)) e) (by simpa using rv) hw
theorem hotR_blk {p : Addr × Obj} {s : Shared} {H : Hp} {scope : Scope} {ce : Env} {fp : List Addr} (hot : Hot1 X.A p) (hs : s.heap.get? p.1 = some p.2) (hH : H p.1 = none) (hf : p.1 ∉ frs X.stack) (hp : p.1 ∉ fp) : HotR (X.blk s H scope ce fp) := by
  intro pins σ G s' I
  obtain ⟨hh, v1, e1, c1⟩ := hot
  refine ⟨p.1, ⟨hh, p.2, v1, I.base.keep p.1 p.2 hs hH hf hp, e1, c1⟩, fun b fb z => ?_⟩
  rcases fb.2.2.2.1 with h | h
  · exact hp (by rw [z]; exact h)
  · have h1 : p.1 < s.heap.objs.size := Heap.lt_size hs
    have h2 : s.heap.objs.size ≤ b := h
    exact absurd (Nat.lt_of_lt_of_le h1 h2) (by rw [z]; exact Nat.lt_irrefl _)
/-- name = [elt for tg in iter if ..] -/
theorem ps_setLcH {i : Nat} {y : Str} {py : Pos} {elt tg iter : Expr} {ifs : List Expr} {scope : Scope} {own : List (Str × Nat)} {pos spos : Pos} {wi : TI} {g : TG} {tt : TT} {te : TE} (hc : HotC X) (hN : X.N.Nodup) (hy : X.N[i]? = some y) (hyl : X.env.scope.names.lookup y = some .local)
    (hsw : swapsWith (.ListComp elt [⟨tg, iter, ifs, 0⟩] scope pos) (some (.Name y py)) spos.line X.env = pure true) (hi : PIQ X tg iter wi) (ok : BlkOk X.N X.env.scope scope own)
    (hg : ∀ (s : Shared) (H : Hp) (C : Addr) (cl : List (Str × Addr)) (fp : List Addr), HotR (X.blk s H scope (compEnvC scope cl C X.env) fp) → PG (X.blk s H scope (compEnvC scope cl C X.env) fp) tg g)
    (ht : ∀ (s : Shared) (H : Hp) (C : Addr) (cl : List (Str × Addr)) (fp : List Addr), PTs (X.blk s H scope (compEnvC scope cl C X.env) fp) ifs tt)
    (he : ∀ (s : Shared) (H : Hp) (C : Addr) (cl : List (Str × Addr)) (fp : List Addr), PE (X.blk s H scope (compEnvC scope cl C X.env) fp) elt te) (hs : ∀ x, foldedSetIterable iter X.env x = pure x := by intro _; rfl) :
    PS X (.Assign [.Name y py] (.ListComp elt [⟨tg, iter, ifs, 0⟩] scope pos) spos) (tAsg (tLc wi g tt te (own.map (·.2))) (gName i)) := by
  refine ⟨fun pins s σ H Dn I h => ?_⟩
  rw [exec_Assign_Name_used _ _ _ _ hsw]
  refine wpAny_bind (wpAny_standAt (wpAny_bind ?_))
  show wpAny _ X.A (do let _ ← comprehension (.ListComp elt [⟨tg, iter, ifs, 0⟩] scope pos) scope X.env (firstIterPos [⟨tg, iter, ifs, 0⟩] pos) (newList []) false (eval iter X.env) (some (assign (.Name y py) X.env))) _ _ s
  have h : tLc wi g tt te (own.map (·.2)) σ H (fun x H1 => gName i x σ H1 Dn.nx) := h
  have fin : ∀ L C s' m H', Inv X pins σ H' s' → gName i (.ref L) σ H' Dn.nx → s'.heap.Ns C m → FpOk X pins H' C → compPost (model X.prog X.w) X.A X.xe (some (assign (.Name y py) X.env)) (fun _ s' => SP X pins Dn .next s') (.ref L) C (.ok .next) s' := by
    intro L C s' m H' I' q hn f
    show wpAny _ _ (assign (.Name y py) X.env (.ref L)) _ _ _
    refine wpAny_assign_Name (store_ok2 (v := V.ref L) I' hN hy (.inl hyl) rfl (fun s2 I2 ⟨a, sb, ha⟩ => ?_) (.inr hyl))
    obtain ⟨f0, f1, f2, f3, f4, f5⟩ := f
    have haC : C ≠ a := by
      rcases ha with z | z
      · rw [z]; exact f1
      · exact fun e => f4 y a z e.symm
    exact ⟨m, hn.sameBut sb haC, fun h3 sb3 => ⟨_, H', I2.turned (t' := s2.toks) (fun b o hb e => (sb3.2 b hb).trans e) f0 f1 f3 f4 f5, q⟩⟩
  refine wpAny_bind (thn (Q := fun _ s' => SP X pins Dn .next s') ?_ fun _ s' hq => wpAny_pure (wpAny_pure hq))
  have hfree : ∀ y ∈ scope.names, y.2 = .free → ∃ c, X.env.cells.lookup y.1 = some c := fun y hy e => (ok.free y hy e).elim (fun k => I.ok.has _ (.inl k)) fun k => I.ok.has _ (.inr k)
  refine wpAny_comprehension_free (use := some (assign (.Name y py) X.env)) rfl hs (closure_ok hfree) ok.kind (fun y hy e => by rw [ok.uniq y hy, e])
    (thn (hi.run pins s σ H _ I h) fun xv s1 hx => thn hx fun itv s2 ⟨it, fp, tn, J, H2, e, I2, T, st2, f2, q⟩ => ?_)
  subst e
  refine wpAny_newObj_type (newEnv_comp ?_) (by show 0 ≤ sizeLine; decide)
  generalize hD : s2.heap.objs.size = D
  obtain ⟨W, ⟨m0, w0⟩, turn⟩ := q D (I2.hok.fresh (Nat.le_of_eq hD))
  generalize hs3 : ({ s2 with heap := s2.heap.push { cls := .type "list", data := .seq ([] : List Value).toArray } } : Shared) = s3
  have h3 : s3.heap = s2.heap.push { cls := .type "list", data := .seq ([] : List Value).toArray } := by rw [← hs3]
  have I3 : Inv X pins σ (upd H2 D (.lst [])) s3 := by
    rw [← hs3]
    exact I2.laid (t' := s2.toks) (fun b o e => Heap.get?_push_of_some _ e) (Nat.le_of_eq hD) ⟨Nat.zero_le _, [], 0, .nil, by rw [← hD]; exact Heap.get?_push_size _ rfl⟩
  have f3 : ∀ b ∈ fp, FpOk X pins (upd H2 D (.lst [])) b ∧ b < s3.heap.objs.size := fun b hb => by
    obtain ⟨o, e, _⟩ := T.obj _ _ st2 b hb
    have hlt := Heap.lt_size e
    refine ⟨⟨?_, (f2 b hb).2⟩, by rw [h3, Heap.size_push]; exact Nat.lt_succ_of_lt hlt⟩
    rw [upd_ne (by rw [← hD]; exact Nat.ne_of_lt hlt)]
    exact (f2 b hb).1
  have st3 : tn 0 s3.heap := T.keep _ _ _ st2 fun b _ o e => by rw [h3]; exact Heap.get?_push_of_some _ e
  have I4 := block_start I3 ok hN f3
  obtain ⟨ep, hot, hep⟩ := hc
  have P3 := I3.pin ep (List.mem_append_left _ hep)
  have hr := hotR_blk (scope := scope) (ce := compEnvC scope (cellsFrom (s3.heap.objs.size + 1) scope.names (cloFrom X.env.cells scope.names [])) s3.heap.objs.size X.env) (fp := fp) hot P3.1 P3.2.1
    (fun hm => (List.mem_cons.mp (I3.stkSub ep.1 hm)).elim P3.2.2.1 P3.2.2.2.1) (fun hm => (f3 ep.1 hm).1.2.2.2.2.2 ep (List.mem_append_left _ hep) rfl)
  have pg := hg s3 (upd H2 D (.lst [])) s3.heap.objs.size (cellsFrom (s3.heap.objs.size + 1) scope.names (cloFrom X.env.cells scope.names [])) fp hr
  have pt := ht s3 (upd H2 D (.lst [])) s3.heap.objs.size (cellsFrom (s3.heap.objs.size + 1) scope.names (cloFrom X.env.cells scope.names [])) fp
  have pe := he s3 (upd H2 D (.lst [])) s3.heap.objs.size (cellsFrom (s3.heap.objs.size + 1) scope.names (cloFrom X.env.cells scope.names [])) fp
  show codeAny _ _ (.compStart (.ListComp elt [⟨tg, iter, ifs, 0⟩] scope pos) 0 (.ref it) (.ref D) (compEnvC scope (cellsFrom (s3.heap.objs.size + 1) scope.names (cloFrom X.env.cells scope.names [])) s3.heap.objs.size X.env)) (compPost (model X.prog X.w) X.A X.xe (some (assign (.Name y py) X.env)) (fun _ s' => SP X pins Dn .next s') (.ref D) s3.heap.objs.size) { s3 with heap := pushCells (s3.heap.push { cls := .type "dict", data := .dict #[] }) scope.names }
  have nfp : ∀ b ∈ fp, (upd H2 D (.lst [])) b = none := fun b hb => (f3 b hb).1.1
  generalize hce : compEnvC scope (cellsFrom (s3.heap.objs.size + 1) scope.names (cloFrom X.env.cells scope.names [])) s3.heap.objs.size X.env = ce at I4 pg pt pe hr ⊢
  have cL : ce.locals = s3.heap.objs.size := by subst hce; rfl
  generalize hH3 : upd H2 D (.lst []) = H3 at I3 I4 pg pt pe w0 nfp f3 hr P3
  generalize hs4 : ({ s3 with heap := pushCells (s3.heap.push { cls := .type "dict", data := .dict #[] }) scope.names } : Shared) = s4 at I4 ⊢
  have st4 : tn 0 s4.heap := T.keep _ _ _ st3 fun b _ o e => by rw [← hs4]; exact pushCells_keeps _ _ _ _ (Heap.get?_push_of_some _ e)
  have stat : ∀ {σ' : L2.St} {H' : Hp} {s' : Shared}, Inv (X.blk s3 H3 scope ce fp) [] σ' H' s' → (∀ b ∈ fp, H' b = none) → ∀ b ∈ fp, FpOk (X.blk s3 H3 scope ce fp) [] H' b := fun {σ' H' s'} I' hn b hb =>
    ⟨hn b hb, (I'.ok.exf b hb).1, I'.ok.exfs b hb, .inl hb, fun x c e => (I'.ok.exf b hb).2 x c e, fun p hp => absurd (show p ∈ ([] : List (Addr × Obj)) ++ [] from hp) (by simp)⟩
  have loop : codeAny (model X.prog X.w) X.A (.compLoop (.ListComp elt [⟨tg, iter, ifs, 0⟩] scope pos) 0 (.ref it) (.ref D) ce) (compPost (model X.prog X.w) X.A X.xe (some (assign (.Name y py) X.env)) (fun _ s' => SP X pins Dn .next s') (.ref D) s3.heap.objs.size) s4 := by
    refine compLoop_any (fun n s' => ∃ i H', Inv (X.blk s3 H3 scope ce fp) [] (wipe σ (own.map (·.2))) H' s' ∧ tn i s'.heap ∧ (∀ b ∈ fp, H' b = none) ∧ W i n H') ?_ m0 ⟨0, H3, I4, st4, nfp, w0⟩
    rintro n s5 ⟨i, H5, I5, st5, n5, w5⟩
    rcases turn i n H5 w5 with ⟨stop, qq⟩ | ⟨go, Nx, hNx, step⟩
    · refine thnF (T.done (X.blk s3 H3 scope ce fp) rfl rfl rfl hr i [] s5 _ H5 (fun _ _ => False) I5 (stat I5 n5) st5 stop) fun r s6 ⟨hr, I6⟩ => ?_
      subst hr
      have I7 : Inv X pins σ H5 s6 := I3.call' (ch := fp) I6.os I6.base I6.hok I6.bare fun b hb => ⟨(f3 b hb).1.2.2.2.1, (f3 b hb).1.2.1, (f3 b hb).1.2.2.2.2.1, (f3 b hb).1.2.2.2.2.2⟩
      have nC : H5 ce.locals = none := I6.free
      obtain ⟨m, hn, _⟩ := I6.loc
      have hn : s6.heap.Ns ce.locals m := hn
      rw [cL] at hn nC
      exact fin D s3.heap.objs.size s6 m H5 I7 qq hn (I3.fpOk (Nat.le_refl _) nC)
    · refine thnF (T.item (X.blk s3 H3 scope ce fp) rfl rfl rfl i [] s5 _ H5 (fun _ _ => False) I5 (stat I5 n5) st5 go) fun r s6 ⟨u, hr, h6⟩ => ?_
      subst hr
      refine thnF h6 fun _ s7 ⟨x, H7, I7, r7, y7, st7, n7⟩ => ?_
      refine thnF (pg.run _ s7 _ H7 x u _ (I7.pinned (stat I7 n7) (T.obj _ _ st7)) r7 (step x H7 y7)) fun _ s8 ⟨σ8, H8, I8, hw8, q8⟩ => ?_
      refine thnF (pt.run _ s8 σ8 H8 _ I8 q8) fun b s9 ⟨H9, I9, q9⟩ => ?_
      have nxt : ∀ {s' : Shared} {H' : Hp}, Inv (X.blk s3 H3 scope ce fp) ([] ++ pinsAt fp s7.heap) σ8 H' s' → Nx H' → ∃ m, m < n ∧ ∃ i H', Inv (X.blk s3 H3 scope ce fp) [] (wipe σ (own.map (·.2))) H' s' ∧ tn i s'.heap ∧ (∀ b ∈ fp, H' b = none) ∧ W i m H' := fun {s' H'} I' nx => by
        obtain ⟨m', hm, w'⟩ := hNx H' nx
        have pin' : ∀ b ∈ fp, ∀ o, s7.heap.get? b = some o → s'.heap.get? b = some o ∧ H' b = none := fun b hb o e =>
          let z := I'.pin (b, o) (List.mem_append_right _ (List.mem_append_right _ (mem_pinsAt hb e)))
          ⟨z.1, z.2.1⟩
        have hl : (wipe σ (own.map (·.2))).length = σ8.length := by rw [← hw8, wipe_length]
        refine ⟨m', hm, i + 1, H', (I'.unpinned (pins := [])).weak hl (fun j v e => ?_), T.keep _ _ _ st7 fun b hb o e => (pin' b hb o e).1, fun b hb => ?_, w'⟩
        · rw [← hw8] at e
          exact (wipe_some e).1
        · obtain ⟨o, e, _⟩ := T.obj _ _ st7 b hb
          exact (pin' b hb o e).2
      cases b with
      | false =>
        simp only [Bool.false_eq_true, if_false] at q9 ⊢
        exact nxt I9 q9
      | true =>
        simp only [if_true] at q9 ⊢
        refine thnF (pe.run _ s9 σ8 H9 _ I9 q9) fun z s10 ⟨yv, H10, I10, r10, acc, hD10, hz10, nx⟩ => ?_
        exact app_ok (X := X.blk s3 H3 scope ce fp) I10 hD10 hz10 r10 fun s11 I11 => nxt I11 nx
  exact codeAny_compStart_list loop (T.self X.A 0 _ _ _ st4 loop)
end

/-! defs that may raise where nothing is handled (the exception's context is None); calls in try bodies -/
open L2H (HotC RoomH FnH cxH)
section
variable (P : Program) (w : World) (K : PySem.W.Frag) (mg : Str → Option Value) (base : Heap)
def OkN (k : Nat) (x : Str) (ps : List Str) (sp : Sp) : Prop := ∃ f fd, FnOk P w K mg base (L2N.CX P w) k f fd ps sp ∧ mg x = some (.ref f) ∧ PySem.W.keepIn K (.ref f) = true ∧ Binds K fd ps []
def OkMN (k : Nat) (C : Addr) (m : Str) (ps : List Str) (sp : Sp) : Prop := ∃ f fd, FnOk P w K mg base (L2N.CX P w) k f fd ps sp ∧ Meth K C m f ∧ Binds K fd ps []
end
section
variable {P : Program} {w : World} {K : PySem.W.Frag} {mg : Str → Option Value} {base : Heap} {C : Addr} {x m qual : Str} {st : Stmt} {N ps : List Str} {k j : Nat} {sp : Sp}
theorem OkN.mono (F : OkN P w K mg base j x ps sp) (h : j ≤ k) : OkN P w K mg base k x ps sp := by
  obtain ⟨f, fd, F, r⟩ := F
  exact ⟨f, fd, F.mono h, r⟩
theorem OkMN.mono (F : OkMN P w K mg base j C m ps sp) (h : j ≤ k) : OkMN P w K mg base k C m ps sp := by
  obtain ⟨f, fd, F, r⟩ := F
  exact ⟨f, fd, F.mono h, r⟩
abbrev NBody (P : Program) (w : World) (K : PySem.W.Frag) (mg : Str → Option Value) (base : Heap) (qual : Str) (st : Stmt) (N : List Str) (k : Nat) (sp : Sp) : Prop :=
  ∀ (f : Addr) (cdv : Value) (A : Around) (outer : List Env) (s : Shared) (H : Hp) (vs : List V) (Q : VK) (E : XK), Room k (A.deeper (envOfC qual (defScope st) s.heap.objs.size f cdv)) → sp vs H Q E →
    ∃ t, PSs (cxOf (L2N.CX P w) P w K mg base N qual (defScope st) f cdv A outer s H E) (defBody st) t ∧ (HSz H → t { nx := fun _ H' => Q .non H', rt := Q } (start N vs) H)
theorem DefAt.okN (D : DefAt K mg x st) (S : FnScope N ps (defScope st)) (hb : BindsBy x x st ps) (len : ∀ vs H Q E, sp vs H Q E → vs.length = ps.length) (hbody : NBody P w K mg base x st N k sp) : OkN P w K mg base (k + 1) x ps sp := by
  obtain ⟨f, fd, F, hm⟩ := D
  refine ⟨f, fd, F.ok S len fun cdv A outer s H vs Q E hr h => ?_, hm, F.kp, F.bindsN hb⟩
  obtain ⟨t, h1, h2⟩ := hbody f cdv A outer s H vs Q E hr h
  exact ⟨_, pssSz h1, h2⟩
theorem MethAt.okN (D : MethAt K C m qual st) (S : FnScope N ps (defScope st)) (hb : BindsBy m qual st ps) (len : ∀ vs H Q E, sp vs H Q E → vs.length = ps.length) (hbody : NBody P w K mg base qual st N k sp) : OkMN P w K mg base (k + 1) C m ps sp := by
  obtain ⟨f, fd, F, hm⟩ := D
  refine ⟨f, fd, F.ok S len fun cdv A outer s H vs Q E hr h => ?_, hm, F.bindsN hb⟩
  obtain ⟨t, h1, h2⟩ := hbody f cdv A outer s H vs Q E hr h
  exact ⟨_, pssSz h1, h2⟩
theorem MethAt.noneN (D : MethAt K C m qual st) (hb : BindsBy m qual st ps) (no : ∀ vs H Q E, ¬ sp vs H Q E) : OkMN P w K mg base 0 C m ps sp := by
  obtain ⟨f, fd, F, hm⟩ := D
  exact ⟨f, fd, ⟨fun vs H Q E h => absurd h (no vs H Q E), fun A outer s H args us vs Q E _ _ _ _ h => absurd h (no vs H Q E)⟩, hm, F.bindsN hb⟩
end
section
variable {X : Cx} {C : Addr} {o e : Expr} {es : List Expr} {m x : Str} {pos apos p : Pos} {ta : TE} {t : TA} {k : Nat} {ps : List Str} {sp : Sp} {E : XK} {W : WX}
theorem passN (tk : L2N.Takes X (fun cls d _ H => E cls d H)) : Passes (L2N.CX X.prog X.w) X E := L2N.passes_call tk (fun _ _ _ _ h => h)
theorem takesN0 : L2N.Takes X (fun _ _ _ _ => False) := fun _ _ ⟨_, _, _, _, _, _, _, _, _, _, _, _, _, _, _, _, z⟩ => z.elim
theorem pe_callN (F : OkN X.prog X.w X.K X.mg X.base k x ps sp) (hr : Room k X.A) (hg : Gl X x) (tk : L2N.Takes X (fun cls d _ H => E cls d H)) (ha : PA X (e :: es) t) (hdb : (x == ("__debug__" : Str)) = false := by decide) (he : starEach (e :: es) X.env = (false, eval e X.env) :: starEach es X.env := by rfl) (hpl : (backTo pos (starEach es X.env)).any (·.1) = false := by rfl) :
    PE X (.Call (.Name x p) (e :: es) [] pos) (tCall sp [] E t) := by
  obtain ⟨f, fd, F, hm, kp, b⟩ := F
  exact pe_call F hr hg hm kp b .nil (passN tk) ha hdb he hpl
theorem pe_methN {pl : Sem Bool} (F : OkMN X.prog X.w X.K X.mg X.base k C m ps sp) (hr : Room k X.A) (cl : Cls X.K C) (tk : L2N.Takes X (fun cls d _ H => E cls d H)) (he : PE X o ta) (ha : PA X (e :: es) t)
    (hst : starEach (e :: es) X.env = (false, eval e X.env) :: starEach es X.env := by rfl) (hpl : (backTo pos (starEach es X.env)).any (·.1) = false := by rfl)
    (ht : eval (.Call (.Attribute o m apos) (e :: es) [] pos) X.env = (do
      let ov ← eval o X.env
      standAt apos.atName
      let (f, first) ← holding [ov] (getMethod ov m pl)
      callWith pos f first (backTo pos (starEach (e :: es) X.env)) (backToKw pos (keywordEach [] X.env))) := by rfl) :
    PE X (.Call (.Attribute o m apos) (e :: es) [] pos) (xMethE C m sp E ta t) := by
  obtain ⟨f, fd, F, hm, b⟩ := F
  refine peM (pe_meth (mo he) cl hm F hr b .nil (passN tk) (moA ha) hst hpl ht) fun σ H Q h => ⟨_, h, ?_⟩
  rintro x H1 ⟨a, dx, fs, e1, h1, l, q⟩
  refine ⟨a, dx, fs, e1, h1, l, _, q, ?_⟩
  intro xs H2 h
  rw [List.append_nil]
  exact h
theorem pe_methN0 {pl : Sem Bool} (F : OkMN X.prog X.w X.K X.mg X.base k C m ps sp) (hr : Room k X.A) (cl : Cls X.K C) (tk : L2N.Takes X (fun cls d _ H => E cls d H)) (he : PE X o ta)
    (ht : eval (.Call (.Attribute o m apos) [] [] pos) X.env = (do
      let ov ← eval o X.env
      standAt apos.atName
      let (f, first) ← holding [ov] (getMethod ov m pl)
      callWith pos f first (backTo pos (starEach [] X.env)) (backToKw pos (keywordEach [] X.env))) := by rfl) :
    PE X (.Call (.Attribute o m apos) [] [] pos) (xMethE C m sp E ta tNil) := by
  obtain ⟨f, fd, F, hm, b⟩ := F
  refine peM (pe_meth0 (mo he) cl hm F hr b .nil (passN tk) ht) fun σ H Q h => ⟨_, h, ?_⟩
  rintro x H1 ⟨a, dx, fs, e1, h1, l, q⟩
  exact ⟨a, dx, fs, e1, h1, l, q⟩
/-- in a try body -/
theorem pe_callXN (F : OkN X.prog X.w X.K X.mg X.base k x ps sp) (hr : Room k X.A) (hg : Gl X x) (tk : L2N.Takes X W) (ha : PA X (e :: es) t) (hdb : (x == ("__debug__" : Str)) = false := by decide) (he : starEach (e :: es) X.env = (false, eval e X.env) :: starEach es X.env := by rfl) (hpl : (backTo pos (starEach es X.env)).any (·.1) = false := by rfl) :
    PE X (.Call (.Name x p) (e :: es) [] pos) (tCallS sp (WE W) t) := by
  obtain ⟨f, fd, F, hm, kp, b⟩ := F
  exact pe_callS F hr hg hm kp b (fun σ => L2N.passAt tk σ) ha hdb he hpl
theorem pe_callXH (F : HkF X.prog X.w X.K X.mg X.base (L2.CX X.prog X.w) k x ps sp) (hr : RoomH k X.A) (hc : HotC X) (hg : Gl X x) (tk : Takes X W) (ha : PA X (e :: es) t) (hdb : (x == ("__debug__" : Str)) = false := by decide) (he : starEach (e :: es) X.env = (false, eval e X.env) :: starEach es X.env := by rfl) (hpl : (backTo pos (starEach es X.env)).any (·.1) = false := by rfl) :
    PE X (.Call (.Name x p) (e :: es) [] pos) (tCallS sp (WE W) t) := by
  obtain ⟨f, fd, F, hm, kp, b⟩ := F
  exact L2H.pe_callH F hr hc hg hm kp b (fun σ => passAt tk σ) ha hdb he hpl
end
theorem ps_rzN {X : Cx} {C : Addr} {W : WX} {x m : Str} {j : Nat} {p p2 pos pos2 : Pos} (E : ExD X.K X.mg x C) (hc : X.calm = true) (tk : L2N.Takes X W) (hg : Gl X x) (hdb : (x == ("__debug__" : Str)) = false := by decide) :
    PS X (.Raise (some (.Call (.Name x p) [.Constant (.str m) j p2] [] pos)) none pos2) (tRz C W) :=
  L2N.ps_raise hc tk (L2N.pmk_own PySem.F.excBase_ValueError E.q E.g E.k (raises_own E.s E.t) hg hdb)
theorem hotC_tr {X : Cx} {pn : List (Addr × Obj)} {xe : Value → Shared → Prop} (c : HotC X) (h : ∀ q ∈ X.pn, q ∈ pn) : HotC (X.tr pn xe) := by
  obtain ⟨p, h1, h2⟩ := c
  exact ⟨p, h1, h p h2⟩
theorem roomH_mark {k : Nat} {A : Around} {v : Option Value} (r : Room k A) : RoomH k (A.mark v) := ⟨r.dp, r.un⟩

/-- for x in [..] -/
theorem forLit {ta : TA} {tb : TS} {j : Nat} {σ : L2.St} {H : Hp} {D : Ends} {K : PySem.W.Frag} {xs : List V} (hv : ∀ R : List V → Hp → Prop, R xs H → ta σ H R) (hz : xs.length ≤ sizeLine)
    (h : ∀ a H1, Al H a (.lst xs) H1 → ∃ Pv : Nat → L2.St → Hp → Prop, Pv 0 σ H1 ∧ (∀ i σ' H', Pv i σ' H' → H' a = some (.lst xs)) ∧
      (∀ (i : Nat) x σ' H', xs[i]? = some x → Pv i σ' H' → tb { D with nx := Pv (i + 1), ct := Pv (i + 1), bk := D.nx } (σ'.set j (some x)) H') ∧ ∀ σ' H', Pv xs.length σ' H' → D.nx σ' H') :
    tFor (iList K (xLst ta)) (gName j) tb D σ H := by
  refine hv _ ⟨hz, fun a H1 A1 => ⟨a, rfl, ⟨xs, SqL.of A1.at_⟩, ?_⟩⟩
  obtain ⟨Pv, h0, hl, hs, hd⟩ := h a H1 A1
  refine for_it walk_list Pv h0 (fun i σ' H' _ p => SqL.of (hl i σ' H' p)) (fun i x σ1 H1 H2 hi p y => ?_) hd
  obtain ⟨e1, e2⟩ := y
  subst e1
  exact hs i x σ1 _ e2 p
theorem joinL_len {S : List Nat} : ∀ l : List (List Nat), (TL.joinL S l).length ≤ (l.map (·.length)).sum + l.length * S.length
  | [] => by simp [TL.joinL]
  | [p] => by simp [TL.joinL]
  | p :: q :: r => by
    have := joinL_len (S := S) (q :: r)
    show (p ++ (S ++ TL.joinL S (q :: r))).length ≤ _
    simp only [List.length_append, List.map_cons, List.sum_cons, List.length_cons, Nat.add_mul, Nat.one_mul] at this ⊢
    omega
theorem join_len (y : Str) (l : List Str) : (Txt.join y l).length ≤ (l.map (·.length)).sum + l.length * y.length := by
  have h := joinL_len (S := TL.tl y) (l.map TL.tl)
  rw [TL.join_eq, TL.len_tl, TL.tl_join]
  have e : (l.map TL.tl).map (·.length) = l.map (·.length) := by
    rw [List.map_map]
    exact List.map_congr_left fun x _ => (TL.len_tl x).symm
  rw [e, List.length_map, ← TL.len_tl] at h
  exact h
theorem ptext_len {p : List Sm} (h : PrT p) : (ptext p).length ≤ 500000 := by
  obtain ⟨h1, h2, h3, h4⟩ := h
  have h5 := sum_le (m := 2 * (0 + dpL p) + 2060) (linL_max 0 p h1)
  have e : ("\n" : Str).length = 1 := rfl
  have h6 : (2 * (0 + dpL p) + 2060) * (linL 0 p).length ≤ 2108 * 200 := Nat.mul_le_mul (by omega) h4
  have h7 := join_len "\n" (linL 0 p)
  unfold ptext
  rw [e] at h7
  omega
theorem rowD_depth {p : List Sm} (ok : okL 8 p) (hd : dpL p ≤ 12) : (rowD p).depth < 40 := by
  have := (dL_lay ok).2
  simp only [rowD, PyData.depth, PyData.depthAll]
  omega

/-! promises of k15's own defs -/
def sp_L_good_part (n : Nat) : Sp := fun vs H Q _ => ∃ (v : V) (e : Ex) (d : Nat), vs = [v, .int (d : Nat)] ∧ Tp H e.d v ∧ e.ok ∧ e.dep + d ≤ 6 ∧ e.dep ≤ n ∧ ∀ H', Fr [] H H' → Q (.bl true) H'
theorem len_L_good_part {n : Nat} (vs : List V) (H : Hp) (Q : VK) (E : XK) (h : sp_L_good_part n vs H Q E) : vs.length = 2 := by
  obtain ⟨_, _, _, rfl, _⟩ := h
  rfl
theorem no_L_good_part (vs : List V) (H : Hp) (Q : VK) (E : XK) : ¬ sp_L_good_part 0 vs H Q E := fun ⟨_, e, _, _, _, _, _, h, _⟩ => absurd e.dep_pos (by omega)
def sp_L_good (n : Nat) : Sp := fun vs H Q _ => ∃ (v : V) (p : List Sm) (d : Nat), vs = [v, .int (d : Nat)] ∧ Tp H (rowD p) v ∧ okL 5 p ∧ dpL p + 2 * d ≤ 12 ∧ dpL p ≤ n ∧ ∀ H', Fr [] H H' → Q (.bl true) H'
theorem len_L_good {n : Nat} (vs : List V) (H : Hp) (Q : VK) (E : XK) (h : sp_L_good n vs H Q E) : vs.length = 2 := by
  obtain ⟨_, _, _, rfl, _⟩ := h
  rfl
theorem no_L_good (vs : List V) (H : Hp) (Q : VK) (E : XK) : ¬ sp_L_good 0 vs H Q E := fun ⟨_, p, _, _, _, _, _, h, _⟩ => absurd (dpL_pos p) (by omega)
def sp_L_good_statement (n : Nat) : Sp := fun vs H Q _ => ∃ (v : V) (s : Sm) (d : Nat), vs = [v, .int (d : Nat)] ∧ Tp H s.d v ∧ s.ok 5 ∧ s.dp + 2 * d ≤ 11 ∧ s.dp ≤ n ∧ ∀ H', Fr [] H H' → Q (.bl true) H'
theorem len_L_good_statement {n : Nat} (vs : List V) (H : Hp) (Q : VK) (E : XK) (h : sp_L_good_statement n vs H Q E) : vs.length = 2 := by
  obtain ⟨_, _, _, rfl, _⟩ := h
  rfl
theorem Sm.dp_pos' (s : Sm) : 1 ≤ s.dp := by cases s <;> simp only [Sm.dp] <;> omega
theorem no_L_good_statement (vs : List V) (H : Hp) (Q : VK) (E : XK) : ¬ sp_L_good_statement 0 vs H Q E := fun ⟨_, s, _, _, _, _, _, h, _⟩ => absurd s.dp_pos' (by omega)
def sp_L_spoilt : Sp := fun vs H Q _ => ∃ (b l : Addr) (t : Str), vs = [.ref b, .str t] ∧ BoxAt H b l ∧ t.length ≤ 200000 ∧ ∀ t' H', t'.length ≤ 900000 → BoxAt H' b l → Fr [b, l] H H' → Q (.str t') H'
theorem len_L_spoilt (vs : List V) (H : Hp) (Q : VK) (E : XK) (h : sp_L_spoilt vs H Q E) : vs.length = 2 := by
  obtain ⟨_, _, _, rfl, _⟩ := h
  rfl
def sp_L_text_of : Sp := fun vs H Q _ => ∃ (b l : Addr), vs = [.ref b] ∧ BoxAt H b l ∧ ∀ t' H', t'.length ≤ 900000 → BoxAt H' b l → Fr [b, l] H H' → Q (.str t') H'
theorem len_L_text_of (vs : List V) (H : Hp) (Q : VK) (E : XK) (h : sp_L_text_of vs H Q E) : vs.length = 1 := by
  obtain ⟨_, _, rfl, _⟩ := h
  rfl
def sp_L_refused (c : CA) : Sp := fun vs H Q _ => ∃ t : Str, vs = [.str t] ∧ t.length ≤ 900000 ∧ (ReadR t none → ∀ H', Fr [] H H' → Q (.bl true) H') ∧ ∀ p H', ReadR t (some p) → Fr [] H H' → Q (.bl false) H'
theorem len_L_refused {c : CA} (vs : List V) (H : Hp) (Q : VK) (E : XK) (h : sp_L_refused c vs H Q E) : vs.length = 1 := by
  obtain ⟨_, rfl, _⟩ := h
  rfl

/-- _law_good_part from 4 -/
def t_L_good_part_4 (K : PySem.W.Frag) (n : Nat) : TS :=
  (tSeq (tIfS (tTest (tOp rEq (tOp rXT (tVar 0) (tC (.int 0))) (tC (.str (wd 2))))) (tRet (tAndV (tOp rEq (tCB rLenS (tCons (tOp rXT (tVar 0) (tC (.int 1))) tNil)) (tC (.int 1))) (tOp rInS1 (tOp rXT (tVar 0) (tC (.int 1))) (tC (.str ("abcdefgh" : Str)))))) tNext)
    (tRet (tAndV (tOp (rI0 fun i j => .bl (decide (i < j))) (tCB rLenS (tCons (tOp rXT (tVar 0) (tC (.int 1))) tNil)) (tC (.int 13))) (tOp rEqE (tLc (iStr (tOp rXT (tVar 0) (tC (.int 1)))) (gName 3) (tTest (tOp rNinS1 (tVar 3) (tC (.str ("abcdefghijklmnopqrstuvwxyz" : Str))))) (tVar 3) [3]) (xLst tNil)))))

/-- _law_good_part from 3 -/
def t_L_good_part_3 (K : PySem.W.Frag) (n : Nat) : TS :=
  tSeq (tIfS (tOr (tTest (tOp (rInT true) (tOp rXT (tVar 0) (tC (.int 0))) (xTup (tCons (tC (.str (wd 1))) (tCons (tC (.str (wd 2))) tNil))))) (tOr (tTest (tOp rNe (tCB rLenT (tCons (tVar 0) tNil)) (tC (.int 2)))) (tNot (tB (tCB (rIs "str") (tCons (tOp rXT (tVar 0) (tC (.int 1))) (tCons (tC (.ty "str")) tNil))))))) (tRet (tC (.bl false))) tNext) (t_L_good_part_4 K n)

/-- _law_good_part from 2 -/
def t_L_good_part_2 (K : PySem.W.Frag) (n : Nat) : TS :=
  tSeq (tIfS (tTest (tOp rEq (tOp rXT (tVar 0) (tC (.int 0))) (tC (.str (wd 0))))) (tSeq (tAsg (tAndV (tCB (rIs "int") (tCons (tOp rXT (tVar 0) (tC (.int 1))) (tCons (tC (.ty "int")) tNil))) (tNotV (tCB (rIs "bool") (tCons (tOp rXT (tVar 0) (tC (.int 1))) (tCons (tC (.ty "bool")) tNil))))) (gName 2))
    (tRet (tAndV (tOp rEq (tCB rLenT (tCons (tVar 0) tNil)) (tC (.int 2))) (tAndV (tVar 2) (tAndV (tOp (rI0 fun i j => .bl (decide (i ≤ j))) (tC (.int 0)) (tOp rXT (tVar 0) (tC (.int 1)))) (tOp (rI0 fun i j => .bl (decide (i ≤ j))) (tOp rXT (tVar 0) (tC (.int 1))) (tC (.int 9999)))))))) tNext) (t_L_good_part_3 K n)

/-- _law_good_part from 1 -/
def t_L_good_part_1 (K : PySem.W.Frag) (n : Nat) : TS :=
  tSeq (tIfS (tTest (tOp (rInT false) (tOp rXT (tVar 0) (tC (.int 0))) (xTup (tCons (tC (.str (wd 3))) (tCons (tC (.str (wd 4))) (tCons (tC (.str (wd 5))) (tCons (tC (.str (wd 6))) tNil))))))) (tSeq (tIfS (tOr (tTest (tOp rNe (tCB rLenT (tCons (tVar 0) tNil)) (tC (.int 3)))) (tNot (tB (tCall (sp_L_good_part n) [] E0 (tCons (tOp rXT (tVar 0) (tC (.int 1))) (tCons (tOp (rI0 fun i j => .int (i + j)) (tVar 1) (tC (.int 1))) tNil)))))) (tRet (tC (.bl false))) tNext)
    (tRet (tCall (sp_L_good_part n) [] E0 (tCons (tOp rXT (tVar 0) (tC (.int 2))) (tCons (tOp (rI0 fun i j => .int (i + j)) (tVar 1) (tC (.int 1))) tNil))))) tNext) (t_L_good_part_2 K n)

/-- _law_good_part -/
def t_L_good_part (K : PySem.W.Frag) (n : Nat) : TS :=
  tSeq (tIfS (tOr (tTest (tOp (rI0 fun i j => .bl (decide (j < i))) (tVar 1) (tC (.int 5)))) (tOr (tNot (tB (tCB (rIs "tuple") (tCons (tVar 0) (tCons (tC (.ty "tuple")) tNil))))) (tOr (tTest (tOp (rI0 fun i j => .bl (decide (i < j))) (tCB rLenT (tCons (tVar 0) tNil)) (tC (.int 2)))) (tNot (tB (tCB (rIs "str") (tCons (tOp rXT (tVar 0) (tC (.int 0))) (tCons (tC (.ty "str")) tNil)))))))) (tRet (tC (.bl false))) tNext) (t_L_good_part_1 K n)

theorem nat2 {x y : V} : ¬ (([x, y].length : Nat) : Int) < 2 := by simp
theorem nat3 {x y z : V} : ¬ (([x, y, z].length : Nat) : Int) < 2 := by simp
theorem len2 {x y : V} : (([x, y].length : Nat) : Int) = 2 := rfl
theorem len3 {x y z : V} : (([x, y, z].length : Nat) : Int) = 3 := rfl
theorem sg_in (s : Sg) : (decide (wd 3 = s.s) || (decide (wd 4 = s.s) || (decide (wd 5 = s.s) || decide (wd 6 = s.s)))) = true := by cases s <;> simp [Sg.s, Sg.ix]
theorem rd_L_good_part {K : PySem.W.Frag} {n : Nat} {vs : List V} {H : Hp} {Q : VK} {E : XK} (h : sp_L_good_part (n + 1) vs H Q E) : t_L_good_part K n { nx := fun _ H' => Q .non H', rt := Q } (start ["_", "_", "_", "_"] vs) H := by
  obtain ⟨v, e, d, rfl, hv, ok, hd, hn, k⟩ := h
  show t_L_good_part K n _ [some v, some (.int (d : Nat)), none, none] H
  have dp := e.dep_pos
  have d5 : ¬ (5 : Int) < ((d : Nat) : Int) := by omega
  have ed : ((d : Nat) : Int) + 1 = ((d + 1 : Nat) : Int) := by omega
  unfold t_L_good_part; refine st_seq ?_
  cases e with
  | num i =>
    simp only [Ex.d, tp_tup, tpl_cons, tpl_nil, tp_str, tp_int] at hv
    obtain ⟨a, xs, rfl, ha, _, r1, rfl, rfl, _, r2, rfl, rfl, rfl⟩ := hv
    obtain ⟨h0, h1⟩ := id ok
    push_cast [ha, d5, is_tuple_tuple ha, is_str_str, nat2]
    unfold t_L_good_part_1; refine st_seq ?_
    push_cast [ha]
    refine ⟨(by simp only [List.length_cons, List.length_nil]; decide), fun p H1 A1 => ?_⟩
    push_cast [A1.at_]
    have ha1 := A1.k ha
    unfold t_L_good_part_2; refine st_seq ?_
    push_cast [ha1]
    refine st_seq ?_
    push_cast [ha1, is_int_int, is_int_bool, len2, h0, show i ≤ 9999 by omega]
    exact k _ A1.fr
  | text i =>
    simp only [Ex.d, tp_tup, tpl_cons, tpl_nil, tp_str, tp_int] at hv
    obtain ⟨a, xs, rfl, ha, _, r1, rfl, rfl, _, r2, rfl, rfl, rfl⟩ := hv
    have hz : i.length ≤ 12 := by simpa [Str.length] using ok.1
    push_cast [ha, d5, is_tuple_tuple ha, is_str_str, nat2]
    unfold t_L_good_part_1; refine st_seq ?_
    push_cast [ha]
    refine ⟨(by simp only [List.length_cons, List.length_nil]; decide), fun p H1 A1 => ?_⟩
    push_cast [A1.at_]
    have ha1 := A1.k ha
    unfold t_L_good_part_2; refine st_seq ?_
    push_cast [ha1]
    unfold t_L_good_part_3; refine st_seq ?_
    push_cast [ha1]
    refine ⟨(by simp only [List.length_cons, List.length_nil]; decide), fun p2 H2 A2 => ?_⟩
    have ha2 := A2.k ha1
    push_cast [A2.at_, ha2, len2, is_str_str]
    unfold t_L_good_part_4; refine st_seq ?_
    push_cast [ha2]
    refine ⟨szS (by omega), iteT' (by omega) ?_⟩
    refine lcS (z := i) (fun R h => by push_cast [ha2]; exact h) fun L hL => ⟨fun _ Hc => Hc L = some (.lst []) ∧ Fr [] H2 Hc, ⟨upd_same, (Al.of hL).fr⟩, ?_, ?_⟩
    · rintro j c Hc hc ⟨hL1, fc⟩
      have rc := ok.2 c (List.mem_of_getElem? hc)
      unfold LcTurn
      push_cast [wipe]
      exact ⟨c, rfl, iteF' (fun z => z ((in26 c).mpr rc)) ⟨hL1, fc⟩⟩
    · rintro Hc ⟨hL1, fc⟩
      push_cast
      exact ⟨(by simp only [List.length_cons, List.length_nil]; decide), fun q H3 A3 => ⟨L, q, [], rfl, rfl, A3.k hL1, A3.at_, k _ (((A1.fr.al A2).trans fc).al A3)⟩⟩
  | name i =>
    simp only [Ex.d, tp_tup, tpl_cons, tpl_nil, tp_str, tp_int] at hv
    obtain ⟨a, xs, rfl, ha, _, r1, rfl, rfl, _, r2, rfl, rfl, rfl⟩ := hv
    obtain ⟨j, hj, rfl⟩ := id ok
    push_cast [ha, d5, is_tuple_tuple ha, is_str_str, nat2]
    unfold t_L_good_part_1; refine st_seq ?_
    push_cast [ha]
    refine ⟨(by simp only [List.length_cons, List.length_nil]; decide), fun p H1 A1 => ?_⟩
    push_cast [A1.at_]
    have ha1 := A1.k ha
    unfold t_L_good_part_2; refine st_seq ?_
    push_cast [ha1]
    unfold t_L_good_part_3; refine st_seq ?_
    push_cast [ha1]
    refine ⟨(by simp only [List.length_cons, List.length_nil]; decide), fun p2 H2 A2 => ?_⟩
    have ha2 := A2.k ha1
    push_cast [A2.at_, ha2, len2, is_str_str]
    unfold t_L_good_part_4; refine st_seq ?_
    push_cast [ha2]
    refine ⟨szS (by simp [Str.length]), iteT' (by simp [Str.length]) ⟨97 + j, rfl, ?_⟩⟩
    rw [decide_eq_true ((in8 _).mpr (by omega))]
    exact k _ (A1.fr.al A2)
  | op s e1 e2 =>
    simp only [Ex.d, tp_tup, tpl_cons, tpl_nil, tp_str, tp_int] at hv
    obtain ⟨a, xs, rfl, ha, _, r1, rfl, rfl, v1, r2, rfl, t1, v2, r3, rfl, t2, rfl⟩ := hv
    simp only [Ex.dep] at hd hn
    have m1 := Nat.le_max_left e1.dep e2.dep
    have m2 := Nat.le_max_right e1.dep e2.dep
    push_cast [ha, d5, is_tuple_tuple ha, is_str_str, nat3]
    unfold t_L_good_part_1; refine st_seq ?_
    push_cast [ha]
    refine ⟨(by simp only [List.length_cons, List.length_nil]; decide), fun p H1 A1 => ?_⟩
    push_cast [A1.at_, sg_in]
    have ha1 := A1.k ha
    refine st_seq ?_
    push_cast [ha1, len3]
    refine ⟨v1, e1, d + 1, by rw [ed], t1.tups A1.tu, ok.1, by omega, by omega, fun H2 f2 => ?_⟩
    refine ⟨true, rfl, ?_⟩
    push_cast [f2.tu _ _ ha1]
    refine ⟨v2, e2, d + 1, by rw [ed], (t2.tups A1.tu).tups f2.tu, ok.2, by omega, by omega, fun H3 f3 => k _ ((A1.fr.trans f2).trans f3)⟩

/-- _law_good -/
def t_L_good (K : PySem.W.Frag) (n : Nat) : TS :=
  (tSeq (tIfS (tOr (tNot (tB (tCB (rIs "tuple") (tCons (tVar 0) (tCons (tC (.ty "tuple")) tNil))))) (tOr (tTest (tOp rNe (tCB rLenT (tCons (tVar 0) tNil)) (tC (.int 2)))) (tOr (tTest (tOp rNe (tOp rXT (tVar 0) (tC (.int 0))) (tC (.str (wd 13))))) (tNot (tB (tCB (rIs "tuple") (tCons (tOp rXT (tVar 0) (tC (.int 1))) (tCons (tC (.ty "tuple")) tNil)))))))) (tRet (tC (.bl false))) tNext)
    (tRet (tOp rEqE (tLc (iTup K (tOp rXT (tVar 0) (tC (.int 1)))) (gName 2) (tNot (tB (tCall (sp_L_good_statement n) [] E0 (tCons (tVar 2) (tCons (tVar 1) tNil))))) (tVar 2) [2]) (xLst tNil))))

/-- _law_good_statement from 3 -/
def t_L_good_statement_3 (K : PySem.W.Frag) (n : Nat) : TS :=
  (tSeq (tIfS (tOr (tTest (tOp rEq (tVar 1) (tC (.int 5)))) (tOr (tTest (tOp rNe (tCB rLenT (tCons (tVar 0) tNil)) (xGet2S (tDisp (((tC (.str (wd 14))), (tC (.int 4))) :: (((tC (.str (wd 15))), (tC (.int 3))) :: []))) (tOp rXT (tVar 0) (tC (.int 0))) (tC (.int 0))))) (tNot (tB (tCall (sp_L_good_part 6) [] E0 (tCons (tOp rXT (tVar 0) (tC (.int 1))) (tCons (tC (.int 1)) tNil))))))) (tRet (tC (.bl false))) tNext)
    (tRet (tOp rEqE (tLc (iTup K (tSl rSlT (tVar 0) (tPart (tC (.int 2))) tNoPart)) (gName 2) (tNot (tB (tCall (sp_L_good n) [] E0 (tCons (tVar 2) (tCons (tOp (rI0 fun i j => .int (i + j)) (tVar 1) (tC (.int 1))) tNil))))) (tVar 2) [2]) (xLst tNil))))

/-- _law_good_statement from 2 -/
def t_L_good_statement_2 (K : PySem.W.Frag) (n : Nat) : TS :=
  tSeq (tIfS (tTest (tOp rEq (tOp rXT (tVar 0) (tC (.int 0))) (tC (.str (wd 8))))) (tRet (tAndV (tOp rEq (tCB rLenT (tCons (tVar 0) tNil)) (tC (.int 3))) (tAndV (tCall (sp_L_good_part 6) [] E0 (tCons (xTup (tCons (tC (.str (wd 2))) (tCons (tOp rXT (tVar 0) (tC (.int 1))) tNil))) (tCons (tC (.int 1)) tNil))) (tCall (sp_L_good_part 6) [] E0 (tCons (tOp rXT (tVar 0) (tC (.int 2))) (tCons (tC (.int 1)) tNil)))))) tNext) (t_L_good_statement_3 K n)

/-- _law_good_statement from 1 -/
def t_L_good_statement_1 (K : PySem.W.Frag) (n : Nat) : TS :=
  tSeq (tIfS (tTest (tOp rEq (tOp rXT (tVar 0) (tC (.int 0))) (tC (.str (wd 7))))) (tRet (tAndV (tOp rEq (tCB rLenT (tCons (tVar 0) tNil)) (tC (.int 2))) (tCall (sp_L_good_part 6) [] E0 (tCons (tOp rXT (tVar 0) (tC (.int 1))) (tCons (tC (.int 1)) tNil))))) tNext) (t_L_good_statement_2 K n)

/-- _law_good_statement -/
def t_L_good_statement (K : PySem.W.Frag) (n : Nat) : TS :=
  tSeq (tIfS (tOr (tNot (tB (tCB (rIs "tuple") (tCons (tVar 0) (tCons (tC (.ty "tuple")) tNil))))) (tOr (tTest (tOp (rI0 fun i j => .bl (decide (i < j))) (tCB rLenT (tCons (tVar 0) tNil)) (tC (.int 2)))) (tNot (tB (tCB (rIs "str") (tCons (tOp rXT (tVar 0) (tC (.int 0))) (tCons (tC (.ty "str")) tNil))))))) (tRet (tC (.bl false))) tNext) (t_L_good_statement_1 K n)

theorem nat4 {x y z u : V} : ¬ (([x, y, z, u].length : Nat) : Int) < 2 := by simp
theorem len4 {x y z u : V} : (([x, y, z, u].length : Nat) : Int) = 4 := rfl
section
variable {tl te : TE} {g : TG} {tt : TT} {vs : List Nat} {σ : L2.St} {H : Hp} {Q : VK} {K : PySem.W.Frag}
theorem lcU {a : Addr} {xs : List V} (hv : ∀ R : VK, R (.ref a) H → tl σ H R) (hx : H a = some (.tup xs))
    (h : ∀ L, H L = none → ∃ Pv : Nat → Hp → Prop, Pv 0 (upd H L (.lst [])) ∧ (∀ i Hc, Pv i Hc → Hc a = some (.tup xs)) ∧ (∀ (i : Nat) x Hc, xs[i]? = some x → Pv i Hc → LcTurn g tt te vs σ L (Pv (i + 1)) x Hc) ∧ ∀ Hc, Pv xs.length Hc → Q (.ref L) Hc) :
    tLc (iTup K tl) g tt te vs σ H Q := by
  refine hv _ ⟨a, rfl, ⟨xs, SqT.of hx⟩, fun L hL => ?_⟩
  obtain ⟨Pv, h0, hl, hs, hd⟩ := h L hL
  refine lc_it walk_tup Pv h0 (fun i Hc _ p => SqT.of (hl i Hc p)) (fun i x H1 H2 hi p y => ?_) hd
  obtain ⟨e1, e2⟩ := y
  subst e1
  exact hs i x _ e2 p
end
theorem rd_L_good {K : PySem.W.Frag} {n : Nat} {vs : List V} {H : Hp} {Q : VK} {E : XK} (h : sp_L_good (n + 1) vs H Q E) : t_L_good K n { nx := fun _ H' => Q .non H', rt := Q } (start ["_", "_", "_"] vs) H := by
  obtain ⟨v, p, d, rfl, hv, ok, hd, hn, k⟩ := h
  show t_L_good K n _ [some v, some (.int (d : Nat)), none] H
  obtain ⟨a, a2, ys, rfl, ha, ha2, hy⟩ := tp_row hv
  unfold t_L_good
  refine st_seq ?_
  push_cast [ha, is_tuple_tuple ha, is_tuple_tuple ha2, len2]
  refine lcU (a := a2) (xs := ys) (fun R h => by push_cast [ha]; exact h) ha2 fun L hL => ⟨fun _ Hc => Hc L = some (.lst []) ∧ Fr [] H Hc, ⟨upd_same, (Al.of hL).fr⟩, fun i Hc h => h.2.tu _ _ ha2, ?_, ?_⟩
  · rintro i x Hc hx ⟨hL1, fc⟩
    obtain ⟨D, hd1, hd2⟩ := hy.get' hx
    obtain ⟨s, hs, rfl⟩ := map_get hd1
    have ms := mem_of_get hs
    have d1 := dpL_mem ms
    unfold LcTurn
    push_cast [wipe]
    refine ⟨x, s, d, rfl, hd2.tups fc.tu, okL_mem ok ms, by omega, by omega, fun H2 f2 => ?_⟩
    exact ⟨true, rfl, f2.keep _ _ hL1 (by simp), fc.trans f2⟩
  · rintro Hc ⟨hL1, fc⟩
    push_cast
    exact ⟨(by simp only [List.length_cons, List.length_nil]; decide), fun q H3 A3 => ⟨L, q, [], rfl, rfl, A3.k hL1, A3.at_, k _ (fc.al A3)⟩⟩
section
variable {te : TE} {g : TG} {tt : TT} {vs : List Nat} {σ : L2.St} {H : Hp} {Q : VK} {K : PySem.W.Frag}
/-- over x[2:] -/
theorem lcCut {j : Nat} {a : Addr} {xs : List V} (hσ : σ[j]? = some (some (.ref a))) (hx : H a = some (.tup xs))
    (h : ∀ b H1, H1 b = some (.tup (cutV xs (some 2) none)) → Fr [] H H1 → ∀ L, H1 L = none → ∃ Pv : Nat → Hp → Prop, Pv 0 (upd H1 L (.lst [])) ∧ (∀ i Hc, Pv i Hc → Hc b = some (.tup (cutV xs (some 2) none))) ∧
      (∀ (i : Nat) x Hc, (cutV xs (some 2) none)[i]? = some x → Pv i Hc → LcTurn g tt te vs σ L (Pv (i + 1)) x Hc) ∧ ∀ Hc, Pv (cutV xs (some 2) none).length Hc → Q (.ref L) Hc) :
    tLc (iTup K (tSl rSlT (tVar j) (tPart (tC (.int 2))) tNoPart)) g tt te vs σ H Q := by
  show tSl rSlT (tVar j) (tPart (tC (.int 2))) tNoPart σ H _
  push_cast [hσ]
  refine ⟨_, hx, fun b H1 hb fb => ⟨⟨_, SqT.of hb⟩, fun L hL => ?_⟩⟩
  obtain ⟨Pv, h0, hl, hs, hd⟩ := h b H1 hb fb L hL
  refine lc_it walk_tup Pv h0 (fun i Hc _ p => SqT.of (hl i Hc p)) (fun i x H1 H2 hi p y => ?_) hd
  obtain ⟨e1, e2⟩ := y
  subst e1
  exact hs i x _ e2 p
end
theorem rd_L_good_statement {K : PySem.W.Frag} {n : Nat} {vs : List V} {H : Hp} {Q : VK} {E : XK} (h : sp_L_good_statement (n + 1) vs H Q E) : t_L_good_statement K n { nx := fun _ H' => Q .non H', rt := Q } (start ["_", "_", "_"] vs) H := by
  obtain ⟨v, s, d, rfl, hv, ok, hd, hn, k⟩ := h
  show t_L_good_statement K n _ [some v, some (.int (d : Nat)), none] H
  have ed : ((d : Nat) : Int) + 1 = ((d + 1 : Nat) : Int) := by omega
  unfold t_L_good_statement; refine st_seq ?_
  cases s with
  | say e =>
    obtain ⟨a, ve, rfl, ha, te⟩ := tp_say hv
    push_cast [ha, is_tuple_tuple ha, is_str_str, nat2]
    unfold t_L_good_statement_1; refine st_seq ?_
    push_cast [ha, len2]
    exact ⟨ve, e, 1, rfl, te, ok.1, by have := ok.2; omega, by have := ok.2; omega, k⟩
  | set x e =>
    obtain ⟨a, ve, rfl, ha, te⟩ := tp_set hv
    push_cast [ha, is_tuple_tuple ha, is_str_str, nat3]
    unfold t_L_good_statement_1; refine st_seq ?_
    push_cast [ha]
    unfold t_L_good_statement_2; refine st_seq ?_
    push_cast [ha, len3]
    refine ⟨(by simp only [List.length_cons, List.length_nil]; decide), fun p H1 A1 => ?_⟩
    refine ⟨.ref p, .name x, 1, rfl, .tup A1.at_ (.cons (.str _) (.cons (.str _) .nil)), ok.1, by simp [Ex.dep], by simp [Ex.dep], fun H2 f2 => ⟨true, rfl, ?_⟩⟩
    rw [if_pos rfl]
    have o5 := ok.2.2
    exact ⟨_, f2.tu _ _ (A1.k ha), _, rfl, ve, e, 1, rfl, (te.tups A1.tu).tups f2.tu, ok.2.1, by omega, by omega, fun H3 f3 => k _ ((A1.fr.trans f2).trans f3)⟩
  | ite e s t =>
    obtain ⟨a, ve, v1, v2, rfl, ha, te, t1, t2⟩ := tp_ite hv
    simp only [Sm.dp] at hd hn
    have m1 := Nat.le_max_left (dpL s) (dpL t)
    have m2 := Nat.le_max_right (dpL s) (dpL t)
    have dps := dpL_pos s
    have d5 : ¬ ((d : Nat) : Int) = 5 := by omega
    push_cast [ha, is_tuple_tuple ha, is_str_str, nat4]
    unfold t_L_good_statement_1; refine st_seq ?_
    push_cast [ha]
    unfold t_L_good_statement_2; refine st_seq ?_
    push_cast [ha]
    unfold t_L_good_statement_3; refine st_seq ?_
    push_cast [ha, len4, d5, tDisp, tPairs]
    intro p hp
    have A1 := Al.of (o := HO.dK []) hp
    have M1 := Mu.of (o := HO.dK (mergeK [] [(.inr (wd 14), .int 4), (.inr (wd 15), .int 3)])) A1.at_ fun _ z => by cases z
    have ha1 := M1.tu _ _ (A1.k ha)
    have F1 : Fr [] H _ := A1.fr.muN M1 hp
    refine ⟨[(.inr (wd 14), .int 4), (.inr (wd 15), .int 3)], rfl, by decide, _, ha1, _, rfl, _, _, rfl, rfl, rfl, iteF' (fun z => z rfl) ⟨_, ha1, _, rfl, ?_⟩⟩
    have o5 := ok.1.2
    refine ⟨ve, e, 1, rfl, te.tups F1.tu, ok.1.1, by omega, by omega, fun H2 f2 => ⟨true, rfl, ?_⟩⟩
    rw [if_neg (by simp)]
    have F2 := F1.trans f2
    refine lcCut (j := 0) rfl (F2.tu _ _ ha) fun b H3 hb f3 L hL => ⟨fun _ Hc => Hc L = some (.lst []) ∧ Fr [] H3 Hc, ⟨upd_same, (Al.of hL).fr⟩, fun i Hc h => h.2.tu _ _ hb, ?_, ?_⟩
    · rintro i x Hc hx ⟨hL1, fc⟩
      have F3 := (F2.trans f3).trans fc
      have hx' : [v1, v2][i]? = some x := hx
      obtain ⟨q, tq, oq, dq⟩ : ∃ q, Tp Hc (rowD q) x ∧ okL 5 q ∧ dpL q ≤ max (dpL s) (dpL t) := by
        match i, hx' with
        | 0, h => cases h; exact ⟨s, t1.tups F3.tu, ok.2.1, m1⟩
        | 1, h => cases h; exact ⟨t, t2.tups F3.tu, ok.2.2, m2⟩
        | i + 2, h => simp at h
      unfold LcTurn
      push_cast [wipe]
      refine ⟨x, q, d + 1, by rw [ed], tq, oq, by omega, by omega, fun H4 f4 => ?_⟩
      exact ⟨true, rfl, f4.keep _ _ hL1 (by simp), fc.trans f4⟩
    · rintro Hc ⟨hL1, fc⟩
      push_cast
      exact ⟨(by simp only [List.length_cons, List.length_nil]; decide), fun q H3 A3 => ⟨L, q, [], rfl, rfl, A3.k hL1, A3.at_, k _ (((F2.trans f3).trans fc).al A3)⟩⟩
  | whl e s =>
    obtain ⟨a, ve, v1, rfl, ha, te, t1⟩ := tp_whl hv
    simp only [Sm.dp] at hd hn
    have dps := dpL_pos s
    have d5 : ¬ ((d : Nat) : Int) = 5 := by omega
    push_cast [ha, is_tuple_tuple ha, is_str_str, nat3]
    unfold t_L_good_statement_1; refine st_seq ?_
    push_cast [ha]
    unfold t_L_good_statement_2; refine st_seq ?_
    push_cast [ha, len3]
    unfold t_L_good_statement_3; refine st_seq ?_
    push_cast [ha, len3, d5, tDisp, tPairs]
    intro p hp
    have A1 := Al.of (o := HO.dK []) hp
    have M1 := Mu.of (o := HO.dK (mergeK [] [(.inr (wd 14), .int 4), (.inr (wd 15), .int 3)])) A1.at_ fun _ z => by cases z
    have ha1 := M1.tu _ _ (A1.k ha)
    have F1 : Fr [] H _ := A1.fr.muN M1 hp
    refine ⟨[(.inr (wd 14), .int 4), (.inr (wd 15), .int 3)], rfl, by decide, _, ha1, _, rfl, _, _, rfl, rfl, rfl, iteF' (fun z => z rfl) ⟨_, ha1, _, rfl, ?_⟩⟩
    have o5 := ok.1.2
    refine ⟨ve, e, 1, rfl, te.tups F1.tu, ok.1.1, by omega, by omega, fun H2 f2 => ⟨true, rfl, ?_⟩⟩
    rw [if_neg (by simp)]
    have F2 := F1.trans f2
    refine lcCut (j := 0) rfl (F2.tu _ _ ha) fun b H3 hb f3 L hL => ⟨fun _ Hc => Hc L = some (.lst []) ∧ Fr [] H3 Hc, ⟨upd_same, (Al.of hL).fr⟩, fun i Hc h => h.2.tu _ _ hb, ?_, ?_⟩
    · rintro i x Hc hx ⟨hL1, fc⟩
      have F3 := (F2.trans f3).trans fc
      have hx' : [v1][i]? = some x := hx
      obtain ⟨q, tq, oq, dq⟩ : ∃ q, Tp Hc (rowD q) x ∧ okL 5 q ∧ dpL q ≤ dpL s := by
        match i, hx' with
        | 0, h => cases h; exact ⟨s, t1.tups F3.tu, ok.2, Nat.le_refl _⟩
        | i + 1, h => simp at h
      unfold LcTurn
      push_cast [wipe]
      refine ⟨x, q, d + 1, by rw [ed], tq, oq, by omega, by omega, fun H4 f4 => ?_⟩
      exact ⟨true, rfl, f4.keep _ _ hL1 (by simp), fc.trans f4⟩
    · rintro Hc ⟨hL1, fc⟩
      push_cast
      exact ⟨(by simp only [List.length_cons, List.length_nil]; decide), fun q H3 A3 => ⟨L, q, [], rfl, rfl, A3.k hL1, A3.at_, k _ (((F2.trans f3).trans fc).al A3)⟩⟩

/-- _law_spoilt from 6 -/
def t_L_spoilt_6 (K : PySem.W.Frag) : TS :=
  (tSeq (tFor (iRng1 (tCons (tOp (rI0 fun i j => .int (i + j)) (tC (.int 1)) (tCall sp_L_take [] E0 (tCons (tVar 0) (tCons (tC (.int 3)) tNil)))) tNil)) (gName 6)
    (tSeq (tAsg (tCall sp_L_take [] E0 (tCons (tVar 0) (tCons (tOp (rI0 fun i j => .int (i + j)) (tCB rLenS (tCons (tVar 1) tNil)) (tC (.int 1))) tNil))) (gName 7))
    (tSeq (tAsg (tOp rIxS (tC (.str ("abhiz019 \n'+-<=selfwAZ_.57\t" : Str))) (tCall sp_L_take [] E0 (tCons (tVar 0) (tCons (tC (.int 27)) tNil)))) (gName 8))
    (tSeq (tAsg (tCall sp_L_take [] E0 (tCons (tVar 0) (tCons (tC (.int 3)) tNil))) (gName 9))
    (tAsg (tOp rAddS (tOp rAddS (tSl rSlS (tVar 1) tNoPart (tPart (tVar 7))) (tOp rXL (xLst (tCons (tC (.str ("" : Str))) (tCons (tVar 8) (tCons (tVar 8) tNil)))) (tVar 9))) (tSl rSlS (tVar 1) (tPart (tOp (rI0 fun i j => .int (i + j)) (tVar 7) (tOp rXL (xLst (tCons (tC (.int 1)) (tCons (tC (.int 0)) (tCons (tC (.int 1)) tNil)))) (tVar 9)))) tNoPart)) (gName 1))))))
    (tRet (tVar 1)))

/-- _law_spoilt from 5 -/
def t_L_spoilt_5 (K : PySem.W.Frag) : TS :=
  tSeq (tIfS (tTest (tOp rEq (tVar 2) (tC (.int 2)))) (tSeq (tAsg (tLstRev (tSl rSL (tVar 3) (tPart (tVar 4)) (tPart (tOp (rI0 fun i j => .int (i + j)) (tVar 4) (tC (.int 2)))))) (gName 5))
    (tRet (tJoinL (tC (.str ("\n" : Str))) (tOp rCt (tOp rCt (tSl rSL (tVar 3) tNoPart (tPart (tVar 4))) (tVar 5)) (tSl rSL (tVar 3) (tPart (tOp (rI0 fun i j => .int (i + j)) (tVar 4) (tC (.int 2)))) tNoPart))))) tNext) (t_L_spoilt_6 K)

/-- _law_spoilt from 4 -/
def t_L_spoilt_4 (K : PySem.W.Frag) : TS :=
  tSeq (tIfS (tTest (tOp rEq (tVar 2) (tC (.int 1)))) (tRet (tJoinL (tC (.str ("\n" : Str))) (tOp rCt (tOp rCt (tSl rSL (tVar 3) tNoPart (tPart (tVar 4))) (xLst (tCons (tOp rXL (tVar 3) (tVar 4)) tNil))) (tSl rSL (tVar 3) (tPart (tVar 4)) tNoPart)))) tNext) (t_L_spoilt_5 K)

/-- _law_spoilt from 3 -/
def t_L_spoilt_3 (K : PySem.W.Frag) : TS :=
  tSeq (tIfS (tTest (tOp rEq (tVar 2) (tC (.int 0)))) (tRet (tJoinL (tC (.str ("\n" : Str))) (tOp rCt (tSl rSL (tVar 3) tNoPart (tPart (tVar 4))) (tSl rSL (tVar 3) (tPart (tOp (rI0 fun i j => .int (i + j)) (tVar 4) (tC (.int 1)))) tNoPart)))) tNext) (t_L_spoilt_4 K)

/-- _law_spoilt from 2 -/
def t_L_spoilt_2 (K : PySem.W.Frag) : TS :=
  tSeq (tAsg (tCall sp_L_take [] E0 (tCons (tVar 0) (tCons (tCB rLenL (tCons (tVar 3) tNil)) tNil))) (gName 4)) (t_L_spoilt_3 K)

/-- _law_spoilt from 1 -/
def t_L_spoilt_1 (K : PySem.W.Frag) : TS :=
  tSeq (tAsg (xSplit (tVar 1) (tC (.str ("\n" : Str)))) (gName 3)) (t_L_spoilt_2 K)

/-- _law_spoilt -/
def t_L_spoilt (K : PySem.W.Frag) : TS :=
  tSeq (tAsg (tCall sp_L_take [] E0 (tCons (tVar 0) (tCons (tC (.int 5)) tNil))) (gName 2)) (t_L_spoilt_1 K)

/-- how much is to be joined -/
def wgt (l : List Str) : Nat := (l.map (·.length)).sum + l.length
theorem wgt_app (l m : List Str) : wgt (l ++ m) = wgt l + wgt m := by
  simp only [wgt, List.map_append, List.sum_append, List.length_append]; omega
theorem wgt_take (l : List Str) (n : Nat) : wgt (l.take n) ≤ wgt l := by
  have := wgt_app (l.take n) (l.drop n)
  rw [List.take_append_drop] at this
  omega
theorem wgt_drop (l : List Str) (n : Nat) : wgt (l.drop n) ≤ wgt l := by
  have := wgt_app (l.take n) (l.drop n)
  rw [List.take_append_drop] at this
  omega
theorem wgt_rev (l : List Str) : wgt l.reverse = wgt l := by
  induction l with
  | nil => rfl
  | cons a r ih =>
    have := wgt_app [a] r
    rw [List.reverse_cons, wgt_app, ih]
    simp only [List.cons_append, List.nil_append] at this
    omega
theorem wgt_one {l : List Str} {w : Str} (h : w ∈ l) : wgt [w] ≤ wgt l := by
  have h1 := mem_sum h
  have h2 : 1 ≤ l.length := List.length_pos_of_mem h
  simp only [wgt, List.map_cons, List.map_nil, List.sum_cons, List.sum_nil, List.length_cons, List.length_nil]
  omega
def cutL (l : List Str) (lo hi : Option Int) : List Str := (l.drop (HT.sIx l.length 0 lo)).take (HT.sIx l.length l.length hi - HT.sIx l.length 0 lo)
theorem cut_svs (l : List Str) (lo hi : Option Int) : cutV (svs l) lo hi = svs (cutL l lo hi) := by
  simp only [cutV, cutL, svs, List.length_map, List.map_take, List.map_drop]
theorem wgt_cut (l : List Str) (lo hi : Option Int) : wgt (cutL l lo hi) ≤ wgt l := Nat.le_trans (wgt_take _ _) (wgt_drop _ _)
theorem svs_rev (l : List Str) : (svs l).reverse = svs l.reverse := by simp [svs]
theorem svs_app' (l m : List Str) : svs l ++ svs m = svs (l ++ m) := by simp [svs]
theorem svs_lw (l : List Str) : (svs l).length ≤ wgt l := by simp only [svs, List.length_map, wgt]; omega
theorem wgt_fit (l : List Str) : (l.map (·.length)).sum + l.length * ("\n" : Str).length = wgt l := by
  have : ("\n" : Str).length = 1 := rfl
  rw [this, Nat.mul_one]
  rfl
theorem join_wgt (l : List Str) : (Txt.join "\n" l).length ≤ wgt l := by
  have := join_len "\n" l
  rw [wgt_fit] at this
  exact this
section
variable {tb : TS} {te : TE} {g : TG} {tt : TT} {vs : List Nat} {σ : L2.St} {H : Hp} {D : Ends} {Q : VK} {b l : Addr} {c m : Int} {jb j : Nat}
/-- for .. in range(c + _law_take(box, m)) -/
theorem forTk (hσ : σ[jb]? = some (some (.ref b))) (B : BoxAt H b l) (hm : 0 < m) (hm2 : m < 1000) (c0 : 0 ≤ c) (c1 : c < 1000)
    (h : ∀ r H1, 0 ≤ r → r < m → BoxAt H1 b l → Fr [b, l] H H1 → ∃ Pv : Nat → L2.St → Hp → Prop, Pv 0 σ H1 ∧ (∀ (i : Nat) σ' H', (i : Int) < c + r → Pv i σ' H' → tb { D with nx := Pv (i + 1), ct := Pv (i + 1), bk := D.nx } (σ'.set j (some (.int (i : Int)))) H') ∧ ∀ σ' H', Pv (c + r).toNat σ' H' → D.nx σ' H') :
    tFor (iRng1 (tCons (tOp (rI0 fun i j => .int (i + j)) (tC (.int c)) (tCall sp_L_take [] E0 (tCons (tVar jb) (tCons (tC (.int m)) tNil)))) tNil)) (gName j) tb D σ H := by
  show iRng1 _ σ H _
  unfold iRng1
  push_cast [hσ]
  refine ⟨b, l, m, rfl, B, hm, by omega, fun r H1 r0 r1 B1 f1 => ⟨r, rfl, ?_⟩⟩
  obtain ⟨Pv, h0, hs, hd⟩ := h r H1 r0 r1 B1 f1
  refine ⟨by omega, by omega, for_it (g := gName j) (tb := tb) walk_range Pv h0 (fun _ _ _ _ _ => trivial) (fun i x σ1 H1 H2 hi p y => ?_) hd⟩
  obtain ⟨e1, e2⟩ := y
  have e2' : x = .int (0 + (i : Int)) := e2
  rw [Int.zero_add] at e2'
  subst e1 e2'
  exact hs i σ1 _ (by omega) p
/-- [.. for .. in range(c + _law_take(box, m))] -/
theorem lcTk (hσ : σ[jb]? = some (some (.ref b))) (B : BoxAt H b l) (hm : 0 < m) (hm2 : m < 1000) (c0 : 0 ≤ c) (c1 : c < 1000)
    (h : ∀ r H1, 0 ≤ r → r < m → BoxAt H1 b l → Fr [b, l] H H1 → ∀ L, H1 L = none → ∃ Pv : Nat → Hp → Prop, Pv 0 (upd H1 L (.lst [])) ∧ (∀ (i : Nat) Hc, (i : Int) < c + r → Pv i Hc → LcTurn g tt te vs σ L (Pv (i + 1)) (.int (i : Int)) Hc) ∧ ∀ Hc, Pv (c + r).toNat Hc → Q (.ref L) Hc) :
    tLc (iRng1 (tCons (tOp (rI0 fun i j => .int (i + j)) (tC (.int c)) (tCall sp_L_take [] E0 (tCons (tVar jb) (tCons (tC (.int m)) tNil)))) tNil)) g tt te vs σ H Q := by
  show iRng1 _ σ H _
  unfold iRng1
  push_cast [hσ]
  refine ⟨b, l, m, rfl, B, hm, by omega, fun r H1 r0 r1 B1 f1 => ⟨r, rfl, by omega, by omega, fun L hL => ?_⟩⟩
  obtain ⟨Pv, h0, hs, hd⟩ := h r H1 r0 r1 B1 f1 L hL
  refine lc_it walk_range Pv h0 (fun _ _ _ _ => trivial) (fun i x H1 H2 hi p y => ?_) hd
  obtain ⟨e1, e2⟩ := y
  have e2' : x = .int (0 + (i : Int)) := e2
  rw [Int.zero_add] at e2'
  subst e1 e2'
  exact hs i _ (by omega) p
end
theorem at_some {z : Str} {r : Int} (h0 : 0 ≤ r) (h1 : r < (z.length : Nat)) : ∃ c, atI z.cps.toList r = some c := by
  obtain ⟨i, rfl⟩ : ∃ i : Nat, r = (i : Int) := ⟨r.toNat, by omega⟩
  have hi : i < z.cps.toList.length := by simpa [Str.length] using (by omega : i < z.length)
  exact ⟨_, atI_nat (List.getElem?_eq_getElem hi)⟩
theorem cut_lo {z : Str} {a : Int} (h0 : 0 ≤ a) : (cutS z (some a) none).length = z.length - a.toNat := by
  obtain ⟨i, rfl⟩ : ∃ i : Nat, a = (i : Int) := ⟨a.toNat, by omega⟩
  have e : (cutS z (some (i : Int)) none).length = ((z.cps.toList.drop (min i z.length)).take (z.length - min i z.length)).length := by
    rw [← HT.sIx_nat z.length 0 i]
    simp [cutS, Str.length, HT.sIx]
  rw [e, List.length_take, List.length_drop, Array.length_toList]
  show min (z.length - min i z.length) (z.length - min i z.length) = _
  simp only [Int.toNat_natCast]
  omega
theorem cut_up {z : Str} {a : Int} (h0 : 0 ≤ a) : (cutS z none (some a)).length = min a.toNat z.length := by
  obtain ⟨i, rfl⟩ : ∃ i : Nat, a = (i : Int) := ⟨a.toNat, by omega⟩
  have e : (cutS z none (some (i : Int))).length = ((z.cps.toList.drop 0).take (min i z.length - 0)).length := by
    rw [← HT.sIx_nat z.length z.length i]
    simp [cutS, Str.length, HT.sIx]
  rw [e, List.length_take, List.length_drop, Array.length_toList]
  show min (min i z.length - 0) (z.length - 0) = _
  simp only [Int.toNat_natCast]
  omega
def SpI (b l : Addr) (t : Str) (way kk : Int) (P : Addr) (H : Hp) (i : Nat) (σ : L2.St) (G : Hp) : Prop := ∃ (t' : Str) (v6 v7 v8 v9 : Option V), σ = [some (.ref b), some (.str t'), some (.int way), some (.ref P), some (.int kk), none, v6, v7, v8, v9] ∧ t'.length ≤ t.length + i ∧ BoxAt G b l ∧ Fr [b, l] H G
theorem rd_L_spoilt {K : PySem.W.Frag} {vs : List V} {H : Hp} {Q : VK} {E : XK} (h : sp_L_spoilt vs H Q E) : t_L_spoilt K { nx := fun _ H' => Q .non H', rt := Q } (start ["_", "_", "_", "_", "_", "_", "_", "_", "_", "_"] vs) H := by
  obtain ⟨b, l, t, rfl, B, ht, k⟩ := h
  show t_L_spoilt K _ [some (.ref b), some (.str t), none, none, none, none, none, none, none, none] H
  unfold t_L_spoilt; refine st_seq ?_
  push_cast
  refine ⟨b, l, 5, rfl, B, by decide, by decide, fun way H1 w0 w1 B1 f1 => ?_⟩
  unfold t_L_spoilt_1; refine st_seq ?_
  push_cast [xSplit]
  refine ⟨rfl, Nat.le_trans (Nat.add_le_add_right ht 2) (by decide), fun P H2 A2 => ?_⟩
  have hw : wgt (Txt.split t "\n") ≤ t.length + 1 := PyProof.Rows.split_weight t "\n" (by decide)
  have hp := PyProof.Rows.split_pos t "\n"
  generalize Txt.split t "\n" = L at A2 hw hp
  have hP : H2 P = some (.lst (svs L)) := A2.at_
  have lw := svs_lw L
  have ll : (svs L).length = L.length := svs_len' L
  have B2 := B1.keep A2.fr
  have F2 : Fr [b, l] H H2 := f1.al A2
  have offP : P ∉ [b, l] := B1.off A2.new
  unfold t_L_spoilt_2; refine st_seq ?_
  push_cast [hP, ll]
  refine ⟨b, l, _, rfl, B2, by omega, by omega, fun kk H3 k0 k1 B3 f3 => ?_⟩
  have hP3 := f3.keep _ _ hP offP
  have F3 := F2.trans f3
  have fin : ∀ (X : List Str) p H', H' p = some (.lst (svs X)) → wgt X ≤ 800000 → BoxAt H' b l → Fr [b, l] H H' → ∃ x, H' p = some (HO.lst (List.map V.str x)) ∧ (List.map (fun x => x.length) x).sum + x.length * (Str.ofString "\n").length ≤ 16777216 ∧ Q (V.str (Txt.join (Str.ofString "\n") x)) H' := fun X p H' h hw B F =>
    ⟨X, h, Nat.le_trans (Nat.le_of_eq (wgt_fit X)) (by omega), k _ _ (Nat.le_trans (join_wgt X) (by omega)) B F⟩
  have c1 := wgt_cut L none (some kk)
  have c2 := wgt_cut L (some (kk + 1)) none
  have c3 := wgt_cut L (some kk) none
  have c4 := wgt_cut L (some (kk + 2)) none
  have c5 := wgt_cut L (some kk) (some (kk + 2))
  have l1 := svs_lw (cutL L none (some kk))
  have l2 := svs_lw (cutL L (some (kk + 1)) none)
  have l3 := svs_lw (cutL L (some kk) none)
  have l4 := svs_lw (cutL L (some (kk + 2)) none)
  have l5 := svs_lw (cutL L (some kk) (some (kk + 2)))
  unfold t_L_spoilt_3; refine st_seq ?_
  push_cast [hP3]
  refine i2 (fun _ => ?_) fun _ => ?_
  · rw [cut_svs]
    intro p4 H4 A4
    refine ⟨_, A4.k hP3, ?_⟩
    rw [cut_svs]
    intro p5 H5 A5
    refine ⟨_, A5.k A4.at_, _, A5.at_, szW (by omega), fun p6 H6 A6 => ?_⟩
    rw [svs_app'] at A6
    exact fin _ p6 H6 A6.at_ (by rw [wgt_app]; omega) (((B3.keep A4.fr).keep A5.fr).keep A6.fr) (((F3.al A4).al A5).al A6)
  unfold t_L_spoilt_4; refine st_seq ?_
  push_cast [hP3]
  refine i2 (fun _ => ?_) fun _ => ?_
  · rw [cut_svs]
    intro p4 H4 A4
    obtain ⟨w, hw1, hw2⟩ : ∃ w, atI (svs L) kk = some (.str w) ∧ w ∈ L := by
      obtain ⟨i, rfl⟩ : ∃ i : Nat, kk = (i : Int) := ⟨kk.toNat, by omega⟩
      have hi : i < L.length := by omega
      exact ⟨L[i], svs_at (List.getElem?_eq_getElem hi), List.getElem_mem hi⟩
    have c6 := wgt_one hw2
    have l6 := svs_lw [w]
    refine ⟨_, A4.k hP3, _, hw1, (by simp only [List.length_cons, List.length_nil]; decide), fun p5 H5 A5 => ⟨_, A5.k A4.at_, svs [w], A5.at_, szW (by omega), fun p6 H6 A6 => ⟨_, A6.k (A5.k (A4.k hP3)), ?_⟩⟩⟩
    rw [svs_app'] at A6
    rw [cut_svs]
    intro p7 H7 A7
    have l7 := svs_lw (cutL L none (some kk) ++ [w])
    rw [wgt_app] at l7
    refine ⟨_, A7.k A6.at_, _, A7.at_, szW (by omega), fun p8 H8 A8 => ?_⟩
    rw [svs_app'] at A8
    exact fin _ p8 H8 A8.at_ (by rw [wgt_app, wgt_app]; omega) (((((B3.keep A4.fr).keep A5.fr).keep A6.fr).keep A7.fr).keep A8.fr) (((((F3.al A4).al A5).al A6).al A7).al A8)
  unfold t_L_spoilt_5; refine st_seq ?_
  push_cast [hP3]
  refine i2 (fun _ => ?_) fun _ => ?_
  · refine st_seq ?_
    push_cast [hP3, tLstRev]
    rw [cut_svs]
    intro p4 H4 A4
    refine ⟨_, A4.at_, ?_⟩
    rw [svs_rev]
    intro p5 H5 A5
    refine ⟨_, A5.k (A4.k hP3), ?_⟩
    rw [cut_svs]
    intro p6 H6 A6
    have l6 := svs_lw (cutL L (some kk) (some (kk + 2))).reverse
    rw [wgt_rev] at l6
    refine ⟨_, A6.at_, _, A6.k A5.at_, szW (by omega), fun p7 H7 A7 => ⟨_, A7.k (A6.k (A5.k (A4.k hP3))), ?_⟩⟩
    rw [svs_app'] at A7
    rw [cut_svs]
    intro p8 H8 A8
    have l7 := svs_lw (cutL L none (some kk) ++ (cutL L (some kk) (some (kk + 2))).reverse)
    rw [wgt_app, wgt_rev] at l7
    refine ⟨_, A8.k A7.at_, _, A8.at_, szW (by omega), fun p9 H9 A9 => ?_⟩
    rw [svs_app'] at A9
    exact fin _ p9 H9 A9.at_ (by rw [wgt_app, wgt_app, wgt_rev]; omega) ((((((B3.keep A4.fr).keep A5.fr).keep A6.fr).keep A7.fr).keep A8.fr).keep A9.fr) ((((((F3.al A4).al A5).al A6).al A7).al A8).al A9)
  unfold t_L_spoilt_6; refine st_seq ?_
  refine forTk (b := b) (l := l) rfl B3 (by decide) (by decide) (by decide) (by decide) fun r H4 r0 r1 B4 f4 => ⟨SpI b l t way kk P H, ⟨t, none, none, none, none, rfl, Nat.le_refl _, B4, F3.trans f4⟩, ?_, ?_⟩
  · rintro i _ G hi ⟨t', v6, v7, v8, v9, rfl, lt, BG, FG⟩
    show tSeq _ _ _ [some (.ref b), some (.str t'), some (.int way), some (.ref P), some (.int kk), none, some (.int (i : Int)), v7, v8, v9] G
    refine st_seq ?_
    push_cast
    refine ⟨szW (by omega), b, l, _, rfl, BG, by omega, by omega, fun at_ G1 a0 a1 B5 f5 => ?_⟩
    refine st_seq ?_
    push_cast
    refine ⟨b, l, 27, rfl, B5, by decide, by decide, fun si G2 s0 s1 B6 f6 => ?_⟩
    have c27 : ("abhiz019 \n'+-<=selfwAZ_.57\t" : Str).length = 27 := by decide +kernel
    obtain ⟨ch, hch⟩ := at_some (z := "abhiz019 \n'+-<=selfwAZ_.57\t") (r := si) s0 (by omega)
    refine ⟨si, rfl, by decide +kernel, ch, hch, ?_⟩
    refine st_seq ?_
    push_cast
    refine ⟨b, l, 3, rfl, B6, by decide, by decide, fun cu G3 u0 u1 B7 f7 => ?_⟩
    push_cast
    obtain ⟨y, hy, ly⟩ : ∃ y : Str, atI [V.str (Str.ofString ""), V.str { cps := #[ch] }, V.str { cps := #[ch] }] cu = some (.str y) ∧ y.length ≤ 1 := by
      have : cu = 0 ∨ cu = 1 ∨ cu = 2 := by omega
      rcases this with rfl | rfl | rfl
      · exact ⟨_, atI0 _ _, by decide⟩
      · exact ⟨_, atI1 _ _ _, Nat.le_refl 1⟩
      · exact ⟨_, atI2 _ _ _ _, Nat.le_refl 1⟩
    obtain ⟨z, hz, z0, z1⟩ : ∃ z : Int, atI [V.int 1, V.int 0, V.int 1] cu = some (.int z) ∧ 0 ≤ z ∧ z ≤ 1 := by
      have : cu = 0 ∨ cu = 1 ∨ cu = 2 := by omega
      rcases this with rfl | rfl | rfl
      · exact ⟨1, atI0 _ _, by decide, by decide⟩
      · exact ⟨0, atI1 _ _ _, by decide, by decide⟩
      · exact ⟨1, atI2 _ _ _ _, by decide, by decide⟩
    have e1 := cut_up (z := t') a0
    have e2 := cut_lo (z := t') (a := at_ + z) (by omega)
    refine ⟨szW (by omega), (by simp only [List.length_cons, List.length_nil]; decide), fun p5 H5 A5 => ⟨_, A5.at_, _, hy, y, rfl, szW (by omega), (by simp only [List.length_cons, List.length_nil]; decide), fun p6 H6 A6 => ⟨_, A6.at_, _, hz, z, rfl, szW (by omega), szW (by rw [sl]; omega), ?_⟩⟩⟩
    exact ⟨_, _, _, _, _, rfl, by rw [sl, sl]; omega, (B7.keep A5.fr).keep A6.fr, ((((FG.trans f5).trans f6).trans f7).al A5).al A6⟩
  · rintro _ G ⟨t', v6, v7, v8, v9, rfl, lt, BG, FG⟩
    push_cast
    exact k _ _ (by omega) BG FG

/-- _law_text_of from 5 -/
def t_L_text_of_5 (K : PySem.W.Frag) : TS :=
  (tSeq (tIfS (tTest (tOp rEq (tCall sp_L_take [] E0 (tCons (tVar 0) (tCons (tC (.int 6)) tNil))) (tC (.int 1)))) (tRet (tVar 4)) tNext)
    (tRet (tCall sp_L_spoilt [] E0 (tCons (tVar 0) (tCons (tVar 4) tNil)))))

/-- _law_text_of from 4 -/
def t_L_text_of_4 (K : PySem.W.Frag) : TS :=
  tSeq (tAsg (tJoinL (tC (.str ("\n" : Str))) (tCall (sp_L_lines 26) [] E0 (tCons (tVar 3) (tCons (tC (.int 0)) tNil)))) (gName 4)) (t_L_text_of_5 K)

/-- _law_text_of from 3 -/
def t_L_text_of_3 (K : PySem.W.Frag) : TS :=
  tSeq (tIfS (tTest (tOp rEq (tVar 1) (tC (.int 2)))) (tSeq (tAsg (xTup (tCons (tC (.str (wd 13))) (tCons (xTup (tCons (xTup (tCons (tC (.str (wd 7))) (tCons (tCall (sp_L_part 6) [] E0 (tCons (tVar 0) (tCons (tC (.int 5)) tNil))) tNil))) tNil)) tNil))) (gName 3))
    (tFor (iRng1 (tCons (tOp (rI0 fun i j => .int (i + j)) (tC (.int 4)) (tCall sp_L_take [] E0 (tCons (tVar 0) (tCons (tC (.int 4)) tNil)))) tNil)) (gName 2)
    (tAsg (xTup (tCons (tC (.str (wd 13))) (tCons (xTup (tCons (xTup (tCons (tC (.str (wd 15))) (tCons (xTup (tCons (tC (.str (wd 0))) (tCons (tVar 2) tNil))) (tCons (tVar 3) tNil)))) tNil)) tNil))) (gName 3)))) tNext) (t_L_text_of_4 K)

/-- _law_text_of from 2 -/
def t_L_text_of_2 (K : PySem.W.Frag) : TS :=
  tSeq (tAsg (tCall sp_L_short [] E0 (tCons (tVar 0) tNil)) (gName 3)) (t_L_text_of_3 K)

/-- _law_text_of from 1 -/
def t_L_text_of_1 (K : PySem.W.Frag) : TS :=
  tSeq (tIfS (tTest (tOp rEq (tVar 1) (tC (.int 1)))) (tRet (tJoinL (tC (.str ("\n" : Str))) (tLc (iRng1 (tCons (tOp (rI0 fun i j => .int (i + j)) (tC (.int 58)) (tCall sp_L_take [] E0 (tCons (tVar 0) (tCons (tC (.int 5)) tNil)))) tNil)) (gName 2) tYes (tOp rAddS (tC (.str ("say " : Str))) (tCB rStrI (tCons (tVar 2) tNil))) [2]))) tNext) (t_L_text_of_2 K)

/-- _law_text_of -/
def t_L_text_of (K : PySem.W.Frag) : TS :=
  tSeq (tAsg (tCall sp_L_take [] E0 (tCons (tVar 0) (tCons (tC (.int 8)) tNil))) (gName 1)) (t_L_text_of_1 K)

/-- _law_refused -/
def t_L_refused (K : PySem.W.Frag) (c : CA) : TS := tSeq (tTryAs K (.ref c.hunch) 1 (fun W => tDrop (tCallS (sp_read_program c) (WE W) (tCons (tVar 0) tNil)))
    (fun a cls d => tIf (cls = .ref c.unread ∧ d = none) (tRet (tAndV (iE K c.unread a 1 (.ref c.unread)) (tAndV (iE K c.unread a 1 (.ty "ValueError")) (tNotV (iE K c.unread a 1 (.ref c.notop)))))))) (tRet (tC (.bl false)))

/-- say 0, say 1, .. -/
def sayP (n : Nat) : List Sm := (List.range n).map fun k => Sm.say (.num (k : Nat))
def sayL (n : Nat) : List Str := (List.range n).map fun k => "say " ++ Str.ofString (toString ((k : Nat) : Int))
theorem sayL_succ (n : Nat) : sayL (n + 1) = sayL n ++ ["say " ++ Str.ofString (toString ((n : Nat) : Int))] := by
  simp [sayL, List.range_succ]
theorem say_len {k : Nat} (h : k < 10000) : ("say " ++ Str.ofString (toString ((k : Nat) : Int)) : Str).length ≤ 8 := by
  have := num_len (n := ((k : Nat) : Int)) ⟨by omega, by omega⟩
  have e : ("say " : Str).length = 4 := rfl
  rw [sl, e]
  omega
theorem sayL_wgt : ∀ {n : Nat}, n ≤ 1000 → wgt (sayL n) ≤ 9 * n
  | 0, _ => by simp [sayL, wgt]
  | n + 1, h => by
    have h1 := sayL_wgt (n := n) (by omega)
    have h2 := say_len (k := n) (by omega)
    rw [sayL_succ, wgt_app]
    have h3 : wgt ["say " ++ Str.ofString (toString ((n : Nat) : Int))] = ("say " ++ Str.ofString (toString ((n : Nat) : Int)) : Str).length + 1 := by simp [wgt]
    omega
theorem ptext_60 {p : List Sm} (h : PrT p) (h6 : (linL 0 p).length ≤ 60) : (ptext p).length ≤ 130000 := by
  obtain ⟨h1, h2, h3, h4⟩ := h
  have h5 := sum_le (m := 2 * (0 + dpL p) + 2060) (linL_max 0 p h1)
  have e : ("\n" : Str).length = 1 := rfl
  have h6 : (2 * (0 + dpL p) + 2060) * (linL 0 p).length ≤ 2108 * 60 := Nat.mul_le_mul (by omega) h6
  have h7 := join_len "\n" (linL 0 p)
  unfold ptext
  rw [e] at h7
  omega
theorem rd_L_refused {K : PySem.W.Frag} {c : CA} {vs : List V} {H : Hp} {Q : VK} {E : XK} (hm : PySem.W.exmOne K (.ref c.unread) (.ref c.hunch) = some true) (hV : PySem.W.kitOne K (.ref c.unread) (.type "ValueError") = some true) (ho : PySem.W.kitOne K (.ref c.unread) (.ref c.notop) = some false)
    (h : sp_L_refused c vs H Q E) : t_L_refused K c { nx := fun _ H' => Q .non H', rt := Q } (start ["_", "_"] vs) H := by
  obtain ⟨t, rfl, ht, hn, hs⟩ := h
  show t_L_refused K c _ [some (.str t), none] H
  have hself : PySem.W.kitOne K (.ref c.unread) (.ref c.unread) = some true := by unfold PySem.W.kitOne; rw [if_pos (beq_self_eq_true _)]
  unfold t_L_refused; refine st_seq ?_
  simp only [tTryAs, tDrop, tCallS, tCons, tNil, tVar, tC]
  refine ⟨_, rfl, t, rfl, ht, fun hr H' f => ⟨true, hm, fun _ a ha => ⟨⟨rfl, rfl⟩, ?_⟩, fun z => by cases z⟩, fun p v H' hr tp f => hs p H' hr f⟩
  simp only [tRet, tAndV, tNotV, iE, tCB, rIsE, tCons, tNil, tVar, tC]
  refine ⟨_, rfl, _, _, true, rfl, fun u hu => hu, hself, ?_⟩
  push_cast [rIsE]
  refine ⟨_, fun u hu => hu, true, hV, ?_⟩
  rw [if_pos rfl]
  exact ⟨_, fun u hu => hu, false, ho, hn hr _ f⟩
def ToI (b l : Addr) (kind : Int) (H : Hp) (i : Nat) (σ : L2.St) (G : Hp) : Prop := ∃ (p : List Sm) (v : V) (v2 : Option V), σ = [some (.ref b), some (.int kind), v2, some v, none] ∧ Tp G (rowD p) v ∧ okL 8 p ∧ dpL p ≤ 2 + 2 * i ∧ cntL p ≤ 1 + i ∧ BoxAt G b l ∧ Fr [b, l] H G
theorem rd_L_text_of {K : PySem.W.Frag} {vs : List V} {H : Hp} {Q : VK} {E : XK} (h : sp_L_text_of vs H Q E) : t_L_text_of K { nx := fun _ H' => Q .non H', rt := Q } (start ["_", "_", "_", "_", "_"] vs) H := by
  obtain ⟨b, l, rfl, B, k⟩ := h
  show t_L_text_of K _ [some (.ref b), none, none, none, none] H
  unfold t_L_text_of; refine st_seq ?_
  push_cast
  refine ⟨b, l, 8, rfl, B, by decide, by decide, fun kind H1 k0 k1 B1 f1 => ?_⟩
  unfold t_L_text_of_1; refine st_seq ?_
  push_cast
  refine i2 (fun _ => ?_) fun _ => ?_
  · refine lcTk (b := b) (l := l) rfl B1 (by decide) (by decide) (by decide) (by decide) fun r H2 r0 r1 B2 f2 L hL => ⟨fun i Hc => Hc L = some (.lst (svs (sayL i))) ∧ Fr [] H2 Hc, ⟨upd_same, (Al.of hL).fr⟩, ?_, ?_⟩
    · rintro i Hc hi ⟨h1, fc⟩
      have ls := say_len (k := i) (by omega)
      have lw := sayL_wgt (n := i) (by omega)
      have l2 := svs_lw (sayL i)
      have ls' : ("say " : Str).length + (Str.ofString (toString ((i : Nat) : Int))).length ≤ 8 := by rw [← sl]; exact ls
      unfold LcTurn
      push_cast [wipe, rStrI, tYes]
      refine ⟨by omega, by omega, szS (by omega), _, h1, bigL (by omega), by rw [sayL_succ]; simp [svs], ?_⟩
      exact fc.muN (Mu.of h1 fun _ z => by cases z) hL
    · rintro Hc ⟨h1, fc⟩
      push_cast
      have lw := sayL_wgt (n := (58 + r).toNat) (by omega)
      exact ⟨_, h1, Nat.le_trans (Nat.le_of_eq (wgt_fit _)) (by omega), k _ _ (Nat.le_trans (join_wgt _) (by omega)) (B2.keep fc) ((f1.trans f2).trans (fc.mono (by simp)))⟩
  unfold t_L_text_of_2; refine st_seq ?_
  push_cast
  refine ⟨b, l, rfl, B1, fun p v H2 pt p60 ok hd tp B2 f2 => ?_⟩
  have F2 := f1.trans f2
  have key : ∀ (p : List Sm) (v : V) (v2 : Option V) (G : Hp), PrT p → (linL 0 p).length ≤ 60 → Tp G (rowD p) v → BoxAt G b l → Fr [b, l] H G → t_L_text_of_4 K { nx := fun _ H' => Q .non H', rt := Q } [some (.ref b), some (.int kind), v2, some v, none] G := by
    intro p v v2 G pt p60 tp BG FG
    have hfit := join_fit pt
    have h13 := ptext_60 pt p60
    obtain ⟨ok8, hd8, hc, hn⟩ := id pt
    unfold t_L_text_of_4; refine st_seq ?_
    push_cast
    refine ⟨v, 0, .row p, rfl, tp, by simp only [Un.dp]; omega, ok8, by simp only [Un.cnt]; omega, by simp only [Un.dp]; omega, fun ca G1 hc1 f1 _ => ⟨ca, rfl, _, hc1, hfit, ?_⟩⟩
    have B3 := BG.keep f1
    have F3 : Fr [b, l] H G1 := FG.trans (f1.mono (by simp))
    show t_L_text_of_5 K _ [some (.ref b), some (.int kind), v2, some v, some (.str (ptext p))] G1
    unfold t_L_text_of_5; refine st_seq ?_
    push_cast
    refine ⟨b, l, 6, rfl, B3, by decide, by decide, fun r G2 r0 r1 B4 f4 => ⟨rfl, ?_⟩⟩
    refine i2 (fun _ => k _ _ (by omega) B4 (F3.trans f4)) fun _ => ?_
    exact ⟨b, l, ptext p, rfl, B4, by omega, fun t' H' lt BH FH => k _ _ lt BH ((F3.trans f4).trans FH)⟩
  unfold t_L_text_of_3; refine st_seq ?_
  push_cast
  refine i2 (fun _ => ?_) fun _ => key p v none H2 pt p60 tp B2 F2
  refine st_seq ?_
  push_cast
  refine ⟨b, l, 5, rfl, B2, by decide, fun e ve H3 oe de te B3 f3 => ⟨(by simp only [List.length_cons, List.length_nil]; decide), fun p1 H4 A4 => ⟨(by simp only [List.length_cons, List.length_nil]; decide), fun p2 H5 A5 => ⟨(by simp only [List.length_cons, List.length_nil]; decide), fun p3 H6 A6 => ?_⟩⟩⟩⟩
  have ts : Tp H6 (Sm.say e).d (.ref p1) := .tup (A6.k (A5.k A4.at_)) (.cons (.str _) (.cons (((te.tups A4.tu).tups A5.tu).tups A6.tu) .nil))
  have B6 := ((B3.keep A4.fr).keep A5.fr).keep A6.fr
  have F6 : Fr [b, l] H H6 := (((F2.trans f3).al A4).al A5).al A6
  refine forTk (b := b) (l := l) rfl B6 (by decide) (by decide) (by decide) (by decide) fun r H7 r0 r1 B7 f7 => ⟨ToI b l kind H, ⟨[.say e], _, none, rfl, (rowD_one ts (A6.k A5.at_) A6.at_).tups f7.tu, ⟨⟨oe, by omega⟩, trivial⟩, by simp only [dpL, Sm.dp]; omega, by simp only [cntL, Sm.cnt]; omega, B7, F6.trans f7⟩, ?_, ?_⟩
  · rintro i _ G hi ⟨p, v, v2, rfl, tp, ok, hd, hc, BG, FG⟩
    show tAsg _ _ _ [some (.ref b), some (.int kind), some (.int (i : Int)), some v, none] G
    push_cast
    refine ⟨(by simp only [List.length_cons, List.length_nil]; decide), fun q1 G1 A1 => ⟨(by simp only [List.length_cons, List.length_nil]; decide), fun q2 G2 A2 => ⟨(by simp only [List.length_cons, List.length_nil]; decide), fun q3 G3 A3 => ⟨(by simp only [List.length_cons, List.length_nil]; decide), fun q4 G4 A4 => ?_⟩⟩⟩⟩
    have te1 : Tp G4 (Ex.num (i : Nat)).d (.ref q1) := .tup (A4.k (A3.k (A2.k A1.at_))) (.cons (.str _) (.cons (.int _) .nil))
    have tw : Tp G4 (Sm.whl (.num (i : Nat)) p).d (.ref q2) := by
      have z : Tp G4 (.tuple [.str (wd 15), (Ex.num (i : Nat)).d, rowD p]) (.ref q2) := .tup (A4.k (A3.k A2.at_)) (.cons (.str _) (.cons te1 (.cons ((((tp.tups A1.tu).tups A2.tu).tups A3.tu).tups A4.tu) .nil)))
      simpa only [Sm.d, rowD] using z
    refine ⟨[.whl (.num (i : Nat)) p], _, _, rfl, rowD_one tw (A4.k A3.at_) A4.at_, ⟨⟨⟨⟨by omega, by omega⟩, by simp [Ex.dep]⟩, ok⟩, trivial⟩, by simp only [dpL, Sm.dp]; omega, by simp only [cntL, Sm.cnt]; omega, (((BG.keep A1.fr).keep A2.fr).keep A3.fr).keep A4.fr, (((FG.al A1).al A2).al A3).al A4⟩
  · rintro _ G ⟨p, v, v2, rfl, tp, ok, hd, hc, BG, FG⟩
    have h1 := linL_len 0 p
    exact key p v v2 G ⟨ok, by omega, by omega, by omega⟩ (by omega) tp BG FG

/-! the texts that k15 writes itself -/
theorem spc0 (b : Str) : spc 0 ++ b = b := TL.ext_tl (by rw [TL.tl_append, tl_spc]; rfl)
theorem sayP_succ (n : Nat) : sayP (n + 1) = sayP n ++ [.say (.num (n : Nat))] := by
  simp [sayP, List.range_succ]
theorem sayP_lin : ∀ n : Nat, linL 0 (sayP n) = sayL n
  | 0 => rfl
  | n + 1 => by
    rw [sayP_succ, sayL_succ, linL_snoc, sayP_lin n]
    simp only [Sm.lin, sa, spc0]
    rfl
theorem okL_app {m : Nat} : ∀ {l r : List Sm}, okL m l → okL m r → okL m (l ++ r)
  | [], _, _, h => h
  | _ :: _, _, h, h' => ⟨h.1, okL_app h.2 h'⟩
theorem dpL_app : ∀ (l r : List Sm), dpL (l ++ r) ≤ max (dpL l) (dpL r)
  | [], r => by simp only [List.nil_append]; omega
  | a :: l, r => by
    have := dpL_app l r
    simp only [List.cons_append, dpL]
    omega
theorem cntL_app : ∀ (l r : List Sm), cntL (l ++ r) = cntL l + cntL r
  | [], r => by simp [cntL]
  | a :: l, r => by
    have := cntL_app l r
    simp only [List.cons_append, cntL, this]
    omega
theorem sayP_ok : ∀ {n : Nat}, n ≤ 1000 → okL 5 (sayP n) ∧ dpL (sayP n) ≤ 2 ∧ cntL (sayP n) = n
  | 0, _ => ⟨trivial, by decide, rfl⟩
  | n + 1, h => by
    obtain ⟨h1, h2, h3⟩ := sayP_ok (n := n) (by omega)
    have h4 := dpL_app (sayP n) [.say (.num (n : Nat))]
    have h5 := cntL_app (sayP n) [.say (.num (n : Nat))]
    rw [sayP_succ]
    refine ⟨okL_app h1 ⟨⟨⟨by omega, by omega⟩, by simp [Ex.dep]⟩, trivial⟩, ?_, ?_⟩
    · simp only [dpL, Sm.dp] at h4 ⊢
      omega
    · rw [h5, h3]
      rfl
theorem sayL_len (n : Nat) : (sayL n).length = n := by simp [sayL]
theorem say_prt {n : Nat} (h : n ≤ 200) : PrT (sayP n) := by
  obtain ⟨h1, h2, h3⟩ := sayP_ok (n := n) (by omega)
  exact ⟨okL_mono (by decide) _ h1, by omega, by omega, by rw [sayP_lin, sayL_len]; exact h⟩
theorem say_back {n : Nat} (h : n ≤ 60) : ReadR (ptext (sayP n)) (some (sayP n)) := by
  obtain ⟨h1, h2, h3⟩ := sayP_ok (n := n) (by omega)
  exact read_back h1 (by omega) (by rw [sayP_lin, sayL_len]; exact h)
theorem ptext_ne {p : List Sm} (ok : okL 5 p) (hne : p ≠ []) : ptext p ≠ "" ∧ Txt.split (ptext p) "\n" = linL 0 p := by
  cases p with
  | nil => exact absurd rfl hne
  | cons a r =>
    obtain ⟨b, l, q, e1, hb, _⟩ := Sm.fst 0 ok.1
    have e2 : linL 0 (a :: r) = b :: (q ++ linL 0 r) := by
      rw [linL, e1]
      show (spc 0 ++ b) :: (q ++ linL 0 r) = _
      rw [spc0]
    have hs := split_ptext ok (by rw [e2]; simp)
    refine ⟨fun z => ?_, hs⟩
    rw [z, split_0, e2] at hs
    exact hb.ne0 (List.cons.inj hs).1.symm
theorem say_long {n : Nat} (h : 60 < n) (h2 : n ≤ 1000) : ReadR (ptext (sayP n)) none := by
  obtain ⟨h1, _, _⟩ := sayP_ok h2
  have ne : sayP n ≠ [] := fun z => by
    have := congrArg (fun p => (linL 0 p).length) z
    simp only [sayP_lin, sayL_len] at this
    have : n = 0 := this
    omega
  obtain ⟨a, b⟩ := ptext_ne h1 ne
  exact .long a (by rw [b, sayP_lin, sayL_len]; exact h)
/-! a text of too many letters -/
theorem qs_l : TL.tl ("say '" : Str) = TL.tl ("say " : Str) ++ TL.tl ("'" : Str) := by decide +kernel
theorem say_q (w : Str) : ("say '" : Str) ++ w = "say " ++ ("'" ++ w) := TL.ext_tl (by simp only [TL.tl_append, qs_l, List.append_assoc])
theorem word_text (w : Str) : ptext [.say (.text w)] = ("say '" : Str) ++ w := by
  have e : linL 0 [.say (.text w)] = [("say '" : Str) ++ w] := by
    simp only [linL, Sm.lin, sa, spc0, Ex.txt, say_q, List.append_nil]
  unfold ptext
  rw [e]
  rfl
theorem word_back {w : Str} (h : Txt12 w) : ReadR ("say '" ++ w) (some [.say (.text w)]) := by
  rw [← word_text]
  refine read_back ⟨⟨h, by simp [Ex.dep]⟩, trivial⟩ (by simp [dpL, Sm.dp]) ?_
  have := linL_len 0 [.say (.text w)]
  simp only [cntL, Sm.cnt] at this
  omega
theorem word_long {w : Str} (hl : 12 < w.length) (hw : ∀ c ∈ TL.tl w, 97 ≤ c ∧ c < 123) : ReadR ("say '" ++ w) none := by
  have big : ∀ c ∈ TL.tl ("'" ++ w : Str), 33 ≤ c := by
    intro c hc
    have e1 : TL.tl ("'" : Str) = [39] := by decide +kernel
    rw [TL.tl_append, e1] at hc
    rcases List.mem_cons.mp hc with rfl | hc
    · decide
    · have := hw c hc
      omega
  have bd : Bd ("say '" ++ w) [wd 7, "'" ++ w] := by
    refine ⟨by simp, ?_, fun x hx c hc => ?_, fun x hx => by cases hx; exact wd_nz (by decide)⟩
    · rw [say_q, TL.tl_append, kw_say]
      show _ = TL.tl (wd 7) ++ ([32] ++ TL.tl ("'" ++ w))
      simp only [List.append_assoc]
    · simp only [List.mem_cons, List.mem_singleton, List.not_mem_nil, or_false] at hx
      rcases hx with rfl | rfl
      · exact wd_big ⟨7, by decide⟩ c hc
      · exact big c hc
  have hs : Txt.split ("say '" ++ w) "\n" = ["say '" ++ w] := by
    have := TL.split_join (y := "\n") (s := 10) (S := []) nl_l (by decide +kernel) (parts := ["say '" ++ w]) (by simp) fun z hz hc => by
      obtain rfl := List.mem_singleton.mp hz
      have := bd.big32 10 hc
      omega
    exact this
  have hat : (["say '" ++ w] : List Str)[0]? = some (spc 0 ++ ("say '" ++ w)) := by rw [spc0]; rfl
  have hh := here_of (d := 0) bd hat
  rw [if_pos rfl] at hh
  have ne29 : ("say '" ++ w : Str) ≠ wd 29 := fun z => by
    have h := bd.split
    rw [z, bd_else.split] at h
    have := (List.cons.inj h).1
    rw [wd_eq (by decide) (by decide)] at this
    omega
  have hleaf : leaf ("'" ++ w) = none := by
    have e : ("'" ++ w : Str).cps.toList = 39 :: w.cps.toList := by
      have e1 : ("'" : Str).cps.toList = [39] := by decide +kernel
      have h2 := TL.tl_append "'" w
      simp only [TL.tl] at h2
      rw [h2, e1]
      rfl
    have t : tl1 ("'" ++ w) = w := by
      unfold tl1
      rw [e]
      exact TL.mk_tl w
    have hx : ¬ isTx w = true := by
      unfold isTx
      rw [decide_eq_false (by omega)]
      simp
    unfold leaf
    rw [if_pos (by rw [e]; rfl), t, if_neg hx]
  have hsg : sgOf ("'" ++ w) = none := by
    refine sgOf_no fun c hc => ?_
    have e : ("'" ++ w : Str).cps.toList = ("'" : Str).cps.toList ++ w.cps.toList := TL.tl_append "'" w
    have e1 : ("'" : Str).cps.toList = [39] := by decide +kernel
    rw [e, e1] at hc
    cases hc
    decide
  have hl : lineAt ["say '" ++ w] 0 0 = none := by
    unfold lineAt
    rw [hh, bd.split]
    simp only [lineP, wd_eq, Nat.reduceEqDiff, Nat.reduceLT, if_true, if_false, pp, hsg, hleaf, Option.map_none, whole]
  refine .bad bd.ne0 (by rw [hs]; simp) ?_
  rw [hs]
  refine .loop (by decide) (.fail ?_ (.bad hl))
  unfold stopH
  rw [hh]
  exact fun z => z.elim bd.ne0 ne29
theorem cut_mem {z : Str} {lo hi : Option Int} {c : Nat} (h : c ∈ TL.tl (cutS z lo hi)) : c ∈ TL.tl z := List.mem_of_mem_drop (List.mem_of_mem_take (by simpa [cutS, TL.tl] using h))
theorem word_letters : ∀ c ∈ TL.tl ("abhizabhizabhiz" : Str), 97 ≤ c ∧ c < 123 := by decide +kernel
theorem word_15 : ("abhizabhizabhiz" : Str).length = 15 := by decide +kernel

/-- law from 11 -/
def t_law_11 (K : PySem.W.Frag) (c : CA) : TS :=
  (tSeq (tAsg (xSplit (tVar 3) (tC (.str ("\n" : Str)))) (gName 8))
    (tRet (tAndV (tCall (sp_L_good 13) [] E0 (tCons (tVar 7) (tCons (tC (.int 0)) tNil))) (tAndV (tOp (rI0 fun i j => .bl (decide (i < j))) (tCB rLenL (tCons (tVar 8) tNil)) (tC (.int 61))) (tOp rEq (tJoinL (tC (.str ("\n" : Str))) (tCall (sp_L_lines 26) [] E0 (tCons (tVar 7) (tCons (tC (.int 0)) tNil)))) (tVar 3))))))

/-- law from 10 -/
def t_law_10 (K : PySem.W.Frag) (c : CA) : TS :=
  tSeq (tTryOnly K (.ref c.unread) (fun W => tAsg (tCallS (sp_read_program c) (WE W) (tCons (tVar 3) tNil)) (gName 7)) (fun a cls d => tRet (tCall (sp_L_refused c) [] E0 (tCons (tVar 3) tNil)))) (t_law_11 K c)

/-- law from 9 -/
def t_law_9 (K : PySem.W.Frag) (c : CA) : TS :=
  tSeq (tAsg (tC .non) (gName 7)) (t_law_10 K c)

/-- law from 8 -/
def t_law_8 (K : PySem.W.Frag) (c : CA) : TS :=
  tSeq (tAsg (tCall sp_L_text_of [] E0 (tCons (tVar 1) tNil)) (gName 3)) (t_law_9 K c)

/-- law from 7 -/
def t_law_7 (K : PySem.W.Frag) (c : CA) : TS :=
  tSeq (tIfS (tTest (tOp rNe (tCall (sp_L_refused c) [] E0 (tCons (tOp rAddS (tC (.str ("say '" : Str))) (tVar 6)) tNil)) (tOp (rI0 fun i j => .bl (decide (j < i))) (tCB rLenS (tCons (tVar 6) tNil)) (tC (.int 12))))) (tRet (tC (.bl false))) tNext) (t_law_8 K c)

/-- law from 6 -/
def t_law_6 (K : PySem.W.Frag) (c : CA) : TS :=
  tSeq (tAsg (tSl rSlS (tC (.str ("abhizabhizabhiz" : Str))) tNoPart (tPart (tOp (rI0 fun i j => .int (i + j)) (tC (.int 11)) (tCall sp_L_take [] E0 (tCons (tVar 1) (tCons (tC (.int 4)) tNil)))))) (gName 6)) (t_law_7 K c)

/-- law from 5 -/
def t_law_5 (K : PySem.W.Frag) (c : CA) : TS :=
  tSeq (tIfS (tAnd (tTest (tOp (rI0 fun i j => .bl (decide (i < j))) (tVar 2) (tC (.int 61)))) (tNot (tB (tCall (sp_L_alike 40) [] E0 (tCons (tCall (sp_read_program c) [] E0 (tCons (tVar 3) tNil)) (tCons (tVar 5) tNil)))))) (tRet (tC (.bl false))) tNext) (t_law_6 K c)

/-- law from 4 -/
def t_law_4 (K : PySem.W.Frag) (c : CA) : TS :=
  tSeq (tAsg (xTup (tCons (tC (.str (wd 13))) (tCons (tCB rTupL (tCons (tLc (iRng1 (tCons (tVar 2) tNil)) (gName 4) tYes (xTup (tCons (tC (.str (wd 7))) (tCons (xTup (tCons (tC (.str (wd 0))) (tCons (tVar 4) tNil))) tNil))) [4]) tNil)) tNil))) (gName 5)) (t_law_5 K c)

/-- law from 3 -/
def t_law_3 (K : PySem.W.Frag) (c : CA) : TS :=
  tSeq (tIfS (tAnd (tTest (tOp (rI0 fun i j => .bl (decide (j < i))) (tVar 2) (tC (.int 60)))) (tNot (tB (tCall (sp_L_refused c) [] E0 (tCons (tVar 3) tNil))))) (tRet (tC (.bl false))) tNext) (t_law_4 K c)

/-- law from 2 -/
def t_law_2 (K : PySem.W.Frag) (c : CA) : TS :=
  tSeq (tAsg (tJoinL (tC (.str ("\n" : Str))) (tLc (iRng1 (tCons (tVar 2) tNil)) (gName 4) tYes (tOp rAddS (tC (.str ("say " : Str))) (tCB rStrI (tCons (tVar 4) tNil))) [4])) (gName 3)) (t_law_3 K c)

/-- law from 1 -/
def t_law_1 (K : PySem.W.Frag) (c : CA) : TS :=
  tSeq (tAsg (tOp (rI0 fun i j => .int (i + j)) (tC (.int 58)) (tCall sp_L_take [] E0 (tCons (tVar 1) (tCons (tC (.int 6)) tNil)))) (gName 2)) (t_law_2 K c)

/-- law -/
def t_law (K : PySem.W.Frag) (c : CA) : TS :=
  tSeq (tAsg (tCall (sp_L_script K) [] E0 (tCons (tVar 0) tNil)) (gName 1)) (t_law_1 K c)

theorem readR_good {t : Str} {p : List Sm} (h : ReadR t (some p)) : okL 5 p ∧ dpL p ≤ 12 ∧ PrT p ∧ ptext p = t ∧ (Txt.split t "\n").length ≤ 60 := by
  cases h with
  | empty => exact ⟨trivial, by decide, ⟨trivial, by decide, by decide, by decide⟩, rfl, by rw [split_0]; decide⟩
  | good h0 h60 hb he =>
    rename_i j
    obtain ⟨_, g1, g2, g3, g4, g5⟩ : GB 0 0 (some (p, j)) := BlkR.good hb
    have jl := BlkR.in hb (Nat.zero_le _)
    exact ⟨g1, by omega, ⟨okL_mono (by decide) p g1, by omega, by omega, by have := g5 0; omega⟩, he, h60⟩
theorem rd_law {K : PySem.W.Frag} {c : CA} {vs : List V} {H : Hp} {Q : VK} {E : XK} (hU : PySem.W.exmOne K (.ref c.unread) (.ref c.unread) = some true) (h : sp_law K vs H Q E) :
    t_law K c { nx := fun _ H' => Q .non H', rt := Q } (start ["_", "_", "_", "_", "_", "_", "_", "_", "_"] vs) H := by
  obtain ⟨a, ns, rfl, hS, hl, q⟩ := h
  show t_law K c _ [some (.ref a), none, none, none, none, none, none, none, none] H
  unfold t_law; refine st_seq ?_
  push_cast
  refine ⟨a, ns, rfl, hS, hl, fun b l H1 B1 _ => ?_⟩
  unfold t_law_1; refine st_seq ?_
  push_cast
  refine ⟨b, l, 6, rfl, B1, by decide, by decide, fun r H2 r0 r1 B2 f2 => ⟨r, rfl, ?_⟩⟩
  obtain ⟨m, hm⟩ : ∃ m : Nat, 58 + r = (m : Int) := ⟨(58 + r).toNat, by omega⟩
  rw [hm]
  have m0 : 58 ≤ m := by omega
  have m1 : m ≤ 63 := by omega
  have pt := say_prt (n := m) (by omega)
  have tlen := ptext_len pt
  have et : Txt.join "\n" (sayL m) = ptext (sayP m) := by unfold ptext; rw [sayP_lin]
  -- the end
  have key11 : ∀ (v2 v5 v6 : V) (v4 : Option V) (t : Str) (p : List Sm) (v : V) (G : Hp), t.length ≤ 900000 → ReadR t (some p) → Tp G (rowD p) v → t_law_11 K c { nx := fun _ H' => Q .non H', rt := Q } [some (.ref a), some (.ref b), some v2, some (.str t), v4, some v5, some v6, some v, none] G := by
    intro v2 v5 v6 v4 t p v G tl hr tp
    unfold t_law_11; refine st_seq ?_
    push_cast [xSplit]
    obtain ⟨ok, hd, pt, et, l60⟩ := readR_good hr
    have hfit := join_fit pt
    obtain ⟨ok8, hd8, hc8, hn8⟩ := id pt
    refine ⟨rfl, Nat.le_trans (Nat.add_le_add_right tl 2) (by decide), fun P G1 A1 => ⟨v, p, 0, rfl, tp.tups A1.tu, ok, by omega, by omega, fun G2 f2 => ⟨true, rfl, ?_⟩⟩⟩
    rw [if_pos rfl]
    refine ⟨_, f2.keep _ _ A1.at_ (by simp), iteT' (by rw [List.length_map]; omega) ?_⟩
    refine ⟨v, 0, .row p, rfl, (tp.tups A1.tu).tups f2.tu, by simp only [Un.dp]; omega, ok8, by simp only [Un.cnt]; omega, by simp only [Un.dp]; omega, fun ca G3 hc f3 _ => ⟨ca, rfl, _, hc, hfit, ?_⟩⟩
    have e : Txt.join (Str.ofString "\n") (Un.lin 0 (.row p)) = t := et
    rw [decide_eq_true e]
    exact q _
  have key8 : ∀ (v2 v5 v6 : V) (v3 v4 : Option V) (G : Hp), BoxAt G b l → t_law_8 K c { nx := fun _ H' => Q .non H', rt := Q } [some (.ref a), some (.ref b), some v2, v3, v4, some v5, some v6, none, none] G := by
    intro v2 v5 v6 v3 v4 G BG
    unfold t_law_8; refine st_seq ?_
    push_cast
    refine ⟨b, l, rfl, BG, fun t G1 tl B4 f4 => ?_⟩
    unfold t_law_9; refine st_seq ?_
    push_cast
    unfold t_law_10; refine st_seq ?_
    simp only [tTryOnly, tAsg, gName, tCallS, tCons, tNil, tVar, tC]
    refine ⟨_, rfl, t, rfl, tl, fun hr G2 f => ⟨true, hU, fun _ a' ha => ?_, fun z => by cases z⟩, fun p v G2 hr tp f => key11 v2 v5 v6 v4 t p v G2 tl hr tp⟩
    push_cast
    refine ⟨t, rfl, tl, fun _ H' _ => q _, fun p H' hr2 _ => ?_⟩
    have := ReadR.uni hr hr2
    cases this
  have key6 : ∀ (v2 v5 : V) (v3 v4 : Option V) (G : Hp), BoxAt G b l → t_law_6 K c { nx := fun _ H' => Q .non H', rt := Q } [some (.ref a), some (.ref b), some v2, v3, v4, some v5, none, none, none] G := by
    intro v2 v5 v3 v4 G BG
    unfold t_law_6; refine st_seq ?_
    push_cast
    refine ⟨b, l, 4, rfl, BG, by decide, by decide, fun r G1 r0 r1 B4 f4 => ⟨r, rfl, by decide +kernel, ?_⟩⟩
    have lw : (cutS "abhizabhizabhiz" none (some (11 + r))).length = (11 + r).toNat := by rw [cut_up (by omega), word_15]; omega
    have lt : ∀ c ∈ TL.tl (cutS "abhizabhizabhiz" none (some (11 + r))), 97 ≤ c ∧ c < 123 := fun c hc => word_letters c (cut_mem hc)
    generalize cutS "abhizabhizabhiz" none (some (11 + r)) = w at lw lt ⊢
    have l5 : (Str.ofString "say '").length = 5 := by decide +kernel
    have cl : w.cps.toList.length = w.length := by simp [Str.length]
    unfold t_law_7; refine st_seq ?_
    push_cast
    refine ⟨szS (by omega), _, rfl, by rw [sl]; omega, fun hr H' f => ⟨szS (by omega), rfl, ?_⟩, fun p H' hr f => ⟨szS (by omega), rfl, ?_⟩⟩
    · by_cases h12 : 12 < w.length
      · exact iteF' (fun z => z (by rw [decide_eq_true (by omega)])) (key8 _ _ _ _ _ _ (B4.keep f))
      · have := ReadR.uni hr (word_back (w := w) ⟨by omega, lt⟩)
        cases this
    · by_cases h12 : 12 < w.length
      · have := ReadR.uni hr (word_long h12 lt)
        cases this
      · exact iteF' (fun z => z (by rw [decide_eq_false (by omega)])) (key8 _ _ _ _ _ _ (B4.keep f))
  have key4 : ∀ (v4 : Option V) (G : Hp), BoxAt G b l → t_law_4 K c { nx := fun _ H' => Q .non H', rt := Q } [some (.ref a), some (.ref b), some (.int (m : Nat)), some (.str (ptext (sayP m))), v4, none, none, none, none] G := by
    intro v4 G BG
    unfold t_law_4; refine st_seq ?_
    push_cast
    refine lcR (n := ((m : Nat) : Int)) (fun R h => by push_cast; exact h) (by omega) (by omega) fun L hL => ⟨fun i Hc => ∃ xs, Hc L = some (.lst xs) ∧ TpL Hc ((sayP i).map Sm.d) xs ∧ Fr [] G Hc, ⟨[], upd_same, .nil, (Al.of hL).fr⟩, ?_, ?_⟩
    · rintro i Hc hi ⟨xs, h1, tx, fc⟩
      have xl : xs.length = i := by rw [tx.length]; simp [sayP]
      unfold LcTurn
      push_cast [wipe, tYes]
      refine ⟨(by simp only [List.length_cons, List.length_nil]; decide), fun p1 G1 A1 => ⟨(by simp only [List.length_cons, List.length_nil]; decide), fun p2 G2 A2 => ⟨_, A2.k (A1.k h1), bigL (by omega), ?_, ?_⟩⟩⟩
      · rw [sayP_succ, List.map_append]
        have M := Mu.of (o := HO.lst (xs ++ [V.ref p2])) (A2.k (A1.k h1)) fun _ z => by cases z
        refine TpL.append (((tx.tups A1.tu).tups A2.tu).tups M.tu) (.single ?_)
        have z : Tp G2 (Sm.say (.num (i : Nat))).d (.ref p2) := .tup A2.at_ (.cons (.str _) (.cons (.tup (A2.k A1.at_) (.cons (.str _) (.cons (.int _) .nil))) .nil))
        exact z.tups M.tu
      · exact ((fc.al A1).al A2).muN (Mu.of (A2.k (A1.k h1)) fun _ z => by cases z) hL
    · rintro Hc ⟨xs, h1, tx, fc⟩
      have tx' : TpL Hc ((sayP m).map Sm.d) xs := by simpa using tx
      refine ⟨L, rfl, xs, h1, fun la G1 A1 => ⟨(by simp only [List.length_cons, List.length_nil]; decide), fun lb G2 A2 => ?_⟩⟩
      have td : Tp G2 (rowD (sayP m)) (.ref lb) := by
        unfold rowD
        rw [dL_map]
        exact .tup A2.at_ (.cons (.str _) (.cons (.tup (A2.k A1.at_) ((tx'.tups A1.tu).tups A2.tu)) .nil))
      have B5 := ((BG.keep fc).keep A1.fr).keep A2.fr
      unfold t_law_5; refine st_seq ?_
      push_cast
      refine i2 (fun h61 => ?_) fun _ => key6 _ _ _ _ _ B5
      have rb := say_back (n := m) (by omega)
      obtain ⟨o1, o2, o3⟩ := sayP_ok (n := m) (by omega)
      refine ⟨ptext (sayP m), rfl, by omega, fun h => ?_, fun p v G3 hr tp f => ?_⟩
      · have := ReadR.uni h rb
        cases this
      · have e := ReadR.uni hr rb
        cases e
        refine ⟨v, .ref lb, rowD (sayP m), rfl, tp.rp, (td.tups f.tu).rp, rowD_depth (okL_mono (by decide) _ o1) (by omega), true, rfl, ?_⟩
        exact key6 _ _ _ _ _ (B5.keep f)
  unfold t_law_2; refine st_seq ?_
  push_cast
  refine lcR (n := ((m : Nat) : Int)) (fun R h => by push_cast; exact h) (by omega) (by omega) fun L hL => ⟨fun i Hc => Hc L = some (.lst (svs (sayL i))) ∧ Fr [] H2 Hc, ⟨upd_same, (Al.of hL).fr⟩, ?_, ?_⟩
  · rintro i Hc hi ⟨h1, fc⟩
    have ls := say_len (k := i) (by omega)
    have lw := sayL_wgt (n := i) (by omega)
    have l2 := svs_lw (sayL i)
    have ls' : ("say " : Str).length + (Str.ofString (toString ((i : Nat) : Int))).length ≤ 8 := by rw [← sl]; exact ls
    unfold LcTurn
    push_cast [wipe, rStrI, tYes]
    refine ⟨by omega, by omega, szS (by omega), _, h1, bigL (by omega), by rw [sayL_succ]; simp [svs], ?_⟩
    exact fc.muN (Mu.of h1 fun _ z => by cases z) hL
  · rintro Hc ⟨h1, fc⟩
    have lw := sayL_wgt (n := m) (by omega)
    have h1' : Hc L = some (.lst (svs (sayL m))) := by simpa using h1
    push_cast
    refine ⟨_, h1', Nat.le_trans (Nat.le_of_eq (wgt_fit _)) (by omega), ?_⟩
    have B3 := B2.keep fc
    show t_law_3 K c _ [some (.ref a), some (.ref b), some (.int (m : Nat)), some (.str (Txt.join "\n" (sayL m))), none, none, none, none, none] Hc
    rw [et]
    unfold t_law_3; refine st_seq ?_
    push_cast
    refine i2 (fun h60 => ?_) fun _ => key4 _ _ B3
    refine ⟨ptext (sayP m), rfl, by omega, fun _ H' f => ⟨true, rfl, ?_⟩, fun p H' hr f => ?_⟩
    · rw [if_neg (by simp)]
      exact key4 _ _ (B3.keep f)
    · have := ReadR.uni hr (say_long (n := m) (by omega) (by omega))
      cases this

/-! ### what the defs lean on -/
structure Top (w : World) (K : PySem.W.Frag) (mg : Str → Option Value) (c : CA) : Prop where
  d_L_script : DefAt K mg "_law_script" s_L_script
  d_L_take : DefAt K mg "_law_take" s_L_take
  d_Reader___init__ : InitAt K c.reader "Reader.__init__" s_Reader___init__
  d_Reader_here : MethAt K c.reader "here" "Reader.here" s_Reader_here
  d_Words___init__ : InitAt K c.words "Words.__init__" s_Words___init__
  d_Words_take : MethAt K c.words "take" "Words.take" s_Words_take
  d_Words_need_name : MethAt K c.words "need_name" "Words.need_name" s_Words_need_name
  d_text_of : DefAt K mg "text_of" s_text_of
  d_number_of : DefAt K mg "number_of" s_number_of
  d_Words_part : MethAt K c.words "part" "Words.part" s_Words_part
  d_Words_ended : MethAt K c.words "ended" "Words.ended" s_Words_ended
  d_Reader_block : MethAt K c.reader "block" "Reader.block" s_Reader_block
  d_Reader_statement : MethAt K c.reader "statement" "Reader.statement" s_Reader_statement
  d_part_text : DefAt K mg "part_text" s_part_text
  d_lines_of : DefAt K mg "lines_of" s_lines_of
  d_program_text : DefAt K mg "program_text" s_program_text
  d_read_program : DefAt K mg "read_program" s_read_program
  d_L_refused : DefAt K mg "_law_refused" s_L_refused
  d_L_alike : DefAt K mg "_law_alike" s_L_alike
  d_L_name : DefAt K mg "_law_name" s_L_name
  d_L_text : DefAt K mg "_law_text" s_L_text
  d_L_part : DefAt K mg "_law_part" s_L_part
  d_L_row : DefAt K mg "_law_row" s_L_row
  d_L_statement : DefAt K mg "_law_statement" s_L_statement
  d_L_counted : DefAt K mg "_law_counted" s_L_counted
  d_L_program : DefAt K mg "_law_program" s_L_program
  d_L_part_text : DefAt K mg "_law_part_text" s_L_part_text
  d_L_lines : DefAt K mg "_law_lines" s_L_lines
  d_L_short : DefAt K mg "_law_short" s_L_short
  d_L_spoilt : DefAt K mg "_law_spoilt" s_L_spoilt
  d_L_text_of : DefAt K mg "_law_text_of" s_L_text_of
  d_L_good_part : DefAt K mg "_law_good_part" s_L_good_part
  d_L_good : DefAt K mg "_law_good" s_L_good
  d_L_good_statement : DefAt K mg "_law_good_statement" s_L_good_statement
  d_law : DefAt K mg "law" s_law
  cl_Words : Cls K c.words
  mg_Words : mg "Words" = some (.ref c.words)
  na_Words_words : NoAttr K c.words "words"
  na_Words_at : NoAttr K c.words "at"
  cl_Reader : Cls K c.reader
  mg_Reader : mg "Reader" = some (.ref c.reader)
  na_Reader_lines : NoAttr K c.reader "lines"
  na_Reader_at : NoAttr K c.reader "at"
  g_len : mg "len" = none
  g_range : mg "range" = none
  g_isinstance : mg "isinstance" = none
  g_int : mg "int" = none
  g_str : mg "str" = none
  g_list : mg "list" = none
  g_tuple : mg "tuple" = none
  g_dict : mg "dict" = none
  g_sum : mg "sum" = none
  g_enumerate : mg "enumerate" = none
  g_sorted : mg "sorted" = none
  g_bool : mg "bool" = none
  g_reversed : mg "reversed" = none
  c_NAMES : ∃ t, mg "NAMES" = some (.str ("abcdefgh" : Str) t)
  c_LETTERS : ∃ t, mg "LETTERS" = some (.str ("abcdefghijklmnopqrstuvwxyz" : Str) t)
  c_FIGURES : ∃ t, mg "FIGURES" = some (.str ("0123456789" : Str) t)
  c_MOST_LINES : ∃ t, mg "MOST_LINES" = some (.int 60 t)
  c_MOST_DEEP : ∃ t, mg "MOST_DEEP" = some (.int 5 t)
  c_MOST_SIGNS : ∃ t, mg "MOST_SIGNS" = some (.int 12 t)
  x_Unread : ExD K mg "Unread" c.unread
  m_Unread : PySem.W.exmOne K (.ref c.unread) (.ref c.hunch) = some true
  mg_HunchError : mg "HunchError" = some (.ref c.hunch)
  mg_Unread : mg "Unread" = some (.ref c.unread)
  mg_NoTop : mg "NoTop" = some (.ref c.notop)
  g_ValueError : mg "ValueError" = none
  ec : ExcC K c.unread
  k_V : PySem.W.kitOne K (.ref c.unread) (.type "ValueError") = some true
  k_o : PySem.W.kitOne K (.ref c.unread) (.ref c.notop) = some false
  k_h : PySem.W.kitOne K (.ref c.unread) (.ref c.hunch) = some true
  m_UU : PySem.W.exmOne K (.ref c.unread) (.ref c.unread) = some true
  sg : SgD w K mg
  sg2 : SgD2 w K mg
section
variable {P : Program} {w : World} {K : PySem.W.Frag} {mg : Str → Option Value} {base : Heap} {c : CA}
abbrev nm_L_script : List Str := ["_law_script_here", "_law_stirred", "_law_at", "_law_cell"]
theorem sc_L_script : FnScope nm_L_script ["_law_script_here"] (defScope s_L_script) := ⟨rfl, rfl, rfl, by decide +kernel, rfl, by decide +kernel, by decide +kernel⟩
theorem ok_L_script (T : Top w K mg c) : OkF P w K mg base (1) "_law_script" ["_law_script_here"] (sp_L_script K) := by
  refine DefAt.ok (k := 0) T.d_L_script sc_L_script (fun _ _ _ _ _ _ us hl => match us, hl with | [_], _ => rfl) len_L_script (fun f cdv A outer s H vs Q E hr h => ⟨t_L_script K, ?_, fun z => rd_L_script h⟩)
  have hu := hu_of hr
  exact (pss_cons (ps_set (i := 1) sc_L_script.nd rfl (Or.inl rfl) (pe_op op_mod (pe_callB (cr_sum (by rfl)) (by rfl) T.g_sum (by decide +kernel) (pa_cons (pe_lc (own := [("_law_at", 2), ("_law_cell", 3)]) rfl sc_L_script.nd (pi_enum (by rfl) T.g_enumerate (pa_cons (pv 0) pa_nil)) (blkOk_by (own := [("_law_at", 2), ("_law_cell", 3)]) (N := nm_L_script) (sc := defScope s_L_script) (by decide +kernel)) (fun _ _ _ _ _ => (pg_tup rfl (pgs_cons (pg_name (i := 2) sc_L_script.nd rfl (Or.inl rfl)) (pgs_cons (pg_name (i := 3) sc_L_script.nd rfl (Or.inl rfl)) pgs_nil)))) (fun _ _ _ _ _ => pts_nil) (fun _ _ _ _ _ => (pe_op op_mul (pe_op op_add (pv 2) pe_int) (pe_op op_mod (pv 3) pe_int)))) pa_nil)) pe_int))
    (pss_one (ps_ret (pe_lstX (pa_cons (pe_callTy cl_lstK (by rfl) T.g_list (by decide +kernel) (pa_cons (pv 0) pa_nil)) (pa_cons (pe_op op_mul (pv 1) (pe_callTy cl_int1 (by rfl) T.g_int (by decide +kernel) (pa_cons (pe_cmpR op_gt (pe_callB call_len_seq (by rfl) T.g_len (by decide +kernel) (pa_cons (pv 0) pa_nil)) pe_int (nomark _)) pa_nil))) pa_nil))))))

abbrev nm_L_take : List Str := ["_law_box", "_law_many", "_law_number"]
theorem sc_L_take : FnScope nm_L_take ["_law_box", "_law_many"] (defScope s_L_take) := ⟨rfl, rfl, rfl, by decide +kernel, rfl, by decide +kernel, by decide +kernel⟩
theorem ok_L_take (T : Top w K mg c) : OkF P w K mg base (1) "_law_take" ["_law_box", "_law_many"] sp_L_take := by
  refine DefAt.ok (k := 0) T.d_L_take sc_L_take (fun _ _ _ _ _ _ us hl => match us, hl with | [_, _], _ => rfl) len_L_take (fun f cdv A outer s H vs Q E hr h => ⟨t_L_take K, ?_, fun z => rd_L_take h⟩)
  have hu := hu_of hr
  exact (pss_cons (ps_if (pt_cmpR (op_eqE hr.units) (pe_ix ix_l (pv 0) pe_int (fun _ _ => rfl)) (pe_lstX pa_nil) (nomark _)) (pss_cons (ps_asg (pe_op op_mod (pe_op op_mul (pe_ix ix_l (pv 0) pe_int (fun _ _ => rfl)) pe_int) pe_int) (pg_sub (pv 0) pe_int set_l))
    (pss_one (ps_ret (pe_op op_mod (pe_op op_fdiv (pe_ix ix_l (pv 0) pe_int (fun _ _ => rfl)) pe_int) (pv 1))))) pss_nil)
    (pss_cons (ps_set (i := 2) sc_L_take.nd rfl (Or.inl rfl) (pe_ix ix_l (pe_ix ix_l (pv 0) pe_int (fun _ _ => rfl)) pe_int (fun _ _ => rfl)))
    (pss_cons (ps_asg (pe_op op_fdiv (pv 2) (pv 1)) (pg_sub (pe_ix ix_l (pv 0) pe_int (fun _ _ => rfl)) pe_int set_l))
    (pss_cons (ps_if (pt_cmpR op_inT (pe_ix ix_l (pe_ix ix_l (pv 0) pe_int (fun _ _ => rfl)) pe_int (fun _ _ => rfl)) (pe_tupX (pa_cons pe_int (pa_cons (pe_un un_neg pe_int) pa_nil))) (by rfl)) (pss_one (ps_expr (pe_popAt (pe_ix ix_l (pv 0) pe_int (fun _ _ => rfl)) pe_int))) pss_nil)
    (pss_one (ps_ret (pe_op op_mod (pv 2) (pv 1))))))))

abbrev nm_Reader___init__ : List Str := ["self", "lines"]
theorem sc_Reader___init__ : FnScope nm_Reader___init__ ["self", "lines"] (defScope s_Reader___init__) := ⟨rfl, rfl, rfl, by decide +kernel, rfl, by decide +kernel, by decide +kernel⟩
theorem ok_Reader___init__ (T : Top w K mg c) : OkI P w K mg base (1) c.reader ["self", "lines"] (sp_Reader___init__ c) := by
  refine InitAt.ok (k := 0) T.d_Reader___init__ sc_Reader___init__ (fun _ _ _ _ _ _ us hl => match us, hl with | [_, _], _ => rfl) len_Reader___init__ (fun f cdv A outer s H vs Q E hr h => ⟨t_Reader___init__ K c, ?_, fun z => rd_Reader___init__ h⟩)
  have hu := hu_of hr
  exact (pss_cons (ps_fldC T.cl_Reader T.na_Reader_lines (pv 0) (pv 1))
    (pss_one (ps_fldC T.cl_Reader T.na_Reader_at (pv 0) pe_int)))

abbrev nm_Reader_here : List Str := ["self", "deep", "line", "rest"]
theorem sc_Reader_here : FnScope nm_Reader_here ["self", "deep"] (defScope s_Reader_here) := ⟨rfl, rfl, rfl, by decide +kernel, rfl, by decide +kernel, by decide +kernel⟩
theorem ok_Reader_here (T : Top w K mg c) : OkM P w K mg base (1) c.reader "here" ["self", "deep"] (sp_Reader_here c) := by
  refine MethAt.ok (k := 0) T.d_Reader_here sc_Reader_here (fun _ _ _ _ _ _ us hl => match us, hl with | [_, _], _ => rfl) len_Reader_here (fun f cdv A outer s H vs Q E hr h => ⟨t_Reader_here K c, ?_, fun z => rd_Reader_here h⟩)
  have hu := hu_of hr
  exact (pss_cons (ps_if (pt_cmpR op_ge (pe_fldC T.cl_Reader T.na_Reader_at (pv 0)) (pe_callB cl_lenL (by rfl) T.g_len (by decide +kernel) (pa_cons (pe_fldC T.cl_Reader T.na_Reader_lines (pv 0)) pa_nil)) (nomark _)) (pss_one (ps_ret pe_str)) pss_nil)
    (pss_cons (ps_set (i := 2) sc_Reader_here.nd rfl (Or.inl rfl) (pe_ix ix_l (pe_fldC T.cl_Reader T.na_Reader_lines (pv 0)) (pe_fldC T.cl_Reader T.na_Reader_at (pv 0)) (fun _ _ => rfl)))
    (pss_cons (ps_set (i := 3) sc_Reader_here.nd rfl (Or.inl rfl) (pe_lstrip (pv 2) pe_str))
    (pss_cons (ps_if (pt_cmpR op_ne (pe_op op_sub (pe_callB cl_lenS (by rfl) T.g_len (by decide +kernel) (pa_cons (pv 2) pa_nil)) (pe_callB cl_lenS (by rfl) T.g_len (by decide +kernel) (pa_cons (pv 3) pa_nil))) (pe_op op_mul pe_int (pv 1)) (nomark _)) (pss_one (ps_ret pe_str)) pss_nil)
    (pss_one (ps_ret (pv 3)))))))

abbrev nm_Words___init__ : List Str := ["self", "words"]
theorem sc_Words___init__ : FnScope nm_Words___init__ ["self", "words"] (defScope s_Words___init__) := ⟨rfl, rfl, rfl, by decide +kernel, rfl, by decide +kernel, by decide +kernel⟩
theorem ok_Words___init__ (T : Top w K mg c) : OkI P w K mg base (1) c.words ["self", "words"] (sp_Words___init__ c) := by
  refine InitAt.ok (k := 0) T.d_Words___init__ sc_Words___init__ (fun _ _ _ _ _ _ us hl => match us, hl with | [_, _], _ => rfl) len_Words___init__ (fun f cdv A outer s H vs Q E hr h => ⟨t_Words___init__ K c, ?_, fun z => rd_Words___init__ h⟩)
  have hu := hu_of hr
  exact (pss_cons (ps_fldC T.cl_Words T.na_Words_words (pv 0) (pv 1))
    (pss_one (ps_fldC T.cl_Words T.na_Words_at (pv 0) pe_int)))

abbrev nm_Words_take : List Str := ["self"]
theorem sc_Words_take : FnScope nm_Words_take ["self"] (defScope s_Words_take) := ⟨rfl, rfl, rfl, by decide +kernel, rfl, by decide +kernel, by decide +kernel⟩
theorem ok_Words_take (T : Top w K mg c) : OkMN P w K mg base (1) c.words "take" ["self"] (sp_Words_take c) := by
  refine MethAt.okN (k := 0) T.d_Words_take sc_Words_take (fun _ _ _ _ _ _ us hl => match us, hl with | [_], _ => rfl) len_Words_take (fun f cdv A outer s H vs Q E hr h => ⟨t_Words_take K c E, ?_, fun z => rd_Words_take h⟩)
  have hu := hu_of hr
  exact (pss_cons (ps_if (pt_cmpR op_ge (pe_fldC T.cl_Words T.na_Words_at (pv 0)) (pe_callB cl_lenL (by rfl) T.g_len (by decide +kernel) (pa_cons (pe_fldC T.cl_Words T.na_Words_words (pv 0)) pa_nil)) (nomark _)) (pss_one (ps_rzN T.x_Unread rfl (L2N.takes_of rfl rfl rfl rfl) (by rfl))) pss_nil)
    (pss_cons (ps_fldC T.cl_Words T.na_Words_at (pv 0) (pe_op op_add (pe_fldC T.cl_Words T.na_Words_at (pv 0)) pe_int))
    (pss_one (ps_ret (pe_ix ix_l (pe_fldC T.cl_Words T.na_Words_words (pv 0)) (pe_op op_sub (pe_fldC T.cl_Words T.na_Words_at (pv 0)) pe_int) (fun _ _ => rfl))))))

abbrev nm_Words_need_name : List Str := ["self", "word"]
theorem sc_Words_need_name : FnScope nm_Words_need_name ["self"] (defScope s_Words_need_name) := ⟨rfl, rfl, rfl, by decide +kernel, rfl, by decide +kernel, by decide +kernel⟩
theorem ok_Words_need_name (T : Top w K mg c) : OkMN P w K mg base (2) c.words "need_name" ["self"] (sp_Words_need_name c) := by
  refine MethAt.okN (k := 1) T.d_Words_need_name sc_Words_need_name (fun _ _ _ _ _ _ us hl => match us, hl with | [_], _ => rfl) len_Words_need_name (fun f cdv A outer s H vs Q E hr h => ⟨t_Words_need_name K c E, ?_, fun z => rd_Words_need_name h⟩)
  have hu := hu_of hr
  exact (pss_cons (ps_set (i := 1) sc_Words_need_name.nd rfl (Or.inl rfl) (pe_methN0 (ok_Words_take T) (hr.mono (by decide)) T.cl_Words (L2N.takes_of rfl rfl rfl rfl) (pv 0)))
    (pss_cons (ps_if (PW.pt (pw_or (pt_cmpR op_ne (pe_callB cl_lenS (by rfl) T.g_len (by decide +kernel) (pa_cons (pv 1) pa_nil)) pe_int (nomark _)) (pw_or1 (pt_cmpR op_ninS (pv 1) (pe_str_glob rfl T.c_NAMES) (by rfl))))) (pss_one (ps_rzN T.x_Unread rfl (L2N.takes_of rfl rfl rfl rfl) (by rfl))) pss_nil)
    (pss_one (ps_ret (pv 1)))))

abbrev nm_text_of : List Str := ["word", "sign"]
theorem sc_text_of : FnScope nm_text_of ["word"] (defScope s_text_of) := ⟨rfl, rfl, rfl, by decide +kernel, rfl, by decide +kernel, by decide +kernel⟩
theorem ok_text_of (T : Top w K mg c) : OkN P w K mg base (1) "text_of" ["word"] (sp_text_of c) := by
  refine DefAt.okN (k := 0) T.d_text_of sc_text_of (fun _ _ _ _ _ _ us hl => match us, hl with | [_], _ => rfl) len_text_of (fun f cdv A outer s H vs Q E hr h => ⟨t_text_of K c E, ?_, fun z => rd_text_of h⟩)
  have hu := hu_of hr
  exact (pss_cons (ps_if (pt_cmpR op_gt (pe_callB cl_lenS (by rfl) T.g_len (by decide +kernel) (pa_cons (pv 0) pa_nil)) (pe_int_glob rfl T.c_MOST_SIGNS) (nomark _)) (pss_one (ps_rzN T.x_Unread rfl (L2N.takes_of rfl rfl rfl rfl) (by rfl))) pss_nil)
    (pss_cons (ps_for (passes_of rfl) rfl (pi_str (pv 0)) (pg_name (i := 1) sc_text_of.nd rfl (Or.inl rfl))
    (pss_one (ps_if (pt_cmpR op_ninS (pv 1) (pe_str_glob rfl T.c_LETTERS) (by rfl)) (pss_one (ps_rzN T.x_Unread rfl (L2N.takes_of rfl rfl rfl rfl) (by rfl))) pss_nil)))
    (pss_one (ps_ret (pv 0)))))

abbrev nm_number_of : List Str := ["word", "sign"]
theorem sc_number_of : FnScope nm_number_of ["word"] (defScope s_number_of) := ⟨rfl, rfl, rfl, by decide +kernel, rfl, by decide +kernel, by decide +kernel⟩
theorem ok_number_of (T : Top w K mg c) : OkN P w K mg base (1) "number_of" ["word"] (sp_number_of c) := by
  refine DefAt.okN (k := 0) T.d_number_of sc_number_of (fun _ _ _ _ _ _ us hl => match us, hl with | [_], _ => rfl) len_number_of (fun f cdv A outer s H vs Q E hr h => ⟨t_number_of K c E, ?_, fun z => rd_number_of h⟩)
  have hu := hu_of hr
  exact (pss_cons (ps_if (PW.pt (pw_or (pt_not (pt_chain op_le op_le pe_int (pe_callB cl_lenS (by rfl) T.g_len (by decide +kernel) (pa_cons (pv 0) pa_nil)) pe_int)) (pw_or1 (PW.pt (pw_and (pt_cmpR op_eq (pe_ix ix_str (pv 0) pe_int (fun _ _ => rfl)) pe_str (nomark _)) (pw_and1 (pt_cmpR op_gt (pe_callB cl_lenS (by rfl) T.g_len (by decide +kernel) (pa_cons (pv 0) pa_nil)) pe_int (nomark _)))))))) (pss_one (ps_rzN T.x_Unread rfl (L2N.takes_of rfl rfl rfl rfl) (by rfl))) pss_nil)
    (pss_cons (ps_for (passes_of rfl) rfl (pi_str (pv 0)) (pg_name (i := 1) sc_number_of.nd rfl (Or.inl rfl))
    (pss_one (ps_if (pt_cmpR op_ninS (pv 1) (pe_str_glob rfl T.c_FIGURES) (by rfl)) (pss_one (ps_rzN T.x_Unread rfl (L2N.takes_of rfl rfl rfl rfl) (by rfl))) pss_nil)))
    (pss_one (ps_ret (pe_callTy cl_intS (by rfl) T.g_int (by decide +kernel) (pa_cons (pv 0) pa_nil))))))

abbrev nm_Words_part : List Str := ["self", "deep", "word", "signs", "sign", "mark", "one"]
theorem sc_Words_part : FnScope nm_Words_part ["self", "deep"] (defScope s_Words_part) := ⟨rfl, rfl, rfl, by decide +kernel, rfl, by decide +kernel, by decide +kernel⟩
theorem ok_Words_part (T : Top w K mg c) (n : Nat) (ih : OkMN P w K mg base (n + 1) c.words "part" ["self", "deep"] (sp_Words_part c n)) : OkMN P w K mg base (n + 1 + 1) c.words "part" ["self", "deep"] (sp_Words_part c (n + 1)) := by
  refine (MethAt.okN (k := n + 1) T.d_Words_part sc_Words_part (fun _ _ _ _ _ _ us hl => match us, hl with | [_, _], _ => rfl) len_Words_part (fun f cdv A outer s H vs Q E hr h => ⟨t_Words_part K c n E, ?_, fun z => rd_Words_part h⟩)).mono (by omega)
  have hu := hu_of hr
  exact (pss_cons (ps_if (pt_cmpR op_gt (pv 1) (pe_int_glob rfl T.c_MOST_DEEP) (nomark _)) (pss_one (ps_rzN T.x_Unread rfl (L2N.takes_of rfl rfl rfl rfl) (by rfl))) pss_nil)
    (pss_cons (ps_set (i := 2) sc_Words_part.nd rfl (Or.inr rfl) (pe_methN0 (ok_Words_take T) (hr.mono (by omega)) T.cl_Words (L2N.takes_of rfl rfl rfl rfl) (pv 0)))
    (pss_cons (ps_setLc (i := 3) (own := [("sign", 4), ("mark", 5)]) rfl sc_Words_part.nd rfl rfl (sw_true rfl rfl rfl (by decide +kernel)) (pi_sg T.sg2 (by rfl)) (blkOk_by (own := [("sign", 4), ("mark", 5)]) (N := nm_Words_part) (sc := defScope s_Words_part) (by decide +kernel)) (fun _ _ _ _ _ => (pg_tup rfl (pgs_cons (pg_name (i := 4) sc_Words_part.nd rfl (Or.inl rfl)) (pgs_cons (pg_name (i := 5) sc_Words_part.nd rfl (Or.inl rfl)) pgs_nil)))) (fun _ _ _ _ _ => (pts_one (pt_cmpR op_eq (pv 5) (pv 2) (nomark _)))) (fun _ _ _ _ _ => (pv 4)))
    (pss_cons (ps_if (pt_cmpR (op_neD hr.units) (pv 3) (pe_lstX pa_nil) (nomark _)) (pss_cons (ps_set (i := 6) sc_Words_part.nd rfl (Or.inl rfl) (pe_methN ih (hr.mono (by omega)) T.cl_Words (L2N.takes_of rfl rfl rfl rfl) (pv 0) (pa_cons (pe_op op_add (pv 1) pe_int) pa_nil)))
    (pss_one (ps_ret (pe_tupX (pa_cons (pe_ix ix_l (pv 3) pe_int (fun _ _ => rfl)) (pa_cons (pv 6) (pa_cons (pe_methN ih (hr.mono (by omega)) T.cl_Words (L2N.takes_of rfl rfl rfl rfl) (pv 0) (pa_cons (pe_op op_add (pv 1) pe_int) pa_nil)) pa_nil))))))) pss_nil)
    (pss_cons (ps_if (pt_cmpR op_eq (pe_slice sl_str (pv 2) po_none (po_some pe_int)) pe_str (nomark _)) (pss_one (ps_ret (pe_tupX (pa_cons pe_str (pa_cons (pe_callN (ok_text_of T) (hr.mono (by omega)) (by rfl) (L2N.takes_of rfl rfl rfl rfl) (pa_cons (pe_slice sl_str (pv 2) (po_some pe_int) po_none) pa_nil)) pa_nil))))) pss_nil)
    (pss_cons (ps_if (PW.pt (pw_and (pt_cmpR op_eq (pe_callB cl_lenS (by rfl) T.g_len (by decide +kernel) (pa_cons (pv 2) pa_nil)) pe_int (nomark _)) (pw_and1 (pt_cmpR op_inS1 (pv 2) (pe_str_glob rfl T.c_NAMES) (by rfl))))) (pss_one (ps_ret (pe_tupX (pa_cons pe_str (pa_cons (pv 2) pa_nil))))) pss_nil)
    (pss_one (ps_ret (pe_tupX (pa_cons pe_str (pa_cons (pe_callN (ok_number_of T) (hr.mono (by omega)) (by rfl) (L2N.takes_of rfl rfl rfl rfl) (pa_cons (pv 2) pa_nil)) pa_nil)))))))))))
theorem okG_Words_part (T : Top w K mg c) : ∀ n : Nat, OkMN P w K mg base (n + 1) c.words "part" ["self", "deep"] (sp_Words_part c n)
  | 0 => (MethAt.noneN T.d_Words_part (fun _ _ _ _ _ _ us hl => match us, hl with | [_, _], _ => rfl) no_Words_part).mono (Nat.zero_le _)
  | n + 1 => ok_Words_part T n (okG_Words_part T n)
theorem okR_Words_part (T : Top w K mg c) (n : Nat) : OkMN P w K mg base (n + 1) c.words "part" ["self", "deep"] (sp_Words_part c n) := (okG_Words_part T n)

abbrev nm_Words_ended : List Str := ["self"]
theorem sc_Words_ended : FnScope nm_Words_ended ["self"] (defScope s_Words_ended) := ⟨rfl, rfl, rfl, by decide +kernel, rfl, by decide +kernel, by decide +kernel⟩
theorem ok_Words_ended (T : Top w K mg c) : OkMN P w K mg base (1) c.words "ended" ["self"] (sp_Words_ended c) := by
  refine MethAt.okN (k := 0) T.d_Words_ended sc_Words_ended (fun _ _ _ _ _ _ us hl => match us, hl with | [_], _ => rfl) len_Words_ended (fun f cdv A outer s H vs Q E hr h => ⟨t_Words_ended K c E, ?_, fun z => rd_Words_ended h⟩)
  have hu := hu_of hr
  exact (pss_one (ps_if (pt_cmpR op_lt (pe_fldC T.cl_Words T.na_Words_at (pv 0)) (pe_callB cl_lenL (by rfl) T.g_len (by decide +kernel) (pa_cons (pe_fldC T.cl_Words T.na_Words_words (pv 0)) pa_nil)) (nomark _)) (pss_one (ps_rzN T.x_Unread rfl (L2N.takes_of rfl rfl rfl rfl) (by rfl))) pss_nil))

abbrev nm_Reader_block : List Str := ["self", "deep", "parts"]
theorem sc_Reader_block : FnScope nm_Reader_block ["self", "deep"] (defScope s_Reader_block) := ⟨rfl, rfl, rfl, by decide +kernel, rfl, by decide +kernel, by decide +kernel⟩
theorem ok_Reader_block (T : Top w K mg c) (n : Nat) (ih : OkMN P w K mg base (n + 8) c.reader "block" ["self", "deep"] (sp_Reader_block c n) ∧ OkMN P w K mg base (n + 8) c.reader "statement" ["self", "deep"] (sp_Reader_statement c n)) : OkMN P w K mg base (n + 1 + 8) c.reader "block" ["self", "deep"] (sp_Reader_block c (n + 1)) := by
  refine (MethAt.okN (k := n + 8) T.d_Reader_block sc_Reader_block (fun _ _ _ _ _ _ us hl => match us, hl with | [_, _], _ => rfl) len_Reader_block (fun f cdv A outer s H vs Q E hr h => ⟨t_Reader_block K c n E, ?_, fun z => rd_Reader_block h⟩)).mono (by omega)
  have hu := hu_of hr
  exact (pss_cons (ps_if (pt_cmpR op_gt (pv 1) (pe_int_glob rfl T.c_MOST_DEEP) (nomark _)) (pss_one (ps_rzN T.x_Unread rfl (L2N.takes_of rfl rfl rfl rfl) (by rfl))) pss_nil)
    (pss_cons (ps_set (i := 2) sc_Reader_block.nd rfl (Or.inl rfl) (pe_lstX pa_nil))
    (pss_cons (ps_while (passes_of rfl) (pt_cmpR op_ninT (pe_methC (ok_Reader_here T) (hr.mono (by omega)) T.cl_Reader (pv 0) (pa_cons (pv 1) pa_nil)) (pe_tupX (pa_cons pe_str (pa_cons pe_str pa_nil))) (by rfl))
    (pss_one (ps_expr (pe_app (pv 2) (pe_methN ih.2 (hr.mono (by omega)) T.cl_Reader (L2N.takes_of rfl rfl rfl rfl) (pv 0) (pa_cons (pv 1) pa_nil))))))
    (pss_one (ps_ret (pe_tupX (pa_cons pe_str (pa_cons (pe_callTy cl_tupL (by rfl) T.g_tuple (by decide +kernel) (pa_cons (pv 2) pa_nil)) pa_nil))))))))

abbrev nm_Reader_statement : List Str := ["self", "deep", "words", "word", "name", "part", "inner", "other"]
theorem sc_Reader_statement : FnScope nm_Reader_statement ["self", "deep"] (defScope s_Reader_statement) := ⟨rfl, rfl, rfl, by decide +kernel, rfl, by decide +kernel, by decide +kernel⟩
theorem ok_Reader_statement (T : Top w K mg c) (n : Nat) (ih : OkMN P w K mg base (n + 8) c.reader "block" ["self", "deep"] (sp_Reader_block c n) ∧ OkMN P w K mg base (n + 8) c.reader "statement" ["self", "deep"] (sp_Reader_statement c n)) : OkMN P w K mg base (n + 1 + 8) c.reader "statement" ["self", "deep"] (sp_Reader_statement c (n + 1)) := by
  refine (MethAt.okN (k := n + 8) T.d_Reader_statement sc_Reader_statement (fun _ _ _ _ _ _ us hl => match us, hl with | [_, _], _ => rfl) len_Reader_statement (fun f cdv A outer s H vs Q E hr h => ⟨t_Reader_statement K c n E, ?_, fun z => rd_Reader_statement h⟩)).mono (by omega)
  have hu := hu_of hr
  exact (pss_cons (ps_set (i := 2) sc_Reader_statement.nd rfl (Or.inl rfl) (pe_makeC (ok_Words___init__ T) (hr.mono (by omega)) (by rfl) T.mg_Words (pa_cons (pe_split (pe_methC (ok_Reader_here T) (hr.mono (by omega)) T.cl_Reader (pv 0) (pa_cons (pv 1) pa_nil)) pe_str) pa_nil)))
    (pss_cons (ps_fldC T.cl_Reader T.na_Reader_at (pv 0) (pe_op op_add (pe_fldC T.cl_Reader T.na_Reader_at (pv 0)) pe_int))
    (pss_cons (ps_set (i := 3) sc_Reader_statement.nd rfl (Or.inl rfl) (pe_methN0 (ok_Words_take T) (hr.mono (by omega)) T.cl_Words (L2N.takes_of rfl rfl rfl rfl) (pv 2)))
    (pss_cons (ps_if (pt_cmpR op_eq (pv 3) pe_str (nomark _)) (pss_cons (ps_set (i := 4) sc_Reader_statement.nd rfl (Or.inl rfl) (pe_methN0 (ok_Words_need_name T) (hr.mono (by omega)) T.cl_Words (L2N.takes_of rfl rfl rfl rfl) (pv 2)))
    (pss_cons (ps_set (i := 5) sc_Reader_statement.nd rfl (Or.inl rfl) (pe_methN (okR_Words_part T 7) (hr.mono (by omega)) T.cl_Words (L2N.takes_of rfl rfl rfl rfl) (pv 2) (pa_cons pe_int pa_nil)))
    (pss_cons (ps_expr (pe_methN0 (ok_Words_ended T) (hr.mono (by omega)) T.cl_Words (L2N.takes_of rfl rfl rfl rfl) (pv 2)))
    (pss_one (ps_ret (pe_tupX (pa_cons pe_str (pa_cons (pv 4) (pa_cons (pv 5) pa_nil))))))))) pss_nil)
    (pss_cons (ps_if (pt_cmpR op_ninT (pv 3) (pe_tupX (pa_cons pe_str (pa_cons pe_str (pa_cons pe_str pa_nil)))) (by rfl)) (pss_one (ps_rzN T.x_Unread rfl (L2N.takes_of rfl rfl rfl rfl) (by rfl))) pss_nil)
    (pss_cons (ps_set (i := 5) sc_Reader_statement.nd rfl (Or.inl rfl) (pe_methN (okR_Words_part T 7) (hr.mono (by omega)) T.cl_Words (L2N.takes_of rfl rfl rfl rfl) (pv 2) (pa_cons pe_int pa_nil)))
    (pss_cons (ps_expr (pe_methN0 (ok_Words_ended T) (hr.mono (by omega)) T.cl_Words (L2N.takes_of rfl rfl rfl rfl) (pv 2)))
    (pss_cons (ps_if (pt_cmpR op_eq (pv 3) pe_str (nomark _)) (pss_one (ps_ret (pe_tupX (pa_cons pe_str (pa_cons (pv 5) pa_nil))))) pss_nil)
    (pss_cons (ps_set (i := 6) sc_Reader_statement.nd rfl (Or.inl rfl) (pe_methN ih.1 (hr.mono (by omega)) T.cl_Reader (L2N.takes_of rfl rfl rfl rfl) (pv 0) (pa_cons (pe_op op_add (pv 1) pe_int) pa_nil)))
    (pss_cons (ps_if (pt_cmpR op_eq (pv 3) pe_str (nomark _)) (pss_one (ps_ret (pe_tupX (pa_cons pe_str (pa_cons (pv 5) (pa_cons (pv 6) pa_nil)))))) pss_nil)
    (pss_cons (ps_set (i := 7) sc_Reader_statement.nd rfl (Or.inl rfl) (pe_tupX (pa_cons pe_str (pa_cons (pe_tupX pa_nil) pa_nil))))
    (pss_cons (ps_if (pt_cmpR op_eq (pe_methC (ok_Reader_here T) (hr.mono (by omega)) T.cl_Reader (pv 0) (pa_cons (pv 1) pa_nil)) pe_str (nomark _)) (pss_cons (ps_fldC T.cl_Reader T.na_Reader_at (pv 0) (pe_op op_add (pe_fldC T.cl_Reader T.na_Reader_at (pv 0)) pe_int))
    (pss_one (ps_set (i := 7) sc_Reader_statement.nd rfl (Or.inl rfl) (pe_methN ih.1 (hr.mono (by omega)) T.cl_Reader (L2N.takes_of rfl rfl rfl rfl) (pv 0) (pa_cons (pe_op op_add (pv 1) pe_int) pa_nil))))) pss_nil)
    (pss_one (ps_ret (pe_tupX (pa_cons pe_str (pa_cons (pv 5) (pa_cons (pv 6) (pa_cons (pv 7) pa_nil)))))))))))))))))))
theorem okG_Reader_block (T : Top w K mg c) : ∀ n : Nat, OkMN P w K mg base (n + 8) c.reader "block" ["self", "deep"] (sp_Reader_block c n) ∧ OkMN P w K mg base (n + 8) c.reader "statement" ["self", "deep"] (sp_Reader_statement c n)
  | 0 => ⟨(MethAt.noneN T.d_Reader_block (fun _ _ _ _ _ _ us hl => match us, hl with | [_, _], _ => rfl) no_Reader_block).mono (Nat.zero_le _), (MethAt.noneN T.d_Reader_statement (fun _ _ _ _ _ _ us hl => match us, hl with | [_, _], _ => rfl) no_Reader_statement).mono (Nat.zero_le _)⟩
  | n + 1 => ⟨ok_Reader_block T n (okG_Reader_block T n), ok_Reader_statement T n (okG_Reader_block T n)⟩
theorem okR_Reader_block (T : Top w K mg c) (n : Nat) : OkMN P w K mg base (n + 8) c.reader "block" ["self", "deep"] (sp_Reader_block c n) := (okG_Reader_block T n).1
theorem okR_Reader_statement (T : Top w K mg c) (n : Nat) : OkMN P w K mg base (n + 8) c.reader "statement" ["self", "deep"] (sp_Reader_statement c n) := (okG_Reader_block T n).2

abbrev nm_part_text : List Str := ["part"]
theorem sc_part_text : FnScope nm_part_text ["part"] (defScope s_part_text) := ⟨rfl, rfl, rfl, by decide +kernel, rfl, by decide +kernel, by decide +kernel⟩
theorem ok_part_text (T : Top w K mg c) (n : Nat) (ih : OkF P w K mg base (n + 0) "part_text" ["part"] (sp_part_text n)) : OkF P w K mg base (n + 1 + 0) "part_text" ["part"] (sp_part_text (n + 1)) := by
  refine (DefAt.ok (k := n + 0) T.d_part_text sc_part_text (fun _ _ _ _ _ _ us hl => match us, hl with | [_], _ => rfl) len_part_text (fun f cdv A outer s H vs Q E hr h => ⟨t_part_text K n, ?_, fun z => rd_part_text h⟩)).mono (by omega)
  have hu := hu_of hr
  exact (pss_cons (ps_if (pt_cmpR op_eq (pe_ix ix_t (pv 0) pe_int (fun _ _ => rfl)) pe_str (nomark _)) (pss_one (ps_ret (pe_callTy cl_strI (by rfl) T.g_str (by decide +kernel) (pa_cons (pe_ix ix_t (pv 0) pe_int (fun _ _ => rfl)) pa_nil)))) pss_nil)
    (pss_cons (ps_if (pt_cmpR op_eq (pe_ix ix_t (pv 0) pe_int (fun _ _ => rfl)) pe_str (nomark _)) (pss_one (ps_ret (pe_op op_addS pe_str (pe_ix ix_t (pv 0) pe_int (fun _ _ => rfl))))) pss_nil)
    (pss_cons (ps_if (pt_cmpR op_eq (pe_ix ix_t (pv 0) pe_int (fun _ _ => rfl)) pe_str (nomark _)) (pss_one (ps_ret (pe_ix ix_t (pv 0) pe_int (fun _ _ => rfl)))) pss_nil)
    (pss_one (ps_ret (pe_op op_addS (pe_op op_addS (pe_op op_addS (pe_op op_addS (pe_sgn T.sg (by rfl) (pe_ix ix_t (pv 0) pe_int (fun _ _ => rfl)) (fun _ _ => rfl)) pe_str) (pe_callF ih (hr.mono (by omega)) (by rfl) (pa_cons (pe_ix ix_t (pv 0) pe_int (fun _ _ => rfl)) pa_nil))) pe_str) (pe_callF ih (hr.mono (by omega)) (by rfl) (pa_cons (pe_ix ix_t (pv 0) pe_int (fun _ _ => rfl)) pa_nil))))))))
theorem okG_part_text (T : Top w K mg c) : ∀ n : Nat, OkF P w K mg base (n + 0) "part_text" ["part"] (sp_part_text n)
  | 0 => (DefAt.none T.d_part_text (fun _ _ _ _ _ _ us hl => match us, hl with | [_], _ => rfl) no_part_text).mono (Nat.zero_le _)
  | n + 1 => ok_part_text T n (okG_part_text T n)
theorem okR_part_text (T : Top w K mg c) (n : Nat) : OkF P w K mg base (n + 0) "part_text" ["part"] (sp_part_text n) := (okG_part_text T n)

abbrev nm_lines_of : List Str := ["one", "ahead", "word", "found", "part", "inner"]
theorem sc_lines_of : FnScope nm_lines_of ["one", "ahead"] (defScope s_lines_of) := ⟨rfl, rfl, rfl, by decide +kernel, rfl, by decide +kernel, by decide +kernel⟩
theorem ok_lines_of (T : Top w K mg c) (n : Nat) (ih : OkF P w K mg base (n + 9) "lines_of" ["one", "ahead"] (sp_lines_of n)) : OkF P w K mg base (n + 1 + 9) "lines_of" ["one", "ahead"] (sp_lines_of (n + 1)) := by
  refine (DefAt.ok (k := n + 9) T.d_lines_of sc_lines_of (fun _ _ _ _ _ _ us hl => match us, hl with | [_, _], _ => rfl) len_lines_of (fun f cdv A outer s H vs Q E hr h => ⟨t_lines_of K n, ?_, fun z => rd_lines_of h⟩)).mono (by omega)
  have hu := hu_of hr
  exact (pss_cons (ps_set (i := 2) sc_lines_of.nd rfl (Or.inl rfl) (pe_ix ix_t (pv 0) pe_int (fun _ _ => rfl)))
    (pss_cons (ps_if (pt_cmpR op_eq (pv 2) pe_str (nomark _)) (pss_cons (ps_set (i := 3) sc_lines_of.nd rfl (Or.inl rfl) (pe_lstX pa_nil))
    (pss_cons (ps_for PassesOwn.never rfl (pi_tup (pe_ix ix_t (pv 0) pe_int (fun _ _ => rfl))) (pg_name (i := 4) sc_lines_of.nd rfl (Or.inl rfl))
    (pss_one (ps_set (i := 3) sc_lines_of.nd rfl (Or.inl rfl) (pe_op op_ct (pv 3) (pe_callF ih (hr.mono (by omega)) (by rfl) (pa_cons (pv 4) (pa_cons (pv 1) pa_nil)))))))
    (pss_one (ps_ret (pv 3))))) pss_nil)
    (pss_cons (ps_if (pt_cmpR op_eq (pv 2) pe_str (nomark _)) (pss_one (ps_ret (pe_lstX (pa_cons (pe_op op_addS (pe_op op_addS (pv 1) pe_str) (pe_callF (okR_part_text T 9) (hr.mono (by omega)) (by rfl) (pa_cons (pe_ix ix_t (pv 0) pe_int (fun _ _ => rfl)) pa_nil))) pa_nil)))) pss_nil)
    (pss_cons (ps_if (pt_cmpR op_eq (pv 2) pe_str (nomark _)) (pss_one (ps_ret (pe_lstX (pa_cons (pe_op op_addS (pe_op op_addS (pe_op op_addS (pe_op op_addS (pv 1) pe_str) (pe_ix ix_t (pv 0) pe_int (fun _ _ => rfl))) pe_str) (pe_callF (okR_part_text T 9) (hr.mono (by omega)) (by rfl) (pa_cons (pe_ix ix_t (pv 0) pe_int (fun _ _ => rfl)) pa_nil))) pa_nil)))) pss_nil)
    (pss_cons (ps_set (i := 5) sc_lines_of.nd rfl (Or.inl rfl) (pe_op op_addS (pv 1) pe_str))
    (pss_cons (ps_set (i := 3) sc_lines_of.nd rfl (Or.inl rfl) (pe_op op_ct (pe_lstX (pa_cons (pe_op op_addS (pe_op op_addS (pe_op op_addS (pv 1) (pv 2)) pe_str) (pe_callF (okR_part_text T 9) (hr.mono (by omega)) (by rfl) (pa_cons (pe_ix ix_t (pv 0) pe_int (fun _ _ => rfl)) pa_nil))) pa_nil)) (pe_callF ih (hr.mono (by omega)) (by rfl) (pa_cons (pe_ix ix_t (pv 0) pe_int (fun _ _ => rfl)) (pa_cons (pv 5) pa_nil)))))
    (pss_cons (ps_if (PW.pt (pw_and (pt_cmpR op_eq (pv 2) pe_str (nomark _)) (pw_and1 (pt_cmpR (op_neD hr.units) (pe_ix ix_t (pv 0) pe_int (fun _ _ => rfl)) (pe_tupX (pa_cons pe_str (pa_cons (pe_tupX pa_nil) pa_nil))) (nomark _))))) (pss_one (ps_set (i := 3) sc_lines_of.nd rfl (Or.inl rfl) (pe_op op_ct (pe_op op_ct (pv 3) (pe_lstX (pa_cons (pe_op op_addS (pv 1) pe_str) pa_nil))) (pe_callF ih (hr.mono (by omega)) (by rfl) (pa_cons (pe_ix ix_t (pv 0) pe_int (fun _ _ => rfl)) (pa_cons (pv 5) pa_nil)))))) pss_nil)
    (pss_one (ps_ret (pv 3))))))))))
theorem okG_lines_of (T : Top w K mg c) : ∀ n : Nat, OkF P w K mg base (n + 9) "lines_of" ["one", "ahead"] (sp_lines_of n)
  | 0 => (DefAt.none T.d_lines_of (fun _ _ _ _ _ _ us hl => match us, hl with | [_, _], _ => rfl) no_lines_of).mono (Nat.zero_le _)
  | n + 1 => ok_lines_of T n (okG_lines_of T n)
theorem okR_lines_of (T : Top w K mg c) (n : Nat) : OkF P w K mg base (n + 9) "lines_of" ["one", "ahead"] (sp_lines_of n) := (okG_lines_of T n)

abbrev nm_program_text : List Str := ["program"]
theorem sc_program_text : FnScope nm_program_text ["program"] (defScope s_program_text) := ⟨rfl, rfl, rfl, by decide +kernel, rfl, by decide +kernel, by decide +kernel⟩
theorem ok_program_text (T : Top w K mg c) : OkF P w K mg base (36) "program_text" ["program"] sp_program_text := by
  refine DefAt.ok (k := 35) T.d_program_text sc_program_text (fun _ _ _ _ _ _ us hl => match us, hl with | [_], _ => rfl) len_program_text (fun f cdv A outer s H vs Q E hr h => ⟨t_program_text K, ?_, fun z => rd_program_text h⟩)
  have hu := hu_of hr
  exact (pss_one (ps_ret (pe_joinL pe_str (pe_callF (okR_lines_of T 26) (hr.mono (by decide)) (by rfl) (pa_cons (pv 0) (pa_cons pe_str pa_nil))))))

abbrev nm_read_program : List Str := ["text", "lines", "found"]
theorem sc_read_program : FnScope nm_read_program ["text"] (defScope s_read_program) := ⟨rfl, rfl, rfl, by decide +kernel, rfl, by decide +kernel, by decide +kernel⟩
theorem ok_read_program (T : Top w K mg c) : OkN P w K mg base (37) "read_program" ["text"] (sp_read_program c) := by
  refine DefAt.okN (k := 36) T.d_read_program sc_read_program (fun _ _ _ _ _ _ us hl => match us, hl with | [_], _ => rfl) len_read_program (fun f cdv A outer s H vs Q E hr h => ⟨t_read_program K c E, ?_, fun z => rd_read_program h⟩)
  have hu := hu_of hr
  exact (pss_cons (ps_if (pt_cmpR op_eq (pv 0) pe_str (nomark _)) (pss_one (ps_ret (pe_tupX (pa_cons pe_str (pa_cons (pe_tupX pa_nil) pa_nil))))) pss_nil)
    (pss_cons (ps_set (i := 1) sc_read_program.nd rfl (Or.inl rfl) (pe_split (pv 0) pe_str))
    (pss_cons (ps_if (pt_cmpR op_gt (pe_callB cl_lenL (by rfl) T.g_len (by decide +kernel) (pa_cons (pv 1) pa_nil)) (pe_int_glob rfl T.c_MOST_LINES) (nomark _)) (pss_one (ps_rzN T.x_Unread rfl (L2N.takes_of rfl rfl rfl rfl) (by rfl))) pss_nil)
    (pss_cons (ps_set (i := 2) sc_read_program.nd rfl (Or.inl rfl) (pe_methN (okR_Reader_block T 14) (hr.mono (by decide)) T.cl_Reader (L2N.takes_of rfl rfl rfl rfl) (pe_makeC (ok_Reader___init__ T) (hr.mono (by decide)) (by rfl) T.mg_Reader (pa_cons (pv 1) pa_nil)) (pa_cons pe_int pa_nil)))
    (pss_cons (ps_if (pt_cmpR op_ne (pe_callF (ok_program_text T) (hr.mono (by decide)) (by rfl) (pa_cons (pv 2) pa_nil)) (pv 0) (nomark _)) (pss_one (ps_rzN T.x_Unread rfl (L2N.takes_of rfl rfl rfl rfl) (by rfl))) pss_nil)
    (pss_one (ps_ret (pv 2))))))))

abbrev nm_L_refused : List Str := ["_law_text_here", "e"]
theorem sc_L_refused : FnScope nm_L_refused ["_law_text_here"] (defScope s_L_refused) := ⟨rfl, rfl, rfl, by decide +kernel, rfl, by decide +kernel, by decide +kernel⟩
theorem ok_L_refused (T : Top w K mg c) : OkF P w K mg base (38) "_law_refused" ["_law_text_here"] (sp_L_refused c) := by
  refine DefAt.ok (k := 37) T.d_L_refused sc_L_refused (fun _ _ _ _ _ _ us hl => match us, hl with | [_], _ => rfl) len_L_refused (fun f cdv A outer s H vs Q E hr h => ⟨t_L_refused K c, ?_, fun z => rd_L_refused T.m_Unread T.k_V T.k_o h⟩)
  exact (pss_cons (L2N.ps_try_as (i := 1) rfl rfl sc_L_refused.nd rfl rfl ⟨by rfl, by decide, .inl T.mg_HunchError⟩ takesN0 (fun W pn xe tk _ => (pss_one (ps_expr (pe_callXN (ok_read_program T) (hr.mono (by decide)) (by rfl) tk (pa_cons (pv 0) pa_nil)))))
    (fun a oe cls d pn hz hf => pss_if fun e => by
      obtain ⟨rfl, rfl⟩ := e
      exact (pss_one (ps_ret (pe_and (pe_callB (call_isE T.ec hz.zc hf) (by rfl) T.g_isinstance (by decide +kernel) (pa_cons (pv 1) (pa_cons (pe_glob (by rfl) T.mg_Unread rfl) pa_nil))) (pe_and (pe_callB (call_isE T.ec hz.zc hf) (by rfl) T.g_isinstance (by decide +kernel) (pa_cons (pv 1) (pa_cons (pe_bltn (by rfl) T.g_ValueError (by decide +kernel) rfl) pa_nil))) (pe_one (pe_not (pe_callB (call_isE T.ec hz.zc hf) (by rfl) T.g_isinstance (by decide +kernel) (pa_cons (pv 1) (pa_cons (pe_glob (by rfl) T.mg_NoTop rfl) pa_nil)))))))))))
    (pss_one (ps_ret pe_bl)))

abbrev nm_L_alike : List Str := ["_law_found", "_law_due", "_law_k"]
theorem sc_L_alike : FnScope nm_L_alike ["_law_found", "_law_due"] (defScope s_L_alike) := ⟨rfl, rfl, rfl, by decide +kernel, rfl, by decide +kernel, by decide +kernel⟩
theorem ok_L_alike (T : Top w K mg c) (n : Nat) (ih : OkF P w K mg base (n + 0) "_law_alike" ["_law_found", "_law_due"] (sp_L_alike n)) : OkF P w K mg base (n + 1 + 0) "_law_alike" ["_law_found", "_law_due"] (sp_L_alike (n + 1)) := by
  refine (DefAt.ok (k := n + 0) T.d_L_alike sc_L_alike (fun _ _ _ _ _ _ us hl => match us, hl with | [_, _], _ => rfl) len_L_alike (fun f cdv A outer s H vs Q E hr h => ⟨t_L_alike K n, ?_, fun z => rd_L_alike h z⟩)).mono (by omega)
  have hu := hu_of hr
  exact (pss_cons (ps_if (pt_cmpR op_isN1 (pv 1) pe_non (nomark _)) (pss_one (ps_ret (pe_cmpR op_isN1 (pv 0) pe_non (nomark _)))) pss_nil)
    (pss_cons (ps_if (pt_val (pe_callB (cl_is (T := "bool")) (by rfl) T.g_isinstance (by decide +kernel) (pa_cons (pv 1) (pa_cons (pe_bltn (by rfl) T.g_bool (by decide +kernel) rfl) pa_nil)))) (pss_one (ps_ret (pe_and (pe_callB (cl_is (T := "bool")) (by rfl) T.g_isinstance (by decide +kernel) (pa_cons (pv 0) (pa_cons (pe_bltn (by rfl) T.g_bool (by decide +kernel) rfl) pa_nil))) (pe_one (pe_cmpR op_eq (pv 0) (pv 1) (nomark _)))))) pss_nil)
    (pss_cons (ps_if (pt_val (pe_callB (cl_is (T := "int")) (by rfl) T.g_isinstance (by decide +kernel) (pa_cons (pv 1) (pa_cons (pe_bltn (by rfl) T.g_int (by decide +kernel) rfl) pa_nil)))) (pss_one (ps_ret (pe_and (pe_callB (cl_is (T := "int")) (by rfl) T.g_isinstance (by decide +kernel) (pa_cons (pv 0) (pa_cons (pe_bltn (by rfl) T.g_int (by decide +kernel) rfl) pa_nil))) (pe_and (pe_not (pe_callB (cl_is (T := "bool")) (by rfl) T.g_isinstance (by decide +kernel) (pa_cons (pv 0) (pa_cons (pe_bltn (by rfl) T.g_bool (by decide +kernel) rfl) pa_nil)))) (pe_one (pe_cmpR op_eq (pv 0) (pv 1) (nomark _))))))) pss_nil)
    (pss_cons (ps_if (pt_val (pe_callB (cl_is (T := "str")) (by rfl) T.g_isinstance (by decide +kernel) (pa_cons (pv 1) (pa_cons (pe_bltn (by rfl) T.g_str (by decide +kernel) rfl) pa_nil)))) (pss_one (ps_ret (pe_and (pe_callB (cl_is (T := "str")) (by rfl) T.g_isinstance (by decide +kernel) (pa_cons (pv 0) (pa_cons (pe_bltn (by rfl) T.g_str (by decide +kernel) rfl) pa_nil))) (pe_one (pe_cmpR op_eq (pv 0) (pv 1) (nomark _)))))) pss_nil)
    (pss_cons (ps_if (PW.pt (pw_or (pt_cmpR op_ne (pe_callB (cl_is (T := "tuple")) (by rfl) T.g_isinstance (by decide +kernel) (pa_cons (pv 1) (pa_cons (pe_bltn (by rfl) T.g_tuple (by decide +kernel) rfl) pa_nil))) (pe_callB (cl_is (T := "tuple")) (by rfl) T.g_isinstance (by decide +kernel) (pa_cons (pv 0) (pa_cons (pe_bltn (by rfl) T.g_tuple (by decide +kernel) rfl) pa_nil))) (nomark _)) (pw_or1 (pt_cmpR op_ne (pe_callB (cl_is (T := "list")) (by rfl) T.g_isinstance (by decide +kernel) (pa_cons (pv 1) (pa_cons (pe_bltn (by rfl) T.g_list (by decide +kernel) rfl) pa_nil))) (pe_callB (cl_is (T := "list")) (by rfl) T.g_isinstance (by decide +kernel) (pa_cons (pv 0) (pa_cons (pe_bltn (by rfl) T.g_list (by decide +kernel) rfl) pa_nil))) (nomark _))))) (pss_one (ps_ret pe_bl)) pss_nil)
    (pss_cons (ps_if (pt_cmpR op_ne (pe_callB cl_lenQ (by rfl) T.g_len (by decide +kernel) (pa_cons (pv 0) pa_nil)) (pe_callB cl_lenQ (by rfl) T.g_len (by decide +kernel) (pa_cons (pv 1) pa_nil)) (nomark _)) (pss_one (ps_ret pe_bl)) pss_nil)
    (pss_cons (ps_for PassesOwn.never rfl (pi_range1 (by rfl) T.g_range (pa_cons (pe_callB cl_lenQ (by rfl) T.g_len (by decide +kernel) (pa_cons (pv 1) pa_nil)) pa_nil)) (pg_name (i := 2) sc_L_alike.nd rfl (Or.inl rfl))
    (pss_one (ps_if (pt_not (pt_val (pe_callF ih (hr.mono (by omega)) (by rfl) (pa_cons (pe_ix ix_q (pv 0) (pv 2) (fun _ _ => rfl)) (pa_cons (pe_ix ix_q (pv 1) (pv 2) (fun _ _ => rfl)) pa_nil))))) (pss_one (ps_ret pe_bl)) pss_nil)))
    (pss_one (ps_ret pe_bl)))))))))
theorem okG_L_alike (T : Top w K mg c) : ∀ n : Nat, OkF P w K mg base (n + 0) "_law_alike" ["_law_found", "_law_due"] (sp_L_alike n)
  | 0 => (DefAt.none T.d_L_alike (fun _ _ _ _ _ _ us hl => match us, hl with | [_, _], _ => rfl) no_L_alike).mono (Nat.zero_le _)
  | n + 1 => ok_L_alike T n (okG_L_alike T n)
theorem okR_L_alike (T : Top w K mg c) (n : Nat) : OkF P w K mg base (n + 0) "_law_alike" ["_law_found", "_law_due"] (sp_L_alike n) := (okG_L_alike T n)

abbrev nm_L_name : List Str := ["_law_box", "_law_far"]
theorem sc_L_name : FnScope nm_L_name ["_law_box"] (defScope s_L_name) := ⟨rfl, rfl, rfl, by decide +kernel, rfl, by decide +kernel, by decide +kernel⟩
theorem ok_L_name (T : Top w K mg c) : OkF P w K mg base (2) "_law_name" ["_law_box"] sp_L_name := by
  refine DefAt.ok (k := 1) T.d_L_name sc_L_name (fun _ _ _ _ _ _ us hl => match us, hl with | [_], _ => rfl) len_L_name (fun f cdv A outer s H vs Q E hr h => ⟨t_L_name K, ?_, fun z => rd_L_name h⟩)
  have hu := hu_of hr
  exact (pss_cons (ps_set (i := 1) sc_L_name.nd rfl (Or.inl rfl) (pe_op op_mul pe_int (pe_callTy cl_int1 (by rfl) T.g_int (by decide +kernel) (pa_cons (pe_cmpR op_eq (pe_callF (ok_L_take T) (hr.mono (by decide)) (by rfl) (pa_cons (pv 0) (pa_cons pe_int pa_nil))) pe_int (nomark _)) pa_nil))))
    (pss_one (ps_ret (pe_ix ix_str pe_str (pe_op op_add (pe_callF (ok_L_take T) (hr.mono (by decide)) (by rfl) (pa_cons (pv 0) (pa_cons pe_int pa_nil))) (pv 1)) (fun _ _ => rfl)))))

abbrev nm_L_text : List Str := ["_law_box", "_law_some", "_law_size", "_law_k"]
theorem sc_L_text : FnScope nm_L_text ["_law_box"] (defScope s_L_text) := ⟨rfl, rfl, rfl, by decide +kernel, rfl, by decide +kernel, by decide +kernel⟩
theorem ok_L_text (T : Top w K mg c) : OkF P w K mg base (2) "_law_text" ["_law_box"] sp_L_text := by
  refine DefAt.ok (k := 1) T.d_L_text sc_L_text (fun _ _ _ _ _ _ us hl => match us, hl with | [_], _ => rfl) len_L_text (fun f cdv A outer s H vs Q E hr h => ⟨t_L_text K, ?_, fun z => rd_L_text h⟩)
  have hu := hu_of hr
  exact (pss_cons (ps_set (i := 1) sc_L_text.nd rfl (Or.inr rfl) (pe_ix ix_l (pe_lstX (pa_cons pe_str (pa_cons pe_str pa_nil))) (pe_callF (ok_L_take T) (hr.mono (by decide)) (by rfl) (pa_cons (pv 0) (pa_cons pe_int pa_nil))) (fun _ _ => rfl)))
    (pss_cons (ps_set (i := 2) sc_L_text.nd rfl (Or.inl rfl) (pe_ix ix_l (pe_lstX (pa_cons (pe_callF (ok_L_take T) (hr.mono (by decide)) (by rfl) (pa_cons (pv 0) (pa_cons pe_int pa_nil))) (pa_cons (pe_callF (ok_L_take T) (hr.mono (by decide)) (by rfl) (pa_cons (pv 0) (pa_cons pe_int pa_nil))) pa_nil))) (pe_callTy cl_int1 (by rfl) T.g_int (by decide +kernel) (pa_cons (pe_cmpR op_eq (pe_callF (ok_L_take T) (hr.mono (by decide)) (by rfl) (pa_cons (pv 0) (pa_cons pe_int pa_nil))) pe_int (nomark _)) pa_nil)) (fun _ _ => rfl)))
    (pss_one (ps_ret (pe_joinL pe_str (pe_lc (own := [("_law_k", 3)]) rfl sc_L_text.nd (pi_range1 (by rfl) T.g_range (pa_cons (pv 2) pa_nil)) (blkOk_by (own := [("_law_k", 3)]) (N := nm_L_text) (sc := defScope s_L_text) (by decide +kernel)) (fun _ _ _ _ _ => (pg_name (i := 3) sc_L_text.nd rfl (Or.inl rfl))) (fun _ _ _ _ _ => pts_nil) (fun _ _ _ _ _ => (pe_ix ix_str (pv 1) (pe_callF (ok_L_take T) (hr.mono (by decide)) (by rfl) (pa_cons (pv 0) (pa_cons (pe_callB cl_lenS (by rfl) T.g_len (by decide +kernel) (pa_cons (pv 1) pa_nil)) pa_nil))) (fun _ _ => rfl)))))))))

abbrev nm_L_part : List Str := ["_law_box", "_law_deep", "_law_kind", "_law_word", "_law_one"]
theorem sc_L_part : FnScope nm_L_part ["_law_box", "_law_deep"] (defScope s_L_part) := ⟨rfl, rfl, rfl, by decide +kernel, rfl, by decide +kernel, by decide +kernel⟩
theorem ok_L_part (T : Top w K mg c) (n : Nat) (ih : OkF P w K mg base (n + 2) "_law_part" ["_law_box", "_law_deep"] (sp_L_part n)) : OkF P w K mg base (n + 1 + 2) "_law_part" ["_law_box", "_law_deep"] (sp_L_part (n + 1)) := by
  refine (DefAt.ok (k := n + 2) T.d_L_part sc_L_part (fun _ _ _ _ _ _ us hl => match us, hl with | [_, _], _ => rfl) len_L_part (fun f cdv A outer s H vs Q E hr h => ⟨t_L_part K n, ?_, fun z => rd_L_part h⟩)).mono (by omega)
  have hu := hu_of hr
  exact (pss_cons (ps_set (i := 2) sc_L_part.nd rfl (Or.inl rfl) (pe_callF (ok_L_take T) (hr.mono (by omega)) (by rfl) (pa_cons (pv 0) (pa_cons pe_int pa_nil))))
    (pss_cons (ps_if (pt_cmpR op_lt (pv 2) pe_int (nomark _)) (pss_one (ps_ret (pe_tupX (pa_cons pe_str (pa_cons (pe_callF (ok_L_name T) (hr.mono (by omega)) (by rfl) (pa_cons (pv 0) pa_nil)) pa_nil))))) pss_nil)
    (pss_cons (ps_if (PW.pt (pw_or (pt_cmpR op_eq (pv 1) pe_int (nomark _)) (pw_or1 (pt_cmpR op_lt (pv 2) pe_int (nomark _))))) (pss_cons (ps_if (pt_cmpR op_eq (pv 2) pe_int (nomark _)) (pss_one (ps_ret (pe_tupX (pa_cons pe_str (pa_cons (pe_callF (ok_L_text T) (hr.mono (by omega)) (by rfl) (pa_cons (pv 0) pa_nil)) pa_nil))))) pss_nil)
    (pss_one (ps_ret (pe_tupX (pa_cons pe_str (pa_cons (pe_ix ix_l (pe_lstX (pa_cons (pe_callF (ok_L_take T) (hr.mono (by omega)) (by rfl) (pa_cons (pv 0) (pa_cons pe_int pa_nil))) (pa_cons (pe_callF (ok_L_take T) (hr.mono (by omega)) (by rfl) (pa_cons (pv 0) (pa_cons pe_int pa_nil))) pa_nil))) (pe_callTy cl_int1 (by rfl) T.g_int (by decide +kernel) (pa_cons (pe_cmpR op_eq (pv 2) pe_int (nomark _)) pa_nil)) (fun _ _ => rfl)) pa_nil)))))) pss_nil)
    (pss_cons (ps_set (i := 3) sc_L_part.nd rfl (Or.inl rfl) (pe_ix ix_l (pe_lstX (pa_cons pe_str (pa_cons pe_str (pa_cons pe_str (pa_cons pe_str pa_nil))))) (pe_callF (ok_L_take T) (hr.mono (by omega)) (by rfl) (pa_cons (pv 0) (pa_cons pe_int pa_nil))) (fun _ _ => rfl)))
    (pss_cons (ps_set (i := 4) sc_L_part.nd rfl (Or.inl rfl) (pe_callF ih (hr.mono (by omega)) (by rfl) (pa_cons (pv 0) (pa_cons (pe_op op_sub (pv 1) pe_int) pa_nil))))
    (pss_one (ps_ret (pe_tupX (pa_cons (pv 3) (pa_cons (pv 4) (pa_cons (pe_callF ih (hr.mono (by omega)) (by rfl) (pa_cons (pv 0) (pa_cons (pe_op op_sub (pv 1) pe_int) pa_nil))) pa_nil)))))))))))
theorem okG_L_part (T : Top w K mg c) : ∀ n : Nat, OkF P w K mg base (n + 2) "_law_part" ["_law_box", "_law_deep"] (sp_L_part n)
  | 0 => (DefAt.none T.d_L_part (fun _ _ _ _ _ _ us hl => match us, hl with | [_, _], _ => rfl) no_L_part).mono (Nat.zero_le _)
  | n + 1 => ok_L_part T n (okG_L_part T n)
theorem okR_L_part (T : Top w K mg c) (n : Nat) : OkF P w K mg base (n + 2) "_law_part" ["_law_box", "_law_deep"] (sp_L_part n) := (okG_L_part T n)

abbrev nm_L_row : List Str := ["_law_box", "_law_deep", "_law_many", "_law_k"]
theorem sc_L_row : FnScope nm_L_row ["_law_box", "_law_deep", "_law_many"] (defScope s_L_row) := ⟨rfl, rfl, rfl, by decide +kernel, rfl, by decide +kernel, by decide +kernel⟩
theorem ok_L_row (T : Top w K mg c) (n : Nat) (ih : OkF P w K mg base (n + 8) "_law_row" ["_law_box", "_law_deep", "_law_many"] (sp_L_row n) ∧ OkF P w K mg base (n + 8) "_law_statement" ["_law_box", "_law_deep"] (sp_L_statement n)) : OkF P w K mg base (n + 1 + 8) "_law_row" ["_law_box", "_law_deep", "_law_many"] (sp_L_row (n + 1)) := by
  refine (DefAt.ok (k := n + 8) T.d_L_row sc_L_row (fun _ _ _ _ _ _ us hl => match us, hl with | [_, _, _], _ => rfl) len_L_row (fun f cdv A outer s H vs Q E hr h => ⟨t_L_row K n, ?_, fun z => rd_L_row h⟩)).mono (by omega)
  have hu := hu_of hr
  exact (pss_cons (ps_if (PW.pt (pw_and (pt_cmpR op_lt (pv 1) pe_int (nomark _)) (pw_and1 (pt_cmpR op_eq (pe_callF (ok_L_take T) (hr.mono (by omega)) (by rfl) (pa_cons (pv 0) (pa_cons pe_int pa_nil))) pe_int (nomark _))))) (pss_one (ps_set (i := 2) sc_L_row.nd rfl (Or.inl rfl) (pe_callF (ok_L_take T) (hr.mono (by omega)) (by rfl) (pa_cons (pv 0) (pa_cons pe_int pa_nil))))) pss_nil)
    (pss_one (ps_ret (pe_tupX (pa_cons pe_str (pa_cons (pe_callTy cl_tupL (by rfl) T.g_tuple (by decide +kernel) (pa_cons (pe_lc (own := [("_law_k", 3)]) rfl sc_L_row.nd (pi_range1 (by rfl) T.g_range (pa_cons (pv 2) pa_nil)) (blkOk_by (own := [("_law_k", 3)]) (N := nm_L_row) (sc := defScope s_L_row) (by decide +kernel)) (fun _ _ _ _ _ => (pg_name (i := 3) sc_L_row.nd rfl (Or.inl rfl))) (fun _ _ _ _ _ => pts_nil) (fun _ _ _ _ _ => (pe_callF ih.2 (hr.mono (by omega)) (by rfl) (pa_cons (pv 0) (pa_cons (pv 1) pa_nil))))) pa_nil)) pa_nil))))))

abbrev nm_L_statement : List Str := ["_law_box", "_law_deep", "_law_kind", "_law_far", "_law_part_here", "_law_inner"]
theorem sc_L_statement : FnScope nm_L_statement ["_law_box", "_law_deep"] (defScope s_L_statement) := ⟨rfl, rfl, rfl, by decide +kernel, rfl, by decide +kernel, by decide +kernel⟩
theorem ok_L_statement (T : Top w K mg c) (n : Nat) (ih : OkF P w K mg base (n + 8) "_law_row" ["_law_box", "_law_deep", "_law_many"] (sp_L_row n) ∧ OkF P w K mg base (n + 8) "_law_statement" ["_law_box", "_law_deep"] (sp_L_statement n)) : OkF P w K mg base (n + 1 + 8) "_law_statement" ["_law_box", "_law_deep"] (sp_L_statement (n + 1)) := by
  refine (DefAt.ok (k := n + 8) T.d_L_statement sc_L_statement (fun _ _ _ _ _ _ us hl => match us, hl with | [_, _], _ => rfl) len_L_statement (fun f cdv A outer s H vs Q E hr h => ⟨t_L_statement K n, ?_, fun z => rd_L_statement h⟩)).mono (by omega)
  have hu := hu_of hr
  exact (pss_cons (ps_set (i := 2) sc_L_statement.nd rfl (Or.inl rfl) (pe_callF (ok_L_take T) (hr.mono (by omega)) (by rfl) (pa_cons (pv 0) (pa_cons pe_int pa_nil))))
    (pss_cons (ps_set (i := 3) sc_L_statement.nd rfl (Or.inl rfl) (pe_ix ix_l (pe_lstX (pa_cons pe_int (pa_cons pe_int pa_nil))) (pe_callTy cl_int1 (by rfl) T.g_int (by decide +kernel) (pa_cons (pe_cmpR op_eq (pe_callF (ok_L_take T) (hr.mono (by omega)) (by rfl) (pa_cons (pv 0) (pa_cons pe_int pa_nil))) pe_int (nomark _)) pa_nil)) (fun _ _ => rfl)))
    (pss_cons (ps_if (PW.pt (pw_or (pt_cmpR op_eq (pv 1) pe_int (nomark _)) (pw_or1 (pt_cmpR op_lt (pv 2) pe_int (nomark _))))) (pss_cons (ps_if (pt_cmpR op_inT (pv 2) (pe_tupX (pa_cons pe_int (pa_cons pe_int (pa_cons pe_int pa_nil)))) (by rfl)) (pss_one (ps_ret (pe_tupX (pa_cons pe_str (pa_cons (pe_callF (okR_L_part T 6) (hr.mono (by omega)) (by rfl) (pa_cons (pv 0) (pa_cons (pv 3) pa_nil))) pa_nil))))) pss_nil)
    (pss_one (ps_ret (pe_tupX (pa_cons pe_str (pa_cons (pe_callF (ok_L_name T) (hr.mono (by omega)) (by rfl) (pa_cons (pv 0) pa_nil)) (pa_cons (pe_callF (okR_L_part T 6) (hr.mono (by omega)) (by rfl) (pa_cons (pv 0) (pa_cons (pv 3) pa_nil))) pa_nil))))))) pss_nil)
    (pss_cons (ps_set (i := 4) sc_L_statement.nd rfl (Or.inl rfl) (pe_callF (okR_L_part T 6) (hr.mono (by omega)) (by rfl) (pa_cons (pv 0) (pa_cons pe_int pa_nil))))
    (pss_cons (ps_set (i := 5) sc_L_statement.nd rfl (Or.inl rfl) (pe_callF ih.1 (hr.mono (by omega)) (by rfl) (pa_cons (pv 0) (pa_cons (pe_op op_sub (pv 1) pe_int) (pa_cons (pe_callF (ok_L_take T) (hr.mono (by omega)) (by rfl) (pa_cons (pv 0) (pa_cons pe_int pa_nil))) pa_nil)))))
    (pss_cons (ps_if (pt_cmpR op_lt (pv 2) pe_int (nomark _)) (pss_one (ps_ret (pe_tupX (pa_cons pe_str (pa_cons (pv 4) (pa_cons (pv 5) (pa_cons (pe_callF ih.1 (hr.mono (by omega)) (by rfl) (pa_cons (pv 0) (pa_cons (pe_op op_sub (pv 1) pe_int) (pa_cons (pe_callF (ok_L_take T) (hr.mono (by omega)) (by rfl) (pa_cons (pv 0) (pa_cons pe_int pa_nil))) pa_nil)))) pa_nil))))))) pss_nil)
    (pss_one (ps_ret (pe_tupX (pa_cons pe_str (pa_cons (pv 4) (pa_cons (pv 5) pa_nil))))))))))))
theorem okG_L_row (T : Top w K mg c) : ∀ n : Nat, OkF P w K mg base (n + 8) "_law_row" ["_law_box", "_law_deep", "_law_many"] (sp_L_row n) ∧ OkF P w K mg base (n + 8) "_law_statement" ["_law_box", "_law_deep"] (sp_L_statement n)
  | 0 => ⟨(DefAt.none T.d_L_row (fun _ _ _ _ _ _ us hl => match us, hl with | [_, _, _], _ => rfl) no_L_row).mono (Nat.zero_le _), (DefAt.none T.d_L_statement (fun _ _ _ _ _ _ us hl => match us, hl with | [_, _], _ => rfl) no_L_statement).mono (Nat.zero_le _)⟩
  | n + 1 => ⟨ok_L_row T n (okG_L_row T n), ok_L_statement T n (okG_L_row T n)⟩
theorem okR_L_row (T : Top w K mg c) (n : Nat) : OkF P w K mg base (n + 8) "_law_row" ["_law_box", "_law_deep", "_law_many"] (sp_L_row n) := (okG_L_row T n).1
theorem okR_L_statement (T : Top w K mg c) (n : Nat) : OkF P w K mg base (n + 8) "_law_statement" ["_law_box", "_law_deep"] (sp_L_statement n) := (okG_L_row T n).2

abbrev nm_L_counted : List Str := ["_law_row_here", "_law_turns", "_law_step", "_law_loop"]
theorem sc_L_counted : FnScope nm_L_counted ["_law_row_here", "_law_turns"] (defScope s_L_counted) := ⟨rfl, rfl, rfl, by decide +kernel, rfl, by decide +kernel, by decide +kernel⟩
theorem ok_L_counted (T : Top w K mg c) : OkF P w K mg base (1) "_law_counted" ["_law_row_here", "_law_turns"] sp_L_counted := by
  refine DefAt.ok (k := 0) T.d_L_counted sc_L_counted (fun _ _ _ _ _ _ us hl => match us, hl with | [_, _], _ => rfl) len_L_counted (fun f cdv A outer s H vs Q E hr h => ⟨t_L_counted K, ?_, fun z => rd_L_counted h⟩)
  have hu := hu_of hr
  exact (pss_cons (ps_set (i := 2) sc_L_counted.nd rfl (Or.inl rfl) (pe_tupX (pa_cons pe_str (pa_cons pe_str (pa_cons (pe_tupX (pa_cons pe_str (pa_cons (pe_tupX (pa_cons pe_str (pa_cons pe_str pa_nil))) (pa_cons (pe_tupX (pa_cons pe_str (pa_cons pe_int pa_nil))) pa_nil)))) pa_nil)))))
    (pss_cons (ps_set (i := 3) sc_L_counted.nd rfl (Or.inl rfl) (pe_tupX (pa_cons pe_str (pa_cons (pe_tupX (pa_cons pe_str (pa_cons pe_str pa_nil))) (pa_cons (pe_tupX (pa_cons pe_str (pa_cons (pe_op op_catX (pe_ix ix_t (pv 0) pe_int (fun _ _ => rfl)) (pe_tupX (pa_cons (pv 2) pa_nil))) pa_nil))) pa_nil)))))
    (pss_one (ps_ret (pe_tupX (pa_cons pe_str (pa_cons (pe_tupX (pa_cons (pe_tupX (pa_cons pe_str (pa_cons pe_str (pa_cons (pe_tupX (pa_cons pe_str (pa_cons (pv 1) pa_nil))) pa_nil)))) (pa_cons (pv 3) pa_nil))) pa_nil)))))))

abbrev nm_L_program : List Str := ["_law_box", "_law_deep", "_law_many", "_law_row_here"]
theorem sc_L_program : FnScope nm_L_program ["_law_box", "_law_deep"] (defScope s_L_program) := ⟨rfl, rfl, rfl, by decide +kernel, rfl, by decide +kernel, by decide +kernel⟩
theorem ok_L_program (T : Top w K mg c) : OkF P w K mg base (17) "_law_program" ["_law_box", "_law_deep"] sp_L_program := by
  refine DefAt.ok (k := 16) T.d_L_program sc_L_program (fun _ _ _ _ _ _ us hl => match us, hl with | [_, _], _ => rfl) len_L_program (fun f cdv A outer s H vs Q E hr h => ⟨t_L_program K, ?_, fun z => rd_L_program h⟩)
  have hu := hu_of hr
  exact (pss_cons (ps_set (i := 2) sc_L_program.nd rfl (Or.inl rfl) (pe_op op_add pe_int (pe_callF (ok_L_take T) (hr.mono (by decide)) (by rfl) (pa_cons (pv 0) (pa_cons pe_int pa_nil)))))
    (pss_cons (ps_if (pt_cmpR op_eq (pe_callF (ok_L_take T) (hr.mono (by decide)) (by rfl) (pa_cons (pv 0) (pa_cons pe_int pa_nil))) pe_int (nomark _)) (pss_one (ps_set (i := 2) sc_L_program.nd rfl (Or.inl rfl) (pe_op op_add pe_int (pe_callF (ok_L_take T) (hr.mono (by decide)) (by rfl) (pa_cons (pv 0) (pa_cons pe_int pa_nil)))))) pss_nil)
    (pss_cons (ps_set (i := 3) sc_L_program.nd rfl (Or.inl rfl) (pe_callF (okR_L_row T 8) (hr.mono (by decide)) (by rfl) (pa_cons (pv 0) (pa_cons (pv 1) (pa_cons (pv 2) pa_nil)))))
    (pss_cons (ps_if (pt_cmpR op_eq (pe_callF (ok_L_take T) (hr.mono (by decide)) (by rfl) (pa_cons (pv 0) (pa_cons pe_int pa_nil))) pe_int (nomark _)) (pss_one (ps_set (i := 3) sc_L_program.nd rfl (Or.inl rfl) (pe_callF (ok_L_counted T) (hr.mono (by decide)) (by rfl) (pa_cons (pv 3) (pa_cons (pe_op op_add pe_int (pe_callF (ok_L_take T) (hr.mono (by decide)) (by rfl) (pa_cons (pv 0) (pa_cons pe_int pa_nil)))) pa_nil))))) pss_nil)
    (pss_one (ps_ret (pv 3)))))))

abbrev nm_L_part_text : List Str := ["_law_part_here", "_law_sign"]
theorem sc_L_part_text : FnScope nm_L_part_text ["_law_part_here"] (defScope s_L_part_text) := ⟨rfl, rfl, rfl, by decide +kernel, rfl, by decide +kernel, by decide +kernel⟩
theorem ok_L_part_text (T : Top w K mg c) (n : Nat) (ih : OkF P w K mg base (n + 0) "_law_part_text" ["_law_part_here"] (sp_L_part_text n)) : OkF P w K mg base (n + 1 + 0) "_law_part_text" ["_law_part_here"] (sp_L_part_text (n + 1)) := by
  refine (DefAt.ok (k := n + 0) T.d_L_part_text sc_L_part_text (fun _ _ _ _ _ _ us hl => match us, hl with | [_], _ => rfl) len_L_part_text (fun f cdv A outer s H vs Q E hr h => ⟨t_L_part_text K n, ?_, fun z => rd_L_part_text h⟩)).mono (by omega)
  have hu := hu_of hr
  exact (pss_cons (ps_if (pt_cmpR op_eq (pe_ix ix_t (pv 0) pe_int (fun _ _ => rfl)) pe_str (nomark _)) (pss_one (ps_ret (pe_op op_addS pe_str (pe_ix ix_t (pv 0) pe_int (fun _ _ => rfl))))) pss_nil)
    (pss_cons (ps_if (pt_cmpR op_inT (pe_ix ix_t (pv 0) pe_int (fun _ _ => rfl)) (pe_tupX (pa_cons pe_str (pa_cons pe_str pa_nil))) (by rfl)) (pss_one (ps_ret (pe_callTy cl_strV (by rfl) T.g_str (by decide +kernel) (pa_cons (pe_ix ix_t (pv 0) pe_int (fun _ _ => rfl)) pa_nil)))) pss_nil)
    (pss_cons (ps_set (i := 1) sc_L_part_text.nd rfl (Or.inl rfl) (pe_getS hu (pe_disp (pps_cons pe_str pe_str (pps_cons pe_str pe_str (pps_cons pe_str pe_str (pps_cons pe_str pe_str pps_nil)))) (by rfl) (by rfl) (fun z => by cases z) (by decide)) (pe_ix ix_t (pv 0) pe_int (fun _ _ => rfl)) (fun _ _ => rfl)))
    (pss_one (ps_ret (pe_joinL pe_str (pe_lstX (pa_cons (pv 1) (pa_cons (pe_callF ih (hr.mono (by omega)) (by rfl) (pa_cons (pe_ix ix_t (pv 0) pe_int (fun _ _ => rfl)) pa_nil)) (pa_cons (pe_callF ih (hr.mono (by omega)) (by rfl) (pa_cons (pe_ix ix_t (pv 0) pe_int (fun _ _ => rfl)) pa_nil)) pa_nil))))))))))
theorem okG_L_part_text (T : Top w K mg c) : ∀ n : Nat, OkF P w K mg base (n + 0) "_law_part_text" ["_law_part_here"] (sp_L_part_text n)
  | 0 => (DefAt.none T.d_L_part_text (fun _ _ _ _ _ _ us hl => match us, hl with | [_], _ => rfl) no_L_part_text).mono (Nat.zero_le _)
  | n + 1 => ok_L_part_text T n (okG_L_part_text T n)
theorem okR_L_part_text (T : Top w K mg c) (n : Nat) : OkF P w K mg base (n + 0) "_law_part_text" ["_law_part_here"] (sp_L_part_text n) := (okG_L_part_text T n)

abbrev nm_L_lines : List Str := ["_law_one", "_law_deep", "_law_ahead", "_law_word", "_law_lines_here", "_law_part_here"]
theorem sc_L_lines : FnScope nm_L_lines ["_law_one", "_law_deep"] (defScope s_L_lines) := ⟨rfl, rfl, rfl, by decide +kernel, rfl, by decide +kernel, by decide +kernel⟩
theorem ok_L_lines (T : Top w K mg c) (n : Nat) (ih : OkF P w K mg base (n + 9) "_law_lines" ["_law_one", "_law_deep"] (sp_L_lines n)) : OkF P w K mg base (n + 1 + 9) "_law_lines" ["_law_one", "_law_deep"] (sp_L_lines (n + 1)) := by
  refine (DefAt.ok (k := n + 9) T.d_L_lines sc_L_lines (fun _ _ _ _ _ _ us hl => match us, hl with | [_, _], _ => rfl) len_L_lines (fun f cdv A outer s H vs Q E hr h => ⟨t_L_lines K n, ?_, fun z => rd_L_lines h⟩)).mono (by omega)
  have hu := hu_of hr
  exact (pss_cons (ps_set (i := 2) sc_L_lines.nd rfl (Or.inl rfl) (pe_op op_mulS pe_str (pv 1)))
    (pss_cons (ps_set (i := 3) sc_L_lines.nd rfl (Or.inl rfl) (pe_ix ix_t (pv 0) pe_int (fun _ _ => rfl)))
    (pss_cons (ps_if (pt_cmpR op_eq (pv 3) pe_str (nomark _)) (pss_cons (ps_set (i := 4) sc_L_lines.nd rfl (Or.inl rfl) (pe_lstX pa_nil))
    (pss_cons (ps_for PassesOwn.never rfl (pi_tup (pe_ix ix_t (pv 0) pe_int (fun _ _ => rfl))) (pg_name (i := 5) sc_L_lines.nd rfl (Or.inl rfl))
    (pss_one (ps_expr (pe_ext (pv 4) (pe_callF ih (hr.mono (by omega)) (by rfl) (pa_cons (pv 5) (pa_cons (pv 1) pa_nil)))))))
    (pss_one (ps_ret (pv 4))))) pss_nil)
    (pss_cons (ps_if (pt_cmpR op_eq (pv 3) pe_str (nomark _)) (pss_one (ps_ret (pe_lstX (pa_cons (pe_op op_addS (pe_op op_addS (pe_op op_addS (pe_op op_addS (pv 2) pe_str) (pe_ix ix_t (pv 0) pe_int (fun _ _ => rfl))) pe_str) (pe_callF (okR_L_part_text T 9) (hr.mono (by omega)) (by rfl) (pa_cons (pe_ix ix_t (pv 0) pe_int (fun _ _ => rfl)) pa_nil))) pa_nil)))) pss_nil)
    (pss_cons (ps_set (i := 4) sc_L_lines.nd rfl (Or.inl rfl) (pe_lstX (pa_cons (pe_op op_addS (pe_op op_addS (pe_op op_addS (pv 2) (pv 3)) pe_str) (pe_callF (okR_L_part_text T 9) (hr.mono (by omega)) (by rfl) (pa_cons (pe_ix ix_t (pv 0) pe_int (fun _ _ => rfl)) pa_nil))) pa_nil)))
    (pss_cons (ps_if (pt_cmpR op_inT (pv 3) (pe_tupX (pa_cons pe_str (pa_cons pe_str pa_nil))) (by rfl)) (pss_one (ps_expr (pe_ext (pv 4) (pe_callF ih (hr.mono (by omega)) (by rfl) (pa_cons (pe_ix ix_t (pv 0) pe_int (fun _ _ => rfl)) (pa_cons (pe_op op_add (pv 1) pe_int) pa_nil)))))) pss_nil)
    (pss_cons (ps_if (PW.pt (pw_and (pt_cmpR op_eq (pv 3) pe_str (nomark _)) (pw_and1 (pt_cmpR (op_neD hr.units) (pe_ix ix_t (pe_ix ix_t (pv 0) pe_int (fun _ _ => rfl)) pe_int (fun _ _ => rfl)) (pe_tupX pa_nil) (nomark _))))) (pss_cons (ps_expr (pe_app (pv 4) (pe_op op_addS (pv 2) pe_str)))
    (pss_one (ps_expr (pe_ext (pv 4) (pe_callF ih (hr.mono (by omega)) (by rfl) (pa_cons (pe_ix ix_t (pv 0) pe_int (fun _ _ => rfl)) (pa_cons (pe_op op_add (pv 1) pe_int) pa_nil))))))) pss_nil)
    (pss_one (ps_ret (pv 4))))))))))
theorem okG_L_lines (T : Top w K mg c) : ∀ n : Nat, OkF P w K mg base (n + 9) "_law_lines" ["_law_one", "_law_deep"] (sp_L_lines n)
  | 0 => (DefAt.none T.d_L_lines (fun _ _ _ _ _ _ us hl => match us, hl with | [_, _], _ => rfl) no_L_lines).mono (Nat.zero_le _)
  | n + 1 => ok_L_lines T n (okG_L_lines T n)
theorem okR_L_lines (T : Top w K mg c) (n : Nat) : OkF P w K mg base (n + 9) "_law_lines" ["_law_one", "_law_deep"] (sp_L_lines n) := (okG_L_lines T n)

abbrev nm_L_short : List Str := ["_law_box", "_law_program_here", "_law_deep", "_law_k", "_law_other"]
theorem sc_L_short : FnScope nm_L_short ["_law_box"] (defScope s_L_short) := ⟨rfl, rfl, rfl, by decide +kernel, rfl, by decide +kernel, by decide +kernel⟩
theorem ok_L_short (T : Top w K mg c) : OkF P w K mg base (36) "_law_short" ["_law_box"] sp_L_short := by
  refine DefAt.ok (k := 35) T.d_L_short sc_L_short (fun _ _ _ _ _ _ us hl => match us, hl with | [_], _ => rfl) len_L_short (fun f cdv A outer s H vs Q E hr h => ⟨t_L_short K, ?_, fun z => rd_L_short h⟩)
  have hu := hu_of hr
  exact (pss_cons (ps_if (pt_cmpR op_eq (pe_callF (ok_L_take T) (hr.mono (by decide)) (by rfl) (pa_cons (pv 0) (pa_cons pe_int pa_nil))) pe_int (nomark _)) (pss_one (ps_ret (pe_tupX (pa_cons pe_str (pa_cons (pe_tupX pa_nil) pa_nil))))) pss_nil)
    (pss_cons (ps_set (i := 1) sc_L_short.nd rfl (Or.inl rfl) (pe_callF (ok_L_program T) (hr.mono (by decide)) (by rfl) (pa_cons (pv 0) (pa_cons pe_int pa_nil))))
    (pss_cons (ps_if (pt_cmpR op_gt (pe_callB cl_lenL (by rfl) T.g_len (by decide +kernel) (pa_cons (pe_callF (okR_L_lines T 26) (hr.mono (by decide)) (by rfl) (pa_cons (pv 1) (pa_cons pe_int pa_nil))) pa_nil)) pe_int (nomark _)) (pss_one (ps_set (i := 1) sc_L_short.nd rfl (Or.inl rfl) (pe_tupX (pa_cons pe_str (pa_cons (pe_tupX (pa_cons (pe_tupX (pa_cons pe_str (pa_cons (pe_callF (okR_L_part T 6) (hr.mono (by decide)) (by rfl) (pa_cons (pv 0) (pa_cons pe_int pa_nil))) pa_nil))) pa_nil)) pa_nil))))) pss_nil)
    (pss_cons (ps_set (i := 2) sc_L_short.nd rfl (Or.inl rfl) (pe_callF (ok_L_take T) (hr.mono (by decide)) (by rfl) (pa_cons (pv 0) (pa_cons pe_int pa_nil))))
    (pss_cons (ps_if (pt_cmpR op_lt (pv 2) pe_int (nomark _)) (pss_cons (ps_set (i := 1) sc_L_short.nd rfl (Or.inl rfl) (pe_tupX (pa_cons pe_str (pa_cons (pe_tupX (pa_cons (pe_tupX (pa_cons pe_str (pa_cons (pe_ix ix_str pe_str (pe_callF (ok_L_take T) (hr.mono (by decide)) (by rfl) (pa_cons (pv 0) (pa_cons pe_int pa_nil))) (fun _ _ => rfl)) (pa_cons (pe_callF (okR_L_part T 6) (hr.mono (by decide)) (by rfl) (pa_cons (pv 0) (pa_cons pe_int pa_nil))) pa_nil)))) pa_nil)) pa_nil))))
    (pss_one (ps_for PassesOwn.never rfl (pi_range1 (by rfl) T.g_range (pa_cons (pe_op op_add (pv 2) pe_int) pa_nil)) (pg_name (i := 3) sc_L_short.nd rfl (Or.inl rfl))
    (pss_cons (ps_set (i := 4) sc_L_short.nd rfl (Or.inl rfl) (pe_ix ix_l (pe_lstX (pa_cons (pe_tupX (pa_cons pe_str (pa_cons (pe_tupX pa_nil) pa_nil))) (pa_cons (pe_tupX (pa_cons pe_str (pa_cons (pe_tupX (pa_cons (pe_tupX (pa_cons pe_str (pa_cons (pe_callF (okR_L_part T 6) (hr.mono (by decide)) (by rfl) (pa_cons (pv 0) (pa_cons pe_int pa_nil))) pa_nil))) pa_nil)) pa_nil))) pa_nil))) (pe_callF (ok_L_take T) (hr.mono (by decide)) (by rfl) (pa_cons (pv 0) (pa_cons pe_int pa_nil))) (fun _ _ => rfl)))
    (pss_one (ps_set (i := 1) sc_L_short.nd rfl (Or.inl rfl) (pe_tupX (pa_cons pe_str (pa_cons (pe_tupX (pa_cons (pe_op op_catX (pe_tupX (pa_cons (pe_ix ix_l (pe_lstX (pa_cons pe_str (pa_cons pe_str pa_nil))) (pe_op op_mod (pv 3) pe_int) (fun _ _ => rfl)) (pa_cons (pe_callF (okR_L_part T 6) (hr.mono (by decide)) (by rfl) (pa_cons (pv 0) (pa_cons pe_int pa_nil))) (pa_cons (pv 1) pa_nil)))) (pe_op op_mulT01 (pe_tupX (pa_cons (pv 4) pa_nil)) (pe_op op_mod (pv 3) pe_int))) pa_nil)) pa_nil))))))))) pss_nil)
    (pss_one (ps_ret (pv 1))))))))

abbrev nm_L_spoilt : List Str := ["_law_box", "_law_text_here", "_law_way", "_law_lines_here", "_law_k", "_law_pair", "_law_j", "_law_at", "_law_sign", "_law_cut"]
theorem sc_L_spoilt : FnScope nm_L_spoilt ["_law_box", "_law_text_here"] (defScope s_L_spoilt) := ⟨rfl, rfl, rfl, by decide +kernel, rfl, by decide +kernel, by decide +kernel⟩
theorem ok_L_spoilt (T : Top w K mg c) : OkF P w K mg base (2) "_law_spoilt" ["_law_box", "_law_text_here"] sp_L_spoilt := by
  refine DefAt.ok (k := 1) T.d_L_spoilt sc_L_spoilt (fun _ _ _ _ _ _ us hl => match us, hl with | [_, _], _ => rfl) len_L_spoilt (fun f cdv A outer s H vs Q E hr h => ⟨t_L_spoilt K, ?_, fun z => rd_L_spoilt h⟩)
  have hu := hu_of hr
  exact (pss_cons (ps_set (i := 2) sc_L_spoilt.nd rfl (Or.inl rfl) (pe_callF (ok_L_take T) (hr.mono (by decide)) (by rfl) (pa_cons (pv 0) (pa_cons pe_int pa_nil))))
    (pss_cons (ps_set (i := 3) sc_L_spoilt.nd rfl (Or.inl rfl) (pe_split (pv 1) pe_str))
    (pss_cons (ps_set (i := 4) sc_L_spoilt.nd rfl (Or.inl rfl) (pe_callF (ok_L_take T) (hr.mono (by decide)) (by rfl) (pa_cons (pv 0) (pa_cons (pe_callB cl_lenL (by rfl) T.g_len (by decide +kernel) (pa_cons (pv 3) pa_nil)) pa_nil))))
    (pss_cons (ps_if (pt_cmpR op_eq (pv 2) pe_int (nomark _)) (pss_one (ps_ret (pe_joinL pe_str (pe_op op_ct (pe_slice sl_l (pv 3) po_none (po_some (pv 4))) (pe_slice sl_l (pv 3) (po_some (pe_op op_add (pv 4) pe_int)) po_none))))) pss_nil)
    (pss_cons (ps_if (pt_cmpR op_eq (pv 2) pe_int (nomark _)) (pss_one (ps_ret (pe_joinL pe_str (pe_op op_ct (pe_op op_ct (pe_slice sl_l (pv 3) po_none (po_some (pv 4))) (pe_lstX (pa_cons (pe_ix ix_l (pv 3) (pv 4) (fun _ _ => rfl)) pa_nil))) (pe_slice sl_l (pv 3) (po_some (pv 4)) po_none))))) pss_nil)
    (pss_cons (ps_if (pt_cmpR op_eq (pv 2) pe_int (nomark _)) (pss_cons (ps_set (i := 5) sc_L_spoilt.nd rfl (Or.inl rfl) (pe_lstRev rfl (by rfl) T.g_list (by rfl) T.g_reversed (pe_slice sl_l (pv 3) (po_some (pv 4)) (po_some (pe_op op_add (pv 4) pe_int)))))
    (pss_one (ps_ret (pe_joinL pe_str (pe_op op_ct (pe_op op_ct (pe_slice sl_l (pv 3) po_none (po_some (pv 4))) (pv 5)) (pe_slice sl_l (pv 3) (po_some (pe_op op_add (pv 4) pe_int)) po_none)))))) pss_nil)
    (pss_cons (ps_for PassesOwn.never rfl (pi_range1 (by rfl) T.g_range (pa_cons (pe_op op_add pe_int (pe_callF (ok_L_take T) (hr.mono (by decide)) (by rfl) (pa_cons (pv 0) (pa_cons pe_int pa_nil)))) pa_nil)) (pg_name (i := 6) sc_L_spoilt.nd rfl (Or.inl rfl))
    (pss_cons (ps_set (i := 7) sc_L_spoilt.nd rfl (Or.inl rfl) (pe_callF (ok_L_take T) (hr.mono (by decide)) (by rfl) (pa_cons (pv 0) (pa_cons (pe_op op_add (pe_callB cl_lenS (by rfl) T.g_len (by decide +kernel) (pa_cons (pv 1) pa_nil)) pe_int) pa_nil))))
    (pss_cons (ps_set (i := 8) sc_L_spoilt.nd rfl (Or.inl rfl) (pe_ix ix_str pe_str (pe_callF (ok_L_take T) (hr.mono (by decide)) (by rfl) (pa_cons (pv 0) (pa_cons pe_int pa_nil))) (fun _ _ => rfl)))
    (pss_cons (ps_set (i := 9) sc_L_spoilt.nd rfl (Or.inl rfl) (pe_callF (ok_L_take T) (hr.mono (by decide)) (by rfl) (pa_cons (pv 0) (pa_cons pe_int pa_nil))))
    (pss_one (ps_set (i := 1) sc_L_spoilt.nd rfl (Or.inl rfl) (pe_op op_addS (pe_op op_addS (pe_slice sl_str (pv 1) po_none (po_some (pv 7))) (pe_ix ix_l (pe_lstX (pa_cons pe_str (pa_cons (pv 8) (pa_cons (pv 8) pa_nil)))) (pv 9) (fun _ _ => rfl))) (pe_slice sl_str (pv 1) (po_some (pe_op op_add (pv 7) (pe_ix ix_l (pe_lstX (pa_cons pe_int (pa_cons pe_int (pa_cons pe_int pa_nil)))) (pv 9) (fun _ _ => rfl)))) po_none))))))))
    (pss_one (ps_ret (pv 1))))))))))

abbrev nm_L_text_of : List Str := ["_law_box", "_law_kind", "_law_k", "_law_program_here", "_law_text_here"]
theorem sc_L_text_of : FnScope nm_L_text_of ["_law_box"] (defScope s_L_text_of) := ⟨rfl, rfl, rfl, by decide +kernel, rfl, by decide +kernel, by decide +kernel⟩
theorem ok_L_text_of (T : Top w K mg c) : OkF P w K mg base (37) "_law_text_of" ["_law_box"] sp_L_text_of := by
  refine DefAt.ok (k := 36) T.d_L_text_of sc_L_text_of (fun _ _ _ _ _ _ us hl => match us, hl with | [_], _ => rfl) len_L_text_of (fun f cdv A outer s H vs Q E hr h => ⟨t_L_text_of K, ?_, fun z => rd_L_text_of h⟩)
  have hu := hu_of hr
  exact (pss_cons (ps_set (i := 1) sc_L_text_of.nd rfl (Or.inl rfl) (pe_callF (ok_L_take T) (hr.mono (by decide)) (by rfl) (pa_cons (pv 0) (pa_cons pe_int pa_nil))))
    (pss_cons (ps_if (pt_cmpR op_eq (pv 1) pe_int (nomark _)) (pss_one (ps_ret (pe_joinL pe_str (pe_lc (own := [("_law_k", 2)]) rfl sc_L_text_of.nd (pi_range1 (by rfl) T.g_range (pa_cons (pe_op op_add pe_int (pe_callF (ok_L_take T) (hr.mono (by decide)) (by rfl) (pa_cons (pv 0) (pa_cons pe_int pa_nil)))) pa_nil)) (blkOk_by (own := [("_law_k", 2)]) (N := nm_L_text_of) (sc := defScope s_L_text_of) (by decide +kernel)) (fun _ _ _ _ _ => (pg_name (i := 2) sc_L_text_of.nd rfl (Or.inl rfl))) (fun _ _ _ _ _ => pts_nil) (fun _ _ _ _ _ => (pe_op op_addS pe_str (pe_callTy cl_strI (by rfl) T.g_str (by decide +kernel) (pa_cons (pv 2) pa_nil)))))))) pss_nil)
    (pss_cons (ps_set (i := 3) sc_L_text_of.nd rfl (Or.inl rfl) (pe_callF (ok_L_short T) (hr.mono (by decide)) (by rfl) (pa_cons (pv 0) pa_nil)))
    (pss_cons (ps_if (pt_cmpR op_eq (pv 1) pe_int (nomark _)) (pss_cons (ps_set (i := 3) sc_L_text_of.nd rfl (Or.inl rfl) (pe_tupX (pa_cons pe_str (pa_cons (pe_tupX (pa_cons (pe_tupX (pa_cons pe_str (pa_cons (pe_callF (okR_L_part T 6) (hr.mono (by decide)) (by rfl) (pa_cons (pv 0) (pa_cons pe_int pa_nil))) pa_nil))) pa_nil)) pa_nil))))
    (pss_one (ps_for PassesOwn.never rfl (pi_range1 (by rfl) T.g_range (pa_cons (pe_op op_add pe_int (pe_callF (ok_L_take T) (hr.mono (by decide)) (by rfl) (pa_cons (pv 0) (pa_cons pe_int pa_nil)))) pa_nil)) (pg_name (i := 2) sc_L_text_of.nd rfl (Or.inl rfl))
    (pss_one (ps_set (i := 3) sc_L_text_of.nd rfl (Or.inl rfl) (pe_tupX (pa_cons pe_str (pa_cons (pe_tupX (pa_cons (pe_tupX (pa_cons pe_str (pa_cons (pe_tupX (pa_cons pe_str (pa_cons (pv 2) pa_nil))) (pa_cons (pv 3) pa_nil)))) pa_nil)) pa_nil)))))))) pss_nil)
    (pss_cons (ps_set (i := 4) sc_L_text_of.nd rfl (Or.inl rfl) (pe_joinL pe_str (pe_callF (okR_L_lines T 26) (hr.mono (by decide)) (by rfl) (pa_cons (pv 3) (pa_cons pe_int pa_nil)))))
    (pss_cons (ps_if (pt_cmpR op_eq (pe_callF (ok_L_take T) (hr.mono (by decide)) (by rfl) (pa_cons (pv 0) (pa_cons pe_int pa_nil))) pe_int (nomark _)) (pss_one (ps_ret (pv 4))) pss_nil)
    (pss_one (ps_ret (pe_callF (ok_L_spoilt T) (hr.mono (by decide)) (by rfl) (pa_cons (pv 0) (pa_cons (pv 4) pa_nil)))))))))))

abbrev nm_L_good_part : List Str := ["_law_part_here", "_law_deep", "_law_good_here", "_law_s"]
theorem sc_L_good_part : FnScope nm_L_good_part ["_law_part_here", "_law_deep"] (defScope s_L_good_part) := ⟨rfl, rfl, rfl, by decide +kernel, rfl, by decide +kernel, by decide +kernel⟩
theorem ok_L_good_part (T : Top w K mg c) (n : Nat) (ih : OkF P w K mg base (n + 0) "_law_good_part" ["_law_part_here", "_law_deep"] (sp_L_good_part n)) : OkF P w K mg base (n + 1 + 0) "_law_good_part" ["_law_part_here", "_law_deep"] (sp_L_good_part (n + 1)) := by
  refine (DefAt.ok (k := n + 0) T.d_L_good_part sc_L_good_part (fun _ _ _ _ _ _ us hl => match us, hl with | [_, _], _ => rfl) len_L_good_part (fun f cdv A outer s H vs Q E hr h => ⟨t_L_good_part K n, ?_, fun z => rd_L_good_part h⟩)).mono (by omega)
  have hu := hu_of hr
  exact (pss_cons (ps_if (PW.pt (pw_or (pt_cmpR op_gt (pv 1) pe_int (nomark _)) (pw_or (pt_not (pt_val (pe_callB (cl_is (T := "tuple")) (by rfl) T.g_isinstance (by decide +kernel) (pa_cons (pv 0) (pa_cons (pe_bltn (by rfl) T.g_tuple (by decide +kernel) rfl) pa_nil))))) (pw_or (pt_cmpR op_lt (pe_callB cl_lenT (by rfl) T.g_len (by decide +kernel) (pa_cons (pv 0) pa_nil)) pe_int (nomark _)) (pw_or1 (pt_not (pt_val (pe_callB (cl_is (T := "str")) (by rfl) T.g_isinstance (by decide +kernel) (pa_cons (pe_ix ix_t (pv 0) pe_int (fun _ _ => rfl)) (pa_cons (pe_bltn (by rfl) T.g_str (by decide +kernel) rfl) pa_nil)))))))))) (pss_one (ps_ret pe_bl)) pss_nil)
    (pss_cons (ps_if (pt_cmpR op_inT (pe_ix ix_t (pv 0) pe_int (fun _ _ => rfl)) (pe_tupX (pa_cons pe_str (pa_cons pe_str (pa_cons pe_str (pa_cons pe_str pa_nil))))) (by rfl)) (pss_cons (ps_if (PW.pt (pw_or (pt_cmpR op_ne (pe_callB cl_lenT (by rfl) T.g_len (by decide +kernel) (pa_cons (pv 0) pa_nil)) pe_int (nomark _)) (pw_or1 (pt_not (pt_val (pe_callF ih (hr.mono (by omega)) (by rfl) (pa_cons (pe_ix ix_t (pv 0) pe_int (fun _ _ => rfl)) (pa_cons (pe_op op_add (pv 1) pe_int) pa_nil)))))))) (pss_one (ps_ret pe_bl)) pss_nil)
    (pss_one (ps_ret (pe_callF ih (hr.mono (by omega)) (by rfl) (pa_cons (pe_ix ix_t (pv 0) pe_int (fun _ _ => rfl)) (pa_cons (pe_op op_add (pv 1) pe_int) pa_nil)))))) pss_nil)
    (pss_cons (ps_if (pt_cmpR op_eq (pe_ix ix_t (pv 0) pe_int (fun _ _ => rfl)) pe_str (nomark _)) (pss_cons (ps_set (i := 2) sc_L_good_part.nd rfl (Or.inl rfl) (pe_and (pe_callB (cl_is (T := "int")) (by rfl) T.g_isinstance (by decide +kernel) (pa_cons (pe_ix ix_t (pv 0) pe_int (fun _ _ => rfl)) (pa_cons (pe_bltn (by rfl) T.g_int (by decide +kernel) rfl) pa_nil))) (pe_one (pe_not (pe_callB (cl_is (T := "bool")) (by rfl) T.g_isinstance (by decide +kernel) (pa_cons (pe_ix ix_t (pv 0) pe_int (fun _ _ => rfl)) (pa_cons (pe_bltn (by rfl) T.g_bool (by decide +kernel) rfl) pa_nil)))))))
    (pss_one (ps_ret (pe_and (pe_cmpR op_eq (pe_callB cl_lenT (by rfl) T.g_len (by decide +kernel) (pa_cons (pv 0) pa_nil)) pe_int (nomark _)) (pe_and (pv 2) (pe_and (pe_cmpR op_le pe_int (pe_ix ix_t (pv 0) pe_int (fun _ _ => rfl)) (nomark _)) (pe_one (pe_cmpR op_le (pe_ix ix_t (pv 0) pe_int (fun _ _ => rfl)) pe_int (nomark _))))))))) pss_nil)
    (pss_cons (ps_if (PW.pt (pw_or (pt_cmpR op_ninT (pe_ix ix_t (pv 0) pe_int (fun _ _ => rfl)) (pe_tupX (pa_cons pe_str (pa_cons pe_str pa_nil))) (by rfl)) (pw_or (pt_cmpR op_ne (pe_callB cl_lenT (by rfl) T.g_len (by decide +kernel) (pa_cons (pv 0) pa_nil)) pe_int (nomark _)) (pw_or1 (pt_not (pt_val (pe_callB (cl_is (T := "str")) (by rfl) T.g_isinstance (by decide +kernel) (pa_cons (pe_ix ix_t (pv 0) pe_int (fun _ _ => rfl)) (pa_cons (pe_bltn (by rfl) T.g_str (by decide +kernel) rfl) pa_nil))))))))) (pss_one (ps_ret pe_bl)) pss_nil)
    (pss_cons (ps_if (pt_cmpR op_eq (pe_ix ix_t (pv 0) pe_int (fun _ _ => rfl)) pe_str (nomark _)) (pss_one (ps_ret (pe_and (pe_cmpR op_eq (pe_callB cl_lenS (by rfl) T.g_len (by decide +kernel) (pa_cons (pe_ix ix_t (pv 0) pe_int (fun _ _ => rfl)) pa_nil)) pe_int (nomark _)) (pe_one (pe_cmpR op_inS1 (pe_ix ix_t (pv 0) pe_int (fun _ _ => rfl)) pe_str (by rfl)))))) pss_nil)
    (pss_one (ps_ret (pe_and (pe_cmpR op_lt (pe_callB cl_lenS (by rfl) T.g_len (by decide +kernel) (pa_cons (pe_ix ix_t (pv 0) pe_int (fun _ _ => rfl)) pa_nil)) pe_int (nomark _)) (pe_one (pe_cmpR (op_eqE hr.units) (pe_lc (own := [("_law_s", 3)]) rfl sc_L_good_part.nd (pi_str (pe_ix ix_t (pv 0) pe_int (fun _ _ => rfl))) (blkOk_by (own := [("_law_s", 3)]) (N := nm_L_good_part) (sc := defScope s_L_good_part) (by decide +kernel)) (fun _ _ _ _ _ => (pg_name (i := 3) sc_L_good_part.nd rfl (Or.inl rfl))) (fun _ _ _ _ _ => (pts_one (pt_cmpR op_ninS (pv 3) pe_str (by rfl)))) (fun _ _ _ _ _ => (pv 3))) (pe_lstX pa_nil) (nomark _)))))))))))
theorem okG_L_good_part (T : Top w K mg c) : ∀ n : Nat, OkF P w K mg base (n + 0) "_law_good_part" ["_law_part_here", "_law_deep"] (sp_L_good_part n)
  | 0 => (DefAt.none T.d_L_good_part (fun _ _ _ _ _ _ us hl => match us, hl with | [_, _], _ => rfl) no_L_good_part).mono (Nat.zero_le _)
  | n + 1 => ok_L_good_part T n (okG_L_good_part T n)
theorem okR_L_good_part (T : Top w K mg c) (n : Nat) : OkF P w K mg base (n + 0) "_law_good_part" ["_law_part_here", "_law_deep"] (sp_L_good_part n) := (okG_L_good_part T n)

abbrev nm_L_good : List Str := ["_law_one", "_law_deep", "_law_part_here"]
theorem sc_L_good : FnScope nm_L_good ["_law_one", "_law_deep"] (defScope s_L_good) := ⟨rfl, rfl, rfl, by decide +kernel, rfl, by decide +kernel, by decide +kernel⟩
theorem ok_L_good (T : Top w K mg c) (n : Nat) (ih : OkF P w K mg base (n + 6) "_law_good" ["_law_one", "_law_deep"] (sp_L_good n) ∧ OkF P w K mg base (n + 6) "_law_good_statement" ["_law_one", "_law_deep"] (sp_L_good_statement n)) : OkF P w K mg base (n + 1 + 6) "_law_good" ["_law_one", "_law_deep"] (sp_L_good (n + 1)) := by
  refine (DefAt.ok (k := n + 6) T.d_L_good sc_L_good (fun _ _ _ _ _ _ us hl => match us, hl with | [_, _], _ => rfl) len_L_good (fun f cdv A outer s H vs Q E hr h => ⟨t_L_good K n, ?_, fun z => rd_L_good h⟩)).mono (by omega)
  have hu := hu_of hr
  exact (pss_cons (ps_if (PW.pt (pw_or (pt_not (pt_val (pe_callB (cl_is (T := "tuple")) (by rfl) T.g_isinstance (by decide +kernel) (pa_cons (pv 0) (pa_cons (pe_bltn (by rfl) T.g_tuple (by decide +kernel) rfl) pa_nil))))) (pw_or (pt_cmpR op_ne (pe_callB cl_lenT (by rfl) T.g_len (by decide +kernel) (pa_cons (pv 0) pa_nil)) pe_int (nomark _)) (pw_or (pt_cmpR op_ne (pe_ix ix_t (pv 0) pe_int (fun _ _ => rfl)) pe_str (nomark _)) (pw_or1 (pt_not (pt_val (pe_callB (cl_is (T := "tuple")) (by rfl) T.g_isinstance (by decide +kernel) (pa_cons (pe_ix ix_t (pv 0) pe_int (fun _ _ => rfl)) (pa_cons (pe_bltn (by rfl) T.g_tuple (by decide +kernel) rfl) pa_nil)))))))))) (pss_one (ps_ret pe_bl)) pss_nil)
    (pss_one (ps_ret (pe_cmpR (op_eqE hr.units) (pe_lc (own := [("_law_part_here", 2)]) rfl sc_L_good.nd (pi_tup (pe_ix ix_t (pv 0) pe_int (fun _ _ => rfl))) (blkOk_by (own := [("_law_part_here", 2)]) (N := nm_L_good) (sc := defScope s_L_good) (by decide +kernel)) (fun _ _ _ _ _ => (pg_name (i := 2) sc_L_good.nd rfl (Or.inl rfl))) (fun _ _ _ _ _ => (pts_one (pt_not (pt_val (pe_callF ih.2 (hr.mono (by omega)) (by rfl) (pa_cons (pv 2) (pa_cons (pv 1) pa_nil))))))) (fun _ _ _ _ _ => (pv 2))) (pe_lstX pa_nil) (nomark _)))))

abbrev nm_L_good_statement : List Str := ["_law_one", "_law_deep", "_law_row_here"]
theorem sc_L_good_statement : FnScope nm_L_good_statement ["_law_one", "_law_deep"] (defScope s_L_good_statement) := ⟨rfl, rfl, rfl, by decide +kernel, rfl, by decide +kernel, by decide +kernel⟩
theorem ok_L_good_statement (T : Top w K mg c) (n : Nat) (ih : OkF P w K mg base (n + 6) "_law_good" ["_law_one", "_law_deep"] (sp_L_good n) ∧ OkF P w K mg base (n + 6) "_law_good_statement" ["_law_one", "_law_deep"] (sp_L_good_statement n)) : OkF P w K mg base (n + 1 + 6) "_law_good_statement" ["_law_one", "_law_deep"] (sp_L_good_statement (n + 1)) := by
  refine (DefAt.ok (k := n + 6) T.d_L_good_statement sc_L_good_statement (fun _ _ _ _ _ _ us hl => match us, hl with | [_, _], _ => rfl) len_L_good_statement (fun f cdv A outer s H vs Q E hr h => ⟨t_L_good_statement K n, ?_, fun z => rd_L_good_statement h⟩)).mono (by omega)
  have hu := hu_of hr
  exact (pss_cons (ps_if (PW.pt (pw_or (pt_not (pt_val (pe_callB (cl_is (T := "tuple")) (by rfl) T.g_isinstance (by decide +kernel) (pa_cons (pv 0) (pa_cons (pe_bltn (by rfl) T.g_tuple (by decide +kernel) rfl) pa_nil))))) (pw_or (pt_cmpR op_lt (pe_callB cl_lenT (by rfl) T.g_len (by decide +kernel) (pa_cons (pv 0) pa_nil)) pe_int (nomark _)) (pw_or1 (pt_not (pt_val (pe_callB (cl_is (T := "str")) (by rfl) T.g_isinstance (by decide +kernel) (pa_cons (pe_ix ix_t (pv 0) pe_int (fun _ _ => rfl)) (pa_cons (pe_bltn (by rfl) T.g_str (by decide +kernel) rfl) pa_nil))))))))) (pss_one (ps_ret pe_bl)) pss_nil)
    (pss_cons (ps_if (pt_cmpR op_eq (pe_ix ix_t (pv 0) pe_int (fun _ _ => rfl)) pe_str (nomark _)) (pss_one (ps_ret (pe_and (pe_cmpR op_eq (pe_callB cl_lenT (by rfl) T.g_len (by decide +kernel) (pa_cons (pv 0) pa_nil)) pe_int (nomark _)) (pe_one (pe_callF (okR_L_good_part T 6) (hr.mono (by omega)) (by rfl) (pa_cons (pe_ix ix_t (pv 0) pe_int (fun _ _ => rfl)) (pa_cons pe_int pa_nil))))))) pss_nil)
    (pss_cons (ps_if (pt_cmpR op_eq (pe_ix ix_t (pv 0) pe_int (fun _ _ => rfl)) pe_str (nomark _)) (pss_one (ps_ret (pe_and (pe_cmpR op_eq (pe_callB cl_lenT (by rfl) T.g_len (by decide +kernel) (pa_cons (pv 0) pa_nil)) pe_int (nomark _)) (pe_and (pe_callF (okR_L_good_part T 6) (hr.mono (by omega)) (by rfl) (pa_cons (pe_tupX (pa_cons pe_str (pa_cons (pe_ix ix_t (pv 0) pe_int (fun _ _ => rfl)) pa_nil))) (pa_cons pe_int pa_nil))) (pe_one (pe_callF (okR_L_good_part T 6) (hr.mono (by omega)) (by rfl) (pa_cons (pe_ix ix_t (pv 0) pe_int (fun _ _ => rfl)) (pa_cons pe_int pa_nil)))))))) pss_nil)
    (pss_cons (ps_if (PW.pt (pw_or (pt_cmpR op_eq (pv 1) pe_int (nomark _)) (pw_or (pt_cmpR op_ne (pe_callB cl_lenT (by rfl) T.g_len (by decide +kernel) (pa_cons (pv 0) pa_nil)) (pe_get2S hu (pe_disp (pps_cons pe_str pe_int (pps_cons pe_str pe_int pps_nil)) (by rfl) (by rfl) (fun z => by cases z) (by decide)) (pe_ix ix_t (pv 0) pe_int (fun _ _ => rfl)) pe_int) (nomark _)) (pw_or1 (pt_not (pt_val (pe_callF (okR_L_good_part T 6) (hr.mono (by omega)) (by rfl) (pa_cons (pe_ix ix_t (pv 0) pe_int (fun _ _ => rfl)) (pa_cons pe_int pa_nil))))))))) (pss_one (ps_ret pe_bl)) pss_nil)
    (pss_one (ps_ret (pe_cmpR (op_eqE hr.units) (pe_lc (own := [("_law_row_here", 2)]) rfl sc_L_good_statement.nd (pi_tup (pe_slice sl_tX (pv 0) (po_some pe_int) po_none)) (blkOk_by (own := [("_law_row_here", 2)]) (N := nm_L_good_statement) (sc := defScope s_L_good_statement) (by decide +kernel)) (fun _ _ _ _ _ => (pg_name (i := 2) sc_L_good_statement.nd rfl (Or.inl rfl))) (fun _ _ _ _ _ => (pts_one (pt_not (pt_val (pe_callF ih.1 (hr.mono (by omega)) (by rfl) (pa_cons (pv 2) (pa_cons (pe_op op_add (pv 1) pe_int) pa_nil))))))) (fun _ _ _ _ _ => (pv 2))) (pe_lstX pa_nil) (nomark _))))))))
theorem okG_L_good (T : Top w K mg c) : ∀ n : Nat, OkF P w K mg base (n + 6) "_law_good" ["_law_one", "_law_deep"] (sp_L_good n) ∧ OkF P w K mg base (n + 6) "_law_good_statement" ["_law_one", "_law_deep"] (sp_L_good_statement n)
  | 0 => ⟨(DefAt.none T.d_L_good (fun _ _ _ _ _ _ us hl => match us, hl with | [_, _], _ => rfl) no_L_good).mono (Nat.zero_le _), (DefAt.none T.d_L_good_statement (fun _ _ _ _ _ _ us hl => match us, hl with | [_, _], _ => rfl) no_L_good_statement).mono (Nat.zero_le _)⟩
  | n + 1 => ⟨ok_L_good T n (okG_L_good T n), ok_L_good_statement T n (okG_L_good T n)⟩
theorem okR_L_good (T : Top w K mg c) (n : Nat) : OkF P w K mg base (n + 6) "_law_good" ["_law_one", "_law_deep"] (sp_L_good n) := (okG_L_good T n).1
theorem okR_L_good_statement (T : Top w K mg c) (n : Nat) : OkF P w K mg base (n + 6) "_law_good_statement" ["_law_one", "_law_deep"] (sp_L_good_statement n) := (okG_L_good T n).2

theorem hk_Reader___init__ (T : Top w K mg c) : HkI P w K mg base CX0 (1) c.reader ["self", "lines"] (sp_Reader___init__ c) := by
  refine InitAt.okH (k := 0) T.d_Reader___init__ sc_Reader___init__ (fun _ _ _ _ _ _ us hl => match us, hl with | [_, _], _ => rfl) len_Reader___init__ (fun f cdv A outer s H vs Q E p hc hr h => ⟨t_Reader___init__ K c, ?_, fun z => rd_Reader___init__ h⟩)
  exact (pss_cons (ps_fldC T.cl_Reader T.na_Reader_lines (pv 0) (pv 1))
    (pss_one (ps_fldC T.cl_Reader T.na_Reader_at (pv 0) pe_int)))

theorem hk_Reader_here (T : Top w K mg c) : HkM P w K mg base CX0 (1) c.reader "here" ["self", "deep"] (sp_Reader_here c) := by
  refine MethAt.okH (k := 0) T.d_Reader_here sc_Reader_here (fun _ _ _ _ _ _ us hl => match us, hl with | [_, _], _ => rfl) len_Reader_here (fun f cdv A outer s H vs Q E p hc hr h => ⟨t_Reader_here K c, ?_, fun z => rd_Reader_here h⟩)
  exact (pss_cons (ps_if (pt_cmpR op_ge (pe_fldC T.cl_Reader T.na_Reader_at (pv 0)) (pe_callB cl_lenL (by rfl) T.g_len (by decide +kernel) (pa_cons (pe_fldC T.cl_Reader T.na_Reader_lines (pv 0)) pa_nil)) (nomark _)) (pss_one (ps_ret pe_str)) pss_nil)
    (pss_cons (ps_set (i := 2) sc_Reader_here.nd rfl (Or.inl rfl) (pe_ix ix_l (pe_fldC T.cl_Reader T.na_Reader_lines (pv 0)) (pe_fldC T.cl_Reader T.na_Reader_at (pv 0)) (fun _ _ => rfl)))
    (pss_cons (ps_set (i := 3) sc_Reader_here.nd rfl (Or.inl rfl) (pe_lstrip (pv 2) pe_str))
    (pss_cons (ps_if (pt_cmpR op_ne (pe_op op_sub (pe_callB cl_lenS (by rfl) T.g_len (by decide +kernel) (pa_cons (pv 2) pa_nil)) (pe_callB cl_lenS (by rfl) T.g_len (by decide +kernel) (pa_cons (pv 3) pa_nil))) (pe_op op_mul pe_int (pv 1)) (nomark _)) (pss_one (ps_ret pe_str)) pss_nil)
    (pss_one (ps_ret (pv 3)))))))

theorem hk_Words___init__ (T : Top w K mg c) : HkI P w K mg base CX0 (1) c.words ["self", "words"] (sp_Words___init__ c) := by
  refine InitAt.okH (k := 0) T.d_Words___init__ sc_Words___init__ (fun _ _ _ _ _ _ us hl => match us, hl with | [_, _], _ => rfl) len_Words___init__ (fun f cdv A outer s H vs Q E p hc hr h => ⟨t_Words___init__ K c, ?_, fun z => rd_Words___init__ h⟩)
  exact (pss_cons (ps_fldC T.cl_Words T.na_Words_words (pv 0) (pv 1))
    (pss_one (ps_fldC T.cl_Words T.na_Words_at (pv 0) pe_int)))

theorem hk_Words_take (T : Top w K mg c) : HkM P w K mg base (L2.CX P w) (1) c.words "take" ["self"] (sp_Words_take c) := by
  refine MethAt.okH (k := 0) T.d_Words_take sc_Words_take (fun _ _ _ _ _ _ us hl => match us, hl with | [_], _ => rfl) len_Words_take (fun f cdv A outer s H vs Q E p hc hr h => ⟨t_Words_take K c E, ?_, fun z => rd_Words_take h⟩)
  exact (pss_cons (ps_if (pt_cmpR op_ge (pe_fldC T.cl_Words T.na_Words_at (pv 0)) (pe_callB cl_lenL (by rfl) T.g_len (by decide +kernel) (pa_cons (pe_fldC T.cl_Words T.na_Words_words (pv 0)) pa_nil)) (nomark _)) (pss_one (ps_rzH T.x_Unread hc (takes_of rfl rfl rfl rfl) (by rfl))) pss_nil)
    (pss_cons (ps_fldC T.cl_Words T.na_Words_at (pv 0) (pe_op op_add (pe_fldC T.cl_Words T.na_Words_at (pv 0)) pe_int))
    (pss_one (ps_ret (pe_ix ix_l (pe_fldC T.cl_Words T.na_Words_words (pv 0)) (pe_op op_sub (pe_fldC T.cl_Words T.na_Words_at (pv 0)) pe_int) (fun _ _ => rfl))))))

theorem hk_Words_need_name (T : Top w K mg c) : HkM P w K mg base (L2.CX P w) (2) c.words "need_name" ["self"] (sp_Words_need_name c) := by
  refine MethAt.okH (k := 1) T.d_Words_need_name sc_Words_need_name (fun _ _ _ _ _ _ us hl => match us, hl with | [_], _ => rfl) len_Words_need_name (fun f cdv A outer s H vs Q E p hc hr h => ⟨t_Words_need_name K c E, ?_, fun z => rd_Words_need_name h⟩)
  exact (pss_cons (ps_set (i := 1) sc_Words_need_name.nd rfl (Or.inl rfl) (pe_methE0H (hk_Words_take T) (hr.mono (by decide)) hc T.cl_Words (takes_of rfl rfl rfl rfl) (pv 0)))
    (pss_cons (ps_if (PW.pt (pw_or (pt_cmpR op_ne (pe_callB cl_lenS (by rfl) T.g_len (by decide +kernel) (pa_cons (pv 1) pa_nil)) pe_int (nomark _)) (pw_or1 (pt_cmpR op_ninS (pv 1) (pe_str_glob rfl T.c_NAMES) (by rfl))))) (pss_one (ps_rzH T.x_Unread hc (takes_of rfl rfl rfl rfl) (by rfl))) pss_nil)
    (pss_one (ps_ret (pv 1)))))

theorem hk_text_of (T : Top w K mg c) : HkF P w K mg base (L2.CX P w) (1) "text_of" ["word"] (sp_text_of c) := by
  refine DefAt.okH (k := 0) T.d_text_of sc_text_of (fun _ _ _ _ _ _ us hl => match us, hl with | [_], _ => rfl) len_text_of (fun f cdv A outer s H vs Q E p hc hr h => ⟨t_text_of K c E, ?_, fun z => rd_text_of h⟩)
  exact (pss_cons (ps_if (pt_cmpR op_gt (pe_callB cl_lenS (by rfl) T.g_len (by decide +kernel) (pa_cons (pv 0) pa_nil)) (pe_int_glob rfl T.c_MOST_SIGNS) (nomark _)) (pss_one (ps_rzH T.x_Unread hc (takes_of rfl rfl rfl rfl) (by rfl))) pss_nil)
    (pss_cons (ps_forQ (passes_of rfl) hc (pi_strH (pv 0)) (pg_name (i := 1) sc_text_of.nd rfl (Or.inl rfl))
    (pss_one (ps_if (pt_cmpR op_ninS (pv 1) (pe_str_glob rfl T.c_LETTERS) (by rfl)) (pss_one (ps_rzH T.x_Unread hc (takes_of rfl rfl rfl rfl) (by rfl))) pss_nil)))
    (pss_one (ps_ret (pv 0)))))

theorem hk_number_of (T : Top w K mg c) : HkF P w K mg base (L2.CX P w) (1) "number_of" ["word"] (sp_number_of c) := by
  refine DefAt.okH (k := 0) T.d_number_of sc_number_of (fun _ _ _ _ _ _ us hl => match us, hl with | [_], _ => rfl) len_number_of (fun f cdv A outer s H vs Q E p hc hr h => ⟨t_number_of K c E, ?_, fun z => rd_number_of h⟩)
  exact (pss_cons (ps_if (PW.pt (pw_or (pt_not (pt_chain op_le op_le pe_int (pe_callB cl_lenS (by rfl) T.g_len (by decide +kernel) (pa_cons (pv 0) pa_nil)) pe_int)) (pw_or1 (PW.pt (pw_and (pt_cmpR op_eq (pe_ix ix_str (pv 0) pe_int (fun _ _ => rfl)) pe_str (nomark _)) (pw_and1 (pt_cmpR op_gt (pe_callB cl_lenS (by rfl) T.g_len (by decide +kernel) (pa_cons (pv 0) pa_nil)) pe_int (nomark _)))))))) (pss_one (ps_rzH T.x_Unread hc (takes_of rfl rfl rfl rfl) (by rfl))) pss_nil)
    (pss_cons (ps_forQ (passes_of rfl) hc (pi_strH (pv 0)) (pg_name (i := 1) sc_number_of.nd rfl (Or.inl rfl))
    (pss_one (ps_if (pt_cmpR op_ninS (pv 1) (pe_str_glob rfl T.c_FIGURES) (by rfl)) (pss_one (ps_rzH T.x_Unread hc (takes_of rfl rfl rfl rfl) (by rfl))) pss_nil)))
    (pss_one (ps_ret (pe_callTy cl_intS (by rfl) T.g_int (by decide +kernel) (pa_cons (pv 0) pa_nil))))))

theorem hk_Words_part (T : Top w K mg c) (n : Nat) (ih : HkM P w K mg base (L2.CX P w) (n + 1) c.words "part" ["self", "deep"] (sp_Words_part c n)) : HkM P w K mg base (L2.CX P w) (n + 1 + 1) c.words "part" ["self", "deep"] (sp_Words_part c (n + 1)) := by
  refine (MethAt.okH (k := n + 1) T.d_Words_part sc_Words_part (fun _ _ _ _ _ _ us hl => match us, hl with | [_, _], _ => rfl) len_Words_part (fun f cdv A outer s H vs Q E p hc hr h => ⟨t_Words_part K c n E, ?_, fun z => rd_Words_part h⟩)).mono (by omega)
  exact (pss_cons (ps_if (pt_cmpR op_gt (pv 1) (pe_int_glob rfl T.c_MOST_DEEP) (nomark _)) (pss_one (ps_rzH T.x_Unread hc (takes_of rfl rfl rfl rfl) (by rfl))) pss_nil)
    (pss_cons (ps_set (i := 2) sc_Words_part.nd rfl (Or.inr rfl) (pe_methE0H (hk_Words_take T) (hr.mono (by omega)) hc T.cl_Words (takes_of rfl rfl rfl rfl) (pv 0)))
    (pss_cons (ps_setLcH (i := 3) (own := [("sign", 4), ("mark", 5)]) hc sc_Words_part.nd rfl rfl (sw_true rfl rfl rfl (by decide +kernel)) (pi_sgQ T.sg2 (by rfl)) (blkOk_by (own := [("sign", 4), ("mark", 5)]) (N := nm_Words_part) (sc := defScope s_Words_part) (by decide +kernel)) (fun _ _ _ _ _ hq => (pg_tupH hq (pgs_cons (pg_name (i := 4) sc_Words_part.nd rfl (Or.inl rfl)) (pgs_cons (pg_name (i := 5) sc_Words_part.nd rfl (Or.inl rfl)) pgs_nil)))) (fun _ _ _ _ _ => (pts_one (pt_cmpR op_eq (pv 5) (pv 2) (nomark _)))) (fun _ _ _ _ _ => (pv 4)))
    (pss_cons (ps_if (pt_cmpR (op_neD (Hn.RoomH.units hr)) (pv 3) (pe_lstX pa_nil) (nomark _)) (pss_cons (ps_set (i := 6) sc_Words_part.nd rfl (Or.inl rfl) (pe_methEH ih (hr.mono (by omega)) hc T.cl_Words (takes_of rfl rfl rfl rfl) (pv 0) (pa_cons (pe_op op_add (pv 1) pe_int) pa_nil)))
    (pss_one (ps_ret (pe_tupX (pa_cons (pe_ix ix_l (pv 3) pe_int (fun _ _ => rfl)) (pa_cons (pv 6) (pa_cons (pe_methEH ih (hr.mono (by omega)) hc T.cl_Words (takes_of rfl rfl rfl rfl) (pv 0) (pa_cons (pe_op op_add (pv 1) pe_int) pa_nil)) pa_nil))))))) pss_nil)
    (pss_cons (ps_if (pt_cmpR op_eq (pe_slice sl_str (pv 2) po_none (po_some pe_int)) pe_str (nomark _)) (pss_one (ps_ret (pe_tupX (pa_cons pe_str (pa_cons (pe_callEH (hk_text_of T) (hr.mono (by omega)) hc (by rfl) (takes_of rfl rfl rfl rfl) (pa_cons (pe_slice sl_str (pv 2) (po_some pe_int) po_none) pa_nil)) pa_nil))))) pss_nil)
    (pss_cons (ps_if (PW.pt (pw_and (pt_cmpR op_eq (pe_callB cl_lenS (by rfl) T.g_len (by decide +kernel) (pa_cons (pv 2) pa_nil)) pe_int (nomark _)) (pw_and1 (pt_cmpR op_inS1 (pv 2) (pe_str_glob rfl T.c_NAMES) (by rfl))))) (pss_one (ps_ret (pe_tupX (pa_cons pe_str (pa_cons (pv 2) pa_nil))))) pss_nil)
    (pss_one (ps_ret (pe_tupX (pa_cons pe_str (pa_cons (pe_callEH (hk_number_of T) (hr.mono (by omega)) hc (by rfl) (takes_of rfl rfl rfl rfl) (pa_cons (pv 2) pa_nil)) pa_nil)))))))))))
theorem hkG_Words_part (T : Top w K mg c) : ∀ n : Nat, HkM P w K mg base (L2.CX P w) (n + 1) c.words "part" ["self", "deep"] (sp_Words_part c n)
  | 0 => (MethAt.noneH T.d_Words_part (fun _ _ _ _ _ _ us hl => match us, hl with | [_, _], _ => rfl) no_Words_part).mono (Nat.zero_le _)
  | n + 1 => hk_Words_part T n (hkG_Words_part T n)
theorem hkR_Words_part (T : Top w K mg c) (n : Nat) : HkM P w K mg base (L2.CX P w) (n + 1) c.words "part" ["self", "deep"] (sp_Words_part c n) := (hkG_Words_part T n)

theorem hk_Words_ended (T : Top w K mg c) : HkM P w K mg base (L2.CX P w) (1) c.words "ended" ["self"] (sp_Words_ended c) := by
  refine MethAt.okH (k := 0) T.d_Words_ended sc_Words_ended (fun _ _ _ _ _ _ us hl => match us, hl with | [_], _ => rfl) len_Words_ended (fun f cdv A outer s H vs Q E p hc hr h => ⟨t_Words_ended K c E, ?_, fun z => rd_Words_ended h⟩)
  exact (pss_one (ps_if (pt_cmpR op_lt (pe_fldC T.cl_Words T.na_Words_at (pv 0)) (pe_callB cl_lenL (by rfl) T.g_len (by decide +kernel) (pa_cons (pe_fldC T.cl_Words T.na_Words_words (pv 0)) pa_nil)) (nomark _)) (pss_one (ps_rzH T.x_Unread hc (takes_of rfl rfl rfl rfl) (by rfl))) pss_nil))

theorem hk_Reader_block (T : Top w K mg c) (n : Nat) (ih : HkM P w K mg base (L2.CX P w) (n + 8) c.reader "block" ["self", "deep"] (sp_Reader_block c n) ∧ HkM P w K mg base (L2.CX P w) (n + 8) c.reader "statement" ["self", "deep"] (sp_Reader_statement c n)) : HkM P w K mg base (L2.CX P w) (n + 1 + 8) c.reader "block" ["self", "deep"] (sp_Reader_block c (n + 1)) := by
  refine (MethAt.okH (k := n + 8) T.d_Reader_block sc_Reader_block (fun _ _ _ _ _ _ us hl => match us, hl with | [_, _], _ => rfl) len_Reader_block (fun f cdv A outer s H vs Q E p hc hr h => ⟨t_Reader_block K c n E, ?_, fun z => rd_Reader_block h⟩)).mono (by omega)
  exact (pss_cons (ps_if (pt_cmpR op_gt (pv 1) (pe_int_glob rfl T.c_MOST_DEEP) (nomark _)) (pss_one (ps_rzH T.x_Unread hc (takes_of rfl rfl rfl rfl) (by rfl))) pss_nil)
    (pss_cons (ps_set (i := 2) sc_Reader_block.nd rfl (Or.inl rfl) (pe_lstX pa_nil))
    (pss_cons (ps_while (passes_of rfl) (pt_cmpR op_ninT (pe_methCH (hk_Reader_here T) (hr.mono (by omega)) hc T.cl_Reader (pv 0) (pa_cons (pv 1) pa_nil)) (pe_tupX (pa_cons pe_str (pa_cons pe_str pa_nil))) (by rfl))
    (pss_one (ps_expr (pe_app (pv 2) (pe_methEH ih.2 (hr.mono (by omega)) hc T.cl_Reader (takes_of rfl rfl rfl rfl) (pv 0) (pa_cons (pv 1) pa_nil))))))
    (pss_one (ps_ret (pe_tupX (pa_cons pe_str (pa_cons (pe_callTy cl_tupL (by rfl) T.g_tuple (by decide +kernel) (pa_cons (pv 2) pa_nil)) pa_nil))))))))

theorem hk_Reader_statement (T : Top w K mg c) (n : Nat) (ih : HkM P w K mg base (L2.CX P w) (n + 8) c.reader "block" ["self", "deep"] (sp_Reader_block c n) ∧ HkM P w K mg base (L2.CX P w) (n + 8) c.reader "statement" ["self", "deep"] (sp_Reader_statement c n)) : HkM P w K mg base (L2.CX P w) (n + 1 + 8) c.reader "statement" ["self", "deep"] (sp_Reader_statement c (n + 1)) := by
  refine (MethAt.okH (k := n + 8) T.d_Reader_statement sc_Reader_statement (fun _ _ _ _ _ _ us hl => match us, hl with | [_, _], _ => rfl) len_Reader_statement (fun f cdv A outer s H vs Q E p hc hr h => ⟨t_Reader_statement K c n E, ?_, fun z => rd_Reader_statement h⟩)).mono (by omega)
  exact (pss_cons (ps_set (i := 2) sc_Reader_statement.nd rfl (Or.inl rfl) (pe_makeCH (hk_Words___init__ T) (hr.mono (by omega)) hc (by rfl) T.mg_Words (pa_cons (pe_split (pe_methCH (hk_Reader_here T) (hr.mono (by omega)) hc T.cl_Reader (pv 0) (pa_cons (pv 1) pa_nil)) pe_str) pa_nil)))
    (pss_cons (ps_fldC T.cl_Reader T.na_Reader_at (pv 0) (pe_op op_add (pe_fldC T.cl_Reader T.na_Reader_at (pv 0)) pe_int))
    (pss_cons (ps_set (i := 3) sc_Reader_statement.nd rfl (Or.inl rfl) (pe_methE0H (hk_Words_take T) (hr.mono (by omega)) hc T.cl_Words (takes_of rfl rfl rfl rfl) (pv 2)))
    (pss_cons (ps_if (pt_cmpR op_eq (pv 3) pe_str (nomark _)) (pss_cons (ps_set (i := 4) sc_Reader_statement.nd rfl (Or.inl rfl) (pe_methE0H (hk_Words_need_name T) (hr.mono (by omega)) hc T.cl_Words (takes_of rfl rfl rfl rfl) (pv 2)))
    (pss_cons (ps_set (i := 5) sc_Reader_statement.nd rfl (Or.inl rfl) (pe_methEH (hkR_Words_part T 7) (hr.mono (by omega)) hc T.cl_Words (takes_of rfl rfl rfl rfl) (pv 2) (pa_cons pe_int pa_nil)))
    (pss_cons (ps_expr (pe_methE0H (hk_Words_ended T) (hr.mono (by omega)) hc T.cl_Words (takes_of rfl rfl rfl rfl) (pv 2)))
    (pss_one (ps_ret (pe_tupX (pa_cons pe_str (pa_cons (pv 4) (pa_cons (pv 5) pa_nil))))))))) pss_nil)
    (pss_cons (ps_if (pt_cmpR op_ninT (pv 3) (pe_tupX (pa_cons pe_str (pa_cons pe_str (pa_cons pe_str pa_nil)))) (by rfl)) (pss_one (ps_rzH T.x_Unread hc (takes_of rfl rfl rfl rfl) (by rfl))) pss_nil)
    (pss_cons (ps_set (i := 5) sc_Reader_statement.nd rfl (Or.inl rfl) (pe_methEH (hkR_Words_part T 7) (hr.mono (by omega)) hc T.cl_Words (takes_of rfl rfl rfl rfl) (pv 2) (pa_cons pe_int pa_nil)))
    (pss_cons (ps_expr (pe_methE0H (hk_Words_ended T) (hr.mono (by omega)) hc T.cl_Words (takes_of rfl rfl rfl rfl) (pv 2)))
    (pss_cons (ps_if (pt_cmpR op_eq (pv 3) pe_str (nomark _)) (pss_one (ps_ret (pe_tupX (pa_cons pe_str (pa_cons (pv 5) pa_nil))))) pss_nil)
    (pss_cons (ps_set (i := 6) sc_Reader_statement.nd rfl (Or.inl rfl) (pe_methEH ih.1 (hr.mono (by omega)) hc T.cl_Reader (takes_of rfl rfl rfl rfl) (pv 0) (pa_cons (pe_op op_add (pv 1) pe_int) pa_nil)))
    (pss_cons (ps_if (pt_cmpR op_eq (pv 3) pe_str (nomark _)) (pss_one (ps_ret (pe_tupX (pa_cons pe_str (pa_cons (pv 5) (pa_cons (pv 6) pa_nil)))))) pss_nil)
    (pss_cons (ps_set (i := 7) sc_Reader_statement.nd rfl (Or.inl rfl) (pe_tupX (pa_cons pe_str (pa_cons (pe_tupX pa_nil) pa_nil))))
    (pss_cons (ps_if (pt_cmpR op_eq (pe_methCH (hk_Reader_here T) (hr.mono (by omega)) hc T.cl_Reader (pv 0) (pa_cons (pv 1) pa_nil)) pe_str (nomark _)) (pss_cons (ps_fldC T.cl_Reader T.na_Reader_at (pv 0) (pe_op op_add (pe_fldC T.cl_Reader T.na_Reader_at (pv 0)) pe_int))
    (pss_one (ps_set (i := 7) sc_Reader_statement.nd rfl (Or.inl rfl) (pe_methEH ih.1 (hr.mono (by omega)) hc T.cl_Reader (takes_of rfl rfl rfl rfl) (pv 0) (pa_cons (pe_op op_add (pv 1) pe_int) pa_nil))))) pss_nil)
    (pss_one (ps_ret (pe_tupX (pa_cons pe_str (pa_cons (pv 5) (pa_cons (pv 6) (pa_cons (pv 7) pa_nil)))))))))))))))))))
theorem hkG_Reader_block (T : Top w K mg c) : ∀ n : Nat, HkM P w K mg base (L2.CX P w) (n + 8) c.reader "block" ["self", "deep"] (sp_Reader_block c n) ∧ HkM P w K mg base (L2.CX P w) (n + 8) c.reader "statement" ["self", "deep"] (sp_Reader_statement c n)
  | 0 => ⟨(MethAt.noneH T.d_Reader_block (fun _ _ _ _ _ _ us hl => match us, hl with | [_, _], _ => rfl) no_Reader_block).mono (Nat.zero_le _), (MethAt.noneH T.d_Reader_statement (fun _ _ _ _ _ _ us hl => match us, hl with | [_, _], _ => rfl) no_Reader_statement).mono (Nat.zero_le _)⟩
  | n + 1 => ⟨hk_Reader_block T n (hkG_Reader_block T n), hk_Reader_statement T n (hkG_Reader_block T n)⟩
theorem hkR_Reader_block (T : Top w K mg c) (n : Nat) : HkM P w K mg base (L2.CX P w) (n + 8) c.reader "block" ["self", "deep"] (sp_Reader_block c n) := (hkG_Reader_block T n).1
theorem hkR_Reader_statement (T : Top w K mg c) (n : Nat) : HkM P w K mg base (L2.CX P w) (n + 8) c.reader "statement" ["self", "deep"] (sp_Reader_statement c n) := (hkG_Reader_block T n).2

theorem hk_part_text (T : Top w K mg c) (n : Nat) (ih : HkF P w K mg base CX0 (n + 0) "part_text" ["part"] (sp_part_text n)) : HkF P w K mg base CX0 (n + 1 + 0) "part_text" ["part"] (sp_part_text (n + 1)) := by
  refine (DefAt.okH (k := n + 0) T.d_part_text sc_part_text (fun _ _ _ _ _ _ us hl => match us, hl with | [_], _ => rfl) len_part_text (fun f cdv A outer s H vs Q E p hc hr h => ⟨t_part_text K n, ?_, fun z => rd_part_text h⟩)).mono (by omega)
  exact (pss_cons (ps_if (pt_cmpR op_eq (pe_ix ix_t (pv 0) pe_int (fun _ _ => rfl)) pe_str (nomark _)) (pss_one (ps_ret (pe_callTy cl_strI (by rfl) T.g_str (by decide +kernel) (pa_cons (pe_ix ix_t (pv 0) pe_int (fun _ _ => rfl)) pa_nil)))) pss_nil)
    (pss_cons (ps_if (pt_cmpR op_eq (pe_ix ix_t (pv 0) pe_int (fun _ _ => rfl)) pe_str (nomark _)) (pss_one (ps_ret (pe_op op_addS pe_str (pe_ix ix_t (pv 0) pe_int (fun _ _ => rfl))))) pss_nil)
    (pss_cons (ps_if (pt_cmpR op_eq (pe_ix ix_t (pv 0) pe_int (fun _ _ => rfl)) pe_str (nomark _)) (pss_one (ps_ret (pe_ix ix_t (pv 0) pe_int (fun _ _ => rfl)))) pss_nil)
    (pss_one (ps_ret (pe_op op_addS (pe_op op_addS (pe_op op_addS (pe_op op_addS (pe_sgn T.sg (by rfl) (pe_ix ix_t (pv 0) pe_int (fun _ _ => rfl)) (fun _ _ => rfl)) pe_str) (pe_callFH ih (hr.mono (by omega)) hc (by rfl) (pa_cons (pe_ix ix_t (pv 0) pe_int (fun _ _ => rfl)) pa_nil))) pe_str) (pe_callFH ih (hr.mono (by omega)) hc (by rfl) (pa_cons (pe_ix ix_t (pv 0) pe_int (fun _ _ => rfl)) pa_nil))))))))
theorem hkG_part_text (T : Top w K mg c) : ∀ n : Nat, HkF P w K mg base CX0 (n + 0) "part_text" ["part"] (sp_part_text n)
  | 0 => (DefAt.noneH T.d_part_text (fun _ _ _ _ _ _ us hl => match us, hl with | [_], _ => rfl) no_part_text).mono (Nat.zero_le _)
  | n + 1 => hk_part_text T n (hkG_part_text T n)
theorem hkR_part_text (T : Top w K mg c) (n : Nat) : HkF P w K mg base CX0 (n + 0) "part_text" ["part"] (sp_part_text n) := (hkG_part_text T n)

theorem hk_lines_of (T : Top w K mg c) (n : Nat) (ih : HkF P w K mg base CX0 (n + 9) "lines_of" ["one", "ahead"] (sp_lines_of n)) : HkF P w K mg base CX0 (n + 1 + 9) "lines_of" ["one", "ahead"] (sp_lines_of (n + 1)) := by
  refine (DefAt.okH (k := n + 9) T.d_lines_of sc_lines_of (fun _ _ _ _ _ _ us hl => match us, hl with | [_, _], _ => rfl) len_lines_of (fun f cdv A outer s H vs Q E p hc hr h => ⟨t_lines_of K n, ?_, fun z => rd_lines_of h⟩)).mono (by omega)
  exact (pss_cons (ps_set (i := 2) sc_lines_of.nd rfl (Or.inl rfl) (pe_ix ix_t (pv 0) pe_int (fun _ _ => rfl)))
    (pss_cons (ps_if (pt_cmpR op_eq (pv 2) pe_str (nomark _)) (pss_cons (ps_set (i := 3) sc_lines_of.nd rfl (Or.inl rfl) (pe_lstX pa_nil))
    (pss_cons (ps_forQ (passes_of rfl) hc (pi_tupH (pe_ix ix_t (pv 0) pe_int (fun _ _ => rfl))) (pg_name (i := 4) sc_lines_of.nd rfl (Or.inl rfl))
    (pss_one (ps_set (i := 3) sc_lines_of.nd rfl (Or.inl rfl) (pe_op op_ct (pv 3) (pe_callFH ih (hr.mono (by omega)) hc (by rfl) (pa_cons (pv 4) (pa_cons (pv 1) pa_nil)))))))
    (pss_one (ps_ret (pv 3))))) pss_nil)
    (pss_cons (ps_if (pt_cmpR op_eq (pv 2) pe_str (nomark _)) (pss_one (ps_ret (pe_lstX (pa_cons (pe_op op_addS (pe_op op_addS (pv 1) pe_str) (pe_callFH (hkR_part_text T 9) (hr.mono (by omega)) hc (by rfl) (pa_cons (pe_ix ix_t (pv 0) pe_int (fun _ _ => rfl)) pa_nil))) pa_nil)))) pss_nil)
    (pss_cons (ps_if (pt_cmpR op_eq (pv 2) pe_str (nomark _)) (pss_one (ps_ret (pe_lstX (pa_cons (pe_op op_addS (pe_op op_addS (pe_op op_addS (pe_op op_addS (pv 1) pe_str) (pe_ix ix_t (pv 0) pe_int (fun _ _ => rfl))) pe_str) (pe_callFH (hkR_part_text T 9) (hr.mono (by omega)) hc (by rfl) (pa_cons (pe_ix ix_t (pv 0) pe_int (fun _ _ => rfl)) pa_nil))) pa_nil)))) pss_nil)
    (pss_cons (ps_set (i := 5) sc_lines_of.nd rfl (Or.inl rfl) (pe_op op_addS (pv 1) pe_str))
    (pss_cons (ps_set (i := 3) sc_lines_of.nd rfl (Or.inl rfl) (pe_op op_ct (pe_lstX (pa_cons (pe_op op_addS (pe_op op_addS (pe_op op_addS (pv 1) (pv 2)) pe_str) (pe_callFH (hkR_part_text T 9) (hr.mono (by omega)) hc (by rfl) (pa_cons (pe_ix ix_t (pv 0) pe_int (fun _ _ => rfl)) pa_nil))) pa_nil)) (pe_callFH ih (hr.mono (by omega)) hc (by rfl) (pa_cons (pe_ix ix_t (pv 0) pe_int (fun _ _ => rfl)) (pa_cons (pv 5) pa_nil)))))
    (pss_cons (ps_if (PW.pt (pw_and (pt_cmpR op_eq (pv 2) pe_str (nomark _)) (pw_and1 (pt_cmpR (op_neD (Hn.RoomH.units hr)) (pe_ix ix_t (pv 0) pe_int (fun _ _ => rfl)) (pe_tupX (pa_cons pe_str (pa_cons (pe_tupX pa_nil) pa_nil))) (nomark _))))) (pss_one (ps_set (i := 3) sc_lines_of.nd rfl (Or.inl rfl) (pe_op op_ct (pe_op op_ct (pv 3) (pe_lstX (pa_cons (pe_op op_addS (pv 1) pe_str) pa_nil))) (pe_callFH ih (hr.mono (by omega)) hc (by rfl) (pa_cons (pe_ix ix_t (pv 0) pe_int (fun _ _ => rfl)) (pa_cons (pv 5) pa_nil)))))) pss_nil)
    (pss_one (ps_ret (pv 3))))))))))
theorem hkG_lines_of (T : Top w K mg c) : ∀ n : Nat, HkF P w K mg base CX0 (n + 9) "lines_of" ["one", "ahead"] (sp_lines_of n)
  | 0 => (DefAt.noneH T.d_lines_of (fun _ _ _ _ _ _ us hl => match us, hl with | [_, _], _ => rfl) no_lines_of).mono (Nat.zero_le _)
  | n + 1 => hk_lines_of T n (hkG_lines_of T n)
theorem hkR_lines_of (T : Top w K mg c) (n : Nat) : HkF P w K mg base CX0 (n + 9) "lines_of" ["one", "ahead"] (sp_lines_of n) := (hkG_lines_of T n)

theorem hk_program_text (T : Top w K mg c) : HkF P w K mg base CX0 (36) "program_text" ["program"] sp_program_text := by
  refine DefAt.okH (k := 35) T.d_program_text sc_program_text (fun _ _ _ _ _ _ us hl => match us, hl with | [_], _ => rfl) len_program_text (fun f cdv A outer s H vs Q E p hc hr h => ⟨t_program_text K, ?_, fun z => rd_program_text h⟩)
  exact (pss_one (ps_ret (pe_joinL pe_str (pe_callFH (hkR_lines_of T 26) (hr.mono (by decide)) hc (by rfl) (pa_cons (pv 0) (pa_cons pe_str pa_nil))))))

theorem hk_read_program (T : Top w K mg c) : HkF P w K mg base (L2.CX P w) (37) "read_program" ["text"] (sp_read_program c) := by
  refine DefAt.okH (k := 36) T.d_read_program sc_read_program (fun _ _ _ _ _ _ us hl => match us, hl with | [_], _ => rfl) len_read_program (fun f cdv A outer s H vs Q E p hc hr h => ⟨t_read_program K c E, ?_, fun z => rd_read_program h⟩)
  exact (pss_cons (ps_if (pt_cmpR op_eq (pv 0) pe_str (nomark _)) (pss_one (ps_ret (pe_tupX (pa_cons pe_str (pa_cons (pe_tupX pa_nil) pa_nil))))) pss_nil)
    (pss_cons (ps_set (i := 1) sc_read_program.nd rfl (Or.inl rfl) (pe_split (pv 0) pe_str))
    (pss_cons (ps_if (pt_cmpR op_gt (pe_callB cl_lenL (by rfl) T.g_len (by decide +kernel) (pa_cons (pv 1) pa_nil)) (pe_int_glob rfl T.c_MOST_LINES) (nomark _)) (pss_one (ps_rzH T.x_Unread hc (takes_of rfl rfl rfl rfl) (by rfl))) pss_nil)
    (pss_cons (ps_set (i := 2) sc_read_program.nd rfl (Or.inl rfl) (pe_methEH (hkR_Reader_block T 14) (hr.mono (by decide)) hc T.cl_Reader (takes_of rfl rfl rfl rfl) (pe_makeCH (hk_Reader___init__ T) (hr.mono (by decide)) hc (by rfl) T.mg_Reader (pa_cons (pv 1) pa_nil)) (pa_cons pe_int pa_nil)))
    (pss_cons (ps_if (pt_cmpR op_ne (pe_callFH (hk_program_text T) (hr.mono (by decide)) hc (by rfl) (pa_cons (pv 2) pa_nil)) (pv 0) (nomark _)) (pss_one (ps_rzH T.x_Unread hc (takes_of rfl rfl rfl rfl) (by rfl))) pss_nil)
    (pss_one (ps_ret (pv 2))))))))

theorem hk_L_refused (T : Top w K mg c) : HkF P w K mg base CX0 (38) "_law_refused" ["_law_text_here"] (sp_L_refused c) := by
  refine DefAt.okH (k := 37) T.d_L_refused sc_L_refused (fun _ _ _ _ _ _ us hl => match us, hl with | [_], _ => rfl) len_L_refused (fun f cdv A outer s H vs Q E p hc hr h => ⟨t_L_refused K c, ?_, fun z => rd_L_refused T.m_Unread T.k_V T.k_o h⟩)
  exact (pss_cons (L2H.ps_try_asH (i := 1) rfl rfl sc_L_refused.nd rfl rfl ⟨by rfl, by decide, .inl T.mg_HunchError⟩ takes0 (fun W pn xe hs tk _ => (pss_one (ps_expr (pe_callXH (hk_read_program T) (hr.mono (by decide)) (hotC_tr hc hs) (by rfl) tk (pa_cons (pv 0) pa_nil)))))
    (fun a oe cls d pn hz hf => pss_if fun e => by
      obtain ⟨rfl, rfl⟩ := e
      exact (pss_one (ps_ret (pe_and (pe_callB (call_isE T.ec hz hf) (by rfl) T.g_isinstance (by decide +kernel) (pa_cons (pv 1) (pa_cons (pe_glob (by rfl) T.mg_Unread rfl) pa_nil))) (pe_and (pe_callB (call_isE T.ec hz hf) (by rfl) T.g_isinstance (by decide +kernel) (pa_cons (pv 1) (pa_cons (pe_bltn (by rfl) T.g_ValueError (by decide +kernel) rfl) pa_nil))) (pe_one (pe_not (pe_callB (call_isE T.ec hz hf) (by rfl) T.g_isinstance (by decide +kernel) (pa_cons (pv 1) (pa_cons (pe_glob (by rfl) T.mg_NoTop rfl) pa_nil)))))))))))
    (pss_one (ps_ret pe_bl)))

abbrev nm_law : List Str := ["_law_script_here", "_law_box", "_law_many", "_law_text_here", "_law_k", "_law_due", "_law_word", "_law_told", "_law_lines_here"]
theorem sc_law : FnScope nm_law ["_law_script_here"] (defScope s_law) := ⟨rfl, rfl, rfl, by decide +kernel, rfl, by decide +kernel, by decide +kernel⟩
theorem ok_law (T : Top w K mg c) : OkF P w K mg base (41) "law" ["_law_script_here"] (sp_law K) := by
  refine DefAt.ok (k := 40) T.d_law sc_law (fun _ _ _ _ _ _ us hl => match us, hl with | [_], _ => rfl) len_law (fun f cdv A outer s H vs Q E hr h => ⟨t_law K c, ?_, fun z => rd_law T.m_UU h⟩)
  have hu := hu_of hr
  exact (pss_cons (ps_set (i := 1) sc_law.nd rfl (Or.inl rfl) (pe_callF (ok_L_script T) (hr.mono (by decide)) (by rfl) (pa_cons (pv 0) pa_nil)))
    (pss_cons (ps_set (i := 2) sc_law.nd rfl (Or.inl rfl) (pe_op op_add pe_int (pe_callF (ok_L_take T) (hr.mono (by decide)) (by rfl) (pa_cons (pv 1) (pa_cons pe_int pa_nil)))))
    (pss_cons (ps_set (i := 3) sc_law.nd rfl (Or.inl rfl) (pe_joinL pe_str (pe_lc (own := [("_law_k", 4)]) rfl sc_law.nd (pi_range1 (by rfl) T.g_range (pa_cons (pv 2) pa_nil)) (blkOk_by (own := [("_law_k", 4)]) (N := nm_law) (sc := defScope s_law) (by decide +kernel)) (fun _ _ _ _ _ => (pg_name (i := 4) sc_law.nd rfl (Or.inl rfl))) (fun _ _ _ _ _ => pts_nil) (fun _ _ _ _ _ => (pe_op op_addS pe_str (pe_callTy cl_strI (by rfl) T.g_str (by decide +kernel) (pa_cons (pv 4) pa_nil)))))))
    (pss_cons (ps_if (PW.pt (pw_and (pt_cmpR op_gt (pv 2) pe_int (nomark _)) (pw_and1 (pt_not (pt_val (pe_callF (ok_L_refused T) (hr.mono (by decide)) (by rfl) (pa_cons (pv 3) pa_nil))))))) (pss_one (ps_ret pe_bl)) pss_nil)
    (pss_cons (ps_set (i := 5) sc_law.nd rfl (Or.inl rfl) (pe_tupX (pa_cons pe_str (pa_cons (pe_callTy cl_tupL (by rfl) T.g_tuple (by decide +kernel) (pa_cons (pe_lc (own := [("_law_k", 4)]) rfl sc_law.nd (pi_range1 (by rfl) T.g_range (pa_cons (pv 2) pa_nil)) (blkOk_by (own := [("_law_k", 4)]) (N := nm_law) (sc := defScope s_law) (by decide +kernel)) (fun _ _ _ _ _ => (pg_name (i := 4) sc_law.nd rfl (Or.inl rfl))) (fun _ _ _ _ _ => pts_nil) (fun _ _ _ _ _ => (pe_tupX (pa_cons pe_str (pa_cons (pe_tupX (pa_cons pe_str (pa_cons (pv 4) pa_nil))) pa_nil))))) pa_nil)) pa_nil))))
    (pss_cons (ps_if (PW.pt (pw_and (pt_cmpR op_lt (pv 2) pe_int (nomark _)) (pw_and1 (pt_not (pt_val (pe_callF (okR_L_alike T 40) (hr.mono (by decide)) (by rfl) (pa_cons (pe_callN (ok_read_program T) (hr.mono (by decide)) (by rfl) takesN0 (pa_cons (pv 3) pa_nil)) (pa_cons (pv 5) pa_nil)))))))) (pss_one (ps_ret pe_bl)) pss_nil)
    (pss_cons (ps_set (i := 6) sc_law.nd rfl (Or.inl rfl) (pe_slice sl_str pe_str po_none (po_some (pe_op op_add pe_int (pe_callF (ok_L_take T) (hr.mono (by decide)) (by rfl) (pa_cons (pv 1) (pa_cons pe_int pa_nil)))))))
    (pss_cons (ps_if (pt_cmpR op_ne (pe_callF (ok_L_refused T) (hr.mono (by decide)) (by rfl) (pa_cons (pe_op op_addS pe_str (pv 6)) pa_nil)) (pe_cmpR op_gt (pe_callB cl_lenS (by rfl) T.g_len (by decide +kernel) (pa_cons (pv 6) pa_nil)) pe_int (nomark _)) (nomark _)) (pss_one (ps_ret pe_bl)) pss_nil)
    (pss_cons (ps_set (i := 3) sc_law.nd rfl (Or.inl rfl) (pe_callF (ok_L_text_of T) (hr.mono (by decide)) (by rfl) (pa_cons (pv 1) pa_nil)))
    (pss_cons (ps_set (i := 7) sc_law.nd rfl (Or.inl rfl) pe_non)
    (pss_cons (L2H.ps_try_onlyX rfl rfl ⟨by rfl, by decide, .inl T.mg_Unread⟩ (fun _ => PassesOwnAt.never) takes0 (fun W pn xe tk _ _ => (pss_one (ps_set (i := 7) sc_law.nd rfl (Or.inl rfl) (pe_callXN (ok_read_program T) (hr.mono (by decide)) (by rfl) tk (pa_cons (pv 3) pa_nil))))) (fun a oe cls d pn _ _ _ hc => (pss_one (ps_ret (pe_callFH (hk_L_refused T) (roomH_mark (hr.mono (by decide))) hc (by rfl) (pa_cons (pv 3) pa_nil))))))
    (pss_cons (ps_set (i := 8) sc_law.nd rfl (Or.inl rfl) (pe_split (pv 3) pe_str))
    (pss_one (ps_ret (pe_and (pe_callF (okR_L_good T 13) (hr.mono (by decide)) (by rfl) (pa_cons (pv 7) (pa_cons pe_int pa_nil))) (pe_and (pe_cmpR op_lt (pe_callB cl_lenL (by rfl) T.g_len (by decide +kernel) (pa_cons (pv 8) pa_nil)) pe_int (nomark _)) (pe_one (pe_cmpR op_eq (pe_joinL pe_str (pe_callF (okR_L_lines T 26) (hr.mono (by decide)) (by rfl) (pa_cons (pv 7) (pa_cons pe_int pa_nil)))) (pv 3) (nomark _)))))))))))))))))))

end

def caOf (K : PySem.W.Frag) : CA := ⟨He.ga K "Coder", He.ga K "State", He.ga K "Notes", He.ga K "Maker", He.ga K "Slots", He.ga K "Machine", He.ga K "Words", He.ga K "Reader", He.ga K "HunchError", He.ga K "Unread", He.ga K "NoTop"⟩
theorem top_of {K : PySem.W.Frag} {h : Heap} {mg : Str → Option Value} (X : K.In h) (G : h.Ns mainGlobals mg) {w : World} (ct : He.SaysT faAll fnAll tsE w K) (m : exE K = true) : Top w K mg (caOf K) where
  d_L_script := by
    obtain ⟨fd, F⟩ := ct.d.def_ 0 (d := mkD "_law_script" none "_law_script" s_L_script) rfl
    exact ⟨_, fd, F, He.glo_ok X G (ct.d.fact 0 (f := .glo "_law_script") rfl)⟩
  d_L_take := by
    obtain ⟨fd, F⟩ := ct.d.def_ 1 (d := mkD "_law_take" none "_law_take" s_L_take) rfl
    exact ⟨_, fd, F, He.glo_ok X G (ct.d.fact 1 (f := .glo "_law_take") rfl)⟩
  d_Reader___init__ := by
    obtain ⟨fd, F⟩ := ct.d.def_ 2 (d := mkD "Reader" (some "__init__") "Reader.__init__" s_Reader___init__) rfl
    exact ⟨_, fd, F, He.mkr_ok (ct.d.fact 60 (f := .mkr "Reader") rfl)⟩
  d_Reader_here := by
    obtain ⟨fd, F⟩ := ct.d.def_ 3 (d := mkD "Reader" (some "here") "Reader.here" s_Reader_here) rfl
    exact ⟨_, fd, F, He.meth_ok (ct.d.fact 57 (f := .meth "Reader" "here") rfl)⟩
  d_Words___init__ := by
    obtain ⟨fd, F⟩ := ct.d.def_ 4 (d := mkD "Words" (some "__init__") "Words.__init__" s_Words___init__) rfl
    exact ⟨_, fd, F, He.mkr_ok (ct.d.fact 52 (f := .mkr "Words") rfl)⟩
  d_Words_take := by
    obtain ⟨fd, F⟩ := ct.d.def_ 5 (d := mkD "Words" (some "take") "Words.take" s_Words_take) rfl
    exact ⟨_, fd, F, He.meth_ok (ct.d.fact 48 (f := .meth "Words" "take") rfl)⟩
  d_Words_need_name := by
    obtain ⟨fd, F⟩ := ct.d.def_ 6 (d := mkD "Words" (some "need_name") "Words.need_name" s_Words_need_name) rfl
    exact ⟨_, fd, F, He.meth_ok (ct.d.fact 49 (f := .meth "Words" "need_name") rfl)⟩
  d_text_of := by
    obtain ⟨fd, F⟩ := ct.d.def_ 7 (d := mkD "text_of" none "text_of" s_text_of) rfl
    exact ⟨_, fd, F, He.glo_ok X G (ct.d.fact 2 (f := .glo "text_of") rfl)⟩
  d_number_of := by
    obtain ⟨fd, F⟩ := ct.d.def_ 8 (d := mkD "number_of" none "number_of" s_number_of) rfl
    exact ⟨_, fd, F, He.glo_ok X G (ct.d.fact 3 (f := .glo "number_of") rfl)⟩
  d_Words_part := by
    obtain ⟨fd, F⟩ := ct.d.def_ 9 (d := mkD "Words" (some "part") "Words.part" s_Words_part) rfl
    exact ⟨_, fd, F, He.meth_ok (ct.d.fact 50 (f := .meth "Words" "part") rfl)⟩
  d_Words_ended := by
    obtain ⟨fd, F⟩ := ct.d.def_ 10 (d := mkD "Words" (some "ended") "Words.ended" s_Words_ended) rfl
    exact ⟨_, fd, F, He.meth_ok (ct.d.fact 51 (f := .meth "Words" "ended") rfl)⟩
  d_Reader_block := by
    obtain ⟨fd, F⟩ := ct.d.def_ 11 (d := mkD "Reader" (some "block") "Reader.block" s_Reader_block) rfl
    exact ⟨_, fd, F, He.meth_ok (ct.d.fact 58 (f := .meth "Reader" "block") rfl)⟩
  d_Reader_statement := by
    obtain ⟨fd, F⟩ := ct.d.def_ 12 (d := mkD "Reader" (some "statement") "Reader.statement" s_Reader_statement) rfl
    exact ⟨_, fd, F, He.meth_ok (ct.d.fact 59 (f := .meth "Reader" "statement") rfl)⟩
  d_part_text := by
    obtain ⟨fd, F⟩ := ct.d.def_ 13 (d := mkD "part_text" none "part_text" s_part_text) rfl
    exact ⟨_, fd, F, He.glo_ok X G (ct.d.fact 4 (f := .glo "part_text") rfl)⟩
  d_lines_of := by
    obtain ⟨fd, F⟩ := ct.d.def_ 14 (d := mkD "lines_of" none "lines_of" s_lines_of) rfl
    exact ⟨_, fd, F, He.glo_ok X G (ct.d.fact 5 (f := .glo "lines_of") rfl)⟩
  d_program_text := by
    obtain ⟨fd, F⟩ := ct.d.def_ 15 (d := mkD "program_text" none "program_text" s_program_text) rfl
    exact ⟨_, fd, F, He.glo_ok X G (ct.d.fact 6 (f := .glo "program_text") rfl)⟩
  d_read_program := by
    obtain ⟨fd, F⟩ := ct.d.def_ 16 (d := mkD "read_program" none "read_program" s_read_program) rfl
    exact ⟨_, fd, F, He.glo_ok X G (ct.d.fact 7 (f := .glo "read_program") rfl)⟩
  d_L_refused := by
    obtain ⟨fd, F⟩ := ct.d.def_ 17 (d := mkD "_law_refused" none "_law_refused" s_L_refused) rfl
    exact ⟨_, fd, F, He.glo_ok X G (ct.d.fact 8 (f := .glo "_law_refused") rfl)⟩
  d_L_alike := by
    obtain ⟨fd, F⟩ := ct.d.def_ 18 (d := mkD "_law_alike" none "_law_alike" s_L_alike) rfl
    exact ⟨_, fd, F, He.glo_ok X G (ct.d.fact 9 (f := .glo "_law_alike") rfl)⟩
  d_L_name := by
    obtain ⟨fd, F⟩ := ct.d.def_ 19 (d := mkD "_law_name" none "_law_name" s_L_name) rfl
    exact ⟨_, fd, F, He.glo_ok X G (ct.d.fact 10 (f := .glo "_law_name") rfl)⟩
  d_L_text := by
    obtain ⟨fd, F⟩ := ct.d.def_ 20 (d := mkD "_law_text" none "_law_text" s_L_text) rfl
    exact ⟨_, fd, F, He.glo_ok X G (ct.d.fact 11 (f := .glo "_law_text") rfl)⟩
  d_L_part := by
    obtain ⟨fd, F⟩ := ct.d.def_ 21 (d := mkD "_law_part" none "_law_part" s_L_part) rfl
    exact ⟨_, fd, F, He.glo_ok X G (ct.d.fact 12 (f := .glo "_law_part") rfl)⟩
  d_L_row := by
    obtain ⟨fd, F⟩ := ct.d.def_ 22 (d := mkD "_law_row" none "_law_row" s_L_row) rfl
    exact ⟨_, fd, F, He.glo_ok X G (ct.d.fact 13 (f := .glo "_law_row") rfl)⟩
  d_L_statement := by
    obtain ⟨fd, F⟩ := ct.d.def_ 23 (d := mkD "_law_statement" none "_law_statement" s_L_statement) rfl
    exact ⟨_, fd, F, He.glo_ok X G (ct.d.fact 14 (f := .glo "_law_statement") rfl)⟩
  d_L_counted := by
    obtain ⟨fd, F⟩ := ct.d.def_ 24 (d := mkD "_law_counted" none "_law_counted" s_L_counted) rfl
    exact ⟨_, fd, F, He.glo_ok X G (ct.d.fact 15 (f := .glo "_law_counted") rfl)⟩
  d_L_program := by
    obtain ⟨fd, F⟩ := ct.d.def_ 25 (d := mkD "_law_program" none "_law_program" s_L_program) rfl
    exact ⟨_, fd, F, He.glo_ok X G (ct.d.fact 16 (f := .glo "_law_program") rfl)⟩
  d_L_part_text := by
    obtain ⟨fd, F⟩ := ct.d.def_ 26 (d := mkD "_law_part_text" none "_law_part_text" s_L_part_text) rfl
    exact ⟨_, fd, F, He.glo_ok X G (ct.d.fact 17 (f := .glo "_law_part_text") rfl)⟩
  d_L_lines := by
    obtain ⟨fd, F⟩ := ct.d.def_ 27 (d := mkD "_law_lines" none "_law_lines" s_L_lines) rfl
    exact ⟨_, fd, F, He.glo_ok X G (ct.d.fact 18 (f := .glo "_law_lines") rfl)⟩
  d_L_short := by
    obtain ⟨fd, F⟩ := ct.d.def_ 28 (d := mkD "_law_short" none "_law_short" s_L_short) rfl
    exact ⟨_, fd, F, He.glo_ok X G (ct.d.fact 19 (f := .glo "_law_short") rfl)⟩
  d_L_spoilt := by
    obtain ⟨fd, F⟩ := ct.d.def_ 29 (d := mkD "_law_spoilt" none "_law_spoilt" s_L_spoilt) rfl
    exact ⟨_, fd, F, He.glo_ok X G (ct.d.fact 20 (f := .glo "_law_spoilt") rfl)⟩
  d_L_text_of := by
    obtain ⟨fd, F⟩ := ct.d.def_ 30 (d := mkD "_law_text_of" none "_law_text_of" s_L_text_of) rfl
    exact ⟨_, fd, F, He.glo_ok X G (ct.d.fact 21 (f := .glo "_law_text_of") rfl)⟩
  d_L_good_part := by
    obtain ⟨fd, F⟩ := ct.d.def_ 31 (d := mkD "_law_good_part" none "_law_good_part" s_L_good_part) rfl
    exact ⟨_, fd, F, He.glo_ok X G (ct.d.fact 22 (f := .glo "_law_good_part") rfl)⟩
  d_L_good := by
    obtain ⟨fd, F⟩ := ct.d.def_ 32 (d := mkD "_law_good" none "_law_good" s_L_good) rfl
    exact ⟨_, fd, F, He.glo_ok X G (ct.d.fact 23 (f := .glo "_law_good") rfl)⟩
  d_L_good_statement := by
    obtain ⟨fd, F⟩ := ct.d.def_ 33 (d := mkD "_law_good_statement" none "_law_good_statement" s_L_good_statement) rfl
    exact ⟨_, fd, F, He.glo_ok X G (ct.d.fact 24 (f := .glo "_law_good_statement") rfl)⟩
  d_law := by
    obtain ⟨fd, F⟩ := ct.d.def_ 34 (d := mkD "law" none "law" s_law) rfl
    exact ⟨_, fd, F, He.glo_ok X G (ct.d.fact 25 (f := .glo "law") rfl)⟩
  cl_Words := He.cls_ok (ct.d.fact 47 (f := .cls "Words") rfl)
  mg_Words := He.glo_ok X G (ct.d.fact 46 (f := .glo "Words") rfl)
  na_Words_words := He.noat_ok (ct.d.fact 53 (f := .noat "Words" "words") rfl)
  na_Words_at := He.noat_ok (ct.d.fact 54 (f := .noat "Words" "at") rfl)
  cl_Reader := He.cls_ok (ct.d.fact 56 (f := .cls "Reader") rfl)
  mg_Reader := He.glo_ok X G (ct.d.fact 55 (f := .glo "Reader") rfl)
  na_Reader_lines := He.noat_ok (ct.d.fact 61 (f := .noat "Reader" "lines") rfl)
  na_Reader_at := He.noat_ok (ct.d.fact 62 (f := .noat "Reader" "at") rfl)
  g_len := He.free_ok X G (ct.d.fact 26 (f := .free "len") rfl)
  g_range := He.free_ok X G (ct.d.fact 27 (f := .free "range") rfl)
  g_isinstance := He.free_ok X G (ct.d.fact 28 (f := .free "isinstance") rfl)
  g_int := He.free_ok X G (ct.d.fact 29 (f := .free "int") rfl)
  g_str := He.free_ok X G (ct.d.fact 30 (f := .free "str") rfl)
  g_list := He.free_ok X G (ct.d.fact 31 (f := .free "list") rfl)
  g_tuple := He.free_ok X G (ct.d.fact 32 (f := .free "tuple") rfl)
  g_dict := He.free_ok X G (ct.d.fact 33 (f := .free "dict") rfl)
  g_sum := He.free_ok X G (ct.d.fact 34 (f := .free "sum") rfl)
  g_enumerate := He.free_ok X G (ct.d.fact 35 (f := .free "enumerate") rfl)
  g_sorted := He.free_ok X G (ct.d.fact 36 (f := .free "sorted") rfl)
  g_bool := He.free_ok X G (ct.d.fact 37 (f := .free "bool") rfl)
  g_reversed := He.free_ok X G (ct.d.fact 38 (f := .free "reversed") rfl)
  c_NAMES := He.str_ok X G (ct.d.fact 39 (f := .str "NAMES" "abcdefgh") rfl)
  c_LETTERS := He.str_ok X G (ct.d.fact 40 (f := .str "LETTERS" "abcdefghijklmnopqrstuvwxyz") rfl)
  c_FIGURES := He.str_ok X G (ct.d.fact 41 (f := .str "FIGURES" "0123456789") rfl)
  c_MOST_LINES := He.int_ok X G (ct.d.fact 43 (f := .int "MOST_LINES" 60) rfl)
  c_MOST_DEEP := He.int_ok X G (ct.d.fact 44 (f := .int "MOST_DEEP" 5) rfl)
  c_MOST_SIGNS := He.int_ok X G (ct.d.fact 45 (f := .int "MOST_SIGNS" 12) rfl)
  x_Unread := (fun q => ⟨q.1, He.glo_ok X G (ct.d.fact 64 (f := .glo "Unread") rfl), q.2.1, q.2.2.1, q.2.2.2⟩) (He.exc_ok (ct.d.fact 66 (f := .exc "Unread") rfl))
  m_Unread := He.exm_ok (ct.d.fact 67 (f := .exm "Unread" "HunchError" true) rfl)
  mg_HunchError := He.glo_ok X G (ct.d.fact 63 (f := .glo "HunchError") rfl)
  mg_Unread := He.glo_ok X G (ct.d.fact 64 (f := .glo "Unread") rfl)
  mg_NoTop := He.glo_ok X G (ct.d.fact 65 (f := .glo "NoTop") rfl)
  g_ValueError := He.free_ok X G (ct.d.fact 68 (f := .free "ValueError") rfl)
  ec := excCB_ok (He.ba (He.ba m).1).1
  k_V := of_decide_eq_true (He.ba (He.ba (He.ba m).1).2).1
  k_o := of_decide_eq_true (He.ba (He.ba (He.ba (He.ba m).1).2).2).1
  k_h := of_decide_eq_true (He.ba (He.ba (He.ba (He.ba m).1).2).2).2
  m_UU := He.exm_ok (ct.d.fact 69 (f := .exm "Unread" "Unread" true) rfl)
  sg := by
    obtain ⟨es, n, D⟩ := ct.tab 0 (t := (fun K => He.ga K "SIGNS", ["add", "sub", "less", "same"])) rfl
    refine ⟨He.ga K "SIGNS", He.glo_ok X G (ct.d.fact 42 (f := .glo "SIGNS") rfl), fun s => ?_⟩
    have hv : ∀ {q : Str × He.Dv}, q ∈ ([("add", .str "+"), ("sub", .str "-"), ("less", .str "<"), ("same", .str "=")] : List (Str × He.Dv)) → ∃ u, PySem.W.nsIn K (He.ga K "SIGNS") q.1 = some (some u) ∧ RelV (q.2.v K) u := fun hq => He.valsB_ok (He.ba (He.ba m).2).1 hq
    cases s with
    | add => obtain ⟨u, h1, h2⟩ := hv (q := ("add", .str "+")) (by simp); exact ⟨es, n, u, D.at_, D.lit, h1, h2⟩
    | sub => obtain ⟨u, h1, h2⟩ := hv (q := ("sub", .str "-")) (by simp); exact ⟨es, n, u, D.at_, D.lit, h1, h2⟩
    | less => obtain ⟨u, h1, h2⟩ := hv (q := ("less", .str "<")) (by simp); exact ⟨es, n, u, D.at_, D.lit, h1, h2⟩
    | same => obtain ⟨u, h1, h2⟩ := hv (q := ("same", .str "=")) (by simp); exact ⟨es, n, u, D.at_, D.lit, h1, h2⟩
  sg2 := by
    obtain ⟨es, n, D⟩ := ct.tab 0 (t := (fun K => He.ga K "SIGNS", ["add", "sub", "less", "same"])) rfl
    refine ⟨He.ga K "SIGNS", es, n, He.glo_ok X G (ct.d.fact 42 (f := .glo "SIGNS") rfl), D.at_, D.lit, D.low, ?_⟩
    have h := sgEnt_ok (He.ba (He.ba m).2).2 D.at_
    have e : kst0 = kstr := by funext v; cases v <;> rfl
    rw [e] at h
    rw [h]
    decide +kernel
theorem facts {P : Program} {w : World} {K : PySem.W.Frag} {h : Heap} {mg : Str → Option Value} {f : Addr} (X : K.In h) (G : h.Ns mainGlobals mg) (hfa : mg ("law" : Str) = some (.ref f)) (ct : He.SaysT faAll fnAll tsE w K) (m : exE K = true) :
    ∃ fd : FuncData, (∀ (s : Shared) (v : Value), BindsTo s fd ⟨[v], []⟩ [("_law_script_here", v)]) ∧ ∀ base : Heap, K.In base → base.Ns mainGlobals mg → FnOk P w K mg base CX0 41 f fd ["_law_script_here"] (sp_law K) := by
  have T := top_of X G ct m
  have c := ct.d
  obtain ⟨fd, F⟩ := c.def_ 34 (d := mkD "law" none "law" s_law) rfl
  have e := hfa.symm.trans (He.glo_ok X G (c.fact 25 (f := .glo "law") rfl))
  have b := FunD.bindsA (ps := ["_law_script_here"]) F fun _ _ _ _ _ _ us hl => match us, hl with | [_], _ => rfl
  cases e
  refine ⟨fd, fun s v => b s [v] rfl, fun base _ _ => ?_⟩
  obtain ⟨f', fd', F', hm, kp, _, fa⟩ := ok_law (P := P) (w := w) (base := base) T
  have e1 := hm.symm.trans hfa
  cases e1
  have e2 := fa.uni (funcAt F)
  cases e2
  exact F'
end Hn
open PySem PySem.W PySem.Calls PyProof.Rows
theorem PySem.Challenge.cw_hunch_k15_whole_texts_read_holds : PySem.Challenge.rw_hunch_k15_whole_texts_read.Holds := by
  w_on; o_law
  refine HandSHeadRun.head_any (r := OpenLaw.row PySem.Challenge.rw_hunch_k15_whole_texts_read) (q := view (OpenLaw.row PySem.Challenge.rw_hunch_k15_whole_texts_read).prog [42]) (H := Hn.hkE) (ob := Hn.obE) (M := 20000) (loose := Hn.looseE) (d := HandSHeadRun.topDef (OpenLaw.row PySem.Challenge.rw_hunch_k15_whole_texts_read).prog 42) (kwd := []) Hn.obE_eq
    (by kernel_rfl) (fun s => by kernel_rfl) Hn.runE (by kernel_rfl) (by kernel_rfl) (by kernel_rfl) (by rfl) (by first | assumption | decide +kernel) (by decide +kernel) ⟨rfl, rfl, rfl, rfl, rfl, by decide +kernel⟩ ?hw ?hc
  case hw => w_witness2
  case hc =>
    refine L2.walk_ofE (l := PySem.Challenge.rw_hunch_k15_whole_texts_read) (n := 63) (k := 41) (x := "_law_script_here") (CX := L2.CX0) rfl (by decide) (by kernel_rfl) ⟨rfl, by decide, by decide⟩ ?F (fun _ _ _ _ z => z)
    intro w mg fa h Y G hmg0
    obtain ⟨K, KX, c⟩ := Y
    have hmg : mg ("law" : PySem.Str) = some (.ref fa) := by
      have e : (HandSHeadRun.topDef (OpenLaw.row PySem.Challenge.rw_hunch_k15_whole_texts_read).prog 42).name = ("law" : PySem.Str) := by kernel_rfl
      rw [← e]
      exact hmg0
    obtain ⟨fd, hb, hF⟩ := Hn.facts (P := (PySem.Challenge.rw_hunch_k15_whole_texts_read).prog) (w := w) KX G hmg c.t c.more
    exact ⟨K, fd, Hn.sp_law K, KX, hb, fun H a ns hl _ hS => ⟨a, ns, rfl, hS, hl, fun _ => rfl⟩, hF⟩


