import PyProof.Rows.All
import Wide.All
import OpenK.AllK
import Wide.FinOn
import HandS.ForMost
import HandS.Codes
import HandS.Deep
import HandS.SortInts
import HandS.IsInst
import HandS.Flow
import HandS.More
import HandS.Walk
import PySem.Challenge.RW_driftkept_k09_whole_epochs
set_option Elab.async false
set_option linter.all false
set_option maxRecDepth 100000
set_option maxHeartbeats 4000000
namespace Dk
open PySem PyProof.Rows L2
open C8 (Cal Met Mak pe_c pe_mk pe_mt pe_mt0 tCut pss_cut fnBody fnArgs fnScope clsBody fn0)

/-! ### the text by places -/
def top (i : Nat) : Stmt := PySem.Challenge.pw_driftkept_k09_whole_epochs.main.body.getD i (.Pass ⟨0, 0, 0, 0⟩)
def inC (i j : Nat) : Stmt := (clsBody (top i)).getD j (.Pass ⟨0, 0, 0, 0⟩)

/-! ### defs as hypotheses -/
structure MDef (K : PySem.W.Frag) (C : Addr) (m qual : Str) (st : Stmt) (ps : List Str) : Prop where
  ex : ∃ (f : Addr) (fd : FuncData), Cls K C ∧ Meth K C m f ∧ C8.Fun K m qual st f fd ∧ Binds K fd ps []
structure FDef (K : PySem.W.Frag) (mg : Str → Option Value) (x : Str) (st : Stmt) (ps : List Str) : Prop where
  ex : ∃ (f : Addr) (fd : FuncData), mg x = some (.ref f) ∧ PySem.W.keepIn K (.ref f) = true ∧ C8.Fun K x x st f fd ∧ Binds K fd ps []
structure KDef (K : PySem.W.Frag) (mg : Str → Option Value) (x : Str) (C : Addr) (qual : Str) (st : Stmt) (ps : List Str) : Prop where
  ex : ∃ (f : Addr) (fd : FuncData), Mk K C f ∧ mg x = some (.ref C) ∧ C8.Fun K "__init__" qual st f fd ∧ Binds K fd ps []
section
variable {P : Program} {w : World} {K : PySem.W.Frag} {mg : Str → Option Value} {base : Heap}
abbrev Body (P : Program) (w : World) (K : PySem.W.Frag) (mg : Str → Option Value) (base : Heap) (qual : Str) (st : Stmt) (N : List Str) (k : Nat) (sp : Sp) : Prop :=
  ∀ (f : Addr) (cdv : Value) (A : Around) (outer : List Env) (s : Shared) (H : Hp) (vs : List V) (Q : VK) (E : XK), Room k (A.deeper (envOfC qual (fnScope st) s.heap.objs.size f cdv)) → sp vs H Q E →
      ∃ t, PSs (cxOf C8.CX0 P w K mg base N qual (fnScope st) f cdv A outer s H E).nox (fnBody st) t ∧ t { nx := fun _ H' => Q .non H', rt := Q } (start N vs) H
theorem MDef.ok {C : Addr} {m qual : Str} {st : Stmt} {ps N : List Str} {k : Nat} {sp : Sp} (D : MDef K C m qual st ps) (S : FnScope N ps (fnScope st)) (len : ∀ vs H Q E, sp vs H Q E → vs.length = ps.length)
    (body : Body P w K mg base qual st N k sp) : Met P w K mg base (k + 1) C m sp [] := by
  obtain ⟨f, fd, c, me, F, b⟩ := D.ex
  exact C8.met0 c me F b S len (body f)
theorem FDef.ok {x : Str} {st : Stmt} {ps N : List Str} {k : Nat} {sp : Sp} (D : FDef K mg x st ps) (S : FnScope N ps (fnScope st)) (len : ∀ vs H Q E, sp vs H Q E → vs.length = ps.length)
    (body : Body P w K mg base x st N k sp) : Cal P w K mg base (k + 1) x sp [] := by
  obtain ⟨f, fd, hm, kp, F, b⟩ := D.ex
  exact C8.cal0 ⟨F, hm, kp⟩ b .nil S len (body f)
theorem KDef.ok {x : Str} {C : Addr} {qual : Str} {st : Stmt} {ps N : List Str} {k : Nat} {sp : Sp} (D : KDef K mg x C qual st ps) (S : FnScope N ps (fnScope st)) (len : ∀ vs H Q E, sp vs H Q E → vs.length = ps.length)
    (body : Body P w K mg base qual st N k sp) : Mak P w K mg base (k + 1) x C sp [] := by
  obtain ⟨f, fd, M, hm, F, b⟩ := D.ex
  exact C8.mak0 M hm F b .nil S len (body f)
end
local macro_rules | `(tactic| walk_at "len") => `(tactic| (intro vs H Q E h; (repeat (obtain ⟨_, h⟩ := h)); subst_vars; rfl))
local macro_rules | `(tactic| walk_at "sc") => `(tactic| exact ⟨rfl, rfl, rfl, by decide +kernel, rfl, by decide +kernel, by decide +kernel⟩)

section
variable {X : Cx} {e : Expr} {t1 t2 : TE}
/-- an expression read in one of two ways -/
theorem pe_alt (h1 : PE X e t1) (h2 : PE X e t2) : PE X e (fun σ H Q => t1 σ H Q ∨ t2 σ H Q) :=
  ⟨fun pins s σ H Q I h => h.elim (h1.run pins s σ H Q I) (h2.run pins s σ H Q I)⟩
end

/-! ### heaps with tags -/
abbrev Tg := Addr → Nat
/-- o stands at a, with the tag c -/
def At (g : Tg) (H : Hp) (c : Nat) (a : Addr) (o : HO) : Prop := H a = some o ∧ g a = c
/-- only what bears a tag of S has changed (there the tags too); all that was tracked is tracked -/
def Ch (S : Nat → Prop) (g : Tg) (H : Hp) (g' : Tg) (H' : Hp) : Prop :=
  ∀ a o, H a = some o → ∃ o', H' a = some o' ∧ (¬ S (g a) → g' a = g a ∧ o' = o)
theorem Ch.refl {S : Nat → Prop} {g : Tg} {H : Hp} : Ch S g H g H := fun _ o h => ⟨o, h, fun _ => ⟨rfl, rfl⟩⟩
theorem Ch.trans {S : Nat → Prop} {g g1 g2 : Tg} {H H1 H2 : Hp} (a : Ch S g H g1 H1) (b : Ch S g1 H1 g2 H2) : Ch S g H g2 H2 := fun p o h => by
  obtain ⟨o1, h1, k1⟩ := a p o h
  obtain ⟨o2, h2, k2⟩ := b p o1 h1
  refine ⟨o2, h2, fun n => ?_⟩
  obtain ⟨e1, e2⟩ := k1 n
  obtain ⟨e3, e4⟩ := k2 (by rw [e1]; exact n)
  exact ⟨e3.trans e1, e4.trans e2⟩
theorem Ch.mono {S S' : Nat → Prop} {g g' : Tg} {H H' : Hp} (a : Ch S g H g' H') (h : ∀ c, S c → S' c) : Ch S' g H g' H' := fun p o q => by
  obtain ⟨o1, h1, k1⟩ := a p o q
  exact ⟨o1, h1, fun n => k1 fun z => n (h _ z)⟩
theorem At.keep {S : Nat → Prop} {g g' : Tg} {H H' : Hp} {c : Nat} {a : Addr} {o : HO} (h : At g H c a o) (k : Ch S g H g' H') (n : ¬ S c) : At g' H' c a o := by
  obtain ⟨o1, h1, k1⟩ := k a o h.1
  obtain ⟨e1, e2⟩ := k1 (by rw [h.2]; exact n)
  subst e2
  exact ⟨h1, e1.trans h.2⟩
theorem Ch.free {S : Nat → Prop} {g g' : Tg} {H H' : Hp} {a : Addr} (k : Ch S g H g' H') (h : H' a = none) : H a = none := by
  cases q : H a with
  | none => rfl
  | some o =>
    obtain ⟨o1, h1, _⟩ := k a o q
    rw [h] at h1; cases h1
/-- the tag c for a new one -/
def tg (g : Tg) (p : Addr) (c : Nat) : Tg := fun a => if a = p then c else g a
theorem tg_same {g : Tg} {p : Addr} {c : Nat} : tg g p c p = c := by unfold tg; rw [if_pos rfl]
theorem tg_ne {g : Tg} {p a : Addr} {c : Nat} (h : a ≠ p) : tg g p c a = g a := by unfold tg; rw [if_neg h]
/-- a new object -/
theorem Ch.new {S : Nat → Prop} {g : Tg} {H : Hp} {p : Addr} {c : Nat} {o : HO} (h : H p = none) : Ch S g H (tg g p c) (upd H p o) := fun a u q => by
  have n : a ≠ p := ne_of_none q h
  exact ⟨u, by rw [upd_ne n]; exact q, fun _ => ⟨tg_ne n, rfl⟩⟩
theorem At.new {g : Tg} {H : Hp} {p : Addr} {c : Nat} {o : HO} : At (tg g p c) (upd H p o) c p o := ⟨upd_same, tg_same⟩
/-- a changed object -/
theorem Ch.wr {S : Nat → Prop} {g : Tg} {H : Hp} {p : Addr} {c : Nat} {o o' : HO} (h : At g H c p o) (s : S c) : Ch S g H g (upd H p o') := fun a u q => by
  by_cases n : a = p
  · subst n
    exact ⟨o', upd_same, fun z => absurd (by rw [h.2]; exact s) z⟩
  · exact ⟨u, by rw [upd_ne n]; exact q, fun _ => ⟨rfl, rfl⟩⟩
theorem At.wr {g : Tg} {H : Hp} {p : Addr} {c : Nat} {o o' : HO} (h : At g H c p o) : At g (upd H p o') c p o' := ⟨upd_same, h.2⟩
theorem At.ne {g : Tg} {H : Hp} {c d : Nat} {a b : Addr} {o u : HO} (h : At g H c a o) (h' : At g H d b u) (n : c ≠ d) : a ≠ b := fun e => by
  subst e
  exact n (h.2.symm.trans h'.2)
theorem At.nx {g : Tg} {H : Hp} {c d : Nat} {a b : Addr} {o u : HO} (h : At g H c a o) (h' : At g H d b u) (n : o ≠ u) : a ≠ b := ne_of h.1 h'.1 n
/-- another object is written: this one stays -/
theorem At.upd {g : Tg} {H : Hp} {c : Nat} {a b : Addr} {o u : HO} (h : At g H c a o) (n : a ≠ b) : At g (L2.upd H b u) c a o := ⟨by rw [upd_ne n]; exact h.1, h.2⟩
/-- .. a new one is laid -/
theorem At.old {g : Tg} {H : Hp} {c d : Nat} {a p : Addr} {o u : HO} (h : At g H c a o) (f : H p = none) : At (tg g p d) (L2.upd H p u) c a o :=
  h.keep (Ch.new (S := fun _ => False) f) (fun z => z)
theorem At.retag {g : Tg} {H : Hp} {c d : Nat} {a p : Addr} {o : HO} (h : At g H c a o) (n : a ≠ p) : At (tg g p d) H c a o := ⟨h.1, (tg_ne n).trans h.2⟩
/-- a list that was new at the beginning gets the tag that it will bear -/
theorem Ch.retag {S : Nat → Prop} {g g' : Tg} {H H' : Hp} {p : Addr} {c : Nat} (k : Ch S g H g' H') (h : H p = none) : Ch S g H (tg g' p c) H' := fun a o e => by
  obtain ⟨o1, q1, z1⟩ := k a o e
  exact ⟨o1, q1, fun n => ⟨(tg_ne (ne_of_none e h)).trans (z1 n).1, (z1 n).2⟩⟩
/-- .. and may be written meanwhile -/
theorem Ch.wrNew {S : Nat → Prop} {g g' : Tg} {H H' : Hp} {p : Addr} {o' : HO} (k : Ch S g H g' H') (h : H p = none) : Ch S g H g' (L2.upd H' p o') := fun a o e => by
  obtain ⟨o1, q1, z1⟩ := k a o e
  exact ⟨o1, by rw [upd_ne (ne_of_none e h)]; exact q1, z1⟩
/-- another tag for one object -/
theorem Ch.tagged {S : Nat → Prop} {g : Tg} {H : Hp} {p : Addr} {c d : Nat} {o : HO} (h : At g H c p o) (s : S c) : Ch S g H (tg g p d) H := fun a u q => by
  refine ⟨u, q, fun n => ?_⟩
  by_cases e : a = p
  · subst e
    exact absurd (by rw [h.2]; exact s) n
  · exact ⟨tg_ne e, rfl⟩

/-! ### what the walk asks of the top -/
structure Txt (K : PySem.W.Frag) (mg : Str → Option Value) (CSk CSt CEn CLe CLa CMe : Addr) : Prop where
  clSk : Cls K CSk
  clSt : Cls K CSt
  clEn : Cls K CEn
  clLe : Cls K CLe
  clLa : Cls K CLa
  clMe : Cls K CMe
  skMachines : NoAttr K CSk "machines"
  skResult : NoAttr K CSk "result"
  stLayout : NoAttr K CSt "layout"
  stThread : NoAttr K CSt "thread"
  stSpare : NoAttr K CSt "spare"
  stTaken : NoAttr K CSt "taken_out"
  stDelayed : NoAttr K CSt "delayed"
  enCell : NoAttr K CEn "epoch_cell"
  enSlot : NoAttr K CEn "slot"
  enState : NoAttr K CEn "state"
  enEpoch : NoAttr K CEn "epoch"
  leStore : NoAttr K CLe "store"
  leEpoch : NoAttr K CLe "epoch"
  leOthers : NoAttr K CLe "others"
  leState : NoAttr K CLe "state"
  laThreads : NoAttr K CLa "threads"
  laWords : NoAttr K CLa "words"
  laRecords : NoAttr K CLa "records"
  meLayout : NoAttr K CMe "layout"
  meCount : NoAttr K CMe "count"
  meRows : NoAttr K CMe "rows"
  meTrails : NoAttr K CMe "trails"
  meNotes : NoAttr K CMe "notes"
  len : mg "len" = none
  sorted : mg "sorted" = none
  list : mg "list" = none
  range : mg "range" = none
  int : mg "int" = none
  bool : mg "bool" = none
  isinstance : mg "isinstance" = none
  tuple : mg "tuple" = none
  min : mg "min" = none
  max : mg "max" = none
  abs : mg "abs" = none
  age : ∃ t, mg "AGE" = some (.int 3 t)
  mostT : ∃ t, mg "MOST_THREADS" = some (.int 3 t)
  mostW : ∃ t, mg "MOST_WORDS" = some (.int 4 t)
  leastR : ∃ t, mg "LEAST_RECORDS" = some (.int 4 t)
  mostR : ∃ t, mg "MOST_RECORDS" = some (.int 200 t)
section
variable {X : Cx}
/-- a module's int -/
theorem pe_gi {x : Str} {i : Int} {pos : Pos} (hg : Gl X x) (hm : ∃ t, X.mg x = some (.int i t)) (hd : (x == ("__debug__" : Str)) = false := by decide) : PE X (.Name x pos) (tC (.int i)) := by
  obtain ⟨t, hm⟩ := hm
  exact pe_glob hg hm ⟨t, rfl⟩ hd
end

/-! ### Layout -/
def laF (T W R : Int) : List (Str × V) := [("threads", .int T), ("words", .int W), ("records", .int R)]
def LayAt (CLa : Addr) (g : Tg) (H : Hp) (p : Addr) (T R : Int) : Prop := ∃ dx, At g H 0 p (.ins CLa dx (laF T 3 R))
def spWithin : Sp := fun vs H Q _ => ∃ v lo hi : Int, vs = [.int v, .int lo, .int hi] ∧ Q (.bl (decide (lo ≤ v) && decide (v ≤ hi))) H
def spLaInit (CLa : Addr) : Sp := fun vs H Q _ => ∃ (p dx : Addr) (T R : Int), vs = [.ref p, .int T, .int 3, .int R] ∧ H p = some (.ins CLa dx []) ∧ 1 ≤ T ∧ T ≤ 3 ∧ 4 ≤ R ∧ R ≤ 200 ∧ Q .non (upd H p (.ins CLa dx (laF T 3 R)))
/-- a method of Layout without an argument, with one -/
def spLa0 (CLa : Addr) (f : Int → Int → Int) : Sp := fun vs H Q _ => ∃ (p dx : Addr) (T R : Int), vs = [.ref p] ∧ H p = some (.ins CLa dx (laF T 3 R)) ∧ Q (.int (f T R)) H
def spLa1 (CLa : Addr) (f : Int → Int → Int → Int) : Sp := fun vs H Q _ => ∃ (p dx : Addr) (T R i : Int), vs = [.ref p, .int i] ∧ H p = some (.ins CLa dx (laF T 3 R)) ∧ Q (.int (f T R i)) H
def spLasting (CLa : Addr) : Sp := fun vs H Q _ => ∃ (p dx : Addr) (T R i : Int), vs = [.ref p, .int i] ∧ H p = some (.ins CLa dx (laF T 3 R)) ∧ Q (.bl (decide (1 + T + 0 ≤ i) && decide (i < 1 + 2 * T + 3 + R))) H
section
variable {P : Program} {w : World} {K : PySem.W.Frag} {mg : Str → Option Value} {base : Heap} {CSk CSt CEn CLe CLa CMe : Addr}
theorem scWithin : FnScope ["value", "low", "high"] ["value", "low", "high"] (fnScope (top 18)) := by walk_at "sc"
theorem ok_within (D : FDef K mg "is_within" (top 18) ["value", "low", "high"]) (T : Txt K mg CSk CSt CEn CLe CLa CMe) : Cal P w K mg base 1 "is_within" spWithin [] := by
  refine D.ok scWithin (by walk_at "len") fun f cdv A outer s H vs Q E hr h => ?_
  obtain ⟨v, lo, hi, rfl, q⟩ := h
  refine ⟨_, pss_one (ps_ret (pe_and (pe_callB call_isi (by rfl) T.isinstance (by decide +kernel) (pa_cons (pv 0) (pa_cons (pe_bltn (v := .ty "int") (by rfl) T.int (by decide +kernel) rfl) pa_nil)))
    (pe_and (pe_not (pe_callB call_isi (by rfl) T.isinstance (by decide +kernel) (pa_cons (pv 0) (pa_cons (pe_bltn (v := .ty "bool") (by rfl) T.bool (by decide +kernel) rfl) pa_nil))))
      (pe_one (pe_chain op_le op_le (pv 1) (pv 0) (pv 2)))))), ?_⟩
  refine ⟨_, rfl, _, _, _, _, true, rfl, .ty _, .base (.int _), kit_ty (by decide +kernel), true, rfl, iteT ?_⟩
  refine ⟨_, rfl, _, _, _, _, false, rfl, .ty _, .base (.int _), kit_ty (by decide +kernel), false, rfl, true, rfl, iteT ?_⟩
  refine ⟨_, rfl, _, rfl, _, _, rfl, rfl, _, rfl, ?_⟩
  by_cases h1 : lo ≤ v
  · rw [decide_eq_true h1] at q ⊢
    exact iteT ⟨_, rfl, _, _, rfl, rfl, q⟩
  · rw [decide_eq_false h1] at q ⊢
    exact iteF q

theorem scLaInit : FnScope ["self", "threads", "words", "records"] ["self", "threads", "words", "records"] (fnScope (inC 19 0)) := by walk_at "sc"
theorem ok_laInit (D : KDef K mg "Layout" CLa "Layout.__init__" (inC 19 0) ["self", "threads", "words", "records"]) (T : Txt K mg CSk CSt CEn CLe CLa CMe) (G : Cal P w K mg base 1 "is_within" spWithin []) :
    Mak P w K mg base 2 "Layout" CLa (spLaInit CLa) [] := by
  refine D.ok scLaInit (by walk_at "len") fun f cdv A outer s H vs Q E hr h => ?_
  obtain ⟨p, dx, t, r, rfl, hp, h1, h2, h3, h4, q⟩ := h
  refine ⟨_, pss_cons (ps_if (PW.pt (pw_or (pt_not (pt_val (pe_c G hr (by decide) (by rfl) (pa_cons (pv 1) (pa_cons pe_int (pa_cons (pe_gi (by rfl) T.mostT) pa_nil))))))
        (pw_or1 (pt_not (pt_val (pe_c G hr (by decide) (by rfl) (pa_cons (pv 2) (pa_cons pe_int (pa_cons (pe_gi (by rfl) T.mostW) pa_nil))))))))) (pss_one ps_never) pss_nil)
    (pss_cons (ps_if (pt_not (pt_val (pe_c G hr (by decide) (by rfl) (pa_cons (pv 3) (pa_cons (pe_gi (by rfl) T.leastR) (pa_cons (pe_gi (by rfl) T.mostR) pa_nil)))))) (pss_one ps_never) pss_nil)
    (pss_cons (ps_fld (pv 0) (pv 1) rfl) (pss_cons (ps_fld (pv 0) (pv 2) rfl) (pss_one (ps_fld (pv 0) (pv 3) rfl))))), ?_⟩
  refine ⟨_, rfl, _, _, _, rfl, ?_⟩
  rw [decide_eq_true h1, decide_eq_true h2]
  refine ⟨true, rfl, iteF ⟨_, rfl, _, _, _, rfl, ?_⟩⟩
  refine ⟨true, rfl, iteF ⟨_, rfl, _, _, _, rfl, ?_⟩⟩
  rw [decide_eq_true h3, decide_eq_true h4]
  refine ⟨true, rfl, iteF ⟨_, rfl, _, rfl, _, _, _, _, rfl, hp, T.clLa, T.laThreads, (by show 0 < 1000; decide), ?_⟩⟩
  refine ⟨_, rfl, _, rfl, _, _, _, _, rfl, upd_same, T.clLa, T.laWords, (by show 1 < 1000; decide), ?_⟩
  refine ⟨_, rfl, _, rfl, _, _, _, _, rfl, upd_same, T.clLa, T.laRecords, (by show 2 < 1000; decide), ?_⟩
  rw [upd_upd, upd_upd]
  exact q
theorem scLa0 {j : Nat} (h : FnScope ["self"] ["self"] (fnScope (inC 19 j))) : FnScope ["self"] ["self"] (fnScope (inC 19 j)) := h
theorem ok_laEpoch (D : MDef K CLa "epoch" "Layout.epoch" (inC 19 1) ["self"]) : Met P w K mg base 1 CLa "epoch" (spLa0 CLa fun _ _ => 0) [] := by
  refine D.ok (N := ["self"]) (by walk_at "sc") (by walk_at "len") fun f cdv A outer s H vs Q E hr h => ?_
  obtain ⟨p, dx, t, r, rfl, hp, q⟩ := h
  exact ⟨_, pss_one (ps_ret pe_int), q⟩
theorem ok_laEpochSlot (D : MDef K CLa "epoch_slot" "Layout.epoch_slot" (inC 19 2) ["self", "thread"]) : Met P w K mg base 1 CLa "epoch_slot" (spLa1 CLa fun _ _ i => 1 + i) [] := by
  refine D.ok (N := ["self", "thread"]) (by walk_at "sc") (by walk_at "len") fun f cdv A outer s H vs Q E hr h => ?_
  obtain ⟨p, dx, t, r, i, rfl, hp, q⟩ := h
  exact ⟨_, pss_one (ps_ret (pe_op op_add pe_int (pv 1))), _, rfl, _, _, rfl, rfl, q⟩
theorem ok_laCallSlot (D : MDef K CLa "call_slot" "Layout.call_slot" (inC 19 3) ["self", "thread"]) (T : Txt K mg CSk CSt CEn CLe CLa CMe) : Met P w K mg base 1 CLa "call_slot" (spLa1 CLa fun t _ i => 1 + t + i) [] := by
  refine D.ok (N := ["self", "thread"]) (by walk_at "sc") (by walk_at "len") fun f cdv A outer s H vs Q E hr h => ?_
  obtain ⟨p, dx, t, r, i, rfl, hp, q⟩ := h
  exact ⟨_, pss_one (ps_ret (pe_op op_add (pe_op op_add pe_int (pe_fld (pv 0) rfl)) (pv 1))), _, rfl, _, _, _, _, _, rfl, hp, T.clLa, T.laThreads, rfl, _, _, rfl, rfl, _, rfl, _, _, rfl, rfl, q⟩
theorem ok_laWord (D : MDef K CLa "word" "Layout.word" (inC 19 4) ["self", "index"]) (T : Txt K mg CSk CSt CEn CLe CLa CMe) : Met P w K mg base 1 CLa "word" (spLa1 CLa fun t _ i => 1 + 2 * t + i) [] := by
  refine D.ok (N := ["self", "index"]) (by walk_at "sc") (by walk_at "len") fun f cdv A outer s H vs Q E hr h => ?_
  obtain ⟨p, dx, t, r, i, rfl, hp, q⟩ := h
  exact ⟨_, pss_one (ps_ret (pe_op op_add (pe_op op_add pe_int (pe_op op_mul pe_int (pe_fld (pv 0) rfl))) (pv 1))), _, rfl, _, _, _, _, _, rfl, hp, T.clLa, T.laThreads, rfl, _, _, rfl, rfl, .inl ⟨by decide, by decide⟩, _, _, rfl, rfl, _, rfl, _, _, rfl, rfl, q⟩
theorem ok_laRecord (D : MDef K CLa "record" "Layout.record" (inC 19 5) ["self", "index"]) (T : Txt K mg CSk CSt CEn CLe CLa CMe) : Met P w K mg base 1 CLa "record" (spLa1 CLa fun t _ i => 1 + 2 * t + 3 + i) [] := by
  refine D.ok (N := ["self", "index"]) (by walk_at "sc") (by walk_at "len") fun f cdv A outer s H vs Q E hr h => ?_
  obtain ⟨p, dx, t, r, i, rfl, hp, q⟩ := h
  exact ⟨_, pss_one (ps_ret (pe_op op_add (pe_op op_add (pe_op op_add pe_int (pe_op op_mul pe_int (pe_fld (pv 0) rfl))) (pe_fld (pv 0) rfl)) (pv 1))), _, rfl, _, _, _, _, _, rfl, hp, T.clLa, T.laThreads, rfl, _, _, rfl, rfl, .inl ⟨by decide, by decide⟩, _, _, rfl, rfl,
    _, rfl, _, _, _, _, _, rfl, hp, T.clLa, T.laWords, rfl, _, _, rfl, rfl, _, rfl, _, _, rfl, rfl, q⟩
theorem ok_laCells (D : MDef K CLa "cells" "Layout.cells" (inC 19 6) ["self"]) (T : Txt K mg CSk CSt CEn CLe CLa CMe) (G : Met P w K mg base 1 CLa "record" (spLa1 CLa fun t _ i => 1 + 2 * t + 3 + i) []) :
    Met P w K mg base 2 CLa "cells" (spLa0 CLa fun t r => 1 + 2 * t + 3 + r) [] := by
  refine D.ok (N := ["self"]) (by walk_at "sc") (by walk_at "len") fun f cdv A outer s H vs Q E hr h => ?_
  obtain ⟨p, dx, t, r, rfl, hp, q⟩ := h
  exact ⟨_, pss_one (ps_ret (pe_mt G hr (by decide) (pv 0) (pa_cons (pe_fld (pv 0) rfl) pa_nil))), _, rfl, _, _, _, rfl, hp, rfl, _, rfl, _, _, _, _, _, rfl, hp, T.clLa, T.laRecords, rfl, _, _, _, _, _, rfl, hp, q⟩
theorem ok_laLasting (D : MDef K CLa "is_lasting" "Layout.is_lasting" (inC 19 8) ["self", "cell"]) (G1 : Met P w K mg base 1 CLa "call_slot" (spLa1 CLa fun t _ i => 1 + t + i) [])
    (G2 : Met P w K mg base 2 CLa "cells" (spLa0 CLa fun t r => 1 + 2 * t + 3 + r) []) : Met P w K mg base 3 CLa "is_lasting" (spLasting CLa) [] := by
  refine D.ok (N := ["self", "cell"]) (by walk_at "sc") (by walk_at "len") fun f cdv A outer s H vs Q E hr h => ?_
  obtain ⟨p, dx, t, r, i, rfl, hp, q⟩ := h
  refine ⟨_, pss_one (ps_ret (pe_chain op_le op_lt (pe_mt G1 hr (by decide) (pv 0) (pa_cons pe_int pa_nil)) (pv 1) (pe_mt0 G2 hr (by decide) (pv 0)))), ?_⟩
  refine ⟨_, rfl, _, _, _, rfl, hp, rfl, _, _, _, _, _, rfl, hp, _, rfl, _, _, rfl, rfl, _, rfl, ?_⟩
  by_cases h1 : 1 + t + 0 ≤ i
  · rw [decide_eq_true h1] at q ⊢
    exact iteT ⟨_, rfl, _, _, _, rfl, hp, rfl, _, _, _, _, rfl, hp, _, _, rfl, rfl, q⟩
  · rw [decide_eq_false h1] at q ⊢
    exact iteF q
end

/-! ### d.get(k) of a dict of the module -/
structure TxtD (K : PySem.W.Frag) (mg : Str → Option Value) (w : World) : Prop where
  ex : ∃ d, mg "LENGTHS" = some (.ref d) ∧ (d == sysModules) = false ∧ KDct K w d "read" (.int 2) ∧ KDct K w d "write" (.int 3) ∧ KDct K w d "swap" (.int 4)
def tKGet (d : Addr) (K : PySem.W.Frag) (w : World) (ty : TE) : TE := fun σ H Q => ty σ H fun y H2 => ∃ z v, y = .str z ∧ KDct K w d z v ∧ Q v H2
section
variable {X : Cx} {e : Expr} {x : Str} {apos cpos p : Pos} {ty : TE} {d : Addr}
theorem pe_kget (hg : Gl X x) (hm : X.mg x = some (.ref d)) (hd : (d == sysModules) = false) (kd : ∃ z v, KDct X.K X.w d z v) (he : PE X e ty) (m : M1 X (.Name x p) "get" apos e cpos) (hdb : (x == ("__debug__" : Str)) = false := by decide) :
    PE X (.Call (.Attribute (.Name x p) "get" apos) [e] [] cpos) (tKGet d X.K X.w ty) := by
  refine ⟨fun pins s σ H Q I h => ?_⟩
  obtain ⟨z0, v0, es, n, u0, hl, hk, _, _⟩ := kd
  refine wpAny_Call_method m.base m.few m.line PySem.F.plainAttrs_dict PySem.F.slot_dict_get PySem.F.type_dict_get (ld_glob I hg hm ?_ hdb)
  have hmap := PySem.W.mapOf_K (prog := X.prog) (w := X.w) I.kIn hl hk
  refine ⟨hmap.typeIs, fun b q => ⟨_, I.kIn b _ (by cases q; exact hl), rfl⟩, ?_⟩
  rw [m.trees]
  refine Calls.callWith_builtin rfl (Calls.evalArgs_plain (Calls.spliced_cons (thn (he.run pins s σ H _ I h) fun iv s2 ⟨y, H2, I2, ry, q⟩ => Calls.spliced_nil ?_)))
  obtain ⟨z, v, ey, ⟨es', n', u, hl', hk', e', ru⟩, q⟩ := q
  subst ey
  obtain ⟨t, rfl⟩ := ry
  have hmap2 := PySem.W.mapOf_K (prog := X.prog) (w := X.w) I2.kIn hl' hk'
  refine call_meetsIn PySem.F.slot_dict_get hmap2.typeIs PySem.F.entry_dict_get (PySem.F.args_dict_get_2 _ _) (meets_dict_get (strKind X.prog X.w) d (strKind_is X.prog X.w z t) hd) ⟨_, hmap2, ?_⟩
  refine ⟨v, H2, I2.tok _, ?_, q⟩
  rw [PySem.W.find_K hl' e']
  exact ru
end
/-! ### Memory: what stands there -/
def meF (lay : Addr) (cnt : Int) (rl tl nl : Addr) : List (Str × V) := [("layout", .ref lay), ("count", .int cnt), ("rows", .ref rl), ("trails", .ref tl), ("notes", .ref nl)]
structure MemD where
  dx : Addr
  lay : Addr
  rl : Addr
  tl : Addr
  nl : Addr
  refs : List Addr
  rs : List V
structure MemOk (CLa CMe : Addr) (g : Tg) (H : Hp) (m : Addr) (T R : Nat) (vals : List V) (cnt : Nat) (D : MemD) : Prop where
  ins : At g H 1 m (.ins CMe D.dx (meF D.lay (cnt : Nat) D.rl D.tl D.nl))
  lay : LayAt CLa g H D.lay (T : Nat) (R : Nat)
  tl : At g H 1 D.tl (.lst (D.refs.map V.ref))
  rlen : D.refs.length = vals.length
  vlen : vals.length = 1 + 2 * T + 3 + R
  cell : ∀ (i : Nat) (r : Addr) (v : V), D.refs[i]? = some r → vals[i]? = some v → At g H 0 r (.lst [v])
  rl : At g H 1 D.rl (.lst D.rs)
  ne : D.rl ≠ D.tl
  cnt : D.rs.length = cnt
def LastK (g : Tg) (H : Hp) (rs : List V) (k : Str) : Prop := ∃ (rs' : List V) (r q : Addr) (x y : V) (xs : List V), rs = rs' ++ [.ref r] ∧ At g H 0 r (.tup [x, y, .ref q]) ∧ At g H 0 q (.tup (.str k :: xs))
def MemAt (CLa CMe : Addr) (g : Tg) (H : Hp) (m : Addr) (T R : Nat) (vals : List V) (cnt : Nat) (log : Option Str) : Prop := ∃ D, MemOk CLa CMe g H m T R vals cnt D ∧ ∀ k, log = some k → LastK g H D.rs k
theorem LayAt.keep {CLa : Addr} {S : Nat → Prop} {g g' : Tg} {H H' : Hp} {p : Addr} {T R : Int} (h : LayAt CLa g H p T R) (k : Ch S g H g' H') (n : ¬ S 0) : LayAt CLa g' H' p T R := by
  obtain ⟨dx, h⟩ := h
  exact ⟨dx, h.keep k n⟩
theorem LastK.keep {S : Nat → Prop} {g g' : Tg} {H H' : Hp} {rs : List V} {x : Str} (h : LastK g H rs x) (k : Ch S g H g' H') (n : ¬ S 0) : LastK g' H' rs x := by
  obtain ⟨rs', r, q, a, b, xs, e, h1, h2⟩ := h
  exact ⟨rs', r, q, a, b, xs, e, h1.keep k n, h2.keep k n⟩
section
variable {CLa CMe : Addr} {g g' : Tg} {H H' : Hp} {m : Addr} {T R cnt : Nat} {vals : List V} {D : MemD} {log : Option Str} {S : Nat → Prop}
theorem MemOk.keep (h : MemOk CLa CMe g H m T R vals cnt D) (k : Ch S g H g' H') (n0 : ¬ S 0) (n1 : ¬ S 1) : MemOk CLa CMe g' H' m T R vals cnt D :=
  ⟨h.ins.keep k n1, h.lay.keep k n0, h.tl.keep k n1, h.rlen, h.vlen, fun i r v a b => (h.cell i r v a b).keep k n0, h.rl.keep k n1, h.ne, h.cnt⟩
theorem MemAt.keep (h : MemAt CLa CMe g H m T R vals cnt log) (k : Ch S g H g' H') (n0 : ¬ S 0) (n1 : ¬ S 1) : MemAt CLa CMe g' H' m T R vals cnt log := by
  obtain ⟨D, h1, h2⟩ := h
  exact ⟨D, h1.keep k n0 n1, fun x e => (h2 x e).keep k n0⟩
theorem ixN_nat {n c : Nat} (h : c < n) : ixN n (c : Int) = some c := by
  unfold ixN
  rw [if_pos (Int.natCast_nonneg c), if_pos (by omega), Int.toNat_natCast]
theorem MemOk.ref (h : MemOk CLa CMe g H m T R vals cnt D) {c : Nat} {v : V} (e : vals[c]? = some v) : ∃ r, D.refs[c]? = some r ∧ (D.refs.map V.ref)[c]? = some (.ref r) ∧ H r = some (.lst [v]) := by
  have hc : c < D.refs.length := by rw [h.rlen]; exact (List.getElem?_eq_some_iff.mp e).1
  have q : D.refs[c]? = some D.refs[c] := List.getElem?_eq_getElem hc
  exact ⟨_, q, by rw [List.getElem?_map, q]; rfl, (h.cell c _ v q e).1⟩
/-- a cell gets a value -/
theorem MemOk.set (h : MemOk CLa CMe g H m T R vals cnt D) {p : Addr} {c : Nat} {v : V} (hp : H p = none) :
    MemOk CLa CMe (tg g p 0) (upd (upd H p (.lst [v])) D.tl (.lst ((D.refs.map V.ref).set c (.ref p)))) m T R (vals.set c v) cnt { D with refs := D.refs.set c p } ∧
    Ch (fun c => c = 1) g H (tg g p 0) (upd (upd H p (.lst [v])) D.tl (.lst ((D.refs.map V.ref).set c (.ref p)))) := by
  have k1 : Ch (fun c => c = 1) g H (tg g p 0) (upd H p (.lst [v])) := Ch.new hp
  have h1 : MemOk CLa CMe (tg g p 0) (upd H p (.lst [v])) m T R vals cnt D := h.keep (S := fun _ => False) (Ch.new hp) (fun z => z) (fun z => z)
  have k2 : Ch (fun c => c = 1) (tg g p 0) (upd H p (.lst [v])) (tg g p 0) (upd (upd H p (.lst [v])) D.tl (.lst ((D.refs.map V.ref).set c (.ref p)))) := Ch.wr h1.tl rfl
  obtain ⟨dl, hl⟩ := h1.lay
  refine ⟨⟨h1.ins.upd (h1.ins.nx h1.tl (by intro z; cases z)), ⟨dl, hl.upd (hl.ne h1.tl (by decide))⟩, ?_, ?_, ?_, ?_, h1.rl.upd h1.ne, h1.ne, h1.cnt⟩, k1.trans k2⟩
  · rw [List.map_set]
    exact h1.tl.wr
  · show (D.refs.set c p).length = (vals.set c v).length
    rw [List.length_set, List.length_set]
    exact h.rlen
  · rw [List.length_set]
    exact h.vlen
  · intro i r u hr hv
    have hr : (D.refs.set c p)[i]? = some r := hr
    by_cases hi : c = i
    · subst hi
      have hc : c < D.refs.length := by
        have := (List.getElem?_eq_some_iff.mp hr).1
        rwa [List.length_set] at this
      rw [List.getElem?_set_self hc] at hr
      rw [List.getElem?_set_self (by rw [← h.rlen]; exact hc)] at hv
      cases hr
      cases hv
      exact (At.new).upd (At.ne (At.new (g := g) (H := H) (p := p) (c := 0) (o := .lst [v])) h1.tl (by decide))
    · rw [List.getElem?_set_ne hi] at hr hv
      have q := h1.cell i r u hr hv
      exact q.upd (q.ne h1.tl (by decide))
end
/-! ### its requests -/
inductive Rq where
  | rd (c : Nat)
  | wr (c : Nat) (v : V)
  | sw (c : Nat) (a b : Int)
def Rq.kind : Rq → Str
  | .rd _ => "read"
  | .wr _ _ => "write"
  | .sw _ _ _ => "swap"
def Rq.tup : Rq → List V
  | .rd c => [.str "read", .int c]
  | .wr c v => [.str "write", .int c, v]
  | .sw c a b => [.str "swap", .int c, .int a, .int b]
def Rq.cell : Rq → Nat
  | .rd c => c
  | .wr c _ => c
  | .sw c _ _ => c
def Rq.ok (T : Nat) (vals : List V) : Rq → Prop
  | .rd c => c < vals.length
  | .wr c _ => c ≤ T
  | .sw c _ _ => c ≤ T ∧ ∃ e, vals[c]? = some (.int e)
def Rq.res (vals : List V) : Rq → V
  | .rd c => vals.getD c .non
  | .wr _ _ => .non
  | .sw c a _ => .bl (decide (vals.getD c .non = .int a))
def Rq.aft (vals : List V) : Rq → List V
  | .rd _ => vals
  | .wr c v => vals.set c v
  | .sw c a b => if vals.getD c .non = .int a then vals.set c (.int b) else vals

def spCheckCell (CLa CMe : Addr) : Sp := fun vs H Q _ => ∃ (g : Tg) (m : Addr) (T R : Nat) (vals : List V) (cnt : Nat) (log : Option Str) (c : Nat), vs = [.ref m, .int c] ∧ MemAt CLa CMe g H m T R vals cnt log ∧ c < vals.length ∧ Q .non H
def spPeek (CLa CMe : Addr) : Sp := fun vs H Q _ => ∃ (g : Tg) (m : Addr) (T R : Nat) (vals : List V) (cnt : Nat) (log : Option Str) (c : Nat) (v : V), vs = [.ref m, .int c] ∧ MemAt CLa CMe g H m T R vals cnt log ∧ vals[c]? = some v ∧ Q v H
def spLog (CLa CMe : Addr) : Sp := fun vs H Q _ => ∃ (g : Tg) (m : Addr) (T R : Nat) (vals : List V) (cnt : Nat) (log : Option Str), vs = [.ref m] ∧ MemAt CLa CMe g H m T R vals cnt log ∧
  ∀ (rs : List V) (p : Addr), H p = none → (∀ k, log = some k → LastK g H rs k) → Q (.ref p) (upd H p (.lst rs))
def spGive (CLa CMe : Addr) : Sp := fun vs H Q _ => ∃ (g : Tg) (m : Addr) (T R : Nat) (vals : List V) (cnt : Nat) (log : Option Str) (c : Nat) (v : V), vs = [.ref m, .int c, v] ∧ MemAt CLa CMe g H m T R vals cnt log ∧ c ≤ T ∧
  ∀ (g' : Tg) (H' : Hp), Ch (fun c => c = 1) g H g' H' → MemAt CLa CMe g' H' m T R (vals.set c v) cnt log → Q .non H'
def spCheckReq (CLa CMe : Addr) : Sp := fun vs H Q _ => ∃ (g : Tg) (m ra : Addr) (T R : Nat) (vals : List V) (cnt : Nat) (log : Option Str) (t : Nat) (rq : Rq), vs = [.ref m, .int t, .ref ra] ∧ MemAt CLa CMe g H m T R vals cnt log ∧
  H ra = some (.tup rq.tup) ∧ rq.cell < vals.length ∧ t < T ∧ Q .non H
def spResult (CLa CMe : Addr) : Sp := fun vs H Q _ => ∃ (g : Tg) (m ra : Addr) (T R : Nat) (vals : List V) (cnt : Nat) (log : Option Str) (t : Nat) (rq : Rq), vs = [.ref m, .int t, .ref ra] ∧ MemAt CLa CMe g H m T R vals cnt log ∧
  H ra = some (.tup rq.tup) ∧ rq.ok T vals ∧ ∀ (g' : Tg) (H' : Hp), Ch (fun c => c = 1) g H g' H' → MemAt CLa CMe g' H' m T R (rq.aft vals) cnt log → Q (rq.res vals) H'
def spAccess (CLa CMe : Addr) : Sp := fun vs H Q _ => ∃ (g : Tg) (m ra : Addr) (T R : Nat) (vals : List V) (cnt : Nat) (log : Option Str) (t : Nat) (rq : Rq), vs = [.ref m, .int t, .ref ra] ∧ MemAt CLa CMe g H m T R vals cnt log ∧
  At g H 0 ra (.tup rq.tup) ∧ rq.ok T vals ∧ t < T ∧ cnt < 100000 ∧
  ∀ (g' : Tg) (H' : Hp) (r : Addr), Ch (fun c => c = 1) g H g' H' → MemAt CLa CMe g' H' m T R (rq.aft vals) (cnt + 1) (some rq.kind) → At g' H' 0 r (.tup [rq.res vals, .int ((cnt + 1 : Nat) : Int)]) → Q (.ref r) H'
section
variable {P : Program} {w : World} {K : PySem.W.Frag} {mg : Str → Option Value} {base : Heap} {CSk CSt CEn CLe CLa CMe : Addr}
theorem ok_checkCell (D : MDef K CMe "check_cell" "Memory.check_cell" (inC 20 2) ["self", "cell"]) (T : Txt K mg CSk CSt CEn CLe CLa CMe) (G : Cal P w K mg base 1 "is_within" spWithin []) :
    Met P w K mg base 2 CMe "check_cell" (spCheckCell CLa CMe) [] := by
  refine D.ok (N := ["self", "cell"]) (by walk_at "sc") (by walk_at "len") fun f cdv A outer s H vs Q E hr h => ?_
  obtain ⟨g, m, n, r, vals, cnt, log, c, rfl, ⟨d, M, _⟩, hc, q⟩ := h
  refine ⟨_, pss_one (ps_if (pt_not (pt_val (pe_c G hr (by decide) (by rfl) (pa_cons (pv 1) (pa_cons pe_int (pa_cons (pe_op op_sub (pe_callB call_len_seq (by rfl) T.len PySem.boot_len (pa_cons (pe_fld (pv 0) rfl) pa_nil)) pe_int) pa_nil))))))
    (pss_one ps_never) pss_nil), ?_⟩
  refine ⟨_, rfl, _, rfl, _, _, _, _, _, rfl, M.ins.1, T.clMe, T.meTrails, rfl, _, _, rfl, .inl (SqL.of M.tl.1), _, _, rfl, rfl, _, _, _, rfl, ?_⟩
  have h1 : (0 : Int) ≤ (c : Nat) := Int.natCast_nonneg c
  have h2 : ((c : Nat) : Int) ≤ ((d.refs.map V.ref).length : Nat) - 1 := by
    rw [List.length_map, M.rlen]
    omega
  rw [decide_eq_true h1, decide_eq_true h2]
  exact ⟨true, rfl, iteF q⟩
theorem ok_peek (D : MDef K CMe "peek" "Memory.peek" (inC 20 10) ["self", "cell"]) (T : Txt K mg CSk CSt CEn CLe CLa CMe) (G : Met P w K mg base 2 CMe "check_cell" (spCheckCell CLa CMe) []) :
    Met P w K mg base 3 CMe "peek" (spPeek CLa CMe) [] := by
  refine D.ok (N := ["self", "cell"]) (by walk_at "sc") (by walk_at "len") fun f cdv A outer s H vs Q E hr h => ?_
  obtain ⟨g, m, n, r, vals, cnt, log, c, v, rfl, MA, hv, q⟩ := h
  have hc : c < vals.length := (List.getElem?_eq_some_iff.mp hv).1
  refine ⟨_, pss_cons (ps_expr (pe_mt G hr (by decide) (pv 0) (pa_cons (pv 1) pa_nil)))
    (pss_one (ps_ret (pe_ix ix_list (pe_ix ix_list (pe_fld (pv 0) rfl) (pv 1) (fun _ _ => rfl)) (pe_un un_neg pe_int) (fun _ _ => rfl)))), ?_⟩
  have ⟨d, M, _⟩ := MA
  obtain ⟨r0, _, e1, e2⟩ := M.ref hv
  refine ⟨_, rfl, _, _, _, rfl, M.ins.1, rfl, _, rfl, g, m, n, r, vals, cnt, log, c, rfl, MA, hc, ?_⟩
  refine ⟨_, rfl, _, _, _, _, _, rfl, M.ins.1, T.clMe, T.meTrails, rfl, _, rfl, _, _, _, _, rfl, rfl, SqL.of M.tl.1, atI_nat e1, _, rfl, _, _, _, _, rfl, rfl, SqL.of e2, atI_last [] v, q⟩
theorem ok_log (D : MDef K CMe "log" "Memory.log" (inC 20 15) ["self"]) (T : Txt K mg CSk CSt CEn CLe CLa CMe) : Met P w K mg base 1 CMe "log" (spLog CLa CMe) [] := by
  refine D.ok (N := ["self"]) (by walk_at "sc") (by walk_at "len") fun f cdv A outer s H vs Q E hr h => ?_
  obtain ⟨g, m, n, r, vals, cnt, log, rfl, ⟨d, M, hl⟩, q⟩ := h
  refine ⟨_, pss_one (ps_ret (pe_callTy call_list_of (by rfl) T.list (by decide +kernel) (pa_cons (pe_fld (pv 0) rfl) pa_nil))), ?_⟩
  exact ⟨_, rfl, _, _, _, _, _, rfl, M.ins.1, T.clMe, T.meRows, rfl, _, _, rfl, .inl (SqL.of M.rl.1), fun l hl' => q _ l hl' hl⟩
theorem ok_give (D : MDef K CMe "give" "Memory.give" (inC 20 7) ["self", "cell", "value"]) (T : Txt K mg CSk CSt CEn CLe CLa CMe) (G : Met P w K mg base 3 CLa "is_lasting" (spLasting CLa) []) :
    Met P w K mg base 4 CMe "give" (spGive CLa CMe) [] := by
  refine D.ok (N := ["self", "cell", "value"]) (by walk_at "sc") (by walk_at "len") fun f cdv A outer s H vs Q E hr h => ?_
  obtain ⟨g, m, n, r, vals, cnt, log, c, v, rfl, ⟨d, M, hl⟩, hc, q⟩ := h
  refine ⟨_, pss_one (ps_if (pt_val (pe_mt G hr (by decide) (pe_fld (pv 0) rfl) (pa_cons (pv 1) pa_nil))) pss_never
    (pss_one (ps_asg (pe_lst (pa_cons (pv 2) pa_nil)) (pg_sub (pe_fld (pv 0) rfl) (pv 1) set_list)))), ?_⟩
  obtain ⟨dl, L⟩ := M.lay
  refine ⟨_, rfl, _, _, _, _, _, rfl, M.ins.1, T.clMe, T.meLayout, rfl, _, _, _, rfl, L.1, rfl, _, rfl, _, _, _, _, _, rfl, L.1, ?_⟩
  have h1 : ¬ (1 + (n : Int) + 0 ≤ (c : Nat)) := by omega
  rw [decide_eq_false h1]
  refine ⟨false, rfl, iteF ⟨_, rfl, (by show 1 ≤ sizeLine; rw [sizeLine_eq]; decide), fun p hp => ?_⟩⟩
  have hcl : c < (d.refs.map V.ref).length := by
    rw [List.length_map, M.rlen, M.vlen]
    omega
  have npm : m ≠ p := ne_of_none M.ins.1 hp
  have npt : d.tl ≠ p := ne_of_none M.tl.1 hp
  refine ⟨_, rfl, _, _, _, _, _, rfl, (by rw [upd_ne npm]; exact M.ins.1), T.clMe, T.meTrails, rfl, _, rfl, _, _, _, c, rfl, rfl, (by rw [upd_ne npt]; exact M.tl.1), ixN_nat hcl, ?_⟩
  obtain ⟨M1, k1⟩ := M.set (c := c) (v := v) hp
  exact q _ _ k1 ⟨_, M1, fun k e => (hl k e).keep k1 (by decide)⟩
end

theorem vs_ne {a b : Str} (h : (a == b) = false) : ¬ V.str a = V.str b := fun z => by
  injection z with z
  rw [z] at h
  simp at h
section
variable {A B c : Prop} [Decidable c]
theorem dY (h : c) (a : A) : if decide c = true then A else B := by rw [if_pos (decide_eq_true h)]; exact a
theorem dN (h : ¬ c) (b : B) : if decide c = true then A else B := by rw [decide_eq_false h]; exact iteF b
theorem nY (h : ¬ c) (a : A) : if (!decide c) = true then A else B := by rw [decide_eq_false h]; exact iteT a
theorem nN (h : c) (b : B) : if (!decide c) = true then A else B := by rw [decide_eq_true h]; exact iteF b
end
section
variable {CLa CMe : Addr} {g g' : Tg} {H H' : Hp} {m : Addr} {T R cnt : Nat} {vals : List V} {D : MemD} {log : Option Str} {S : Nat → Prop}
/-- the access is noted -/
theorem MemOk.logged (h : MemOk CLa CMe g H m T R vals cnt D) {p ra : Addr} {a b : V} {k : Str} {xs : List V} (hp : (upd H m (.ins CMe D.dx (meF D.lay ((cnt + 1 : Nat) : Int) D.rl D.tl D.nl))) p = none) (hr : At g H 0 ra (.tup (.str k :: xs))) :
    let H3 := upd (upd (upd H m (.ins CMe D.dx (meF D.lay ((cnt + 1 : Nat) : Int) D.rl D.tl D.nl))) p (.tup [a, b, .ref ra])) D.rl (.lst (D.rs ++ [.ref p]))
    MemAt CLa CMe (tg g p 0) H3 m T R vals (cnt + 1) (some k) ∧ Ch (fun c => c = 1) g H (tg g p 0) H3 := by
  intro H3
  have k1 : Ch (fun c => c = 1) g H g (upd H m (.ins CMe D.dx (meF D.lay ((cnt + 1 : Nat) : Int) D.rl D.tl D.nl))) := Ch.wr h.ins rfl
  have nlm : D.tl ≠ m := h.tl.nx h.ins (by intro z; cases z)
  have nrm : D.rl ≠ m := h.rl.nx h.ins (by intro z; cases z)
  have k2 : Ch (fun _ => False) g (upd H m (.ins CMe D.dx (meF D.lay ((cnt + 1 : Nat) : Int) D.rl D.tl D.nl))) (tg g p 0) (upd (upd H m (.ins CMe D.dx (meF D.lay ((cnt + 1 : Nat) : Int) D.rl D.tl D.nl))) p (.tup [a, b, .ref ra])) := Ch.new hp
  have r1 := (h.rl.upd (u := .ins CMe D.dx (meF D.lay ((cnt + 1 : Nat) : Int) D.rl D.tl D.nl)) nrm).keep k2 (fun z => z)
  have t1 := (h.tl.upd (u := .ins CMe D.dx (meF D.lay ((cnt + 1 : Nat) : Int) D.rl D.tl D.nl)) nlm).keep k2 (fun z => z)
  have i1 := (h.ins.wr (o' := .ins CMe D.dx (meF D.lay ((cnt + 1 : Nat) : Int) D.rl D.tl D.nl))).keep k2 (fun z => z)
  have k3 : Ch (fun c => c = 1) (tg g p 0) (upd (upd H m (.ins CMe D.dx (meF D.lay ((cnt + 1 : Nat) : Int) D.rl D.tl D.nl))) p (.tup [a, b, .ref ra])) (tg g p 0) H3 := Ch.wr r1 rfl
  have kk : Ch (fun c => c = 1) g H (tg g p 0) H3 := (k1.trans (k2.mono fun _ z => z.elim)).trans k3
  have pn : At (tg g p 0) (upd (upd H m (.ins CMe D.dx (meF D.lay ((cnt + 1 : Nat) : Int) D.rl D.tl D.nl))) p (.tup [a, b, .ref ra])) 0 p (.tup [a, b, .ref ra]) := At.new
  refine ⟨⟨{ D with rs := D.rs ++ [.ref p] }, ⟨i1.upd (i1.nx r1 (by intro z; cases z)), h.lay.keep kk (by decide), t1.upd h.ne.symm, h.rlen, h.vlen, fun i r v e1 e2 => (h.cell i r v e1 e2).keep kk (by decide), r1.wr, h.ne, ?_⟩, ?_⟩, kk⟩
  · show (D.rs ++ [V.ref p]).length = cnt + 1
    rw [List.length_append, h.cnt]
    rfl
  · intro k' e
    cases e
    exact ⟨D.rs, p, ra, a, b, xs, rfl, pn.keep k3 (by decide), hr.keep kk (by decide)⟩
theorem Rq.cell_lt {rq : Rq} (h : rq.ok T vals) (hl : vals.length = 1 + 2 * T + 3 + R) : rq.cell < vals.length := by
  cases rq with
  | rd c => exact h
  | wr c v => have : c ≤ T := h; show c < _; omega
  | sw c a b => have : c ≤ T := h.1; show c < _; omega
theorem Rq.head (rq : Rq) : ∃ xs, rq.tup = .str rq.kind :: .int rq.cell :: xs ∧ (rq.tup.length = 2 ∨ rq.tup.length = 3 ∨ rq.tup.length = 4) := by
  cases rq with
  | rd c => exact ⟨_, rfl, .inl rfl⟩
  | wr c v => exact ⟨_, rfl, .inr (.inl rfl)⟩
  | sw c a b => exact ⟨_, rfl, .inr (.inr rfl)⟩
theorem Rq.nokind (rq : Rq) : ¬ (V.str rq.kind = V.str "flush") ∧ ¬ (V.str rq.kind = V.str "fence") := by
  cases rq <;> exact ⟨vs_ne rfl, vs_ne rfl⟩
theorem getD_of {α : Type} {xs : List α} {i : Nat} {v d : α} (h : xs[i]? = some v) : xs.getD i d = v := by
  rw [List.getD_eq_getElem?_getD, h]
  rfl
end
section
variable {P : Program} {w : World} {K : PySem.W.Frag} {mg : Str → Option Value} {base : Heap} {CSk CSt CEn CLe CLa CMe : Addr}
theorem ok_checkReq (D : MDef K CMe "check_request" "Memory.check_request" (inC 20 4) ["self", "thread", "request"]) (T : Txt K mg CSk CSt CEn CLe CLa CMe) (TD : TxtD K mg w) (G : Cal P w K mg base 1 "is_within" spWithin [])
    (GC : Met P w K mg base 2 CMe "check_cell" (spCheckCell CLa CMe) []) : Met P w K mg base 3 CMe "check_request" (spCheckReq CLa CMe) [] := by
  refine D.ok (N := ["self", "thread", "request"]) (by walk_at "sc") (by walk_at "len") fun f cdv A outer s H vs Q E hr h => ?_
  obtain ⟨g, m, ra, n, r, vals, cnt, log, t, rq, rfl, MA, hra, hc, ht, q⟩ := h
  obtain ⟨ld, hld, hlow, kR, kW, kS⟩ := TD.ex
  refine ⟨_, pss_cons (ps_if (PW.pt (pw_or (pt_not (pt_val (pe_c G hr (by decide) (by rfl) (pa_cons (pv 1) (pa_cons pe_int (pa_cons (pe_op op_sub (pe_fld (pe_fld (pv 0) rfl) rfl) pe_int) pa_nil))))))
        (pw_or (pt_not (pt_val (pe_callB call_isi (by rfl) T.isinstance (by decide +kernel) (pa_cons (pv 2) (pa_cons (pe_bltn (v := .ty "tuple") (by rfl) T.tuple (by decide +kernel) rfl) pa_nil)))))
          (pw_or1 (pt_cmpR op_eq (pe_callB call_len_seq (by rfl) T.len PySem.boot_len (pa_cons (pv 2) pa_nil)) pe_int (nomark _)))))) (pss_one ps_never) pss_nil)
    (pss_cons (ps_if (pt_cmpR op_ne (pe_kget (by rfl) hld hlow ⟨_, _, kR⟩ (pe_ix ix_tup (pv 2) pe_int (fun _ _ => rfl)) ⟨by rfl, by rfl, by rfl, by rfl⟩) (pe_callB call_len_seq (by rfl) T.len PySem.boot_len (pa_cons (pv 2) pa_nil)) (nomark _)) (pss_one ps_never) pss_nil)
    (pss_one (ps_if (pt_cmpR op_eq (pe_ix ix_tup (pv 2) pe_int (fun _ _ => rfl)) pe_str (nomark _)) pss_never
      (pss_one (ps_if (pt_cmpR op_ne (pe_ix ix_tup (pv 2) pe_int (fun _ _ => rfl)) pe_str (nomark _)) (pss_one (ps_expr (pe_mt GC hr (by decide) (pv 0) (pa_cons (pe_ix ix_tup (pv 2) pe_int (fun _ _ => rfl)) pa_nil)))) pss_nil))))), ?_⟩
  have ⟨d, M, _⟩ := MA
  obtain ⟨dl, L⟩ := M.lay
  obtain ⟨xs, e1, e2⟩ := rq.head
  have a0 : atI rq.tup 0 = some (.str rq.kind) := by rw [e1]; exact atI_nat (j := 0) rfl
  have a1 : atI rq.tup 1 = some (.int (rq.cell : Nat)) := by rw [e1]; exact atI_nat (j := 1) rfl
  have kd : KDct K w ld rq.kind (.int rq.tup.length) := by
    cases rq with
    | rd c => exact kR
    | wr c v => exact kW
    | sw c a b => exact kS
  refine ⟨_, rfl, _, rfl, _, _, _, _, _, rfl, M.ins.1, T.clMe, T.meLayout, rfl, _, _, _, _, _, rfl, L.1, T.clLa, T.laThreads, rfl, _, _, rfl, rfl, _, _, _, rfl, ?_⟩
  have h1 : (0 : Int) ≤ (t : Nat) := Int.natCast_nonneg t
  have h2 : ((t : Nat) : Int) ≤ (n : Nat) - 1 := by omega
  rw [decide_eq_true h1, decide_eq_true h2]
  refine ⟨true, rfl, iteF ⟨_, rfl, _, _, _, _, true, rfl, .ty _, .base (.tup hra), kit_ty (by decide +kernel), true, rfl, iteF ?_⟩⟩
  refine ⟨_, rfl, _, _, rfl, .inr (SqT.of hra), rfl, _, rfl, dN (by intro z; injection z with z; omega) ?_⟩
  refine ⟨_, rfl, _, _, _, _, rfl, rfl, SqT.of hra, a0, _, _, rfl, kd, _, rfl, _, _, rfl, .inr (SqT.of hra), rfl, _, rfl, nN rfl ?_⟩
  refine ⟨_, rfl, _, _, _, _, rfl, rfl, SqT.of hra, a0, rfl, _, rfl, dN rq.nokind.1 ?_⟩
  refine ⟨_, rfl, _, _, _, _, rfl, rfl, SqT.of hra, a0, rfl, _, rfl, nY rq.nokind.2 ?_⟩
  exact ⟨_, rfl, _, _, _, rfl, M.ins.1, rfl, _, rfl, _, _, _, _, rfl, rfl, SqT.of hra, a1, g, m, n, r, vals, cnt, log, _, rfl, MA, hc, q⟩
theorem ok_result (D : MDef K CMe "result" "Memory.result" (inC 20 6) ["self", "thread", "request"]) (T : Txt K mg CSk CSt CEn CLe CLa CMe) (G : Met P w K mg base 4 CMe "give" (spGive CLa CMe) []) :
    Met P w K mg base 5 CMe "result" (spResult CLa CMe) [] := by
  refine D.ok (N := ["self", "thread", "request", "kind", "cell", "value"]) (by walk_at "sc") (by walk_at "len") fun f cdv A outer s H vs Q E hr h => ?_
  have nd : (["self", "thread", "request", "kind", "cell", "value"] : List Str).Nodup := by decide +kernel
  obtain ⟨g, m, ra, n, r, vals, cnt, log, t, rq, rfl, MA, hra, hok, q⟩ := h
  refine ⟨_, pss_cons (ps_set (i := 3) nd rfl (Or.inl rfl) (pe_ix ix_tup (pv 2) pe_int (fun _ _ => rfl)))
    (pss_cons (ps_if (pt_cmpR op_eq (pv 3) pe_str (nomark _)) pss_never pss_nil)
    (pss_cons (ps_set (i := 4) nd rfl (Or.inl rfl) (pe_ix ix_tup (pv 2) pe_int (fun _ _ => rfl)))
    (pss_cons (ps_if (pt_cmpR op_eq (pv 3) pe_str (nomark _)) pss_never pss_nil)
    (pss_cons (ps_set (i := 5) nd rfl (Or.inl rfl) (pe_ix ix_list (pe_ix ix_list (pe_fld (pv 0) rfl) (pv 4) (fun _ _ => rfl)) (pe_un un_neg pe_int) (fun _ _ => rfl)))
    (pss_cons (ps_if (pt_cmpR op_eq (pv 3) pe_str (nomark _)) (pss_one (ps_ret (pv 5))) pss_nil)
    (pss_cons (ps_if (pt_cmpR op_eq (pv 3) pe_str (nomark _)) (pss_cons (ps_expr (pe_mt G hr (by decide) (pv 0) (pa_cons (pv 4) (pa_cons (pe_ix ix_tup (pv 2) pe_int (fun _ _ => rfl)) pa_nil)))) (pss_one (ps_ret pe_non))) pss_nil)
    (pss_cons (ps_if (pt_cmpR op_eq (pv 3) pe_str (nomark _)) (pss_cons (ps_if (pt_cmpR op_ne (pv 5) (pe_ix ix_tup (pv 2) pe_int (fun _ _ => rfl)) (nomark _)) (pss_one (ps_ret pe_bl)) pss_nil)
      (pss_cons (ps_expr (pe_mt G hr (by decide) (pv 0) (pa_cons (pv 4) (pa_cons (pe_ix ix_tup (pv 2) pe_int (fun _ _ => rfl)) pa_nil)))) (pss_one (ps_ret pe_bl)))) pss_nil) pss_never))))))), ?_⟩
  have ⟨d, M, _⟩ := MA
  have hcl := rq.cell_lt hok M.vlen
  obtain ⟨v, hv⟩ : ∃ v, vals[rq.cell]? = some v := ⟨_, List.getElem?_eq_getElem hcl⟩
  obtain ⟨r0, _, f1, f2⟩ := M.ref hv
  obtain ⟨xs, e1, e2⟩ := rq.head
  have a0 : atI rq.tup 0 = some (.str rq.kind) := by rw [e1]; exact atI_nat (j := 0) rfl
  have a1 : atI rq.tup 1 = some (.int (rq.cell : Nat)) := by rw [e1]; exact atI_nat (j := 1) rfl
  refine ⟨_, rfl, _, _, _, _, rfl, rfl, SqT.of hra, a0, ?_⟩
  refine ⟨_, rfl, rfl, _, rfl, dN rq.nokind.2 ?_⟩
  refine ⟨_, rfl, _, _, _, _, rfl, rfl, SqT.of hra, a1, ?_⟩
  refine ⟨_, rfl, rfl, _, rfl, dN rq.nokind.1 ?_⟩
  refine ⟨_, rfl, _, _, _, _, _, rfl, M.ins.1, T.clMe, T.meTrails, rfl, _, rfl, _, _, _, _, rfl, rfl, SqL.of M.tl.1, atI_nat f1, _, rfl, _, _, _, _, rfl, rfl, SqL.of f2, atI_last [] v, ?_⟩
  cases rq with
  | rd c =>
    refine ⟨_, rfl, rfl, _, rfl, dY rfl ⟨_, rfl, ?_⟩⟩
    have q' := q g H Ch.refl MA
    have e : (Rq.rd c).res vals = v := getD_of hv
    rw [e] at q'
    exact q'
  | wr c v' =>
    refine ⟨_, rfl, rfl, _, rfl, dN (vs_ne rfl) ?_⟩
    refine ⟨_, rfl, rfl, _, rfl, dY rfl ?_⟩
    exact ⟨_, rfl, _, _, _, rfl, M.ins.1, rfl, _, rfl, _, rfl, _, _, _, _, rfl, rfl, SqT.of hra, atI_nat (j := 2) rfl, g, m, n, r, vals, cnt, log, c, v', rfl, MA, hok, fun g' H' k M' => q g' H' k M'⟩
  | sw c a b =>
    refine ⟨_, rfl, rfl, _, rfl, dN (vs_ne rfl) ?_⟩
    refine ⟨_, rfl, rfl, _, rfl, dN (vs_ne rfl) ?_⟩
    refine ⟨_, rfl, rfl, _, rfl, dY rfl ?_⟩
    obtain ⟨hc, ev, hev⟩ := hok
    have : v = .int ev := Option.some.inj (hv.symm.trans hev)
    subst this
    have eg : vals.getD c .non = .int ev := getD_of hev
    refine ⟨_, rfl, _, rfl, _, _, _, _, rfl, rfl, SqT.of hra, atI_nat (j := 2) rfl, rfl, _, rfl, ?_⟩
    by_cases hab : V.int ev = V.int a
    · refine nN hab ⟨_, rfl, _, _, _, rfl, M.ins.1, rfl, _, rfl, _, rfl, _, _, _, _, rfl, rfl, SqT.of hra, atI_nat (j := 3) rfl, g, m, n, r, vals, cnt, log, c, .int b, rfl, MA, hc, fun g' H' k M' => ?_⟩
      have q' := q g' H' k
      have r1 : (Rq.sw c a b).res vals = .bl true := by show V.bl (decide (vals.getD c .non = .int a)) = _; rw [eg, decide_eq_true hab]
      have r2 : (Rq.sw c a b).aft vals = vals.set c (.int b) := by show (if vals.getD c .non = .int a then _ else _) = _; rw [eg, if_pos hab]
      rw [r1, r2] at q'
      exact q' M'
    · have q' := q g H Ch.refl
      have r1 : (Rq.sw c a b).res vals = .bl false := by show V.bl (decide (vals.getD c .non = .int a)) = _; rw [eg, decide_eq_false hab]
      have r2 : (Rq.sw c a b).aft vals = vals := by show (if vals.getD c .non = .int a then _ else _) = _; rw [eg, if_neg hab]
      rw [r1, r2] at q'
      exact nY hab (q' MA)
theorem ok_access (D : MDef K CMe "access" "Memory.access" (inC 20 5) ["self", "thread", "request"]) (T : Txt K mg CSk CSt CEn CLe CLa CMe) (G1 : Met P w K mg base 3 CMe "check_request" (spCheckReq CLa CMe) [])
    (G2 : Met P w K mg base 5 CMe "result" (spResult CLa CMe) []) : Met P w K mg base 6 CMe "access" (spAccess CLa CMe) [] := by
  refine D.ok (N := ["self", "thread", "request"]) (by walk_at "sc") (by walk_at "len") fun f cdv A outer s H vs Q E hr h => ?_
  obtain ⟨g, m, ra, n, r, vals, cnt, log, t, rq, rfl, MA, hra, hok, ht, hcnt, q⟩ := h
  refine ⟨_, pss_cons (ps_expr (pe_mt G1 hr (by decide) (pv 0) (pa_cons (pv 1) (pa_cons (pv 2) pa_nil))))
    (pss_cons (ps_fldaug (pv 0) pe_int in_add)
    (pss_cons (ps_expr (pe_bm PySem.F.plainAttrs_list PySem.F.slot_list_append PySem.F.type_list_append mt_append (pe_fld (pv 0) rfl) (pa_cons (pe_tup (pa_cons (pe_fld (pv 0) rfl) (pa_cons (pv 1) (pa_cons (pv 2) pa_nil)))) pa_nil)))
    (pss_one (ps_ret (pe_tup (pa_cons (pe_mt G2 hr (by decide) (pv 0) (pa_cons (pv 1) (pa_cons (pv 2) pa_nil))) (pa_cons (pe_fld (pv 0) rfl) pa_nil))))))), ?_⟩
  have ⟨d, M, _⟩ := MA
  have hcl := rq.cell_lt hok M.vlen
  obtain ⟨xs, e1, e2⟩ := rq.head
  refine ⟨_, rfl, _, _, _, rfl, M.ins.1, rfl, _, rfl, _, rfl, g, m, ra, n, r, vals, cnt, log, t, rq, rfl, MA, hra.1, hcl, ht, ?_⟩
  refine ⟨_, rfl, _, _, _, _, _, rfl, M.ins.1, T.clMe, T.meCount, rfl, _, _, rfl, rfl, _, _, M.ins.1, (by show 5 < 1000; decide), ?_⟩
  have nlm : d.tl ≠ m := M.tl.nx M.ins (by intro z; cases z)
  have nrm : d.rl ≠ m := M.rl.nx M.ins (by intro z; cases z)
  refine ⟨_, rfl, _, _, _, _, _, rfl, upd_same, T.clMe, T.meRows, rfl, .inl ⟨rfl, _, SqL.of (by rw [upd_ne nrm]; exact M.rl.1)⟩, _, rfl, _, _, _, _, _, rfl, upd_same, T.clMe, T.meCount, rfl, _, rfl, _, rfl, (by show 3 ≤ sizeLine; rw [sizeLine_eq]; decide), fun p hp => ?_⟩
  have nrp : d.rl ≠ p := ne_of_none (o := .lst d.rs) (by rw [upd_ne nrm]; exact M.rl.1) hp
  refine ⟨_, _, _, rfl, rfl, (by rw [upd_ne nrp, upd_ne nrm]; exact M.rl.1), (by rw [sizeLine_eq, M.cnt]; omega), ?_⟩
  obtain ⟨MA2, k2⟩ := M.logged (a := .int ((cnt + 1 : Nat) : Int)) (b := .int (t : Nat)) (k := rq.kind) (ra := ra) (p := p) (xs := .int rq.cell :: xs) hp (by rw [← e1]; exact hra)
  have ⟨d2, M2, _⟩ := MA2
  have hra2 := hra.keep k2 (by decide)
  refine ⟨_, rfl, _, _, _, rfl, M2.ins.1, rfl, _, rfl, _, rfl, tg g p 0, m, ra, n, r, vals, cnt + 1, some rq.kind, t, rq, rfl, MA2, hra2.1, hok, fun g' H' k3 MA3 => ?_⟩
  have ⟨d3, M3, _⟩ := MA3
  refine ⟨_, rfl, _, _, _, _, _, rfl, M3.ins.1, T.clMe, T.meCount, rfl, (by show 2 ≤ sizeLine; rw [sizeLine_eq]; decide), fun z hz => ?_⟩
  have k4 : Ch (fun c => c = 1) g' H' (tg g' z 0) (upd H' z (.tup [rq.res vals, .int ((cnt + 1 : Nat) : Int)])) := Ch.new hz
  exact q _ _ z ((k2.trans k3).trans k4) (MA3.keep (S := fun _ => False) (Ch.new hz) (fun z => z) (fun z => z)) At.new
end

/-! ### Memory's making -/
theorem ixN_eq {n c : Nat} {z : Int} (e : z = (c : Nat)) (h : c < n) : ixN n z = some c := by rw [e]; exact ixN_nat h
structure PreOk (CLa CMe : Addr) (g : Tg) (H : Hp) (m dx lay rl tl : Addr) (T R : Nat) (refs : List Addr) (vals : List V) : Prop where
  ins : At g H 1 m (.ins CMe dx [("layout", .ref lay), ("count", .int 0), ("rows", .ref rl), ("trails", .ref tl)])
  lay : LayAt CLa g H lay (T : Nat) (R : Nat)
  atl : At g H 1 tl (.lst (refs.map V.ref))
  rlen : refs.length = vals.length
  vlen : vals.length = 1 + 2 * T + 3 + R
  cell : ∀ (i : Nat) (r : Addr) (v : V), refs[i]? = some r → vals[i]? = some v → At g H 0 r (.lst [v])
  arl : At g H 1 rl (.lst [])
  ne : rl ≠ tl
section
variable {CLa CMe : Addr} {g g' : Tg} {H H' : Hp} {m dx lay rl tl : Addr} {T R : Nat} {refs : List Addr} {vals : List V} {S : Nat → Prop}
theorem PreOk.keep (h : PreOk CLa CMe g H m dx lay rl tl T R refs vals) (k : Ch S g H g' H') (n0 : ¬ S 0) (n1 : ¬ S 1) : PreOk CLa CMe g' H' m dx lay rl tl T R refs vals :=
  ⟨h.ins.keep k n1, h.lay.keep k n0, h.atl.keep k n1, h.rlen, h.vlen, fun i r v a b => (h.cell i r v a b).keep k n0, h.arl.keep k n1, h.ne⟩
theorem PreOk.set (h : PreOk CLa CMe g H m dx lay rl tl T R refs vals) {p : Addr} {c : Nat} {v : V} (hp : H p = none) :
    PreOk CLa CMe (tg g p 0) (upd (upd H p (.lst [v])) tl (.lst ((refs.map V.ref).set c (.ref p)))) m dx lay rl tl T R (refs.set c p) (vals.set c v) ∧
    Ch (fun c => c = 1) g H (tg g p 0) (upd (upd H p (.lst [v])) tl (.lst ((refs.map V.ref).set c (.ref p)))) := by
  have k1 : Ch (fun c => c = 1) g H (tg g p 0) (upd H p (.lst [v])) := Ch.new hp
  have h1 : PreOk CLa CMe (tg g p 0) (upd H p (.lst [v])) m dx lay rl tl T R refs vals := h.keep (S := fun _ => False) (Ch.new hp) (fun z => z) (fun z => z)
  have k2 : Ch (fun c => c = 1) (tg g p 0) (upd H p (.lst [v])) (tg g p 0) (upd (upd H p (.lst [v])) tl (.lst ((refs.map V.ref).set c (.ref p)))) := Ch.wr h1.atl rfl
  obtain ⟨dl, hl⟩ := h1.lay
  refine ⟨⟨h1.ins.upd (h1.ins.nx h1.atl (by intro z; cases z)), ⟨dl, hl.upd (hl.ne h1.atl (by decide))⟩, ?_, ?_, ?_, ?_, h1.arl.upd h1.ne, h1.ne⟩, k1.trans k2⟩
  · rw [List.map_set]
    exact h1.atl.wr
  · rw [List.length_set, List.length_set]
    exact h.rlen
  · rw [List.length_set]
    exact h.vlen
  · intro i r u hr hv
    by_cases hi : c = i
    · subst hi
      have hc : c < refs.length := by
        have := (List.getElem?_eq_some_iff.mp hr).1
        rwa [List.length_set] at this
      rw [List.getElem?_set_self hc] at hr
      rw [List.getElem?_set_self (by rw [← h.rlen]; exact hc)] at hv
      cases hr
      cases hv
      exact (At.new).upd (At.ne (At.new (g := g) (H := H) (p := p) (c := 0) (o := .lst [v])) h1.atl (by decide))
    · rw [List.getElem?_set_ne hi] at hr hv
      have q := h1.cell i r u hr hv
      exact q.upd (q.ne h1.atl (by decide))
end
/-- the notes: some new list, nothing else -/
def spNotes (CLa CMe : Addr) : Sp := fun vs H Q _ => ∃ (g : Tg) (m dx lay : Addr) (T R : Nat) (fs : List (Str × V)), vs = [.ref m] ∧ H m = some (.ins CMe dx fs) ∧ fs.lookup ("layout" : Str) = some (V.ref lay) ∧ LayAt CLa g H lay (T : Nat) (R : Nat) ∧ T ≤ 3 ∧
  ∀ (p : Addr) (g' : Tg) (H' : Hp), Ch (fun _ => False) g H g' H' → Q (.ref p) H'
def spMeInit (CLa CMe : Addr) : Sp := fun vs H Q _ => ∃ (g : Tg) (m dx lay : Addr) (T R : Nat), vs = [.ref m, .ref lay] ∧ At g H 1 m (.ins CMe dx []) ∧ LayAt CLa g H lay (T : Nat) (R : Nat) ∧ 1 ≤ T ∧ T ≤ 3 ∧ 3 ≤ R ∧ R ≤ 200 ∧
  ∀ (g' : Tg) (H' : Hp) (vals : List V), Ch (fun c => c = 1) g H g' H' → MemAt CLa CMe g' H' m T R vals 0 none → vals[0]? = some (.int 0) → (∀ t, t < T → vals[1 + t]? = some .non) → Q .non H'
section
variable {P : Program} {w : World} {K : PySem.W.Frag} {mg : Str → Option Value} {base : Heap} {CSk CSt CEn CLe CLa CMe : Addr}
theorem ok_notes (D : MDef K CMe "no_notes" "Memory.no_notes" (inC 20 1) ["self"]) (T : Txt K mg CSk CSt CEn CLe CLa CMe) : Met P w K mg base 1 CMe "no_notes" (spNotes CLa CMe) [] := by
  refine D.ok (N := ["self", "_"]) (by walk_at "sc") (by walk_at "len") fun f cdv A outer s H vs Q E hr h => ?_
  have nd : (["self", "_"] : List Str).Nodup := by decide +kernel
  obtain ⟨g, m, dx, lay, n, r, fs, rfl, hm, hf, ⟨dl, L⟩, hn, q⟩ := h
  refine ⟨_, pss_one (ps_ret (pe_lc (own := [("_", 1)]) (g := gName 1) (tt := tYes) rfl nd (pi_range1 rfl T.range (pa_cons (pe_fld (pe_fld (pv 0) rfl) rfl) pa_nil)) (blkOk_by (N := ["self", "_"]) (sc := fnScope (inC 20 1)) (by decide +kernel))
    (fun _ _ _ _ _ => pg_name (i := 1) nd rfl (Or.inl rfl)) (fun _ _ _ _ _ => pts_nil) (fun _ _ _ _ _ => pe_dnewK))), ?_⟩
  refine ⟨_, rfl, _, _, _, _, _, rfl, hm, T.clMe, T.meLayout, hf, _, _, _, _, _, rfl, L.1, T.clLa, T.laThreads, rfl, _, rfl, by omega, by omega, fun D hD => ?_⟩
  refine lc_range (lo := 0) (n := ((n : Nat) : Int).toNat) (fun i H' => ∃ (g' : Tg) (acc : List V), Ch (fun _ => False) g H g' H' ∧ At g' H' 7 D (.lst acc) ∧ acc.length = i) ?_ ?_ ?_
  · exact ⟨tg g D 7, [], Ch.new hD, At.new, rfl⟩
  · rintro i H' hi ⟨g', acc, k, hD', hl⟩
    refine ⟨rfl, ?_⟩
    intro d hd
    have h2 := hD'.old (d := 0) (u := .dK []) hd
    have k2 : Ch (fun _ => False) g' H' (tg g' d 0) (upd H' d (.dK [])) := Ch.new hd
    refine ⟨acc, h2.1, ?_, ?_⟩
    · rw [sizeLine_eq]
      omega
    · refine ⟨tg g' d 0, acc ++ [.ref d], ?_, h2.wr, ?_⟩
      · exact (k.trans k2).wrNew hD
      · rw [List.length_append, hl]
        rfl
  · rintro H' ⟨g', acc, k, _, _⟩
    exact q D g' H' k
end

theorem size_2 {n : Nat} (h : n ≤ 100000) : n ≤ sizeLine := by rw [sizeLine_eq]; omega
section
variable {P : Program} {w : World} {K : PySem.W.Frag} {mg : Str → Option Value} {base : Heap} {CSk CSt CEn CLe CLa CMe : Addr}
theorem ok_meInit (D : KDef K mg "Memory" CMe "Memory.__init__" (inC 20 0) ["self", "layout"]) (T : Txt K mg CSk CSt CEn CLe CLa CMe) (GC : Met P w K mg base 2 CLa "cells" (spLa0 CLa fun t r => 1 + 2 * t + 3 + r) [])
    (GE : Met P w K mg base 1 CLa "epoch" (spLa0 CLa fun _ _ => 0) []) (GW : Met P w K mg base 1 CLa "word" (spLa1 CLa fun t _ i => 1 + 2 * t + i) []) (GR : Met P w K mg base 1 CLa "record" (spLa1 CLa fun t _ i => 1 + 2 * t + 3 + i) [])
    (GN : Met P w K mg base 1 CMe "no_notes" (spNotes CLa CMe) []) : Mak P w K mg base 3 "Memory" CMe (spMeInit CLa CMe) [] := by
  refine D.ok (N := ["self", "layout", "index", "_"]) (by walk_at "sc") (by walk_at "len") fun f cdv A outer s H vs Q E hr h => ?_
  have nd : (["self", "layout", "index", "_"] : List Str).Nodup := by decide +kernel
  obtain ⟨g, m, dx, lay, n, r, rfl, hm, hL, h1, h2, h3, h4, q⟩ := h
  refine ⟨_, pss_cons (ps_fld (pv 0) (pv 1) rfl) (pss_cons (ps_fld (pv 0) pe_int rfl) (pss_cons (ps_fld (pv 0) (pe_lst pa_nil) rfl)
    (pss_cons (ps_fld (pv 0) (pe_lc (own := [("_", 3)]) (g := gName 3) (tt := tYes) rfl nd (pi_range1 rfl T.range (pa_cons (pe_mt0 GC hr (by decide) (pv 1)) pa_nil)) (blkOk_by (N := ["self", "layout", "index", "_"]) (sc := fnScope (inC 20 0)) (by decide +kernel))
        (fun _ _ _ _ _ => pg_name (i := 3) nd rfl (Or.inl rfl)) (fun _ _ _ _ _ => pts_nil) (fun _ _ _ _ _ => pe_lst (pa_cons pe_non pa_nil))) rfl)
    (pss_cons (ps_asg (pe_lst (pa_cons pe_int pa_nil)) (pg_sub (pe_fld (pv 0) rfl) (pe_mt0 GE hr (by decide) (pv 1)) set_list))
    (pss_cons (ps_for PassesOwn.never rfl (pi_range1 rfl T.range (pa_cons (pe_fld (pv 1) rfl) pa_nil)) (pg_name (i := 2) nd rfl (Or.inl rfl))
      (pss_cons (ps_asg (pe_lst (pa_cons (pe_mt GR hr (by decide) (pv 1) (pa_cons (pv 2) pa_nil)) pa_nil)) (pg_sub (pe_fld (pv 0) rfl) (pe_mt GW hr (by decide) (pv 1) (pa_cons (pv 2) pa_nil)) set_list))
      (pss_one (ps_asg (pe_lst (pa_cons (pe_tup (pa_cons pe_str (pa_cons (pe_tup pa_nil) pa_nil))) pa_nil)) (pg_sub (pe_fld (pv 0) rfl) (pe_mt GR hr (by decide) (pv 1) (pa_cons (pv 2) pa_nil)) set_list)))))
    (pss_one (ps_fld (pv 0) (pe_mt0 GN hr (by decide) (pv 0)) rfl))))))), ?_⟩
  obtain ⟨dl, L⟩ := hL
  have nml : m ≠ lay := hm.ne L (by decide)
  -- layout, count, rows
  refine ⟨_, rfl, _, rfl, _, _, _, _, rfl, hm.1, T.clMe, T.meLayout, (by show 0 < 1000; decide), ?_⟩
  refine ⟨_, rfl, _, _, _, _, rfl, upd_same, T.clMe, T.meCount, (by show 1 < 1000; decide), ?_⟩
  refine ⟨Nat.zero_le _, fun rl hrl => ?_⟩
  rw [upd_upd] at hrl ⊢
  have k0 : Ch (fun c => c = 1) g H g (upd H m (.ins CMe dx (putF "count" (.int 0) (putF "layout" (.ref lay) [])))) := Ch.wr hm rfl
  have i0 := hm.wr (o' := .ins CMe dx (putF "count" (.int 0) (putF "layout" (.ref lay) [])))
  have k1 : Ch (fun c => c = 1) g (upd H m (.ins CMe dx (putF "count" (.int 0) (putF "layout" (.ref lay) [])))) (tg g rl 1) _ := Ch.new (o := .lst []) hrl
  have i1 := i0.old (d := 1) (u := .lst []) hrl
  have rn : At (tg g rl 1) (upd (upd H m (.ins CMe dx (putF "count" (.int 0) (putF "layout" (.ref lay) [])))) rl (.lst [])) 1 rl (.lst []) := At.new
  refine ⟨_, rfl, _, _, _, _, rfl, i1.1, T.clMe, T.meRows, (by show 2 < 1000; decide), ?_⟩
  have k2 := Ch.wr (S := fun c => c = 1) (o' := .ins CMe dx [("layout", .ref lay), ("count", .int 0), ("rows", .ref rl)]) i1 rfl
  have i2 := i1.wr (o' := .ins CMe dx [("layout", .ref lay), ("count", .int 0), ("rows", .ref rl)])
  have nrm : rl ≠ m := (rn.nx i1 (by intro z; cases z))
  have r2 := rn.upd (u := .ins CMe dx [("layout", .ref lay), ("count", .int 0), ("rows", .ref rl)]) nrm
  have kk := (k0.trans k1).trans k2
  have L2 := L.keep kk (by decide)
  show tSeq _ _ _ _ (upd (upd (upd H m (.ins CMe dx (putF "count" (.int 0) (putF "layout" (.ref lay) [])))) rl (.lst [])) m (.ins CMe dx [("layout", .ref lay), ("count", .int 0), ("rows", .ref rl)]))
  generalize upd (upd (upd H m (.ins CMe dx (putF "count" (.int 0) (putF "layout" (.ref lay) [])))) rl (.lst [])) m (.ins CMe dx [("layout", .ref lay), ("count", .int 0), ("rows", .ref rl)]) = H2 at kk L2 i2 r2 ⊢
  clear k2 k1 k0 i1 i0 rn
  -- trails
  refine ⟨_, rfl, _, _, _, rfl, L2.1, rfl, _, _, _, _, rfl, L2.1, _, rfl, by dsimp only; omega, by dsimp only; omega, fun tl htl => ?_⟩
  have hN : (1 + 2 * (n : Int) + 3 + (r : Int)).toNat = 1 + 2 * n + 3 + r := by omega
  rw [hN]
  refine lc_range (lo := 0) (n := 1 + 2 * n + 3 + r) (fun i H' => ∃ (g' : Tg) (refs : List Addr), Ch (fun _ => False) (tg g rl 1) H2 g' H' ∧ At g' H' 1 tl (.lst (refs.map V.ref)) ∧ refs.length = i ∧ ∀ z ∈ refs, At g' H' 0 z (.lst [.non])) ?_ ?_ ?_
  · exact ⟨tg (tg g rl 1) tl 1, [], Ch.new htl, At.new, rfl, fun z hz => by simp at hz⟩
  · rintro i H' hi ⟨g', refs, k, ht, hl, hz⟩
    refine ⟨rfl, ?_⟩
    refine ⟨by show 1 ≤ sizeLine; exact size_2 (by omega), fun p hp => ?_⟩
    have kp : Ch (fun _ => False) g' H' (tg g' p 0) (upd H' p (.lst [.non])) := Ch.new hp
    have ht2 := ht.keep kp (fun z => z)
    refine ⟨_, ht2.1, ?_, tg g' p 0, refs ++ [p], ?_, ?_, ?_, ?_⟩
    · rw [List.length_map, hl, sizeLine_eq]
      omega
    · exact (k.trans kp).wrNew htl
    · rw [List.map_append]
      exact ht2.wr
    · rw [List.length_append, hl]
      rfl
    · intro z hz'
      have kw : Ch (fun c => c = 1) (tg g' p 0) (upd H' p (.lst [.non])) (tg g' p 0) (upd (upd H' p (.lst [.non])) tl (.lst (refs.map V.ref ++ [.ref p]))) := Ch.wr ht2 rfl
      rcases List.mem_append.mp hz' with hz' | hz'
      · exact ((hz z hz').keep kp (fun z => z)).keep kw (by decide)
      · obtain rfl : z = p := List.mem_singleton.mp hz'
        exact (At.new).keep kw (by decide)
  rintro H3 ⟨g3, refs, k3, ht3, hl3, hz3⟩
  -- the object as it stands now
  have i3 := i2.keep k3 (fun z => z)
  have r3 := r2.keep k3 (fun z => z)
  refine ⟨_, rfl, _, _, _, _, rfl, i3.1, T.clMe, T.meTrails, (by show 3 < 1000; decide), ?_⟩
  have nrt : rl ≠ tl := fun e => by
    have q1 := r2.1
    rw [e, htl] at q1
    cases q1
  have ntm : tl ≠ m := ht3.nx i3 (by intro z; cases z)
  have k4 := Ch.wr (S := fun c => c = 1) (o' := .ins CMe dx [("layout", .ref lay), ("count", .int 0), ("rows", .ref rl), ("trails", .ref tl)]) i3 rfl
  have pre : PreOk CLa CMe g3 (upd H3 m (.ins CMe dx [("layout", .ref lay), ("count", .int 0), ("rows", .ref rl), ("trails", .ref tl)])) m dx lay rl tl n r refs (List.replicate (1 + 2 * n + 3 + r) .non) :=
    ⟨i3.wr, ⟨dl, (L2.keep k3 (fun z => z)).keep k4 (by decide)⟩, ht3.upd ntm, by rw [hl3, List.length_replicate], by rw [List.length_replicate], fun i z v e1 e2 => by
      have ev : v = .non := by
        have := List.mem_of_getElem? e2
        exact (List.mem_replicate.mp this).2
      rw [ev]
      exact (hz3 z (List.mem_of_getElem? e1)).keep k4 (by decide), r3.upd nrm, nrt⟩
  have kA := (kk.trans (k3.mono fun _ z => z.elim)).trans k4
  show tSeq _ _ _ _ (upd H3 m (.ins CMe dx [("layout", .ref lay), ("count", .int 0), ("rows", .ref rl), ("trails", .ref tl)]))
  generalize upd H3 m (.ins CMe dx [("layout", .ref lay), ("count", .int 0), ("rows", .ref rl), ("trails", .ref tl)]) = H4 at pre kA ⊢
  clear k4 i3 r3 k3 ht3 hz3
  -- the epoch
  refine ⟨by show 1 ≤ sizeLine; exact size_2 (by omega), fun p hp => ?_⟩
  obtain ⟨d5, L5⟩ := pre.lay
  have pre' := pre.keep (S := fun _ => False) (Ch.new (c := 0) (o := .lst [.int 0]) hp) (fun z => z) (fun z => z)
  have hrl : refs.length = 1 + 2 * n + 3 + r := hl3
  refine ⟨_, rfl, _, _, _, _, _, rfl, pre'.ins.1, T.clMe, T.meTrails, rfl, _, rfl, _, _, _, rfl, (L5.old (d := 0) (u := .lst [.int 0]) hp).1, rfl, _, _, _, _, rfl, (L5.old (d := 0) (u := .lst [.int 0]) hp).1, _, _, _, 0, rfl, rfl, pre'.atl.1, ixN_eq rfl (by rw [List.length_map]; omega), ?_⟩
  obtain ⟨pre2, k5⟩ := pre.set (c := 0) (v := .int 0) hp
  have kB := kA.trans k5
  generalize upd (upd H4 p (.lst [.int 0])) tl (.lst ((refs.map V.ref).set 0 (.ref p))) = H5 at pre2 kB ⊢
  clear k5 pre pre' kA
  obtain ⟨d6, L6⟩ := pre2.lay
  refine ⟨_, rfl, _, _, _, _, _, rfl, L6.1, T.clLa, T.laWords, rfl, _, rfl, by decide, by decide, ?_⟩
  refine for_range (lo := 0) (n := 3) (fun i σ H' => ∃ (g' : Tg) (refs : List Addr) (vals : List V) (z : Option V), σ = [some (.ref m), some (.ref lay), z, none] ∧ Ch (fun c => c = 1) g H g' H' ∧ PreOk CLa CMe g' H' m dx lay rl tl n r refs vals ∧ vals[0]? = some (.int 0) ∧ ∀ t, t < n → vals[1 + t]? = some .non) ?_ ?_ ?_
  · refine ⟨_, _, _, none, rfl, kB, pre2, ?_, fun t ht => ?_⟩
    · rw [List.getElem?_set_self (by rw [List.length_replicate]; omega)]
    · rw [List.getElem?_set_ne (by omega), List.getElem?_replicate, if_pos (by omega)]
  · rintro i σ H' hi ⟨g', refs, vals, z, rfl, k, pre, v0, vt⟩
    obtain ⟨d7, L7⟩ := pre.lay
    have hrl : refs.length = 1 + 2 * n + 3 + r := pre.rlen.trans pre.vlen
    refine ⟨_, rfl, _, _, _, rfl, L7.1, rfl, _, rfl, _, _, _, _, _, rfl, L7.1, (by show 1 ≤ sizeLine; exact size_2 (by omega)), fun p hp => ?_⟩
    have pre' := pre.keep (S := fun _ => False) (Ch.new (c := 0) (o := .lst [.int (1 + 2 * (n : Int) + 3 + (0 + (i : Int)))]) hp) (fun z => z) (fun z => z)
    have L7' := L7.old (d := 0) (u := .lst [.int (1 + 2 * (n : Int) + 3 + (0 + (i : Int)))]) hp
    refine ⟨_, rfl, _, _, _, _, _, rfl, pre'.ins.1, T.clMe, T.meTrails, rfl, _, rfl, _, _, _, rfl, L7'.1, rfl, _, rfl, _, _, _, _, _, rfl, L7'.1, _, _, _, 1 + 2 * n + i, rfl, rfl, pre'.atl.1, ixN_eq (by dsimp only; omega) (by rw [List.length_map]; omega), ?_⟩
    obtain ⟨pre2, k5⟩ := pre.set (c := 1 + 2 * n + i) (v := .int (1 + 2 * (n : Int) + 3 + (0 + (i : Int)))) hp
    have kC := k.trans k5
    generalize upd (upd H' p (.lst [.int (1 + 2 * (n : Int) + 3 + (0 + (i : Int)))])) tl (.lst ((refs.map V.ref).set (1 + 2 * n + i) (.ref p))) = H6 at pre2 kC ⊢
    clear k5 pre pre' k
    have hrl2 : (refs.set (1 + 2 * n + i) p).length = 1 + 2 * n + 3 + r := pre2.rlen.trans pre2.vlen
    -- the record
    refine ⟨Nat.zero_le _, fun t0 ht0 => ?_⟩
    have pre3 := pre2.keep (S := fun _ => False) (Ch.new (c := 0) (o := .tup []) ht0) (fun z => z) (fun z => z)
    have kD := kC.trans (Ch.new (S := fun c => c = 1) (c := 0) (o := .tup []) ht0)
    refine ⟨by show 2 ≤ sizeLine; exact size_2 (by omega), fun t1 ht1 => ?_⟩
    have pre4 := pre3.keep (S := fun _ => False) (Ch.new (c := 0) (o := .tup [.str "items", .ref t0]) ht1) (fun z => z) (fun z => z)
    have kE := kD.trans (Ch.new (S := fun c => c = 1) (c := 0) (o := .tup [.str "items", .ref t0]) ht1)
    refine ⟨by show 1 ≤ sizeLine; exact size_2 (by omega), fun p2 hp2 => ?_⟩
    have pre5 := pre4.keep (S := fun _ => False) (Ch.new (c := 0) (o := .lst [.ref t1]) hp2) (fun z => z) (fun z => z)
    obtain ⟨d8, L8⟩ := pre5.lay
    refine ⟨_, rfl, _, _, _, _, _, rfl, pre5.ins.1, T.clMe, T.meTrails, rfl, _, rfl, _, _, _, rfl, L8.1, rfl, _, rfl, _, _, _, _, _, rfl, L8.1, _, _, _, 1 + 2 * n + 3 + i, rfl, rfl, pre5.atl.1, ixN_eq (by dsimp only; omega) (by rw [List.length_map]; omega), ?_⟩
    obtain ⟨pre6, k6⟩ := pre4.set (c := 1 + 2 * n + 3 + i) (v := .ref t1) hp2
    refine ⟨_, _, _, _, rfl, kE.trans k6, pre6, ?_, fun t ht => ?_⟩
    · rw [List.getElem?_set_ne (by omega), List.getElem?_set_ne (by omega)]
      exact v0
    · rw [List.getElem?_set_ne (by omega), List.getElem?_set_ne (by omega)]
      exact vt t ht
  · rintro σ H' ⟨g', refs, vals, z, rfl, k, pre, v0, vt⟩
    obtain ⟨d7, L7⟩ := pre.lay
    refine ⟨_, rfl, _, _, _, rfl, pre.ins.1, rfl, g', m, dx, lay, n, r, _, rfl, pre.ins.1, rfl, ⟨d7, L7⟩, h2, fun nl g2 H2' k2 => ?_⟩
    have pre2 := pre.keep k2 (fun z => z) (fun z => z)
    refine ⟨_, rfl, _, _, _, _, rfl, pre2.ins.1, T.clMe, T.meNotes, (by show 4 < 1000; decide), ?_⟩
    have k9 := Ch.wr (S := fun c => c = 1) (o' := .ins CMe dx (meF lay 0 rl tl nl)) pre2.ins rfl
    refine q g2 _ vals ((k.trans (k2.mono fun _ z => z.elim)).trans k9) ⟨⟨dx, lay, rl, tl, nl, refs, []⟩, ⟨pre2.ins.wr, pre2.lay.keep k9 (by decide), pre2.atl.upd (pre2.atl.nx pre2.ins (by intro z; cases z)), pre2.rlen, pre2.vlen, fun i z v e1 e2 => (pre2.cell i z v e1 e2).keep k9 (by decide), pre2.arl.upd (pre2.arl.nx pre2.ins (by intro z; cases z)), pre2.ne, rfl⟩, fun k e => by cases e⟩ v0 vt
end

/-! ### Store: what stands there. tags: 10 + t the store itself, 15 + t its list of what waits -/
structure SS where
  spare : List Int
  out : List Int
  del : List (Int × List Int)
def frd (k : Int) (del : List (Int × List Int)) : List Int := (del.filter fun p => decide (p.1 ≤ k - 3)).flatMap (·.2)
def kept (k : Int) (del : List (Int × List Int)) : List (Int × List Int) := del.filter fun p => !decide (p.1 ≤ k - 3)
theorem take_snoc {α : Type} {xs : List α} {i : Nat} {x : α} (h : xs[i]? = some x) : xs.take (i + 1) = xs.take i ++ [x] := by
  rw [List.take_add_one, h]
  rfl
theorem fm_len {α β : Type} {l1 l2 : List α} (h : l1.Sublist l2) (f : α → List β) : (l1.flatMap f).length ≤ (l2.flatMap f).length := by
  induction h with
  | slnil => exact Nat.le_refl _
  | cons a _ ih =>
    rw [List.flatMap_cons, List.length_append]
    omega
  | cons_cons a _ ih =>
    rw [List.flatMap_cons, List.flatMap_cons, List.length_append, List.length_append]
    omega
theorem frd_snoc_le {k : Int} {del : List (Int × List Int)} {p : Int × List Int} (h : p.1 ≤ k - 3) : frd k (del ++ [p]) = frd k del ++ p.2 := by
  unfold frd
  rw [List.filter_append, List.flatMap_append]
  simp [h]
theorem frd_snoc_gt {k : Int} {del : List (Int × List Int)} {p : Int × List Int} (h : ¬ p.1 ≤ k - 3) : frd k (del ++ [p]) = frd k del := by
  unfold frd
  rw [List.filter_append, List.flatMap_append]
  simp [h]
theorem kept_snoc_le {k : Int} {del : List (Int × List Int)} {p : Int × List Int} (h : p.1 ≤ k - 3) : kept k (del ++ [p]) = kept k del := by
  unfold kept
  rw [List.filter_append]
  simp [h]
theorem kept_snoc_gt {k : Int} {del : List (Int × List Int)} {p : Int × List Int} (h : ¬ p.1 ≤ k - 3) : kept k (del ++ [p]) = kept k del ++ [p] := by
  unfold kept
  rw [List.filter_append]
  simp [h]
def stF (lay : Addr) (t : Int) (lsp lout ldel : Addr) : List (Str × V) := [("layout", .ref lay), ("thread", .int t), ("spare", .ref lsp), ("taken_out", .ref lout), ("delayed", .ref ldel)]
structure StoD where
  dx : Addr
  lay : Addr
  lsp : Addr
  lout : Addr
  ldel : Addr
  drefs : List Addr
/-- rows (stamp, cells) -/
structure DelAt (g : Tg) (H : Hp) (drefs : List Addr) (del : List (Int × List Int)) : Prop where
  len : drefs.length = del.length
  row : ∀ (i : Nat) (r : Addr) (p : Int × List Int), drefs[i]? = some r → del[i]? = some p → ∃ lc, At g H 0 r (.tup [.int p.1, .ref lc]) ∧ At g H 0 lc (.lst (p.2.map V.int))
structure StoOk (CLa CSt : Addr) (g : Tg) (H : Hp) (s : Addr) (T R t : Nat) (S : SS) (D : StoD) : Prop where
  ins : At g H (10 + t) s (.ins CSt D.dx (stF D.lay (t : Nat) D.lsp D.lout D.ldel))
  lay : LayAt CLa g H D.lay (T : Nat) (R : Nat)
  sp : At g H 0 D.lsp (.lst (S.spare.map V.int))
  out : At g H 0 D.lout (.lst (S.out.map V.int))
  del : At g H (15 + t) D.ldel (.lst (D.drefs.map V.ref))
  rows : DelAt g H D.drefs S.del
def StoAt (CLa CSt : Addr) (g : Tg) (H : Hp) (s : Addr) (T R t : Nat) (S : SS) : Prop := ∃ D, StoOk CLa CSt g H s T R t S D
section
variable {CLa CSt : Addr} {g g' : Tg} {H H' : Hp} {s : Addr} {T R t : Nat} {S : SS} {D : StoD} {Z : Nat → Prop} {drefs : List Addr} {del : List (Int × List Int)}
theorem DelAt.keep (h : DelAt g H drefs del) (k : Ch Z g H g' H') (n0 : ¬ Z 0) : DelAt g' H' drefs del :=
  ⟨h.len, fun i r p a b => let ⟨lc, h1, h2⟩ := h.row i r p a b; ⟨lc, h1.keep k n0, h2.keep k n0⟩⟩
theorem DelAt.nil : DelAt g H [] [] := ⟨rfl, fun i r p a b => by simp at a⟩
theorem DelAt.snoc (h : DelAt g H drefs del) {r lc : Addr} {p : Int × List Int} (h1 : At g H 0 r (.tup [.int p.1, .ref lc])) (h2 : At g H 0 lc (.lst (p.2.map V.int))) : DelAt g H (drefs ++ [r]) (del ++ [p]) := by
  refine ⟨by rw [List.length_append, List.length_append, h.len]; rfl, fun i r' p' a b => ?_⟩
  by_cases hi : i < drefs.length
  · rw [List.getElem?_append_left hi] at a
    rw [List.getElem?_append_left (by rw [← h.len]; exact hi)] at b
    exact h.row i r' p' a b
  · rw [List.getElem?_append_right (by omega)] at a
    rw [List.getElem?_append_right (by rw [← h.len]; omega)] at b
    rw [← h.len] at b
    have hz : i - drefs.length = 0 := by
      have := (List.getElem?_eq_some_iff.mp a).1
      simp at this
      omega
    rw [hz] at a b
    cases a
    cases b
    exact ⟨lc, h1, h2⟩
theorem StoOk.keep (h : StoOk CLa CSt g H s T R t S D) (k : Ch Z g H g' H') (n0 : ¬ Z 0) (n1 : ¬ Z (10 + t)) (n2 : ¬ Z (15 + t)) : StoOk CLa CSt g' H' s T R t S D :=
  ⟨h.ins.keep k n1, h.lay.keep k n0, h.sp.keep k n0, h.out.keep k n0, h.del.keep k n2, h.rows.keep k n0⟩
theorem StoAt.keep (h : StoAt CLa CSt g H s T R t S) (k : Ch Z g H g' H') (n0 : ¬ Z 0) (n1 : ¬ Z (10 + t)) (n2 : ¬ Z (15 + t)) : StoAt CLa CSt g' H' s T R t S :=
  let ⟨D, h⟩ := h; ⟨D, h.keep k n0 n1 n2⟩
theorem cutV_to {xs : List V} {k : Nat} (h : k ≤ xs.length) : cutV xs none (some (k : Int)) = xs.take k := by
  unfold cutV
  rw [HT.sIx_none, HT.sIx_nat, List.drop_zero, Nat.sub_zero, Nat.min_eq_left h]
theorem cutV_from {xs : List V} {k : Nat} (h : k ≤ xs.length) : cutV xs (some (k : Int)) none = xs.drop k := by
  unfold cutV
  rw [HT.sIx_none, HT.sIx_nat, Nat.min_eq_left h]
  exact List.take_of_length_le (by rw [List.length_drop]; exact Nat.le_refl _)
end
section
variable {CLa CSt : Addr} {g g' : Tg} {H H' : Hp} {s : Addr} {T R t : Nat} {S : SS} {D : StoD} {Z : Nat → Prop} {drefs : List Addr} {del : List (Int × List Int)}
/-- the free cells: a new list -/
theorem StoOk.wsp (h : StoOk CLa CSt g H s T R t S D) {p : Addr} {ns : List Int} (hp : H p = none) :
    StoOk CLa CSt (tg g p 0) (upd (upd H p (.lst (ns.map V.int))) s (.ins CSt D.dx (stF D.lay (t : Nat) p D.lout D.ldel))) s T R t { S with spare := ns } { D with lsp := p } ∧
    Ch (fun c => c = 10 + t) g H (tg g p 0) (upd (upd H p (.lst (ns.map V.int))) s (.ins CSt D.dx (stF D.lay (t : Nat) p D.lout D.ldel))) := by
  have k1 : Ch (fun _ => False) g H (tg g p 0) (upd H p (.lst (ns.map V.int))) := Ch.new hp
  have h1 := h.keep k1 (fun z => z) (fun z => z) (fun z => z)
  have k2 := Ch.wr (S := fun c => c = 10 + t) (o' := .ins CSt D.dx (stF D.lay (t : Nat) p D.lout D.ldel)) h1.ins rfl
  have n := At.new (g := g) (H := H) (p := p) (c := 0) (o := .lst (ns.map V.int))
  exact ⟨⟨h1.ins.wr, h1.lay.keep k2 (by omega), n.keep k2 (by omega), h1.out.keep k2 (by omega), h1.del.keep k2 (by omega), h1.rows.keep k2 (by omega)⟩, (k1.mono fun _ z => z.elim).trans k2⟩
/-- what the call has taken out: a new list -/
theorem StoOk.wout (h : StoOk CLa CSt g H s T R t S D) {p : Addr} {ns : List Int} (hp : H p = none) :
    StoOk CLa CSt (tg g p 0) (upd (upd H p (.lst (ns.map V.int))) s (.ins CSt D.dx (stF D.lay (t : Nat) D.lsp p D.ldel))) s T R t { S with out := ns } { D with lout := p } ∧
    Ch (fun c => c = 10 + t) g H (tg g p 0) (upd (upd H p (.lst (ns.map V.int))) s (.ins CSt D.dx (stF D.lay (t : Nat) D.lsp p D.ldel))) := by
  have k1 : Ch (fun _ => False) g H (tg g p 0) (upd H p (.lst (ns.map V.int))) := Ch.new hp
  have h1 := h.keep k1 (fun z => z) (fun z => z) (fun z => z)
  have k2 := Ch.wr (S := fun c => c = 10 + t) (o' := .ins CSt D.dx (stF D.lay (t : Nat) D.lsp p D.ldel)) h1.ins rfl
  have n := At.new (g := g) (H := H) (p := p) (c := 0) (o := .lst (ns.map V.int))
  exact ⟨⟨h1.ins.wr, h1.lay.keep k2 (by omega), h1.sp.keep k2 (by omega), n.keep k2 (by omega), h1.del.keep k2 (by omega), h1.rows.keep k2 (by omega)⟩, (k1.mono fun _ z => z.elim).trans k2⟩
/-- what waits: another list -/
theorem StoOk.wdel (h : StoOk CLa CSt g H s T R t S D) {p : Addr} (hp : At g H (15 + t) p (.lst (drefs.map V.ref))) (hd : DelAt g H drefs del) :
    StoOk CLa CSt g (upd H s (.ins CSt D.dx (stF D.lay (t : Nat) D.lsp D.lout p))) s T R t { S with del := del } { D with ldel := p, drefs := drefs } ∧
    Ch (fun c => c = 10 + t) g H g (upd H s (.ins CSt D.dx (stF D.lay (t : Nat) D.lsp D.lout p))) := by
  have k2 := Ch.wr (S := fun c => c = 10 + t) (o' := .ins CSt D.dx (stF D.lay (t : Nat) D.lsp D.lout p)) h.ins rfl
  exact ⟨⟨h.ins.wr, h.lay.keep k2 (by omega), h.sp.keep k2 (by omega), h.out.keep k2 (by omega), hp.keep k2 (by omega), hd.keep k2 (by omega)⟩, k2⟩
/-- one more waits -/
theorem StoOk.app (h : StoOk CLa CSt g H s T R t S D) {p : Addr} {e : Int} (hp : H p = none) :
    StoOk CLa CSt (tg g p 0) (upd (upd H p (.tup [.int e, .ref D.lout])) D.ldel (.lst (D.drefs.map V.ref ++ [.ref p]))) s T R t { S with del := S.del ++ [(e, S.out)] } { D with drefs := D.drefs ++ [p] } ∧
    Ch (fun c => c = 15 + t) g H (tg g p 0) (upd (upd H p (.tup [.int e, .ref D.lout])) D.ldel (.lst (D.drefs.map V.ref ++ [.ref p]))) := by
  have k1 : Ch (fun _ => False) g H (tg g p 0) (upd H p (.tup [.int e, .ref D.lout])) := Ch.new hp
  have h1 := h.keep k1 (fun z => z) (fun z => z) (fun z => z)
  have k2 := Ch.wr (S := fun c => c = 15 + t) (o' := .lst (D.drefs.map V.ref ++ [.ref p])) h1.del rfl
  have n := At.new (g := g) (H := H) (p := p) (c := 0) (o := .tup [.int e, .ref D.lout])
  refine ⟨⟨h1.ins.keep k2 (by omega), h1.lay.keep k2 (by omega), h1.sp.keep k2 (by omega), h1.out.keep k2 (by omega), ?_, (h1.rows.keep k2 (by omega)).snoc (n.keep k2 (by omega)) (h1.out.keep k2 (by omega))⟩, (k1.mono fun _ z => z.elim).trans k2⟩
  show At _ _ _ _ (.lst ((D.drefs ++ [p]).map V.ref))
  rw [List.map_append]
  exact h1.del.wr
end
def spStInit (CLa CSt : Addr) : Sp := fun vs H Q _ => ∃ (g : Tg) (s dx lay lc : Addr) (T R t : Nat) (cells : List Int), vs = [.ref s, .ref lay, .int t, .ref lc] ∧ At g H (10 + t) s (.ins CSt dx []) ∧ LayAt CLa g H lay (T : Nat) (R : Nat) ∧ H lc = some (.lst (cells.map V.int)) ∧
  ∀ (g' : Tg) (H' : Hp) (sp : List Int), Ch (fun c => c = 10 + t) g H g' H' → StoAt CLa CSt g' H' s T R t ⟨sp, [], []⟩ → sp.Perm cells → sp.Pairwise (· ≤ ·) → Q .non H'
def spTake (CLa CSt : Addr) : Sp := fun vs H Q _ => ∃ (g : Tg) (s : Addr) (T R t : Nat) (S : SS) (k : Nat), vs = [.ref s, .int k] ∧ StoAt CLa CSt g H s T R t S ∧ k ≤ S.spare.length ∧
  ∀ (g' : Tg) (H' : Hp) (p : Addr), Ch (fun c => c = 10 + t) g H g' H' → StoAt CLa CSt g' H' s T R t { S with spare := S.spare.drop k } → At g' H' 0 p (.lst ((S.spare.take k).map V.int)) → Q (.ref p) H'
def spGiveBack (CLa CSt : Addr) : Sp := fun vs H Q _ => ∃ (g : Tg) (s lc : Addr) (T R t : Nat) (S : SS) (D : StoD) (cells : List Int), vs = [.ref s, .ref lc] ∧ StoOk CLa CSt g H s T R t S D ∧ H lc = some (.lst (cells.map V.int)) ∧ S.spare.length + cells.length ≤ 100000 ∧
  ∀ (g' : Tg) (H' : Hp) (sp : List Int) (lsp' : Addr), Ch (fun c => c = 10 + t) g H g' H' → StoOk CLa CSt g' H' s T R t { S with spare := sp } { D with lsp := lsp' } → sp.Perm (S.spare ++ cells) → Q .non H'
def spTakeOut (CLa CSt : Addr) : Sp := fun vs H Q _ => ∃ (g : Tg) (s lc : Addr) (T R t : Nat) (S : SS) (cells : List Int), vs = [.ref s, .ref lc] ∧ StoAt CLa CSt g H s T R t S ∧ H lc = some (.lst (cells.map V.int)) ∧ S.out.length + cells.length ≤ 100000 ∧
  ∀ (g' : Tg) (H' : Hp), Ch (fun c => c = 10 + t) g H g' H' → StoAt CLa CSt g' H' s T R t { S with out := S.out ++ cells } → Q .non H'
def spFree (CLa CSt : Addr) : Sp := fun vs H Q _ => ∃ (g : Tg) (s : Addr) (T R t : Nat) (S : SS), vs = [.ref s] ∧ StoAt CLa CSt g H s T R t S ∧ ∀ p, H p = none → Q (.ref p) (upd H p (.lst (S.spare.map V.int)))
def spStamp (CLa CSt : Addr) : Sp := fun vs H Q _ => ∃ (g : Tg) (s : Addr) (T R t : Nat) (S : SS) (e : Int), vs = [.ref s, .int e] ∧ StoAt CLa CSt g H s T R t S ∧ S.del.length ≤ 100000 ∧
  ∀ (g' : Tg) (H' : Hp), Ch (fun c => c = 10 + t ∨ c = 15 + t) g H g' H' → StoAt CLa CSt g' H' s T R t { S with out := [], del := S.del ++ [(e, S.out)] } → Q .non H'
def spRelease (CLa CSt : Addr) : Sp := fun vs H Q _ => ∃ (g : Tg) (s : Addr) (T R t : Nat) (S : SS) (e : Int), vs = [.ref s, .int e] ∧ StoAt CLa CSt g H s T R t S ∧ S.del.length ≤ 100000 ∧ S.spare.length + (S.del.flatMap (·.2)).length ≤ 100000 ∧
  ∀ (g' : Tg) (H' : Hp) (sp : List Int), Ch (fun c => c = 10 + t) g H g' H' → StoAt CLa CSt g' H' s T R t { S with spare := sp, del := kept e S.del } → sp.Perm (S.spare ++ frd e S.del) → Q .non H'
section
variable {P : Program} {w : World} {K : PySem.W.Frag} {mg : Str → Option Value} {base : Heap} {CSk CSt CEn CLe CLa CMe : Addr}
theorem ok_stInit (D : KDef K mg "Store" CSt "Store.__init__" (inC 6 0) ["self", "layout", "thread", "cells"]) (T : Txt K mg CSk CSt CEn CLe CLa CMe) : Mak P w K mg base 1 "Store" CSt (spStInit CLa CSt) [] := by
  refine D.ok (N := ["self", "layout", "thread", "cells"]) (by walk_at "sc") (by walk_at "len") fun f cdv A outer s0 H vs Q E hr h => ?_
  obtain ⟨g, s, dx, lay, lc, n, r, t, cells, rfl, hs, hL, hc, q⟩ := h
  refine ⟨_, pss_cons (ps_fld (pv 0) (pv 1) rfl) (pss_cons (ps_fld (pv 0) (pv 2) rfl) (pss_cons (ps_fld (pv 0) (pe_callB cr_sortedI (by rfl) T.sorted (by decide +kernel) (pa_cons (pv 3) pa_nil)) rfl)
    (pss_cons (ps_fld (pv 0) (pe_lst pa_nil) rfl) (pss_one (ps_fld (pv 0) (pe_lst pa_nil) rfl))))), ?_⟩
  obtain ⟨dl, L⟩ := hL
  have nsc : s ≠ lc := ne_of hs.1 hc (by intro z; cases z)
  refine ⟨_, rfl, _, rfl, _, _, _, _, rfl, hs.1, T.clSt, T.stLayout, (by show 0 < 1000; decide), ?_⟩
  refine ⟨_, rfl, _, rfl, _, _, _, _, rfl, upd_same, T.clSt, T.stThread, (by show 1 < 1000; decide), ?_⟩
  rw [upd_upd]
  have k0 := Ch.wr (S := fun c => c = 10 + t) (o' := .ins CSt dx [("layout", .ref lay), ("thread", .int t)]) hs rfl
  have i0 := hs.wr (o' := .ins CSt dx [("layout", .ref lay), ("thread", .int t)])
  refine ⟨_, rfl, lc, cells, rfl, SqL.of (by rw [upd_ne nsc.symm]; exact hc), fun sp lsp hp hw hl => ?_⟩
  have k1 := k0.trans (Ch.new (S := fun c => c = 10 + t) (c := 0) (o := .lst (sp.map V.int)) hl)
  have i1 := i0.old (d := 0) (u := .lst (sp.map V.int)) hl
  have a1 := At.new (g := g) (H := upd H s (.ins CSt dx [("layout", .ref lay), ("thread", .int t)])) (p := lsp) (c := 0) (o := .lst (sp.map V.int))
  refine ⟨_, rfl, _, _, _, _, rfl, i1.1, T.clSt, T.stSpare, (by show 2 < 1000; decide), ?_⟩
  have k2 := k1.trans (Ch.wr (S := fun c => c = 10 + t) (o' := .ins CSt dx [("layout", .ref lay), ("thread", .int t), ("spare", .ref lsp)]) i1 rfl)
  have i2 := i1.wr (o' := .ins CSt dx [("layout", .ref lay), ("thread", .int t), ("spare", .ref lsp)])
  have a2 := a1.upd (u := .ins CSt dx [("layout", .ref lay), ("thread", .int t), ("spare", .ref lsp)]) (a1.nx i1 (by intro z; cases z))
  refine ⟨Nat.zero_le _, fun lout hlo => ?_⟩
  have k3 := k2.trans (Ch.new (S := fun c => c = 10 + t) (c := 0) (o := .lst []) hlo)
  have i3 := i2.old (d := 0) (u := .lst []) hlo
  have a3 := a2.old (d := 0) (u := .lst []) hlo
  have b3 := At.new (g := tg g lsp 0) (p := lout) (c := 0) (o := .lst []) (H := upd (upd (upd H s (.ins CSt dx [("layout", .ref lay), ("thread", .int t)])) lsp (.lst (sp.map V.int))) s (.ins CSt dx [("layout", .ref lay), ("thread", .int t), ("spare", .ref lsp)]))
  refine ⟨_, rfl, _, _, _, _, rfl, i3.1, T.clSt, T.stTaken, (by show 3 < 1000; decide), ?_⟩
  have k4 := k3.trans (Ch.wr (S := fun c => c = 10 + t) (o' := .ins CSt dx [("layout", .ref lay), ("thread", .int t), ("spare", .ref lsp), ("taken_out", .ref lout)]) i3 rfl)
  have i4 := i3.wr (o' := .ins CSt dx [("layout", .ref lay), ("thread", .int t), ("spare", .ref lsp), ("taken_out", .ref lout)])
  have a4 := a3.upd (u := .ins CSt dx [("layout", .ref lay), ("thread", .int t), ("spare", .ref lsp), ("taken_out", .ref lout)]) (a3.nx i3 (by intro z; cases z))
  have b4 := b3.upd (u := .ins CSt dx [("layout", .ref lay), ("thread", .int t), ("spare", .ref lsp), ("taken_out", .ref lout)]) (b3.nx i3 (by intro z; cases z))
  refine ⟨Nat.zero_le _, fun ldel hld => ?_⟩
  have k5 := k4.trans (Ch.new (S := fun c => c = 10 + t) (c := 15 + t) (o := .lst []) hld)
  have i5 := i4.old (d := 15 + t) (u := .lst []) hld
  have a5 := a4.old (d := 15 + t) (u := .lst []) hld
  have b5 := b4.old (d := 15 + t) (u := .lst []) hld
  refine ⟨_, rfl, _, _, _, _, rfl, i5.1, T.clSt, T.stDelayed, (by show 4 < 1000; decide), ?_⟩
  have kw := Ch.wr (S := fun c => c = 10 + t) (o' := .ins CSt dx (stF lay t lsp lout ldel)) i5 rfl
  have k6 := k5.trans kw
  refine q _ _ sp k6 ⟨⟨dx, lay, lsp, lout, ldel, []⟩, ⟨i5.wr, ⟨dl, L.keep k6 (by omega)⟩, a5.upd (a5.nx i5 (by intro z; cases z)), b5.upd (b5.nx i5 (by intro z; cases z)), (At.new (c := 15 + t)).upd (At.nx (At.new (c := 15 + t)) i5 (by intro z; cases z)), .nil⟩⟩ hp hw
theorem ok_take (D : MDef K CSt "take" "Store.take" (inC 6 1) ["self", "many"]) (T : Txt K mg CSk CSt CEn CLe CLa CMe) : Met P w K mg base 1 CSt "take" (spTake CLa CSt) [] := by
  refine D.ok (N := ["self", "many", "taken"]) (by walk_at "sc") (by walk_at "len") fun f cdv A outer s0 H vs Q E hr h => ?_
  have nd : (["self", "many", "taken"] : List Str).Nodup := by decide +kernel
  obtain ⟨g, s, n, r, t, S, k, rfl, ⟨d, M⟩, hk, q⟩ := h
  refine ⟨_, pss_cons (ps_if (pt_cmpR op_gt (pv 1) (pe_callB call_len_seq (by rfl) T.len PySem.boot_len (pa_cons (pe_fld (pv 0) rfl) pa_nil)) (nomark _)) (pss_one (ps_ret pe_non)) pss_nil)
    (pss_cons (ps_set (i := 2) nd rfl (Or.inl rfl) (pe_slice sl_list (pe_fld (pv 0) rfl) po_none (po_some (pv 1))))
    (pss_cons (ps_fld (pv 0) (pe_slice sl_list (pe_fld (pv 0) rfl) (po_some (pv 1)) po_none) rfl) (pss_one (ps_ret (pv 2))))), ?_⟩
  have hk' : k ≤ (S.spare.map V.int).length := by rw [List.length_map]; exact hk
  refine ⟨_, rfl, _, rfl, _, _, _, _, _, rfl, M.ins.1, T.clSt, T.stSpare, rfl, _, _, rfl, .inl (SqL.of M.sp.1), _, _, rfl, rfl, _, rfl, dN (by omega) ?_⟩
  refine ⟨_, rfl, _, _, _, _, _, rfl, M.ins.1, T.clSt, T.stSpare, rfl, _, rfl, _, rfl, _, _, rfl, SqL.of M.sp.1, fun p hp => ?_⟩
  rw [cutV_to hk'] at *
  have k1 : Ch (fun _ => False) g H (tg g p 0) (upd H p (.lst ((S.spare.map V.int).take k))) := Ch.new hp
  have M1 := M.keep k1 (fun z => z) (fun z => z) (fun z => z)
  have n1 := At.new (g := g) (H := H) (p := p) (c := 0) (o := .lst ((S.spare.map V.int).take k))
  refine ⟨_, rfl, _, _, _, _, _, rfl, M1.ins.1, T.clSt, T.stSpare, rfl, _, rfl, _, rfl, _, _, rfl, SqL.of M1.sp.1, fun p2 hp2 => ?_⟩
  rw [cutV_from hk'] at *
  have i2 := M1.ins.old (d := 0) (u := .lst ((S.spare.map V.int).drop k)) hp2
  refine ⟨_, rfl, _, _, _, _, rfl, i2.1, T.clSt, T.stSpare, (by show 5 < 1000; decide), _, rfl, ?_⟩
  have e2 : (S.spare.map V.int).drop k = (S.spare.drop k).map V.int := List.map_drop.symm
  have e1 : (S.spare.map V.int).take k = (S.spare.take k).map V.int := List.map_take.symm
  obtain ⟨M2, k2⟩ := M1.wsp (p := p2) (ns := S.spare.drop k) hp2
  have n2 := n1.keep k2 (by omega)
  rw [e1] at n2 M2 k1 k2 ⊢
  rw [e2]
  exact q _ _ p ((k1.mono fun _ z => z.elim).trans k2) ⟨_, M2⟩ n2
theorem ok_giveBack (D : MDef K CSt "give_back" "Store.give_back" (inC 6 2) ["self", "cells"]) (T : Txt K mg CSk CSt CEn CLe CLa CMe) : Met P w K mg base 1 CSt "give_back" (spGiveBack CLa CSt) [] := by
  refine D.ok (N := ["self", "cells"]) (by walk_at "sc") (by walk_at "len") fun f cdv A outer s0 H vs Q E hr h => ?_
  obtain ⟨g, s, lc, n, r, t, S, d, cells, rfl, M, hc, hlen, q⟩ := h
  refine ⟨_, pss_one (ps_fld (pv 0) (pe_callB cr_sortedI (by rfl) T.sorted (by decide +kernel) (pa_cons (pe_op op_cat (pe_fld (pv 0) rfl) (pe_callTy call_list_of (by rfl) T.list (by decide +kernel) (pa_cons (pv 1) pa_nil))) pa_nil)) rfl), ?_⟩
  refine ⟨_, rfl, _, _, _, _, _, rfl, M.ins.1, T.clSt, T.stSpare, rfl, _, rfl, _, _, rfl, .inl (SqL.of hc), fun l hl => ?_⟩
  have k1 : Ch (fun _ => False) g H (tg g l 0) (upd H l (.lst (cells.map V.int))) := Ch.new hl
  have M1 := M.keep k1 (fun z => z) (fun z => z) (fun z => z)
  refine ⟨_, _, _, _, rfl, rfl, M1.sp.1, upd_same, by rw [List.length_map, List.length_map]; exact size_2 hlen, fun l2 hl2 => ?_⟩
  have k2 : Ch (fun _ => False) (tg g l 0) (upd H l (.lst (cells.map V.int))) (tg (tg g l 0) l2 0) (upd (upd H l (.lst (cells.map V.int))) l2 (.lst (S.spare.map V.int ++ cells.map V.int))) := Ch.new hl2
  have M2 := M1.keep k2 (fun z => z) (fun z => z) (fun z => z)
  refine ⟨_, S.spare ++ cells, rfl, SqL.of (by rw [upd_same, List.map_append]), fun sp l3 hp hw hl3 => ?_⟩
  have i3 := M2.ins.old (d := 0) (u := .lst (sp.map V.int)) hl3
  refine ⟨_, rfl, _, _, _, _, rfl, i3.1, T.clSt, T.stSpare, (by show 5 < 1000; decide), ?_⟩
  obtain ⟨M3, k3⟩ := M2.wsp (p := l3) (ns := sp) hl3
  exact q _ _ sp l3 (((k1.trans k2).mono fun _ z => z.elim).trans k3) M3 hp
theorem ok_takeOut (D : MDef K CSt "take_out" "Store.take_out" (inC 6 3) ["self", "cells"]) (T : Txt K mg CSk CSt CEn CLe CLa CMe) : Met P w K mg base 1 CSt "take_out" (spTakeOut CLa CSt) [] := by
  refine D.ok (N := ["self", "cells"]) (by walk_at "sc") (by walk_at "len") fun f cdv A outer s0 H vs Q E hr h => ?_
  obtain ⟨g, s, lc, n, r, t, S, cells, rfl, ⟨d, M⟩, hc, hlen, q⟩ := h
  refine ⟨_, pss_one (ps_fld (pv 0) (pe_op op_cat (pe_fld (pv 0) rfl) (pe_callTy call_list_of (by rfl) T.list (by decide +kernel) (pa_cons (pv 1) pa_nil))) rfl), ?_⟩
  refine ⟨_, rfl, _, _, _, _, _, rfl, M.ins.1, T.clSt, T.stTaken, rfl, _, rfl, _, _, rfl, .inl (SqL.of hc), fun l hl => ?_⟩
  have k1 : Ch (fun _ => False) g H (tg g l 0) (upd H l (.lst (cells.map V.int))) := Ch.new hl
  have M1 := M.keep k1 (fun z => z) (fun z => z) (fun z => z)
  refine ⟨_, _, _, _, rfl, rfl, M1.out.1, upd_same, by rw [List.length_map, List.length_map]; exact size_2 hlen, fun l2 hl2 => ?_⟩
  rw [← List.map_append]
  have i3 := M1.ins.old (d := 0) (u := .lst ((S.out ++ cells).map V.int)) hl2
  refine ⟨_, rfl, _, _, _, _, rfl, i3.1, T.clSt, T.stTaken, (by show 5 < 1000; decide), ?_⟩
  obtain ⟨M3, k3⟩ := M1.wout (p := l2) (ns := S.out ++ cells) hl2
  exact q _ _ ((k1.mono fun _ z => z.elim).trans k3) ⟨_, M3⟩
theorem ok_free (D : MDef K CSt "free_cells" "Store.free_cells" (inC 6 4) ["self"]) (T : Txt K mg CSk CSt CEn CLe CLa CMe) : Met P w K mg base 1 CSt "free_cells" (spFree CLa CSt) [] := by
  refine D.ok (N := ["self"]) (by walk_at "sc") (by walk_at "len") fun f cdv A outer s0 H vs Q E hr h => ?_
  obtain ⟨g, s, n, r, t, S, rfl, ⟨d, M⟩, q⟩ := h
  refine ⟨_, pss_one (ps_ret (pe_callTy call_list_of (by rfl) T.list (by decide +kernel) (pa_cons (pe_fld (pv 0) rfl) pa_nil))), ?_⟩
  exact ⟨_, rfl, _, _, _, _, _, rfl, M.ins.1, T.clSt, T.stSpare, rfl, _, _, rfl, .inl (SqL.of M.sp.1), fun l hl => q l hl⟩
theorem ok_stamp (D : MDef K CSt "stamp" "Store.stamp" (inC 6 6) ["self", "epoch"]) (T : Txt K mg CSk CSt CEn CLe CLa CMe) : Met P w K mg base 1 CSt "stamp" (spStamp CLa CSt) [] := by
  refine D.ok (N := ["self", "epoch"]) (by walk_at "sc") (by walk_at "len") fun f cdv A outer s0 H vs Q E hr h => ?_
  obtain ⟨g, s, n, r, t, S, e, rfl, ⟨d, M⟩, hlen, q⟩ := h
  refine ⟨_, pss_cons (ps_expr (pe_bm PySem.F.plainAttrs_list PySem.F.slot_list_append PySem.F.type_list_append mt_append (pe_fld (pv 0) rfl) (pa_cons (pe_tup (pa_cons (pv 1) (pa_cons (pe_fld (pv 0) rfl) pa_nil))) pa_nil)))
    (pss_one (ps_fld (pv 0) (pe_lst pa_nil) rfl)), ?_⟩
  refine ⟨_, rfl, _, _, _, _, _, rfl, M.ins.1, T.clSt, T.stDelayed, rfl, .inl ⟨rfl, _, SqL.of M.del.1⟩, _, rfl, _, rfl, _, _, _, _, _, rfl, M.ins.1, T.clSt, T.stTaken, rfl, size_2 (by show 2 ≤ 100000; decide), fun p hp => ?_⟩
  have d1 := M.del.old (d := 0) (u := .tup [.int e, .ref d.lout]) hp
  refine ⟨_, _, _, rfl, rfl, d1.1, (by rw [List.length_map, M.rows.len, sizeLine_eq]; omega), ?_⟩
  obtain ⟨M1, k1⟩ := M.app (p := p) (e := e) hp
  refine ⟨Nat.zero_le _, fun l hl => ?_⟩
  have i2 := M1.ins.old (d := 0) (u := .lst []) hl
  refine ⟨_, rfl, _, _, _, _, rfl, i2.1, T.clSt, T.stTaken, (by show 5 < 1000; decide), ?_⟩
  obtain ⟨M2, k2⟩ := M1.wout (p := l) (ns := []) hl
  exact q _ _ ((k1.mono fun _ z => .inr z).trans (k2.mono fun _ z => .inl z)) ⟨_, M2⟩
theorem ok_release (D : MDef K CSt "release" "Store.release" (inC 6 7) ["self", "epoch"]) (T : Txt K mg CSk CSt CEn CLe CLa CMe) (G : Met P w K mg base 1 CSt "give_back" (spGiveBack CLa CSt) []) : Met P w K mg base 2 CSt "release" (spRelease CLa CSt) [] := by
  refine D.ok (N := ["self", "epoch", "waiting", "stamp", "cells"]) (by walk_at "sc") (by walk_at "len") fun f cdv A outer s0 H vs Q E hr h => ?_
  have nd : (["self", "epoch", "waiting", "stamp", "cells"] : List Str).Nodup := by decide +kernel
  obtain ⟨g, s, n, r, t, S, e, rfl, ⟨d, M⟩, hlen, hall, q⟩ := h
  refine ⟨_, pss_cons (ps_set (i := 2) nd rfl (Or.inl rfl) (pe_lst pa_nil))
    (pss_cons (ps_for PassesOwn.never rfl (pi_list (pe_fld (pv 0) rfl)) (pg_tup rfl (pgs_cons (pg_name (i := 3) nd rfl (Or.inl rfl)) (pgs_cons (pg_name (i := 4) nd rfl (Or.inl rfl)) pgs_nil)))
      (pss_one (ps_if (pt_cmpR op_le (pv 3) (pe_op op_sub (pv 1) (pe_gi (by rfl) T.age)) (nomark _)) (pss_one (ps_expr (pe_mt G hr (by decide) (pv 0) (pa_cons (pv 4) pa_nil))))
        (pss_one (ps_expr (pe_bm PySem.F.plainAttrs_list PySem.F.slot_list_append PySem.F.type_list_append mt_append (pv 2) (pa_cons (pe_tup (pa_cons (pv 3) (pa_cons (pv 4) pa_nil))) pa_nil)))))))
    (pss_one (ps_fld (pv 0) (pv 2) rfl))), ?_⟩
  refine ⟨Nat.zero_le _, fun wl hwl => ?_⟩
  have k0 : Ch (fun _ => False) g H (tg g wl (15 + t)) (upd H wl (.lst [])) := Ch.new hwl
  have M0 := M.keep k0 (fun z => z) (fun z => z) (fun z => z)
  have w0 := At.new (g := g) (H := H) (p := wl) (c := 15 + t) (o := .lst [])
  have nwd : wl ≠ d.ldel := (ne_of_none M.del.1 hwl).symm
  refine ⟨_, rfl, _, _, _, _, _, rfl, M0.ins.1, T.clSt, T.stDelayed, rfl, _, rfl, ⟨_, SqL.of M0.del.1⟩, ?_⟩
  refine for_list (K := K) (a := d.ldel) (xs := d.drefs.map V.ref) (fun i σ H' => ∃ (g' : Tg) (sp : List Int) (lsp : Addr) (wrefs : List Addr) (z1 z2 : Option V), σ = [some (.ref s), some (.int e), some (.ref wl), z1, z2] ∧
    Ch (fun c => c = 10 + t) g H g' H' ∧ StoOk CLa CSt g' H' s n r t { S with spare := sp } { d with lsp := lsp } ∧ sp.Perm (S.spare ++ frd e (S.del.take i)) ∧ At g' H' (15 + t) wl (.lst (wrefs.map V.ref)) ∧ DelAt g' H' wrefs (kept e (S.del.take i))) ?_ ?_ ?_ ?_
  · exact ⟨_, S.spare, d.lsp, [], none, none, rfl, k0.mono fun _ z => z.elim, M0, by rw [List.take_zero]; show S.spare.Perm (S.spare ++ []); rw [List.append_nil], w0, .nil⟩
  · rintro i σ H' hi ⟨g', sp, lsp, wrefs, z1, z2, rfl, k, M', _⟩
    exact SqL.of M'.del.1
  · rintro i x σ H' hi ⟨g', sp, lsp, wrefs, z1, z2, rfl, k, M', hp, hw, hd⟩
    obtain ⟨rx, hrx, rfl⟩ : ∃ rx, d.drefs[i]? = some rx ∧ x = .ref rx := by
      rw [List.getElem?_map] at hi
      cases e1 : d.drefs[i]? with
      | none => rw [e1] at hi; cases hi
      | some rx => rw [e1] at hi; exact ⟨rx, rfl, (Option.some.inj hi).symm⟩
    have hil : i < S.del.length := by rw [← M.rows.len]; exact (List.getElem?_eq_some_iff.mp hrx).1
    obtain ⟨p, hpp⟩ : ∃ p, S.del[i]? = some p := ⟨_, List.getElem?_eq_getElem hil⟩
    obtain ⟨lc, h1, h2⟩ := M'.rows.row i rx p hrx hpp
    have es := take_snoc hpp
    refine ⟨_, _, rfl, SqT.of h1.1, rfl, _, _, rfl, _, _, rfl, rfl, ?_⟩
    refine ⟨_, rfl, _, rfl, _, _, rfl, rfl, _, _, rfl, rfl, _, rfl, ?_⟩
    refine ite2 (fun hc => ?_) (fun hc => ?_)
    · have hc := of_decide_eq_true hc
      have hbound : sp.length + p.2.length ≤ 100000 := by
        have b1 := hp.length_eq
        have b2 : (frd e (S.del.take i)).length + p.2.length ≤ (S.del.flatMap (·.2)).length := by
          rw [← List.length_append, ← frd_snoc_le hc, ← es]
          have : (frd e (S.del.take (i + 1))).length ≤ (S.del.flatMap (·.2)).length := by
            unfold frd
            exact fm_len (List.filter_sublist.trans (List.take_sublist _ _)) _
          exact this
        rw [List.length_append] at b1
        omega
      refine ⟨_, rfl, _, _, _, rfl, M'.ins.1, rfl, _, rfl, g', s, lc, n, r, t, _, _, p.2, rfl, M', h2.1, hbound, fun g2 H2 sp2 lsp2 k2 M2 hp2 => ?_⟩
      refine ⟨g2, sp2, lsp2, wrefs, _, _, rfl, k.trans k2, M2, ?_, hw.keep k2 (by omega), ?_⟩
      · rw [es, frd_snoc_le hc, ← List.append_assoc]
        exact hp2.trans (hp.append_right _)
      · rw [es, kept_snoc_le hc]
        exact hd.keep k2 (by omega)
    · have hc : ¬ p.1 ≤ e - 3 := fun z => hc (decide_eq_true z)
      refine ⟨_, rfl, .inl ⟨rfl, _, SqL.of hw.1⟩, _, rfl, _, rfl, size_2 (by show 2 ≤ 100000; decide), fun tp htp => ?_⟩
      have k1 : Ch (fun _ => False) g' H' (tg g' tp 0) (upd H' tp (.tup [.int p.1, .ref lc])) := Ch.new htp
      have hw1 := hw.keep k1 (fun z => z)
      have kwl : (kept e (S.del.take i)).length ≤ S.del.length := by
        unfold kept
        exact (List.filter_sublist.trans (List.take_sublist _ _)).length_le
      refine ⟨_, _, _, rfl, rfl, hw1.1, (by rw [List.length_map, hd.len, sizeLine_eq]; omega), ?_⟩
      have M1 := M'.keep k1 (fun z => z) (fun z => z) (fun z => z)
      have nwd' : d.ldel ≠ wl := nwd.symm
      have k2 : Ch (fun c => c = 15 + t) (tg g' tp 0) (upd H' tp (.tup [.int p.1, .ref lc])) (tg g' tp 0) (upd (upd H' tp (.tup [.int p.1, .ref lc])) wl (.lst (wrefs.map V.ref ++ [.ref tp]))) := Ch.wr hw1 rfl
      have kC : Ch (fun c => c = 10 + t) g H (tg g' tp 0) (upd (upd H' tp (.tup [.int p.1, .ref lc])) wl (.lst (wrefs.map V.ref ++ [.ref tp]))) := (k.trans (k1.mono fun _ z => z.elim)).wrNew hwl
      refine ⟨tg g' tp 0, sp, lsp, wrefs ++ [tp], _, _, rfl, kC, ⟨M1.ins.keep k2 (by omega), M1.lay.keep k2 (by omega), M1.sp.keep k2 (by omega), M1.out.keep k2 (by omega), M1.del.upd nwd', M1.rows.keep k2 (by omega)⟩, ?_, ?_, ?_⟩
      · rw [es, frd_snoc_gt hc]
        exact hp
      · rw [List.map_append]
        exact hw1.wr
      · rw [es, kept_snoc_gt hc]
        exact ((hd.keep k1 (fun z => z)).keep k2 (by omega)).snoc ((At.new).keep k2 (by omega)) ((h2.keep k1 (fun z => z)).keep k2 (by omega))
  · rintro σ H' ⟨g', sp, lsp, wrefs, z1, z2, rfl, k, M', hp, hw, hd⟩
    have el : S.del.take (d.drefs.map V.ref).length = S.del := List.take_of_length_le (by rw [List.length_map, M.rows.len]; exact Nat.le_refl _)
    rw [el] at hp hd
    refine ⟨_, rfl, _, rfl, _, _, _, _, rfl, M'.ins.1, T.clSt, T.stDelayed, (by show 5 < 1000; decide), ?_⟩
    obtain ⟨M3, k3⟩ := M'.wdel hw hd
    exact q _ _ sp (k.trans k3) ⟨_, M3⟩ hp
end

def rListOf (K : PySem.W.Frag) : List V → Hp → VK → Prop := fun xs H Q => ∃ p ys, xs = [.ref p] ∧ (SqL K H p ys ∨ SqT K H p ys) ∧ ∀ l, H l = none → Q (.ref l) (upd H l (.lst ys))
section
variable {X : Cx} {K : PySem.W.Frag} {o a b : Expr} {f : Str} {pos : Pos} {ta tb : TE}
theorem callList (h : X.K = K) : CallR X (.type "list") (rListOf K) := by subst h; exact call_list_of
theorem pe_fldK (h : X.K = K) (he : PE X o ta) (hb : attributeBase o f X.env (eval o X.env) = eval o X.env) : PE X (.Attribute o f pos) (tFld K ta f) := by subst h; exact pe_fld he hb
theorem pe_ixLK (h : X.K = K) (ha : PE X a ta) (hb : PE X b tb) (hs : PlainIx b) : PE X (.Subscript a b pos) (tOp (rIxL K) ta tb) := by subst h; exact pe_ix ix_list ha hb hs
theorem pe_ixTK (h : X.K = K) (ha : PE X a ta) (hb : PE X b tb) (hs : PlainIx b) : PE X (.Subscript a b pos) (tOp (rIxT K) ta tb) := by subst h; exact pe_ix ix_tup ha hb hs
end
structure WaitAt (g : Tg) (H : Hp) (refs : List Addr) (rows : List (List Int)) : Prop where
  len : refs.length = rows.length
  row : ∀ (i : Nat) (r : Addr) (cs : List Int), refs[i]? = some r → rows[i]? = some cs → ∃ x lc, At g H 0 r (.tup [x, .ref lc]) ∧ At g H 0 lc (.lst (cs.map V.int))
section
variable {g g' : Tg} {H H' : Hp} {refs : List Addr} {rows : List (List Int)} {Z : Nat → Prop}
theorem WaitAt.keep (h : WaitAt g H refs rows) (k : Ch Z g H g' H') (n0 : ¬ Z 0) : WaitAt g' H' refs rows :=
  ⟨h.len, fun i r p a b => let ⟨x, lc, h1, h2⟩ := h.row i r p a b; ⟨x, lc, h1.keep k n0, h2.keep k n0⟩⟩
theorem WaitAt.nil : WaitAt g H [] [] := ⟨rfl, fun i r p a b => by simp at a⟩
theorem WaitAt.snoc (h : WaitAt g H refs rows) {r lc : Addr} {x : V} {cs : List Int} (h1 : At g H 0 r (.tup [x, .ref lc])) (h2 : At g H 0 lc (.lst (cs.map V.int))) : WaitAt g H (refs ++ [r]) (rows ++ [cs]) := by
  refine ⟨by rw [List.length_append, List.length_append, h.len]; rfl, fun i r' p' a b => ?_⟩
  by_cases hi : i < refs.length
  · rw [List.getElem?_append_left hi] at a
    rw [List.getElem?_append_left (by rw [← h.len]; exact hi)] at b
    exact h.row i r' p' a b
  · rw [List.getElem?_append_right (by omega)] at a
    rw [List.getElem?_append_right (by rw [← h.len]; omega)] at b
    rw [← h.len] at b
    have hz : i - refs.length = 0 := by
      have := (List.getElem?_eq_some_iff.mp a).1
      simp at this
      omega
    rw [hz] at a b
    cases a
    cases b
    exact ⟨x, lc, h1, h2⟩
theorem WaitAt.retag (h : WaitAt g H refs rows) {p : Addr} {o : HO} (hp : At g H 7 p o) : WaitAt (tg g p 0) H refs rows :=
  ⟨h.len, fun i r cs a b => let ⟨x, lc, h1, h2⟩ := h.row i r cs a b; ⟨x, lc, h1.retag (h1.ne hp (by decide)), h2.retag (h2.ne hp (by decide))⟩⟩
end
def waitRows (S : SS) : List (List Int) := S.del.map (·.2) ++ (if S.out = [] then [] else [S.out])
def spWaiting (CLa CSt : Addr) : Sp := fun vs H Q _ => ∃ (g : Tg) (s : Addr) (T R t : Nat) (S : SS), vs = [.ref s] ∧ StoAt CLa CSt g H s T R t S ∧ S.del.length ≤ 100000 ∧
  ∀ (g' : Tg) (H' : Hp) (p : Addr) (refs : List Addr), Ch (fun _ => False) g H g' H' → At g' H' 0 p (.lst (refs.map V.ref)) → WaitAt g' H' refs (waitRows S) → Q (.ref p) H'
section
variable {P : Program} {w : World} {K : PySem.W.Frag} {mg : Str → Option Value} {base : Heap} {CSk CSt CEn CLe CLa CMe : Addr}
theorem ok_waiting (D : MDef K CSt "waiting" "Store.waiting" (inC 6 5) ["self"]) (T : Txt K mg CSk CSt CEn CLe CLa CMe) : Met P w K mg base 1 CSt "waiting" (spWaiting CLa CSt) [] := by
  refine D.ok (N := ["self", "rows", "stamp", "cells"]) (by walk_at "sc") (by walk_at "len") fun f cdv A outer s0 H vs Q E hr h => ?_
  have nd : (["self", "rows", "stamp", "cells"] : List Str).Nodup := by decide +kernel
  obtain ⟨g, s, n, r, t, S, rfl, ⟨d, M⟩, hlen, q⟩ := h
  refine ⟨_, pss_cons (ps_setLc (i := 1) (own := [("stamp", 2), ("cells", 3)]) (g := gTup K 2 (gCons (gName 2) (gCons (gName 3) gNil))) (tt := tYes) rfl nd rfl rfl (sw_true rfl rfl rfl (by decide +kernel)) (pi_list (pe_fld (pv 0) rfl))
      (blkOk_by (N := ["self", "rows", "stamp", "cells"]) (sc := fnScope (inC 6 5)) (by decide +kernel)) (fun _ _ _ _ _ => pg_tup rfl (pgs_cons (pg_name (i := 2) nd rfl (Or.inl rfl)) (pgs_cons (pg_name (i := 3) nd rfl (Or.inl rfl)) pgs_nil)))
      (fun _ _ _ _ _ => pts_nil) (fun _ _ _ _ _ => pe_tup (pa_cons (pv 2) (pa_cons (pe_callTy (T := "list") (r := rListOf K) (callList rfl) (by rfl) T.list (by decide +kernel) (pa_cons (pv 3) pa_nil)) pa_nil))))
    (pss_cons (ps_if (pt_truth (pe_fld (pv 0) rfl) (by intro _; rfl)) (pss_one (ps_expr (pe_bm PySem.F.plainAttrs_list PySem.F.slot_list_append PySem.F.type_list_append mt_append (pv 1)
        (pa_cons (pe_tup (pa_cons pe_non (pa_cons (pe_callTy call_list_of (by rfl) T.list (by decide +kernel) (pa_cons (pe_fld (pv 0) rfl) pa_nil)) pa_nil))) pa_nil)))) pss_nil)
    (pss_one (ps_ret (pv 1)))), ?_⟩
  refine ⟨_, rfl, _, _, _, _, _, rfl, M.ins.1, T.clSt, T.stDelayed, rfl, _, rfl, ⟨_, SqL.of M.del.1⟩, fun p hp => ?_⟩
  refine lc_list (K := K) (a := d.ldel) (xs := d.drefs.map V.ref) (fun i H' => ∃ (g' : Tg) (refs : List Addr), Ch (fun _ => False) g H g' H' ∧ At g' H' 7 p (.lst (refs.map V.ref)) ∧ WaitAt g' H' refs ((S.del.take i).map (·.2))) ?_ ?_ ?_ ?_
  · exact ⟨tg g p 7, [], Ch.new hp, At.new, .nil⟩
  · rintro i H' hi ⟨g', refs, k, _⟩
    exact SqL.of (M.keep k (fun z => z) (fun z => z) (fun z => z)).del.1
  · rintro i x H' hi ⟨g', refs, k, hl, hw⟩
    obtain ⟨rx, hrx, rfl⟩ : ∃ rx, d.drefs[i]? = some rx ∧ x = .ref rx := by
      rw [List.getElem?_map] at hi
      cases e1 : d.drefs[i]? with
      | none => rw [e1] at hi; cases hi
      | some rx => rw [e1] at hi; exact ⟨rx, rfl, (Option.some.inj hi).symm⟩
    have hil : i < S.del.length := by rw [← M.rows.len]; exact (List.getElem?_eq_some_iff.mp hrx).1
    obtain ⟨pr, hpp⟩ : ∃ p, S.del[i]? = some p := ⟨_, List.getElem?_eq_getElem hil⟩
    obtain ⟨lc, h1, h2⟩ := (M.keep k (fun z => z) (fun z => z) (fun z => z)).rows.row i rx pr hrx hpp
    refine ⟨_, _, rfl, SqT.of h1.1, rfl, _, _, rfl, _, _, rfl, rfl, rfl, ?_⟩
    refine ⟨_, rfl, _, rfl, _, _, rfl, .inl (SqL.of h2.1), fun l2 hl2 => ?_⟩
    have k1 : Ch (fun _ => False) g' H' (tg g' l2 0) (upd H' l2 (.lst (pr.2.map V.int))) := Ch.new hl2
    refine ⟨size_2 (by show 2 ≤ 100000; decide), fun tp htp => ?_⟩
    have k2 : Ch (fun _ => False) (tg g' l2 0) (upd H' l2 (.lst (pr.2.map V.int))) (tg (tg g' l2 0) tp 0) (upd (upd H' l2 (.lst (pr.2.map V.int))) tp (.tup [.int pr.1, .ref l2])) := Ch.new htp
    have hl' := hl.keep (k1.trans k2) (fun z => z)
    have hw' := hw.keep (k1.trans k2) (fun z => z)
    have a1 := (At.new (g := g') (H := H') (p := l2) (c := 0) (o := .lst (pr.2.map V.int))).keep k2 (fun z => z)
    have a2 := At.new (g := tg g' l2 0) (H := upd H' l2 (.lst (pr.2.map V.int))) (p := tp) (c := 0) (o := .tup [.int pr.1, .ref l2])
    have hrl : refs.length ≤ S.del.length := by
      rw [hw.len, List.length_map, List.length_take]
      omega
    refine ⟨_, hl'.1, (by rw [List.length_map, sizeLine_eq]; omega), _, refs ++ [tp], (k.trans (k1.trans k2)).wrNew hp, ?_, ?_⟩
    · rw [List.map_append]
      exact hl'.wr
    · have k3 : Ch (fun c => c = 7) _ _ _ _ := Ch.wr (o' := .lst (refs.map V.ref ++ [.ref tp])) hl' rfl
      rw [take_snoc hpp, List.map_append]
      exact (hw'.keep k3 (by decide)).snoc (a2.keep k3 (by decide)) (a1.keep k3 (by decide))
  rintro H1 ⟨g1, refs, k1, hl1, hw1⟩
  have el : S.del.take (d.drefs.map V.ref).length = S.del := List.take_of_length_le (by rw [List.length_map, M.rows.len]; exact Nat.le_refl _)
  rw [el] at hw1
  have M1 := M.keep k1 (fun z => z) (fun z => z) (fun z => z)
  refine ⟨_, rfl, _, _, _, _, _, rfl, M1.ins.1, T.clSt, T.stTaken, rfl, _, .inl ⟨_, SqL.of M1.out.1, rfl⟩, ?_⟩
  by_cases ho : S.out = []
  · have e1 : (!(S.out.map V.int).isEmpty) = false := by rw [ho]; rfl
    rw [e1]
    refine iteF ⟨_, rfl, ?_⟩
    refine q (tg g1 p 0) H1 p refs (k1.retag hp) ⟨hl1.1, tg_same⟩ ?_
    unfold waitRows
    rw [if_pos ho, List.append_nil]
    exact hw1.retag hl1
  · have e1 : (!(S.out.map V.int).isEmpty) = true := by
      cases hh : S.out with
      | nil => exact absurd hh ho
      | cons a b => rfl
    rw [e1]
    refine iteT ⟨_, rfl, .inl ⟨rfl, _, SqL.of hl1.1⟩, _, rfl, _, _, _, _, _, rfl, M1.ins.1, T.clSt, T.stTaken, rfl, _, _, rfl, .inl (SqL.of M1.out.1), fun l2 hl2 => ?_⟩
    have k2 : Ch (fun _ => False) g1 H1 (tg g1 l2 0) (upd H1 l2 (.lst (S.out.map V.int))) := Ch.new hl2
    refine ⟨size_2 (by show 2 ≤ 100000; decide), fun tp htp => ?_⟩
    have k3 : Ch (fun _ => False) (tg g1 l2 0) (upd H1 l2 (.lst (S.out.map V.int))) (tg (tg g1 l2 0) tp 0) (upd (upd H1 l2 (.lst (S.out.map V.int))) tp (.tup [.non, .ref l2])) := Ch.new htp
    have hl' := hl1.keep (k2.trans k3) (fun z => z)
    have hw' := hw1.keep (k2.trans k3) (fun z => z)
    have a1 := (At.new (g := g1) (H := H1) (p := l2) (c := 0) (o := .lst (S.out.map V.int))).keep k3 (fun z => z)
    have a2 := At.new (g := tg g1 l2 0) (H := upd H1 l2 (.lst (S.out.map V.int))) (p := tp) (c := 0) (o := .tup [.non, .ref l2])
    have hrl : refs.length ≤ S.del.length := by
      rw [hw1.len, List.length_map]
      omega
    have k4 : Ch (fun c => c = 7) _ _ _ _ := Ch.wr (o' := .lst (refs.map V.ref ++ [.ref tp])) hl' rfl
    have hl4 := hl'.wr (o' := .lst (refs.map V.ref ++ [.ref tp]))
    refine ⟨_, _, _, rfl, rfl, hl'.1, (by rw [List.length_map, sizeLine_eq]; omega), _, rfl, ?_⟩
    refine q (tg (tg (tg g1 l2 0) tp 0) p 0) _ p (refs ++ [tp]) (((k1.trans (k2.trans k3)).wrNew hp).retag hp) ⟨by rw [List.map_append]; exact hl4.1, tg_same⟩ ?_
    unfold waitRows
    rw [if_neg ho]
    exact ((hw'.keep k4 (by decide)).snoc (a2.keep k4 (by decide)) (a1.keep k4 (by decide))).retag hl4
end

/-! ### Entering. tag of a machine: 30 + t -/
inductive ES where
  | rd
  | wr (e : Int)
  | ag (e : Int)
  | dn (e : Int)
def ES.str : ES → Str
  | .rd => "read"
  | .wr _ => "write"
  | .ag _ => "again"
  | .dn _ => "end"
def ES.ep : ES → V
  | .rd => .non
  | .wr e => .int e
  | .ag e => .int e
  | .dn e => .int e
def ES.rq (t : Nat) : ES → List V
  | .rd => (Rq.rd 0).tup
  | .wr e => (Rq.wr (1 + t) (.int e)).tup
  | .ag _ => (Rq.rd 0).tup
  | .dn e => [.str "end", .int e]
def ES.acc (x : Int) : ES → ES
  | .rd => .wr x
  | .wr e => .ag e
  | .ag e => if x = e then .dn e else .wr x
  | .dn e => .dn e
def enF (t : Nat) (st : Str) (ep : V) : List (Str × V) := [("epoch_cell", .int 0), ("slot", .int ((1 + t : Nat) : Int)), ("state", .str st), ("epoch", ep)]
def EntAt (CEn : Addr) (g : Tg) (H : Hp) (a : Addr) (t : Nat) (st : ES) : Prop := ∃ dx, At g H (30 + t) a (.ins CEn dx (enF t st.str st.ep))
theorem EntAt.keep {CEn : Addr} {Z : Nat → Prop} {g g' : Tg} {H H' : Hp} {a : Addr} {t : Nat} {st : ES} (h : EntAt CEn g H a t st) (k : Ch Z g H g' H') (n : ¬ Z (30 + t)) : EntAt CEn g' H' a t st :=
  let ⟨dx, h⟩ := h; ⟨dx, h.keep k n⟩
def spEnInit (CLa CSt CEn : Addr) : Sp := fun vs H Q _ => ∃ (g : Tg) (a dx s : Addr) (T R t : Nat) (S : SS), vs = [.ref a, .ref s] ∧ At g H (30 + t) a (.ins CEn dx []) ∧ StoAt CLa CSt g H s T R t S ∧
  ∀ (H' : Hp), Ch (fun c => c = 30 + t) g H g H' → EntAt CEn g H' a t .rd → Q .non H'
def spEnReq (CEn : Addr) : Sp := fun vs H Q _ => ∃ (g : Tg) (a : Addr) (t : Nat) (st : ES), vs = [.ref a] ∧ EntAt CEn g H a t st ∧ ∀ p, H p = none → Q (.ref p) (upd H p (.tup (st.rq t)))
def spEnAcc (CEn : Addr) : Sp := fun vs H Q _ => ∃ (g : Tg) (a ra : Addr) (t : Nat) (st : ES) (v y : V) (x : Int), vs = [.ref a, .ref ra] ∧ EntAt CEn g H a t st ∧ H ra = some (.tup [v, y]) ∧ (v = .int x ∨ ∃ e, st = .wr e) ∧ (∀ e, st ≠ .dn e) ∧
  ∀ (H' : Hp), Ch (fun c => c = 30 + t) g H g H' → EntAt CEn g H' a t (st.acc x) → Q .non H'
section
variable {P : Program} {w : World} {K : PySem.W.Frag} {mg : Str → Option Value} {base : Heap} {CSk CSt CEn CLe CLa CMe : Addr}
theorem ok_enInit (D : KDef K mg "Entering" CEn "Entering.__init__" (inC 7 0) ["self", "store"]) (T : Txt K mg CSk CSt CEn CLe CLa CMe) (GE : Met P w K mg base 1 CLa "epoch" (spLa0 CLa fun _ _ => 0) [])
    (GS : Met P w K mg base 1 CLa "epoch_slot" (spLa1 CLa fun _ _ i => 1 + i) []) : Mak P w K mg base 2 "Entering" CEn (spEnInit CLa CSt CEn) [] := by
  refine D.ok (N := ["self", "store"]) (by walk_at "sc") (by walk_at "len") fun f cdv A outer s0 H vs Q E hr h => ?_
  obtain ⟨g, a, dx, s, n, r, t, S, rfl, ha, ⟨d, M⟩, q⟩ := h
  refine ⟨_, pss_cons (ps_fld (pv 0) (pe_mt0 GE hr (by decide) (pe_fld (pv 1) rfl)) rfl) (pss_cons (ps_fld (pv 0) (pe_mt GS hr (by decide) (pe_fld (pv 1) rfl) (pa_cons (pe_fld (pv 1) rfl) pa_nil)) rfl)
    (pss_cons (ps_fld (pv 0) pe_str rfl) (pss_one (ps_fld (pv 0) pe_non rfl)))), ?_⟩
  obtain ⟨dl, L⟩ := M.lay
  have nsa : s ≠ a := M.ins.ne ha (by omega)
  have nla : d.lay ≠ a := L.ne ha (by omega)
  refine ⟨_, rfl, _, _, _, _, _, rfl, M.ins.1, T.clSt, T.stLayout, rfl, _, _, _, rfl, L.1, rfl, _, _, _, _, rfl, L.1, _, rfl, _, _, _, _, rfl, ha.1, T.clEn, T.enCell, (by show 0 < 1000; decide), ?_⟩
  have s1 := M.ins.upd (u := .ins CEn dx [("epoch_cell", .int 0)]) nsa
  have l1 := L.upd (u := .ins CEn dx [("epoch_cell", .int 0)]) nla
  refine ⟨_, rfl, _, _, _, _, _, rfl, s1.1, T.clSt, T.stLayout, rfl, _, _, _, rfl, l1.1, rfl, _, rfl, _, _, _, _, _, rfl, s1.1, T.clSt, T.stThread, rfl, _, _, _, _, _, rfl, l1.1, _, rfl, _, _, _, _, rfl, upd_same, T.clEn, T.enSlot, (by show 1 < 1000; decide), ?_⟩
  refine ⟨_, rfl, _, _, _, _, rfl, upd_same, T.clEn, T.enState, (by show 2 < 1000; decide), ?_⟩
  refine ⟨_, rfl, _, _, _, _, rfl, upd_same, T.clEn, T.enEpoch, (by show 3 < 1000; decide), ?_⟩
  rw [upd_upd, upd_upd, upd_upd]
  exact q _ (Ch.wr ha rfl) ⟨dx, ha.wr⟩
theorem ok_enReq (D : MDef K CEn "request" "Entering.request" (inC 7 1) ["self"]) (T : Txt K mg CSk CSt CEn CLe CLa CMe) : Met P w K mg base 1 CEn "request" (spEnReq CEn) [] := by
  refine D.ok (N := ["self"]) (by walk_at "sc") (by walk_at "len") fun f cdv A outer s0 H vs Q E hr h => ?_
  obtain ⟨g, a, t, st, rfl, ⟨dx, ha⟩, q⟩ := h
  refine ⟨_, pss_cons (ps_if (pt_cmpR op_eq (pe_fld (pv 0) rfl) pe_str (nomark _)) (pss_one (ps_ret (pe_tup (pa_cons pe_str (pa_cons (pe_fld (pv 0) rfl) pa_nil))))) pss_nil)
    (pss_cons (ps_if (pt_cmpR op_eq (pe_fld (pv 0) rfl) pe_str (nomark _)) (pss_one (ps_ret (pe_tup (pa_cons pe_str (pa_cons (pe_fld (pv 0) rfl) (pa_cons (pe_fld (pv 0) rfl) pa_nil)))))) pss_nil)
    (pss_one (ps_ret (pe_tup (pa_cons pe_str (pa_cons (pe_fld (pv 0) rfl) pa_nil)))))), ?_⟩
  refine ⟨_, rfl, _, _, _, _, _, rfl, ha.1, T.clEn, T.enState, rfl, rfl, _, rfl, ?_⟩
  cases st with
  | dn e =>
    refine dY rfl ⟨_, rfl, _, _, _, _, _, rfl, ha.1, T.clEn, T.enEpoch, rfl, size_2 (by show 2 ≤ 100000; decide), fun p hp => q p hp⟩
  | wr e =>
    refine dN (vs_ne rfl) ⟨_, rfl, _, _, _, _, _, rfl, ha.1, T.clEn, T.enState, rfl, rfl, _, rfl, dY rfl ?_⟩
    exact ⟨_, rfl, _, _, _, _, _, rfl, ha.1, T.clEn, T.enSlot, rfl, _, rfl, _, _, _, _, _, rfl, ha.1, T.clEn, T.enEpoch, rfl, size_2 (by show 3 ≤ 100000; decide), fun p hp => q p hp⟩
  | rd =>
    refine dN (vs_ne rfl) ⟨_, rfl, _, _, _, _, _, rfl, ha.1, T.clEn, T.enState, rfl, rfl, _, rfl, dN (vs_ne rfl) ?_⟩
    exact ⟨_, rfl, _, _, _, _, _, rfl, ha.1, T.clEn, T.enCell, rfl, size_2 (by show 2 ≤ 100000; decide), fun p hp => q p hp⟩
  | ag e =>
    refine dN (vs_ne rfl) ⟨_, rfl, _, _, _, _, _, rfl, ha.1, T.clEn, T.enState, rfl, rfl, _, rfl, dN (vs_ne rfl) ?_⟩
    exact ⟨_, rfl, _, _, _, _, _, rfl, ha.1, T.clEn, T.enCell, rfl, size_2 (by show 2 ≤ 100000; decide), fun p hp => q p hp⟩
theorem ok_enAcc (D : MDef K CEn "accept" "Entering.accept" (inC 7 2) ["self", "result"]) (T : Txt K mg CSk CSt CEn CLe CLa CMe) : Met P w K mg base 1 CEn "accept" (spEnAcc CEn) [] := by
  refine D.ok (N := ["self", "result"]) (by walk_at "sc") (by walk_at "len") fun f cdv A outer s0 H vs Q E hr h => ?_
  obtain ⟨g, a, ra, t, st, v, y, x, rfl, ⟨dx, ha⟩, hra, hv, hnd, q⟩ := h
  have nra : ra ≠ a := ne_of hra ha.1 (by intro z; cases z)
  refine ⟨_, pss_one (ps_if (pt_cmpR op_eq (pe_fld (pv 0) rfl) pe_str (nomark _)) (pss_one (ps_fld (pv 0) pe_str rfl))
    (pss_one (ps_if (PW.pt (pw_and (pt_cmpR op_eq (pe_fld (pv 0) rfl) pe_str (nomark _)) (pw_and1 (pt_cmpR op_eq (pe_ix ix_tup (pv 1) pe_int (fun _ _ => rfl)) (pe_fld (pv 0) rfl) (nomark _))))) (pss_one (ps_fld (pv 0) pe_str rfl))
      (pss_cons (ps_fld (pv 0) (pe_ix ix_tup (pv 1) pe_int (fun _ _ => rfl)) rfl) (pss_one (ps_fld (pv 0) pe_str rfl)))))), ?_⟩
  have a0 : atI [v, y] 0 = some v := atI_nat (j := 0) rfl
  refine ⟨_, rfl, _, _, _, _, _, rfl, ha.1, T.clEn, T.enState, rfl, rfl, _, rfl, ?_⟩
  cases st with
  | dn e => exact absurd rfl (hnd e)
  | wr e =>
    refine dY rfl ⟨_, rfl, _, _, _, _, rfl, ha.1, T.clEn, T.enState, (by show 4 < 1000; decide), ?_⟩
    exact q _ (Ch.wr ha rfl) ⟨dx, ha.wr⟩
  | rd =>
    have hv : v = .int x := hv.elim id fun ⟨_, z⟩ => by cases z
    subst hv
    refine dN (vs_ne rfl) ⟨_, rfl, _, _, _, _, _, rfl, ha.1, T.clEn, T.enState, rfl, rfl, _, rfl, ?_⟩
    refine dN (vs_ne rfl) (iteF ?_)
    refine ⟨_, rfl, _, _, _, _, rfl, rfl, SqT.of hra, a0, _, rfl, _, _, _, _, rfl, ha.1, T.clEn, T.enEpoch, (by show 4 < 1000; decide), ?_⟩
    refine ⟨_, rfl, _, _, _, _, rfl, upd_same, T.clEn, T.enState, (by show 4 < 1000; decide), ?_⟩
    rw [upd_upd]
    exact q _ (Ch.wr ha rfl) ⟨dx, ha.wr⟩
  | ag e =>
    have hv : v = .int x := hv.elim id fun ⟨_, z⟩ => by cases z
    subst hv
    refine dN (vs_ne rfl) ⟨_, rfl, _, _, _, _, _, rfl, ha.1, T.clEn, T.enState, rfl, rfl, _, rfl, ?_⟩
    refine dY rfl ⟨_, rfl, _, _, _, _, rfl, rfl, SqT.of hra, a0, _, rfl, _, _, _, _, _, rfl, ha.1, T.clEn, T.enEpoch, rfl, rfl, _, rfl, ?_⟩
    by_cases hx : x = e
    · subst hx
      have q' := q (upd H a (.ins CEn dx (enF t "end" (.int x)))) (Ch.wr ha rfl)
      have e1 : (ES.ag x).acc x = .dn x := if_pos rfl
      rw [e1] at q'
      refine dY rfl ⟨_, rfl, _, _, _, _, rfl, ha.1, T.clEn, T.enState, (by show 4 < 1000; decide), ?_⟩
      exact q' ⟨dx, ha.wr⟩
    · have q' := q (upd H a (.ins CEn dx (enF t "write" (.int x)))) (Ch.wr ha rfl)
      have e1 : (ES.ag e).acc x = .wr x := if_neg hx
      rw [e1] at q'
      refine dN (fun z => hx (by injection z)) ⟨_, rfl, _, _, _, _, rfl, rfl, SqT.of hra, a0, _, rfl, _, _, _, _, rfl, ha.1, T.clEn, T.enEpoch, (by show 4 < 1000; decide), ?_⟩
      refine ⟨_, rfl, _, _, _, _, rfl, upd_same, T.clEn, T.enState, (by show 4 < 1000; decide), ?_⟩
      rw [upd_upd]
      exact q' ⟨dx, ha.wr⟩
end

/-! ### Leaving -/
inductive LS where
  | stamp
  | slot
  | epoch
  | other (e : Int) (us : List Nat)
  | move (e : Int)
  | dn
def LS.str : LS → Str
  | .stamp => "stamp"
  | .slot => "slot"
  | .epoch => "epoch"
  | .other _ _ => "other"
  | .move _ => "move"
  | .dn => "end"
def LS.rq (t : Nat) : LS → List V
  | .stamp => (Rq.rd 0).tup
  | .slot => (Rq.wr (1 + t) .non).tup
  | .epoch => (Rq.rd 0).tup
  | .other _ us => (Rq.rd (1 + us.headD 0)).tup
  | .move e => (Rq.sw 0 e (e + 1)).tup
  | .dn => [.str "end", .non]
def othersOf (T t : Nat) : List Nat := (List.range T).filter fun u => decide (u ≠ t)
def LS.fits (T t : Nat) (ep : V) (os : List Nat) : LS → Prop
  | .stamp => os = othersOf T t
  | .slot => os = othersOf T t
  | .epoch => os = othersOf T t
  | .other e us => os = us ∧ us ≠ [] ∧ ep = .int e
  | .move e => os = [] ∧ ep = .int e
  | .dn => True
def vN (u : Nat) : V := .int (u : Nat)
def leF (s : Addr) (ep : V) (lo : Addr) (st : Str) : List (Str × V) := [("store", .ref s), ("epoch", ep), ("others", .ref lo), ("state", .str st)]
def LeaAt (CLe : Addr) (g : Tg) (H : Hp) (a s : Addr) (T t : Nat) (st : LS) : Prop := ∃ dx lo ep os, At g H (30 + t) a (.ins CLe dx (leF s ep lo st.str)) ∧ At g H 0 lo (.lst (os.map vN)) ∧ st.fits T t ep os
theorem LeaAt.keep {CLe : Addr} {Z : Nat → Prop} {g g' : Tg} {H H' : Hp} {a s : Addr} {T t : Nat} {st : LS} (h : LeaAt CLe g H a s T t st) (k : Ch Z g H g' H') (n0 : ¬ Z 0) (n : ¬ Z (30 + t)) : LeaAt CLe g' H' a s T t st :=
  let ⟨dx, lo, ep, os, h1, h2, h3⟩ := h; ⟨dx, lo, ep, os, h1.keep k n, h2.keep k n0, h3⟩
/-- where it goes on behind the epoch, or behind a slot -/
def lookOn (e : Int) : List Nat → LS
  | [] => .move e
  | u :: us => .other e (u :: us)
/-- what is old enough is free -/
def Rel (k : Int) (S S' : SS) : Prop := ∃ sp : List Int, S' = { S with spare := sp, del := kept k S.del } ∧ sp.Perm (S.spare ++ frd k S.del)
def LAcc (T t : Nat) (S : SS) (v : V) (S' : SS) (st' : LS) : LS → Prop
  | .stamp => ∃ x, v = .int x ∧ S' = { S with out := [], del := S.del ++ [(x, S.out)] } ∧ st' = .slot
  | .slot => S' = S ∧ st' = if S.del = [] then .dn else .epoch
  | .epoch => ∃ x, v = .int x ∧ S' = S ∧ st' = lookOn x (othersOf T t)
  | .other e us => (v ≠ .non ∧ v ≠ .int e ∧ Rel e S S' ∧ st' = .dn) ∨ ((v = .non ∨ v = .int e) ∧ S' = S ∧ st' = lookOn e us.tail)
  | .move e => ∃ b, v = .bl b ∧ Rel (if b then e + 1 else e) S S' ∧ st' = .dn
  | .dn => False
/-- what may come -/
def LS.takes (v : V) : LS → Prop
  | .stamp => ∃ x, v = .int x
  | .slot => True
  | .epoch => ∃ x, v = .int x
  | .other _ _ => v = .non ∨ ∃ x, v = .int x
  | .move _ => ∃ b, v = .bl b
  | .dn => False
def SS.small (S : SS) : Prop := S.spare.length + (S.del.flatMap (·.2)).length + S.out.length ≤ 1000 ∧ S.del.length ≤ 1000
def spLeInit (CLa CSt CLe : Addr) : Sp := fun vs H Q _ => ∃ (g : Tg) (a dx s : Addr) (T R t : Nat) (S : SS), vs = [.ref a, .ref s] ∧ At g H (30 + t) a (.ins CLe dx []) ∧ StoAt CLa CSt g H s T R t S ∧ T ≤ 3 ∧
  ∀ (g' : Tg) (H' : Hp), Ch (fun c => c = 30 + t) g H g' H' → LeaAt CLe g' H' a s T t (if S.out = [] then .slot else .stamp) → Q .non H'
def spLeReq (CLa CSt CLe : Addr) : Sp := fun vs H Q _ => ∃ (g : Tg) (a s : Addr) (T R t : Nat) (S : SS) (st : LS), vs = [.ref a] ∧ LeaAt CLe g H a s T t st ∧ StoAt CLa CSt g H s T R t S ∧ ∀ p, H p = none → Q (.ref p) (upd H p (.tup (st.rq t)))
def spLook (CLe : Addr) : Sp := fun vs H Q _ => ∃ (a dx s lo : Addr) (ep : V) (os : List Nat) (st : Str), vs = [.ref a] ∧ H a = some (.ins CLe dx (leF s ep lo st)) ∧ H lo = some (.lst (os.map vN)) ∧
  Q .non (upd H a (.ins CLe dx (leF s ep lo (if os = [] then "move" else "other"))))
def spFinish (CLa CSt CLe : Addr) : Sp := fun vs H Q _ => ∃ (g : Tg) (a dx s lo : Addr) (ep : V) (os : List Nat) (st : Str) (T R t : Nat) (S : SS) (k : Int), vs = [.ref a, .int k] ∧ At g H (30 + t) a (.ins CLe dx (leF s ep lo st)) ∧ At g H 0 lo (.lst (os.map vN)) ∧ StoAt CLa CSt g H s T R t S ∧ S.small ∧
  ∀ (g' : Tg) (H' : Hp) (S' : SS), Ch (fun c => c = 30 + t ∨ c = 10 + t ∨ c = 15 + t) g H g' H' → LeaAt CLe g' H' a s T t .dn → StoAt CLa CSt g' H' s T R t S' → Rel k S S' → Q .non H'
def spTakeOther (CLa CSt CLe : Addr) : Sp := fun vs H Q _ => ∃ (g : Tg) (a dx s lo : Addr) (us : List Nat) (T R t : Nat) (S : SS) (e : Int) (v : V), vs = [.ref a, v] ∧ At g H (30 + t) a (.ins CLe dx (leF s (.int e) lo "other")) ∧ At g H 0 lo (.lst (us.map vN)) ∧ us ≠ [] ∧ StoAt CLa CSt g H s T R t S ∧ S.small ∧
  (v = .non ∨ ∃ x, v = .int x) ∧ ∀ (g' : Tg) (H' : Hp) (S' : SS) (st' : LS), Ch (fun c => c = 30 + t ∨ c = 10 + t ∨ c = 15 + t) g H g' H' → LeaAt CLe g' H' a s T t st' → StoAt CLa CSt g' H' s T R t S' → LAcc T t S v S' st' (.other e us) → Q .non H'
def spLeAcc (CLa CSt CLe : Addr) : Sp := fun vs H Q _ => ∃ (g : Tg) (a ra s : Addr) (T R t : Nat) (S : SS) (st : LS) (v y : V), vs = [.ref a, .ref ra] ∧ LeaAt CLe g H a s T t st ∧ StoAt CLa CSt g H s T R t S ∧ S.small ∧ H ra = some (.tup [v, y]) ∧ st.takes v ∧
  ∀ (g' : Tg) (H' : Hp) (S' : SS) (st' : LS), Ch (fun c => c = 30 + t ∨ c = 10 + t ∨ c = 15 + t) g H g' H' → LeaAt CLe g' H' a s T t st' → StoAt CLa CSt g' H' s T R t S' → LAcc T t S v S' st' st → Q .non H'
theorem othersOf_take {T t i : Nat} (h : i < T) : (othersOf T t) = othersOf T t := rfl
theorem others_snoc {t i : Nat} : othersOf (i + 1) t = othersOf i t ++ (if i = t then [] else [i]) := by
  unfold othersOf
  rw [List.range_succ, List.filter_append]
  by_cases h : i = t
  · rw [if_pos h]
    simp [h]
  · rw [if_neg h]
    simp [h]
section
variable {P : Program} {w : World} {K : PySem.W.Frag} {mg : Str → Option Value} {base : Heap} {CSk CSt CEn CLe CLa CMe : Addr}
theorem ok_leInit (D : KDef K mg "Leaving" CLe "Leaving.__init__" (inC 8 0) ["self", "store"]) (T : Txt K mg CSk CSt CEn CLe CLa CMe) : Mak P w K mg base 1 "Leaving" CLe (spLeInit CLa CSt CLe) [] := by
  refine D.ok (N := ["self", "store", "thread"]) (by walk_at "sc") (by walk_at "len") fun f cdv A outer s0 H vs Q E hr h => ?_
  have nd : (["self", "store", "thread"] : List Str).Nodup := by decide +kernel
  obtain ⟨g, a, dx, s, n, r, t, S, rfl, ha, ⟨d, M⟩, hn, q⟩ := h
  refine ⟨_, pss_cons (ps_fld (pv 0) (pv 1) rfl) (pss_cons (ps_fld (pv 0) pe_non rfl)
    (pss_cons (ps_fld (pv 0) (pe_lc (own := [("thread", 2)]) (g := gName 2) rfl nd (pi_range1 rfl T.range (pa_cons (pe_fld (pe_fld (pv 1) rfl) rfl) pa_nil)) (blkOk_by (N := ["self", "store", "thread"]) (sc := fnScope (inC 8 0)) (by decide +kernel))
      (fun _ _ _ _ _ => pg_name (i := 2) nd rfl (Or.inl rfl)) (fun _ _ _ _ _ => pts_one (pt_cmpR op_ne (pv 2) (pe_fldK (K := K) rfl (pv 1) rfl) (nomark _))) (fun _ _ _ _ _ => pv 2)) rfl)
    (pss_cons (ps_fld (pv 0) pe_str rfl)
    (pss_one (ps_if (pt_truth (pe_fld (pv 1) rfl) (by intro _; rfl)) (pss_one (ps_fld (pv 0) pe_str rfl)) pss_nil))))), ?_⟩
  obtain ⟨dl, L⟩ := M.lay
  have nsa : s ≠ a := M.ins.ne ha (by omega)
  have nla : d.lay ≠ a := L.ne ha (by omega)
  refine ⟨_, rfl, _, rfl, _, _, _, _, rfl, ha.1, T.clLe, T.leStore, (by show 0 < 1000; decide), ?_⟩
  refine ⟨_, rfl, _, _, _, _, rfl, upd_same, T.clLe, T.leEpoch, (by show 1 < 1000; decide), ?_⟩
  rw [upd_upd]
  have k0 := Ch.wr (S := fun c => c = 30 + t) (o' := .ins CLe dx [("store", .ref s), ("epoch", .non)]) ha rfl
  have a0 := ha.wr (o' := .ins CLe dx [("store", .ref s), ("epoch", .non)])
  have M0 := M.keep k0 (by omega) (by omega) (by omega)
  have L0 := L.keep k0 (by omega)
  refine ⟨_, rfl, _, _, _, _, _, rfl, M0.ins.1, T.clSt, T.stLayout, rfl, _, _, _, _, _, rfl, L0.1, T.clLa, T.laThreads, rfl, _, rfl, by omega, by omega, fun lo hlo => ?_⟩
  have hN : (n : Int).toNat = n := by omega
  rw [hN]
  refine lc_range (lo := 0) (n := n) (fun i H' => ∃ (g' : Tg), Ch (fun _ => False) g (upd H a (.ins CLe dx [("store", .ref s), ("epoch", .non)])) g' H' ∧ At g' H' 7 lo (.lst ((othersOf i t).map vN))) ?_ ?_ ?_
  · exact ⟨tg g lo 7, Ch.new hlo, At.new⟩
  · rintro i H' hi ⟨g', k, hl⟩
    refine ⟨rfl, ?_⟩
    have M' := M0.keep k (fun z => z) (fun z => z) (fun z => z)
    refine ⟨_, rfl, _, rfl, _, _, _, _, _, rfl, M'.ins.1, T.clSt, T.stThread, rfl, rfl, _, rfl, ?_⟩
    by_cases hit : i = t
    · refine nN (by rw [hit, Int.zero_add]) ⟨g', k, ?_⟩
      rw [others_snoc, if_pos hit, List.append_nil]
      exact hl
    · refine nY (fun z => hit (by injection z with z; omega)) ⟨_, rfl, _, hl.1, ?_, g', k.wrNew hlo, ?_⟩
      · rw [List.length_map, sizeLine_eq]
        have : (othersOf i t).length ≤ i := by
          unfold othersOf
          exact Nat.le_trans (List.length_filter_le _ _) (by rw [List.length_range]; exact Nat.le_refl _)
        omega
      · rw [others_snoc, if_neg hit, List.map_append]
        have ez : ((0 : Int) + (i : Nat)) = (i : Nat) := Int.zero_add _
        rw [ez]
        exact hl.wr
  rintro H1 ⟨g1, k1, hl1⟩
  have a1 := a0.keep k1 (fun z => z)
  have M1 := M0.keep k1 (fun z => z) (fun z => z) (fun z => z)
  refine ⟨_, rfl, _, _, _, _, rfl, a1.1, T.clLe, T.leOthers, (by show 2 < 1000; decide), ?_⟩
  refine ⟨_, rfl, _, _, _, _, rfl, upd_same, T.clLe, T.leState, (by show 3 < 1000; decide), ?_⟩
  rw [upd_upd]
  have k2 := Ch.wr (S := fun c => c = 30 + t) (o' := .ins CLe dx (leF s .non lo "slot")) a1 rfl
  have a2 := a1.wr (o' := .ins CLe dx (leF s .non lo "slot"))
  have M2 := M1.keep k2 (by omega) (by omega) (by omega)
  have kk := (k0.trans (k1.mono fun _ z => z.elim)).trans k2
  have hl2 := hl1.keep k2 (by omega)
  have nlo : a ≠ lo := fun e => by
    rw [← e, upd_same] at hlo
    cases hlo
  have hlo0 : H lo = none := by
    rw [upd_ne nlo.symm] at hlo
    exact hlo
  refine ⟨_, rfl, _, _, _, _, _, rfl, M2.ins.1, T.clSt, T.stTaken, rfl, _, .inl ⟨_, SqL.of M2.out.1, rfl⟩, ?_⟩
  by_cases ho : S.out = []
  · have e1 : (!(S.out.map V.int).isEmpty) = false := by rw [ho]; rfl
    rw [e1]
    refine iteF ?_
    rw [if_pos ho] at q
    exact q (tg g1 lo 0) _ (kk.retag hlo0) ⟨dx, lo, .non, _, a2.retag nlo, ⟨hl2.1, tg_same⟩, rfl⟩
  · have e1 : (!(S.out.map V.int).isEmpty) = true := by
      cases hh : S.out with
      | nil => exact absurd hh ho
      | cons a b => rfl
    rw [e1]
    refine iteT ⟨_, rfl, _, _, _, _, rfl, a2.1, T.clLe, T.leState, (by show 4 < 1000; decide), ?_⟩
    rw [if_neg ho] at q
    have k3 := Ch.wr (S := fun c => c = 30 + t) (o' := .ins CLe dx (leF s .non lo "stamp")) a2 rfl
    exact q (tg g1 lo 0) _ ((kk.trans k3).retag hlo0) ⟨dx, lo, .non, _, (a2.wr).retag nlo, ⟨(hl2.keep k3 (by omega)).1, tg_same⟩, rfl⟩
theorem ok_leReq (D : MDef K CLe "request" "Leaving.request" (inC 8 1) ["self"]) (T : Txt K mg CSk CSt CEn CLe CLa CMe) (GE : Met P w K mg base 1 CLa "epoch" (spLa0 CLa fun _ _ => 0) [])
    (GS : Met P w K mg base 1 CLa "epoch_slot" (spLa1 CLa fun _ _ i => 1 + i) []) : Met P w K mg base 2 CLe "request" (spLeReq CLa CSt CLe) [] := by
  refine D.ok (N := ["self", "layout"]) (by walk_at "sc") (by walk_at "len") fun f cdv A outer s0 H vs Q E hr h => ?_
  have nd : (["self", "layout"] : List Str).Nodup := by decide +kernel
  obtain ⟨g, a, s, n, r, t, S, st, rfl, ⟨dx, lo, ep, os, ha, hl, hf⟩, ⟨d, M⟩, q⟩ := h
  obtain ⟨dl, L⟩ := M.lay
  refine ⟨_, pss_cons (ps_set (i := 1) nd rfl (Or.inl rfl) (pe_fld (pe_fld (pv 0) rfl) rfl))
    (pss_cons (ps_if (PW.pt (pw_or (pt_cmpR op_eq (pe_fld (pv 0) rfl) pe_str (nomark _)) (pw_or1 (pt_cmpR op_eq (pe_fld (pv 0) rfl) pe_str (nomark _))))) (pss_one (ps_ret (pe_tup (pa_cons pe_str (pa_cons (pe_mt0 GE hr (by decide) (pv 1)) pa_nil))))) pss_nil)
    (pss_cons (ps_if (pt_cmpR op_eq (pe_fld (pv 0) rfl) pe_str (nomark _)) (pss_one (ps_ret (pe_tup (pa_cons pe_str (pa_cons (pe_mt GS hr (by decide) (pv 1) (pa_cons (pe_fld (pe_fld (pv 0) rfl) rfl) pa_nil)) (pa_cons pe_non pa_nil)))))) pss_nil)
    (pss_cons (ps_if (pt_cmpR op_eq (pe_fld (pv 0) rfl) pe_str (nomark _)) (pss_one (ps_ret (pe_tup (pa_cons pe_str (pa_cons (pe_mt GS hr (by decide) (pv 1) (pa_cons (pe_ix ix_list (pe_fld (pv 0) rfl) pe_int (fun _ _ => rfl)) pa_nil)) pa_nil))))) pss_nil)
    (pss_cons (ps_if (pt_cmpR op_eq (pe_fld (pv 0) rfl) pe_str (nomark _)) (pss_one (ps_ret (pe_tup (pa_cons pe_str (pa_cons (pe_mt0 GE hr (by decide) (pv 1)) (pa_cons (pe_fld (pv 0) rfl) (pa_cons (pe_op op_add (pe_fld (pv 0) rfl) pe_int) pa_nil))))))) pss_nil)
    (pss_one (ps_ret (pe_tup (pa_cons pe_str (pa_cons pe_non pa_nil))))))))), ?_⟩
  refine ⟨_, rfl, _, _, _, _, _, rfl, ha.1, T.clLe, T.leStore, rfl, _, _, _, _, _, rfl, M.ins.1, T.clSt, T.stLayout, rfl, ?_⟩
  have go : ∀ {B : Prop}, (V.str st.str = V.str "stamp" → B) → True := fun _ => trivial
  refine ⟨_, rfl, _, _, _, _, _, rfl, ha.1, T.clLe, T.leState, rfl, rfl, _, rfl, ?_⟩
  cases st with
  | stamp => exact dY rfl ⟨_, rfl, _, _, _, rfl, L.1, rfl, _, _, _, _, rfl, L.1, size_2 (by show 2 ≤ 100000; decide), fun p hp => q p hp⟩
  | epoch =>
    refine dN (vs_ne rfl) ⟨_, rfl, _, _, _, _, _, rfl, ha.1, T.clLe, T.leState, rfl, rfl, _, rfl, dY rfl ?_⟩
    exact ⟨_, rfl, _, _, _, rfl, L.1, rfl, _, _, _, _, rfl, L.1, size_2 (by show 2 ≤ 100000; decide), fun p hp => q p hp⟩
  | slot =>
    refine dN (vs_ne rfl) ⟨_, rfl, _, _, _, _, _, rfl, ha.1, T.clLe, T.leState, rfl, rfl, _, rfl, dN (vs_ne rfl) ?_⟩
    refine ⟨_, rfl, _, _, _, _, _, rfl, ha.1, T.clLe, T.leState, rfl, rfl, _, rfl, dY rfl ?_⟩
    exact ⟨_, rfl, _, _, _, rfl, L.1, rfl, _, rfl, _, _, _, _, _, rfl, ha.1, T.clLe, T.leStore, rfl, _, _, _, _, _, rfl, M.ins.1, T.clSt, T.stThread, rfl, _, _, _, _, _, rfl, L.1, size_2 (by show 3 ≤ 100000; decide), fun p hp => q p hp⟩
  | other e us =>
    obtain ⟨rfl, hne, rfl⟩ := hf
    refine dN (vs_ne rfl) ⟨_, rfl, _, _, _, _, _, rfl, ha.1, T.clLe, T.leState, rfl, rfl, _, rfl, dN (vs_ne rfl) ?_⟩
    refine ⟨_, rfl, _, _, _, _, _, rfl, ha.1, T.clLe, T.leState, rfl, rfl, _, rfl, dN (vs_ne rfl) ?_⟩
    refine ⟨_, rfl, _, _, _, _, _, rfl, ha.1, T.clLe, T.leState, rfl, rfl, _, rfl, dY rfl ?_⟩
    cases os with
    | nil => exact absurd rfl hne
    | cons u us =>
      exact ⟨_, rfl, _, _, _, rfl, L.1, rfl, _, rfl, _, _, _, _, _, rfl, ha.1, T.clLe, T.leOthers, rfl, _, _, _, vN u, rfl, rfl, SqL.of hl.1, atI_nat (j := 0) rfl, _, _, _, _, _, rfl, L.1, size_2 (by show 2 ≤ 100000; decide), fun p hp => q p hp⟩
  | move e =>
    obtain ⟨rfl, rfl⟩ := hf
    refine dN (vs_ne rfl) ⟨_, rfl, _, _, _, _, _, rfl, ha.1, T.clLe, T.leState, rfl, rfl, _, rfl, dN (vs_ne rfl) ?_⟩
    refine ⟨_, rfl, _, _, _, _, _, rfl, ha.1, T.clLe, T.leState, rfl, rfl, _, rfl, dN (vs_ne rfl) ?_⟩
    refine ⟨_, rfl, _, _, _, _, _, rfl, ha.1, T.clLe, T.leState, rfl, rfl, _, rfl, dN (vs_ne rfl) ?_⟩
    refine ⟨_, rfl, _, _, _, _, _, rfl, ha.1, T.clLe, T.leState, rfl, rfl, _, rfl, dY rfl ?_⟩
    exact ⟨_, rfl, _, _, _, rfl, L.1, rfl, _, _, _, _, rfl, L.1, _, rfl, _, _, _, _, _, rfl, ha.1, T.clLe, T.leEpoch, rfl, _, rfl, _, _, _, _, _, rfl, ha.1, T.clLe, T.leEpoch, rfl, _, _, rfl, rfl, size_2 (by show 4 ≤ 100000; decide), fun p hp => q p hp⟩
  | dn =>
    refine dN (vs_ne rfl) ⟨_, rfl, _, _, _, _, _, rfl, ha.1, T.clLe, T.leState, rfl, rfl, _, rfl, dN (vs_ne rfl) ?_⟩
    refine ⟨_, rfl, _, _, _, _, _, rfl, ha.1, T.clLe, T.leState, rfl, rfl, _, rfl, dN (vs_ne rfl) ?_⟩
    refine ⟨_, rfl, _, _, _, _, _, rfl, ha.1, T.clLe, T.leState, rfl, rfl, _, rfl, dN (vs_ne rfl) ?_⟩
    refine ⟨_, rfl, _, _, _, _, _, rfl, ha.1, T.clLe, T.leState, rfl, rfl, _, rfl, dN (vs_ne rfl) ?_⟩
    exact ⟨size_2 (by show 2 ≤ 100000; decide), fun p hp => q p hp⟩
end

theorem lookOn_str (e : Int) (us : List Nat) : (lookOn e us).str = if us = [] then ("move" : Str) else ("other" : Str) := by cases us <;> rfl
theorem lookOn_fits (T t : Nat) (e : Int) (us : List Nat) : (lookOn e us).fits T t (.int e) us := by
  cases us with
  | nil => exact ⟨rfl, rfl⟩
  | cons u us => exact ⟨rfl, by simp, rfl⟩
theorem map_vN {os : List Nat} : os.map vN = os.map fun u => V.int (u : Nat) := rfl
section
variable {P : Program} {w : World} {K : PySem.W.Frag} {mg : Str → Option Value} {base : Heap} {CSk CSt CEn CLe CLa CMe : Addr}
theorem ok_look (D : MDef K CLe "look_on" "Leaving.look_on" (inC 8 3) ["self"]) (T : Txt K mg CSk CSt CEn CLe CLa CMe) : Met P w K mg base 1 CLe "look_on" (spLook CLe) [] := by
  refine D.ok (N := ["self"]) (by walk_at "sc") (by walk_at "len") fun f cdv A outer s0 H vs Q E hr h => ?_
  obtain ⟨a, dx, s, lo, ep, os, st, rfl, ha, hl, q⟩ := h
  refine ⟨_, pss_cons (ps_fld (pv 0) pe_str rfl) (pss_one (ps_if (pt_truth (pe_fld (pv 0) rfl) (by intro _; rfl)) (pss_one (ps_fld (pv 0) pe_str rfl)) pss_nil)), ?_⟩
  have nla : lo ≠ a := ne_of hl ha (by intro z; cases z)
  refine ⟨_, rfl, _, _, _, _, rfl, ha, T.clLe, T.leState, (by show 4 < 1000; decide), ?_⟩
  refine ⟨_, rfl, _, _, _, _, _, rfl, upd_same, T.clLe, T.leOthers, rfl, _, .inl ⟨_, SqL.of (by rw [upd_ne nla]; exact hl), rfl⟩, ?_⟩
  cases os with
  | nil => exact iteF q
  | cons u us =>
    refine iteT ⟨_, rfl, _, _, _, _, rfl, upd_same, T.clLe, T.leState, (by show 4 < 1000; decide), ?_⟩
    rw [upd_upd]
    exact q
theorem ok_finish (D : MDef K CLe "finish" "Leaving.finish" (inC 8 5) ["self", "known"]) (T : Txt K mg CSk CSt CEn CLe CLa CMe) (G : Met P w K mg base 2 CSt "release" (spRelease CLa CSt) []) : Met P w K mg base 3 CLe "finish" (spFinish CLa CSt CLe) [] := by
  refine D.ok (N := ["self", "known"]) (by walk_at "sc") (by walk_at "len") fun f cdv A outer s0 H vs Q E hr h => ?_
  obtain ⟨g, a, dx, s, lo, ep, os, st, n, r, t, S, k, rfl, ha, hl, SA, hs, q⟩ := h
  have ⟨d, M⟩ := SA
  refine ⟨_, pss_cons (ps_expr (pe_mt G hr (by decide) (pe_fld (pv 0) rfl) (pa_cons (pv 1) pa_nil))) (pss_one (ps_fld (pv 0) pe_str rfl)), ?_⟩
  obtain ⟨hs1, hs2⟩ := hs
  refine ⟨_, rfl, _, _, _, _, _, rfl, ha.1, T.clLe, T.leStore, rfl, _, _, _, rfl, M.ins.1, rfl, _, rfl, g, s, n, r, t, S, k, rfl, SA, by omega, by omega, fun g' H' sp k1 M1 hp => ?_⟩
  have a1 := ha.keep k1 (by omega)
  refine ⟨_, rfl, _, _, _, _, rfl, a1.1, T.clLe, T.leState, (by show 4 < 1000; decide), ?_⟩
  have k2 := Ch.wr (S := fun c => c = 30 + t) (o' := .ins CLe dx (leF s ep lo "end")) a1 rfl
  exact q g' _ _ ((k1.mono fun _ z => .inr (.inl z)).trans (k2.mono fun _ z => .inl z)) ⟨dx, lo, ep, os, a1.wr, (hl.keep k1 (by omega)).keep k2 (by omega), trivial⟩ (M1.keep k2 (by omega) (by omega) (by omega)) ⟨sp, rfl, hp⟩
theorem ok_takeOther (D : MDef K CLe "take_other" "Leaving.take_other" (inC 8 4) ["self", "value"]) (T : Txt K mg CSk CSt CEn CLe CLa CMe) (GF : Met P w K mg base 3 CLe "finish" (spFinish CLa CSt CLe) []) (GL : Met P w K mg base 1 CLe "look_on" (spLook CLe) []) :
    Met P w K mg base 4 CLe "take_other" (spTakeOther CLa CSt CLe) [] := by
  refine D.ok (N := ["self", "value"]) (by walk_at "sc") (by walk_at "len") fun f cdv A outer s0 H vs Q E hr h => ?_
  obtain ⟨g, a, dx, s, lo, us, n, r, t, S, e, v, rfl, ha, hl, hne, SA, hs, hv, q⟩ := h
  refine ⟨_, pss_one (ps_if (PW.pt (pw_and (pt_cmpR op_notN (pv 1) pe_non (nomark _)) (pw_and1 (pt_cmpR op_ne (pv 1) (pe_fld (pv 0) rfl) (nomark _)))))
      (pss_one (ps_expr (pe_mt GF hr (by decide) (pv 0) (pa_cons (pe_fld (pv 0) rfl) pa_nil))))
      (pss_cons (ps_fld (pv 0) (pe_slice sl_list (pe_fld (pv 0) rfl) (po_some pe_int) po_none) rfl) (pss_one (ps_expr (pe_mt0 GL hr (by decide) (pv 0)))))), ?_⟩
  have other : (v = .non ∨ v = .int e) → (sFld K (tVar 0) (tSl (rSlL K) (tFld K (tVar 0) "others") (tPart (tC (V.int 1))) tNoPart) "others") { nx := (tDrop (tMeth CLe "look_on" (spLook CLe) [] C8.E0 (tVar 0) tNil)) { nx := fun _ H' => Q .non H', rt := Q }, rt := Q } (start ["self", "value"] [.ref a, v]) H := fun hv' => by
    have hlen : 1 ≤ (us.map vN).length := by
      cases us with
      | nil => exact absurd rfl hne
      | cons u us => simp
    refine ⟨_, rfl, _, _, _, _, _, rfl, ha.1, T.clLe, T.leOthers, rfl, _, rfl, _, _, rfl, SqL.of hl.1, fun p hp => ?_⟩
    have e1 : cutV (us.map vN) (some 1) none = us.tail.map vN := by
      rw [show (some (1 : Int)) = some ((1 : Nat) : Int) from rfl, cutV_from hlen, List.drop_one, List.map_tail]
    rw [e1] at *
    have k1 : Ch (fun _ => False) g H (tg g p 0) (upd H p (.lst (us.tail.map vN))) := Ch.new hp
    have a1 := ha.keep k1 (fun z => z)
    have n1 := At.new (g := g) (H := H) (p := p) (c := 0) (o := .lst (us.tail.map vN))
    refine ⟨_, rfl, _, _, _, _, rfl, a1.1, T.clLe, T.leOthers, (by show 4 < 1000; decide), ?_⟩
    have k2 := Ch.wr (S := fun c => c = 30 + t) (o' := .ins CLe dx (leF s (.int e) p "other")) a1 rfl
    have a2 := a1.wr (o' := .ins CLe dx (leF s (.int e) p "other"))
    have n2 := n1.keep k2 (by omega)
    refine ⟨_, rfl, _, _, _, rfl, upd_same, rfl, a, dx, s, p, .int e, us.tail, "other", rfl, a2.1, n2.1, ?_⟩
    have k3 := Ch.wr (S := fun c => c = 30 + t) (o' := .ins CLe dx (leF s (.int e) p (if us.tail = [] then "move" else "other"))) a2 rfl
    have kk := ((k1.mono fun _ z => z.elim).trans k2).trans k3
    refine q (tg g p 0) _ S (lookOn e us.tail) (kk.mono fun _ z => .inl z) ⟨dx, p, .int e, us.tail, by rw [lookOn_str]; exact a2.wr, n2.keep k3 (by omega), lookOn_fits _ _ _ _⟩ (SA.keep kk (by omega) (by omega) (by omega)) (.inr ⟨hv', rfl, rfl⟩)
  rcases hv with rfl | ⟨x, rfl⟩
  · exact ⟨_, rfl, rfl, _, rfl, nN rfl (iteF (other (.inl rfl)))⟩
  · refine ⟨_, rfl, rfl, _, rfl, nY (by intro z; cases z) ?_⟩
    refine ⟨_, rfl, _, rfl, _, _, _, _, _, rfl, ha.1, T.clLe, T.leEpoch, rfl, rfl, _, rfl, ?_⟩
    by_cases hx : V.int x = V.int e
    · exact nN hx (other (.inr hx))
    · refine nY hx ⟨_, rfl, _, _, _, rfl, ha.1, rfl, _, rfl, _, _, _, _, _, rfl, ha.1, T.clLe, T.leEpoch, rfl, g, a, dx, s, lo, .int e, us, "other", n, r, t, S, e, rfl, ha, hl, SA, hs, fun g' H' S' k1 A1 M1 R1 => ?_⟩
      exact q g' H' S' .dn k1 A1 M1 (.inl ⟨by (intro z; cases z), hx, R1, rfl⟩)
theorem ok_leAcc (D : MDef K CLe "accept" "Leaving.accept" (inC 8 2) ["self", "result"]) (T : Txt K mg CSk CSt CEn CLe CLa CMe) (GS : Met P w K mg base 1 CSt "stamp" (spStamp CLa CSt) []) (GF : Met P w K mg base 3 CLe "finish" (spFinish CLa CSt CLe) [])
    (GL : Met P w K mg base 1 CLe "look_on" (spLook CLe) []) (GO : Met P w K mg base 4 CLe "take_other" (spTakeOther CLa CSt CLe) []) : Met P w K mg base 5 CLe "accept" (spLeAcc CLa CSt CLe) [] := by
  refine D.ok (N := ["self", "result", "value"]) (by walk_at "sc") (by walk_at "len") fun f cdv A outer s0 H vs Q E hr h => ?_
  have nd : (["self", "result", "value"] : List Str).Nodup := by decide +kernel
  obtain ⟨g, a, ra, s, n, r, t, S, st, v, y, rfl, ⟨dx, lo, ep, os, ha, hl, hf⟩, SA, hs, hra, hv, q⟩ := h
  have ⟨d, M⟩ := SA
  refine ⟨_, pss_cons (ps_set (i := 2) nd rfl (Or.inl rfl) (pe_ix ix_tup (pv 1) pe_int (fun _ _ => rfl)))
    (pss_one (ps_if (pt_cmpR op_eq (pe_fld (pv 0) rfl) pe_str (nomark _)) (pss_cons (ps_expr (pe_mt GS hr (by decide) (pe_fld (pv 0) rfl) (pa_cons (pv 2) pa_nil))) (pss_one (ps_fld (pv 0) pe_str rfl)))
    (pss_one (ps_if (pt_cmpR op_eq (pe_fld (pv 0) rfl) pe_str (nomark _)) (pss_cons (ps_fld (pv 0) pe_str rfl) (pss_one (ps_if (pt_truth (pe_fld (pe_fld (pv 0) rfl) rfl) (by intro _; rfl)) (pss_one (ps_fld (pv 0) pe_str rfl)) pss_nil)))
    (pss_one (ps_if (pt_cmpR op_eq (pe_fld (pv 0) rfl) pe_str (nomark _)) (pss_cons (ps_fld (pv 0) (pv 2) rfl) (pss_one (ps_expr (pe_mt0 GL hr (by decide) (pv 0)))))
    (pss_one (ps_if (pt_cmpR op_eq (pe_fld (pv 0) rfl) pe_str (nomark _)) (pss_one (ps_expr (pe_mt GO hr (by decide) (pv 0) (pa_cons (pv 2) pa_nil))))
    (pss_one (ps_expr (pe_mt GF hr (by decide) (pv 0) (pa_cons (pe_op op_add (pe_fld (pv 0) rfl) (pe_callTy call_int1 (by rfl) T.int (by decide +kernel) (pa_cons (pv 2) pa_nil))) pa_nil)))))))))))), ?_⟩
  have a0 : atI [v, y] 0 = some v := atI_nat (j := 0) rfl
  refine ⟨_, rfl, _, _, _, _, rfl, rfl, SqT.of hra, a0, ?_⟩
  refine ⟨_, rfl, _, _, _, _, _, rfl, ha.1, T.clLe, T.leState, rfl, rfl, _, rfl, ?_⟩
  cases st with
  | stamp =>
    obtain ⟨x, rfl⟩ := hv
    obtain ⟨hs1, hs2⟩ := hs
    refine dY rfl ⟨_, rfl, _, _, _, _, _, rfl, ha.1, T.clLe, T.leStore, rfl, _, _, _, rfl, M.ins.1, rfl, _, rfl, g, s, n, r, t, S, x, rfl, SA, by omega, fun g' H' k1 M1 => ?_⟩
    have a1 := ha.keep k1 (by omega)
    refine ⟨_, rfl, _, _, _, _, rfl, a1.1, T.clLe, T.leState, (by show 4 < 1000; decide), ?_⟩
    have k2 := Ch.wr (S := fun c => c = 30 + t) (o' := .ins CLe dx (leF s ep lo "slot")) a1 rfl
    exact q g' _ _ .slot ((k1.mono fun _ z => .inr z).trans (k2.mono fun _ z => .inl z)) ⟨dx, lo, ep, os, a1.wr, (hl.keep k1 (by omega)).keep k2 (by omega), hf⟩ (M1.keep k2 (by omega) (by omega) (by omega)) ⟨x, rfl, rfl, rfl⟩
  | slot =>
    refine dN (vs_ne rfl) ⟨_, rfl, _, _, _, _, _, rfl, ha.1, T.clLe, T.leState, rfl, rfl, _, rfl, dY rfl ?_⟩
    refine ⟨_, rfl, _, _, _, _, rfl, ha.1, T.clLe, T.leState, (by show 4 < 1000; decide), ?_⟩
    have k2 := Ch.wr (S := fun c => c = 30 + t) (o' := .ins CLe dx (leF s ep lo "end")) ha rfl
    have a2 := ha.wr (o' := .ins CLe dx (leF s ep lo "end"))
    have M2 := M.keep k2 (by omega) (by omega) (by omega)
    refine ⟨_, rfl, _, _, _, _, _, rfl, a2.1, T.clLe, T.leStore, rfl, _, _, _, _, _, rfl, M2.ins.1, T.clSt, T.stDelayed, rfl, _, .inl ⟨_, SqL.of M2.del.1, rfl⟩, ?_⟩
    by_cases hd : S.del = []
    · have e1 : (!(d.drefs.map V.ref).isEmpty) = false := by
        have := M.rows.len
        rw [hd] at this
        rw [List.eq_nil_of_length_eq_zero this]
        rfl
      rw [e1]
      refine iteF ?_
      exact q g _ S .dn (k2.mono fun _ z => .inl z) ⟨dx, lo, ep, os, a2, hl.keep k2 (by omega), trivial⟩ ⟨d, M2⟩ ⟨rfl, (if_pos hd).symm⟩
    · have e1 : (!(d.drefs.map V.ref).isEmpty) = true := by
        have := M.rows.len
        cases hh : d.drefs with
        | nil =>
          rw [hh] at this
          exact absurd (List.eq_nil_of_length_eq_zero this.symm) hd
        | cons a b => rfl
      rw [e1]
      refine iteT ⟨_, rfl, _, _, _, _, rfl, a2.1, T.clLe, T.leState, (by show 4 < 1000; decide), ?_⟩
      have k3 := Ch.wr (S := fun c => c = 30 + t) (o' := .ins CLe dx (leF s ep lo "epoch")) a2 rfl
      exact q g _ S .epoch ((k2.trans k3).mono fun _ z => .inl z) ⟨dx, lo, ep, os, a2.wr, (hl.keep k2 (by omega)).keep k3 (by omega), hf⟩ ⟨d, M2.keep k3 (by omega) (by omega) (by omega)⟩ ⟨rfl, (if_neg hd).symm⟩
  | epoch =>
    obtain ⟨x, rfl⟩ := hv
    have hf : os = othersOf n t := hf
    subst hf
    refine dN (vs_ne rfl) ⟨_, rfl, _, _, _, _, _, rfl, ha.1, T.clLe, T.leState, rfl, rfl, _, rfl, dN (vs_ne rfl) ?_⟩
    refine ⟨_, rfl, _, _, _, _, _, rfl, ha.1, T.clLe, T.leState, rfl, rfl, _, rfl, dY rfl ?_⟩
    refine ⟨_, rfl, _, rfl, _, _, _, _, rfl, ha.1, T.clLe, T.leEpoch, (by show 4 < 1000; decide), ?_⟩
    have k2 := Ch.wr (S := fun c => c = 30 + t) (o' := .ins CLe dx (leF s (.int x) lo "epoch")) ha rfl
    have a2 := ha.wr (o' := .ins CLe dx (leF s (.int x) lo "epoch"))
    have hl2 := hl.keep k2 (by omega)
    refine ⟨_, rfl, _, _, _, rfl, upd_same, rfl, a, dx, s, lo, .int x, othersOf n t, "epoch", rfl, a2.1, hl2.1, ?_⟩
    have k3 := Ch.wr (S := fun c => c = 30 + t) (o' := .ins CLe dx (leF s (.int x) lo (if othersOf n t = [] then "move" else "other"))) a2 rfl
    refine q g _ S (lookOn x (othersOf n t)) ((k2.trans k3).mono fun _ z => .inl z) ⟨dx, lo, .int x, othersOf n t, by rw [lookOn_str]; exact a2.wr, hl2.keep k3 (by omega), lookOn_fits _ _ _ _⟩ (SA.keep (k2.trans k3) (by omega) (by omega) (by omega)) ⟨x, rfl, rfl, rfl⟩
  | other e us =>
    obtain ⟨rfl, hne, rfl⟩ := hf
    refine dN (vs_ne rfl) ⟨_, rfl, _, _, _, _, _, rfl, ha.1, T.clLe, T.leState, rfl, rfl, _, rfl, dN (vs_ne rfl) ?_⟩
    refine ⟨_, rfl, _, _, _, _, _, rfl, ha.1, T.clLe, T.leState, rfl, rfl, _, rfl, dN (vs_ne rfl) ?_⟩
    refine ⟨_, rfl, _, _, _, _, _, rfl, ha.1, T.clLe, T.leState, rfl, rfl, _, rfl, dY rfl ?_⟩
    exact ⟨_, rfl, _, _, _, rfl, ha.1, rfl, _, rfl, g, a, dx, s, lo, os, n, r, t, S, e, v, rfl, ha, hl, hne, SA, hs, hv, fun g' H' S' st' k1 A1 M1 R1 => q g' H' S' st' k1 A1 M1 R1⟩
  | move e =>
    obtain ⟨rfl, rfl⟩ := hf
    obtain ⟨b, rfl⟩ := hv
    refine dN (vs_ne rfl) ⟨_, rfl, _, _, _, _, _, rfl, ha.1, T.clLe, T.leState, rfl, rfl, _, rfl, dN (vs_ne rfl) ?_⟩
    refine ⟨_, rfl, _, _, _, _, _, rfl, ha.1, T.clLe, T.leState, rfl, rfl, _, rfl, dN (vs_ne rfl) ?_⟩
    refine ⟨_, rfl, _, _, _, _, _, rfl, ha.1, T.clLe, T.leState, rfl, rfl, _, rfl, dN (vs_ne rfl) ?_⟩
    refine ⟨_, rfl, _, _, _, rfl, ha.1, rfl, _, rfl, _, _, _, _, _, rfl, ha.1, T.clLe, T.leEpoch, rfl, _, rfl, .inr ⟨b, rfl, _, _, rfl, rfl, g, a, dx, s, lo, .int e, [], "move", n, r, t, S, _, rfl, ha, hl, SA, hs, fun g' H' S' k1 A1 M1 R1 => ?_⟩⟩
    refine q g' H' S' .dn k1 A1 M1 ⟨b, rfl, ?_, rfl⟩
    cases b with
    | true => exact R1
    | false =>
      have e0 : e + (if false = true then 1 else 0) = e := by simp
      rw [e0] at R1
      exact R1
  | dn => exact hv.elim
end

/-! ### Stack. tags: 20 + t itself, 25 + t its list -/
inductive MS where
  | en (st : ES)
  | le (st : LS)
def MS.tup (t : Nat) : MS → List V
  | .en st => st.rq t
  | .le st => st.rq t
def MS.done : MS → Bool
  | .en (.dn _) => true
  | .le .dn => true
  | _ => false
def MS.rq (t : Nat) : MS → Rq
  | .en .rd => .rd 0
  | .en (.wr x) => .wr (1 + t) (.int x)
  | .en (.ag _) => .rd 0
  | .en (.dn _) => .rd 0
  | .le .stamp => .rd 0
  | .le .slot => .wr (1 + t) .non
  | .le .epoch => .rd 0
  | .le (.other _ us) => .rd (1 + us.headD 0)
  | .le (.move e) => .sw 0 e (e + 1)
  | .le .dn => .rd 0
theorem MS.tup_done {ms : MS} {t : Nat} (h : ms.done = true) : ∃ v, ms.tup t = [.str "end", v] := by
  cases ms with
  | en st => cases st with
    | dn e => exact ⟨_, rfl⟩
    | rd => cases h
    | wr e => cases h
    | ag e => cases h
  | le st => cases st with
    | dn => exact ⟨_, rfl⟩
    | stamp => cases h
    | slot => cases h
    | epoch => cases h
    | other e us => cases h
    | move e => cases h
theorem MS.tup_go {ms : MS} {t : Nat} (h : ms.done = false) : ms.tup t = (ms.rq t).tup := by
  cases ms with
  | en st => cases st with
    | dn e => cases h
    | rd => rfl
    | wr e => rfl
    | ag e => rfl
  | le st => cases st with
    | dn => cases h
    | stamp => rfl
    | slot => rfl
    | epoch => rfl
    | other e us => rfl
    | move e => rfl
theorem Rq.nokind2 (rq : Rq) : ¬ (V.str rq.kind = V.str "call") ∧ ¬ (V.str rq.kind = V.str "end") := by
  cases rq <;> exact ⟨vs_ne rfl, vs_ne rfl⟩
def skF (ml : Addr) (res : V) : List (Str × V) := [("machines", .ref ml), ("result", res)]
def MachAt (CEn CLe : Addr) (g : Tg) (H : Hp) (a s : Addr) (T t : Nat) : MS → Prop
  | .en st => EntAt CEn g H a t st
  | .le st => LeaAt CLe g H a s T t st
def mlist (CEn CLe : Addr) (g : Tg) (H : Hp) (ml s : Addr) (T t : Nat) : Option MS → Prop
  | none => At g H (25 + t) ml (.lst [])
  | some ms => ∃ a, At g H (25 + t) ml (.lst [.ref a]) ∧ MachAt CEn CLe g H a s T t ms
def StkAt (CSk CEn CLe : Addr) (g : Tg) (H : Hp) (k s : Addr) (T t : Nat) (c : Option MS) : Prop := ∃ dx ml res, At g H (20 + t) k (.ins CSk dx (skF ml res)) ∧ mlist CEn CLe g H ml s T t c
section
variable {CSk CEn CLe : Addr} {g g' : Tg} {H H' : Hp} {a k s ml : Addr} {T t : Nat} {Z : Nat → Prop} {ms : MS} {c : Option MS}
theorem MachAt.keep (h : MachAt CEn CLe g H a s T t ms) (k : Ch Z g H g' H') (n0 : ¬ Z 0) (n : ¬ Z (30 + t)) : MachAt CEn CLe g' H' a s T t ms := by
  cases ms with
  | en st => exact EntAt.keep h k n
  | le st => exact LeaAt.keep h k n0 n
theorem mlist.keep (h : mlist CEn CLe g H ml s T t c) (k : Ch Z g H g' H') (n0 : ¬ Z 0) (n1 : ¬ Z (25 + t)) (n : ¬ Z (30 + t)) : mlist CEn CLe g' H' ml s T t c := by
  cases c with
  | none => exact At.keep h k n1
  | some ms =>
    obtain ⟨a, h1, h2⟩ := h
    exact ⟨a, h1.keep k n1, h2.keep k n0 n⟩
theorem StkAt.keep (h : StkAt CSk CEn CLe g H a s T t c) (k : Ch Z g H g' H') (n0 : ¬ Z 0) (n2 : ¬ Z (20 + t)) (n1 : ¬ Z (25 + t)) (n : ¬ Z (30 + t)) : StkAt CSk CEn CLe g' H' a s T t c := by
  obtain ⟨dx, ml, res, h1, h2⟩ := h
  exact ⟨dx, ml, res, h1.keep k n2, h2.keep k n0 n1 n⟩
end
def settled : Option MS → Option MS
  | none => none
  | some ms => if ms.done = true then none else some ms
def spSkInit (CSk : Addr) : Sp := fun vs H Q _ => ∃ (g : Tg) (k dx : Addr) (t : Nat) (v : V), vs = [.ref k, v] ∧ At g H (20 + t) k (.ins CSk dx []) ∧
  ∀ (g' : Tg) (H' : Hp) (ml : Addr), Ch (fun c => c = 20 + t) g H g' H' → At g' H' (20 + t) k (.ins CSk dx (skF ml .non)) → At g' H' (25 + t) ml (.lst [v]) → Q .non H'
def spPass (CSk : Addr) : Sp := fun vs H Q _ => ∃ (k dx ml : Addr) (res v : V), vs = [.ref k, v] ∧ H k = some (.ins CSk dx (skF ml res)) ∧ H ml = some (.lst []) ∧ Q .non (upd H k (.ins CSk dx (skF ml v)))
def spEnded (CSk CEn CLe : Addr) : Sp := fun vs H Q _ => ∃ (g : Tg) (k s : Addr) (T t : Nat) (c : Option MS), vs = [.ref k] ∧ StkAt CSk CEn CLe g H k s T t c ∧ Q (.bl c.isNone) H
def spSettle (CLa CSk CSt CEn CLe : Addr) : Sp := fun vs H Q _ => ∃ (g : Tg) (k s : Addr) (T R t : Nat) (S : SS) (c : Option MS), vs = [.ref k] ∧ StkAt CSk CEn CLe g H k s T t c ∧ StoAt CLa CSt g H s T R t S ∧
  ∀ (g' : Tg) (H' : Hp), Ch (fun c => c = 20 + t ∨ c = 25 + t) g H g' H' → StkAt CSk CEn CLe g' H' k s T t (settled c) → Q .non H'
section
variable {P : Program} {w : World} {K : PySem.W.Frag} {mg : Str → Option Value} {base : Heap} {CSk CSt CEn CLe CLa CMe : Addr}
theorem ok_skInit (D : KDef K mg "Stack" CSk "Stack.__init__" (inC 2 0) ["self", "machine"]) (T : Txt K mg CSk CSt CEn CLe CLa CMe) : Mak P w K mg base 1 "Stack" CSk (spSkInit CSk) [] := by
  refine D.ok (N := ["self", "machine"]) (by walk_at "sc") (by walk_at "len") fun f cdv A outer s0 H vs Q E hr h => ?_
  obtain ⟨g, k, dx, t, v, rfl, hk, q⟩ := h
  refine ⟨_, pss_cons (ps_fld (pv 0) (pe_lst (pa_cons (pv 1) pa_nil)) rfl) (pss_one (ps_fld (pv 0) pe_non rfl)), ?_⟩
  refine ⟨_, rfl, size_2 (by show 1 ≤ 100000; decide), fun p hp => ?_⟩
  have k1 := hk.old (d := 25 + t) (u := .lst [v]) hp
  refine ⟨_, rfl, _, _, _, _, rfl, k1.1, T.clSk, T.skMachines, (by show 0 < 1000; decide), ?_⟩
  refine ⟨_, rfl, _, _, _, _, rfl, upd_same, T.clSk, T.skResult, (by show 1 < 1000; decide), ?_⟩
  rw [upd_upd]
  have c1 : Ch (fun c => c = 20 + t) g H (tg g p (25 + t)) (upd H p (.lst [v])) := Ch.new hp
  have c2 := Ch.wr (S := fun c => c = 20 + t) (o' := .ins CSk dx (skF p .non)) k1 rfl
  exact q _ _ p (c1.trans c2) k1.wr ((At.new).keep c2 (by omega))
theorem ok_pass (D : MDef K CSk "pass_on" "Stack.pass_on" (inC 2 2) ["self", "value"]) (T : Txt K mg CSk CSt CEn CLe CLa CMe) : Met P w K mg base 1 CSk "pass_on" (spPass CSk) [] := by
  refine D.ok (N := ["self", "value"]) (by walk_at "sc") (by walk_at "len") fun f cdv A outer s0 H vs Q E hr h => ?_
  obtain ⟨k, dx, ml, res, v, rfl, hk, hl, q⟩ := h
  refine ⟨_, pss_one (ps_if (pt_truth (pe_fld (pv 0) rfl) (by intro _; rfl)) pss_never (pss_one (ps_fld (pv 0) (pv 1) rfl))), ?_⟩
  refine ⟨_, rfl, _, _, _, _, _, rfl, hk, T.clSk, T.skMachines, rfl, _, .inl ⟨_, SqL.of hl, rfl⟩, iteF ?_⟩
  exact ⟨_, rfl, _, rfl, _, _, _, _, rfl, hk, T.clSk, T.skResult, (by show 2 < 1000; decide), q⟩
theorem ok_ended (D : MDef K CSk "ended" "Stack.ended" (inC 2 4) ["self"]) (T : Txt K mg CSk CSt CEn CLe CLa CMe) : Met P w K mg base 1 CSk "ended" (spEnded CSk CEn CLe) [] := by
  refine D.ok (N := ["self"]) (by walk_at "sc") (by walk_at "len") fun f cdv A outer s0 H vs Q E hr h => ?_
  obtain ⟨g, k, s, n, t, c, rfl, ⟨dx, ml, res, hk, hm⟩, q⟩ := h
  refine ⟨_, pss_one (ps_ret (pe_cmpR op_eq (pe_callB call_len_seq (by rfl) T.len PySem.boot_len (pa_cons (pe_fld (pv 0) rfl) pa_nil)) pe_int (nomark _))), ?_⟩
  cases c with
  | none => exact ⟨_, rfl, _, _, _, _, _, rfl, hk.1, T.clSk, T.skMachines, rfl, _, _, rfl, .inl (SqL.of hm.1), rfl, q⟩
  | some ms =>
    obtain ⟨a, hm, _⟩ := hm
    exact ⟨_, rfl, _, _, _, _, _, rfl, hk.1, T.clSk, T.skMachines, rfl, _, _, rfl, .inl (SqL.of hm.1), rfl, q⟩
theorem ok_settle (D : MDef K CSk "settle" "Stack.settle" (inC 2 1) ["self"]) (T : Txt K mg CSk CSt CEn CLe CLa CMe) (GE : Met P w K mg base 1 CEn "request" (spEnReq CEn) []) (GL : Met P w K mg base 2 CLe "request" (spLeReq CLa CSt CLe) [])
    (GP : Met P w K mg base 1 CSk "pass_on" (spPass CSk) []) : Met P w K mg base 3 CSk "settle" (spSettle CLa CSk CSt CEn CLe) [] := by
  refine D.ok (N := ["self", "request"]) (by walk_at "sc") (by walk_at "len") fun f cdv A outer s0 H vs Q E hr h => ?_
  have nd : (["self", "request"] : List Str).Nodup := by decide +kernel
  obtain ⟨g, k, s, n, r, t, S, c, rfl, hk, SA, q⟩ := h
  refine ⟨_, pss_one (ps_while PassesOwn.never (pt_truth (pe_fld (pv 0) rfl) (by intro _; rfl))
    (pss_cons (ps_set (i := 1) nd rfl (Or.inl rfl) (pe_alt (pe_mt0 GE hr (by decide) (pe_ix ix_list (pe_fld (pv 0) rfl) (pe_un un_neg pe_int) (fun _ _ => rfl))) (pe_mt0 GL hr (by decide) (pe_ix ix_list (pe_fld (pv 0) rfl) (pe_un un_neg pe_int) (fun _ _ => rfl)))))
    (pss_one (ps_if (pt_cmpR op_eq (pe_ix ix_tup (pv 1) pe_int (fun _ _ => rfl)) pe_str (nomark _)) pss_never
      (pss_one (ps_if (pt_cmpR op_eq (pe_ix ix_tup (pv 1) pe_int (fun _ _ => rfl)) pe_str (nomark _))
        (pss_cons (ps_expr (pe_bm0 PySem.F.plainAttrs_list PySem.F.slot_list_pop PySem.F.type_list_pop mt_pop (pe_fld (pv 0) rfl))) (pss_one (ps_expr (pe_mt GP hr (by decide) (pv 0) (pa_cons (pe_ix ix_tup (pv 1) pe_int (fun _ _ => rfl)) pa_nil)))))
        (pss_one ps_retN))))))), ?_⟩
  refine ⟨fun m σ H' => ∃ (g' : Tg) (c' : Option MS) (z : Option V), σ = [some (.ref k), z] ∧ Ch (fun c => c = 20 + t ∨ c = 25 + t) g H g' H' ∧ StkAt CSk CEn CLe g' H' k s n t c' ∧ settled c' = settled c ∧ (m = 0 → c' = none), ⟨1, g, c, none, rfl, Ch.refl, hk, rfl, fun z => by cases z⟩, ?_⟩
  rintro m σ H' ⟨g', c', z, rfl, kk, ⟨dx, ml, res, hk', hm⟩, ec, hc0⟩
  cases c' with
  | none =>
    refine ⟨_, rfl, _, _, _, _, _, rfl, hk'.1, T.clSk, T.skMachines, rfl, false, .inl ⟨_, SqL.of hm.1, rfl⟩, iteF ?_⟩
    refine q g' H' kk ?_
    rw [← ec]
    exact ⟨dx, ml, res, hk', hm⟩
  | some ms =>
    obtain ⟨a, hl, ha⟩ := hm
    have hm0 : 0 < m := Nat.pos_of_ne_zero fun z => by cases hc0 z
    refine ⟨_, rfl, _, _, _, _, _, rfl, hk'.1, T.clSk, T.skMachines, rfl, true, .inl ⟨_, SqL.of hl.1, rfl⟩, iteT ?_⟩
    refine ⟨fun σ' H'' => ∃ (g' : Tg) (z : Option V), σ' = [some (.ref k), z] ∧ Ch (fun c => c = 20 + t ∨ c = 25 + t) g H g' H'' ∧ StkAt CSk CEn CLe g' H'' k s n t none ∧ settled none = settled c, fun σ' H'' ⟨g2, z2, e1, e2, e3, e4⟩ => ⟨0, hm0, g2, none, z2, e1, e2, e3, e4, fun _ => rfl⟩, ?_⟩
    have SA' := SA.keep kk (by omega) (by omega) (by omega)
    -- behind the request
    have next : ∀ p, H' p = none → (tSeq (tIfS (tTest (tOp rEq (tOp (rIxT K) (tVar 1) (tC (.int 0))) (tC (.str "call")))) tNever
        (tIfS (tTest (tOp rEq (tOp (rIxT K) (tVar 1) (tC (.int 0))) (tC (.str "end")))) (tSeq (tDrop (tBM0 K "list" rPop (tFld K (tVar 0) "machines"))) (tDrop (tMeth CSk "pass_on" (spPass CSk) [] C8.E0 (tVar 0) (tCons (tOp (rIxT K) (tVar 1) (tC (.int 1))) tNil)))) tRetN)) tNext)
        { nx := fun σ' H'' => ∃ (g' : Tg) (z : Option V), σ' = [some (.ref k), z] ∧ Ch (fun c => c = 20 + t ∨ c = 25 + t) g H g' H'' ∧ StkAt CSk CEn CLe g' H'' k s n t none ∧ settled none = settled c, rt := Q } [some (.ref k), some (.ref p)] (upd H' p (.tup (ms.tup t))) := fun p hp => by
      cases hd : ms.done with
      | true =>
        obtain ⟨v, ev⟩ := MS.tup_done (t := t) hd
        rw [ev]
        have k1 : Ch (fun c => c = 20 + t ∨ c = 25 + t) g' H' (tg g' p 0) (upd H' p (.tup [.str "end", v])) := Ch.new hp
        have k1' : Ch (fun _ => False) g' H' (tg g' p 0) (upd H' p (.tup [.str "end", v])) := Ch.new hp
        have hl1 := hl.keep k1' (fun z => z)
        have hk1 := hk'.keep k1' (fun z => z)
        have ha1 := ha.keep k1' (fun z => z) (fun z => z)
        have hp1 : upd H' p (.tup [.str "end", v]) p = some (.tup [.str "end", v]) := upd_same
        refine ⟨_, rfl, _, _, _, _, rfl, rfl, SqT.of hp1, atI_nat (j := 0) rfl, rfl, _, rfl, dN (vs_ne rfl) ?_⟩
        refine ⟨_, rfl, _, _, _, _, rfl, rfl, SqT.of hp1, atI_nat (j := 0) rfl, rfl, _, rfl, dY rfl ?_⟩
        refine ⟨_, rfl, _, _, _, _, _, rfl, hk1.1, T.clSk, T.skMachines, rfl, .inl ⟨rfl, _, SqL.of hl1.1⟩, _, _, _, rfl, rfl, hl1.1, rfl, ?_⟩
        have k2 := Ch.wr (S := fun c => c = 20 + t ∨ c = 25 + t) (o' := .lst []) hl1 (.inr rfl)
        have hl2 := hl1.wr (o' := .lst [])
        have hk2 := hk1.upd (u := .lst []) (hk1.nx hl1 (by intro z; cases z))
        have npm : p ≠ ml := (ne_of_none hl.1 hp).symm
        refine ⟨_, rfl, _, _, _, rfl, hk2.1, rfl, _, rfl, _, _, _, _, rfl, rfl, SqT.of (by rw [upd_ne npm]; exact hp1), atI_nat (j := 1) rfl, k, dx, ml, res, v, rfl, hk2.1, hl2.1, ?_⟩
        have k3 := Ch.wr (S := fun c => c = 20 + t ∨ c = 25 + t) (o' := .ins CSk dx (skF ml v)) hk2 (.inl rfl)
        refine ⟨_, _, rfl, ((kk.trans k1).trans k2).trans k3, ⟨dx, ml, v, hk2.wr, hl2.upd (hl2.nx hk2 (by intro z; cases z))⟩, ?_⟩
        rw [← ec]
        show none = if ms.done = true then none else some ms
        rw [if_pos hd]
      | false =>
        have ev := MS.tup_go (t := t) hd
        obtain ⟨xs, e1, _⟩ := (ms.rq t).head
        rw [ev, e1]
        have k1 : Ch (fun c => c = 20 + t ∨ c = 25 + t) g' H' (tg g' p 0) (upd H' p (.tup (.str (ms.rq t).kind :: .int (ms.rq t).cell :: xs))) := Ch.new hp
        have k1' : Ch (fun _ => False) g' H' (tg g' p 0) (upd H' p (.tup (.str (ms.rq t).kind :: .int (ms.rq t).cell :: xs))) := Ch.new hp
        have hl1 := hl.keep k1' (fun z => z)
        have hk1 := hk'.keep k1' (fun z => z)
        have ha1 := ha.keep k1' (fun z => z) (fun z => z)
        have hp1 : upd H' p (.tup (.str (ms.rq t).kind :: .int (ms.rq t).cell :: xs)) p = some (.tup (.str (ms.rq t).kind :: .int (ms.rq t).cell :: xs)) := upd_same
        refine ⟨_, rfl, _, _, _, _, rfl, rfl, SqT.of hp1, atI_nat (j := 0) rfl, rfl, _, rfl, dN (ms.rq t).nokind2.1 ?_⟩
        refine ⟨_, rfl, _, _, _, _, rfl, rfl, SqT.of hp1, atI_nat (j := 0) rfl, rfl, _, rfl, dN (ms.rq t).nokind2.2 ?_⟩
        refine q _ _ (kk.trans k1) ?_
        rw [← ec]
        show StkAt CSk CEn CLe _ _ k s n t (if ms.done = true then none else some ms)
        rw [if_neg (by rw [hd]; decide)]
        exact ⟨dx, ml, res, hk1, a, hl1, ha1⟩
    cases ms with
    | en st =>
      have ⟨dxa, haa⟩ := ha
      exact .inl ⟨_, rfl, _, _, _, _, _, rfl, hk'.1, T.clSk, T.skMachines, rfl, _, rfl, _, _, _, _, rfl, rfl, SqL.of hl.1, atI_last [] _, _, _, _, rfl, haa.1, rfl, g', a, t, st, rfl, ha, fun p hp => next p hp⟩
    | le st =>
      have ⟨dxa, lo, ep, os, haa, _, _⟩ := ha
      exact .inr ⟨_, rfl, _, _, _, _, _, rfl, hk'.1, T.clSk, T.skMachines, rfl, _, rfl, _, _, _, _, rfl, rfl, SqL.of hl.1, atI_last [] _, _, _, _, rfl, haa.1, rfl, g', a, s, n, r, t, S, st, rfl, ha, SA', fun p hp => next p hp⟩
end

/-! ### the memory by the epoch and the slots -/
def oV : Option Int → V
  | none => .non
  | some e => .int e
structure ValsAt (vals : List V) (T : Nat) (E : Int) (sl : List (Option Int)) : Prop where
  e0 : vals[0]? = some (.int E)
  len : sl.length = T
  sl : ∀ u x, sl[u]? = some x → vals[1 + u]? = some (oV x)
def MemE (CLa CMe : Addr) (g : Tg) (H : Hp) (m : Addr) (T R : Nat) (E : Int) (sl : List (Option Int)) (cnt : Nat) (log : Option Str) : Prop := ∃ vals, MemAt CLa CMe g H m T R vals cnt log ∧ ValsAt vals T E sl
theorem MemE.keep {CLa CMe : Addr} {Z : Nat → Prop} {g g' : Tg} {H H' : Hp} {m : Addr} {T R : Nat} {E : Int} {sl : List (Option Int)} {cnt : Nat} {log : Option Str} (h : MemE CLa CMe g H m T R E sl cnt log) (k : Ch Z g H g' H') (n0 : ¬ Z 0) (n1 : ¬ Z 1) : MemE CLa CMe g' H' m T R E sl cnt log :=
  let ⟨vals, h1, h2⟩ := h; ⟨vals, h1.keep k n0 n1, h2⟩
def MS.wf (T : Nat) : MS → Prop
  | .le (.other _ us) => us ≠ [] ∧ ∀ u ∈ us, u < T
  | _ => True
def MS.aftE (E : Int) : MS → Int
  | .le (.move e) => if E = e then e + 1 else E
  | _ => E
def MS.aftSl (t : Nat) (sl : List (Option Int)) : MS → List (Option Int)
  | .en (.wr x) => sl.set t (some x)
  | .le .slot => sl.set t none
  | _ => sl
def MS.val (E : Int) (sl : List (Option Int)) : MS → V
  | .en (.wr _) => .non
  | .le .slot => .non
  | .le (.other _ us) => oV (sl.getD (us.headD 0) none)
  | .le (.move e) => .bl (decide (E = e))
  | _ => .int E
/-- one access of a machine, with what the stack holds then -/
def MStep (T t : Nat) (E : Int) (sl : List (Option Int)) (S : SS) (ms : MS) (E' : Int) (sl' : List (Option Int)) (S' : SS) (c' : Option MS) : Prop :=
  E' = ms.aftE E ∧ sl' = ms.aftSl t sl ∧ match ms with
    | .en st => S' = S ∧ c' = settled (some (.en (st.acc E)))
    | .le st => ∃ st', LAcc T t S ((MS.le st).val E sl) S' st' st ∧ c' = settled (some (.le st'))
theorem oV_inj {x y : Option Int} (h : oV x = oV y) : x = y := by
  cases x with
  | none => cases y with
    | none => rfl
    | some b => cases h
  | some a => cases y with
    | none => cases h
    | some b =>
      have : a = b := by injection h
      rw [this]
theorem ValsAt.set {vals : List V} {T : Nat} {E : Int} {sl : List (Option Int)} (h : ValsAt vals T E sl) {t : Nat} {x : Option Int} (ht : t < T) : ValsAt (vals.set (1 + t) (oV x)) T E (sl.set t x) := by
  refine ⟨by rw [List.getElem?_set_ne (by omega)]; exact h.e0, by rw [List.length_set]; exact h.len, fun u y hy => ?_⟩
  by_cases hu : t = u
  · subst hu
    have hl : t < sl.length := by rw [h.len]; exact ht
    rw [List.getElem?_set_self hl] at hy
    cases hy
    have hv : 1 + t < vals.length := by
      have e1 : sl[t]? = some sl[t] := List.getElem?_eq_getElem hl
      exact (List.getElem?_eq_some_iff.mp (h.sl t _ e1)).1
    rw [List.getElem?_set_self hv]
  · rw [List.getElem?_set_ne hu] at hy
    rw [List.getElem?_set_ne (by omega)]
    exact h.sl u y hy
theorem ValsAt.setE {vals : List V} {T : Nat} {E E' : Int} {sl : List (Option Int)} (h : ValsAt vals T E sl) : ValsAt (vals.set 0 (.int E')) T E' sl := by
  refine ⟨by rw [List.getElem?_set_self (List.getElem?_eq_some_iff.mp h.e0).1], h.len, fun u y hy => ?_⟩
  rw [List.getElem?_set_ne (by omega)]
  exact h.sl u y hy
theorem step_vals {vals : List V} {T R t : Nat} {E : Int} {sl : List (Option Int)} {ms : MS} (h : ValsAt vals T E sl) (hd : ms.done = false) (hw : ms.wf T) (ht : t < T) (hl : vals.length = 1 + 2 * T + 3 + R) :
    (ms.rq t).ok T vals ∧ (ms.rq t).res vals = ms.val E sl ∧ ValsAt ((ms.rq t).aft vals) T (ms.aftE E) (ms.aftSl t sl) := by
  have hg : vals.getD 0 .non = .int E := getD_of h.e0
  cases ms with
  | en st => cases st with
    | rd => exact ⟨(List.getElem?_eq_some_iff.mp h.e0).1, hg, h⟩
    | wr e => exact ⟨(by show 1 + t ≤ T; omega), rfl, h.set (x := some e) ht⟩
    | ag e => exact ⟨(List.getElem?_eq_some_iff.mp h.e0).1, hg, h⟩
    | dn e => cases hd
  | le st => cases st with
    | stamp => exact ⟨(List.getElem?_eq_some_iff.mp h.e0).1, hg, h⟩
    | slot => exact ⟨(by show 1 + t ≤ T; omega), rfl, h.set (x := none) ht⟩
    | epoch => exact ⟨(List.getElem?_eq_some_iff.mp h.e0).1, hg, h⟩
    | other e us =>
      obtain ⟨hne, hu⟩ := hw
      cases us with
      | nil => exact absurd rfl hne
      | cons u us =>
        have hlt : u < T := hu u (List.mem_cons_self)
        have hls : u < sl.length := by rw [h.len]; exact hlt
        have e1 : sl[u]? = some sl[u] := List.getElem?_eq_getElem hls
        refine ⟨by show 1 + u < vals.length; omega, ?_, h⟩
        show vals.getD (1 + u) .non = oV (sl.getD u none)
        rw [getD_of (h.sl u _ e1), getD_of e1]
    | move e =>
      refine ⟨⟨Nat.zero_le _, E, h.e0⟩, ?_, ?_⟩
      · show V.bl (decide (vals.getD 0 .non = .int e)) = .bl (decide (E = e))
        rw [hg]
        by_cases he : E = e
        · rw [decide_eq_true (by rw [he]), decide_eq_true he]
        · rw [decide_eq_false (fun z => he (by injection z)), decide_eq_false he]
      · show ValsAt (if vals.getD 0 .non = .int e then vals.set 0 (.int (e + 1)) else vals) T (if E = e then e + 1 else E) sl
        rw [hg]
        by_cases he : E = e
        · rw [if_pos (by rw [he]), if_pos he]
          exact h.setE
        · rw [if_neg (fun z => he (by injection z)), if_neg he]
          exact h
    | dn => cases hd
def SZ (t : Nat) : Nat → Prop := fun c => c = 1 ∨ c = 10 + t ∨ c = 15 + t ∨ c = 20 + t ∨ c = 25 + t ∨ c = 30 + t
def spStep (CLa CMe CSk CSt CEn CLe : Addr) : Sp := fun vs H Q _ => ∃ (g : Tg) (k m s : Addr) (T R t : Nat) (E : Int) (sl : List (Option Int)) (cnt : Nat) (log : Option Str) (S : SS) (c : Option MS), vs = [.ref k, .ref m, .int t] ∧ MemE CLa CMe g H m T R E sl cnt log ∧
  StoAt CLa CSt g H s T R t S ∧ StkAt CSk CEn CLe g H k s T t c ∧ (∀ ms, c = some ms → ms.done = false ∧ ms.wf T) ∧ S.small ∧ t < T ∧ cnt < 100000 ∧
  (c = none → ∀ (g' : Tg) (H' : Hp), Ch (fun c => c = 20 + t ∨ c = 25 + t) g H g' H' → StkAt CSk CEn CLe g' H' k s T t none → Q (.bl false) H') ∧
  (∀ ms, c = some ms → ∀ (g' : Tg) (H' : Hp) (E' : Int) (sl' : List (Option Int)) (S' : SS) (c' : Option MS), Ch (SZ t) g H g' H' → MemE CLa CMe g' H' m T R E' sl' (cnt + 1) (some (ms.rq t).kind) → StoAt CLa CSt g' H' s T R t S' → StkAt CSk CEn CLe g' H' k s T t c' →
    MStep T t E sl S ms E' sl' S' c' → Q (.bl true) H')
section
variable {P : Program} {w : World} {K : PySem.W.Frag} {mg : Str → Option Value} {base : Heap} {CSk CSt CEn CLe CLa CMe : Addr}
theorem ok_step (D : MDef K CSk "step" "Stack.step" (inC 2 3) ["self", "memory", "thread"]) (T : Txt K mg CSk CSt CEn CLe CLa CMe) (GS : Met P w K mg base 3 CSk "settle" (spSettle CLa CSk CSt CEn CLe) []) (GA : Met P w K mg base 6 CMe "access" (spAccess CLa CMe) [])
    (GE : Met P w K mg base 1 CEn "request" (spEnReq CEn) []) (GL : Met P w K mg base 2 CLe "request" (spLeReq CLa CSt CLe) []) (GEA : Met P w K mg base 1 CEn "accept" (spEnAcc CEn) []) (GLA : Met P w K mg base 5 CLe "accept" (spLeAcc CLa CSt CLe) []) :
    Met P w K mg base 7 CSk "step" (spStep CLa CMe CSk CSt CEn CLe) [] := by
  refine D.ok (N := ["self", "memory", "thread", "top"]) (by walk_at "sc") (by walk_at "len") fun f cdv A outer s0 H vs Q E hr h => ?_
  have nd : (["self", "memory", "thread", "top"] : List Str).Nodup := by decide +kernel
  obtain ⟨g, k, m, s, n, r, t, ep, sl, cnt, log, S, c, rfl, ME, SA, KA, hwf, hs, ht, hcnt, q0, q1⟩ := h
  refine ⟨_, pss_cons (ps_expr (pe_mt0 GS hr (by decide) (pv 0)))
    (pss_cons (ps_if (pt_not (pt_truth (pe_fld (pv 0) rfl) (by intro _; rfl))) (pss_one (ps_ret pe_bl)) pss_nil)
    (pss_cons (ps_set (i := 3) nd rfl (Or.inl rfl) (pe_ix ix_list (pe_fld (pv 0) rfl) (pe_un un_neg pe_int) (fun _ _ => rfl)))
    (pss_cons (ps_expr (pe_alt (pe_mt GEA hr (by decide) (pv 3) (pa_cons (pe_mt GA hr (by decide) (pv 1) (pa_cons (pv 2) (pa_cons (pe_mt0 GE hr (by decide) (pv 3)) pa_nil))) pa_nil))
      (pe_mt GLA hr (by decide) (pv 3) (pa_cons (pe_mt GA hr (by decide) (pv 1) (pa_cons (pv 2) (pa_cons (pe_mt0 GL hr (by decide) (pv 3)) pa_nil))) pa_nil))))
    (pss_cons (ps_expr (pe_mt0 GS hr (by decide) (pv 0))) (pss_one (ps_ret pe_bl)))))), ?_⟩
  have ⟨dx0, ml0, res0, hk0, _⟩ := KA
  refine ⟨_, rfl, _, _, _, rfl, hk0.1, rfl, g, k, s, n, r, t, S, c, rfl, KA, SA, fun g1 H1 k1 KA1 => ?_⟩
  have ME1 := ME.keep k1 (by omega) (by omega)
  have SA1 := SA.keep k1 (by omega) (by omega) (by omega)
  cases c with
  | none =>
    have ⟨dx, ml, res, hk, hm⟩ := KA1
    refine ⟨_, rfl, _, _, _, _, _, rfl, hk.1, T.clSk, T.skMachines, rfl, false, .inl ⟨_, SqL.of hm.1, rfl⟩, iteT ?_⟩
    exact q0 rfl g1 H1 k1 KA1
  | some ms =>
    obtain ⟨hd, hw⟩ := hwf ms rfl
    have es : settled (some ms) = some ms := if_neg (by rw [hd]; decide)
    rw [es] at KA1
    have ⟨dx, ml, res, hk, a, hm, ha⟩ := KA1
    refine ⟨_, rfl, _, _, _, _, _, rfl, hk.1, T.clSk, T.skMachines, rfl, true, .inl ⟨_, SqL.of hm.1, rfl⟩, iteF ?_⟩
    refine ⟨_, rfl, _, _, _, _, _, rfl, hk.1, T.clSk, T.skMachines, rfl, _, rfl, _, _, _, _, rfl, rfl, SqL.of hm.1, atI_last [] _, ?_⟩
    obtain ⟨vals, MA, hv⟩ := ME1
    have ⟨md, M, _⟩ := MA
    obtain ⟨hok, hres, hv2⟩ := step_vals hv hd hw ht M.vlen
    have etup := MS.tup_go (t := t) hd
    -- behind accept
    have fin : ∀ (g3 : Tg) (H3 : Hp) (S' : SS) (ms' : MS), Ch (SZ t) g1 H1 g3 H3 → MemE CLa CMe g3 H3 m n r (ms.aftE ep) (ms.aftSl t sl) (cnt + 1) (some (ms.rq t).kind) → StoAt CLa CSt g3 H3 s n r t S' → StkAt CSk CEn CLe g3 H3 k s n t (some ms') →
        MStep n t ep sl S ms (ms.aftE ep) (ms.aftSl t sl) S' (settled (some ms')) → (tSeq (tDrop (tMeth CSk "settle" (spSettle CLa CSk CSt CEn CLe) [] C8.E0 (tVar 0) tNil)) (tRet (tC (.bl true)))) { nx := fun _ H' => Q .non H', rt := Q } [some (.ref k), some (.ref m), some (.int (t : Nat)), some (.ref a)] H3 :=
      fun g3 H3 S' ms' k3 ME3 SA3 KA3 st => by
        have ⟨dx3, ml3, res3, hk3, _⟩ := KA3
        refine ⟨_, rfl, _, _, _, rfl, hk3.1, rfl, g3, k, s, n, r, t, S', some ms', rfl, KA3, SA3, fun g4 H4 k4 KA4 => ?_⟩
        have kk : Ch (SZ t) g H g4 H4 := ((k1.mono fun c z => by unfold SZ; omega).trans k3).trans (k4.mono fun c z => by unfold SZ; omega)
        exact q1 ms rfl g4 H4 _ _ S' _ kk (ME3.keep k4 (by omega) (by omega)) (SA3.keep k4 (by omega) (by omega) (by omega)) KA4 st
    cases ms with
    | en st =>
      have ⟨dxa, haa⟩ := ha
      refine .inl ⟨_, rfl, _, _, _, rfl, haa.1, rfl, _, rfl, _, _, _, rfl, M.ins.1, rfl, _, rfl, _, rfl, _, _, _, rfl, haa.1, rfl, g1, a, t, st, rfl, ha, fun p hp => ?_⟩
      have etup : st.rq t = ((MS.en st).rq t).tup := etup
      rw [etup]
      have k2 : Ch (fun _ => False) g1 H1 (tg g1 p 0) (upd H1 p (.tup ((MS.en st).rq t).tup)) := Ch.new hp
      refine ⟨tg g1 p 0, m, p, n, r, vals, cnt, log, t, (MS.en st).rq t, rfl, MA.keep k2 (fun z => z) (fun z => z), At.new, hok, ht, hcnt, fun g3 H3 ra k3 MA3 hra => ?_⟩
      have ha3 := (MachAt.keep (ms := .en st) ha k2 (fun z => z) (fun z => z)).keep k3 (by omega) (by omega)
      rw [hres] at hra
      have hnd : ∀ e, st ≠ .dn e := fun e z => by rw [z] at hd; cases hd
      have hv' : (MS.en st).val ep sl = .int ep ∨ ∃ e, st = .wr e := by
        cases st with
        | rd => exact .inl rfl
        | wr e => exact .inr ⟨e, rfl⟩
        | ag e => exact .inl rfl
        | dn e => cases hd
      refine ⟨g3, a, ra, t, st, _, _, ep, rfl, ha3, hra.1, hv', hnd, fun H4 k4 ha4 => ?_⟩
      have kC : Ch (SZ t) g1 H1 g3 H4 := ((k2.mono fun c z => z.elim).trans (k3.mono fun c z => by unfold SZ; omega)).trans (k4.mono fun c z => by unfold SZ; omega)
      refine fin g3 H4 S (.en (st.acc ep)) kC ⟨_, MA3.keep k4 (by omega) (by omega), hv2⟩ (((SA1.keep k2 (fun z => z) (fun z => z) (fun z => z)).keep k3 (by omega) (by omega) (by omega)).keep k4 (by omega) (by omega) (by omega)) ?_ ⟨rfl, rfl, rfl, rfl⟩
      exact ⟨dx, ml, res, ((hk.keep k2 (fun z => z)).keep k3 (by omega)).keep k4 (by omega), a, ((hm.keep k2 (fun z => z)).keep k3 (by omega)).keep k4 (by omega), ha4⟩
    | le st =>
      have ⟨dxa, lo, epv, os, haa, _, _⟩ := ha
      refine .inr ⟨_, rfl, _, _, _, rfl, haa.1, rfl, _, rfl, _, _, _, rfl, M.ins.1, rfl, _, rfl, _, rfl, _, _, _, rfl, haa.1, rfl, g1, a, s, n, r, t, S, st, rfl, ha, SA1, fun p hp => ?_⟩
      have etup : st.rq t = ((MS.le st).rq t).tup := etup
      rw [etup]
      have k2 : Ch (fun _ => False) g1 H1 (tg g1 p 0) (upd H1 p (.tup ((MS.le st).rq t).tup)) := Ch.new hp
      refine ⟨tg g1 p 0, m, p, n, r, vals, cnt, log, t, (MS.le st).rq t, rfl, MA.keep k2 (fun z => z) (fun z => z), At.new, hok, ht, hcnt, fun g3 H3 ra k3 MA3 hra => ?_⟩
      have ha3 : LeaAt CLe g3 H3 a s n t st := (MachAt.keep (ms := .le st) ha k2 (fun z => z) (fun z => z)).keep k3 (by omega) (by omega)
      rw [hres] at hra
      have hv' : st.takes ((MS.le st).val ep sl) := by
        cases st with
        | stamp => exact ⟨ep, rfl⟩
        | slot => trivial
        | epoch => exact ⟨ep, rfl⟩
        | other e us =>
          show oV _ = .non ∨ ∃ x, oV _ = .int x
          cases sl.getD (us.headD 0) none with
          | none => exact .inl rfl
          | some x => exact .inr ⟨x, rfl⟩
        | move e => exact ⟨_, rfl⟩
        | dn => cases hd
      refine ⟨g3, a, ra, s, n, r, t, S, st, _, _, rfl, ha3, (SA1.keep k2 (fun z => z) (fun z => z) (fun z => z)).keep k3 (by omega) (by omega) (by omega), hs, hra.1, hv', fun g4 H4 S' st' k4 ha4 SA4 ac => ?_⟩
      have kC : Ch (SZ t) g1 H1 g4 H4 := ((k2.mono fun c z => z.elim).trans (k3.mono fun c z => by unfold SZ; omega)).trans (k4.mono fun c z => by unfold SZ; omega)
      refine fin g4 H4 S' (.le st') kC ⟨_, MA3.keep k4 (by omega) (by omega), hv2⟩ SA4 ?_ ⟨rfl, rfl, st', ac, rfl⟩
      exact ⟨dx, ml, res, ((hk.keep k2 (fun z => z)).keep k3 (by omega)).keep k4 (by omega), a, ((hm.keep k2 (fun z => z)).keep k3 (by omega)).keep k4 (by omega), ha4⟩
end

/-! ### the law's own helpers: the tape -/
theorem Ch.sql {K : PySem.W.Frag} {g g' : Tg} {H H' : Hp} {a : Addr} {xs : List V} (k : Ch (fun _ => False) g H g' H') (h : SqL K H a xs) : SqL K H' a xs := by
  have s : Same H H' := fun b o e => by
    obtain ⟨o1, q1, z1⟩ := k b o e
    rw [q1, (z1 fun z => z).2]
  exact s.seq h
theorem At.len_le {xs : List V} (h : xs.length ≤ 100000) : xs.length < sizeLine := by rw [sizeLine_eq]; omega
def spTape (K : PySem.W.Frag) : Sp := fun vs H Q _ => ∃ (g : Tg) (a : Addr) (ns : List Int), vs = [.ref a] ∧ SqL K H a (ns.map V.int) ∧ ns.length ≤ 63 ∧
  ∀ (g' : Tg) (H' : Hp) (p : Addr) (xs : List Int), Ch (fun _ => False) g H g' H' → At g' H' 0 p (.lst (xs.map V.int)) → xs.length ≤ 4000 → Q (.ref p) H'
def spAt (K : PySem.W.Frag) : Sp := fun vs H Q _ => ∃ (a : Addr) (ns : List Int) (k : Nat), vs = [.ref a, .int k] ∧ SqL K H a (ns.map V.int) ∧ Q (.int (ns.getD k 0)) H
section
variable {P : Program} {w : World} {K : PySem.W.Frag} {mg : Str → Option Value} {base : Heap} {CSk CSt CEn CLe CLa CMe : Addr}
theorem ok_at (D : FDef K mg "_law_at" (top 23) ["_law_tape_here", "_law_k"]) (T : Txt K mg CSk CSt CEn CLe CLa CMe) : Cal P w K mg base 1 "_law_at" (spAt K) [] := by
  refine D.ok (N := ["_law_tape_here", "_law_k"]) (by walk_at "sc") (by walk_at "len") fun f cdv A outer s0 H vs Q E hr h => ?_
  obtain ⟨a, ns, k, rfl, hl, q⟩ := h
  refine ⟨_, pss_cons (ps_if (pt_cmpR op_lt (pv 1) (pe_callB call_len_seq (by rfl) T.len PySem.boot_len (pa_cons (pv 0) pa_nil)) (nomark _)) (pss_one (ps_ret (pe_ix ix_list (pv 0) (pv 1) (fun _ _ => rfl)))) pss_nil) (pss_one (ps_ret pe_int)), ?_⟩
  refine ⟨_, rfl, _, rfl, _, _, rfl, .inl hl, _, _, rfl, rfl, _, rfl, ?_⟩
  by_cases hk : k < ns.length
  · have e : ns[k]? = some ns[k] := List.getElem?_eq_getElem hk
    refine dY (by rw [List.length_map]; omega) ⟨_, rfl, _, rfl, _, _, _, .int (ns.getD k 0), rfl, rfl, hl, atI_nat ?_, q⟩
    rw [List.getElem?_map, e, getD_of e]
    rfl
  · refine dN (by rw [List.length_map]; omega) ?_
    have e : ns.getD k 0 = 0 := by rw [List.getD_eq_getElem?_getD, List.getElem?_eq_none (by omega)]; rfl
    rw [e] at q
    exact q
theorem ok_tape (D : FDef K mg "_law_tape" (top 22) ["_law_script"]) (T : Txt K mg CSk CSt CEn CLe CLa CMe) : Cal P w K mg base 1 "_law_tape" (spTape K) [] := by
  refine D.ok (N := ["_law_script", "_law_tape_here", "_law_k", "_law_value", "_law_step"]) (by walk_at "sc") (by walk_at "len") fun f cdv A outer s0 H vs Q E hr h => ?_
  have nd : (["_law_script", "_law_tape_here", "_law_k", "_law_value", "_law_step"] : List Str).Nodup := by decide +kernel
  obtain ⟨g, a, ns, rfl, hl, hn, q⟩ := h
  refine ⟨_, pss_cons (ps_set (i := 1) nd rfl (Or.inl rfl) (pe_lst pa_nil))
    (pss_cons (ps_for PassesOwn.never rfl (pi_range1 rfl T.range (pa_cons (pe_callB call_len_seq (by rfl) T.len PySem.boot_len (pa_cons (pv 0) pa_nil)) pa_nil)) (pg_name (i := 2) nd rfl (Or.inl rfl))
      (pss_cons (ps_set (i := 3) nd rfl (Or.inl rfl) (pe_callB call_abs (by rfl) T.abs (by decide +kernel) (pa_cons (pe_callTy call_int1 (by rfl) T.int (by decide +kernel) (pa_cons (pe_ix ix_list (pv 0) (pv 2) (fun _ _ => rfl)) pa_nil)) pa_nil)))
      (pss_one (ps_if (pt_cmpR op_ge (pv 3) (pe_op op_pow pe_int pe_int) (nomark _))
        (pss_one (ps_for PassesOwn.never rfl (pi_range1 rfl T.range (pa_cons pe_int pa_nil)) (pg_name (i := 4) nd rfl (Or.inl rfl))
          (pss_one (ps_if (pt_cmpR op_gt (pv 3) pe_int (nomark _)) (pss_cons (ps_expr (pe_bm PySem.F.plainAttrs_list PySem.F.slot_list_append PySem.F.type_list_append mt_append (pv 1) (pa_cons (pe_op op_mod (pv 3) pe_int) pa_nil)))
            (pss_one (ps_set (i := 3) nd rfl (Or.inl rfl) (pe_op op_fdiv (pv 3) pe_int)))) pss_nil))))
        (pss_one (ps_for PassesOwn.never rfl (pi_range1 rfl T.range (pa_cons pe_int pa_nil)) (pg_name (i := 4) nd rfl (Or.inl rfl))
          (pss_cons (ps_set (i := 3) nd rfl (Or.inl rfl) (pe_op op_mod (pe_op op_add (pe_op op_add (pe_op op_mul (pv 3) pe_int) (pe_op op_mul pe_int (pe_op op_add (pv 2) pe_int))) (pe_op op_mul pe_int (pv 4))) pe_int))
          (pss_cons (ps_set (i := 3) nd rfl (Or.inl rfl) (pe_op op_mod (pe_op op_mul (pv 3) pe_int) pe_int))
          (pss_one (ps_expr (pe_bm PySem.F.plainAttrs_list PySem.F.slot_list_append PySem.F.type_list_append mt_append (pv 1) (pa_cons (pe_op op_mod (pe_op op_fdiv (pv 3) pe_int) pe_int) pa_nil))))))))))))
    (pss_one (ps_ret (pv 1)))), ?_⟩
  refine ⟨Nat.zero_le _, fun p hp => ?_⟩
  have k0 : Ch (fun _ => False) g H (tg g p 7) (upd H p (.lst [])) := Ch.new hp
  refine ⟨_, rfl, _, _, rfl, .inl (k0.sql hl), _, rfl, by omega, by rw [List.length_map]; omega, ?_⟩
  rw [List.length_map, show ((ns.length : Nat) : Int).toNat = ns.length from by omega]
  refine for_range (lo := 0) (n := ns.length) (fun i σ H' => ∃ (g' : Tg) (xs : List Int) (z1 z2 z3 : Option V), σ = [some (.ref a), some (.ref p), z1, z2, z3] ∧ Ch (fun _ => False) g H g' H' ∧ At g' H' 7 p (.lst (xs.map V.int)) ∧ xs.length ≤ 60 * i) ?_ ?_ ?_
  · exact ⟨_, [], none, none, none, rfl, k0, At.new, Nat.le_refl _⟩
  · rintro i σ H' hi ⟨g', xs, z1, z2, z3, rfl, k, hx, hlen⟩
    have hl' := k.sql hl
    have ei : ns[i]? = some ns[i] := List.getElem?_eq_getElem hi
    refine ⟨_, rfl, _, rfl, _, _, _, .int ns[i], rfl, rfl, hl', ?_, .inl ⟨_, rfl, _, rfl, ?_⟩⟩
    · rw [show (0 : Int) + (i : Nat) = (i : Nat) from Int.zero_add _]
      refine atI_nat ?_
      rw [List.getElem?_map, ei]
      rfl
    have hv0 : 0 ≤ (if ns[i] < 0 then -ns[i] else ns[i]) := by split <;> omega
    generalize (if ns[i] < 0 then -ns[i] else ns[i]) = v at hv0 ⊢
    refine ⟨_, rfl, _, _, rfl, rfl, ⟨by decide, by decide, by decide⟩, _, _, rfl, rfl, _, rfl, ?_⟩
    refine ite2 (fun hc => ?_) (fun hc => ?_)
    · refine ⟨_, rfl, by decide, by decide, ?_⟩
      refine for_range (lo := 0) (n := 60) (fun j σ H' => ∃ (g' : Tg) (xs : List Int) (v : Int) (z3 : Option V), σ = [some (.ref a), some (.ref p), some (.int (0 + (i : Int))), some (.int v), z3] ∧ Ch (fun _ => False) g H g' H' ∧ At g' H' 7 p (.lst (xs.map V.int)) ∧ xs.length ≤ 60 * i + j) ?_ ?_ ?_
      · exact ⟨g', xs, v, z3, rfl, k, hx, hlen⟩
      · rintro j σ H2 hj ⟨g2, xs2, v2, z4, rfl, k2, hx2, hlen2⟩
        refine ⟨_, rfl, _, _, rfl, rfl, _, rfl, ?_⟩
        refine ite2 (fun hc => ?_) (fun hc => ?_)
        · refine ⟨_, rfl, .inl ⟨rfl, _, SqL.of hx2.1⟩, _, rfl, _, _, rfl, rfl, (by show (0 : Int) < 1000; decide), _, _, _, rfl, rfl, hx2.1, At.len_le (by rw [List.length_map]; omega), ?_⟩
          refine ⟨_, rfl, _, _, rfl, rfl, ⟨by decide, by decide⟩, ?_⟩
          exact ⟨g2, xs2 ++ [v2 % 1000], _, _, rfl, k2.wrNew hp, by rw [List.map_append]; exact hx2.wr, by rw [List.length_append, List.length_singleton]; omega⟩
        · exact ⟨g2, xs2, v2, _, rfl, k2, hx2, by omega⟩
      · rintro σ H2 ⟨g2, xs2, v2, z4, rfl, k2, hx2, hlen2⟩
        exact ⟨g2, xs2, _, _, _, rfl, k2, hx2, by omega⟩
    · have hv1 : v < 10 ^ 18 := by
        have := hc
        have h2 : ¬ ((10 : Int) ^ (18 : Int).toNat ≤ v) := fun z => hc (decide_eq_true z)
        have e18 : (10 : Int) ^ (18 : Int).toNat = 10 ^ 18 := rfl
        rw [e18] at h2
        omega
      refine ⟨_, rfl, by decide, by decide, ?_⟩
      refine for_range (lo := 0) (n := 4) (fun j σ H' => ∃ (g' : Tg) (xs : List Int) (v : Int) (z3 : Option V), σ = [some (.ref a), some (.ref p), some (.int (0 + (i : Int))), some (.int v), z3] ∧ Ch (fun _ => False) g H g' H' ∧ At g' H' 7 p (.lst (xs.map V.int)) ∧ xs.length ≤ 60 * i + j ∧ 0 ≤ v ∧ v < 10 ^ 18) ?_ ?_ ?_
      · exact ⟨g', xs, v, z3, rfl, k, hx, hlen, hv0, hv1⟩
      · rintro j σ H2 hj ⟨g2, xs2, v2, z4, rfl, k2, hx2, hlen2, hv2, hv3⟩
        refine ⟨_, rfl, _, _, rfl, rfl, .inl ⟨by omega, by omega⟩, _, rfl, _, _, rfl, rfl, _, _, rfl, rfl, .inl ⟨by decide, by decide⟩, _, _, rfl, rfl, _, rfl, _, _, rfl, rfl, .inl ⟨by decide, by decide⟩, _, _, rfl, rfl, _, _, rfl, rfl, (by show (0 : Int) < 2147483647; decide), ?_⟩
        have m1 : 0 ≤ (v2 * 48271 + 69621 * (0 + (i : Int) + 1) + 7 * (0 + (j : Int))) % 2147483647 := Int.emod_nonneg _ (by decide)
        have m2 : (v2 * 48271 + 69621 * (0 + (i : Int) + 1) + 7 * (0 + (j : Int))) % 2147483647 < 2147483647 := Int.emod_lt_of_pos _ (by decide)
        refine ⟨_, rfl, _, _, rfl, rfl, .inl ⟨by omega, by omega⟩, _, _, rfl, rfl, (by show (0 : Int) < 2147483647; decide), ?_⟩
        have m3 : 0 ≤ (((v2 * 48271 + 69621 * (0 + (i : Int) + 1) + 7 * (0 + (j : Int))) % 2147483647) * 16807) % 2147483647 := Int.emod_nonneg _ (by decide)
        have m4 : (((v2 * 48271 + 69621 * (0 + (i : Int) + 1) + 7 * (0 + (j : Int))) % 2147483647) * 16807) % 2147483647 < 2147483647 := Int.emod_lt_of_pos _ (by decide)
        refine ⟨_, rfl, .inl ⟨rfl, _, SqL.of hx2.1⟩, _, rfl, _, _, rfl, rfl, ⟨by decide, by decide⟩, _, _, rfl, rfl, (by show (0 : Int) < 1000; decide), _, _, _, rfl, rfl, hx2.1, At.len_le (by rw [List.length_map]; omega), ?_⟩
        exact ⟨g2, xs2 ++ [(((v2 * 48271 + 69621 * (0 + (i : Int) + 1) + 7 * (0 + (j : Int))) % 2147483647) * 16807) % 2147483647 / 1000 % 1000], _, _, rfl, k2.wrNew hp, by rw [List.map_append]; exact hx2.wr, by rw [List.length_append, List.length_singleton]; omega, m3, by omega⟩
      · rintro σ H2 ⟨g2, xs2, v2, z4, rfl, k2, hx2, hlen2, _, _⟩
        exact ⟨g2, xs2, _, _, _, rfl, k2, hx2, by omega⟩
  · rintro σ H' ⟨g', xs, z1, z2, z3, rfl, k, hx, hlen⟩
    exact ⟨_, rfl, q (tg g' p 0) H' p xs (k.retag hp) ⟨hx.1, tg_same⟩ (by omega)⟩
end

/-! ### the law's calls and rows -/
abbrev Call := Nat × Nat
structure Row where
  c : Int
  A : List Call
  B : List Call
def callV (q : Call) : List V := [.int (q.1 : Nat), .int (q.2 : Nat)]
def callD (q : Call) : PyData := .tuple [.int (q.1 : Nat), .int (q.2 : Nat)]
structure CallRefs (g : Tg) (H : Hp) (refs : List Addr) (cs : List Call) : Prop where
  len : refs.length = cs.length
  row : ∀ (i : Nat) (r : Addr) (q : Call), refs[i]? = some r → cs[i]? = some q → At g H 0 r (.tup (callV q))
def CallsAt (c : Nat) (g : Tg) (H : Hp) (la : Addr) (cs : List Call) : Prop := ∃ refs, At g H c la (.lst (refs.map V.ref)) ∧ CallRefs g H refs cs
section
variable {g g' : Tg} {H H' : Hp} {refs : List Addr} {cs : List Call} {Z : Nat → Prop} {c : Nat} {la : Addr}
theorem CallRefs.keep (h : CallRefs g H refs cs) (k : Ch Z g H g' H') (n0 : ¬ Z 0) : CallRefs g' H' refs cs := ⟨h.len, fun i r p a b => (h.row i r p a b).keep k n0⟩
theorem CallRefs.nil : CallRefs g H [] [] := ⟨rfl, fun i r p a b => by simp at a⟩
theorem CallRefs.snoc (h : CallRefs g H refs cs) {r : Addr} {q : Call} (h1 : At g H 0 r (.tup (callV q))) : CallRefs g H (refs ++ [r]) (cs ++ [q]) := by
  refine ⟨by rw [List.length_append, List.length_append, h.len]; rfl, fun i r' p' a b => ?_⟩
  by_cases hi : i < refs.length
  · rw [List.getElem?_append_left hi] at a
    rw [List.getElem?_append_left (by rw [← h.len]; exact hi)] at b
    exact h.row i r' p' a b
  · rw [List.getElem?_append_right (by omega)] at a
    rw [List.getElem?_append_right (by rw [← h.len]; omega)] at b
    rw [← h.len] at b
    have hz : i - refs.length = 0 := by
      have := (List.getElem?_eq_some_iff.mp a).1
      simp at this
      omega
    rw [hz] at a b
    cases a
    cases b
    exact h1
theorem CallsAt.keep (h : CallsAt c g H la cs) (k : Ch Z g H g' H') (n0 : ¬ Z 0) (n : ¬ Z c) : CallsAt c g' H' la cs :=
  let ⟨refs, h1, h2⟩ := h; ⟨refs, h1.keep k n, h2.keep k n0⟩
theorem CallRefs.at_ (h : CallRefs g H refs cs) {i : Nat} {x : V} (e : (refs.map V.ref)[i]? = some x) : ∃ r q, x = .ref r ∧ refs[i]? = some r ∧ cs[i]? = some q ∧ At g H 0 r (.tup (callV q)) := by
  rw [List.getElem?_map] at e
  cases e1 : refs[i]? with
  | none => rw [e1] at e; cases e
  | some r =>
    rw [e1] at e
    have hil : i < cs.length := by rw [← h.len]; exact (List.getElem?_eq_some_iff.mp e1).1
    exact ⟨r, cs[i], (Option.some.inj e).symm, rfl, List.getElem?_eq_getElem hil, h.row i r _ e1 (List.getElem?_eq_getElem hil)⟩
theorem CallRefs.tail {r : Addr} {q : Call} (h : CallRefs g H (r :: refs) (q :: cs)) : CallRefs g H refs cs :=
  ⟨by have := h.len; simpa using this, fun i r' q' a b => h.row (i + 1) r' q' (by simpa using a) (by simpa using b)⟩
theorem call_dp {K : PySem.W.Frag} {r : Addr} {q : Call} (h : H r = some (.tup (callV q))) : Dp K H (.ref r) (callD q) := .tup (SqT.of h) (.cons (.int _) (.cons (.int _) .nil))
theorem CallRefs.dp {K : PySem.W.Frag} : ∀ {refs : List Addr} {cs : List Call}, CallRefs g H refs cs → DpAll K H (refs.map V.ref) (cs.map callD)
  | [], [], _ => .nil
  | [], _ :: _, h => by have := h.len; simp at this
  | _ :: _, [], h => by have := h.len; simp at this
  | r :: refs, q :: cs, h => .cons (call_dp (h.row 0 r q rfl rfl).1) (CallRefs.dp h.tail)
theorem CallsAt.dp {K : PySem.W.Frag} (h : CallsAt c g H la cs) : Dp K H (.ref la) (.list (cs.map callD)) :=
  let ⟨_, h1, h2⟩ := h; .lst (SqL.of h1.1) h2.dp
theorem callD_lay (q : Call) : (callD q).canLay0 = true := by simp [callD, PyData.canLay0, PyData.canLayAll0]
theorem callD_depth (q : Call) : (callD q).depth = 1 := by simp [callD, PyData.depth, PyData.depthAll]
theorem callDs_lay : ∀ cs : List Call, PyData.canLayAll0 (cs.map callD) = true
  | [] => by simp [PyData.canLayAll0]
  | q :: cs => by simp [PyData.canLayAll0, callD_lay q, callDs_lay cs]
theorem callDs_depth : ∀ cs : List Call, PyData.depthAll (cs.map callD) ≤ 1
  | [] => by simp [PyData.depthAll]
  | q :: cs => by
    have i1 := callDs_depth cs
    have i2 := callD_depth q
    simp only [List.map_cons, PyData.depthAll]
    omega
theorem callD_shaped (q : Call) : SeqAt.shaped (callD q) = true := by
  show (_ && _) = true
  rw [callD_lay q, callD_depth q]
  decide
theorem callDs_shaped (cs : List Call) : SeqAt.shaped (.list (cs.map callD)) = true := by
  have i1 := callDs_depth cs
  have i2 : PyData.depth (.list (cs.map callD)) ≤ 64 := by
    simp only [PyData.depth]
    omega
  show (PyData.canLay0 (.list (cs.map callD)) && decide (_ ≤ 64)) = true
  rw [Bool.and_eq_true]
  refine ⟨?_, decide_eq_true i2⟩
  simp only [PyData.canLay0]
  exact callDs_lay cs
theorem callD_eqv (a b : Call) : PyData.eqv (callD a) (callD b) = decide (a = b) := by
  obtain ⟨x, y⟩ := a
  obtain ⟨x', y'⟩ := b
  have e : PyData.eqv (callD (x, y)) (callD (x', y')) = (((x : Int) == (x' : Int)) && (((y : Int) == (y' : Int)) && true)) := by simp only [callD, PyData.eqv, PyData.eqvAll]
  rw [e]
  by_cases h1 : x = x'
  · by_cases h2 : y = y'
    · subst h1 h2
      simp
    · have z : ((y : Int) == (y' : Int)) = false := beq_eq_false_iff_ne.mpr (by omega)
      rw [z, decide_eq_false (fun w => h2 (by injection w))]
      simp
  · have z : ((x : Int) == (x' : Int)) = false := beq_eq_false_iff_ne.mpr (by omega)
    rw [z, decide_eq_false (fun w => h1 (by injection w))]
    rfl
theorem any_call (q : Call) : ∀ cs : List Call, ((cs.map callD).any fun z => PyData.eqv z (callD q)) = decide (q ∈ cs)
  | [] => by simp
  | a :: cs => by
    rw [List.map_cons, List.any_cons, any_call q cs, callD_eqv]
    by_cases h : a = q
    · have hm : q ∈ a :: cs := by
        rw [h]
        exact List.mem_cons_self
      rw [decide_eq_true h, decide_eq_true hm]
      rfl
    · rw [decide_eq_false h, Bool.false_or]
      by_cases h2 : q ∈ cs
      · rw [decide_eq_true h2, decide_eq_true (List.mem_cons_of_mem _ h2)]
      · rw [decide_eq_false h2, decide_eq_false]
        intro w
        rcases List.mem_cons.mp w with w | w
        · exact h w.symm
        · exact h2 w
end
section
variable {X : Cx} {K : PySem.W.Frag}
theorem hu65 {A : Around} {k : Nat} (hr : Room k A) : A.units + 65 < cLine := by have := hr.un; omega
/-- a call in a list of calls -/
def rInC (neg : Bool) : R2 := fun x y H Q => ∃ (g : Tg) (r la : Addr) (c : Nat) (q : Call) (cs : List Call), x = .ref r ∧ y = .ref la ∧ At g H 0 r (.tup (callV q)) ∧ CallsAt c g H la cs ∧ Q (.bl (if neg then !decide (q ∈ cs) else decide (q ∈ cs))) H
theorem op_inC (hu : X.A.units + 65 < cLine) : OpR X (compareOp .In) (rInC false) := by
  intro pins s σ H x y v u Q I rx ry ⟨g, r, la, c, q, cs, ex, ey, h1, h2, hq⟩
  subst ex ey
  refine op_inD hu pins s σ H _ _ v u Q I rx ry ⟨callD q, cs.map callD, call_dp h1.1, h2.dp, callD_shaped q, callDs_shaped cs, ?_⟩
  rw [any_call]
  exact hq
theorem op_notInC (hu : X.A.units + 65 < cLine) : OpR X (compareOp .NotIn) (rInC true) := by
  intro pins s σ H x y v u Q I rx ry ⟨g, r, la, c, q, cs, ex, ey, h1, h2, hq⟩
  subst ex ey
  refine op_notInD hu pins s σ H _ _ v u Q I rx ry ⟨callD q, cs.map callD, call_dp h1.1, h2.dp, callD_shaped q, callDs_shaped cs, ?_⟩
  rw [any_call]
  exact hq
end
/-! ### rows. tag of the third lists: 40 + t -/
structure RowsOk (g : Tg) (H : Hp) (lr t : Nat) (rrefs lBs : List Addr) (rows : List Row) : Prop where
  lst : At g H 0 lr (.lst (rrefs.map V.ref))
  l1 : rrefs.length = rows.length
  l2 : lBs.length = rows.length
  nd : lBs.Nodup
  row : ∀ (i : Nat) (r b : Addr) (row : Row), rrefs[i]? = some r → lBs[i]? = some b → rows[i]? = some row → ∃ lA, At g H 0 r (.lst [.int row.c, .ref lA, .ref b]) ∧ CallsAt 0 g H lA row.A ∧ CallsAt (40 + t) g H b row.B
def RowsAt (g : Tg) (H : Hp) (lr : Addr) (t : Nat) (rows : List Row) : Prop := ∃ rrefs lBs, RowsOk g H lr t rrefs lBs rows
section
variable {g g' : Tg} {H H' : Hp} {lr : Addr} {t : Nat} {rrefs lBs : List Addr} {rows : List Row} {Z : Nat → Prop}
theorem RowsOk.keep (h : RowsOk g H lr t rrefs lBs rows) (k : Ch Z g H g' H') (n0 : ¬ Z 0) (n : ¬ Z (40 + t)) : RowsOk g' H' lr t rrefs lBs rows :=
  ⟨h.lst.keep k n0, h.l1, h.l2, h.nd, fun i r b row e1 e2 e3 => let ⟨lA, a1, a2, a3⟩ := h.row i r b row e1 e2 e3; ⟨lA, a1.keep k n0, a2.keep k n0 n0, a3.keep k n0 n⟩⟩
theorem RowsAt.keep (h : RowsAt g H lr t rows) (k : Ch Z g H g' H') (n0 : ¬ Z 0) (n : ¬ Z (40 + t)) : RowsAt g' H' lr t rows :=
  let ⟨a, b, h⟩ := h; ⟨a, b, h.keep k n0 n⟩
theorem RowsOk.at_ (h : RowsOk g H lr t rrefs lBs rows) {i : Nat} {row : Row} (e : rows[i]? = some row) : ∃ r b lA, rrefs[i]? = some r ∧ lBs[i]? = some b ∧ At g H 0 r (.lst [.int row.c, .ref lA, .ref b]) ∧ CallsAt 0 g H lA row.A ∧ CallsAt (40 + t) g H b row.B := by
  have hi : i < rows.length := (List.getElem?_eq_some_iff.mp e).1
  have i1 : i < rrefs.length := by rw [h.l1]; exact hi
  have i2 : i < lBs.length := by rw [h.l2]; exact hi
  have e1 : rrefs[i]? = some rrefs[i] := List.getElem?_eq_getElem i1
  have e2 : lBs[i]? = some lBs[i] := List.getElem?_eq_getElem i2
  obtain ⟨lA, a1, a2, a3⟩ := h.row i _ _ row e1 e2 e
  exact ⟨_, _, lA, e1, e2, a1, a2, a3⟩
/-- one more call in a row's third list -/
theorem RowsOk.app (h : RowsOk g H lr t rrefs lBs rows) {i : Nat} {row : Row} {b rq : Addr} {q : Call} {refs : List Addr} (e : rows[i]? = some row) (eb : lBs[i]? = some b) (hb : At g H (40 + t) b (.lst (refs.map V.ref))) (hc : CallRefs g H refs row.B) (hq : At g H 0 rq (.tup (callV q))) :
    RowsOk g (upd H b (.lst (refs.map V.ref ++ [.ref rq]))) lr t rrefs lBs (rows.set i { row with B := row.B ++ [q] }) ∧ Ch (fun c => c = 40 + t) g H g (upd H b (.lst (refs.map V.ref ++ [.ref rq]))) := by
  have k : Ch (fun c => c = 40 + t) g H g (upd H b (.lst (refs.map V.ref ++ [.ref rq]))) := Ch.wr hb rfl
  refine ⟨⟨h.lst.keep k (by omega), by rw [List.length_set]; exact h.l1, by rw [List.length_set]; exact h.l2, h.nd, fun j r b' row' e1 e2 e3 => ?_⟩, k⟩
  by_cases hj : i = j
  · subst hj
    have hi : i < rows.length := (List.getElem?_eq_some_iff.mp e).1
    rw [List.getElem?_set_self hi] at e3
    rw [eb] at e2
    cases e2
    cases e3
    obtain ⟨lA, a1, a2, a3⟩ := h.row i r b row e1 eb e
    refine ⟨lA, a1.keep k (by omega), a2.keep k (by omega) (by omega), refs ++ [rq], ?_, (hc.keep k (by omega)).snoc (hq.keep k (by omega))⟩
    rw [List.map_append]
    exact hb.wr
  · rw [List.getElem?_set_ne hj] at e3
    obtain ⟨lA, a1, a2, ⟨rf, a3, a4⟩⟩ := h.row j r b' row' e1 e2 e3
    have nb : b' ≠ b := fun z => hj (nd_ix h.nd eb (by rw [e2, z]))
    exact ⟨lA, a1.keep k (by omega), a2.keep k (by omega) (by omega), rf, a3.upd nb, a4.keep k (by omega)⟩
end
def addC (b : List Call) (c : Call) : List Call := if c ∈ b then b else b ++ [c]
def knownRow (act : List Call) (row : Row) : Row := if 0 < (row.A.filter fun c => decide (c ∈ act)).length then { row with B := act.foldl addC row.B } else row
theorem addC_in {b : List Call} {c : Call} (h : c ∈ b) : addC b c = b := if_pos h
theorem addC_out {b : List Call} {c : Call} (h : ¬ c ∈ b) : addC b c = b ++ [c] := if_neg h
theorem addC_len (b : List Call) (c : Call) : (addC b c).length ≤ b.length + 1 := by
  unfold addC
  split
  · omega
  · rw [List.length_append]
    exact Nat.le_refl _
theorem foldC_len : ∀ (cs b : List Call), (cs.foldl addC b).length ≤ b.length + cs.length
  | [], b => Nat.le_refl _
  | c :: cs, b => by
    have h1 := foldC_len cs (addC b c)
    have h2 := addC_len b c
    rw [List.foldl_cons, List.length_cons]
    omega
theorem foldC_snoc {cs : List Call} {i : Nat} {c : Call} (h : cs[i]? = some c) (b : List Call) : (cs.take (i + 1)).foldl addC b = addC ((cs.take i).foldl addC b) c := by
  rw [take_snoc h, List.foldl_append]
  rfl
def spKnown : Sp := fun vs H Q _ => ∃ (g : Tg) (lr la : Addr) (t : Nat) (rows : List Row) (act : List Call), vs = [.ref lr, .ref la] ∧ RowsAt g H lr t rows ∧ CallsAt 0 g H la act ∧ act.length ≤ 1000 ∧ (∀ row ∈ rows, row.A.length ≤ 1000 ∧ row.B.length ≤ 10000) ∧
  ∀ (g' : Tg) (H' : Hp), Ch (fun c => c = 40 + t) g H g' H' → RowsAt g' H' lr t (rows.map (knownRow act)) → Q .non H'
section
variable {P : Program} {w : World} {K : PySem.W.Frag} {mg : Str → Option Value} {base : Heap} {CSk CSt CEn CLe CLa CMe : Addr}
theorem ok_known (D : FDef K mg "_law_known" (top 24) ["_law_rows", "_law_active"]) (T : Txt K mg CSk CSt CEn CLe CLa CMe) : Cal P w K mg base 1 "_law_known" spKnown [] := by
  refine D.ok (N := ["_law_rows", "_law_active", "_law_row", "_law_call", "_law_near"]) (by walk_at "sc") (by walk_at "len") fun f cdv A outer s0 H vs Q E hr h => ?_
  have nd : (["_law_rows", "_law_active", "_law_row", "_law_call", "_law_near"] : List Str).Nodup := by decide +kernel
  have hu := hu65 hr
  obtain ⟨g, lr, la, t, rows, act, rfl, ⟨rrefs, lBs, RO⟩, hact, hal, hrl, q⟩ := h
  refine ⟨_, pss_one (ps_for PassesOwn.never rfl (pi_list (pv 0)) (pg_name (i := 2) nd rfl (Or.inl rfl))
    (pss_cons (ps_setLc (i := 4) (own := [("_law_call", 3)]) (g := gName 3) rfl nd rfl rfl (sw_true rfl rfl rfl (by decide +kernel)) (pi_list (pe_ix ix_list (pv 2) pe_int (fun _ _ => rfl)))
        (blkOk_by (N := ["_law_rows", "_law_active", "_law_row", "_law_call", "_law_near"]) (sc := fnScope (top 24)) (by decide +kernel)) (fun _ _ _ _ _ => pg_name (i := 3) nd rfl (Or.inl rfl))
        (fun _ _ _ _ _ => pts_one (pt_cmpR (op_inC hu) (pv 3) (pv 1) rfl)) (fun _ _ _ _ _ => pv 3))
    (pss_one (ps_if (pt_cmpR op_gt (pe_callB call_len_seq (by rfl) T.len PySem.boot_len (pa_cons (pv 4) pa_nil)) pe_int (nomark _))
      (pss_one (ps_for PassesOwn.never rfl (pi_list (pv 1)) (pg_name (i := 3) nd rfl (Or.inl rfl))
        (pss_one (ps_if (pt_cmpR (op_notInC hu) (pv 3) (pe_ix ix_list (pv 2) pe_int (fun _ _ => rfl)) rfl)
          (pss_one (ps_expr (pe_bm PySem.F.plainAttrs_list PySem.F.slot_list_append PySem.F.type_list_append mt_append (pe_ix ix_list (pv 2) pe_int (fun _ _ => rfl)) (pa_cons (pv 3) pa_nil)))) pss_nil)))) pss_nil)))), ?_⟩
  refine ⟨_, rfl, _, rfl, ⟨_, SqL.of RO.lst.1⟩, ?_⟩
  refine for_list (K := K) (a := lr) (xs := rrefs.map V.ref) (fun i σ H' => ∃ (g' : Tg) (rs : List Row) (z1 z2 z3 : Option V), σ = [some (.ref lr), some (.ref la), z1, z2, z3] ∧ Ch (fun c => c = 40 + t) g H g' H' ∧ RowsOk g' H' lr t rrefs lBs rs ∧
    (∀ j row, rows[j]? = some row → rs[j]? = some (if j < i then knownRow act row else row))) ?_ ?_ ?_ ?_
  · exact ⟨g, rows, none, none, none, rfl, Ch.refl, RO, fun j row e => by rw [if_neg (Nat.not_lt_zero _)]; exact e⟩
  · rintro i σ H' hi ⟨g', rs, z1, z2, z3, rfl, k, RO', _⟩
    exact SqL.of RO'.lst.1
  · rintro i x σ H' hi ⟨g', rs, z1, z2, z3, rfl, k, RO', hrs⟩
    have hil : i < rows.length := by
      have := (List.getElem?_eq_some_iff.mp hi).1
      rw [List.length_map, RO.l1] at this
      exact this
    have e0 : rows[i]? = some rows[i] := List.getElem?_eq_getElem hil
    have e1 := hrs i _ e0
    rw [if_neg (Nat.lt_irrefl _)] at e1
    obtain ⟨hA, hB⟩ := hrl _ (List.getElem_mem hil)
    generalize rows[i] = row at e0 e1 hA hB
    obtain ⟨r, b, lA, er, eb, hr', hcA, hcB⟩ := RO'.at_ e1
    obtain rfl : x = .ref r := by
      rw [List.getElem?_map, er] at hi
      exact (Option.some.inj hi).symm
    have ⟨rA, hA1, hA2⟩ := hcA
    refine ⟨_, rfl, _, _, _, _, rfl, rfl, SqL.of hr'.1, atI_nat (j := 1) rfl, _, rfl, ⟨_, SqL.of hA1.1⟩, fun p hp => ?_⟩
    refine lc_list (K := K) (a := lA) (xs := rA.map V.ref) (fun j H2 => ∃ (g2 : Tg) (acc : List V), Ch (fun _ => False) g' H' g2 H2 ∧ At g2 H2 7 p (.lst acc) ∧ acc.length = ((row.A.take j).filter fun c => decide (c ∈ act)).length) ?_ ?_ ?_ ?_
    · exact ⟨tg g' p 7, [], Ch.new hp, At.new, rfl⟩
    · rintro j H2 hj ⟨g2, acc, k2, _⟩
      exact SqL.of (hA1.keep k2 (fun z => z)).1
    · rintro j y H2 hj ⟨g2, acc, k2, hacc, hlen⟩
      obtain ⟨rc, qc, rfl, _, ec, hc⟩ := (hA2.keep k2 (fun z => z)).at_ hj
      have hact2 := (hact.keep k (by omega) (by omega)).keep k2 (fun z => z) (fun z => z)
      refine ⟨rfl, ?_⟩
      refine ⟨_, rfl, _, rfl, g2, rc, la, 0, qc, act, rfl, rfl, hc, hact2, _, rfl, ?_⟩
      by_cases hin : qc ∈ act
      · refine dY hin ⟨_, rfl, acc, hacc.1, ?_, g2, acc ++ [.ref rc], k2.wrNew hp, hacc.wr, ?_⟩
        · refine At.len_le ?_
          rw [hlen]
          have : ((row.A.take j).filter fun c => decide (c ∈ act)).length ≤ row.A.length := (List.filter_sublist.trans (List.take_sublist _ _)).length_le
          omega
        · rw [take_snoc ec, List.filter_append, List.length_append, List.length_append, hlen]
          simp [hin]
      · refine dN hin ⟨g2, acc, k2, hacc, ?_⟩
        rw [take_snoc ec, List.filter_append, List.length_append, hlen]
        simp [hin]
    rintro H2 ⟨g2, acc, k2, hacc, hlen⟩
    have elA : row.A.take (rA.map V.ref).length = row.A := List.take_of_length_le (by rw [List.length_map, hA2.len]; exact Nat.le_refl _)
    rw [elA] at hlen
    refine ⟨_, rfl, _, _, rfl, .inl (SqL.of hacc.1), _, _, rfl, rfl, _, rfl, ?_⟩
    have RO2 := RO'.keep k2 (fun z => z) (fun z => z)
    have kk := k.trans (k2.mono (S' := fun c => c = 40 + t) fun _ z => z.elim)
    have hset : ∀ (rs2 : List Row), (∀ j row', rows[j]? = some row' → j ≠ i → rs2[j]? = rs[j]?) → rs2[i]? = some (knownRow act row) → ∀ j row', rows[j]? = some row' → rs2[j]? = some (if j < i + 1 then knownRow act row' else row') := fun rs2 h1 h2 j row' ej => by
      by_cases hj : j = i
      · subst hj
        rw [e0] at ej
        cases ej
        rw [if_pos (Nat.lt_succ_self _)]
        exact h2
      · rw [h1 j row' ej hj, hrs j row' ej]
        by_cases hlt : j < i
        · rw [if_pos hlt, if_pos (by omega)]
        · rw [if_neg hlt, if_neg (by omega)]
    refine ite2 (fun hc => ?_) (fun hc => ?_)
    · have hc : (0 : Int) < (acc.length : Nat) := of_decide_eq_true hc
      have hpos : 0 < (row.A.filter fun c => decide (c ∈ act)).length := by rw [← hlen]; omega
      have ek : knownRow act row = { row with B := act.foldl addC row.B } := if_pos hpos
      have ⟨ra, ha1, ha2⟩ := hact
      have ha1' := (ha1.keep k (by omega)).keep k2 (fun z => z)
      refine ⟨_, rfl, _, rfl, ⟨_, SqL.of ha1'.1⟩, ?_⟩
      refine for_list (K := K) (a := la) (xs := ra.map V.ref) (fun j σ H3 => ∃ (g3 : Tg) (rs2 : List Row) (z : Option V), σ = [some (.ref lr), some (.ref la), some (.ref r), z, some (.ref p)] ∧ Ch (fun c => c = 40 + t) g H g3 H3 ∧ RowsOk g3 H3 lr t rrefs lBs rs2 ∧
        (∀ j' row', rows[j']? = some row' → j' ≠ i → rs2[j']? = rs[j']?) ∧ rs2[i]? = some { row with B := (act.take j).foldl addC row.B }) ?_ ?_ ?_ ?_
      · exact ⟨g2, rs, _, rfl, kk, RO2, fun _ _ _ _ => rfl, e1⟩
      · rintro j σ H3 hj ⟨g3, rs2, z, rfl, k3, _⟩
        exact SqL.of (ha1.keep k3 (by omega)).1
      · rintro j y σ H3 hj ⟨g3, rs2, z, rfl, k3, RO3, h1, h2⟩
        obtain ⟨rc, qc, rfl, _, ec, hcq⟩ := (ha2.keep k3 (by omega)).at_ hj
        obtain ⟨r3, b3, lA3, er3, eb3, hr3, hcA3, hcB3⟩ := RO3.at_ h2
        obtain rfl : r3 = r := Option.some.inj (er3.symm.trans er)
        have ⟨rB, hB1, hB2⟩ := hcB3
        refine ⟨_, rfl, _, rfl, _, _, _, _, rfl, rfl, SqL.of hr3.1, atI_nat (j := 2) rfl, g3, rc, b3, 40 + t, qc, _, rfl, rfl, hcq, hcB3, _, rfl, ?_⟩
        by_cases hin : qc ∈ (act.take j).foldl addC row.B
        · refine nN hin ⟨g3, rs2, _, rfl, k3, RO3, h1, ?_⟩
          rw [foldC_snoc ec, addC_in hin]
          exact h2
        · refine nY hin ⟨_, rfl, _, _, _, _, rfl, rfl, SqL.of hr3.1, atI_nat (j := 2) rfl, .inl ⟨rfl, _, SqL.of hB1.1⟩, _, rfl, _, _, _, rfl, rfl, hB1.1, ?_, ?_⟩
          · refine At.len_le ?_
            rw [List.length_map, hB2.len]
            have q1 := foldC_len (act.take j) row.B
            have q2 : (act.take j).length ≤ act.length := (List.take_sublist _ _).length_le
            show ((act.take j).foldl addC row.B).length ≤ 100000
            omega
          · obtain ⟨RO4, k4⟩ := RO3.app h2 eb3 hB1 hB2 hcq
            refine ⟨g3, _, _, rfl, k3.trans k4, RO4, fun j' row' ej hne => ?_, ?_⟩
            · rw [List.getElem?_set_ne (Ne.symm hne)]
              exact h1 j' row' ej hne
            · have hlt : i < rs2.length := (List.getElem?_eq_some_iff.mp h2).1
              rw [List.getElem?_set_self hlt, foldC_snoc ec, addC_out hin]
      · rintro σ H3 ⟨g3, rs2, z, rfl, k3, RO3, h1, h2⟩
        have ela : act.take (ra.map V.ref).length = act := List.take_of_length_le (by rw [List.length_map, ha2.len]; exact Nat.le_refl _)
        rw [ela] at h2
        exact ⟨g3, rs2, _, _, _, rfl, k3, RO3, hset rs2 h1 (by rw [ek]; exact h2)⟩
    · have hc : ¬ (0 : Int) < (acc.length : Nat) := fun z => hc (decide_eq_true z)
      have hpos : ¬ 0 < (row.A.filter fun c => decide (c ∈ act)).length := by rw [← hlen]; omega
      have ek : knownRow act row = row := if_neg hpos
      exact ⟨g2, rs, _, _, _, rfl, kk, RO2, hset rs (fun _ _ _ _ => rfl) (by rw [ek]; exact e1)⟩
  · rintro σ H' ⟨g', rs, z1, z2, z3, rfl, k, RO', hrs⟩
    have ers : rs = rows.map (knownRow act) := by
      refine List.ext_getElem? fun j => ?_
      rw [List.getElem?_map]
      by_cases hj : j < rows.length
      · have ej : rows[j]? = some rows[j] := List.getElem?_eq_getElem hj
        rw [hrs j _ ej, ej, if_pos (by rw [List.length_map, RO.l1]; exact hj)]
        rfl
      · rw [List.getElem?_eq_none (by rw [← RO'.l1, RO.l1]; omega), List.getElem?_eq_none (by omega)]
        rfl
    rw [ers] at RO'
    exact q g' H' k ⟨_, _, RO'⟩
end

/-! ### the law's looks -/
theorem inV_int (c : Int) : ∀ xs : List Int, inV (.int c) (xs.map V.int) = decide (c ∈ xs)
  | [] => by simp [inV]
  | a :: xs => by
    have ih := inV_int c xs
    unfold inV at ih ⊢
    rw [List.map_cons, List.any_cons, ih]
    have e : eqV (.int a) (.int c) = decide (a = c) := by
      show (a == c) = _
      exact Bool.beq_eq_decide_eq _ _
    rw [e]
    by_cases h : a = c
    · have hm : c ∈ a :: xs := by
        rw [h]
        exact List.mem_cons_self
      rw [decide_eq_true h, decide_eq_true hm]
      rfl
    · rw [decide_eq_false h, Bool.false_or]
      by_cases h2 : c ∈ xs
      · rw [decide_eq_true h2, decide_eq_true (List.mem_cons_of_mem _ h2)]
      · rw [decide_eq_false h2, decide_eq_false]
        intro w
        rcases List.mem_cons.mp w with w | w
        · exact h w.symm
        · exact h2 w
theorem flat_ints : ∀ xs : List Int, (xs.map V.int).all flatV = true
  | [] => rfl
  | a :: xs => by rw [List.map_cons, List.all_cons, flat_ints xs]; rfl
theorem ints_dp {K : PySem.W.Frag} {H : Hp} : ∀ xs : List Int, DpAll K H (xs.map V.int) (xs.map PyData.int)
  | [] => .nil
  | a :: xs => .cons (.int a) (ints_dp xs)
theorem intsD_lay : ∀ xs : List Int, PyData.canLayAll0 (xs.map PyData.int) = true
  | [] => by simp [PyData.canLayAll0]
  | q :: cs => by simp [PyData.canLayAll0, PyData.canLay0, intsD_lay cs]
theorem intsD_depth : ∀ xs : List Int, PyData.depthAll (xs.map PyData.int) ≤ 1
  | [] => by simp [PyData.depthAll]
  | q :: cs => by
    have i1 := intsD_depth cs
    simp only [List.map_cons, PyData.depthAll, PyData.depth]
    omega
theorem intsD_shaped (xs : List Int) : SeqAt.shaped (.list (xs.map PyData.int)) = true := by
  have i1 := intsD_depth xs
  have i2 : PyData.depth (.list (xs.map PyData.int)) ≤ 64 := by
    simp only [PyData.depth]
    omega
  show (PyData.canLay0 (.list (xs.map PyData.int)) && decide (_ ≤ 64)) = true
  rw [Bool.and_eq_true]
  refine ⟨?_, decide_eq_true i2⟩
  simp only [PyData.canLay0]
  exact intsD_lay xs
theorem intsD_eqv : ∀ xs : List Int, PyData.eqvAll (xs.map PyData.int) (xs.map PyData.int) = true
  | [] => by simp [PyData.eqvAll]
  | a :: xs => by simp [PyData.eqvAll, PyData.eqv, intsD_eqv xs]
theorem rows_of {K : PySem.W.Frag} {g : Tg} {H : Hp} {refs : List Addr} {rows : List (List Int)} {i : Nat} {x : V} (h : WaitAt g H refs rows) (e : (refs.map V.ref)[i]? = some x) : ∃ r cs y lc, x = .ref r ∧ rows[i]? = some cs ∧ At g H 0 r (.tup [y, .ref lc]) ∧ At g H 0 lc (.lst (cs.map V.int)) := by
  rw [List.getElem?_map] at e
  cases e1 : refs[i]? with
  | none => rw [e1] at e; cases e
  | some r =>
    rw [e1] at e
    have hil : i < rows.length := by rw [← h.len]; exact (List.getElem?_eq_some_iff.mp e1).1
    obtain ⟨y, lc, a1, a2⟩ := h.row i r rows[i] e1 (List.getElem?_eq_getElem hil)
    exact ⟨r, rows[i], y, lc, (Option.some.inj e).symm, List.getElem?_eq_getElem hil, a1, a2⟩
def heldOk (S : SS) (rows : List Row) (act : List Call) : Prop := ∀ row ∈ rows, row.c ∈ S.spare → ∀ q ∈ act, q ∉ row.A ∧ q ∉ row.B
def spHeld (CLa CSt : Addr) : Sp := fun vs H Q _ => ∃ (g : Tg) (s lr la : Addr) (T R t : Nat) (S : SS) (rows : List Row) (act : List Call), vs = [.ref s, .ref lr, .ref la] ∧ StoAt CLa CSt g H s T R t S ∧ RowsAt g H lr t rows ∧ CallsAt 0 g H la act ∧ heldOk S rows act ∧
  ∀ (g' : Tg) (H' : Hp), Ch (fun _ => False) g H g' H' → Q (.bl true) H'
def spWhole (CLa CSt : Addr) : Sp := fun vs H Q _ => ∃ (g : Tg) (s lf : Addr) (T R t : Nat) (S : SS) (fs : List Int), vs = [.ref s, .ref lf] ∧ StoAt CLa CSt g H s T R t S ∧ At g H 0 lf (.lst (fs.map V.int)) ∧ S.del.length ≤ 10000 ∧ fs.length ≤ 1000 ∧ (S.spare ++ (waitRows S).flatten).Perm fs ∧ fs.Pairwise (· ≤ ·) ∧
  ∀ (g' : Tg) (H' : Hp), Ch (fun _ => False) g H g' H' → Q (.bl true) H'
def spSlots (CLa CMe : Addr) : Sp := fun vs H Q _ => ∃ (g : Tg) (m la ls : Addr) (T R : Nat) (E : Int) (sl sh : List (Option Int)) (cnt : Nat) (log : Option Str) (act : List Call), vs = [.ref m, .ref la, .ref ls] ∧ MemE CLa CMe g H m T R E sl cnt log ∧ CallsAt 0 g H la act ∧
  H ls = some (.lst (sh.map oV)) ∧ (∀ q ∈ act, ∃ v, sl[q.1]? = some (some v) ∧ sh[q.1]? = some (some v) ∧ v ≤ E ∧ E ≤ v + 1) ∧ Q (.bl true) H
def firstOf (T R t : Nat) : List Int := (((List.range (R - 3)).map fun (k : Nat) => (1 + 2 * (T : Int) + 3 + (3 + (k : Int)))).filter fun c => decide ((c - (1 + 2 * (T : Int) + 3 + 0)) % (T : Int) = (t : Int)))
def spDivided (CLa : Addr) : Sp := fun vs H Q _ => ∃ (g : Tg) (lay lc : Addr) (T R t : Nat) (cells : List Int), vs = [.ref lay, .ref lc, .int t] ∧ LayAt CLa g H lay (T : Nat) (R : Nat) ∧ At g H 0 lc (.lst (cells.map V.int)) ∧ 1 ≤ T ∧ cells.length ≤ 1000 ∧
  ∀ (g' : Tg) (H' : Hp) (p : Addr) (sp : List Int), Ch (fun _ => False) g H g' H' → At g' H' 0 p (.lst (sp.map V.int)) → sp.Perm (cells.filter fun c => decide ((c - (1 + 2 * (T : Int) + 3 + 0)) % (T : Int) = (t : Int))) → Q (.ref p) H'
def spStore (CLa CSt : Addr) : Sp := fun vs H Q _ => ∃ (g : Tg) (lay : Addr) (T R t : Nat), vs = [.ref lay, .int t] ∧ LayAt CLa g H lay (T : Nat) (R : Nat) ∧ 1 ≤ T ∧ T ≤ 3 ∧ 3 ≤ R ∧ R ≤ 200 ∧
  ∀ (g' : Tg) (H' : Hp) (s : Addr) (sp : List Int), Ch (fun c => c = 10 + t) g H g' H' → StoAt CLa CSt g' H' s T R t ⟨sp, [], []⟩ → sp.Perm (firstOf T R t) → sp.Pairwise (· ≤ ·) → Q (.ref s) H'
section
variable {P : Program} {w : World} {K : PySem.W.Frag} {mg : Str → Option Value} {base : Heap} {CSk CSt CEn CLe CLa CMe : Addr}
theorem ok_held (D : FDef K mg "_law_held" (top 25) ["_law_store_here", "_law_rows", "_law_active"]) (T : Txt K mg CSk CSt CEn CLe CLa CMe) (GF : Met P w K mg base 1 CSt "free_cells" (spFree CLa CSt) []) : Cal P w K mg base 2 "_law_held" (spHeld CLa CSt) [] := by
  refine D.ok (N := ["_law_store_here", "_law_rows", "_law_active", "_law_free", "_law_row", "_law_call"]) (by walk_at "sc") (by walk_at "len") fun f cdv A outer s0 H vs Q E hr h => ?_
  have nd : (["_law_store_here", "_law_rows", "_law_active", "_law_free", "_law_row", "_law_call"] : List Str).Nodup := by decide +kernel
  have hu := hu65 hr
  obtain ⟨g, s, lr, la, n, r, t, S, rows, act, rfl, SA, ⟨rrefs, lBs, RO⟩, hact, hok, q⟩ := h
  refine ⟨_, pss_cons (ps_set (i := 3) nd rfl (Or.inl rfl) (pe_mt0 GF hr (by decide) (pv 0)))
    (pss_cons (ps_for PassesOwn.never rfl (pi_list (pv 1)) (pg_name (i := 4) nd rfl (Or.inl rfl))
      (pss_one (ps_if (pt_cmpR op_in_seq (pe_ix ix_list (pv 4) pe_int (fun _ _ => rfl)) (pv 3) rfl)
        (pss_one (ps_for PassesOwn.never rfl (pi_list (pv 2)) (pg_name (i := 5) nd rfl (Or.inl rfl))
          (pss_one (ps_if (PW.pt (pw_or (pt_cmpR (op_inC hu) (pv 5) (pe_ix ix_list (pv 4) pe_int (fun _ _ => rfl)) rfl) (pw_or1 (pt_cmpR (op_inC hu) (pv 5) (pe_ix ix_list (pv 4) pe_int (fun _ _ => rfl)) rfl)))) (pss_one (ps_ret pe_bl)) pss_nil)))) pss_nil)))
    (pss_one (ps_ret pe_bl))), ?_⟩
  have ⟨d, M⟩ := SA
  refine ⟨_, rfl, _, _, _, rfl, M.ins.1, rfl, g, s, n, r, t, S, rfl, SA, fun fr hfr => ?_⟩
  have k0 : Ch (fun _ => False) g H (tg g fr 0) (upd H fr (.lst (S.spare.map V.int))) := Ch.new hfr
  have f0 := At.new (g := g) (H := H) (p := fr) (c := 0) (o := .lst (S.spare.map V.int))
  have RO0 := RO.keep k0 (fun z => z) (fun z => z)
  have ⟨ra, ha1, ha2⟩ := hact.keep k0 (fun z => z) (fun z => z)
  refine ⟨_, rfl, _, rfl, ⟨_, SqL.of RO0.lst.1⟩, ?_⟩
  refine for_list (K := K) (a := lr) (xs := rrefs.map V.ref) (fun i σ H' => ∃ (z1 z2 : Option V), σ = [some (.ref s), some (.ref lr), some (.ref la), some (.ref fr), z1, z2] ∧ H' = upd H fr (.lst (S.spare.map V.int))) ?_ ?_ ?_ ?_
  · exact ⟨none, none, rfl, rfl⟩
  · rintro i σ H' hi ⟨z1, z2, rfl, rfl⟩
    exact SqL.of RO0.lst.1
  · rintro i x σ H' hi ⟨z1, z2, rfl, rfl⟩
    have hil : i < rows.length := by
      have := (List.getElem?_eq_some_iff.mp hi).1
      rw [List.length_map, RO.l1] at this
      exact this
    obtain ⟨r0, b, lA, er, eb, hr', hcA, hcB⟩ := RO0.at_ (List.getElem?_eq_getElem hil)
    have hmem := List.getElem_mem hil
    generalize rows[i] = row at hr' hcA hcB hmem
    obtain rfl : x = .ref r0 := by
      rw [List.getElem?_map, er] at hi
      exact (Option.some.inj hi).symm
    refine ⟨_, rfl, _, _, _, _, rfl, rfl, SqL.of hr'.1, atI_nat (j := 0) rfl, _, rfl, _, _, rfl, .inl (SqL.of f0.1), rfl, flat_ints _, _, rfl, ?_⟩
    show if inV (.int row.c) (S.spare.map V.int) = true then _ else _
    rw [inV_int]
    by_cases hin : row.c ∈ S.spare
    · have hq := hok row hmem hin
      refine dY hin ⟨_, rfl, _, rfl, ⟨_, SqL.of ha1.1⟩, ?_⟩
      refine for_list (K := K) (a := la) (xs := ra.map V.ref) (fun j σ H' => ∃ (z2 : Option V), σ = [some (.ref s), some (.ref lr), some (.ref la), some (.ref fr), some (.ref r0), z2] ∧ H' = upd H fr (.lst (S.spare.map V.int))) ?_ ?_ ?_ ?_
      · exact ⟨_, rfl, rfl⟩
      · rintro j σ H' hj ⟨z2, rfl, rfl⟩
        exact SqL.of ha1.1
      · rintro j y σ H' hj ⟨z2, rfl, rfl⟩
        obtain ⟨rc, qc, rfl, _, ec, hcq⟩ := ha2.at_ hj
        obtain ⟨n1, n2⟩ := hq qc (List.mem_of_getElem? ec)
        refine ⟨_, rfl, _, rfl, _, _, _, _, rfl, rfl, SqL.of hr'.1, atI_nat (j := 1) rfl, _, rc, lA, 0, qc, _, rfl, rfl, hcq, hcA, _, rfl, dN n1 ?_⟩
        exact ⟨_, rfl, _, rfl, _, _, _, _, rfl, rfl, SqL.of hr'.1, atI_nat (j := 2) rfl, _, rc, b, 40 + t, qc, _, rfl, rfl, hcq, hcB, _, rfl, dN n2 ⟨_, rfl, rfl⟩⟩
      · rintro σ H' ⟨z2, rfl, rfl⟩
        exact ⟨_, _, rfl, rfl⟩
    · exact dN hin ⟨_, _, rfl, rfl⟩
  · rintro σ H' ⟨z1, z2, rfl, rfl⟩
    exact q _ _ k0
theorem ok_whole (D : FDef K mg "_law_whole" (top 27) ["_law_store_here", "_law_first"]) (T : Txt K mg CSk CSt CEn CLe CLa CMe) (GF : Met P w K mg base 1 CSt "free_cells" (spFree CLa CSt) []) (GW : Met P w K mg base 1 CSt "waiting" (spWaiting CLa CSt) []) :
    Cal P w K mg base 2 "_law_whole" (spWhole CLa CSt) [] := by
  refine D.ok (N := ["_law_store_here", "_law_first", "_law_cells", "_law_row"]) (by walk_at "sc") (by walk_at "len") fun f cdv A outer s0 H vs Q E hr h => ?_
  have nd : (["_law_store_here", "_law_first", "_law_cells", "_law_row"] : List Str).Nodup := by decide +kernel
  obtain ⟨g, s, lf, n, r, t, S, fs, rfl, SA, hf, hdl, hfl, hp, hs, q⟩ := h
  refine ⟨_, pss_cons (ps_set (i := 2) nd rfl (Or.inl rfl) (pe_callTy call_list_of (by rfl) T.list (by decide +kernel) (pa_cons (pe_mt0 GF hr (by decide) (pv 0)) pa_nil)))
    (pss_cons (ps_for PassesOwn.never rfl (pi_list (pe_mt0 GW hr (by decide) (pv 0))) (pg_name (i := 3) nd rfl (Or.inl rfl))
      (pss_one (ps_set (i := 2) nd rfl (Or.inl rfl) (pe_op op_cat (pv 2) (pe_ix ix_tup (pv 3) pe_int (fun _ _ => rfl))))))
    (pss_one (ps_ret (pe_cmpR (op_eqD hr.units) (pe_callB cr_sortedI (by rfl) T.sorted (by decide +kernel) (pa_cons (pv 2) pa_nil)) (pv 1) (nomark _))))), ?_⟩
  have ⟨d, M⟩ := SA
  refine ⟨_, rfl, _, _, _, rfl, M.ins.1, rfl, g, s, n, r, t, S, rfl, SA, fun fr hfr => ?_⟩
  have k0 : Ch (fun _ => False) g H (tg g fr 0) (upd H fr (.lst (S.spare.map V.int))) := Ch.new hfr
  refine ⟨_, _, rfl, .inl (SqL.of upd_same), fun c0 hc0 => ?_⟩
  have k1 := k0.trans (Ch.new (S := fun _ => False) (c := 0) (o := .lst (S.spare.map V.int)) hc0)
  have c1 := At.new (g := tg g fr 0) (H := upd H fr (.lst (S.spare.map V.int))) (p := c0) (c := 0) (o := .lst (S.spare.map V.int))
  have SA1 := SA.keep k1 (fun z => z) (fun z => z) (fun z => z)
  have ⟨d1, M1⟩ := SA1
  refine ⟨_, rfl, _, _, _, rfl, M1.ins.1, rfl, _, s, n, r, t, S, rfl, SA1, by omega, fun g2 H2 p refs k2 hl hw => ⟨_, rfl, ⟨_, SqL.of hl.1⟩, ?_⟩⟩
  have k12 := k1.trans k2
  have hbound : ∀ i, (S.spare ++ ((waitRows S).take i).flatten).length ≤ 1000 := fun i => by
    have e1 := hp.length_eq
    rw [List.length_append] at e1 ⊢
    have e2 : (((waitRows S).take i).flatten).length ≤ ((waitRows S).flatten).length := by
      have e3 := List.take_append_drop i (waitRows S)
      have e4 : ((waitRows S).flatten).length = (((waitRows S).take i).flatten).length + (((waitRows S).drop i).flatten).length := by
        rw [← List.length_append, ← List.flatten_append, e3]
      omega
    omega
  refine for_list (K := K) (a := p) (xs := refs.map V.ref) (fun i σ H' => ∃ (g' : Tg) (cl : Addr) (z : Option V), σ = [some (.ref s), some (.ref lf), some (.ref cl), z] ∧ Ch (fun _ => False) g2 H2 g' H' ∧ At g' H' 0 cl (.lst ((S.spare ++ ((waitRows S).take i).flatten).map V.int))) ?_ ?_ ?_ ?_
  · refine ⟨g2, c0, none, rfl, Ch.refl, ?_⟩
    rw [List.take_zero, List.flatten_nil, List.append_nil]
    exact c1.keep k2 (fun z => z)
  · rintro i σ H' hi ⟨g', cl, z, rfl, k, _⟩
    exact SqL.of (hl.keep k (fun z => z)).1
  · rintro i x σ H' hi ⟨g', cl, z, rfl, k, hcl⟩
    obtain ⟨rr, cs, y, lc, rfl, ei, h1, h2⟩ := rows_of (K := K) hw hi
    have h1' := h1.keep k (fun z => z)
    have h2' := h2.keep k (fun z => z)
    have hb := hbound (i + 1)
    rw [take_snoc ei, List.flatten_append, List.flatten_singleton, ← List.append_assoc, List.length_append] at hb
    refine ⟨_, rfl, _, rfl, _, _, _, _, rfl, rfl, SqT.of h1'.1, atI_nat (j := 1) rfl, _, _, _, _, rfl, rfl, hcl.1, h2'.1, size_2 (by rw [List.length_map, List.length_map]; omega), fun p3 hp3 => ?_⟩
    rw [← List.map_append]
    refine ⟨_, p3, _, rfl, k.trans (Ch.new (S := fun _ => False) (c := 0) hp3), ?_⟩
    rw [take_snoc ei, List.flatten_append, List.flatten_singleton, ← List.append_assoc]
    exact At.new
  · rintro σ H' ⟨g', cl, z, rfl, k, hcl⟩
    have el : (waitRows S).take (refs.map V.ref).length = waitRows S := List.take_of_length_le (by rw [List.length_map, hw.len]; exact Nat.le_refl _)
    rw [el] at hcl
    refine ⟨_, rfl, _, _, rfl, SqL.of hcl.1, fun ns p4 hn hsn hp4 => ?_⟩
    have k4 : Ch (fun _ => False) g' H' (tg g' p4 0) (upd H' p4 (.lst (ns.map V.int))) := Ch.new hp4
    have ens : ns = fs := (hn.trans hp).eq_of_pairwise (fun a b _ _ h1 h2 => Int.le_antisymm h1 h2) hsn hs
    have hf' := (((hf.keep k12 (fun z => z)).keep k (fun z => z)).keep k4 (fun z => z))
    refine ⟨_, rfl, .list (ns.map PyData.int), .list (fs.map PyData.int), .lst (SqL.of upd_same) (ints_dp _), .lst (SqL.of hf'.1) (ints_dp _), intsD_shaped _, intsD_shaped _, ?_⟩
    have ev : PyData.eqv (.list (ns.map PyData.int)) (.list (fs.map PyData.int)) = true := by
      rw [ens]
      simp only [PyData.eqv]
      exact intsD_eqv fs
    rw [ev]
    exact q _ _ ((k12.trans k).trans k4)
theorem ok_slots (D : FDef K mg "_law_slots" (top 28) ["_law_memory", "_law_active", "_law_slots_here"]) (T : Txt K mg CSk CSt CEn CLe CLa CMe) (GP : Met P w K mg base 3 CMe "peek" (spPeek CLa CMe) []) : Cal P w K mg base 4 "_law_slots" (spSlots CLa CMe) [] := by
  refine D.ok (N := ["_law_memory", "_law_active", "_law_slots_here", "_law_call", "_law_epoch", "_law_slot"]) (by walk_at "sc") (by walk_at "len") fun f cdv A outer s0 H vs Q E hr h => ?_
  have nd : (["_law_memory", "_law_active", "_law_slots_here", "_law_call", "_law_epoch", "_law_slot"] : List Str).Nodup := by decide +kernel
  obtain ⟨g, m, la, ls, n, r, ep, sl, sh, cnt, log, act, rfl, ⟨vals, MA, hv⟩, ⟨ra, ha1, ha2⟩, hsh, hok, q⟩ := h
  refine ⟨_, pss_cons (ps_for PassesOwn.never rfl (pi_list (pv 1)) (pg_name (i := 3) nd rfl (Or.inl rfl))
      (pss_cons (ps_set (i := 4) nd rfl (Or.inl rfl) (pe_mt GP hr (by decide) (pv 0) (pa_cons pe_int pa_nil)))
      (pss_cons (ps_set (i := 5) nd rfl (Or.inl rfl) (pe_mt GP hr (by decide) (pv 0) (pa_cons (pe_op op_add pe_int (pe_ix ix_tup (pv 3) pe_int (fun _ _ => rfl))) pa_nil)))
      (pss_one (ps_if (PW.pt (pw_or (pt_cmpR op_ne (pv 5) (pe_ix ix_list (pv 2) (pe_ix ix_tup (pv 3) pe_int (fun _ _ => rfl)) (fun _ _ => rfl)) (nomark _)) (pw_or (pt_cmpR op_lt (pv 4) (pv 5) (nomark _)) (pw_or1 (pt_cmpR op_gt (pv 4) (pe_op op_add (pv 5) pe_int) (nomark _))))))
        (pss_one (ps_ret pe_bl)) pss_nil)))))
    (pss_one (ps_ret pe_bl)), ?_⟩
  have ⟨d, M, _⟩ := MA
  refine ⟨_, rfl, _, rfl, ⟨_, SqL.of ha1.1⟩, ?_⟩
  refine for_list (K := K) (a := la) (xs := ra.map V.ref) (fun j σ H' => ∃ (z1 z2 z3 : Option V), σ = [some (.ref m), some (.ref la), some (.ref ls), z1, z2, z3] ∧ H' = H) ?_ ?_ ?_ ?_
  · exact ⟨none, none, none, rfl, rfl⟩
  · rintro j σ H' hj ⟨z1, z2, z3, rfl, rfl⟩
    exact SqL.of ha1.1
  · rintro j y σ H' hj ⟨z1, z2, z3, rfl, rfl⟩
    obtain ⟨rc, qc, rfl, _, ec, hcq⟩ := ha2.at_ hj
    obtain ⟨v, e1, e2, e3, e4⟩ := hok qc (List.mem_of_getElem? ec)
    refine ⟨_, rfl, _, _, _, rfl, M.ins.1, rfl, g, m, n, r, vals, cnt, log, 0, _, rfl, MA, hv.e0, ?_⟩
    have e5 := hv.sl _ _ e1
    refine ⟨_, rfl, _, _, _, rfl, M.ins.1, rfl, _, rfl, _, _, _, _, rfl, rfl, SqT.of hcq.1, atI_nat (j := 0) rfl, _, _, rfl, rfl, g, m, n, r, vals, cnt, log, 1 + qc.1, _, rfl, MA, e5, ?_⟩
    have e6 : (sh.map oV)[qc.1]? = some (.int v) := by
      rw [List.getElem?_map, e2]
      rfl
    refine ⟨_, rfl, _, rfl, _, rfl, _, _, _, _, rfl, rfl, SqT.of hcq.1, atI_nat (j := 0) rfl, _, _, _, _, rfl, rfl, SqL.of hsh, atI_nat e6, rfl, _, rfl, nN rfl ?_⟩
    refine ⟨_, rfl, _, rfl, _, _, rfl, rfl, _, rfl, dN (by omega) ?_⟩
    refine ⟨_, rfl, _, rfl, _, _, rfl, rfl, _, _, rfl, rfl, _, rfl, dN (by omega) ?_⟩
    exact ⟨_, _, _, rfl, rfl⟩
  · rintro σ H' ⟨z1, z2, z3, rfl, rfl⟩
    exact q
end

/-! ### making -/
theorem made {g : Tg} {H : Hp} {x dx C : Addr} {c : Nat} (nx : H x = none) (nd : H dx = none) (ne : dx ≠ x) :
    Ch (fun _ => False) g H (tg (tg g dx 0) x c) (upd (upd H dx (.own x)) x (.ins C dx [])) ∧ At (tg (tg g dx 0) x c) (upd (upd H dx (.own x)) x (.ins C dx [])) c x (.ins C dx []) := by
  have h1 : (upd H dx (.own x)) x = none := by rw [upd_ne ne.symm]; exact nx
  exact ⟨(Ch.new nd).trans (Ch.new h1), At.new⟩
section
variable {P : Program} {w : World} {K : PySem.W.Frag} {mg : Str → Option Value} {base : Heap} {CSk CSt CEn CLe CLa CMe : Addr}
theorem ok_divided (D : FDef K mg "divided" (top 5) ["layout", "cells", "thread"]) (T : Txt K mg CSk CSt CEn CLe CLa CMe) (GR : Met P w K mg base 1 CLa "record" (spLa1 CLa fun t _ i => 1 + 2 * t + 3 + i) []) : Cal P w K mg base 2 "divided" (spDivided CLa) [] := by
  refine D.ok (N := ["layout", "cells", "thread", "cell"]) (by walk_at "sc") (by walk_at "len") fun f cdv A outer s0 H vs Q E hr h => ?_
  have nd : (["layout", "cells", "thread", "cell"] : List Str).Nodup := by decide +kernel
  obtain ⟨g, lay, lc, n, r, t, cells, rfl, ⟨dl, L⟩, hc, hn, hlen, q⟩ := h
  refine ⟨_, pss_one (ps_ret (pe_callB cr_sortedI (by rfl) T.sorted (by decide +kernel) (pa_cons (pe_lc (own := [("cell", 3)]) (g := gName 3) rfl nd (pi_list (pv 1)) (blkOk_by (N := ["layout", "cells", "thread", "cell"]) (sc := fnScope (top 5)) (by decide +kernel))
    (fun _ _ _ _ _ => pg_name (i := 3) nd rfl (Or.inl rfl))
    (fun _ _ _ _ _ => pts_one (pt_cmpR op_eq (pe_op op_mod (pe_op op_sub (pv 3) (pe_mt GR hr (by decide) (pv 0) (pa_cons pe_int pa_nil))) (pe_fldK (K := K) rfl (pv 0) rfl)) (pv 2) (nomark _))) (fun _ _ _ _ _ => pv 3)) pa_nil))), ?_⟩
  refine ⟨_, rfl, _, rfl, ⟨_, SqL.of hc.1⟩, fun p hp => ?_⟩
  refine lc_list (K := K) (a := lc) (xs := cells.map V.int) (fun i H' => ∃ (g' : Tg), Ch (fun _ => False) g H g' H' ∧ At g' H' 7 p (.lst (((cells.take i).filter fun c => decide ((c - (1 + 2 * (n : Int) + 3 + 0)) % (n : Int) = (t : Int))).map V.int))) ?_ ?_ ?_ ?_
  · exact ⟨tg g p 7, Ch.new hp, At.new⟩
  · rintro i H' hi ⟨g', k, _⟩
    exact SqL.of (hc.keep k (fun z => z)).1
  · rintro i x H' hi ⟨g', k, hl⟩
    obtain ⟨c, ec, rfl⟩ : ∃ c, cells[i]? = some c ∧ x = .int c := by
      rw [List.getElem?_map] at hi
      cases e1 : cells[i]? with
      | none => rw [e1] at hi; cases hi
      | some c => rw [e1] at hi; exact ⟨c, rfl, (Option.some.inj hi).symm⟩
    have L' := L.keep k (fun z => z)
    refine ⟨rfl, ?_⟩
    refine ⟨_, rfl, _, rfl, _, _, _, rfl, L'.1, rfl, _, _, _, _, _, rfl, L'.1, _, _, rfl, rfl, _, rfl, _, _, _, _, _, rfl, L'.1, T.clLa, T.laThreads, rfl, _, _, rfl, rfl, (by show (0 : Int) < (n : Nat); omega), _, rfl, rfl, _, rfl, ?_⟩
    by_cases hm : (c - (1 + 2 * (n : Int) + 3 + 0)) % (n : Int) = (t : Int)
    · refine dY (congrArg V.int hm) ⟨_, rfl, _, hl.1, ?_, g', k.wrNew hp, ?_⟩
      · refine At.len_le ?_
        rw [List.length_map]
        have : ((cells.take i).filter fun c => decide ((c - (1 + 2 * (n : Int) + 3 + 0)) % (n : Int) = (t : Int))).length ≤ cells.length := (List.filter_sublist.trans (List.take_sublist _ _)).length_le
        omega
      · rw [take_snoc ec, List.filter_append, List.map_append]
        have e1 : ([c].filter fun c => decide ((c - (1 + 2 * (n : Int) + 3 + 0)) % (n : Int) = (t : Int))) = [c] := by simp only [List.filter_cons, List.filter_nil, decide_eq_true hm, if_true]
        rw [e1]
        exact hl.wr
    · refine dN (fun z => hm (by injection z)) ⟨g', k, ?_⟩
      rw [take_snoc ec, List.filter_append]
      have e1 : ([c].filter fun c => decide ((c - (1 + 2 * (n : Int) + 3 + 0)) % (n : Int) = (t : Int))) = [] := by simp only [List.filter_cons, List.filter_nil, decide_eq_false hm]; rfl
      rw [e1, List.append_nil]
      exact hl
  · rintro H' ⟨g', k, hl⟩
    have el : cells.take (cells.map V.int).length = cells := List.take_of_length_le (by rw [List.length_map]; exact Nat.le_refl _)
    rw [el] at hl
    refine ⟨_, _, rfl, SqL.of hl.1, fun sp p2 hpm hw hp2 => ?_⟩
    exact q _ _ p2 sp (k.trans (Ch.new hp2)) At.new hpm
theorem ok_store (D : FDef K mg "_law_store" (top 26) ["_law_layout", "_law_thread"]) (T : Txt K mg CSk CSt CEn CLe CLa CMe) (GR : Met P w K mg base 1 CLa "record" (spLa1 CLa fun t _ i => 1 + 2 * t + 3 + i) []) (GD : Cal P w K mg base 2 "divided" (spDivided CLa) [])
    (GI : Mak P w K mg base 1 "Store" CSt (spStInit CLa CSt) []) : Cal P w K mg base 3 "_law_store" (spStore CLa CSt) [] := by
  refine D.ok (N := ["_law_layout", "_law_thread", "_law_own", "_law_k"]) (by walk_at "sc") (by walk_at "len") fun f cdv A outer s0 H vs Q E hr h => ?_
  have nd : (["_law_layout", "_law_thread", "_law_own", "_law_k"] : List Str).Nodup := by decide +kernel
  obtain ⟨g, lay, n, r, t, rfl, hL, hn1, hn3, hr3, hr2, q⟩ := h
  have ⟨dl, L⟩ := hL
  refine ⟨_, pss_cons (ps_setLc (i := 2) (own := [("_law_k", 3)]) (g := gName 3) rfl nd rfl rfl (sw_true rfl rfl rfl (by decide +kernel)) (pi_range2 rfl T.range (pa_cons pe_int (pa_cons (pe_fld (pv 0) rfl) pa_nil)))
      (blkOk_by (N := ["_law_layout", "_law_thread", "_law_own", "_law_k"]) (sc := fnScope (top 26)) (by decide +kernel)) (fun _ _ _ _ _ => pg_name (i := 3) nd rfl (Or.inl rfl)) (fun _ _ _ _ _ => pts_nil)
      (fun _ _ _ _ _ => pe_mt GR hr (by decide) (pv 0) (pa_cons (pv 3) pa_nil)))
    (pss_one (ps_ret (pe_mk GI hr (by decide) (by rfl) (pa_cons (pv 0) (pa_cons (pv 1) (pa_cons (pe_c GD hr (by decide) (by rfl) (pa_cons (pv 0) (pa_cons (pv 2) (pa_cons (pv 1) pa_nil)))) pa_nil)))))), ?_⟩
  refine ⟨_, rfl, _, _, _, _, _, rfl, L.1, T.clLa, T.laRecords, rfl, _, _, rfl, ⟨by decide, by decide, by omega, by omega⟩, fun p hp => ?_⟩
  rw [show ((r : Int) - 3).toNat = r - 3 from by omega]
  refine lc_range (lo := 3) (n := r - 3) (fun i H' => ∃ (g' : Tg), Ch (fun _ => False) g H g' H' ∧ At g' H' 7 p (.lst (((List.range i).map fun (k : Nat) => (1 + 2 * (n : Int) + 3 + (3 + (k : Int)))).map V.int))) ?_ ?_ ?_
  · exact ⟨tg g p 7, Ch.new hp, At.new⟩
  · rintro i H' hi ⟨g', k, hl⟩
    have L' := L.keep k (fun z => z)
    refine ⟨rfl, ?_⟩
    refine ⟨_, rfl, _, _, _, rfl, L'.1, rfl, _, rfl, _, _, _, _, _, rfl, L'.1, _, hl.1, ?_, g', k.wrNew hp, ?_⟩
    · refine At.len_le ?_
      rw [List.length_map, List.length_map, List.length_range]
      omega
    · rw [List.range_succ, List.map_append, List.map_append]
      exact hl.wr
  rintro H1 ⟨g1, k1, hl1⟩
  have hl1' : At (tg g1 p 0) H1 0 p (.lst (((List.range (r - 3)).map fun (k : Nat) => (1 + 2 * (n : Int) + 3 + (3 + (k : Int)))).map V.int)) := ⟨hl1.1, tg_same⟩
  have k1' := k1.retag (c := 0) hp
  have L1 := L.keep k1' (fun z => z)
  refine ⟨_, rfl, _, rfl, _, rfl, _, rfl, _, rfl, tg g1 p 0, lay, p, n, r, t, _, rfl, ⟨dl, L1⟩, hl1', hn1, by rw [List.length_map, List.length_range]; omega, fun g2 H2 p2 sp k2 hp2 hpm => ?_⟩
  intro x dx nx ndx nex
  obtain ⟨k3, a3⟩ := made (g := g2) (C := CSt) (c := 10 + t) nx ndx nex
  have k12 := k1'.trans k2
  refine ⟨_, x, dx, lay, p2, n, r, t, sp, rfl, a3, ⟨dl, (L.keep k12 (fun z => z)).keep k3 (fun z => z)⟩, (hp2.keep k3 (fun z => z)).1, fun g4 H4 sp4 k4 SA hp4 hw4 => ⟨rfl, ?_⟩⟩
  have kk : Ch (fun c => c = 10 + t) g H g4 H4 := ((k12.trans k3).mono fun _ z => z.elim).trans k4
  exact q g4 H4 x sp4 kk SA (hp4.trans hpm) hw4
end

/-! ### a thread that calls alone: the mathematics -/
theorem flat_split (k : Int) : ∀ del : List (Int × List Int), (frd k del).length + ((kept k del).flatMap (·.2)).length = (del.flatMap (·.2)).length
  | [] => rfl
  | p :: del => by
    have ih := flat_split k del
    unfold frd kept at ih ⊢
    rw [List.filter_cons, List.filter_cons, List.flatMap_cons, List.length_append]
    by_cases h : p.1 ≤ k - 3
    · simp only [h, decide_true, if_true, Bool.not_true, if_false, List.flatMap_cons, List.length_append, Bool.false_eq_true]
      omega
    · simp only [h, decide_false, if_false, Bool.not_false, if_true, List.flatMap_cons, List.length_append, Bool.false_eq_true]
      omega
theorem kept_len (k : Int) (del : List (Int × List Int)) : (kept k del).length ≤ del.length := by
  unfold kept
  exact List.length_filter_le _ _
theorem Rel.small {k : Int} {S S' : SS} (h : Rel k S S') (s : S.small) : S'.small := by
  obtain ⟨sp, rfl, hp⟩ := h
  obtain ⟨s1, s2⟩ := s
  have e1 := hp.length_eq
  have e2 := flat_split k S.del
  have e3 := kept_len k S.del
  rw [List.length_append] at e1
  refine ⟨?_, ?_⟩
  · show sp.length + ((kept k S.del).flatMap (·.2)).length + S.out.length ≤ 1000
    omega
  · show (kept k S.del).length ≤ 1000
    omega
/-- what one turn of a thread alone leaves -/
def EntRun (E : Int) (sl0 : List (Option Int)) (S : SS) (t : Nat) (i : Nat) (c : Option MS) (E' : Int) (sl : List (Option Int)) (S' : SS) : Prop :=
  E' = E ∧ S' = S ∧ ((i = 0 ∧ c = some (.en .rd) ∧ sl = sl0) ∨ (i = 1 ∧ c = some (.en (.wr E)) ∧ sl = sl0) ∨ (i = 2 ∧ c = some (.en (.ag E)) ∧ sl = sl0.set t (some E)) ∨ (c = none ∧ sl = sl0.set t (some E)))
def LeaRun (E : Int) (sl0 : List (Option Int)) (S : SS) (T t : Nat) (i : Nat) (c : Option MS) (E' : Int) (sl : List (Option Int)) (S' : SS) : Prop :=
  (i = 0 ∧ c = some (.le .slot) ∧ E' = E ∧ S' = S ∧ sl = sl0.set t (some E)) ∨ (c = none ∧ sl = sl0 ∧ S.del = [] ∧ E' = E ∧ S' = S) ∨ (i = 1 ∧ c = some (.le .epoch) ∧ E' = E ∧ S' = S ∧ sl = sl0) ∨
  (∃ us, us ≠ [] ∧ i + us.length ≤ 5 ∧ (∀ u ∈ us, u < T) ∧ c = some (.le (.other E us)) ∧ E' = E ∧ S' = S ∧ sl = sl0) ∨ (i ≤ 5 ∧ c = some (.le (.move E)) ∧ E' = E ∧ S' = S ∧ sl = sl0) ∨ (c = none ∧ sl = sl0 ∧ E' = E + 1 ∧ Rel (E + 1) S S')
/-- a way of a stack that ends soon -/
structure Runs (T t : Nat) (Rn : Nat → Option MS → Int → List (Option Int) → SS → Prop) : Prop where
  go : ∀ i ms E sl S, Rn i (some ms) E sl S → ms.done = false ∧ ms.wf T ∧ i ≤ 5 ∧ S.small
  step : ∀ i ms E sl S E' sl' S' c', Rn i (some ms) E sl S → MStep T t E sl S ms E' sl' S' c' → Rn (i + 1) c' E' sl' S' ∧ S'.small
theorem entRuns {T t : Nat} {E : Int} {sl0 : List (Option Int)} {S : SS} (hs : S.small) : Runs T t (EntRun E sl0 S t) where
  go := by
    rintro i ms E' sl S' ⟨rfl, rfl, h⟩
    rcases h with ⟨rfl, h, _⟩ | ⟨rfl, h, _⟩ | ⟨rfl, h, _⟩ | ⟨h, _⟩ <;> cases h
    · exact ⟨rfl, trivial, by omega, hs⟩
    · exact ⟨rfl, trivial, by omega, hs⟩
    · exact ⟨rfl, trivial, by omega, hs⟩
  step := by
    rintro i ms E' sl S' E2 sl2 S2 c2 ⟨rfl, rfl, h⟩ ⟨rfl, rfl, st⟩
    rcases h with ⟨rfl, h, rfl⟩ | ⟨rfl, h, rfl⟩ | ⟨rfl, h, rfl⟩ | ⟨h, _⟩ <;> cases h
    · obtain ⟨rfl, rfl⟩ := st
      exact ⟨⟨rfl, rfl, .inr (.inl ⟨rfl, rfl, rfl⟩)⟩, hs⟩
    · obtain ⟨rfl, rfl⟩ := st
      exact ⟨⟨rfl, rfl, .inr (.inr (.inl ⟨rfl, rfl, rfl⟩))⟩, hs⟩
    · obtain ⟨rfl, rfl⟩ := st
      refine ⟨⟨rfl, rfl, .inr (.inr (.inr ⟨?_, rfl⟩))⟩, hs⟩
      show settled (some (.en (if E' = E' then .dn E' else .wr E'))) = none
      rw [if_pos rfl]
      rfl
theorem others_lt {T t u : Nat} (h : u ∈ othersOf T t) : u < T ∧ u ≠ t := by
  unfold othersOf at h
  obtain ⟨h1, h2⟩ := List.mem_filter.mp h
  exact ⟨List.mem_range.mp h1, of_decide_eq_true h2⟩
theorem others_len (T t : Nat) : (othersOf T t).length ≤ T := by
  unfold othersOf
  exact Nat.le_trans (List.length_filter_le _ _) (by rw [List.length_range]; exact Nat.le_refl _)
theorem leaRuns {T t : Nat} {E : Int} {sl0 : List (Option Int)} {S : SS} (hs : S.small) (hT : T ≤ 3) (h0 : ∀ u, u < T → sl0[u]? = some none) (ht : sl0[t]? = some none) : Runs T t (LeaRun E sl0 S T t) where
  go := by
    rintro i ms E' sl S' h
    rcases h with ⟨rfl, h, rfl, rfl, rfl⟩ | ⟨h, _⟩ | ⟨rfl, h, rfl, rfl, rfl⟩ | ⟨us, h1, h2, h3, h, rfl, rfl, rfl⟩ | ⟨h1, h, rfl, rfl, rfl⟩ | ⟨h, _⟩ <;> cases h
    · exact ⟨rfl, trivial, by omega, hs⟩
    · exact ⟨rfl, trivial, by omega, hs⟩
    · exact ⟨rfl, ⟨h1, h3⟩, by omega, hs⟩
    · exact ⟨rfl, trivial, h1, hs⟩
  step := by
    rintro i ms E' sl S' E2 sl2 S2 c2 h ⟨rfl, rfl, st⟩
    have look : ∀ (i : Nat) (us : List Nat), i + us.length ≤ 5 → (∀ u ∈ us, u < T) → LeaRun E sl0 S T t i (settled (some (.le (lookOn E us)))) E sl0 S := fun i us h1 h2 => by
      cases us with
      | nil => exact .inr (.inr (.inr (.inr (.inl ⟨by simpa using h1, rfl, rfl, rfl, rfl⟩))))
      | cons u us => exact .inr (.inr (.inr (.inl ⟨u :: us, by simp, h1, h2, rfl, rfl, rfl, rfl⟩)))
    rcases h with ⟨rfl, h, rfl, rfl, rfl⟩ | ⟨h, _⟩ | ⟨rfl, h, rfl, rfl, rfl⟩ | ⟨us, h1, h2, h3, h, rfl, rfl, rfl⟩ | ⟨h1, h, rfl, rfl, rfl⟩ | ⟨h, _⟩ <;> cases h
    · obtain ⟨st', ⟨rfl, rfl⟩, rfl⟩ := st
      have e1 : (sl0.set t (some E')).set t none = sl0 := by
        rw [List.set_set]
        refine List.ext_getElem? fun u => ?_
        by_cases hu : t = u
        · subst hu
          rw [List.getElem?_set_self (List.getElem?_eq_some_iff.mp ht).1, ht]
        · rw [List.getElem?_set_ne hu]
      refine ⟨?_, hs⟩
      show LeaRun E' sl0 S2 T t 1 _ E' ((sl0.set t (some E')).set t none) S2
      rw [e1]
      by_cases hd : S2.del = []
      · rw [if_pos hd]
        exact .inr (.inl ⟨rfl, rfl, hd, rfl, rfl⟩)
      · rw [if_neg hd]
        exact .inr (.inr (.inl ⟨rfl, rfl, rfl, rfl, rfl⟩))
    · obtain ⟨st', ⟨x, hx, rfl, rfl⟩, rfl⟩ := st
      have hx : V.int E' = V.int x := hx
      cases hx
      refine ⟨?_, hs⟩
      exact look 2 _ (by have := others_len T t; omega) fun u hu => (others_lt hu).1
    · obtain ⟨st', ac, rfl⟩ := st
      have ev : sl.getD (us.headD 0) none = none := by
        cases us with
        | nil => exact absurd rfl h1
        | cons u us => exact getD_of (h0 u (h3 u List.mem_cons_self))
      have ev : (MS.le (.other E' us)).val E' sl = .non := by
        show oV _ = .non
        rw [ev]
        rfl
      rw [ev] at ac
      rcases ac with ⟨a1, _⟩ | ⟨_, rfl, rfl⟩
      · exact absurd rfl a1
      · refine ⟨?_, hs⟩
        refine look _ us.tail ?_ fun u hu => h3 u (List.mem_of_mem_tail hu)
        cases us with
        | nil => exact absurd rfl h1
        | cons u us =>
          rw [List.length_cons] at h2
          rw [List.tail_cons]
          omega
    · obtain ⟨st', ⟨b, hb, hr, rfl⟩, rfl⟩ := st
      have hb : V.bl (decide (E' = E')) = .bl b := hb
      rw [decide_eq_true rfl] at hb
      cases hb
      refine ⟨?_, hr.small hs⟩
      refine .inr (.inr (.inr (.inr (.inr ⟨rfl, rfl, ?_, hr⟩))))
      show (if E' = E' then E' + 1 else E') = E' + 1
      rw [if_pos rfl]
/-- the invariant over the four turns -/
def ATurn (E0 : Int) (j : Nat) (E : Int) (S : SS) : Prop := (S.del = [] ∨ (E = E0 + j ∧ j ≤ 2 ∧ ∀ p ∈ S.del, p.1 ≤ E0)) ∧ S.out = [] ∧ S.small ∧ E0 ≤ E
theorem ATurn.next {E0 : Int} {j : Nat} {E E' : Int} {S S' : SS} (h : ATurn E0 j E S) (o : (S.del = [] ∧ E' = E ∧ S' = S) ∨ (E' = E + 1 ∧ Rel (E + 1) S S')) : ATurn E0 (j + 1) E' S' := by
  obtain ⟨h1, h2, h3, h4⟩ := h
  rcases o with ⟨o1, rfl, rfl⟩ | ⟨rfl, o2⟩
  · exact ⟨.inl o1, h2, h3, h4⟩
  · have hsm := o2.small h3
    obtain ⟨sp, rfl, hp⟩ := o2
    refine ⟨?_, h2, hsm, by omega⟩
    rcases h1 with h1 | ⟨rfl, hj, h1⟩
    · left
      show kept (E + 1) S.del = []
      rw [h1]
      rfl
    · by_cases hj2 : j = 2
      · left
        show kept (E0 + j + 1) S.del = []
        unfold kept
        rw [List.filter_eq_nil_iff]
        intro p hp
        have := h1 p hp
        have e : p.1 ≤ E0 + (j : Int) + 1 - 3 := by omega
        rw [decide_eq_true e]
        decide
      · right
        refine ⟨by omega, by omega, fun p hp => ?_⟩
        exact h1 p (List.mem_filter.mp hp).1

def tRunBody (CSk CLa CMe CSt CEn CLe : Addr) : TS :=
  tSeq (tAsg (tMake CSk (spSkInit CSk) [] C8.E0 (tCons (tVar 4) tNil)) (gName 5))
    (tSeq (tFor (iRng1 (tCons (tC (.int 30)) tNil)) (gName 6) (tIfS (tNot (tB (tMeth CSk "step" (spStep CLa CMe CSk CSt CEn CLe) [] C8.E0 (tVar 5) (tCons (tVar 0) (tCons (tVar 2) tNil))))) tBreak tNext))
      (tIfS (tNot (tB (tMeth CSk "ended" (spEnded CSk CEn CLe) [] C8.E0 (tVar 5) tNil))) (tRet (tC (.bl false))) tNext))
theorem alone_run {CSk CLa CMe CSt CEn CLe : Addr} {D : Ends} {g : Tg} {H : Hp} {m s a : Addr} {T R t : Nat} {E : Int} {sl : List (Option Int)} {S : SS} {cnt : Nat} {log : Option Str} {ms0 : MS} {Rn : Nat → Option MS → Int → List (Option Int) → SS → Prop} {z3 z5 z6 : Option V}
    (ME : MemE CLa CMe g H m T R E sl cnt log) (SA : StoAt CLa CSt g H s T R t S) (MA : MachAt CEn CLe g H a s T t ms0) (R0 : Rn 0 (some ms0) E sl S) (rn : Runs T t Rn) (ht : t < T) (hc : cnt ≤ 50000)
    (fin : ∀ (g' : Tg) (H' : Hp) (E' : Int) (sl' : List (Option Int)) (S' : SS) (cnt' : Nat) (log' : Option Str) (i : Nat) (z5' z6' : Option V), Ch (SZ t) g H g' H' → MemE CLa CMe g' H' m T R E' sl' cnt' log' → StoAt CLa CSt g' H' s T R t S' → Rn i none E' sl' S' → cnt' ≤ cnt + 30 →
      D.nx [some (.ref m), some (.ref s), some (.int (t : Nat)), z3, some (.ref a), z5', z6'] H') :
    tRunBody CSk CLa CMe CSt CEn CLe D [some (.ref m), some (.ref s), some (.int (t : Nat)), z3, some (.ref a), z5, z6] H := by
  refine ⟨_, rfl, ?_⟩
  intro k dk nk ndk nek
  obtain ⟨k1, a1⟩ := made (g := g) (C := CSk) (c := 20 + t) nk ndk nek
  refine ⟨_, k, dk, t, .ref a, rfl, a1, fun g2 H2 ml k2 hk hm => ⟨rfl, ?_⟩⟩
  have k12 := (k1.mono (S' := fun c => c = 20 + t) fun _ z => z.elim).trans k2
  have KA : StkAt CSk CEn CLe g2 H2 k s T t (some ms0) := ⟨dk, ml, .non, hk, a, hm, (MA.keep k1 (fun z => z) (fun z => z)).keep k2 (by omega) (by omega)⟩
  have after : ∀ (z0 : Option V) (g' : Tg) (H' : Hp) (E' : Int) (sl' : List (Option Int)) (S' : SS) (cnt' : Nat) (log' : Option Str) (j : Nat) (z : Option V), Ch (SZ t) g H g' H' → MemE CLa CMe g' H' m T R E' sl' cnt' log' → StoAt CLa CSt g' H' s T R t S' → StkAt CSk CEn CLe g' H' k s T t none → Rn j none E' sl' S' → cnt' ≤ cnt + 30 →
      tIfS (tNot (tB (tMeth CSk "ended" (spEnded CSk CEn CLe) [] C8.E0 (tVar 5) tNil))) (tRet (tC (.bl false))) tNext D [some (.ref m), some (.ref s), some (.int (t : Nat)), z3, some (.ref a), some (.ref k), z] H' := fun z0 g' H' E' sl' S' cnt' log' j z kk ME' SA' KA' hR hcnt2 => by
    have ⟨dx, ml', res, hk', _⟩ := KA'
    refine ⟨_, rfl, _, _, _, rfl, hk'.1, rfl, g', k, s, T, t, none, rfl, KA', true, rfl, iteF ?_⟩
    exact fin g' H' E' sl' S' cnt' log' j _ z kk ME' SA' hR hcnt2
  refine ⟨_, rfl, by decide, by decide, ?_⟩
  refine for_range (lo := 0) (n := 30) (fun i σ H' => ∃ (g' : Tg) (E' : Int) (sl' : List (Option Int)) (S' : SS) (cnt' : Nat) (log' : Option Str) (c : Option MS) (j : Nat) (z : Option V), σ = [some (.ref m), some (.ref s), some (.int (t : Nat)), z3, some (.ref a), some (.ref k), z] ∧ Ch (SZ t) g H g' H' ∧
    MemE CLa CMe g' H' m T R E' sl' cnt' log' ∧ StoAt CLa CSt g' H' s T R t S' ∧ StkAt CSk CEn CLe g' H' k s T t c ∧ Rn j c E' sl' S' ∧ S'.small ∧ (c ≠ none → j = i) ∧ cnt' ≤ cnt + i ∧ cnt' ≤ cnt + 30) ?_ ?_ ?_
  · exact ⟨g2, E, sl, S, cnt, log, some ms0, 0, _, rfl, k12.mono fun c z => by unfold SZ; omega, ME.keep k12 (by omega) (by omega), SA.keep k12 (by omega) (by omega) (by omega), KA, R0, (rn.go _ _ _ _ _ R0).2.2.2, fun _ => rfl, by omega, by omega⟩
  · rintro i σ H' hi ⟨g', E', sl', S', cnt', log', c, j, z, rfl, kk, ME', SA', KA', hR, hsm, hj, hcnt, hcnt2⟩
    have ⟨dx, ml', res, hk', _⟩ := KA'
    cases c with
    | none =>
      refine ⟨_, rfl, _, _, _, rfl, hk'.1, rfl, _, rfl, _, rfl, g', k, m, s, T, R, t, E', sl', cnt', log', S', none, rfl, ME', SA', KA', (fun ms' e => by cases e), hsm, ht, by omega, (fun _ g3 H3 k3 KA3 => ?_), fun ms' e => by cases e⟩
      refine ⟨false, rfl, iteT ?_⟩
      exact after z g3 H3 E' sl' S' cnt' log' j _ (kk.trans (k3.mono fun c z => by unfold SZ; omega)) (ME'.keep k3 (by omega) (by omega)) (SA'.keep k3 (by omega) (by omega) (by omega)) KA3 hR hcnt2
    | some ms =>
      obtain ⟨hd, hw, hi5, _⟩ := rn.go j ms E' sl' S' hR
      refine ⟨_, rfl, _, _, _, rfl, hk'.1, rfl, _, rfl, _, rfl, g', k, m, s, T, R, t, E', sl', cnt', log', S', some ms, rfl, ME', SA', KA', (fun ms' e => by cases e; exact ⟨hd, hw⟩), hsm, ht, by omega, (fun z => by cases z), fun ms' e g3 H3 E3 sl3 S3 c3 k3 ME3 SA3 KA3 st => ?_⟩
      cases e
      have hj' := hj (by intro z; cases z)
      refine ⟨true, rfl, iteF ?_⟩
      exact ⟨g3, E3, sl3, S3, cnt' + 1, _, c3, j + 1, _, rfl, kk.trans k3, ME3, SA3, KA3, (rn.step j ms E' sl' S' E3 sl3 S3 c3 hR st).1, (rn.step j ms E' sl' S' E3 sl3 S3 c3 hR st).2, fun _ => by omega, by omega, by omega⟩
  · rintro σ H' ⟨g', E', sl', S', cnt', log', c, j, z, rfl, kk, ME', SA', KA', hR, hsm, hj, hcnt, hcnt2⟩
    cases c with
    | none => exact after z g' H' E' sl' S' cnt' log' j _ kk ME' SA' KA' hR hcnt2
    | some ms =>
      have h5 := (rn.go j ms E' sl' S' hR).2.2.1
      have := hj (by intro z; cases z)
      omega

def spAlone (CLa CMe CSt : Addr) : Sp := fun vs H Q _ => ∃ (g : Tg) (m s : Addr) (T R t : Nat) (E : Int) (sl : List (Option Int)) (cnt : Nat) (log : Option Str) (S : SS), vs = [.ref m, .ref s, .int t] ∧ MemE CLa CMe g H m T R E sl cnt log ∧ StoAt CLa CSt g H s T R t S ∧ S.small ∧ S.out = [] ∧ t < T ∧ T ≤ 3 ∧ cnt ≤ 20000 ∧
  (∀ u, u < T → sl[u]? = some none) ∧ (∀ p ∈ S.del, p.1 ≤ E) ∧
  ∀ (g' : Tg) (H' : Hp) (E' : Int) (cnt' : Nat) (log' : Option Str), Ch (SZ t) g H g' H' → MemE CLa CMe g' H' m T R E' sl cnt' log' → E ≤ E' → cnt' ≤ cnt + 240 → Q (.bl true) H'
section
variable {P : Program} {w : World} {K : PySem.W.Frag} {mg : Str → Option Value} {base : Heap} {CSk CSt CEn CLe CLa CMe : Addr}
theorem ok_alone (D : FDef K mg "_law_alone" (top 29) ["_law_memory", "_law_store_here", "_law_thread"]) (T : Txt K mg CSk CSt CEn CLe CLa CMe) (GE : Mak P w K mg base 2 "Entering" CEn (spEnInit CLa CSt CEn) []) (GL : Mak P w K mg base 1 "Leaving" CLe (spLeInit CLa CSt CLe) [])
    (GS : Mak P w K mg base 1 "Stack" CSk (spSkInit CSk) []) (GT : Met P w K mg base 7 CSk "step" (spStep CLa CMe CSk CSt CEn CLe) []) (GD : Met P w K mg base 1 CSk "ended" (spEnded CSk CEn CLe) []) (GW : Met P w K mg base 1 CSt "waiting" (spWaiting CLa CSt) []) :
    Cal P w K mg base 8 "_law_alone" (spAlone CLa CMe CSt) [] := by
  refine D.ok (N := ["_law_memory", "_law_store_here", "_law_thread", "_law_turn", "_law_machine", "_law_stack", "_law_step"]) (by walk_at "sc") (by walk_at "len") fun f cdv A outer s0 H vs Q E hr h => ?_
  have nd : (["_law_memory", "_law_store_here", "_law_thread", "_law_turn", "_law_machine", "_law_stack", "_law_step"] : List Str).Nodup := by decide +kernel
  obtain ⟨g, m, s, n, r, t, ep, sl, cnt, log, S, rfl, ME, SA, hsm, hout, ht, hn, hcnt, hsl, hst, q⟩ := h
  refine ⟨_, pss_cons (ps_for PassesOwn.never rfl (pi_range1 rfl T.range (pa_cons pe_int pa_nil)) (pg_name (i := 3) nd rfl (Or.inl rfl))
      (pss_one (ps_for PassesOwn.never rfl (pi_list (pe_lst (pa_cons (pe_mk GE hr (by decide) (by rfl) (pa_cons (pv 1) pa_nil)) (pa_cons (pe_mk GL hr (by decide) (by rfl) (pa_cons (pv 1) pa_nil)) pa_nil)))) (pg_name (i := 4) nd rfl (Or.inl rfl))
        (pss_cons (ps_set (i := 5) nd rfl (Or.inl rfl) (pe_mk GS hr (by decide) (by rfl) (pa_cons (pv 4) pa_nil)))
        (pss_cons (ps_for PassesOwn.never rfl (pi_range1 rfl T.range (pa_cons pe_int pa_nil)) (pg_name (i := 6) nd rfl (Or.inl rfl))
          (pss_one (ps_if (pt_not (pt_val (pe_mt GT hr (by decide) (pv 5) (pa_cons (pv 0) (pa_cons (pv 2) pa_nil))))) (pss_one ps_break) pss_nil)))
        (pss_one (ps_if (pt_not (pt_val (pe_mt0 GD hr (by decide) (pv 5)))) (pss_one (ps_ret pe_bl)) pss_nil)))))))
    (pss_one (ps_ret (pe_cmpR (op_eqD hr.units) (pe_mt0 GW hr (by decide) (pv 1)) (pe_lst pa_nil) (nomark _)))), ?_⟩
  refine ⟨4, rfl, by decide, by decide, ?_⟩
  refine for_range (lo := 0) (n := 4) (fun j σ H' => ∃ (g' : Tg) (E' : Int) (S' : SS) (cnt' : Nat) (log' : Option Str) (z1 z2 z3 z4 : Option V), σ = [some (.ref m), some (.ref s), some (.int (t : Nat)), z1, z2, z3, z4] ∧ Ch (SZ t) g H g' H' ∧
    MemE CLa CMe g' H' m n r E' sl cnt' log' ∧ StoAt CLa CSt g' H' s n r t S' ∧ ATurn ep j E' S' ∧ cnt' ≤ cnt + 60 * j) ?_ ?_ ?_
  · exact ⟨g, ep, S, cnt, log, none, none, none, none, rfl, Ch.refl, ME, SA, ⟨.inr ⟨by simp, by omega, hst⟩, hout, hsm, Int.le_refl _⟩, by omega⟩
  · rintro j σ H1 hj ⟨g1, E1, S1, cnt1, log1, z1, z2, z3, z4, rfl, k1, ME1, SA1, hT, hc1⟩
    have ⟨_, hout1, hsm1, _⟩ := hT
    -- Entering(store), Leaving(store)
    refine ⟨_, rfl, ?_⟩
    intro a1 d1 na1 nd1 ne1
    obtain ⟨m1, b1⟩ := made (g := g1) (C := CEn) (c := 30 + t) na1 nd1 ne1
    refine ⟨_, a1, d1, s, n, r, t, S1, rfl, b1, SA1.keep m1 (fun z => z) (fun z => z) (fun z => z), fun H2 k2 EA => ⟨rfl, ?_⟩⟩
    have ⟨dxa, EA'⟩ := EA
    have kA := (m1.mono (S' := fun c => c = 30 + t) fun _ z => z.elim).trans k2
    -- the first machine gets another tag while the second is made
    have t1 : Ch (fun c => c = 30 + t) _ H2 (tg (tg (tg g1 d1 0) a1 (30 + t)) a1 8) H2 := Ch.tagged EA' rfl
    have kB := kA.trans t1
    have EA8 : At (tg (tg (tg g1 d1 0) a1 (30 + t)) a1 8) H2 8 a1 (.ins CEn dxa (enF t (ES.rd).str (ES.rd).ep)) := ⟨EA'.1, tg_same⟩
    generalize tg (tg (tg g1 d1 0) a1 (30 + t)) a1 8 = g2 at kB EA8
    clear t1 kA k2 m1 b1 EA EA'
    refine ⟨_, rfl, ?_⟩
    intro a2 d2 na2 nd2 ne2
    obtain ⟨m2, b2⟩ := made (g := g2) (C := CLe) (c := 30 + t) na2 nd2 ne2
    refine ⟨_, a2, d2, s, n, r, t, S1, rfl, b2, (SA1.keep kB (by omega) (by omega) (by omega)).keep m2 (fun z => z) (fun z => z) (fun z => z), hn, fun g3 H3 k3 LA => ⟨rfl, ?_⟩⟩
    rw [if_pos hout1] at LA
    have kC := (m2.mono (S' := fun c => c = 30 + t) fun _ z => z.elim).trans k3
    have ⟨dxl, lo, epv, os, LA1, LA2, LA3⟩ := LA
    have t2 : Ch (fun c => c = 30 + t) g3 H3 (tg g3 a2 7) H3 := Ch.tagged LA1 rfl
    have kD := kC.trans t2
    have E8 := EA8.keep kD (by omega)
    have L7 : At (tg g3 a2 7) H3 7 a2 (.ins CLe dxl (leF s epv lo LS.slot.str)) := ⟨LA1.1, tg_same⟩
    have L0 : At (tg g3 a2 7) H3 0 lo (.lst (os.map vN)) := LA2.keep t2 (by omega)
    have kE := kB.trans kD
    have a2n : H a2 = none := k1.free (kB.free na2)
    generalize tg g3 a2 7 = g4 at E8 L7 L0 kE
    clear t2 kD kC k3 LA LA1 LA2 EA8 kB m2 b2
    have t3 : Ch (fun c => c = 8) g4 H3 (tg g4 a1 (30 + t)) H3 := Ch.tagged E8 rfl
    have EA : EntAt CEn (tg g4 a1 (30 + t)) H3 a1 t .rd := ⟨dxa, E8.1, tg_same⟩
    have L7' := L7.keep t3 (by omega)
    have L0' := L0.keep t3 (by omega)
    have ME4 := (ME1.keep kE (by omega) (by omega)).keep t3 (by omega) (by omega)
    have SA4 := (SA1.keep kE (by omega) (by omega) (by omega)).keep t3 (by omega) (by omega) (by omega)
    have kF : Ch (SZ t) g H (tg g4 a1 (30 + t)) H3 := (k1.trans (kE.mono fun c z => by unfold SZ; omega)).retag (by
      have h1 : H1 a1 = none := na1
      exact k1.free h1)
    generalize tg g4 a1 (30 + t) = g5 at EA L7' L0' ME4 SA4 kF
    clear t3 kE E8 L7 L0
    refine ⟨size_2 (by show 2 ≤ 100000; decide), fun lm hlm => ⟨_, rfl, ⟨_, SqL.of upd_same⟩, ?_⟩⟩
    have k6 : Ch (fun _ => False) g5 H3 (tg g5 lm 0) (upd H3 lm (.lst [.ref a1, .ref a2])) := Ch.new hlm
    have lm6 := At.new (g := g5) (H := H3) (p := lm) (c := 0) (o := .lst [.ref a1, .ref a2])
    refine for_list (K := K) (a := lm) (xs := [.ref a1, .ref a2]) (fun i σ H' => ∃ (g' : Tg) (E' : Int) (sl' : List (Option Int)) (S' : SS) (cnt' : Nat) (log' : Option Str) (z2 z3 z4 : Option V), σ = [some (.ref m), some (.ref s), some (.int (t : Nat)), some (.int (0 + (j : Int))), z2, z3, z4] ∧ Ch (SZ t) g H g' H' ∧
      At g' H' 0 lm (.lst [.ref a1, .ref a2]) ∧ MemE CLa CMe g' H' m n r E' sl' cnt' log' ∧ StoAt CLa CSt g' H' s n r t S' ∧ cnt' ≤ cnt1 + 30 * i ∧
      ((i = 0 ∧ E' = E1 ∧ S' = S1 ∧ sl' = sl ∧ EntAt CEn g' H' a1 t .rd ∧ At g' H' 7 a2 (.ins CLe dxl (leF s epv lo LS.slot.str)) ∧ At g' H' 0 lo (.lst (os.map vN))) ∨
       (i = 1 ∧ E' = E1 ∧ S' = S1 ∧ sl' = sl.set t (some E1) ∧ At g' H' 7 a2 (.ins CLe dxl (leF s epv lo LS.slot.str)) ∧ At g' H' 0 lo (.lst (os.map vN))) ∨
       (i = 2 ∧ sl' = sl ∧ ((S1.del = [] ∧ E' = E1 ∧ S' = S1) ∨ (E' = E1 + 1 ∧ Rel (E1 + 1) S1 S'))))) ?_ ?_ ?_ ?_
    · exact ⟨_, E1, sl, S1, cnt1, log1, _, _, _, rfl, kF.trans (k6.mono fun _ z => z.elim), lm6, ME4.keep k6 (fun z => z) (fun z => z), SA4.keep k6 (fun z => z) (fun z => z) (fun z => z), by omega,
        .inl ⟨rfl, rfl, rfl, rfl, EA.keep k6 (fun z => z), L7'.keep k6 (fun z => z), L0'.keep k6 (fun z => z)⟩⟩
    · rintro i σ H' hi ⟨g', E', sl', S', cnt', log', z2, z3, z4, rfl, kk, hl, _⟩
      exact SqL.of hl.1
    · rintro i x σ H' hi ⟨g', E', sl', S', cnt', log', z2, z3, z4, rfl, kk, hl, ME', SA', hcc, hcase⟩
      rcases hcase with ⟨rfl, rfl, rfl, rfl, EA', LA', lo'⟩ | ⟨rfl, rfl, rfl, rfl, LA', lo'⟩ | ⟨rfl, _⟩
      · obtain rfl : x = .ref a1 := (Option.some.inj hi).symm
        refine alone_run (ms0 := .en .rd) (Rn := EntRun E' sl' S' t) ME' SA' EA' ⟨rfl, rfl, .inl ⟨rfl, rfl, rfl⟩⟩ (entRuns hsm1) ht (by omega) fun g7 H7 E7 sl7 S7 cnt7 log7 i7 z5 z6 k7 ME7 SA7 hR7 hc7 => ?_
        obtain ⟨rfl, rfl, hR7⟩ := hR7
        rcases hR7 with ⟨_, z, _⟩ | ⟨_, z, _⟩ | ⟨_, z, _⟩ | ⟨_, rfl⟩
        · cases z
        · cases z
        · cases z
        · exact ⟨g7, E7, _, S7, cnt7, log7, _, _, _, rfl, kk.trans k7, hl.keep k7 (by unfold SZ; omega), ME7, SA7, by omega, .inr (.inl ⟨rfl, rfl, rfl, rfl, LA'.keep k7 (by unfold SZ; omega), lo'.keep k7 (by unfold SZ; omega)⟩)⟩
      · obtain rfl : x = .ref a2 := (Option.some.inj hi).symm
        have t5 : Ch (fun c => c = 7) g' H' (tg g' a2 (30 + t)) H' := Ch.tagged LA' rfl
        have LA5 : LeaAt CLe (tg g' a2 (30 + t)) H' a2 s n t .slot := ⟨dxl, lo, epv, os, ⟨LA'.1, tg_same⟩, lo'.keep t5 (by omega), LA3⟩
        have hst1 : sl[t]? = some none := hsl t ht
        refine alone_run (ms0 := .le .slot) (Rn := LeaRun E' sl S' n t) (ME'.keep t5 (by omega) (by omega)) (SA'.keep t5 (by omega) (by omega) (by omega)) LA5 (.inl ⟨rfl, rfl, rfl, rfl, rfl⟩) (leaRuns hsm1 hn hsl hst1) ht (by omega) fun g7 H7 E7 sl7 S7 cnt7 log7 i7 z5 z6 k7 ME7 SA7 hR7 hc7 => ?_
        have kk' : Ch (SZ t) g H g7 H7 := (kk.retag a2n).trans k7
        refine ⟨g7, E7, sl7, S7, cnt7, log7, _, _, _, rfl, kk', (hl.keep t5 (by omega)).keep k7 (by unfold SZ; omega), ME7, SA7, by omega, .inr (.inr ⟨rfl, ?_⟩)⟩
        rcases hR7 with ⟨_, z, _⟩ | ⟨_, rfl, h1, rfl, rfl⟩ | ⟨_, z, _⟩ | ⟨us, _, _, _, z, _⟩ | ⟨_, z, _⟩ | ⟨_, rfl, rfl, h4⟩
        · cases z
        · exact ⟨rfl, .inl ⟨h1, rfl, rfl⟩⟩
        · cases z
        · cases z
        · cases z
        · exact ⟨rfl, .inr ⟨rfl, h4⟩⟩
      · have := (List.getElem?_eq_some_iff.mp hi).1
        exact absurd this (by simp)
    · rintro σ H' ⟨g', E', sl', S', cnt', log', z2, z3, z4, rfl, kk, hl, ME', SA', hcc, hcase⟩
      rcases hcase with ⟨z, _⟩ | ⟨z, _⟩ | ⟨_, rfl, ho⟩
      · cases z
      · cases z
      · exact ⟨g', E', S', cnt', log', _, _, _, _, rfl, kk, ME', SA', hT.next ho, by have : cnt' ≤ cnt1 + 60 := hcc; omega⟩
  · rintro σ H' ⟨g', E', S', cnt', log', z1, z2, z3, z4, rfl, kk, ME', SA', ⟨hd, ho, hs', he⟩, hcc⟩
    have hd : S'.del = [] := hd.elim id fun ⟨_, z, _⟩ => by omega
    have ⟨d, M⟩ := SA'
    refine ⟨_, rfl, _, _, _, rfl, M.ins.1, rfl, g', s, n, r, t, S', rfl, SA', by rw [hd]; exact Nat.zero_le _, fun g2 H2 p refs k2 hl hw => ?_⟩
    have er : refs = [] := by
      have := hw.len
      unfold waitRows at this
      rw [hd, ho] at this
      exact List.eq_nil_of_length_eq_zero this
    subst er
    refine ⟨Nat.zero_le _, fun p2 hp2 => ?_⟩
    have np : p ≠ p2 := ne_of_none hl.1 hp2
    refine ⟨.list [], .list [], .lst (SqL.of (by rw [upd_ne np]; exact hl.1)) .nil, .lst (SqL.of upd_same) .nil, by rfl, by rfl, ?_⟩
    have ev : PyData.eqv (.list []) (.list []) = true := by simp only [PyData.eqv, PyData.eqvAll]
    rw [ev]
    have k3 : Ch (fun _ => False) g2 H2 (tg g2 p2 0) (upd H2 p2 (.lst [])) := Ch.new hp2
    exact q _ _ E' cnt' log' (kk.trans ((k2.trans k3).mono fun _ z => z.elim)) ((ME'.keep k2 (fun z => z) (fun z => z)).keep k3 (fun z => z) (fun z => z)) he (by omega)
end

/-! ### the law's state, plainly -/
def fs {α : Type} (f : Nat → α) (t : Nat) (x : α) : Nat → α := fun u => if u = t then x else f u
theorem fs_same {α : Type} {f : Nat → α} {t : Nat} {x : α} : fs f t x t = x := if_pos rfl
theorem fs_ne {α : Type} {f : Nat → α} {t u : Nat} {x : α} (h : u ≠ t) : fs f t x u = f u := if_neg h
inductive Ph where
  | out
  | ent
  | inn
  | lea
def Ph.str : Ph → Str
  | .out => "out"
  | .ent => "entering"
  | .inn => "in"
  | .lea => "leaving"
structure LSt where
  E : Int
  slot : Nat → Option Int
  sto : Nat → SS
  ph : Nat → Ph
  wk : Nat → Int
  stk : Nat → Option MS
  sh : Nat → Option Int
  rows : Nat → List Row
  act : List Call
  ser : Nat
def inAct (L : LSt) (u : Nat) : Prop := ∃ q ∈ L.act, q.1 = u
def LeaInv (T : Nat) (L : LSt) (e : Int) (us : List Nat) : Prop := e ≤ L.E ∧ (∀ x ∈ us, x < T) ∧ (L.E = e → ∀ q ∈ L.act, q.1 ∉ us → L.slot q.1 = some L.E)
/-- a thread's phase, its stack, its slot, whether it is in a call, what it has taken out -/
def ThC (ia : Prop) (li : Int → List Nat → Prop) (slot : Option Int) (out : List Int) : Ph → Option MS → Prop
  | .out, _ => slot = none ∧ ¬ ia ∧ out = []
  | .ent, none => out = [] ∧ ia
  | .ent, some (.en .rd) => out = [] ∧ ¬ ia ∧ slot = none
  | .ent, some (.en (.wr _)) => out = [] ∧ ¬ ia
  | .ent, some (.en (.ag e)) => out = [] ∧ ¬ ia ∧ slot = some e
  | .ent, some _ => False
  | .inn, _ => ia
  | .lea, none => slot = none ∧ ¬ ia ∧ out = []
  | .lea, some (.le .stamp) => ia
  | .lea, some (.le .slot) => ia ∧ out = []
  | .lea, some (.le .epoch) => slot = none ∧ ¬ ia ∧ out = []
  | .lea, some (.le (.other e us)) => slot = none ∧ ¬ ia ∧ out = [] ∧ us ≠ [] ∧ li e us
  | .lea, some (.le (.move e)) => slot = none ∧ ¬ ia ∧ out = [] ∧ li e []
  | .lea, some _ => False
theorem ThC.imp {ia ia' : Prop} {li li' : Int → List Nat → Prop} {slot : Option Int} {out : List Int} {ph : Ph} {c : Option MS} (h : ThC ia li slot out ph c) (hi : ia ↔ ia') (hl : ∀ e us, li e us → li' e us) : ThC ia' li' slot out ph c := by
  have e : ia = ia' := propext hi
  subst e
  cases ph with
  | out => exact h
  | ent => exact (by
      match c, h with
      | none, h => exact h
      | some (.en .rd), h => exact h
      | some (.en (.wr _)), h => exact h
      | some (.en (.ag _)), h => exact h
      | some (.en (.dn _)), h => exact h
      | some (.le _), h => exact h)
  | inn => exact h
  | lea => exact (by
      match c, h with
      | none, h => exact h
      | some (.en _), h => exact h
      | some (.le .stamp), h => exact h
      | some (.le .slot), h => exact h
      | some (.le .epoch), h => exact h
      | some (.le (.other e us)), h => exact ⟨h.1, h.2.1, h.2.2.1, h.2.2.2.1, hl _ _ h.2.2.2.2⟩
      | some (.le (.move e)), h => exact ⟨h.1, h.2.1, h.2.2.1, hl _ _ h.2.2.2⟩
      | some (.le .dn), h => exact h)
abbrev LSt.thc (T : Nat) (L : LSt) (u : Nat) : Prop := ThC (inAct L u) (LeaInv T L) (L.slot u) (L.sto u).out (L.ph u) (L.stk u)
structure RowInv (L : LSt) (u : Nat) (row : Row) : Prop where
  o : row.c ∈ (L.sto u).out → ∃ q ∈ L.act, q.1 = u ∧ q ∈ row.A
  d : ∀ p ∈ (L.sto u).del, row.c ∈ p.2 → (∀ q ∈ L.act, q ∈ row.A → ∀ v, L.slot q.1 = some v → v ≤ p.1) ∧ (∀ q ∈ L.act, q ∈ row.B → ∀ v, L.slot q.1 = some v → v ≤ p.1 + 1)
  s : row.c ∈ (L.sto u).spare → ∀ q ∈ L.act, q ∉ row.A ∧ q ∉ row.B
  ser : ∀ q, q ∈ row.A ∨ q ∈ row.B → q.2 ≤ L.ser
def SS.all (S : SS) : List Int := S.spare ++ S.del.flatMap (·.2) ++ S.out
structure PInv (T : Nat) (F : Nat → List Int) (kk : Nat) (L : LSt) : Prop where
  th : ∀ u, u < T → L.thc T u
  whole : ∀ u, u < T → (L.sto u).all.Perm (F u)
  stamps : ∀ u, u < T → ∀ p ∈ (L.sto u).del, p.1 ≤ L.E
  dl : ∀ u, u < T → (L.sto u).del.length ≤ kk
  act1 : ∀ q ∈ L.act, q.1 < T ∧ q.2 ≤ L.ser
  actN : (L.act.map (·.1)).Nodup
  actS : ∀ q ∈ L.act, ∃ v, L.slot q.1 = some v ∧ L.sh q.1 = some v ∧ v ≤ L.E ∧ L.E ≤ v + 1
  rows : ∀ u, u < T → ∀ row ∈ L.rows u, RowInv L u row
/-- what another thread's access may change -/
structure Env (L L1 : LSt) (t : Nat) : Prop where
  e : L.E ≤ L1.E
  old : ∀ q ∈ L1.act, (q ∈ L.act ∧ L1.slot q.1 = L.slot q.1) ∨ (q = (t, L.ser + 1) ∧ L1.slot t = some L.E ∧ L1.E = L.E)
  keep : ∀ q ∈ L.act, q.1 ≠ t → q ∈ L1.act
  slot : ∀ u, u ≠ t → L1.slot u = L.slot u
  sto : ∀ u, u ≠ t → L1.sto u = L.sto u
  ph : ∀ u, u ≠ t → L1.ph u = L.ph u
  stk : ∀ u, u ≠ t → L1.stk u = L.stk u
  rows : ∀ u, u ≠ t → L1.rows u = L.rows u
  ser : L.ser ≤ L1.ser
section
variable {T kk t : Nat} {F : Nat → List Int} {L L1 : LSt}
theorem RowInv.mv {u : Nat} {row : Row} (h : RowInv L u row) (a : ∀ q ∈ L1.act, q ∈ row.A ∨ q ∈ row.B → q ∈ L.act ∧ L1.slot q.1 = L.slot q.1) (s : L1.sto u = L.sto u) (o : row.c ∈ (L.sto u).out → ∃ q ∈ L1.act, q.1 = u ∧ q ∈ row.A) (z : L.ser ≤ L1.ser) : RowInv L1 u row := by
  refine ⟨fun e => ?_, fun p hp hc => ?_, fun e q hq => ?_, fun q hq => Nat.le_trans (h.ser q hq) z⟩
  · rw [s] at e
    exact o e
  · rw [s] at hp
    obtain ⟨d1, d2⟩ := h.d p hp hc
    refine ⟨fun q hq hA v hv => ?_, fun q hq hB v hv => ?_⟩
    · obtain ⟨a1, a2⟩ := a q hq (.inl hA)
      exact d1 q a1 hA v (a2 ▸ hv)
    · obtain ⟨a1, a2⟩ := a q hq (.inr hB)
      exact d2 q a1 hB v (a2 ▸ hv)
  · rw [s] at e
    refine ⟨fun hA => ?_, fun hB => ?_⟩
    · exact (h.s e q (a q hq (.inl hA)).1).1 hA
    · exact (h.s e q (a q hq (.inr hB)).1).2 hB
theorem Env.row {u : Nat} {row : Row} (n : Env L L1 t) (hu : u ≠ t) (h : RowInv L u row) : RowInv L1 u row := by
  refine h.mv (fun q hq hab => ?_) (n.sto u hu) (fun e => ?_) n.ser
  · rcases n.old q hq with z | ⟨rfl, _⟩
    · exact z
    · have := h.ser _ hab
      exact absurd this (by show ¬ L.ser + 1 ≤ L.ser; omega)
  · obtain ⟨q, h1, h2, h3⟩ := h.o e
    exact ⟨q, n.keep q h1 (by rw [h2]; exact hu), h2, h3⟩
theorem Env.lea (n : Env L L1 t) {e : Int} {us : List Nat} (h : LeaInv T L e us) : LeaInv T L1 e us := by
  obtain ⟨h1, h2, h3⟩ := h
  refine ⟨Int.le_trans h1 n.e, h2, fun he q hq hn => ?_⟩
  have e1 : L.E = e := Int.le_antisymm (he ▸ n.e) h1
  have e2 : L1.E = L.E := he.trans e1.symm
  rcases n.old q hq with ⟨z1, z2⟩ | ⟨rfl, z2, _⟩
  · rw [z2, e2]
    exact h3 e1 q z1 hn
  · rw [e2]
    exact z2
theorem Env.inAct {u : Nat} (n : Env L L1 t) (hu : u ≠ t) : inAct L u ↔ inAct L1 u := by
  refine ⟨fun ⟨q, h1, h2⟩ => ⟨q, n.keep q h1 (by rw [h2]; exact hu), h2⟩, fun ⟨q, h1, h2⟩ => ?_⟩
  rcases n.old q h1 with ⟨z1, _⟩ | ⟨rfl, _⟩
  · exact ⟨q, z1, h2⟩
  · exact absurd h2.symm hu
theorem Env.thc {u : Nat} (n : Env L L1 t) (hu : u ≠ t) (h : L.thc T u) : L1.thc T u := by
  show ThC (Dk.inAct L1 u) (LeaInv T L1) (L1.slot u) (L1.sto u).out (L1.ph u) (L1.stk u)
  rw [n.slot u hu, n.sto u hu, n.ph u hu, n.stk u hu]
  exact h.imp (n.inAct hu) fun e us z => n.lea z
/-- one thread's access: what is to be shown of this thread -/
theorem PInv.env (h : PInv T F kk L) (n : Env L L1 t) (th : L1.thc T t) (wh : (L1.sto t).all.Perm (F t)) (st : ∀ p ∈ (L1.sto t).del, p.1 ≤ L1.E) (dl : (L1.sto t).del.length ≤ kk + 1) (a1 : ∀ q ∈ L1.act, q.1 < T ∧ q.2 ≤ L1.ser) (aN : (L1.act.map (·.1)).Nodup)
    (aS : ∀ q ∈ L1.act, ∃ v, L1.slot q.1 = some v ∧ L1.sh q.1 = some v ∧ v ≤ L1.E ∧ L1.E ≤ v + 1) (rw_ : ∀ row ∈ L1.rows t, RowInv L1 t row) : PInv T F (kk + 1) L1 where
  th := fun u hu => by
    by_cases e : u = t
    · subst e
      exact th
    · exact n.thc e (h.th u hu)
  whole := fun u hu => by
    by_cases e : u = t
    · subst e
      exact wh
    · rw [n.sto u e]
      exact h.whole u hu
  stamps := fun u hu p hp => by
    by_cases e : u = t
    · subst e
      exact st p hp
    · rw [n.sto u e] at hp
      exact Int.le_trans (h.stamps u hu p hp) n.e
  dl := fun u hu => by
    by_cases e : u = t
    · subst e
      exact dl
    · rw [n.sto u e]
      exact Nat.le_succ_of_le (h.dl u hu)
  act1 := a1
  actN := aN
  actS := aS
  rows := fun u hu row hr => by
    by_cases e : u = t
    · subst e
      exact rw_ row hr
    · rw [n.rows u e] at hr
      exact n.row e (h.rows u hu row hr)
/-- an access that leaves the epoch and the calls as they are, and the slots of those in calls -/
theorem PInv.quiet (h : PInv T F kk L) (ht : t < T) (eE : L1.E = L.E) (ea : L1.act = L.act) (es : L1.ser = L.ser) (eh : L1.sh = L.sh) (ho : ∀ u, u ≠ t → L1.slot u = L.slot u ∧ L1.sto u = L.sto u ∧ L1.ph u = L.ph u ∧ L1.stk u = L.stk u ∧ L1.rows u = L.rows u)
    (hs : L1.slot t = L.slot t ∨ ¬ inAct L t) (er : L1.rows t = L.rows t) (eS : L1.sto t = L.sto t) (th : L1.thc T t) : PInv T F (kk + 1) L1 := by
  have sl : ∀ q ∈ L.act, L1.slot q.1 = L.slot q.1 := fun q hq => by
    by_cases e : q.1 = t
    · rcases hs with hs | hs
      · rw [e]
        exact hs
      · exact absurd ⟨q, hq, e⟩ hs
    · exact (ho _ e).1
  have n : Env L L1 t := ⟨by rw [eE]; exact Int.le_refl _, fun q hq => .inl (by rw [ea] at hq; exact ⟨hq, sl q hq⟩), fun q hq _ => by rw [ea]; exact hq, fun u hu => (ho u hu).1, fun u hu => (ho u hu).2.1, fun u hu => (ho u hu).2.2.1, fun u hu => (ho u hu).2.2.2.1, fun u hu => (ho u hu).2.2.2.2, by rw [es]; exact Nat.le_refl _⟩
  refine h.env n th (by rw [eS]; exact h.whole t ht) (by rw [eS, eE]; exact h.stamps t ht) (by rw [eS]; exact Nat.le_succ_of_le (h.dl t ht)) (by rw [ea, es]; exact h.act1) (by rw [ea]; exact h.actN) (fun q hq => ?_) (fun row hr => ?_)
  · rw [ea] at hq
    obtain ⟨v, v1, v2, v3, v4⟩ := h.actS q hq
    exact ⟨v, (sl q hq).trans v1, by rw [eh]; exact v2, by rw [eE]; exact v3, by rw [eE]; exact v4⟩
  · rw [er] at hr
    have r := h.rows t ht row hr
    refine r.mv (fun q hq _ => ?_) eS (fun e => ?_) (by rw [es]; exact Nat.le_refl _)
    · rw [ea] at hq
      exact ⟨hq, sl q hq⟩
    · rw [ea]
      exact r.o e
end

/-! ### the accesses, plainly -/
def rl {α : Type} (T : Nat) (f : Nat → α) : List α := (List.range T).map f
theorem rl_get {α : Type} {T u : Nat} {f : Nat → α} (h : u < T) : (rl T f)[u]? = some (f u) := by
  unfold rl
  rw [List.getElem?_map, List.getElem?_range h]
  rfl
theorem rl_len {α : Type} {T : Nat} {f : Nat → α} : (rl T f).length = T := by
  unfold rl
  rw [List.length_map, List.length_range]
theorem rl_set {α : Type} {T t : Nat} {f : Nat → α} {x : α} : (rl T f).set t x = rl T (fs f t x) := by
  refine List.ext_getElem? fun u => ?_
  by_cases hu : u < T
  · by_cases e : t = u
    · subst e
      rw [List.getElem?_set_self (by rw [rl_len]; exact hu), rl_get hu, fs_same]
    · rw [List.getElem?_set_ne e, rl_get hu, rl_get hu, fs_ne (fun z => e z.symm)]
  · rw [List.getElem?_eq_none (by rw [List.length_set, rl_len]; omega), List.getElem?_eq_none (by rw [rl_len]; omega)]
theorem rl_map {α β : Type} {T : Nat} {f : Nat → α} {k : α → β} : (rl T f).map k = rl T fun u => k (f u) := by
  unfold rl
  rw [List.map_map]
  rfl
def MS.aftSlot (t : Nat) (slot : Nat → Option Int) : MS → Nat → Option Int
  | .en (.wr x) => fs slot t (some x)
  | .le .slot => fs slot t none
  | _ => slot
theorem aftSl_rl (T t : Nat) (slot : Nat → Option Int) (ms : MS) : ms.aftSl t (rl T slot) = rl T (ms.aftSlot t slot) := by
  cases ms with
  | en st => cases st with
    | wr x => exact rl_set
    | rd => rfl
    | ag e => rfl
    | dn e => rfl
  | le st => cases st with
    | slot => exact rl_set
    | stamp => rfl
    | epoch => rfl
    | other e us => rfl
    | move e => rfl
    | dn => rfl
theorem frd_split (k : Int) : ∀ del : List (Int × List Int), (frd k del ++ (kept k del).flatMap (·.2)).Perm (del.flatMap (·.2))
  | [] => .nil
  | p :: del => by
    have ih := frd_split k del
    unfold frd kept at ih ⊢
    rw [List.filter_cons, List.filter_cons, List.flatMap_cons]
    by_cases h : p.1 ≤ k - 3
    · simp only [h, decide_true, if_true, Bool.not_true, if_false, List.flatMap_cons, Bool.false_eq_true, List.append_assoc]
      exact ih.append_left _
    · simp only [h, decide_false, if_false, Bool.not_false, if_true, List.flatMap_cons, Bool.false_eq_true]
      refine List.Perm.trans ?_ (ih.append_left p.2)
      rw [← List.append_assoc, ← List.append_assoc]
      exact List.Perm.append_right _ List.perm_append_comm
theorem Rel.all {k : Int} {S S' : SS} (h : Rel k S S') : S'.all.Perm S.all := by
  obtain ⟨sp, rfl, hp⟩ := h
  show (sp ++ (kept k S.del).flatMap (·.2) ++ S.out).Perm (S.spare ++ S.del.flatMap (·.2) ++ S.out)
  refine List.Perm.append_right _ ?_
  refine (hp.append_right _).trans ?_
  rw [List.append_assoc]
  exact (frd_split k S.del).append_left _
theorem mem_frd {k : Int} {del : List (Int × List Int)} {c : Int} (h : c ∈ frd k del) : ∃ p ∈ del, p.1 ≤ k - 3 ∧ c ∈ p.2 := by
  unfold frd at h
  obtain ⟨p, hp, hc⟩ := List.mem_flatMap.mp h
  obtain ⟨h1, h2⟩ := List.mem_filter.mp hp
  exact ⟨p, h1, of_decide_eq_true h2, hc⟩
section
variable {T kk t : Nat} {F : Nat → List Int} {L L1 : LSt}
/-- what is old enough becomes free: nobody in a call knows it -/
theorem PInv.rel {k : Int} (h : PInv T F kk L) (ht : t < T) (eE : L.E ≤ L1.E) (ea : L1.act = L.act) (es : L1.ser = L.ser) (eh : L1.sh = L.sh) (eslot : L1.slot = L.slot) (ho : ∀ u, u ≠ t → L1.sto u = L.sto u ∧ L1.ph u = L.ph u ∧ L1.stk u = L.stk u ∧ L1.rows u = L.rows u)
    (er : L1.rows t = L.rows t) (hr : Rel k (L.sto t) (L1.sto t)) (hk : k ≤ L1.E) (hout : (L.sto t).out = []) (hS : ∀ q ∈ L.act, ∀ v, L.slot q.1 = some v → L1.E ≤ v + 1) (th : L1.thc T t) : PInv T F (kk + 1) L1 := by
  have sl : ∀ q : Call, L1.slot q.1 = L.slot q.1 := fun q => by rw [eslot]
  have n : Env L L1 t := ⟨eE, fun q hq => .inl (by rw [ea] at hq; exact ⟨hq, sl q⟩), fun q hq _ => by rw [ea]; exact hq, fun u hu => by rw [eslot], fun u hu => (ho u hu).1, fun u hu => (ho u hu).2.1, fun u hu => (ho u hu).2.2.1, fun u hu => (ho u hu).2.2.2, by rw [es]; exact Nat.le_refl _⟩
  have hall := hr.all
  obtain ⟨sp, eS, hp⟩ := hr
  have hkm : ∀ p ∈ kept k (L.sto t).del, p ∈ (L.sto t).del := fun p hp => (List.mem_filter.mp hp).1
  refine h.env n th (hall.trans (h.whole t ht)) ?_ ?_ (by rw [ea, es]; exact h.act1) (by rw [ea]; exact h.actN) (fun q hq => ?_) (fun row hrow => ?_)
  · rw [eS]
    intro p hp
    exact Int.le_trans (h.stamps t ht p (hkm p hp)) eE
  · rw [eS]
    exact Nat.le_succ_of_le (Nat.le_trans (kept_len k _) (h.dl t ht))
  · rw [ea] at hq
    obtain ⟨v, v1, v2, v3, v4⟩ := h.actS q hq
    exact ⟨v, (sl q).trans v1, by rw [eh]; exact v2, Int.le_trans v3 eE, hS q hq v v1⟩
  · rw [er] at hrow
    have r := h.rows t ht row hrow
    refine ⟨fun e => ?_, fun p hp hc => ?_, fun e q hq => ?_, fun q hq => by rw [es]; exact r.ser q hq⟩
    · rw [eS] at e
      have e : row.c ∈ (L.sto t).out := e
      rw [hout] at e
      cases e
    · rw [eS] at hp
      obtain ⟨d1, d2⟩ := r.d p (hkm p hp) hc
      rw [ea]
      exact ⟨fun q hq hA v hv => d1 q hq hA v ((sl q) ▸ hv), fun q hq hB v hv => d2 q hq hB v ((sl q) ▸ hv)⟩
    · rw [ea] at hq
      rw [eS] at e
      have e : row.c ∈ sp := e
      rcases List.mem_append.mp (hp.mem_iff.mp e) with e | e
      · exact r.s e q hq
      · obtain ⟨p, p1, p2, p3⟩ := mem_frd e
        obtain ⟨d1, d2⟩ := r.d p p1 p3
        obtain ⟨v, v1, _, v3, _⟩ := h.actS q hq
        have v4 := hS q hq v v1
        refine ⟨fun hA => ?_, fun hB => ?_⟩
        · have := d1 q hq hA v v1
          omega
        · have := d2 q hq hB v v1
          omega
/-- the state behind a machine's access -/
def LSt.step (L : LSt) (t : Nat) (ms : MS) (S' : SS) (c' : Option MS) : LSt := { L with E := ms.aftE L.E, slot := ms.aftSlot t L.slot, sto := fs L.sto t S', stk := fs L.stk t c' }
theorem step_ph {t : Nat} {ms : MS} {S' : SS} {c' : Option MS} : (L.step t ms S' c').ph = L.ph := rfl
theorem fs_id {α : Type} {f : Nat → α} {t : Nat} : fs f t (f t) = f := by
  funext u
  unfold fs
  split
  · rename_i e
    rw [e]
  · rfl
/-- entering: a read, a write, a read that finds another epoch -/
theorem PInv.ent (h : PInv T F kk L) (ht : t < T) {st : ES} (hp : L.ph t = .ent) (hc : L.stk t = some (.en st)) (hn : st ≠ .ag L.E) : PInv T F (kk + 1) (L.step t (.en st) (L.sto t) (settled (some (.en (st.acc L.E))))) := by
  have th := h.th t ht
  have th : ThC (inAct L t) (LeaInv T L) (L.slot t) (L.sto t).out (L.ph t) (L.stk t) := th
  rw [hp, hc] at th
  have ho : ∀ {ms : MS} {c' : Option MS} (u : Nat), u ≠ t → (L.step t ms (L.sto t) c').slot u = L.slot u ∧ (L.step t ms (L.sto t) c').sto u = L.sto u ∧ (L.step t ms (L.sto t) c').ph u = L.ph u ∧ (L.step t ms (L.sto t) c').stk u = L.stk u ∧ (L.step t ms (L.sto t) c').rows u = L.rows u := fun {ms c'} u hu => by
    refine ⟨?_, fs_ne hu, rfl, fs_ne hu, rfl⟩
    show ms.aftSlot t L.slot u = L.slot u
    cases ms with
    | en st => cases st <;> first | rfl | exact fs_ne hu
    | le st => cases st <;> first | rfl | exact fs_ne hu
  have go : ∀ {ms : MS} {c' : Option MS}, ms.aftE L.E = L.E → ((ms.aftSlot t L.slot) t = L.slot t ∨ ¬ inAct L t) → ThC (inAct L t) (LeaInv T (L.step t ms (L.sto t) c')) (ms.aftSlot t L.slot t) (L.sto t).out .ent c' → PInv T F (kk + 1) (L.step t ms (L.sto t) c') := fun {ms c'} e1 e2 e3 => by
    refine h.quiet ht e1 rfl rfl rfl (fun u hu => ho u hu) e2 rfl fs_same ?_
    show ThC (inAct L t) _ (ms.aftSlot t L.slot t) (fs L.sto t (L.sto t) t).out (L.ph t) (fs L.stk t c' t)
    rw [fs_same, fs_same, hp]
    exact e3
  cases st with
  | rd =>
    obtain ⟨t1, t2, t3⟩ := th
    exact go rfl (.inl rfl) ⟨t1, t2⟩
  | wr e =>
    obtain ⟨t1, t2⟩ := th
    exact go rfl (.inr t2) ⟨t1, t2, fs_same⟩
  | ag e =>
    obtain ⟨t1, t2, t3⟩ := th
    have he : ¬ L.E = e := fun z => hn (by rw [z])
    have e1 : settled (some (.en ((ES.ag e).acc L.E))) = some (.en (.wr L.E)) := by
      show settled (some (.en (if L.E = e then .dn e else .wr L.E))) = _
      rw [if_neg he]
      rfl
    rw [e1]
    exact go rfl (.inl rfl) ⟨t1, t2⟩
  | dn e => exact th.elim
/-- entering ends: a new call -/
theorem PInv.new (h : PInv T F kk L) (ht : t < T) (hp : L.ph t = .ent) (hc : L.stk t = some (.en (.ag L.E))) :
    PInv T F (kk + 1) { L.step t (.en (.ag L.E)) (L.sto t) none with ser := L.ser + 1, sh := fs L.sh t (some L.E), act := L.act ++ [(t, L.ser + 1)] } := by
  have th : ThC (inAct L t) (LeaInv T L) (L.slot t) (L.sto t).out (L.ph t) (L.stk t) := h.th t ht
  rw [hp, hc] at th
  obtain ⟨t1, t2, t3⟩ := th
  have nt : ∀ q ∈ L.act, q.1 ≠ t := fun q hq e => t2 ⟨q, hq, e⟩
  have n : Env L { L.step t (.en (.ag L.E)) (L.sto t) none with ser := L.ser + 1, sh := fs L.sh t (some L.E), act := L.act ++ [(t, L.ser + 1)] } t := by
    refine ⟨Int.le_refl _, fun q hq => ?_, fun q hq _ => List.mem_append_left _ hq, fun u hu => rfl, fun u hu => fs_ne hu, fun u hu => rfl, fun u hu => fs_ne hu, fun u hu => rfl, Nat.le_succ _⟩
    rcases List.mem_append.mp hq with hq | hq
    · exact .inl ⟨hq, rfl⟩
    · exact .inr ⟨List.mem_singleton.mp hq, t3, rfl⟩
  refine h.env n ?_ ?_ ?_ ?_ ?_ ?_ ?_ ?_
  · show ThC _ _ (L.slot t) (fs L.sto t (L.sto t) t).out (L.ph t) (fs L.stk t none t)
    rw [fs_same, fs_same, hp]
    exact ⟨t1, (t, L.ser + 1), List.mem_append_right _ (List.mem_singleton.mpr rfl), rfl⟩
  · show (fs L.sto t (L.sto t) t).all.Perm _
    rw [fs_same]
    exact h.whole t ht
  · show ∀ p ∈ (fs L.sto t (L.sto t) t).del, p.1 ≤ L.E
    rw [fs_same]
    exact h.stamps t ht
  · show (fs L.sto t (L.sto t) t).del.length ≤ _
    rw [fs_same]
    exact Nat.le_succ_of_le (h.dl t ht)
  · intro q hq
    rcases List.mem_append.mp hq with hq | hq
    · exact ⟨(h.act1 q hq).1, Nat.le_succ_of_le (h.act1 q hq).2⟩
    · rw [List.mem_singleton.mp hq]
      exact ⟨ht, Nat.le_refl _⟩
  · show ((L.act ++ [(t, L.ser + 1)]).map (·.1)).Nodup
    rw [List.map_append]
    refine List.nodup_append.mpr ⟨h.actN, by simp, fun a ha b hb => ?_⟩
    obtain ⟨q, q1, q2⟩ := List.mem_map.mp ha
    have : b = t := by simpa using hb
    rw [this, ← q2]
    exact nt q q1
  · intro q hq
    rcases List.mem_append.mp hq with hq | hq
    · obtain ⟨v, v1, v2, v3, v4⟩ := h.actS q hq
      exact ⟨v, v1, (fs_ne (nt q hq)).trans v2, v3, v4⟩
    · rw [List.mem_singleton.mp hq]
      exact ⟨L.E, t3, fs_same, Int.le_refl _, by show L.E ≤ L.E + 1; omega⟩
  · intro row hr
    have r := h.rows t ht row hr
    refine r.mv (fun q hq hab => ?_) fs_same (fun e => ?_) (Nat.le_succ _)
    · rcases List.mem_append.mp hq with hq | hq
      · exact ⟨hq, rfl⟩
      · rw [List.mem_singleton.mp hq] at hab
        exact absurd (r.ser _ hab) (by show ¬ L.ser + 1 ≤ L.ser; omega)
    · rw [t1] at e
      cases e
/-- phases alone -/
theorem PInv.phase (h : PInv T F kk L) (ht : t < T) {p : Ph} {c : Option MS} {w : Int} (th : ThC (inAct L t) (LeaInv T L) (L.slot t) (L.sto t).out p c) : PInv T F (kk + 1) { L with ph := fs L.ph t p, stk := fs L.stk t c, wk := fs L.wk t w } := by
  refine h.quiet ht rfl rfl rfl rfl (fun u hu => ⟨rfl, rfl, fs_ne hu, fs_ne hu, rfl⟩) (.inl rfl) rfl rfl ?_
  show ThC (inAct L t) (LeaInv T L) (L.slot t) (L.sto t).out (fs L.ph t p t) (fs L.stk t c t)
  rw [fs_same, fs_same]
  exact th
theorem PInv.mono {kk' : Nat} (h : PInv T F kk L) (hk : kk ≤ kk') : PInv T F kk' L := ⟨h.th, h.whole, h.stamps, fun u hu => Nat.le_trans (h.dl u hu) hk, h.act1, h.actN, h.actS, h.rows⟩
end

section
variable {T kk t : Nat} {F : Nat → List Int} {L L1 : LSt}
theorem LeaInv.mv {e : Int} {us : List Nat} (h : LeaInv T L e us) (eE : L1.E = L.E) (ea : L1.act = L.act) (es : ∀ q ∈ L.act, L1.slot q.1 = L.slot q.1) : LeaInv T L1 e us := by
  obtain ⟨h1, h2, h3⟩ := h
  refine ⟨by rw [eE]; exact h1, h2, fun z q hq hn => ?_⟩
  rw [ea] at hq
  rw [eE] at z ⊢
  rw [es q hq]
  exact h3 z q hq hn
/-- leaving: the slot is given up, the call is over -/
theorem PInv.leaSlot (h : PInv T F kk L) (ht : t < T) (hp : L.ph t = .lea) (hc : L.stk t = some (.le .slot)) :
    PInv T F (kk + 1) { L.step t (.le .slot) (L.sto t) (settled (some (.le (if (L.sto t).del = [] then .dn else .epoch)))) with act := L.act.filter fun q => decide (q.1 ≠ t) } := by
  have th : ThC (inAct L t) (LeaInv T L) (L.slot t) (L.sto t).out (L.ph t) (L.stk t) := h.th t ht
  rw [hp, hc] at th
  obtain ⟨t1, t2⟩ := th
  have mem : ∀ q, q ∈ (L.act.filter fun q => decide (q.1 ≠ t)) → q ∈ L.act ∧ q.1 ≠ t := fun q hq => by
    obtain ⟨h1, h2⟩ := List.mem_filter.mp hq
    exact ⟨h1, of_decide_eq_true h2⟩
  have n : Env L { L.step t (.le .slot) (L.sto t) (settled (some (.le (if (L.sto t).del = [] then .dn else .epoch)))) with act := L.act.filter fun q => decide (q.1 ≠ t) } t := by
    refine ⟨Int.le_refl _, fun q hq => ?_, fun q hq e => ?_, fun u hu => fs_ne hu, fun u hu => fs_ne hu, fun u hu => rfl, fun u hu => fs_ne hu, fun u hu => rfl, Nat.le_refl _⟩
    · obtain ⟨m1, m2⟩ := mem q hq
      exact .inl ⟨m1, fs_ne m2⟩
    · exact List.mem_filter.mpr ⟨hq, decide_eq_true e⟩
  refine h.env n ?_ ?_ ?_ ?_ ?_ ?_ ?_ ?_
  · have ni : ¬ Dk.inAct { L.step t (.le .slot) (L.sto t) (settled (some (.le (if (L.sto t).del = [] then .dn else .epoch)))) with act := L.act.filter fun q => decide (q.1 ≠ t) } t := fun ⟨q, hq, e⟩ => (mem q hq).2 e
    show ThC (Dk.inAct _ t) _ (fs L.slot t none t) (fs L.sto t (L.sto t) t).out (L.ph t) (fs L.stk t _ t)
    rw [fs_same, fs_same, fs_same, hp]
    by_cases hd : (L.sto t).del = []
    · rw [if_pos hd] at ni ⊢
      exact ⟨rfl, ni, t2⟩
    · rw [if_neg hd] at ni ⊢
      exact ⟨rfl, ni, t2⟩
  · show (fs L.sto t (L.sto t) t).all.Perm _
    rw [fs_same]
    exact h.whole t ht
  · show ∀ p ∈ (fs L.sto t (L.sto t) t).del, p.1 ≤ L.E
    rw [fs_same]
    exact h.stamps t ht
  · show (fs L.sto t (L.sto t) t).del.length ≤ _
    rw [fs_same]
    exact Nat.le_succ_of_le (h.dl t ht)
  · intro q hq
    exact h.act1 q (mem q hq).1
  · exact h.actN.sublist (List.filter_sublist.map _)
  · intro q hq
    obtain ⟨m1, m2⟩ := mem q hq
    obtain ⟨v, v1, v2, v3, v4⟩ := h.actS q m1
    exact ⟨v, (fs_ne m2).trans v1, v2, v3, v4⟩
  · intro row hr
    have r := h.rows t ht row hr
    refine r.mv (fun q hq _ => ?_) fs_same (fun e => ?_) (Nat.le_refl _)
    · obtain ⟨m1, m2⟩ := mem q hq
      exact ⟨m1, fs_ne m2⟩
    · rw [t2] at e
      cases e
/-- leaving: the stamp -/
theorem PInv.leaStamp (h : PInv T F kk L) (ht : t < T) (hp : L.ph t = .lea) (hc : L.stk t = some (.le .stamp)) :
    PInv T F (kk + 1) (L.step t (.le .stamp) { L.sto t with out := [], del := (L.sto t).del ++ [(L.E, (L.sto t).out)] } (some (.le .slot))) := by
  have th : ThC (inAct L t) (LeaInv T L) (L.slot t) (L.sto t).out (L.ph t) (L.stk t) := h.th t ht
  rw [hp, hc] at th
  have th : inAct L t := th
  have n : Env L (L.step t (.le .stamp) { L.sto t with out := [], del := (L.sto t).del ++ [(L.E, (L.sto t).out)] } (some (.le .slot))) t :=
    ⟨Int.le_refl _, fun q hq => .inl ⟨hq, rfl⟩, fun q hq _ => hq, fun u hu => rfl, fun u hu => fs_ne hu, fun u hu => rfl, fun u hu => fs_ne hu, fun u hu => rfl, Nat.le_refl _⟩
  refine h.env n ?_ ?_ ?_ ?_ h.act1 h.actN h.actS ?_
  · show ThC (inAct L t) _ (L.slot t) (fs L.sto t _ t).out (L.ph t) (fs L.stk t _ t)
    rw [fs_same, fs_same, hp]
    exact ⟨th, rfl⟩
  · show (fs L.sto t _ t).all.Perm _
    rw [fs_same]
    refine List.Perm.trans ?_ (h.whole t ht)
    show ((L.sto t).spare ++ ((L.sto t).del ++ [(L.E, (L.sto t).out)]).flatMap (fun p : Int × List Int => p.2) ++ []).Perm ((L.sto t).spare ++ (L.sto t).del.flatMap (fun p : Int × List Int => p.2) ++ (L.sto t).out)
    rw [List.append_nil, List.flatMap_append, List.append_assoc]
    simp
  · show ∀ p ∈ (fs L.sto t _ t).del, p.1 ≤ L.E
    rw [fs_same]
    intro p hp
    rcases List.mem_append.mp hp with hp | hp
    · exact h.stamps t ht p hp
    · rw [List.mem_singleton.mp hp]
      exact Int.le_refl _
  · show (fs L.sto t _ t).del.length ≤ _
    rw [fs_same]
    show ((L.sto t).del ++ [_]).length ≤ kk + 1
    rw [List.length_append]
    exact Nat.succ_le_succ (h.dl t ht)
  · intro row hr
    have r := h.rows t ht row hr
    have eS : (L.step t (.le .stamp) { L.sto t with out := [], del := (L.sto t).del ++ [(L.E, (L.sto t).out)] } (some (.le .slot))).sto t = { L.sto t with out := [], del := (L.sto t).del ++ [(L.E, (L.sto t).out)] } := fs_same
    refine ⟨fun e => ?_, fun p hp hc => ?_, fun e q hq => ?_, r.ser⟩
    · rw [eS] at e
      cases e
    · rw [eS] at hp
      rcases List.mem_append.mp hp with hp | hp
      · exact r.d p hp hc
      · have ep := List.mem_singleton.mp hp
        subst ep
        refine ⟨fun q hq _ v hv => ?_, fun q hq _ v hv => ?_⟩
        · obtain ⟨v', v1, _, v3, _⟩ := h.actS q hq
          have : v = v' := Option.some.inj (hv.symm.trans v1)
          rw [this]
          exact v3
        · obtain ⟨v', v1, _, v3, _⟩ := h.actS q hq
          have : v = v' := Option.some.inj (hv.symm.trans v1)
          rw [this]
          show v' ≤ L.E + 1
          omega
    · rw [eS] at e
      exact r.s e q hq
/-- leaving: the epoch is read, another slot is read, the epoch is moved -/
theorem PInv.leaOn (h : PInv T F kk L) (ht : t < T) {st st' : LS} {S' : SS} (hp : L.ph t = .lea) (hc : L.stk t = some (.le st)) (h1 : st ≠ .stamp) (h2 : st ≠ .slot) (ac : LAcc T t (L.sto t) ((MS.le st).val L.E (rl T L.slot)) S' st' st) :
    PInv T F (kk + 1) (L.step t (.le st) S' (settled (some (.le st')))) ∧ L.slot t = none := by
  have th : ThC (inAct L t) (LeaInv T L) (L.slot t) (L.sto t).out (L.ph t) (L.stk t) := h.th t ht
  rw [hp, hc] at th
  have quiet : ∀ {st st' : LS}, (MS.le st).aftE L.E = L.E → (MS.le st).aftSlot t L.slot = L.slot → ThC (inAct L t) (LeaInv T L) (L.slot t) (L.sto t).out .lea (settled (some (.le st'))) → PInv T F (kk + 1) (L.step t (.le st) (L.sto t) (settled (some (.le st')))) := fun {st st'} e1 e2 e3 => by
    refine h.quiet ht e1 rfl rfl rfl (fun u hu => ⟨congrFun e2 u, fs_ne hu, rfl, fs_ne hu, rfl⟩) (.inl (congrFun e2 t)) rfl fs_same ?_
    show ThC (inAct L t) _ ((MS.le st).aftSlot t L.slot t) (fs L.sto t (L.sto t) t).out (L.ph t) (fs L.stk t _ t)
    rw [fs_same, fs_same, hp, e2]
    exact e3.imp Iff.rfl fun e us z => z.mv e1 rfl fun q hq => congrFun e2 q.1
  have look : ∀ (e : Int) (us : List Nat), L.slot t = none → ¬ inAct L t → (L.sto t).out = [] → LeaInv T L e us → ThC (inAct L t) (LeaInv T L) (L.slot t) (L.sto t).out .lea (settled (some (.le (lookOn e us)))) := fun e us a1 a2 a3 a4 => by
    cases us with
    | nil => exact ⟨a1, a2, a3, a4⟩
    | cons u us => exact ⟨a1, a2, a3, by simp, a4⟩
  cases st with
  | stamp => exact absurd rfl h1
  | slot => exact absurd rfl h2
  | dn => exact th.elim
  | epoch =>
    obtain ⟨t1, t2, t3⟩ := th
    obtain ⟨x, hx, rfl, rfl⟩ := ac
    have hx : V.int L.E = .int x := hx
    cases hx
    refine ⟨quiet rfl rfl (look _ _ t1 t2 t3 ⟨Int.le_refl _, fun u hu => (others_lt hu).1, fun _ q hq hn => ?_⟩), t1⟩
    have q1 := h.act1 q hq
    have : q.1 = t := by
      by_cases e : q.1 = t
      · exact e
      · refine absurd ?_ hn
        unfold othersOf
        exact List.mem_filter.mpr ⟨List.mem_range.mpr q1.1, decide_eq_true e⟩
    exact absurd ⟨q, hq, this⟩ t2
  | other e us =>
    obtain ⟨t1, t2, t3, t4, l1, l2, l3⟩ := th
    rcases ac with ⟨_, _, hr, rfl⟩ | ⟨hv, rfl, rfl⟩
    · refine ⟨h.rel (k := e) ht (Int.le_refl _) rfl rfl rfl rfl (fun u hu => ⟨fs_ne hu, rfl, fs_ne hu, rfl⟩) rfl (by show Rel e (L.sto t) (fs L.sto t S' t); rw [fs_same]; exact hr) l1 t3 (fun q hq v hv => ?_) ?_, t1⟩
      · obtain ⟨v', v1, _, _, v4⟩ := h.actS q hq
        have : v = v' := Option.some.inj (hv.symm.trans v1)
        rw [this]
        exact v4
      · show ThC (inAct L t) _ (L.slot t) (fs L.sto t S' t).out (L.ph t) (fs L.stk t _ t)
        rw [fs_same, fs_same, hp]
        obtain ⟨sp, rfl, _⟩ := hr
        exact ⟨t1, t2, t3⟩
    · refine ⟨quiet rfl rfl (look _ _ t1 t2 t3 ⟨l1, fun u hu => l2 u (List.mem_of_mem_tail hu), fun he q hq hn => ?_⟩), t1⟩
      cases us with
      | nil => exact absurd rfl t4
      | cons u us =>
        by_cases hqu : q.1 = u
        · have hval : (MS.le (.other e (u :: us))).val L.E (rl T L.slot) = oV (L.slot u) := by
            show oV ((rl T L.slot).getD u none) = _
            rw [getD_of (rl_get (l2 u List.mem_cons_self))]
          rw [hval] at hv
          obtain ⟨v, v1, _⟩ := h.actS q hq
          rw [hqu] at v1 ⊢
          rw [v1] at hv ⊢
          rcases hv with hv | hv
          · cases hv
          · have hv : v = e := by injection hv
            rw [hv, he]
        · exact l3 he q hq (fun z => by
            rcases List.mem_cons.mp z with z | z
            · exact hqu z
            · exact hn z)
  | move e =>
    obtain ⟨t1, t2, t3, l1, l2, l3⟩ := th
    obtain ⟨b, hb, hr, rfl⟩ := ac
    have hb : V.bl (decide (L.E = e)) = .bl b := hb
    have hb : decide (L.E = e) = b := by injection hb
    have fin : ThC (inAct L t) (LeaInv T (L.step t (.le (.move e)) S' none)) (L.slot t) S'.out .lea none := by
      obtain ⟨sp, rfl, _⟩ := hr
      exact ⟨t1, t2, t3⟩
    have thc : ThC (inAct L t) (LeaInv T (L.step t (.le (.move e)) S' none)) (L.slot t) (fs L.sto t S' t).out (L.ph t) (fs L.stk t none t) := by
      rw [fs_same, fs_same, hp]
      exact fin
    show PInv T F (kk + 1) (L.step t (.le (.move e)) S' none) ∧ L.slot t = none
    by_cases he : L.E = e
    · rw [decide_eq_true he] at hb
      subst hb
      have eE : (L.step t (.le (.move e)) S' none).E = e + 1 := by
        show (if L.E = e then e + 1 else L.E) = e + 1
        rw [if_pos he]
      refine ⟨h.rel (k := e + 1) ht (by rw [eE]; omega) rfl rfl rfl rfl (fun u hu => ⟨fs_ne hu, rfl, fs_ne hu, rfl⟩) rfl (by show Rel (e + 1) (L.sto t) (fs L.sto t S' t); rw [fs_same]; exact hr) (by rw [eE]; omega) t3 (fun q hq v hv => ?_) thc, t1⟩
      have := l3 he q hq (by simp)
      have : v = L.E := Option.some.inj (hv.symm.trans this)
      rw [eE, this, he]
      exact Int.le_refl _
    · rw [decide_eq_false he] at hb
      subst hb
      have eE : (L.step t (.le (.move e)) S' none).E = L.E := by
        show (if L.E = e then e + 1 else L.E) = L.E
        rw [if_neg he]
      have hr : Rel e (L.sto t) S' := hr
      refine ⟨h.rel (k := e) ht (by rw [eE]; exact Int.le_refl _) rfl rfl rfl rfl (fun u hu => ⟨fs_ne hu, rfl, fs_ne hu, rfl⟩) rfl (by show Rel e (L.sto t) (fs L.sto t S' t); rw [fs_same]; exact hr) (by rw [eE]; exact l1) t3 (fun q hq v hv => ?_) thc, t1⟩
      obtain ⟨v', v1, _, _, v4⟩ := h.actS q hq
      have : v = v' := Option.some.inj (hv.symm.trans v1)
      rw [eE, this]
      exact v4
/-- working: cells are taken out -/
theorem PInv.take (h : PInv T F kk L) (hF : (F t).Nodup) (ht : t < T) (hp : L.ph t = .inn) (k : Nat) :
    PInv T F (kk + 1) { L with sto := fs L.sto t { L.sto t with spare := (L.sto t).spare.drop k, out := (L.sto t).out ++ (L.sto t).spare.take k }, rows := fs L.rows t (((L.rows t).filter fun row => decide (row.c ∉ (L.sto t).spare.take k)) ++ ((L.sto t).spare.take k).map fun c => ⟨c, L.act, L.act⟩) } := by
  have th : ThC (inAct L t) (LeaInv T L) (L.slot t) (L.sto t).out (L.ph t) (L.stk t) := h.th t ht
  rw [hp] at th
  have th : inAct L t := th
  have n : Env L { L with sto := fs L.sto t { L.sto t with spare := (L.sto t).spare.drop k, out := (L.sto t).out ++ (L.sto t).spare.take k }, rows := fs L.rows t (((L.rows t).filter fun row => decide (row.c ∉ (L.sto t).spare.take k)) ++ ((L.sto t).spare.take k).map fun c => ⟨c, L.act, L.act⟩) } t :=
    ⟨Int.le_refl _, fun q hq => .inl ⟨hq, rfl⟩, fun q hq _ => hq, fun u hu => rfl, fun u hu => fs_ne hu, fun u hu => rfl, fun u hu => rfl, fun u hu => fs_ne hu, Nat.le_refl _⟩
  have nod : ((L.sto t).all).Nodup := (h.whole t ht).nodup_iff.mpr hF
  have ets := List.take_append_drop k (L.sto t).spare
  refine h.env n ?_ ?_ ?_ ?_ h.act1 h.actN h.actS ?_
  · show ThC (inAct L t) _ (L.slot t) (fs L.sto t _ t).out (L.ph t) (L.stk t)
    rw [hp]
    exact th
  · show (fs L.sto t _ t).all.Perm _
    rw [fs_same]
    refine List.Perm.trans ?_ (h.whole t ht)
    show ((L.sto t).spare.drop k ++ (L.sto t).del.flatMap (·.2) ++ ((L.sto t).out ++ (L.sto t).spare.take k)).Perm ((L.sto t).spare ++ (L.sto t).del.flatMap (·.2) ++ (L.sto t).out)
    rw [← List.append_assoc]
    refine List.perm_append_comm.trans ?_
    rw [← List.append_assoc, ← List.append_assoc, ets]
  · show ∀ p ∈ (fs L.sto t _ t).del, p.1 ≤ L.E
    rw [fs_same]
    exact h.stamps t ht
  · show (fs L.sto t _ t).del.length ≤ _
    rw [fs_same]
    exact Nat.le_succ_of_le (h.dl t ht)
  · intro row hr
    have hr : row ∈ fs L.rows t (((L.rows t).filter fun row => decide (row.c ∉ (L.sto t).spare.take k)) ++ ((L.sto t).spare.take k).map fun c => ⟨c, L.act, L.act⟩) t := hr
    rw [fs_same] at hr
    have eS : ({ L with sto := fs L.sto t { L.sto t with spare := (L.sto t).spare.drop k, out := (L.sto t).out ++ (L.sto t).spare.take k }, rows := fs L.rows t (((L.rows t).filter fun row => decide (row.c ∉ (L.sto t).spare.take k)) ++ ((L.sto t).spare.take k).map fun c => ⟨c, L.act, L.act⟩) } : LSt).sto t = { L.sto t with spare := (L.sto t).spare.drop k, out := (L.sto t).out ++ (L.sto t).spare.take k } := fs_same
    rcases List.mem_append.mp hr with hr | hr
    · obtain ⟨r1, r2⟩ := List.mem_filter.mp hr
      have r2 : row.c ∉ (L.sto t).spare.take k := of_decide_eq_true r2
      have r := h.rows t ht row r1
      refine ⟨fun e => ?_, fun p hp hc => ?_, fun e q hq => ?_, r.ser⟩
      · rw [eS] at e
        rcases List.mem_append.mp e with e | e
        · exact r.o e
        · exact absurd e r2
      · rw [eS] at hp
        exact r.d p hp hc
      · rw [eS] at e
        exact r.s (List.mem_of_mem_drop e) q hq
    · obtain ⟨c, hc, rfl⟩ := List.mem_map.mp hr
      have hcs : c ∈ (L.sto t).spare := List.mem_of_mem_take hc
      have nod' := nod
      unfold SS.all at nod'
      rw [List.append_assoc, List.nodup_append] at nod'
      obtain ⟨nd1, nd2, nd3⟩ := nod'
      refine ⟨fun e => ?_, fun p hp hcp => ?_, fun e q hq => ?_, fun q hq => (h.act1 q (hq.elim id id)).2⟩
      · obtain ⟨q, q1, q2⟩ := th
        exact ⟨q, q1, q2, q1⟩
      · rw [eS] at hp
        have hp : p ∈ (L.sto t).del := hp
        have : c ∈ (L.sto t).del.flatMap (·.2) ++ (L.sto t).out := List.mem_append_left _ (List.mem_flatMap.mpr ⟨p, hp, hcp⟩)
        exact absurd rfl (nd3 c hcs c this)
      · rw [eS] at e
        have e : c ∈ (L.sto t).spare.drop k := e
        rw [← ets, List.nodup_append] at nd1
        exact absurd rfl (nd1.2.2 c hc c e)
/-- the law's own book: who may still know -/
theorem PInv.known (h : PInv T F kk L) {u0 : Nat} : PInv T F kk { L with rows := fs L.rows u0 ((L.rows u0).map (knownRow L.act)) } := by
  refine ⟨h.th, h.whole, h.stamps, h.dl, h.act1, h.actN, h.actS, fun u hu row hr => ?_⟩
  by_cases e : u = u0
  · subst e
    have hr : row ∈ fs L.rows u ((L.rows u).map (knownRow L.act)) u := hr
    rw [fs_same] at hr
    obtain ⟨r0, hr0, rfl⟩ := List.mem_map.mp hr
    have r := h.rows u hu r0 hr0
    unfold knownRow
    by_cases hc : 0 < (r0.A.filter fun c => decide (c ∈ L.act)).length
    · rw [if_pos hc]
      obtain ⟨x, hx⟩ := List.exists_mem_of_length_pos hc
      obtain ⟨x1, x2⟩ := List.mem_filter.mp hx
      have x2 : x ∈ L.act := of_decide_eq_true x2
      have mem : ∀ (cs b : List Call) (q : Call), q ∈ cs.foldl addC b → q ∈ b ∨ q ∈ cs := fun cs => by
        induction cs with
        | nil => exact fun b q hq => .inl hq
        | cons c cs ih =>
          intro b q hq
          rw [List.foldl_cons] at hq
          rcases ih _ q hq with hq | hq
          · unfold addC at hq
            split at hq
            · exact .inl hq
            · rcases List.mem_append.mp hq with hq | hq
              · exact .inl hq
              · rw [List.mem_singleton.mp hq]
                exact .inr List.mem_cons_self
          · exact .inr (List.mem_cons_of_mem _ hq)
      refine ⟨r.o, fun p hp hcp => ?_, fun e q hq => ?_, fun q hq => ?_⟩
      · obtain ⟨d1, d2⟩ := r.d p hp hcp
        refine ⟨d1, fun q hq hB v hv => ?_⟩
        rcases mem _ _ q hB with hB | hB
        · exact d2 q hq hB v hv
        · obtain ⟨vx, vx1, _, _, vx4⟩ := h.actS x x2
          obtain ⟨vq, vq1, _, vq3, _⟩ := h.actS q hq
          have e1 : v = vq := Option.some.inj (hv.symm.trans vq1)
          have e2 := d1 x x2 x1 vx vx1
          omega
      · exact absurd x1 (r.s e x x2).1
      · rcases hq with hq | hq
        · exact r.ser q (.inl hq)
        · rcases mem _ _ q hq with hq | hq
          · exact r.ser q (.inr hq)
          · exact (h.act1 q hq).2
    · rw [if_neg hc]
      exact ⟨r.o, r.d, r.s, r.ser⟩
  · have hr : row ∈ fs L.rows u0 ((L.rows u0).map (knownRow L.act)) u := hr
    rw [fs_ne e] at hr
    have r := h.rows u hu row hr
    exact ⟨r.o, r.d, r.s, r.ser⟩
end

/-! ### the law's state in the heap. tags: 51 stacks, 52 phases, 53 work, 54 slots_here, 55 rows -/
theorem nodup_lt : ∀ (T : Nat) (l : List Nat), l.Nodup → (∀ x ∈ l, x < T) → l.length ≤ T
  | 0, l, _, h => by
    cases l with
    | nil => exact Nat.le_refl _
    | cons a l => exact absurd (h a List.mem_cons_self) (Nat.not_lt_zero _)
  | T + 1, l, hn, h => by
    have ih := nodup_lt T (l.erase T) (hn.erase _) fun x hx => by
      have h1 := (hn.mem_erase_iff.mp hx)
      have h2 := h x h1.2
      have h3 := h1.1
      omega
    have e := List.length_erase (a := T) (l := l)
    split at e <;> omega
theorem PInv.actLen {T kk : Nat} {F : Nat → List Int} {L : LSt} (h : PInv T F kk L) : L.act.length ≤ T := by
  have := nodup_lt T (L.act.map (·.1)) h.actN fun x hx => by
    obtain ⟨q, q1, rfl⟩ := List.mem_map.mp hx
    exact (h.act1 q q1).1
  rwa [List.length_map] at this
theorem wait_flat (S : SS) : (waitRows S).flatten = S.del.flatMap (·.2) ++ S.out := by
  unfold waitRows
  rw [List.flatten_append]
  have e1 : (S.del.map (·.2)).flatten = S.del.flatMap (·.2) := by rw [List.flatMap_def]
  rw [e1]
  by_cases h : S.out = []
  · rw [if_pos h, h]
    rfl
  · rw [if_neg h, List.flatten_singleton]
theorem PInv.perm {T kk u : Nat} {F : Nat → List Int} {L : LSt} (h : PInv T F kk L) (hu : u < T) : ((L.sto u).spare ++ (waitRows (L.sto u)).flatten).Perm (F u) := by
  rw [wait_flat, ← List.append_assoc]
  exact h.whole u hu
theorem PInv.small {T kk u : Nat} {F : Nat → List Int} {L : LSt} (h : PInv T F kk L) (hu : u < T) (hF : (F u).length ≤ 200) (hk : kk ≤ 1000) : (L.sto u).small := by
  have e := (h.whole u hu).length_eq
  have d := h.dl u hu
  unfold SS.all at e
  rw [List.length_append, List.length_append] at e
  refine ⟨?_, by omega⟩
  show (L.sto u).spare.length + ((L.sto u).del.flatMap (·.2)).length + (L.sto u).out.length ≤ 1000
  omega
theorem PInv.held {T kk u : Nat} {F : Nat → List Int} {L : LSt} (h : PInv T F kk L) (hu : u < T) : heldOk (L.sto u) (L.rows u) L.act := fun row hr hc q hq => (h.rows u hu row hr).s hc q hq
theorem PInv.slotsOk {T kk : Nat} {F : Nat → List Int} {L : LSt} (h : PInv T F kk L) : ∀ q ∈ L.act, ∃ v, (rl T L.slot)[q.1]? = some (some v) ∧ (rl T L.sh)[q.1]? = some (some v) ∧ v ≤ L.E ∧ L.E ≤ v + 1 := fun q hq => by
  obtain ⟨v, v1, v2, v3, v4⟩ := h.actS q hq
  have ht := (h.act1 q hq).1
  exact ⟨v, by rw [rl_get ht, v1], by rw [rl_get ht, v2], v3, v4⟩
def stkV : Option Addr → V
  | none => .non
  | some k => .ref k
structure LAd where
  tp : Addr
  m : Addr
  lsto : Addr
  lfst : Addr
  lstk : Addr
  lph : Addr
  lwk : Addr
  lsh : Addr
  lrows : Addr
  la : Addr
  sto : Nat → Addr
  fst : Nat → Addr
  lr : Nat → Addr
  stk : Nat → Option Addr
structure LRep (CLa CMe CSk CSt CEn CLe : Addr) (T R : Nat) (F : Nat → List Int) (tape : List Int) (g : Tg) (H : Hp) (A : LAd) (L : LSt) (cnt : Nat) (log : Option Str) : Prop where
  tp : At g H 0 A.tp (.lst (tape.map V.int))
  mem : MemE CLa CMe g H A.m T R L.E (rl T L.slot) cnt log
  lsto : At g H 0 A.lsto (.lst (rl T fun u => V.ref (A.sto u)))
  sto : ∀ u, u < T → StoAt CLa CSt g H (A.sto u) T R u (L.sto u)
  lfst : At g H 0 A.lfst (.lst (rl T fun u => V.ref (A.fst u)))
  fst : ∀ u, u < T → At g H 0 (A.fst u) (.lst ((F u).map V.int))
  lstk : At g H 51 A.lstk (.lst (rl T fun u => stkV (A.stk u)))
  stk : ∀ u, u < T → ∀ k, A.stk u = some k → StkAt CSk CEn CLe g H k (A.sto u) T u (L.stk u)
  lph : At g H 52 A.lph (.lst (rl T fun u => V.str (L.ph u).str))
  lwk : At g H 53 A.lwk (.lst (rl T fun u => V.int (L.wk u)))
  lsh : At g H 54 A.lsh (.lst (rl T fun u => oV (L.sh u)))
  lrows : At g H 55 A.lrows (.lst (rl T fun u => V.ref (A.lr u)))
  rows : ∀ u, u < T → RowsAt g H (A.lr u) u (L.rows u)
  act : CallsAt 0 g H A.la L.act
section
variable {CLa CMe CSk CSt CEn CLe : Addr} {T R t cnt : Nat} {F : Nat → List Int} {tape : List Int} {g g' : Tg} {H H' : Hp} {A : LAd} {L : LSt} {log : Option Str} {Z : Nat → Prop}
theorem LRep.keep (h : LRep CLa CMe CSk CSt CEn CLe T R F tape g H A L cnt log) (k : Ch (fun _ => False) g H g' H') : LRep CLa CMe CSk CSt CEn CLe T R F tape g' H' A L cnt log :=
  ⟨h.tp.keep k id, h.mem.keep k id id, h.lsto.keep k id, fun u hu => (h.sto u hu).keep k id id id, h.lfst.keep k id, fun u hu => (h.fst u hu).keep k id, h.lstk.keep k id, fun u hu k' e => (h.stk u hu k' e).keep k id id id id, h.lph.keep k id, h.lwk.keep k id, h.lsh.keep k id, h.lrows.keep k id, fun u hu => (h.rows u hu).keep k id id, h.act.keep k id id⟩
/-- the memory alone -/
theorem LRep.memory {E : Int} {slot : Nat → Option Int} {cnt' : Nat} {log' : Option Str} (h : LRep CLa CMe CSk CSt CEn CLe T R F tape g H A L cnt log) (k : Ch (fun c => c = 1) g H g' H') (m : MemE CLa CMe g' H' A.m T R E (rl T slot) cnt' log') :
    LRep CLa CMe CSk CSt CEn CLe T R F tape g' H' A { L with E := E, slot := slot } cnt' log' :=
  ⟨h.tp.keep k (by omega), m, h.lsto.keep k (by omega), fun u hu => (h.sto u hu).keep k (by omega) (by omega) (by omega), h.lfst.keep k (by omega), fun u hu => (h.fst u hu).keep k (by omega), h.lstk.keep k (by omega), fun u hu k' e => (h.stk u hu k' e).keep k (by omega) (by omega) (by omega) (by omega), h.lph.keep k (by omega), h.lwk.keep k (by omega), h.lsh.keep k (by omega), h.lrows.keep k (by omega), fun u hu => (h.rows u hu).keep k (by omega) (by omega), h.act.keep k (by omega) (by omega)⟩
/-- a thread's access by its machine: the memory, its store, its stack -/
theorem LRep.machine {E : Int} {slot : Nat → Option Int} {cnt' : Nat} {log' : Option Str} {S' : SS} {c' : Option MS} {k0 : Addr} (h : LRep CLa CMe CSk CSt CEn CLe T R F tape g H A L cnt log) (ht : t < T) (hT : T ≤ 3) (k : Ch (SZ t) g H g' H') (m : MemE CLa CMe g' H' A.m T R E (rl T slot) cnt' log')
    (s : StoAt CLa CSt g' H' (A.sto t) T R t S') (hk : A.stk t = some k0) (st : StkAt CSk CEn CLe g' H' k0 (A.sto t) T t c') :
    LRep CLa CMe CSk CSt CEn CLe T R F tape g' H' A { L with E := E, slot := slot, sto := fs L.sto t S', stk := fs L.stk t c' } cnt' log' := by
  refine ⟨h.tp.keep k (by unfold SZ; omega), m, h.lsto.keep k (by unfold SZ; omega), fun u hu => ?_, h.lfst.keep k (by unfold SZ; omega), fun u hu => (h.fst u hu).keep k (by unfold SZ; omega), h.lstk.keep k (by unfold SZ; omega), fun u hu k' e => ?_, h.lph.keep k (by unfold SZ; omega), h.lwk.keep k (by unfold SZ; omega), h.lsh.keep k (by unfold SZ; omega), h.lrows.keep k (by unfold SZ; omega), fun u hu => (h.rows u hu).keep k (by unfold SZ; omega) (by unfold SZ; omega), h.act.keep k (by unfold SZ; omega) (by unfold SZ; omega)⟩
  · show StoAt CLa CSt g' H' (A.sto u) T R u (fs L.sto t S' u)
    by_cases e : u = t
    · subst e
      rw [fs_same]
      exact s
    · rw [fs_ne e]
      exact (h.sto u hu).keep k (by unfold SZ; omega) (by unfold SZ; omega) (by unfold SZ; omega)
  · show StkAt CSk CEn CLe g' H' k' (A.sto u) T u (fs L.stk t c' u)
    by_cases eu : u = t
    · subst eu
      rw [fs_same]
      rw [hk] at e
      cases e
      exact st
    · rw [fs_ne eu]
      exact (h.stk u hu k' e).keep k (by unfold SZ; omega) (by unfold SZ; omega) (by unfold SZ; omega) (by unfold SZ; omega)
/-- its store alone -/
theorem LRep.store {S' : SS} (h : LRep CLa CMe CSk CSt CEn CLe T R F tape g H A L cnt log) (hT : T ≤ 3) (k : Ch (fun c => c = 10 + t) g H g' H') (s : StoAt CLa CSt g' H' (A.sto t) T R t S') (ht : t < T) :
    LRep CLa CMe CSk CSt CEn CLe T R F tape g' H' A { L with sto := fs L.sto t S' } cnt log := by
  refine ⟨h.tp.keep k (by omega), h.mem.keep k (by omega) (by omega), h.lsto.keep k (by omega), fun u hu => ?_, h.lfst.keep k (by omega), fun u hu => (h.fst u hu).keep k (by omega), h.lstk.keep k (by omega), fun u hu k' e => (h.stk u hu k' e).keep k (by omega) (by omega) (by omega) (by omega), h.lph.keep k (by omega), h.lwk.keep k (by omega), h.lsh.keep k (by omega), h.lrows.keep k (by omega), fun u hu => (h.rows u hu).keep k (by omega) (by omega), h.act.keep k (by omega) (by omega)⟩
  show StoAt CLa CSt g' H' (A.sto u) T R u (fs L.sto t S' u)
  by_cases e : u = t
  · subst e
    rw [fs_same]
    exact s
  · rw [fs_ne e]
    exact (h.sto u hu).keep k (by omega) (by omega) (by omega)
/-- work[t] = x -/
theorem LRep.work {x : Int} (h : LRep CLa CMe CSk CSt CEn CLe T R F tape g H A L cnt log) (hT : T ≤ 3) :
    LRep CLa CMe CSk CSt CEn CLe T R F tape g (upd H A.lwk (.lst ((rl T fun u => V.int (L.wk u)).set t (.int x)))) A { L with wk := fs L.wk t x } cnt log := by
  have k : Ch (fun c => c = 53) g H g (upd H A.lwk (.lst ((rl T fun u => V.int (L.wk u)).set t (.int x)))) := Ch.wr h.lwk rfl
  refine ⟨h.tp.keep k (by omega), h.mem.keep k (by omega) (by omega), h.lsto.keep k (by omega), fun u hu => (h.sto u hu).keep k (by omega) (by omega) (by omega), h.lfst.keep k (by omega), fun u hu => (h.fst u hu).keep k (by omega), h.lstk.keep k (by omega), fun u hu k' e => (h.stk u hu k' e).keep k (by omega) (by omega) (by omega) (by omega), h.lph.keep k (by omega), ?_, h.lsh.keep k (by omega), h.lrows.keep k (by omega), fun u hu => (h.rows u hu).keep k (by omega) (by omega), h.act.keep k (by omega) (by omega)⟩
  have e : (rl T fun u => V.int (L.wk u)).set t (.int x) = rl T fun u => V.int (fs L.wk t x u) := by
    rw [rl_set]
    congr 1
    funext u
    unfold fs
    split <;> rfl
  rw [← e]
  exact h.lwk.wr
/-- phases[t] = x -/
theorem LRep.phase {x : Ph} (h : LRep CLa CMe CSk CSt CEn CLe T R F tape g H A L cnt log) (hT : T ≤ 3) :
    LRep CLa CMe CSk CSt CEn CLe T R F tape g (upd H A.lph (.lst ((rl T fun u => V.str (L.ph u).str).set t (.str x.str)))) A { L with ph := fs L.ph t x } cnt log := by
  have k : Ch (fun c => c = 52) g H g (upd H A.lph (.lst ((rl T fun u => V.str (L.ph u).str).set t (.str x.str)))) := Ch.wr h.lph rfl
  refine ⟨h.tp.keep k (by omega), h.mem.keep k (by omega) (by omega), h.lsto.keep k (by omega), fun u hu => (h.sto u hu).keep k (by omega) (by omega) (by omega), h.lfst.keep k (by omega), fun u hu => (h.fst u hu).keep k (by omega), h.lstk.keep k (by omega), fun u hu k' e => (h.stk u hu k' e).keep k (by omega) (by omega) (by omega) (by omega), ?_, h.lwk.keep k (by omega), h.lsh.keep k (by omega), h.lrows.keep k (by omega), fun u hu => (h.rows u hu).keep k (by omega) (by omega), h.act.keep k (by omega) (by omega)⟩
  have e : (rl T fun u => V.str (L.ph u).str).set t (.str x.str) = rl T fun u => V.str (fs L.ph t x u).str := by
    rw [rl_set]
    congr 1
    funext u
    unfold fs
    split <;> rfl
  rw [← e]
  exact h.lph.wr
/-- slots_here[t] = x -/
theorem LRep.here {x : Option Int} (h : LRep CLa CMe CSk CSt CEn CLe T R F tape g H A L cnt log) (hT : T ≤ 3) :
    LRep CLa CMe CSk CSt CEn CLe T R F tape g (upd H A.lsh (.lst ((rl T fun u => oV (L.sh u)).set t (oV x)))) A { L with sh := fs L.sh t x } cnt log := by
  have k : Ch (fun c => c = 54) g H g (upd H A.lsh (.lst ((rl T fun u => oV (L.sh u)).set t (oV x)))) := Ch.wr h.lsh rfl
  refine ⟨h.tp.keep k (by omega), h.mem.keep k (by omega) (by omega), h.lsto.keep k (by omega), fun u hu => (h.sto u hu).keep k (by omega) (by omega) (by omega), h.lfst.keep k (by omega), fun u hu => (h.fst u hu).keep k (by omega), h.lstk.keep k (by omega), fun u hu k' e => (h.stk u hu k' e).keep k (by omega) (by omega) (by omega) (by omega), h.lph.keep k (by omega), h.lwk.keep k (by omega), ?_, h.lrows.keep k (by omega), fun u hu => (h.rows u hu).keep k (by omega) (by omega), h.act.keep k (by omega) (by omega)⟩
  have e : (rl T fun u => oV (L.sh u)).set t (oV x) = rl T fun u => oV (fs L.sh t x u) := by
    rw [rl_set]
    congr 1
    funext u
    unfold fs
    split <;> rfl
  rw [← e]
  exact h.lsh.wr
/-- stacks[t] = a new stack -/
theorem LRep.stack {c : Option MS} {k0 : Addr} (h : LRep CLa CMe CSk CSt CEn CLe T R F tape g H A L cnt log) (hT : T ≤ 3) (ht : t < T) (k : Ch (fun c => c = 20 + t ∨ c = 25 + t ∨ c = 30 + t) g H g' H') (st : StkAt CSk CEn CLe g' H' k0 (A.sto t) T t c) :
    LRep CLa CMe CSk CSt CEn CLe T R F tape g' (upd H' A.lstk (.lst ((rl T fun u => stkV (A.stk u)).set t (.ref k0)))) { A with stk := fs A.stk t (some k0) } { L with stk := fs L.stk t c } cnt log := by
  have l1 := h.lstk.keep k (by omega)
  have k2 : Ch (fun c => c = 51) g' H' g' (upd H' A.lstk (.lst ((rl T fun u => stkV (A.stk u)).set t (.ref k0)))) := Ch.wr l1 rfl
  have kk : Ch (fun c => c = 20 + t ∨ c = 25 + t ∨ c = 30 + t ∨ c = 51) g H g' (upd H' A.lstk (.lst ((rl T fun u => stkV (A.stk u)).set t (.ref k0)))) := (k.mono fun c z => by omega).trans (k2.mono fun c z => by omega)
  refine ⟨h.tp.keep kk (by omega), h.mem.keep kk (by omega) (by omega), h.lsto.keep kk (by omega), fun u hu => (h.sto u hu).keep kk (by omega) (by omega) (by omega), h.lfst.keep kk (by omega), fun u hu => (h.fst u hu).keep kk (by omega), ?_, fun u hu k' e => ?_, h.lph.keep kk (by omega), h.lwk.keep kk (by omega), h.lsh.keep kk (by omega), h.lrows.keep kk (by omega), fun u hu => (h.rows u hu).keep kk (by omega) (by omega), h.act.keep kk (by omega) (by omega)⟩
  · have e : (rl T fun u => stkV (A.stk u)).set t (.ref k0) = rl T fun u => stkV (fs A.stk t (some k0) u) := by
      rw [rl_set]
      congr 1
      funext u
      unfold fs
      split <;> rfl
    show At _ _ _ _ (.lst (rl T fun u => stkV (fs A.stk t (some k0) u)))
    rw [← e]
    exact l1.wr
  · have e : fs A.stk t (some k0) u = some k' := e
    show StkAt CSk CEn CLe g' _ k' (A.sto u) T u (fs L.stk t c u)
    by_cases eu : u = t
    · subst eu
      rw [fs_same] at e ⊢
      cases e
      exact st.keep k2 (by omega) (by omega) (by omega) (by omega)
    · rw [fs_ne eu] at e ⊢
      exact (h.stk u hu k' e).keep kk (by omega) (by omega) (by omega) (by omega)
/-- rows[t] = a new list -/
theorem LRep.rowsNew {rows : List Row} {p : Addr} (h : LRep CLa CMe CSk CSt CEn CLe T R F tape g H A L cnt log) (hT : T ≤ 3) (k : Ch (fun _ => False) g H g' H') (hr : RowsAt g' H' p t rows) :
    LRep CLa CMe CSk CSt CEn CLe T R F tape g' (upd H' A.lrows (.lst ((rl T fun u => V.ref (A.lr u)).set t (.ref p)))) { A with lr := fs A.lr t p } { L with rows := fs L.rows t rows } cnt log := by
  have h' := h.keep k
  have k2 : Ch (fun c => c = 55) g' H' g' (upd H' A.lrows (.lst ((rl T fun u => V.ref (A.lr u)).set t (.ref p)))) := Ch.wr h'.lrows rfl
  refine ⟨h'.tp.keep k2 (by omega), h'.mem.keep k2 (by omega) (by omega), h'.lsto.keep k2 (by omega), fun u hu => (h'.sto u hu).keep k2 (by omega) (by omega) (by omega), h'.lfst.keep k2 (by omega), fun u hu => (h'.fst u hu).keep k2 (by omega), h'.lstk.keep k2 (by omega), fun u hu k' e => (h'.stk u hu k' e).keep k2 (by omega) (by omega) (by omega) (by omega), h'.lph.keep k2 (by omega), h'.lwk.keep k2 (by omega), h'.lsh.keep k2 (by omega), ?_, fun u hu => ?_, h'.act.keep k2 (by omega) (by omega)⟩
  · have e : (rl T fun u => V.ref (A.lr u)).set t (.ref p) = rl T fun u => V.ref (fs A.lr t p u) := by
      rw [rl_set]
      congr 1
      funext u
      unfold fs
      split <;> rfl
    show At _ _ _ _ (.lst (rl T fun u => V.ref (fs A.lr t p u)))
    rw [← e]
    exact h'.lrows.wr
  · show RowsAt g' _ (fs A.lr t p u) u (fs L.rows t rows u)
    by_cases eu : u = t
    · subst eu
      rw [fs_same, fs_same]
      exact hr.keep k2 (by omega) (by omega)
    · rw [fs_ne eu, fs_ne eu]
      exact (h'.rows u hu).keep k2 (by omega) (by omega)
/-- another list of calls -/
theorem LRep.calls {act : List Call} {p : Addr} {ser : Nat} (h : LRep CLa CMe CSk CSt CEn CLe T R F tape g H A L cnt log) (k : Ch (fun _ => False) g H g' H') (hc : CallsAt 0 g' H' p act) :
    LRep CLa CMe CSk CSt CEn CLe T R F tape g' H' { A with la := p } { L with act := act, ser := ser } cnt log :=
  let h' := h.keep k
  ⟨h'.tp, h'.mem, h'.lsto, h'.sto, h'.lfst, h'.fst, h'.lstk, h'.stk, h'.lph, h'.lwk, h'.lsh, h'.lrows, h'.rows, hc⟩
/-- the law's book of one thread -/
theorem LRep.known {rows : List Row} {u0 : Nat} (h : LRep CLa CMe CSk CSt CEn CLe T R F tape g H A L cnt log) (hT : T ≤ 3) (hu0 : u0 < T) (k : Ch (fun c => c = 40 + u0) g H g' H') (hr : RowsAt g' H' (A.lr u0) u0 rows) :
    LRep CLa CMe CSk CSt CEn CLe T R F tape g' H' A { L with rows := fs L.rows u0 rows } cnt log := by
  refine ⟨h.tp.keep k (by omega), h.mem.keep k (by omega) (by omega), h.lsto.keep k (by omega), fun u hu => (h.sto u hu).keep k (by omega) (by omega) (by omega), h.lfst.keep k (by omega), fun u hu => (h.fst u hu).keep k (by omega), h.lstk.keep k (by omega), fun u hu k' e => (h.stk u hu k' e).keep k (by omega) (by omega) (by omega) (by omega), h.lph.keep k (by omega), h.lwk.keep k (by omega), h.lsh.keep k (by omega), h.lrows.keep k (by omega), fun u hu => ?_, h.act.keep k (by omega) (by omega)⟩
  show RowsAt g' H' (A.lr u) u (fs L.rows u0 rows u)
  by_cases eu : u = u0
  · subst eu
    rw [fs_same]
    exact hr
  · rw [fs_ne eu]
    exact (h.rows u hu).keep k (by omega) (by omega)
end

/-! ### the law's body in pieces -/
abbrev lawN : List Str := ["_law_script", "_law_tape_here", "_law_threads", "_law_memory", "_law_thread", "_law_stores", "_law_store_here", "_law_first", "_law_stacks", "_law_phases", "_law_work", "_law_slots_here", "_law_active", "_law_serial", "_law_rows", "_law_k", "_law_number", "_law_taken", "_law_slot", "_law_moved", "_law_request", "_law_other", "_law_others", "_law_row", "_law_cell", "_law_call"]
def noStmt : Stmt := .Pass ⟨0, 0, 0, 0⟩
def forBody : Stmt → List Stmt
  | .For (body := b) .. => b
  | _ => []
def ifThen : Stmt → List Stmt
  | .If _ a _ _ => a
  | _ => []
def ifElse : Stmt → List Stmt
  | .If _ _ b _ => b
  | _ => []
def lawSt (i : Nat) : Stmt := (fnBody (top 30)).getD i noStmt
def pickSt (i : Nat) : Stmt := (forBody (lawSt 12)).getD i noStmt
theorem scLaw : FnScope lawN ["_law_script"] (fnScope (top 30)) := by walk_at "sc"
def rNotInL (K : PySem.W.Frag) : R2 := rIn K true
theorem op_notInK {X : Cx} {K : PySem.W.Frag} (h : X.K = K) : OpR X (compareOp .NotIn) (rNotInL K) := by subst h; exact op_notIn_seq
abbrev lawX (P : Program) (w : World) (K : PySem.W.Frag) (mg : Str → Option Value) (base : Heap) (f : Addr) (cdv : Value) (A : Around) (outer : List PySem.Env) (s0 : Shared) (H0 : Hp) (E : XK) : Cx := (cxOf C8.CX0 P w K mg base lawN "law" (fnScope (top 30)) f cdv A outer s0 H0 E).nox
structure LawG (P : Program) (w : World) (K : PySem.W.Frag) (mg : Str → Option Value) (base : Heap) (CSk CSt CEn CLe CLa CMe : Addr) : Prop where
  tape : Cal P w K mg base 1 "_law_tape" (spTape K) []
  at_ : Cal P w K mg base 1 "_law_at" (spAt K) []
  layI : Mak P w K mg base 2 "Layout" CLa (spLaInit CLa) []
  memI : Mak P w K mg base 3 "Memory" CMe (spMeInit CLa CMe) []
  store : Cal P w K mg base 3 "_law_store" (spStore CLa CSt) []
  free : Met P w K mg base 1 CSt "free_cells" (spFree CLa CSt) []
  access : Met P w K mg base 6 CMe "access" (spAccess CLa CMe) []
  word : Met P w K mg base 1 CLa "word" (spLa1 CLa fun t _ i => 1 + 2 * t + i) []
  take : Met P w K mg base 1 CSt "take" (spTake CLa CSt) []
  takeOut : Met P w K mg base 1 CSt "take_out" (spTakeOut CLa CSt) []
  skI : Mak P w K mg base 1 "Stack" CSk (spSkInit CSk) []
  leI : Mak P w K mg base 1 "Leaving" CLe (spLeInit CLa CSt CLe) []
  enI : Mak P w K mg base 2 "Entering" CEn (spEnInit CLa CSt CEn) []
  peek : Met P w K mg base 3 CMe "peek" (spPeek CLa CMe) []
  log : Met P w K mg base 1 CMe "log" (spLog CLa CMe) []
  step : Met P w K mg base 7 CSk "step" (spStep CLa CMe CSk CSt CEn CLe) []
  known : Cal P w K mg base 1 "_law_known" spKnown []
  held : Cal P w K mg base 2 "_law_held" (spHeld CLa CSt) []
  whole : Cal P w K mg base 2 "_law_whole" (spWhole CLa CSt) []
  slots : Cal P w K mg base 4 "_law_slots" (spSlots CLa CMe) []
  alone : Cal P w K mg base 8 "_law_alone" (spAlone CLa CMe CSt) []
abbrev sg (A : LAd) (T ser : Nat) (z0 z4 z6 z15 z16 z17 z18 z19 z20 z21 z22 : Option V) : L2.St :=
  [z0, some (.ref A.tp), some (.int (T : Nat)), some (.ref A.m), z4, some (.ref A.lsto), z6, some (.ref A.lfst), some (.ref A.lstk), some (.ref A.lph), some (.ref A.lwk), some (.ref A.lsh), some (.ref A.la), some (.int (ser : Nat)), some (.ref A.lrows), z15, z16, z17, z18, z19, z20, z21, z22, none, none, none]
structure FOk (T : Nat) (F : Nat → List Int) : Prop where
  lo : 2 ≤ T
  hi : T ≤ 3
  nd : ∀ u, u < T → (F u).Nodup
  so : ∀ u, u < T → (F u).Pairwise (· ≤ ·)
  len : ∀ u, u < T → (F u).length ≤ 200
def RowLen (T n : Nat) (L : LSt) : Prop := ∀ u, u < T → (L.rows u).length ≤ n ∧ ∀ row ∈ L.rows u, row.A.length ≤ 3 ∧ row.B.length ≤ n
theorem RowLen.mono {T n m : Nat} {L : LSt} (h : RowLen T n L) (hm : n ≤ m) : RowLen T m L := fun u hu => ⟨Nat.le_trans (h u hu).1 hm, fun row hr => ⟨((h u hu).2 row hr).1, Nat.le_trans ((h u hu).2 row hr).2 hm⟩⟩
/-- every thread that is not out has a stack -/
def HasStk (T : Nat) (A : LAd) (L : LSt) : Prop := ∀ u, u < T → L.ph u ≠ .out → A.stk u ≠ none
/-- at a place of the loop: the state, with bounds -/
structure MidP (CLa CMe CSk CSt CEn CLe : Addr) (T R : Nat) (F : Nat → List Int) (tape : List Int) (kk n c : Nat) (σ : L2.St) (H : Hp) : Prop where
  ex : ∃ (g : Tg) (A : LAd) (L : LSt) (cnt : Nat) (log : Option Str) (z0 z4 z6 z15 z16 z17 z18 z19 z20 z21 z22 : Option V), σ = sg A T L.ser z0 z4 z6 z15 z16 z17 z18 z19 z20 z21 z22 ∧
    LRep CLa CMe CSk CSt CEn CLe T R F tape g H A L cnt log ∧ PInv T F kk L ∧ RowLen T n L ∧ HasStk T A L ∧ cnt ≤ c
theorem MidP.of {CLa CMe CSk CSt CEn CLe : Addr} {T R : Nat} {F : Nat → List Int} {tape : List Int} {kk n c : Nat} {σ : L2.St} {H : Hp} {g : Tg} {A : LAd} {L : LSt} {cnt : Nat} {log : Option Str} {z0 z4 z6 z15 z16 z17 z18 z19 z20 z21 z22 : Option V}
    (h : LRep CLa CMe CSk CSt CEn CLe T R F tape g H A L cnt log) (hp : PInv T F kk L) (hr : RowLen T n L) (hs : HasStk T A L) (hc : cnt ≤ c) (e : σ = sg A T L.ser z0 z4 z6 z15 z16 z17 z18 z19 z20 z21 z22) : MidP CLa CMe CSk CSt CEn CLe T R F tape kk n c σ H :=
  ⟨g, A, L, cnt, log, _, _, _, _, _, _, _, _, _, _, _, e, h, hp, hr, hs, hc⟩
/-! ### rows without their list -/
structure RowRefs (g : Tg) (H : Hp) (t : Nat) (rrefs lBs : List Addr) (rows : List Row) : Prop where
  l1 : rrefs.length = rows.length
  l2 : lBs.length = rows.length
  nd : lBs.Nodup
  row : ∀ (i : Nat) (r b : Addr) (row : Row), rrefs[i]? = some r → lBs[i]? = some b → rows[i]? = some row → ∃ lA, At g H 0 r (.lst [.int row.c, .ref lA, .ref b]) ∧ CallsAt 0 g H lA row.A ∧ CallsAt (40 + t) g H b row.B
section
variable {g g' : Tg} {H H' : Hp} {t : Nat} {rrefs lBs rr2 lb2 : List Addr} {rows rows2 : List Row} {Z : Nat → Prop}
theorem RowsOk.refs {lr : Addr} (h : RowsOk g H lr t rrefs lBs rows) : RowRefs g H t rrefs lBs rows := ⟨h.l1, h.l2, h.nd, h.row⟩
theorem RowRefs.ok {lr : Addr} (h : RowRefs g H t rrefs lBs rows) (hl : At g H 0 lr (.lst (rrefs.map V.ref))) : RowsOk g H lr t rrefs lBs rows := ⟨hl, h.l1, h.l2, h.nd, h.row⟩
theorem RowRefs.keep (h : RowRefs g H t rrefs lBs rows) (k : Ch Z g H g' H') (n0 : ¬ Z 0) (n : ¬ Z (40 + t)) : RowRefs g' H' t rrefs lBs rows :=
  ⟨h.l1, h.l2, h.nd, fun i r b row e1 e2 e3 => let ⟨lA, a1, a2, a3⟩ := h.row i r b row e1 e2 e3; ⟨lA, a1.keep k n0, a2.keep k n0 n0, a3.keep k n0 n⟩⟩
theorem RowRefs.nil : RowRefs g H t [] [] [] := ⟨rfl, rfl, List.nodup_nil, fun i r b row e => by simp at e⟩
theorem RowRefs.append (h : RowRefs g H t rrefs lBs rows) (h2 : RowRefs g H t rr2 lb2 rows2) (hd : ∀ b ∈ lBs, b ∉ lb2) : RowRefs g H t (rrefs ++ rr2) (lBs ++ lb2) (rows ++ rows2) := by
  refine ⟨by rw [List.length_append, List.length_append, h.l1, h2.l1], by rw [List.length_append, List.length_append, h.l2, h2.l2], List.nodup_append.mpr ⟨h.nd, h2.nd, fun a ha b hb e => hd a ha (by rw [e]; exact hb)⟩, fun i r b row e1 e2 e3 => ?_⟩
  by_cases hi : i < rows.length
  · rw [List.getElem?_append_left (by rw [h.l1]; exact hi)] at e1
    rw [List.getElem?_append_left (by rw [h.l2]; exact hi)] at e2
    rw [List.getElem?_append_left hi] at e3
    exact h.row i r b row e1 e2 e3
  · rw [List.getElem?_append_right (by rw [h.l1]; omega), h.l1] at e1
    rw [List.getElem?_append_right (by rw [h.l2]; omega), h.l2] at e2
    rw [List.getElem?_append_right (by omega)] at e3
    exact h2.row _ r b row e1 e2 e3
theorem RowRefs.one {r b lA : Addr} {row : Row} (a1 : At g H 0 r (.lst [.int row.c, .ref lA, .ref b])) (a2 : CallsAt 0 g H lA row.A) (a3 : CallsAt (40 + t) g H b row.B) : RowRefs g H t [r] [b] [row] := by
  refine ⟨rfl, rfl, by simp, fun i r' b' row' e1 e2 e3 => ?_⟩
  cases i with
  | zero =>
    cases e1
    cases e2
    cases e3
    exact ⟨lA, a1, a2, a3⟩
  | succ i => simp at e1
end
theorem fs_fs {α : Type} {f : Nat → α} {t : Nat} {x y : α} : fs (fs f t x) t y = fs f t y := by
  funext u
  unfold fs
  split <;> rfl
theorem PInv.wk {T kk : Nat} {F : Nat → List Int} {L : LSt} (h : PInv T F kk L) {w : Nat → Int} : PInv T F kk { L with wk := w } :=
  ⟨h.th, h.whole, h.stamps, h.dl, h.act1, h.actN, h.actS, fun u hu row hr => ⟨(h.rows u hu row hr).o, (h.rows u hu row hr).d, (h.rows u hu row hr).s, (h.rows u hu row hr).ser⟩⟩
section
variable {P : Program} {w : World} {K : PySem.W.Frag} {mg : Str → Option Value} {base : Heap} {CSk CSt CEn CLe CLa CMe : Addr}
theorem law_in (T : Txt K mg CSk CSt CEn CLe CLa CMe) (G : LawG P w K mg base CSk CSt CEn CLe CLa CMe) (f : Addr) (cdv : Value) (A : Around) (outer : List PySem.Env) (s0 : Shared) (H0 : Hp) (E : XK) (hr : Room 8 (A.deeper (envOfC "law" (fnScope (top 30)) s0.heap.objs.size f cdv))) :
    ∃ tb, PSs (lawX P w K mg base f cdv A outer s0 H0 E) (ifThen (pickSt 3)) tb ∧ ∀ (D : Ends) (g : Tg) (H : Hp) (B : LAd) (L : LSt) (cnt : Nat) (log : Option Str) (n R t kk nn c : Nat) (F : Nat → List Int) (tape : List Int) (num : Int) (z0 z15 z17 z18 z19 z20 z21 z22 : Option V),
      FOk n F → LRep CLa CMe CSk CSt CEn CLe n R F tape g H B L cnt log → PInv n F kk L → RowLen n nn L → HasStk n B L → cnt ≤ c → c ≤ 50000 → kk ≤ 900 → 3 ≤ nn → nn ≤ 5000 → t < n → L.ph t = .inn →
      (∀ σ' H', MidP CLa CMe CSk CSt CEn CLe n R F tape (kk + 2) (nn + 5) (c + 1) σ' H' → D.nx σ' H') →
      tb D (sg B n L.ser z0 (some (.int (t : Nat))) (some (.ref (B.sto t))) z15 (some (.int num)) z17 z18 z19 z20 z21 z22) H := by
  have nd : lawN.Nodup := scLaw.nd
  refine ⟨_, pss_cons (ps_expr (pe_mt G.access hr (by decide) (pv 3) (pa_cons (pv 4) (pa_cons (pe_tup (pa_cons pe_str (pa_cons (pe_mt G.word hr (by decide) (pe_fld (pv 3) rfl) (pa_cons pe_int pa_nil)) pa_nil))) pa_nil))))
        (pss_cons (ps_asg (pe_op op_sub (pe_ix ix_list (pv 10) (pv 4) (fun _ _ => rfl)) pe_int) (pg_sub (pv 10) (pv 4) set_list))
        (pss_cut (ps_if (pt_cmpR op_eq (pe_op op_mod (pe_op op_fdiv (pv 16) pe_int) pe_int) pe_int (nomark _))
          (pss_cons (ps_set (i := 17) nd rfl (Or.inr rfl) (pe_mt G.take hr (by decide) (pv 6) (pa_cons (pe_callB (call_min2 rfl) (by rfl) T.min (by decide +kernel) (pa_cons (pe_op op_mod (pe_op op_fdiv (pv 16) pe_int) pe_int) (pa_cons (pe_callB call_len_seq (by rfl) T.len PySem.boot_len (pa_cons (pe_mt0 G.free hr (by decide) (pv 6)) pa_nil)) pa_nil))) pa_nil)))
          (pss_cons (ps_expr (pe_mt G.takeOut hr (by decide) (pv 6) (pa_cons (pv 17) pa_nil)))
          (pss_cons (ps_asg (pe_lc (own := [("_law_row", 23)]) (g := gName 23) rfl nd (pi_list (pe_ix ix_list (pv 14) (pv 4) (fun _ _ => rfl))) (blkOk_by (N := lawN) (sc := fnScope (top 30)) (by decide +kernel))
              (fun _ _ _ _ _ => pg_name (i := 23) nd rfl (Or.inl rfl)) (fun _ _ _ _ _ => pts_one (pt_cmpR (op_notInK (K := K) rfl) (pe_ixLK (K := K) rfl (pv 23) pe_int (fun _ _ => rfl)) (pv 17) rfl)) (fun _ _ _ _ _ => pv 23)) (pg_sub (pv 14) (pv 4) set_list))
          (pss_one (ps_asg (pe_op op_cat (pe_ix ix_list (pv 14) (pv 4) (fun _ _ => rfl)) (pe_lc (own := [("_law_cell", 24)]) (g := gName 24) (tt := tYes) rfl nd (pi_list (pv 17)) (blkOk_by (N := lawN) (sc := fnScope (top 30)) (by decide +kernel))
              (fun _ _ _ _ _ => pg_name (i := 24) nd rfl (Or.inl rfl)) (fun _ _ _ _ _ => pts_nil)
              (fun _ _ _ _ _ => pe_lst (pa_cons (pv 24) (pa_cons (pe_callTy (T := "list") (r := rListOf K) (callList rfl) (by rfl) T.list (by decide +kernel) (pa_cons (pv 12) pa_nil)) (pa_cons (pe_callTy (T := "list") (r := rListOf K) (callList rfl) (by rfl) T.list (by decide +kernel) (pa_cons (pv 12) pa_nil)) pa_nil)))))) (pg_sub (pv 14) (pv 4) set_list)))))) pss_nil)
        (pss_one (ps_if (pt_cmpR op_le (pe_ix ix_list (pv 10) (pv 4) (fun _ _ => rfl)) pe_int (nomark _))
          (pss_cons (ps_asg pe_str (pg_sub (pv 9) (pv 4) set_list))
          (pss_one (ps_asg (pe_mk G.skI hr (by decide) (by rfl) (pa_cons (pe_mk G.leI hr (by decide) (by rfl) (pa_cons (pv 6) pa_nil)) pa_nil)) (pg_sub (pv 8) (pv 4) set_list)))) pss_nil)))), ?_⟩
  intro D g H B L cnt log n R t kk nn c F tape num z0 z15 z17 z18 z19 z20 z21 z22 hF h hp hrow hst hcnt hc hkk hn3 hnn ht hph fin
  have hT := hF.hi
  -- the access
  obtain ⟨vals, MA, hv⟩ := h.mem
  have ⟨md, M, _⟩ := MA
  obtain ⟨dl, Lt⟩ := M.lay
  refine ⟨_, rfl, _, _, _, rfl, M.ins.1, rfl, _, rfl, _, rfl, _, _, _, _, _, rfl, M.ins.1, T.clMe, T.meLayout, rfl, _, _, _, rfl, Lt.1, rfl, _, _, _, _, _, rfl, Lt.1, size_2 (by show 2 ≤ 100000; decide), fun p hp1 => ?_⟩
  have et : ([.str "read", .int (1 + 2 * (n : Int) + 0)] : List V) = (Rq.rd (1 + 2 * n)).tup := by
    show _ = [V.str "read", V.int ((1 + 2 * n : Nat) : Int)]
    have : (1 + 2 * (n : Int) + 0) = ((1 + 2 * n : Nat) : Int) := by omega
    rw [this]
  have kp : Ch (fun _ => False) g H (tg g p 0) (upd H p (.tup [.str "read", .int (1 + 2 * (n : Int) + 0)])) := Ch.new hp1
  refine ⟨tg g p 0, B.m, p, n, R, vals, cnt, log, t, .rd (1 + 2 * n), rfl, MA.keep kp id id, ⟨upd_same.trans (congrArg (fun z => some (HO.tup z)) et), tg_same⟩, by show 1 + 2 * n < vals.length; have := M.vlen; omega, ht, by omega, fun g1 H1 ra k1 MA1 hra => ?_⟩
  have h1 : LRep CLa CMe CSk CSt CEn CLe n R F tape g1 H1 B L (cnt + 1) (some "read") := (h.keep kp).memory (E := L.E) (slot := L.slot) k1 ⟨vals, MA1, hv⟩
  clear h kp k1 MA1 MA M Lt hra hp1
  -- work[thread] - 1
  refine ⟨_, rfl, _, rfl, _, _, _, _, rfl, rfl, SqL.of h1.lwk.1, atI_nat (rl_get ht), _, _, rfl, rfl, _, rfl, _, rfl, _, _, _, t, rfl, rfl, h1.lwk.1, ixN_nat (by rw [rl_len]; exact ht), ?_⟩
  have h2 := h1.work (t := t) (x := L.wk t - 1) hT
  generalize upd H1 B.lwk (.lst ((rl n fun u => V.int (L.wk u)).set t (.int (L.wk t - 1)))) = H2 at h2 ⊢
  clear h1
  -- cells are taken out, or not
  refine ⟨fun σ' H' => ∃ (g' : Tg) (B' : LAd) (L' : LSt) (z17' : Option V), σ' = sg B' n L'.ser z0 (some (.int (t : Nat))) (some (.ref (B'.sto t))) z15 (some (.int num)) z17' z18 z19 z20 z21 z22 ∧ LRep CLa CMe CSk CSt CEn CLe n R F tape g' H' B' L' (cnt + 1) (some "read") ∧ PInv n F (kk + 1) L' ∧ RowLen n (nn + 5) L' ∧ HasStk n B' L' ∧ L'.ph t = .inn, ?_, ?_⟩
  · refine ⟨_, rfl, _, _, rfl, rfl, ⟨by decide, by decide⟩, _, _, rfl, rfl, (by show (0 : Int) < 3; decide), rfl, _, rfl, ?_⟩
    refine ite2 (fun _ => ?_) (fun _ => ?_)
    · have SA := h2.sto t ht
      have ⟨d, M⟩ := SA
      refine ⟨_, rfl, _, _, _, rfl, M.ins.1, rfl, _, rfl, _, _, rfl, rfl, ⟨by decide, by decide⟩, _, _, rfl, rfl, (by show (0 : Int) < 5; decide), _, rfl, _, _, _, rfl, M.ins.1, rfl, g1, B.sto t, n, R, t, _, rfl, SA, fun p hpf => ⟨_, _, rfl, .inl (SqL.of upd_same), _, _, rfl, ?_⟩⟩
      obtain ⟨k, hk, hkl, hk4⟩ : ∃ k : Nat, (if (((L.sto t).spare.map V.int).length : Int) < num / 12 % 5 then (((L.sto t).spare.map V.int).length : Int) else num / 12 % 5) = (k : Int) ∧ k ≤ (L.sto t).spare.length ∧ k ≤ 4 := by
        have m1 : 0 ≤ num / 12 % 5 := Int.emod_nonneg _ (by decide)
        have m2 : num / 12 % 5 < 5 := Int.emod_lt_of_pos _ (by decide)
        rw [List.length_map]
        by_cases hlt : ((L.sto t).spare.length : Int) < num / 12 % 5
        · rw [if_pos hlt]
          exact ⟨_, rfl, Nat.le_refl _, by omega⟩
        · rw [if_neg hlt]
          exact ⟨(num / 12 % 5).toNat, by omega, by omega, by omega⟩
      have kF : Ch (fun _ => False) g1 H2 (tg g1 p 0) (upd H2 p (.lst ((L.sto t).spare.map V.int))) := Ch.new hpf
      have h3 := h2.keep kF
      refine ⟨tg g1 p 0, B.sto t, n, R, t, _, k, congrArg (fun z => [V.ref (B.sto t), V.int z]) hk, h3.sto t ht, hkl, fun g3 H3 lt k3 SA3 hlt => ?_⟩
      have h4 := h3.store hT k3 SA3 ht
      have ⟨d3, M3⟩ := SA3
      have hsm := hp.small ht (hF.len t ht) (by omega)
      obtain ⟨hsm1, hsm2⟩ := hsm
      refine ⟨_, rfl, _, _, _, rfl, M3.ins.1, rfl, _, rfl, g3, B.sto t, lt, n, R, t, _, (L.sto t).spare.take k, rfl, SA3, hlt.1, ?_, fun g4 H4 k4 SA4 => ?_⟩
      · show (L.sto t).out.length + ((L.sto t).spare.take k).length ≤ 100000
        rw [List.length_take]
        omega
      have h5 := h4.store hT k4 SA4 ht
      have hlt5 := hlt.keep k4 (by omega)
      clear h3 h4 kF k3 k4 M M3 SA hpf
      -- the rows of the cells that are taken again are dropped
      obtain ⟨rrefs, lBs, RO⟩ := h5.rows t ht
      refine ⟨_, rfl, _, rfl, _, _, _, _, rfl, rfl, SqL.of h5.lrows.1, atI_nat (rl_get ht), _, rfl, ⟨_, SqL.of RO.lst.1⟩, fun ld hld => ?_⟩
      refine lc_list (K := K) (a := B.lr t) (xs := rrefs.map V.ref) (fun i H' => ∃ (g' : Tg) (rr lb : List Addr), Ch (fun _ => False) g4 H4 g' H' ∧ At g' H' 7 ld (.lst (rr.map V.ref)) ∧ RowRefs g' H' t rr lb (((L.rows t).take i).filter fun row => decide (row.c ∉ (L.sto t).spare.take k)) ∧ ∀ b ∈ lb, ∃ j, j < i ∧ lBs[j]? = some b) ?_ ?_ ?_ ?_
      · exact ⟨tg g4 ld 7, [], [], Ch.new hld, At.new, .nil, fun b hb => by cases hb⟩
      · rintro i H' hi ⟨g', rr, lb, k', _⟩
        exact SqL.of (RO.keep k' id id).lst.1
      · rintro i x H' hi ⟨g', rr, lb, k', hl', hrr, hlb⟩
        have hil : i < (L.rows t).length := by
          have := (List.getElem?_eq_some_iff.mp hi).1
          rw [List.length_map, RO.l1] at this
          exact this
        have ei : (L.rows t)[i]? = some (L.rows t)[i] := List.getElem?_eq_getElem hil
        generalize (L.rows t)[i] = row at ei
        have RO' := RO.keep k' id id
        obtain ⟨r, b, lA, er, eb, hr', hcA, hcB⟩ := RO'.at_ ei
        obtain rfl : x = .ref r := by
          rw [List.getElem?_map, er] at hi
          exact (Option.some.inj hi).symm
        have hlt' := hlt5.keep k' id
        refine ⟨rfl, ?_⟩
        refine ⟨_, rfl, _, _, _, _, rfl, rfl, SqL.of hr'.1, atI_nat (j := 0) rfl, _, rfl, _, _, rfl, .inl (SqL.of hlt'.1), rfl, flat_ints _, _, rfl, ?_⟩
        show if (!inV (.int row.c) (((L.sto t).spare.take k).map V.int)) = true then _ else _
        rw [inV_int]
        have el := take_snoc ei
        by_cases hin : row.c ∈ (L.sto t).spare.take k
        · refine nN hin ⟨g', rr, lb, k', hl', ?_, fun b hb => let ⟨j, j1, j2⟩ := hlb b hb; ⟨j, by omega, j2⟩⟩
          rw [el, List.filter_append]
          have e1 : ([row].filter fun row => decide (row.c ∉ (L.sto t).spare.take k)) = [] := by simp [hin]
          rw [e1, List.append_nil]
          exact hrr
        · refine nY hin ⟨_, rfl, _, hl'.1, ?_, g', rr ++ [r], lb ++ [b], k'.wrNew hld, ?_, ?_, ?_⟩
          · refine At.len_le ?_
            rw [List.length_map, hrr.l1]
            have q1 : (((L.rows t).take i).filter fun row => decide (row.c ∉ (L.sto t).spare.take k)).length ≤ ((L.rows t).take i).length := List.length_filter_le _ _
            have q2 : ((L.rows t).take i).length ≤ i := by rw [List.length_take]; omega
            have q3 := (hrow t ht).1
            omega
          · rw [List.map_append]
            exact hl'.wr
          · have k7 : Ch (fun c => c = 7) g' H' g' _ := Ch.wr (o' := .lst (rr.map V.ref ++ [.ref r])) hl' rfl
            rw [el, List.filter_append]
            have e1 : ([row].filter fun row => decide (row.c ∉ (L.sto t).spare.take k)) = [row] := by simp [hin]
            rw [e1]
            refine RowRefs.append (hrr.keep k7 (by omega) (by omega)) (RowRefs.one (hr'.keep k7 (by omega)) (hcA.keep k7 (by omega) (by omega)) (hcB.keep k7 (by omega) (by omega))) fun b' hb' hbb => ?_
            obtain ⟨j, j1, j2⟩ := hlb b' hb'
            rw [List.mem_singleton.mp hbb] at j2
            have := nd_ix RO.nd j2 eb
            omega
          · intro b' hb'
            rcases List.mem_append.mp hb' with hb' | hb'
            · obtain ⟨j, j1, j2⟩ := hlb b' hb'
              exact ⟨j, by omega, j2⟩
            · rw [List.mem_singleton.mp hb']
              exact ⟨i, by omega, eb⟩
      rintro H5 ⟨g5, rr, lb, k5, hl5, hrr5, hlb5⟩
      have elr : (L.rows t).take (rrefs.map V.ref).length = L.rows t := List.take_of_length_le (by rw [List.length_map, RO.l1]; exact Nat.le_refl _)
      rw [elr] at hrr5
      have k5' := k5.retag (c := 0) hld
      have t5 : Ch (fun c => c = 7) g5 H5 (tg g5 ld 0) H5 := Ch.tagged hl5 rfl
      have RA5 : RowsAt (tg g5 ld 0) H5 ld t ((L.rows t).filter fun row => decide (row.c ∉ (L.sto t).spare.take k)) := ⟨rr, lb, (hrr5.keep t5 (by omega) (by omega)).ok ⟨hl5.1, tg_same⟩⟩
      have h5k := h5.keep k5'
      refine ⟨_, rfl, _, rfl, _, _, _, t, rfl, rfl, h5k.lrows.1, ixN_nat (by rw [rl_len]; exact ht), ?_⟩
      have h6 := h5.rowsNew hT k5' RA5
      have hlt6 := (hlt5.keep k5' id).keep (Ch.wr (S := fun c => c = 55) (o' := .lst ((rl n fun u => V.ref (B.lr u)).set t (.ref ld))) h5k.lrows rfl) (by omega)
      have RA6 := (h6.rows t ht)
      generalize tg g5 ld 0 = g6 at h6 hlt6 RA6
      generalize upd H5 B.lrows (.lst ((rl n fun u => V.ref (B.lr u)).set t (.ref ld))) = H6 at h6 hlt6 RA6 ⊢
      clear h5k RA5 t5 k5' hl5 hrr5 hlb5 k5 h5 hlt5 RO hld
      -- the new rows
      have ea6 : fs B.lr t ld t = ld := fs_same
      have er6 : fs L.rows t ((L.rows t).filter fun row => decide (row.c ∉ (L.sto t).spare.take k)) t = (L.rows t).filter fun row => decide (row.c ∉ (L.sto t).spare.take k) := fs_same
      have RA6 : RowsAt g6 H6 ld t ((L.rows t).filter fun row => decide (row.c ∉ (L.sto t).spare.take k)) := by
        have q := RA6
        show RowsAt g6 H6 ld t _
        have q : RowsAt g6 H6 (fs B.lr t ld t) t (fs L.rows t ((L.rows t).filter fun row => decide (row.c ∉ (L.sto t).spare.take k)) t) := q
        rw [ea6, er6] at q
        exact q
      obtain ⟨rr6, lb6, RO6⟩ := RA6
      have ⟨ra, ha1, ha2⟩ := h6.act
      have get6 : (rl n fun u => V.ref (fs B.lr t ld u))[t]? = some (.ref ld) := by
        rw [rl_get ht, fs_same]
      refine ⟨_, rfl, _, rfl, _, _, _, _, rfl, rfl, SqL.of h6.lrows.1, atI_nat get6, _, rfl, _, rfl, ⟨_, SqL.of hlt6.1⟩, fun le hle => ?_⟩
      refine lc_list (K := K) (a := lt) (xs := ((L.sto t).spare.take k).map V.int) (fun i H' => ∃ (g' : Tg) (rr lb : List Addr), Ch (fun _ => False) g6 H6 g' H' ∧ At g' H' 7 le (.lst (rr.map V.ref)) ∧ RowRefs g' H' t rr lb ((((L.sto t).spare.take k).take i).map fun c => ⟨c, L.act, L.act⟩) ∧ ∀ b ∈ lb, H6 b = none) ?_ ?_ ?_ ?_
      · exact ⟨tg g6 le 7, [], [], Ch.new hle, At.new, .nil, fun b hb => by cases hb⟩
      · rintro i H' hi ⟨g', rr, lb, k', _⟩
        exact SqL.of (hlt6.keep k' id).1
      · rintro i x H' hi ⟨g', rr, lb, k', hl', hrr, hlb⟩
        obtain ⟨cc, ecc, rfl⟩ : ∃ cc, ((L.sto t).spare.take k)[i]? = some cc ∧ x = .int cc := by
          rw [List.getElem?_map] at hi
          cases e1 : ((L.sto t).spare.take k)[i]? with
          | none => rw [e1] at hi; cases hi
          | some c => rw [e1] at hi; exact ⟨c, rfl, (Option.some.inj hi).symm⟩
        have ha1' := ha1.keep k' id
        refine ⟨rfl, ?_⟩
        refine ⟨_, rfl, _, rfl, _, _, rfl, .inl (SqL.of ha1'.1), fun l1 hl1 => ?_⟩
        have c1 : Ch (fun _ => False) g' H' (tg g' l1 0) (upd H' l1 (.lst (ra.map V.ref))) := Ch.new hl1
        have n1 := At.new (g := g') (H := H') (p := l1) (c := 0) (o := .lst (ra.map V.ref))
        refine ⟨_, rfl, _, _, rfl, .inl (SqL.of (ha1'.keep c1 id).1), fun l2 hl2 => ?_⟩
        have c2 : Ch (fun _ => False) (tg g' l1 0) (upd H' l1 (.lst (ra.map V.ref))) (tg (tg g' l1 0) l2 (40 + t)) (upd (upd H' l1 (.lst (ra.map V.ref))) l2 (.lst (ra.map V.ref))) := Ch.new hl2
        have n2 := At.new (g := tg g' l1 0) (H := upd H' l1 (.lst (ra.map V.ref))) (p := l2) (c := 40 + t) (o := .lst (ra.map V.ref))
        refine ⟨size_2 (by show 3 ≤ 100000; decide), fun r0 hr0 => ?_⟩
        have c3 : Ch (fun _ => False) (tg (tg g' l1 0) l2 (40 + t)) _ (tg (tg (tg g' l1 0) l2 (40 + t)) r0 0) (upd (upd (upd H' l1 (.lst (ra.map V.ref))) l2 (.lst (ra.map V.ref))) r0 (.lst [.int cc, .ref l1, .ref l2])) := Ch.new hr0
        have n3 := At.new (g := tg (tg g' l1 0) l2 (40 + t)) (H := upd (upd H' l1 (.lst (ra.map V.ref))) l2 (.lst (ra.map V.ref))) (p := r0) (c := 0) (o := .lst [.int cc, .ref l1, .ref l2])
        have c123 := (c1.trans c2).trans c3
        have hl3 := hl'.keep c123 id
        have hrr3 := hrr.keep c123 id id
        have ca := ha2.keep (k'.trans c123) id
        have k7 : Ch (fun c => c = 7) _ _ (tg (tg (tg g' l1 0) l2 (40 + t)) r0 0) _ := Ch.wr (o' := .lst (rr.map V.ref ++ [.ref r0])) hl3 rfl
        have hl2' : H' l2 = none := c1.free hl2
        refine ⟨_, hl3.1, ?_, _, rr ++ [r0], lb ++ [l2], (k'.trans c123).wrNew hle, ?_, ?_, ?_⟩
        · refine At.len_le ?_
          rw [List.length_map, hrr.l1, List.length_map, List.length_take, List.length_take]
          omega
        · rw [List.map_append]
          exact hl3.wr
        · rw [take_snoc ecc, List.map_append]
          refine RowRefs.append (hrr3.keep k7 (by omega) (by omega)) (RowRefs.one (row := ⟨cc, L.act, L.act⟩) (n3.keep k7 (by omega)) ⟨ra, ((n1.keep c2 id).keep c3 id).keep k7 (by omega), ca.keep k7 (by omega)⟩ ⟨ra, (n2.keep c3 id).keep k7 (by omega), ca.keep k7 (by omega)⟩) fun b' hb' hbb => ?_
          rw [List.mem_singleton.mp hbb] at hb'
          obtain ⟨j, hj⟩ := List.mem_iff_getElem?.mp hb'
          have hjl : j < rr.length := by
            rw [hrr.l1, ← hrr.l2]
            exact (List.getElem?_eq_some_iff.mp hj).1
          have hjl2 : j < ((((L.sto t).spare.take k).take i).map fun c => (⟨c, L.act, L.act⟩ : Row)).length := by rw [← hrr.l1]; exact hjl
          obtain ⟨lA, _, _, ⟨rf, hb1, _⟩⟩ := hrr.row j rr[j] l2 _ (List.getElem?_eq_getElem hjl) hj (List.getElem?_eq_getElem hjl2)
          rw [hb1.1] at hl2'
          cases hl2'
        · intro b' hb'
          rcases List.mem_append.mp hb' with hb' | hb'
          · exact hlb b' hb'
          · rw [List.mem_singleton.mp hb']
            exact k'.free hl2'
      rintro H7 ⟨g7, rr7, lb7, k7, hl7, hrr7, hlb7⟩
      have elt : ((L.sto t).spare.take k).take (((L.sto t).spare.take k).map V.int).length = (L.sto t).spare.take k := List.take_of_length_le (by rw [List.length_map]; exact Nat.le_refl _)
      rw [elt] at hrr7
      have RO7 := RO6.keep k7 id id
      have len6 : ((L.rows t).filter fun row => decide (row.c ∉ (L.sto t).spare.take k)).length ≤ nn := Nat.le_trans (List.length_filter_le _ _) (hrow t ht).1
      have len7 : (((L.sto t).spare.take k).map fun c => (⟨c, L.act, L.act⟩ : Row)).length ≤ 4 := by
        rw [List.length_map, List.length_take]
        omega
      refine ⟨_, _, _, _, rfl, rfl, RO7.lst.1, hl7.1, size_2 (by rw [List.length_map, List.length_map, RO7.l1, hrr7.l1]; omega), fun pn hpn => ?_⟩
      rw [← List.map_append]
      have k8 : Ch (fun _ => False) g7 H7 (tg g7 pn 0) (upd H7 pn (.lst ((rr6 ++ rr7).map V.ref))) := Ch.new hpn
      have k78 := k7.trans k8
      have RA8 : RowsAt (tg g7 pn 0) (upd H7 pn (.lst ((rr6 ++ rr7).map V.ref))) pn t (((L.rows t).filter fun row => decide (row.c ∉ (L.sto t).spare.take k)) ++ ((L.sto t).spare.take k).map fun c => ⟨c, L.act, L.act⟩) := by
        refine ⟨rr6 ++ rr7, lb6 ++ lb7, RowRefs.ok (RowRefs.append (RO7.refs.keep k8 id id) (hrr7.keep k8 id id) fun b hb hb7 => ?_) At.new⟩
        have hn := hlb7 b hb7
        obtain ⟨j, hj⟩ := List.mem_iff_getElem?.mp hb
        have hjl2 : j < ((L.rows t).filter fun row => decide (row.c ∉ (L.sto t).spare.take k)).length := by
          rw [← RO6.l2]
          exact (List.getElem?_eq_some_iff.mp hj).1
        obtain ⟨r, b', lA, _, e2, _, _, ⟨rf, hb1, _⟩⟩ := RO6.at_ (List.getElem?_eq_getElem hjl2)
        have : b' = b := Option.some.inj (e2.symm.trans hj)
        subst this
        rw [hb1.1] at hn
        cases hn
      have h6k := h6.keep k78
      refine ⟨_, rfl, _, rfl, _, _, _, t, rfl, rfl, h6k.lrows.1, ixN_nat (by rw [rl_len]; exact ht), ?_⟩
      have h9 := h6.rowsNew (t := t) hT k78 RA8
      have hp9 := (hp.wk (w := fs L.wk t (L.wk t - 1))).take (hF.nd t ht) ht hph k
      refine ⟨_, _, _, some (.ref lt), ?_, h9, ?_, ?_, hst, hph⟩
      · rfl
      · have e1 : ∀ x, fs (fs L.sto t { L.sto t with spare := (L.sto t).spare.drop k }) t x = fs L.sto t x := fun x => fs_fs
        have e2 : ∀ x, fs (fs L.rows t ((L.rows t).filter fun row => decide (row.c ∉ (L.sto t).spare.take k))) t x = fs L.rows t x := fun x => fs_fs
        dsimp only
        rw [e1, e2]
        exact hp9
      · intro u hu
        dsimp only
        rw [fs_fs]
        by_cases eu : u = t
        · subst eu
          rw [fs_same]
          refine ⟨by rw [List.length_append]; omega, fun row hr => ?_⟩
          rcases List.mem_append.mp hr with hr | hr
          · have := (hrow u hu).2 row (List.mem_filter.mp hr).1
            exact ⟨this.1, by omega⟩
          · obtain ⟨c0, _, rfl⟩ := List.mem_map.mp hr
            have := hp.actLen
            exact ⟨by show L.act.length ≤ 3; omega, by show L.act.length ≤ nn + 5; omega⟩
        · rw [fs_ne eu]
          exact (hrow.mono (Nat.le_add_right nn 5)) u hu
    · exact ⟨g1, B, { L with wk := fs L.wk t (L.wk t - 1) }, z17, rfl, h2, (hp.wk).mono (Nat.le_succ _), hrow.mono (by omega), hst, hph⟩
  · rintro σ' H' ⟨g', B', L', z17', rfl, h3, hp3, hrow3, hst3, hph3⟩
    refine ⟨_, rfl, _, rfl, _, _, _, _, rfl, rfl, SqL.of h3.lwk.1, atI_nat (rl_get ht), _, _, rfl, rfl, _, rfl, ?_⟩
    refine ite2 (fun _ => ?_) (fun _ => ?_)
    · refine ⟨_, rfl, _, rfl, _, _, _, t, rfl, rfl, h3.lph.1, ixN_nat (by rw [rl_len]; exact ht), ?_⟩
      have h4 := h3.phase (t := t) (x := .lea) hT
      have SA4 := h4.sto t ht
      refine ⟨_, rfl, ?_⟩
      intro a da na nda nea
      obtain ⟨m1, b1⟩ := made (g := g') (C := CLe) (c := 30 + t) na nda nea
      have SA5 := SA4.keep m1 id id id
      refine ⟨_, a, da, _, n, R, t, L'.sto t, rfl, b1, SA5, hT, fun g2 H2 k2 LA => ⟨rfl, ?_⟩⟩
      intro k dk nk ndk nek
      obtain ⟨m3, b3⟩ := made (g := g2) (C := CSk) (c := 20 + t) nk ndk nek
      refine ⟨_, k, dk, t, .ref a, rfl, b3, fun g4 H4 ml k4 hk hm => ⟨rfl, ?_⟩⟩
      have KA : StkAt CSk CEn CLe g4 H4 k (B'.sto t) n t (some (.le (if (L'.sto t).out = [] then .slot else .stamp))) := ⟨dk, ml, .non, hk, a, hm, MachAt.keep (ms := .le _) (MachAt.keep (ms := .le _) LA m3 id id) k4 (by omega) (by omega)⟩
      have kk4 : Ch (fun c => c = 20 + t ∨ c = 25 + t ∨ c = 30 + t) _ _ g4 H4 := (((m1.mono (S' := fun c => c = 20 + t ∨ c = 25 + t ∨ c = 30 + t) fun _ z => z.elim).trans (k2.mono fun c z => by omega)).trans (m3.mono fun _ z => z.elim)).trans (k4.mono fun c z => by omega)
      have h5 := h4.stack hT ht kk4 KA
      have l4 := h4.lstk.keep kk4 (by omega)
      refine ⟨_, rfl, _, rfl, _, _, _, t, rfl, rfl, l4.1, ixN_nat (by rw [rl_len]; exact ht), ?_⟩
      refine fin _ _ (MidP.of h5 ?_ hrow3 ?_ (by omega) rfl)
      · have th : ThC (inAct L' t) (LeaInv n L') (L'.slot t) (L'.sto t).out (L'.ph t) (L'.stk t) := hp3.th t ht
        rw [hph3] at th
        have th : inAct L' t := th
        refine PInv.wk (w := L'.wk) (PInv.phase (p := .lea) (c := some (.le (if (L'.sto t).out = [] then .slot else .stamp))) (w := 0) hp3 ht ?_)
        by_cases ho : (L'.sto t).out = []
        · rw [if_pos ho]
          exact ⟨th, ho⟩
        · rw [if_neg ho]
          exact th
      · intro u hu hne
        show fs B'.stk t (some k) u ≠ none
        by_cases eu : u = t
        · subst eu
          rw [fs_same]
          intro z
          cases z
        · rw [fs_ne eu]
          refine hst3 u hu fun z => hne ?_
          show fs L'.ph t .lea u = .out
          rw [fs_ne eu]
          exact z
    · exact fin _ _ (MidP.of h3 (hp3.mono (Nat.le_succ _)) hrow3 hst3 (by omega) rfl)
end

/-! ### one access by a machine: which of the three -/
theorem PInv.wf {T kk t : Nat} {F : Nat → List Int} {L : LSt} (h : PInv T F kk L) (ht : t < T) (hph : L.ph t = .ent ∨ L.ph t = .lea) {ms : MS} (hc : L.stk t = some ms) : ms.done = false ∧ ms.wf T := by
  have th : ThC (inAct L t) (LeaInv T L) (L.slot t) (L.sto t).out (L.ph t) (L.stk t) := h.th t ht
  rw [hc] at th
  rcases hph with hph | hph
  · rw [hph] at th
    cases ms with
    | en st => cases st with
      | dn e => exact th.elim
      | rd => exact ⟨rfl, trivial⟩
      | wr e => exact ⟨rfl, trivial⟩
      | ag e => exact ⟨rfl, trivial⟩
    | le st => exact th.elim
  · rw [hph] at th
    cases ms with
    | en st => exact th.elim
    | le st => cases st with
      | dn => exact th.elim
      | stamp => exact ⟨rfl, trivial⟩
      | slot => exact ⟨rfl, trivial⟩
      | epoch => exact ⟨rfl, trivial⟩
      | other e us => exact ⟨rfl, th.2.2.2.1, th.2.2.2.2.2.1⟩
      | move e => exact ⟨rfl, trivial⟩
theorem stepLaw {T kk t : Nat} {F : Nat → List Int} {L : LSt} (h : PInv T F kk L) (ht : t < T) (hph : L.ph t = .ent ∨ L.ph t = .lea) {ms : MS} (hc : L.stk t = some ms) {E' : Int} {sl' : List (Option Int)} {S' : SS} {c' : Option MS}
    (st : MStep T t L.E (rl T L.slot) (L.sto t) ms E' sl' S' c') : E' = ms.aftE L.E ∧ sl' = rl T (ms.aftSlot t L.slot) ∧
    ((PInv T F (kk + 1) (L.step t ms S' c') ∧ (L.ph t = .lea → L.slot t = none ∨ ms.aftSlot t L.slot t ≠ none) ∧ (L.ph t = .ent → (ms.rq t).kind ≠ "read" ∨ ms.aftSlot t L.slot t = none ∨ L.slot t ≠ some (ms.aftE L.E))) ∨
     (L.ph t = .lea ∧ L.slot t ≠ none ∧ ms.aftSlot t L.slot t = none ∧ PInv T F (kk + 1) { L.step t ms S' c' with act := L.act.filter fun q => decide (q.1 ≠ t) }) ∨
     (L.ph t = .ent ∧ ms = .en (.ag L.E) ∧ S' = L.sto t ∧ c' = none)) := by
  obtain ⟨e1, e2, st⟩ := st
  rw [aftSl_rl] at e2
  refine ⟨e1, e2, ?_⟩
  have th : ThC (inAct L t) (LeaInv T L) (L.slot t) (L.sto t).out (L.ph t) (L.stk t) := h.th t ht
  rw [hc] at th
  have hlt : L.ph t = .ent → L.ph t ≠ .lea := fun a b => by rw [a] at b; cases b
  have hlt2 : L.ph t = .lea → L.ph t ≠ .ent := fun a b => by rw [a] at b; cases b
  cases ms with
  | en s =>
    have hpe : L.ph t = .ent := by
      rcases hph with e | e
      · exact e
      · rw [e] at th
        exact th.elim
    obtain ⟨rfl, rfl⟩ := st
    by_cases hs : s = .ag L.E
    · subst hs
      refine .inr (.inr ⟨hpe, rfl, rfl, ?_⟩)
      show settled (some (.en (if L.E = L.E then .dn L.E else .wr L.E))) = none
      rw [if_pos rfl]
      rfl
    · refine .inl ⟨h.ent ht hpe hc hs, fun z => absurd z (hlt hpe), fun _ => ?_⟩
      rw [hpe] at th
      cases s with
      | rd => exact .inr (.inl th.2.2)
      | wr e =>
        refine .inl ?_
        intro z
        cases z
      | ag e =>
        refine .inr (.inr ?_)
        rw [th.2.2]
        intro z
        exact hs (by rw [Option.some.inj z]; rfl)
      | dn e => exact th.elim
  | le s =>
    have hpl : L.ph t = .lea := by
      rcases hph with e | e
      · rw [e] at th
        exact th.elim
      · exact e
    obtain ⟨st', ac, rfl⟩ := st
    cases s with
    | slot =>
      obtain ⟨rfl, rfl⟩ := ac
      rw [hpl] at th
      obtain ⟨⟨q, q1, q2⟩, t2⟩ := th
      refine .inr (.inl ⟨hpl, ?_, fs_same, h.leaSlot ht hpl hc⟩)
      obtain ⟨v, v1, _⟩ := h.actS q q1
      rw [q2] at v1
      rw [v1]
      intro z
      cases z
    | stamp =>
      obtain ⟨x, hx, rfl, rfl⟩ := ac
      have hx : V.int L.E = .int x := hx
      cases hx
      refine .inl ⟨h.leaStamp ht hpl hc, fun _ => ?_, fun z => absurd z (hlt2 hpl)⟩
      rw [hpl] at th
      obtain ⟨q, q1, q2⟩ := th
      refine .inr ?_
      obtain ⟨v, v1, _⟩ := h.actS q q1
      rw [q2] at v1
      show L.slot t ≠ none
      rw [v1]
      intro z
      cases z
    | epoch =>
      obtain ⟨r1, r2⟩ := h.leaOn ht hpl hc (by intro z; cases z) (by intro z; cases z) ac
      exact .inl ⟨r1, fun _ => .inl r2, fun z => absurd z (hlt2 hpl)⟩
    | other e us =>
      obtain ⟨r1, r2⟩ := h.leaOn ht hpl hc (by intro z; cases z) (by intro z; cases z) ac
      exact .inl ⟨r1, fun _ => .inl r2, fun z => absurd z (hlt2 hpl)⟩
    | move e =>
      obtain ⟨r1, r2⟩ := h.leaOn ht hpl hc (by intro z; cases z) (by intro z; cases z) ac
      exact .inl ⟨r1, fun _ => .inl r2, fun z => absurd z (hlt2 hpl)⟩
    | dn =>
      rw [hpl] at th
      exact th.elim

def noNew (t : Nat) (old : Option Int) (L : LSt) (log : Option Str) : Prop := L.ph t = .ent → ∃ k, log = some k ∧ (k ≠ "read" ∨ L.slot t = none ∨ old ≠ some L.E)
def isNew (T kk t : Nat) (F : Nat → List Int) (old : Option Int) (L : LSt) (log : Option Str) : Prop :=
  ∃ L0, PInv T F kk L0 ∧ L0.ph t = .ent ∧ L0.stk t = some (.en (.ag L0.E)) ∧ L = L0.step t (.en (.ag L0.E)) (L0.sto t) none ∧ log = some "read" ∧ old = some L0.E
section
variable {P : Program} {w : World} {K : PySem.W.Frag} {mg : Str → Option Value} {base : Heap} {CSk CSt CEn CLe CLa CMe : Addr}
theorem law_else (T : Txt K mg CSk CSt CEn CLe CLa CMe) (G : LawG P w K mg base CSk CSt CEn CLe CLa CMe) (f : Addr) (cdv : Value) (A : Around) (outer : List PySem.Env) (s0 : Shared) (H0 : Hp) (E : XK) (hr : Room 8 (A.deeper (envOfC "law" (fnScope (top 30)) s0.heap.objs.size f cdv))) :
    ∃ tb, PSs (lawX P w K mg base f cdv A outer s0 H0 E) (ifElse (pickSt 3)) tb ∧ ∀ (D : Ends) (g : Tg) (H : Hp) (B : LAd) (L : LSt) (cnt : Nat) (log : Option Str) (n R t kk nn c : Nat) (F : Nat → List Int) (tape : List Int) (num : Int) (z0 z15 z17 z18 z19 z20 z21 z22 : Option V),
      FOk n F → LRep CLa CMe CSk CSt CEn CLe n R F tape g H B L cnt log → PInv n F kk L → RowLen n nn L → HasStk n B L → cnt ≤ c → c ≤ 50000 → kk ≤ 900 → t < n → L.ph t ≠ .inn →
      (∀ σ' H', MidP CLa CMe CSk CSt CEn CLe n R F tape (kk + 3) nn (c + 1) σ' H' → D.nx σ' H') →
      tb D (sg B n L.ser z0 (some (.int (t : Nat))) (some (.ref (B.sto t))) z15 (some (.int num)) z17 z18 z19 z20 z21 z22) H := by
  have nd : lawN.Nodup := scLaw.nd
  have hu : (A.deeper (envOfC "law" (fnScope (top 30)) s0.heap.objs.size f cdv)).units + 64 < cLine := hr.units
  refine ⟨_, pss_cut (ps_if (pt_cmpR op_eq (pe_ix ix_list (pv 9) (pv 4) (fun _ _ => rfl)) pe_str (nomark _))
          (pss_cons (ps_asg pe_str (pg_sub (pv 9) (pv 4) set_list))
          (pss_one (ps_asg (pe_mk G.skI hr (by decide) (by rfl) (pa_cons (pe_mk G.enI hr (by decide) (by rfl) (pa_cons (pv 6) pa_nil)) pa_nil)) (pg_sub (pv 8) (pv 4) set_list)))) pss_nil)
        (pss_cons (ps_set (i := 18) nd rfl (Or.inl rfl) (pe_mt G.peek hr (by decide) (pv 3) (pa_cons (pe_op op_add pe_int (pv 4)) pa_nil)))
        (pss_cut (ps_set (i := 19) nd rfl (Or.inl rfl) (pe_mt G.step hr (by decide) (pe_ix ix_list (pv 8) (pv 4) (fun _ _ => rfl)) (pa_cons (pv 3) (pa_cons (pv 4) pa_nil))))
        (pss_cut (ps_if (PW.pt (pw_and (pt_cmpR op_eq (pe_ix ix_list (pv 9) (pv 4) (fun _ _ => rfl)) pe_str (nomark _)) (pw_and (pt_cmpR op_notN (pv 18) pe_non (nomark _)) (pw_and1 (pt_cmpR op_isN (pe_mt G.peek hr (by decide) (pv 3) (pa_cons (pe_op op_add pe_int (pv 4)) pa_nil)) pe_non (nomark _))))))
          (pss_one (ps_set (i := 12) nd rfl (Or.inr rfl) (pe_lc (own := [("_law_call", 25)]) (g := gName 25) rfl nd (pi_list (pv 12)) (blkOk_by (N := lawN) (sc := fnScope (top 30)) (by decide +kernel))
              (fun _ _ _ _ _ => pg_name (i := 25) nd rfl (Or.inl rfl)) (fun _ _ _ _ _ => pts_one (pt_cmpR op_ne (pe_ixTK (K := K) rfl (pv 25) pe_int (fun _ _ => rfl)) (pv 4) (nomark _))) (fun _ _ _ _ _ => pv 25)))) pss_nil)
        (pss_cut (ps_if (PW.pt (pw_and (pt_not (pt_val (pv 19))) (pw_and1 (pt_cmpR op_eq (pe_ix ix_list (pv 9) (pv 4) (fun _ _ => rfl)) pe_str (nomark _)))))
          (pss_cons (ps_asg pe_str (pg_sub (pv 9) (pv 4) set_list))
          (pss_one (ps_asg (pe_op op_add pe_int (pe_op op_mod (pe_op op_fdiv (pv 16) pe_int) pe_int)) (pg_sub (pv 10) (pv 4) set_list))))
          (pss_one (ps_if (pt_not (pt_val (pv 19))) (pss_one (ps_asg pe_str (pg_sub (pv 9) (pv 4) set_list))) pss_nil)))
        (pss_one (ps_if (PW.pt (pw_and (pt_cmpR op_eq (pe_ix ix_list (pv 9) (pv 4) (fun _ _ => rfl)) pe_str (nomark _)) (pw_and (pt_cmpR op_eq (pe_ix ix_tup (pe_ix ix_tup (pe_ix ix_list (pe_mt0 G.log hr (by decide) (pv 3)) (pe_un un_neg pe_int) (fun _ _ => rfl)) pe_int (fun _ _ => rfl)) pe_int (fun _ _ => rfl)) pe_str (nomark _))
            (pw_and1 (pt_cmpR op_notN (pe_mt G.peek hr (by decide) (pv 3) (pa_cons (pe_op op_add pe_int (pv 4)) pa_nil)) pe_non (nomark _))))))
          (pss_cons (ps_set (i := 20) nd rfl (Or.inl rfl) (pe_mt G.peek hr (by decide) (pv 3) (pa_cons pe_int pa_nil)))
          (pss_one (ps_if (PW.pt (pw_and (pt_cmpR op_eq (pv 18) (pv 20) (nomark _)) (pw_and1 (pt_cmpR (op_eqD hu) (pe_lc (own := [("_law_call", 25)]) (g := gName 25) rfl nd (pi_list (pv 12)) (blkOk_by (N := lawN) (sc := fnScope (top 30)) (by decide +kernel))
              (fun _ _ _ _ _ => pg_name (i := 25) nd rfl (Or.inl rfl)) (fun _ _ _ _ _ => pts_one (pt_cmpR op_eq (pe_ixTK (K := K) rfl (pv 25) pe_int (fun _ _ => rfl)) (pv 4) (nomark _))) (fun _ _ _ _ _ => pv 25)) (pe_lst pa_nil) (nomark _)))))
            (pss_cons (ps_set (i := 13) nd rfl (Or.inl rfl) (pe_op op_add (pv 13) pe_int))
            (pss_cons (ps_asg (pv 20) (pg_sub (pv 11) (pv 4) set_list))
            (pss_one (ps_set (i := 12) nd rfl (Or.inr rfl) (pe_op op_cat (pv 12) (pe_lst (pa_cons (pe_tup (pa_cons (pv 4) (pa_cons (pv 13) pa_nil))) pa_nil))))))) pss_nil))) pss_nil)))))), ?_⟩
  intro D g H B L cnt log n R t kk nn c F tape num z0 z15 z17 z18 z19 z20 z21 z22 hF h hp hrow hst hcnt hc hkk ht hph fin
  have hT := hF.hi
  refine ⟨fun σ' H' => ∃ (g' : Tg) (B' : LAd) (L' : LSt) (k0 : Addr), σ' = sg B' n L'.ser z0 (some (.int (t : Nat))) (some (.ref (B'.sto t))) z15 (some (.int num)) z17 z18 z19 z20 z21 z22 ∧ LRep CLa CMe CSk CSt CEn CLe n R F tape g' H' B' L' cnt log ∧ PInv n F (kk + 1) L' ∧ RowLen n nn L' ∧ HasStk n B' L' ∧ (L'.ph t = .ent ∨ L'.ph t = .lea) ∧ B'.stk t = some k0, ?_, ?_⟩
  · -- out: it enters
    refine ⟨_, rfl, _, rfl, _, _, _, _, rfl, rfl, SqL.of h.lph.1, atI_nat (rl_get ht), rfl, _, rfl, ?_⟩
    by_cases ho : L.ph t = .out
    · refine dY (congrArg (fun p => V.str p.str) ho) ?_
      refine ⟨_, rfl, _, rfl, _, _, _, t, rfl, rfl, h.lph.1, ixN_nat (by rw [rl_len]; exact ht), ?_⟩
      have h4 := h.phase (t := t) (x := .ent) hT
      have SA4 := h4.sto t ht
      refine ⟨_, rfl, ?_⟩
      intro a da na nda nea
      obtain ⟨m1, b1⟩ := made (g := g) (C := CEn) (c := 30 + t) na nda nea
      have SA5 := SA4.keep m1 id id id
      refine ⟨_, a, da, _, n, R, t, L.sto t, rfl, b1, SA5, fun H2 k2 EA => ⟨rfl, ?_⟩⟩
      intro k dk nk ndk nek
      obtain ⟨m3, b3⟩ := made (g := tg (tg g da 0) a (30 + t)) (C := CSk) (c := 20 + t) nk ndk nek
      refine ⟨_, k, dk, t, .ref a, rfl, b3, fun g4 H4 ml k4 hk hm => ⟨rfl, ?_⟩⟩
      have KA : StkAt CSk CEn CLe g4 H4 k (B.sto t) n t (some (.en .rd)) := ⟨dk, ml, .non, hk, a, hm, EntAt.keep (EntAt.keep (Z := fun _ => False) EA m3 (fun z => z)) k4 (by omega)⟩
      have kk4 : Ch (fun c => c = 20 + t ∨ c = 25 + t ∨ c = 30 + t) _ _ g4 H4 := (((m1.mono (S' := fun c => c = 20 + t ∨ c = 25 + t ∨ c = 30 + t) fun _ z => z.elim).trans (k2.mono fun c z => by omega)).trans (m3.mono fun _ z => z.elim)).trans (k4.mono fun c z => by omega)
      have h5 := h4.stack hT ht kk4 KA
      have l4 := h4.lstk.keep kk4 (by omega)
      refine ⟨_, rfl, _, rfl, _, _, _, t, rfl, rfl, l4.1, ixN_nat (by rw [rl_len]; exact ht), ?_⟩
      refine ⟨_, _, _, k, ?_, h5, ?_, hrow, ?_, .inl fs_same, fs_same⟩
      · rfl
      · have th : ThC (inAct L t) (LeaInv n L) (L.slot t) (L.sto t).out (L.ph t) (L.stk t) := hp.th t ht
        rw [ho] at th
        exact PInv.wk (w := L.wk) (PInv.phase (p := .ent) (c := some (.en .rd)) (w := 0) hp ht ⟨th.2.2, th.2.1, th.1⟩)
      · intro u hu hne
        show fs B.stk t (some k) u ≠ none
        by_cases eu : u = t
        · subst eu
          rw [fs_same]
          intro z
          cases z
        · rw [fs_ne eu]
          refine hst u hu fun z => hne ?_
          show fs L.ph t .ent u = .out
          rw [fs_ne eu]
          exact z
    · refine dN ?_ ?_
      · cases e : L.ph t with
        | out => exact absurd e ho
        | ent => exact vs_ne rfl
        | inn => exact vs_ne rfl
        | lea => exact vs_ne rfl
      · obtain ⟨k0, hk0⟩ : ∃ k0, B.stk t = some k0 := by
          cases e : B.stk t with
          | none => exact absurd e (hst t ht ho)
          | some k => exact ⟨k, rfl⟩
        refine ⟨g, B, L, k0, rfl, h, hp.mono (Nat.le_succ _), hrow, hst, ?_, hk0⟩
        cases e : L.ph t with
        | out => exact absurd e ho
        | ent => exact .inl rfl
        | inn => exact absurd e hph
        | lea => exact .inr rfl
  clear h hp hrow hst hph
  rintro σ1 H1 ⟨g1, B1, L1, k0, rfl, h, hp, hrow, hst, hph, hk0⟩
  -- the slot before
  obtain ⟨vals, MA, hv⟩ := h.mem
  have ⟨md, M, _⟩ := MA
  have e1t : (1 : Int) + (t : Nat) = ((1 + t : Nat) : Int) := by omega
  refine ⟨_, rfl, _, _, _, rfl, M.ins.1, rfl, _, rfl, _, _, rfl, rfl, g1, B1.m, n, R, vals, cnt, log, 1 + t, oV (L1.slot t), congrArg (fun z => [V.ref B1.m, V.int z]) e1t, MA, hv.sl t _ (rl_get ht), ?_⟩
  -- the step
  have KA := h.stk t ht k0 hk0
  have ⟨dx, ml, res, hk, _⟩ := KA
  have ek0 : stkV (B1.stk t) = .ref k0 := by rw [hk0]; rfl
  have getk : (rl n fun u => stkV (B1.stk u))[t]? = some (.ref k0) := by rw [rl_get ht, ek0]
  refine ⟨fun σ' H' => ∃ (g' : Tg) (B' : LAd) (L' : LSt) (old : Option Int) (cnt' : Nat) (log' : Option Str) (mv : Bool), σ' = sg B' n L'.ser z0 (some (.int (t : Nat))) (some (.ref (B'.sto t))) z15 (some (.int num)) z17 (some (oV old)) (some (.bl mv)) z20 z21 z22 ∧
    LRep CLa CMe CSk CSt CEn CLe n R F tape g' H' B' L' cnt' log' ∧ RowLen n nn L' ∧ HasStk n B' L' ∧ cnt' ≤ c + 1 ∧
    ((mv = false ∧ PInv n F (kk + 2) L' ∧ L'.stk t = none ∧ (L'.ph t = .ent ∨ L'.ph t = .lea) ∧ old = L'.slot t) ∨
     (mv = true ∧ PInv n F (kk + 2) L' ∧ (L'.ph t = .lea → old = none ∨ L'.slot t ≠ none) ∧ noNew t old L' log') ∨
     (mv = true ∧ L'.ph t = .lea ∧ old ≠ none ∧ L'.slot t = none ∧ PInv n F (kk + 2) { L' with act := L'.act.filter fun q => decide (q.1 ≠ t) }) ∨
     (mv = true ∧ isNew n (kk + 1) t F old L' log')), ?_, ?_⟩
  · refine ⟨_, rfl, _, rfl, _, _, _, _, rfl, rfl, SqL.of h.lstk.1, atI_nat getk, _, _, _, rfl, hk.1, rfl, _, rfl, _, rfl, g1, k0, B1.m, B1.sto t, n, R, t, L1.E, rl n L1.slot, cnt, log, L1.sto t, L1.stk t, rfl, h.mem, h.sto t ht, KA, fun ms e => hp.wf ht hph e, hp.small ht (hF.len t ht) (by omega), ht, by omega, fun ec g2 H2 k2 KA2 => ?_, fun ms ec g2 H2 E' sl' S' c' k2 ME2 SA2 KA2 st => ?_⟩
    · have h2 := h.machine (E := L1.E) (slot := L1.slot) (S' := L1.sto t) (c' := none) ht hT (k2.mono fun c z => by unfold SZ; omega) (h.mem.keep k2 (by omega) (by omega)) ((h.sto t ht).keep k2 (by omega) (by omega) (by omega)) hk0 KA2
      have eL : ({ L1 with E := L1.E, slot := L1.slot, sto := fs L1.sto t (L1.sto t), stk := fs L1.stk t none } : LSt) = L1 := by
        rw [fs_id, ← ec, fs_id]
      rw [eL] at h2
      exact ⟨g2, B1, L1, L1.slot t, cnt, log, false, rfl, h2, hrow, hst, by omega, .inl ⟨rfl, hp.mono (Nat.le_succ _), ec, hph, rfl⟩⟩
    · obtain ⟨rfl, rfl, cases3⟩ := stepLaw hp ht hph ec st
      have h2 := h.machine (S' := S') (c' := c') ht hT k2 ME2 SA2 hk0 KA2
      refine ⟨g2, B1, L1.step t ms S' c', L1.slot t, cnt + 1, some (ms.rq t).kind, true, rfl, h2, hrow, hst, by omega, ?_⟩
      rcases cases3 with ⟨c1, c2, c3⟩ | ⟨c1, c2, c3, c4⟩ | ⟨c1, rfl, rfl, rfl⟩
      · exact .inr (.inl ⟨rfl, c1, c2, fun e => ⟨_, rfl, c3 e⟩⟩)
      · exact .inr (.inr (.inl ⟨rfl, c1, c2, c3, c4⟩))
      · refine .inr (.inr (.inr ⟨rfl, L1, hp, c1, ec, rfl, rfl, ?_⟩))
        have th : ThC (inAct L1 t) (LeaInv n L1) (L1.slot t) (L1.sto t).out (L1.ph t) (L1.stk t) := hp.th t ht
        rw [c1, ec] at th
        exact th.2.2
  clear h hp hrow hst hph MA hv M KA hk hk0 ek0 getk
  rintro σ2 H2 ⟨g2, B2, L2, old, cnt2, log2, mv, rfl, h, hrow, hst, hcnt2, hcase⟩
  have ⟨vls, MA2, hv2⟩ := h.mem
  have ⟨md2, M2, _⟩ := MA2
  -- a call that has given up its slot goes on no more
  refine ⟨fun σ' H' => ∃ (g' : Tg) (B' : LAd) (L' : LSt) (mv : Bool), σ' = sg B' n L'.ser z0 (some (.int (t : Nat))) (some (.ref (B'.sto t))) z15 (some (.int num)) z17 (some (oV old)) (some (.bl mv)) z20 z21 z22 ∧
    LRep CLa CMe CSk CSt CEn CLe n R F tape g' H' B' L' cnt2 log2 ∧ RowLen n nn L' ∧ HasStk n B' L' ∧
    ((mv = false ∧ PInv n F (kk + 2) L' ∧ L'.stk t = none ∧ (L'.ph t = .ent ∨ L'.ph t = .lea)) ∨ (mv = true ∧ PInv n F (kk + 2) L' ∧ noNew t old L' log2) ∨ (mv = true ∧ isNew n (kk + 1) t F old L' log2)), ?_, ?_⟩
  · refine ⟨_, rfl, _, rfl, _, _, _, _, rfl, rfl, SqL.of h.lph.1, atI_nat (rl_get ht), rfl, _, rfl, ?_⟩
    by_cases hlea : L2.ph t = .lea
    · refine dY (congrArg (fun p => V.str p.str) hlea) ⟨_, rfl, rfl, _, rfl, ?_⟩
      by_cases hold : old = none
      · subst hold
        refine nN rfl (iteF ⟨g2, B2, L2, mv, rfl, h, hrow, hst, ?_⟩)
        rcases hcase with ⟨c1, c2, c3, c4, _⟩ | ⟨c1, c2, _, c4⟩ | ⟨_, _, c3, _⟩ | ⟨c1, c2⟩
        · exact .inl ⟨c1, c2, c3, c4⟩
        · exact .inr (.inl ⟨c1, c2, c4⟩)
        · exact absurd rfl c3
        · exact .inr (.inr ⟨c1, c2⟩)
      · have hon : oV old ≠ .non := fun z => hold (by cases old with | none => rfl | some x => cases z)
        refine nY hon ⟨_, rfl, _, _, _, rfl, M2.ins.1, rfl, _, rfl, _, _, rfl, rfl, g2, B2.m, n, R, vls, cnt2, log2, 1 + t, oV (L2.slot t), congrArg (fun z => [V.ref B2.m, V.int z]) e1t, MA2, hv2.sl t _ (rl_get ht), rfl, _, rfl, ?_⟩
        by_cases hs : L2.slot t = none
        · refine dY (by rw [hs]; rfl) ?_
          have hact : mv = true ∧ PInv n F (kk + 2) { L2 with act := L2.act.filter fun q => decide (q.1 ≠ t) } := by
            rcases hcase with ⟨_, _, _, _, c5⟩ | ⟨_, _, c3, _⟩ | ⟨c1, _, _, _, c5⟩ | ⟨_, L0, _, c2, _, rfl, _⟩
            · exact absurd (c5.trans hs) hold
            · exact absurd hs ((c3 hlea).resolve_left hold)
            · exact ⟨c1, c5⟩
            · have hl0 : L0.ph t = .lea := hlea
              rw [c2] at hl0
              cases hl0
          obtain ⟨rfl, hpn⟩ := hact
          have ⟨ra, ha1, ha2⟩ := h.act
          refine ⟨_, rfl, _, rfl, ⟨_, SqL.of ha1.1⟩, fun ld hld => ?_⟩
          refine lc_list (K := K) (a := B2.la) (xs := ra.map V.ref) (fun i H' => ∃ (g' : Tg) (rr : List Addr), Ch (fun _ => False) g2 H2 g' H' ∧ At g' H' 7 ld (.lst (rr.map V.ref)) ∧ CallRefs g' H' rr ((L2.act.take i).filter fun q => decide (q.1 ≠ t))) ?_ ?_ ?_ ?_
          · exact ⟨tg g2 ld 7, [], Ch.new hld, At.new, .nil⟩
          · rintro i H' hi ⟨g', rr, k', _⟩
            exact SqL.of (ha1.keep k' id).1
          · rintro i x H' hi ⟨g', rr, k', hl', hrr⟩
            obtain ⟨rc, qc, rfl, _, ec, hcq⟩ := (ha2.keep k' id).at_ hi
            refine ⟨rfl, ?_⟩
            refine ⟨_, rfl, _, _, _, _, rfl, rfl, SqT.of hcq.1, atI_nat (j := 0) rfl, _, rfl, rfl, _, rfl, ?_⟩
            by_cases hq : qc.1 = t
            · refine nN (by rw [hq]) ⟨g', rr, k', hl', ?_⟩
              rw [take_snoc ec, List.filter_append]
              have e1 : ([qc].filter fun q => decide (q.1 ≠ t)) = [] := by simp [hq]
              rw [e1, List.append_nil]
              exact hrr
            · have hne : V.int (qc.1 : Nat) ≠ V.int (t : Nat) := fun z => hq (by injection z with z; exact Int.ofNat.inj z)
              refine nY hne ⟨_, rfl, _, hl'.1, ?_, g', rr ++ [rc], k'.wrNew hld, ?_, ?_⟩
              · refine At.len_le ?_
                rw [List.length_map, hrr.len]
                have q1 : ((L2.act.take i).filter fun q => decide (q.1 ≠ t)).length ≤ (L2.act.filter fun q => decide (q.1 ≠ t)).length := ((List.take_sublist _ _).filter _).length_le
                have q2 : (L2.act.filter fun q => decide (q.1 ≠ t)).length ≤ n := hpn.actLen
                omega
              · rw [List.map_append]
                exact hl'.wr
              · rw [take_snoc ec, List.filter_append]
                have e1 : ([qc].filter fun q => decide (q.1 ≠ t)) = [qc] := by simp [hq]
                rw [e1]
                have k7 : Ch (fun c => c = 7) g' H' g' _ := Ch.wr (o' := .lst (rr.map V.ref ++ [.ref rc])) hl' rfl
                exact (hrr.keep k7 (by omega)).snoc (hcq.keep k7 (by omega))
          rintro H5 ⟨g5, rr, k5, hl5, hrr5⟩
          have ela : L2.act.take (ra.map V.ref).length = L2.act := List.take_of_length_le (by rw [List.length_map, ha2.len]; exact Nat.le_refl _)
          rw [ela] at hrr5
          have t5 : Ch (fun c => c = 7) g5 H5 (tg g5 ld 0) H5 := Ch.tagged hl5 rfl
          have h6 := h.calls (ser := L2.ser) (k5.retag (c := 0) hld) ⟨rr, ⟨hl5.1, tg_same⟩, hrr5.keep t5 (by omega)⟩
          refine ⟨tg g5 ld 0, _, _, true, ?_, h6, hrow, hst, .inr (.inl ⟨rfl, hpn, fun e => ?_⟩)⟩
          · rfl
          · have e : L2.ph t = .ent := e
            rw [hlea] at e
            cases e
        · have hsn : oV (L2.slot t) ≠ .non := fun z => hs (by cases e : L2.slot t with | none => rfl | some x => rw [e] at z; cases z)
          refine dN hsn ⟨g2, B2, L2, mv, rfl, h, hrow, hst, ?_⟩
          rcases hcase with ⟨c1, c2, c3, c4, _⟩ | ⟨c1, c2, _, c4⟩ | ⟨_, _, _, c4, _⟩ | ⟨c1, c2⟩
          · exact .inl ⟨c1, c2, c3, c4⟩
          · exact .inr (.inl ⟨c1, c2, c4⟩)
          · exact absurd c4 hs
          · exact .inr (.inr ⟨c1, c2⟩)
    · have hne : V.str (L2.ph t).str ≠ V.str "leaving" := by
        cases e : L2.ph t with
        | lea => exact absurd e hlea
        | ent => exact vs_ne rfl
        | inn => exact vs_ne rfl
        | out => exact vs_ne rfl
      refine dN hne (iteF ⟨g2, B2, L2, mv, rfl, h, hrow, hst, ?_⟩)
      rcases hcase with ⟨c1, c2, c3, c4, _⟩ | ⟨c1, c2, _, c4⟩ | ⟨_, c2, _, _⟩ | ⟨c1, c2⟩
      · exact .inl ⟨c1, c2, c3, c4⟩
      · exact .inr (.inl ⟨c1, c2, c4⟩)
      · exact absurd c2 hlea
      · exact .inr (.inr ⟨c1, c2⟩)
  clear h hrow hst hcase MA2 hv2 M2
  rintro σ3 H3 ⟨g3, B3, L3, mv3, rfl, h, hrow, hst, hcase⟩
  -- a machine that has ended
  refine ⟨fun σ' H' => ∃ (g' : Tg) (B' : LAd) (L' : LSt) (z19 : Option V), σ' = sg B' n L'.ser z0 (some (.int (t : Nat))) (some (.ref (B'.sto t))) z15 (some (.int num)) z17 (some (oV old)) z19 z20 z21 z22 ∧
    LRep CLa CMe CSk CSt CEn CLe n R F tape g' H' B' L' cnt2 log2 ∧ RowLen n nn L' ∧ HasStk n B' L' ∧ ((PInv n F (kk + 3) L' ∧ noNew t old L' log2) ∨ isNew n (kk + 1) t F old L' log2), ?_, ?_⟩
  · rcases hcase with ⟨rfl, hp, hn, hph⟩ | ⟨rfl, hp, hno⟩ | ⟨rfl, hnew⟩
    · have th : ThC (inAct L3 t) (LeaInv n L3) (L3.slot t) (L3.sto t).out (L3.ph t) (L3.stk t) := hp.th t ht
      rw [hn] at th
      refine ⟨_, rfl, false, rfl, iteT ?_⟩
      refine ⟨_, rfl, _, rfl, _, _, _, _, rfl, rfl, SqL.of h.lph.1, atI_nat (rl_get ht), rfl, _, rfl, ?_⟩
      rcases hph with he | he
      · refine dY (congrArg (fun p => V.str p.str) he) ?_
        refine ⟨_, rfl, _, rfl, _, _, _, t, rfl, rfl, h.lph.1, ixN_nat (by rw [rl_len]; exact ht), ?_⟩
        have h4 := h.phase (t := t) (x := .inn) hT
        refine ⟨_, rfl, _, _, rfl, rfl, ⟨by decide, by decide⟩, _, _, rfl, rfl, (by show (0 : Int) < 6; decide), _, _, rfl, rfl, _, rfl, _, rfl, _, _, _, t, rfl, rfl, h4.lwk.1, ixN_nat (by rw [rl_len]; exact ht), ?_⟩
        have h5 := h4.work (t := t) (x := 1 + num / 4 % 6) hT
        rw [he] at th
        have hp5 := PInv.phase (p := .inn) (c := L3.stk t) (w := 1 + num / 4 % 6) hp ht th.2
        rw [fs_id] at hp5
        refine ⟨g3, B3, _, some (.bl false), ?_, h5, hrow, ?_, .inl ⟨hp5, fun e => ?_⟩⟩
        · rfl
        · intro u hu hne
          by_cases eu : u = t
          · subst eu
            exact hst u hu (by rw [he]; intro z; cases z)
          · refine hst u hu fun z => hne ?_
            show fs L3.ph t .inn u = .out
            rw [fs_ne eu]
            exact z
        · have e : fs L3.ph t .inn t = .ent := e
          rw [fs_same] at e
          cases e
      · have hne : V.str (L3.ph t).str ≠ V.str "entering" := by
          rw [he]
          exact vs_ne rfl
        refine dN hne ⟨_, rfl, false, rfl, iteT ?_⟩
        refine ⟨_, rfl, _, rfl, _, _, _, t, rfl, rfl, h.lph.1, ixN_nat (by rw [rl_len]; exact ht), ?_⟩
        have h4 := h.phase (t := t) (x := .out) hT
        rw [he] at th
        have hp5 := PInv.wk (w := L3.wk) (PInv.phase (p := .out) (c := L3.stk t) (w := 0) hp ht th)
        rw [fs_id] at hp5
        refine ⟨g3, B3, _, some (.bl false), ?_, h4, hrow, ?_, .inl ⟨hp5, fun e => ?_⟩⟩
        · rfl
        · intro u hu hne
          by_cases eu : u = t
          · subst eu
            exact hst u hu (by rw [he]; intro z; cases z)
          · refine hst u hu fun z => hne ?_
            show fs L3.ph t .out u = .out
            rw [fs_ne eu]
            exact z
        · have e : fs L3.ph t .out t = .ent := e
          rw [fs_same] at e
          cases e
    · exact ⟨_, rfl, true, rfl, iteF (iteF ⟨_, rfl, true, rfl, iteF ⟨g3, B3, L3, _, rfl, h, hrow, hst, .inl ⟨hp.mono (Nat.le_succ _), hno⟩⟩⟩)⟩
    · exact ⟨_, rfl, true, rfl, iteF (iteF ⟨_, rfl, true, rfl, iteF ⟨g3, B3, L3, _, rfl, h, hrow, hst, .inr hnew⟩⟩)⟩
  clear h hrow hst hcase
  rintro σ4 H4 ⟨g4, B4, L4, z19', rfl, h, hrow, hst, hcase⟩
  -- a call begins
  have hfin : ∀ {g' : Tg} {H' : Hp} {L' : LSt} {zz : Option V} (k : Ch (fun _ => False) g4 H4 g' H'), L' = L4 → PInv n F (kk + 3) L' → D.nx (sg B4 n L4.ser z0 (some (.int (t : Nat))) (some (.ref (B4.sto t))) z15 (some (.int num)) z17 (some (oV old)) z19' zz z21 z22) H' := fun k e hp => by
    subst e
    exact fin _ _ (MidP.of (h.keep k) hp hrow hst hcnt2 rfl)
  refine ⟨_, rfl, _, rfl, _, _, _, _, rfl, rfl, SqL.of h.lph.1, atI_nat (rl_get ht), rfl, _, rfl, ?_⟩
  by_cases he : L4.ph t = .ent
  · refine dY (congrArg (fun p => V.str p.str) he) ?_
    have ⟨vls, MA, hv⟩ := h.mem
    have ⟨md, M, _⟩ := MA
    obtain ⟨kd, hkd⟩ : ∃ kd, log2 = some kd := by
      rcases hcase with ⟨_, c2⟩ | ⟨_, _, _, _, _, c, _⟩
      · obtain ⟨k, e, _⟩ := c2 he
        exact ⟨k, e⟩
      · exact ⟨_, c⟩
    refine ⟨_, rfl, _, _, _, rfl, M.ins.1, rfl, g4, B4.m, n, R, vls, cnt2, log2, rfl, MA, fun rs p hpf hlog => ?_⟩
    obtain ⟨rs', r, q, x, y, xs, rfl, hr1, hq1⟩ := hlog kd hkd
    have k1 : Ch (fun _ => False) g4 H4 (tg g4 p 0) (upd H4 p (.lst (rs' ++ [.ref r]))) := Ch.new hpf
    have hr1' := hr1.keep k1 id
    have hq1' := hq1.keep k1 id
    refine ⟨_, rfl, _, _, _, _, rfl, rfl, SqL.of upd_same, atI_last rs' _, _, _, _, _, rfl, rfl, SqT.of hr1'.1, atI_nat (j := 2) rfl, _, _, _, _, rfl, rfl, SqT.of hq1'.1, atI_nat (j := 0) rfl, rfl, _, rfl, ?_⟩
    have h1 := h.keep k1
    have MA1 := MA.keep k1 id id
    have ⟨md1, M1, _⟩ := MA1
    by_cases hk : kd = "read"
    · refine dY (by rw [hk]) ?_
      refine ⟨_, rfl, _, _, _, rfl, M1.ins.1, rfl, _, rfl, _, _, rfl, rfl, _, B4.m, n, R, vls, cnt2, log2, 1 + t, oV (L4.slot t), congrArg (fun z => [V.ref B4.m, V.int z]) e1t, MA1, hv.sl t _ (rl_get ht), rfl, _, rfl, ?_⟩
      by_cases hs : L4.slot t = none
      · refine nN (by rw [hs]; rfl) ?_
        rcases hcase with ⟨c1, _⟩ | ⟨L0, c1, c2, c3, rfl, _⟩
        · exact hfin k1 rfl c1
        · have th : ThC (inAct L0 t) (LeaInv n L0) (L0.slot t) (L0.sto t).out (L0.ph t) (L0.stk t) := c1.th t ht
          rw [c2, c3] at th
          have hs : L0.slot t = none := hs
          rw [th.2.2] at hs
          cases hs
      · have hsn : oV (L4.slot t) ≠ .non := fun z => hs (by cases e : L4.slot t with | none => rfl | some x => rw [e] at z; cases z)
        refine nY hsn ?_
        refine ⟨_, rfl, _, _, _, rfl, M1.ins.1, rfl, _, B4.m, n, R, vls, cnt2, log2, 0, .int L4.E, rfl, MA1, hv.e0, ?_⟩
        by_cases ho : old = some L4.E
        · subst ho
          have hnew : isNew n (kk + 1) t F (some L4.E) L4 log2 := by
            rcases hcase with ⟨_, c2⟩ | c
            · obtain ⟨k, e, e2⟩ := c2 he
              rw [hkd] at e
              cases e
              rcases e2 with e2 | e2 | e2
              · exact absurd hk e2
              · exact absurd e2 hs
              · exact absurd rfl e2
            · exact c
          obtain ⟨L0, hp0, hph0, hst0, rfl, _, _⟩ := hnew
          have th : ThC (inAct L0 t) (LeaInv n L0) (L0.slot t) (L0.sto t).out (L0.ph t) (L0.stk t) := hp0.th t ht
          rw [hph0, hst0] at th
          refine ⟨_, rfl, _, rfl, rfl, _, rfl, dY rfl ?_⟩
          have ⟨ra, ha1, ha2⟩ := h1.act
          refine ⟨_, rfl, _, rfl, ⟨_, SqL.of ha1.1⟩, fun ld hld => ?_⟩
          refine lc_list (K := K) (a := B4.la) (xs := ra.map V.ref) (fun i H' => ∃ (g' : Tg), Ch (fun _ => False) (tg g4 p 0) (upd H4 p (.lst (rs' ++ [.ref r]))) g' H' ∧ At g' H' 7 ld (.lst [])) ?_ ?_ ?_ ?_
          · exact ⟨tg (tg g4 p 0) ld 7, Ch.new hld, At.new⟩
          · rintro i H' hi ⟨g', k', _⟩
            exact SqL.of (ha1.keep k' id).1
          · rintro i x H' hi ⟨g', k', hl'⟩
            obtain ⟨rc, qc, rfl, _, ec, hcq⟩ := (ha2.keep k' id).at_ hi
            refine ⟨rfl, ?_⟩
            refine ⟨_, rfl, _, _, _, _, rfl, rfl, SqT.of hcq.1, atI_nat (j := 0) rfl, _, rfl, rfl, _, rfl, ?_⟩
            have hne : V.int (qc.1 : Nat) ≠ V.int (t : Nat) := fun z => th.2.1 ⟨qc, List.mem_of_getElem? ec, by injection z with z; exact Int.ofNat.inj z⟩
            exact dN hne ⟨g', k', hl'⟩
          rintro H5 ⟨g5, k5, hl5⟩
          refine ⟨Nat.zero_le _, fun p2 hp2 => ?_⟩
          have np : ld ≠ p2 := ne_of_none hl5.1 hp2
          refine ⟨.list [], .list [], .lst (SqL.of (by rw [upd_ne np]; exact hl5.1)) .nil, .lst (SqL.of upd_same) .nil, by rfl, by rfl, ?_⟩
          have ev : PyData.eqv (.list []) (.list []) = true := by simp only [PyData.eqv, PyData.eqvAll]
          rw [ev]
          refine ⟨true, rfl, iteT ?_⟩
          have k6 : Ch (fun _ => False) (tg g4 p 0) _ (tg g5 p2 0) (upd H5 p2 (.lst [])) := k5.trans (Ch.new hp2)
          have h6 := h1.keep k6
          refine ⟨_, rfl, _, _, rfl, rfl, _, rfl, _, rfl, _, rfl, _, _, _, t, rfl, rfl, h6.lsh.1, ixN_nat (by rw [rl_len]; exact ht), ?_⟩
          have h7 : LRep CLa CMe CSk CSt CEn CLe n R F tape (tg g5 p2 0) (upd (upd H5 p2 (.lst [])) B4.lsh (.lst ((rl n fun u => oV ((L0.step t (.en (.ag L0.E)) (L0.sto t) none).sh u)).set t (.int (L0.step t (.en (.ag L0.E)) (L0.sto t) none).E)))) B4 { L0.step t (.en (.ag L0.E)) (L0.sto t) none with sh := fs L0.sh t (some L0.E) } cnt2 log2 := h6.here (t := t) (x := some L0.E) hT
          generalize (upd (upd H5 p2 (.lst [])) B4.lsh _) = H7 at h7 ⊢
          have ⟨rb, hb1, hb2⟩ := h7.act
          refine ⟨_, rfl, _, rfl, _, rfl, size_2 (by show 2 ≤ 100000; decide), fun rt hrt => ⟨size_2 (by show 1 ≤ 100000; decide), fun rq hrl => ?_⟩⟩
          have n8 : Ch (fun _ => False) _ H7 (tg (tg g5 p2 0) rt 0) (upd H7 rt (.tup [.int (t : Nat), .int (((L0.ser : Nat) : Int) + 1)])) := Ch.new hrt
          have b8 := At.new (g := tg g5 p2 0) (H := H7) (p := rt) (c := 0) (o := .tup [.int (t : Nat), .int (((L0.ser : Nat) : Int) + 1)])
          have n9 : Ch (fun _ => False) _ _ (tg (tg (tg g5 p2 0) rt 0) rq 0) (upd (upd H7 rt (.tup [.int (t : Nat), .int (((L0.ser : Nat) : Int) + 1)])) rq (.lst [.ref rt])) := Ch.new hrl
          have b9 := At.new (g := tg (tg g5 p2 0) rt 0) (H := upd H7 rt (.tup [.int (t : Nat), .int (((L0.ser : Nat) : Int) + 1)])) (p := rq) (c := 0) (o := .lst [.ref rt])
          have k89 := n8.trans n9
          have hlen := hp0.actLen
          refine ⟨_, _, _, _, rfl, rfl, (hb1.keep k89 id).1, b9.1, size_2 (by rw [List.length_map, hb2.len]; show L0.act.length + 1 ≤ 100000; omega), fun pn hpn => ?_⟩
          have n10 : Ch (fun _ => False) _ _ (tg (tg (tg (tg g5 p2 0) rt 0) rq 0) pn 0) (upd (upd (upd H7 rt (.tup [.int (t : Nat), .int (((L0.ser : Nat) : Int) + 1)])) rq (.lst [.ref rt])) pn (.lst (rb.map V.ref ++ [.ref rt]))) := Ch.new hpn
          have b10 := At.new (g := tg (tg (tg g5 p2 0) rt 0) rq 0) (H := upd (upd H7 rt (.tup [.int (t : Nat), .int (((L0.ser : Nat) : Int) + 1)])) rq (.lst [.ref rt])) (p := pn) (c := 0) (o := .lst (rb.map V.ref ++ [.ref rt]))
          have kall := k89.trans n10
          have h10 := h7.calls (ser := L0.ser + 1) (act := L0.act ++ [(t, L0.ser + 1)]) (p := pn) kall ⟨rb ++ [rt], by rw [List.map_append]; exact b10, (hb2.keep kall id).snoc (q := (t, L0.ser + 1)) ((b8.keep n9 id).keep n10 id)⟩
          refine fin _ _ (MidP.of h10 ?_ hrow hst hcnt2 rfl)
          exact (hp0.new ht hph0 hst0).mono (by omega)
        · have hnn : ¬ oV old = V.int L4.E := fun z => ho (by cases old with | none => cases z | some x => injection z with z; rw [z])
          have hcp : PInv n F (kk + 3) L4 := by
            rcases hcase with ⟨c1, _⟩ | ⟨L0, _, _, _, rfl, _, c⟩
            · exact c1
            · exact absurd c ho
          refine ⟨_, rfl, _, rfl, ?_, _, rfl, dN hnn (iteF (hfin k1 rfl hcp))⟩
          cases old <;> rfl
    · have hne : ¬ V.str kd = V.str "read" := fun z => hk (by injection z)
      refine dN hne (iteF ?_)
      rcases hcase with ⟨c1, _⟩ | ⟨L0, _, _, _, rfl, c, _⟩
      · exact hfin k1 rfl c1
      · rw [hkd] at c
        exact absurd (Option.some.inj c) hk
  · have hne : ¬ V.str (L4.ph t).str = V.str "entering" := by
      cases e : L4.ph t with
      | ent => exact absurd e he
      | lea => exact vs_ne rfl
      | inn => exact vs_ne rfl
      | out => exact vs_ne rfl
    refine dN hne (iteF ?_)
    rcases hcase with ⟨c1, _⟩ | ⟨L0, _, c, _, rfl, _, _⟩
    · exact hfin Ch.refl rfl c1
    · exact absurd c he
end

theorem known_len {act : List Call} {row : Row} {m a : Nat} (hA : row.A.length ≤ a) (hB : row.B.length ≤ m) : (knownRow act row).A.length ≤ a ∧ (knownRow act row).B.length ≤ m + act.length := by
  unfold knownRow
  split
  · exact ⟨hA, Nat.le_trans (foldC_len act row.B) (by omega)⟩
  · exact ⟨hA, by omega⟩
section
variable {P : Program} {w : World} {K : PySem.W.Frag} {mg : Str → Option Value} {base : Heap} {CSk CSt CEn CLe CLa CMe : Addr}
theorem law_chk (T : Txt K mg CSk CSt CEn CLe CLa CMe) (G : LawG P w K mg base CSk CSt CEn CLe CLa CMe) (f : Addr) (cdv : Value) (A : Around) (outer : List PySem.Env) (s0 : Shared) (H0 : Hp) (E : XK) (hr : Room 8 (A.deeper (envOfC "law" (fnScope (top 30)) s0.heap.objs.size f cdv))) :
    ∃ tb, PSs (lawX P w K mg base f cdv A outer s0 H0 E) ((forBody (lawSt 12)).drop 4) tb ∧ ∀ (D : Ends) (σ : L2.St) (H : Hp) (n R kk nn c : Nat) (F : Nat → List Int) (tape : List Int),
      FOk n F → kk ≤ 1000 → nn ≤ 6000 → MidP CLa CMe CSk CSt CEn CLe n R F tape kk nn c σ H → (∀ σ' H', MidP CLa CMe CSk CSt CEn CLe n R F tape kk (nn + 3) c σ' H' → D.nx σ' H') → tb D σ H := by
  have nd : lawN.Nodup := scLaw.nd
  refine ⟨_, pss_cons (ps_for PassesOwn.never rfl (pi_range1 rfl T.range (pa_cons (pv 2) pa_nil)) (pg_name (i := 21) nd rfl (Or.inl rfl))
        (pss_cons (ps_expr (pe_c G.known hr (by decide) (by rfl) (pa_cons (pe_ix ix_list (pv 14) (pv 21) (fun _ _ => rfl)) (pa_cons (pv 12) pa_nil))))
        (pss_one (ps_if (PW.pt (pw_or (pt_not (pt_val (pe_c G.held hr (by decide) (by rfl) (pa_cons (pe_ix ix_list (pv 5) (pv 21) (fun _ _ => rfl)) (pa_cons (pe_ix ix_list (pv 14) (pv 21) (fun _ _ => rfl)) (pa_cons (pv 12) pa_nil))))))
          (pw_or1 (pt_not (pt_val (pe_c G.whole hr (by decide) (by rfl) (pa_cons (pe_ix ix_list (pv 5) (pv 21) (fun _ _ => rfl)) (pa_cons (pe_ix ix_list (pv 7) (pv 21) (fun _ _ => rfl)) pa_nil)))))))) (pss_one (ps_ret pe_bl)) pss_nil))))
      (pss_one (ps_if (pt_not (pt_val (pe_c G.slots hr (by decide) (by rfl) (pa_cons (pv 3) (pa_cons (pv 12) (pa_cons (pv 11) pa_nil)))))) (pss_one (ps_ret pe_bl)) pss_nil)), ?_⟩
  rintro D σ H n R kk nn c F tape hF hkk hnn ⟨⟨g, B, L, cnt, log, z0, z4, z6, z15, z16, z17, z18, z19, z20, z21, z22, rfl, h, hp, hrow, hst, hcnt⟩⟩ fin
  have hT := hF.hi
  refine ⟨_, rfl, _, rfl, by omega, by omega, ?_⟩
  rw [show ((n : Nat) : Int).toNat = n from Int.toNat_natCast n]
  refine for_range (lo := 0) (n := n) (fun i σ H' => ∃ (g' : Tg) (L' : LSt) (z21' : Option V), σ = sg B n L'.ser z0 z4 z6 z15 z16 z17 z18 z19 z20 z21' z22 ∧ LRep CLa CMe CSk CSt CEn CLe n R F tape g' H' B L' cnt log ∧ PInv n F kk L' ∧ HasStk n B L' ∧
    (∀ u, u < n → (L'.rows u).length ≤ nn ∧ ∀ row ∈ L'.rows u, row.A.length ≤ 3 ∧ row.B.length ≤ (if u < i then nn + 3 else nn))) ?_ ?_ ?_
  · exact ⟨g, L, z21, rfl, h, hp, hst, fun u hu => ⟨(hrow u hu).1, fun row hr' => by rw [if_neg (Nat.not_lt_zero _)]; exact (hrow u hu).2 row hr'⟩⟩
  · rintro i σ H' hi ⟨g', L', z21', rfl, h', hp', hst', hrow'⟩
    have ei : (0 : Int) + (i : Nat) = (i : Nat) := Int.zero_add _
    rw [ei]
    have hal := hp'.actLen
    have hri := hrow' i hi
    rw [if_neg (Nat.lt_irrefl i)] at hri
    refine ⟨_, rfl, _, rfl, _, _, _, _, rfl, rfl, SqL.of h'.lrows.1, atI_nat (rl_get hi), _, rfl, g', _, _, i, L'.rows i, L'.act, rfl, h'.rows i hi, h'.act, by omega, fun row hr' => ?_, fun g2 H2 k2 RA2 => ?_⟩
    · have := hri.2 row hr'
      omega
    have h2 := h'.known hT hi k2 RA2
    have hp2 := hp'.known (u0 := i)
    refine ⟨_, rfl, _, rfl, _, _, _, _, rfl, rfl, SqL.of h2.lsto.1, atI_nat (rl_get hi), _, rfl, _, rfl, _, _, _, _, rfl, rfl, SqL.of h2.lrows.1, atI_nat (rl_get hi), _, rfl, g2, _, _, _, n, R, i, _, _, L'.act, rfl, h2.sto i hi, h2.rows i hi, h2.act, hp2.held hi, fun g3 H3 k3 => ⟨true, rfl, iteF ?_⟩⟩
    have h3 := h2.keep k3
    refine ⟨_, rfl, _, rfl, _, _, _, _, rfl, rfl, SqL.of h3.lsto.1, atI_nat (rl_get hi), _, rfl, _, rfl, _, _, _, _, rfl, rfl, SqL.of h3.lfst.1, atI_nat (rl_get hi), g3, _, _, n, R, i, _, F i, rfl, h3.sto i hi, h3.fst i hi, ?_, ?_, hp2.perm hi, hF.so i hi, fun g4 H4 k4 => ⟨true, rfl, iteF ?_⟩⟩
    · have := hp2.dl i hi
      omega
    · have := hF.len i hi
      omega
    refine ⟨g4, _, some (.int (i : Nat)), ?_, h3.keep k4, hp2, hst', fun u hu => ?_⟩
    · rfl
    · show (fs L'.rows i ((L'.rows i).map (knownRow L'.act)) u).length ≤ nn ∧ ∀ row ∈ fs L'.rows i ((L'.rows i).map (knownRow L'.act)) u, _
      by_cases eu : u = i
      · subst eu
        rw [fs_same, if_pos (Nat.lt_succ_self _), List.length_map]
        refine ⟨hri.1, fun row hr' => ?_⟩
        obtain ⟨r0, h0, rfl⟩ := List.mem_map.mp hr'
        have q := hri.2 r0 h0
        have q2 := known_len (act := L'.act) q.1 q.2
        exact ⟨q2.1, by omega⟩
      · rw [fs_ne eu]
        have q := hrow' u hu
        by_cases hlt : u < i
        · rw [if_pos hlt] at q
          rw [if_pos (by omega)]
          exact q
        · rw [if_neg hlt] at q
          rw [if_neg (by omega)]
          exact q
  · rintro σ H' ⟨g', L', z21', rfl, h', hp', hst', hrow'⟩
    refine ⟨_, rfl, _, rfl, _, rfl, g', _, _, _, n, R, L'.E, _, rl n L'.sh, cnt, log, L'.act, rfl, h'.mem, h'.act, ?_, hp'.slotsOk, true, rfl, iteF ?_⟩
    · rw [rl_map]
      exact h'.lsh.1
    · refine fin _ _ (MidP.of h' hp' (fun u hu => ⟨by have := (hrow' u hu).1; omega, fun row hr' => ?_⟩) hst' hcnt rfl)
      have q := (hrow' u hu).2 row hr'
      rw [if_pos hu] at q
      exact q
end

structure LastP (CLa CMe CSt : Addr) (T R : Nat) (F : Nat → List Int) (kk i c : Nat) (σ : L2.St) (H : Hp) : Prop where
  ex : ∃ (g : Tg) (A : LAd) (L : LSt) (E : Int) (cnt : Nat) (log : Option Str) (z0 z4 z6 z15 z16 z17 z18 z19 z20 z21 z22 : Option V), σ = sg A T L.ser z0 z4 z6 z15 z16 z17 z18 z19 z20 z21 z22 ∧
    MemE CLa CMe g H A.m T R E (rl T L.slot) cnt log ∧ At g H 0 A.lsto (.lst (rl T fun u => V.ref (A.sto u))) ∧ (∀ u, i ≤ u → u < T → StoAt CLa CSt g H (A.sto u) T R u (L.sto u)) ∧ At g H 52 A.lph (.lst (rl T fun u => V.str (L.ph u).str)) ∧ PInv T F kk L ∧ L.E ≤ E ∧ cnt ≤ c
theorem othersEq (ns : List Int) : PyData.eqv (.list (ns.map PyData.int)) (.list []) = decide (ns = []) := by
  cases ns with
  | nil => simp only [List.map_nil, PyData.eqv, PyData.eqvAll]; rfl
  | cons a ns =>
    rw [decide_eq_false (by intro z; cases z)]
    simp only [List.map_cons, PyData.eqv, PyData.eqvAll]
section
variable {P : Program} {w : World} {K : PySem.W.Frag} {mg : Str → Option Value} {base : Heap} {CSk CSt CEn CLe CLa CMe : Addr}
theorem law_last (T : Txt K mg CSk CSt CEn CLe CLa CMe) (G : LawG P w K mg base CSk CSt CEn CLe CLa CMe) (f : Addr) (cdv : Value) (A : Around) (outer : List PySem.Env) (s0 : Shared) (H0 : Hp) (E : XK) (hr : Room 8 (A.deeper (envOfC "law" (fnScope (top 30)) s0.heap.objs.size f cdv))) :
    ∃ tb, PSs (lawX P w K mg base f cdv A outer s0 H0 E) (forBody (lawSt 13)) tb ∧ ∀ (D : Ends) (σ : L2.St) (H : Hp) (n R kk t c : Nat) (F : Nat → List Int),
      FOk n F → kk ≤ 1000 → c ≤ 20000 → t < n → LastP CLa CMe CSt n R F kk t c σ H → (∀ σ' H', LastP CLa CMe CSt n R F kk (t + 1) (c + 240) σ' H' → D.nx σ' H') → tb D (σ.set 4 (some (.int (t : Nat)))) H := by
  have nd : lawN.Nodup := scLaw.nd
  have hu : (A.deeper (envOfC "law" (fnScope (top 30)) s0.heap.objs.size f cdv)).units + 64 < cLine := hr.units
  refine ⟨_, pss_cons (ps_setLc (i := 22) (own := [("_law_k", 15)]) (g := gName 15) rfl nd rfl rfl (sw_true rfl rfl rfl (by decide +kernel)) (pi_range1 rfl T.range (pa_cons (pv 2) pa_nil)) (blkOk_by (N := lawN) (sc := fnScope (top 30)) (by decide +kernel))
        (fun _ _ _ _ _ => pg_name (i := 15) nd rfl (Or.inl rfl))
        (fun _ _ _ _ _ => pts_one (PW.pt (pw_and (pt_cmpR op_ne (pv 15) (pv 4) (nomark _)) (pw_and1 (pt_cmpR op_notN (pe_mt G.peek hr (by decide) (pv 3) (pa_cons (pe_op op_add pe_int (pv 15)) pa_nil)) pe_non (nomark _)))))) (fun _ _ _ _ _ => pv 15))
      (pss_one (ps_if (PW.pt (pw_and (pt_cmpR (op_eqD hu) (pv 22) (pe_lst pa_nil) (nomark _)) (pw_and1 (pt_cmpR op_eq (pe_ix ix_list (pv 9) (pv 4) (fun _ _ => rfl)) pe_str (nomark _)))))
        (pss_one (ps_if (pt_not (pt_val (pe_c G.alone hr (by decide) (by rfl) (pa_cons (pv 3) (pa_cons (pe_ix ix_list (pv 5) (pv 4) (fun _ _ => rfl)) (pa_cons (pv 4) pa_nil)))))) (pss_one (ps_ret pe_bl)) pss_nil)) pss_nil)), ?_⟩
  rintro D σ H n R kk t c F hF hkk hc ht ⟨⟨g, B, L, ep, cnt, log, z0, z4, z6, z15, z16, z17, z18, z19, z20, z21, z22, rfl, hm, hls, hs, hph, hp, hE, hcnt⟩⟩ fin
  have hT := hF.hi
  have ⟨vls, MA, hv⟩ := hm
  refine ⟨_, rfl, _, rfl, by omega, by omega, fun p hpf => ?_⟩
  rw [show ((n : Nat) : Int).toNat = n from Int.toNat_natCast n]
  refine lc_range (lo := 0) (n := n) (fun i H' => ∃ (g' : Tg), Ch (fun _ => False) g H g' H' ∧ At g' H' 7 p (.lst ((((List.range i).filter fun k => decide (k ≠ t ∧ L.slot k ≠ none)).map fun (k : Nat) => (k : Int)).map V.int))) ?_ ?_ ?_
  · exact ⟨tg g p 7, Ch.new hpf, At.new⟩
  · rintro i H' hi ⟨g', k', hl⟩
    have ei : (0 : Int) + (i : Nat) = (i : Nat) := Int.zero_add _
    rw [ei]
    have MA' := MA.keep k' id id
    have ⟨md', M', _⟩ := MA'
    have e1i : (1 : Int) + (i : Nat) = ((1 + i : Nat) : Int) := by omega
    refine ⟨rfl, ?_⟩
    refine ⟨_, rfl, _, rfl, rfl, _, rfl, ?_⟩
    have no : ¬ (i ≠ t ∧ L.slot i ≠ none) → ∃ (g' : Tg), Ch (fun _ => False) g H g' H' ∧ At g' H' 7 p (.lst ((((List.range (i + 1)).filter fun k => decide (k ≠ t ∧ L.slot k ≠ none)).map fun (k : Nat) => (k : Int)).map V.int)) := fun hn => by
      refine ⟨g', k', ?_⟩
      rw [List.range_succ, List.filter_append]
      have e1 : ([i].filter fun k => decide (k ≠ t ∧ L.slot k ≠ none)) = [] := by
        rw [List.filter_cons, if_neg (by rw [decide_eq_true_eq]; exact hn), List.filter_nil]
      rw [e1, List.append_nil]
      exact hl
    by_cases hit : i = t
    · exact nN (by rw [hit]) (iteF (no fun z => z.1 hit))
    · have hne : V.int (i : Nat) ≠ V.int (t : Nat) := fun z => hit (by injection z with z; exact Int.ofNat.inj z)
      refine nY hne ⟨_, rfl, _, _, _, rfl, M'.ins.1, rfl, _, rfl, _, _, rfl, rfl, g', B.m, n, R, vls, cnt, log, 1 + i, oV (L.slot i), congrArg (fun z => [V.ref B.m, V.int z]) e1i, MA', hv.sl i _ (rl_get hi), rfl, _, rfl, ?_⟩
      by_cases hsl : L.slot i = none
      · exact nN (by rw [hsl]; rfl) (no fun z => z.2 hsl)
      · have hsn : oV (L.slot i) ≠ .non := fun z => hsl (by cases e : L.slot i with | none => rfl | some x => rw [e] at z; cases z)
        refine nY hsn ⟨_, rfl, _, hl.1, ?_, g', k'.wrNew hpf, ?_⟩
        · refine At.len_le ?_
          rw [List.length_map, List.length_map]
          have q1 : ((List.range i).filter fun k => decide (k ≠ t ∧ L.slot k ≠ none)).length ≤ (List.range i).length := List.length_filter_le _ _
          rw [List.length_range] at q1
          omega
        · rw [List.range_succ, List.filter_append]
          have e1 : ([i].filter fun k => decide (k ≠ t ∧ L.slot k ≠ none)) = [i] := by
            rw [List.filter_cons, if_pos (by rw [decide_eq_true_eq]; exact ⟨hit, hsl⟩), List.filter_nil]
          rw [e1, List.map_append, List.map_append]
          exact hl.wr
  rintro H1 ⟨g1, k1, hl1⟩
  refine ⟨_, rfl, Nat.zero_le _, fun p2 hp2 => ?_⟩
  have np : p ≠ p2 := ne_of_none hl1.1 hp2
  have k12 : Ch (fun _ => False) g H (tg g1 p2 0) (upd H1 p2 (.lst [])) := k1.trans (Ch.new hp2)
  refine ⟨.list ((((List.range n).filter fun k => decide (k ≠ t ∧ L.slot k ≠ none)).map fun (k : Nat) => (k : Int)).map PyData.int), .list [], .lst (SqL.of (by rw [upd_ne np]; exact hl1.1)) (ints_dp _), .lst (SqL.of upd_same) .nil, intsD_shaped _, by rfl, ?_⟩
  rw [othersEq]
  have hm2 := hm.keep k12 id id
  have hls2 := hls.keep k12 id
  have hph2 := hph.keep k12 id
  have done : D.nx (sg B n L.ser z0 (some (.int (t : Nat))) z6 z15 z16 z17 z18 z19 z20 z21 (some (.ref p))) (upd H1 p2 (.lst [])) :=
    fin _ _ ⟨⟨_, B, L, ep, cnt, log, _, _, _, _, _, _, _, _, _, _, _, rfl, hm2, hls2, fun u hu1 hu2 => (hs u (by omega) hu2).keep k12 id id id, hph2, hp, hE, by omega⟩⟩
  by_cases hns : (((List.range n).filter fun k => decide (k ≠ t ∧ L.slot k ≠ none)).map fun (k : Nat) => (k : Int)) = []
  · rw [decide_eq_true hns]
    refine ⟨true, rfl, iteT ?_⟩
    refine ⟨_, rfl, _, rfl, _, _, _, _, rfl, rfl, SqL.of hph2.1, atI_nat (rl_get ht), rfl, _, rfl, ?_⟩
    by_cases ho : L.ph t = .out
    · refine dY (congrArg (fun p => V.str p.str) ho) ?_
      have th : ThC (inAct L t) (LeaInv n L) (L.slot t) (L.sto t).out (L.ph t) (L.stk t) := hp.th t ht
      rw [ho] at th
      have hsm := hp.small ht (hF.len t ht) hkk
      refine ⟨_, rfl, _, rfl, _, rfl, _, _, _, _, rfl, rfl, SqL.of hls2.1, atI_nat (rl_get ht), _, rfl, _, B.m, _, n, R, t, ep, _, cnt, log, _, rfl, hm2, (hs t (Nat.le_refl _) ht).keep k12 id id id, hsm, th.2.2, ht, hT, by omega, fun u hu => ?_, fun p hp' => Int.le_trans (hp.stamps t ht p hp') hE, fun g3 H3 E' cnt' log' k3 ME3 hE3 hc3 => ⟨true, rfl, iteF ?_⟩⟩
      · rw [rl_get hu]
        by_cases eu : u = t
        · rw [eu, th.1]
        · have hnil := List.map_eq_nil_iff.mp hns
          have : ¬ (u ≠ t ∧ L.slot u ≠ none) := fun z => by
            have hmem : u ∈ (List.range n).filter fun k => decide (k ≠ t ∧ L.slot k ≠ none) := List.mem_filter.mpr ⟨List.mem_range.mpr hu, decide_eq_true z⟩
            rw [hnil] at hmem
            cases hmem
          cases e : L.slot u with
          | none => rfl
          | some x => exact absurd ⟨eu, by rw [e]; intro z; cases z⟩ this
      · refine fin _ _ ⟨⟨g3, B, L, E', cnt', log', _, _, _, _, _, _, _, _, _, _, _, rfl, ME3, hls2.keep k3 (by unfold SZ; omega), fun u hu1 hu2 => ((hs u (by omega) hu2).keep k12 id id id).keep k3 (by unfold SZ; omega) (by unfold SZ; omega) (by unfold SZ; omega), hph2.keep k3 (by unfold SZ; omega), hp, Int.le_trans hE hE3, by omega⟩⟩
    · have hne : V.str (L.ph t).str ≠ V.str "out" := by
        cases e : L.ph t with
        | out => exact absurd e ho
        | ent => exact vs_ne rfl
        | inn => exact vs_ne rfl
        | lea => exact vs_ne rfl
      exact dN hne done
  · rw [decide_eq_false hns]
    exact ⟨false, rfl, iteF (iteF done)⟩
end

theorem MidP.mono {CLa CMe CSk CSt CEn CLe : Addr} {T R : Nat} {F : Nat → List Int} {tape : List Int} {kk n c kk' n' c' : Nat} {σ : L2.St} {H : Hp} (h : MidP CLa CMe CSk CSt CEn CLe T R F tape kk n c σ H) (h1 : kk ≤ kk') (h2 : n ≤ n') (h3 : c ≤ c') : MidP CLa CMe CSk CSt CEn CLe T R F tape kk' n' c' σ H := by
  obtain ⟨⟨g, B, L, cnt, log, z0, z4, z6, z15, z16, z17, z18, z19, z20, z21, z22, rfl, h, hp, hrow, hst, hcnt⟩⟩ := h
  exact MidP.of h (hp.mono h1) (hrow.mono h2) hst (Nat.le_trans hcnt h3) rfl
section
variable {P : Program} {w : World} {K : PySem.W.Frag} {mg : Str → Option Value} {base : Heap} {CSk CSt CEn CLe CLa CMe : Addr}
theorem law_body (T : Txt K mg CSk CSt CEn CLe CLa CMe) (G : LawG P w K mg base CSk CSt CEn CLe CLa CMe) (f : Addr) (cdv : Value) (A : Around) (outer : List PySem.Env) (s0 : Shared) (H0 : Hp) (E : XK) (hr : Room 8 (A.deeper (envOfC "law" (fnScope (top 30)) s0.heap.objs.size f cdv))) :
    ∃ tb, PSs (lawX P w K mg base f cdv A outer s0 H0 E) (forBody (lawSt 12)) tb ∧ ∀ (D : Ends) (σ : L2.St) (H : Hp) (n R i : Nat) (F : Nat → List Int) (tape : List Int),
      FOk n F → i < 200 → MidP CLa CMe CSk CSt CEn CLe n R F tape (4 * i) (3 + 10 * i) i σ H → (∀ σ' H', MidP CLa CMe CSk CSt CEn CLe n R F tape (4 * (i + 1)) (3 + 10 * (i + 1)) (i + 1) σ' H' → D.nx σ' H') → tb D (σ.set 15 (some (.int (i : Nat)))) H := by
  have nd : lawN.Nodup := scLaw.nd
  obtain ⟨t1, p1, q1⟩ := law_in T G f cdv A outer s0 H0 E hr
  obtain ⟨t2, p2, q2⟩ := law_else T G f cdv A outer s0 H0 E hr
  obtain ⟨t3, p3, q3⟩ := law_chk T G f cdv A outer s0 H0 E hr
  refine ⟨_, pss_cons (ps_set (i := 16) nd rfl (Or.inl rfl) (pe_c G.at_ hr (by decide) (by rfl) (pa_cons (pv 1) (pa_cons (pe_op op_add (pv 15) pe_int) pa_nil))))
      (pss_cons (ps_set (i := 4) nd rfl (Or.inr rfl) (pe_op op_mod (pv 16) (pv 2)))
      (pss_cons (ps_set (i := 6) nd rfl (Or.inl rfl) (pe_ix ix_list (pv 5) (pv 4) (fun _ _ => rfl)))
      (pss_cut (ps_if (pt_cmpR op_eq (pe_ix ix_list (pv 9) (pv 4) (fun _ _ => rfl)) pe_str (nomark _)) p1 p2) p3))), ?_⟩
  rintro D σ H n R i F tape hF hi ⟨⟨g, B, L, cnt, log, z0, z4, z6, z15, z16, z17, z18, z19, z20, z21, z22, rfl, h, hp, hrow, hst, hcnt⟩⟩ fin
  have hlo := hF.lo
  refine ⟨_, rfl, _, rfl, _, _, rfl, rfl, _, tape, i + 1, rfl, SqL.of h.tp.1, ?_⟩
  generalize tape.getD (i + 1) 0 = num
  have m0 : (0 : Int) < (n : Nat) := by omega
  obtain ⟨t, et, ht⟩ : ∃ t : Nat, num % (n : Int) = (t : Int) ∧ t < n := by
    have m1 : 0 ≤ num % (n : Int) := Int.emod_nonneg _ (by omega)
    have m2 : num % (n : Int) < n := Int.emod_lt_of_pos _ m0
    exact ⟨(num % (n : Int)).toNat, by omega, by omega⟩
  refine ⟨_, rfl, _, rfl, _, _, rfl, rfl, m0, ?_⟩
  dsimp only
  rw [et]
  refine ⟨_, rfl, _, rfl, _, _, _, _, rfl, rfl, SqL.of h.lsto.1, atI_nat (rl_get ht), ?_⟩
  refine ⟨MidP CLa CMe CSk CSt CEn CLe n R F tape (4 * i + 3) (3 + 10 * i + 5) (i + 1), ?_, fun σ' H' hm => ?_⟩
  · refine ⟨_, rfl, _, rfl, _, _, _, _, rfl, rfl, SqL.of h.lph.1, atI_nat (rl_get ht), rfl, _, rfl, ?_⟩
    by_cases hin : L.ph t = .inn
    · exact dY (congrArg (fun p => V.str p.str) hin) (q1 _ g H B L cnt log n R t (4 * i) (3 + 10 * i) i F tape num _ _ _ _ _ _ _ _ hF h hp hrow hst hcnt (by omega) (by omega) (by omega) (by omega) ht hin fun σ' H' hm => hm.mono (by omega) (by omega) (by omega))
    · have hne : V.str (L.ph t).str ≠ V.str "in" := by
        cases e : L.ph t with
        | inn => exact absurd e hin
        | ent => exact vs_ne rfl
        | out => exact vs_ne rfl
        | lea => exact vs_ne rfl
      exact dN hne (q2 _ g H B L cnt log n R t (4 * i) (3 + 10 * i) i F tape num _ _ _ _ _ _ _ _ hF h hp hrow hst hcnt (by omega) (by omega) ht hin fun σ' H' hm => hm.mono (by omega) (by omega) (by omega))
  · exact q3 _ σ' H' n R _ _ _ F tape hF (by omega) (by omega) hm fun σ2 H2 hm2 => fin σ2 H2 (hm2.mono (by omega) (by omega) (by omega))
end

theorem firstOf_nd (T R t : Nat) : (firstOf T R t).Nodup := by
  unfold firstOf
  refine List.Nodup.sublist List.filter_sublist ?_
  exact List.Pairwise.map _ (fun a b hab e => hab (by omega)) List.nodup_range
theorem firstOf_len (T R t : Nat) : (firstOf T R t).length ≤ R - 3 := by
  unfold firstOf
  refine Nat.le_trans (List.length_filter_le _ _) ?_
  rw [List.length_map, List.length_range]
  exact Nat.le_refl _
theorem rep_rl {α : Type} (n : Nat) (x : α) : (List.replicate n [x]).flatten = rl n fun _ => x := by
  unfold rl
  induction n with
  | zero => rfl
  | succ n ih =>
    rw [List.range_succ, List.map_append, ← ih, List.replicate_succ']
    rw [List.flatten_append]
    rfl
theorem rl_succ {α : Type} {n : Nat} {f : Nat → α} : rl (n + 1) f = rl n f ++ [f n] := by
  unfold rl
  rw [List.range_succ, List.map_append]
  rfl
theorem rl_congr {α : Type} {n : Nat} {f f' : Nat → α} (h : ∀ u, u < n → f u = f' u) : rl n f = rl n f' := by
  unfold rl
  exact List.map_congr_left fun u hu => h u (List.mem_range.mp hu)
theorem rl_fs {α β : Type} {n : Nat} {f : Nat → α} {k : α → β} {x : α} : rl (n + 1) (fun u => k (fs f n x u)) = rl n (fun u => k (f u)) ++ [k x] := by
  rw [rl_succ, fs_same]
  congr 1
  exact rl_congr fun u hu => by rw [fs_ne (Nat.ne_of_lt hu)]
def L00 (F : Nat → List Int) : LSt := ⟨0, fun _ => none, fun u => ⟨F u, [], []⟩, fun _ => .out, fun _ => 0, fun _ => none, fun _ => none, fun _ => [], [], 0⟩
theorem pinv00 (T : Nat) (F : Nat → List Int) : PInv T F 0 (L00 F) where
  th := fun u hu => ⟨rfl, (fun ⟨q, q1, _⟩ => by cases q1), rfl⟩
  whole := fun u hu => by
    show (F u ++ [] ++ []).Perm (F u)
    rw [List.append_nil, List.append_nil]
  stamps := fun u hu p hp => by cases hp
  dl := fun u hu => Nat.le_refl _
  act1 := fun q hq => by cases hq
  actN := List.nodup_nil
  actS := fun q hq => by cases hq
  rows := fun u hu row hr => by cases hr
/-- the state before the main loop -/
structure Set5 (CLa CMe CSt : Addr) (T R : Nat) (F : Nat → List Int) (tape : List Int) (g : Tg) (H : Hp) (tp m lsto lfst : Addr) (sto fst : Nat → Addr) : Prop where
  tp : At g H 0 tp (.lst (tape.map V.int))
  mem : MemE CLa CMe g H m T R 0 (rl T fun _ => none) 0 none
  lsto : At g H 0 lsto (.lst (rl T fun u => V.ref (sto u)))
  sto : ∀ u, u < T → StoAt CLa CSt g H (sto u) T R u ⟨F u, [], []⟩
  lfst : At g H 0 lfst (.lst (rl T fun u => V.ref (fst u)))
  fst : ∀ u, u < T → At g H 0 (fst u) (.lst ((F u).map V.int))
theorem Set5.keep {CLa CMe CSt : Addr} {T R : Nat} {F : Nat → List Int} {tape : List Int} {g g' : Tg} {H H' : Hp} {tp m lsto lfst : Addr} {sto fst : Nat → Addr} (h : Set5 CLa CMe CSt T R F tape g H tp m lsto lfst sto fst) (k : Ch (fun _ => False) g H g' H') : Set5 CLa CMe CSt T R F tape g' H' tp m lsto lfst sto fst :=
  ⟨h.tp.keep k id, h.mem.keep k id id, h.lsto.keep k id, fun u hu => (h.sto u hu).keep k id id id, h.lfst.keep k id, fun u hu => (h.fst u hu).keep k id⟩
def spLaw (K : PySem.W.Frag) : Sp := fun vs H Q _ => ∃ (a : Addr) (ns : List Int), vs = [.ref a] ∧ SqL K H a (ns.map V.int) ∧ ns.length ≤ 63 ∧ ∀ H', Q (.bl true) H'
section
variable {P : Program} {w : World} {K : PySem.W.Frag} {mg : Str → Option Value} {base : Heap} {CSk CSt CEn CLe CLa CMe : Addr}
theorem law_fn {f : Addr} {fd : FuncData} (FF : C8.Fun K "law" "law" (top 30) f fd) (T : Txt K mg CSk CSt CEn CLe CLa CMe) (G : LawG P w K mg base CSk CSt CEn CLe CLa CMe) : FnOk P w K mg base C8.CX0 9 f fd ["_law_script"] (spLaw K) := by
  refine C8.fn0 FF scLaw (by walk_at "len") fun cdv A outer s0 H vs Q E hr h => ?_
  have nd : lawN.Nodup := scLaw.nd
  obtain ⟨a, ns, rfl, hl, hn, q⟩ := h
  obtain ⟨tb1, p1, q1⟩ := law_body T G f cdv A outer s0 H E hr
  obtain ⟨tb2, p2, q2⟩ := law_last T G f cdv A outer s0 H E hr
  refine ⟨_, pss_cons (ps_set (i := 1) nd rfl (Or.inl rfl) (pe_c G.tape hr (by decide) (by rfl) (pa_cons (pv 0) pa_nil)))
    (pss_cons (ps_set (i := 2) nd rfl (Or.inl rfl) (pe_op op_add pe_int (pe_op op_mod (pe_c G.at_ hr (by decide) (by rfl) (pa_cons (pv 1) (pa_cons pe_int pa_nil))) pe_int)))
    (pss_cons (ps_set (i := 3) nd rfl (Or.inr rfl) (pe_mk G.memI hr (by decide) (by rfl) (pa_cons (pe_mk G.layI hr (by decide) (by rfl) (pa_cons (pv 2) (pa_cons pe_int (pa_cons (pe_op op_add pe_int (pe_op op_mul pe_int (pv 2))) pa_nil)))) pa_nil)))
    (pss_cons (ps_setLc (i := 5) (own := [("_law_thread", 4)]) (g := gName 4) rfl nd rfl rfl (sw_true rfl rfl rfl (by decide +kernel)) (pi_range1 rfl T.range (pa_cons (pv 2) pa_nil)) (blkOk_by (N := lawN) (sc := fnScope (top 30)) (by decide +kernel))
      (fun _ _ _ _ _ => pg_name (i := 4) nd rfl (Or.inl rfl)) (fun _ _ _ _ _ => pts_nil) (fun _ _ _ _ _ => pe_c G.store hr (by decide) (by rfl) (pa_cons (pe_fldK (K := K) rfl (pv 3) rfl) (pa_cons (pv 4) pa_nil))))
    (pss_cut (ps_setLc (i := 7) (own := [("_law_store_here", 6)]) (g := gName 6) rfl nd rfl rfl (sw_true rfl rfl rfl (by decide +kernel)) (pi_list (pv 5)) (blkOk_by (N := lawN) (sc := fnScope (top 30)) (by decide +kernel))
      (fun _ _ _ _ _ => pg_name (i := 6) nd rfl (Or.inl rfl)) (fun _ _ _ _ _ => pts_nil) (fun _ _ _ _ _ => pe_mt0 G.free hr (by decide) (pv 6)))
    (pss_cons (ps_set (i := 8) nd rfl (Or.inl rfl) (pe_op op_rep (pe_lst (pa_cons pe_non pa_nil)) (pv 2)))
    (pss_cons (ps_set (i := 9) nd rfl (Or.inl rfl) (pe_op op_rep (pe_lst (pa_cons pe_str pa_nil)) (pv 2)))
    (pss_cons (ps_set (i := 10) nd rfl (Or.inl rfl) (pe_op op_rep (pe_lst (pa_cons pe_int pa_nil)) (pv 2)))
    (pss_cons (ps_set (i := 11) nd rfl (Or.inl rfl) (pe_op op_rep (pe_lst (pa_cons pe_non pa_nil)) (pv 2)))
    (pss_cons (ps_set (i := 12) nd rfl (Or.inr rfl) (pe_lst pa_nil))
    (pss_cons (ps_set (i := 13) nd rfl (Or.inl rfl) pe_int)
    (pss_cut (ps_setLc (i := 14) (own := [("_law_thread", 4)]) (g := gName 4) rfl nd rfl rfl (sw_true rfl rfl rfl (by decide +kernel)) (pi_range1 rfl T.range (pa_cons (pv 2) pa_nil)) (blkOk_by (N := lawN) (sc := fnScope (top 30)) (by decide +kernel))
      (fun _ _ _ _ _ => pg_name (i := 4) nd rfl (Or.inl rfl)) (fun _ _ _ _ _ => pts_nil) (fun _ _ _ _ _ => pe_lst pa_nil))
    (pss_cut (ps_for PassesOwn.never rfl (pi_range1 rfl T.range (pa_cons (pe_callB (call_min2 rfl) (by rfl) T.min (by decide +kernel) (pa_cons pe_int (pa_cons (pe_callB (call_max2 rfl) (by rfl) T.max (by decide +kernel) (pa_cons pe_int (pa_cons (pe_op op_sub (pe_callB call_len_seq (by rfl) T.len PySem.boot_len (pa_cons (pv 1) pa_nil)) pe_int) pa_nil))) pa_nil))) pa_nil)) (pg_name (i := 15) nd rfl (Or.inl rfl)) p1)
    (pss_cons (ps_for PassesOwn.never rfl (pi_range1 rfl T.range (pa_cons (pv 2) pa_nil)) (pg_name (i := 4) nd rfl (Or.inr rfl)) p2)
    (pss_one (ps_ret pe_bl))))))))))))))), ?_⟩
  -- the tape, the threads, the memory
  refine ⟨_, rfl, fun _ => 0, a, ns, rfl, hl, hn, fun g1 H1 tp tape k1 htp hxs => ?_⟩
  refine ⟨_, rfl, tp, tape, 0, rfl, SqL.of htp.1, _, _, rfl, rfl, (by show (0 : Int) < 2; decide), _, _, rfl, rfl, ?_⟩
  obtain ⟨n, en, hn2, hn3⟩ : ∃ n : Nat, 2 + tape.getD 0 0 % 2 = (n : Int) ∧ 2 ≤ n ∧ n ≤ 3 := by
    have m1 : 0 ≤ tape.getD 0 0 % 2 := Int.emod_nonneg _ (by decide)
    have m2 : tape.getD 0 0 % 2 < 2 := Int.emod_lt_of_pos _ (by decide)
    exact ⟨(2 + tape.getD 0 0 % 2).toNat, by omega, by omega, by omega⟩
  dsimp only
  rw [en]
  refine ⟨_, rfl, _, rfl, _, _, rfl, rfl, .inl ⟨by decide, by decide⟩, _, _, rfl, rfl, ?_⟩
  intro lay dl nlay ndl nel
  have eR : 3 + 12 * (n : Int) = ((3 + 12 * n : Nat) : Int) := by omega
  dsimp only
  rw [eR]
  have hmade := made (g := g1) (C := CLa) (c := 0) nlay ndl nel
  refine ⟨lay, dl, n, ((3 + 12 * n : Nat) : Int), rfl, hmade.2.1, by omega, by omega, by omega, by omega, rfl, ?_⟩
  have k2 : Ch (fun _ => False) g1 H1 (tg (tg g1 dl 0) lay 7) _ := (made (g := g1) (C := CLa) (c := 7) nlay ndl nel).1
  have b2 := (made (g := g1) (C := CLa) (c := 7) nlay ndl nel).2
  have k3 : Ch (fun c => c = 7) (tg (tg g1 dl 0) lay 7) _ (tg (tg g1 dl 0) lay 7) _ := Ch.wr (o' := .ins CLa dl (laF n 3 ((3 + 12 * n : Nat) : Int))) b2 rfl
  have b3 := b2.wr (o' := .ins CLa dl (laF n 3 ((3 + 12 * n : Nat) : Int)))
  have k4 : Ch (fun c => c = 7) (tg (tg g1 dl 0) lay 7) _ (tg (tg (tg g1 dl 0) lay 7) lay 0) _ := Ch.tagged b3 rfl
  have b4 : At (tg (tg (tg g1 dl 0) lay 7) lay 0) _ 0 lay _ := ⟨b3.1, tg_same⟩
  have htp4 := ((htp.keep k2 id).keep k3 (by omega)).keep k4 (by omega)
  generalize tg (tg (tg g1 dl 0) lay 7) lay 0 = g4 at b4 htp4
  generalize upd (upd (upd H1 dl (.own lay)) lay (.ins CLa dl [])) lay (.ins CLa dl (laF n 3 ((3 + 12 * n : Nat) : Int))) = H4 at b4 htp4 ⊢
  clear k2 b2 k3 b3 k4 hmade nlay ndl
  intro m dm nm ndm nem
  obtain ⟨k5, b5⟩ := made (g := g4) (C := CMe) (c := 1) nm ndm nem
  refine ⟨_, m, dm, lay, n, 3 + 12 * n, rfl, b5, ⟨dl, b4.keep k5 id⟩, by omega, by omega, by omega, by omega, fun g6 H6 vals k6 MA6 hv0 hvt => ⟨rfl, ?_⟩⟩
  have htp6 := (htp4.keep k5 id).keep k6 (by omega)
  have ME6 : MemE CLa CMe g6 H6 m n (3 + 12 * n) 0 (rl n fun _ => none) 0 none := by
    refine ⟨vals, MA6, hv0, rl_len, fun u x hx => ?_⟩
    have hu : u < n := by
      have := (List.getElem?_eq_some_iff.mp hx).1
      rwa [rl_len] at this
    rw [rl_get hu] at hx
    cases hx
    exact hvt u hu
  clear htp4 k5 b5 k6 b4 nm ndm
  -- the stores
  refine ⟨_, rfl, _, rfl, by omega, by omega, fun p hpf => ?_⟩
  rw [show ((n : Nat) : Int).toNat = n from Int.toNat_natCast n]
  refine lc_range (lo := 0) (n := n) (fun i H' => ∃ (g' : Tg) (sA : Nat → Addr) (sp : Nat → List Int), At g' H' 0 tp (.lst (tape.map V.int)) ∧ MemE CLa CMe g' H' m n (3 + 12 * n) 0 (rl n fun _ => none) 0 none ∧ At g' H' 7 p (.lst (rl i fun u => V.ref (sA u))) ∧
    ∀ u, u < i → StoAt CLa CSt g' H' (sA u) n (3 + 12 * n) u ⟨sp u, [], []⟩ ∧ (sp u).Perm (firstOf n (3 + 12 * n) u) ∧ (sp u).Pairwise (· ≤ ·)) ?_ ?_ ?_
  · have kn : Ch (fun _ => False) g6 H6 (tg g6 p 7) (upd H6 p (.lst [])) := Ch.new hpf
    exact ⟨tg g6 p 7, fun _ => 0, fun _ => [], htp6.keep kn id, ME6.keep kn id id, At.new, fun u hu => absurd hu (Nat.not_lt_zero u)⟩
  · rintro i H' hi ⟨g', sA, sp, htp', ME', hp', hs'⟩
    have ei : (0 : Int) + (i : Nat) = (i : Nat) := Int.zero_add _
    rw [ei]
    have ⟨vls, MA', hv'⟩ := ME'
    have ⟨md', M', _⟩ := MA'
    refine ⟨rfl, ?_⟩
    refine ⟨_, rfl, _, _, _, _, _, rfl, M'.ins.1, T.clMe, T.meLayout, rfl, _, rfl, g', _, n, 3 + 12 * n, i, rfl, M'.lay, by omega, by omega, by omega, by omega, fun g2 H2 s spi k2 SA2 hpm hpw => ?_⟩
    have hp2 := hp'.keep k2 (by omega)
    have k3 : Ch (fun c => c = 7) g2 H2 g2 _ := Ch.wr (o' := .lst ((rl i fun u => V.ref (sA u)) ++ [.ref s])) hp2 rfl
    refine ⟨_, hp2.1, At.len_le (by rw [rl_len]; omega), g2, fs sA i s, fs sp i spi, (htp'.keep k2 (by omega)).keep k3 (by omega), (ME'.keep k2 (by omega) (by omega)).keep k3 (by omega) (by omega), ?_, fun u hu => ?_⟩
    · rw [rl_fs]
      exact hp2.wr
    · by_cases eu : u = i
      · subst eu
        rw [fs_same, fs_same]
        exact ⟨SA2.keep k3 (by omega) (by omega) (by omega), hpm, hpw⟩
      · rw [fs_ne eu, fs_ne eu]
        obtain ⟨a1, a2, a3⟩ := hs' u (by omega)
        exact ⟨(a1.keep k2 (by omega) (by omega) (by omega)).keep k3 (by omega) (by omega) (by omega), a2, a3⟩
  rintro H7 ⟨g7, sA, F, htp7, ME7, hp7, hs7⟩
  have t7 : Ch (fun c => c = 7) g7 H7 (tg g7 p 0) H7 := Ch.tagged hp7 rfl
  have htp8 := htp7.keep t7 (by omega)
  have ME8 := ME7.keep t7 (by omega) (by omega)
  have hp8 : At (tg g7 p 0) H7 0 p (.lst (rl n fun u => V.ref (sA u))) := ⟨hp7.1, tg_same⟩
  have hs8 : ∀ u, u < n → StoAt CLa CSt (tg g7 p 0) H7 (sA u) n (3 + 12 * n) u ⟨F u, [], []⟩ := fun u hu => (hs7 u hu).1.keep t7 (by omega) (by omega) (by omega)
  have hF : FOk n F := by
    refine ⟨hn2, hn3, fun u hu => (hs7 u hu).2.1.nodup_iff.mpr (firstOf_nd _ _ _), fun u hu => (hs7 u hu).2.2, fun u hu => ?_⟩
    have e1 := (hs7 u hu).2.1.length_eq
    have e2 := firstOf_len n (3 + 12 * n) u
    omega
  generalize tg g7 p 0 = g8 at htp8 ME8 hp8 hs8
  clear htp7 ME7 hp7 hs7 t7 ME6 htp6 hpf
  -- what they held first
  refine ⟨fun σ' H' => ∃ (g' : Tg) (lf : Addr) (fA : Nat → Addr), σ' = [some (.ref a), some (.ref tp), some (.int (n : Nat)), some (.ref m), none, some (.ref p), none, some (.ref lf), none, none, none, none, none, none, none, none, none, none, none, none, none, none, none, none, none, none] ∧ Set5 CLa CMe CSt n (3 + 12 * n) F tape g' H' tp m p lf sA fA, ?_, ?_⟩
  · refine ⟨_, rfl, _, rfl, ⟨_, SqL.of hp8.1⟩, fun lf hlf => ?_⟩
    refine lc_list (K := K) (a := p) (xs := rl n fun u => V.ref (sA u)) (fun i H' => ∃ (g' : Tg) (fA : Nat → Addr), Ch (fun _ => False) g8 H7 g' H' ∧ At g' H' 7 lf (.lst (rl i fun u => V.ref (fA u))) ∧ ∀ u, u < i → At g' H' 0 (fA u) (.lst ((F u).map V.int))) ?_ ?_ ?_ ?_
    · exact ⟨tg g8 lf 7, fun _ => 0, Ch.new hlf, At.new, fun u hu => absurd hu (Nat.not_lt_zero u)⟩
    · rintro i H' hi ⟨g', fA, k', _⟩
      exact SqL.of (hp8.keep k' id).1
    · rintro i x H' hi ⟨g', fA, k', hl', hf'⟩
      have hin : i < n := by
        have := (List.getElem?_eq_some_iff.mp hi).1
        rwa [rl_len] at this
      rw [rl_get hin] at hi
      cases hi
      have SA' := (hs8 i hin).keep k' id id id
      have ⟨d', M'⟩ := SA'
      refine ⟨rfl, ?_⟩
      refine ⟨_, rfl, _, _, _, rfl, M'.ins.1, rfl, g', sA i, n, 3 + 12 * n, i, _, rfl, SA', fun q hq => ?_⟩
      have k2 : Ch (fun _ => False) g' H' (tg g' q 0) (upd H' q (.lst ((F i).map V.int))) := Ch.new hq
      have hl2 := hl'.keep k2 id
      have k3 : Ch (fun c => c = 7) (tg g' q 0) _ (tg g' q 0) _ := Ch.wr (o' := .lst ((rl i fun u => V.ref (fA u)) ++ [.ref q])) hl2 rfl
      refine ⟨_, hl2.1, At.len_le (by rw [rl_len]; omega), tg g' q 0, fs fA i q, (k'.trans k2).wrNew hlf, ?_, fun u hu => ?_⟩
      · rw [rl_fs]
        exact hl2.wr
      · by_cases eu : u = i
        · subst eu
          rw [fs_same]
          exact (At.new (g := g') (H := H') (p := q) (c := 0) (o := .lst ((F u).map V.int))).keep k3 (by omega)
        · rw [fs_ne eu]
          exact ((hf' u (by omega)).keep k2 id).keep k3 (by omega)
    rintro H9 ⟨g9, fA, k9, hl9, hf9⟩
    rw [rl_len] at hl9 hf9
    have t9 : Ch (fun c => c = 7) g9 H9 (tg g9 lf 0) H9 := Ch.tagged hl9 rfl
    have k9' := k9.retag (c := 0) hlf
    exact ⟨tg g9 lf 0, lf, fA, rfl, htp8.keep k9' id, ME8.keep k9' id id, hp8.keep k9' id, fun u hu => (hs8 u hu).keep k9' id id id, ⟨hl9.1, tg_same⟩, fun u hu => (hf9 u hu).keep t9 (by omega)⟩
  clear htp8 ME8 hp8 hs8
  rintro σ9 H9 ⟨g9, lf, fA, rfl, h9⟩
  have erep : ∀ v : V, (List.replicate ((n : Nat) : Int).toNat [v]).flatten = rl n fun _ => v := fun v => by rw [Int.toNat_natCast, rep_rl]
  have szn : ∀ v : V, [v].length * ((n : Nat) : Int).toNat ≤ sizeLine := fun v => size_2 (by show 1 * ((n : Nat) : Int).toNat ≤ 100000; omega)
  -- four lists
  refine ⟨size_2 (by show 1 ≤ 100000; decide), fun x1 hx1 => ⟨_, rfl, _, _, _, rfl, rfl, upd_same, by omega, by omega, szn _, fun lstk hl1 => ?_⟩⟩
  rw [erep]
  have c1 : Ch (fun _ => False) g9 H9 _ _ := (Ch.new (S := fun _ => False) (c := 0) (o := .lst [.non]) hx1).trans (Ch.new (c := 51) (o := .lst (rl n fun _ => V.non)) hl1)
  have w1 := At.new (g := tg g9 x1 0) (H := upd H9 x1 (.lst [.non])) (p := lstk) (c := 51) (o := .lst (rl n fun _ => V.non))
  have h10 := h9.keep c1
  generalize tg (tg g9 x1 0) lstk 51 = g10 at w1 h10
  generalize upd (upd H9 x1 (.lst [.non])) lstk (.lst (rl n fun _ => V.non)) = H10 at w1 h10 ⊢
  clear c1 hx1 hl1 h9
  refine ⟨size_2 (by show 1 ≤ 100000; decide), fun x2 hx2 => ⟨_, rfl, _, _, _, rfl, rfl, upd_same, by omega, by omega, szn _, fun lph hl2 => ?_⟩⟩
  rw [erep]
  have c2 : Ch (fun _ => False) g10 H10 _ _ := (Ch.new (S := fun _ => False) (c := 0) (o := .lst [.str "out"]) hx2).trans (Ch.new (c := 52) (o := .lst (rl n fun _ => V.str "out")) hl2)
  have w2 := At.new (g := tg g10 x2 0) (H := upd H10 x2 (.lst [.str "out"])) (p := lph) (c := 52) (o := .lst (rl n fun _ => V.str "out"))
  have h11 := h10.keep c2
  have w1 := w1.keep c2 id
  generalize tg (tg g10 x2 0) lph 52 = g11 at w1 w2 h11
  generalize upd (upd H10 x2 (.lst [.str "out"])) lph (.lst (rl n fun _ => V.str "out")) = H11 at w1 w2 h11 ⊢
  clear c2 hx2 hl2 h10
  refine ⟨size_2 (by show 1 ≤ 100000; decide), fun x3 hx3 => ⟨_, rfl, _, _, _, rfl, rfl, upd_same, by omega, by omega, szn _, fun lwk hl3 => ?_⟩⟩
  rw [erep]
  have c3 : Ch (fun _ => False) g11 H11 _ _ := (Ch.new (S := fun _ => False) (c := 0) (o := .lst [.int 0]) hx3).trans (Ch.new (c := 53) (o := .lst (rl n fun _ => V.int 0)) hl3)
  have w3 := At.new (g := tg g11 x3 0) (H := upd H11 x3 (.lst [.int 0])) (p := lwk) (c := 53) (o := .lst (rl n fun _ => V.int 0))
  have h12 := h11.keep c3
  have w1 := w1.keep c3 id
  have w2 := w2.keep c3 id
  generalize tg (tg g11 x3 0) lwk 53 = g12 at w1 w2 w3 h12
  generalize upd (upd H11 x3 (.lst [.int 0])) lwk (.lst (rl n fun _ => V.int 0)) = H12 at w1 w2 w3 h12 ⊢
  clear c3 hx3 hl3 h11
  refine ⟨size_2 (by show 1 ≤ 100000; decide), fun x4 hx4 => ⟨_, rfl, _, _, _, rfl, rfl, upd_same, by omega, by omega, szn _, fun lsh hl4 => ?_⟩⟩
  rw [erep]
  have c4 : Ch (fun _ => False) g12 H12 _ _ := (Ch.new (S := fun _ => False) (c := 0) (o := .lst [.non]) hx4).trans (Ch.new (c := 54) (o := .lst (rl n fun _ => V.non)) hl4)
  have w4 := At.new (g := tg g12 x4 0) (H := upd H12 x4 (.lst [.non])) (p := lsh) (c := 54) (o := .lst (rl n fun _ => V.non))
  have h13 := h12.keep c4
  have w1 := w1.keep c4 id
  have w2 := w2.keep c4 id
  have w3 := w3.keep c4 id
  generalize tg (tg g12 x4 0) lsh 54 = g13 at w1 w2 w3 w4 h13
  generalize upd (upd H12 x4 (.lst [.non])) lsh (.lst (rl n fun _ => V.non)) = H13 at w1 w2 w3 w4 h13 ⊢
  clear c4 hx4 hl4 h12
  -- no calls, the rows
  refine ⟨Nat.zero_le _, fun la hla => ?_⟩
  have c5 : Ch (fun _ => False) g13 H13 _ _ := Ch.new (c := 0) (o := .lst []) hla
  have w5 := At.new (g := g13) (H := H13) (p := la) (c := 0) (o := .lst [])
  have h14 := h13.keep c5
  have w1 := w1.keep c5 id
  have w2 := w2.keep c5 id
  have w3 := w3.keep c5 id
  have w4 := w4.keep c5 id
  generalize tg g13 la 0 = g14 at w1 w2 w3 w4 w5 h14
  generalize upd H13 la (.lst []) = H14 at w1 w2 w3 w4 w5 h14 ⊢
  clear c5 hla h13
  refine ⟨fun σ' H' => MidP CLa CMe CSk CSt CEn CLe n (3 + 12 * n) F tape (4 * 0) (3 + 10 * 0) 0 σ' H', ?_, ?_⟩
  · refine ⟨_, rfl, _, rfl, by omega, by omega, fun lr hlr => ?_⟩
    rw [show ((n : Nat) : Int).toNat = n from Int.toNat_natCast n]
    refine lc_range (lo := 0) (n := n) (fun i H' => ∃ (g' : Tg) (rA : Nat → Addr), Ch (fun _ => False) g14 H14 g' H' ∧ At g' H' 7 lr (.lst (rl i fun u => V.ref (rA u))) ∧ ∀ u, u < i → At g' H' 0 (rA u) (.lst [])) ?_ ?_ ?_
    · exact ⟨tg g14 lr 7, fun _ => 0, Ch.new hlr, At.new, fun u hu => absurd hu (Nat.not_lt_zero u)⟩
    · rintro i H' hi ⟨g', rA, k', hl', hr'⟩
      refine ⟨rfl, ?_⟩
      refine ⟨Nat.zero_le _, fun q hq => ?_⟩
      have k2 : Ch (fun _ => False) g' H' (tg g' q 0) (upd H' q (.lst [])) := Ch.new hq
      have hl2 := hl'.keep k2 id
      have k3 : Ch (fun c => c = 7) (tg g' q 0) _ (tg g' q 0) _ := Ch.wr (o' := .lst ((rl i fun u => V.ref (rA u)) ++ [.ref q])) hl2 rfl
      refine ⟨_, hl2.1, At.len_le (by rw [rl_len]; omega), tg g' q 0, fs rA i q, (k'.trans k2).wrNew hlr, ?_, fun u hu => ?_⟩
      · rw [rl_fs]
        exact hl2.wr
      · by_cases eu : u = i
        · subst eu
          rw [fs_same]
          exact (At.new (g := g') (H := H') (p := q) (c := 0) (o := .lst [])).keep k3 (by omega)
        · rw [fs_ne eu]
          exact ((hr' u (by omega)).keep k2 id).keep k3 (by omega)
    rintro H15 ⟨g15, rA, k15, hl15, hr15⟩
    have t15 : Ch (fun c => c = 7) g15 H15 (tg g15 lr 55) H15 := Ch.tagged hl15 rfl
    have k15' := k15.retag (c := 55) hlr
    have h15 := h14.keep k15'
    have R0 : LRep CLa CMe CSk CSt CEn CLe n (3 + 12 * n) F tape (tg g15 lr 55) H15 ⟨tp, m, p, lf, lstk, lph, lwk, lsh, lr, la, sA, fA, rA, fun _ => none⟩ (L00 F) 0 none :=
      ⟨h15.tp, h15.mem, h15.lsto, h15.sto, h15.lfst, h15.fst, w1.keep k15' id, (fun u hu k e => by cases e), w2.keep k15' id, w3.keep k15' id, w4.keep k15' id, ⟨hl15.1, tg_same⟩, fun u hu => ⟨[], [], RowRefs.nil.ok ((hr15 u hu).keep t15 (by omega))⟩, ⟨[], w5.keep k15' id, .nil⟩⟩
    exact MidP.of R0 (pinv00 n F) (fun u hu => ⟨Nat.zero_le _, fun row hr' => by cases hr'⟩) (fun u hu e => absurd rfl e) (Nat.le_refl _) rfl
  clear h14 w1 w2 w3 w4 w5
  rintro σ16 H16 hm16
  -- the picks
  refine ⟨fun σ' H' => MidP CLa CMe CSk CSt CEn CLe n (3 + 12 * n) F tape 800 2003 200 σ' H', ?_, ?_⟩
  · obtain ⟨⟨g, B, L, cnt, log, z0, z4, z6, z15, z16, z17, z18, z19, z20, z21, z22, rfl, h, hp, hrow, hst, hcnt⟩⟩ := hm16
    have hm16 : MidP CLa CMe CSk CSt CEn CLe n (3 + 12 * n) F tape (4 * 0) (3 + 10 * 0) 0 (sg B n L.ser z0 z4 z6 z15 z16 z17 z18 z19 z20 z21 z22) H16 := MidP.of h hp hrow hst hcnt rfl
    refine ⟨_, rfl, _, _, rfl, .inl (SqL.of h.tp.1), _, _, rfl, rfl, _, _, rfl, _, _, rfl, ?_⟩
    obtain ⟨N, eN, hN⟩ : ∃ N : Nat, (if (if (((tape.map V.int).length : Nat) : Int) - 2 > 0 then (((tape.map V.int).length : Nat) : Int) - 2 else 0) < 200 then (if (((tape.map V.int).length : Nat) : Int) - 2 > 0 then (((tape.map V.int).length : Nat) : Int) - 2 else 0) else 200) = (N : Int) ∧ N ≤ 200 := by
      generalize (((tape.map V.int).length : Nat) : Int) = len
      by_cases h1 : len - 2 > 0
      · rw [if_pos h1]
        by_cases h2 : len - 2 < 200
        · rw [if_pos h2]
          exact ⟨(len - 2).toNat, by omega, by omega⟩
        · rw [if_neg h2]
          exact ⟨200, rfl, Nat.le_refl _⟩
      · rw [if_neg h1]
        exact ⟨0, rfl, Nat.zero_le _⟩
    refine ⟨(N : Int), congrArg (fun z => [V.int z]) eN, by omega, by omega, ?_⟩
    rw [show ((N : Nat) : Int).toNat = N from Int.toNat_natCast N]
    refine for_range (lo := 0) (n := N) (fun i σ H' => MidP CLa CMe CSk CSt CEn CLe n (3 + 12 * n) F tape (4 * i) (3 + 10 * i) i σ H') hm16 ?_ ?_
    · rintro i σ H' hi hm
      have ei : (0 : Int) + (i : Nat) = (i : Nat) := Int.zero_add _
      rw [ei]
      exact q1 _ σ H' n (3 + 12 * n) i F tape hF (by omega) hm fun σ' H'' hm' => hm'
    · rintro σ H' hm
      exact hm.mono (by omega) (by omega) hN
  rintro σ17 H17 ⟨⟨g, B, L, cnt, log, z0, z4, z6, z15, z16, z17, z18, z19, z20, z21, z22, rfl, h, hp, hrow, hst, hcnt⟩⟩
  refine ⟨_, rfl, _, rfl, by omega, by omega, ?_⟩
  rw [show ((n : Nat) : Int).toNat = n from Int.toNat_natCast n]
  refine for_range (lo := 0) (n := n) (fun i σ H' => LastP CLa CMe CSt n (3 + 12 * n) F 800 i (200 + 240 * i) σ H') ?_ ?_ ?_
  · exact ⟨⟨g, B, L, L.E, cnt, log, _, _, _, _, _, _, _, _, _, _, _, rfl, h.mem, h.lsto, fun u _ hu => h.sto u hu, h.lph, hp, Int.le_refl _, hcnt⟩⟩
  · rintro i σ H' hi hm
    have ei : (0 : Int) + (i : Nat) = (i : Nat) := Int.zero_add _
    rw [ei]
    exact q2 _ σ H' n (3 + 12 * n) 800 i _ F hF (by omega) (by omega) hi hm fun σ' H'' hm' => hm'
  · rintro σ H' _
    exact q H'
end

section
variable {K : PySem.W.Frag} {mg : Str → Option Value} {C f : Addr} {x m qual : Str} {st : Stmt} {ps : List Str} {od an : Option Addr} {sl : Array (Option Value)} {oc kV dc pm cd ct : Value}
abbrev BindF (x qual : Str) (st : Stmt) (ps : List Str) : Prop := ∀ (kV doc pm : Value) (an : Option Addr) (cdv ct : Value) (us : List Value), us.length = ps.length → bindArgs (PySem.W.fnOf x qual (fnArgs st) (fnBody st) (fnScope st) .none kV doc pm an cdv ct) ⟨us, []⟩ = pure (ps.zip us)
abbrev LookF (K : PySem.W.Frag) (f : Addr) (x qual : Str) (st : Stmt) (oc : Value) (od : Option Addr) (kV dc pm : Value) (an : Option Addr) (cd ct : Value) (sl : Array (Option Value)) : Prop := K.lookup f = some ⟨oc, od, .func (PySem.W.fnOf x qual (fnArgs st) (fnBody st) (fnScope st) .none kV dc pm an cd ct), sl⟩
theorem fun_of (l : LookF K f x qual st oc od kV dc pm an cd ct sl) (c : PySem.W.codeIn K cd qual = true) : C8.Fun K x qual st f (PySem.W.fnOf x qual (fnArgs st) (fnBody st) (fnScope st) .none kV dc pm an cd ct) := ⟨⟨oc, od, .none, kV, dc, pm, an, cd, ct, sl, rfl, l, c⟩⟩
theorem mdef_of (cl : Cls K C) (a : PySem.W.findIn K (.ref C) m = some (some (.ref f))) (i : PySem.W.isFn K (.ref f) = true) (k : PySem.W.keepIn K (.ref f) = true) (l : LookF K f m qual st oc od kV dc pm an cd ct sl) (c : PySem.W.codeIn K cd qual = true) (b : BindF m qual st ps) : MDef K C m qual st ps :=
  ⟨⟨f, _, cl, ⟨a, i, k⟩, fun_of l c, (fun_of l c).binds rfl b⟩⟩
theorem kdef_of (hm : mg x = some (.ref C)) (mk : PySem.W.makesIn K C = true) (kc : PySem.W.keepIn K (.ref C) = true) (a : PySem.W.findIn K (.ref C) "__init__" = some (some (.ref f))) (i : PySem.W.isFn K (.ref f) = true) (l : LookF K f "__init__" qual st oc od kV dc pm an cd ct sl) (c : PySem.W.codeIn K cd qual = true) (b : BindF "__init__" qual st ps) : KDef K mg x C qual st ps :=
  ⟨⟨f, _, ⟨mk, a, i, kc⟩, hm, fun_of l c, (fun_of l c).binds rfl b⟩⟩
theorem fdef_of (hm : mg x = some (.ref f)) (k : PySem.W.keepIn K (.ref f) = true) (l : LookF K f x x st oc od kV dc pm an cd ct sl) (c : PySem.W.codeIn K cd x = true) (b : BindF x x st ps) : FDef K mg x st ps :=
  ⟨⟨f, _, hm, k, fun_of l c, (fun_of l c).binds rfl b⟩⟩
end
theorem all_mk {l : PySem.W.OpenLaw} {w : World} {K : PySem.W.Frag} {h : Heap} {mg : Str → Option Value} {fa CSk CSt CEn CLe CLa CMe fSkI fSettle fPass fStep fEnded fStI fTake fGiveBack fTakeOut fFree fWaiting fStamp fRelease fEnI fEnReq fEnAcc fLeI fLeReq fLeAcc fLook fTakeOther fFinish fLaI fLaEpoch fLaEpochSlot fLaCallSlot fLaWord fLaRecord fLaCells fLaLasting fMeI fNotes fCheckCell fCheckReq fAccess fResult fGive fPeek fLog fFdivided fFwithin fFtape fFat fFknown fFheld fFstore fFwhole fFslots fFalone fFlaw dLen : Addr} (X : K.In h) (G : h.Ns mainGlobals mg) (hfa : mg "law" = some (.ref fa))
    {odSkI anSkI odSettle anSettle odPass anPass odStep anStep odEnded anEnded odStI anStI odTake anTake odGiveBack anGiveBack odTakeOut anTakeOut odFree anFree odWaiting anWaiting odStamp anStamp odRelease anRelease odEnI anEnI odEnReq anEnReq odEnAcc anEnAcc odLeI anLeI odLeReq anLeReq odLeAcc anLeAcc odLook anLook odTakeOther anTakeOther odFinish anFinish odLaI anLaI odLaEpoch anLaEpoch odLaEpochSlot anLaEpochSlot odLaCallSlot anLaCallSlot odLaWord anLaWord odLaRecord anLaRecord odLaCells anLaCells odLaLasting anLaLasting odMeI anMeI odNotes anNotes odCheckCell anCheckCell odCheckReq anCheckReq odAccess anAccess odResult anResult odGive anGive odPeek anPeek odLog anLog odFdivided anFdivided odFwithin anFwithin odFtape anFtape odFat anFat odFknown anFknown odFheld anFheld odFstore anFstore odFwhole anFwhole odFslots anFslots odFalone anFalone odFlaw anFlaw : Option Addr} {slSkI slSettle slPass slStep slEnded slStI slTake slGiveBack slTakeOut slFree slWaiting slStamp slRelease slEnI slEnReq slEnAcc slLeI slLeReq slLeAcc slLook slTakeOther slFinish slLaI slLaEpoch slLaEpochSlot slLaCallSlot slLaWord slLaRecord slLaCells slLaLasting slMeI slNotes slCheckCell slCheckReq slAccess slResult slGive slPeek slLog slFdivided slFwithin slFtape slFat slFknown slFheld slFstore slFwhole slFslots slFalone slFlaw : Array (Option Value)} {ocSkI kVSkI dcSkI pmSkI cdSkI ctSkI ocSettle kVSettle dcSettle pmSettle cdSettle ctSettle ocPass kVPass dcPass pmPass cdPass ctPass ocStep kVStep dcStep pmStep cdStep ctStep ocEnded kVEnded dcEnded pmEnded cdEnded ctEnded ocStI kVStI dcStI pmStI cdStI ctStI ocTake kVTake dcTake pmTake cdTake ctTake ocGiveBack kVGiveBack dcGiveBack pmGiveBack cdGiveBack ctGiveBack ocTakeOut kVTakeOut dcTakeOut pmTakeOut cdTakeOut ctTakeOut ocFree kVFree dcFree pmFree cdFree ctFree ocWaiting kVWaiting dcWaiting pmWaiting cdWaiting ctWaiting ocStamp kVStamp dcStamp pmStamp cdStamp ctStamp ocRelease kVRelease dcRelease pmRelease cdRelease ctRelease ocEnI kVEnI dcEnI pmEnI cdEnI ctEnI ocEnReq kVEnReq dcEnReq pmEnReq cdEnReq ctEnReq ocEnAcc kVEnAcc dcEnAcc pmEnAcc cdEnAcc ctEnAcc ocLeI kVLeI dcLeI pmLeI cdLeI ctLeI ocLeReq kVLeReq dcLeReq pmLeReq cdLeReq ctLeReq ocLeAcc kVLeAcc dcLeAcc pmLeAcc cdLeAcc ctLeAcc ocLook kVLook dcLook pmLook cdLook ctLook ocTakeOther kVTakeOther dcTakeOther pmTakeOther cdTakeOther ctTakeOther ocFinish kVFinish dcFinish pmFinish cdFinish ctFinish ocLaI kVLaI dcLaI pmLaI cdLaI ctLaI ocLaEpoch kVLaEpoch dcLaEpoch pmLaEpoch cdLaEpoch ctLaEpoch ocLaEpochSlot kVLaEpochSlot dcLaEpochSlot pmLaEpochSlot cdLaEpochSlot ctLaEpochSlot ocLaCallSlot kVLaCallSlot dcLaCallSlot pmLaCallSlot cdLaCallSlot ctLaCallSlot ocLaWord kVLaWord dcLaWord pmLaWord cdLaWord ctLaWord ocLaRecord kVLaRecord dcLaRecord pmLaRecord cdLaRecord ctLaRecord ocLaCells kVLaCells dcLaCells pmLaCells cdLaCells ctLaCells ocLaLasting kVLaLasting dcLaLasting pmLaLasting cdLaLasting ctLaLasting ocMeI kVMeI dcMeI pmMeI cdMeI ctMeI ocNotes kVNotes dcNotes pmNotes cdNotes ctNotes ocCheckCell kVCheckCell dcCheckCell pmCheckCell cdCheckCell ctCheckCell ocCheckReq kVCheckReq dcCheckReq pmCheckReq cdCheckReq ctCheckReq ocAccess kVAccess dcAccess pmAccess cdAccess ctAccess ocResult kVResult dcResult pmResult cdResult ctResult ocGive kVGive dcGive pmGive cdGive ctGive ocPeek kVPeek dcPeek pmPeek cdPeek ctPeek ocLog kVLog dcLog pmLog cdLog ctLog ocFdivided kVFdivided dcFdivided pmFdivided cdFdivided ctFdivided ocFwithin kVFwithin dcFwithin pmFwithin cdFwithin ctFwithin ocFtape kVFtape dcFtape pmFtape cdFtape ctFtape ocFat kVFat dcFat pmFat cdFat ctFat ocFknown kVFknown dcFknown pmFknown cdFknown ctFknown ocFheld kVFheld dcFheld pmFheld cdFheld ctFheld ocFstore kVFstore dcFstore pmFstore cdFstore ctFstore ocFwhole kVFwhole dcFwhole pmFwhole cdFwhole ctFwhole ocFslots kVFslots dcFslots pmFslots cdFslots ctFslots ocFalone kVFalone dcFalone pmFalone cdFalone ctFalone ocFlaw kVFlaw dcFlaw pmFlaw cdFlaw ctFlaw : Value} {tAGE tMOST_THREADS tMOST_WORDS tLEAST_RECORDS tMOST_RECORDS tLen1 tLen2 tLen3 : Tok} {esLen : Array DictEntry} {nLen : Nat}
    (aSk : PySem.W.nsIn K mainGlobals "Stack" = some (some (.ref CSk)))
    (pgSk : PySem.W.plainGet K CSk Str.empty = true)
    (hdSk : PySem.W.hasDictIn K CSk = true)
    (poSk : PySem.W.plainOver K CSk = true)
    (saSk : PySem.W.findIn K (.ref CSk) "__setattr__" = some (some (.builtin "object.__setattr__")))
    (mkSk : PySem.W.makesIn K CSk = true)
    (kcSk : PySem.W.keepIn K (.ref CSk) = true)
    (aSt : PySem.W.nsIn K mainGlobals "Store" = some (some (.ref CSt)))
    (pgSt : PySem.W.plainGet K CSt Str.empty = true)
    (hdSt : PySem.W.hasDictIn K CSt = true)
    (poSt : PySem.W.plainOver K CSt = true)
    (saSt : PySem.W.findIn K (.ref CSt) "__setattr__" = some (some (.builtin "object.__setattr__")))
    (mkSt : PySem.W.makesIn K CSt = true)
    (kcSt : PySem.W.keepIn K (.ref CSt) = true)
    (aEn : PySem.W.nsIn K mainGlobals "Entering" = some (some (.ref CEn)))
    (pgEn : PySem.W.plainGet K CEn Str.empty = true)
    (hdEn : PySem.W.hasDictIn K CEn = true)
    (poEn : PySem.W.plainOver K CEn = true)
    (saEn : PySem.W.findIn K (.ref CEn) "__setattr__" = some (some (.builtin "object.__setattr__")))
    (mkEn : PySem.W.makesIn K CEn = true)
    (kcEn : PySem.W.keepIn K (.ref CEn) = true)
    (aLe : PySem.W.nsIn K mainGlobals "Leaving" = some (some (.ref CLe)))
    (pgLe : PySem.W.plainGet K CLe Str.empty = true)
    (hdLe : PySem.W.hasDictIn K CLe = true)
    (poLe : PySem.W.plainOver K CLe = true)
    (saLe : PySem.W.findIn K (.ref CLe) "__setattr__" = some (some (.builtin "object.__setattr__")))
    (mkLe : PySem.W.makesIn K CLe = true)
    (kcLe : PySem.W.keepIn K (.ref CLe) = true)
    (aLa : PySem.W.nsIn K mainGlobals "Layout" = some (some (.ref CLa)))
    (pgLa : PySem.W.plainGet K CLa Str.empty = true)
    (hdLa : PySem.W.hasDictIn K CLa = true)
    (poLa : PySem.W.plainOver K CLa = true)
    (saLa : PySem.W.findIn K (.ref CLa) "__setattr__" = some (some (.builtin "object.__setattr__")))
    (mkLa : PySem.W.makesIn K CLa = true)
    (kcLa : PySem.W.keepIn K (.ref CLa) = true)
    (aMe : PySem.W.nsIn K mainGlobals "Memory" = some (some (.ref CMe)))
    (pgMe : PySem.W.plainGet K CMe Str.empty = true)
    (hdMe : PySem.W.hasDictIn K CMe = true)
    (poMe : PySem.W.plainOver K CMe = true)
    (saMe : PySem.W.findIn K (.ref CMe) "__setattr__" = some (some (.builtin "object.__setattr__")))
    (mkMe : PySem.W.makesIn K CMe = true)
    (kcMe : PySem.W.keepIn K (.ref CMe) = true)
    (aSkI : PySem.W.findIn K (.ref CSk) "__init__" = some (some (.ref fSkI)))
    (iSkI : PySem.W.isFn K (.ref fSkI) = true)
    (lSkI : K.lookup fSkI = some ⟨ocSkI, odSkI, .func (PySem.W.fnOf "__init__" "Stack.__init__" (fnArgs (inC 2 0)) (fnBody (inC 2 0)) (fnScope (inC 2 0)) .none kVSkI dcSkI pmSkI anSkI cdSkI ctSkI), slSkI⟩)
    (cSkI : PySem.W.codeIn K cdSkI "Stack.__init__" = true)
    (aSettle : PySem.W.findIn K (.ref CSk) "settle" = some (some (.ref fSettle)))
    (iSettle : PySem.W.isFn K (.ref fSettle) = true)
    (lSettle : K.lookup fSettle = some ⟨ocSettle, odSettle, .func (PySem.W.fnOf "settle" "Stack.settle" (fnArgs (inC 2 1)) (fnBody (inC 2 1)) (fnScope (inC 2 1)) .none kVSettle dcSettle pmSettle anSettle cdSettle ctSettle), slSettle⟩)
    (cSettle : PySem.W.codeIn K cdSettle "Stack.settle" = true)
    (kSettle : PySem.W.keepIn K (.ref fSettle) = true)
    (aPass : PySem.W.findIn K (.ref CSk) "pass_on" = some (some (.ref fPass)))
    (iPass : PySem.W.isFn K (.ref fPass) = true)
    (lPass : K.lookup fPass = some ⟨ocPass, odPass, .func (PySem.W.fnOf "pass_on" "Stack.pass_on" (fnArgs (inC 2 2)) (fnBody (inC 2 2)) (fnScope (inC 2 2)) .none kVPass dcPass pmPass anPass cdPass ctPass), slPass⟩)
    (cPass : PySem.W.codeIn K cdPass "Stack.pass_on" = true)
    (kPass : PySem.W.keepIn K (.ref fPass) = true)
    (aStep : PySem.W.findIn K (.ref CSk) "step" = some (some (.ref fStep)))
    (iStep : PySem.W.isFn K (.ref fStep) = true)
    (lStep : K.lookup fStep = some ⟨ocStep, odStep, .func (PySem.W.fnOf "step" "Stack.step" (fnArgs (inC 2 3)) (fnBody (inC 2 3)) (fnScope (inC 2 3)) .none kVStep dcStep pmStep anStep cdStep ctStep), slStep⟩)
    (cStep : PySem.W.codeIn K cdStep "Stack.step" = true)
    (kStep : PySem.W.keepIn K (.ref fStep) = true)
    (aEnded : PySem.W.findIn K (.ref CSk) "ended" = some (some (.ref fEnded)))
    (iEnded : PySem.W.isFn K (.ref fEnded) = true)
    (lEnded : K.lookup fEnded = some ⟨ocEnded, odEnded, .func (PySem.W.fnOf "ended" "Stack.ended" (fnArgs (inC 2 4)) (fnBody (inC 2 4)) (fnScope (inC 2 4)) .none kVEnded dcEnded pmEnded anEnded cdEnded ctEnded), slEnded⟩)
    (cEnded : PySem.W.codeIn K cdEnded "Stack.ended" = true)
    (kEnded : PySem.W.keepIn K (.ref fEnded) = true)
    (aStI : PySem.W.findIn K (.ref CSt) "__init__" = some (some (.ref fStI)))
    (iStI : PySem.W.isFn K (.ref fStI) = true)
    (lStI : K.lookup fStI = some ⟨ocStI, odStI, .func (PySem.W.fnOf "__init__" "Store.__init__" (fnArgs (inC 6 0)) (fnBody (inC 6 0)) (fnScope (inC 6 0)) .none kVStI dcStI pmStI anStI cdStI ctStI), slStI⟩)
    (cStI : PySem.W.codeIn K cdStI "Store.__init__" = true)
    (aTake : PySem.W.findIn K (.ref CSt) "take" = some (some (.ref fTake)))
    (iTake : PySem.W.isFn K (.ref fTake) = true)
    (lTake : K.lookup fTake = some ⟨ocTake, odTake, .func (PySem.W.fnOf "take" "Store.take" (fnArgs (inC 6 1)) (fnBody (inC 6 1)) (fnScope (inC 6 1)) .none kVTake dcTake pmTake anTake cdTake ctTake), slTake⟩)
    (cTake : PySem.W.codeIn K cdTake "Store.take" = true)
    (kTake : PySem.W.keepIn K (.ref fTake) = true)
    (aGiveBack : PySem.W.findIn K (.ref CSt) "give_back" = some (some (.ref fGiveBack)))
    (iGiveBack : PySem.W.isFn K (.ref fGiveBack) = true)
    (lGiveBack : K.lookup fGiveBack = some ⟨ocGiveBack, odGiveBack, .func (PySem.W.fnOf "give_back" "Store.give_back" (fnArgs (inC 6 2)) (fnBody (inC 6 2)) (fnScope (inC 6 2)) .none kVGiveBack dcGiveBack pmGiveBack anGiveBack cdGiveBack ctGiveBack), slGiveBack⟩)
    (cGiveBack : PySem.W.codeIn K cdGiveBack "Store.give_back" = true)
    (kGiveBack : PySem.W.keepIn K (.ref fGiveBack) = true)
    (aTakeOut : PySem.W.findIn K (.ref CSt) "take_out" = some (some (.ref fTakeOut)))
    (iTakeOut : PySem.W.isFn K (.ref fTakeOut) = true)
    (lTakeOut : K.lookup fTakeOut = some ⟨ocTakeOut, odTakeOut, .func (PySem.W.fnOf "take_out" "Store.take_out" (fnArgs (inC 6 3)) (fnBody (inC 6 3)) (fnScope (inC 6 3)) .none kVTakeOut dcTakeOut pmTakeOut anTakeOut cdTakeOut ctTakeOut), slTakeOut⟩)
    (cTakeOut : PySem.W.codeIn K cdTakeOut "Store.take_out" = true)
    (kTakeOut : PySem.W.keepIn K (.ref fTakeOut) = true)
    (aFree : PySem.W.findIn K (.ref CSt) "free_cells" = some (some (.ref fFree)))
    (iFree : PySem.W.isFn K (.ref fFree) = true)
    (lFree : K.lookup fFree = some ⟨ocFree, odFree, .func (PySem.W.fnOf "free_cells" "Store.free_cells" (fnArgs (inC 6 4)) (fnBody (inC 6 4)) (fnScope (inC 6 4)) .none kVFree dcFree pmFree anFree cdFree ctFree), slFree⟩)
    (cFree : PySem.W.codeIn K cdFree "Store.free_cells" = true)
    (kFree : PySem.W.keepIn K (.ref fFree) = true)
    (aWaiting : PySem.W.findIn K (.ref CSt) "waiting" = some (some (.ref fWaiting)))
    (iWaiting : PySem.W.isFn K (.ref fWaiting) = true)
    (lWaiting : K.lookup fWaiting = some ⟨ocWaiting, odWaiting, .func (PySem.W.fnOf "waiting" "Store.waiting" (fnArgs (inC 6 5)) (fnBody (inC 6 5)) (fnScope (inC 6 5)) .none kVWaiting dcWaiting pmWaiting anWaiting cdWaiting ctWaiting), slWaiting⟩)
    (cWaiting : PySem.W.codeIn K cdWaiting "Store.waiting" = true)
    (kWaiting : PySem.W.keepIn K (.ref fWaiting) = true)
    (aStamp : PySem.W.findIn K (.ref CSt) "stamp" = some (some (.ref fStamp)))
    (iStamp : PySem.W.isFn K (.ref fStamp) = true)
    (lStamp : K.lookup fStamp = some ⟨ocStamp, odStamp, .func (PySem.W.fnOf "stamp" "Store.stamp" (fnArgs (inC 6 6)) (fnBody (inC 6 6)) (fnScope (inC 6 6)) .none kVStamp dcStamp pmStamp anStamp cdStamp ctStamp), slStamp⟩)
    (cStamp : PySem.W.codeIn K cdStamp "Store.stamp" = true)
    (kStamp : PySem.W.keepIn K (.ref fStamp) = true)
    (aRelease : PySem.W.findIn K (.ref CSt) "release" = some (some (.ref fRelease)))
    (iRelease : PySem.W.isFn K (.ref fRelease) = true)
    (lRelease : K.lookup fRelease = some ⟨ocRelease, odRelease, .func (PySem.W.fnOf "release" "Store.release" (fnArgs (inC 6 7)) (fnBody (inC 6 7)) (fnScope (inC 6 7)) .none kVRelease dcRelease pmRelease anRelease cdRelease ctRelease), slRelease⟩)
    (cRelease : PySem.W.codeIn K cdRelease "Store.release" = true)
    (kRelease : PySem.W.keepIn K (.ref fRelease) = true)
    (aEnI : PySem.W.findIn K (.ref CEn) "__init__" = some (some (.ref fEnI)))
    (iEnI : PySem.W.isFn K (.ref fEnI) = true)
    (lEnI : K.lookup fEnI = some ⟨ocEnI, odEnI, .func (PySem.W.fnOf "__init__" "Entering.__init__" (fnArgs (inC 7 0)) (fnBody (inC 7 0)) (fnScope (inC 7 0)) .none kVEnI dcEnI pmEnI anEnI cdEnI ctEnI), slEnI⟩)
    (cEnI : PySem.W.codeIn K cdEnI "Entering.__init__" = true)
    (aEnReq : PySem.W.findIn K (.ref CEn) "request" = some (some (.ref fEnReq)))
    (iEnReq : PySem.W.isFn K (.ref fEnReq) = true)
    (lEnReq : K.lookup fEnReq = some ⟨ocEnReq, odEnReq, .func (PySem.W.fnOf "request" "Entering.request" (fnArgs (inC 7 1)) (fnBody (inC 7 1)) (fnScope (inC 7 1)) .none kVEnReq dcEnReq pmEnReq anEnReq cdEnReq ctEnReq), slEnReq⟩)
    (cEnReq : PySem.W.codeIn K cdEnReq "Entering.request" = true)
    (kEnReq : PySem.W.keepIn K (.ref fEnReq) = true)
    (aEnAcc : PySem.W.findIn K (.ref CEn) "accept" = some (some (.ref fEnAcc)))
    (iEnAcc : PySem.W.isFn K (.ref fEnAcc) = true)
    (lEnAcc : K.lookup fEnAcc = some ⟨ocEnAcc, odEnAcc, .func (PySem.W.fnOf "accept" "Entering.accept" (fnArgs (inC 7 2)) (fnBody (inC 7 2)) (fnScope (inC 7 2)) .none kVEnAcc dcEnAcc pmEnAcc anEnAcc cdEnAcc ctEnAcc), slEnAcc⟩)
    (cEnAcc : PySem.W.codeIn K cdEnAcc "Entering.accept" = true)
    (kEnAcc : PySem.W.keepIn K (.ref fEnAcc) = true)
    (aLeI : PySem.W.findIn K (.ref CLe) "__init__" = some (some (.ref fLeI)))
    (iLeI : PySem.W.isFn K (.ref fLeI) = true)
    (lLeI : K.lookup fLeI = some ⟨ocLeI, odLeI, .func (PySem.W.fnOf "__init__" "Leaving.__init__" (fnArgs (inC 8 0)) (fnBody (inC 8 0)) (fnScope (inC 8 0)) .none kVLeI dcLeI pmLeI anLeI cdLeI ctLeI), slLeI⟩)
    (cLeI : PySem.W.codeIn K cdLeI "Leaving.__init__" = true)
    (aLeReq : PySem.W.findIn K (.ref CLe) "request" = some (some (.ref fLeReq)))
    (iLeReq : PySem.W.isFn K (.ref fLeReq) = true)
    (lLeReq : K.lookup fLeReq = some ⟨ocLeReq, odLeReq, .func (PySem.W.fnOf "request" "Leaving.request" (fnArgs (inC 8 1)) (fnBody (inC 8 1)) (fnScope (inC 8 1)) .none kVLeReq dcLeReq pmLeReq anLeReq cdLeReq ctLeReq), slLeReq⟩)
    (cLeReq : PySem.W.codeIn K cdLeReq "Leaving.request" = true)
    (kLeReq : PySem.W.keepIn K (.ref fLeReq) = true)
    (aLeAcc : PySem.W.findIn K (.ref CLe) "accept" = some (some (.ref fLeAcc)))
    (iLeAcc : PySem.W.isFn K (.ref fLeAcc) = true)
    (lLeAcc : K.lookup fLeAcc = some ⟨ocLeAcc, odLeAcc, .func (PySem.W.fnOf "accept" "Leaving.accept" (fnArgs (inC 8 2)) (fnBody (inC 8 2)) (fnScope (inC 8 2)) .none kVLeAcc dcLeAcc pmLeAcc anLeAcc cdLeAcc ctLeAcc), slLeAcc⟩)
    (cLeAcc : PySem.W.codeIn K cdLeAcc "Leaving.accept" = true)
    (kLeAcc : PySem.W.keepIn K (.ref fLeAcc) = true)
    (aLook : PySem.W.findIn K (.ref CLe) "look_on" = some (some (.ref fLook)))
    (iLook : PySem.W.isFn K (.ref fLook) = true)
    (lLook : K.lookup fLook = some ⟨ocLook, odLook, .func (PySem.W.fnOf "look_on" "Leaving.look_on" (fnArgs (inC 8 3)) (fnBody (inC 8 3)) (fnScope (inC 8 3)) .none kVLook dcLook pmLook anLook cdLook ctLook), slLook⟩)
    (cLook : PySem.W.codeIn K cdLook "Leaving.look_on" = true)
    (kLook : PySem.W.keepIn K (.ref fLook) = true)
    (aTakeOther : PySem.W.findIn K (.ref CLe) "take_other" = some (some (.ref fTakeOther)))
    (iTakeOther : PySem.W.isFn K (.ref fTakeOther) = true)
    (lTakeOther : K.lookup fTakeOther = some ⟨ocTakeOther, odTakeOther, .func (PySem.W.fnOf "take_other" "Leaving.take_other" (fnArgs (inC 8 4)) (fnBody (inC 8 4)) (fnScope (inC 8 4)) .none kVTakeOther dcTakeOther pmTakeOther anTakeOther cdTakeOther ctTakeOther), slTakeOther⟩)
    (cTakeOther : PySem.W.codeIn K cdTakeOther "Leaving.take_other" = true)
    (kTakeOther : PySem.W.keepIn K (.ref fTakeOther) = true)
    (aFinish : PySem.W.findIn K (.ref CLe) "finish" = some (some (.ref fFinish)))
    (iFinish : PySem.W.isFn K (.ref fFinish) = true)
    (lFinish : K.lookup fFinish = some ⟨ocFinish, odFinish, .func (PySem.W.fnOf "finish" "Leaving.finish" (fnArgs (inC 8 5)) (fnBody (inC 8 5)) (fnScope (inC 8 5)) .none kVFinish dcFinish pmFinish anFinish cdFinish ctFinish), slFinish⟩)
    (cFinish : PySem.W.codeIn K cdFinish "Leaving.finish" = true)
    (kFinish : PySem.W.keepIn K (.ref fFinish) = true)
    (aLaI : PySem.W.findIn K (.ref CLa) "__init__" = some (some (.ref fLaI)))
    (iLaI : PySem.W.isFn K (.ref fLaI) = true)
    (lLaI : K.lookup fLaI = some ⟨ocLaI, odLaI, .func (PySem.W.fnOf "__init__" "Layout.__init__" (fnArgs (inC 19 0)) (fnBody (inC 19 0)) (fnScope (inC 19 0)) .none kVLaI dcLaI pmLaI anLaI cdLaI ctLaI), slLaI⟩)
    (cLaI : PySem.W.codeIn K cdLaI "Layout.__init__" = true)
    (aLaEpoch : PySem.W.findIn K (.ref CLa) "epoch" = some (some (.ref fLaEpoch)))
    (iLaEpoch : PySem.W.isFn K (.ref fLaEpoch) = true)
    (lLaEpoch : K.lookup fLaEpoch = some ⟨ocLaEpoch, odLaEpoch, .func (PySem.W.fnOf "epoch" "Layout.epoch" (fnArgs (inC 19 1)) (fnBody (inC 19 1)) (fnScope (inC 19 1)) .none kVLaEpoch dcLaEpoch pmLaEpoch anLaEpoch cdLaEpoch ctLaEpoch), slLaEpoch⟩)
    (cLaEpoch : PySem.W.codeIn K cdLaEpoch "Layout.epoch" = true)
    (kLaEpoch : PySem.W.keepIn K (.ref fLaEpoch) = true)
    (aLaEpochSlot : PySem.W.findIn K (.ref CLa) "epoch_slot" = some (some (.ref fLaEpochSlot)))
    (iLaEpochSlot : PySem.W.isFn K (.ref fLaEpochSlot) = true)
    (lLaEpochSlot : K.lookup fLaEpochSlot = some ⟨ocLaEpochSlot, odLaEpochSlot, .func (PySem.W.fnOf "epoch_slot" "Layout.epoch_slot" (fnArgs (inC 19 2)) (fnBody (inC 19 2)) (fnScope (inC 19 2)) .none kVLaEpochSlot dcLaEpochSlot pmLaEpochSlot anLaEpochSlot cdLaEpochSlot ctLaEpochSlot), slLaEpochSlot⟩)
    (cLaEpochSlot : PySem.W.codeIn K cdLaEpochSlot "Layout.epoch_slot" = true)
    (kLaEpochSlot : PySem.W.keepIn K (.ref fLaEpochSlot) = true)
    (aLaCallSlot : PySem.W.findIn K (.ref CLa) "call_slot" = some (some (.ref fLaCallSlot)))
    (iLaCallSlot : PySem.W.isFn K (.ref fLaCallSlot) = true)
    (lLaCallSlot : K.lookup fLaCallSlot = some ⟨ocLaCallSlot, odLaCallSlot, .func (PySem.W.fnOf "call_slot" "Layout.call_slot" (fnArgs (inC 19 3)) (fnBody (inC 19 3)) (fnScope (inC 19 3)) .none kVLaCallSlot dcLaCallSlot pmLaCallSlot anLaCallSlot cdLaCallSlot ctLaCallSlot), slLaCallSlot⟩)
    (cLaCallSlot : PySem.W.codeIn K cdLaCallSlot "Layout.call_slot" = true)
    (kLaCallSlot : PySem.W.keepIn K (.ref fLaCallSlot) = true)
    (aLaWord : PySem.W.findIn K (.ref CLa) "word" = some (some (.ref fLaWord)))
    (iLaWord : PySem.W.isFn K (.ref fLaWord) = true)
    (lLaWord : K.lookup fLaWord = some ⟨ocLaWord, odLaWord, .func (PySem.W.fnOf "word" "Layout.word" (fnArgs (inC 19 4)) (fnBody (inC 19 4)) (fnScope (inC 19 4)) .none kVLaWord dcLaWord pmLaWord anLaWord cdLaWord ctLaWord), slLaWord⟩)
    (cLaWord : PySem.W.codeIn K cdLaWord "Layout.word" = true)
    (kLaWord : PySem.W.keepIn K (.ref fLaWord) = true)
    (aLaRecord : PySem.W.findIn K (.ref CLa) "record" = some (some (.ref fLaRecord)))
    (iLaRecord : PySem.W.isFn K (.ref fLaRecord) = true)
    (lLaRecord : K.lookup fLaRecord = some ⟨ocLaRecord, odLaRecord, .func (PySem.W.fnOf "record" "Layout.record" (fnArgs (inC 19 5)) (fnBody (inC 19 5)) (fnScope (inC 19 5)) .none kVLaRecord dcLaRecord pmLaRecord anLaRecord cdLaRecord ctLaRecord), slLaRecord⟩)
    (cLaRecord : PySem.W.codeIn K cdLaRecord "Layout.record" = true)
    (kLaRecord : PySem.W.keepIn K (.ref fLaRecord) = true)
    (aLaCells : PySem.W.findIn K (.ref CLa) "cells" = some (some (.ref fLaCells)))
    (iLaCells : PySem.W.isFn K (.ref fLaCells) = true)
    (lLaCells : K.lookup fLaCells = some ⟨ocLaCells, odLaCells, .func (PySem.W.fnOf "cells" "Layout.cells" (fnArgs (inC 19 6)) (fnBody (inC 19 6)) (fnScope (inC 19 6)) .none kVLaCells dcLaCells pmLaCells anLaCells cdLaCells ctLaCells), slLaCells⟩)
    (cLaCells : PySem.W.codeIn K cdLaCells "Layout.cells" = true)
    (kLaCells : PySem.W.keepIn K (.ref fLaCells) = true)
    (aLaLasting : PySem.W.findIn K (.ref CLa) "is_lasting" = some (some (.ref fLaLasting)))
    (iLaLasting : PySem.W.isFn K (.ref fLaLasting) = true)
    (lLaLasting : K.lookup fLaLasting = some ⟨ocLaLasting, odLaLasting, .func (PySem.W.fnOf "is_lasting" "Layout.is_lasting" (fnArgs (inC 19 8)) (fnBody (inC 19 8)) (fnScope (inC 19 8)) .none kVLaLasting dcLaLasting pmLaLasting anLaLasting cdLaLasting ctLaLasting), slLaLasting⟩)
    (cLaLasting : PySem.W.codeIn K cdLaLasting "Layout.is_lasting" = true)
    (kLaLasting : PySem.W.keepIn K (.ref fLaLasting) = true)
    (aMeI : PySem.W.findIn K (.ref CMe) "__init__" = some (some (.ref fMeI)))
    (iMeI : PySem.W.isFn K (.ref fMeI) = true)
    (lMeI : K.lookup fMeI = some ⟨ocMeI, odMeI, .func (PySem.W.fnOf "__init__" "Memory.__init__" (fnArgs (inC 20 0)) (fnBody (inC 20 0)) (fnScope (inC 20 0)) .none kVMeI dcMeI pmMeI anMeI cdMeI ctMeI), slMeI⟩)
    (cMeI : PySem.W.codeIn K cdMeI "Memory.__init__" = true)
    (aNotes : PySem.W.findIn K (.ref CMe) "no_notes" = some (some (.ref fNotes)))
    (iNotes : PySem.W.isFn K (.ref fNotes) = true)
    (lNotes : K.lookup fNotes = some ⟨ocNotes, odNotes, .func (PySem.W.fnOf "no_notes" "Memory.no_notes" (fnArgs (inC 20 1)) (fnBody (inC 20 1)) (fnScope (inC 20 1)) .none kVNotes dcNotes pmNotes anNotes cdNotes ctNotes), slNotes⟩)
    (cNotes : PySem.W.codeIn K cdNotes "Memory.no_notes" = true)
    (kNotes : PySem.W.keepIn K (.ref fNotes) = true)
    (aCheckCell : PySem.W.findIn K (.ref CMe) "check_cell" = some (some (.ref fCheckCell)))
    (iCheckCell : PySem.W.isFn K (.ref fCheckCell) = true)
    (lCheckCell : K.lookup fCheckCell = some ⟨ocCheckCell, odCheckCell, .func (PySem.W.fnOf "check_cell" "Memory.check_cell" (fnArgs (inC 20 2)) (fnBody (inC 20 2)) (fnScope (inC 20 2)) .none kVCheckCell dcCheckCell pmCheckCell anCheckCell cdCheckCell ctCheckCell), slCheckCell⟩)
    (cCheckCell : PySem.W.codeIn K cdCheckCell "Memory.check_cell" = true)
    (kCheckCell : PySem.W.keepIn K (.ref fCheckCell) = true)
    (aCheckReq : PySem.W.findIn K (.ref CMe) "check_request" = some (some (.ref fCheckReq)))
    (iCheckReq : PySem.W.isFn K (.ref fCheckReq) = true)
    (lCheckReq : K.lookup fCheckReq = some ⟨ocCheckReq, odCheckReq, .func (PySem.W.fnOf "check_request" "Memory.check_request" (fnArgs (inC 20 4)) (fnBody (inC 20 4)) (fnScope (inC 20 4)) .none kVCheckReq dcCheckReq pmCheckReq anCheckReq cdCheckReq ctCheckReq), slCheckReq⟩)
    (cCheckReq : PySem.W.codeIn K cdCheckReq "Memory.check_request" = true)
    (kCheckReq : PySem.W.keepIn K (.ref fCheckReq) = true)
    (aAccess : PySem.W.findIn K (.ref CMe) "access" = some (some (.ref fAccess)))
    (iAccess : PySem.W.isFn K (.ref fAccess) = true)
    (lAccess : K.lookup fAccess = some ⟨ocAccess, odAccess, .func (PySem.W.fnOf "access" "Memory.access" (fnArgs (inC 20 5)) (fnBody (inC 20 5)) (fnScope (inC 20 5)) .none kVAccess dcAccess pmAccess anAccess cdAccess ctAccess), slAccess⟩)
    (cAccess : PySem.W.codeIn K cdAccess "Memory.access" = true)
    (kAccess : PySem.W.keepIn K (.ref fAccess) = true)
    (aResult : PySem.W.findIn K (.ref CMe) "result" = some (some (.ref fResult)))
    (iResult : PySem.W.isFn K (.ref fResult) = true)
    (lResult : K.lookup fResult = some ⟨ocResult, odResult, .func (PySem.W.fnOf "result" "Memory.result" (fnArgs (inC 20 6)) (fnBody (inC 20 6)) (fnScope (inC 20 6)) .none kVResult dcResult pmResult anResult cdResult ctResult), slResult⟩)
    (cResult : PySem.W.codeIn K cdResult "Memory.result" = true)
    (kResult : PySem.W.keepIn K (.ref fResult) = true)
    (aGive : PySem.W.findIn K (.ref CMe) "give" = some (some (.ref fGive)))
    (iGive : PySem.W.isFn K (.ref fGive) = true)
    (lGive : K.lookup fGive = some ⟨ocGive, odGive, .func (PySem.W.fnOf "give" "Memory.give" (fnArgs (inC 20 7)) (fnBody (inC 20 7)) (fnScope (inC 20 7)) .none kVGive dcGive pmGive anGive cdGive ctGive), slGive⟩)
    (cGive : PySem.W.codeIn K cdGive "Memory.give" = true)
    (kGive : PySem.W.keepIn K (.ref fGive) = true)
    (aPeek : PySem.W.findIn K (.ref CMe) "peek" = some (some (.ref fPeek)))
    (iPeek : PySem.W.isFn K (.ref fPeek) = true)
    (lPeek : K.lookup fPeek = some ⟨ocPeek, odPeek, .func (PySem.W.fnOf "peek" "Memory.peek" (fnArgs (inC 20 10)) (fnBody (inC 20 10)) (fnScope (inC 20 10)) .none kVPeek dcPeek pmPeek anPeek cdPeek ctPeek), slPeek⟩)
    (cPeek : PySem.W.codeIn K cdPeek "Memory.peek" = true)
    (kPeek : PySem.W.keepIn K (.ref fPeek) = true)
    (aLog : PySem.W.findIn K (.ref CMe) "log" = some (some (.ref fLog)))
    (iLog : PySem.W.isFn K (.ref fLog) = true)
    (lLog : K.lookup fLog = some ⟨ocLog, odLog, .func (PySem.W.fnOf "log" "Memory.log" (fnArgs (inC 20 15)) (fnBody (inC 20 15)) (fnScope (inC 20 15)) .none kVLog dcLog pmLog anLog cdLog ctLog), slLog⟩)
    (cLog : PySem.W.codeIn K cdLog "Memory.log" = true)
    (kLog : PySem.W.keepIn K (.ref fLog) = true)
    (aFdivided : PySem.W.nsIn K mainGlobals "divided" = some (some (.ref fFdivided)))
    (lFdivided : K.lookup fFdivided = some ⟨ocFdivided, odFdivided, .func (PySem.W.fnOf "divided" "divided" (fnArgs (top 5)) (fnBody (top 5)) (fnScope (top 5)) .none kVFdivided dcFdivided pmFdivided anFdivided cdFdivided ctFdivided), slFdivided⟩)
    (cFdivided : PySem.W.codeIn K cdFdivided "divided" = true)
    (kFdivided : PySem.W.keepIn K (.ref fFdivided) = true)
    (aFwithin : PySem.W.nsIn K mainGlobals "is_within" = some (some (.ref fFwithin)))
    (lFwithin : K.lookup fFwithin = some ⟨ocFwithin, odFwithin, .func (PySem.W.fnOf "is_within" "is_within" (fnArgs (top 18)) (fnBody (top 18)) (fnScope (top 18)) .none kVFwithin dcFwithin pmFwithin anFwithin cdFwithin ctFwithin), slFwithin⟩)
    (cFwithin : PySem.W.codeIn K cdFwithin "is_within" = true)
    (kFwithin : PySem.W.keepIn K (.ref fFwithin) = true)
    (aFtape : PySem.W.nsIn K mainGlobals "_law_tape" = some (some (.ref fFtape)))
    (lFtape : K.lookup fFtape = some ⟨ocFtape, odFtape, .func (PySem.W.fnOf "_law_tape" "_law_tape" (fnArgs (top 22)) (fnBody (top 22)) (fnScope (top 22)) .none kVFtape dcFtape pmFtape anFtape cdFtape ctFtape), slFtape⟩)
    (cFtape : PySem.W.codeIn K cdFtape "_law_tape" = true)
    (kFtape : PySem.W.keepIn K (.ref fFtape) = true)
    (aFat : PySem.W.nsIn K mainGlobals "_law_at" = some (some (.ref fFat)))
    (lFat : K.lookup fFat = some ⟨ocFat, odFat, .func (PySem.W.fnOf "_law_at" "_law_at" (fnArgs (top 23)) (fnBody (top 23)) (fnScope (top 23)) .none kVFat dcFat pmFat anFat cdFat ctFat), slFat⟩)
    (cFat : PySem.W.codeIn K cdFat "_law_at" = true)
    (kFat : PySem.W.keepIn K (.ref fFat) = true)
    (aFknown : PySem.W.nsIn K mainGlobals "_law_known" = some (some (.ref fFknown)))
    (lFknown : K.lookup fFknown = some ⟨ocFknown, odFknown, .func (PySem.W.fnOf "_law_known" "_law_known" (fnArgs (top 24)) (fnBody (top 24)) (fnScope (top 24)) .none kVFknown dcFknown pmFknown anFknown cdFknown ctFknown), slFknown⟩)
    (cFknown : PySem.W.codeIn K cdFknown "_law_known" = true)
    (kFknown : PySem.W.keepIn K (.ref fFknown) = true)
    (aFheld : PySem.W.nsIn K mainGlobals "_law_held" = some (some (.ref fFheld)))
    (lFheld : K.lookup fFheld = some ⟨ocFheld, odFheld, .func (PySem.W.fnOf "_law_held" "_law_held" (fnArgs (top 25)) (fnBody (top 25)) (fnScope (top 25)) .none kVFheld dcFheld pmFheld anFheld cdFheld ctFheld), slFheld⟩)
    (cFheld : PySem.W.codeIn K cdFheld "_law_held" = true)
    (kFheld : PySem.W.keepIn K (.ref fFheld) = true)
    (aFstore : PySem.W.nsIn K mainGlobals "_law_store" = some (some (.ref fFstore)))
    (lFstore : K.lookup fFstore = some ⟨ocFstore, odFstore, .func (PySem.W.fnOf "_law_store" "_law_store" (fnArgs (top 26)) (fnBody (top 26)) (fnScope (top 26)) .none kVFstore dcFstore pmFstore anFstore cdFstore ctFstore), slFstore⟩)
    (cFstore : PySem.W.codeIn K cdFstore "_law_store" = true)
    (kFstore : PySem.W.keepIn K (.ref fFstore) = true)
    (aFwhole : PySem.W.nsIn K mainGlobals "_law_whole" = some (some (.ref fFwhole)))
    (lFwhole : K.lookup fFwhole = some ⟨ocFwhole, odFwhole, .func (PySem.W.fnOf "_law_whole" "_law_whole" (fnArgs (top 27)) (fnBody (top 27)) (fnScope (top 27)) .none kVFwhole dcFwhole pmFwhole anFwhole cdFwhole ctFwhole), slFwhole⟩)
    (cFwhole : PySem.W.codeIn K cdFwhole "_law_whole" = true)
    (kFwhole : PySem.W.keepIn K (.ref fFwhole) = true)
    (aFslots : PySem.W.nsIn K mainGlobals "_law_slots" = some (some (.ref fFslots)))
    (lFslots : K.lookup fFslots = some ⟨ocFslots, odFslots, .func (PySem.W.fnOf "_law_slots" "_law_slots" (fnArgs (top 28)) (fnBody (top 28)) (fnScope (top 28)) .none kVFslots dcFslots pmFslots anFslots cdFslots ctFslots), slFslots⟩)
    (cFslots : PySem.W.codeIn K cdFslots "_law_slots" = true)
    (kFslots : PySem.W.keepIn K (.ref fFslots) = true)
    (aFalone : PySem.W.nsIn K mainGlobals "_law_alone" = some (some (.ref fFalone)))
    (lFalone : K.lookup fFalone = some ⟨ocFalone, odFalone, .func (PySem.W.fnOf "_law_alone" "_law_alone" (fnArgs (top 29)) (fnBody (top 29)) (fnScope (top 29)) .none kVFalone dcFalone pmFalone anFalone cdFalone ctFalone), slFalone⟩)
    (cFalone : PySem.W.codeIn K cdFalone "_law_alone" = true)
    (kFalone : PySem.W.keepIn K (.ref fFalone) = true)
    (aFlaw : PySem.W.nsIn K mainGlobals "law" = some (some (.ref fFlaw)))
    (lFlaw : K.lookup fFlaw = some ⟨ocFlaw, odFlaw, .func (PySem.W.fnOf "law" "law" (fnArgs (top 30)) (fnBody (top 30)) (fnScope (top 30)) .none kVFlaw dcFlaw pmFlaw anFlaw cdFlaw ctFlaw), slFlaw⟩)
    (cFlaw : PySem.W.codeIn K cdFlaw "law" = true)
    (kFlaw : PySem.W.keepIn K (.ref fFlaw) = true)
    (nSkmachines : PySem.W.findIn K (.ref CSk) "machines" = some none)
    (nSkresult : PySem.W.findIn K (.ref CSk) "result" = some none)
    (nStlayout : PySem.W.findIn K (.ref CSt) "layout" = some none)
    (nStthread : PySem.W.findIn K (.ref CSt) "thread" = some none)
    (nStspare : PySem.W.findIn K (.ref CSt) "spare" = some none)
    (nSttaken_out : PySem.W.findIn K (.ref CSt) "taken_out" = some none)
    (nStdelayed : PySem.W.findIn K (.ref CSt) "delayed" = some none)
    (nEnepoch_cell : PySem.W.findIn K (.ref CEn) "epoch_cell" = some none)
    (nEnslot : PySem.W.findIn K (.ref CEn) "slot" = some none)
    (nEnstate : PySem.W.findIn K (.ref CEn) "state" = some none)
    (nEnepoch : PySem.W.findIn K (.ref CEn) "epoch" = some none)
    (nLestore : PySem.W.findIn K (.ref CLe) "store" = some none)
    (nLeepoch : PySem.W.findIn K (.ref CLe) "epoch" = some none)
    (nLeothers : PySem.W.findIn K (.ref CLe) "others" = some none)
    (nLestate : PySem.W.findIn K (.ref CLe) "state" = some none)
    (nLathreads : PySem.W.findIn K (.ref CLa) "threads" = some none)
    (nLawords : PySem.W.findIn K (.ref CLa) "words" = some none)
    (nLarecords : PySem.W.findIn K (.ref CLa) "records" = some none)
    (nMelayout : PySem.W.findIn K (.ref CMe) "layout" = some none)
    (nMecount : PySem.W.findIn K (.ref CMe) "count" = some none)
    (nMerows : PySem.W.findIn K (.ref CMe) "rows" = some none)
    (nMetrails : PySem.W.findIn K (.ref CMe) "trails" = some none)
    (nMenotes : PySem.W.findIn K (.ref CMe) "notes" = some none)
    (zlen : PySem.W.nsIn K mainGlobals "len" = some none)
    (zsorted : PySem.W.nsIn K mainGlobals "sorted" = some none)
    (zlist : PySem.W.nsIn K mainGlobals "list" = some none)
    (zrange : PySem.W.nsIn K mainGlobals "range" = some none)
    (zint : PySem.W.nsIn K mainGlobals "int" = some none)
    (zbool : PySem.W.nsIn K mainGlobals "bool" = some none)
    (zisinstance : PySem.W.nsIn K mainGlobals "isinstance" = some none)
    (ztuple : PySem.W.nsIn K mainGlobals "tuple" = some none)
    (zmin : PySem.W.nsIn K mainGlobals "min" = some none)
    (zmax : PySem.W.nsIn K mainGlobals "max" = some none)
    (zabs : PySem.W.nsIn K mainGlobals "abs" = some none)
    (vAGE : PySem.W.nsIn K mainGlobals "AGE" = some (some (.int 3 tAGE)))
    (vMOST_THREADS : PySem.W.nsIn K mainGlobals "MOST_THREADS" = some (some (.int 3 tMOST_THREADS)))
    (vMOST_WORDS : PySem.W.nsIn K mainGlobals "MOST_WORDS" = some (some (.int 4 tMOST_WORDS)))
    (vLEAST_RECORDS : PySem.W.nsIn K mainGlobals "LEAST_RECORDS" = some (some (.int 4 tLEAST_RECORDS)))
    (vMOST_RECORDS : PySem.W.nsIn K mainGlobals "MOST_RECORDS" = some (some (.int 200 tMOST_RECORDS)))
    (aLen : PySem.W.nsIn K mainGlobals "LENGTHS" = some (some (.ref dLen)))
    (lLen : K.lookup dLen = some ⟨.type "dict", none, .dict esLen nLen, #[]⟩)
    (rLen1 : PySem.W.nsIn K dLen "read" = some (some (.int 2 tLen1)))
    (rLen2 : PySem.W.nsIn K dLen "write" = some (some (.int 3 tLen2)))
    (rLen3 : PySem.W.nsIn K dLen "swap" = some (some (.int 4 tLen3)))
    (sLen : (dLen == sysModules) = false)
    (yLen : PySem.W.KeysLit w.params esLen.toList)
    : ∃ fd : FuncData, (∀ (s : Shared) (v : Value), BindsTo s fd ⟨[v], []⟩ [("_law_script", v)]) ∧ ∀ base : Heap, K.In base → base.Ns mainGlobals mg → FnOk l.prog w K mg base C8.CX0 9 fa fd ["_law_script"] (spLaw K) := by
  have e := hfa.symm.trans (PySem.W.mg_of X G aFlaw)
  cases e
  have clSk : Cls K CSk := ⟨pgSk, hdSk, poSk, saSk⟩
  have clSt : Cls K CSt := ⟨pgSt, hdSt, poSt, saSt⟩
  have clEn : Cls K CEn := ⟨pgEn, hdEn, poEn, saEn⟩
  have clLe : Cls K CLe := ⟨pgLe, hdLe, poLe, saLe⟩
  have clLa : Cls K CLa := ⟨pgLa, hdLa, poLa, saLa⟩
  have clMe : Cls K CMe := ⟨pgMe, hdMe, poMe, saMe⟩
  have T : Txt K mg CSk CSt CEn CLe CLa CMe := ⟨clSk, clSt, clEn, clLe, clLa, clMe, nSkmachines, nSkresult, nStlayout, nStthread, nStspare, nSttaken_out, nStdelayed, nEnepoch_cell, nEnslot, nEnstate, nEnepoch, nLestore, nLeepoch, nLeothers, nLestate, nLathreads, nLawords, nLarecords, nMelayout, nMecount, nMerows, nMetrails, nMenotes, (PySem.W.mg_none_of X G zlen), (PySem.W.mg_none_of X G zsorted), (PySem.W.mg_none_of X G zlist), (PySem.W.mg_none_of X G zrange), (PySem.W.mg_none_of X G zint), (PySem.W.mg_none_of X G zbool), (PySem.W.mg_none_of X G zisinstance), (PySem.W.mg_none_of X G ztuple), (PySem.W.mg_none_of X G zmin), (PySem.W.mg_none_of X G zmax), (PySem.W.mg_none_of X G zabs), ⟨_, PySem.W.mg_of X G vAGE⟩, ⟨_, PySem.W.mg_of X G vMOST_THREADS⟩, ⟨_, PySem.W.mg_of X G vMOST_WORDS⟩, ⟨_, PySem.W.mg_of X G vLEAST_RECORDS⟩, ⟨_, PySem.W.mg_of X G vMOST_RECORDS⟩⟩
  have TD : TxtD K mg w := ⟨⟨dLen, PySem.W.mg_of X G aLen, sLen, ⟨esLen, nLen, _, lLen, yLen, rLen1, ⟨tLen1, rfl⟩⟩, ⟨esLen, nLen, _, lLen, yLen, rLen2, ⟨tLen2, rfl⟩⟩, ⟨esLen, nLen, _, lLen, yLen, rLen3, ⟨tLen3, rfl⟩⟩⟩⟩
  have DSkI : KDef K mg "Stack" CSk "Stack.__init__" (inC 2 0) ["self", "machine"] := kdef_of (PySem.W.mg_of X G aSk) mkSk kcSk aSkI iSkI lSkI cSkI (fun _ _ _ _ _ _ us hl => match us, hl with | [_, _], _ => rfl)
  have DSettle : MDef K CSk "settle" "Stack.settle" (inC 2 1) ["self"] := mdef_of clSk aSettle iSettle kSettle lSettle cSettle (fun _ _ _ _ _ _ us hl => match us, hl with | [_], _ => rfl)
  have DPass : MDef K CSk "pass_on" "Stack.pass_on" (inC 2 2) ["self", "value"] := mdef_of clSk aPass iPass kPass lPass cPass (fun _ _ _ _ _ _ us hl => match us, hl with | [_, _], _ => rfl)
  have DStep : MDef K CSk "step" "Stack.step" (inC 2 3) ["self", "memory", "thread"] := mdef_of clSk aStep iStep kStep lStep cStep (fun _ _ _ _ _ _ us hl => match us, hl with | [_, _, _], _ => rfl)
  have DEnded : MDef K CSk "ended" "Stack.ended" (inC 2 4) ["self"] := mdef_of clSk aEnded iEnded kEnded lEnded cEnded (fun _ _ _ _ _ _ us hl => match us, hl with | [_], _ => rfl)
  have DStI : KDef K mg "Store" CSt "Store.__init__" (inC 6 0) ["self", "layout", "thread", "cells"] := kdef_of (PySem.W.mg_of X G aSt) mkSt kcSt aStI iStI lStI cStI (fun _ _ _ _ _ _ us hl => match us, hl with | [_, _, _, _], _ => rfl)
  have DTake : MDef K CSt "take" "Store.take" (inC 6 1) ["self", "many"] := mdef_of clSt aTake iTake kTake lTake cTake (fun _ _ _ _ _ _ us hl => match us, hl with | [_, _], _ => rfl)
  have DGiveBack : MDef K CSt "give_back" "Store.give_back" (inC 6 2) ["self", "cells"] := mdef_of clSt aGiveBack iGiveBack kGiveBack lGiveBack cGiveBack (fun _ _ _ _ _ _ us hl => match us, hl with | [_, _], _ => rfl)
  have DTakeOut : MDef K CSt "take_out" "Store.take_out" (inC 6 3) ["self", "cells"] := mdef_of clSt aTakeOut iTakeOut kTakeOut lTakeOut cTakeOut (fun _ _ _ _ _ _ us hl => match us, hl with | [_, _], _ => rfl)
  have DFree : MDef K CSt "free_cells" "Store.free_cells" (inC 6 4) ["self"] := mdef_of clSt aFree iFree kFree lFree cFree (fun _ _ _ _ _ _ us hl => match us, hl with | [_], _ => rfl)
  have DWaiting : MDef K CSt "waiting" "Store.waiting" (inC 6 5) ["self"] := mdef_of clSt aWaiting iWaiting kWaiting lWaiting cWaiting (fun _ _ _ _ _ _ us hl => match us, hl with | [_], _ => rfl)
  have DStamp : MDef K CSt "stamp" "Store.stamp" (inC 6 6) ["self", "epoch"] := mdef_of clSt aStamp iStamp kStamp lStamp cStamp (fun _ _ _ _ _ _ us hl => match us, hl with | [_, _], _ => rfl)
  have DRelease : MDef K CSt "release" "Store.release" (inC 6 7) ["self", "epoch"] := mdef_of clSt aRelease iRelease kRelease lRelease cRelease (fun _ _ _ _ _ _ us hl => match us, hl with | [_, _], _ => rfl)
  have DEnI : KDef K mg "Entering" CEn "Entering.__init__" (inC 7 0) ["self", "store"] := kdef_of (PySem.W.mg_of X G aEn) mkEn kcEn aEnI iEnI lEnI cEnI (fun _ _ _ _ _ _ us hl => match us, hl with | [_, _], _ => rfl)
  have DEnReq : MDef K CEn "request" "Entering.request" (inC 7 1) ["self"] := mdef_of clEn aEnReq iEnReq kEnReq lEnReq cEnReq (fun _ _ _ _ _ _ us hl => match us, hl with | [_], _ => rfl)
  have DEnAcc : MDef K CEn "accept" "Entering.accept" (inC 7 2) ["self", "result"] := mdef_of clEn aEnAcc iEnAcc kEnAcc lEnAcc cEnAcc (fun _ _ _ _ _ _ us hl => match us, hl with | [_, _], _ => rfl)
  have DLeI : KDef K mg "Leaving" CLe "Leaving.__init__" (inC 8 0) ["self", "store"] := kdef_of (PySem.W.mg_of X G aLe) mkLe kcLe aLeI iLeI lLeI cLeI (fun _ _ _ _ _ _ us hl => match us, hl with | [_, _], _ => rfl)
  have DLeReq : MDef K CLe "request" "Leaving.request" (inC 8 1) ["self"] := mdef_of clLe aLeReq iLeReq kLeReq lLeReq cLeReq (fun _ _ _ _ _ _ us hl => match us, hl with | [_], _ => rfl)
  have DLeAcc : MDef K CLe "accept" "Leaving.accept" (inC 8 2) ["self", "result"] := mdef_of clLe aLeAcc iLeAcc kLeAcc lLeAcc cLeAcc (fun _ _ _ _ _ _ us hl => match us, hl with | [_, _], _ => rfl)
  have DLook : MDef K CLe "look_on" "Leaving.look_on" (inC 8 3) ["self"] := mdef_of clLe aLook iLook kLook lLook cLook (fun _ _ _ _ _ _ us hl => match us, hl with | [_], _ => rfl)
  have DTakeOther : MDef K CLe "take_other" "Leaving.take_other" (inC 8 4) ["self", "value"] := mdef_of clLe aTakeOther iTakeOther kTakeOther lTakeOther cTakeOther (fun _ _ _ _ _ _ us hl => match us, hl with | [_, _], _ => rfl)
  have DFinish : MDef K CLe "finish" "Leaving.finish" (inC 8 5) ["self", "known"] := mdef_of clLe aFinish iFinish kFinish lFinish cFinish (fun _ _ _ _ _ _ us hl => match us, hl with | [_, _], _ => rfl)
  have DLaI : KDef K mg "Layout" CLa "Layout.__init__" (inC 19 0) ["self", "threads", "words", "records"] := kdef_of (PySem.W.mg_of X G aLa) mkLa kcLa aLaI iLaI lLaI cLaI (fun _ _ _ _ _ _ us hl => match us, hl with | [_, _, _, _], _ => rfl)
  have DLaEpoch : MDef K CLa "epoch" "Layout.epoch" (inC 19 1) ["self"] := mdef_of clLa aLaEpoch iLaEpoch kLaEpoch lLaEpoch cLaEpoch (fun _ _ _ _ _ _ us hl => match us, hl with | [_], _ => rfl)
  have DLaEpochSlot : MDef K CLa "epoch_slot" "Layout.epoch_slot" (inC 19 2) ["self", "thread"] := mdef_of clLa aLaEpochSlot iLaEpochSlot kLaEpochSlot lLaEpochSlot cLaEpochSlot (fun _ _ _ _ _ _ us hl => match us, hl with | [_, _], _ => rfl)
  have DLaCallSlot : MDef K CLa "call_slot" "Layout.call_slot" (inC 19 3) ["self", "thread"] := mdef_of clLa aLaCallSlot iLaCallSlot kLaCallSlot lLaCallSlot cLaCallSlot (fun _ _ _ _ _ _ us hl => match us, hl with | [_, _], _ => rfl)
  have DLaWord : MDef K CLa "word" "Layout.word" (inC 19 4) ["self", "index"] := mdef_of clLa aLaWord iLaWord kLaWord lLaWord cLaWord (fun _ _ _ _ _ _ us hl => match us, hl with | [_, _], _ => rfl)
  have DLaRecord : MDef K CLa "record" "Layout.record" (inC 19 5) ["self", "index"] := mdef_of clLa aLaRecord iLaRecord kLaRecord lLaRecord cLaRecord (fun _ _ _ _ _ _ us hl => match us, hl with | [_, _], _ => rfl)
  have DLaCells : MDef K CLa "cells" "Layout.cells" (inC 19 6) ["self"] := mdef_of clLa aLaCells iLaCells kLaCells lLaCells cLaCells (fun _ _ _ _ _ _ us hl => match us, hl with | [_], _ => rfl)
  have DLaLasting : MDef K CLa "is_lasting" "Layout.is_lasting" (inC 19 8) ["self", "cell"] := mdef_of clLa aLaLasting iLaLasting kLaLasting lLaLasting cLaLasting (fun _ _ _ _ _ _ us hl => match us, hl with | [_, _], _ => rfl)
  have DMeI : KDef K mg "Memory" CMe "Memory.__init__" (inC 20 0) ["self", "layout"] := kdef_of (PySem.W.mg_of X G aMe) mkMe kcMe aMeI iMeI lMeI cMeI (fun _ _ _ _ _ _ us hl => match us, hl with | [_, _], _ => rfl)
  have DNotes : MDef K CMe "no_notes" "Memory.no_notes" (inC 20 1) ["self"] := mdef_of clMe aNotes iNotes kNotes lNotes cNotes (fun _ _ _ _ _ _ us hl => match us, hl with | [_], _ => rfl)
  have DCheckCell : MDef K CMe "check_cell" "Memory.check_cell" (inC 20 2) ["self", "cell"] := mdef_of clMe aCheckCell iCheckCell kCheckCell lCheckCell cCheckCell (fun _ _ _ _ _ _ us hl => match us, hl with | [_, _], _ => rfl)
  have DCheckReq : MDef K CMe "check_request" "Memory.check_request" (inC 20 4) ["self", "thread", "request"] := mdef_of clMe aCheckReq iCheckReq kCheckReq lCheckReq cCheckReq (fun _ _ _ _ _ _ us hl => match us, hl with | [_, _, _], _ => rfl)
  have DAccess : MDef K CMe "access" "Memory.access" (inC 20 5) ["self", "thread", "request"] := mdef_of clMe aAccess iAccess kAccess lAccess cAccess (fun _ _ _ _ _ _ us hl => match us, hl with | [_, _, _], _ => rfl)
  have DResult : MDef K CMe "result" "Memory.result" (inC 20 6) ["self", "thread", "request"] := mdef_of clMe aResult iResult kResult lResult cResult (fun _ _ _ _ _ _ us hl => match us, hl with | [_, _, _], _ => rfl)
  have DGive : MDef K CMe "give" "Memory.give" (inC 20 7) ["self", "cell", "value"] := mdef_of clMe aGive iGive kGive lGive cGive (fun _ _ _ _ _ _ us hl => match us, hl with | [_, _, _], _ => rfl)
  have DPeek : MDef K CMe "peek" "Memory.peek" (inC 20 10) ["self", "cell"] := mdef_of clMe aPeek iPeek kPeek lPeek cPeek (fun _ _ _ _ _ _ us hl => match us, hl with | [_, _], _ => rfl)
  have DLog : MDef K CMe "log" "Memory.log" (inC 20 15) ["self"] := mdef_of clMe aLog iLog kLog lLog cLog (fun _ _ _ _ _ _ us hl => match us, hl with | [_], _ => rfl)
  have DFdivided : FDef K mg "divided" (top 5) ["layout", "cells", "thread"] := fdef_of (PySem.W.mg_of X G aFdivided) kFdivided lFdivided cFdivided (fun _ _ _ _ _ _ us hl => match us, hl with | [_, _, _], _ => rfl)
  have DFwithin : FDef K mg "is_within" (top 18) ["value", "low", "high"] := fdef_of (PySem.W.mg_of X G aFwithin) kFwithin lFwithin cFwithin (fun _ _ _ _ _ _ us hl => match us, hl with | [_, _, _], _ => rfl)
  have DFtape : FDef K mg "_law_tape" (top 22) ["_law_script"] := fdef_of (PySem.W.mg_of X G aFtape) kFtape lFtape cFtape (fun _ _ _ _ _ _ us hl => match us, hl with | [_], _ => rfl)
  have DFat : FDef K mg "_law_at" (top 23) ["_law_tape_here", "_law_k"] := fdef_of (PySem.W.mg_of X G aFat) kFat lFat cFat (fun _ _ _ _ _ _ us hl => match us, hl with | [_, _], _ => rfl)
  have DFknown : FDef K mg "_law_known" (top 24) ["_law_rows", "_law_active"] := fdef_of (PySem.W.mg_of X G aFknown) kFknown lFknown cFknown (fun _ _ _ _ _ _ us hl => match us, hl with | [_, _], _ => rfl)
  have DFheld : FDef K mg "_law_held" (top 25) ["_law_store_here", "_law_rows", "_law_active"] := fdef_of (PySem.W.mg_of X G aFheld) kFheld lFheld cFheld (fun _ _ _ _ _ _ us hl => match us, hl with | [_, _, _], _ => rfl)
  have DFstore : FDef K mg "_law_store" (top 26) ["_law_layout", "_law_thread"] := fdef_of (PySem.W.mg_of X G aFstore) kFstore lFstore cFstore (fun _ _ _ _ _ _ us hl => match us, hl with | [_, _], _ => rfl)
  have DFwhole : FDef K mg "_law_whole" (top 27) ["_law_store_here", "_law_first"] := fdef_of (PySem.W.mg_of X G aFwhole) kFwhole lFwhole cFwhole (fun _ _ _ _ _ _ us hl => match us, hl with | [_, _], _ => rfl)
  have DFslots : FDef K mg "_law_slots" (top 28) ["_law_memory", "_law_active", "_law_slots_here"] := fdef_of (PySem.W.mg_of X G aFslots) kFslots lFslots cFslots (fun _ _ _ _ _ _ us hl => match us, hl with | [_, _, _], _ => rfl)
  have DFalone : FDef K mg "_law_alone" (top 29) ["_law_memory", "_law_store_here", "_law_thread"] := fdef_of (PySem.W.mg_of X G aFalone) kFalone lFalone cFalone (fun _ _ _ _ _ _ us hl => match us, hl with | [_, _, _], _ => rfl)
  refine ⟨PySem.W.fnOf "law" "law" (fnArgs (top 30)) (fnBody (top 30)) (fnScope (top 30)) .none kVFlaw dcFlaw pmFlaw anFlaw cdFlaw ctFlaw, fun s v => .of_eq rfl, fun base _ _ => ?_⟩
  have oWithin := ok_within (P := l.prog) (w := w) (base := base) DFwithin T
  have oLaI := ok_laInit DLaI T oWithin
  have oEpoch := ok_laEpoch (P := l.prog) (w := w) (mg := mg) (base := base) DLaEpoch
  have oEpochSlot := ok_laEpochSlot (P := l.prog) (w := w) (mg := mg) (base := base) DLaEpochSlot
  have oCallSlot := ok_laCallSlot (P := l.prog) (w := w) (base := base) DLaCallSlot T
  have oWord := ok_laWord (P := l.prog) (w := w) (base := base) DLaWord T
  have oRecord := ok_laRecord (P := l.prog) (w := w) (base := base) DLaRecord T
  have oCells := ok_laCells DLaCells T oRecord
  have oLasting := ok_laLasting DLaLasting oCallSlot oCells
  have oCheckCell := ok_checkCell DCheckCell T oWithin
  have oPeek := ok_peek DPeek T oCheckCell
  have oLog := ok_log (P := l.prog) (w := w) (base := base) DLog T
  have oGive := ok_give DGive T oLasting
  have oCheckReq := ok_checkReq DCheckReq T TD oWithin oCheckCell
  have oResult := ok_result DResult T oGive
  have oAccess := ok_access DAccess T oCheckReq oResult
  have oNotes := ok_notes (P := l.prog) (w := w) (base := base) DNotes T
  have oMeI := ok_meInit DMeI T oCells oEpoch oWord oRecord oNotes
  have oStI := ok_stInit (P := l.prog) (w := w) (base := base) DStI T
  have oTake := ok_take (P := l.prog) (w := w) (base := base) DTake T
  have oGiveBack := ok_giveBack (P := l.prog) (w := w) (base := base) DGiveBack T
  have oTakeOut := ok_takeOut (P := l.prog) (w := w) (base := base) DTakeOut T
  have oFree := ok_free (P := l.prog) (w := w) (base := base) DFree T
  have oStamp := ok_stamp (P := l.prog) (w := w) (base := base) DStamp T
  have oRelease := ok_release DRelease T oGiveBack
  have oWaiting := ok_waiting (P := l.prog) (w := w) (base := base) DWaiting T
  have oEnI := ok_enInit DEnI T oEpoch oEpochSlot
  have oEnReq := ok_enReq (P := l.prog) (w := w) (base := base) DEnReq T
  have oEnAcc := ok_enAcc (P := l.prog) (w := w) (base := base) DEnAcc T
  have oLeI := ok_leInit (P := l.prog) (w := w) (base := base) DLeI T
  have oLeReq := ok_leReq DLeReq T oEpoch oEpochSlot
  have oLook := ok_look (P := l.prog) (w := w) (base := base) DLook T
  have oFinish := ok_finish DFinish T oRelease
  have oTakeOther := ok_takeOther DTakeOther T oFinish oLook
  have oLeAcc := ok_leAcc DLeAcc T oStamp oFinish oLook oTakeOther
  have oSkI := ok_skInit (P := l.prog) (w := w) (base := base) DSkI T
  have oPass := ok_pass (P := l.prog) (w := w) (base := base) DPass T
  have oEnded := ok_ended (P := l.prog) (w := w) (base := base) DEnded T
  have oSettle := ok_settle DSettle T oEnReq oLeReq oPass
  have oStep := ok_step DStep T oSettle oAccess oEnReq oLeReq oEnAcc oLeAcc
  have oAt := ok_at (P := l.prog) (w := w) (base := base) DFat T
  have oTape := ok_tape (P := l.prog) (w := w) (base := base) DFtape T
  have oKnown := ok_known (P := l.prog) (w := w) (base := base) DFknown T
  have oHeld := ok_held DFheld T oFree
  have oWhole := ok_whole DFwhole T oFree oWaiting
  have oSlots := ok_slots DFslots T oPeek
  have oDivided := ok_divided DFdivided T oRecord
  have oStore := ok_store DFstore T oRecord oDivided oStI
  have oAlone := ok_alone DFalone T oEnI oLeI oSkI oStep oEnded oWaiting
  exact law_fn (fun_of lFlaw cFlaw) T ⟨oTape, oAt, oLaI, oMeI, oStore, oFree, oAccess, oWord, oTake, oTakeOut, oSkI, oLeI, oEnI, oPeek, oLog, oStep, oKnown, oHeld, oWhole, oSlots, oAlone⟩
theorem walk {l : PySem.W.OpenLaw} {q : Program} {loose : List Str} {XP : (Str → Option Value) → Heap → Prop} {YP : World → Heap → Prop} {d : DefRec} {K : Params → PySem.W.Frag} (hn : l.most = some 63) (hdf : d.params.defaults = [])
    (hY : ∀ (w : World) (h : Heap), YP w h → (K w.params).In h)
    (F : ∀ (w : World) (mg : Str → Option Value) (fa : Addr) (h : Heap), (K w.params).In h → h.Ns mainGlobals mg → mg d.name = some (.ref fa) →
      ∃ fd : FuncData, (∀ (s : Shared) (u : Value), BindsTo s fd ⟨[u], []⟩ [("_law_script", u)]) ∧ ∀ base : Heap, (K w.params).In base → base.Ns mainGlobals mg → FnOk l.prog w (K w.params) mg base C8.CX0 9 fa fd ["_law_script"] (spLaw (K w.params))) :
    PySem.W.WalkO q loose XP YP l.row.toRowW d [] (fun f vs => PySem.call f vs) :=
  L2.walk_of (n := 63) (k := 9) (x := "_law_script") (CX := fun _ => C8.CX0) (sp := fun w => spLaw (K w.params)) hn (by decide) hdf ⟨rfl, by decide, by decide⟩ hY F (fun _ _ a ns hl _ hS => ⟨a, ns, rfl, hS, hl, fun _ => rfl⟩) fun _ _ _ _ _ z => z

end Dk

open PySem PySem.W PyProof.Rows in
set_option maxRecDepth 100000 in
set_option maxHeartbeats 0 in
theorem PySem.Challenge.cw_driftkept_k09_whole_epochs_holds : PySem.Challenge.rw_driftkept_k09_whole_epochs.Holds := by
  w_on; o_law; k_head; (case hw => w_witness2)
  k_fill
  refine Dk.walk (l := PySem.Challenge.rw_driftkept_k09_whole_epochs) rfl rfl (fun w h Y => PySem.W.kIn_of Y) ?F
  case F =>
    intro w mg fa h KX G hmg
    refine' Dk.all_mk KX G hmg ?aSk ?pgSk ?hdSk ?poSk ?saSk ?mkSk ?kcSk ?aSt ?pgSt ?hdSt ?poSt ?saSt ?mkSt ?kcSt ?aEn ?pgEn ?hdEn ?poEn ?saEn ?mkEn ?kcEn ?aLe ?pgLe ?hdLe ?poLe ?saLe ?mkLe ?kcLe ?aLa ?pgLa ?hdLa ?poLa ?saLa ?mkLa ?kcLa ?aMe ?pgMe ?hdMe ?poMe ?saMe ?mkMe ?kcMe ?aSkI ?iSkI ?lSkI ?cSkI ?aSettle ?iSettle ?lSettle ?cSettle ?kSettle ?aPass ?iPass ?lPass ?cPass ?kPass ?aStep ?iStep ?lStep ?cStep ?kStep ?aEnded ?iEnded ?lEnded ?cEnded ?kEnded ?aStI ?iStI ?lStI ?cStI ?aTake ?iTake ?lTake ?cTake ?kTake ?aGiveBack ?iGiveBack ?lGiveBack ?cGiveBack ?kGiveBack ?aTakeOut ?iTakeOut ?lTakeOut ?cTakeOut ?kTakeOut ?aFree ?iFree ?lFree ?cFree ?kFree ?aWaiting ?iWaiting ?lWaiting ?cWaiting ?kWaiting ?aStamp ?iStamp ?lStamp ?cStamp ?kStamp ?aRelease ?iRelease ?lRelease ?cRelease ?kRelease ?aEnI ?iEnI ?lEnI ?cEnI ?aEnReq ?iEnReq ?lEnReq ?cEnReq ?kEnReq ?aEnAcc ?iEnAcc ?lEnAcc ?cEnAcc ?kEnAcc ?aLeI ?iLeI ?lLeI ?cLeI ?aLeReq ?iLeReq ?lLeReq ?cLeReq ?kLeReq ?aLeAcc ?iLeAcc ?lLeAcc ?cLeAcc ?kLeAcc ?aLook ?iLook ?lLook ?cLook ?kLook ?aTakeOther ?iTakeOther ?lTakeOther ?cTakeOther ?kTakeOther ?aFinish ?iFinish ?lFinish ?cFinish ?kFinish ?aLaI ?iLaI ?lLaI ?cLaI ?aLaEpoch ?iLaEpoch ?lLaEpoch ?cLaEpoch ?kLaEpoch ?aLaEpochSlot ?iLaEpochSlot ?lLaEpochSlot ?cLaEpochSlot ?kLaEpochSlot ?aLaCallSlot ?iLaCallSlot ?lLaCallSlot ?cLaCallSlot ?kLaCallSlot ?aLaWord ?iLaWord ?lLaWord ?cLaWord ?kLaWord ?aLaRecord ?iLaRecord ?lLaRecord ?cLaRecord ?kLaRecord ?aLaCells ?iLaCells ?lLaCells ?cLaCells ?kLaCells ?aLaLasting ?iLaLasting ?lLaLasting ?cLaLasting ?kLaLasting ?aMeI ?iMeI ?lMeI ?cMeI ?aNotes ?iNotes ?lNotes ?cNotes ?kNotes ?aCheckCell ?iCheckCell ?lCheckCell ?cCheckCell ?kCheckCell ?aCheckReq ?iCheckReq ?lCheckReq ?cCheckReq ?kCheckReq ?aAccess ?iAccess ?lAccess ?cAccess ?kAccess ?aResult ?iResult ?lResult ?cResult ?kResult ?aGive ?iGive ?lGive ?cGive ?kGive ?aPeek ?iPeek ?lPeek ?cPeek ?kPeek ?aLog ?iLog ?lLog ?cLog ?kLog ?aFdivided ?lFdivided ?cFdivided ?kFdivided ?aFwithin ?lFwithin ?cFwithin ?kFwithin ?aFtape ?lFtape ?cFtape ?kFtape ?aFat ?lFat ?cFat ?kFat ?aFknown ?lFknown ?cFknown ?kFknown ?aFheld ?lFheld ?cFheld ?kFheld ?aFstore ?lFstore ?cFstore ?kFstore ?aFwhole ?lFwhole ?cFwhole ?kFwhole ?aFslots ?lFslots ?cFslots ?kFslots ?aFalone ?lFalone ?cFalone ?kFalone ?aFlaw ?lFlaw ?cFlaw ?kFlaw ?nSkmachines ?nSkresult ?nStlayout ?nStthread ?nStspare ?nSttaken_out ?nStdelayed ?nEnepoch_cell ?nEnslot ?nEnstate ?nEnepoch ?nLestore ?nLeepoch ?nLeothers ?nLestate ?nLathreads ?nLawords ?nLarecords ?nMelayout ?nMecount ?nMerows ?nMetrails ?nMenotes ?zlen ?zsorted ?zlist ?zrange ?zint ?zbool ?zisinstance ?ztuple ?zmin ?zmax ?zabs ?vAGE ?vMOST_THREADS ?vMOST_WORDS ?vLEAST_RECORDS ?vMOST_RECORDS ?aLen ?lLen ?rLen1 ?rLen2 ?rLen3 ?sLen ?yLen
    (case aSk => k_is)
    (case pgSk => k_is)
    (case hdSk => k_is)
    (case poSk => k_is)
    (case saSk => k_is)
    (case mkSk => k_is)
    (case kcSk => k_is)
    (case aSt => k_is)
    (case pgSt => k_is)
    (case hdSt => k_is)
    (case poSt => k_is)
    (case saSt => k_is)
    (case mkSt => k_is)
    (case kcSt => k_is)
    (case aEn => k_is)
    (case pgEn => k_is)
    (case hdEn => k_is)
    (case poEn => k_is)
    (case saEn => k_is)
    (case mkEn => k_is)
    (case kcEn => k_is)
    (case aLe => k_is)
    (case pgLe => k_is)
    (case hdLe => k_is)
    (case poLe => k_is)
    (case saLe => k_is)
    (case mkLe => k_is)
    (case kcLe => k_is)
    (case aLa => k_is)
    (case pgLa => k_is)
    (case hdLa => k_is)
    (case poLa => k_is)
    (case saLa => k_is)
    (case mkLa => k_is)
    (case kcLa => k_is)
    (case aMe => k_is)
    (case pgMe => k_is)
    (case hdMe => k_is)
    (case poMe => k_is)
    (case saMe => k_is)
    (case mkMe => k_is)
    (case kcMe => k_is)
    (case aSkI => k_is)
    (case iSkI => k_is)
    (case lSkI => k_is)
    (case cSkI => k_is)
    (case aSettle => k_is)
    (case iSettle => k_is)
    (case lSettle => k_is)
    (case cSettle => k_is)
    (case kSettle => k_is)
    (case aPass => k_is)
    (case iPass => k_is)
    (case lPass => k_is)
    (case cPass => k_is)
    (case kPass => k_is)
    (case aStep => k_is)
    (case iStep => k_is)
    (case lStep => k_is)
    (case cStep => k_is)
    (case kStep => k_is)
    (case aEnded => k_is)
    (case iEnded => k_is)
    (case lEnded => k_is)
    (case cEnded => k_is)
    (case kEnded => k_is)
    (case aStI => k_is)
    (case iStI => k_is)
    (case lStI => k_is)
    (case cStI => k_is)
    (case aTake => k_is)
    (case iTake => k_is)
    (case lTake => k_is)
    (case cTake => k_is)
    (case kTake => k_is)
    (case aGiveBack => k_is)
    (case iGiveBack => k_is)
    (case lGiveBack => k_is)
    (case cGiveBack => k_is)
    (case kGiveBack => k_is)
    (case aTakeOut => k_is)
    (case iTakeOut => k_is)
    (case lTakeOut => k_is)
    (case cTakeOut => k_is)
    (case kTakeOut => k_is)
    (case aFree => k_is)
    (case iFree => k_is)
    (case lFree => k_is)
    (case cFree => k_is)
    (case kFree => k_is)
    (case aWaiting => k_is)
    (case iWaiting => k_is)
    (case lWaiting => k_is)
    (case cWaiting => k_is)
    (case kWaiting => k_is)
    (case aStamp => k_is)
    (case iStamp => k_is)
    (case lStamp => k_is)
    (case cStamp => k_is)
    (case kStamp => k_is)
    (case aRelease => k_is)
    (case iRelease => k_is)
    (case lRelease => k_is)
    (case cRelease => k_is)
    (case kRelease => k_is)
    (case aEnI => k_is)
    (case iEnI => k_is)
    (case lEnI => k_is)
    (case cEnI => k_is)
    (case aEnReq => k_is)
    (case iEnReq => k_is)
    (case lEnReq => k_is)
    (case cEnReq => k_is)
    (case kEnReq => k_is)
    (case aEnAcc => k_is)
    (case iEnAcc => k_is)
    (case lEnAcc => k_is)
    (case cEnAcc => k_is)
    (case kEnAcc => k_is)
    (case aLeI => k_is)
    (case iLeI => k_is)
    (case lLeI => k_is)
    (case cLeI => k_is)
    (case aLeReq => k_is)
    (case iLeReq => k_is)
    (case lLeReq => k_is)
    (case cLeReq => k_is)
    (case kLeReq => k_is)
    (case aLeAcc => k_is)
    (case iLeAcc => k_is)
    (case lLeAcc => k_is)
    (case cLeAcc => k_is)
    (case kLeAcc => k_is)
    (case aLook => k_is)
    (case iLook => k_is)
    (case lLook => k_is)
    (case cLook => k_is)
    (case kLook => k_is)
    (case aTakeOther => k_is)
    (case iTakeOther => k_is)
    (case lTakeOther => k_is)
    (case cTakeOther => k_is)
    (case kTakeOther => k_is)
    (case aFinish => k_is)
    (case iFinish => k_is)
    (case lFinish => k_is)
    (case cFinish => k_is)
    (case kFinish => k_is)
    (case aLaI => k_is)
    (case iLaI => k_is)
    (case lLaI => k_is)
    (case cLaI => k_is)
    (case aLaEpoch => k_is)
    (case iLaEpoch => k_is)
    (case lLaEpoch => k_is)
    (case cLaEpoch => k_is)
    (case kLaEpoch => k_is)
    (case aLaEpochSlot => k_is)
    (case iLaEpochSlot => k_is)
    (case lLaEpochSlot => k_is)
    (case cLaEpochSlot => k_is)
    (case kLaEpochSlot => k_is)
    (case aLaCallSlot => k_is)
    (case iLaCallSlot => k_is)
    (case lLaCallSlot => k_is)
    (case cLaCallSlot => k_is)
    (case kLaCallSlot => k_is)
    (case aLaWord => k_is)
    (case iLaWord => k_is)
    (case lLaWord => k_is)
    (case cLaWord => k_is)
    (case kLaWord => k_is)
    (case aLaRecord => k_is)
    (case iLaRecord => k_is)
    (case lLaRecord => k_is)
    (case cLaRecord => k_is)
    (case kLaRecord => k_is)
    (case aLaCells => k_is)
    (case iLaCells => k_is)
    (case lLaCells => k_is)
    (case cLaCells => k_is)
    (case kLaCells => k_is)
    (case aLaLasting => k_is)
    (case iLaLasting => k_is)
    (case lLaLasting => k_is)
    (case cLaLasting => k_is)
    (case kLaLasting => k_is)
    (case aMeI => k_is)
    (case iMeI => k_is)
    (case lMeI => k_is)
    (case cMeI => k_is)
    (case aNotes => k_is)
    (case iNotes => k_is)
    (case lNotes => k_is)
    (case cNotes => k_is)
    (case kNotes => k_is)
    (case aCheckCell => k_is)
    (case iCheckCell => k_is)
    (case lCheckCell => k_is)
    (case cCheckCell => k_is)
    (case kCheckCell => k_is)
    (case aCheckReq => k_is)
    (case iCheckReq => k_is)
    (case lCheckReq => k_is)
    (case cCheckReq => k_is)
    (case kCheckReq => k_is)
    (case aAccess => k_is)
    (case iAccess => k_is)
    (case lAccess => k_is)
    (case cAccess => k_is)
    (case kAccess => k_is)
    (case aResult => k_is)
    (case iResult => k_is)
    (case lResult => k_is)
    (case cResult => k_is)
    (case kResult => k_is)
    (case aGive => k_is)
    (case iGive => k_is)
    (case lGive => k_is)
    (case cGive => k_is)
    (case kGive => k_is)
    (case aPeek => k_is)
    (case iPeek => k_is)
    (case lPeek => k_is)
    (case cPeek => k_is)
    (case kPeek => k_is)
    (case aLog => k_is)
    (case iLog => k_is)
    (case lLog => k_is)
    (case cLog => k_is)
    (case kLog => k_is)
    (case aFdivided => k_is)
    (case lFdivided => k_is)
    (case cFdivided => k_is)
    (case kFdivided => k_is)
    (case aFwithin => k_is)
    (case lFwithin => k_is)
    (case cFwithin => k_is)
    (case kFwithin => k_is)
    (case aFtape => k_is)
    (case lFtape => k_is)
    (case cFtape => k_is)
    (case kFtape => k_is)
    (case aFat => k_is)
    (case lFat => k_is)
    (case cFat => k_is)
    (case kFat => k_is)
    (case aFknown => k_is)
    (case lFknown => k_is)
    (case cFknown => k_is)
    (case kFknown => k_is)
    (case aFheld => k_is)
    (case lFheld => k_is)
    (case cFheld => k_is)
    (case kFheld => k_is)
    (case aFstore => k_is)
    (case lFstore => k_is)
    (case cFstore => k_is)
    (case kFstore => k_is)
    (case aFwhole => k_is)
    (case lFwhole => k_is)
    (case cFwhole => k_is)
    (case kFwhole => k_is)
    (case aFslots => k_is)
    (case lFslots => k_is)
    (case cFslots => k_is)
    (case kFslots => k_is)
    (case aFalone => k_is)
    (case lFalone => k_is)
    (case cFalone => k_is)
    (case kFalone => k_is)
    (case aFlaw => k_is)
    (case lFlaw => k_is)
    (case cFlaw => k_is)
    (case kFlaw => k_is)
    (case nSkmachines => k_is)
    (case nSkresult => k_is)
    (case nStlayout => k_is)
    (case nStthread => k_is)
    (case nStspare => k_is)
    (case nSttaken_out => k_is)
    (case nStdelayed => k_is)
    (case nEnepoch_cell => k_is)
    (case nEnslot => k_is)
    (case nEnstate => k_is)
    (case nEnepoch => k_is)
    (case nLestore => k_is)
    (case nLeepoch => k_is)
    (case nLeothers => k_is)
    (case nLestate => k_is)
    (case nLathreads => k_is)
    (case nLawords => k_is)
    (case nLarecords => k_is)
    (case nMelayout => k_is)
    (case nMecount => k_is)
    (case nMerows => k_is)
    (case nMetrails => k_is)
    (case nMenotes => k_is)
    (case zlen => k_is)
    (case zsorted => k_is)
    (case zlist => k_is)
    (case zrange => k_is)
    (case zint => k_is)
    (case zbool => k_is)
    (case zisinstance => k_is)
    (case ztuple => k_is)
    (case zmin => k_is)
    (case zmax => k_is)
    (case zabs => k_is)
    (case vAGE => k_is)
    (case vMOST_THREADS => k_is)
    (case vMOST_WORDS => k_is)
    (case vLEAST_RECORDS => k_is)
    (case vMOST_RECORDS => k_is)
    (case aLen => k_is)
    (case lLen => k_is)
    (case rLen1 => k_is)
    (case rLen2 => k_is)
    (case rLen3 => k_is)
    (case sLen => rfl)
    (case yLen => exact ⟨⟨_, _, rfl, rfl⟩, ⟨_, _, rfl, rfl⟩, ⟨_, _, rfl, rfl⟩, ⟨_, _, rfl, rfl⟩, ⟨_, _, rfl, rfl⟩, ⟨_, _, rfl, rfl⟩, trivial⟩)
