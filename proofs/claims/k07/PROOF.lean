import PyProof.Rows.All
import Wide.All
import OpenK.AllK
import Wide.FinOn
import HandS.ForMost
import HandS.Rev
import HandS.IsInst
import HandS.TupAny
import HandS.Strs
import PyProof.FactsAll.subtypes_3
import PyProof.ListNew
import KE.KDictLaws
import HandS.Finally
import KE.DataEq
import KE.KEqNest
import HandS.More
import HandS.Walk
import HandS.ForExc
import HandS.ExcIs
import KE.KExcIs
import HandS.ExcField
import HandS.ExcInit
import HandS.Codes
import PyProof.StrBlock2
import PyProof.CompFree
import HandS.Defaults
import PySem.Challenge.RW_letterform_k07_read_or_refused
/-! # LfBase -/
set_option Elab.async false
set_option linter.all false
set_option maxRecDepth 100000
set_option maxHeartbeats 4000000
namespace Lf
open PySem L2

/-! ### defs of the module -/
structure Df (K : PySem.W.Frag) (mg : Str → Option Value) (x : Str) (st : Stmt) (ps : List Str) : Prop where
  ex : ∃ (f : Addr) (fd : FuncData), Fun K x x st f fd ∧ mg x = some (.ref f) ∧ Binds K fd ps []
structure Dn (P : Program) (w : World) (K : PySem.W.Frag) (mg : Str → Option Value) (base : Heap) (CX : CXT) (k : Nat) (x : Str) (sp : Sp) : Prop where
  ex : ∃ (f : Addr) (fd : FuncData) (ps : List Str), FnOk P w K mg base CX k f fd ps sp ∧ mg x = some (.ref f) ∧ PySem.W.keepIn K (.ref f) = true ∧ Binds K fd ps []
theorem Dn.of {P : Program} {w : World} {K : PySem.W.Frag} {mg : Str → Option Value} {base : Heap} {CX : CXT} {k : Nat} {x : Str} {st : Stmt} {ps : List Str} {sp : Sp} (D : Df K mg x st ps)
    (h : ∀ f fd, Fun K x x st f fd → FnOk P w K mg base CX k f fd ps sp) : Dn P w K mg base CX k x sp := by
  obtain ⟨f, fd, F, m, b⟩ := D.ex
  exact ⟨f, fd, ps, h f fd F, m, F.kp, b⟩
theorem Dn.imp {P : Program} {w : World} {K : PySem.W.Frag} {mg : Str → Option Value} {base : Heap} {CX : CXT} {k : Nat} {x : Str} {sp sp' : Sp} (D : Dn P w K mg base CX k x sp)
    (h : ∀ vs H Q E, sp' vs H Q E → sp vs H Q E) : Dn P w K mg base CX k x sp' := by
  obtain ⟨f, fd, ps, F, m, kp, b⟩ := D.ex
  exact ⟨f, fd, ps, F.imp h, m, kp, b⟩
section
variable {X : Cx} {k j : Nat} {C : Addr} {x m : Str} {sp : Sp} {p pos apos : Pos} {e o : Expr} {es : List Expr} {ta : TE} {t : TA}
theorem cD (c : Dn X.prog X.w X.K X.mg X.base CX0 k x sp) (hr : Room j X.A) (hk : k ≤ j) (hg : Gl X x) (ha : PA X (e :: es) t)
    (hdb : (x == ("__debug__" : Str)) = false := by decide) (he : starEach (e :: es) X.env = (false, eval e X.env) :: starEach es X.env := by rfl) (hpl : (backTo pos (starEach es X.env)).any (·.1) = false := by rfl) :
    PE X (.Call (.Name x p) (e :: es) [] pos) (tCall sp [] E0 t) := by
  obtain ⟨f, fd, ps, F, hm, kp, b⟩ := c.ex
  exact pe_call F (hr.mono hk) hg hm kp b .nil pass0 ha hdb he hpl
/-- an own class, made -/
structure Mn (P : Program) (w : World) (K : PySem.W.Frag) (mg : Str → Option Value) (base : Heap) (CX : CXT) (k : Nat) (x : Str) (C : Addr) (sp : Sp) : Prop where
  ex : ∃ (f : Addr) (fd : FuncData) (ps : List Str), Mk K C f ∧ FnOk P w K mg base CX k f fd ps sp ∧ mg x = some (.ref C) ∧ Binds K fd ps []
theorem cM (c : Mn X.prog X.w X.K X.mg X.base CX0 k x C sp) (hr : Room j X.A) (hk : k + 1 ≤ j) (hg : Gl X x) (ha : PA X (e :: es) t)
    (hdb : (x == ("__debug__" : Str)) = false := by decide) (he : starEach (e :: es) X.env = (false, eval e X.env) :: starEach es X.env := by rfl) (hpl : (backTo pos (starEach es X.env)).any (·.1) = false := by rfl) :
    PE X (.Call (.Name x p) (e :: es) [] pos) (tMake C sp [] E0 t) := by
  obtain ⟨f, fd, ps, M, F, hm, b⟩ := c.ex
  exact pe_make M F (hr.mono hk) hg hm b .nil pass0 ha hdb he hpl
/-- a method -/
structure Tn (P : Program) (w : World) (K : PySem.W.Frag) (mg : Str → Option Value) (base : Heap) (CX : CXT) (k : Nat) (C : Addr) (m : Str) (sp : Sp) : Prop where
  ex : ∃ (f : Addr) (fd : FuncData) (ps : List Str), Cls K C ∧ Meth K C m f ∧ FnOk P w K mg base CX k f fd ps sp ∧ Binds K fd ps []
theorem cT {pl : Sem Bool} (c : Tn X.prog X.w X.K X.mg X.base CX0 k C m sp) (hr : Room j X.A) (hk : k ≤ j) (he : PE X o ta) (ha : PA X (e :: es) t)
    (hst : starEach (e :: es) X.env = (false, eval e X.env) :: starEach es X.env := by rfl) (hpl : (backTo pos (starEach es X.env)).any (·.1) = false := by rfl)
    (ht : eval (.Call (.Attribute o m apos) (e :: es) [] pos) X.env = (do
      let ov ← eval o X.env
      standAt apos.atName
      let (f, first) ← holding [ov] (getMethod ov m pl)
      callWith pos f first (backTo pos (starEach (e :: es) X.env)) (backToKw pos (keywordEach [] X.env))) := by rfl) :
    PE X (.Call (.Attribute o m apos) (e :: es) [] pos) (tMeth C m sp [] E0 ta t) := by
  obtain ⟨f, fd, ps, hc, hm, F, b⟩ := c.ex
  exact pe_meth (pl := pl) he hc hm F (hr.mono hk) b .nil pass0 ha hst hpl ht
end

/-! ### the built-in names -/
structure Bl (mg : Str → Option Value) : Prop where
  len : mg "len" = none
  range : mg "range" = none
  list : mg "list" = none
  isinstance : mg "isinstance" = none
  set : mg "set" = none
  reversed : mg "reversed" = none
  dict : mg "dict" = none
  sorted : mg "sorted" = none
  min : mg "min" = none
  int : mg "int" = none
  str : mg "str" = none
  tuple : mg "tuple" = none
  ValueError : mg "ValueError" = none

/-! ### heaps: what is told once stays (Same); all of the heap stays (Keep) -/
def Keep (H H' : Hp) : Prop := ∀ b o, H b = some o → H' b = some o
theorem Keep.same {H H' : Hp} (k : Keep H H') : Same H H' := k
theorem Keep.refl (H : Hp) : Keep H H := fun _ _ h => h
theorem Keep.trans {H H1 H2 : Hp} (a : Keep H H1) (b : Keep H1 H2) : Keep H H2 := fun c o h => b c o (a c o h)
theorem Keep.new {H : Hp} {p : Addr} {o : HO} (h : H p = none) : Keep H (upd H p o) := fun a u e => by rw [upd_ne (ne_of_none e h)]; exact e
theorem _root_.L2.Same.new {H : Hp} {p : Addr} {o : HO} (h : H p = none) : Same H (upd H p o) := Keep.new h
theorem _root_.L2.Same.keep {G H H' : Hp} (a : Same G H) (k : Keep H H') : Same G H' := a.trans k
theorem Keep.free {H H' : Hp} (e : Keep H H') {l : Addr} (h : H' l = none) : H l = none := Same.free e h
/-- a list of one's own is changed -/
theorem _root_.L2.Same.mut {G H : Hp} {l : Addr} {o : HO} (a : Same G H) (h : G l = none) : Same G (upd H l o) := fun b u e => by
  rw [upd_ne (ne_of_none e h)]; exact a b u e
theorem Keep.mut {G H : Hp} {l : Addr} {o : HO} (a : Keep G H) (h : G l = none) : Keep G (upd H l o) := Same.mut a h
theorem _root_.L2.Same.rd {G H : Hp} {a : Addr} {u : HO} (s : Same G H) (h : Rd G a u) : Rd H a u := by
  rcases h with h | ⟨o, h⟩
  · exact .inl (s _ _ h)
  · exact .inr ⟨o, s _ _ h⟩
theorem _root_.L2.Same.tup {K : PySem.W.Frag} {H H' : Hp} {a : Addr} {xs : List V} (e : Same H H') (h : SqT K H a xs) : SqT K H' a xs := by
  rcases h with h | h
  · exact .inl (e.rd h)
  · exact .inr h
/-- the world: G what is told once and stays, H the whole heap -/
structure Wd (G H G' H' : Hp) : Prop where
  gg : Same G G'
  gh : Same G' H'
  hh : Keep H H'
  nw : ∀ b o, H b = some o → G b = none → G' b = none
theorem Wd.refl {G H : Hp} (s : Same G H) : Wd G H G H := ⟨Same.refl _, s, Keep.refl _, fun _ _ _ h => h⟩
theorem Wd.trans {G H G1 H1 G2 H2 : Hp} (a : Wd G H G1 H1) (b : Wd G1 H1 G2 H2) : Wd G H G2 H2 :=
  ⟨a.gg.trans b.gg, b.gh, a.hh.trans b.hh, fun c o h1 h2 => b.nw c o (a.hh c o h1) (a.nw c o h1 h2)⟩
/-- H grows by what nobody asks for -/
theorem Wd.keep {G H G1 H1 H2 : Hp} (a : Wd G H G1 H1) (k : Keep H1 H2) : Wd G H G1 H2 := ⟨a.gg, a.gh.keep k, a.hh.trans k, a.nw⟩
/-- a new thing, told -/
theorem Wd.new {G H G1 H1 : Hp} {p : Addr} {o : HO} (a : Wd G H G1 H1) (h : H1 p = none) : Wd G H (upd G1 p o) (upd H1 p o) := by
  have gp : G1 p = none := Same.free a.gh h
  refine ⟨a.gg.trans (Same.new gp), fun b u e => ?_, a.hh.trans (Keep.new h), fun b u e1 e2 => ?_⟩
  · by_cases hb : b = p
    · subst hb; rw [upd_same] at e ⊢; exact e
    · rw [upd_ne hb] at e ⊢; exact a.gh _ _ e
  · have hb : b ≠ p := ne_of_none (a.hh _ _ e1) h
    rw [upd_ne hb]; exact a.nw _ _ e1 e2
/-- a thing of one's own is told from now on -/
theorem Wd.tell {G H G1 H1 : Hp} {p : Addr} {o : HO} (a : Wd G H G1 H1) (hp : H1 p = some o) (h0 : H p = none) (g1 : G1 p = none) : Wd G H (upd G1 p o) H1 := by
  refine ⟨a.gg.trans (Same.new g1), fun b u e => ?_, a.hh, fun b u e1 e2 => ?_⟩
  · by_cases hb : b = p
    · subst hb; rw [upd_same] at e; rw [hp]; exact e
    · rw [upd_ne hb] at e; exact a.gh _ _ e
  · have hb : b ≠ p := ne_of_none e1 h0
    rw [upd_ne hb]; exact a.nw _ _ e1 e2
/-- a thing of one's own is changed -/
theorem Wd.mut {G H G1 H1 : Hp} {p : Addr} {o : HO} (a : Wd G H G1 H1) (h0 : H p = none) (g1 : G1 p = none) : Wd G H G1 (upd H1 p o) :=
  ⟨a.gg, a.gh.mut g1, a.hh.mut h0, a.nw⟩
/-- what a def hands back: a value of which Post holds -/
def Ret (G H : Hp) (Post : V → Hp → Prop) (Q : VK) : Prop := ∀ v G' H', Wd G H G' H' → Post v G' → Q v H'
/-- .. that leans on no heap -/
def RetV (H : Hp) (v : V) (Q : VK) : Prop := ∀ H', Keep H H' → Q v H'
end Lf

/-! # LfSet -/
set_option Elab.async false
set_option linter.all false
set_option maxRecDepth 100000
set_option maxHeartbeats 4000000
namespace Lf
open PySem PySem.Spec PyProof.Rows

/-! ### the texts of a list that differ, in the order in which they come first -/
def dd1 (acc : List Str) (v : Str) : List Str := if acc.any (· == v) = true then acc else acc ++ [v]
def ddS (l : List Str) : List Str := l.foldl dd1 []
def ddAt (val : Nat → Str) (i : Nat) : List Str := ddS ((List.range i).map val)
theorem dd1_in {acc : List Str} {v : Str} (h : v ∈ acc) : dd1 acc v = acc := if_pos (by simpa using h)
theorem dd1_out {acc : List Str} {v : Str} (h : v ∉ acc) : dd1 acc v = acc ++ [v] := if_neg (by simpa using h)
theorem dd1_mem (acc : List Str) (v k : Str) : k ∈ dd1 acc v ↔ k ∈ acc ∨ k = v := by
  rcases Classical.em (v ∈ acc) with h | h
  · rw [dd1_in h]
    exact ⟨.inl, fun e => e.elim id fun e => e ▸ h⟩
  · rw [dd1_out h, List.mem_append, List.mem_singleton]
theorem dd1_any (acc : List Str) (v k : Str) : (dd1 acc v).any (· == k) = (acc.any (· == k) || decide (k = v)) := by
  have e : ∀ l : List Str, l.any (· == k) = decide (k ∈ l) := fun l => by rw [Bool.eq_iff_iff]; simp
  rw [e, e, ← Bool.decide_or]
  exact decide_eq_decide.mpr (dd1_mem acc v k)
theorem dd1_length (acc : List Str) (v : Str) : (dd1 acc v).length = if acc.any (· == v) then acc.length else acc.length + 1 :=
  (apply_ite List.length _ _ _).trans (by rw [List.length_append, List.length_singleton])
theorem ddAt_zero (val : Nat → Str) : ddAt val 0 = [] := rfl
theorem ddAt_succ (val : Nat → Str) (i : Nat) : ddAt val (i + 1) = dd1 (ddAt val i) (val i) := by
  simp [ddAt, ddS, List.range_succ]
theorem ddAt_le (val : Nat → Str) (i : Nat) : (ddAt val i).length ≤ i := by
  induction i with
  | zero => exact Nat.le_refl 0
  | succ j hj =>
    have e := dd1_length (ddAt val j) (val j)
    rw [← ddAt_succ] at e
    rcases Bool.eq_false_or_eq_true ((ddAt val j).any (· == val j)) with c | c <;> simp [c] at e <;> omega

/-! ### a set object that holds just the texts of a list -/
def HasTx (prog : Program) (w : World) (h : Heap) (D : Addr) (l : List Str) : Prop := h.SetOf (PySem.strKind prog w) D (fun k => l.any (· == k)) l.length
section
variable {prog : Program} {w : World}
theorem HasTx.keep {h h' : Heap} {D : Addr} {l : List Str} (x : HasTx prog w h D l) (hl : l.length < scanBound) (k : ∀ o, h.get? D = some o → h'.get? D = some o) : HasTx prog w h' D l :=
  let ⟨o, e, q⟩ := Heap.SetOf.objOf x
  q.setOf (k o e) hl
/-- one text more -/
theorem HasTx.take {A : Around} {E : Value → Shared → Prop} {s : Shared} {D : Addr} {l : List Str} {v : Str} {t : Tok} {Q : Bool → Shared → Prop} (x : HasTx prog w s.heap D l) (hl : l.length + 1 < scanBound)
    (next : ∀ (b : Bool) (h' : Heap) (tk : Nat), s.toks ≤ tk → Heap.SameBut D s.heap h' → HasTx prog w h' D (dd1 l v) → Q b { s with heap := h', toks := tk }) : wpAny (model prog w) A (setAdd D (.str v t)) Q E s := by
  have hk := strKind_is prog w v t
  refine wpAny_holding (wpAny_bind (KeyKind.pyHash _ hk (wpAny_setAddHashed_of (s := { s with toks := s.toks + 1 }) hk rfl x hl fun h' same y => ?_)))
  refine next _ h' _ (Nat.le_add_right _ _) same ?_
  have e1 : (fun k => l.any (· == k) || decide (k = v)) = fun k => (dd1 l v).any (· == k) := funext fun k => (dd1_any l v k).symm
  rw [HasTx, ← e1, dd1_length]
  exact y
end

/-! ### the loop that fills it out of an iterator -/
section
variable {prog : Program} {w : World} {A : Around} {R : Result → Shared → Prop} {I D : Addr} {fp wr : List Addr} {G : Array GenState → Array GenState → Prop} {n : Nat} {P : Nat → Value → Prop} {St : Nat → Shared → Prop} {f : Nat → Str} {s0 : Shared}
theorem fills (W : WalksS prog w A.in1 I fp wr G n P St) (out : D ∉ fp) (txt : ∀ i v, P i v → ∃ t, v = .str (f i) t) (small : n + 1 < scanBound)
    (last : ∀ s', Moved (D :: wr) G s0 s' → HasTx prog w s'.heap D (ddAt f n) → R (.ok (.ret .none)) s') (i : Nat) (hi : i ≤ n) (s : Shared) (st : St i s) (mv : Moved (D :: wr) G s0 s) (x : HasTx prog w s.heap D (ddAt f i)) :
    codeAny (model prog w) A (.builtin "set.update.loop" ⟨[.ref D, .ref I], []⟩) R s := by
  have small_i : (ddAt f i).length + 1 < scanBound := Nat.lt_of_le_of_lt (Nat.succ_le_succ (Nat.le_trans (ddAt_le f i) hi)) small
  have stays : ∀ {s'}, Moved wr G s s' → HasTx prog w s'.heap D (ddAt f i) := fun m => x.keep (Nat.lt_of_succ_lt small_i) fun o => m.heap D o fun c => out (W.sub D c)
  have goes : ∀ {s'}, Moved wr G s s' → Moved (D :: wr) G s0 s' := fun m => mv.trans W.gtrans (m.mono fun _ => List.mem_cons_of_mem D)
  refine codeAny_builtin F.entry_set_update_loop (Around.under_plainId F.plain_set_update_loop _ ▸ ?_)
  unfold Builtin.«set.update.loop»
  dsimp only
  rcases Nat.lt_or_ge i n with lt | ge
  · refine wpAny_bind (W.item i s _ _ lt st fun v s1 pv st1 m1 => ?_)
    obtain ⟨t, rfl⟩ := txt i v pv
    refine wpAny_bind (wpAny_holding ((stays m1).take small_i fun b h2 tk more same y => ?_))
    have safe : ∀ a, a ≠ D → ∀ o, s1.heap.get? a = some o → h2.get? a = some o := fun a na o e => (same.2 a na).trans e
    refine wpAny_pure ⟨plainId_quiet F.plain_set_update_loop _, ?_⟩
    exact fills W out txt small last (i + 1) lt _ (W.frame _ s1 h2 tk st1 more fun a ha => safe a fun c => out (c ▸ ha))
      ((goes m1).then_heap more fun a o ha => safe a (fun c => ha (c ▸ List.mem_cons_self)) o) (ddAt_succ f i ▸ y)
  · obtain rfl : i = n := Nat.le_antisymm hi ge
    exact wpAny_bind (W.done s _ _ st fun s1 m1 => wpAny_pure (last s1 (goes m1) (stays m1)))
termination_by n - i
end

/-! ### set(x): a bare set is made, then its __init__ takes x in -/
def bareSet (led : Bool) : Obj := { cls := .type "set", dict := none, data := .set #[] 0 (.fresh 0 0 led) }
section
variable {prog : Program} {w : World} {A : Around} {E : Value → Shared → Prop} {s : Shared}
theorem codeAny_thn {c : Code} {Q : Value → Shared → Prop} {R : Result → Shared → Prop} (x : codeAny (model prog w) A c (wants Q E) s) (good : ∀ v s', Q v s' → R (.ok (.ret v)) s') (bad : ∀ e s', E e s' → R (.error e) s') : codeAny (model prog w) A c R s :=
  codeAny_mono x fun r s' q => match r, q with
    | .ok (.ret v), q => good v s' q
    | .error e, q => bad e s' q
theorem bareSet_is (h : Heap) (led : Bool) : (h.push (bareSet led)).get? h.objs.size = some (bareSet led) := Heap.get?_push_size h rfl
theorem set_made {a : Value} {Q : Value → Shared → Prop} (body : ∀ led : Bool, wpAny (model prog w) A.in1.in1 (Builtin.«set.__init__» ⟨[.ref s.heap.objs.size, a], []⟩) (fun fin s' => fin = .done (.ret .none) ∧ Q (.ref s.heap.objs.size) s') E { s with heap := s.heap.push (bareSet led) }) :
    wpAny (model prog w) A (call (.type "set") [a]) Q E s := by
  have T := PySem.F.called_set
  obtain ⟨c0, more, line⟩ := T.mro
  have known := And.intro T.made (And.intro T.sub (And.intro T.notType (And.intro T.canCreate (PySem.F.typeCall_set_1 a))))
  obtain ⟨k1, k2, k3, k4, k5⟩ := known
  have start : codeAny (model prog w) A (.call (.type "set") ⟨[a], []⟩) (wants Q E) s := by
    refine codeAny_of_tree ?_
    show wpAny _ _ (callAny (.type "set") ⟨[a], []⟩) _ _ s
    refine wpAny_pure (And.intro (Code.quiet_builtin _ (by decide +kernel)) (codeAny_builtin PySem.F.entry_type_call ?_))
    rw [Around.under_plain (weight_type_call_type "set" [a] []) (units_type_call_type "set" [a] [])]
    repeat any_goals first | assumption | wp_step
    refine codeAny_thn (E := E) (Q := fun v s1 => v = .ref s.heap.objs.size ∧ ∃ led, s1 = { s with heap := s.heap.push (bareSet led) }) (code_set_new_1 a fun led => ⟨rfl, led, rfl⟩) (fun v s1 q => ?_) fun e s1 q => q
    obtain ⟨rfl, led, rfl⟩ := q
    have own : Shared.TypeIs { s with heap := s.heap.push (bareSet led) } (.ref s.heap.objs.size) "set" := ⟨bareSet led, bareSet_is _ _, rfl⟩
    have j1 := T.init.lookup
    have j2 := T.init.bind (.ref s.heap.objs.size)
    repeat any_goals first | assumption | wp_step
    refine codeAny_thn (E := E) (Q := fun v s2 => v = .none ∧ Q (.ref s.heap.objs.size) s2) (codeAny_call_builtin T.init.plain PySem.F.entry_set_init (check_set_init_1 own (wpAny_mono (body led) (fun fin s2 q => ?_) fun e s2 q => q))) (fun v s2 q => ?_) fun e s2 q => q
    · obtain ⟨rfl, q⟩ := q
      exact ⟨rfl, q⟩
    · obtain ⟨rfl, q⟩ := q
      repeat any_goals first | assumption | wp_step
  exact wpAny_call start
theorem type_later {h : Heap} {x : Value} {T : String} (y : s.TypeIs x T) (k : ∀ b o, s.heap.get? b = some o → h.get? b = some o) : Shared.TypeIs { s with heap := h } x T := by
  cases x with
  | ref a => exact y.elim fun o q => ⟨o, k a o q.1, q.2⟩
  | _ => exact y
/-- x is no set and no dict, and its iterator walks the texts f 0 .. f (n - 1): set(x) is a set that holds just them -/
theorem set_walked {x : Value} {T : String} {n : Nat} {f : Nat → Str} {Pv : Nat → Value → Prop} {Q : Value → Shared → Prop} (calm : A.handled = none) (ty : s.TypeIs x T)
    (noS : isSubtype (.type T) (.type "set") = pure false) (noF : isSubtype (.type T) (.type "frozenset") = pure false) (noD : (Value.type T == Value.type "dict") = false) (small : n + 1 < scanBound) (txt : ∀ i v, Pv i v → ∃ t, v = .str (f i) t)
    (iter : ∀ (A' : Around) (h : Heap) (Q' E' : _), s.heap.objs.size < h.objs.size → (∀ b o, s.heap.get? b = some o → h.get? b = some o) →
      (∀ (o : Obj) (fp : List Addr) (St : Nat → Heap → Prop), (∀ b ∈ fp, b ≠ s.heap.objs.size) → (∀ A' : Around, A'.handled = none → Walks prog w A' h.objs.size fp [h.objs.size] n Pv St) → St 0 (h.push o) → Q' (.ref h.objs.size) { s with heap := h.push o }) →
      wpAny (model prog w) A' (pyIter x) Q' E' { s with heap := h })
    (next : ∀ (h' : Heap) (tk : Nat), HasTx prog w h' s.heap.objs.size (ddAt f n) → (∀ b o, b < s.heap.objs.size → s.heap.get? b = some o → h'.get? b = some o) → Q (.ref s.heap.objs.size) { s with heap := h', toks := tk }) :
    wpAny (model prog w) A (call (.type "set") [x]) Q E s := by
  refine set_made fun led => ?_
  have more : s.heap.objs.size < (s.heap.push (bareSet led)).objs.size := by rw [Heap.size_push]; exact Nat.lt_add_one _
  have kept : ∀ b o, s.heap.get? b = some o → (s.heap.push (bareSet led)).get? b = some o := fun b o e => Heap.get?_push_of_some _ e
  have own := bareSet_is s.heap led
  have ty1 := type_later ty kept
  have fresh : ∀ o, HasTx prog w ((s.heap.push (bareSet led)).push o) s.heap.objs.size (ddAt f 0) := fun o =>
    (setObjOf_fresh (knd := PySem.strKind prog w) led).setOf (Heap.get?_push_of_some o own) (Nat.lt_of_le_of_lt (Nat.zero_le _) small)
  unfold Builtin.«set.__init__» noKeywords
  unfold bareSet at *
  generalize hU : Builtin.Frozenset.updateFrom = U
  wp_walk
  subst hU
  unfold Builtin.Frozenset.updateFrom Builtin.Frozenset.isAnySet
  refine wpAny_bind ?_
  unfold orM
  refine wpAny_bind (wpAny_isInstance ty1 noS (wpAny_isInstance ty1 noF ?_))
  refine wpAny_bind (wpAny_typeOf ty1 ?_)
  rw [noD]
  refine wpAny_bind (iter A.in1.in1 _ _ _ more kept fun o fp St apart W st => ?_)
  have calm3 : A.in1.in1.in1.handled = none := by simp [calm]
  refine wpAny_bind (wpAny_runValue ?_)
  refine fills (W A.in1.in1.in1 calm3).toS (fun c => apart _ c rfl) txt small (fun s1 mv held => ?_) 0 (Nat.zero_le n) _ st (Moved.refl fun _ => rfl) (fresh o)
  refine wpAny_pure (wpAny_pure ⟨rfl, ?_⟩)
  have same : s1 = { s with heap := s1.heap, toks := s1.toks } := by
    cases s1
    simp only [Shared.mk.injEq, true_and]
    exact ⟨mv.gens, mv.drawn, mv.os⟩
  rw [same]
  refine next _ _ held fun b ob low e => mv.heap b ob ?_ (Heap.get?_push_of_some o (kept b ob e))
  rintro (_ | ⟨_, _ | ⟨_, c⟩⟩)
  · exact Nat.lt_irrefl _ low
  · exact Nat.lt_irrefl _ (Nat.lt_trans low more)
  · cases c
/-- set(text): its signs -/
theorem call_set_str {x : Str} {tx : Tok} {Q : Value → Shared → Prop} (hh : A.handled = none) (hb : x.cps.size + 1 < scanBound)
    (h : ∀ (h' : Heap) (tk : Nat), HasTx prog w h' s.heap.objs.size (ddAt (fun i => ⟨#[x.cps.getD i 0]⟩) x.cps.size) → (∀ b o, b < s.heap.objs.size → s.heap.get? b = some o → h'.get? b = some o) → Q (.ref s.heap.objs.size) { s with heap := h', toks := tk }) :
    wpAny (model prog w) A (call (.type "set") [.str x tx]) Q E s := by
  refine set_walked (T := "str") (Pv := SignAt x) hh rfl PySem.F.sub_str_set PySem.F.sub_str_frozenset (by decide) hb (fun i v sign => ?_) (fun A' h0 Q' E' more kept q => ?_) h
  · obtain ⟨c, u, at_i, rfl⟩ := sign
    exact ⟨u, by rw [Array.getD_eq_getD_getElem?, at_i]; rfl⟩
  · refine wpAny_pyIter_str fun o St W st => q o _ St (fun b c => ?_) W st
    exact List.mem_singleton.mp c ▸ Nat.ne_of_gt more
end
end Lf

/-! # LfRules -/
set_option Elab.async false
set_option linter.all false
set_option maxRecDepth 100000
set_option maxHeartbeats 4000000
namespace Lf
open PySem PySem.Spec PyProof.Rows L2
section
variable {X : Cx} {a b c d : Expr} {ta tb tc td : TE} {pos : Pos}
/-- how many there are in set(a), for whatever a may be of which we know what the set holds -/
theorem pe_count {p p2 q pos : Pos} {body : V → Hp → VK → Prop} {give : V → Hp → List Str → Prop} (g1 : Gl X "len") (m1 : X.mg "len" = none) (g2 : Gl X "set") (m2 : X.mg "set" = none) (ha : PE X a ta) (asks : ∀ x H Q, body x H Q → ∃ l, give x H l ∧ Q (.int l.length) H)
    (holds : ∀ {pins σ H s x v l} {Q : Value → Shared → Prop}, Inv X pins σ H s → RelV x v → give x H l → (l.length < 4000 → ∀ (h' : Heap) (tk : Nat), HasTx X.prog X.w h' s.heap.objs.size l → (∀ b o, b < s.heap.objs.size → s.heap.get? b = some o → h'.get? b = some o) → Q (.ref s.heap.objs.size) { s with heap := h', toks := tk }) →
      wpAny (model X.prog X.w) X.A (call (.type "set") [v]) Q X.xe s)
    (one : starEach [a] X.env = (false, eval a X.env) :: starEach [] X.env := by rfl) : PE X (.Call (.Name "len" p) [.Call (.Name "set" p2) [a] [] q] [] pos) (fun σ H Q => ta σ H fun x H1 => body x H1 Q) := PE.mk fun pins s σ H Q I h =>
  Call_ (ld_blt I g1 m1 boot_len (callWith_builtin1 (args_cons (Call_ (ld_blt I g2 m2 boot_set (callWith_type1 (args_cons (thn (ha.run pins s σ H _ I h) fun v s1 => fun ⟨x, H1, I1, r, b⟩ => (asks x H1 Q b).elim fun l yk =>
    args_nil (holds I1 r yk.1 fun few h' tk full old => args_nil (by
      have J := Inv.kept (h' := h') (t' := tk) I1 fun b o e => old b o (Heap.lt_size e) e
      have d := full
      rcases d with ⟨ob, es, _, _, at_ob, exact_ob, data_ob, _, _, _, fits_ob, size_ob⟩
      have fit : (es.size : Int) < 2 ^ 63 := by omega
      exact call_len_set at_ob exact_ob data_ob fits_ob fit ⟨.int l.length, H1, J.tok _, ⟨_, congrArg (fun n : Nat => Value.int (n : Int) (tk + 1)) size_ob⟩, yk.2⟩))) one) one rfl))) rfl) rfl rfl))
/-- len(set(text)) -/
def tLenSetS (ta : TE) : TE := fun σ H Q => ta σ H fun x H1 => ∃ z : Str, x = .str z ∧ z.length < 4000 ∧ Q (.int (ddAt (fun i => ⟨#[z.cps.getD i 0]⟩) z.cps.size).length) H1
theorem pe_lenSetS {p p2 q pos : Pos} (hc : X.calm = true) (hg : Gl X "len") (hm : X.mg "len" = none) (hg2 : Gl X "set") (hm2 : X.mg "set" = none) (ha : PE X a ta)
    (na : starEach [a] X.env = (false, eval a X.env) :: starEach [] X.env := by rfl) : PE X (.Call (.Name "len" p) [.Call (.Name "set" p2) [a] [] q] [] pos) (tLenSetS ta) := by
  refine pe_count (ta := ta) (body := fun x H1 Q => ∃ z : Str, x = .str z ∧ z.length < 4000 ∧ Q (.int (ddAt (fun i => ⟨#[z.cps.getD i 0]⟩) z.cps.size).length) H1) (give := fun x _ l => ∃ z : Str, x = .str z ∧ z.length < 4000 ∧ l = ddAt (fun i => ⟨#[z.cps.getD i 0]⟩) z.cps.size) hg hm hg2 hm2 ha (fun x H Q => fun ⟨z, e, n, k⟩ => ⟨_, ⟨z, e, n, rfl⟩, k⟩) (fun I r y k => ?_) na
  obtain ⟨z, rfl, few, rfl⟩ := y
  obtain ⟨u, rfl⟩ := r
  have few' : z.cps.size < 4000 := few
  exact call_set_str (I.ok.hd hc) (Nat.lt_trans (Nat.succ_lt_succ few') (by decide)) (k (Nat.lt_of_le_of_lt (ddAt_le _ _) few'))
/-- a constant text of the module -/
theorem pe_globS {x : Str} {z : Str} (hg : Gl X x) (hm : ∃ t, X.mg x = some (.str z t)) (hd : (x == ("__debug__" : Str)) = false := by decide) : PE X (.Name x pos) (tC (.str z)) := by
  obtain ⟨t, e⟩ := hm
  exact pe_glob hg e ⟨_, rfl⟩ hd
/-- a loop over a text's signs -/
theorem for_text {x : Str} {g : TG} {tb : TS} {D : Ends} {σ : L2.St} {H : Hp} (Pv : Nat → L2.St → Hp → Prop) (h0 : Pv 0 σ H)
    (hs : ∀ (i c : Nat) (σ : L2.St) (H : Hp), x.cps[i]? = some c → Pv i σ H → g (.str ⟨#[c]⟩) σ H fun σ2 H2 => tb { D with nx := Pv (i + 1), ct := Pv (i + 1), bk := D.nx } σ2 H2) (hd : ∀ σ H, Pv x.cps.size σ H → D.nx σ H) :
    ∃ W : Nat → Nat → L2.St → Hp → Prop, (∃ m, W 0 m σ H) ∧ ∀ i m σ H, W i m σ H →
      ((Its x).stop i H ∧ D.nx σ H) ∨ ((Its x).go i H ∧ ∃ N : L2.St → Hp → Prop, (∀ σ' H', N σ' H' → ∃ m', m' < m ∧ W (i + 1) m' σ' H') ∧ ∀ v H', (Its x).yld i H v H' → g v σ H' fun σ2 H2 => tb { D with nx := N, ct := N, bk := D.nx } σ2 H2) := by
  refine ⟨fun i m σ H => m = x.cps.size - i ∧ i ≤ x.cps.size ∧ Pv i σ H, ⟨x.cps.size, rfl, Nat.zero_le _, h0⟩, ?_⟩
  rintro i m σ H ⟨rfl, hi, p⟩
  by_cases hlt : i < x.cps.size
  · refine .inr ⟨hlt, Pv (i + 1), fun σ' H' p' => ⟨x.cps.size - (i + 1), by omega, rfl, hlt, p'⟩, fun v H' y => ?_⟩
    obtain ⟨rfl, c, hc, rfl⟩ := y
    exact hs i c _ _ hc p
  · have e : i = x.cps.size := by omega
    subst e
    exact .inl ⟨Nat.le_refl _, hd _ _ p⟩
/-- a op1 b op2 c op3 d, as a test -/
def tChain3 (r r' r'' : R2) (ta tb tc td : TE) : TT := fun σ H Q => ta σ H fun x H1 => tb σ H1 fun y H2 => r x y H2 fun z H3 => ∃ k, z = .bl k ∧
  (if k = true then tc σ H3 fun u H4 => r' y u H4 fun z' H5 => ∃ k', z' = .bl k' ∧ (if k' = true then td σ H5 fun v H6 => r'' u v H6 fun z2 H7 => ∃ k2, z2 = .bl k2 ∧ Q k2 H7 else Q false H5) else Q false H3)
theorem pt_chain3 {op op' op'' : CmpOp} {r r' r'' : R2} (ho : OpR X (compareOp op) r) (ho' : OpR X (compareOp op') r') (ho'' : OpR X (compareOp op'') r'') (ha : PE X a ta) (hb : PE X b tb) (hc : PE X c tc) (hd : PE X d td)
    (hm : lastMarks [op, op', op''] [b, c, d] = false := by with_unfolding_all rfl) : PT X (.Compare a [op, op', op''] [b, c, d] pos) (tChain3 r r' r'' ta tb tc td) := by
  refine ⟨fun pins s σ H Q I h => ?_⟩
  refine isTrue_chain (thn (ha.run pins s σ H _ I h) fun v s1 ⟨x, H1, I1, r1, q1⟩ => test_link (thn (hb.run pins s1 σ H1 _ I1 q1) fun u s2 ⟨y, H2, I2, r2, q2⟩ =>
    thn (ho pins s2 σ H2 x y v u _ I2 r1 r2 q2) fun e s3 ⟨z, H3, I3, r3, k, e, q3⟩ => ?_)) hm
  subst e
  cases r3
  refine wpAny_truthy_bool ?_
  cases k with
  | false => exact ite_ff ⟨H3, I3, q3⟩
  | true =>
    refine ite_tt (test_link (thn (hc.run pins s3 σ H3 _ I3 q3) fun w' s4 ⟨z', H4, I4, r4, q4⟩ => thn (ho' pins s4 σ H4 y z' u w' _ I4 r2 r4 q4) fun d' s5 ⟨z2, H5, I5, r5, k2, e2, q5⟩ => ?_))
    subst e2
    cases r5
    refine wpAny_truthy_bool ?_
    cases k2 with
    | false => exact ite_ff ⟨H5, I5, q5⟩
    | true =>
      refine ite_tt (test_last (thn (hd.run pins s5 σ H5 _ I5 q5) fun v' s6 ⟨z6, H6, I6, r6, q6⟩ => thn (ho'' pins s6 σ H6 z' z6 w' v' _ I6 r4 r6 q6) fun d7 s7 ⟨z7, H7, I7, r7, k7, e7, q7⟩ => ?_))
      subst e7
      cases r7
      exact wpAny_truthy_bool ⟨H7, I7, q7⟩
end

/-! ### rules with the written part named (for a comprehension's block) -/
theorem ixT {X : Cx} {K : PySem.W.Frag} (h : X.K = K) : IxR X (rIxT K) := by subst h; exact ix_tup
theorem ixLs {X : Cx} {K : PySem.W.Frag} (h : X.K = K) : IxR X (rIxL K) := by subst h; exact ix_list
theorem callLen {X : Cx} {K : PySem.W.Frag} (h : X.K = K) : CallR X (.builtin "len") (fun xs H Q => ∃ p ys, xs = [.ref p] ∧ (SqL K H p ys ∨ SqT K H p ys) ∧ Q (.int ys.length) H) := by subst h; exact call_len_seq
theorem callList {X : Cx} {K : PySem.W.Frag} (h : X.K = K) : CallR X (.type "list") (fun xs H Q => ∃ p ys, xs = [.ref p] ∧ (SqL K H p ys ∨ SqT K H p ys) ∧ ∀ l, H l = none → Q (.ref l) (upd H l (.lst ys))) := by subst h; exact call_list_of
theorem opInSeq {X : Cx} {K : PySem.W.Frag} (h : X.K = K) : OpR X (compareOp .In) (rIn K false) := by subst h; exact op_in_seq
theorem slL {X : Cx} {K : PySem.W.Frag} (h : X.K = K) : SlR X (rSlL K) := by subst h; exact sl_list
theorem slT {X : Cx} {K : PySem.W.Frag} (h : X.K = K) : SlR X (rSlA K) := by subst h; exact sl_tupA
end Lf

/-! # LfRev -/
set_option Elab.async false
set_option linter.all false
set_option maxRecDepth 100000
set_option maxHeartbeats 4000000
namespace Lf
open PySem PySem.Spec PyProof.Rows L2
/-! ## a loop over a text's signs, the last one first -/
theorem rs_norev : typeLookup (.type "str") "__reversed__" = pure none := by rw [typeLookup_type]; rw [builtinLookup_eq_fast]; kernel_rfl
theorem rs_get : typeLookup (.type "str") "__getitem__" = pure (some (.builtin "str.__getitem__")) := by rw [typeLookup_type]; rw [builtinLookup_eq_fast]; kernel_rfl
def rsO (x : Str) (t : Tok) (i : Int) : Obj := { cls := .type "reversed", data := .fields #[.str x t, rawInt i] }
def IsRs (h : Heap) (a : Addr) (x : Str) (t : Tok) (i : Int) : Prop := ∃ ob, h.get? a = some ob ∧ ob.cls = .type "reversed" ∧ ob.data = .fields #[.str x t, rawInt i]
theorem IsRs.ty {a : Addr} {x : Str} {t : Tok} {i : Int} {st : Shared} (h : IsRs st.heap a x t i) : st.TypeIs (.ref a) "reversed" := by
  obtain ⟨ob, e1, e2, _⟩ := h
  exact ⟨ob, e1, e2⟩
section
variable {prog : Program} {w : World} {A : Around} {E : Value → Shared → Prop} {st : Shared}
theorem rs_new {x : Str} {t : Tok} {Q : Value → Shared → Prop} (hx : ¬ (x.length : Int) ≥ 2 ^ 63)
    (q : Q (.ref st.heap.objs.size) { st with heap := st.heap.push (rsO x t ((x.length : Int) - 1)), toks := st.toks + 1 + 1 }) : wpAny (model prog w) A (call (.type "reversed") [.str x t]) Q E st := by
  have main : codeAny (model prog w) A.in1 (.call (.builtin "reversed.__new__") ⟨[.type "reversed", .str x t], []⟩) (wants (fun o s1 => s1.TypeIs o "reversed" ∧ Q o s1) E) st := by
    refine codeAny_of_tree ?_
    show wpAny _ A.in1.in1 (checkBuiltinCall "reversed.__new__" ⟨[.type "reversed", .str x t], []⟩ >>= fun _ => again (.builtin "reversed.__new__" ⟨[.type "reversed", .str x t], []⟩)) _ _ st
    refine wpAny_bind (wpAny_of_eq (F.newCall_reversed_1 _) (wpAny_pure ?_))
    refine ⟨plainId_quiet F.plain_reversed_new _, codeAny_builtin F.entry_reversed_new ?_⟩
    rw [Around.under_plainId F.plain_reversed_new _]; unfold Builtin.«reversed.__new__»
    refine wpAny_bind (wpAny_of_eq (newClass_reversed _) ?_); try dsimp only
    refine wpAny_bind (wpAny_of_eq (a := ()) (by first | rfl | kernel_rfl) ?_); try dsimp only
    refine wpAny_bind (wpAny_of_eq (a := ()) (by first | rfl | kernel_rfl) ?_); try dsimp only
    refine wpAny_bind (wpAny_specialOf (typeIs_str st x t) rs_norev ?_); try dsimp only
    refine wpAny_bind ?_
    wp_delta
    refine wpAny_bind (wpAny_isInstance (T := "str") (U := "dict") (b := false) (typeIs_str st x t) (by rw [isSubtype_type]; kernel_rfl) ?_); try dsimp only
    try rw [if_neg Bool.false_ne_true]
    try dsimp only
    refine wpAny_bind (wpAny_specialOf (typeIs_str st x t) rs_get ?_); try dsimp only
    try rw [if_pos (by decide +kernel)]
    refine wpAny_pure ?_; try dsimp only
    try rw [if_neg (by decide)]
    try dsimp only
    refine wpAny_bind (PyProof.Rows.len_str hx ?_)
    refine wpAny_bind (wpAny_of_eq (a := some ((x.length : Nat) : Int)) rfl ?_); try dsimp only
    refine wpAny_bind ?_
    show wpAny _ _ (newObj (.type "reversed") (.fields #[.str x t, rawInt ((x.length : Int) - 1)])) _ _ _
    exact wpAny_newObj_type (wpAny_pure ⟨⟨_, Heap.get?_push_size _ rfl, rfl⟩, q⟩)
  exact callType_codes (Q₁ := fun o s1 => s1.TypeIs o "reversed" ∧ Q o s1) RT.called_rt (F.typeCall_reversed_1 _) F.entry_object_init main
    fun o s1 h1 => ⟨h1.1, F.args_object_init_2 o _, object_init_meets RT.called_rt.init.lookup RT.called_rt.made (by decide) prog w A.in1 _ s1 ⟨h1.1, rfl, h1.2⟩⟩
theorem rs_item {it : Addr} {x : Str} {t : Tok} {i c : Nat} {Q : Option Value → Shared → Prop} (hit : IsRs st.heap it x t (i : Int)) (hc : x.cps[i]? = some c) (hx : x.length ≤ sizeLine)
    (q : ∀ (h' : Heap) (u : Tok) (tk : Nat), IsRs h' it x t ((i : Int) - 1) → Heap.SameBut it st.heap h' → Q (some (.str ⟨#[c]⟩ u)) { st with heap := h', toks := tk }) : wpAny (model prog w) A (pyNext (.ref it)) Q E st := by
  obtain ⟨ob, ho, hcl, hd⟩ := id hit
  have hi : i < x.length := (Array.getElem?_eq_some_iff.mp hc).1
  rw [sizeLine_eq] at hx
  unfold pyNext
  refine wpAny_bind (wpAny_attempt (wpAny_callSpecial?_slot (name := Str.ofString "__next__") hit.ty RT.slot_rt_next (wpAny_call_entry RT.slot_rt_next hit.ty RT.entry_rt_next ?_ (RT.args_rt_next _))))
  unfold Builtin.«reversed.__next__»
  refine wpAny_bind (wpAny_of_eq (a := (Value.ref it, [])) rfl ?_); try dsimp only
  refine wpAny_bind (wpAny_field ho hd (x := .str x t) rfl ?_); try dsimp only
  refine wpAny_bind (wpAny_field ho hd (x := rawInt (i : Int)) rfl ?_)
  show wpAny _ _ (if (i : Int) < 0 then _ else _) _ _ st
  rw [if_neg (show ¬ (i : Int) < 0 by omega)]; try dsimp only
  refine wpAny_bind (wpAny_specialOf (typeIs_str st x t) rs_get ?_); try dsimp only
  try rw [if_neg (by decide)]
  try dsimp only
  refine wpAny_bind (wpAny_mkInt ?_)
  refine wpAny_bind (wpAny_attempt ?_)
  have fi : (seqIndex? (i : Int) x.length).bind (x.cps[·]?) = some c := by rw [seqIndex_of (show (0 : Int) ≤ i by omega) (show (i : Int) < x.length by omega)]; exact hc
  refine PyProof.Rows.getItem_str (s := { st with toks := st.toks + 1 }) (by rw [Bool.or_eq_false_iff]; exact ⟨decide_eq_false (by omega), decide_eq_false (by omega)⟩) fi ?_
  try dsimp only
  refine wpAny_bind (wpAny_field (s := { st with toks := st.toks + 1 + 1 }) ho hd (x := rawInt (i : Int)) rfl ?_); try dsimp only
  refine wpAny_bind (wpAny_setField (s := { st with toks := st.toks + 1 + 1 }) ho hd (by simp) ?_)
  have fin : IsRs (st.heap.update it (Obj.mapFields (·.setIfInBounds 1 (rawInt ((i : Int) - 1))))) it x t ((i : Int) - 1) :=
    ⟨_, Heap.get?_update_self _ ho (Obj.isFreed_of_fields (Obj.data_mapFields hd _)), (Obj.cls_mapFields ..).trans hcl, by rw [Obj.data_mapFields hd]; simp⟩
  first
  | exact wpAny_pure ⟨_, rfl, wpAny_pure (q _ _ _ fin (Heap.SameBut.update ..))⟩
  | exact wpAny_bind (wpAny_pure (wpAny_pure ⟨_, rfl, wpAny_pure (q _ _ _ fin (Heap.SameBut.update ..))⟩))
theorem rs_end {it : Addr} {x : Str} {t : Tok} {Q : Option Value → Shared → Prop} (hh : A.handled = none) (hit : IsRs st.heap it x t (-1)) (q : ∀ h' : Heap, Heap.ExtBut it st.heap h' → Q none { st with heap := h' }) : wpAny (model prog w) A (pyNext (.ref it)) Q E st := by
  obtain ⟨ob, ho, hcl, hd⟩ := id hit
  unfold pyNext
  refine wpAny_bind (wpAny_attempt (wpAny_callSpecial?_slot (name := Str.ofString "__next__") hit.ty RT.slot_rt_next (wpAny_call_entry RT.slot_rt_next hit.ty RT.entry_rt_next ?_ (RT.args_rt_next _))))
  unfold Builtin.«reversed.__next__»
  refine wpAny_bind (wpAny_of_eq (a := (Value.ref it, [])) rfl ?_); try dsimp only
  refine wpAny_bind (wpAny_field ho hd (x := .str x t) rfl ?_); try dsimp only
  refine wpAny_bind (wpAny_field ho hd (x := rawInt (-1)) rfl ?_)
  show wpAny _ _ (if (-1 : Int) < 0 then _ else _) _ _ st
  rw [if_pos (show (-1 : Int) < 0 by decide)]; try dsimp only
  refine wpAny_bind (wpAny_rule ?_); refine wpAny_bind ?_
  wp_delta
  refine wpAny_bind (wpAny_setField ho hd (by simp) ?_)
  have ho2 := Heap.get?_update_self (Obj.mapFields (·.setIfInBounds 1 (rawInt (-1)))) ho (Obj.isFreed_of_fields (Obj.data_mapFields hd _))
  refine wpAny_setField (s := { st with heap := st.heap.update it (Obj.mapFields (·.setIfInBounds 1 (rawInt (-1)))) }) ho2 (Obj.data_mapFields hd _) (by simp) ?_
  try dsimp only
  first
  | show wpAny _ _ (newExc (.type "StopIteration") [] >>= _) _ _ _
  | (refine wpAny_bind ?_; show wpAny _ _ (newExc (.type "StopIteration") [] >>= _) _ _ _)
  | (refine wpAny_bind ?_; wp_delta; show wpAny _ _ (newExc (.type "StopIteration") [] >>= _) _ _ _)
  refine wpAny_bind ?_
  simp only [newExc, newTuple]
  refine wpAny_bind (wpAny_newObj_type ?_ (by show (0 : Nat) ≤ sizeLine; decide))
  refine wpAny_bind (m := firstArgMember _ _) (wpAny_of_eq (a := Value.none) (by first | rfl | (simp only [firstArgMember]; rfl)) ?_)
  refine wpAny_newObj_type ?_ (by size_fits)
  simp only [raiseNew]
  refine wpAny_bind (wpAny_handled ?_)
  first | rw [show A.in1.handled = none from hh] | rw [hh]
  refine wpAny_bind (wpAny_pure (wpAny_throw ?_))
  refine wpAny_bind (wpAny_isInstance (T := "StopIteration") (b := true) ⟨_, Heap.get?_push_size _ rfl, rfl⟩ isSubtype_stop (wpAny_pure (q _ ?_)))
  have x0 : Heap.ExtBut it st.heap ((st.heap.update it (Obj.mapFields (·.setIfInBounds 1 (rawInt (-1))))).update it (Obj.mapFields (·.setIfInBounds 0 .none))) := fun b o nb e =>
    (Heap.get?_update_other _ _ (Ne.symm nb)).trans ((Heap.get?_update_other _ _ (Ne.symm nb)).trans e)
  exact (x0.push _).push _
theorem rs_iter {it : Addr} {x : Str} {t : Tok} {i : Int} {Q : Value → Shared → Prop} (hit : IsRs st.heap it x t i) (q : Q (.ref it) st) : wpAny (model prog w) A (pyIter (.ref it)) Q E st := by
  refine wpAny_pyIter_slot hit.ty RT.slot_rt_iter (wpAny_call_entry RT.slot_rt_iter hit.ty RT.entry_rt_iter ?_ (RT.args_rt_iter _))
  exact wpAny_pure (show _ from ⟨_, rfl, "reversed", _, hit.ty, RT.slot_rt_next.lookup, q⟩)
end
/-- the signs of x, the last one first -/
def Itrs (x : Str) : It := ⟨fun i _ => i < x.length, fun i H v H' => H' = H ∧ ∃ c, x.cps[x.length - 1 - i]? = some c ∧ v = .str ⟨#[c]⟩, fun i _ => x.length ≤ i⟩
theorem turn_rs {P : Program} {w : World} {K : PySem.W.Frag} {tg : Expr} (it : Addr) (x : Str) (t : Tok) (hx : x.length ≤ sizeLine) : Turn P w K tg (Itrs x) [it] it (fun i h => i ≤ x.length ∧ IsRs h it x t ((x.length : Int) - 1 - (i : Nat))) where
  mem := by simp
  obj := fun i h z b hb => by
    have e := List.mem_singleton.mp hb
    subst e
    obtain ⟨_, o, e, c, d⟩ := z
    exact ⟨o, e, fun v y => by rw [d] at y; cases y⟩
  keep := fun i h h' z k => by
    obtain ⟨z1, o, e, r⟩ := z
    exact ⟨z1, o, k it (by simp) o e, r⟩
  item := by
    intro X hP hw hK hc i pins s σ H E I hf z hg
    subst hP hw hK
    have hg : i < x.length := hg
    have hlt : x.length - 1 - i < x.cps.size := by show _ < x.length; omega
    obtain ⟨f0, f1, f2, f3, f4, f5⟩ := hf it (by simp)
    obtain ⟨_, z2⟩ := z
    have e1 : (x.length : Int) - 1 - ((i : Nat) : Int) = ((x.length - 1 - i : Nat) : Int) := by omega
    rw [e1] at z2
    refine rs_item z2 (Array.getElem?_eq_getElem hlt) hx fun h' u tk z3 sb => ?_
    have e2 : ((x.length - 1 - i : Nat) : Int) - 1 = (x.length : Int) - 1 - ((i + 1 : Nat) : Int) := by omega
    rw [e2] at z3
    have J : Inv X pins σ H { s with heap := h', toks := tk } := I.turned (fun b o hb e => (sb.2 b hb).trans e) f0 f1 f3 f4 f5
    obtain ⟨o, e, c, d⟩ := id z3
    exact ⟨_, rfl, go_of (s := { s with heap := h', toks := tk }) e c d (by decide) ⟨.str ⟨#[x.cps[x.length - 1 - i]]⟩, H, J, ⟨u, rfl⟩, ⟨rfl, _, Array.getElem?_eq_getElem hlt, rfl⟩, ⟨hg, z3⟩, fun b hb => (hf b hb).1⟩⟩
  done := by
    intro X hP hw hK hc i pins s σ H E I hf z hg
    subst hP hw hK
    have hg : x.length ≤ i := hg
    obtain ⟨f0, f1, f2, f3, f4, f5⟩ := hf it (by simp)
    obtain ⟨z1, z2⟩ := z
    rw [show (x.length : Int) - 1 - ((i : Nat) : Int) = -1 by omega] at z2
    exact rs_end (I.ok.hd hc) z2 fun h' eb => ⟨rfl, I.turned (t' := s.toks) (fun b o hb e => eb b o hb e) f0 f1 f3 f4 f5⟩
  self := fun A i s Q E z q => rs_iter z.2 q
def iRevS (te : TE) : TI := fun σ H R => te σ H fun v H1 => ∃ x, v = .str x ∧ x.length ≤ sizeLine ∧ R (Itrs x) H1
theorem pi_revS {X : Cx} {tg e : Expr} {te : TE} {p pos : Pos} (hg : Gl X "reversed") (hm : X.mg "reversed" = none) (he : PE X e te) (hs : starEach [e] X.env = (false, eval e X.env) :: starEach [] X.env := by rfl) : PI X tg (.Call (.Name "reversed" p) [e] [] pos) (iRevS te) := by
  refine ⟨fun pins s σ H R I h => ?_⟩
  refine Call_ (ld_blt I hg hm PyProof.Rows.boot_reversed (PyProof.Rows.callWith_type1 (args_cons (thn (he.run pins s σ H _ I h) fun u s1 ⟨v, H1, J, r1, q1⟩ => args_nil ?_) hs) hs rfl))
  obtain ⟨x, rfl, hx, q⟩ := q1
  obtain ⟨t, rfl⟩ := r1
  have hx2 := hx
  rw [sizeLine_eq] at hx2
  refine rs_new (by omega) (rs_iter (i := (x.length : Int) - 1) ⟨_, Heap.get?_push_size _ rfl, rfl, rfl⟩ ?_)
  refine pi_one (tk := s1.toks + 1 + 1) J _ (turn_rs _ x t hx) ⟨Nat.zero_le _, ?_⟩ q
  exact ⟨_, Heap.get?_push_size _ rfl, rfl, by show Data.fields _ = _; simp⟩
theorem for_revS {x : Str} {g : TG} {tb : TS} {D : Ends} {σ : L2.St} {H : Hp} (Pv : Nat → L2.St → Hp → Prop) (h0 : Pv 0 σ H)
    (hs : ∀ (i c : Nat) (σ : L2.St) (H : Hp), i < x.length → x.cps[x.length - 1 - i]? = some c → Pv i σ H → g (.str ⟨#[c]⟩) σ H fun σ2 H2 => tb { D with nx := Pv (i + 1), ct := Pv (i + 1), bk := D.nx } σ2 H2) (hd : ∀ σ H, Pv x.length σ H → D.nx σ H) :
    ∃ W : Nat → Nat → L2.St → Hp → Prop, (∃ m, W 0 m σ H) ∧ ∀ i m σ H, W i m σ H →
      ((Itrs x).stop i H ∧ D.nx σ H) ∨ ((Itrs x).go i H ∧ ∃ N : L2.St → Hp → Prop, (∀ σ' H', N σ' H' → ∃ m', m' < m ∧ W (i + 1) m' σ' H') ∧ ∀ v H', (Itrs x).yld i H v H' → g v σ H' fun σ2 H2 => tb { D with nx := N, ct := N, bk := D.nx } σ2 H2) := by
  refine ⟨fun i m σ H => m = x.length - i ∧ i ≤ x.length ∧ Pv i σ H, ⟨x.length, rfl, Nat.zero_le _, h0⟩, ?_⟩
  rintro i m σ H ⟨rfl, hi, p⟩
  by_cases hlt : i < x.length
  · refine .inr ⟨hlt, Pv (i + 1), fun σ' H' p' => ⟨x.length - (i + 1), by omega, rfl, hlt, p'⟩, fun v H' y => ?_⟩
    obtain ⟨rfl, c, hc, rfl⟩ := y
    exact hs i c _ _ hlt hc p
  · have e : i = x.length := by omega
    subst e
    exact .inl ⟨Nat.le_refl _, hd _ _ p⟩
end Lf
namespace Lf
open PySem PySem.Spec PyProof.Rows L2
/-! ## list(reversed(a list)) -/
section
variable {prog : Program} {w : World} {A : Around} {E : Value → Shared → Prop} {st : Shared}
theorem list_of_rev {it l : Addr} {items : Array Value} {Q : Value → Shared → Prop} (hh : A.handled = none) (hit : st.heap.IsRevIter it l ((items.size : Int) - 1)) (hl : st.heap.IsList l items) (hne : l ≠ it) (hn : items.size ≤ sizeLine)
    (q : ∀ (h' : Heap) (tk : Nat) (acc : Array Value) (c : Nat), (∀ b o, b ≠ it → st.heap.get? b = some o → h'.get? b = some o) → h'.get? st.heap.objs.size = some { cls := .type "list", dict := none, data := .seq acc c, slots := #[] } →
      ItemsOf (fun i v => items[items.size - 1 - i]? = some v) acc items.size → Q (.ref st.heap.objs.size) { st with heap := h', toks := tk }) : wpAny (model prog w) A (call (.type "list") [.ref it]) Q E st := by
  obtain ⟨oi, hoi, _⟩ := id hit
  obtain ⟨ol, hol, _⟩ := id hl
  have si : st.heap.objs.size ≠ it := Nat.ne_of_gt (Heap.lt_size hoi)
  have sl : st.heap.objs.size ≠ l := Nat.ne_of_gt (Heap.lt_size hol)
  have sf : st.heap.objs.size ∉ [it, l] := by simp only [List.mem_cons, List.not_mem_nil, or_false, not_or]; exact ⟨si, sl⟩
  have W := (Walks.listRev (prog := prog) (w := w) (A := A.in1.in1) hh it l hne items).toS
  refine callType_codes (Q₁ := fun o s1 => o = .ref st.heap.objs.size ∧ s1 = { st with heap := st.heap.push { cls := .type "list", data := .seq #[] } }) F.called_list (F.typeCall_list_1 _) F.entry_list_init (code_list_new _ ⟨rfl, rfl⟩) fun o s1 h1 => ?_
  obtain ⟨rfl, rfl⟩ := h1
  have g0 : (st.heap.push { cls := .type "list", data := .seq #[] }).get? st.heap.objs.size = some { cls := .type "list", data := .seq #[] } := Heap.get?_push_size _ rfl
  refine ⟨⟨_, g0, rfl⟩, F.args_list_init_2 _ _, ?_⟩
  show wpAny _ _ (Builtin.List.listItems (.ref st.heap.objs.size) >>= fun old => Builtin.List.listUpdate (.ref st.heap.objs.size) (fun _ => #[]) >>= fun _ => letGo old.toList.reverse >>= fun _ => Builtin.List.listExtendWith (.ref st.heap.objs.size) (.ref it) .none) _ _ _
  refine wpAny_bind ?_
  unfold Builtin.List.listItems
  refine wpAny_bind (wpAny_seqItems g0 rfl (wpAny_pure ?_))
  refine wpAny_bind (show wpAny _ _ (updateSeq st.heap.objs.size (fun _ => #[])) _ _ _ from wpAny_updateSeq g0 rfl ?_)
  have g1 := Heap.get?_update_self (Obj.mapSeq (fun _ => (#[] : Array Value))) g0 rfl
  have oth : ∀ b o, b ≠ st.heap.objs.size → st.heap.get? b = some o → ((st.heap.push { cls := .type "list", data := .seq #[] }).update st.heap.objs.size (Obj.mapSeq (fun _ => (#[] : Array Value)))).get? b = some o :=
    fun b o nb e => (Heap.get?_update_other _ _ (Ne.symm nb)).trans (Heap.get?_push_of_some _ e)
  refine wpAny_bind (wpAny_letGo ?_)
  have hit1 := hit.at (h' := (st.heap.push { cls := .type "list", data := .seq #[] }).update st.heap.objs.size (Obj.mapSeq (fun _ => (#[] : Array Value)))) fun o e => oth it o si.symm e
  have hl1 := hl.at (h' := (st.heap.push { cls := .type "list", data := .seq #[] }).update st.heap.objs.size (Obj.mapSeq (fun _ => (#[] : Array Value)))) fun o e => oth l o sl.symm e
  generalize (st.heap.push { cls := .type "list", data := .seq #[] }).update st.heap.objs.size (Obj.mapSeq (fun _ => (#[] : Array Value))) = hp at g1 oth hit1 hl1 ⊢
  have hT : ({ st with heap := hp } : Shared).TypeIs (.ref it) "list_reverseiterator" := Heap.IsRevIter.typeIs (s := { st with heap := hp }) hit1
  have n1 : Builtin.List.listSameRef (.ref st.heap.objs.size) (.ref it) = false := by simp [Builtin.List.listSameRef, si]
  unfold Builtin.List.listExtendWith
  refine wpAny_bind (wpAny_typeOf hT ?_)
  rw [if_neg (show ¬ _ from by rw [n1]; decide)]
  refine wpAny_bind (wpAny_pyIter_revIter (s := { st with heap := hp }) hit1 ?_)
  refine wpAny_bind (wpAny_holding ?_)
  unfold Builtin.List.listLengthHint
  refine wpAny_bind (wpAny_specialOf hT RT.nolen_lri ?_)
  refine wpAny_bind (show wpAny _ _ (specialOf (Value.ref it) (Str.ofString "__length_hint__")) _ _ _ from wpAny_specialOf hT RT.hint_lri ?_)
  generalize hid : ("list_reverseiterator.__length_hint__" : String) = id0
  wp_delta
  rw [show splitId id0 = some ("list_reverseiterator", "__length_hint__") from by subst hid; decide +kernel]
  subst hid
  refine wpAny_bind (wpAny_isInstance (b := true) hT (by rw [isSubtype_type]; kernel_rfl) (wpAny_pure ?_))
  rw [if_neg (by decide)]
  have e0 : ((items.size : Nat) : Int) - 1 - ((0 : Nat) : Int) = (items.size : Int) - 1 := by omega
  refine wpAny_pure ⟨plainId_quiet F.plain_extend_loop _, ?_⟩
  refine codeAny_extend_loopS W hn _ sf _ items.size 0 _ _ _ rfl (Nat.zero_le _) ⟨Nat.zero_le _, by rw [e0]; exact hit1, hl1⟩ g1 (ItemsOf.nil _) fun s2 acc c hm hS hacc => ?_
  rw [Moved.eq_with hm]
  refine ⟨rfl, q s2.heap s2.toks acc c (fun b o hb e => ?_) hS hacc⟩
  have nb : b ≠ st.heap.objs.size := Nat.ne_of_lt (Heap.lt_size e)
  refine hm.heap b o (fun m => ?_) (oth b o nb e)
  rcases List.mem_cons.mp m with z | z
  · exact nb z
  · exact hb (List.mem_singleton.mp z)
end
def tListRev (K : PySem.W.Frag) (te : TE) : TE := fun σ H Q => te σ H fun v H1 => ∃ (a : Addr) (xs : List V), v = .ref a ∧ SqL K H1 a xs ∧ ∀ q, H1 q = none → Q (.ref q) (upd H1 q (.lst xs.reverse))
theorem pe_listRev {X : Cx} {e : Expr} {te : TE} {p p2 pos pos2 : Pos} (hc : X.calm = true) (hg : Gl X "list") (hm : X.mg "list" = none) (hg2 : Gl X "reversed") (hm2 : X.mg "reversed" = none) (he : PE X e te)
    (na : starEach [e] X.env = (false, eval e X.env) :: starEach [] X.env := by rfl) (nb : starEach [.Call (.Name "reversed" p2) [e] [] pos2] X.env = (false, eval (.Call (.Name "reversed" p2) [e] [] pos2) X.env) :: starEach [] X.env := by rfl) :
    PE X (.Call (.Name "list" p) [.Call (.Name "reversed" p2) [e] [] pos2] [] pos) (tListRev X.K te) := by
  refine ⟨fun pins s σ H Q I h => ?_⟩
  refine Call_ (ld_blt I hg hm boot_list (PyProof.Rows.callWith_type1 (args_cons (Call_ (ld_blt I hg2 hm2 PyProof.Rows.boot_reversed (PyProof.Rows.callWith_type1 (args_cons (thn (he.run pins s σ H _ I h) fun u s1 ⟨v, H1, J, r1, q1⟩ => args_nil ?_) na) na rfl))) nb) nb rfl))
  obtain ⟨a, xs, rfl, hq, q⟩ := q1
  obtain rfl : u = Value.ref a := r1
  obtain ⟨its, rv, p', hz⟩ := J.list hq
  refine call_reversed_list p'.isList (args_nil ?_)
  have hl := p'.isList
  obtain ⟨ol, hol, _⟩ := id hl
  have hne : a ≠ s1.heap.objs.size := Nat.ne_of_lt (Heap.lt_size hol)
  have hn : its.toArray.size ≤ sizeLine := by rw [List.size_toArray, ← rv.length]; exact hz
  refine list_of_rev (st := { s1 with heap := s1.heap.push (revObj a ((its.toArray.size : Int) - 1)) }) (J.ok.hd hc) ⟨_, Heap.get?_push_size _ rfl, rfl, rfl⟩ (hl.push _) hne hn fun h' tk acc c hk hS hi => ?_
  have hsz : (s1.heap.push (revObj a ((its.toArray.size : Int) - 1))).objs.size = s1.heap.objs.size + 1 := Heap.size_push _ _
  have hS2 : h'.get? (s1.heap.objs.size + 1) = some { cls := .type "list", dict := none, data := .seq acc c, slots := #[] } := by rw [← hsz]; exact hS
  have K1 : ∀ b o, s1.heap.get? b = some o → h'.get? b = some o := fun b o e => hk b o (Nat.ne_of_lt (Heap.lt_size e)) (Heap.get?_push_of_some _ e)
  refine ⟨.ref (s1.heap.objs.size + 1), upd H1 (s1.heap.objs.size + 1) (.lst xs.reverse), J.laid (t' := tk) K1 (Nat.le_succ _) (show ObjOk X.prog X.w _ _ _ (.lst xs.reverse) from ⟨by rw [List.length_reverse]; exact hz, acc.toList, c, RT.vals_rev rv hi, ?_⟩), ?_, q _ (J.hok.fresh (Nat.le_succ _))⟩
  · rw [Array.toArray_toList]; exact hS2
  · show Value.ref _ = Value.ref _
    rw [← hsz]
end Lf

/-! # LfUpd -/
set_option Elab.async false
set_option linter.all false
set_option maxRecDepth 100000
set_option maxHeartbeats 4000000
namespace Lf
open PySem PySem.Spec PyProof.Rows L2
/-! ## d.update(e), two dicts -/
def mrg {κ : Type} [DecidableEq κ] (kvs more : List (κ × V)) : List (κ × V) := more.foldl (fun acc p => putK acc p.1 p.2) kvs
theorem KV.mrg {κ : Type} [DecidableEq κ] {more : List (κ × V)} {vm : List (κ × Value)} (rm : KV more vm) : ∀ {kvs : List (κ × V)} {vs : List (κ × Value)}, KV kvs vs → KV (Lf.mrg kvs more) (merged vs vm) := by
  unfold KV at rm
  induction rm with
  | nil => intro kvs vs r; exact r
  | @cons p q ps qs z _ ih =>
    intro kvs vs r
    have e := z.1
    have := r.put p.1 z.2
    show KV (Lf.mrg (putK kvs p.1 p.2) ps) (merged (stored vs q.1 q.2) qs)
    rw [← e]
    exact ih this
theorem mrg_len {κ : Type} [DecidableEq κ] : ∀ (more kvs : List (κ × V)), (mrg kvs more).length ≤ kvs.length + more.length
  | [], kvs => Nat.le_refl _
  | p :: more, kvs => by
    have h1 := mrg_len more (putK kvs p.1 p.2)
    have h2 := length_putK kvs p.1 p.2
    show (mrg (putK kvs p.1 p.2) more).length ≤ _
    rw [List.length_cons]; omega
theorem mrg_val {κ : Type} [DecidableEq κ] (k : κ) : ∀ (more kvs : List (κ × V)), ((valV (mrg kvs more) k).isSome = true) ↔ ((valV kvs k).isSome = true ∨ (valV more k).isSome = true)
  | [], kvs => by simp [mrg, valV]
  | p :: more, kvs => by
    have ih := mrg_val k more (putK kvs p.1 p.2)
    show (valV (mrg (putK kvs p.1 p.2) more) k).isSome = true ↔ _
    rw [ih, valV_put]
    by_cases e : k = p.1
    · rw [if_pos e, valV_pos e.symm]; simp
    · rw [if_neg e, valV_neg (fun z => e z.symm)]
def rDUpd : V → List V → Hp → VK → Prop := fun x vs H Q => ∃ (a b : Addr) (kvs more : List (Key × V)), x = .ref a ∧ vs = [.ref b] ∧ a ≠ b ∧ H a = some (.dK kvs) ∧ H b = some (.dK more) ∧ kvs.length + more.length ≤ sizeLine ∧ Q .non (upd H a (.dK (mrg kvs more)))
theorem mt_dupd {X : Cx} : MtR X "dict.update" rDUpd := by
  intro pins st σ H x vs v us Q I rx rv h
  obtain ⟨a, b, kvs, more, rfl, rfl, ne, ea, eb, hl, q⟩ := h
  obtain rfl : v = Value.ref a := rx
  obtain ⟨u, rfl, ru⟩ := rv.one
  obtain rfl : u = Value.ref b := ru
  obtain ⟨z, hd, ws, rel, dd⟩ := dk_of I.hok ea
  obtain ⟨z2, hd2, wm, rel2, dd2⟩ := dk_of I.hok eb
  have l1 := rel.length
  have l2 := rel2.length
  refine call_meetsIn PySem.F.slot_dict_update dd.typeIs PySem.F.entry_dict_update (PySem.F.args_dict_update_2 _ _) (meets_dict_update (mixKind X.prog X.w) a b ne hd2) ⟨ws, wm, dd, dd2, by omega, fun h' d1 _ sb => ?_⟩
  have he : ∃ y, h'.get? a = some y := by
    obtain ⟨y, _, _, hy, _⟩ := d1
    exact ⟨y, hy⟩
  exact ⟨.non, _, d_write (t' := st.toks) I (by rw [ea]; exact True.intro) sb he (dk_new (Nat.le_trans (mrg_len _ _) hl) hd (KV.mrg rel2 rel) d1), rfl, q⟩
end Lf

/-! # LfMir -/
set_option Elab.async false
set_option linter.all false
set_option maxRecDepth 100000
set_option maxHeartbeats 4000000
namespace Lf
open PySem L2

/-! ## the draws -/
def cellAt (ns : List Int) (k : Int) : Int := if k < (ns.length : Int) then ns.getD k.toNat 0 else 0
def draw (ns : List Int) (k : Int) : Int :=
  ((cellAt ns (k % 61) + 7919 * k + 104729) * 48271 % 2147483647 * ((cellAt ns (k % 61) + 7919 * k + 104729) * 48271 % 2147483647)) % 2147483647 * 16807 % 2147483647 / 8
theorem draw_nn (ns : List Int) (k : Int) : 0 ≤ draw ns k := by unfold draw; omega
theorem draw_lt (ns : List Int) (k : Int) : draw ns k < 268435456 := by unfold draw; omega
def sgL : List Str := ["a", "ab", "abc", "b", "0123456789", "xyz-", "ba ", "Zz.", "c,", "\n/"]
def sayL : List Str := ["x", "ab", "-", ": ", "a", ", ", "Dear ", "\n", "b", "ba", "(0)", "c;c"]
def nmI : List Str := ["who", "day", "w"]
def nmO : List Str := ["who", "w", "day", "first_name = 1?", "whom", "e-mail@"]
def gapL : List Str := ["", ", ", "\n", "a", "--"]
def pick (l : List Str) (c : Int) : Str := l.getD (c % (l.length : Int)).toNat Str.empty

/-! ## pieces -/
inductive P0 where
  | say (t : Str)
  | ask (nm sg : Str) (lo hi : Int)
inductive Pc where
  | p0 (p : P0)
  | rows (nm : Str) (ps : List P0) (gap : Str) (lo hi : Int)
def askP (ns : List Int) (k : Int) (nm : Str) (most : Int) : P0 :=
  .ask nm (pick sgL (draw ns k)) (draw ns k / 10 % (most + 1)) (draw ns k / 10 % (most + 1) + draw ns k / 60 % (most + 1 - draw ns k / 10 % (most + 1)))
def innerAt (ns : List Int) (k most : Int) (j : Nat) : P0 :=
  if draw ns (k + 1 + j) % 3 = 0 then .say (pick sayL (draw ns (k + 5 + j))) else askP ns (k + 9 + j) (nmI.getD j Str.empty) most
def innerP (ns : List Int) (k many most : Int) : List P0 := (List.range (1 + draw ns k % many).toNat).map (innerAt ns k most)
def pieceP (ns : List Int) (k : Int) (nm : Str) (most : Int) : Pc :=
  if draw ns k % 5 < 2 then .p0 (.say (pick sayL (draw ns k / 5)))
  else if draw ns k % 5 < 4 then .p0 (askP ns (k + 1) nm most)
  else .rows nm (innerP ns (k + 2) 3 most) (pick gapL (draw ns k / 5)) (draw ns k / 25 % 4) (draw ns k / 25 % 4 + draw ns k / 100 % (4 - draw ns k / 25 % 4))
def pieceAt (ns : List Int) (most : Int) (k : Nat) : Pc := pieceP ns (10 + 20 * k) (pick nmO (k + draw ns 2)) most
def piecesP (ns : List Int) (many most : Int) : List Pc := (List.range (1 + draw ns 1 % many).toNat).map (pieceAt ns most)

/-! ## how they lie in the heap -/
def P0.vs : P0 → List V
  | .say t => [.str "say", .str t]
  | .ask nm sg lo hi => [.str "ask", .str nm, .str sg, .int lo, .int hi]
def R0 (K : PySem.W.Frag) (G : Hp) (v : V) (p : P0) : Prop := ∃ a, v = .ref a ∧ SqT K G a p.vs
def RP (K : PySem.W.Frag) (G : Hp) (v : V) : Pc → Prop
  | .p0 p => R0 K G v p
  | .rows nm ps gap lo hi => ∃ a l xs, v = .ref a ∧ SqT K G a [.str "rows", .str nm, .ref l, .str gap, .int lo, .int hi] ∧ SqL K G l xs ∧ Paired (R0 K G) xs ps
theorem R0.mono {K : PySem.W.Frag} {G G' : Hp} {v : V} {p : P0} (h : R0 K G v p) (s : Same G G') : R0 K G' v p := by
  obtain ⟨a, e, t⟩ := h; exact ⟨a, e, s.tup t⟩
theorem Paired.monoP {α β : Type} {F F' : α → β → Prop} {xs : List α} {ys : List β} (h : Paired F xs ys) (f : ∀ a b, F a b → F' a b) : Paired F' xs ys := L2.Paired.mapP h f
theorem RP.mono {K : PySem.W.Frag} {G G' : Hp} {v : V} {p : Pc} (h : RP K G v p) (s : Same G G') : RP K G' v p := by
  cases p with
  | p0 p => exact R0.mono h s
  | rows nm ps gap lo hi =>
    obtain ⟨a, l, xs, e, t, q, r⟩ := h
    exact ⟨a, l, xs, e, s.tup t, s.seq q, Paired.monoP r fun _ _ z => z.mono s⟩
theorem Paired.snoc {α β : Type} {F : α → β → Prop} {xs : List α} {ys : List β} {x : α} {y : β} (h : Paired F xs ys) (z : F x y) : Paired F (xs ++ [x]) (ys ++ [y]) := by
  induction h with
  | nil => exact .cons z .nil
  | cons a b ih => exact .cons a ih
theorem map_range_succ {α : Type} (f : Nat → α) (n : Nat) : (List.range (n + 1)).map f = (List.range n).map f ++ [f n] := by
  rw [List.range_succ, List.map_append]; rfl

/-! ## promises -/
section
variable (K : PySem.W.Frag)
def sp__law_cell_at : Sp := fun vs H Q _ => ∃ (a : Addr) (ns : List Int) (k : Int), vs = [.ref a, .int k] ∧ SqL K H a (ns.map V.int) ∧ 0 ≤ k ∧ Q (.int (cellAt ns k)) H
def sp__law_draw : Sp := fun vs H Q _ => ∃ (a : Addr) (ns : List Int) (k : Int), vs = [.ref a, .int k] ∧ SqL K H a (ns.map V.int) ∧ Q (.int (draw ns k)) H
def sp__law_signs (_ : PySem.W.Frag) : Sp := fun vs H Q _ => ∃ (c : Int), vs = [.int c] ∧ RetV H (.str (pick sgL c)) Q
def sp__law_say (_ : PySem.W.Frag) : Sp := fun vs H Q _ => ∃ (c : Int), vs = [.int c] ∧ RetV H (.str (pick sayL c)) Q
def sp__law_ask : Sp := fun vs H Q _ => ∃ (a : Addr) (ns : List Int) (k : Int) (nm : Str) (most : Int) (G : Hp), vs = [.ref a, .int k, .str nm, .int most] ∧ Same G H ∧ SqL K G a (ns.map V.int) ∧ 0 ≤ most ∧
  Ret G H (fun v G' => R0 K G' v (askP ns k nm most)) Q
def sp__law_inner : Sp := fun vs H Q _ => ∃ (a : Addr) (ns : List Int) (k many most : Int) (G : Hp), vs = [.ref a, .int k, .int many, .int most] ∧ Same G H ∧ SqL K G a (ns.map V.int) ∧ 1 ≤ many ∧ many ≤ 3 ∧ 0 ≤ most ∧
  Ret G H (fun v G' => ∃ l xs, v = .ref l ∧ SqL K G' l xs ∧ Paired (R0 K G') xs (innerP ns k many most)) Q
def sp__law_piece : Sp := fun vs H Q _ => ∃ (a : Addr) (ns : List Int) (k : Int) (nm : Str) (most : Int) (G : Hp), vs = [.ref a, .int k, .str nm, .int most] ∧ Same G H ∧ SqL K G a (ns.map V.int) ∧ 0 ≤ most ∧
  Ret G H (fun v G' => RP K G' v (pieceP ns k nm most)) Q
def sp__law_pieces : Sp := fun vs H Q _ => ∃ (a : Addr) (ns : List Int) (many most : Int) (G : Hp), vs = [.ref a, .int many, .int most] ∧ Same G H ∧ SqL K G a (ns.map V.int) ∧ 1 ≤ many ∧ many ≤ 6 ∧ 0 ≤ most ∧
  Ret G H (fun v G' => ∃ l xs, v = .ref l ∧ SqL K G' l xs ∧ Paired (RP K G') xs (piecesP ns many most)) Q
end
theorem pick_at (l : List Str) (c : Int) {n : Int} (h : (l.length : Int) = n) (h0 : 0 < n := by decide) : atI (l.map V.str) (c % n) = some (.str (pick l c)) := by
  subst h
  have h1 := Int.emod_nonneg c (show (l.length : Int) ≠ 0 by omega)
  have h2 := Int.emod_lt_of_pos c h0
  have hj : (c % (l.length : Int)).toNat < l.length := by omega
  refine at_of (j := (c % (l.length : Int)).toNat) (by omega) ?_
  unfold pick
  rw [List.getElem?_map, List.getElem?_eq_getElem hj, List.getD_eq_getElem?_getD, List.getElem?_eq_getElem hj]
  rfl
end Lf

/-! # LfMir2 -/
set_option Elab.async false
set_option linter.all false
set_option maxRecDepth 100000
set_option maxHeartbeats 4000000
namespace Lf
open PySem L2

/-! ## texts -/
def ofL (l : List Nat) : Str := ⟨l.toArray⟩
theorem ofL_snoc (l : List Nat) (c : Nat) : ofL l ++ (⟨#[c]⟩ : Str) = ofL (l ++ [c]) := by
  show (⟨l.toArray ++ #[c]⟩ : Str) = ⟨(l ++ [c]).toArray⟩
  simp
theorem ofL_len (l : List Nat) : (ofL l).length = l.length := by
  show l.toArray.size = l.length
  simp
theorem str_len_app (a b : Str) : (a ++ b).length = a.length + b.length := by
  show (a.cps ++ b.cps).size = a.cps.size + b.cps.size
  simp
theorem ofL_cps (l : List Nat) : (ofL l).cps.toList = l := by
  show l.toArray.toList = l
  simp
theorem str_ext {a b : Str} (h : a.cps.toList = b.cps.toList) : a = b := by
  cases a; cases b; congr 1; exact Array.ext' h
theorem app_cps (a b : Str) : (a ++ b).cps.toList = a.cps.toList ++ b.cps.toList := by
  show (a.cps ++ b.cps).toList = _
  simp
theorem empty_app (a : Str) : Str.empty ++ a = a := str_ext (by rw [app_cps]; rfl)
def Sgs (t : Str) : Prop := ∀ c ∈ t.cps.toList, c ∈ (("abcdefghijklmnopqrstuvwxyzABCDEFGHIJKLMNOPQRSTUVWXYZ0123456789 .,:;-/()\n" : Str)).cps.toList
def SIGNSs : Str := "abcdefghijklmnopqrstuvwxyzABCDEFGHIJKLMNOPQRSTUVWXYZ0123456789 .,:;-/()\n"
def G_SIGNS (mg : Str → Option Value) : Prop := ∃ t, mg "SIGNS" = some (.str ("abcdefghijklmnopqrstuvwxyzABCDEFGHIJKLMNOPQRSTUVWXYZ0123456789 .,:;-/()\n" : Str) t)

/-! ## forms that are good -/
def ok0 : P0 → Prop
  | .say t => 1 ≤ t.length ∧ t.length ≤ 12 ∧ Sgs t
  | .ask nm sg lo hi => nm ≠ Str.empty ∧ 1 ≤ sg.length ∧ sg.length ≤ 20 ∧ Sgs sg ∧ sg.cps.toList.Nodup ∧ 0 ≤ lo ∧ lo ≤ hi ∧ hi ≤ 4
def nm0 : P0 → Option Str
  | .say _ => none
  | .ask nm _ _ _ => some nm
def nmP : Pc → Option Str
  | .p0 p => nm0 p
  | .rows nm _ _ _ _ => some nm
def nms0 (ps : List P0) : List Str := ps.filterMap nm0
def nms (ps : List Pc) : List Str := ps.filterMap nmP
def okP : Pc → Prop
  | .p0 p => ok0 p
  | .rows nm ips gap lo hi => nm ≠ Str.empty ∧ 1 ≤ ips.length ∧ ips.length ≤ 3 ∧ (∀ p ∈ ips, ok0 p) ∧ (nms0 ips).Nodup ∧ gap.length ≤ 5 ∧ Sgs gap ∧ 0 ≤ lo ∧ lo ≤ hi ∧ hi ≤ 3
structure okF (ps : List Pc) : Prop where
  l1 : 1 ≤ ps.length
  l6 : ps.length ≤ 6
  ok : ∀ p ∈ ps, okP p
  nd : (nms ps).Nodup

/-! ## values -/
inductive Vl where
  | tx (s : Str)
  | rws (rs : List (List (Str × Str)))
def look {α : Type} (n : Str) (l : List (Str × α)) : Option α := (l.find? fun p => decide (p.1 = n)).map (·.2)
def fpiece (f : Str → Str) : P0 → Str
  | .say t => t
  | .ask nm _ _ _ => f nm
def lineP (f : Str → Str) (ps : List P0) : Str := ps.foldl (fun t p => t ++ fpiece f p) Str.empty
def wpiece (f : Str → Str) (g : Str → List (Str → Str)) : Pc → Str
  | .p0 p => fpiece f p
  | .rows nm ips gap _ _ => Txt.join gap ((g nm).map fun r => lineP r ips)
def writtenP (f : Str → Str) (g : Str → List (Str → Str)) (ps : List Pc) : Str := ps.foldl (fun t p => t ++ wpiece f g p) Str.empty
def rowf (r : List (Str × Str)) (n : Str) : Str := (look n r).getD Str.empty
def fv (vals : List (Str × Vl)) (n : Str) : Str := match look n vals with
  | some (.tx s) => s
  | _ => Str.empty
def gv (vals : List (Str × Vl)) (n : Str) : List (Str → Str) := match look n vals with
  | some (.rws rs) => rs.map rowf
  | _ => []
def fit0 (sg : Str) (lo hi : Int) (s : Str) : Prop := lo ≤ s.length ∧ s.length ≤ hi ∧ ∀ c ∈ s.cps.toList, c ∈ sg.cps.toList
def fits0 (r : List (Str × Str)) : P0 → Prop
  | .say _ => True
  | .ask nm sg lo hi => ∃ s, look nm r = some s ∧ fit0 sg lo hi s
def fitsP (vals : List (Str × Vl)) : Pc → Prop
  | .p0 (.say _) => True
  | .p0 (.ask nm sg lo hi) => ∃ s, look nm vals = some (.tx s) ∧ fit0 sg lo hi s
  | .rows nm ips _ lo hi => ∃ rs, look nm vals = some (.rws rs) ∧ lo ≤ rs.length ∧ rs.length ≤ hi ∧ ∀ r ∈ rs, ∀ p ∈ ips, fits0 r p
def wordL (ns : List Int) (k : Int) (sg : Str) (lo hi : Int) : List Nat :=
  (List.range (lo + draw ns k % (hi - lo + 1)).toNat).map fun (j : Nat) => sg.cps.getD (draw ns (k + 1 + j) % (sg.length : Int)).toNat 0
def wordP (ns : List Int) (k : Int) (sg : Str) (lo hi : Int) : Str := ofL (wordL ns k sg lo hi)
def rowEl (ns : List Int) (k : Int) (j : Nat) : Option P0 → Option (Str × Str)
  | some (.ask nm sg lo hi) => some (nm, wordP ns (k + 6 * j) sg lo hi)
  | _ => none
def rowP (ns : List Int) (k : Int) (ps : List P0) : List (Str × Str) := (List.range ps.length).filterMap fun j => rowEl ns k j ps[j]?
def valEl (ns : List Int) (start : Int) (k : Nat) : Option Pc → Option (Str × Vl)
  | some (.p0 (.ask nm sg lo hi)) => some (nm, .tx (wordP ns (start + 90 * k) sg lo hi))
  | some (.rows nm ips _ lo hi) => some (nm, .rws ((List.range (lo + draw ns (start + 90 * k) % (hi - lo + 1)).toNat).map fun (j : Nat) => rowP ns (start + 90 * k + 1 + 25 * j) ips))
  | _ => none
def valuesP (ns : List Int) (start : Int) (ps : List Pc) : List (Str × Vl) := (List.range ps.length).filterMap fun k => valEl ns start k ps[k]?

/-! ## how values lie in the heap -/
def rowK (r : List (Str × Str)) : List (Key × V) := r.map fun p => (Sum.inr p.1, V.str p.2)
def RD (G : Hp) (v : V) (r : List (Str × Str)) : Prop := ∃ d, v = .ref d ∧ G d = some (.dK (rowK r))
def RVl (K : PySem.W.Frag) (G : Hp) (v : V) : Vl → Prop
  | .tx s => v = .str s
  | .rws rs => ∃ l xs, v = .ref l ∧ SqL K G l xs ∧ Paired (RD G) xs rs
def RKv (K : PySem.W.Frag) (G : Hp) (p : Key × V) (q : Str × Vl) : Prop := p.1 = Sum.inr q.1 ∧ RVl K G p.2 q.2
def RV (K : PySem.W.Frag) (G : Hp) (v : V) (vals : List (Str × Vl)) : Prop := ∃ d kvs, v = .ref d ∧ G d = some (.dK kvs) ∧ Paired (RKv K G) kvs vals
theorem RD.mono {G G' : Hp} {v : V} {r : List (Str × Str)} (h : RD G v r) (s : Same G G') : RD G' v r := by
  obtain ⟨d, e, q⟩ := h; exact ⟨d, e, s _ _ q⟩
theorem RVl.mono {K : PySem.W.Frag} {G G' : Hp} {v : V} {vl : Vl} (h : RVl K G v vl) (s : Same G G') : RVl K G' v vl := by
  cases vl with
  | tx t => exact h
  | rws rs => obtain ⟨l, xs, e, q, p⟩ := h; exact ⟨l, xs, e, s.seq q, Paired.monoP p fun _ _ z => z.mono s⟩
theorem RKv.mono {K : PySem.W.Frag} {G G' : Hp} {p : Key × V} {q : Str × Vl} (h : RKv K G p q) (s : Same G G') : RKv K G' p q := ⟨h.1, h.2.mono s⟩
theorem RV.mono {K : PySem.W.Frag} {G G' : Hp} {v : V} {vals : List (Str × Vl)} (h : RV K G v vals) (s : Same G G') : RV K G' v vals := by
  obtain ⟨d, kvs, e, q, p⟩ := h; exact ⟨d, kvs, e, s _ _ q, Paired.monoP p fun _ _ z => z.mono s⟩
theorem val_row (r : List (Str × Str)) (n : Str) : valV (rowK r) (Sum.inr n : Key) = (look n r).map V.str := by
  induction r with
  | nil => rfl
  | cons p r ih =>
    unfold rowK look at *
    rw [List.map_cons]
    by_cases e : p.1 = n
    · rw [valV_pos (by rw [e]), List.find?_cons, decide_eq_true e]; rfl
    · rw [valV_neg (by intro q; exact e (Sum.inr.inj q)), ih, List.find?_cons, decide_eq_false e]
theorem val_RV {K : PySem.W.Frag} {G : Hp} {kvs : List (Key × V)} {vals : List (Str × Vl)} (h : Paired (RKv K G) kvs vals) (n : Str) :
    (∀ vl, look n vals = some vl → ∃ v, valV kvs (Sum.inr n : Key) = some v ∧ RVl K G v vl) ∧ (look n vals = none → valV kvs (Sum.inr n : Key) = none) := by
  induction h with
  | nil => exact ⟨fun _ e => (by cases e), fun _ => rfl⟩
  | @cons p q ps qs z _ ih =>
    obtain ⟨e1, e2⟩ := z
    unfold look at *
    rw [List.find?_cons]
    by_cases e : q.1 = n
    · rw [decide_eq_true e]
      have ek : p.1 = (Sum.inr n : Key) := by rw [e1, e]
      rw [valV_pos ek]
      exact ⟨fun vl h => ⟨p.2, rfl, by cases h; exact e2⟩, fun h => (by cases h)⟩
    · rw [decide_eq_false e]
      have ek : ¬ p.1 = (Sum.inr n : Key) := by rw [e1]; intro q; exact e (Sum.inr.inj q)
      rw [valV_neg ek]
      exact ih

/-! ## what stands in a form -/
/-- a piece, its inner pieces named -/
def RPi (K : PySem.W.Frag) (G : Hp) (v : V) (items : List V) : Pc → Prop
  | .p0 p => R0 K G v p
  | .rows nm ips gap lo hi => ∃ a l, v = .ref a ∧ SqT K G a [.str "rows", .str nm, .ref l, .str gap, .int lo, .int hi] ∧ SqL K G l items ∧ Paired (R0 K G) items ips
theorem RP.items {K : PySem.W.Frag} {G : Hp} {v : V} {p : Pc} (h : RP K G v p) : ∃ items, RPi K G v items p := by
  cases p with
  | p0 p => exact ⟨[], h⟩
  | rows nm ips gap lo hi => obtain ⟨a, l, xs, h1, h2, h3, h4⟩ := h; exact ⟨xs, a, l, h1, h2, h3, h4⟩
theorem RPi.mono {K : PySem.W.Frag} {G G' : Hp} {v : V} {items : List V} {p : Pc} (h : RPi K G v items p) (s : Same G G') : RPi K G' v items p := by
  cases p with
  | p0 p => exact R0.mono h s
  | rows nm ips gap lo hi => obtain ⟨a, l, h1, h2, h3, h4⟩ := h; exact ⟨a, l, h1, s.tup h2, s.seq h3, Paired.monoP h4 fun _ _ z => z.mono s⟩
def CopyR (H H' : Hp) (y z : V) (items : List V) : Pc → Prop
  | .p0 _ => z = y
  | .rows nm _ gap lo hi => ∃ t n, z = .ref t ∧ H t = none ∧ H' t = some (.tup [.str "rows", .str nm, .ref n, .str gap, .int lo, .int hi]) ∧ H n = none ∧ H' n = some (.lst items)
theorem CopyR.mono {H H' H2 : Hp} {y z : V} {items : List V} {p : Pc} (h : CopyR H H' y z items p) (s : Same H' H2) : CopyR H H2 y z items p := by
  cases p with
  | p0 p => exact h
  | rows nm ips gap lo hi =>
    obtain ⟨t, n, h5, h6, h7, h8, h9⟩ := h
    exact ⟨t, n, h5, h6, s _ _ h7, h8, s _ _ h9⟩
/-- the heap without some things -/
def hide (H : Hp) (l : List Addr) : Hp := fun a => if a ∈ l then none else H a
theorem hide_in {H : Hp} {l : List Addr} {a : Addr} (h : a ∈ l) : hide H l a = none := by unfold hide; rw [if_pos h]
theorem hide_out {H : Hp} {l : List Addr} {a : Addr} (h : a ∉ l) : hide H l a = H a := by unfold hide; rw [if_neg h]
theorem hide_same (H : Hp) (l : List Addr) : Same (hide H l) H := fun a o e => by
  by_cases h : a ∈ l
  · rw [hide_in h] at e; cases e
  · rw [hide_out h] at e; exact e
theorem hide_keep {H H' : Hp} (k : Keep H H') (l : List Addr) : Same (hide H l) (hide H' l) := fun a o e => by
  by_cases h : a ∈ l
  · rw [hide_in h] at e; cases e
  · rw [hide_out h] at e ⊢; exact k _ _ e
theorem hide_upd {H : Hp} {l : List Addr} {a : Addr} {o : HO} (h : a ∈ l) : hide (upd H a o) l = hide H l := by
  funext b
  by_cases hb : b ∈ l
  · rw [hide_in hb, hide_in hb]
  · rw [hide_out hb, hide_out hb, upd_ne (show b ≠ a from fun e => hb (by rw [e]; exact h))]
theorem hide_of {G H : Hp} {l : List Addr} (s : Same G H) (n : ∀ a ∈ l, G a = none) : Same G (hide H l) := fun a o e => by
  have : a ∉ l := fun m => by rw [n a m] at e; cases e
  rw [hide_out this]; exact s _ _ e
theorem SqT.hide {K : PySem.W.Frag} {H : Hp} {l : List Addr} {a : Addr} {xs : List V} (h : SqT K H a xs) (hl : ∀ b ∈ l, ∃ ys, H b = some (.lst ys)) : SqT K (hide H l) a xs := by
  rcases h with (h | ⟨o, h⟩) | h
  · refine .inl (.inl ?_)
    rw [hide_out fun m => ?_]; exact h
    obtain ⟨ys, e⟩ := hl a m
    rw [h] at e; cases e
  · refine .inl (.inr ⟨o, ?_⟩)
    rw [hide_out fun m => ?_]; exact h
    obtain ⟨ys, e⟩ := hl a m
    rw [h] at e; cases e
  · exact .inr h
theorem R0.hide {K : PySem.W.Frag} {H : Hp} {l : List Addr} {v : V} {p : P0} (h : R0 K H v p) (hl : ∀ b ∈ l, ∃ ys, H b = some (.lst ys)) : R0 K (hide H l) v p := by
  obtain ⟨a, e, t⟩ := h; exact ⟨a, e, SqT.hide t hl⟩
theorem CopyR.hide {H0 H H' : Hp} {y z : V} {items : List V} {p : Pc} {l : List Addr} (h : CopyR H H' y z items p) (k : Keep H0 H) (hl : ∀ a ∈ l, H a ≠ none) : CopyR H0 (hide H' l) y z items p := by
  cases p with
  | p0 p => exact h
  | rows nm ips gap lo hi =>
    obtain ⟨t, n, h5, h6, h7, h8, h9⟩ := h
    exact ⟨t, n, h5, k.free h6, by rw [hide_out fun m => hl _ m h6]; exact h7, k.free h8, by rw [hide_out fun m => hl _ m h8]; exact h9⟩
def CopyE (K : PySem.W.Frag) (H H' : Hp) (y z : V) (p : Pc) : Prop := ∃ items, RPi K H y items p ∧ CopyR H H' y z items p
theorem CopyE.rp {K : PySem.W.Frag} {H H' : Hp} {y z : V} {p : Pc} (h : CopyE K H H' y z p) (k : Keep H H') : RP K H' z p := by
  obtain ⟨items, h1, h2⟩ := h
  cases p with
  | p0 p => have e : z = y := h2; subst e; exact R0.mono h1 k.same
  | rows nm ips gap lo hi =>
    obtain ⟨a, l, _, _, _, h4⟩ := h1
    obtain ⟨t, n, h5, h6, h7, h8, h9⟩ := h2
    exact ⟨t, n, items, h5, SqT.of h7, SqL.of h9, Paired.monoP h4 fun _ _ z => z.mono k.same⟩
def FormAt (K : PySem.W.Frag) (G : Hp) (x : Addr) (ps : List Pc) : Prop :=
  ∃ C dx f zs, Cls K C ∧ NoAttr K C "pieces" ∧ G x = some (.ins C dx (putF "pieces" (.ref f) [])) ∧ SqL K G f zs ∧ Paired (RP K G) zs ps
theorem FormAt.mono {K : PySem.W.Frag} {G G' : Hp} {x : Addr} {ps : List Pc} (h : FormAt K G x ps) (s : Same G G') : FormAt K G' x ps := by
  obtain ⟨C, dx, f, zs, h1, h2, h3, h4, h5⟩ := h
  exact ⟨C, dx, f, zs, h1, h2, s _ _ h3, s.seq h4, Paired.monoP h5 fun _ _ z => z.mono s⟩
def AsksIn (kvs : List (Key × V)) (f : Str → Str) (ps : List P0) : Prop := ∀ nm sg lo hi, P0.ask nm sg lo hi ∈ ps → valV kvs (Sum.inr nm : Key) = some (.str (f nm))
def AsksFit (f : Str → Str) (ps : List P0) : Prop := ∀ nm sg lo hi, P0.ask nm sg lo hi ∈ ps → fit0 sg lo hi (f nm)

/-! ## lists side by side -/
theorem Paired.at {α β : Type} {F : α → β → Prop} : ∀ {xs : List α} {ys : List β} {i : Nat} {x : α}, Paired F xs ys → xs[i]? = some x → ∃ y, ys[i]? = some y ∧ F x y
  | _, _, _, _, .nil, e => by simp at e
  | _, _, 0, _, .cons r _, e => by simp at e; subst e; exact ⟨_, rfl, r⟩
  | _, _, i + 1, x, .cons _ t, e => by
    obtain ⟨u, h1, h2⟩ := Paired.at (i := i) (x := x) t (by simpa using e)
    exact ⟨u, by simpa using h1, h2⟩
theorem Paired.ats {α β : Type} {F : α → β → Prop} : ∀ {xs : List α} {ys : List β} {i : Nat} {y : β}, Paired F xs ys → ys[i]? = some y → ∃ x, xs[i]? = some x ∧ F x y
  | _, _, _, _, .nil, e => by simp at e
  | _, _, 0, _, .cons r _, e => by simp at e; subst e; exact ⟨_, rfl, r⟩
  | _, _, i + 1, y, .cons _ t, e => by
    obtain ⟨u, h1, h2⟩ := Paired.ats (i := i) (y := y) t (by simpa using e)
    exact ⟨u, by simpa using h1, h2⟩
theorem Paired.len {α β : Type} {F : α → β → Prop} {xs : List α} {ys : List β} (h : Paired F xs ys) : xs.length = ys.length := PySem.Paired.length h
theorem Paired.of_at {α β : Type} {F : α → β → Prop} : ∀ {xs : List α} {ys : List β}, xs.length = ys.length → (∀ (i : Nat) x y, xs[i]? = some x → ys[i]? = some y → F x y) → Paired F xs ys
  | [], [], _, _ => .nil
  | x :: xs, y :: ys, h, f => .cons (f 0 x y rfl rfl) (Paired.of_at (by simpa using h) fun i a b h1 h2 => f (i + 1) a b (by simpa using h1) (by simpa using h2))
  | [], _ :: _, h, _ => by simp at h
  | _ :: _, [], h, _ => by simp at h
theorem take_snoc {α : Type} {l : List α} {i : Nat} {x : α} (h : l[i]? = some x) : l.take (i + 1) = l.take i ++ [x] := by
  rw [List.take_succ, h]; rfl
theorem lineP_snoc (f : Str → Str) {ps : List P0} {i : Nat} {p : P0} (h : ps[i]? = some p) : lineP f (ps.take (i + 1)) = lineP f (ps.take i) ++ fpiece f p := by
  unfold lineP; rw [take_snoc h, List.foldl_append]; rfl
theorem writtenP_snoc (f : Str → Str) (g : Str → List (Str → Str)) {ps : List Pc} {i : Nat} {p : Pc} (h : ps[i]? = some p) : writtenP f g (ps.take (i + 1)) = writtenP f g (ps.take i) ++ wpiece f g p := by
  unfold writtenP; rw [take_snoc h, List.foldl_append]; rfl
theorem mem_at {α : Type} {l : List α} {i : Nat} {x : α} (h : l[i]? = some x) : x ∈ l := List.mem_of_getElem? h
theorem at_lt {α : Type} {l : List α} {i : Nat} {x : α} (h : l[i]? = some x) : i < l.length := (List.getElem?_eq_some_iff.mp h).1
theorem fpiece_le {f : Str → Str} {p : P0} (h : ok0 p) (hf : ∀ nm sg lo hi, p = .ask nm sg lo hi → fit0 sg lo hi (f nm)) : (fpiece f p).length ≤ 12 := by
  cases p with
  | say t => exact h.2.1
  | ask nm sg lo hi =>
    have a := (hf nm sg lo hi rfl).2.1
    obtain ⟨_, _, _, _, _, _, _, b⟩ := h
    show (f nm).length ≤ 12
    omega
theorem lineP_le {f : Str → Str} : ∀ {ps : List P0}, (∀ p ∈ ps, (fpiece f p).length ≤ 12) → ∀ i, (lineP f (ps.take i)).length ≤ 12 * i
  | ps, h, 0 => Nat.le_refl _
  | ps, h, i + 1 => by
    have ih := lineP_le h i
    cases e : ps[i]? with
    | none => rw [List.take_succ, e]; simp; omega
    | some p => rw [lineP_snoc f e, str_len_app]; have := h p (mem_at e); omega
theorem lineP_len {f : Str → Str} {ps : List P0} (h : ∀ p ∈ ps, ok0 p) (hf : AsksFit f ps) (i : Nat) : (lineP f (ps.take i)).length ≤ 12 * i :=
  lineP_le (fun p hp => fpiece_le (h p hp) fun nm sg lo hi e => hf nm sg lo hi (e ▸ hp)) i
theorem lineP_all {f : Str → Str} {ps : List P0} (h : ∀ p ∈ ps, ok0 p) (hf : AsksFit f ps) : (lineP f ps).length ≤ 12 * ps.length := by
  have := lineP_len h hf ps.length
  rwa [List.take_length] at this

/-! ## promises -/
section
variable (K : PySem.W.Frag)
def sp__law_word : Sp := fun vs H Q _ => ∃ (a : Addr) (ns : List Int) (k : Int) (p : Addr) (nm sg : Str) (lo hi : Int), vs = [.ref a, .int k, .ref p] ∧ SqL K H a (ns.map V.int) ∧ SqT K H p (P0.ask nm sg lo hi).vs ∧
  1 ≤ sg.length ∧ sg.length ≤ 20 ∧ 0 ≤ lo ∧ lo ≤ hi ∧ hi ≤ 4 ∧ Q (.str (wordP ns k sg lo hi)) H
def sp__law_row : Sp := fun vs H Q _ => ∃ (a : Addr) (ns : List Int) (k : Int) (l : Addr) (xs : List V) (ps : List P0) (G : Hp), vs = [.ref a, .int k, .ref l] ∧ Same G H ∧ SqL K G a (ns.map V.int) ∧ SqL K G l xs ∧ Paired (R0 K G) xs ps ∧
  (∀ p ∈ ps, ok0 p) ∧ (nms0 ps).Nodup ∧ ps.length ≤ 100 ∧ Ret G H (fun v G' => RD G' v (rowP ns k ps)) Q
def sp__law_values : Sp := fun vs H Q _ => ∃ (a : Addr) (ns : List Int) (start : Int) (l : Addr) (xs : List V) (ps : List Pc) (G : Hp), vs = [.ref a, .int start, .ref l] ∧ Same G H ∧ SqL K G a (ns.map V.int) ∧ SqL K G l xs ∧ Paired (RP K G) xs ps ∧
  okF ps ∧ Ret G H (fun v G' => RV K G' v (valuesP ns start ps)) Q
def sp__law_line : Sp := fun vs H Q _ => ∃ (l : Addr) (xs : List V) (ps : List P0) (d : Addr) (kvs : List (Key × V)) (f : Str → Str), vs = [.ref l, .ref d] ∧ SqL K H l xs ∧ Paired (R0 K H) xs ps ∧ Rd H d (.dK kvs) ∧ AsksIn kvs f ps ∧
  ps.length ≤ 6 ∧ (∀ p ∈ ps, ok0 p) ∧ AsksFit f ps ∧ Q (.str (lineP f ps)) H
def sp__law_written : Sp := fun vs H Q _ => ∃ (l : Addr) (xs : List V) (ps : List Pc) (v : V) (vals : List (Str × Vl)), vs = [.ref l, v] ∧ SqL K H l xs ∧ Paired (RP K H) xs ps ∧ RV K H v vals ∧
  ps.length ≤ 6 ∧ (∀ p ∈ ps, okP p ∧ fitsP vals p) ∧ RetV H (.str (writtenP (fv vals) (gv vals) ps)) Q
def sp_ask_text (_ : PySem.W.Frag) : Sp := fun vs H Q _ => ∃ (t : Str) (lo hi : Int), vs = [.str t, .int lo, .int hi] ∧ lo ≤ t.length ∧ t.length ≤ hi ∧ hi ≤ 100 ∧ Sgs t ∧ Q .non H
def sp_ask_count (_ : PySem.W.Frag) : Sp := fun vs H Q _ => ∃ (a b c : Int), vs = [.int a, .int b, .int c] ∧ 0 ≤ a ∧ a ≤ b ∧ b ≤ c ∧ Q .non H
def sp_look_at_piece : Sp := fun vs H Q _ => ∃ (a nl : Addr) (p : P0) (ns : List Str) (G : Hp), vs = [.ref a, .ref nl] ∧ Same G H ∧ G nl = none ∧ SqT K G a p.vs ∧ H nl = some (.lst (ns.map V.str)) ∧ ns.length ≤ 100 ∧ ok0 p ∧
  (∀ n, nm0 p = some n → n ∉ ns) ∧ ∀ H', (∀ b, b ≠ nl → H' b = H b) → H' nl = some (.lst ((ns ++ nms0 [p]).map V.str)) → Q .non H'
def sp_look_at_rows : Sp := fun vs H Q _ => ∃ (a nl : Addr) (nm : Str) (ips : List P0) (gap : Str) (lo hi : Int) (ns : List Str) (G : Hp), vs = [.ref a, .ref nl] ∧ Same G H ∧ G nl = none ∧ RP K G (.ref a) (.rows nm ips gap lo hi) ∧
  H nl = some (.lst (ns.map V.str)) ∧ ns.length ≤ 100 ∧ okP (.rows nm ips gap lo hi) ∧ nm ∉ ns ∧
  ∀ H', (∀ b o, b ≠ nl → H b = some o → H' b = some o) → H' nl = some (.lst ((ns ++ [nm]).map V.str)) → Q .non H'
def sp_copied : Sp := fun vs H Q _ => ∃ (v : V) (items : List V) (p : Pc), vs = [v] ∧ RPi K H v items p ∧ ∀ z H', Keep H H' → CopyR H H' v z items p → Q z H'
def sp_Form___init__ : Sp := fun vs H Q _ => ∃ (x dx C h : Addr) (ys : List V) (ps : List Pc) (H0 : Hp), vs = [.ref x, .ref h] ∧ H0 x = none ∧ H0 dx = none ∧ dx ≠ x ∧ H = upd (upd H0 dx (.own x)) x (.ins C dx []) ∧
  Cls K C ∧ NoAttr K C "pieces" ∧ SqL K H0 h ys ∧ Paired (RP K H0) ys ps ∧ okF ps ∧
  ∀ f zs H', Keep H0 H' → H' x = some (.ins C dx (putF "pieces" (.ref f) [])) → H0 f = none → H' f = some (.lst zs) → zs.length = ys.length →
    (∀ (i : Nat) y z p, ys[i]? = some y → zs[i]? = some z → ps[i]? = some p → CopyE K H0 H' y z p) → Q .non H'
def sp_names_of : Sp := fun vs H Q _ => ∃ (x : Addr) (ps : List Pc), vs = [.ref x] ∧ FormAt K H x ps ∧ ps.length ≤ 6 ∧ ∀ l H', Keep H H' → H l = none → H' l = some (.lst ((nms ps).map V.str)) → Q (.ref l) H'
def sp_ask_value : Sp := fun vs H Q _ => ∃ (a d : Addr) (nm sg : Str) (lo hi : Int) (kvs : List (Key × V)) (s : Str), vs = [.ref a, .ref d] ∧ SqT K H a (P0.ask nm sg lo hi).vs ∧ Rd H d (.dK kvs) ∧ valV kvs (Sum.inr nm : Key) = some (.str s) ∧
  fit0 sg lo hi s ∧ hi ≤ 100 ∧ Q (.str s) H
def sp_filled0 : Sp := fun vs H Q _ => ∃ (l : Addr) (xs : List V) (ps : List P0) (d : Addr) (kvs : List (Key × V)) (f : Str → Str), vs = [.ref l, .ref d] ∧ SqL K H l xs ∧ Paired (R0 K H) xs ps ∧ Rd H d (.dK kvs) ∧ AsksIn kvs f ps ∧
  ps.length ≤ 6 ∧ (∀ p ∈ ps, ok0 p) ∧ AsksFit f ps ∧ Q (.str (lineP f ps)) H
def sp_rows_filled : Sp := fun vs H Q _ => ∃ (a d : Addr) (nm : Str) (ips : List P0) (gap : Str) (lo hi : Int) (kvs : List (Key × V)) (rv : V) (rs : List (List (Str × Str))), vs = [.ref a, .ref d] ∧ RP K H (.ref a) (.rows nm ips gap lo hi) ∧
  Rd H d (.dK kvs) ∧ valV kvs (Sum.inr nm : Key) = some rv ∧ RVl K H rv (.rws rs) ∧ okP (.rows nm ips gap lo hi) ∧ lo ≤ rs.length ∧ rs.length ≤ hi ∧ (∀ r ∈ rs, ∀ p ∈ ips, fits0 r p) ∧
  RetV H (.str (Txt.join gap (rs.map fun r => lineP (rowf r) ips))) Q
def sp_filled : Sp := fun vs H Q _ => ∃ (l : Addr) (xs : List V) (ps : List Pc) (v : V) (vals : List (Str × Vl)), vs = [.ref l, v] ∧ SqL K H l xs ∧ Paired (RP K H) xs ps ∧ RV K H v vals ∧
  ps.length ≤ 6 ∧ (∀ p ∈ ps, okP p ∧ fitsP vals p) ∧ RetV H (.str (writtenP (fv vals) (gv vals) ps)) Q
def sp_fill : Sp := fun vs H Q _ => ∃ (x : Addr) (ps : List Pc) (v : V) (vals : List (Str × Vl)), vs = [.ref x, v] ∧ FormAt K H x ps ∧ RV K H v vals ∧
  ps.length ≤ 6 ∧ (∀ p ∈ ps, okP p ∧ fitsP vals p) ∧ RetV H (.str (writtenP (fv vals) (gv vals) ps)) Q
end
end Lf
namespace Lf
open PySem L2
/-- a class whose instances hold pieces -/
def CF (K : PySem.W.Frag) (C : Addr) : Prop := Cls K C ∧ NoAttr K C "pieces"
def sp_law (K : PySem.W.Frag) : Sp := fun vs H Q _ => ∃ (a : Addr) (ns : List Int), vs = [.ref a] ∧ SqL K H a (ns.map V.int) ∧ ∀ H', Q (.bl true) H'
end Lf

/-! # LfRd -/
set_option Elab.async false
set_option linter.all false
set_option maxRecDepth 100000
set_option maxHeartbeats 4000000
namespace Lf
open PySem L2
/-! ## small helps for the readings -/
theorem at_gen {α : Type} {xs : List α} {z : Int} {j : Nat} {v : α} (e : z = (j : Int)) (h : xs[j]? = some v) : atI xs z = some v := by rw [e]; exact atI_nat h
theorem dget_s {H : Hp} {a : Addr} {kvs : List (Key × V)} {nm : Str} {r : Option V} (e : Rd H a (.dK kvs)) (h : valV kvs (Sum.inr nm : Key) = r) : DGet H a (.str nm) r := .inl ⟨kvs, Sum.inr nm, e, rfl, h.symm⟩
theorem dget_i {H : Hp} {a : Addr} {kvs : List (Key × V)} {n : Int} {r : Option V} (e : Rd H a (.dK kvs)) (h : valV kvs (Sum.inl n : Key) = r) : DGet H a (.int n) r := .inl ⟨kvs, Sum.inl n, e, rfl, h.symm⟩
theorem dput_s {H : Hp} {a : Addr} {kvs : List (Key × V)} {nm : Str} {v : V} (e : H a = some (.dK kvs)) (hl : kvs.length < sizeLine) : DPut H a (.str nm) v (upd H a (.dK (putK kvs (Sum.inr nm) v))) := .inl ⟨kvs, Sum.inr nm, e, rfl, hl, rfl⟩
theorem iteEq {A B : Prop} {x : V} (h : A) : if decide (x = x) = true then A else B := by rw [decide_eq_true rfl]; exact iteT h
theorem iteNe {A B : Prop} {x y : V} (hne : x ≠ y) (h : B) : if decide (x = y) = true then A else B := by rw [decide_eq_false hne]; exact iteF h
theorem iteEqN {A B : Prop} {x : V} (h : B) : if (!decide (x = x)) = true then A else B := by rw [decide_eq_true rfl]; exact iteF h
theorem iteNeN {A B : Prop} {x y : V} (hne : x ≠ y) (h : A) : if (!decide (x = y)) = true then A else B := by rw [decide_eq_false hne]; exact iteT h
theorem ask_say : (V.str "ask") ≠ V.str "say" := by decide +kernel
theorem rows_say : (V.str "rows") ≠ V.str "say" := by decide +kernel
theorem say_ask : (V.str "say") ≠ V.str "ask" := by decide +kernel
theorem rows_ask : (V.str "rows") ≠ V.str "ask" := by decide +kernel
theorem say_rows : (V.str "say") ≠ V.str "rows" := by decide +kernel
theorem ask_rows : (V.str "ask") ≠ V.str "rows" := by decide +kernel
theorem iteDT {A B : Prop} {p : Prop} [Decidable p] (hp : p) (h : A) : if decide p = true then A else B := by rw [decide_eq_true hp]; exact iteT h
theorem iteDF {A B : Prop} {p : Prop} [Decidable p] (hp : ¬ p) (h : B) : if decide p = true then A else B := by rw [decide_eq_false hp]; exact iteF h
theorem iteNT {A B : Prop} {b : Bool} (hb : b = true) (h : B) : if (!b) = true then A else B := by subst hb; exact iteF h
theorem iteNF {A B : Prop} {b : Bool} (hb : b = false) (h : A) : if (!b) = true then A else B := by subst hb; exact iteT h
theorem iteBT {A B : Prop} {b : Bool} (hb : b = true) (h : A) : if b = true then A else B := by subst hb; exact iteT h
theorem iteBF {A B : Prop} {b : Bool} (hb : b = false) (h : B) : if b = true then A else B := by subst hb; exact iteF h
theorem look_keys {α : Type} (n : Str) (l : List (Str × α)) : look n l = none ↔ n ∉ l.map (·.1) := by
  induction l with
  | nil => simp [look]
  | cons p r ih =>
    unfold look at *
    rw [List.find?_cons]
    by_cases e : p.1 = n
    · rw [decide_eq_true e]; simp [e]
    · rw [decide_eq_false e, ih, List.map_cons, List.mem_cons, not_or]
      exact ⟨fun h => ⟨fun q => e q.symm, h⟩, fun h => h.2⟩
theorem rowK_snoc (r : List (Str × Str)) (nm w : Str) : rowK (r ++ [(nm, w)]) = rowK r ++ [(Sum.inr nm, V.str w)] := by unfold rowK; rw [List.map_append]; rfl
theorem putK_row {r : List (Str × Str)} {nm w : Str} (h : look nm r = none) : putK (rowK r) (Sum.inr nm : Key) (V.str w) = rowK (r ++ [(nm, w)]) := by
  rw [putK_new _ (by rw [val_row, h]; rfl), rowK_snoc]
theorem filterMap_range_succ {α : Type} (f : Nat → Option α) (n : Nat) : (List.range (n + 1)).filterMap f = (List.range n).filterMap f ++ (f n).toList := by
  rw [List.range_succ, List.filterMap_append]
  cases h : f n <;> simp [h]
theorem nms0_take (ps : List P0) {i : Nat} {p : P0} (h : ps[i]? = some p) : nms0 (ps.take (i + 1)) = nms0 (ps.take i) ++ (nm0 p).toList := by
  unfold nms0; rw [take_snoc h, List.filterMap_append]
  cases e : nm0 p <;> simp [e]
theorem nms_take (ps : List Pc) {i : Nat} {p : Pc} (h : ps[i]? = some p) : nms (ps.take (i + 1)) = nms (ps.take i) ++ (nmP p).toList := by
  unfold nms; rw [take_snoc h, List.filterMap_append]
  cases e : nmP p <;> simp [e]
theorem take_sub {α : Type} (l : List α) (i : Nat) : (l.take i).Sublist l := List.take_sublist i l
theorem nm0_new {ps : List P0} {i : Nat} {p : P0} {n : Str} (nd : (nms0 ps).Nodup) (h : ps[i]? = some p) (hn : nm0 p = some n) : n ∉ nms0 (ps.take i) := by
  have e := nms0_take ps h
  rw [hn] at e
  have s : (nms0 (ps.take (i + 1))).Nodup := nd.sublist ((take_sub ps (i + 1)).filterMap nm0)
  rw [e] at s
  have := (List.nodup_append.mp s).2.2
  intro m
  exact this n m n (by simp) rfl
theorem nm_new {ps : List Pc} {i : Nat} {p : Pc} {n : Str} (nd : (nms ps).Nodup) (h : ps[i]? = some p) (hn : nmP p = some n) : n ∉ nms (ps.take i) := by
  have e := nms_take ps h
  rw [hn] at e
  have s : (nms (ps.take (i + 1))).Nodup := nd.sublist ((take_sub ps (i + 1)).filterMap nmP)
  rw [e] at s
  have := (List.nodup_append.mp s).2.2
  intro m
  exact this n m n (by simp) rfl
theorem row_keys (ns : List Int) (k : Int) (ps : List P0) : ∀ i, i ≤ ps.length → ((List.range i).filterMap fun j => rowEl ns k j ps[j]?).map (·.1) = nms0 (ps.take i)
  | 0, _ => rfl
  | i + 1, h => by
    have hi : i < ps.length := h
    have e : ps[i]? = some ps[i] := List.getElem?_eq_getElem hi
    rw [filterMap_range_succ, List.map_append, row_keys ns k ps i (Nat.le_of_lt hi), nms0_take ps e, e]
    cases ps[i] <;> rfl
theorem val_keys (ns : List Int) (s : Int) (ps : List Pc) : ∀ i, i ≤ ps.length → ((List.range i).filterMap fun k => valEl ns s k ps[k]?).map (·.1) = nms (ps.take i)
  | 0, _ => rfl
  | i + 1, h => by
    have hi : i < ps.length := h
    have e : ps[i]? = some ps[i] := List.getElem?_eq_getElem hi
    rw [filterMap_range_succ, List.map_append, val_keys ns s ps i (Nat.le_of_lt hi), nms_take ps e, e]
    cases q : ps[i] with
    | p0 p => cases p <;> rfl
    | rows => rfl
theorem wordL_sz (ns : List Int) (k : Int) (sg : Str) (lo hi : Int) : (wordL ns k sg lo hi).length = (lo + draw ns k % (hi - lo + 1)).toNat := by
  unfold wordL; rw [List.length_map, List.length_range]
theorem word_size {ns : List Int} {k : Int} {lo hi : Int} (h0 : 0 ≤ lo) (h : lo ≤ hi) : lo ≤ lo + draw ns k % (hi - lo + 1) ∧ lo + draw ns k % (hi - lo + 1) ≤ hi := by
  have h1 := Int.emod_nonneg (draw ns k) (show hi - lo + 1 ≠ 0 by omega)
  have h2 := Int.emod_lt_of_pos (draw ns k) (show 0 < hi - lo + 1 by omega)
  omega
theorem small_line {n : Nat} (h : n ≤ 100000) : n ≤ sizeLine := Nat.le_trans h (by decide)

/-! ## sizes of what is written -/
theorem row_fits {r : List (Str × Str)} {ips : List P0} (h : ∀ p ∈ ips, fits0 r p) : AsksFit (rowf r) ips ∧ AsksIn (rowK r) (rowf r) ips := by
  refine ⟨fun nm sg lo hi hp => ?_, fun nm sg lo hi hp => ?_⟩
  · obtain ⟨s, e, f⟩ := h _ hp
    unfold rowf; rw [e]; exact f
  · obtain ⟨s, e, f⟩ := h _ hp
    rw [val_row, e]; unfold rowf; rw [e]; rfl
theorem sum_le_of {n : Nat} : ∀ {l : List Nat}, (∀ x ∈ l, x ≤ n) → l.sum ≤ n * l.length
  | [], _ => by simp
  | a :: r, h => by
    have ih := sum_le_of (n := n) (l := r) fun x hx => h x (List.mem_cons_of_mem _ hx)
    have := h a List.mem_cons_self
    rw [List.sum_cons, List.length_cons, Nat.mul_succ]; omega
theorem join_le {gap : Str} {ts : List Str} (h : ∀ t ∈ ts, t.length ≤ 36) (hn : ts.length ≤ 3) (hg : gap.length ≤ 5) :
    (ts.map (·.length)).sum + ts.length * gap.length ≤ 123 ∧ (Txt.join gap ts).length ≤ 123 := by
  have h1 : (ts.map (·.length)).sum ≤ 36 * (ts.map (·.length)).length := sum_le_of fun x hx => by
    obtain ⟨t, ht, rfl⟩ := List.mem_map.mp hx; exact h t ht
  rw [List.length_map] at h1
  have h2 : ts.length * gap.length ≤ 3 * 5 := Nat.mul_le_mul hn hg
  have h3 := StrLaws.join_length_le gap ts
  have h4 : Txt.join gap ts = Str.join gap ts := StrLaws.glued_eq_join gap ts
  rw [h4]
  omega
theorem rows_lines_le {ips : List P0} {rs : List (List (Str × Str))} (ok : ∀ p ∈ ips, ok0 p) (l3 : ips.length ≤ 3) (hf : ∀ r ∈ rs, ∀ p ∈ ips, fits0 r p) : ∀ t ∈ rs.map (fun r => lineP (rowf r) ips), t.length ≤ 36 := fun t ht => by
  obtain ⟨r, hr, rfl⟩ := List.mem_map.mp ht
  have := lineP_all ok (row_fits (hf r hr)).1
  omega
theorem gv_rows {vals : List (Str × Vl)} {nm : Str} {rs : List (List (Str × Str))} (h : look nm vals = some (.rws rs)) (ips : List P0) : (gv vals nm).map (fun r => lineP r ips) = rs.map fun r => lineP (rowf r) ips := by
  unfold gv; rw [h]; simp
theorem fv_tx {vals : List (Str × Vl)} {nm s : Str} (h : look nm vals = some (.tx s)) : fv vals nm = s := by unfold fv; rw [h]
theorem wpiece_le {vals : List (Str × Vl)} {p : Pc} (ok : okP p) (hf : fitsP vals p) : (wpiece (fv vals) (gv vals) p).length ≤ 123 := by
  cases p with
  | p0 p =>
    cases p with
    | say t => have := ok.2.1; show t.length ≤ 123; omega
    | ask nm sg lo hi =>
      obtain ⟨s, e, f⟩ := hf
      obtain ⟨_, _, _, _, _, _, _, h4⟩ := ok
      show (fv vals nm).length ≤ 123
      rw [fv_tx e]
      have := f.2.1
      omega
  | rows nm ips gap lo hi =>
    obtain ⟨rs, e, f1, f2, f3⟩ := hf
    obtain ⟨_, _, l3, ok, _, g5, _, _, _, h3⟩ := ok
    show (Txt.join gap ((gv vals nm).map fun r => lineP r ips)).length ≤ 123
    rw [gv_rows e]
    exact (join_le (rows_lines_le ok l3 f3) (by rw [List.length_map]; omega) g5).2
theorem writtenP_len {vals : List (Str × Vl)} : ∀ {ps : List Pc}, (∀ p ∈ ps, okP p ∧ fitsP vals p) → ∀ i, (writtenP (fv vals) (gv vals) (ps.take i)).length ≤ 123 * i
  | ps, h, 0 => Nat.le_refl _
  | ps, h, i + 1 => by
    have ih := writtenP_len h i
    cases e : ps[i]? with
    | none => rw [List.take_succ, e]; simp; omega
    | some p => rw [writtenP_snoc _ _ e, str_len_app]; have := wpiece_le (h p (mem_at e)).1 (h p (mem_at e)).2; omega
theorem map_take_succ {α β : Type} (f : α → β) {l : List α} {i : Nat} {x : α} (h : l[i]? = some x) : (l.take (i + 1)).map f = (l.take i).map f ++ [f x] := by rw [take_snoc h, List.map_append]; rfl
theorem lineP_one (f : Str → Str) (p : P0) : lineP f [p] = fpiece f p := empty_app _
theorem look_fit {vals : List (Str × Vl)} {K : PySem.W.Frag} {G : Hp} {kvs : List (Key × V)} (h : Paired (RKv K G) kvs vals) {p : P0} (hf : fitsP vals (.p0 p)) : AsksIn kvs (fv vals) [p] ∧ AsksFit (fv vals) [p] := by
  cases p with
  | say t => exact ⟨fun nm sg lo hi hp => by simp at hp, fun nm sg lo hi hp => by simp at hp⟩
  | ask nm0 sg0 lo0 hi0 =>
    obtain ⟨s, e, f⟩ := hf
    obtain ⟨v, e2, r⟩ := (val_RV h nm0).1 _ e
    have ev : v = .str s := r
    refine ⟨fun nm sg lo hi hp => ?_, fun nm sg lo hi hp => ?_⟩
    · simp at hp; obtain ⟨rfl, rfl, rfl, rfl⟩ := hp; rw [e2, ev, fv_tx e]
    · simp at hp; obtain ⟨rfl, rfl, rfl, rfl⟩ := hp; rw [fv_tx e]; exact f

/-! ## signs that differ -/
theorem ddS_nodup (l : List Str) (h : l.Nodup) : ddS l = l := by
  have all : ∀ (l acc : List Str), (acc ++ l).Nodup → l.foldl dd1 acc = acc ++ l := by
    intro l
    induction l with
    | nil => intro acc _; simp
    | cons a r ih =>
      intro acc hn
      have hna : acc.any (· == a) = false := by
        rw [Bool.eq_false_iff]
        intro q
        obtain ⟨b, hb, e⟩ := List.any_eq_true.mp q
        have e' : b = a := by simpa using e
        subst e'
        have := (List.nodup_append.mp hn).2.2 b hb b (by simp)
        exact this rfl
      rw [List.foldl_cons]
      have e1 : dd1 acc a = acc ++ [a] := by unfold dd1; rw [hna]; rfl
      rw [e1, ih (acc ++ [a]) (by rw [List.append_assoc]; exact hn), List.append_assoc]
      rfl
  exact all l [] (by simpa using h)
theorem signs_map (z : Str) : (List.range z.cps.size).map (fun i => (⟨#[z.cps.getD i 0]⟩ : Str)) = z.cps.toList.map fun c => (⟨#[c]⟩ : Str) := by
  apply List.ext_getElem?
  intro i
  rw [List.getElem?_map, List.getElem?_map]
  by_cases hi : i < z.cps.size
  · rw [List.getElem?_range hi, Array.getElem?_toList, Array.getElem?_eq_getElem hi]
    show some (⟨#[z.cps.getD i 0]⟩ : Str) = some ⟨#[z.cps[i]]⟩
    rw [Array.getD_eq_getD_getElem?, Array.getElem?_eq_getElem hi]; rfl
  · rw [List.getElem?_eq_none (by simpa using hi), List.getElem?_eq_none (by simpa using hi)]; rfl
theorem one_inj {a b : Nat} (h : (⟨#[a]⟩ : Str) = ⟨#[b]⟩) : a = b := by
  have : #[a] = #[b] := congrArg Str.cps h
  simpa using this
theorem nodup_map_inj {α β : Type} {f : α → β} (hf : ∀ a b, f a = f b → a = b) : ∀ {l : List α}, l.Nodup → (l.map f).Nodup
  | [], _ => List.nodup_nil
  | a :: r, h => by
    rw [List.map_cons, List.nodup_cons]
    obtain ⟨h1, h2⟩ := List.nodup_cons.mp h
    refine ⟨fun m => ?_, nodup_map_inj hf h2⟩
    obtain ⟨b, hb, e⟩ := List.mem_map.mp m
    have := hf _ _ e
    subst this
    exact h1 hb
theorem dd_signs {z : Str} (h : z.cps.toList.Nodup) : (ddAt (fun i => (⟨#[z.cps.getD i 0]⟩ : Str)) z.cps.size).length = z.length := by
  unfold ddAt
  rw [signs_map, ddS_nodup _ (nodup_map_inj (fun _ _ => one_inj) h), List.length_map]
  exact Array.length_toList
theorem inV_strs {n : Str} : ∀ {ns : List Str}, inV (.str n) (ns.map V.str) = decide (n ∈ ns)
  | [] => by simp [inV]
  | m :: r => by
    have ih := inV_strs (n := n) (ns := r)
    rw [List.map_cons]
    unfold inV at *
    simp only [List.any_cons, ih, List.mem_cons]
    by_cases e : n = m
    · subst e; simp [eqV]
    · have e' : ¬ m = n := fun q => e q.symm
      simp [eqV, e, e']
theorem flat_strs (ns : List Str) : (ns.map V.str).all flatV = true := by
  rw [List.all_eq_true]
  intro x hx
  obtain ⟨n, _, rfl⟩ := List.mem_map.mp hx
  rfl
theorem empty_lit : (("" : Str)) = Str.empty := by decide +kernel
theorem str_ne_empty {n : Str} (h : n ≠ Str.empty) : V.str n ≠ V.str "" := fun q => h (by rw [← empty_lit]; exact V.str.inj q)
theorem nat_int_ne {a b : Nat} (h : a = b) : ¬ (V.int (a : Int) ≠ V.int (b : Int)) := by subst h; simp
end Lf

/-! # LfEqP -/
set_option Elab.async false
set_option linter.all false
set_option maxRecDepth 100000
set_option maxHeartbeats 4000000
namespace Lf
open PySem L2
/-! ## == of data without dicts, whatever the texts -/
def rEqP (K : PySem.W.Frag) : R2 := fun x y H Q => ∃ d e : PyData, Dp K H x d ∧ Dp K H y e ∧ d.plain = true ∧ e.plain = true ∧ d.depth ≤ 60 ∧ Q (.bl (PyData.eqv d e)) H
def rNeP (K : PySem.W.Frag) : R2 := fun x y H Q => ∃ d e : PyData, Dp K H x d ∧ Dp K H y e ∧ d.plain = true ∧ e.plain = true ∧ d.depth ≤ 60 ∧ Q (.bl (!PyData.eqv d e)) H
section
variable {X : Cx}
theorem op_eqP {K : PySem.W.Frag} (h : X.K = K) (hu : X.A.units + 64 < cLine) : OpR X (compareOp .Eq) (rEqP K) := by
  subst h
  intro pins s σ H x y v u Q I rx ry h
  obtain ⟨d, e, hd, he, sd, se, dd, q⟩ := h
  obtain ⟨as, r1⟩ := Dp.reads I d x v hd rx
  obtain ⟨bs, r2⟩ := Dp.reads I e y u he ry
  exact SeqAt.eq_plain r1 r2 sd se (by omega) ⟨.bl _, H, I, rfl, q⟩
theorem op_neP {K : PySem.W.Frag} (h : X.K = K) (hu : X.A.units + 64 < cLine) : OpR X (compareOp .NotEq) (rNeP K) := by
  subst h
  intro pins s σ H x y v u Q I rx ry h
  obtain ⟨d, e, hd, he, sd, se, dd, q⟩ := h
  obtain ⟨as, r1⟩ := Dp.reads I d x v hd rx
  obtain ⟨bs, r2⟩ := Dp.reads I e y u he ry
  exact SeqAt.ne_plain r1 r2 sd se (by omega) ⟨.bl _, H, I, rfl, q⟩
end
def P0.dt : P0 → PyData
  | .say t => .tuple [.str "say", .str t]
  | .ask nm sg lo hi => .tuple [.str "ask", .str nm, .str sg, .int lo, .int hi]
def Pc.dt : Pc → PyData
  | .p0 p => p.dt
  | .rows nm ps gap lo hi => .tuple [.str "rows", .str nm, .list (ps.map P0.dt), .str gap, .int lo, .int hi]
theorem dp_all {α : Type} {K : PySem.W.Frag} {G : Hp} {f : α → PyData} {F : V → α → Prop} (h : ∀ v a, F v a → Dp K G v (f a)) {xs : List V} {ys : List α} (p : Paired F xs ys) : DpAll K G xs (ys.map f) := by
  induction p with
  | nil => exact .nil
  | cons a _ ih => exact .cons (h _ _ a) ih
theorem R0.dp {K : PySem.W.Frag} {G : Hp} {v : V} {p : P0} (h : R0 K G v p) : Dp K G v p.dt := by
  obtain ⟨a, rfl, t⟩ := h
  cases p with
  | say t' => exact .tup t (.cons (.str _) (.cons (.str _) .nil))
  | ask nm sg lo hi => exact .tup t (.cons (.str _) (.cons (.str _) (.cons (.str _) (.cons (.int _) (.cons (.int _) .nil)))))
theorem RP.dp {K : PySem.W.Frag} {G : Hp} {v : V} {p : Pc} (h : RP K G v p) : Dp K G v p.dt := by
  cases p with
  | p0 p => exact R0.dp h
  | rows nm ps gap lo hi =>
    obtain ⟨a, l, xs, rfl, t, q, r⟩ := h
    exact .tup t (.cons (.str _) (.cons (.str _) (.cons (.lst q (dp_all (fun _ _ z => R0.dp z) r)) (.cons (.str _) (.cons (.int _) (.cons (.int _) .nil))))))
theorem plain_all {α : Type} {f : α → PyData} (h : ∀ a, (f a).plain = true) : ∀ l : List α, PyData.plainAll (l.map f) = true
  | [] => rfl
  | a :: r => by rw [List.map_cons]; unfold PyData.plainAll; rw [h a, plain_all h r]; rfl
theorem depth_all {α : Type} {f : α → PyData} {n : Nat} (h : ∀ a, (f a).depth ≤ n) : ∀ l : List α, PyData.depthAll (l.map f) ≤ n
  | [] => by rw [List.map_nil]; unfold PyData.depthAll; exact Nat.zero_le _
  | a :: r => by rw [List.map_cons]; unfold PyData.depthAll; exact Nat.max_le.mpr ⟨h a, depth_all h r⟩
theorem P0.plain (p : P0) : p.dt.plain = true := by cases p <;> rfl
theorem Pc.plain (p : Pc) : p.dt.plain = true := by
  cases p with
  | p0 p => exact P0.plain p
  | rows nm ps gap lo hi =>
    have := plain_all P0.plain ps
    simp only [Pc.dt, PyData.plain, PyData.plainAll, this, Bool.and_self]
theorem P0.depth (p : P0) : p.dt.depth ≤ 3 := by cases p <;> (simp only [P0.dt, PyData.depth, PyData.depthAll]; omega)
theorem Pc.depth (p : Pc) : p.dt.depth ≤ 6 := by
  cases p with
  | p0 p => have := P0.depth p; show p.dt.depth ≤ 6; omega
  | rows nm ps gap lo hi =>
    have := depth_all P0.depth ps
    simp only [Pc.dt, PyData.depth, PyData.depthAll]
    omega
def formD (ps : List Pc) : PyData := .list (ps.map Pc.dt)
theorem formD_plain (ps : List Pc) : (formD ps).plain = true := plain_all Pc.plain ps
theorem formD_depth (ps : List Pc) : (formD ps).depth ≤ 60 := by
  have := depth_all Pc.depth ps
  unfold formD
  simp only [PyData.depth]
  omega
theorem formD_refl (ps : List Pc) : PyData.eqv (formD ps) (formD ps) = true := SeqAt.eqv_refl_plain _ (formD_plain ps)
theorem formD_dp {K : PySem.W.Frag} {G : Hp} {l : Addr} {xs : List V} {ps : List Pc} (h : SqL K G l xs) (p : Paired (RP K G) xs ps) : Dp K G (.ref l) (formD ps) := .lst h (dp_all (fun _ _ z => RP.dp z) p)
def strsD (ns : List Str) : PyData := .list (ns.map PyData.str)
theorem strsD_plain (ns : List Str) : (strsD ns).plain = true := plain_all (fun _ => rfl) ns
theorem strsD_depth (ns : List Str) : (strsD ns).depth ≤ 60 := by
  have := depth_all (f := PyData.str) (n := 1) (fun _ => by simp only [PyData.depth]; omega) ns
  unfold strsD
  simp only [PyData.depth]
  omega
theorem strsD_refl (ns : List Str) : PyData.eqv (strsD ns) (strsD ns) = true := SeqAt.eqv_refl_plain _ (strsD_plain ns)
theorem strsD_dp {K : PySem.W.Frag} {G : Hp} {l : Addr} {ns : List Str} (h : SqL K G l (ns.map V.str)) : Dp K G (.ref l) (strsD ns) := by
  refine .lst h ?_
  clear h
  induction ns with
  | nil => exact .nil
  | cons a r ih => exact .cons (.str _) ih
end Lf

/-! # LfMath -/
set_option Elab.async false
set_option linter.all false
set_option maxRecDepth 100000
set_option maxHeartbeats 4000000
namespace Lf
open PySem L2
/-! ## the drawn forms are forms -/
def sgsB (t : Str) : Bool := t.cps.toList.all fun c => decide (c ∈ SIGNSs.cps.toList)
theorem sgs_of {t : Str} (h : sgsB t = true) : Sgs t := fun c hc => of_decide_eq_true (List.all_eq_true.mp h c hc)
def sayB (t : Str) : Bool := decide (1 ≤ t.length) && decide (t.length ≤ 12) && sgsB t
def sgB (t : Str) : Bool := decide (1 ≤ t.length) && decide (t.length ≤ 20) && sgsB t && decide t.cps.toList.Nodup
def gapB (t : Str) : Bool := decide (t.length ≤ 5) && sgsB t
theorem say_all : sayL.all sayB = true := by decide +kernel
theorem sg_all : sgL.all sgB = true := by decide +kernel
theorem gap_all : gapL.all gapB = true := by decide +kernel
theorem pick_mem (l : List Str) (c : Int) (h : 0 < l.length) : pick l c ∈ l := by
  unfold pick
  have h1 := Int.emod_nonneg c (show (l.length : Int) ≠ 0 by omega)
  have h2 := Int.emod_lt_of_pos c (show 0 < (l.length : Int) by omega)
  have hj : (c % (l.length : Int)).toNat < l.length := by omega
  rw [List.getD_eq_getElem?_getD, List.getElem?_eq_getElem hj]
  exact List.getElem_mem hj
theorem say_ok (c : Int) : ok0 (.say (pick sayL c)) := by
  have h := List.all_eq_true.mp say_all _ (pick_mem sayL c (by decide))
  simp only [sayB, Bool.and_eq_true, decide_eq_true_eq] at h
  exact ⟨h.1.1, h.1.2, sgs_of h.2⟩
theorem sg_ok (c : Int) : 1 ≤ (pick sgL c).length ∧ (pick sgL c).length ≤ 20 ∧ Sgs (pick sgL c) ∧ (pick sgL c).cps.toList.Nodup := by
  have h := List.all_eq_true.mp sg_all _ (pick_mem sgL c (by decide))
  simp only [sgB, Bool.and_eq_true, decide_eq_true_eq] at h
  exact ⟨h.1.1.1, h.1.1.2, sgs_of h.1.2, h.2⟩
theorem gap_ok (c : Int) : (pick gapL c).length ≤ 5 ∧ Sgs (pick gapL c) := by
  have h := List.all_eq_true.mp gap_all _ (pick_mem gapL c (by decide))
  simp only [gapB, Bool.and_eq_true, decide_eq_true_eq] at h
  exact ⟨h.1, sgs_of h.2⟩
theorem ask_ok (ns : List Int) (k : Int) {nm : Str} {most : Int} (hn : nm ≠ Str.empty) (h0 : 0 ≤ most) (h4 : most ≤ 4) : ok0 (askP ns k nm most) := by
  obtain ⟨s1, s2, s3, s4⟩ := sg_ok (draw ns k)
  have e1 : 0 ≤ draw ns k / 10 % (most + 1) := Int.emod_nonneg _ (by omega)
  have e2 : draw ns k / 10 % (most + 1) < most + 1 := Int.emod_lt_of_pos _ (by omega)
  have f1 : 0 ≤ draw ns k / 60 % (most + 1 - draw ns k / 10 % (most + 1)) := Int.emod_nonneg _ (by omega)
  have f2 : draw ns k / 60 % (most + 1 - draw ns k / 10 % (most + 1)) < most + 1 - draw ns k / 10 % (most + 1) := Int.emod_lt_of_pos _ (by omega)
  exact ⟨hn, s1, s2, s3, s4, e1, by omega, by omega⟩
theorem nmI_ne : ∀ n ∈ nmI, n ≠ Str.empty := by decide +kernel
theorem nmO_ne : ∀ n ∈ nmO, n ≠ Str.empty := by decide +kernel
theorem nmI_nd : nmI.Nodup := by decide +kernel
theorem nmO_nd : nmO.Nodup := by decide +kernel
theorem getD_mem {l : List Str} {j : Nat} (h : j < l.length) : l.getD j Str.empty ∈ l := by
  rw [List.getD_eq_getElem?_getD, List.getElem?_eq_getElem h]; exact List.getElem_mem h
theorem getD_inj {l : List Str} (nd : l.Nodup) {i j : Nat} (hi : i < l.length) (hj : j < l.length) (e : l.getD i Str.empty = l.getD j Str.empty) : i = j := by
  rw [List.getD_eq_getElem?_getD, List.getD_eq_getElem?_getD, List.getElem?_eq_getElem hi, List.getElem?_eq_getElem hj] at e
  exact (List.getElem_inj nd).mp e
theorem inner_size (ns : List Int) (k : Int) {many : Int} (h1 : 1 ≤ many) (h3 : many ≤ 6) : 1 ≤ (1 + draw ns k % many).toNat ∧ (1 + draw ns k % many).toNat ≤ many.toNat := by
  have d0 : 0 ≤ draw ns k % many := Int.emod_nonneg _ (by omega)
  have d1 : draw ns k % many < many := Int.emod_lt_of_pos _ (by omega)
  omega
theorem inner_len (ns : List Int) (k many most : Int) : (innerP ns k many most).length = (1 + draw ns k % many).toNat := by unfold innerP; rw [List.length_map, List.length_range]
theorem innerAt_ok (ns : List Int) (k : Int) {most : Int} (h0 : 0 ≤ most) (h4 : most ≤ 4) {j : Nat} (hj : j < 3) : ok0 (innerAt ns k most j) := by
  unfold innerAt
  split
  · exact say_ok _
  · exact ask_ok ns _ (nmI_ne _ (getD_mem hj)) h0 h4
theorem innerAt_nm (ns : List Int) (k most : Int) (j : Nat) : nm0 (innerAt ns k most j) = none ∨ nm0 (innerAt ns k most j) = some (nmI.getD j Str.empty) := by
  unfold innerAt
  split
  · exact .inl rfl
  · exact .inr rfl
/-- names of different places differ -/
theorem nodup_names {α : Type} (f : Nat → Option α) (g : Nat → α) (n : Nat) (hf : ∀ i, i < n → f i = none ∨ f i = some (g i)) (hg : ∀ i j, i < n → j < n → g i = g j → i = j) : ((List.range n).filterMap f).Nodup := by
  induction n with
  | zero => exact List.nodup_nil
  | succ n ih =>
    have ih := ih (fun i hi => hf i (by omega)) (fun i j hi hj => hg i j (by omega) (by omega))
    rw [filterMap_range_succ]
    rcases hf n (Nat.lt_succ_self n) with e | e
    · rw [e]; simpa using ih
    · rw [e]
      rw [List.nodup_append]
      refine ⟨ih, by simp, fun a ha b hb => ?_⟩
      simp at hb
      subst hb
      obtain ⟨i, hi, e2⟩ := List.mem_filterMap.mp ha
      have hin := List.mem_range.mp hi
      rcases hf i (by omega) with z | z
      · rw [z] at e2; cases e2
      · rw [z] at e2; cases e2
        intro q
        have := hg i n (by omega) (by omega) q
        omega
theorem inner_nd (ns : List Int) (k many most : Int) (h : (1 + draw ns k % many).toNat ≤ 3) : (nms0 (innerP ns k many most)).Nodup := by
  unfold nms0 innerP
  rw [List.filterMap_map]
  exact nodup_names (nm0 ∘ innerAt ns k most) (fun j => nmI.getD j Str.empty) _ (fun i _ => innerAt_nm ns k most i) fun i j hi hj e => getD_inj nmI_nd (by show i < 3; omega) (by show j < 3; omega) e
theorem mem_map_range {α : Type} {f : Nat → α} {n : Nat} {x : α} (h : x ∈ (List.range n).map f) : ∃ i, i < n ∧ x = f i := by
  obtain ⟨i, hi, e⟩ := List.mem_map.mp h
  exact ⟨i, List.mem_range.mp hi, e.symm⟩
theorem pieceP_ok (ns : List Int) (k : Int) {nm : Str} {most : Int} (hn : nm ≠ Str.empty) (h0 : 0 ≤ most) (h4 : most ≤ 4) : okP (pieceP ns k nm most) := by
  unfold pieceP
  split
  · exact say_ok _
  · split
    · exact ask_ok ns _ hn h0 h4
    · have hs := inner_size ns (k + 2) (many := 3) (by decide) (by decide)
      have g := gap_ok (draw ns k / 5)
      have e1 : 0 ≤ draw ns k / 25 % 4 := Int.emod_nonneg _ (by decide)
      have e2 : draw ns k / 25 % 4 < 4 := Int.emod_lt_of_pos _ (by decide)
      have f1 : 0 ≤ draw ns k / 100 % (4 - draw ns k / 25 % 4) := Int.emod_nonneg _ (by omega)
      have f2 : draw ns k / 100 % (4 - draw ns k / 25 % 4) < 4 - draw ns k / 25 % 4 := Int.emod_lt_of_pos _ (by omega)
      have hlen := inner_len ns (k + 2) 3 most
      refine ⟨hn, by rw [hlen]; exact hs.1, by rw [hlen]; exact hs.2, fun p hp => ?_, inner_nd ns _ 3 most hs.2, g.1, g.2, e1, by omega, by omega⟩
      obtain ⟨j, hj, rfl⟩ := mem_map_range hp
      have h3 : (3 : Int).toNat = 3 := rfl
      exact innerAt_ok ns _ h0 h4 (by omega)
theorem pieceP_nm (ns : List Int) (k : Int) (nm : Str) (most : Int) : nmP (pieceP ns k nm most) = none ∨ nmP (pieceP ns k nm most) = some nm := by
  unfold pieceP
  split
  · exact .inl rfl
  · split
    · exact .inr rfl
    · exact .inr rfl
theorem pieces_len (ns : List Int) (many most : Int) : (piecesP ns many most).length = (1 + draw ns 1 % many).toNat := by unfold piecesP; rw [List.length_map, List.length_range]
theorem pieces_ok (ns : List Int) {many most : Int} (h1 : 1 ≤ many) (h6 : many ≤ 6) (h0 : 0 ≤ most) (h4 : most ≤ 4) : okF (piecesP ns many most) := by
  have hs := inner_size ns 1 h1 h6
  have hlen := pieces_len ns many most
  refine ⟨by rw [hlen]; exact hs.1, by rw [hlen]; omega, fun p hp => ?_, ?_⟩
  · obtain ⟨j, hj, rfl⟩ := mem_map_range hp
    exact pieceP_ok ns _ (nmO_ne _ (pick_mem nmO _ (by decide))) h0 h4
  · unfold nms piecesP
    rw [List.filterMap_map]
    refine nodup_names (nmP ∘ pieceAt ns most) (fun j => pick nmO (j + draw ns 2)) _ (fun i _ => pieceP_nm ns _ _ most) fun i j hi hj e => ?_
    unfold pick at e
    have l6 : (nmO.length : Int) = 6 := rfl
    rw [l6] at e
    have a0 := Int.emod_nonneg ((i : Int) + draw ns 2) (show (6 : Int) ≠ 0 by decide)
    have a1 := Int.emod_lt_of_pos ((i : Int) + draw ns 2) (show 0 < (6 : Int) by decide)
    have b0 := Int.emod_nonneg ((j : Int) + draw ns 2) (show (6 : Int) ≠ 0 by decide)
    have b1 := Int.emod_lt_of_pos ((j : Int) + draw ns 2) (show 0 < (6 : Int) by decide)
    have l6' : nmO.length = 6 := rfl
    have := getD_inj nmO_nd (by omega) (by omega) e
    omega

/-! ## the drawn values fit -/
theorem word_fits {ns : List Int} {k : Int} {sg : Str} {lo hi : Int} (h0 : 0 ≤ lo) (h : lo ≤ hi) (hs : 1 ≤ sg.length) : fit0 sg lo hi (wordP ns k sg lo hi) := by
  have ws := word_size (ns := ns) (k := k) h0 h
  have hl : (wordP ns k sg lo hi).length = (lo + draw ns k % (hi - lo + 1)).toNat := by unfold wordP; rw [ofL_len, wordL_sz]
  refine ⟨by rw [hl]; omega, by rw [hl]; omega, fun c hc => ?_⟩
  unfold wordP at hc
  rw [ofL_cps] at hc
  obtain ⟨j, hj, rfl⟩ := mem_map_range hc
  have m0 := Int.emod_nonneg (draw ns (k + 1 + j)) (show (sg.length : Int) ≠ 0 by omega)
  have m1 := Int.emod_lt_of_pos (draw ns (k + 1 + j)) (show 0 < (sg.length : Int) by omega)
  have hj : (draw ns (k + 1 + j) % (sg.length : Int)).toNat < sg.cps.size := by show _ < sg.length; omega
  rw [Array.getD_eq_getD_getElem?, Array.getElem?_eq_getElem hj]
  exact Array.getElem_mem_toList hj
theorem look_of {α : Type} : ∀ {l : List (Str × α)} {n : Str} {x : α}, (l.map (·.1)).Nodup → (n, x) ∈ l → look n l = some x
  | p :: r, n, x, nd, h => by
    unfold look
    rw [List.find?_cons]
    rw [List.map_cons, List.nodup_cons] at nd
    rcases List.mem_cons.mp h with e | h
    · subst e; rw [decide_eq_true rfl]; rfl
    · have hne : ¬ p.1 = n := fun e => nd.1 (e ▸ List.mem_map.mpr ⟨(n, x), h, rfl⟩)
      rw [decide_eq_false hne]
      exact look_of nd.2 h
theorem row_all_keys (ns : List Int) (k : Int) (ps : List P0) : (rowP ns k ps).map (·.1) = nms0 ps := by
  have := row_keys ns k ps ps.length (Nat.le_refl _)
  rw [List.take_length] at this
  exact this
theorem val_all_keys (ns : List Int) (s : Int) (ps : List Pc) : (valuesP ns s ps).map (·.1) = nms ps := by
  have := val_keys ns s ps ps.length (Nat.le_refl _)
  rw [List.take_length] at this
  exact this
theorem row_fits0 {ns : List Int} {k : Int} {ps : List P0} (nd : (nms0 ps).Nodup) (ok : ∀ p ∈ ps, ok0 p) : ∀ p ∈ ps, fits0 (rowP ns k ps) p := fun p hp => by
  cases p with
  | say t => trivial
  | ask nm sg lo hi =>
    obtain ⟨i, hi', e⟩ := List.mem_iff_getElem?.mp hp |>.elim fun i h => (⟨i, at_lt h, h⟩ : ∃ i, i < ps.length ∧ ps[i]? = some (.ask nm sg lo hi))
    obtain ⟨_, s1, _, _, _, l0, lh, _⟩ := ok _ hp
    refine ⟨wordP ns (k + 6 * i) sg lo hi, look_of (by rw [row_all_keys]; exact nd) ?_, word_fits l0 lh s1⟩
    refine List.mem_filterMap.mpr ⟨i, List.mem_range.mpr hi', ?_⟩
    rw [e]; rfl
theorem values_fit {ns : List Int} {s : Int} {ps : List Pc} (ok : okF ps) : ∀ p ∈ ps, okP p ∧ fitsP (valuesP ns s ps) p := fun p hp => by
  refine ⟨ok.ok p hp, ?_⟩
  obtain ⟨i, hi', e⟩ := List.mem_iff_getElem?.mp hp |>.elim fun i h => (⟨i, at_lt h, h⟩ : ∃ i, i < ps.length ∧ ps[i]? = some p)
  have nd : ((valuesP ns s ps).map (·.1)).Nodup := by rw [val_all_keys]; exact ok.nd
  have okp := ok.ok p hp
  cases p with
  | p0 p =>
    cases p with
    | say t => trivial
    | ask nm sg lo hi =>
      obtain ⟨_, s1, _, _, _, l0, lh, _⟩ := okp
      refine ⟨wordP ns (s + 90 * i) sg lo hi, look_of nd (List.mem_filterMap.mpr ⟨i, List.mem_range.mpr hi', ?_⟩), word_fits l0 lh s1⟩
      rw [e]; rfl
  | rows nm ips gap lo hi =>
    obtain ⟨_, _, _, iok, ind, _, _, l0, lh, _⟩ := okp
    have ws := word_size (ns := ns) (k := s + 90 * i) l0 lh
    refine ⟨(List.range (lo + draw ns (s + 90 * i) % (hi - lo + 1)).toNat).map fun (j : Nat) => rowP ns (s + 90 * i + 1 + 25 * j) ips, look_of nd (List.mem_filterMap.mpr ⟨i, List.mem_range.mpr hi', by rw [e]; rfl⟩), ?_, ?_, ?_⟩
    · rw [List.length_map, List.length_range]; omega
    · rw [List.length_map, List.length_range]; omega
    · intro r hr p hp
      obtain ⟨j, _, rfl⟩ := mem_map_range hr
      exact row_fits0 ind iok p hp
end Lf

/-! # LfEnd -/
set_option Elab.async false
set_option linter.all false
set_option maxRecDepth 100000
set_option maxHeartbeats 4000000
namespace Lf
open PySem L2
/-! ## what the top leaves -/
theorem df_mk {K : PySem.W.Frag} {h : Heap} {mg : Str → Option Value} (X : K.In h) (G : h.Ns mainGlobals mg) {x : Str} {st : Stmt} {ps : List Str} {f : Addr} {oc : Value} {od an : Option Addr} {sl : Array (Option Value)} {kV dc pm cd ct : Value}
    (a : PySem.W.nsIn K mainGlobals x = some (some (.ref f))) (l : K.lookup f = some ⟨oc, od, .func (PySem.W.fnOf x x (defArgs st) (defBody st) (defScope st) .none kV dc pm an cd ct), sl⟩) (c : PySem.W.codeIn K cd x = true) (k : PySem.W.keepIn K (.ref f) = true)
    (b : ∀ (kV doc pm : Value) (an : Option Addr) (cdv ct : Value) (us : List Value), us.length = ps.length → bindArgs (PySem.W.fnOf x x (defArgs st) (defBody st) (defScope st) .none kV doc pm an cdv ct) ⟨us, []⟩ = pure (ps.zip us)) : Df K mg x st ps := by
  have F := fun_mk (st := st) l c k
  exact ⟨f, _, F, PySem.W.mg_of X G a, F.binds b⟩
/-- the law's own def -/
theorem law_mk {K : PySem.W.Frag} {h : Heap} {mg : Str → Option Value} (X : K.In h) (G : h.Ns mainGlobals mg) {st : Stmt} {fa f : Addr} {oc : Value} {od an : Option Addr} {sl : Array (Option Value)} {kV dc pm cd ct : Value}
    (hfa : mg "law" = some (.ref fa)) (a : PySem.W.nsIn K mainGlobals "law" = some (some (.ref f))) (l : K.lookup f = some ⟨oc, od, .func (PySem.W.fnOf "law" "law" (defArgs st) (defBody st) (defScope st) .none kV dc pm an cd ct), sl⟩) (c : PySem.W.codeIn K cd "law" = true) (k : PySem.W.keepIn K (.ref f) = true)
    (b : ∀ (kV doc pm : Value) (an : Option Addr) (cdv ct : Value) (s : Shared) (v : Value), BindsTo s (PySem.W.fnOf "law" "law" (defArgs st) (defBody st) (defScope st) .none kV doc pm an cdv ct) ⟨[v], []⟩ [("script", v)]) :
    ∃ fd : FuncData, Fun K "law" "law" st fa fd ∧ ∀ (s : Shared) (v : Value), BindsTo s fd ⟨[v], []⟩ [("script", v)] := by
  have e := hfa.symm.trans (PySem.W.mg_of X G a)
  cases e
  exact ⟨_, fun_mk (st := st) l c k, b _ _ _ _ _ _⟩
/-- a class with an __init__ -/
structure Cm (K : PySem.W.Frag) (mg : Str → Option Value) (x qual : Str) (st : Stmt) (ps : List Str) (C : Addr) : Prop where
  cl : Cls K C
  mgc : mg x = some (.ref C)
  ex : ∃ (f : Addr) (fd : FuncData), Mk K C f ∧ Fun K "__init__" qual st f fd ∧ Binds K fd ps []
theorem cm_mk {K : PySem.W.Frag} {h : Heap} {mg : Str → Option Value} (X : K.In h) (G : h.Ns mainGlobals mg) {x qual : Str} {st : Stmt} {ps : List Str} {C f : Addr} {oc : Value} {od an : Option Addr} {sl : Array (Option Value)} {kV dc pm cd ct : Value}
    (aC : PySem.W.nsIn K mainGlobals x = some (some (.ref C))) (a : PySem.W.findIn K (.ref C) "__init__" = some (some (.ref f))) (i : PySem.W.isFn K (.ref f) = true)
    (l : K.lookup f = some ⟨oc, od, .func (PySem.W.fnOf "__init__" qual (defArgs st) (defBody st) (defScope st) .none kV dc pm an cd ct), sl⟩) (c : PySem.W.codeIn K cd qual = true) (k : PySem.W.keepIn K (.ref f) = true)
    (pg : PySem.W.plainGet K C Str.empty = true) (hd : PySem.W.hasDictIn K C = true) (po : PySem.W.plainOver K C = true) (sa : PySem.W.findIn K (.ref C) "__setattr__" = some (some (.builtin "object.__setattr__"))) (mk : PySem.W.makesIn K C = true) (kc : PySem.W.keepIn K (.ref C) = true)
    (b : ∀ (kV doc pm : Value) (an : Option Addr) (cdv ct : Value) (us : List Value), us.length = ps.length → bindArgs (PySem.W.fnOf "__init__" qual (defArgs st) (defBody st) (defScope st) .none kV doc pm an cdv ct) ⟨us, []⟩ = pure (ps.zip us))
    {n1 : Str} (q1 : PySem.W.findIn K (.ref C) n1 = some none) : ∃ C, Cm K mg x qual st ps C ∧ NoAttr K C n1 := by
  have F := fun_mk (st := st) l c k
  exact ⟨C, ⟨⟨pg, hd, po, sa⟩, PySem.W.mg_of X G aC, f, _, ⟨mk, a, i, kc⟩, F, F.binds b⟩, q1⟩
theorem Cm.mn {P : Program} {w : World} {K : PySem.W.Frag} {mg : Str → Option Value} {base : Heap} {CX : CXT} {k : Nat} {x qual : Str} {st : Stmt} {ps : List Str} {C : Addr} {sp : Sp} (c : Cm K mg x qual st ps C)
    (h : ∀ f fd, Fun K "__init__" qual st f fd → FnOk P w K mg base CX k f fd ps sp) : Mn P w K mg base CX k x C sp := by
  obtain ⟨f, fd, M, F, b⟩ := c.ex
  exact ⟨f, fd, ps, M, h f fd F, c.mgc, b⟩
end Lf
namespace Lf
open PySem L2
theorem signs_mk {K : PySem.W.Frag} {h : Heap} {mg : Str → Option Value} (X : K.In h) (G : h.Ns mainGlobals mg) {u : Value} (a : PySem.W.nsIn K mainGlobals "SIGNS" = some (some u))
    (e : ∃ t, u = .str ("abcdefghijklmnopqrstuvwxyzABCDEFGHIJKLMNOPQRSTUVWXYZ0123456789 .,:;-/()\n" : Str) t) : G_SIGNS mg := by
  obtain ⟨t, rfl⟩ := e
  exact ⟨t, PySem.W.mg_of X G a⟩
end Lf

/-! # LfEqD -/
set_option Elab.async false
set_option linter.all false
set_option maxRecDepth 100000
set_option maxHeartbeats 4000000
namespace PySem.SeqAt
open AutoSeq1 (wpAny_loadPart')
open MeetsSeq MeetsSeq2 MeetsSeq3 SeqRoads2
section
variable {prog : Program} {w : World}
/-- != of two lists of one length, their items compared in this world -/
theorem lf_ne_loop (l b : Addr) (xs ys : Array Value) (n n2 : Nat) (dd dd2 : Option Addr) (sl sl2 : Array (Option Value)) (hsz : xs.size = ys.size) (e : Nat → Bool) (k : Nat) :
    ∀ i : Nat, xs.size - i = k → MeetsIn prog w (Builtin.«list.__eq__.loop» ⟨[.ref l, .ref b, rawInt i, rawInt 3], []⟩)
      (fun A R s => s.heap.get? l = some { cls := .type "list", dict := dd, data := .seq xs n, slots := sl } ∧ s.heap.get? b = some { cls := .type "list", dict := dd2, data := .seq ys n2, slots := sl2 } ∧
        (∀ j (h1 : j < xs.size) (h2 : j < ys.size), EqIn prog w A.in1 s xs[j] ys[j] (e j)) ∧
        R (.ok (.ret (.bool (!((List.range xs.size).drop i).all e)))) s) := by
  induction k with
  | zero =>
    intro i hk A R s h
    obtain ⟨hp, g, d, tk, os⟩ := s
    obtain ⟨hl, hb, he, h⟩ := h
    wp_walk using wpAny_loadPart' hl, wpAny_loadPart' hb
    have q1 : xs[((i : Nat) : Int).toNat]? = none := by simp; omega
    have q2 : ys[((i : Nat) : Int).toNat]? = none := by simp; omega
    have q3 : (List.range xs.size).drop i = [] := by simp; omega
    rw [q3] at h
    rw [q1, q2]
    wp_walk using wpAny_loadPart' hl, wpAny_loadPart' hb
    show R (.ok (.ret (.bool (xs.size != ys.size)))) _
    rw [hsz]
    simpa using h
  | succ k ih =>
    intro i hk A R s h
    obtain ⟨hp, g, d, tk, os⟩ := s
    obtain ⟨hl, hb, he, h⟩ := h
    wp_walk using wpAny_loadPart' hl, wpAny_loadPart' hb
    have p1 : i < xs.size := by omega
    have p2 : i < ys.size := by omega
    have q1 : xs[((i : Nat) : Int).toNat]? = some xs[i] := by simp [p1]
    have q2 : ys[((i : Nat) : Int).toNat]? = some ys[i] := by simp [p2]
    have q3 : (List.range xs.size).drop i = i :: (List.range xs.size).drop (i + 1) := by simp [List.drop_eq_getElem_cons, p1]
    have q4 : ((i : Int) + 1) = ((i + 1 : Nat) : Int) := by push_cast; rfl
    rw [q3, List.all_cons] at h
    rw [q1, q2]
    refine wpAny_bind (he i p1 p2 _ _ ?_)
    cases hx : e i with
    | true =>
      rw [hx] at h
      wp_walk
      rw [q4]
      exact ⟨plainId_quiet plain_eq_loop _, codeAny_builtin entry_eq_loop (by
        rw [Around.under_plainId plain_eq_loop _]
        exact ih (i + 1) (by omega) A R _ ⟨hl, hb, he, by simpa using h⟩)⟩
    | false =>
      rw [hx] at h
      wp_walk using wpAny_loadPart' hl, wpAny_loadPart' hb
      rw [q1, q2]
      wp_walk
      simpa using h
theorem lf_list_ne (l b : Addr) (xs ys : Array Value) (n n2 : Nat) (dd dd2 : Option Addr) (sl sl2 : Array (Option Value)) (hsz : xs.size = ys.size) (e : Nat → Bool) :
    MeetsIn prog w (Builtin.«list.__ne__» ⟨[.ref l, .ref b], []⟩)
      (fun A R s => s.heap.get? l = some { cls := .type "list", dict := dd, data := .seq xs n, slots := sl } ∧ s.heap.get? b = some { cls := .type "list", dict := dd2, data := .seq ys n2, slots := sl2 } ∧
        (∀ j (h1 : j < xs.size) (h2 : j < ys.size), EqIn prog w A.in1 s xs[j] ys[j] (e j)) ∧
        R (.ok (.ret (.bool (!(List.range xs.size).all e)))) s) := by
  intro A R s h
  obtain ⟨hp, g, d, tk, os⟩ := s
  obtain ⟨hl, hb, he, h⟩ := h
  have f3 := AutoSeq1.sub_list_list
  have hne : ¬ (xs.size != ys.size) = true := by simp [hsz]
  wp_walk using wpAny_loadPart' hl, wpAny_loadPart' hb
  exact ⟨plainId_quiet plain_eq_loop _, codeAny_builtin entry_eq_loop (by
    rw [Around.under_plainId plain_eq_loop _]
    exact lf_ne_loop l b xs ys n n2 dd dd2 sl sl2 hsz e _ 0 rfl A R _ ⟨hl, hb, he, by simpa using h⟩)⟩
theorem lf_ne_lists {A : Around} {s : Shared} {E : Value → Shared → Prop} {l b : Addr} {xs ys : Array Value} {e : Nat → Bool} {Q : Value → Shared → Prop} (hl : s.heap.IsList l xs) (hb : s.heap.IsList b ys) (hsz : xs.size = ys.size) (hu : A.units < cLine)
    (he : ∀ j (h1 : j < xs.size) (h2 : j < ys.size), EqIn prog w A.in1 s xs[j] ys[j] (e j)) (h : Q (.bool (!(List.range xs.size).all e)) s) : wpAny (model prog w) A (richCompare .NotEq (.ref l) (.ref b)) Q E s := by
  obtain ⟨⟨c1, d1, t1, s1⟩, ho, hc, n, hd⟩ := id hl
  obtain ⟨⟨c2, d2, t2, s2⟩, ho2, hc2, n2, hd2⟩ := id hb
  simp only at hc hd hc2 hd2
  subst hc hd hc2 hd2
  exact wpAny_richCompare_same_room (T := "list") (op := .NotEq) ⟨_, ho, rfl⟩ ⟨_, ho2, rfl⟩ F.slot_list_ne (call_meetsIn F.slot_list_ne ⟨_, ho, rfl⟩ F.entry_list_ne (F.args_list_ne_2 _ _) (lf_list_ne l b xs ys n n2 d1 d2 s1 s2 hsz e)
    ⟨ho, ho2, he, show Value.bool (!(List.range xs.size).all e) ≠ Value.notImplemented ∧ Q (.bool (!(List.range xs.size).all e)) s from ⟨(fun x => nomatch x), h⟩⟩) hu
end
end PySem.SeqAt
namespace PySem.W
open PySem PySem.Calls PyProof.Rows PySem.Spec
/-- != of two dicts, their values compared in this world -/
theorem lf_ne_dicts {prog : Program} {w : World} {K : Type} [DecidableEq K] {knd : KeyKind prog w K} {A : Around} {E : Value → Shared → Prop} {s : Shared} {a b : Addr} {ka kb : List (K × Value)} {r : Bool} {Q : Value → Shared → Prop} (ha : (a == sysModules) = false) (hb : (b == sysModules) = false)
    (da : s.heap.DictOf knd a ka) (db : s.heap.DictOf knd b kb) (hu : A.units < cLine) (hits : ka.length = kb.length → KeqHitsIn prog w A.in1 s kb ka r) (h : Q (.bool (!(ka.length == kb.length && r))) s) :
    wpAny (model prog w) A (compareOp .NotEq (.ref a) (.ref b)) Q E s := by
  refine wpAny_richCompare_same_room (op := .NotEq) da.typeIs db.typeIs PySem.F.slot_dict_ne (wpAny_call_entry PySem.F.slot_dict_ne da.typeIs PySem.F.entry_dict_ne ?_ (PySem.F.args_dict_ne_2 _ _)) hu
  show wpAny _ _ (Builtin.Dict.dictSlotArgs "__ne__" ⟨[.ref a, .ref b], []⟩ >>= _) _ _ s
  refine wpAny_bind ?_
  unfold Builtin.Dict.dictSlotArgs
  refine wpAny_bind (wpAny_notOrdered_dict da.typeIs ?_)
  show wpAny _ _ (pure (Value.ref a, Value.ref b)) _ _ s
  refine wpAny_pure ?_
  refine wpAny_bind (wpAny_isInstance (T := "dict") db.typeIs PySem.F.sub_dict_dict ?_)
  simp only [Bool.not_true, Bool.false_eq_true, if_false]
  refine wpAny_bind (wpAny_pure (wpAny_bind (wpAny_pure ?_)))
  refine wpAny_bind (keq_samePairsIn ha hb da db hits ?_)
  refine wpAny_pure ⟨_, rfl, ?_, ?_⟩
  · exact fun x => nomatch x
  · simpa using h
end PySem.W
namespace Lf
open PySem L2
/-! ## data: lists, tuples, dicts with text keys, in any order -/
inductive D where
  | non | bl (b : Bool) | int (i : Int) | str (s : Str)
  | tup (l : List D) | lst (l : List D) | dic (l : List (Str × D))
mutual
def D.depth : D → Nat
  | .non | .bl _ | .int _ | .str _ => 0
  | .tup l | .lst l => depthAll l + 1
  | .dic l => depthKv l + 1
def depthAll : List D → Nat
  | [] => 0
  | d :: r => max d.depth (depthAll r)
def depthKv : List (Str × D) → Nat
  | [] => 0
  | (_, d) :: r => max d.depth (depthKv r)
end
mutual
inductive Rp (K : PySem.W.Frag) (H : Hp) : V → D → Prop
  | non : Rp K H .non .non
  | bl (b : Bool) : Rp K H (.bl b) (.bl b)
  | int (i : Int) : Rp K H (.int i) (.int i)
  | str (s : Str) : Rp K H (.str s) (.str s)
  | lst {a : Addr} {xs : List V} {ds : List D} : SqL K H a xs → RpAll K H xs ds → Rp K H (.ref a) (.lst ds)
  | tup {a : Addr} {xs : List V} {ds : List D} : SqT K H a xs → RpAll K H xs ds → Rp K H (.ref a) (.tup ds)
  | dic {a : Addr} {kvs : List (Key × V)} {ds : List (Str × D)} : Rd H a (.dK kvs) → RpKv K H kvs ds → (ds.map (·.1)).Nodup → Rp K H (.ref a) (.dic ds)
inductive RpAll (K : PySem.W.Frag) (H : Hp) : List V → List D → Prop
  | nil : RpAll K H [] []
  | cons {v : V} {vs : List V} {d : D} {ds : List D} : Rp K H v d → RpAll K H vs ds → RpAll K H (v :: vs) (d :: ds)
inductive RpKv (K : PySem.W.Frag) (H : Hp) : List (Key × V) → List (Str × D) → Prop
  | nil : RpKv K H [] []
  | cons {n : Str} {v : V} {vs : List (Key × V)} {d : D} {ds : List (Str × D)} : Rp K H v d → RpKv K H vs ds → RpKv K H ((Sum.inr n, v) :: vs) ((n, d) :: ds)
end
section
variable {K : PySem.W.Frag} {H : Hp}
theorem RpAll.len : ∀ {xs : List V} {ds : List D}, RpAll K H xs ds → xs.length = ds.length
  | _, _, .nil => rfl
  | _, _, .cons _ t => by rw [List.length_cons, List.length_cons, RpAll.len t]
theorem RpKv.len : ∀ {xs : List (Key × V)} {ds : List (Str × D)}, RpKv K H xs ds → xs.length = ds.length
  | _, _, .nil => rfl
  | _, _, .cons _ t => by rw [List.length_cons, List.length_cons, RpKv.len t]
theorem RpAll.at : ∀ {xs : List V} {ds : List D} {i : Nat} {x : V}, RpAll K H xs ds → xs[i]? = some x → ∃ d, ds[i]? = some d ∧ Rp K H x d
  | _, _, _, _, .nil, e => by simp at e
  | _, _, 0, _, .cons r _, e => by simp at e; subst e; exact ⟨_, rfl, r⟩
  | _, _, i + 1, x, .cons _ t, e => by
    obtain ⟨d, h1, h2⟩ := RpAll.at (i := i) (x := x) t (by simpa using e)
    exact ⟨d, by simpa using h1, h2⟩
theorem RpKv.mem : ∀ {xs : List (Key × V)} {ds : List (Str × D)} {k : Key} {x : V}, RpKv K H xs ds → (k, x) ∈ xs → ∃ n d, k = Sum.inr n ∧ (n, d) ∈ ds ∧ Rp K H x d
  | _, _, _, _, .nil, e => by cases e
  | _, _, k, x, .cons r t, e => by
    rcases List.mem_cons.mp e with e | e
    · cases e; exact ⟨_, _, rfl, List.mem_cons_self, r⟩
    · obtain ⟨n, d, h1, h2, h3⟩ := RpKv.mem t e
      exact ⟨n, d, h1, List.mem_cons_of_mem _ h2, h3⟩
theorem RpKv.val : ∀ {xs : List (Key × V)} {ds : List (Str × D)} {n : Str} {d : D}, RpKv K H xs ds → (ds.map (·.1)).Nodup → (n, d) ∈ ds → ∃ x, valV xs (Sum.inr n : Key) = some x ∧ Rp K H x d
  | _, _, _, _, .nil, _, e => by cases e
  | _, _, n, d, .cons (n := m) (v := v) (vs := vs) (ds := ds) r t, nd, e0 => by
    rw [List.map_cons, List.nodup_cons] at nd
    rcases List.mem_cons.mp e0 with e | e
    · cases e; exact ⟨v, valV_pos rfl, r⟩
    · obtain ⟨x, h1, h2⟩ := RpKv.val t nd.2 e
      have hne : ¬ (Sum.inr m : Key) = Sum.inr n := fun q => nd.1 (by cases q; exact List.mem_map.mpr ⟨(_, d), e, rfl⟩)
      exact ⟨x, by rw [valV_neg (p := ((Sum.inr m : Key), v)) hne]; exact h1, h2⟩
end
theorem depth_mem {d : D} : ∀ {l : List D}, d ∈ l → d.depth ≤ depthAll l
  | _ :: r, h => by
    rcases List.mem_cons.mp h with e | h
    · subst e; unfold depthAll; exact Nat.le_max_left _ _
    · have := depth_mem h; unfold depthAll; exact Nat.le_trans this (Nat.le_max_right _ _)
theorem depth_memKv {n : Str} {d : D} : ∀ {l : List (Str × D)}, (n, d) ∈ l → d.depth ≤ depthKv l
  | (m, e) :: r, h => by
    rcases List.mem_cons.mp h with q | h
    · cases q; unfold depthKv; exact Nat.le_max_left _ _
    · have := depth_memKv h; unfold depthKv; exact Nat.le_trans this (Nat.le_max_right _ _)
theorem all_true {α : Type} (l : List α) : (l.all fun _ => true) = true := List.all_eq_true.mpr fun _ _ => rfl
section
variable {X : Cx} {pins : List (Addr × Obj)} {σ : L2.St} {H : Hp} {s : Shared}
/-- what a dict at a is -/
theorem dict_at (I : Inv X pins σ H s) {a : Addr} {kvs : List (Key × V)} (h : Rd H a (.dK kvs)) : (a == sysModules) = false ∧ ∃ vs, KV kvs vs ∧ s.heap.DictOf (mixKind X.prog X.w) a vs := by
  obtain ⟨_, b, vs, c, d⟩ := dk_rd I.hok h
  exact ⟨b, vs, c, d⟩
theorem kv_mem {kvs : List (Key × V)} {vs : List (Key × Value)} (h : KV kvs vs) {k : Key} {u : Value} (m : (k, u) ∈ vs) : ∃ x, (k, x) ∈ kvs ∧ RelV x u := by
  unfold KV at h
  induction h with
  | nil => cases m
  | @cons p q ps qs r t ih =>
    rcases List.mem_cons.mp m with e | m
    · subst e
      obtain ⟨k', x⟩ := p
      have : k' = k := r.1
      subst this
      exact ⟨x, List.mem_cons_self, r.2⟩
    · obtain ⟨x, h1, h2⟩ := ih m
      exact ⟨x, List.mem_cons_of_mem _ h1, h2⟩
/-- the same data: they are equal -/
theorem tree_eq (I : Inv X pins σ H s) : ∀ (n : Nat) (d : D) (v y : V) (u u' : Value), d.depth ≤ n → Rp X.K H v d → Rp X.K H y d → RelV v u → RelV y u' → PySem.W.EqTree X.prog X.w s n u u' true := by
  intro n
  induction n with
  | zero =>
    intro d v y u u' hd h1 h2 r1 r2
    cases d with
    | non => cases h1; cases h2; cases r1; cases r2; exact .same
    | bl b => cases h1; cases h2; cases r1; cases r2; exact .same
    | int i =>
      cases h1; cases h2
      obtain ⟨t, rfl⟩ := r1
      obtain ⟨t', rfl⟩ := r2
      exact .leaf fun A _ => by have := SeqAt.EqAt.int_int (A := A) (s := s) i t i t'; simpa using this
    | str x =>
      cases h1; cases h2
      obtain ⟨t, rfl⟩ := r1
      obtain ⟨t', rfl⟩ := r2
      exact .leaf fun A _ => by have := SeqAt.EqAt.str_str (A := A) (s := s) x t x t'; simpa using this
    | tup l => unfold D.depth at hd; omega
    | lst l => unfold D.depth at hd; omega
    | dic l => unfold D.depth at hd; omega
  | succ n ih =>
    intro d v y u u' hd h1 h2 r1 r2
    cases d with
    | non => cases h1; cases h2; cases r1; cases r2; exact .same
    | bl b => cases h1; cases h2; cases r1; cases r2; exact .same
    | int i =>
      cases h1; cases h2
      obtain ⟨t, rfl⟩ := r1
      obtain ⟨t', rfl⟩ := r2
      exact .leaf fun A _ => by have := SeqAt.EqAt.int_int (A := A) (s := s) i t i t'; simpa using this
    | str x =>
      cases h1; cases h2
      obtain ⟨t, rfl⟩ := r1
      obtain ⟨t', rfl⟩ := r2
      exact .leaf fun A _ => by have := SeqAt.EqAt.str_str (A := A) (s := s) x t x t'; simpa using this
    | tup l =>
      cases h1 with
      | tup q1 p1 =>
        cases h2 with
        | tup q2 p2 =>
          rename_i a xs b ys
          cases r1; cases r2
          by_cases e : a = b
          · subst e; exact .same
          · obtain ⟨us, v1, t1, _⟩ := I.tuple q1
            obtain ⟨ws, v2, t2, _⟩ := I.tuple q2
            have l1 := p1.len
            have l2 := p2.len
            have k1 := v1.length
            have k2 := v2.length
            have tr := PySem.W.EqTree.tuples (prog := X.prog) (w := X.w) (n := n) (e := fun _ => true) e t1 t2 (fun j h1 h2 => by
              simp only [List.size_toArray] at h1 h2
              obtain ⟨d1, e1, z1⟩ := p1.at (i := j) (x := xs[j]'(by omega)) (List.getElem?_eq_getElem _)
              obtain ⟨d2, e2, z2⟩ := p2.at (i := j) (x := ys[j]'(by omega)) (List.getElem?_eq_getElem _)
              rw [e1] at e2; cases e2
              obtain ⟨w1, f1, g1⟩ := v1.get (i := j) (x := xs[j]'(by omega)) (List.getElem?_eq_getElem _)
              obtain ⟨w2, f2, g2⟩ := v2.get (i := j) (x := ys[j]'(by omega)) (List.getElem?_eq_getElem _)
              rw [List.getElem?_eq_getElem h1] at f1; cases f1
              rw [List.getElem?_eq_getElem h2] at f2; cases f2
              have hdd := depth_mem (List.mem_of_getElem? e1)
              unfold D.depth at hd
              exact ih d1 _ _ _ _ (by omega) z1 z2 g1 g2)
            rw [all_true] at tr
            have es : (us.toArray.size == ws.toArray.size) = true := by simp only [List.size_toArray, beq_iff_eq]; omega
            rw [es] at tr
            exact tr
    | lst l =>
      cases h1 with
      | lst q1 p1 =>
        cases h2 with
        | lst q2 p2 =>
          rename_i a xs b ys
          cases r1; cases r2
          by_cases e : a = b
          · subst e; exact .same
          · obtain ⟨us, v1, t1, _⟩ := I.list q1
            obtain ⟨ws, v2, t2, _⟩ := I.list q2
            have l1 := p1.len
            have l2 := p2.len
            have k1 := v1.length
            have k2 := v2.length
            have tr := PySem.W.EqTree.lists (prog := X.prog) (w := X.w) (n := n) (e := fun _ => true) e t1.isList t2.isList (by simp only [List.size_toArray]; omega) (fun j h1 h2 => by
              simp only [List.size_toArray] at h1 h2
              obtain ⟨d1, e1, z1⟩ := p1.at (i := j) (x := xs[j]'(by omega)) (List.getElem?_eq_getElem _)
              obtain ⟨d2, e2, z2⟩ := p2.at (i := j) (x := ys[j]'(by omega)) (List.getElem?_eq_getElem _)
              rw [e1] at e2; cases e2
              obtain ⟨w1, f1, g1⟩ := v1.get (i := j) (x := xs[j]'(by omega)) (List.getElem?_eq_getElem _)
              obtain ⟨w2, f2, g2⟩ := v2.get (i := j) (x := ys[j]'(by omega)) (List.getElem?_eq_getElem _)
              rw [List.getElem?_eq_getElem h1] at f1; cases f1
              rw [List.getElem?_eq_getElem h2] at f2; cases f2
              have hdd := depth_mem (List.mem_of_getElem? e1)
              unfold D.depth at hd
              exact ih d1 _ _ _ _ (by omega) z1 z2 g1 g2)
            rw [all_true] at tr
            exact tr
    | dic l =>
      cases h1 with
      | dic q1 p1 nd1 =>
        cases h2 with
        | dic q2 p2 nd2 =>
          rename_i a xs b ys
          cases r1; cases r2
          by_cases e : a = b
          · subst e; exact .same
          · obtain ⟨s1, vs1, k1, d1⟩ := dict_at I q1
            obtain ⟨s2, vs2, k2, d2⟩ := dict_at I q2
            have there : ∀ k v, (k, v) ∈ vs1 → ∃ n d x y, k = Sum.inr n ∧ (n, d) ∈ l ∧ Rp X.K H x d ∧ RelV x v ∧ valV ys k = some y ∧ Rp X.K H y d := fun k v m => by
              obtain ⟨x, m1, rx⟩ := kv_mem k1 m
              obtain ⟨n, d, e1, m2, rp⟩ := p1.mem m1
              obtain ⟨y, e2, rp2⟩ := p2.val nd1 m2
              exact ⟨n, d, x, y, e1, m2, rp, rx, by rw [e1]; exact e2, rp2⟩
            have tr := PySem.W.EqTree.dicts (prog := X.prog) (w := X.w) (knd := mixKind X.prog X.w) (n := n) (e := fun _ => true) e s1 s2 d1 d2 (fun k v y' m hv => by
              obtain ⟨nm, d, x, y, e1, m2, rp, rx, e2, rp2⟩ := there k v m
              have ro := k2.val k
              rw [e2, hv] at ro
              have hdd := depth_memKv m2
              unfold D.depth at hd
              exact ih d x y v y' (by omega) rp rp2 rx ro)
            have hl : (vs1.length == vs2.length) = true := by
              have := p1.len; have := p2.len; have := k1.length; have := k2.length
              simp only [beq_iff_eq]; omega
            have ha : (vs1.all fun p => (valueAt vs2 p.1).isSome && true) = true := List.all_eq_true.mpr fun p hp => by
              obtain ⟨nm, d, x, y, e1, m2, rp, rx, e2, rp2⟩ := there p.1 p.2 hp
              have ro := k2.val p.1
              rw [e2] at ro
              obtain ⟨z, hz, _⟩ := ro.some_of
              rw [hz]; rfl
            rw [hl, ha] at tr
            exact tr
end
/-- a == b, a != b of the same data (a list, a tuple, a dict) -/
def rEqS (K : PySem.W.Frag) : R2 := fun x y H Q => ∃ d : D, Rp K H x d ∧ Rp K H y d ∧ d.depth ≤ 60 ∧ 1 ≤ d.depth ∧ Q (.bl true) H
def rNeS (K : PySem.W.Frag) : R2 := fun x y H Q => ∃ d : D, Rp K H x d ∧ Rp K H y d ∧ d.depth ≤ 60 ∧ (match d with | .lst _ => True | .dic _ => True | _ => False) ∧ Q (.bl false) H
section
variable {X : Cx}
theorem op_eqS {K : PySem.W.Frag} (h : X.K = K) (hu : X.A.units + 64 < cLine) : OpR X (compareOp .Eq) (rEqS K) := by
  subst h
  intro pins s σ H x y v u Q I rx ry h
  obtain ⟨d, hx, hy, hd, h1, q⟩ := h
  have sub := fun (d' : D) (x' y' : V) (v' u' : Value) (hd' : d'.depth ≤ 60) h1 h2 r1 r2 => (tree_eq I 60 d' x' y' v' u' hd' h1 h2 r1 r2).at X.A.in1 (by show X.A.units + 1 + 60 < cLine; omega)
  cases d with
  | non => unfold D.depth at h1; omega
  | bl b => unfold D.depth at h1; omega
  | int i => unfold D.depth at h1; omega
  | str x => unfold D.depth at h1; omega
  | tup l =>
    cases hx with
    | tup q1 p1 =>
      cases hy with
      | tup q2 p2 =>
        rename_i a xs b ys
        cases rx; cases ry
        obtain ⟨us, v1, t1, _⟩ := I.tuple q1
        obtain ⟨ws, v2, t2, _⟩ := I.tuple q2
        have l1 := p1.len; have l2 := p2.len; have k1 := v1.length; have k2 := v2.length
        refine SeqAt.rcIn_tuples (e := fun _ => true) t1 t2 (by omega) (fun j h1 h2 => ?_) ?_
        · simp only [List.size_toArray] at h1 h2
          obtain ⟨d1, e1, z1⟩ := p1.at (i := j) (x := xs[j]'(by omega)) (List.getElem?_eq_getElem _)
          obtain ⟨d2, e2, z2⟩ := p2.at (i := j) (x := ys[j]'(by omega)) (List.getElem?_eq_getElem _)
          rw [e1] at e2; cases e2
          obtain ⟨w1, f1, g1⟩ := v1.get (i := j) (x := xs[j]'(by omega)) (List.getElem?_eq_getElem _)
          obtain ⟨w2, f2, g2⟩ := v2.get (i := j) (x := ys[j]'(by omega)) (List.getElem?_eq_getElem _)
          rw [List.getElem?_eq_getElem h1] at f1; cases f1
          rw [List.getElem?_eq_getElem h2] at f2; cases f2
          have hdd := depth_mem (List.mem_of_getElem? e1)
          unfold D.depth at hd
          exact sub d1 _ _ _ _ (by omega) z1 z2 g1 g2
        · rw [all_true]
          have es : (us.toArray.size == ws.toArray.size) = true := by simp only [List.size_toArray, beq_iff_eq]; omega
          rw [es]
          exact ⟨.bl true, H, I, rfl, q⟩
  | lst l =>
    cases hx with
    | lst q1 p1 =>
      cases hy with
      | lst q2 p2 =>
        rename_i a xs b ys
        cases rx; cases ry
        obtain ⟨us, v1, t1, _⟩ := I.list q1
        obtain ⟨ws, v2, t2, _⟩ := I.list q2
        have l1 := p1.len; have l2 := p2.len; have k1 := v1.length; have k2 := v2.length
        refine SeqAt.rcIn_lists (e := fun _ => true) t1.isList t2.isList (by simp only [List.size_toArray]; omega) (by omega) (fun j h1 h2 => ?_) ?_
        · simp only [List.size_toArray] at h1 h2
          obtain ⟨d1, e1, z1⟩ := p1.at (i := j) (x := xs[j]'(by omega)) (List.getElem?_eq_getElem _)
          obtain ⟨d2, e2, z2⟩ := p2.at (i := j) (x := ys[j]'(by omega)) (List.getElem?_eq_getElem _)
          rw [e1] at e2; cases e2
          obtain ⟨w1, f1, g1⟩ := v1.get (i := j) (x := xs[j]'(by omega)) (List.getElem?_eq_getElem _)
          obtain ⟨w2, f2, g2⟩ := v2.get (i := j) (x := ys[j]'(by omega)) (List.getElem?_eq_getElem _)
          rw [List.getElem?_eq_getElem h1] at f1; cases f1
          rw [List.getElem?_eq_getElem h2] at f2; cases f2
          have hdd := depth_mem (List.mem_of_getElem? e1)
          unfold D.depth at hd
          exact sub d1 _ _ _ _ (by omega) z1 z2 g1 g2
        · rw [all_true]
          exact ⟨.bl true, H, I, rfl, q⟩
  | dic l =>
    cases hx with
    | dic q1 p1 nd1 =>
      cases hy with
      | dic q2 p2 nd2 =>
        rename_i a xs b ys
        cases rx; cases ry
        obtain ⟨s1, vs1, k1, d1⟩ := dict_at I q1
        obtain ⟨s2, vs2, k2, d2⟩ := dict_at I q2
        have there : ∀ k v, (k, v) ∈ vs1 → ∃ n d x y, k = Sum.inr n ∧ (n, d) ∈ l ∧ Rp X.K H x d ∧ RelV x v ∧ valV ys k = some y ∧ Rp X.K H y d := fun k v m => by
          obtain ⟨x, m1, rx⟩ := kv_mem k1 m
          obtain ⟨n, d, e1, m2, rp⟩ := p1.mem m1
          obtain ⟨y, e2, rp2⟩ := p2.val nd1 m2
          exact ⟨n, d, x, y, e1, m2, rp, rx, by rw [e1]; exact e2, rp2⟩
        have ha : (vs1.all fun p => (valueAt vs2 p.1).isSome && true) = true := List.all_eq_true.mpr fun p hp => by
          obtain ⟨nm, d, x, y, e1, m2, rp, rx, e2, rp2⟩ := there p.1 p.2 hp
          have ro := k2.val p.1
          rw [e2] at ro
          obtain ⟨z, hz, _⟩ := ro.some_of
          rw [hz]; rfl
        have hl : (vs1.length == vs2.length) = true := by
          have := p1.len; have := p2.len; have := k1.length; have := k2.length
          simp only [beq_iff_eq]; omega
        have hits := PySem.W.KeqHitsIn.of (prog := X.prog) (w := X.w) (A := X.A.in1) (s := s) (kb := vs2) (e := fun _ => true) vs1 (fun k v y' m hv => by
          obtain ⟨nm, d, x, y, e1, m2, rp, rx, e2, rp2⟩ := there k v m
          have ro := k2.val k
          rw [e2, hv] at ro
          have hdd := depth_memKv m2
          unfold D.depth at hd
          exact sub d x y v y' (by omega) rp rp2 rx ro)
        rw [ha] at hits
        refine PySem.W.keq_eqIn (r := true) s1 s2 d1 d2 (by omega) (fun _ => hits) ?_
        rw [hl]
        exact ⟨.bl true, H, I, rfl, q⟩
theorem op_neS {K : PySem.W.Frag} (h : X.K = K) (hu : X.A.units + 64 < cLine) : OpR X (compareOp .NotEq) (rNeS K) := by
  subst h
  intro pins s σ H x y v u Q I rx ry h
  obtain ⟨d, hx, hy, hd, h1, q⟩ := h
  have sub := fun (d' : D) (x' y' : V) (v' u' : Value) (hd' : d'.depth ≤ 60) h1 h2 r1 r2 => (tree_eq I 60 d' x' y' v' u' hd' h1 h2 r1 r2).at X.A.in1 (by show X.A.units + 1 + 60 < cLine; omega)
  cases d with
  | non => exact h1.elim
  | bl b => exact h1.elim
  | int i => exact h1.elim
  | str x => exact h1.elim
  | tup l => exact h1.elim
  | lst l =>
    cases hx with
    | lst q1 p1 =>
      cases hy with
      | lst q2 p2 =>
        rename_i a xs b ys
        cases rx; cases ry
        obtain ⟨us, v1, t1, _⟩ := I.list q1
        obtain ⟨ws, v2, t2, _⟩ := I.list q2
        have l1 := p1.len; have l2 := p2.len; have k1 := v1.length; have k2 := v2.length
        refine SeqAt.lf_ne_lists (e := fun _ => true) t1.isList t2.isList (by simp only [List.size_toArray]; omega) (by omega) (fun j h1 h2 => ?_) ?_
        · simp only [List.size_toArray] at h1 h2
          obtain ⟨d1, e1, z1⟩ := p1.at (i := j) (x := xs[j]'(by omega)) (List.getElem?_eq_getElem _)
          obtain ⟨d2, e2, z2⟩ := p2.at (i := j) (x := ys[j]'(by omega)) (List.getElem?_eq_getElem _)
          rw [e1] at e2; cases e2
          obtain ⟨w1, f1, g1⟩ := v1.get (i := j) (x := xs[j]'(by omega)) (List.getElem?_eq_getElem _)
          obtain ⟨w2, f2, g2⟩ := v2.get (i := j) (x := ys[j]'(by omega)) (List.getElem?_eq_getElem _)
          rw [List.getElem?_eq_getElem h1] at f1; cases f1
          rw [List.getElem?_eq_getElem h2] at f2; cases f2
          have hdd := depth_mem (List.mem_of_getElem? e1)
          unfold D.depth at hd
          exact sub d1 _ _ _ _ (by omega) z1 z2 g1 g2
        · rw [all_true]
          exact ⟨.bl false, H, I, rfl, q⟩
  | dic l =>
    cases hx with
    | dic q1 p1 nd1 =>
      cases hy with
      | dic q2 p2 nd2 =>
        rename_i a xs b ys
        cases rx; cases ry
        obtain ⟨s1, vs1, k1, d1⟩ := dict_at I q1
        obtain ⟨s2, vs2, k2, d2⟩ := dict_at I q2
        have there : ∀ k v, (k, v) ∈ vs1 → ∃ n d x y, k = Sum.inr n ∧ (n, d) ∈ l ∧ Rp X.K H x d ∧ RelV x v ∧ valV ys k = some y ∧ Rp X.K H y d := fun k v m => by
          obtain ⟨x, m1, rx⟩ := kv_mem k1 m
          obtain ⟨n, d, e1, m2, rp⟩ := p1.mem m1
          obtain ⟨y, e2, rp2⟩ := p2.val nd1 m2
          exact ⟨n, d, x, y, e1, m2, rp, rx, by rw [e1]; exact e2, rp2⟩
        have ha : (vs1.all fun p => (valueAt vs2 p.1).isSome && true) = true := List.all_eq_true.mpr fun p hp => by
          obtain ⟨nm, d, x, y, e1, m2, rp, rx, e2, rp2⟩ := there p.1 p.2 hp
          have ro := k2.val p.1
          rw [e2] at ro
          obtain ⟨z, hz, _⟩ := ro.some_of
          rw [hz]; rfl
        have hl : (vs1.length == vs2.length) = true := by
          have := p1.len; have := p2.len; have := k1.length; have := k2.length
          simp only [beq_iff_eq]; omega
        have hits := PySem.W.KeqHitsIn.of (prog := X.prog) (w := X.w) (A := X.A.in1) (s := s) (kb := vs2) (e := fun _ => true) vs1 (fun k v y' m hv => by
          obtain ⟨nm, d, x, y, e1, m2, rp, rx, e2, rp2⟩ := there k v m
          have ro := k2.val k
          rw [e2, hv] at ro
          have hdd := depth_memKv m2
          unfold D.depth at hd
          exact sub d x y v y' (by omega) rp rp2 rx ro)
        rw [ha] at hits
        refine PySem.W.lf_ne_dicts (r := true) s1 s2 d1 d2 (by omega) (fun _ => hits) ?_
        rw [hl]
        exact ⟨.bl false, H, I, rfl, q⟩
end
end Lf

/-! # LfVals -/
set_option Elab.async false
set_option linter.all false
set_option maxRecDepth 100000
set_option maxHeartbeats 4000000
namespace Lf
open PySem L2
/-! ## values as data -/
def VlD : Vl → D
  | .tx s => .str s
  | .rws rs => .lst (rs.map fun r => .dic (r.map fun p => (p.1, .str p.2)))
def valsD (vals : List (Str × Vl)) : D := .dic (vals.map fun p => (p.1, VlD p.2))
theorem rowK_rp {K : PySem.W.Frag} {H : Hp} : ∀ (r : List (Str × Str)), RpKv K H (rowK r) (r.map fun p => (p.1, D.str p.2))
  | [] => .nil
  | p :: r => .cons (.str _) (rowK_rp r)
theorem rows_rp {K : PySem.W.Frag} {H : Hp} {xs : List V} {rs : List (List (Str × Str))} (h : Paired (RD H) xs rs) (nd : ∀ r ∈ rs, (r.map (·.1)).Nodup) : RpAll K H xs (rs.map fun r => D.dic (r.map fun p => (p.1, .str p.2))) := by
  induction h with
  | nil => exact .nil
  | @cons x r xs rs z _ ih =>
    obtain ⟨d, rfl, e⟩ := z
    refine .cons (.dic (.inl e) (rowK_rp r) ?_) (ih fun r' hr' => nd r' (List.mem_cons_of_mem _ hr'))
    rw [List.map_map]; exact nd r List.mem_cons_self
def ndV : Vl → Prop
  | .tx _ => True
  | .rws rs => ∀ r ∈ rs, (r.map (·.1)).Nodup
theorem RVl.rp {K : PySem.W.Frag} {H : Hp} {v : V} {vl : Vl} (h : RVl K H v vl) (nd : ndV vl) : Rp K H v (VlD vl) := by
  cases vl with
  | tx s => cases h; exact .str _
  | rws rs => obtain ⟨l, xs, rfl, q, p⟩ := h; exact .lst q (rows_rp p nd)
theorem RKv.rp {K : PySem.W.Frag} {H : Hp} {kvs : List (Key × V)} {vals : List (Str × Vl)} (h : Paired (RKv K H) kvs vals) (nd : ∀ p ∈ vals, ndV p.2) : RpKv K H kvs (vals.map fun p => (p.1, VlD p.2)) := by
  induction h with
  | nil => exact .nil
  | @cons x r xs rs z _ ih =>
    obtain ⟨k, v⟩ := x
    obtain ⟨e, q⟩ := z
    simp only at e
    subst e
    exact .cons (q.rp (nd r List.mem_cons_self)) (ih fun p hp => nd p (List.mem_cons_of_mem _ hp))
theorem RV.rp {K : PySem.W.Frag} {H : Hp} {v : V} {vals : List (Str × Vl)} (h : RV K H v vals) (n1 : (vals.map (·.1)).Nodup) (n2 : ∀ p ∈ vals, ndV p.2) : Rp K H v (valsD vals) := by
  obtain ⟨d, kvs, rfl, e, p⟩ := h
  refine .dic (.inl e) (RKv.rp p n2) ?_
  rw [List.map_map]; exact n1
theorem valsD_depth (vals : List (Str × Vl)) : (valsD vals).depth ≤ 60 ∧ 1 ≤ (valsD vals).depth := by
  have h1 : ∀ r : List (Str × Str), depthKv (r.map fun p => (p.1, D.str p.2)) = 0 := fun r => by
    induction r with
    | nil => rfl
    | cons p r ih => rw [List.map_cons]; unfold depthKv; rw [ih]; rfl
  have h2 : ∀ rs : List (List (Str × Str)), depthAll (rs.map fun r => D.dic (r.map fun p => (p.1, .str p.2))) ≤ 1 := fun rs => by
    induction rs with
    | nil => exact Nat.zero_le _
    | cons r rs ih =>
      rw [List.map_cons]; unfold depthAll; unfold D.depth; rw [h1]; exact Nat.max_le.mpr ⟨by omega, ih⟩
  have h3 : ∀ vl, (VlD vl).depth ≤ 2 := fun vl => by
    cases vl with
    | tx s => exact Nat.zero_le _
    | rws rs => unfold VlD D.depth; have := h2 rs; omega
  have h4 : depthKv (vals.map fun p => (p.1, VlD p.2)) ≤ 2 := by
    induction vals with
    | nil => exact Nat.zero_le _
    | cons r rs ih => rw [List.map_cons]; unfold depthKv; exact Nat.max_le.mpr ⟨h3 _, ih⟩
  unfold valsD D.depth
  omega
/-! ## a dict's own rows, the dict itself away -/
theorem rowK_ref {r : List (Str × Str)} {k : Key} {l : Addr} (h : (k, V.ref l) ∈ rowK r) : False := by
  unfold rowK at h
  obtain ⟨p, _, e⟩ := List.mem_map.mp h
  cases e
theorem paired_mem {α β : Type} {F : α → β → Prop} {xs : List α} {ys : List β} {y : β} (h : Paired F xs ys) (m : y ∈ ys) : ∃ x ∈ xs, F x y := by
  obtain ⟨i, hi, e⟩ := List.mem_iff_getElem.mp m
  obtain ⟨x, h1, h2⟩ := Paired.ats h (i := i) (y := y) (by rw [List.getElem?_eq_getElem hi, e])
  exact ⟨x, mem_at h1, h2⟩
theorem RV.own {K : PySem.W.Frag} {G : Hp} {v : V} {vals : List (Str × Vl)} (h : RV K G v vals) : ∃ d kvs, v = .ref d ∧ G d = some (.dK kvs) ∧ Paired (RKv K (hide G [d])) kvs vals := by
  obtain ⟨d, kvs, e, hd, p⟩ := h
  refine ⟨d, kvs, e, hd, Paired.of_at (Paired.len p) fun i x y h1 h2 => ?_⟩
  obtain ⟨y', e2, z1, z2⟩ := Paired.at p h1
  rw [h2] at e2; cases e2
  refine ⟨z1, ?_⟩
  obtain ⟨n, vl⟩ := y
  cases vl with
  | tx s => exact z2
  | rws rs =>
    obtain ⟨l, xs, e3, q, pr⟩ := z2
    have nd : ∀ a, a ∈ [d] → ∀ o, G a = some o → o = .dK kvs := fun a ha o eo => by
      simp at ha; subst ha; rw [hd] at eo; exact (Option.some.inj eo).symm
    refine ⟨l, xs, e3, ?_, Paired.of_at (Paired.len pr) fun j x2 r2 g1 g2 => ?_⟩
    · rcases q with (q | ⟨o, q⟩) | q
      · exact .inl (.inl (by rw [hide_out fun m => by have := nd _ m _ q; cases this]; exact q))
      · exact .inl (.inr ⟨o, by rw [hide_out fun m => by have := nd _ m _ q; cases this]; exact q⟩)
      · exact .inr q
    · obtain ⟨r3, e4, d3, e5, e6⟩ := Paired.at pr g1
      rw [g2] at e4; cases e4
      refine ⟨d3, e5, ?_⟩
      rw [hide_out fun m => ?_]; exact e6
      have e7 := nd _ m _ e6
      have e8 : rowK r2 = kvs := by cases e7; rfl
      have m1 := mem_at h1
      obtain ⟨k, w⟩ := x
      simp only at e3
      subst e3
      rw [← e8] at m1
      exact rowK_ref m1
section
variable (K : PySem.W.Frag)
def sp__law_copy : Sp := fun vs H Q _ => ∃ (v : V) (vals : List (Str × Vl)) (G : Hp), vs = [v] ∧ Same G H ∧ RV K G v vals ∧ (vals.map (·.1)).Nodup ∧ vals.length ≤ 100 ∧
  (∀ p ∈ vals, ∀ rs, p.2 = .rws rs → rs.length ≤ 100) ∧ Ret G H (fun v G' => RV K G' v vals) Q
end
end Lf
namespace Lf
open PySem L2
theorem SqL.ty {K : PySem.W.Frag} {H : Hp} {a : Addr} {xs : List V} (h : SqL K H a xs) : TyX K H (.ref a) (.type "list") := by
  rcases h with (h | ⟨o, h⟩) | ⟨o, its, n, h1, h2, _⟩
  · exact .base (.lst h)
  · exact .base (.frz h)
  · exact .kList h1 h2
/-- a dict was walked: it is free again -/
theorem Wd.unlock {G H G2 H2 : Hp} {d : Addr} {o u : HO} (gh : Same G H) (hd : G d = some o) (W : Wd (hide G [d]) (upd H d u) G2 H2) (e : H2 d = some u) : Wd G H (upd G2 d o) (upd H2 d o) := by
  refine ⟨fun b v hb => ?_, fun b v hb => ?_, fun b v hb => ?_, fun b v h1 h2 => ?_⟩
  · by_cases q : b = d
    · subst q; rw [upd_same]; rw [hd] at hb; exact hb
    · rw [upd_ne q]; exact W.gg _ _ (by rw [hide_out (by simpa using q)]; exact hb)
  · by_cases q : b = d
    · subst q; rw [upd_same] at hb ⊢; exact hb
    · rw [upd_ne q] at hb ⊢; exact W.gh _ _ hb
  · by_cases q : b = d
    · subst q; rw [gh _ _ hd] at hb; rw [upd_same]; exact hb
    · rw [upd_ne q]; exact W.hh _ _ (by rw [upd_ne q]; exact hb)
  · have q : b ≠ d := fun z => by subst z; rw [hd] at h2; cases h2
    rw [upd_ne q]; exact W.nw b v (by rw [upd_ne q]; exact h1) (by rw [hide_out (by simpa using q)]; exact h2)
theorem upd_comm {H : Hp} {a b : Addr} {o u : HO} (h : a ≠ b) : upd (upd H a o) b u = upd (upd H b u) a o := by
  funext c
  by_cases e1 : c = a
  · subst e1; rw [upd_ne h, upd_same, upd_same]
  · by_cases e2 : c = b
    · subst e2; rw [upd_same, upd_ne e1, upd_same]
    · rw [upd_ne e2, upd_ne e1, upd_ne e1, upd_ne e2]
theorem look_mem {α : Type} {l : List (Str × α)} {n : Str} {v : α} (nd : (l.map (·.1)).Nodup) (h : (n, v) ∈ l) : look n l = some v := by
  induction l with
  | nil => cases h
  | cons p r ih =>
    unfold look at *
    rw [List.map_cons, List.nodup_cons] at nd
    rw [List.find?_cons]
    rcases List.mem_cons.mp h with e | h
    · subst e; rw [decide_eq_true rfl]; rfl
    · have ne : ¬ p.1 = n := fun e => nd.1 (by rw [e]; exact List.mem_map.mpr ⟨(n, v), h, rfl⟩)
      rw [decide_eq_false ne]
      exact ih nd.2 h
theorem look_take {α : Type} {l : List (Str × α)} {i : Nat} {n : Str} {v : α} (nd : (l.map (·.1)).Nodup) (h : l[i]? = some (n, v)) : look n (l.take i) = none := by
  rw [look_keys]
  have e := take_snoc h
  have s : ((l.take (i + 1)).map (·.1)).Nodup := nd.sublist ((take_sub l (i + 1)).map _)
  rw [e, List.map_append, List.nodup_append] at s
  intro m
  exact s.2.2 n m n (by simp) rfl
theorem putK_last {kvs : List (Key × V)} {k : Key} {v u : V} (h : valV kvs k = none) : putK (kvs ++ [(k, v)]) k u = kvs ++ [(k, u)] := by
  have h1 : ∀ p ∈ kvs, p.1 ≠ k := fun p hp e => by
    induction kvs with
    | nil => cases hp
    | cons q r ih =>
      by_cases z : q.1 = k
      · rw [valV_pos z] at h; cases h
      · rw [valV_neg z] at h
        rcases List.mem_cons.mp hp with e2 | hp
        · subst e2; exact z e
        · exact ih h hp
  unfold putK
  rw [if_pos (by rw [List.any_append]; simp), List.map_append]
  congr 1
  · conv => rhs; rw [← List.map_id kvs]
    exact List.map_congr_left fun p hp => by rw [if_neg (h1 p hp)]; rfl
  · simp
end Lf

namespace Lf
open PySem L2
/-! ## a heap without dicts -/
def noD (H : Hp) : Hp := fun a => match H a with
  | some (.dK _) => none
  | o => o
theorem noD_out {H : Hp} {a : Addr} (h : ∀ kvs, H a ≠ some (.dK kvs)) : noD H a = H a := by
  unfold noD
  split
  · next e => exact absurd e (h _)
  · rfl
theorem noD_in {H : Hp} {a : Addr} {kvs : List (Key × V)} (h : H a = some (.dK kvs)) : noD H a = none := by unfold noD; rw [h]
theorem noD_same (H : Hp) : Same (noD H) H := fun a o e => by
  unfold noD at e
  split at e
  · cases e
  · exact e
theorem SqL.noD {K : PySem.W.Frag} {H : Hp} {a : Addr} {xs : List V} (h : SqL K H a xs) : SqL K (noD H) a xs := by
  rcases h with (h | ⟨o, h⟩) | h
  · exact .inl (.inl (by rw [noD_out fun _ e => by rw [h] at e; cases e]; exact h))
  · exact .inl (.inr ⟨o, by rw [noD_out fun _ e => by rw [h] at e; cases e]; exact h⟩)
  · exact .inr h
theorem SqT.noD {K : PySem.W.Frag} {H : Hp} {a : Addr} {xs : List V} (h : SqT K H a xs) : SqT K (noD H) a xs := by
  rcases h with (h | ⟨o, h⟩) | h
  · exact .inl (.inl (by rw [noD_out fun _ e => by rw [h] at e; cases e]; exact h))
  · exact .inl (.inr ⟨o, by rw [noD_out fun _ e => by rw [h] at e; cases e]; exact h⟩)
  · exact .inr h
theorem R0.noD {K : PySem.W.Frag} {H : Hp} {v : V} {p : P0} (h : R0 K H v p) : R0 K (noD H) v p := by
  obtain ⟨a, e, t⟩ := h; exact ⟨a, e, SqT.noD t⟩
theorem RP.noD {K : PySem.W.Frag} {H : Hp} {v : V} {p : Pc} (h : RP K H v p) : RP K (noD H) v p := by
  cases p with
  | p0 p => exact R0.noD h
  | rows nm ps gap lo hi =>
    obtain ⟨a, l, xs, e, t, q, r⟩ := h
    exact ⟨a, l, xs, e, SqT.noD t, SqL.noD q, Paired.monoP r fun _ _ z => R0.noD z⟩
/-! ## names -/
theorem piece_names (ns : List Int) (k : Int) (nm : Str) (most : Int) {ips : List P0} {n gap : Str} {lo hi : Int} (h : pieceP ns k nm most = .rows n ips gap lo hi) : ∀ q ∈ ips, ∀ m, nm0 q = some m → m ∈ nmI := by
  unfold pieceP at h
  split at h
  · cases h
  · split at h
    · cases h
    · injection h with _ h2
      subst h2
      intro q hq m e
      obtain ⟨j, hj, rfl⟩ := mem_map_range hq
      have hs := inner_size ns (k + 2) (many := 3) (by decide) (by decide)
      rcases innerAt_nm ns (k + 2) most j with z | z
      · rw [z] at e; cases e
      · rw [z] at e; cases e; exact getD_mem (by have h3 : (3 : Int).toNat = 3 := rfl; show j < 3; omega)
theorem pieces_names (ns : List Int) (many most : Int) : ∀ p ∈ piecesP ns many most, (∀ n, nmP p = some n → n ∈ nmO) ∧ ∀ nm ips gap lo hi, p = .rows nm ips gap lo hi → ∀ q ∈ ips, ∀ m, nm0 q = some m → m ∈ nmI := fun p hp => by
  obtain ⟨j, hj, rfl⟩ := mem_map_range hp
  refine ⟨fun n e => ?_, fun nm ips gap lo hi e => piece_names ns _ _ most e⟩
  rcases pieceP_nm ns (10 + 20 * (j : Nat)) (pick nmO ((j : Nat) + draw ns 2)) most with z | z
  · unfold pieceAt at e; rw [z] at e; cases e
  · unfold pieceAt at e; rw [z] at e; cases e; exact pick_mem nmO _ (by decide)
theorem none_I : ("none" : Str) ∉ nmI := by decide +kernel
theorem none_O : ("none" : Str) ∉ nmO := by decide +kernel
def NN (ps : List Pc) : Prop := ∀ p ∈ ps, nmP p ≠ some ("none" : Str) ∧ ∀ nm ips gap lo hi, p = .rows nm ips gap lo hi → ∀ q ∈ ips, nm0 q ≠ some ("none" : Str)
theorem pieces_NN (ns : List Int) (many most : Int) : NN (piecesP ns many most) := fun p hp => by
  have h := pieces_names ns many most p hp
  exact ⟨fun e => none_O (h.1 _ e), fun nm ips gap lo hi e q hq e2 => none_I (h.2 nm ips gap lo hi e q hq _ e2)⟩
/-! ## names beside -/
def rowLe (r r' : List (Str × Str)) : Prop := r' = r ∨ r' = r ++ [(("none" : Str), ("?" : Str))]
def VLe : Vl → Vl → Prop
  | .tx s, vl => vl = .tx s
  | .rws rs, vl => ∃ rs', vl = .rws rs' ∧ Paired rowLe rs rs'
def PLe (p q : Str × Vl) : Prop := p.1 = q.1 ∧ VLe p.2 q.2
theorem Paired.pick {α β γ : Type} {F : α → β → Prop} {R : α → γ → Prop} {L : β → γ → Prop} {xs : List α} {ys : List β} (h : Paired F xs ys) (f : ∀ x y, x ∈ xs → y ∈ ys → F x y → ∃ z, R x z ∧ L y z) : ∃ zs, Paired R xs zs ∧ Paired L ys zs := by
  induction h with
  | nil => exact ⟨[], .nil, .nil⟩
  | @cons x y xs ys z _ ih =>
    obtain ⟨zs, h1, h2⟩ := ih fun x y hx hy => f x y (List.mem_cons_of_mem _ hx) (List.mem_cons_of_mem _ hy)
    obtain ⟨w, w1, w2⟩ := f x y List.mem_cons_self List.mem_cons_self z
    exact ⟨w :: zs, .cons w1 h1, .cons w2 h2⟩
theorem PLe.keys {a b : List (Str × Vl)} (h : Paired PLe a b) : b.map (·.1) = a.map (·.1) := by
  induction h with
  | nil => rfl
  | cons z _ ih => rw [List.map_cons, List.map_cons, ih, z.1]
theorem PLe.look {a b : List (Str × Vl)} (h : Paired PLe a b) (n : Str) : ∀ vl, look n a = some vl → ∃ vl', look n b = some vl' ∧ VLe vl vl' := by
  induction h with
  | nil => intro vl e; cases e
  | @cons p q ps qs z _ ih =>
    intro vl e
    unfold Lf.look at *
    rw [List.find?_cons] at e ⊢
    by_cases en : p.1 = n
    · rw [decide_eq_true en] at e
      rw [← z.1, decide_eq_true en]
      cases e
      exact ⟨_, rfl, z.2⟩
    · rw [decide_eq_false en] at e
      rw [← z.1, decide_eq_false en]
      exact ih vl e
theorem look_app {α : Type} {n : Str} {a b : List (Str × α)} (h : look n b = none) : look n (a ++ b) = look n a := by
  unfold look at *
  rw [List.find?_append]
  cases e : List.find? (fun p => decide (p.1 = n)) a with
  | some x => rfl
  | none =>
    rw [Option.map_eq_none_iff] at h
    rw [h]; rfl
theorem look_none1 {α : Type} {n m : Str} {v : α} (h : m ≠ n) : look n [(m, v)] = none := by
  unfold look; rw [List.find?_cons, decide_eq_false h]; rfl
theorem rowLe.look {r r' : List (Str × Str)} (h : rowLe r r') {n : Str} (hn : n ≠ "none") : look n r' = look n r := by
  rcases h with rfl | rfl
  · rfl
  · exact look_app (look_none1 (Ne.symm hn))
theorem fits_le {vals vals' : List (Str × Vl)} {ps : List Pc} (nn : NN ps) (h : Paired PLe (vals ++ [(("none" : Str), Vl.tx "?")]) vals') {p : Pc} (hp : p ∈ ps) (hf : fitsP vals p) : fitsP vals' p := by
  have n1 := (nn p hp).1
  cases p with
  | p0 p =>
    cases p with
    | say t => trivial
    | ask nm sg lo hi =>
      obtain ⟨s, e, f⟩ := hf
      have ne : ("none" : Str) ≠ nm := fun z => n1 (by rw [z]; rfl)
      obtain ⟨vl', e2, le⟩ := PLe.look h nm (.tx s) (by rw [look_app (look_none1 ne)]; exact e)
      exact ⟨s, by rw [e2]; exact congrArg some le, f⟩
  | rows nm ips gap lo hi =>
    obtain ⟨rs, e, f1, f2, f3⟩ := hf
    have ne : ("none" : Str) ≠ nm := fun z => n1 (by rw [z]; rfl)
    obtain ⟨vl', e2, rs', rfl, pr⟩ := PLe.look h nm (.rws rs) (by rw [look_app (look_none1 ne)]; exact e)
    have hl := Paired.len pr
    refine ⟨rs', e2, by omega, by omega, fun r' hr' p hp2 => ?_⟩
    obtain ⟨r, hr, le⟩ := paired_mem pr hr'
    have := f3 r hr p hp2
    cases p with
    | say t => trivial
    | ask n2 sg lo hi =>
      obtain ⟨s, e3, f4⟩ := this
      exact ⟨s, by rw [le.look fun z => (nn _ hp).2 nm ips gap _ _ rfl _ hp2 (by rw [← z]; rfl)]; exact e3, f4⟩
theorem rowK_inj {r r' : List (Str × Str)} (h : rowK r = rowK r') : r = r' := by
  induction r generalizing r' with
  | nil => cases r' with
    | nil => rfl
    | cons => cases h
  | cons p r ih => cases r' with
    | nil => cases h
    | cons q r' =>
      unfold rowK at h
      rw [List.map_cons, List.map_cons] at h
      injection h with h1 h2
      obtain ⟨a, b⟩ := p
      obtain ⟨c, d⟩ := q
      cases h1
      rw [ih h2]
theorem val_names (ns : List Int) (s : Int) (ps : List Pc) : (valuesP ns s ps).map (·.1) = nms ps := by
  have h := val_keys ns s ps ps.length (Nat.le_refl _)
  rw [List.take_length] at h
  exact h
theorem row_names (ns : List Int) (k : Int) (ps : List P0) : (rowP ns k ps).map (·.1) = nms0 ps := by
  have h := row_keys ns k ps ps.length (Nat.le_refl _)
  rw [List.take_length] at h
  exact h
/-- what stands in drawn values -/
theorem values_mem {ns : List Int} {s : Int} {ps : List Pc} (ok : okF ps) {q : Str × Vl} (h : q ∈ valuesP ns s ps) : (∃ sg lo hi t, Pc.p0 (.ask q.1 sg lo hi) ∈ ps ∧ q.2 = .tx t) ∨
    ∃ ips gap lo hi rs, Pc.rows q.1 ips gap lo hi ∈ ps ∧ q.2 = .rws rs ∧ rs.length ≤ 3 ∧ ∀ r ∈ rs, r.map (·.1) = nms0 ips := by
  unfold valuesP at h
  obtain ⟨k, hk, e⟩ := List.mem_filterMap.mp h
  have hk := List.mem_range.mp hk
  rw [List.getElem?_eq_getElem hk] at e
  have hm : ps[k] ∈ ps := List.getElem_mem hk
  cases hp : ps[k] with
  | p0 p =>
    rw [hp] at e hm
    cases p with
    | say t => cases e
    | ask nm sg lo hi => cases e; exact .inl ⟨sg, lo, hi, _, hm, rfl⟩
  | rows nm ips gap lo hi =>
    rw [hp] at e hm
    cases e
    refine .inr ⟨ips, gap, lo, hi, _, hm, rfl, ?_, fun r hr => ?_⟩
    · rw [List.length_map, List.length_range]
      obtain ⟨_, _, _, _, _, _, _, l0, lh, h3⟩ := ok.ok _ hm
      have ws := word_size (ns := ns) (k := s + 90 * k) l0 lh
      omega
    · obtain ⟨j, hj, rfl⟩ := mem_map_range hr
      exact row_names ns _ ips
theorem nms_mem {ps : List Pc} {p : Pc} {n : Str} (h : p ∈ ps) (e : nmP p = some n) : n ∈ nms ps := List.mem_filterMap.mpr ⟨p, h, e⟩
/-- a form, just made -/
theorem form_mk {K : PySem.W.Frag} {H3 H4 : Hp} {x dx C f0 : Addr} {ys zs : List V} {ps : List Pc} (cF : CF K C) (k4 : Keep H3 H4) (hX4 : H4 x = some (.ins C dx (putF "pieces" (.ref f0) []))) (hf4 : H4 f0 = some (.lst zs)) (hzl : zs.length = ys.length)
    (hP : Paired (RP K H3) ys ps) (hC : ∀ (i : Nat) y z p, ys[i]? = some y → zs[i]? = some z → ps[i]? = some p → CopyE K H3 H4 y z p) : FormAt K H4 x ps := by
  have hl := Paired.len hP
  refine ⟨C, dx, f0, zs, cF.1, cF.2, hX4, SqL.of hf4, Paired.of_at (by omega) fun i z p h1 h2 => ?_⟩
  have hi : i < ys.length := by have := at_lt h1; omega
  exact (hC i _ z p (List.getElem?_eq_getElem hi) h1 h2).rp k4
end Lf

/-! # LfExc -/
set_option Elab.async false
set_option linter.all false
set_option maxRecDepth 100000
set_option maxHeartbeats 4000000
namespace Lf
open PySem PySem.Spec PyProof.Rows L2
/-! ## an exception that was caught and is kept -/
/-- at a: an exception of the class cls, its own dict d -/
def ExH (cls : Value) (d : Option Addr) (a : Addr) : HO := .ext fun h => ∃ (ob : Obj) (fs : Array Value), h.get? a = some ob ∧ Zc cls d ob ∧ ob.data = .fields fs
theorem exH_ok {P : Program} {w : World} {H : Hp} {h : Heap} {a : Addr} {cls : Value} {d : Option Addr} {ob : Obj} {fs : Array Value} (e : h.get? a = some ob) (z : Zc cls d ob) (f : ob.data = .fields fs) : ObjOk P w H h a (ExH cls d a) :=
  ⟨⟨ob, fs, e, z, f⟩, ⟨ob, e⟩, fun _ _ ⟨o, v, q, r⟩ k => ⟨o, v, k o q, r⟩⟩
section
variable {X : Cx} {pins : List (Addr × Obj)} {σ : L2.St} {H : Hp} {s : Shared}
theorem inv_track {a : Addr} {ob : Obj} {fs : Array Value} {cls : Value} {d : Option Addr} (I : Inv X pins σ H s) (ha : s.heap.get? a = some ob) (hz : Zc cls d ob) (hf : ob.data = .fields fs) (na : H a = none)
    (n0 : X.s_0.heap.get? a = none) (nL : a ≠ X.env.locals) (hp : ∀ p ∈ X.pn ++ pins, p.1 ≠ a) : Inv X pins σ (upd H a (ExH cls d a)) s where
  ok := I.ok
  os := I.os
  bare := I.bare
  base := by
    refine ⟨I.base.keep, I.base.slot, fun b o e n hx => ?_, I.base.there, fun b ys e => ?_, fun b o u e => ?_, fun b ps e => ?_⟩
    · rw [upd_ne fun z => by rw [z, n0] at e; cases e]
      exact I.base.free b o e n hx
    · have q := I.base.tups b ys e
      rw [upd_ne (ne_of_none q na)]; exact q
    · have q := I.base.frzs b o u e
      rw [upd_ne (ne_of_none q na)]; exact q
    · obtain ⟨m, q⟩ := I.base.tbls b ps e
      exact ⟨m, (upd_ne (ne_of_none q na)).trans q⟩
  loc := I.loc
  cell := I.cell
  free := (upd_ne nL.symm).trans I.free
  freeC := fun x c e => by
    have hc : c ≠ a := fun z => by
      obtain ⟨v, o, ho, hd⟩ := I.cell x c e
      rw [z, ha] at ho; cases ho
      rw [hf] at hd; cases hd
    exact (upd_ne hc).trans (I.freeC x c e)
  pin := fun p m => by
    obtain ⟨e1, e2, e3⟩ := I.pin p m
    exact ⟨e1, (upd_ne (hp p m)).trans e2, e3⟩
  hok := fun b u e => by
    by_cases hb : b = a
    · subst hb
      rw [upd_same] at e
      cases e
      exact exH_ok ha hz hf
    · rw [upd_ne hb] at e
      exact (I.hok b u e).stay (fun c v _ q => q) (fun c q => by rw [upd_ne (ne_of_none q na)]; exact q) fun c ys q => by rw [upd_ne (ne_of_none q na)]; exact q
  len := I.len
theorem inv_suite {a : Addr} (I : Inv X pins σ H s) : Inv (X.suite a (X.pn ++ pins)) [] σ H s where
  ok := I.ok.suite _ _
  os := I.os
  bare := I.bare
  base := I.base
  loc := I.loc
  cell := I.cell
  free := I.free
  freeC := I.freeC
  pin := fun p m => I.pin p (by rw [List.append_nil] at m; exact m)
  hok := I.hok
  len := I.len
theorem inv_unsuite {a : Addr} {pn' : List (Addr × Obj)} (I : Inv (X.suite a (X.pn ++ pins)) pn' σ H s) (ok : X.Ok) : Inv X pins σ H s where
  ok := ok
  os := I.os
  bare := I.bare
  base := I.base
  loc := I.loc
  cell := I.cell
  free := I.free
  freeC := I.freeC
  pin := fun p m => I.pin p (List.mem_append_left _ m)
  hok := I.hok
  len := I.len
end
/-- what 'except x as n' wishes, the exception being kept: slot i is n's -/
def wAsT (K : PySem.W.Frag) (c : Value) (i : Nat) (ts : TS) (Wout : WX) (D : Ends) : WX := fun cls d σ H =>
  ∃ b, PySem.W.exmOne K cls c = some b ∧
    (b = true → ∀ a, H a = none → ts ⟨fun σ' H' => D.nx (σ'.set i none) H', D.rt, fun σ' H' => D.bk (σ'.set i none) H', fun σ' H' => D.ct (σ'.set i none) H'⟩ (σ.set i (some (.ref a))) (upd H a (ExH cls d a))) ∧
    (b = false → Wout cls d σ H)
section
variable {X : Cx} {x n : Str} {c : Value} {i : Nat} {body suite : List Stmt} {b₀ : Stmt} {np pos pos' : Pos} {tb : WX → TS} {ts : TS} {Wout : WX}
theorem ps_try_asT (hs : X.stack = X.env :: X.outer) (hf : X.env.frame = some X.env.locals) (hex : X.ex = []) (hN : X.N.Nodup) (hi : X.N[i]? = some n) (hln : X.env.kindOf n = some .local) (hc : Names X x c) (tk : Takes X Wout)
    (hb : ∀ (W : WX) (pn : List (Addr × Obj)) (xe : Value → Shared → Prop), Takes (X.tr pn xe) W → PassesOwn (model X.prog X.w) X.A X.env xe → PSs (X.tr pn xe) body (tb W))
    (hsu : ∀ (a : Addr) (pn : List (Addr × Obj)), PSs (X.suite a pn) (b₀ :: suite) ts) :
    PS X (.Try body [.ExceptHandler (some (.Name x np)) (some n) (b₀ :: suite) pos'] [] [] pos) (fun D σ H => tb (wAsT X.K c i ts Wout D) D σ H) := by
  refine ⟨fun pins s σ H D I h => wpAny_Try_except ?_⟩
  have ok := I.ok
  have hfr : X.A.frames = some (X.env :: X.outer) := ok.frames.trans (congrArg some hs)
  refine wpAny_mono ((hb (wAsT X.K c i ts Wout D) (X.pn ++ pins)
    (fun e t1 => wpAny (model X.prog X.w) X.A (noteFrame e X.env) (fun _ t2 => wpAny (model X.prog X.w) X.A (setFlight e none)
      (fun _ t3 => wpAny (model X.prog X.w) X.A (handleBy e X.env [.ExceptHandler (some (.Name x np)) (some n) (b₀ :: suite) pos']) (SP X pins D) X.xe t3) X.xe t2) X.xe t1)
    (fun u s' air => ?_) PassesOwn.looking).run [] s σ H D (I.toTry _) h) (fun f s1 q => ?_) (fun _ _ z => z)
  · obtain ⟨a, B, sI, pn1, σ1, H1, cls, d, rfl, J0, nb, up, sky, na, os, ag, b, hb1, yes, no⟩ := air
    have J := J0.ofTry ok
    have sky1 : Sky B (X.env :: X.outer) a (Zc cls d) X.env.locals s'.heap := hs ▸ sky
    show wpAny (model X.prog X.w) X.A (noteFrame (.ref a) X.env) _ _ _
    refine Sky.land Zc.steady hfr hf sky1 fun h3 fl3 up3 => ?_
    have J3 : Inv X pins σ1 H1 { s' with heap := h3 } := J.landed nb fl3.1 (up.trans up3) os ag
    obtain ⟨o3, vs3, he3, hz3, hd3⟩ := fl3.there
    have nfr : a ∉ frs (X.env :: X.outer) := fun hm => by
      obtain ⟨_, o', e', hnf⟩ := fl3.2.2.1.mem hm
      rw [he3] at e'; cases e'
      exact hnf _ hd3
    have nL : a ≠ X.env.locals := fun z => nfr (List.mem_filterMap.mpr ⟨X.env, List.mem_cons_self, hf.trans (congrArg some z.symm)⟩)
    have nI : sI.heap.get? a = none := by
      cases e : sI.heap.get? a with
      | none => rfl
      | some o =>
        have z := nb a o e (by show a ∉ frs X.stack; rw [hs]; exact nfr)
        rw [fl3.2.1] at z; cases z
    have n0 : X.s_0.heap.get? a = none := by
      cases e : X.s_0.heap.get? a with
      | none => rfl
      | some o =>
        obtain ⟨o', z⟩ := J.base.there a o e (by rw [hex]; exact fun z => nomatch z)
        rw [nI] at z; cases z
    have np1 : ∀ p ∈ X.pn ++ pins, p.1 ≠ a := fun p hp z => by
      have e := (J.pin p hp).1
      rw [z, nI] at e; cases e
    refine wpAny_handleBy_cons (codeAny_handlers_test ?_) (by intro q; cases q)
    have LT : PySem.W.Looks (model X.prog X.w) h3 (typeOf (.ref a)) cls := fun A Q E t k q => wpAny_typeOf_ref (k _ _ he3) (by rw [hz3.1]; exact q)
    have LM := PySem.W.exm_one (M := model X.prog X.w) J3.kIn LT hb1
    have S3 : Inv (X.suite a (X.pn ++ pins)) [] σ1 H1 { s' with heap := h3 } := inv_suite J3
    have test : ∀ {Q : Value → Shared → Prop} {E : Value → Shared → Prop}, Q c { s' with heap := h3 } → wpAny (model X.prog X.w) (X.A.mark (some (.ref a))) (eval (.Name x np) X.env) Q E { s' with heap := h3 } := fun {Q E} q => by
      obtain ⟨hg, hdbg, hm | ⟨hm, hv, hnn⟩⟩ := hc
      · exact ld_glob (X := X.suite a (X.pn ++ pins)) S3 hg hm q hdbg
      · exact ld_blt (X := X.suite a (X.pn ++ pins)) S3 hg hm hv q hnn hdbg
    refine test (LM.here ?_)
    cases b with
    | true =>
      refine codeAny_handlers_suite_as (HandSPX.lands_againZ fl3 fun h4 fl4 up4 => ?_)
      have J4 : Inv X pins σ1 H1 { s' with heap := h4 } := J.landed nb fl4.1 ((up.trans up3).trans up4) os ag
      obtain ⟨o4, vs4, he4, hz4, hd4⟩ := fl4.there
      have S4 : Inv (X.suite a (X.pn ++ pins)) [] σ1 (upd H1 a (ExH cls d a)) { s' with heap := h4 } := inv_suite (inv_track J4 he4 hz4 hd4 na n0 nL np1)
      refine store_ok (X := X.suite a (X.pn ++ pins)) (v := .ref a) S4 hN hi (.inl hln) rfl (fun s5 S5 => ?_) (.inr hln)
      refine wpAny_mono ((hsu a (X.pn ++ pins)).run [] s5 _ _ _ S5 (yes rfl a na)) (fun f s6 q6 => ?_) (fun _ _ z => z.elim)
      have back : ∀ {σ6 : L2.St} {H6 : Hp} {Q : Shared → Prop}, Inv (X.suite a (X.pn ++ pins)) [] σ6 H6 s6 → (∀ s7, Inv X pins (σ6.set i none) H6 s7 → Q s7) →
          wpAny (model X.prog X.w) X.A (do bindName X.env n .none; unbindBehindTheSuite X.env n pos') (fun _ s7 => Q s7) X.xe s6 := fun {σ6 H6 Q} S6 hq => gone_ok (inv_unsuite S6 ok) hN hi hln hq
      cases f with
      | ret u =>
        obtain ⟨v6, σ6, H6, S6, r6, q7⟩ := q6
        exact back S6 fun s7 J7 => ⟨_, _, _, J7, r6, q7⟩
      | next =>
        obtain ⟨σ6, H6, S6, q7⟩ := q6
        exact back S6 fun s7 J7 => ⟨_, _, J7, q7⟩
      | brk =>
        obtain ⟨σ6, H6, S6, q7⟩ := q6
        exact back S6 fun s7 J7 => ⟨_, _, J7, q7⟩
      | cont =>
        obtain ⟨σ6, H6, S6, q7⟩ := q6
        exact back S6 fun s7 J7 => ⟨_, _, J7, q7⟩
    | false =>
      refine wpAny_handleBy_nil ?_
      obtain ⟨k1, k2, k3, oe, vs, T, oT, ts', he, hz, hd, h1, hr⟩ := id fl3
      unfold PySem.passOn
      refine wpAny_bind (wpAny_field he hd h1 ?_)
      rw [if_neg (show ¬ ((Value.ref T == Value.none) = true) from by simp)]
      have fin : wpAny (model X.prog X.w) X.A (setFlight (.ref a) X.env.frame) (fun _ t4 => wpAny (model X.prog X.w) X.A (throw (.ref a) : Sem Flow) (SP X pins D) X.xe t4) X.xe { s' with heap := h3 } := by
        rw [hf]
        exact HandSPX.setFlight_upZ fl3 fun h4 hh4 up4 => wpAny_throw (tk _ _ ⟨a, B, sI, pins, σ1, H1, cls, d, rfl, J, nb, (up.trans up3).trans up4, .inr (.inr (hs ▸ hh4)), na, os, ag, no rfl⟩)
      first
        | exact wpAny_bind (wpAny_pure (wpAny_bind fin))
        | exact wpAny_bind fin
  · cases f with
    | ret u =>
      obtain ⟨v, σ', H', J', r, q'⟩ := q
      exact ⟨v, σ', H', J'.ofTry ok, r, q'⟩
    | next =>
      obtain ⟨σ', H', J', q'⟩ := q
      exact wpAny_execs_nil ⟨σ', H', J'.ofTry ok, q'⟩
    | brk =>
      obtain ⟨σ', H', J', q'⟩ := q
      exact ⟨σ', H', J'.ofTry ok, q'⟩
    | cont =>
      obtain ⟨σ', H', J', q'⟩ := q
      exact ⟨σ', H', J'.ofTry ok, q'⟩
end

/-! ## isinstance of it, a field of it -/
structure XcC (K : PySem.W.Frag) (D : Addr) : Prop where
  cl : (PySem.W.clsIn K D).isSome = true
  ga : PySem.W.findIn K (.ref D) "__getattribute__" = some (some (.builtin "BaseException.__getattribute__"))
  gt : PySem.W.findIn K (.ref D) "__getattr__" = some none
  sb : PySem.W.subIn K (.ref D) (.type "BaseException") = some true
  ca : PySem.W.findIn K (.ref D) "__class__" = some (some (.builtin "object.__class__"))
  gs : PySem.W.specialIn K (.builtin "object.__class__") "__get__" = some (some (.builtin "getset_descriptor.__get__"))
  tk : PySem.W.takesIn K (.builtin "object.__class__") = some true
  ob : PySem.W.mroIn K D (.type "object") = some true
  hd : PySem.W.hasDictIn K D = true
def rIsX (K : PySem.W.Frag) : List V → Hp → VK → Prop := fun xs H Q => ∃ (a D : Addr) (d : Option Addr) (c : V) (u : Value) (b : Bool), xs = [.ref a, c] ∧ ClsV c u ∧ H a = some (ExH (.ref D) d a) ∧ (∀ e, d = some e → ∃ fs, H e = some (.xd fs)) ∧ XcC K D ∧
  PySem.W.kitOne K (.ref D) u = some b ∧ Q (.bl b) H
section
variable {X : Cx}
theorem inst_of {pins : List (Addr × Obj)} {σ : L2.St} {H : Hp} {s : Shared} {a D : Addr} {d : Option Addr} (I : Inv X pins σ H s) (ha : H a = some (ExH (.ref D) d a)) (hd : ∀ e, d = some e → ∃ fs, H e = some (.xd fs)) : ∃ ox od, PySem.W.InstAt s.heap a ox D od := by
  obtain ⟨⟨ox, vs, h1, h2, h3⟩, _⟩ := I.hok a _ ha
  have nc : PySem.W.notCls ox = true := by unfold PySem.W.notCls; rw [h3]
  cases d with
  | none => exact ⟨ox, none, h1, h2.1, nc, by rw [h2.2]; trivial⟩
  | some e =>
    obtain ⟨fs, he⟩ := hd e rfl
    obtain ⟨mA, hns, _⟩ := I.hok e _ he
    obtain ⟨od, ho, _⟩ := lookIn_ns hns
    exact ⟨ox, some od, h1, h2.1, nc, by rw [h2.2]; exact ho⟩
theorem call_isX : CallR X (.builtin "isinstance") (rIsX X.K) := by
  rintro pins s σ H xs us Q I r ⟨a, D, d, c, u, b, rfl, k, ha, hd, C, e, q⟩
  obtain ⟨u1, u2, rfl, r1, r2⟩ := vals2 r
  cases k.eq r2
  cases r1
  obtain ⟨ox, od, J⟩ := inst_of I ha hd
  exact PySem.W.kia_one (PySem.W.kitx_exc C.cl C.ga C.gt C.sb C.ca C.gs C.tk C.ob) I.kIn J e (fun z => nomatch z) fun tk => ⟨.bl b, H, I.tok tk, rfl, q⟩
theorem call_isX' {K : PySem.W.Frag} (h : X.K = K) : CallR X (.builtin "isinstance") (rIsX K) := by subst h; exact call_isX
/-- found.name, found an exception that was kept -/
def tXh (C : Addr) (f : Str) (te : TE) : TE := fun σ H Q => te σ H fun x H1 => ∃ (a dd : Addr) (fs : List (Str × V)) (v : V), x = .ref a ∧ H1 a = some (ExH (.ref C) (some dd) a) ∧ H1 dd = some (.xd fs) ∧ fs.lookup f = some v ∧ Q v H1
theorem pe_xh {C : Addr} {e : Expr} {te : TE} {pos : Pos} {n : Str} (T : XcC X.K C) (hno : PySem.W.findIn X.K (.ref C) n = some none) (he : PE X e te) (hb : attributeBase e n X.env (eval e X.env) = eval e X.env := by rfl) :
    PE X (.Attribute e n pos) (tXh C n te) := by
  refine ⟨fun pins s σ H Q I h => attr_of hb (thn (he.run pins s σ H _ I h) ?_)⟩
  rintro u s1 ⟨x, H1, I1, rx, a, dd, fs, v, rfl, ha, hdd, l, q⟩
  cases rx
  obtain ⟨⟨ox, vs, h1, h2, h3⟩, _⟩ := I1.hok a _ ha
  obtain ⟨mA, hns, hr⟩ := I1.hok dd _ hdd
  obtain ⟨od, ho, hl⟩ := lookIn_ns hns
  obtain ⟨u, hu, ru⟩ := RelO.some_of (v := v) (o := mA n) (by rw [← l]; exact hr n)
  have J : PySem.W.InstAt s1.heap a ox C (some od) := ⟨h1, h2.1, by unfold PySem.W.notCls; rw [h3], by rw [h2.2]; exact ho⟩
  exact HandSPX.exc_get I1.kIn J T.ga T.gt T.sb (PySem.W.findObj_own T.hd hno rfl (by rw [hl, hu])) (handed_of ru) ⟨v, H1, I1.tok _, ru, q⟩
end
/-! ## calls of defs that may raise -/
section
variable {X : Cx} {k j : Nat} {C : Addr} {x m : Str} {sp : Sp} {p pos apos : Pos} {e o : Expr} {es : List Expr} {ta : TE} {t : TA} {W : WX}
theorem cX (c : Dn X.prog X.w X.K X.mg X.base (L2.CX X.prog X.w) k x sp) (tk : Takes X W) (hr : Room j X.A) (hk : k ≤ j) (hg : Gl X x) (ha : PA X (e :: es) t)
    (hdb : (x == ("__debug__" : Str)) = false := by decide) (he : starEach (e :: es) X.env = (false, eval e X.env) :: starEach es X.env := by rfl) (hpl : (backTo pos (starEach es X.env)).any (·.1) = false := by rfl) :
    PE X (.Call (.Name x p) (e :: es) [] pos) (tCallS sp (WE W) t) := by
  obtain ⟨f, fd, ps, F, hm, kp, b⟩ := c.ex
  exact pe_callS F (hr.mono hk) hg hm kp b (fun σ => passAt tk σ) ha hdb he hpl
/-- an own class, made, its __init__ may raise -/
def tMakeS (C : Addr) (sp : Sp) (W : WX) (t : TA) : TE := fun σ H Q => t σ H fun vs H1 => ∀ x dx, H1 x = none → H1 dx = none → dx ≠ x →
  sp (.ref x :: vs) (upd (upd H1 dx (.own x)) x (.ins C dx [])) (fun v H2 => v = .non ∧ Q (.ref x) H2) (WE W σ)
theorem cMX (c : Mn X.prog X.w X.K X.mg X.base (L2.CX X.prog X.w) k x C sp) (tk : Takes X W) (hr : Room j X.A) (hk : k + 1 ≤ j) (hg : Gl X x) (ha : PA X (e :: es) t)
    (hdb : (x == ("__debug__" : Str)) = false := by decide) (he : starEach (e :: es) X.env = (false, eval e X.env) :: starEach es X.env := by rfl) (hpl : (backTo pos (starEach es X.env)).any (·.1) = false := by rfl) :
    PE X (.Call (.Name x p) (e :: es) [] pos) (tMakeS C sp W t) := by
  obtain ⟨f, fd, ps, M, F, hm, b⟩ := c.ex
  refine ⟨fun pins s σ H Q I h => wpAny_Call_Name_kw (ld_glob I hg hm ?_ hdb)⟩
  refine PySem.W.callWith_K (h₀ := X.base) I.ok.mod.kin M.kp (thn (ha.run pos pins s σ H _ I h) fun us s1 ⟨vs, H1, I1, r, q⟩ => ⟨I1.kIn, ?_⟩) he hpl
  have q0 := q (s1.heap.objs.size + 1) s1.heap.objs.size (I1.hok.fresh (Nat.le_succ _)) (I1.hok.fresh (Nat.le_refl _)) (Nat.ne_of_lt (Nat.lt_succ_self _))
  have I2 := Inv.made (C := C) I1
  have r2 : Vals (V.ref (s1.heap.objs.size + 1) :: vs) (Value.ref (s1.heap.objs.size + 1) :: us) := .cons rfl r
  have hl : (Value.ref (s1.heap.objs.size + 1) :: us ++ []).length = ps.length := by
    rw [List.append_nil, ← r2.length]; exact F.len _ _ _ _ q0
  have hb := b _ (Value.ref (s1.heap.objs.size + 1) :: us) I2.kIn hl
  rw [List.append_nil] at hb
  refine wpAny_call (make_map (f := f) I1.kIn M.makes M.init (beq_iff_eq.mp M.fn) (codeAny_mono (F.run _ X.stack _ _ ⟨_ :: us, []⟩ _ _ _ _ (((hr.mono hk)).make C us []) (I2.env0.make C us []) hb r2 q0) fun r s' hq => ?_))
  cases r with
  | error e => exact passAt tk σ pins _ _ e s' I2 hq
  | ok fl =>
    cases fl with
    | ret u =>
      obtain ⟨v, H', I3, rv, ev, q3⟩ := I2.after hq
      subst ev
      exact ⟨rv, V.ref (s1.heap.objs.size + 1), H', I3, rfl, q3⟩
    | next => exact hq.elim
    | brk => exact hq.elim
    | cont => exact hq.elim
end
/-- what an own exception class without __init__ must have to be raised -/
structure RzC (K : PySem.W.Frag) (mg : Str → Option Value) (x : Str) (C : Addr) : Prop where
  mgc : mg x = some (.ref C)
  ex : PySem.W.excIn K C [.type "ValueError", .type "Exception", .type "BaseException", .type "object"] "ValueError.__new__" = true
  kp : PySem.W.keepIn K (.ref C) = true
  sb : PySem.W.subIn K (.ref C) (.type "BaseException") = some true
  ty : PySem.W.typeIn K (.ref C) = some (.type "type")
theorem ps_rz {X : Cx} {W : WX} {x m : Str} {j : Nat} {C : Addr} {p p2 pos pos2 : Pos} (c : RzC X.K X.mg x C) (hc : X.calm = true) (tk : Takes X W) (hg : Gl X x) (hdb : (x == ("__debug__" : Str)) = false := by decide) :
    PS X (.Raise (some (.Call (.Name x p) [.Constant (.str m) j p2] [] pos)) none pos2) (fun _ σ H => W (.ref C) none σ H) :=
  ps_raise hc tk (pmk_own PySem.F.excBase_ValueError c.ex c.mgc c.kp (raises_own c.sb c.ty) hg hdb)
end Lf

/-! # LfBad -/
set_option Elab.async false
set_option linter.all false
set_option maxRecDepth 100000
set_option maxHeartbeats 4000000
namespace Lf
open PySem PySem.Spec PyProof.Rows L2
/-! ## a text times a number; how often a thing stands in a list -/
section
variable {X : Cx}
theorem op_repS : OpR X (binaryOp .Mult) (fun x y H Q => ∃ (z : Str) (n : Int), x = .str z ∧ y = .int n ∧ MulOk z n ∧ Q (.str (Txt.mul z n)) H) := by
  rintro pins s σ H x y v u Q I rx ry ⟨z, n, rfl, rfl, hm, q⟩
  obtain ⟨t, rfl⟩ := rx
  obtain ⟨t', rfl⟩ := ry
  exact SB.mul hm fun t' k => ⟨.str (Txt.mul z n), H, I.tok _, ⟨_, rfl⟩, q⟩
def rCntF (K : PySem.W.Frag) : V → List V → Hp → VK → Prop := fun x xs H Q => ∃ (p : Addr) (ys : List V) (y : V), x = .ref p ∧ xs = [y] ∧ SqL K H p ys ∧ flatV y = true ∧ ys.all flatV = true ∧ Q (.int (ys.countP (fun z => eqV z y) : Nat)) H
theorem countU {y : V} : ∀ {ys : List V} {us : List Value}, Vals ys us → ys.all flatV = true → us.countP (eqU y) = ys.countP (fun z => eqV z y)
  | _, _, .nil, _ => rfl
  | z :: ys, u :: us, .cons r t, f => by
    rw [List.all_cons, Bool.and_eq_true] at f
    rw [List.countP_cons, List.countP_cons, countU t f.2, eqU_of r f.1]
theorem mt_countF : MtR X "list.count" (rCntF X.K) := by
  rintro pins s σ H x xs v us Q I rx rxs ⟨p, ys, y, rfl, rfl, hs, fy, fys, q⟩
  cases rx
  obtain ⟨u, rfl, ru⟩ := rxs.one
  obtain ⟨its, rv, ⟨⟨cls, dd, data, sl⟩, n, ho, hc, hdn, hd⟩, hlen⟩ := I.list hs
  dsimp only at hc hd
  subst hc hd
  refine call_meets PySem.F.slot_list_count ⟨_, ho, rfl⟩ PySem.F.entry_list_count (PySem.F.args_list_count_2 _ _) (SeqAt.list_countAt p its.toArray n dd sl u (eqU y)) ⟨ho, fun w hw => mem_eqAt ru fy rv fys w (by simpa using hw), ?_⟩
  exact ⟨.int (ys.countP (fun z => eqV z y) : Nat), H, I.tok _, ⟨s.toks, by rw [show its.toArray.toList = its from rfl, countU rv fys]⟩, q⟩
end
/-! ## pieces of any kind: rows may hold rows -/
inductive Qc where
  | p0 (p : P0)
  | rows (nm : Str) (ips : List Pc) (gap : Str) (lo hi : Int)
def RQ (K : PySem.W.Frag) (G : Hp) (v : V) : Qc → Prop
  | .p0 p => R0 K G v p
  | .rows nm ps gap lo hi => ∃ a l xs, v = .ref a ∧ SqT K G a [.str "rows", .str nm, .ref l, .str gap, .int lo, .int hi] ∧ SqL K G l xs ∧ Paired (RP K G) xs ps
theorem RQ.mono {K : PySem.W.Frag} {G G' : Hp} {v : V} {p : Qc} (h : RQ K G v p) (s : Same G G') : RQ K G' v p := by
  cases p with
  | p0 p => exact R0.mono h s
  | rows nm ps gap lo hi =>
    obtain ⟨a, l, xs, e, t, q, r⟩ := h
    exact ⟨a, l, xs, e, s.tup t, s.seq q, Paired.monoP r fun _ _ z => z.mono s⟩
def okI : Pc → Prop
  | .p0 p => ok0 p
  | .rows .. => False
def nmQ : Qc → Option Str
  | .p0 p => nm0 p
  | .rows nm _ _ _ _ => some nm
def nmsQ (qs : List Qc) : List Str := qs.filterMap nmQ
def okQ : Qc → Prop
  | .p0 p => ok0 p
  | .rows nm ips gap lo hi => nm ≠ Str.empty ∧ 1 ≤ ips.length ∧ ips.length ≤ 3 ∧ (∀ p ∈ ips, okI p) ∧ (nms ips).Nodup ∧ gap.length ≤ 5 ∧ Sgs gap ∧ 0 ≤ lo ∧ lo ≤ hi ∧ hi ≤ 3
structure okFQ (qs : List Qc) : Prop where
  l1 : 1 ≤ qs.length
  l6 : qs.length ≤ 6
  ok : ∀ q ∈ qs, okQ q
  nd : (nmsQ qs).Nodup
/-- lengths that the machine takes -/
def sm0 : P0 → Prop
  | .say t => t.length ≤ 1000
  | .ask _ sg _ _ => sg.length ≤ 1000
def smI : Pc → Prop
  | .p0 p => sm0 p
  | .rows .. => True
def smQ : Qc → Prop
  | .p0 p => sm0 p
  | .rows _ ips gap _ _ => (∀ p ∈ ips, smI p) ∧ ips.length ≤ 50 ∧ gap.length ≤ 1000
theorem nmsQ_take (qs : List Qc) {i : Nat} {q : Qc} (h : qs[i]? = some q) : nmsQ (qs.take (i + 1)) = nmsQ (qs.take i) ++ (nmQ q).toList := by
  unfold nmsQ; rw [take_snoc h, List.filterMap_append]
  cases e : nmQ q <;> simp [e]
/-- no sign twice, where all counts -/
theorem dd_signs_conv {z : Str} (h : (ddAt (fun i => (⟨#[z.cps.getD i 0]⟩ : Str)) z.cps.size).length = z.length) : z.cps.toList.Nodup := by
  unfold ddAt at h
  rw [signs_map] at h
  have key : ∀ (l : List Str), (ddS l).length = l.length → l.Nodup := by
    have all : ∀ (l acc : List Str), (l.foldl dd1 acc).length ≤ acc.length + l.length ∧ ((l.foldl dd1 acc).length = acc.length + l.length → l.Nodup ∧ ∀ x ∈ l, x ∉ acc) := by
      intro l
      induction l with
      | nil => intro acc; exact ⟨Nat.le_refl _, fun _ => ⟨List.nodup_nil, fun x hx => by cases hx⟩⟩
      | cons a r ih =>
        intro acc
        rw [List.foldl_cons, List.length_cons]
        have hl := dd1_length acc a
        obtain ⟨i1, i2⟩ := ih (dd1 acc a)
        by_cases ha : acc.any (· == a) = true
        · rw [if_pos ha] at hl
          exact ⟨by omega, fun e => by omega⟩
        · rw [if_neg ha] at hl
          refine ⟨by omega, fun e => ?_⟩
          obtain ⟨n1, n2⟩ := i2 (by omega)
          have nm : ∀ x, x ∉ dd1 acc a → x ∉ acc ∧ x ≠ a := fun x hx => by
            unfold dd1 at hx
            rw [if_neg ha] at hx
            simp at hx
            exact hx
          refine ⟨List.nodup_cons.mpr ⟨fun m => (nm a (n2 a m)).2 rfl, n1⟩, fun x hx => ?_⟩
          rcases List.mem_cons.mp hx with rfl | hx
          · intro m
            exact ha (List.any_eq_true.mpr ⟨x, m, by simp⟩)
          · exact (nm x (n2 x hx)).1
    intro l e
    exact ((all l []).2 (by simpa [ddS] using e)).1
  have n := key _ (by rw [h, List.length_map]; exact Array.length_toList.symm)
  have inj : ∀ l : List Nat, (l.map fun c => (⟨#[c]⟩ : Str)).Nodup → l.Nodup := fun l => by
    induction l with
    | nil => intro _; exact List.nodup_nil
    | cons a r ih =>
      intro h
      rw [List.map_cons, List.nodup_cons] at h
      exact List.nodup_cons.mpr ⟨fun m => h.1 (List.mem_map.mpr ⟨a, m, rfl⟩), ih h.2⟩
  exact inj _ n

/-! ## promises of the defs that refuse -/
section
variable (K : PySem.W.Frag) (C : Addr)
def tOk (t : Str) (lo hi : Int) : Prop := lo ≤ t.length ∧ t.length ≤ hi ∧ Sgs t
def sp_ask_text_b (_ : PySem.W.Frag) : Sp := fun vs H Q E => ∃ (t : Str) (lo hi : Int), vs = [.str t, .int lo, .int hi] ∧ t.length ≤ 1000 ∧ (tOk t lo hi → Q .non H) ∧ (¬ tOk t lo hi → E (.ref C) none H)
def sp_ask_count_b (_ : PySem.W.Frag) : Sp := fun vs H Q E => ∃ (a b c : Int), vs = [.int a, .int b, .int c] ∧ ((0 ≤ a ∧ a ≤ b ∧ b ≤ c) → Q .non H) ∧ (¬ (0 ≤ a ∧ a ≤ b ∧ b ≤ c) → E (.ref C) none H)
def new0 (p : P0) (ns : List Str) : Prop := ok0 p ∧ ∀ n, nm0 p = some n → n ∉ ns
def sp_look_at_piece_b : Sp := fun vs H Q E => ∃ (a nl : Addr) (p : P0) (ns : List Str) (G : Hp), vs = [.ref a, .ref nl] ∧ Same G H ∧ G nl = none ∧ SqT K G a p.vs ∧ H nl = some (.lst (ns.map V.str)) ∧ ns.length ≤ 100 ∧ sm0 p ∧
  (new0 p ns → ∀ H', (∀ b, b ≠ nl → H' b = H b) → H' nl = some (.lst ((ns ++ nms0 [p]).map V.str)) → Q .non H') ∧ (¬ new0 p ns → ∀ H', (∀ b, b ≠ nl → H' b = H b) → E (.ref C) none H')
def newR (nm : Str) (ips : List Pc) (gap : Str) (lo hi : Int) (ns : List Str) : Prop := okQ (.rows nm ips gap lo hi) ∧ nm ∉ ns
def sp_look_at_rows_b : Sp := fun vs H Q E => ∃ (a nl : Addr) (nm : Str) (ips : List Pc) (gap : Str) (lo hi : Int) (ns : List Str) (G : Hp), vs = [.ref a, .ref nl] ∧ Same G H ∧ G nl = none ∧ RQ K G (.ref a) (.rows nm ips gap lo hi) ∧
  H nl = some (.lst (ns.map V.str)) ∧ ns.length ≤ 100 ∧ smQ (.rows nm ips gap lo hi) ∧
  (newR nm ips gap lo hi ns → ∀ H', (∀ b o, b ≠ nl → H b = some o → H' b = some o) → H' nl = some (.lst ((ns ++ [nm]).map V.str)) → Q .non H') ∧
  (¬ newR nm ips gap lo hi ns → ∀ H', (∀ b o, b ≠ nl → H b = some o → H' b = some o) → E (.ref C) none H')
def sp_Form___init___b : Sp := fun vs H Q E => ∃ (x dx D h : Addr) (ys : List V) (qs : List Qc) (H0 : Hp), vs = [.ref x, .ref h] ∧ H0 x = none ∧ H0 dx = none ∧ dx ≠ x ∧ H = upd (upd H0 dx (.own x)) x (.ins D dx []) ∧
  SqL K H0 h ys ∧ Paired (RQ K H0) ys qs ∧ (∀ q ∈ qs, smQ q) ∧ qs.length ≤ 100 ∧ ¬ okFQ qs ∧ ∀ H', Keep H0 H' → E (.ref C) none H'
end
end Lf

/-! # LfBad2 -/
set_option Elab.async false
set_option linter.all false
set_option maxRecDepth 100000
set_option maxHeartbeats 4000000
namespace Lf
open PySem PySem.Spec PyProof.Rows L2
/-! ## the spoiled forms, the forms at a bound, the forms of one sign -/
theorem mul_small {z : Str} {n : Int} (h1 : 1 ≤ n) (h2 : n ≤ 100) (h3 : z.length ≤ 100) : MulOk z n := by
  have hq : z.length * n.toNat ≤ 100 * 100 := Nat.mul_le_mul h3 (by omega)
  refine ⟨?_, fun _ _ => ?_, fun _ _ => ?_⟩
  · rw [Bool.or_eq_false_iff]; exact ⟨decide_eq_false (by omega), decide_eq_false (by omega)⟩
  · have : (100 : Int) ≤ (2 ^ 63 - 1) / n := Int.le_ediv_of_mul_le (by omega) (by omega)
    omega
  · have : (sizeLine : Nat) = 16777216 := sizeLine_eq
    unfold Builtin.Str.tooLong
    exact decide_eq_false (by omega)
def sayT : List Str := [("" : Str), Txt.mul ("a" : Str) 13, ("a?" : Str), ("A=" : Str), ("a_" : Str), ("tab\t" : Str)]
def sayW (w : Nat) : Str := if w < 6 then sayT.getD w Str.empty else "Dear "
def askT (c : Int) : List P0 := [.ask ("" : Str) ("abc" : Str) 1 3, .ask ("all" : Str) ("abc" : Str) 1 3, .ask ("who" : Str) ("" : Str) 1 3, .ask ("who" : Str) ("aba" : Str) 1 3, .ask ("who" : Str) ("a!" : Str) 1 3, .ask ("who" : Str) ("abc" : Str) 3 2, .ask ("who" : Str) ("abc" : Str) (0 - 1 - c % 9) 3, .ask ("who" : Str) ("abc" : Str) 0 (5 + c % 9), .ask ("who" : Str) ("abcdefghijklmnopqrstu" : Str) 0 2, .ask ("who" : Str) ("abc" : Str) (5 + c % 9) (5 + c % 9)]
def askW (w : Nat) (c : Int) : P0 := if 6 ≤ w ∧ w < 16 then (askT c).getD (w - 6) (.say Str.empty) else .ask "who" "abc" 1 3
def nmW (w : Nat) : Str := if w = 16 ∨ w = 17 then (["", "who"] : List Str).getD (w - 16) Str.empty else "all"
def innT (c : Int) : List (List Pc) := [[],
  [.p0 (.say (("a" : Str))), .p0 (.say (("a" : Str))), .p0 (.say (("a" : Str))), .p0 (.say (("a" : Str)))],
  [.p0 (.say (("b" : Str))), .p0 (.say (("" : Str))), .p0 (.say (("c" : Str)))],
  [.p0 (.say (("a" : Str))), .rows ("in" : Str) [.say (("a" : Str))] (("" : Str)) 0 1],
  [.p0 (.ask ("b" : Str) ("a" : Str) 0 1), .p0 (.say (("a" : Str))), .p0 (.ask ("b" : Str) ("c" : Str) 0 1)],
  [.p0 (.ask ("b" : Str) ("aa" : Str) 0 1), .p0 (.say (("a" : Str)))],
  [.p0 (.say (("a" : Str))), .p0 (.ask ("" : Str) ("a" : Str) 0 1)],
  [.p0 (.ask ("b" : Str) ("a" : Str) 2 1)],
  [.p0 (.ask ("b" : Str) ("a" : Str) 0 (5 + c % 9)), .p0 (.say (("a" : Str)))],
  [.p0 (.say (Txt.mul ("a" : Str) 13))],
  [.p0 (.say (("a" : Str))), .p0 (.ask ("b" : Str) ("a=" : Str) 0 1)],
  [.p0 (.ask ("b" : Str) ("" : Str) 0 1)],
  [.p0 (.ask ("b" : Str) ("abcdefghijklmnopqrstu" : Str) 0 1), .p0 (.say (("a?" : Str)))]]
def innD : List Pc := [.p0 (.say (("a" : Str))), .p0 (.ask ("who" : Str) ("bc" : Str) 0 2)]
def innW (w : Nat) (c : Int) : List Pc := if 18 ≤ w ∧ w < 31 then (innT c).getD (w - 18) [] else innD
def gapW (w : Nat) : Str := if w = 31 ∨ w = 32 then ([Txt.mul "a" 6, "a&"] : List Str).getD (w - 31) Str.empty else ", "
def loW (w : Nat) (c : Int) : Int := if 33 ≤ w ∧ w < 36 then ([0 - 1 - c % 9, 3, 0] : List Int).getD (w - 33) 0 else 0
def hiW (w : Nat) (c : Int) : Int := if 33 ≤ w ∧ w < 36 then ([2, 2, 4 + c % 9] : List Int).getD (w - 33) 0 else 2
def threeW (w : Nat) (c : Int) : List Qc := [.p0 (.say (sayW w)), .p0 (askW w c), .rows (nmW w) (innW w c) (gapW w) (loW w c) (hiW w c)]
def turned (l : List Qc) (t x : Nat) : List Qc := l.drop t ++ l.take t ++ List.replicate x (.p0 (.say "end"))
def spoil (w : Nat) (c : Int) : List Qc := if w = 36 then [] else if w = 37 then turned (threeW w c) (c / 81 % 3).toNat (c / 243 % 3).toNat ++ List.replicate (4 + c % 3).toNat (.p0 (.say "a"))
  else turned (threeW w c) (c / 81 % 3).toNat (c / 243 % 3).toNat
def reachT : List (List Pc) := [[.p0 (.say (Txt.mul ("a" : Str) 12))],
  [.p0 (.ask ("who" : Str) ("abcdefghijklmnopqrst" : Str) 4 4)],
  [.p0 (.ask ("w" : Str) ("a" : Str) 0 0)],
  [.rows ("w_x = y?" : Str) [.say (("a" : Str)), .ask ("c@d" : Str) ("a" : Str) 0 1] (Txt.mul ("a" : Str) 5) 3 3],
  [.rows ("w" : Str) [.say (("a" : Str))] (("" : Str)) 0 0],
  [.p0 (.say (("x" : Str))), .p0 (.say (("x" : Str))), .p0 (.say (("x" : Str))), .p0 (.say (("x" : Str))), .p0 (.say (("x" : Str))), .p0 (.say (("x" : Str)))],
  [.p0 (.ask ("w" : Str) ("a" : Str) 0 1), .rows ("v" : Str) [.ask ("w" : Str) ("a" : Str) 0 1] (("" : Str)) 0 1],
  [.p0 (.say (("azAZ09 .,:;" : Str)))],
  [.p0 (.say (("-/()\n" : Str)))]]
def tailS : Str := ("!\"#$&'*+<=>?@" : Str) ++ ("[\\]^_`{|}~\t" : Str)
def everyS : Str := SIGNSs ++ tailS
def signAt (c : Int) : Nat := everyS.cps.getD (c % (everyS.length : Int)).toNat 0
def signP (c : Int) : P0 := if signAt c ∉ ("a0" : Str).cps.toList ∧ c / 97 % 2 = 1 then .ask "w" ("a0" ++ (⟨#[signAt c]⟩ : Str)) 0 1 else .say ⟨#[signAt c]⟩
/-- the world of _law_spoiled: what was made is told, the list of the rows is one's own -/
def SpM (K : PySem.W.Frag) (a b : V) (sy : Str) (ak : P0) (nm : Str) (inn : List Pc) (gap : Str) (lo hi : Int) (H : Hp) : L2.St → Hp → Prop := fun σ H' => ∃ (tS aA aR li : Addr) (ys : List V) (G' : Hp),
  σ = [some a, some b, some (.ref tS), some (.ref aA), some (.ref aR), none, none] ∧ Wd H H G' H' ∧ H aR = none ∧ G' aR = none ∧ H' aR = some (.lst [.str "rows", .str nm, .ref li, .str gap, .int lo, .int hi]) ∧
  SqT K G' tS (P0.say sy).vs ∧ SqL K G' aA ak.vs ∧ SqL K G' li ys ∧ Paired (RP K G') ys inn
section
variable (K : PySem.W.Frag)
def sp__law_spoiled : Sp := fun vs H Q _ => ∃ (w : Nat) (c : Int), vs = [.int w, .int c] ∧ w < 54 ∧ 0 ≤ c ∧ ∀ l xs G' H', Wd H H G' H' → H' l = some (.lst xs) → G' l = none → H l = none → Paired (RQ K G') xs (spoil w c) → Q (.ref l) H'
def sp__law_reached : Sp := fun vs H Q _ => ∃ (w : Nat) (c : V), vs = [.int w, c] ∧ ∀ l xs G' H', Wd H H G' H' → SqL K G' l xs → Paired (RP K G') xs (reachT.getD (w % 9) []) → Q (.ref l) H'
def sp__law_one_sign : Sp := fun vs H Q _ => ∃ (c : Int), vs = [.int c] ∧ 0 ≤ c ∧ ∀ t l p G' H', Wd H H G' H' → SqT K G' t [.bl (decide (signAt c ∈ SIGNSs.cps.toList)), .ref l] → SqL K G' l [.ref p] → SqT K G' p (signP c).vs → Q (.ref t) H'
end
end Lf

/-! # LfGd -/
set_option Elab.async false
set_option linter.all false
set_option maxRecDepth 100000
set_option maxHeartbeats 4000000
namespace Lf
open PySem PySem.Spec PyProof.Rows L2
/-! ## what is written out is told -/
/-- a value is computed, the heap stays -/
def Pu (te : TE) (σ : L2.St) (v : V) : Prop := ∀ H Q, Q v H → te σ H Q
def Gd (te : TE) (σ : L2.St) (R : Hp → V → Prop) : Prop := ∀ G H Q, Same G H → (∀ v G' H', Wd G H G' H' → R G' v → Q v H') → te σ H Q
def GdL {α : Type} (ta : TA) (σ : L2.St) (F : Hp → V → α → Prop) (ys : List α) : Prop := ∀ G H Q, Same G H → (∀ vs G' H', Wd G H G' H' → Paired (F G') vs ys → Q vs H') → ta σ H Q
/-- the rule: e is told -/
def tGd {α : Type} (P : α → L2.St → Prop) (R : α → Hp → V → Prop) : TE := fun σ H Q => ∃ (x : α) (G : Hp), P x σ ∧ Same G H ∧ ∀ v G' H', Wd G H G' H' → R x G' v → Q v H'
theorem pe_told {α : Type} {X : Cx} {e : Expr} {te : TE} {P : α → L2.St → Prop} {R : α → Hp → V → Prop} (h : PE X e te) (hg : ∀ x σ, P x σ → Gd te σ (R x)) : PE X e (tGd P R) :=
  ⟨fun pins s σ H Q I ⟨x, G, p, g, q⟩ => h.run pins s σ H Q I (hg x σ p G H Q g q)⟩
def MonoF {α : Type} (F : Hp → V → α → Prop) : Prop := ∀ G G' v y, Same G G' → F G v y → F G' v y
section
variable {σ : L2.St} {α : Type} {F : Hp → V → α → Prop} {te t1 t2 t3 t4 : TE} {ta : TA} {K : PySem.W.Frag}
theorem pu_c {v : V} : Pu (tC v) σ v := fun _ _ q => q
theorem gdl_nil : GdL tNil σ F [] := fun G H Q g q => q [] G H (Wd.refl g) .nil
theorem gdl_cons {y : α} {ys : List α} (m : MonoF F) (h : Gd te σ fun G v => F G v y) (hr : GdL ta σ F ys) : GdL (tCons te ta) σ F (y :: ys) := fun G H Q g q =>
  h G H _ g fun v G1 H1 W1 r1 => hr G1 H1 _ W1.gh fun vs G2 H2 W2 p => q _ _ _ (W1.trans W2) (.cons (m _ _ _ _ W2.gg r1) p)
def LL (F : Hp → V → α → Prop) (ys : List α) (G : Hp) (v : V) : Prop := ∃ a xs, v = .ref a ∧ G a = some (.lst xs) ∧ Paired (F G) xs ys
theorem LL.mono (m : MonoF F) : MonoF (fun G v ys => LL F ys G v) := fun G G' v ys s ⟨a, xs, e, h, p⟩ => ⟨a, xs, e, s _ _ h, Paired.monoP p fun _ _ z => m _ _ _ _ s z⟩
theorem gd_list {ys : List α} (m : MonoF F) (h : GdL ta σ F ys) (hl : ys.length ≤ 1000) : Gd (tLst ta) σ (LL F ys) := fun G H Q g q =>
  h G H _ g fun vs G1 H1 W1 p => ⟨by rw [Paired.len p, sizeLine_eq]; omega, fun l nl => q _ _ _ (W1.new nl) ⟨l, vs, rfl, upd_same, Paired.monoP p fun _ _ z => m _ _ _ _ (Same.new (Same.free W1.gh nl)) z⟩⟩
theorem Paired.rep {α β : Type} {F : α → β → Prop} {x : α} {y : β} (h : F x y) : ∀ n, Paired F (List.replicate n x) (List.replicate n y)
  | 0 => .nil
  | n + 1 => .cons h (Paired.rep h n)
theorem flat_rep {α : Type} (x : α) (n : Nat) : (List.replicate n [x]).flatten = List.replicate n x := by
  induction n with
  | zero => rfl
  | succ n ih => rw [List.replicate_succ, List.flatten_cons, ih]; rfl
theorem gd_rep {y : α} {n : Int} (m : MonoF F) (h : Gd te σ (LL F [y])) (h0 : 0 ≤ n) (h1 : n ≤ 100) : Gd (tOp rRep te (tC (.int n))) σ (LL F (List.replicate n.toNat y)) := fun G H Q g q =>
  h G H _ g fun v G1 H1 W1 ⟨a, xs, e, ha, p⟩ => by
    subst e
    cases p with
    | @cons x _ _ _ hx p' =>
      cases p'
      refine ⟨a, n, [x], rfl, rfl, W1.gh _ _ ha, by omega, by omega, ?_, fun l nl => ?_⟩
      · show 1 * n.toNat ≤ sizeLine
        rw [sizeLine_eq]; omega
      · rw [flat_rep]
        exact q _ _ _ (W1.new nl) ⟨l, _, rfl, upd_same, Paired.rep (m _ _ _ _ (Same.new (Same.free W1.gh nl)) hx) _⟩
theorem pu_repS {z : Str} {n : Int} (h1 : 1 ≤ n) (h2 : n ≤ 100) (h3 : z.length ≤ 100) : Pu (tOp (fun x y H Q => ∃ (z : Str) (n : Int), x = .str z ∧ y = .int n ∧ MulOk z n ∧ Q (.str (Txt.mul z n)) H) (tC (.str z)) (tC (.int n))) σ (.str (Txt.mul z n)) :=
  fun H Q q => ⟨z, n, rfl, rfl, mul_small h1 h2 h3, q⟩
theorem gd_tup2 {a b : V} (h1 : Pu t1 σ a) (h2 : Pu t2 σ b) : Gd (tTup (tCons t1 (tCons t2 tNil))) σ fun G v => ∃ p, v = .ref p ∧ G p = some (.tup [a, b]) := fun G H Q g q =>
  h1 H _ (h2 H _ ⟨by show 2 ≤ sizeLine; decide, fun p np => q _ _ _ ((Wd.refl g).new np) ⟨p, rfl, upd_same⟩⟩)
theorem gd_say {t : Str} (h : Pu te σ (.str t)) : Gd (tTup (tCons (tC (.str "say")) (tCons te tNil))) σ fun G v => R0 K G v (.say t) := fun G H Q g q =>
  h H _ ⟨by show 2 ≤ sizeLine; decide, fun p np => q _ _ _ ((Wd.refl g).new np) ⟨p, rfl, SqT.of upd_same⟩⟩
theorem gd_ask {nm sg : Str} {lo hi : Int} (h1 : Pu t1 σ (.str nm)) (h2 : Pu t2 σ (.str sg)) (h3 : Pu t3 σ (.int lo)) (h4 : Pu t4 σ (.int hi)) :
    Gd (tTup (tCons (tC (.str "ask")) (tCons t1 (tCons t2 (tCons t3 (tCons t4 tNil)))))) σ fun G v => R0 K G v (.ask nm sg lo hi) := fun G H Q g q =>
  h1 H _ (h2 H _ (h3 H _ (h4 H _ ⟨by show 5 ≤ sizeLine; decide, fun p np => q _ _ _ ((Wd.refl g).new np) ⟨p, rfl, SqT.of upd_same⟩⟩)))
/-- an ask as a list -/
def RL (G : Hp) (v : V) (p : P0) : Prop := ∃ a, v = .ref a ∧ G a = some (.lst p.vs)
theorem RL.mono : MonoF RL := fun _ _ _ _ s ⟨a, e, h⟩ => ⟨a, e, s _ _ h⟩
theorem gd_askL {nm sg : Str} {lo hi : Int} (h1 : Pu t1 σ (.str nm)) (h2 : Pu t2 σ (.str sg)) (h3 : Pu t3 σ (.int lo)) (h4 : Pu t4 σ (.int hi)) :
    Gd (tLst (tCons (tC (.str "ask")) (tCons t1 (tCons t2 (tCons t3 (tCons t4 tNil)))))) σ fun G v => RL G v (.ask nm sg lo hi) := fun G H Q g q =>
  h1 H _ (h2 H _ (h3 H _ (h4 H _ ⟨by show 5 ≤ sizeLine; decide, fun p np => q _ _ _ ((Wd.refl g).new np) ⟨p, rfl, upd_same⟩⟩)))
theorem R0.monoF : MonoF (R0 K) := fun _ _ _ _ s h => R0.mono h s
theorem RP.monoF : MonoF (RP K) := fun _ _ _ _ s h => RP.mono h s
theorem gd_rows {nm gap : Str} {ps : List P0} {lo hi : Int} (h1 : Pu t1 σ (.str nm)) (hi1 : Gd te σ (LL (R0 K) ps)) (h2 : Pu t2 σ (.str gap)) (h3 : Pu t3 σ (.int lo)) (h4 : Pu t4 σ (.int hi)) :
    Gd (tTup (tCons (tC (.str "rows")) (tCons t1 (tCons te (tCons t2 (tCons t3 (tCons t4 tNil))))))) σ fun G v => RP K G v (.rows nm ps gap lo hi) := fun G H Q g q =>
  h1 H _ (hi1 G H _ g fun v G1 H1 W1 ⟨l, xs, e, hl, p⟩ => h2 H1 _ (h3 H1 _ (h4 H1 _ ⟨by show 6 ≤ sizeLine; decide, fun t nt => q _ _ _ (W1.new nt)
    ⟨t, l, xs, rfl, by subst e; exact SqT.of upd_same, SqL.of ((Same.new (Same.free W1.gh nt)) _ _ hl), Paired.monoP p fun _ _ z => z.mono (Same.new (Same.free W1.gh nt))⟩⟩)))
/-- a value among others -/
def RVv (_ : Hp) (v : V) (w : V) : Prop := v = w
theorem RVv.mono : MonoF RVv := fun _ _ _ _ _ h => h
theorem gd_v {w : V} (h : Pu te σ w) : Gd te σ fun G v => RVv G v w := fun G H Q g q => h H _ (q _ _ _ (Wd.refl g) rfl)
end

theorem Paired.app {α β : Type} {F : α → β → Prop} {xs xs' : List α} {ys ys' : List β} (h : Paired F xs ys) (h' : Paired F xs' ys') : Paired F (xs ++ xs') (ys ++ ys') := by
  induction h with
  | nil => exact h'
  | cons a _ ih => exact .cons a ih
theorem Paired.dropP {α β : Type} {F : α → β → Prop} : ∀ (n : Nat) {xs : List α} {ys : List β}, Paired F xs ys → Paired F (xs.drop n) (ys.drop n)
  | 0, _, _, h => h
  | _ + 1, _, _, .nil => .nil
  | n + 1, _, _, .cons _ h => Paired.dropP n h
theorem Paired.takeP {α β : Type} {F : α → β → Prop} : ∀ (n : Nat) {xs : List α} {ys : List β}, Paired F xs ys → Paired F (xs.take n) (ys.take n)
  | 0, _, _, _ => .nil
  | _ + 1, _, _, .nil => .nil
  | n + 1, _, _, .cons a h => .cons a (Paired.takeP n h)
theorem cut3 {a b c : V} {t : Int} (h0 : 0 ≤ t) (h3 : t < 3) : cutV [a, b, c] (some t) none = [a, b, c].drop t.toNat ∧ cutV [a, b, c] none (some t) = [a, b, c].take t.toNat := by
  have : t = 0 ∨ t = 1 ∨ t = 2 := by omega
  rcases this with rfl | rfl | rfl <;> exact ⟨rfl, rfl⟩

/-! ## the law's own words -/
def FormC (K : PySem.W.Frag) (C : Addr) (G : Hp) (x : Addr) (ps : List Pc) : Prop := ∃ dx f zs, G x = some (.ins C dx (putF "pieces" (.ref f) [])) ∧ SqL K G f zs ∧ Paired (RP K G) zs ps
theorem FormC.mono {K : PySem.W.Frag} {C : Addr} {G G' : Hp} {x : Addr} {ps : List Pc} (h : FormC K C G x ps) (s : Same G G') : FormC K C G' x ps := by
  obtain ⟨dx, f, zs, h3, h4, h5⟩ := h
  exact ⟨dx, f, zs, s _ _ h3, s.seq h4, Paired.monoP h5 fun _ _ z => z.mono s⟩
structure InsF (K : PySem.W.Frag) (C : Addr) : Prop where
  cl : Cls K C
  na : NoAttr K C "pieces"
  ha : PySem.W.findIn K (.ref C) "__class__" = some (some (.builtin "object.__class__"))
  hn : PySem.W.specialIn K (.builtin "object.__class__") "__get__" = some (some (.builtin "getset_descriptor.__get__"))
  ht : PySem.W.takesIn K (.builtin "object.__class__") = some true
  hm : PySem.W.mroIn K C (.type "object") = some true
theorem InsF.ty {K : PySem.W.Frag} {C x : Addr} {ps : List Pc} {H : Hp} (c : InsF K C) (h : FormC K C H x ps) : TyX K H (.ref x) (.ref C) := by
  obtain ⟨dx, f, zs, h3, _⟩ := h
  exact .base (.ins h3 c.cl c.ha c.hn c.ht c.hm)
theorem kit_self {K : PySem.W.Frag} {C : Addr} : PySem.W.kitOne K (.ref C) (.ref C) = some true := if_pos (by simp)
/-- what isinstance answers of an exception of the class at D, the i-th of the four -/
structure AlX (K : PySem.W.Frag) (D CE C0 C1 C2 C3 : Addr) (i : Nat) : Prop where
  x : XcC K D
  k0 : PySem.W.kitOne K (.ref D) (.ref C0) = some (i == 0)
  k1 : PySem.W.kitOne K (.ref D) (.ref C1) = some (i == 1)
  k2 : PySem.W.kitOne K (.ref D) (.ref C2) = some (i == 2)
  k3 : PySem.W.kitOne K (.ref D) (.ref C3) = some (i == 3)
  kE : PySem.W.kitOne K (.ref D) (.ref CE) = some true
  kV : PySem.W.kitOne K (.ref D) (.type "ValueError") = some true
  lt : i < 4
/-- an exception that was kept -/
def ExK (D : Addr) (d : Option Addr) (H : Hp) (a : Addr) : Prop := H a = some (ExH (.ref D) d a) ∧ ∀ e, d = some e → ∃ fs, H e = some (.xd fs)
theorem ExK.mono {D a : Addr} {d : Option Addr} {H H' : Hp} (h : ExK D d H a) (k : Keep H H') : ExK D d H' a := ⟨k _ _ h.1, fun e he => by obtain ⟨fs, z⟩ := h.2 e he; exact ⟨fs, k _ _ z⟩⟩
def sp__law_alone (K : PySem.W.Frag) (CE C0 C1 C2 C3 : Addr) : Sp := fun vs H Q _ => ∃ (a D : Addr) (d : Option Addr) (i : Nat), vs = [.ref a] ∧ ExK D d H a ∧ AlX K D CE C0 C1 C2 C3 i ∧ ∀ H', Keep H H' → Q (.int i) H'
theorem FnOk.or {P : Program} {w : World} {K : PySem.W.Frag} {mg : Str → Option Value} {base : Heap} {i j k : Nat} {f : Addr} {fd : FuncData} {ps : List Str} {sp sp' : Sp} (h : FnOk P w K mg base CX0 i f fd ps sp) (h' : FnOk P w K mg base (L2.CX P w) j f fd ps sp') (hi : i ≤ k) (hj : j ≤ k) :
    FnOk P w K mg base (L2.CX P w) k f fd ps (fun vs H Q E => sp vs H Q E ∨ sp' vs H Q E) where
  len := fun vs H Q E z => z.elim (h.len vs H Q E) (h'.len vs H Q E)
  run := fun A outer s H args us vs Q E hr e b v z => by
    rcases z with z | z
    · refine codeAny_mono (h.run A outer s H args us vs Q E (hr.mono hi) e b v z) fun r s' q => ?_
      cases r with
      | error x => exact q.elim
      | ok fl => cases fl <;> exact q
    · exact h'.run A outer s H args us vs Q E (hr.mono hj) e b v z
section
variable (K : PySem.W.Frag) (CF CB : Addr)
def sp_Form_or : Sp := fun vs H Q E => sp_Form___init__ K vs H Q E ∨ sp_Form___init___b K CB vs H Q E
def sp__law_made : Sp := fun vs H Q _ => ∃ (l : Addr) (xs : List V), vs = [.ref l] ∧ SqL K H l xs ∧
  ((∃ ps, okF ps ∧ Paired (RP K H) xs ps ∧ ∀ x H', Keep H H' → FormC K CF H' x ps → Q (.ref x) H') ∨
   (∃ qs, ¬ okFQ qs ∧ (∀ q ∈ qs, smQ q) ∧ qs.length ≤ 100 ∧ Paired (RQ K H) xs qs ∧ ∀ a H', Keep H H' → ExK CB none H' a → Q (.ref a) H'))
end
/-! ## == of them -/
def Qc.dt : Qc → PyData
  | .p0 p => p.dt
  | .rows nm ps gap lo hi => .tuple [.str "rows", .str nm, .list (ps.map Pc.dt), .str gap, .int lo, .int hi]
theorem RQ.dp {K : PySem.W.Frag} {G : Hp} {v : V} {p : Qc} (h : RQ K G v p) : Dp K G v p.dt := by
  cases p with
  | p0 p => exact R0.dp h
  | rows nm ps gap lo hi =>
    obtain ⟨a, l, xs, rfl, t, q, r⟩ := h
    exact .tup t (.cons (.str _) (.cons (.str _) (.cons (.lst q (dp_all (fun _ _ z => RP.dp z) r)) (.cons (.str _) (.cons (.int _) (.cons (.int _) .nil))))))
theorem Qc.plain (p : Qc) : p.dt.plain = true := by
  cases p with
  | p0 p => exact P0.plain p
  | rows nm ps gap lo hi =>
    have := plain_all Pc.plain ps
    simp only [Qc.dt, PyData.plain, PyData.plainAll, this, Bool.and_self]
theorem Qc.depth (p : Qc) : p.dt.depth ≤ 9 := by
  cases p with
  | p0 p => have := P0.depth p; show p.dt.depth ≤ 9; omega
  | rows nm ps gap lo hi =>
    have := depth_all Pc.depth ps
    simp only [Qc.dt, PyData.depth, PyData.depthAll]
    omega
def formQ (qs : List Qc) : PyData := .list (qs.map Qc.dt)
theorem formQ_plain (qs : List Qc) : (formQ qs).plain = true := plain_all Qc.plain qs
theorem formQ_depth (qs : List Qc) : (formQ qs).depth ≤ 60 := by
  have := depth_all Qc.depth qs
  unfold formQ
  simp only [PyData.depth]
  omega
theorem formQ_refl (qs : List Qc) : PyData.eqv (formQ qs) (formQ qs) = true := SeqAt.eqv_refl_plain _ (formQ_plain qs)
theorem formQ_dp {K : PySem.W.Frag} {G : Hp} {l : Addr} {xs : List V} {qs : List Qc} (h : SqL K G l xs) (p : Paired (RQ K G) xs qs) : Dp K G (.ref l) (formQ qs) := .lst h (dp_all (fun _ _ z => RQ.dp z) p)
end Lf

/-! # LfEnd2 -/
set_option Elab.async false
set_option linter.all false
set_option maxRecDepth 100000
set_option maxHeartbeats 4000000
namespace Lf
open PySem PySem.Spec PyProof.Rows L2
/-! ## what the top leaves of the exception classes -/
theorem xc_mk {K : PySem.W.Frag} {D : Addr} (ga : PySem.W.findIn K (.ref D) "__getattribute__" = some (some (.builtin "BaseException.__getattribute__"))) (gt : PySem.W.findIn K (.ref D) "__getattr__" = some none) (sb : PySem.W.subIn K (.ref D) (.type "BaseException") = some true)
    (ca : PySem.W.findIn K (.ref D) "__class__" = some (some (.builtin "object.__class__"))) (gs : PySem.W.specialIn K (.builtin "object.__class__") "__get__" = some (some (.builtin "getset_descriptor.__get__"))) (tk : PySem.W.takesIn K (.builtin "object.__class__") = some true)
    (ob : PySem.W.mroIn K D (.type "object") = some true) (hd : PySem.W.hasDictIn K D = true) : XcC K D :=
  ⟨by obtain ⟨cd, hc, _⟩ := PySem.W.any_some hd; rw [hc]; rfl, ga, gt, sb, ca, gs, tk, ob, hd⟩
theorem exm_mk {K : PySem.W.Frag} {D C : Addr} (h1 : PySem.W.subIn K (.ref C) (.type "BaseException") = some true) (hd : PySem.W.hasDictIn K C = true) (ht : PySem.W.typeIn K (.ref C) = some (.type "type")) (h4 : PySem.W.subIn K (.ref D) (.ref C) = some true) : PySem.W.exmOne K (.ref D) (.ref C) = some true :=
  PySem.W.exm_ref h1 hd ht h4
theorem gl_mk {K : PySem.W.Frag} {h : Heap} {mg : Str → Option Value} (X : K.In h) (G : h.Ns mainGlobals mg) {x : Str} {C : Addr} (a : PySem.W.nsIn K mainGlobals x = some (some (.ref C))) : mg x = some (.ref C) := PySem.W.mg_of X G a
/-- the names of the classes -/
structure ErN (mg : Str → Option Value) (CE C0 C1 C2 C3 : Addr) : Prop where
  gE : mg "FormError" = some (.ref CE)
  g0 : mg "BadForm" = some (.ref C0)
  g1 : mg "BadValue" = some (.ref C1)
  g2 : mg "NoReading" = some (.ref C2)
  g3 : mg "Twofold" = some (.ref C3)
theorem cm_mk2 {K : PySem.W.Frag} {h : Heap} {mg : Str → Option Value} (X : K.In h) (G : h.Ns mainGlobals mg) {x qual : Str} {st : Stmt} {ps : List Str} {C f : Addr} {oc : Value} {od an : Option Addr} {sl : Array (Option Value)} {kV dc pm cd ct : Value}
    (aC : PySem.W.nsIn K mainGlobals x = some (some (.ref C))) (a : PySem.W.findIn K (.ref C) "__init__" = some (some (.ref f))) (i : PySem.W.isFn K (.ref f) = true)
    (l : K.lookup f = some ⟨oc, od, .func (PySem.W.fnOf "__init__" qual (defArgs st) (defBody st) (defScope st) .none kV dc pm an cd ct), sl⟩) (c : PySem.W.codeIn K cd qual = true) (k : PySem.W.keepIn K (.ref f) = true)
    (pg : PySem.W.plainGet K C Str.empty = true) (hd : PySem.W.hasDictIn K C = true) (po : PySem.W.plainOver K C = true) (sa : PySem.W.findIn K (.ref C) "__setattr__" = some (some (.builtin "object.__setattr__"))) (mk : PySem.W.makesIn K C = true) (kc : PySem.W.keepIn K (.ref C) = true)
    (b : ∀ (kV doc pm : Value) (an : Option Addr) (cdv ct : Value) (us : List Value), us.length = ps.length → bindArgs (PySem.W.fnOf "__init__" qual (defArgs st) (defBody st) (defScope st) .none kV doc pm an cdv ct) ⟨us, []⟩ = pure (ps.zip us))
    (q1 : PySem.W.findIn K (.ref C) "pieces" = some none)
    (ha : PySem.W.findIn K (.ref C) "__class__" = some (some (.builtin "object.__class__"))) (hn : PySem.W.specialIn K (.builtin "object.__class__") "__get__" = some (some (.builtin "getset_descriptor.__get__")))
    (ht : PySem.W.takesIn K (.builtin "object.__class__") = some true) (hm : PySem.W.mroIn K C (.type "object") = some true) : ∃ C, Cm K mg x qual st ps C ∧ InsF K C := by
  have F := fun_mk (st := st) l c k
  exact ⟨C, ⟨⟨pg, hd, po, sa⟩, PySem.W.mg_of X G aC, f, _, ⟨mk, a, i, kc⟩, F, F.binds b⟩, ⟨⟨pg, hd, po, sa⟩, q1, ha, hn, ht, hm⟩⟩
end Lf

/-! # LfBad3 -/
set_option Elab.async false
set_option linter.all false
set_option maxRecDepth 100000
set_option maxHeartbeats 4000000
namespace Lf
open PySem PySem.Spec PyProof.Rows L2
/-! ## which drawn forms are forms -/
theorem sgsB_iff {t : Str} : sgsB t = true ↔ Sgs t := ⟨sgs_of, fun h => List.all_eq_true.mpr fun c hc => decide_eq_true (h c hc)⟩
def ok0B : P0 → Bool
  | .say t => sayB t
  | .ask nm sg lo hi => decide (nm ≠ Str.empty) && (sgB sg && (decide (0 ≤ lo) && (decide (lo ≤ hi) && decide (hi ≤ 4))))
theorem ok0B_iff {p : P0} : ok0B p = true ↔ ok0 p := by
  cases p with
  | say t =>
    unfold ok0B sayB ok0
    rw [Bool.and_eq_true, Bool.and_eq_true, decide_eq_true_eq, decide_eq_true_eq, sgsB_iff]
    exact ⟨fun h => ⟨h.1.1, h.1.2, h.2⟩, fun h => ⟨⟨h.1, h.2.1⟩, h.2.2⟩⟩
  | ask nm sg lo hi =>
    unfold ok0B sgB ok0
    simp only [Bool.and_eq_true, decide_eq_true_eq, sgsB_iff]
    exact ⟨fun h => ⟨h.1, h.2.1.1.1.1, h.2.1.1.1.2, h.2.1.1.2, h.2.1.2, h.2.2.1, h.2.2.2.1, h.2.2.2.2⟩, fun h => ⟨h.1, ⟨⟨⟨h.2.1, h.2.2.1⟩, h.2.2.2.1⟩, h.2.2.2.2.1⟩, h.2.2.2.2.2.1, h.2.2.2.2.2.2.1, h.2.2.2.2.2.2.2⟩⟩
def okIB : Pc → Bool
  | .p0 p => ok0B p
  | .rows .. => false
theorem okIB_iff {p : Pc} : okIB p = true ↔ okI p := by
  cases p with
  | p0 p => exact ok0B_iff
  | rows => exact ⟨fun h => Bool.noConfusion h, fun h => False.elim h⟩
def okQB : Qc → Bool
  | .p0 p => ok0B p
  | .rows nm ips gap lo hi => decide (nm ≠ Str.empty) && (decide (1 ≤ ips.length) && (decide (ips.length ≤ 3) && (ips.all okIB && (decide (nms ips).Nodup && (decide (gap.length ≤ 5) && (sgsB gap && (decide (0 ≤ lo) && (decide (lo ≤ hi) && decide (hi ≤ 3)))))))))
theorem okQB_of {q : Qc} (h : okQ q) : okQB q = true := by
  cases q with
  | p0 p => exact ok0B_iff.mpr h
  | rows nm ips gap lo hi =>
    obtain ⟨h1, h2, h3, h4, h5, h6, h7, h8, h9, h10⟩ := h
    unfold okQB
    simp only [Bool.and_eq_true, decide_eq_true_eq]
    exact ⟨h1, h2, h3, List.all_eq_true.mpr fun p hp => okIB_iff.mpr (h4 p hp), h5, h6, sgsB_iff.mpr h7, h8, h9, h10⟩
def okPB : Pc → Bool
  | .p0 p => ok0B p
  | .rows nm ips gap lo hi => decide (nm ≠ Str.empty) && (decide (1 ≤ ips.length) && (decide (ips.length ≤ 3) && (ips.all ok0B && (decide (nms0 ips).Nodup && (decide (gap.length ≤ 5) && (sgsB gap && (decide (0 ≤ lo) && (decide (lo ≤ hi) && decide (hi ≤ 3)))))))))
theorem okP_of {q : Pc} (h : okPB q = true) : okP q := by
  cases q with
  | p0 p => exact ok0B_iff.mp h
  | rows nm ips gap lo hi =>
    unfold okPB at h
    simp only [Bool.and_eq_true, decide_eq_true_eq] at h
    obtain ⟨h1, h2, h3, h4, h5, h6, h7, h8, h9, h10⟩ := h
    exact ⟨h1, h2, h3, fun p hp => ok0B_iff.mp (List.all_eq_true.mp h4 p hp), h5, h6, sgsB_iff.mp h7, h8, h9, h10⟩
def okFB (ps : List Pc) : Bool := decide (1 ≤ ps.length) && (decide (ps.length ≤ 6) && (ps.all okPB && decide (nms ps).Nodup))
theorem okF_of {ps : List Pc} (h : okFB ps = true) : okF ps := by
  unfold okFB at h
  simp only [Bool.and_eq_true, decide_eq_true_eq] at h
  exact ⟨h.1, h.2.1, fun p hp => okP_of (List.all_eq_true.mp h.2.2.1 p hp), h.2.2.2⟩
theorem reach_all : reachT.all okFB = true := by decide +kernel
theorem reach_ok (w : Nat) : okF (reachT.getD (w % 9) []) := by
  have hl : w % 9 < reachT.length := by show w % 9 < 9; omega
  rw [List.getD_eq_getElem?_getD, List.getElem?_eq_getElem hl]
  exact okF_of (List.all_eq_true.mp reach_all _ (List.getElem_mem hl))
/-! ## the spoiled ones -/
def g3B (l : List Qc) : Bool := l.all okQB && decide (nmsQ l).Nodup
theorem g3_of {l : List Qc} {t x : Nat} {e : List Qc} (h : okFQ (turned l t x ++ e)) : g3B l = true := by
  unfold turned at h
  unfold g3B
  rw [Bool.and_eq_true, decide_eq_true_eq]
  refine ⟨List.all_eq_true.mpr fun q hq => okQB_of (h.ok q ?_), ?_⟩
  · have : q ∈ l.drop t ++ l.take t := by
      rw [← List.take_append_drop t l] at hq
      rcases List.mem_append.mp hq with z | z
      · exact List.mem_append_right _ z
      · exact List.mem_append_left _ z
    exact List.mem_append_left _ (List.mem_append_left _ this)
  · have n := h.nd
    unfold nmsQ at *
    rw [List.filterMap_append, List.filterMap_append, List.filterMap_append] at n
    have n2 := (List.nodup_append.mp (List.nodup_append.mp n).1).1
    have n3 : (List.filterMap nmQ (l.take t) ++ List.filterMap nmQ (l.drop t)).Nodup := by
      rw [List.nodup_append] at n2 ⊢
      exact ⟨n2.2.1, n2.1, fun a ha b hb e => n2.2.2 b hb a ha e.symm⟩
    rw [← List.filterMap_append, List.take_append_drop] at n3
    exact n3
theorem three_mod (w : Nat) (c : Int) : threeW w c = threeW w (c % 9) := by
  have e : c % 9 % 9 = c % 9 := Int.emod_emod_of_dvd c (Int.dvd_refl 9)
  unfold threeW askW innW loW hiW askT innT
  rw [e]
theorem three_bad : ∀ w : Fin 36, ∀ r : Fin 9, g3B (threeW w.val (r.val : Int)) = false := by decide +kernel
theorem spoil_bad {w : Nat} {c : Int} (hw : w < 38) : ¬ okFQ (spoil w c) := by
  intro h
  unfold spoil at h
  by_cases h36 : w = 36
  · rw [if_pos h36] at h
    have := h.l1
    simp at this
  rw [if_neg h36] at h
  by_cases h37 : w = 37
  · rw [if_pos h37] at h
    have l6 := h.l6
    rw [List.length_append, List.length_replicate] at l6
    unfold turned at l6
    rw [List.length_append, List.length_append, List.length_drop, List.length_take, List.length_replicate] at l6
    have l3 : (threeW w c).length = 3 := rfl
    rw [l3] at l6
    have y0 : 0 ≤ c % 3 := Int.emod_nonneg _ (by decide)
    omega
  · rw [if_neg h37] at h
    have g := g3_of (e := []) (by rw [List.append_nil]; exact h)
    rw [three_mod] at g
    have r0 : 0 ≤ c % 9 := Int.emod_nonneg _ (by decide)
    have r9 : c % 9 < 9 := Int.emod_lt_of_pos _ (by decide)
    have b := three_bad ⟨w, by omega⟩ ⟨(c % 9).toNat, by omega⟩
    rw [show (((c % 9).toNat : Nat) : Int) = c % 9 by omega] at b
    rw [b] at g; cases g
def sm0B : P0 → Bool
  | .say t => decide (t.length ≤ 1000)
  | .ask _ sg _ _ => decide (sg.length ≤ 1000)
def smIB : Pc → Bool
  | .p0 p => sm0B p
  | .rows .. => true
def smQB : Qc → Bool
  | .p0 p => sm0B p
  | .rows _ ips gap _ _ => ips.all smIB && (decide (ips.length ≤ 50) && decide (gap.length ≤ 1000))
theorem sm0_of {p : P0} (h : sm0B p = true) : sm0 p := by
  cases p with
  | say t => have := of_decide_eq_true (p := t.length ≤ 1000) h; exact this
  | ask nm sg lo hi => have := of_decide_eq_true (p := sg.length ≤ 1000) h; exact this
theorem smQ_of {q : Qc} (h : smQB q = true) : smQ q := by
  cases q with
  | p0 p => exact sm0_of h
  | rows nm ips gap lo hi =>
    unfold smQB at h
    simp only [Bool.and_eq_true, decide_eq_true_eq] at h
    refine ⟨fun p hp => ?_, h.2.1, h.2.2⟩
    have := List.all_eq_true.mp h.1 p hp
    cases p with
    | p0 p => exact sm0_of this
    | rows => trivial
theorem three_sm : ∀ w : Fin 54, ∀ r : Fin 9, (threeW w.val (r.val : Int)).all smQB = true := by decide +kernel
theorem spoil_sm {w : Nat} {c : Int} (hw : w < 54) : (∀ q ∈ spoil w c, smQ q) ∧ (spoil w c).length ≤ 100 := by
  have r0 : 0 ≤ c % 9 := Int.emod_nonneg _ (by decide)
  have r9 : c % 9 < 9 := Int.emod_lt_of_pos _ (by decide)
  have b := three_sm ⟨w, hw⟩ ⟨(c % 9).toNat, by omega⟩
  rw [show (((c % 9).toNat : Nat) : Int) = c % 9 by omega] at b
  have h3 : ∀ q ∈ threeW w c, smQ q := fun q hq => smQ_of (List.all_eq_true.mp b q (by rw [← three_mod]; exact hq))
  have x0 : 0 ≤ c / 243 % 3 := Int.emod_nonneg _ (by decide)
  have x3 : c / 243 % 3 < 3 := Int.emod_lt_of_pos _ (by decide)
  have y3 : c % 3 < 3 := Int.emod_lt_of_pos _ (by decide)
  have hT : (∀ q ∈ turned (threeW w c) (c / 81 % 3).toNat (c / 243 % 3).toNat, smQ q) ∧ (turned (threeW w c) (c / 81 % 3).toNat (c / 243 % 3).toNat).length ≤ 20 := by
    unfold turned
    refine ⟨fun q hq => ?_, ?_⟩
    · rcases List.mem_append.mp hq with hq | hq
      · rcases List.mem_append.mp hq with hq | hq
        · exact h3 q (List.mem_of_mem_drop hq)
        · exact h3 q (List.mem_of_mem_take hq)
      · rw [(List.mem_replicate.mp hq).2]; exact smQ_of (by decide +kernel)
    · rw [List.length_append, List.length_append, List.length_drop, List.length_take, List.length_replicate]
      have l3 : (threeW w c).length = 3 := rfl
      rw [l3]; omega
  unfold spoil
  split
  · exact ⟨fun q hq => by (have := hq; simp at this), Nat.zero_le _⟩
  · split
    · refine ⟨fun q hq => ?_, ?_⟩
      · rcases List.mem_append.mp hq with hq | hq
        · exact hT.1 q hq
        · rw [(List.mem_replicate.mp hq).2]; exact smQ_of (by decide +kernel)
      · rw [List.length_append, List.length_replicate]; have := hT.2; omega
    · exact ⟨hT.1, by have := hT.2; omega⟩
/-! ## one sign -/
def sign1 (s : Nat) (b : Bool) : P0 := if s ∉ ("a0" : Str).cps.toList ∧ b = true then .ask "w" ("a0" ++ (⟨#[s]⟩ : Str)) 0 1 else .say ⟨#[s]⟩
theorem signP_eq (c : Int) : signP c = sign1 (signAt c) (decide (c / 97 % 2 = 1)) := by
  unfold signP sign1
  simp only [decide_eq_true_eq]
theorem sign_all : everyS.cps.toList.all (fun s => (sm0B (sign1 s true) && sm0B (sign1 s false)) && ((ok0B (sign1 s true) == decide (s ∈ SIGNSs.cps.toList)) && (ok0B (sign1 s false) == decide (s ∈ SIGNSs.cps.toList)))) = true := by decide +kernel
theorem sign_mem (c : Int) : signAt c ∈ everyS.cps.toList := by
  have hlen : everyS.length = 96 := by decide +kernel
  have m0 : 0 ≤ c % (everyS.length : Int) := Int.emod_nonneg _ (by omega)
  have m1 : c % (everyS.length : Int) < (everyS.length : Int) := Int.emod_lt_of_pos _ (by omega)
  have hj : (c % (everyS.length : Int)).toNat < everyS.cps.size := by show _ < everyS.length; omega
  unfold signAt
  rw [Array.getD_eq_getD_getElem?, Array.getElem?_eq_getElem hj]
  exact Array.getElem_mem_toList hj
theorem sign_is (c : Int) : sm0 (signP c) ∧ (ok0 (signP c) ↔ signAt c ∈ SIGNSs.cps.toList) := by
  have h := List.all_eq_true.mp sign_all _ (sign_mem c)
  simp only [Bool.and_eq_true, beq_iff_eq] at h
  rw [signP_eq]
  cases decide (c / 97 % 2 = 1) with
  | true => exact ⟨sm0_of h.1.1, by rw [← ok0B_iff, h.2.1, decide_eq_true_eq]⟩
  | false => exact ⟨sm0_of h.1.2, by rw [← ok0B_iff, h.2.2, decide_eq_true_eq]⟩
theorem nm1 (p : P0) : (nms [.p0 p]).Nodup := by cases p with | say t => exact List.nodup_nil | ask n2 sg2 lo2 hi2 => exact List.nodup_cons.mpr ⟨by simp, List.nodup_nil⟩
theorem sign_ok {c : Int} (h : signAt c ∈ SIGNSs.cps.toList) : okF [.p0 (signP c)] :=
  ⟨Nat.le_refl _, Nat.le_of_ble_eq_true rfl, fun p hp => by rw [List.mem_singleton] at hp; subst hp; exact (sign_is c).2.mpr h, nm1 _⟩
theorem sign_bad {c : Int} (h : ¬ signAt c ∈ SIGNSs.cps.toList) : ¬ okFQ [.p0 (signP c)] := fun z => h ((sign_is c).2.mp (z.ok _ (List.mem_singleton.mpr rfl)))

/-- what the law's loop works on: pieces that make a form, or that make none -/
def LoopM (K : PySem.W.Frag) (a : V) : L2.St → Hp → Prop := fun σ H => ∃ (v1 v2 : Option V) (gd : Bool) (l : Addr) (xs : List V), σ = [some a, v1, v2, some (.bl gd), some (.ref l), none, none, none] ∧ SqL K H l xs ∧
  ((gd = true ∧ ∃ ps, okF ps ∧ Paired (RP K H) xs ps) ∨ (gd = false ∧ ∃ qs, ¬ okFQ qs ∧ (∀ q ∈ qs, smQ q) ∧ qs.length ≤ 100 ∧ Paired (RQ K H) xs qs))
end Lf

/-! # LfLcX -/
set_option Elab.async false
set_option linter.all false
set_option maxRecDepth 100000
set_option maxHeartbeats 4000000
namespace Lf
open PySem PySem.Spec PyProof.Rows L2
/-! ## a list comprehension whose element may let an exception out -/
section
variable {M : Model} {A : Around} {E : Value → Shared → Prop} {s : Shared} {env : Env}
/-- behind the block: the list, or an exception that goes on from the block's own environment -/
def CPost (M : Model) (A : Around) (E : Value → Shared → Prop) (Q : Value → Shared → Prop) (acc : Value) (ce : Env) : Result → Shared → Prop
  | .ok _, t => ∃ m, t.heap.Ns ce.locals m ∧ ∀ h, Heap.SameBut ce.locals t.heap h → Q acc { t with heap := h }
  | .error x, t => ∃ m, t.heap.Ns ce.locals m ∧ ∀ h, Heap.SameBut ce.locals t.heap h → wpAny M A (passOn "comprehension.variables-let-go" x ce : Sem Value) (fun _ _ => False) E { t with heap := h }
theorem comp_out {e : Expr} {scope : Scope} {pos : Pos} {newAcc first : Sem Value} {g : Comprehension} {gs : List Comprehension} {cl : List (Str × Addr)} {Q : Value → Shared → Prop}
    (h1 : clausesOf e = g :: gs) (h2 : ∀ x, foldedSetIterable g.iter env x = pure x) (h3 : closureFor scope env = pure cl) (h4 : scope.kind = .function) (h5 : ∀ x ∈ scope.names, x.2 = .local → scope.names.lookup x.1 = some .local)
    (h : wpAny M A first (fun x t1 => wpAny M A (pyIter x) (fun it t2 => wpAny M A newAcc (fun acc t3 => wpAny M A (newFunctionEnv scope env.globals cl [] env.qual none .none (some env))
      (fun ce t4 => codeAny M A (.compStart e 0 it acc { ce with scope := relabel scope env }) (CPost M A E Q acc { ce with scope := relabel scope env }) t4) E t3) E t2) E t1) E s) :
    wpAny M A (comprehension e scope env pos newAcc false first none) Q E s := by
  unfold comprehension
  rw [h3, h1]
  have up : ∀ {α : Type} {t : Sem α} {P P' : α → Shared → Prop} {u : Shared}, wpAny M A t P E u → (∀ a v, P a v → P' a v) → wpAny M A t P' E u := fun w k => wpAny_mono w k fun _ _ z => z
  refine wpAny_bind (up h fun x t1 w1 => wpAny_bind (wpAny_standAt (wpAny_bind (wpAny_of_eq (h2 x) (wpAny_bind (wpAny_holding (up w1 fun it t2 w2 => ?_)))))))
  refine wpAny_standIf (wpAny_bind (up w2 fun acc t3 w3 => wpAny_bind (wpAny_pure (wpAny_bind (up w3 fun ce t4 w4 => ?_)))))
  dsimp only
  have hv : ∀ x ∈ (scope.names.filter fun x => (x.2 == .local || x.2 == .cell) && x.1 != (".0" : Str)).reverse, x.2 = .local → Env.kindOf { ce with scope := relabel scope env } x.1 = some .local :=
    fun x hx hl => lookup_relabel_local (h5 x (List.mem_filter.mp (List.mem_reverse.mp hx)).1 hl)
  refine wpAny_holding (wpAny_bind (wpAny_attempt (wpAny_holding (wpAny_run (codeAny_mono w4 fun r t5 w5 => ?_)))))
  cases r with
  | ok f =>
    obtain ⟨m, hn, k⟩ := w5
    exact wpAny_bind (wpAny_holding (wpAny_comp_letGo (cenv := { ce with scope := relabel scope env }) h4 _ t5 m hv hn fun h' m' _ sb => wpAny_pure (k h' sb)))
  | error x =>
    obtain ⟨m, hn, k⟩ := w5
    exact wpAny_bind (wpAny_holding (wpAny_comp_letGo (cenv := { ce with scope := relabel scope env }) h4 _ t5 m hv hn fun h' m' _ sb => wpAny_mono (k h' sb) (fun _ _ z => z.elim) fun _ _ z => z))
theorem frames_to {h h' B B' : Heap} : ∀ {l : List Env}, h.FunFrames B l → (∀ b ∈ frs l, h'.get? b = h.get? b) → (∀ b ∈ frs l, B'.get? b = none) → h'.FunFrames B' l
  | [], _, _, _ => trivial
  | env :: l, ⟨hk, ⟨L, o, hf, _, ho, hd⟩, hr⟩, k, n => by
    have hL : L ∈ frs (env :: l) := List.mem_filterMap.mpr ⟨env, List.mem_cons_self, hf⟩
    have sub : ∀ b ∈ frs l, b ∈ frs (env :: l) := fun b hb => by
      obtain ⟨e, he, q⟩ := List.mem_filterMap.mp hb
      exact List.mem_filterMap.mpr ⟨e, List.mem_cons_of_mem _ he, q⟩
    exact ⟨hk, ⟨L, o, hf, n L hL, (k L hL).trans ho, hd⟩, frames_to hr (fun b hb => k b (sub b hb)) fun b hb => n b (sub b hb)⟩
theorem noteFrame_eq {ce : Env} {x : Value} (h : ce.frame = env.frame) : noteFrame x ce = noteFrame x env := by
  simp only [noteFrame, PySem.frameOf, h]
end
section
variable {X : Cx} {W : WX}
/-- behind a call that let an exception out: where it flies -/
theorem call_air {pins : List (Addr × Obj)} {σ : L2.St} {H : Hp} {s s' : Shared} {E : XK} {u : Value} (I : Inv X pins σ H s) (c : L2.CX X.prog X.w X.stack H s E u s') :
    ∃ (a : Addr) (B : Heap) (sI : Shared) (H' : Hp) (cls : Value) (d : Option Addr), u = .ref a ∧ Inv X pins σ H' sI ∧ (∀ b o, sI.heap.get? b = some o → b ∉ frs X.stack → B.get? b = some o) ∧ sI.heap.UpToSlots s'.heap ∧
      HandSPX.FlyingZ B X.stack a (Zc cls d) s'.heap ∧ H' a = none ∧ s'.os = sI.os ∧ AllBare s'.gens ∧ E cls d H' ∧ (∀ b o, s.heap.get? b = some o → H b = none → H' b = none) := by
  obtain ⟨a, B, H', cls, d, e0, fl, hok, ub, na, os, ag, hE⟩ := c
  obtain ⟨G, in1, out1⟩ := restrict s'.heap fun b => (B.get? b).isSome || decide (b ∈ frs X.stack)
  have grd : ∀ b o, B.get? b = some o → G.get? b = some o := fun b o e => (in1 b (by simp [e])).trans (fl.1 b o e)
  have frm : ∀ b, b ∈ frs X.stack → G.get? b = s'.heap.get? b := fun b hb => in1 b (by simp [hb])
  have src : ∀ b o, G.get? b = some o → s'.heap.get? b = some o ∧ (b ∉ frs X.stack → B.get? b = some o) := fun b o e => by
    cases q : ((B.get? b).isSome || decide (b ∈ frs X.stack)) with
    | false => rw [out1 b q] at e; cases e
    | true =>
      rw [in1 b q] at e
      refine ⟨e, fun nb => ?_⟩
      have : (B.get? b).isSome = true := by simpa [nb] using q
      obtain ⟨o', q'⟩ := Option.isSome_iff_exists.mp this
      have z := fl.1 b o' q'
      rw [e] at z; cases z
      exact q'
  have J : Inv X pins σ H' { s with heap := G, gens := s'.gens, drawn := s'.drawn, toks := s'.toks } := by
    refine I.call (ch := []) ⟨fun b o e n hb _ => grd b o (ub.keep b o e n hb), fun b o e _ hb _ => ?_, fun b o e n _ => ub.free b o e n, fun b o e _ => ?_, ub.tups, ub.frzs, ub.tbls⟩ (hok.kept grd) ag (fun _ z => nomatch z)
    · obtain ⟨sl, q⟩ := ub.slot b o e hb
      exact ⟨sl, (frm b hb).trans q⟩
    · by_cases hb : b ∈ frs X.stack
      · obtain ⟨sl, q⟩ := ub.slot b o e hb
        exact ⟨_, (frm b hb).trans q⟩
      · obtain ⟨o', q⟩ := ub.there b o e hb
        exact ⟨o', grd b o' q⟩
  exact ⟨a, B, _, H', cls, d, e0, J, fun b o e hb => (src b o e).2 hb, Heap.UpToSlots.of_keeps fun b o e => (src b o e).1, fl, na, os, ag, hE, ub.free⟩
/-- an exception of the block is in our air: it is noted, the block's names go, it goes on -/
theorem air_out (hs : X.stack = X.env :: X.outer) (hf : X.env.frame = some X.env.locals) (tk : Takes X W) {u acc : Value} {s s' : Shared} {Q : Value → Shared → Prop} {ce : Env} {m : Str → Option Value} {pins : List (Addr × Obj)} {σ : L2.St} {H0 : Hp} (hce : ce.frame = X.env.frame)
    (I0 : Inv X pins σ H0 s) (c : L2.CX X.prog X.w X.stack H0 s (WE W σ) u s') (h0 : s.heap.Ns ce.locals m) (hn : s'.heap.Ns ce.locals m) (hC : FpOk X pins H0 ce.locals) :
    notedBy (model X.prog X.w) X.A ce (fun e t => CPost (model X.prog X.w) X.A X.xe Q acc ce (.error e) t) u s' := by
  obtain ⟨a, B, sI, H, cls, d, rfl, I, nb, up, fl, na, os, ag, w, fr⟩ := call_air I0 c
  obtain ⟨f0, f1, f2, f3, f4, f5⟩ := hC
  have f0 : H ce.locals = none := let ⟨o, _, _, ho, _⟩ := h0; fr _ o ho f0
  rw [hs] at fl
  have hfr : X.A.frames = some (X.env :: X.outer) := I.ok.frames.trans (congrArg some hs)
  have fin : ∀ h1, HandSPX.HeldZ B (X.env :: X.outer) a (Zc cls d) X.env.locals h1 → s'.heap.UpToSlots h1 → CPost (model X.prog X.w) X.A X.xe Q acc ce (.error (.ref a)) { s' with heap := h1 } := fun h1 hh up1 => by
    have n1 := up1.ns hn
    refine ⟨m, n1, fun h sb => ?_⟩
    obtain ⟨k1, k2, k3, oe, vs, T, oT, ts, he, hz, hd, ht1, hnT, hTe, hT, hdT, h3⟩ := hh
    obtain ⟨oC, es, ep, hoC, hdC, _⟩ := n1
    have isF : ∀ b o v, h1.get? b = some o → o.data = .fields v → b ≠ ce.locals := fun b o v e q z => by
      rw [z] at e
      have : oC = o := Option.some.inj (hoC.symm.trans e)
      rw [← this, hdC] at q; cases q
    obtain ⟨G, g1, g2⟩ := restrict sI.heap fun b => decide (b ≠ ce.locals)
    obtain ⟨B', b1, b2⟩ := restrict B fun b => decide (b ≠ ce.locals)
    have gne : ∀ b o, G.get? b = some o → b ≠ ce.locals ∧ sI.heap.get? b = some o := fun b o e => by
      by_cases z : b = ce.locals
      · rw [g2 b (decide_eq_false fun y => y z)] at e; cases e
      · exact ⟨z, by rw [← g1 b (decide_eq_true z)]; exact e⟩
    have bne : ∀ b o, B'.get? b = some o → b ≠ ce.locals ∧ B.get? b = some o := fun b o e => by
      by_cases z : b = ce.locals
      · rw [b2 b (decide_eq_false fun y => y z)] at e; cases e
      · exact ⟨z, by rw [← b1 b (decide_eq_true z)]; exact e⟩
    have bno : ∀ b, B.get? b = none → B'.get? b = none := fun b e => by
      cases q : B'.get? b with
      | none => rfl
      | some o => have := (bne b o q).2; rw [e] at this; cases this
    have kh : ∀ b, b ≠ ce.locals → h.get? b = h1.get? b := fun b z => sb.2 b z
    have hh' : HandSPX.HeldZ B' (X.env :: X.outer) a (Zc cls d) X.env.locals h := by
      refine ⟨fun b o e => ?_, bno _ k2, ?_, oe, vs, T, oT, ts, ?_, hz, hd, ht1, bno _ hnT, hTe, ?_, hdT, h3⟩
      · obtain ⟨z, e'⟩ := bne b o e
        rw [kh b z]; exact k1 b o e'
      · refine frames_to k3 (fun b hb => kh b fun z => ?_) fun b hb => bno b (k3.mem hb).1
        rcases List.mem_cons.mp (I.stkSub b (by rw [hs]; exact hb)) with y | y
        · exact f1 (z ▸ y)
        · exact f2 (z ▸ y)
      · rw [kh a (isF a oe vs he hd)]; exact he
      · rw [kh T (isF T oT ts hT hdT)]; exact hT
    have I' : Inv X pins σ H { sI with heap := G, toks := sI.toks } := I.turned (fun b o hb e => by rw [g1 b (decide_eq_true hb)]; exact e) f0 f1 f3 f4 f5
    have up2 : G.UpToSlots h := fun b o e nf => by
      obtain ⟨z, e'⟩ := gne b o e
      obtain ⟨sl, q⟩ := up b o e' nf
      obtain ⟨sl2, q2⟩ := up1 b _ q nf
      exact ⟨sl2, by rw [kh b z]; exact q2⟩
    unfold PySem.passOn
    refine wpAny_bind (wpAny_field (by rw [kh a (isF a oe vs he hd)]; exact he) hd ht1 ?_)
    rw [if_neg (show ¬ ((Value.ref T == Value.none) = true) from by simp)]
    have go : wpAny (model X.prog X.w) X.A (setFlight (.ref a) ce.frame) (fun _ t4 => wpAny (model X.prog X.w) X.A (throw (.ref a) : Sem Value) (fun _ _ => False) X.xe t4) X.xe { s' with heap := h } := by
      rw [hce, hf]
      refine HandSPX.setFlight_onZ hh' fun h4 hh4 up4 => wpAny_throw (tk _ _ ?_)
      exact ⟨a, B', { sI with heap := G, toks := sI.toks }, pins, σ, H, cls, d, rfl, I', fun b o e nf => by obtain ⟨z, e'⟩ := gne b o e; rw [b1 b (decide_eq_true z)]; exact nb b o e' nf, up2.trans up4, .inr (.inr (by rw [hs]; exact hh4)), na, os, ag, w⟩
    first
      | exact wpAny_bind (wpAny_pure (wpAny_bind go))
      | exact wpAny_bind go
  show wpAny _ _ (noteFrame (.ref a) ce) _ _ _
  rw [noteFrame_eq hce]
  exact HandSPX.looks_onZ Zc.steady hfr hf fl fun h' hh up' => fin h' hh up'
end
section
variable {X : Cx} {W : WX}
/-- the block's context: what is let out goes to xe -/
abbrev blkX (X : Cx) (s : Shared) (H : Hp) (scope : Scope) (ce : Env) (fp : List Addr) (xe : Value → Shared → Prop) : Cx := (X.blk s H scope ce fp).wish xe
theorem pe_lcX {elt tg iter : Expr} {scope : Scope} {own : List (Str × Nat)} {pos : Pos} {wi : TI} {g : TG} {te : L2.St → TE} (hs : X.stack = X.env :: X.outer) (hf : X.env.frame = some X.env.locals) (tk : Takes X W) (hc : X.calm = true) (hN : X.N.Nodup) (hi : PI X tg iter wi)
    (ok : BlkOk X.N X.env.scope scope own) (hg : ∀ (s : Shared) (H : Hp) (C : Addr) (cl : List (Str × Addr)) (fp : List Addr) (xe : Value → Shared → Prop), PG (blkX X s H scope (compEnvC scope cl C X.env) fp xe) tg g)
    (he : ∀ (s : Shared) (H : Hp) (C : Addr) (cl : List (Str × Addr)) (fp : List Addr) (xe : Value → Shared → Prop) (σ0 : L2.St), (∀ σ, PassesAt (L2.CX X.prog X.w) (blkX X s H scope (compEnvC scope cl C X.env) fp xe) σ (WE W σ0)) →
      PE (blkX X s H scope (compEnvC scope cl C X.env) fp xe) elt (te σ0)) (hfs : ∀ x, foldedSetIterable iter X.env x = pure x := by intro _; rfl) :
    PE X (.ListComp elt [⟨tg, iter, [], 0⟩] scope pos) (fun σ H Q => tLc wi g tYes (te σ) (own.map (·.2)) σ H Q) := by
  refine ⟨fun pins s σ H Q I h => ?_⟩
  rw [eval_ListComp]
  have hfree : ∀ y ∈ scope.names, y.2 = .free → ∃ c, X.env.cells.lookup y.1 = some c := fun y hy e => (ok.free y hy e).elim (fun k => I.ok.has _ (.inl k)) fun k => I.ok.has _ (.inr k)
  refine comp_out rfl hfs (closure_ok hfree) ok.kind (fun y hy e => by rw [ok.uniq y hy, e]) (thn (hi.run pins s σ H _ I h) fun _ s1 hx => thn hx ?_)
  rintro _ s2 ⟨it, fp, tn, J, H2, rfl, I2, T, st2, f2, q⟩
  refine wpAny_newObj_type (newEnv_comp ?_) (by show 0 ≤ sizeLine; decide)
  generalize hD : s2.heap.objs.size = D
  obtain ⟨V0, ⟨m0, v0⟩, turn⟩ := q D (I2.hok.fresh (Nat.le_of_eq hD))
  generalize hs3 : ({ s2 with heap := s2.heap.push { cls := .type "list", data := .seq ([] : List Value).toArray } } : Shared) = s3
  have h3 : s3.heap = s2.heap.push { cls := .type "list", data := .seq ([] : List Value).toArray } := by rw [← hs3]
  have I3 : Inv X pins σ (upd H2 D (.lst [])) s3 := by
    rw [← hs3]
    exact I2.laid (t' := s2.toks) (fun b o e => Heap.get?_push_of_some _ e) (Nat.le_of_eq hD) ⟨Nat.zero_le _, [], 0, .nil, by rw [← hD]; exact Heap.get?_push_size _ rfl⟩
  have sz : ∀ b ∈ fp, b < s2.heap.objs.size := fun b hb => let ⟨_, e, _⟩ := T.obj _ _ st2 b hb; Heap.lt_size e
  have f3 : ∀ b ∈ fp, FpOk X pins (upd H2 D (.lst [])) b ∧ b < s3.heap.objs.size := fun b hb =>
    ⟨⟨(upd_ne (by rw [← hD]; exact Nat.ne_of_lt (sz b hb))).trans (f2 b hb).1, (f2 b hb).2⟩, by rw [h3, Heap.size_push]; exact Nat.lt_succ_of_lt (sz b hb)⟩
  have st3 : tn 0 s3.heap := T.keep _ _ _ st2 fun b _ o e => by rw [h3]; exact Heap.get?_push_of_some _ e
  have I4 := block_start I3 ok hN f3
  generalize hcl : cellsFrom (s3.heap.objs.size + 1) scope.names (cloFrom X.env.cells scope.names []) = cl at I4
  generalize hxe : notedBy (model X.prog X.w) X.A (compEnvC scope cl s3.heap.objs.size X.env) (fun e t => CPost (model X.prog X.w) X.A X.xe (EP X pins σ Q) (.ref D) (compEnvC scope cl s3.heap.objs.size X.env) (.error e) t) = xe
  have pg := hg s3 (upd H2 D (.lst [])) s3.heap.objs.size cl fp xe
  have pe := he s3 (upd H2 D (.lst [])) s3.heap.objs.size cl fp xe σ
  have hce : (compEnvC scope cl s3.heap.objs.size X.env).frame = X.env.frame := rfl
  have cL : (compEnvC scope cl s3.heap.objs.size X.env).locals = s3.heap.objs.size := rfl
  show codeAny _ _ (.compStart (.ListComp elt [⟨tg, iter, [], 0⟩] scope pos) 0 (.ref it) (.ref D) (compEnvC scope cl s3.heap.objs.size X.env))
    (CPost (model X.prog X.w) X.A X.xe (EP X pins σ Q) (.ref D) (compEnvC scope cl s3.heap.objs.size X.env)) { s3 with heap := pushCells (s3.heap.push { cls := .type "dict", data := .dict #[] }) scope.names }
  generalize compEnvC scope cl s3.heap.objs.size X.env = ce at I4 pg pe hce cL hxe ⊢
  have nfp : ∀ b ∈ fp, (upd H2 D (.lst [])) b = none := fun b hb => (f3 b hb).1.1
  generalize hH3 : upd H2 D (.lst []) = H3 at I3 I4 pg pe v0 nfp f3
  generalize hs4 : ({ s3 with heap := pushCells (s3.heap.push { cls := .type "dict", data := .dict #[] }) scope.names } : Shared) = s4 at I4 ⊢
  have st4 : tn 0 s4.heap := T.keep _ _ _ st3 fun b _ o e => by rw [← hs4]; exact pushCells_keeps _ _ _ _ (Heap.get?_push_of_some _ e)
  -- from the block's context back to the def's
  have back : ∀ {p : List (Addr × Obj)} {σ' : L2.St} {H' : Hp} {s' : Shared}, Inv (blkX X s3 H3 scope ce fp xe) p σ' H' s' → Inv X pins σ H' s' ∧ FpOk X pins H' ce.locals := fun {p σ' H' s'} I' =>
    ⟨I3.call' (ch := fp) I'.os I'.base I'.hok I'.bare fun b hb => ⟨(f3 b hb).1.2.2.2.1, (f3 b hb).1.2.1, (f3 b hb).1.2.2.2.2.1, (f3 b hb).1.2.2.2.2.2⟩,
     I3.fpOk (Nat.le_of_eq cL.symm) (show H' ce.locals = none from I'.free)⟩
  have pass : ∀ σ', PassesAt (L2.CX X.prog X.w) (blkX X s3 H3 scope ce fp xe) σ' (WE W σ) := fun σ' p H' s' e t I' c => by
    obtain ⟨m, hn, _⟩ := I'.loc
    have hn : s'.heap.Ns ce.locals m := hn
    have nC : H' ce.locals = none := I'.free
    obtain ⟨I0, fC⟩ := back I'
    have hn' : t.heap.Ns ce.locals m := by
      obtain ⟨a, B, H'', cls, d, _, fl, _, ub, _⟩ := id c
      obtain ⟨o, es, ep, ho, r⟩ := hn
      refine ⟨o, es, ep, fl.1 _ _ (ub.keep _ _ ho nC fun hm => ?_), r⟩
      rcases List.mem_cons.mp (I0.stkSub _ hm) with z | z
      · exact fC.2.1 z
      · exact fC.2.2.1 z
    show xe e t
    rw [← hxe]
    exact air_out hs hf tk hce I0 c hn hn' fC
  have pe := pe pass
  have stat : ∀ {σ' : L2.St} {H' : Hp} {s' : Shared}, Inv (blkX X s3 H3 scope ce fp xe) [] σ' H' s' → (∀ b ∈ fp, H' b = none) → ∀ b ∈ fp, FpOk (blkX X s3 H3 scope ce fp xe) [] H' b := fun {σ' H' s'} I' hn b hb =>
    ⟨hn b hb, (I'.ok.exf b hb).1, I'.ok.exfs b hb, .inl hb, fun x c e => (I'.ok.exf b hb).2 x c e, fun p hp => nomatch (show p ∈ ([] : List (Addr × Obj)) from hp)⟩
  have loop : codeAny (model X.prog X.w) X.A (.compLoop (.ListComp elt [⟨tg, iter, [], 0⟩] scope pos) 0 (.ref it) (.ref D) ce) (CPost (model X.prog X.w) X.A X.xe (EP X pins σ Q) (.ref D) ce) s4 := by
    refine compLoop_any (fun n s' => ∃ i H', Inv (blkX X s3 H3 scope ce fp xe) [] (wipe σ (own.map (·.2))) H' s' ∧ tn i s'.heap ∧ (∀ b ∈ fp, H' b = none) ∧ V0 i n H') ?_ m0 ⟨0, H3, I4.wish xe, st4, nfp, v0⟩
    rintro n s5 ⟨i, H5, I5, st5, n5, w5⟩
    rw [hxe]
    rcases turn i n H5 w5 with ⟨stop, qq⟩ | ⟨go, Nx, hNx, step⟩
    · refine thn (T.done (blkX X s3 H3 scope ce fp xe) rfl rfl rfl hc i [] s5 _ H5 xe I5 (stat I5 n5) st5 stop) fun r s6 ⟨hr, I6⟩ => ?_
      subst hr
      obtain ⟨I7, fC⟩ := back I6
      obtain ⟨m, hn, _⟩ := I6.loc
      exact ⟨m, hn, fun h sb => ⟨.ref D, H5, I7.turned (t' := s6.toks) (fun b o hb e => (sb.2 b hb).trans e) fC.1 fC.2.1 fC.2.2.2.1 fC.2.2.2.2.1 fC.2.2.2.2.2, rfl, qq⟩⟩
    · refine thn (T.item (blkX X s3 H3 scope ce fp xe) rfl rfl rfl hc i [] s5 _ H5 xe I5 (stat I5 n5) st5 go) fun r s6 ⟨u, hr, h6⟩ => ?_
      subst hr
      refine thn h6 fun _ s7 ⟨x, H7, I7, r7, y7, st7, n7⟩ => ?_
      refine thn (pg.run _ s7 _ H7 x u _ (I7.pinned (stat I7 n7) (T.obj _ _ st7)) r7 (step x H7 y7)) fun _ s8 ⟨σ8, H8, I8, hw8, q8⟩ => ?_
      have fin : ∀ {s' : Shared} {H' : Hp}, Inv (blkX X s3 H3 scope ce fp xe) ([] ++ pinsAt fp s7.heap) σ8 H' s' → Nx H' → ∃ m, m < n ∧ ∃ i H', Inv (blkX X s3 H3 scope ce fp xe) [] (wipe σ (own.map (·.2))) H' s' ∧ tn i s'.heap ∧ (∀ b ∈ fp, H' b = none) ∧ V0 i m H' := fun {s' H'} I' nx => by
        obtain ⟨m', hm, w'⟩ := hNx H' nx
        have held : ∀ b ∈ fp, ∀ o, s7.heap.get? b = some o → s'.heap.get? b = some o ∧ H' b = none := fun b hb o e =>
          ⟨(I'.pin (b, o) (List.mem_append_right _ (List.mem_append_right _ (mem_pinsAt hb e)))).1, (I'.pin (b, o) (List.mem_append_right _ (List.mem_append_right _ (mem_pinsAt hb e)))).2.1⟩
        refine ⟨m', hm, i + 1, H', (I'.unpinned (pins := [])).weak (by rw [← hw8, wipe_length]) (fun j v e => ?_), T.keep _ _ _ st7 fun b hb o e => (held b hb o e).1, fun b hb => ?_, w'⟩
        · rw [← hw8] at e
          exact (wipe_some e).1
        · obtain ⟨o, e, _⟩ := T.obj _ _ st7 b hb
          exact (held b hb o e).2
      refine wpAny_tests_nil ?_
      rw [if_pos rfl]
      have q9 := q8
      unfold tYes at q9
      dsimp only at q9
      rw [if_pos rfl] at q9
      refine thn (pe.run _ s8 σ8 H8 _ I8 q9) fun z s10 ⟨yv, H10, I10, r10, acc, hD10, hz10, nx⟩ => ?_
      exact app_ok (X := blkX X s3 H3 scope ce fp xe) I10 hD10 hz10 r10 fun s11 I11 => fin I11 nx
  exact codeAny_compStart_list loop (T.self X.A 0 _ _ _ st4 loop)
end
end Lf

/-! # LfFx -/
set_option Elab.async false
set_option linter.all false
set_option maxRecDepth 100000
set_option maxHeartbeats 4000000
namespace Lf
open PySem PySem.Spec PyProof.Rows L2
/-! ## raise of an own class with an __init__ -/
structure RzI (P : Program) (w : World) (K : PySem.W.Frag) (mg : Str → Option Value) (base : Heap) (x : Str) (C : Addr) (k : Nat) (sp : Sp) : Prop where
  T : OexC K C
  mgc : mg x = some (.ref C)
  ex : ∃ (f : Addr) (fd : FuncData) (ps : List Str), PySem.W.findIn K (.ref C) "__init__" = some (some (.ref f)) ∧ PySem.W.typeIn K (.ref f) = some (.type "function") ∧ FnOk P w K mg base CX0 k f fd ps sp ∧ Binds K fd ps []
theorem ps_rzI {X : Cx} {W : WX} {x : Str} {C : Addr} {k j : Nat} {sp : Sp} {e : Expr} {es : List Expr} {ta : TA} {p pos pos2 : Pos} (c : RzI X.prog X.w X.K X.mg X.base x C k sp) (hr : Room j X.A) (hk : k + 1 ≤ j) (hc : X.calm = true) (tk : Takes X W) (hg : Gl X x) (ha : PA X (e :: es) ta)
    (hdb : (x == ("__debug__" : Str)) = false := by decide) (he : starEach (e :: es) X.env = (false, eval e X.env) :: starEach es X.env := by rfl) (hpl : (backTo pos (starEach es X.env)).any (·.1) = false := by rfl) :
    PS X (.Raise (some (.Call (.Name x p) (e :: es) [] pos)) none pos2) (fun _ σ H => tMkO C sp [] ta σ H fun cls d H' => W cls d σ H') := by
  obtain ⟨f, fd, ps, i1, i2, F, b⟩ := c.ex
  exact ps_raise hc tk (pmk_oex c.T i1 i2 F (hr.mono hk) b .nil pass0 hg c.mgc ha hdb he hpl)
/-- a call within a block, its exceptions going where hx says -/
theorem cXb {X : Cx} {k j : Nat} {x : Str} {sp : Sp} {p pos : Pos} {e : Expr} {es : List Expr} {t : TA} {E : L2.St → XK} (hx : ∀ σ, PassesAt (L2.CX X.prog X.w) X σ (E σ)) (c : Dn X.prog X.w X.K X.mg X.base (L2.CX X.prog X.w) k x sp) (hr : Room j X.A) (hk : k ≤ j) (hg : Gl X x) (ha : PA X (e :: es) t)
    (hdb : (x == ("__debug__" : Str)) = false := by decide) (he : starEach (e :: es) X.env = (false, eval e X.env) :: starEach es X.env := by rfl) (hpl : (backTo pos (starEach es X.env)).any (·.1) = false := by rfl) :
    PE X (.Call (.Name x p) (e :: es) [] pos) (tCallS sp E t) := by
  obtain ⟨f, fd, ps, F, hm, kp, b⟩ := c.ex
  exact pe_callS F (hr.mono hk) hg hm kp b hx ha hdb he hpl
/-- BadValue's own __init__ -/
def sp_BadValue___init__ (C : Addr) : Sp := fun vs H Q _ => ∃ (a : Addr) (v : V), vs = [.ref a, v] ∧ H a = some (exo a C none) ∧ ∀ dx, H dx = none → dx ≠ a → Q .non (upd (upd H dx (exd dx [("name", v)])) a (exo a C (some dx)))
/-- an exception with that name goes out -/
def Rz (C : Addr) (n : Str) (H : Hp) (E : XK) : Prop := ∀ d H', Keep H H' → H d = none → H' d = some (.xd [("name", .str n)]) → E (.ref C) (some d) H'
theorem Rz.mono {C : Addr} {n : Str} {H H1 : Hp} {E : XK} (h : Rz C n H E) (k : Keep H H1) : Rz C n H1 E := fun d H' k' nd e => h d H' (k.trans k') (k.free nd) e
theorem rz_mk {C : Addr} {n : Str} {H : Hp} {E : XK} (h : Rz C n H E) : ([V.str n] : List V).length ≤ 1000 ∧ ∀ a, H a = none → sp_BadValue___init__ C (.ref a :: ([V.str n] ++ [])) (upd H a (exo a C none))
    (fun v H2 => v = .non ∧ ∃ (d : Addr) (fs : List (Str × V)), H2 a = some (exo a C (some d)) ∧ H2 d = some (exd d fs) ∧ H d = none ∧ E (.ref C) (some d) (upd (del H2 a) d (.xd fs))) (fun _ _ _ => False) := by
  refine ⟨Nat.le_of_ble_eq_true rfl, fun a na => ⟨a, .str n, rfl, upd_same, fun dx nd ne => ⟨rfl, dx, _, upd_same, (upd_ne ne).trans upd_same, ?_, ?_⟩⟩⟩
  · rw [upd_ne ne] at nd; exact nd
  · rw [upd_ne ne] at nd
    refine h dx _ (fun b o e => ?_) nd upd_same
    have ba : b ≠ a := ne_of_none e na
    have bd : b ≠ dx := ne_of_none e nd
    rw [upd_ne bd, del_ne ba, upd_ne ba, upd_ne bd, upd_ne ba]
    exact e
/-! ## what does not fit, first -/
def fitO (sg : Str) (lo hi : Int) : Option Str → Bool
  | none => false
  | some s => decide (lo ≤ (s.length : Int)) && (decide ((s.length : Int) ≤ hi) && s.cps.toList.all fun c => decide (c ∈ sg.cps.toList))
theorem fitO_iff {sg : Str} {lo hi : Int} {o : Option Str} : fitO sg lo hi o = true ↔ ∃ s, o = some s ∧ fit0 sg lo hi s := by
  cases o with
  | none => exact ⟨fun h => Bool.noConfusion h, fun ⟨_, h, _⟩ => nomatch h⟩
  | some s =>
    unfold fitO fit0
    simp only [Bool.and_eq_true, decide_eq_true_eq, List.all_eq_true]
    exact ⟨fun h => ⟨s, rfl, h.1, h.2.1, h.2.2⟩, fun ⟨_, e, h⟩ => by cases e; exact h⟩
def bad0 (f : Str → Option Str) : P0 → Option Str
  | .say _ => none
  | .ask nm sg lo hi => if fitO sg lo hi (f nm) = true then none else some nm
def first0 (f : Str → Option Str) (ps : List P0) : Option Str := ps.findSome? (bad0 f)
def txO (vals : List (Str × Vl)) (n : Str) : Option Str := match look n vals with
  | some (.tx s) => some s
  | _ => none
def badP (vals : List (Str × Vl)) : Pc → Option Str
  | .p0 p => bad0 (txO vals) p
  | .rows nm ips _ lo hi => match look nm vals with
    | some (.rws rs) => if lo ≤ (rs.length : Int) ∧ (rs.length : Int) ≤ hi then rs.findSome? fun r => first0 (fun n => look n r) ips else some nm
    | _ => some nm
def firstF (vals : List (Str × Vl)) (ps : List Pc) : Option Str := ps.findSome? (badP vals)
theorem findSome_at {α β : Type} {f : α → Option β} : ∀ {l : List α} {i : Nat} {x : α} {y : β}, (∀ z ∈ l.take i, f z = none) → l[i]? = some x → f x = some y → l.findSome? f = some y
  | [], _, _, _, _, h, _ => by simp at h
  | a :: l, 0, x, y, _, h, e => by
    simp at h; subst h
    rw [List.findSome?_cons, e]
  | a :: l, i + 1, x, y, n, h, e => by
    rw [List.findSome?_cons, n a (by simp)]
    exact findSome_at (i := i) (fun z hz => n z (by rw [List.take_succ_cons]; exact List.mem_cons_of_mem _ hz)) (by simpa using h) e
theorem take_none {α β : Type} {f : α → Option β} {l : List α} {i : Nat} {x : α} (h : ∀ z ∈ l.take i, f z = none) (hx : l[i]? = some x) (e : f x = none) : ∀ z ∈ l.take (i + 1), f z = none := fun z hz => by
  rw [take_snoc hx] at hz
  rcases List.mem_append.mp hz with hz | hz
  · exact h z hz
  · rw [List.mem_singleton] at hz; subst hz; exact e
theorem findSome_none {α β : Type} {f : α → Option β} {l : List α} (h : ∀ z ∈ l, f z = none) : l.findSome? f = none := List.findSome?_eq_none_iff.mpr h
def getF (f : Str → Option Str) (n : Str) : Str := (f n).getD Str.empty
theorem bad0_none {f : Str → Option Str} {nm sg : Str} {lo hi : Int} (h : bad0 f (.ask nm sg lo hi) = none) : ∃ s, f nm = some s ∧ fit0 sg lo hi s := by
  have h : (if fitO sg lo hi (f nm) = true then none else some nm) = none := h
  by_cases e : fitO sg lo hi (f nm) = true
  · exact fitO_iff.mp e
  · rw [if_neg e] at h; cases h
theorem bad0_some {f : Str → Option Str} {nm sg : Str} {lo hi : Int} (h : ¬ ∃ s, f nm = some s ∧ fit0 sg lo hi s) : bad0 f (.ask nm sg lo hi) = some nm := if_neg fun e => h (fitO_iff.mp e)
theorem bad0_ok {f : Str → Option Str} {nm sg s : Str} {lo hi : Int} (e : f nm = some s) (h : fit0 sg lo hi s) : bad0 f (.ask nm sg lo hi) = none := if_pos (fitO_iff.mpr ⟨s, e, h⟩)
theorem fit_of_none {f : Str → Option Str} {ps : List P0} (h : ∀ p ∈ ps, bad0 f p = none) : AsksFit (getF f) ps := fun nm sg lo hi hp => by
  obtain ⟨s, e, z⟩ := bad0_none (h _ hp)
  unfold getF; rw [e]; exact z
theorem fits_of_none {vals : List (Str × Vl)} {p : Pc} (h : badP vals p = none) : fitsP vals p := by
  cases p with
  | p0 p =>
    cases p with
    | say t => trivial
    | ask nm sg lo hi =>
      obtain ⟨s, e, z⟩ := bad0_none h
      refine ⟨s, ?_, z⟩
      unfold txO at e
      split at e
      · next s' e' => cases e; exact e'
      · cases e
  | rows nm ips gap lo hi =>
    unfold badP at h
    dsimp only at h
    split at h
    · next rs e =>
      split at h
      · next hb =>
        refine ⟨rs, e, hb.1, hb.2, fun r hr p hp => ?_⟩
        have hn := List.findSome?_eq_none_iff.mp h r hr
        have hp2 := List.findSome?_eq_none_iff.mp hn p hp
        cases p with
        | say t => trivial
        | ask nm2 sg lo2 hi2 =>
          obtain ⟨s, e2, z⟩ := bad0_none hp2
          exact ⟨s, e2, z⟩
      · cases h
    · cases h
/-! ## promises of the defs that fill, or refuse -/
def tyF (vals : List (Str × Vl)) : Pc → Prop
  | .p0 (.say _) => True
  | .p0 (.ask nm _ _ _) => look nm vals = none ∨ ∃ s, look nm vals = some (.tx s) ∧ s.length ≤ 1000
  | .rows nm _ _ _ _ => look nm vals = none ∨ ∃ rs, look nm vals = some (.rws rs) ∧ rs.length ≤ 1000 ∧ ∀ r ∈ rs, ∀ n s, look n r = some s → s.length ≤ 1000
section
variable (K : PySem.W.Frag) (C : Addr)
def sp_ask_value_x : Sp := fun vs H Q E => ∃ (a d : Addr) (nm sg : Str) (lo hi : Int) (kvs : List (Key × V)) (o : Option Str), vs = [.ref a, .ref d] ∧ SqT K H a (P0.ask nm sg lo hi).vs ∧ Rd H d (.dK kvs) ∧ valV kvs (Sum.inr nm : Key) = o.map V.str ∧
  (∀ s, o = some s → s.length ≤ 1000) ∧ (∀ s, o = some s → fit0 sg lo hi s → Q (.str s) H) ∧ ((¬ ∃ s, o = some s ∧ fit0 sg lo hi s) → Rz C nm H E)
def sp_filled0_x : Sp := fun vs H Q E => ∃ (l : Addr) (xs : List V) (ps : List P0) (d : Addr) (kvs : List (Key × V)) (f : Str → Option Str), vs = [.ref l, .ref d] ∧ SqL K H l xs ∧ Paired (R0 K H) xs ps ∧ Rd H d (.dK kvs) ∧
  (∀ nm sg lo hi, P0.ask nm sg lo hi ∈ ps → valV kvs (Sum.inr nm : Key) = (f nm).map V.str) ∧ (∀ n s, f n = some s → s.length ≤ 1000) ∧ ps.length ≤ 6 ∧ (∀ p ∈ ps, ok0 p) ∧ (first0 f ps = none → Q (.str (lineP (getF f) ps)) H) ∧ (∀ n, first0 f ps = some n → Rz C n H E)
def sp_rows_filled_x : Sp := fun vs H Q E => ∃ (a d : Addr) (nm : Str) (ips : List P0) (gap : Str) (lo hi : Int) (kvs : List (Key × V)) (vals : List (Str × Vl)), vs = [.ref a, .ref d] ∧ RP K H (.ref a) (.rows nm ips gap lo hi) ∧ H d = some (.dK kvs) ∧ Paired (RKv K H) kvs vals ∧
  tyF vals (.rows nm ips gap lo hi) ∧ okP (.rows nm ips gap lo hi) ∧ (∀ rs, look nm vals = some (.rws rs) → badP vals (.rows nm ips gap lo hi) = none → RetV H (.str (Txt.join gap (rs.map fun r => lineP (rowf r) ips))) Q) ∧
  (∀ n, badP vals (.rows nm ips gap lo hi) = some n → Rz C n H E)
def sp_filled_x : Sp := fun vs H Q E => ∃ (l : Addr) (xs : List V) (ps : List Pc) (v : V) (vals : List (Str × Vl)), vs = [.ref l, v] ∧ SqL K H l xs ∧ Paired (RP K H) xs ps ∧ RV K H v vals ∧
  ps.length ≤ 6 ∧ (∀ p ∈ ps, okP p ∧ tyF vals p) ∧ (firstF vals ps = none → RetV H (.str (writtenP (fv vals) (gv vals) ps)) Q) ∧ (∀ n, firstF vals ps = some n → Rz C n H E)
def sp_fill_x : Sp := fun vs H Q E => ∃ (x : Addr) (ps : List Pc) (v : V) (vals : List (Str × Vl)), vs = [.ref x, v] ∧ FormAt K H x ps ∧ RV K H v vals ∧
  ps.length ≤ 6 ∧ (∀ p ∈ ps, okP p ∧ tyF vals p) ∧ (firstF vals ps = none → RetV H (.str (writtenP (fv vals) (gv vals) ps)) Q) ∧ (∀ n, firstF vals ps = some n → Rz C n H E)
end
end Lf

/-! # LfVd -/
set_option Elab.async false
set_option linter.all false
set_option maxRecDepth 100000
set_option maxHeartbeats 4000000
namespace Lf
open PySem PySem.Spec PyProof.Rows L2
/-! ## values of one's own, whose rows are things of their own -/
abbrev Row := List (Str × Str)
def RO (H0 H : Hp) (d : Addr) (p : Key × V) (q : Str × Vl) : Prop := p.1 = Sum.inr q.1 ∧ match q.2 with
  | .tx s => p.2 = .str s
  | .rws rs => ∃ (l : Addr) (as : List Addr), p.2 = .ref l ∧ H0 l = none ∧ H l = some (.lst (as.map V.ref)) ∧ as.Nodup ∧ (∀ a ∈ as, H0 a = none ∧ a ≠ d) ∧ Paired (fun a r => H a = some (.dK (rowK r))) as rs
theorem RO.mono {H0 H H' : Hp} {d : Addr} {p : Key × V} {q : Str × Vl} (hd : ∃ kvs, H d = some (.dK kvs)) (h : RO H0 H d p q) (k : ∀ b o, b ≠ d → H b = some o → H' b = some o) : RO H0 H' d p q := by
  obtain ⟨h1, h2⟩ := h
  obtain ⟨kvs, hd⟩ := hd
  refine ⟨h1, ?_⟩
  obtain ⟨n, vl⟩ := q
  cases vl with
  | tx s => exact h2
  | rws rs =>
    obtain ⟨l, as, e, f, hl, nd, fa, pr⟩ := h2
    have ld : l ≠ d := fun z => by rw [z, hd] at hl; cases hl
    refine ⟨l, as, e, f, k _ _ ld hl, nd, fa, ?_⟩
    refine Paired.of_at (Paired.len pr) fun i a r h1 h2 => ?_
    obtain ⟨r', e', z⟩ := Paired.at pr h1
    rw [h2] at e'; cases e'
    exact k _ _ (fa a (mem_at h1)).2 z
section
variable (K : PySem.W.Frag)
def sp__law_row_d : Sp := fun vs H Q _ => ∃ (a : Addr) (ns : List Int) (k : Int) (l : Addr) (xs : List V) (ps : List P0), vs = [.ref a, .int k, .ref l] ∧ SqL K H a (ns.map V.int) ∧ SqL K H l xs ∧ Paired (R0 K H) xs ps ∧
  (∀ p ∈ ps, ok0 p) ∧ (nms0 ps).Nodup ∧ ps.length ≤ 100 ∧ ∀ d H', Keep H H' → H d = none → H' d = some (.dK (rowK (rowP ns k ps))) → Q (.ref d) H'
def sp__law_values_d : Sp := fun vs H Q _ => ∃ (a : Addr) (ns : List Int) (start : Int) (l : Addr) (xs : List V) (ps : List Pc), vs = [.ref a, .int start, .ref l] ∧ SqL K H a (ns.map V.int) ∧ SqL K H l xs ∧ Paired (RP K H) xs ps ∧
  okF ps ∧ ∀ d kvs H', Keep H H' → H d = none → H' d = some (.dK kvs) → Paired (RO H H' d) kvs (valuesP ns start ps) → Q (.ref d) H'
end
theorem val_RO {H0 H : Hp} {d : Addr} {kvs : List (Key × V)} {vals : List (Str × Vl)} (h : Paired (RO H0 H d) kvs vals) (n : Str) (e : look n vals = none) : valV kvs (Sum.inr n : Key) = none := by
  induction h with
  | nil => rfl
  | @cons p q ps qs z _ ih =>
    unfold Lf.look at e ih
    rw [List.find?_cons] at e
    by_cases en : q.1 = n
    · rw [decide_eq_true en] at e; cases e
    · rw [decide_eq_false en] at e
      rw [valV_neg (by rw [z.1]; intro y; exact en (Sum.inr.inj y))]
      exact ih e
/-! ## dicts with keys in their order -/
def popM {α : Type} (l : List (Str × α)) (k : Str) : List (Str × α) := l.filter fun p => decide (p.1 ≠ k)
def putM {α : Type} (l : List (Str × α)) (k : Str) (v : α) : List (Str × α) := if (l.any fun p => decide (p.1 = k)) = true then l.map (fun p => if p.1 = k then (p.1, v) else p) else l ++ [(k, v)]
section
variable {α : Type} {F : Key × V → Str × α → Prop}
theorem any_key {kvs : List (Key × V)} {vals : List (Str × α)} (hk : ∀ p q, F p q → p.1 = Sum.inr q.1) (h : Paired F kvs vals) (k : Str) : (kvs.any fun p => decide (p.1 = (Sum.inr k : Key))) = vals.any fun p => decide (p.1 = k) := by
  induction h with
  | nil => rfl
  | @cons p q ps qs z _ ih =>
    rw [List.any_cons, List.any_cons, ih, hk _ _ z]
    congr 1
    by_cases e : q.1 = k
    · rw [decide_eq_true e, e]; simp
    · rw [decide_eq_false e]; simp [e]
theorem Paired.popM {kvs : List (Key × V)} {vals : List (Str × α)} (hk : ∀ p q, F p q → p.1 = Sum.inr q.1) (h : Paired F kvs vals) (k : Str) : Paired F (dropK kvs (Sum.inr k : Key)) (Lf.popM vals k) := by
  induction h with
  | nil => exact .nil
  | @cons p q ps qs z _ ih =>
    unfold dropK Lf.popM at *
    rw [List.filter_cons, List.filter_cons]
    by_cases e : q.1 = k
    · rw [if_neg (by rw [hk _ _ z, e]; simp), if_neg (by simp [e])]
      exact ih
    · rw [if_pos (by rw [hk _ _ z]; simp [e]), if_pos (by simp [e])]
      exact .cons z ih
theorem Paired.putM {kvs : List (Key × V)} {vals : List (Str × α)} (hk : ∀ p q, F p q → p.1 = Sum.inr q.1) (h : Paired F kvs vals) (k : Str) {v : V} {w : α} (hv : ∀ n : Str, F (Sum.inr n, v) (n, w)) : Paired F (putK kvs (Sum.inr k : Key) v) (Lf.putM vals k w) := by
  unfold putK Lf.putM
  rw [any_key hk h k]
  by_cases e : (vals.any fun p => decide (p.1 = k)) = true
  · rw [if_pos e, if_pos e]
    clear e
    induction h with
    | nil => exact .nil
    | @cons p q ps qs z _ ih =>
      rw [List.map_cons, List.map_cons]
      refine .cons ?_ ih
      by_cases e : q.1 = k
      · rw [if_pos (by rw [hk _ _ z, e]), if_pos e, hk _ _ z]
        exact hv _
      · rw [if_neg (by rw [hk _ _ z]; intro y; exact e (Sum.inr.inj y)), if_neg e]
        exact z
  · rw [if_neg e, if_neg e]
    exact Paired.snoc h (hv k)
theorem valV_paired {kvs : List (Key × V)} {vals : List (Str × α)} (hk : ∀ p q, F p q → p.1 = Sum.inr q.1) (h : Paired F kvs vals) (k : Str) : (look k vals = none → valV kvs (Sum.inr k : Key) = none) ∧ ∀ w, look k vals = some w → ∃ v, valV kvs (Sum.inr k : Key) = some v ∧ F (Sum.inr k, v) (k, w) := by
  induction h with
  | nil => exact ⟨fun _ => rfl, fun _ e => by cases e⟩
  | @cons p q ps qs z _ ih =>
    unfold Lf.look at *
    rw [List.find?_cons]
    by_cases en : q.1 = k
    · rw [decide_eq_true en, valV_pos (by rw [hk _ _ z, en])]
      refine ⟨fun e => (by cases e), fun w e => ⟨_, rfl, ?_⟩⟩
      obtain ⟨p1, p2⟩ := p
      obtain ⟨q1, q2⟩ := q
      have e1 := hk _ _ z
      dsimp only at e1 en
      subst en
      subst e1
      cases e
      exact z
    · rw [decide_eq_false en, valV_neg (by rw [hk _ _ z]; intro y; exact en (Sum.inr.inj y))]
      exact ih
end
theorem rowK_pop (r : Row) (k : Str) : dropK (rowK r) (Sum.inr k : Key) = rowK (popM r k) := by
  induction r with
  | nil => rfl
  | cons p r ih =>
    unfold dropK rowK popM at *
    rw [List.map_cons, List.filter_cons, List.filter_cons, ih]
    by_cases e : p.1 = k
    · rw [if_neg (by simp [e]), if_neg (by simp [e])]
    · rw [if_pos (by simp [e]), if_pos (by simp [e])]; rfl
theorem rowK_put (r : Row) (k s : Str) : putK (rowK r) (Sum.inr k : Key) (.str s) = rowK (putM r k s) := by
  have ha : ((rowK r).any fun p => decide (p.1 = (Sum.inr k : Key))) = r.any fun p => decide (p.1 = k) := by
    unfold rowK
    rw [List.any_map]
    congr 1
    funext p
    by_cases e : p.1 = k
    · simp [e]
    · simp [e]
  unfold putK putM
  rw [ha]
  by_cases e : (r.any fun p => decide (p.1 = k)) = true
  · rw [if_pos e, if_pos e]
    unfold rowK
    rw [List.map_map, List.map_map]
    refine List.map_congr_left fun p _ => ?_
    show (if (Sum.inr p.1 : Key) = Sum.inr k then _ else _) = _
    by_cases e : p.1 = k
    · rw [if_pos (by rw [e])]
      show _ = (fun p : Str × Str => ((Sum.inr p.1 : Key), V.str p.2)) (if p.1 = k then (p.1, s) else p)
      rw [if_pos e]
    · rw [if_neg (by intro y; exact e (Sum.inr.inj y))]
      show _ = (fun p : Str × Str => ((Sum.inr p.1 : Key), V.str p.2)) (if p.1 = k then (p.1, s) else p)
      rw [if_neg e]
  · rw [if_neg e, if_neg e, rowK_snoc]
/-! ## faults -/
inductive Vi where
  | tx (s : Str)
  | rw (is : List Nat)
abbrev Vs := List (Str × Vi) × List Row
def RVi (H : Hp) (as : List Addr) (p : Key × V) (q : Str × Vi) : Prop := p.1 = Sum.inr q.1 ∧ match q.2 with
  | .tx s => p.2 = .str s
  | .rw is => ∃ l, p.2 = .ref l ∧ H l = some (.lst (is.map fun i => V.ref (as.getD i 0))) ∧ (∀ i ∈ is, i < as.length)
structure VRel (H : Hp) (d : Addr) (as : List Addr) (S : Vs) : Prop where
  kv : ∃ kvs, H d = some (.dK kvs) ∧ kvs.length ≤ 50 ∧ Paired (RVi H as) kvs S.1
  rows : Paired (fun a r => H a = some (.dK (rowK r))) as S.2
  rl : ∀ r ∈ S.2, r.length ≤ 50
  nd : as.Nodup
  dn : d ∉ as
def allM (vals : List (Str × Vi)) : List Nat := match look "all" vals with
  | some (.rw is) => is
  | _ => []
def t1 : List Str := ["", "abca", "abd", "A"]
def t2 : List Str := ["0000", "x", "cc0"]
def t3 : List Str := ["z", "yyy", "xx "]
def faultM (w : Nat) (c : Int) (n0 n1 : Str) (S : Vs) : Vs :=
  if w = 0 then (popM S.1 "first", S.2)
  else if w = 1 then (putM S.1 "first" (.tx (pick t1 c)), S.2)
  else if w = 2 then (popM S.1 "all", S.2)
  else if w = 3 then (putM S.1 "all" (.rw ((if c % 2 = 0 then [] else (List.replicate 4 (allM S.1)).flatten).take 4)), S.2)
  else if w < 8 then
    if allM S.1 = [] then S else
      (S.1, S.2.set ((allM S.1).getD (c % ((allM S.1).length : Int)).toNat 0) (if w < 6 then popM (S.2.getD ((allM S.1).getD (c % ((allM S.1).length : Int)).toNat 0) []) (if w % 2 = 0 then n0 else n1)
        else putM (S.2.getD ((allM S.1).getD (c % ((allM S.1).length : Int)).toNat 0) []) (if w % 2 = 0 then n0 else n1) (pick t2 (c / 3))))
  else if c % 2 = 1 then (popM S.1 "last", S.2) else (putM S.1 "last" (.tx (pick t3 (c / 2))), S.2)
theorem set_same {α : Type} {l : List α} {j : Nat} {x : α} (h : l[j]? = some x) : l.set j x = l := by
  apply List.ext_getElem?
  intro i
  by_cases e : j = i
  · subst e
    rw [List.getElem?_set_self (at_lt h), h]
  · rw [List.getElem?_set_ne e]
theorem cut_take {xs : List V} {k : Nat} : cutV xs none (some (k : Int)) = xs.take k := by
  unfold cutV
  rw [HT.sIx_none, HT.sIx_nat, Nat.sub_zero, List.drop_zero]
  by_cases h : k ≤ xs.length
  · rw [Nat.min_eq_left h]
  · rw [Nat.min_eq_right (by omega), List.take_length, List.take_of_length_le (by omega)]
section
variable (K : PySem.W.Frag)
def okS (S : Vs) : Prop := (∀ p ∈ S.1, p.1 = "all" → ∃ is, p.2 = .rw is ∧ is.length ≤ 4) ∧ ∀ p ∈ S.1, p.1 ≠ "all" → ∃ s, p.2 = .tx s
def sp__law_fault : Sp := fun vs H Q _ => ∃ (d nl : Addr) (w : Nat) (c : Int) (n0 n1 : Str) (as : List Addr) (S : Vs) (G : Hp), vs = [.ref d, .int w, .int c, .ref nl] ∧ w < 9 ∧ 0 ≤ c ∧ Same G H ∧ G d = none ∧ (∀ a ∈ as, G a = none) ∧
  SqL K G nl [.str n0, .str n1] ∧ VRel H d as S ∧ (∀ v, look "all" S.1 = some v → ∃ is, v = .rw is ∧ is.length ≤ 4) ∧ S.1.length ≤ 40 ∧ (∀ r ∈ S.2, r.length ≤ 40) ∧ ∀ H', Same G H' → VRel H' d as (faultM w c n0 n1 S) → Q .non H'
end
end Lf

/-! # LfVe -/
set_option Elab.async false
set_option linter.all false
set_option maxRecDepth 100000
set_option maxHeartbeats 4000000
namespace Lf
open PySem PySem.Spec PyProof.Rows L2
/-! ## the law's words over values that may not fit -/
def noSay : Pc → Prop
  | .p0 (.say _) => False
  | .p0 (.ask ..) => True
  | .rows _ ips _ _ _ => ∀ p ∈ ips, ∃ nm sg lo hi, p = P0.ask nm sg lo hi
def optV : Option Str → V
  | none => .non
  | some n => .str n
section
variable (K : PySem.W.Frag) (CF CV : Addr)
def sp__law_word_bad : Sp := fun vs H Q _ => ∃ (a d : Addr) (nm sg : Str) (lo hi : Int) (kvs : List (Key × V)) (o : Option Str), vs = [.ref a, .ref d] ∧ SqT K H a (P0.ask nm sg lo hi).vs ∧ Rd H d (.dK kvs) ∧ valV kvs (Sum.inr nm : Key) = o.map V.str ∧
  (∀ s, o = some s → s.length ≤ 1000) ∧ ∀ H', Keep H H' → Q (.bl (!fitO sg lo hi o)) H'
def sp__law_first : Sp := fun vs H Q _ => ∃ (l : Addr) (xs : List V) (ps : List Pc) (v : V) (vals : List (Str × Vl)), vs = [.ref l, v] ∧ SqL K H l xs ∧ Paired (RP K H) xs ps ∧ RV K H v vals ∧ (∀ p ∈ ps, noSay p ∧ tyF vals p) ∧ ∀ H', Keep H H' → Q (optV (firstF vals ps)) H'
def sp__law_tried : Sp := fun vs H Q _ => ∃ (x : Addr) (ps : List Pc) (v : V) (vals : List (Str × Vl)), vs = [.ref x, v] ∧ FormAt K H x ps ∧ RV K H v vals ∧ ps.length ≤ 6 ∧ (∀ p ∈ ps, okP p ∧ tyF vals p) ∧
  (firstF vals ps = none → ∀ H', Keep H H' → Q (.str (writtenP (fv vals) (gv vals) ps)) H') ∧ (∀ n, firstF vals ps = some n → ∀ a dd H', Keep H H' → ExK CV (some dd) H' a → H' dd = some (.xd [("name", .str n)]) → Q (.ref a) H')
end
/-! ## what the faults leave -/
theorem look_in {α : Type} {l : List (Str × α)} {n : Str} {v : α} (h : look n l = some v) : ∃ p ∈ l, p.1 = n ∧ p.2 = v := by
  unfold look at h
  cases e : l.find? (fun p => decide (p.1 = n)) with
  | none => rw [e] at h; cases h
  | some p =>
    rw [e] at h; cases h
    exact ⟨p, List.mem_of_find?_eq_some e, by simpa using List.find?_some e, rfl⟩
theorem popM_mem {α : Type} {l : List (Str × α)} {k : Str} {p : Str × α} (h : p ∈ popM l k) : p ∈ l := (List.mem_filter.mp h).1
theorem popM_keys {α : Type} {l : List (Str × α)} {k : Str} (h : (l.map (·.1)).Nodup) : ((popM l k).map (·.1)).Nodup := h.sublist ((List.filter_sublist).map _)
theorem putM_mem {α : Type} {l : List (Str × α)} {k : Str} {v : α} {p : Str × α} (h : p ∈ putM l k v) : p ∈ l ∨ (p.1 = k ∧ p.2 = v) := by
  unfold putM at h
  split at h
  · obtain ⟨q, hq, e⟩ := List.mem_map.mp h
    by_cases z : q.1 = k
    · rw [if_pos z] at e; subst e; exact .inr ⟨z, rfl⟩
    · rw [if_neg z] at e; subst e; exact .inl hq
  · rcases List.mem_append.mp h with h | h
    · exact .inl h
    · rw [List.mem_singleton] at h; subst h; exact .inr ⟨rfl, rfl⟩
theorem putM_keys {α : Type} {l : List (Str × α)} {k : Str} {v : α} (h : (l.map (·.1)).Nodup) : ((putM l k v).map (·.1)).Nodup := by
  unfold putM
  split
  · rw [List.map_map]
    have : ((fun p : Str × α => p.1) ∘ fun p => if p.1 = k then (p.1, v) else p) = fun p => p.1 := by
      funext p
      show (if p.1 = k then (p.1, v) else p).1 = p.1
      split <;> rfl
    rw [this]; exact h
  · next e =>
    rw [List.map_append, List.nodup_append]
    refine ⟨h, by simp, fun a ha b hb => ?_⟩
    simp at hb; subst hb
    rintro rfl
    obtain ⟨p, hp, e2⟩ := List.mem_map.mp ha
    exact e (List.any_eq_true.mpr ⟨p, hp, decide_eq_true e2⟩)
theorem putM_len {α : Type} {l : List (Str × α)} {k : Str} {v : α} : (putM l k v).length ≤ l.length + 1 := by
  unfold putM
  split
  · rw [List.length_map]; omega
  · rw [List.length_append]; exact Nat.le_refl _
def okVi (p : Str × Vi) : Prop := (p.1 = "all" ∧ ∃ is, p.2 = .rw is ∧ is.length ≤ 4) ∨ (p.1 ≠ "all" ∧ ∃ s, p.2 = .tx s ∧ s.length ≤ 10)
structure okV (i : Nat) (S : Vs) : Prop where
  ty : ∀ p ∈ S.1, okVi p
  nd : (S.1.map (·.1)).Nodup
  ln : S.1.length ≤ 3 + i
  rw : ∀ r ∈ S.2, (r.map (·.1)).Nodup ∧ r.length ≤ 3 + i ∧ ∀ p ∈ r, p.2.length ≤ 10
theorem okV.all {i : Nat} {S : Vs} (h : okV i S) : ∀ v, look "all" S.1 = some v → ∃ is, v = .rw is ∧ is.length ≤ 4 := fun v e => by
  obtain ⟨p, hp, e1, e2⟩ := look_in e
  rcases h.ty p hp with ⟨_, is, z, l⟩ | ⟨z, _⟩
  · exact ⟨is, by rw [← e2]; exact z, l⟩
  · exact absurd e1 z
theorem okV.tx {i : Nat} {S : Vs} (h : okV i S) {n : Str} (hn : n ≠ "all") : ∀ v, look n S.1 = some v → ∃ s, v = .tx s ∧ s.length ≤ 10 := fun v e => by
  obtain ⟨p, hp, e1, e2⟩ := look_in e
  rcases h.ty p hp with ⟨z, _⟩ | ⟨_, s, z, l⟩
  · exact absurd (e1.symm.trans z) hn
  · exact ⟨s, by rw [← e2]; exact z, l⟩
theorem pick_len {l : List Str} (h : l.all (fun s => decide (s.length ≤ 10)) = true) (hl : 0 < l.length) (c : Int) : (pick l c).length ≤ 10 := of_decide_eq_true (List.all_eq_true.mp h _ (pick_mem l c hl))
theorem first_all : ("first" : Str) ≠ "all" := by decide +kernel
theorem last_all : ("last" : Str) ≠ "all" := by decide +kernel
theorem okV.fault {i w : Nat} {c : Int} {n0 n1 : Str} {S : Vs} (h : okV i S) : okV (i + 1) (faultM w c n0 n1 S) := by
  have pop : ∀ k, okV (i + 1) (popM S.1 k, S.2) := fun k => ⟨fun p hp => h.ty p (popM_mem hp), popM_keys h.nd, by have := List.length_filter_le (fun p : Str × Vi => decide (p.1 ≠ k)) S.1; have := h.ln; show (popM S.1 k).length ≤ _; unfold popM; omega,
    fun r hr => ⟨(h.rw r hr).1, by have := (h.rw r hr).2.1; omega, (h.rw r hr).2.2⟩⟩
  have put : ∀ k v, okVi (k, v) → okV (i + 1) (putM S.1 k v, S.2) := fun k v hv => ⟨fun p hp => by
      rcases putM_mem hp with z | ⟨z1, z2⟩
      · exact h.ty p z
      · obtain ⟨a, b⟩ := p; dsimp only at z1 z2; subst z1 z2; exact hv, putM_keys h.nd, by have := putM_len (l := S.1) (k := k) (v := v); have := h.ln; show (putM S.1 k v).length ≤ _; omega,
    fun r hr => ⟨(h.rw r hr).1, by have := (h.rw r hr).2.1; omega, (h.rw r hr).2.2⟩⟩
  have same : okV (i + 1) S := ⟨h.ty, h.nd, by have := h.ln; omega, fun r hr => ⟨(h.rw r hr).1, by have := (h.rw r hr).2.1; omega, (h.rw r hr).2.2⟩⟩
  unfold faultM
  split
  · exact pop _
  split
  · exact put _ _ (.inr ⟨first_all, _, rfl, pick_len (by decide +kernel) (by decide) _⟩)
  split
  · exact pop _
  split
  · exact put _ _ (.inl ⟨rfl, _, rfl, by rw [List.length_take]; exact Nat.min_le_left _ _⟩)
  split
  · split
    · exact same
    · refine ⟨h.ty, h.nd, by have := h.ln; show S.1.length ≤ _; omega, fun r hr => ?_⟩
      have old : ∀ j, ((S.2.getD j []).map (·.1)).Nodup ∧ (S.2.getD j []).length ≤ 3 + i ∧ ∀ p ∈ S.2.getD j [], p.2.length ≤ 10 := fun j => by
        rw [List.getD_eq_getElem?_getD]
        cases e : S.2[j]? with
        | none => exact ⟨List.nodup_nil, Nat.zero_le _, fun p hp => nomatch hp⟩
        | some r => exact h.rw r (mem_at e)
      rcases List.mem_or_eq_of_mem_set hr with hr | hr
      · exact ⟨(h.rw r hr).1, by have := (h.rw r hr).2.1; omega, (h.rw r hr).2.2⟩
      · subst hr
        split
        · refine ⟨popM_keys (old _).1, ?_, fun p hp => (old _).2.2 p (popM_mem hp)⟩
          have := (old ((allM S.1).getD (c % ((allM S.1).length : Int)).toNat 0)).2.1
          exact Nat.le_trans (List.length_filter_le _ _) (by omega)
        · refine ⟨putM_keys (old _).1, Nat.le_trans putM_len (by have := (old ((allM S.1).getD (c % ((allM S.1).length : Int)).toNat 0)).2.1; omega), fun p hp => ?_⟩
          rcases putM_mem hp with z | ⟨_, z⟩
          · exact (old _).2.2 p z
          · rw [z]; exact pick_len (by decide +kernel) (by decide) _
  · split
    · exact pop _
    · exact put _ _ (.inr ⟨last_all, _, rfl, pick_len (by decide +kernel) (by decide) _⟩)
/-- the values, told -/
def resV (S : Vs) : List (Str × Vl) := S.1.map fun p => (p.1, match p.2 with
  | .tx s => Vl.tx s
  | .rw is => Vl.rws (is.map fun i => S.2.getD i []))
theorem resV_keys (S : Vs) : (resV S).map (·.1) = S.1.map (·.1) := by unfold resV; rw [List.map_map]; rfl
theorem resV_look (S : Vs) (n : Str) : look n (resV S) = (look n S.1).map fun v => match v with
  | .tx s => Vl.tx s
  | .rw is => Vl.rws (is.map fun i => S.2.getD i []) := by
  unfold resV
  generalize S.1 = l
  induction l with
  | nil => rfl
  | cons p l ih =>
    unfold look at *
    rw [List.map_cons, List.find?_cons, List.find?_cons]
    by_cases e : p.1 = n
    · rw [decide_eq_true e]; rfl
    · rw [decide_eq_false e]; exact ih
theorem VRel.rv {K : PySem.W.Frag} {H : Hp} {d : Addr} {as : List Addr} {S : Vs} (h : VRel H d as S) : RV K H (.ref d) (resV S) := by
  obtain ⟨⟨kvs, hd, _, hP⟩, hr, _, _, _⟩ := h
  refine ⟨d, kvs, rfl, hd, ?_⟩
  have hl := Paired.len hP
  unfold resV
  refine Paired.of_at (by rw [List.length_map]; exact hl) fun i p q h1 h2 => ?_
  rw [List.getElem?_map] at h2
  obtain ⟨q0, hq, z1, z2⟩ := Paired.at hP h1
  rw [hq] at h2
  cases h2
  refine ⟨z1, ?_⟩
  obtain ⟨n, vi⟩ := q0
  cases vi with
  | tx s => exact z2
  | rw is =>
    obtain ⟨l, e, hl, hb⟩ := z2
    refine ⟨l, _, e, SqL.of hl, Paired.of_at (by rw [List.length_map, List.length_map]) fun j x r g1 g2 => ?_⟩
    rw [List.getElem?_map] at g1 g2
    cases e3 : is[j]? with
    | none => rw [e3] at g1; cases g1
    | some m =>
      rw [e3] at g1 g2
      cases g1; cases g2
      have hm := hb m (mem_at e3)
      have ha : as[m]? = some (as.getD m 0) := by rw [List.getD_eq_getElem?_getD, List.getElem?_eq_getElem hm]; rfl
      obtain ⟨r, hr2, z⟩ := Paired.at hr ha
      refine ⟨as.getD m 0, rfl, ?_⟩
      have eg : S.2.getD m [] = r := by rw [List.getD_eq_getElem?_getD, hr2]; rfl
      show H (as.getD m 0) = some (.dK (rowK (S.2.getD m [])))
      rw [eg]
      exact z
theorem resV_rows {i : Nat} {S : Vs} (h : okV i S) {p : Str × Vl} (hp : p ∈ resV S) {rs : List Row} (e : p.2 = .rws rs) : rs.length ≤ 4 ∧ ∀ r ∈ rs, (r.map (·.1)).Nodup ∧ ∀ q ∈ r, q.2.length ≤ 10 := by
  obtain ⟨q, hq, e2⟩ := List.mem_map.mp hp
  have ho := h.ty q hq
  obtain ⟨n, vi⟩ := q
  subst e2
  cases vi with
  | tx s => cases e
  | rw is =>
    cases e
    rcases ho with ⟨_, is', z, l⟩ | ⟨_, s, z, _⟩
    · cases z
      refine ⟨by rw [List.length_map]; exact l, fun r hr => ?_⟩
      obtain ⟨j, _, rfl⟩ := List.mem_map.mp hr
      show ((S.2.getD j []).map (·.1)).Nodup ∧ ∀ q ∈ S.2.getD j [], q.2.length ≤ 10
      rw [List.getD_eq_getElem?_getD]
      cases e : S.2[j]? with
      | none => exact ⟨List.nodup_nil, fun p hp => nomatch hp⟩
      | some r => exact ⟨(h.rw r (mem_at e)).1, (h.rw r (mem_at e)).2.2⟩
    · cases z
theorem resV_nd {i : Nat} {S : Vs} (h : okV i S) : ∀ p ∈ resV S, ndV p.2 := fun p hp => by
  cases e : p.2 with
  | tx s => trivial
  | rws rs => exact fun r hr => ((resV_rows h hp e).2 r hr).1
theorem resV_ty {i : Nat} {S : Vs} (h : okV i S) : (∀ (nm sg : Str) (lo hi : Int), nm ≠ ("all" : Str) → tyF (resV S) (.p0 (.ask nm sg lo hi))) ∧ ∀ ips gap lo hi, tyF (resV S) (.rows "all" ips gap lo hi) := by
  refine ⟨fun nm sg lo hi hn => ?_, fun ips gap lo hi => ?_⟩
  · show look nm (resV S) = none ∨ _
    rw [resV_look]
    cases e : look nm S.1 with
    | none => exact .inl rfl
    | some v =>
      obtain ⟨s, rfl, hs⟩ := h.tx hn v e
      exact .inr ⟨s, rfl, by omega⟩
  · show look "all" (resV S) = none ∨ _
    cases e : look "all" (resV S) with
    | none => exact .inl rfl
    | some v =>
      have e0 := e
      rw [resV_look] at e
      cases e2 : look "all" S.1 with
      | none => rw [e2] at e; cases e
      | some v2 =>
        obtain ⟨is, rfl, _⟩ := h.all v2 e2
        rw [e2] at e
        cases e
        obtain ⟨p, hp, _, e4⟩ := look_in e0
        have hr := resV_rows h hp e4
        refine .inr ⟨_, rfl, by have := hr.1; omega, fun r hr2 n s es => ?_⟩
        obtain ⟨q, hq, _, e5⟩ := look_in es
        have := (hr.2 r hr2).2 q hq
        rw [e5] at this; omega
/-- the form -/
def pcs4 (n0 n1 : Str) (lo : Int) : List Pc := [.p0 (.ask "first" "abc" 1 3), .rows "all" [.ask n0 "bc" 0 2, .ask n1 "01" 1 3] "-" lo 3, .p0 (.ask "last" "xy" 0 2)]
def nmT : List (Str × Str) := [("who", "day"), ("first", "last"), ("last", "who")]
theorem pcs4_ok : ∀ j : Fin 3, ∀ lo : Fin 2, okFB (pcs4 (nmT.getD j.val ("", "")).1 (nmT.getD j.val ("", "")).2 (lo.val : Int)) = true := by decide +kernel
theorem pcs4_noSay {n0 n1 : Str} {lo : Int} : ∀ p ∈ pcs4 n0 n1 lo, noSay p := fun p hp => by
  unfold pcs4 at hp
  simp only [List.mem_cons, List.not_mem_nil, or_false] at hp
  rcases hp with rfl | rfl | rfl
  · trivial
  · intro q hq
    simp only [List.mem_cons, List.not_mem_nil, or_false] at hq
    rcases hq with rfl | rfl
    · exact ⟨_, _, _, _, rfl⟩
    · exact ⟨_, _, _, _, rfl⟩
  · trivial
theorem pcs4_ty {i : Nat} {S : Vs} (h : okV i S) {n0 n1 : Str} {lo : Int} : ∀ p ∈ pcs4 n0 n1 lo, tyF (resV S) p := fun p hp => by
  obtain ⟨t1, t2⟩ := resV_ty h
  unfold pcs4 at hp
  simp only [List.mem_cons, List.not_mem_nil, or_false] at hp
  rcases hp with rfl | rfl | rfl
  · exact t1 _ _ _ _ first_all
  · exact t2 _ _ _ _
  · exact t1 _ _ _ _ last_all

/-! ## the law's own start -/
def R2L (G : Hp) (v : V) (p : Str × Str) : Prop := ∃ a, v = .ref a ∧ G a = some (.lst [.str p.1, .str p.2])
theorem R2L.mono : MonoF R2L := fun _ _ _ _ s ⟨a, e, h⟩ => ⟨a, e, s _ _ h⟩
theorem gd_two {σ : L2.St} {a b : Str} : Gd (tLst (tCons (tC (.str a)) (tCons (tC (.str b)) tNil))) σ fun G v => R2L G v (a, b) := fun G H Q g q =>
  ⟨by show 2 ≤ sizeLine; decide, fun p np => q _ _ _ ((Wd.refl g).new np) ⟨p, rfl, upd_same⟩⟩
abbrev vl4 (w1 w3 : Str) (rs : List Row) : List (Str × Vl) := [("first", .tx w1), ("all", .rws rs), ("last", .tx w3)]
abbrev vi4 (w1 w3 : Str) (rs : List Row) : Vs := ([("first", .tx w1), ("all", .rw (List.range rs.length)), ("last", .tx w3)], rs)
/-- the drawn values, as things of their own -/
theorem RO.vrel {K : PySem.W.Frag} {H0 H : Hp} {d : Addr} {kvs : List (Key × V)} {w1 w3 : Str} {rs : List Row} (hd : H d = some (.dK kvs)) (h : Paired (RO H0 H d) kvs (vl4 w1 w3 rs)) (hr : ∀ r ∈ rs, r.length ≤ 50) :
    ∃ as, VRel H d as (vi4 w1 w3 rs) ∧ ∀ a ∈ as, H0 a = none := by
  cases h with
  | @cons p1 _ _ _ z1 h =>
  cases h with
  | @cons p2 _ _ _ z2 h =>
  cases h with
  | @cons p3 _ _ _ z3 h =>
  cases h
  obtain ⟨k1, v1⟩ := p1
  obtain ⟨k2, v2⟩ := p2
  obtain ⟨k3, v3⟩ := p3
  obtain ⟨e1, f1⟩ := z1
  obtain ⟨e2, l, as, f2, fl, hl, nd, fa, pr⟩ := z2
  obtain ⟨e3, f3⟩ := z3
  dsimp only at e1 e2 e3 f1 f2 f3
  subst e1 e2 e3 f1 f2 f3
  have hlen := Paired.len pr
  refine ⟨as, ⟨⟨_, hd, by show 3 ≤ 50; decide, .cons ⟨rfl, rfl⟩ (.cons ⟨rfl, l, rfl, ?_, fun i hi => by rw [hlen]; exact List.mem_range.mp hi⟩ (.cons ⟨rfl, rfl⟩ .nil))⟩, pr, hr, nd, fun m => (fa d m).2 rfl⟩, fun a ha => (fa a ha).1⟩
  rw [hl]
  congr 2
  apply List.ext_getElem?
  intro i
  rw [List.getElem?_map, List.getElem?_map]
  by_cases hi : i < rs.length
  · rw [List.getElem?_range hi, List.getElem?_eq_getElem (by omega : i < as.length)]
    show some (V.ref as[i]) = some (V.ref (as.getD i 0))
    rw [List.getD_eq_getElem?_getD, List.getElem?_eq_getElem (by omega : i < as.length)]; rfl
  · rw [List.getElem?_eq_none (show as.length ≤ i by omega), List.getElem?_eq_none (show (List.range rs.length).length ≤ i by rw [List.length_range]; omega)]; rfl
theorem vals4 (ns : List Int) (n0 n1 : Str) (lo : Int) : ∃ w1 w3 rs, valuesP ns 300 (pcs4 n0 n1 lo) = vl4 w1 w3 rs := ⟨_, _, _, rfl⟩
theorem fit_len {sg s : Str} {lo hi : Int} (h : fit0 sg lo hi s) (hh : hi ≤ 10) : s.length ≤ 10 := by have := h.2.1; omega
/-- .. are of the right kinds -/
theorem vals4_ok {ns : List Int} {n0 n1 : Str} {lo : Int} {w1 w3 : Str} {rs : List Row} (ok : okF (pcs4 n0 n1 lo)) (h : valuesP ns 300 (pcs4 n0 n1 lo) = vl4 w1 w3 rs) :
    okV 0 (vi4 w1 w3 rs) := by
  have hf := values_fit (ns := ns) (s := 300) ok
  have hm := fun q (z : q ∈ valuesP ns 300 (pcs4 n0 n1 lo)) => values_mem (ns := ns) (s := 300) ok z
  have hnd : ((valuesP ns 300 (pcs4 n0 n1 lo)).map (·.1)).Nodup := by rw [val_names]; exact ok.nd
  rw [h] at hf hm hnd
  have i1 := (hf (.p0 (.ask "first" "abc" 1 3)) (by simp [pcs4])).2
  have i2 := (hf (.rows "all" [.ask n0 "bc" 0 2, .ask n1 "01" 1 3] "-" lo 3) (by simp [pcs4])).2
  have i3 := (hf (.p0 (.ask "last" "xy" 0 2)) (by simp [pcs4])).2
  obtain ⟨s1, e1, f1⟩ := i1
  obtain ⟨rs', e2, f2, f3, f4⟩ := i2
  obtain ⟨s3, e3, f5⟩ := i3
  have l1 := look_mem hnd (n := "first") (v := Vl.tx w1) (by simp)
  have l2 := look_mem hnd (n := "all") (v := Vl.rws rs) (by simp)
  have l3 := look_mem hnd (n := "last") (v := Vl.tx w3) (by simp)
  rw [l1] at e1; rw [l2] at e2; rw [l3] at e3
  cases e1; cases e2; cases e3
  have hks : ∀ r ∈ rs, r.map (·.1) = [n0, n1] := fun r hr => by
    rcases hm ("all", .rws rs) (by simp) with ⟨_, _, _, _, _, z⟩ | ⟨ips, gap, lo', hi', rs2, hp, z, _, hk⟩
    · cases z
    · cases z
      have hk := hk r hr
      have : ips = [.ask n0 "bc" 0 2, .ask n1 "01" 1 3] := by
        simp only [pcs4, List.mem_cons, List.not_mem_nil, or_false] at hp
        rcases hp with hp | hp | hp
        · cases hp
        · cases hp; rfl
        · cases hp
      rw [hk, this]; rfl
  have okr := ok.ok (.rows "all" [.ask n0 "bc" 0 2, .ask n1 "01" 1 3] "-" lo 3) (by simp [pcs4])
  obtain ⟨_, _, _, _, ind, _⟩ := okr
  have nd2 : [n0, n1].Nodup := ind
  refine ⟨fun p hp => ?_, hnd, Nat.le_refl _, fun r hr => ?_⟩
  · simp only [List.mem_cons, List.not_mem_nil, or_false] at hp
    rcases hp with rfl | rfl | rfl
    · exact .inr ⟨first_all, _, rfl, fit_len f1 (by decide)⟩
    · exact .inl ⟨rfl, _, rfl, by rw [List.length_range]; omega⟩
    · exact .inr ⟨last_all, _, rfl, fit_len f5 (by decide)⟩
  · have hk := hks r hr
    refine ⟨by rw [hk]; exact nd2, ?_, fun p hp => ?_⟩
    · have : (r.map (·.1)).length = 2 := by rw [hk]; rfl
      rw [List.length_map] at this; omega
    · have hpk : p.1 ∈ [n0, n1] := by rw [← hk]; exact List.mem_map.mpr ⟨p, hp, rfl⟩
      have hlp : look p.1 r = some p.2 := look_mem (by rw [hk]; exact nd2) hp
      simp only [List.mem_cons, List.not_mem_nil, or_false] at hpk
      rcases hpk with e | e
      · obtain ⟨s, es, fs⟩ := f4 r hr (.ask n0 "bc" 0 2) (by simp)
        rw [← e, hlp] at es; cases es
        exact fit_len fs (by decide)
      · obtain ⟨s, es, fs⟩ := f4 r hr (.ask n1 "01" 1 3) (by simp)
        rw [← e, hlp] at es; cases es
        exact fit_len fs (by decide)
end Lf

/-! # LfEnd3 -/
set_option Elab.async false
set_option linter.all false
set_option maxRecDepth 100000
set_option maxHeartbeats 4000000
namespace Lf
open PySem L2
/-! ## what the top leaves of an exception class with an __init__ -/
structure Ri (K : PySem.W.Frag) (mg : Str → Option Value) (x qual : Str) (st : Stmt) (ps : List Str) (C : Addr) : Prop where
  T : OexC K C
  mgc : mg x = some (.ref C)
  ex : ∃ (f : Addr) (fd : FuncData), PySem.W.findIn K (.ref C) "__init__" = some (some (.ref f)) ∧ PySem.W.typeIn K (.ref f) = some (.type "function") ∧ Fun K "__init__" qual st f fd ∧ Binds K fd ps []
theorem ri_mk {K : PySem.W.Frag} {h : Heap} {mg : Str → Option Value} (X : K.In h) (G : h.Ns mainGlobals mg) {x qual : Str} {st : Stmt} {ps : List Str} {C f : Addr} {oc : Value} {od an : Option Addr} {sl : Array (Option Value)} {kV dc pm cd ct : Value}
    {nm q : Str} {N : Addr} {bs bm : List Value} {sn : List Str} {sub : List Value} {ab : Bool} {col : Option Bool} {dd : Option Addr} {m0 m1 m2 m3 m5 : Option Value}
    (aC : PySem.W.nsIn K mainGlobals x = some (some (.ref C)))
    (xL : K.lookup C = some (excClassObj nm q C N bs bm true sn sub ab col dd m0 m1 m2 m3 m5 "ValueError.__new__")) (xb : PySem.HandSPX.refsVE bm = true)
    (sa : PySem.W.findIn K (.ref C) "__setattr__" = some (some (.builtin "object.__setattr__"))) (eC : PySem.W.subIn K (.ref C) (.type "BaseException") = some true) (tC : PySem.W.typeIn K (.ref C) = some (.type "type")) (kC : PySem.W.keepIn K (.ref C) = true)
    (a : PySem.W.findIn K (.ref C) "__init__" = some (some (.ref f))) (t : PySem.W.typeIn K (.ref f) = some (.type "function"))
    (l : K.lookup f = some ⟨oc, od, .func (PySem.W.fnOf "__init__" qual (defArgs st) (defBody st) (defScope st) .none kV dc pm an cd ct), sl⟩) (c : PySem.W.codeIn K cd qual = true) (k : PySem.W.keepIn K (.ref f) = true)
    (b : ∀ (kV doc pm : Value) (an : Option Addr) (cdv ct : Value) (us : List Value), us.length = ps.length → bindArgs (PySem.W.fnOf "__init__" qual (defArgs st) (defBody st) (defScope st) .none kV doc pm an cdv ct) ⟨us, []⟩ = pure (ps.zip us)) :
    Ri K mg x qual st ps C := by
  have F := fun_mk (st := st) l c k
  exact ⟨⟨⟨nm, q, N, bs, bm, sn, sub, ab, col, dd, m0, m1, m2, m3, m5, xL, xb⟩, sa, eC, tC, kC⟩, PySem.W.mg_of X G aC, f, _, a, t, F, F.binds b⟩
theorem Ri.rz {P : Program} {w : World} {K : PySem.W.Frag} {mg : Str → Option Value} {base : Heap} {k : Nat} {x qual : Str} {st : Stmt} {ps : List Str} {C : Addr} {sp : Sp} (c : Ri K mg x qual st ps C)
    (h : ∀ f fd, Fun K "__init__" qual st f fd → FnOk P w K mg base CX0 k f fd ps sp) : RzI P w K mg base x C k sp := by
  obtain ⟨f, fd, a, t, F, b⟩ := c.ex
  exact ⟨c.T, c.mgc, f, fd, ps, a, t, h f fd F, b⟩
end Lf

/-! # LfReads -/
set_option Elab.async false
set_option linter.all false
set_option maxRecDepth 100000
set_option maxHeartbeats 4000000
namespace Lf
open PySem L2
/-! ## the readings of a text, in their order -/
abbrev Rw := List (Str × Str)
/-- a part of a text -/
def cut (cs : List Nat) (a e : Nat) : List Nat := (cs.drop a).take (e - a)
/-- the ends of a field: n signs at most, l of them at least -/
def askE (cs sg : List Nat) : Nat → Nat → Nat → List Nat
  | 0, _, a => [a]
  | n + 1, l, a => (if l = 0 then [a] else []) ++ match cs[a]? with
    | some c => if c ∈ sg then askE cs sg n (l - 1) (a + 1) else []
    | none => []
def sayE (cs t : List Nat) (a : Nat) : List Nat := if (cs.drop a).take t.length = t then [a + t.length] else []
def pieceR0 (cs : List Nat) : P0 → Nat → List (Rw × Nat)
  | .say t, a => (sayE cs t.cps.toList a).map fun e => ([], e)
  | .ask nm sg lo hi, a => (askE cs sg.cps.toList hi.toNat lo.toNat a).map fun e => ([(nm, ofL (cut cs a e))], e)
def lineR (cs : List Nat) : List P0 → Nat → List (Rw × Nat)
  | [], a => [([], a)]
  | p :: ps, a => (pieceR0 cs p a).flatMap fun x => (lineR cs ps x.2).map fun y => (x.1 ++ y.1, y.2)
/-- rows: n more at most, k so far -/
def rowsR (cs : List Nat) (ips : List P0) (gap : List Nat) (lo : Nat) : Nat → Nat → Nat → List (List Rw × Nat)
  | 0, _, a => [([], a)]
  | n + 1, k, a => (if lo ≤ k then [([], a)] else []) ++
      (sayE cs (if k = 0 then [] else gap) a).flatMap fun b => (lineR cs ips b).flatMap fun x => (rowsR cs ips gap lo n (k + 1) x.2).map fun y => (x.1 :: y.1, y.2)
def pieceR (cs : List Nat) : Pc → Nat → List (List (Str × Vl) × Nat)
  | .p0 p, a => (pieceR0 cs p a).map fun x => (x.1.map fun q => (q.1, Vl.tx q.2), x.2)
  | .rows nm ips gap lo hi, a => (rowsR cs ips gap.cps.toList lo.toNat hi.toNat 0 a).map fun x => ([(nm, Vl.rws x.1)], x.2)
def formR (cs : List Nat) : List Pc → Nat → List (List (Str × Vl) × Nat)
  | [], a => [([], a)]
  | p :: ps, a => (pieceR cs p a).flatMap fun x => (formR cs ps x.2).map fun y => (x.1 ++ y.1, y.2)
def readsP (ps : List Pc) (cs : List Nat) : List (List (Str × Vl)) := ((formR cs ps 0).filter fun x => decide (x.2 = cs.length)).map (·.1)

/-! ## parts of texts -/
theorem cut_self (cs : List Nat) (a : Nat) : cut cs a a = [] := by unfold cut; rw [Nat.sub_self, List.take_zero]
theorem cut_cons {cs : List Nat} {a e : Nat} {c : Nat} (h : cs[a]? = some c) (he : a < e) : cut cs a e = c :: cut cs (a + 1) e := by
  unfold cut
  have ha : a < cs.length := at_lt h
  have e1 : e - a = (e - (a + 1)) + 1 := by omega
  rw [List.drop_eq_getElem_cons ha, e1, List.take_succ_cons]
  have : cs[a] = c := by rw [List.getElem?_eq_getElem ha] at h; exact Option.some.inj h
  rw [this]
theorem cut_len {cs : List Nat} {a e : Nat} (h : e ≤ cs.length) : (cut cs a e).length = e - a := by
  unfold cut; rw [List.length_take, List.length_drop]; omega
theorem cut_app {cs : List Nat} {a b e : Nat} (h1 : a ≤ b) (h2 : b ≤ e) : cut cs a e = cut cs a b ++ cut cs b e := by
  unfold cut
  have e1 : e - a = (b - a) + (e - b) := by omega
  rw [e1, List.take_add, List.drop_drop]
  congr 3
  omega
theorem drop_at {cs : List Nat} {a : Nat} {c : Nat} (h : cs[a]? = some c) : cs.drop a = c :: cs.drop (a + 1) := by
  have ha : a < cs.length := at_lt h
  rw [List.drop_eq_getElem_cons ha]
  have : cs[a] = c := by rw [List.getElem?_eq_getElem ha] at h; exact Option.some.inj h
  rw [this]
theorem cut_drop {cs : List Nat} {a e : Nat} (h1 : a ≤ e) (h2 : e ≤ cs.length) : cs.drop a = cut cs a e ++ cs.drop e := by
  unfold cut
  have : cs.drop e = (cs.drop a).drop (e - a) := by rw [List.drop_drop]; congr 1; omega
  rw [this, List.take_append_drop]

/-! ## what a field's ends are -/
theorem askE_sound {cs sg : List Nat} : ∀ {n l a e : Nat}, a ≤ cs.length → l ≤ n → e ∈ askE cs sg n l a → a + l ≤ e ∧ e ≤ a + n ∧ e ≤ cs.length ∧ ∀ c ∈ cut cs a e, c ∈ sg
  | 0, l, a, e, ha, hl, h => by
    have : e = a := by simpa [askE] using h
    subst this
    refine ⟨by omega, by omega, ha, fun c hc => ?_⟩
    rw [cut_self] at hc; cases hc
  | n + 1, l, a, e, ha, hl, h => by
    unfold askE at h
    rcases List.mem_append.mp h with h | h
    · split at h
      · next h0 =>
        have : e = a := by simpa using h
        subst this
        refine ⟨by omega, by omega, ha, fun c hc => ?_⟩
        rw [cut_self] at hc; cases hc
      · cases h
    · split at h
      · next c hc =>
        split at h
        · next hm =>
          have hlt := at_lt hc
          obtain ⟨h1, h2, h3, h4⟩ := askE_sound (n := n) (l := l - 1) (a := a + 1) (by omega) (by omega) h
          refine ⟨by omega, by omega, h3, fun d hd => ?_⟩
          rw [cut_cons hc (by omega)] at hd
          rcases List.mem_cons.mp hd with rfl | hd
          · exact hm
          · exact h4 d hd
        · cases h
      · cases h
theorem askE_complete {cs sg : List Nat} : ∀ {n l a e : Nat}, a + l ≤ e → e ≤ a + n → e ≤ cs.length → (∀ c ∈ cut cs a e, c ∈ sg) → e ∈ askE cs sg n l a
  | 0, l, a, e, h1, h2, h3, h4 => by
    have : e = a := by omega
    subst this; simp [askE]
  | n + 1, l, a, e, h1, h2, h3, h4 => by
    unfold askE
    by_cases he : e = a
    · subst he
      have : l = 0 := by omega
      rw [if_pos this]; simp
    · have hlt : a < cs.length := by omega
      have hc : cs[a]? = some cs[a] := List.getElem?_eq_getElem hlt
      have hcc := cut_cons hc (show a < e by omega)
      refine List.mem_append.mpr (.inr ?_)
      rw [hc]
      show e ∈ if cs[a] ∈ sg then _ else _
      rw [if_pos (h4 _ (by rw [hcc]; exact List.mem_cons_self))]
      exact askE_complete (by omega) (by omega) h3 fun c hc2 => h4 c (by rw [hcc]; exact List.mem_cons_of_mem _ hc2)
theorem askE_ge {cs sg : List Nat} : ∀ {n l a e : Nat}, e ∈ askE cs sg n l a → a ≤ e
  | 0, l, a, e, h => by have : e = a := by simpa [askE] using h
                        omega
  | n + 1, l, a, e, h => by
    unfold askE at h
    rcases List.mem_append.mp h with h | h
    · split at h
      · have : e = a := by simpa using h
        omega
      · cases h
    · split at h
      · split at h
        · have := askE_ge h; omega
        · cases h
      · cases h
theorem askE_nodup {cs sg : List Nat} : ∀ (n l a : Nat), (askE cs sg n l a).Nodup
  | 0, l, a => by simp [askE]
  | n + 1, l, a => by
    unfold askE
    rw [List.nodup_append]
    refine ⟨?_, ?_, fun x hx y hy e => ?_⟩
    · split
      · simp
      · exact List.nodup_nil
    · split
      · split
        · exact askE_nodup n _ _
        · exact List.nodup_nil
      · exact List.nodup_nil
    · subst e
      split at hx
      · have : x = a := by simpa using hx
        subst this
        split at hy
        · split at hy
          · have := askE_ge hy; omega
          · cases hy
        · cases hy
      · cases hx
theorem sayE_mem {cs t : List Nat} {a e : Nat} (h : e ∈ sayE cs t a) : e = a + t.length ∧ (cs.drop a).take t.length = t := by
  unfold sayE at h
  split at h
  · next q => exact ⟨by simpa using h, q⟩
  · cases h
theorem sayE_sound {cs t : List Nat} {a e : Nat} (ha : a ≤ cs.length) (h : e ∈ sayE cs t a) : e = a + t.length ∧ e ≤ cs.length ∧ cut cs a e = t := by
  obtain ⟨h1, h2⟩ := sayE_mem h
  have h3 : (List.take t.length (List.drop a cs)).length = t.length := by rw [h2]
  rw [List.length_take, List.length_drop] at h3
  refine ⟨h1, by omega, ?_⟩
  unfold cut
  rw [h1, Nat.add_sub_cancel_left]; exact h2
theorem sayE_complete {cs t : List Nat} {a e : Nat} (h1 : e = a + t.length) (h : cut cs a e = t) : e ∈ sayE cs t a := by
  subst h1
  unfold cut at h
  rw [Nat.add_sub_cancel_left] at h
  unfold sayE
  rw [if_pos h]; simp
theorem sayE_nodup (cs t : List Nat) (a : Nat) : (sayE cs t a).Nodup := by
  unfold sayE
  split
  · simp
  · exact List.nodup_nil
end Lf

/-! # LfWalk -/
set_option Elab.async false
set_option linter.all false
set_option maxRecDepth 100000
set_option maxHeartbeats 4000000
namespace Lf
open PySem L2
/-! ## walks: steps by number -/
inductive Mk1 where
  | opened | closed | begun | ended | row
inductive Wst where
  | fin
  | sign (s : Str) (n : Nat) (t : Option Str)
  | choice (a b : Nat)
  | mark (a : Nat) (m : Mk1) (nm : Str)
abbrev Wk := List Wst
/-- the ways from the steps so far, by place, to the end of the text -/
abbrev Wy := Nat → List (List Wst)
def getW (D : List Wy) (n : Nat) : Wy := D.getD n fun _ => []
def den1 (cs : List Nat) (D : List Wy) (x : Wst) : Wy := fun a => match x with
  | .fin => if a = cs.length then [[x]] else []
  | .sign s n _ => match cs[a]? with
    | some c => if c ∈ s.cps.toList then (getW D n (a + 1)).map (x :: ·) else []
    | none => []
  | .choice p q => (getW D p a ++ getW D q a).map (x :: ·)
  | .mark p _ _ => (getW D p a).map (x :: ·)
def denW (cs : List Nat) (W : Wk) : List Wy := W.foldl (fun D x => D ++ [den1 cs D x]) []
def ways (cs : List Nat) (W : Wk) (s : Nat) : Wy := getW (denW cs W) s
theorem denW_snoc (cs : List Nat) (W : Wk) (x : Wst) : denW cs (W ++ [x]) = denW cs W ++ [den1 cs (denW cs W) x] := by
  unfold denW; rw [List.foldl_append]; rfl
theorem flatMap_congr' {α β : Type} {l : List α} {f g : α → List β} (h : ∀ x ∈ l, f x = g x) : l.flatMap f = l.flatMap g := by
  rw [List.flatMap_def, List.flatMap_def, List.map_congr_left h]
theorem list_snoc_ind {α : Type} {P : List α → Prop} (h0 : P []) (h1 : ∀ l x, P l → P (l ++ [x])) : ∀ l, P l := fun l => by
  have : ∀ n, ∀ l : List α, l.length = n → P l := by
    intro n
    induction n with
    | zero => intro l e; rw [List.length_eq_zero_iff] at e; subst e; exact h0
    | succ n ih =>
      intro l e
      have hne : l ≠ [] := by intro z; subst z; cases e
      rw [← List.dropLast_concat_getLast hne]
      exact h1 _ _ (ih _ (by rw [List.length_dropLast, e]; rfl))
  exact this _ l rfl
theorem denW_len (cs : List Nat) (W : Wk) : (denW cs W).length = W.length := by
  induction W using list_snoc_ind with
  | h0 => rfl
  | h1 W x ih => rw [denW_snoc, List.length_append, ih, List.length_append]; rfl
theorem ways_snoc {cs : List Nat} {W : Wk} {x : Wst} {s : Nat} (h : s < W.length) : ways cs (W ++ [x]) s = ways cs W s := by
  unfold ways getW
  rw [denW_snoc, List.getD_eq_getElem?_getD, List.getD_eq_getElem?_getD, List.getElem?_append_left (by rw [denW_len]; exact h)]
theorem ways_ext {cs : List Nat} {W X : Wk} {s : Nat} (h : s < W.length) : ways cs (W ++ X) s = ways cs W s := by
  induction X using list_snoc_ind with
  | h0 => rw [List.append_nil]
  | h1 X x ih => rw [← List.append_assoc, ways_snoc (by rw [List.length_append]; omega), ih]
theorem ways_new (cs : List Nat) (W : Wk) (x : Wst) : ways cs (W ++ [x]) W.length = den1 cs (denW cs W) x := by
  unfold ways getW
  rw [denW_snoc, List.getD_eq_getElem?_getD, List.getElem?_append_right (by rw [denW_len]; exact Nat.le_refl _), denW_len, Nat.sub_self]; rfl

/-! ## the steps' own numbers -/
def succs : Wst → List Nat
  | .fin => []
  | .sign _ n _ => [n]
  | .choice a b => [a, b]
  | .mark a _ _ => [a]
def WfW (W : Wk) : Prop := ∀ i x, W[i]? = some x → ∀ n ∈ succs x, n < i
theorem WfW.snoc {W : Wk} {x : Wst} (h : WfW W) (hx : ∀ n ∈ succs x, n < W.length) : WfW (W ++ [x]) := fun i y hy n hn => by
  by_cases hi : i < W.length
  · rw [List.getElem?_append_left hi] at hy; exact h i y hy n hn
  · have hi2 : i < (W ++ [x]).length := at_lt hy
    rw [List.length_append] at hi2
    have e : i = W.length := by simp at hi2; omega
    subst e
    rw [List.getElem?_append_right (Nat.le_refl _), Nat.sub_self] at hy
    cases hy
    exact hx n hn
theorem ways_at {cs : List Nat} {W : Wk} {i : Nat} {x : Wst} (h : WfW W) (hx : W[i]? = some x) (a : Nat) : ways cs W i a = match x with
  | .fin => if a = cs.length then [[x]] else []
  | .sign s n _ => match cs[a]? with
    | some c => if c ∈ s.cps.toList then (ways cs W n (a + 1)).map (x :: ·) else []
    | none => []
  | .choice p q => (ways cs W p a ++ ways cs W q a).map (x :: ·)
  | .mark p _ _ => (ways cs W p a).map (x :: ·) := by
  have hi := at_lt hx
  have e : W = W.take i ++ [x] ++ W.drop (i + 1) := by
    rw [← take_snoc hx, List.take_append_drop]
  have hl : (W.take i).length = i := by rw [List.length_take]; omega
  have hs := h i x hx
  have key : ∀ n, n < i → getW (denW cs (W.take i)) n = ways cs W n := fun n hn => by
    show ways cs (W.take i) n = _
    conv => rhs; rw [e, List.append_assoc]
    exact (ways_ext (by rw [hl]; exact hn)).symm
  have e2 : ways cs W i = den1 cs (denW cs (W.take i)) x := by
    have e3 : ways cs W i = ways cs (W.take i ++ [x] ++ W.drop (i + 1)) (W.take i).length := by rw [← e, hl]
    rw [e3, ways_ext (by rw [List.length_append]; exact Nat.lt_succ_self _), ways_new]
  rw [e2]
  cases x with
  | fin => rfl
  | sign s n t =>
    show (match cs[a]? with | some c => if c ∈ s.cps.toList then (getW (denW cs (W.take i)) n (a + 1)).map _ else [] | none => []) = _
    rw [key n (hs n (by simp [succs]))]
  | choice p q =>
    show (getW _ p a ++ getW _ q a).map _ = _
    rw [key p (hs p (by simp [succs])), key q (hs q (by simp [succs]))]
  | mark p m nm =>
    show (getW _ p a).map _ = _
    rw [key p (hs p (by simp [succs]))]

/-! ## what a way tells -/
inductive Fr where
  | top (vals : List (Str × Vl))
  | beg (vals : List (Str × Vl)) (m : Str)
  | row (vals : List (Str × Vl)) (m : Str) (rs : List Rw) (r : Rw)
structure Sv where
  fr : Fr
  f : Option (Str × List Nat)
  pl : Nat
def Fr.ks : Fr → Option (List Str)
  | .top vals => some (vals.map (·.1))
  | .beg _ _ => none
  | .row _ _ _ r => some (r.map (·.1))
def addF : Fr → Str × Str → Fr
  | .top vals, q => .top (vals ++ [(q.1, .tx q.2)])
  | .beg vals m, _ => .beg vals m
  | .row vals m rs r, q => .row vals m rs (r ++ [q])
def addRow : Fr → Rw → Fr
  | .top vals, _ => .top vals
  | .beg vals m, r => .row vals m [] r
  | .row vals m rs r0, r => .row vals m (rs ++ [r0]) r
def vstep (cs : List Nat) (st : Sv) : Wst → Option Sv
  | .fin => some st
  | .choice _ _ => some st
  | .sign _ _ none => some ⟨st.fr, st.f, st.pl + 1⟩
  | .sign _ _ (some n) => match st.f, cs[st.pl]? with
    | some (m, s), some c => if m = n ∧ st.fr.ks.isSome then some ⟨st.fr, some (m, s ++ [c]), st.pl + 1⟩ else none
    | _, _ => none
  | .mark _ .opened n => match st.f, st.fr.ks with
    | none, some ks => if n ∈ ks then none else some ⟨st.fr, some (n, []), st.pl⟩
    | _, _ => none
  | .mark _ .closed n => match st.f with
    | some (m, s) => if m = n ∧ st.fr.ks.isSome then some ⟨addF st.fr (n, ofL s), none, st.pl⟩ else none
    | none => none
  | .mark _ .begun n => match st.f, st.fr with
    | none, .top vals => if n ∈ vals.map (·.1) then none else some ⟨.beg vals n, none, st.pl⟩
    | _, _ => none
  | .mark _ .row n => match st.f, st.fr with
    | none, .beg vals m => if m = n then some ⟨.row vals m [] [], none, st.pl⟩ else none
    | none, .row vals m rs r => if m = n then some ⟨.row vals m (rs ++ [r]) [], none, st.pl⟩ else none
    | _, _ => none
  | .mark _ .ended n => match st.f, st.fr with
    | none, .beg vals m => if m = n then some ⟨.top (vals ++ [(m, .rws [])]), none, st.pl⟩ else none
    | none, .row vals m rs r => if m = n then some ⟨.top (vals ++ [(m, .rws (rs ++ [r]))]), none, st.pl⟩ else none
    | _, _ => none
def runO (cs : List Nat) : Sv → List Wst → Option Sv
  | st, [] => some st
  | st, x :: ls => match vstep cs st x with
    | some st' => runO cs st' ls
    | none => none
/-- every way from the step s' of W' is one of E, then one from the step s of W -/
def CompE (cs : List Nat) (W : Wk) (s : Nat) (W' : Wk) (s' : Nat) (E : Sv → List Sv) (st : Sv) : Prop :=
  (ways cs W' s' st.pl).map (runO cs st) = (E st).flatMap fun st' => (ways cs W s st'.pl).map (runO cs st')
theorem CompE.trans {cs : List Nat} {W W1 W2 : Wk} {s s1 s2 : Nat} {E1 E2 : Sv → List Sv} {st : Sv} (h2 : CompE cs W1 s1 W2 s2 E2 st) (h1 : ∀ st' ∈ E2 st, CompE cs W s W1 s1 E1 st') :
    CompE cs W s W2 s2 (fun st => (E2 st).flatMap E1) st := by
  unfold CompE at *
  rw [h2, List.flatMap_assoc]
  apply flatMap_congr'
  intro st' hs
  exact h1 st' hs
abbrev B := Wk × Nat
def okB (b : B) : Prop := WfW b.1 ∧ b.2 < b.1.length
def addB (x : Wst) (W : Wk) : B := (W ++ [x], W.length)
/-- one walk goes on from another -/
def Ext (W W' : Wk) : Prop := ∃ X, W' = W ++ X
theorem Ext.refl (W : Wk) : Ext W W := ⟨[], (List.append_nil _).symm⟩
theorem Ext.trans {W W1 W2 : Wk} (a : Ext W W1) (b : Ext W1 W2) : Ext W W2 := by
  obtain ⟨X, rfl⟩ := a
  obtain ⟨Y, rfl⟩ := b
  exact ⟨X ++ Y, List.append_assoc _ _ _⟩
theorem Ext.one (W : Wk) (x : Wst) : Ext W (W ++ [x]) := ⟨[x], rfl⟩
theorem Ext.ways {cs : List Nat} {W W' : Wk} (h : Ext W W') {s : Nat} (hs : s < W.length) : ways cs W' s = ways cs W s := by
  obtain ⟨X, rfl⟩ := h
  exact ways_ext hs
theorem Ext.le {W W' : Wk} (h : Ext W W') : W.length ≤ W'.length := by
  obtain ⟨X, rfl⟩ := h
  rw [List.length_append]; omega
theorem addB_ok {x : Wst} {W : Wk} (h : WfW W) (hx : ∀ n ∈ succs x, n < W.length) : okB (addB x W) := ⟨h.snoc hx, by show W.length < (W ++ [x]).length; rw [List.length_append]; exact Nat.lt_succ_self _⟩
theorem mapRun {cs : List Nat} {st st1 : Sv} {x : Wst} (h : vstep cs st x = some st1) (L : List (List Wst)) : (L.map (x :: ·)).map (runO cs st) = L.map (runO cs st1) := by
  rw [List.map_map]
  apply List.map_congr_left
  intro ls _
  show (match vstep cs st x with | some st' => runO cs st' ls | none => none) = _
  rw [h]
theorem comp_mark {cs : List Nat} {W : Wk} {a : Nat} {m : Mk1} {nm : Str} {st st1 : Sv} (h : vstep cs st (.mark a m nm) = some st1) (hp : st1.pl = st.pl) :
    (ways cs (addB (.mark a m nm) W).1 (addB (.mark a m nm) W).2 st.pl).map (runO cs st) = (ways cs W a st1.pl).map (runO cs st1) := by
  show (ways cs (W ++ [_]) W.length st.pl).map _ = _
  rw [ways_new]
  show ((getW (denW cs W) a st.pl).map _).map _ = _
  rw [mapRun h, hp]; rfl
theorem comp_choice {cs : List Nat} {W : Wk} {a b : Nat} {st : Sv} :
    (ways cs (addB (.choice a b) W).1 (addB (.choice a b) W).2 st.pl).map (runO cs st) = (ways cs W a st.pl).map (runO cs st) ++ (ways cs W b st.pl).map (runO cs st) := by
  show (ways cs (W ++ [_]) W.length st.pl).map _ = _
  rw [ways_new]
  show ((getW (denW cs W) a st.pl ++ getW (denW cs W) b st.pl).map _).map _ = _
  rw [mapRun (st1 := st) rfl, List.map_append]; rfl
theorem comp_sign {cs : List Nat} {W : Wk} {s : Str} {n : Nat} {t : Option Str} {st : Sv} : 
    (ways cs (addB (.sign s n t) W).1 (addB (.sign s n t) W).2 st.pl) = match cs[st.pl]? with
      | some c => if c ∈ s.cps.toList then (ways cs W n (st.pl + 1)).map (Wst.sign s n t :: ·) else []
      | none => [] := by
  show ways cs (W ++ [_]) W.length st.pl = _
  rw [ways_new]; rfl

/-! ## says -/
def tellB (t : List Nat) (b : B) : B := t.foldr (fun c b => addB (.sign ⟨#[c]⟩ b.2 none) b.1) b
theorem tellB_ok {t : List Nat} {b : B} (h : okB b) : okB (tellB t b) ∧ Ext b.1 (tellB t b).1 ∧ (tellB t b).1.length = b.1.length + t.length := by
  induction t with
  | nil => exact ⟨h, Ext.refl _, rfl⟩
  | cons c t ih =>
    obtain ⟨i1, i2, i3⟩ := ih
    refine ⟨addB_ok i1.1 fun n hn => ?_, i2.trans (Ext.one _ _), ?_⟩
    · have : n = (tellB t b).2 := List.mem_singleton.mp hn
      rw [this]; exact i1.2
    · show ((tellB t b).1 ++ [_]).length = _
      rw [List.length_append, i3, List.length_cons]; simp; omega
theorem sayE_nil (cs : List Nat) (a : Nat) : sayE cs [] a = [a] := by simp [sayE]
theorem sayE_cons (cs : List Nat) (c : Nat) (t : List Nat) (a : Nat) : sayE cs (c :: t) a = match cs[a]? with
    | some d => if d = c then sayE cs t (a + 1) else []
    | none => [] := by
  unfold sayE
  cases e : cs[a]? with
  | none =>
    have : cs.length ≤ a := List.getElem?_eq_none_iff.mp e
    rw [List.drop_eq_nil_of_le this, List.take_nil, if_neg (by simp)]
  | some d =>
    rw [drop_at e, List.length_cons, List.take_succ_cons]
    by_cases h : d = c
    · subst h
      show _ = if d = d then _ else _
      rw [if_pos rfl]
      by_cases h2 : List.take t.length (List.drop (a + 1) cs) = t
      · rw [if_pos h2, if_pos (by rw [h2])]; congr 1; omega
      · rw [if_neg h2, if_neg (by intro z; exact h2 (List.cons.inj z).2)]
    · show _ = if d = c then _ else _
      rw [if_neg h, if_neg (by intro z; exact h (List.cons.inj z).1)]
def atP (st : Sv) (e : Nat) : Sv := ⟨st.fr, st.f, e⟩
theorem tellB_comp {cs : List Nat} {b : B} : ∀ (t : List Nat) (st : Sv), CompE cs b.1 b.2 (tellB t b).1 (tellB t b).2 (fun st => (sayE cs t st.pl).map (atP st)) st
  | [], st => by
    unfold CompE
    dsimp only
    rw [sayE_nil]
    simp [tellB, atP]
  | c :: t, st => by
    have ih := tellB_comp (cs := cs) (b := b) t (atP st (st.pl + 1))
    unfold CompE at *
    have e : tellB (c :: t) b = addB (.sign ⟨#[c]⟩ (tellB t b).2 none) (tellB t b).1 := rfl
    dsimp only at ih ⊢
    rw [e, comp_sign, sayE_cons]
    cases hc : cs[st.pl]? with
    | none => rfl
    | some d =>
      by_cases h : d = c
      · subst h
        have hm : d ∈ (⟨#[d]⟩ : Str).cps.toList := by simp
        show List.map _ (if d ∈ (⟨#[d]⟩ : Str).cps.toList then _ else _) = List.flatMap _ (List.map _ (if d = d then _ else _))
        rw [if_pos hm, if_pos rfl, mapRun (st1 := atP st (st.pl + 1)) rfl]
        exact ih
      · have hm : d ∉ (⟨#[c]⟩ : Str).cps.toList := by simpa using h
        show List.map _ (if d ∈ (⟨#[c]⟩ : Str).cps.toList then _ else _) = List.flatMap _ (List.map _ (if d = c then _ else _))
        rw [if_neg hm, if_neg h]; rfl

/-! ## asks -/
def askStep (nm sg : Str) (lo hi stop : Nat) (h : B) (i : Nat) : B :=
  if lo < hi - i then addB (.choice stop (addB (.sign sg h.2 (some nm)) h.1).2) (addB (.sign sg h.2 (some nm)) h.1).1 else addB (.sign sg h.2 (some nm)) h.1
def askLoop (nm sg : Str) (lo hi : Nat) (b1 : B) (j : Nat) : B := (List.range j).foldl (askStep nm sg lo hi b1.2) b1
def askB (nm sg : Str) (lo hi : Nat) (b : B) : B :=
  addB (.mark (askLoop nm sg lo hi (addB (.mark b.2 .closed nm) b.1) hi).2 .opened nm) (askLoop nm sg lo hi (addB (.mark b.2 .closed nm) b.1) hi).1
theorem askLoop_succ (nm sg : Str) (lo hi : Nat) (b1 : B) (j : Nat) : askLoop nm sg lo hi b1 (j + 1) = askStep nm sg lo hi b1.2 (askLoop nm sg lo hi b1 j) j := by
  unfold askLoop; rw [List.range_succ, List.foldl_append]; rfl
theorem askStep_ok {nm sg : Str} {lo hi stop i : Nat} {h : B} (ok : okB h) (hs : stop < h.1.length) : okB (askStep nm sg lo hi stop h i) ∧ Ext h.1 (askStep nm sg lo hi stop h i).1 ∧ (askStep nm sg lo hi stop h i).1.length ≤ h.1.length + 2 := by
  have o1 : okB (addB (.sign sg h.2 (some nm)) h.1) := addB_ok ok.1 fun n hn => by
    have : n = h.2 := by simpa [succs] using hn
    rw [this]; exact ok.2
  have l1 : (addB (.sign sg h.2 (some nm)) h.1).1.length = h.1.length + 1 := by show (h.1 ++ [_]).length = _; rw [List.length_append]; rfl
  have e1 : Ext h.1 (addB (.sign sg h.2 (some nm)) h.1).1 := Ext.one _ _
  unfold askStep
  generalize addB (.sign sg h.2 (some nm)) h.1 = h1 at o1 l1 e1 ⊢
  split
  · refine ⟨addB_ok o1.1 fun n hn => ?_, e1.trans (Ext.one _ _), by show (h1.1 ++ [_]).length ≤ _; rw [List.length_append, l1]; exact Nat.le_refl _⟩
    have : n = stop ∨ n = h1.2 := by simpa [succs] using hn
    rcases this with e | e
    · rw [e]; omega
    · rw [e]; exact o1.2
  · exact ⟨o1, e1, by omega⟩
theorem askLoop_ok {nm sg : Str} {lo hi : Nat} {b1 : B} (ok : okB b1) : ∀ j, okB (askLoop nm sg lo hi b1 j) ∧ Ext b1.1 (askLoop nm sg lo hi b1 j).1 ∧ (askLoop nm sg lo hi b1 j).1.length ≤ b1.1.length + 2 * j
  | 0 => ⟨ok, Ext.refl _, Nat.le_refl _⟩
  | j + 1 => by
    obtain ⟨i1, i2, i3⟩ := askLoop_ok (nm := nm) (sg := sg) (lo := lo) (hi := hi) ok j
    rw [askLoop_succ]
    obtain ⟨s1, s2, s3⟩ := askStep_ok (nm := nm) (sg := sg) (lo := lo) (hi := hi) (i := j) i1 (Nat.lt_of_lt_of_le ok.2 i2.le)
    exact ⟨s1, i2.trans s2, by omega⟩
theorem askB_ok {nm sg : Str} {lo hi : Nat} {b : B} (ok : okB b) : okB (askB nm sg lo hi b) ∧ Ext b.1 (askB nm sg lo hi b).1 ∧ (askB nm sg lo hi b).1.length ≤ b.1.length + 2 * hi + 2 := by
  have o1 : okB (addB (.mark b.2 .closed nm) b.1) := addB_ok ok.1 fun n hn => by
    have : n = b.2 := by simpa [succs] using hn
    rw [this]; exact ok.2
  obtain ⟨i1, i2, i3⟩ := askLoop_ok (nm := nm) (sg := sg) (lo := lo) (hi := hi) o1 hi
  have l1 : (addB (.mark b.2 .closed nm) b.1).1.length = b.1.length + 1 := by show (b.1 ++ [_]).length = _; rw [List.length_append]; rfl
  refine ⟨addB_ok i1.1 fun n hn => ?_, (Ext.one _ _).trans (i2.trans (Ext.one _ _)), ?_⟩
  · have := List.mem_singleton.mp hn
    rw [this]; exact i1.2
  · show ((askLoop nm sg lo hi _ hi).1 ++ [_]).length ≤ _
    rw [List.length_append]
    rw [l1] at i3
    show _ + 1 ≤ _
    omega
def fldP (st : Sv) (nm : Str) (s : List Nat) (e : Nat) : Sv := ⟨st.fr, some (nm, s), e⟩
theorem askLoop_comp {cs : List Nat} {nm sg : Str} {lo hi : Nat} {b1 : B} (ok : okB b1) {fr : Fr} (hk : fr.ks.isSome) : ∀ (j : Nat), j ≤ hi → ∀ (s : List Nat) (a : Nat),
    (ways cs (askLoop nm sg lo hi b1 j).1 (askLoop nm sg lo hi b1 j).2 a).map (runO cs ⟨fr, some (nm, s), a⟩) =
      (askE cs sg.cps.toList j (lo - (hi - j)) a).flatMap fun e => (ways cs b1.1 b1.2 e).map (runO cs ⟨fr, some (nm, s ++ cut cs a e), e⟩)
  | 0, _, s, a => by
    show (ways cs b1.1 b1.2 a).map _ = _
    simp [askE, cut_self]
  | j + 1, hj, s, a => by
    obtain ⟨i1, i2, i3⟩ := askLoop_ok (nm := nm) (sg := sg) (lo := lo) (hi := hi) ok j
    have ih := askLoop_comp (cs := cs) (nm := nm) (sg := sg) (lo := lo) (hi := hi) ok hk j (by omega)
    rw [askLoop_succ]
    unfold askE
    generalize askLoop nm sg lo hi b1 j = h at i1 i2 i3 ih ⊢
    have sg1 : (ways cs (addB (.sign sg h.2 (some nm)) h.1).1 (addB (.sign sg h.2 (some nm)) h.1).2 a).map (runO cs ⟨fr, some (nm, s), a⟩) =
        (match cs[a]? with | some c => if c ∈ sg.cps.toList then askE cs sg.cps.toList j (lo - (hi - (j + 1)) - 1) (a + 1) else [] | none => []).flatMap fun e => (ways cs b1.1 b1.2 e).map (runO cs ⟨fr, some (nm, s ++ cut cs a e), e⟩) := by
      have e0 := comp_sign (cs := cs) (W := h.1) (s := sg) (n := h.2) (t := some nm) (st := ⟨fr, some (nm, s), a⟩)
      dsimp only at e0
      rw [e0]
      cases hc : cs[a]? with
      | none => rfl
      | some c =>
        show List.map _ (if c ∈ sg.cps.toList then _ else _) = List.flatMap _ (if c ∈ sg.cps.toList then _ else _)
        by_cases hm : c ∈ sg.cps.toList
        · have hv : vstep cs ⟨fr, some (nm, s), a⟩ (Wst.sign sg h.2 (some nm)) = some ⟨fr, some (nm, s ++ [c]), a + 1⟩ := by
            unfold vstep
            simp only [hc]
            rw [if_pos ⟨trivial, hk⟩]
          rw [if_pos hm, if_pos hm, mapRun hv, ih (s ++ [c]) (a + 1)]
          have el : lo - (hi - (j + 1)) - 1 = lo - (hi - j) := by omega
          rw [el]
          apply flatMap_congr'
          intro e he
          have hge := askE_ge he
          rw [cut_cons hc (by omega), List.append_assoc]; rfl
        · rw [if_neg hm, if_neg hm]; rfl
    unfold askStep
    have hl1 : (addB (.sign sg h.2 (some nm)) h.1).1 = h.1 ++ [.sign sg h.2 (some nm)] := rfl
    by_cases hlo : lo < hi - j
    · rw [if_pos hlo]
      have e0 := comp_choice (cs := cs) (W := (addB (.sign sg h.2 (some nm)) h.1).1) (a := b1.2) (b := (addB (.sign sg h.2 (some nm)) h.1).2) (st := ⟨fr, some (nm, s), a⟩)
      dsimp only at e0
      rw [e0, sg1, if_pos (show lo - (hi - (j + 1)) = 0 by omega), List.flatMap_append, hl1, ways_snoc (Nat.lt_of_lt_of_le ok.2 i2.le), i2.ways ok.2]
      simp [cut_self] <;> rfl
    · rw [if_neg hlo, sg1, if_neg (show ¬ lo - (hi - (j + 1)) = 0 by omega)]
      rfl

/-! ## pieces of a row -/
def p0B : P0 → B → B
  | .say t, b => tellB t.cps.toList b
  | .ask nm sg lo hi, b => askB nm sg lo.toNat hi.toNat b
def lineB (ps : List P0) (b : B) : B := ps.foldr p0B b
def preF (fr : Fr) (ns : List Str) : Prop := ∃ ks, fr.ks = some ks ∧ ∀ n ∈ ns, n ∉ ks
def addFs (fr : Fr) (r : Rw) : Fr := r.foldl addF fr
theorem addF_ks {fr : Fr} {q : Str × Str} {ks : List Str} (h : fr.ks = some ks) : (addF fr q).ks = some (ks ++ [q.1]) := by
  cases fr with
  | top vals => cases h; simp [addF, Fr.ks]
  | beg vals m => cases h
  | row vals m rs r => cases h; simp [addF, Fr.ks]
theorem addFs_ks {r : Rw} : ∀ {fr : Fr} {ks : List Str}, fr.ks = some ks → (addFs fr r).ks = some (ks ++ r.map (·.1)) := by
  induction r with
  | nil => intro fr ks h; simpa [addFs] using h
  | cons q r ih =>
    intro fr ks h
    show (addFs (addF fr q) r).ks = _
    rw [ih (addF_ks h)]; simp
theorem addFs_app (fr : Fr) (r r' : Rw) : addFs fr (r ++ r') = addFs (addFs fr r) r' := List.foldl_append
theorem askB_comp {cs : List Nat} {nm sg : Str} {lo hi : Nat} (hlh : lo ≤ hi) {b : B} (ok : okB b) {fr : Fr} {ks : List Str} (hk : fr.ks = some ks) (hn : nm ∉ ks) (a : Nat) :
    CompE cs b.1 b.2 (askB nm sg lo hi b).1 (askB nm sg lo hi b).2 (fun st => (askE cs sg.cps.toList hi lo st.pl).map fun e => ⟨addF st.fr (nm, ofL (cut cs st.pl e)), none, e⟩) ⟨fr, none, a⟩ := by
  have o1 : okB (addB (.mark b.2 .closed nm) b.1) := addB_ok ok.1 fun n hn => by
    have : n = b.2 := by simpa [succs] using hn
    rw [this]; exact ok.2
  unfold CompE askB
  have hv : vstep cs ⟨fr, none, a⟩ (.mark (askLoop nm sg lo hi (addB (.mark b.2 .closed nm) b.1) hi).2 .opened nm) = some ⟨fr, some (nm, []), a⟩ := by
    unfold vstep
    simp only [hk]
    rw [if_neg hn]
  have e0 := comp_mark (W := (askLoop nm sg lo hi (addB (.mark b.2 .closed nm) b.1) hi).1) hv rfl
  rw [e0]
  have hks : fr.ks.isSome := by rw [hk]; rfl
  have e1 := askLoop_comp (cs := cs) (nm := nm) (sg := sg) (lo := lo) (hi := hi) o1 hks hi (Nat.le_refl _) [] a
  dsimp only at e1 ⊢
  rw [e1, Nat.sub_self, Nat.sub_zero, List.flatMap_map]
  apply flatMap_congr'
  intro e he
  have hv2 : vstep cs ⟨fr, some (nm, [] ++ cut cs a e), e⟩ (.mark b.2 .closed nm) = some ⟨addF fr (nm, ofL (cut cs a e)), none, e⟩ := by
    unfold vstep
    dsimp only
    rw [if_pos ⟨rfl, hks⟩]; rfl
  exact comp_mark (W := b.1) hv2 rfl
def e0 (cs : List Nat) (p : P0) (st : Sv) : List Sv := (pieceR0 cs p st.pl).map fun x => ⟨addFs st.fr x.1, none, x.2⟩
theorem p0B_comp {cs : List Nat} {p : P0} (okp : ok0 p) {b : B} (ok : okB b) {fr : Fr} {ks : List Str} (hk : fr.ks = some ks) (hn : ∀ n ∈ nms0 [p], n ∉ ks) (a : Nat) :
    CompE cs b.1 b.2 (p0B p b).1 (p0B p b).2 (e0 cs p) ⟨fr, none, a⟩ := by
  cases p with
  | say t =>
    have := tellB_comp (cs := cs) (b := b) t.cps.toList ⟨fr, none, a⟩
    unfold CompE e0 pieceR0 at *
    dsimp only [p0B] at *
    rw [this, List.map_map]; rfl
  | ask nm sg lo hi =>
    obtain ⟨_, _, _, _, _, h0, h1, _⟩ := okp
    have := askB_comp (cs := cs) (nm := nm) (sg := sg) (lo := lo.toNat) (hi := hi.toNat) (by omega) ok hk (hn nm (by simp [nms0, nm0])) a
    unfold CompE e0 pieceR0 at *
    dsimp only [p0B] at *
    rw [this, List.map_map]; rfl
theorem p0B_ok {p : P0} (okp : ok0 p) {b : B} (ok : okB b) : okB (p0B p b) ∧ Ext b.1 (p0B p b).1 ∧ (p0B p b).1.length ≤ b.1.length + 12 := by
  cases p with
  | say t =>
    obtain ⟨i1, i2, i3⟩ := tellB_ok (t := t.cps.toList) ok
    refine ⟨i1, i2, ?_⟩
    have h12 : t.length ≤ 12 := okp.2.1
    have hl : t.cps.toList.length = t.length := Array.length_toList
    show (tellB t.cps.toList b).1.length ≤ _
    omega
  | ask nm sg lo hi =>
    obtain ⟨i1, i2, i3⟩ := askB_ok (nm := nm) (sg := sg) (lo := lo.toNat) (hi := hi.toNat) ok
    obtain ⟨_, _, _, _, _, h0, h1, h4⟩ := okp
    refine ⟨i1, i2, ?_⟩
    show (askB nm sg lo.toNat hi.toNat b).1.length ≤ _
    omega
theorem lineB_ok {b : B} (ok : okB b) : ∀ {ps : List P0}, (∀ p ∈ ps, ok0 p) → okB (lineB ps b) ∧ Ext b.1 (lineB ps b).1 ∧ (lineB ps b).1.length ≤ b.1.length + 12 * ps.length
  | [], _ => ⟨ok, Ext.refl _, Nat.le_refl _⟩
  | p :: ps, h => by
    obtain ⟨i1, i2, i3⟩ := lineB_ok ok (ps := ps) fun q hq => h q (List.mem_cons_of_mem _ hq)
    obtain ⟨j1, j2, j3⟩ := p0B_ok (h p List.mem_cons_self) i1
    refine ⟨j1, i2.trans j2, ?_⟩
    show (p0B p (lineB ps b)).1.length ≤ _
    rw [List.length_cons]; omega
theorem pieceR0_keys {cs : List Nat} {p : P0} {a : Nat} {x : Rw × Nat} (h : x ∈ pieceR0 cs p a) : x.1.map (·.1) = nms0 [p] := by
  cases p with
  | say t => obtain ⟨e, _, rfl⟩ := List.mem_map.mp h; rfl
  | ask nm sg lo hi => obtain ⟨e, _, rfl⟩ := List.mem_map.mp h; rfl
theorem nms0_cons (p : P0) (ps : List P0) : nms0 (p :: ps) = nms0 [p] ++ nms0 ps := by
  unfold nms0
  rw [show p :: ps = [p] ++ ps from rfl, List.filterMap_append]
theorem lineB_comp {cs : List Nat} {b : B} (ok : okB b) : ∀ {ps : List P0}, (∀ p ∈ ps, ok0 p) → (nms0 ps).Nodup → ∀ {fr : Fr} {ks : List Str}, fr.ks = some ks → (∀ n ∈ nms0 ps, n ∉ ks) → ∀ (a : Nat),
    CompE cs b.1 b.2 (lineB ps b).1 (lineB ps b).2 (fun st => (lineR cs ps st.pl).map fun x => ⟨addFs st.fr x.1, none, x.2⟩) ⟨fr, none, a⟩
  | [], _, _, fr, ks, hk, _, a => by
    unfold CompE lineR
    show (ways cs b.1 b.2 a).map _ = _
    simp [addFs]
  | p :: ps, hok, nd, fr, ks, hk, hn, a => by
    have hok' : ∀ q ∈ ps, ok0 q := fun q hq => hok q (List.mem_cons_of_mem _ hq)
    rw [nms0_cons] at nd hn
    obtain ⟨nd1, nd2, nd3⟩ := List.nodup_append.mp nd
    have i1 := (lineB_ok ok hok').1
    have h2 := p0B_comp (cs := cs) (hok p List.mem_cons_self) i1 hk (fun n h => hn n (List.mem_append_left _ h)) a
    have h1 := CompE.trans (E1 := fun st => (lineR cs ps st.pl).map fun x => ⟨addFs st.fr x.1, none, x.2⟩) h2 fun st' hs => by
      obtain ⟨x, hx, rfl⟩ := List.mem_map.mp hs
      have kx := pieceR0_keys hx
      refine lineB_comp ok hok' nd2 (addFs_ks hk) (fun n h z => ?_) x.2
      rcases List.mem_append.mp z with z | z
      · exact hn n (List.mem_append_right _ h) z
      · rw [kx] at z; exact nd3 n z n h rfl
    unfold CompE at h1 ⊢
    show (ways cs (p0B p (lineB ps b)).1 (p0B p (lineB ps b)).2 a).map _ = _
    dsimp only at h1 ⊢
    rw [h1]
    congr 1
    unfold e0
    rw [lineR, List.flatMap_map, List.map_flatMap]
    apply flatMap_congr'
    intro x _
    rw [List.map_map]
    apply List.map_congr_left
    intro y _
    show (⟨addFs (addFs fr x.1) y.1, none, y.2⟩ : Sv) = ⟨addFs fr (x.1 ++ y.1), none, y.2⟩
    rw [addFs_app]

/-! ## rows -/
def rowsStep (nm : Str) (ips : List P0) (gap : List Nat) (lo hi stop : Nat) (h : B) (i : Nat) : B :=
  let h1 := lineB ips h
  let h2 := addB (.mark h1.2 .row nm) h1.1
  let h3 := if i + 1 < hi then tellB gap h2 else h2
  if lo < hi - i then addB (.choice stop h3.2) h3.1 else h3
def rowsLoop (nm : Str) (ips : List P0) (gap : List Nat) (lo hi : Nat) (b1 : B) (j : Nat) : B := (List.range j).foldl (rowsStep nm ips gap lo hi b1.2) b1
def rowsB (nm : Str) (ips : List P0) (gap : List Nat) (lo hi : Nat) (b : B) : B :=
  addB (.mark (rowsLoop nm ips gap lo hi (addB (.mark b.2 .ended nm) b.1) hi).2 .begun nm) (rowsLoop nm ips gap lo hi (addB (.mark b.2 .ended nm) b.1) hi).1
theorem rowsLoop_succ (nm : Str) (ips : List P0) (gap : List Nat) (lo hi : Nat) (b1 : B) (j : Nat) : rowsLoop nm ips gap lo hi b1 (j + 1) = rowsStep nm ips gap lo hi b1.2 (rowsLoop nm ips gap lo hi b1 j) j := by
  unfold rowsLoop; rw [List.range_succ, List.foldl_append]; rfl
theorem mark_ok {a : Nat} {m : Mk1} {nm : Str} {W : Wk} (h : WfW W) (ha : a < W.length) : okB (addB (.mark a m nm) W) ∧ (addB (.mark a m nm) W).1.length = W.length + 1 :=
  ⟨addB_ok h fun n hn => by
    have := List.mem_singleton.mp hn
    rw [this]; exact ha, by show (W ++ [_]).length = _; rw [List.length_append]; rfl⟩
theorem rowsStep_ok {nm : Str} {ips : List P0} (hok : ∀ p ∈ ips, ok0 p) {gap : List Nat} {lo hi stop i : Nat} {h : B} (ok : okB h) (hs : stop < h.1.length) :
    okB (rowsStep nm ips gap lo hi stop h i) ∧ Ext h.1 (rowsStep nm ips gap lo hi stop h i).1 ∧ (rowsStep nm ips gap lo hi stop h i).1.length ≤ h.1.length + (12 * ips.length + gap.length + 2) := by
  obtain ⟨i1, i2, i3⟩ := lineB_ok ok hok
  obtain ⟨m1, m2⟩ := mark_ok (m := .row) (nm := nm) i1.1 i1.2
  have m3 : Ext h.1 (addB (.mark (lineB ips h).2 .row nm) (lineB ips h).1).1 := i2.trans (Ext.one _ _)
  unfold rowsStep
  dsimp only
  generalize addB (.mark (lineB ips h).2 .row nm) (lineB ips h).1 = h2 at m1 m2 m3 ⊢
  have g : okB (if i + 1 < hi then tellB gap h2 else h2) ∧ Ext h.1 (if i + 1 < hi then tellB gap h2 else h2).1 ∧ (if i + 1 < hi then tellB gap h2 else h2).1.length ≤ h2.1.length + gap.length := by
    split
    · obtain ⟨a1, a2, a3⟩ := tellB_ok (t := gap) m1
      exact ⟨a1, m3.trans a2, by omega⟩
    · exact ⟨m1, m3, by omega⟩
  obtain ⟨g1, g2, g3⟩ := g
  generalize (if i + 1 < hi then tellB gap h2 else h2) = h3 at g1 g2 g3 ⊢
  split
  · refine ⟨addB_ok g1.1 fun n hn => ?_, g2.trans (Ext.one _ _), by show (h3.1 ++ [_]).length ≤ _; rw [List.length_append]; show _ + 1 ≤ _; omega⟩
    have : n = stop ∨ n = h3.2 := by simpa [succs] using hn
    rcases this with e | e
    · have := g2.le; omega
    · rw [e]; exact g1.2
  · exact ⟨g1, g2, by omega⟩
theorem rowsLoop_ok {nm : Str} {ips : List P0} (hok : ∀ p ∈ ips, ok0 p) {gap : List Nat} {lo hi : Nat} {b1 : B} (ok : okB b1) :
    ∀ j, okB (rowsLoop nm ips gap lo hi b1 j) ∧ Ext b1.1 (rowsLoop nm ips gap lo hi b1 j).1 ∧ (rowsLoop nm ips gap lo hi b1 j).1.length ≤ b1.1.length + (12 * ips.length + gap.length + 2) * j
  | 0 => ⟨ok, Ext.refl _, Nat.le_refl _⟩
  | j + 1 => by
    obtain ⟨i1, i2, i3⟩ := rowsLoop_ok (nm := nm) hok (gap := gap) (lo := lo) (hi := hi) ok j
    rw [rowsLoop_succ]
    obtain ⟨s1, s2, s3⟩ := rowsStep_ok (nm := nm) hok (gap := gap) (lo := lo) (hi := hi) (i := j) i1 (Nat.lt_of_lt_of_le ok.2 i2.le)
    refine ⟨s1, i2.trans s2, ?_⟩
    rw [Nat.mul_succ]; omega
theorem rowsB_ok {nm : Str} {ips : List P0} (hok : ∀ p ∈ ips, ok0 p) {gap : List Nat} {lo hi : Nat} {b : B} (ok : okB b) :
    okB (rowsB nm ips gap lo hi b) ∧ Ext b.1 (rowsB nm ips gap lo hi b).1 ∧ (rowsB nm ips gap lo hi b).1.length ≤ b.1.length + (12 * ips.length + gap.length + 2) * hi + 2 := by
  obtain ⟨o1, l1⟩ := mark_ok (m := .ended) (nm := nm) ok.1 ok.2
  obtain ⟨i1, i2, i3⟩ := rowsLoop_ok (nm := nm) hok (gap := gap) (lo := lo) (hi := hi) o1 hi
  obtain ⟨m1, m2⟩ := mark_ok (m := .begun) (nm := nm) i1.1 i1.2
  exact ⟨m1, (Ext.one _ _).trans (i2.trans (Ext.one _ _)), by show (addB _ _).1.length ≤ _; omega⟩
/-- how many rows stand -/
def kFr (nm : Str) (k : Nat) : Fr → Prop
  | .top _ => False
  | .beg _ m => m = nm ∧ k = 0
  | .row _ m rs _ => m = nm ∧ k = rs.length + 1
def addRows (fr : Fr) (rs : List Rw) : Fr := rs.foldl addRow fr
def blank (fr : Fr) : Fr := addRow fr []
theorem addFs_blank {fr : Fr} {nm : Str} {k : Nat} (h : kFr nm k fr) (r : Rw) : addFs (blank fr) r = addRow fr r ∧ (blank fr).ks = some [] := by
  have aux : ∀ (r r0 : Rw) (vals : List (Str × Vl)) (m : Str) (rs : List Rw), addFs (.row vals m rs r0) r = .row vals m rs (r0 ++ r) := by
    intro r
    induction r with
    | nil => intro r0 vals m rs; simp [addFs]
    | cons q r ih => intro r0 vals m rs; show addFs (.row vals m rs (r0 ++ [q])) r = _; rw [ih]; simp
  cases fr with
  | top vals => exact h.elim
  | beg vals m => exact ⟨by show addFs (.row vals m [] []) r = _; rw [aux]; rfl, rfl⟩
  | row vals m rs r0 => exact ⟨by show addFs (.row vals m (rs ++ [r0]) []) r = _; rw [aux]; rfl, rfl⟩
theorem kFr_add {fr : Fr} {nm : Str} {k : Nat} (h : kFr nm k fr) (r : Rw) : kFr nm (k + 1) (addRow fr r) := by
  cases fr with
  | top vals => exact h.elim
  | beg vals m => exact ⟨h.1, by rw [h.2]; rfl⟩
  | row vals m rs r0 => exact ⟨h.1, by rw [h.2, List.length_append]; rfl⟩
theorem vstep_row {cs : List Nat} {fr : Fr} {nm : Str} {k : Nat} (h : kFr nm k fr) (a p : Nat) : vstep cs ⟨fr, none, a⟩ (.mark p .row nm) = some ⟨blank fr, none, a⟩ := by
  cases fr with
  | top vals => exact h.elim
  | beg vals m => unfold vstep; dsimp only; rw [if_pos h.1]; rfl
  | row vals m rs r0 => unfold vstep; dsimp only; rw [if_pos h.1]; rfl
theorem rowsLoop_comp {cs : List Nat} {nm : Str} {ips : List P0} (hok : ∀ p ∈ ips, ok0 p) (nd : (nms0 ips).Nodup) {gap : List Nat} {lo hi : Nat} {b1 : B} (ok : okB b1) : ∀ (j : Nat), j ≤ hi → ∀ (fr : Fr) (a : Nat), kFr nm (hi - j) fr →
    (ways cs (rowsLoop nm ips gap lo hi b1 j).1 (rowsLoop nm ips gap lo hi b1 j).2 a).map (runO cs ⟨fr, none, a⟩) =
      (rowsR cs ips gap lo j (hi - j) a).flatMap fun x => (ways cs b1.1 b1.2 x.2).map (runO cs ⟨addRows fr x.1, none, x.2⟩)
  | 0, _, fr, a, _ => by
    show (ways cs b1.1 b1.2 a).map _ = _
    simp [rowsR, addRows]
  | j + 1, hj, fr, a, hk => by
    obtain ⟨i1, i2, i3⟩ := rowsLoop_ok (nm := nm) hok (gap := gap) (lo := lo) (hi := hi) ok j
    have ih := rowsLoop_comp (cs := cs) (nm := nm) hok nd (gap := gap) (lo := lo) (hi := hi) ok j (by omega)
    rw [rowsLoop_succ]
    unfold rowsR
    generalize rowsLoop nm ips gap lo hi b1 j = h at i1 i2 i3 ih ⊢
    obtain ⟨l1, l2, l3⟩ := lineB_ok i1 hok
    obtain ⟨m1, m2⟩ := mark_ok (m := .row) (nm := nm) l1.1 l1.2
    have m3 : Ext h.1 (addB (.mark (lineB ips h).2 .row nm) (lineB ips h).1).1 := l2.trans (Ext.one _ _)
    -- one row, then the rest
    have row1 : ∀ b, (ways cs (addB (.mark (lineB ips h).2 .row nm) (lineB ips h).1).1 (addB (.mark (lineB ips h).2 .row nm) (lineB ips h).1).2 b).map (runO cs ⟨fr, none, b⟩) =
        ((lineR cs ips b).flatMap fun x => (rowsR cs ips gap lo j (hi - (j + 1) + 1) x.2).map fun y => ((x.1 :: y.1, y.2) : List Rw × Nat)).flatMap fun x => (ways cs b1.1 b1.2 x.2).map (runO cs ⟨addRows fr x.1, none, x.2⟩) := fun b => by
      have e1 := comp_mark (W := (lineB ips h).1) (vstep_row (cs := cs) hk b (lineB ips h).2) rfl
      dsimp only at e1
      rw [e1]
      have e2 := lineB_comp (cs := cs) i1 hok nd (addFs_blank hk []).2 (fun n _ z => by cases z) b
      unfold CompE at e2
      dsimp only at e2
      rw [e2, List.flatMap_map, List.flatMap_assoc]
      apply flatMap_congr'
      intro x hx
      dsimp only
      rw [(addFs_blank hk x.1).1]
      have hk' := kFr_add hk x.1
      have ej : hi - (j + 1) + 1 = hi - j := by omega
      rw [ej] at hk' ⊢
      rw [ih _ x.2 hk', List.flatMap_map]
      rfl
    unfold rowsStep
    dsimp only
    generalize addB (.mark (lineB ips h).2 .row nm) (lineB ips h).1 = h2 at m1 m2 m3 row1 ⊢
    have gap1 : (ways cs (if j + 1 < hi then tellB gap h2 else h2).1 (if j + 1 < hi then tellB gap h2 else h2).2 a).map (runO cs ⟨fr, none, a⟩) =
        ((sayE cs (if hi - (j + 1) = 0 then [] else gap) a).flatMap fun b => (lineR cs ips b).flatMap fun x => (rowsR cs ips gap lo j (hi - (j + 1) + 1) x.2).map fun y => ((x.1 :: y.1, y.2) : List Rw × Nat)).flatMap fun x => (ways cs b1.1 b1.2 x.2).map (runO cs ⟨addRows fr x.1, none, x.2⟩) := by
      by_cases hc : j + 1 < hi
      · rw [if_pos hc, if_neg (show ¬ hi - (j + 1) = 0 by omega)]
        have e1 := tellB_comp (cs := cs) (b := h2) gap ⟨fr, none, a⟩
        unfold CompE at e1
        dsimp only at e1
        rw [e1, List.flatMap_map, List.flatMap_assoc]
        apply flatMap_congr'
        intro b _
        exact row1 b
      · rw [if_neg hc, if_pos (show hi - (j + 1) = 0 by omega), sayE_nil, row1 a]
        simp
    have g : Ext h.1 (if j + 1 < hi then tellB gap h2 else h2).1 := by
      split
      · exact m3.trans (tellB_ok m1).2.1
      · exact m3
    generalize (if j + 1 < hi then tellB gap h2 else h2) = h3 at gap1 g ⊢
    by_cases hlo : lo < hi - j
    · rw [if_pos hlo, if_pos (show lo ≤ hi - (j + 1) by omega), List.flatMap_append, ← gap1]
      have e0 := comp_choice (cs := cs) (W := h3.1) (a := b1.2) (b := h3.2) (st := ⟨fr, none, a⟩)
      dsimp only at e0
      rw [e0, (i2.trans g).ways ok.2]
      simp [addRows]
    · rw [if_neg hlo, if_neg (show ¬ lo ≤ hi - (j + 1) by omega), gap1]
      rfl
theorem addRows_row : ∀ (rs : List Rw) (vals : List (Str × Vl)) (m : Str) (rs0 : List Rw) (r : Rw), ∃ rs1 r1, addRows (.row vals m rs0 r) rs = .row vals m rs1 r1 ∧ rs1 ++ [r1] = rs0 ++ [r] ++ rs
  | [], vals, m, rs0, r => ⟨rs0, r, rfl, by simp⟩
  | q :: rs, vals, m, rs0, r => by
    obtain ⟨rs1, r1, e1, e2⟩ := addRows_row rs vals m (rs0 ++ [r]) q
    exact ⟨rs1, r1, e1, by rw [e2]; simp⟩
theorem vstep_ended {cs : List Nat} {vals : List (Str × Vl)} {nm : Str} (rs : List Rw) (a p : Nat) : vstep cs ⟨addRows (.beg vals nm) rs, none, a⟩ (.mark p .ended nm) = some ⟨.top (vals ++ [(nm, .rws rs)]), none, a⟩ := by
  cases rs with
  | nil => unfold vstep; dsimp only [addRows, List.foldl]; rw [if_pos rfl]
  | cons r rs =>
    obtain ⟨rs1, r1, e1, e2⟩ := addRows_row rs vals nm [] r
    have e0 : addRows (.beg vals nm) (r :: rs) = addRows (.row vals nm [] r) rs := rfl
    rw [e0, e1]
    unfold vstep
    dsimp only
    rw [if_pos rfl, e2]
    simp
theorem rowsB_comp {cs : List Nat} {nm : Str} {ips : List P0} (hok : ∀ p ∈ ips, ok0 p) (nd : (nms0 ips).Nodup) {gap : List Nat} {lo hi : Nat} {b : B} (ok : okB b) {vals : List (Str × Vl)} (hn : nm ∉ vals.map (·.1)) (a : Nat) :
    CompE cs b.1 b.2 (rowsB nm ips gap lo hi b).1 (rowsB nm ips gap lo hi b).2 (fun st => (rowsR cs ips gap lo hi 0 st.pl).map fun x => ⟨.top (vals ++ [(nm, .rws x.1)]), none, x.2⟩) ⟨.top vals, none, a⟩ := by
  obtain ⟨o1, l1⟩ := mark_ok (m := .ended) (nm := nm) ok.1 ok.2
  unfold CompE rowsB
  have hv : vstep cs ⟨.top vals, none, a⟩ (.mark (rowsLoop nm ips gap lo hi (addB (.mark b.2 .ended nm) b.1) hi).2 .begun nm) = some ⟨.beg vals nm, none, a⟩ := by
    unfold vstep
    dsimp only
    rw [if_neg hn]
  have e0 := comp_mark (W := (rowsLoop nm ips gap lo hi (addB (.mark b.2 .ended nm) b.1) hi).1) hv rfl
  rw [e0]
  have e1 := rowsLoop_comp (cs := cs) (nm := nm) hok nd (gap := gap) (lo := lo) (hi := hi) o1 hi (Nat.le_refl _) (.beg vals nm) a ⟨rfl, Nat.sub_self _⟩
  dsimp only at e1 ⊢
  rw [e1, Nat.sub_self, List.flatMap_map]
  apply flatMap_congr'
  intro x _
  exact comp_mark (W := b.1) (vstep_ended x.1 x.2 b.2) rfl

/-! ## forms -/
def pcB : Pc → B → B
  | .p0 p, b => p0B p b
  | .rows nm ips gap lo hi, b => rowsB nm ips gap.cps.toList lo.toNat hi.toNat b
def chainB (ps : List Pc) (b : B) : B := ps.foldr pcB b
def formB (ps : List Pc) : B := chainB ps ([.fin], 0)
theorem addFs_top : ∀ (r : Rw) (vals : List (Str × Vl)), addFs (.top vals) r = .top (vals ++ r.map fun q => (q.1, Vl.tx q.2))
  | [], vals => by simp [addFs]
  | q :: r, vals => by
    show addFs (.top (vals ++ [(q.1, .tx q.2)])) r = _
    rw [addFs_top r]; simp
theorem pieceR_keys {cs : List Nat} {p : Pc} {a : Nat} {x : List (Str × Vl) × Nat} (h : x ∈ pieceR cs p a) : x.1.map (·.1) = nms [p] := by
  cases p with
  | p0 p =>
    obtain ⟨y, hy, rfl⟩ := List.mem_map.mp h
    have := pieceR0_keys hy
    dsimp only
    rw [List.map_map]
    show y.1.map (·.1) = _
    rw [this]
    cases p <;> rfl
  | rows nm ips gap lo hi => obtain ⟨y, _, rfl⟩ := List.mem_map.mp h; rfl
theorem nms_cons (p : Pc) (ps : List Pc) : nms (p :: ps) = nms [p] ++ nms ps := by
  unfold nms
  rw [show p :: ps = [p] ++ ps from rfl, List.filterMap_append]
theorem pcB_ok {p : Pc} (okp : okP p) {b : B} (ok : okB b) : okB (pcB p b) ∧ Ext b.1 (pcB p b).1 ∧ (pcB p b).1.length ≤ b.1.length + 131 := by
  cases p with
  | p0 p =>
    obtain ⟨h1, h2, h3⟩ := p0B_ok okp ok
    exact ⟨h1, h2, by show (p0B p b).1.length ≤ _; omega⟩
  | rows nm ips gap lo hi =>
    obtain ⟨_, _, n3, hok, _, g5, _, l0, lh, h3⟩ := okp
    obtain ⟨h1, h2, h4⟩ := rowsB_ok (nm := nm) hok (gap := gap.cps.toList) (lo := lo.toNat) (hi := hi.toNat) ok
    refine ⟨h1, h2, ?_⟩
    have hl : gap.cps.toList.length = gap.length := Array.length_toList
    show (rowsB nm ips gap.cps.toList lo.toNat hi.toNat b).1.length ≤ _
    have : (12 * ips.length + gap.cps.toList.length + 2) * hi.toNat ≤ 43 * 3 := Nat.mul_le_mul (by omega) (by omega)
    omega
theorem chainB_ok {b : B} (ok : okB b) : ∀ {ps : List Pc}, (∀ p ∈ ps, okP p) → okB (chainB ps b) ∧ Ext b.1 (chainB ps b).1 ∧ (chainB ps b).1.length ≤ b.1.length + 131 * ps.length
  | [], _ => ⟨ok, Ext.refl _, Nat.le_refl _⟩
  | p :: ps, h => by
    obtain ⟨i1, i2, i3⟩ := chainB_ok ok (ps := ps) fun q hq => h q (List.mem_cons_of_mem _ hq)
    obtain ⟨j1, j2, j3⟩ := pcB_ok (h p List.mem_cons_self) i1
    refine ⟨j1, i2.trans j2, ?_⟩
    show (pcB p (chainB ps b)).1.length ≤ _
    rw [List.length_cons]; omega
theorem fin_ok : okB ([.fin], 0) := ⟨fun i x h n hn => by
  cases i with
  | zero => cases h; cases hn
  | succ i => simp at h, by decide⟩
theorem pcB_comp {cs : List Nat} {p : Pc} (okp : okP p) {b : B} (ok : okB b) {vals : List (Str × Vl)} (hn : ∀ n ∈ nms [p], n ∉ vals.map (·.1)) (a : Nat) :
    CompE cs b.1 b.2 (pcB p b).1 (pcB p b).2 (fun st => (pieceR cs p st.pl).map fun x => ⟨.top (vals ++ x.1), none, x.2⟩) ⟨.top vals, none, a⟩ := by
  cases p with
  | p0 p =>
    have h2 := p0B_comp (cs := cs) okp ok (fr := .top vals) rfl (fun n h => hn n (by cases p <;> exact h)) a
    unfold CompE at h2 ⊢
    show (ways cs (p0B p b).1 (p0B p b).2 a).map _ = _
    dsimp only at h2 ⊢
    rw [h2]
    congr 1
    unfold e0 pieceR
    rw [List.map_map]
    apply List.map_congr_left
    intro x _
    show (⟨addFs (.top vals) x.1, none, x.2⟩ : Sv) = _
    rw [addFs_top]; rfl
  | rows nm ips gap lo hi =>
    obtain ⟨_, _, n3, hok, nd, _⟩ := okp
    have h2 := rowsB_comp (cs := cs) (nm := nm) hok nd (gap := gap.cps.toList) (lo := lo.toNat) (hi := hi.toNat) ok (vals := vals) (hn nm (by simp [nms, nmP])) a
    unfold CompE at h2 ⊢
    show (ways cs (rowsB nm ips gap.cps.toList lo.toNat hi.toNat b).1 (rowsB nm ips gap.cps.toList lo.toNat hi.toNat b).2 a).map _ = _
    dsimp only at h2 ⊢
    rw [h2]
    congr 1
    unfold pieceR
    rw [List.map_map]
    rfl
theorem chainB_comp {cs : List Nat} {b : B} (ok : okB b) : ∀ {ps : List Pc}, (∀ p ∈ ps, okP p) → (nms ps).Nodup → ∀ {vals : List (Str × Vl)}, (∀ n ∈ nms ps, n ∉ vals.map (·.1)) → ∀ (a : Nat),
    CompE cs b.1 b.2 (chainB ps b).1 (chainB ps b).2 (fun st => (formR cs ps st.pl).map fun x => ⟨.top (vals ++ x.1), none, x.2⟩) ⟨.top vals, none, a⟩
  | [], _, _, vals, _, a => by
    unfold CompE formR
    show (ways cs b.1 b.2 a).map _ = _
    simp
  | p :: ps, hok, nd, vals, hn, a => by
    have hok' : ∀ q ∈ ps, okP q := fun q hq => hok q (List.mem_cons_of_mem _ hq)
    rw [nms_cons] at nd hn
    obtain ⟨nd1, nd2, nd3⟩ := List.nodup_append.mp nd
    have i1 := (chainB_ok ok hok').1
    have h2 := pcB_comp (cs := cs) (hok p List.mem_cons_self) i1 (vals := vals) (fun n h => hn n (List.mem_append_left _ h)) a
    unfold CompE at h2 ⊢
    show (ways cs (pcB p (chainB ps b)).1 (pcB p (chainB ps b)).2 a).map _ = _
    dsimp only at h2 ⊢
    rw [h2, formR, List.flatMap_map, List.map_flatMap, List.flatMap_assoc]
    apply flatMap_congr'
    intro x hx
    have kx := pieceR_keys hx
    have h1 := chainB_comp (cs := cs) ok hok' nd2 (vals := vals ++ x.1) (fun n h z => by
      rw [List.map_append] at z
      rcases List.mem_append.mp z with z | z
      · exact hn n (List.mem_append_right _ h) z
      · rw [kx] at z; exact nd3 n z n h rfl) x.2
    unfold CompE at h1
    dsimp only at h1 ⊢
    rw [h1, List.map_map, List.flatMap_map, List.flatMap_map]
    apply flatMap_congr'
    intro y _
    show List.map (runO cs ⟨.top (vals ++ x.1 ++ y.1), none, y.2⟩) _ = List.map (runO cs ⟨.top (vals ++ (x.1 ++ y.1)), none, y.2⟩) _
    rw [List.append_assoc]
    rfl
/-- the ways of a form tell its readings -/
theorem form_ways {cs : List Nat} {ps : List Pc} (ok : okF ps) : (ways cs (formB ps).1 (formB ps).2 0).map (runO cs ⟨.top [], none, 0⟩) = (readsP ps cs).map fun vals => some ⟨.top vals, none, cs.length⟩ := by
  have h := chainB_comp (cs := cs) fin_ok ok.ok ok.nd (vals := []) (fun n _ z => by cases z) 0
  unfold CompE at h
  show (ways cs (chainB ps ([.fin], 0)).1 (chainB ps ([.fin], 0)).2 0).map _ = _
  dsimp only at h
  rw [h]
  unfold readsP
  rw [List.flatMap_map, List.map_map]
  have h0 : ∀ a, ways cs [Wst.fin] 0 a = if a = cs.length then [[.fin]] else [] := fun a => rfl
  generalize formR cs ps 0 = L
  induction L with
  | nil => rfl
  | cons x L ih =>
    rw [List.flatMap_cons, ih, List.filter_cons]
    dsimp only
    rw [h0]
    by_cases e : x.2 = cs.length
    · rw [if_pos e, if_pos (by simpa using e)]
      simp [runO, vstep, e]
    · rw [if_neg e, if_neg (by simpa using e)]
      rfl
theorem formB_ok {ps : List Pc} (ok : okF ps) : okB (formB ps) ∧ (formB ps).1.length ≤ 800 := by
  obtain ⟨h1, h2, h3⟩ := chainB_ok fin_ok ok.ok
  refine ⟨h1, ?_⟩
  have := ok.l6
  show (chainB ps ([.fin], 0)).1.length ≤ 800
  have e : ([Wst.fin] : Wk).length = 1 := rfl
  dsimp only at h3
  rw [e] at h3
  omega
end Lf

/-! # LfWk -/
set_option Elab.async false
set_option linter.all false
set_option maxRecDepth 100000
set_option maxHeartbeats 4000000
namespace Lf
open PySem L2
/-! ## how a walk lies in the heap -/
def mkS : Mk1 → Str
  | .opened => "opened"
  | .closed => "closed"
  | .begun => "begun"
  | .ended => "ended"
  | .row => "row"
def Wst.vs : Wst → List V
  | .fin => [.str "end"]
  | .sign s n _ => [.str "sign", .str s, .int (n : Nat)]
  | .choice a b => [.str "choice", .int (a : Nat), .int (b : Nat)]
  | .mark a _ _ => [.str "mark", .int (a : Nat)]
def Wst.tl : Wst → Option (List V)
  | .fin => none
  | .sign _ _ none => none
  | .sign _ _ (some n) => some [.str "sign", .str n]
  | .choice _ _ => none
  | .mark _ m n => some [.str (mkS m), .str n]
def StR (K : PySem.W.Frag) (G : Hp) (v : V) (x : Wst) : Prop := ∃ a, v = .ref a ∧ SqT K G a x.vs
def TlR (K : PySem.W.Frag) (G : Hp) (v : V) (x : Wst) : Prop := match x.tl with
  | none => v = .non
  | some ys => ∃ a, v = .ref a ∧ SqT K G a ys
theorem StR.mono {K : PySem.W.Frag} {G G' : Hp} {v : V} {x : Wst} (h : StR K G v x) (s : Same G G') : StR K G' v x := by
  obtain ⟨a, e, q⟩ := h; exact ⟨a, e, s.tup q⟩
theorem TlR.mono {K : PySem.W.Frag} {G G' : Hp} {v : V} {x : Wst} (h : TlR K G v x) (s : Same G G') : TlR K G' v x := by
  unfold TlR at *
  cases e : x.tl with
  | none => rw [e] at h; exact h
  | some ys => rw [e] at h; obtain ⟨a, e2, q⟩ := h; exact ⟨a, e2, s.tup q⟩
/-- the world: G what is told, l what is one's own -/
structure Wm (l : List Addr) (G H G' H' : Hp) : Prop where
  gg : Same G G'
  gh : Same G' H'
  hh : ∀ b o, b ∉ l → H b = some o → H' b = some o
  nw : ∀ b o, H b = some o → G b = none → G' b = none
  pr : ∀ b, H b ≠ none → H' b ≠ none
theorem Wm.refl {l : List Addr} {G H : Hp} (s : Same G H) : Wm l G H G H := ⟨Same.refl _, s, fun _ _ _ e => e, fun _ _ _ e => e, fun _ e => e⟩
theorem Wm.trans {l : List Addr} {G H G1 H1 G2 H2 : Hp} (a : Wm l G H G1 H1) (b : Wm l G1 H1 G2 H2) : Wm l G H G2 H2 :=
  ⟨a.gg.trans b.gg, b.gh, fun c o n e => b.hh c o n (a.hh c o n e), fun c o e n => by
    cases q : H1 c with
    | none => exact absurd q (a.pr c (by rw [e]; simp))
    | some o1 => exact b.nw c o1 q (a.nw c o e n), fun c e => b.pr c (a.pr c e)⟩
theorem Wm.new {l : List Addr} {G H G1 H1 : Hp} {p : Addr} {o : HO} (a : Wm l G H G1 H1) (h : H1 p = none) : Wm l G H (upd G1 p o) (upd H1 p o) := by
  have gp : G1 p = none := Same.free a.gh h
  have np : ∀ b, H b ≠ none → b ≠ p := fun b e z => a.pr b e (by rw [z]; exact h)
  refine ⟨a.gg.trans (Same.new gp), fun b u e => ?_, fun b u n e => ?_, fun b u e1 e2 => ?_, fun b e => ?_⟩
  · by_cases hb : b = p
    · subst hb; rw [upd_same] at e ⊢; exact e
    · rw [upd_ne hb] at e ⊢; exact a.gh _ _ e
  · rw [upd_ne (np b (by rw [e]; simp))]; exact a.hh b u n e
  · rw [upd_ne (np b (by rw [e1]; simp))]; exact a.nw b u e1 e2
  · rw [upd_ne (np b e)]; exact a.pr b e
theorem Wm.mut {l : List Addr} {G H G1 H1 : Hp} {p : Addr} {o : HO} (a : Wm l G H G1 H1) (hp : p ∈ l) (g : G1 p = none) : Wm l G H G1 (upd H1 p o) := by
  refine ⟨a.gg, a.gh.mut g, fun b u n e => ?_, a.nw, fun b e => ?_⟩
  · rw [upd_ne (fun z => n (by rw [z]; exact hp))]; exact a.hh b u n e
  · by_cases hb : b = p
    · subst hb; rw [upd_same]; simp
    · rw [upd_ne hb]; exact a.pr b e
theorem Wd.wm {l : List Addr} {G H G' H' : Hp} (a : Wd G H G' H') : Wm l G H G' H' := ⟨a.gg, a.gh, fun b o _ e => a.hh b o e, a.nw, fun b e => by
  cases q : H b with
  | none => exact absurd q e
  | some o => rw [a.hh b o q]; simp⟩
structure CW (K : PySem.W.Frag) (C : Addr) : Prop where
  cl : Cls K C
  ns : NoAttr K C "steps"
  nt : NoAttr K C "told"
  nf : NoAttr K C "first"
def F0 (s t : Addr) : List (Str × V) := putF "told" (.ref t) (putF "steps" (.ref s) [])
structure WH (K : PySem.W.Frag) (C : Addr) (G H : Hp) (x s t : Addr) (W : Wk) : Prop where
  hx : ∃ dx, H x = some (.ins C dx (F0 s t))
  hs : ∃ xs, H s = some (.lst xs) ∧ Paired (StR K G) xs W
  ht : ∃ ys, H t = some (.lst ys) ∧ Paired (TlR K G) ys W
  gs : G s = none
  gt : G t = none
  st : s ≠ t
theorem WH.mono {K : PySem.W.Frag} {C : Addr} {G H G' H' : Hp} {x s t : Addr} {W : Wk} (h : WH K C G H x s t W) (w : Wd G H G' H') : WH K C G' H' x s t W := by
  obtain ⟨⟨dx, hx⟩, ⟨xs, hs, ps⟩, ⟨ys, ht, pt⟩, gs, gt, st⟩ := h
  exact ⟨⟨dx, w.hh _ _ hx⟩, ⟨xs, w.hh _ _ hs, Paired.monoP ps fun _ _ z => z.mono w.gg⟩, ⟨ys, w.hh _ _ ht, Paired.monoP pt fun _ _ z => z.mono w.gg⟩, w.nw _ _ hs gs, w.nw _ _ ht gt, st⟩
/-- a walk, made -/
def WalkAt (K : PySem.W.Frag) (C : Addr) (H : Hp) (x : Addr) (b : B) : Prop := ∃ dx s t xs ys, H x = some (.ins C dx (putF "first" (.int (b.2 : Nat)) (F0 s t))) ∧ H s = some (.lst xs) ∧ H t = some (.lst ys) ∧ Paired (StR K H) xs b.1 ∧ Paired (TlR K H) ys b.1
theorem WalkAt.mono {K : PySem.W.Frag} {C : Addr} {H H' : Hp} {x : Addr} {b : B} (h : WalkAt K C H x b) (k : Same H H') : WalkAt K C H' x b := by
  obtain ⟨dx, s, t, xs, ys, h1, h2, h3, h4, h5⟩ := h
  exact ⟨dx, s, t, xs, ys, k _ _ h1, k _ _ h2, k _ _ h3, Paired.monoP h4 fun _ _ z => z.mono k, Paired.monoP h5 fun _ _ z => z.mono k⟩
section
variable (K : PySem.W.Frag) (C : Addr)
def sp_Walk_step : Sp := fun vs H Q _ => ∃ (x s t : Addr) (W : Wk) (sv tv : V) (a : Wst) (G : Hp), vs = [.ref x, sv, tv] ∧ Same G H ∧ WH K C G H x s t W ∧ StR K G sv a ∧ TlR K G tv a ∧ W.length ≤ 5000 ∧
  ∀ H', Wm [s, t] G H G H' → WH K C G H' x s t (W ++ [a]) → Q (.int (W.length : Nat)) H'
def sp_Walk_say : Sp := fun vs H Q _ => ∃ (x s t : Addr) (b : B) (tx : Str) (G : Hp), vs = [.ref x, .str tx, .int (b.2 : Nat)] ∧ Same G H ∧ WH K C G H x s t b.1 ∧ okB b ∧ b.1.length + tx.length ≤ 4000 ∧
  ∀ G' H', Wm [s, t] G H G' H' → WH K C G' H' x s t (tellB tx.cps.toList b).1 → Q (.int ((tellB tx.cps.toList b).2 : Nat)) H'
def sp_Walk_ask : Sp := fun vs H Q _ => ∃ (x s t p : Addr) (b : B) (nm sg : Str) (lo hi : Int) (G : Hp), vs = [.ref x, .ref p, .int (b.2 : Nat)] ∧ Same G H ∧ SqT K G p (P0.ask nm sg lo hi).vs ∧ WH K C G H x s t b.1 ∧ okB b ∧ b.1.length ≤ 3000 ∧ ok0 (.ask nm sg lo hi) ∧
  ∀ G' H', Wm [s, t] G H G' H' → WH K C G' H' x s t (askB nm sg lo.toNat hi.toNat b).1 → Q (.int ((askB nm sg lo.toNat hi.toNat b).2 : Nat)) H'
def sp_Walk_chain0 : Sp := fun vs H Q _ => ∃ (x s t l : Addr) (items : List V) (b : B) (ips : List P0) (G : Hp), vs = [.ref x, .ref l, .int (b.2 : Nat)] ∧ Same G H ∧ SqL K G l items ∧ Paired (R0 K G) items ips ∧ WH K C G H x s t b.1 ∧ okB b ∧ b.1.length ≤ 2500 ∧ (∀ p ∈ ips, ok0 p) ∧ ips.length ≤ 3 ∧
  ∀ G' H', Wm [s, t] G H G' H' → WH K C G' H' x s t (lineB ips b).1 → Q (.int ((lineB ips b).2 : Nat)) H'
def sp_Walk_rows : Sp := fun vs H Q _ => ∃ (x s t p : Addr) (b : B) (nm : Str) (ips : List P0) (gap : Str) (lo hi : Int) (G : Hp), vs = [.ref x, .ref p, .int (b.2 : Nat)] ∧ Same G H ∧ RP K G (.ref p) (.rows nm ips gap lo hi) ∧ WH K C G H x s t b.1 ∧ okB b ∧ b.1.length ≤ 2000 ∧ okP (.rows nm ips gap lo hi) ∧
  ∀ G' H', Wm [s, t] G H G' H' → WH K C G' H' x s t (rowsB nm ips gap.cps.toList lo.toNat hi.toNat b).1 → Q (.int ((rowsB nm ips gap.cps.toList lo.toNat hi.toNat b).2 : Nat)) H'
def sp_Walk_chain : Sp := fun vs H Q _ => ∃ (x s t l : Addr) (items : List V) (b : B) (ps : List Pc) (G : Hp), vs = [.ref x, .ref l, .int (b.2 : Nat)] ∧ Same G H ∧ SqL K G l items ∧ Paired (RP K G) items ps ∧ WH K C G H x s t b.1 ∧ okB b ∧ b.1.length ≤ 1000 ∧ (∀ p ∈ ps, okP p) ∧ ps.length ≤ 6 ∧
  ∀ G' H', Wm [s, t] G H G' H' → WH K C G' H' x s t (chainB ps b).1 → Q (.int ((chainB ps b).2 : Nat)) H'
def sp_Walk___init__ : Sp := fun vs H Q _ => ∃ (x dx f : Addr) (ps : List Pc) (H0 : Hp), vs = [.ref x, .ref f] ∧ H0 x = none ∧ H0 dx = none ∧ dx ≠ x ∧ H = upd (upd H0 dx (.own x)) x (.ins C dx []) ∧ FormAt K H0 f ps ∧ okF ps ∧
  ∀ H', Keep H0 H' → WalkAt K C H' x (formB ps) → Q .non H'
end
theorem lt_line {n : Nat} (h : n ≤ 100000) : n < sizeLine := by rw [sizeLine_eq]; omega
theorem iteDec {A : Prop} {p : Prop} [Decidable p] {B : Prop} (h1 : p → A) (h2 : ¬ p → B) : if decide p = true then A else B := by
  by_cases h : p
  · rw [decide_eq_true h, if_pos rfl]; exact h1 h
  · rw [decide_eq_false h, if_neg (by decide)]; exact h2 h
/-- a loop over a range with a step -/
theorem for_rangeC {lo c : Int} {n : Nat} {g : TG} {tb : TS} {D : Ends} {σ : L2.St} {H : Hp} (Pv : Nat → L2.St → Hp → Prop) (h0 : Pv 0 σ H)
    (hs : ∀ (i : Nat) (σ : L2.St) (H : Hp), i < n → Pv i σ H → g (.int (lo + (i : Nat) * c)) σ H fun σ2 H2 => tb { D with nx := Pv (i + 1), ct := Pv (i + 1), bk := D.nx } σ2 H2) (hd : ∀ σ H, Pv n σ H → D.nx σ H) :
    ∃ W : Nat → Nat → L2.St → Hp → Prop, (∃ m, W 0 m σ H) ∧ ∀ i m σ H, W i m σ H →
      ((Itc lo c n).stop i H ∧ D.nx σ H) ∨ ((Itc lo c n).go i H ∧ ∃ N : L2.St → Hp → Prop, (∀ σ' H', N σ' H' → ∃ m', m' < m ∧ W (i + 1) m' σ' H') ∧ ∀ v H', (Itc lo c n).yld i H v H' → g v σ H' fun σ2 H2 => tb { D with nx := N, ct := N, bk := D.nx } σ2 H2) := by
  refine ⟨fun i m σ H => m = n - i ∧ i ≤ n ∧ Pv i σ H, ⟨n, rfl, Nat.zero_le _, h0⟩, ?_⟩
  rintro i m σ H ⟨rfl, hi, p⟩
  by_cases hlt : i < n
  · refine .inr ⟨hlt, Pv (i + 1), fun σ' H' p' => ⟨n - (i + 1), by omega, rfl, hlt, p'⟩, fun v H' y => ?_⟩
    obtain ⟨rfl, rfl⟩ := y
    exact hs i _ _ hlt p
  · have e : i = n := by omega
    subst e
    exact .inl ⟨Nat.le_refl _, hd _ _ p⟩
end Lf

/-! # LfSrch -/
set_option Elab.async false
set_option linter.all false
set_option maxRecDepth 100000
set_option maxHeartbeats 4000000
namespace Lf
open PySem L2
/-! ## places of a text -/
def kI (a : Nat) : Key := Sum.inl (a : Int)
theorem kI_inj {a b : Nat} (h : kI a = kI b) : a = b := by
  have := Sum.inl.inj h
  omega
theorem valV_mem (k : Key) : ∀ kvs : List (Key × V), (valV kvs k).isSome = true ↔ k ∈ kvs.map (·.1)
  | [] => by simp [valV_nil]
  | p :: r => by
    rw [List.map_cons, List.mem_cons]
    by_cases e : p.1 = k
    · rw [valV_pos e]; simp [e]
    · rw [valV_neg e, valV_mem k r]
      exact ⟨.inr, fun h => h.resolve_left fun z => e z.symm⟩
theorem putK_keys (kvs : List (Key × V)) (k : Key) (v : V) : (putK kvs k v).map (·.1) = if (valV kvs k).isSome = true then kvs.map (·.1) else kvs.map (·.1) ++ [k] := by
  unfold putK
  rw [valV_any]
  split
  · rw [List.map_map]
    apply List.map_congr_left
    intro p _
    show (if p.1 = k then (p.1, v) else p).1 = p.1
    split <;> rfl
  · rw [List.map_append]; rfl
theorem nodup_len {α : Type} [DecidableEq α] : ∀ {l m : List α}, l.Nodup → (∀ x ∈ l, x ∈ m) → l.length ≤ m.length
  | [], m, _, _ => Nat.zero_le _
  | x :: l, m, nd, h => by
    obtain ⟨n1, n2⟩ := List.nodup_cons.mp nd
    have hx := h x List.mem_cons_self
    have := nodup_len (l := l) (m := m.erase x) n2 fun y hy => (List.mem_erase_of_ne (fun z => n1 (by rw [← z]; exact hy))).mpr (h y (List.mem_cons_of_mem _ hy))
    rw [List.length_erase_of_mem hx] at this
    have : 0 < m.length := List.length_pos_of_mem hx
    rw [List.length_cons]; omega
structure PL (P : Nat → Prop) (n : Nat) (kvs : List (Key × V)) : Prop where
  nd : (kvs.map (·.1)).Nodup
  rg : ∀ k ∈ kvs.map (·.1), ∃ a : Nat, a ≤ n ∧ k = kI a
  iff : ∀ a : Nat, (valV kvs (kI a)).isSome = true ↔ P a
theorem PL.nil (n : Nat) : PL (fun _ => False) n [] := ⟨List.nodup_nil, fun k h => (by cases h), fun a => by simp [valV_nil]⟩
theorem PL.congr {P P' : Nat → Prop} {n : Nat} {kvs : List (Key × V)} (h : PL P n kvs) (e : ∀ a, P a ↔ P' a) : PL P' n kvs := ⟨h.nd, h.rg, fun a => (h.iff a).trans (e a)⟩
theorem PL.put {P : Nat → Prop} {n : Nat} {kvs : List (Key × V)} (h : PL P n kvs) {a : Nat} (ha : a ≤ n) (v : V) : PL (fun b => b = a ∨ P b) n (putK kvs (kI a) v) := by
  refine ⟨?_, ?_, fun b => ?_⟩
  · rw [putK_keys]
    split
    · exact h.nd
    · next hn =>
      rw [valV_mem] at hn
      rw [List.nodup_append]
      refine ⟨h.nd, by simp, fun x hx y hy e => ?_⟩
      have : y = kI a := by simpa using hy
      subst this; subst e; exact hn hx
  · rw [putK_keys]
    split
    · exact h.rg
    · intro k hk
      rcases List.mem_append.mp hk with hk | hk
      · exact h.rg k hk
      · exact ⟨a, ha, by simpa using hk⟩
  · rw [valV_put]
    by_cases e : b = a
    · rw [if_pos (by rw [e])]; simp [e]
    · rw [if_neg fun z => e (kI_inj z), h.iff]
      exact ⟨.inr, fun z => z.resolve_left e⟩
theorem PL.len {P : Nat → Prop} {n : Nat} {kvs : List (Key × V)} (h : PL P n kvs) : kvs.length ≤ n + 1 := by
  have := nodup_len (m := (List.range (n + 1)).map kI) h.nd fun k hk => by
    obtain ⟨a, ha, e⟩ := h.rg k hk
    rw [e]
    exact List.mem_map.mpr ⟨a, List.mem_range.mpr (by omega), rfl⟩
  rw [List.length_map, List.length_map, List.length_range] at this
  exact this
theorem PL.mrg {n : Nat} : ∀ {more : List (Key × V)} {P : Nat → Prop} {kvs : List (Key × V)}, PL P n kvs → (∀ k ∈ more.map (·.1), ∃ a : Nat, a ≤ n ∧ k = kI a) → PL (fun a => P a ∨ (valV more (kI a)).isSome = true) n (Lf.mrg kvs more)
  | [], P, kvs, h, _ => h.congr fun a => by simp [valV_nil]
  | p :: more, P, kvs, h, hr => by
    obtain ⟨a, ha, e⟩ := hr p.1 (by simp)
    have h1 := h.put ha p.2
    rw [← e] at h1
    have ih := PL.mrg (more := more) h1 fun k hk => hr k (by rw [List.map_cons]; exact List.mem_cons_of_mem _ hk)
    show PL _ n (Lf.mrg (putK kvs p.1 p.2) more)
    refine ih.congr fun b => ?_
    by_cases eb : b = a
    · have : p.1 = kI b := by rw [e, eb]
      rw [valV_pos this]; simp [eb]
    · rw [valV_neg (show ¬ p.1 = kI b from fun z => eb (kI_inj (by rw [← z, e])))]
      constructor
      · rintro ((z | z) | z)
        · exact absurd z eb
        · exact .inl z
        · exact .inr z
      · rintro (z | z)
        · exact .inl (.inr z)
        · exact .inr z
/-! ## the search -/
structure En where
  s : Nat
  a : Nat
  pre : List Nat
def wOf (W : Wk) (pre : List Nat) : List Wst := pre.map fun i => W.getD i .fin
theorem wOf_snoc {W : Wk} {pre : List Nat} {i : Nat} {x : Wst} (h : W[i]? = some x) : wOf W (pre ++ [i]) = wOf W pre ++ [x] := by
  unfold wOf
  rw [List.map_append]
  congr 1
  show [W.getD i .fin] = [x]
  rw [List.getD_eq_getElem?_getD, h]; rfl
def expE (cs : List Nat) (W : Wk) (e : En) : List (List Wst) := (ways cs W e.s e.a).map (wOf W e.pre ++ ·)
def expAll (cs : List Nat) (W : Wk) (left : List En) : List (List Wst) := left.reverse.flatMap (expE cs W)
def wgt (cs : List Nat) (W : Wk) (e : En) : Nat := ((ways cs W e.s e.a).map List.length).sum
def wgtAll (cs : List Nat) (W : Wk) (left : List En) : Nat := (left.map (wgt cs W)).sum
theorem expAll_snoc (cs : List Nat) (W : Wk) (left : List En) (e : En) : expAll cs W (left ++ [e]) = expE cs W e ++ expAll cs W left := by
  unfold expAll
  rw [List.reverse_append, List.flatMap_append]
  simp
theorem wgtAll_snoc (cs : List Nat) (W : Wk) (left : List En) (e : En) : wgtAll cs W (left ++ [e]) = wgtAll cs W left + wgt cs W e := by
  unfold wgtAll
  rw [List.map_append, List.sum_append]
  simp
theorem expE_empty {cs : List Nat} {W : Wk} {e : En} (h : ways cs W e.s e.a = []) : expE cs W e = [] := by unfold expE; rw [h]; rfl
theorem wgt_empty {cs : List Nat} {W : Wk} {e : En} (h : ways cs W e.s e.a = []) : wgt cs W e = 0 := by unfold wgt; rw [h]; rfl
theorem map_cons_wgt (x : Wst) (L : List (List Wst)) : ((L.map (x :: ·)).map List.length).sum = (L.map List.length).sum + L.length := by
  induction L with
  | nil => rfl
  | cons l L ih => simp only [List.map_cons, List.sum_cons, List.length_cons] at ih ⊢; omega
theorem map_cons_exp {W : Wk} {pre : List Nat} {i : Nat} {x : Wst} (h : W[i]? = some x) (L : List (List Wst)) : (L.map (x :: ·)).map (wOf W pre ++ ·) = L.map (wOf W (pre ++ [i]) ++ ·) := by
  rw [List.map_map, wOf_snoc h]
  apply List.map_congr_left
  intro l _
  show wOf W pre ++ x :: l = wOf W pre ++ [x] ++ l
  simp
/-- what is still to be seen -/
structure SInv (cs : List Nat) (W : Wk) (first : Nat) (fnd : List (List Wst)) (left : List En) : Prop where
  all : fnd ++ expAll cs W left = ways cs W first 0
  ne : ∀ e ∈ left, ways cs W e.s e.a ≠ []
  pl : ∀ e ∈ left, e.a ≤ cs.length
  dp : ∀ (j : Nat) e, left[j]? = some e → j + e.s < W.length
  pr : ∀ e ∈ left, e.pre.length + e.s < W.length
  wf : ∀ e ∈ left, ∀ i ∈ e.pre, i < W.length
theorem SInv.start {cs : List Nat} {W : Wk} {first : Nat} (hf : first < W.length) : (ways cs W first 0 ≠ [] → SInv cs W first [] [⟨first, 0, []⟩]) ∧ (ways cs W first 0 = [] → SInv cs W first [] []) := by
  refine ⟨fun h => ⟨?_, fun e he => ?_, fun e he => ?_, fun j e he => ?_, fun e he => ?_, fun e he => ?_⟩, fun h => ⟨?_, fun e he => ?_, fun e he => ?_, fun j e he => ?_, fun e he => ?_, fun e he => ?_⟩⟩
  · show [] ++ (expE cs W ⟨first, 0, []⟩ ++ []) = _
    simp [expE, wOf]
  · rw [List.mem_singleton] at he; subst he; exact h
  · rw [List.mem_singleton] at he; subst he; exact Nat.zero_le _
  · cases j with
    | zero => cases he; simpa using hf
    | succ j => simp at he
  · rw [List.mem_singleton] at he; subst he; simpa using hf
  · rw [List.mem_singleton] at he; subst he; intro i hi; cases hi
  · rw [h]; rfl
  · cases he
  · cases he
  · simp at he
  · cases he
  · cases he
theorem SInv.len {cs : List Nat} {W : Wk} {first : Nat} {fnd : List (List Wst)} {left : List En} (h : SInv cs W first fnd left) : left.length ≤ W.length := by
  cases e : left.getLast? with
  | none => rw [List.getLast?_eq_none_iff] at e; subst e; exact Nat.zero_le _
  | some x =>
    rw [List.getLast?_eq_getElem?] at e
    have := h.dp _ _ e
    omega
/-- a step's kids, those first that are put first -/
def kids (cs : List Nat) (W : Wk) (e : En) (x : Wst) : List En := match x with
  | .fin => []
  | .sign _ n _ => [⟨n, e.a + 1, e.pre ++ [e.s]⟩]
  | .choice p q => ([q, p].map fun n => ⟨n, e.a, e.pre ++ [e.s]⟩).filter fun e' => decide (ways cs W e'.s e'.a ≠ [])
  | .mark p _ _ => ([p].map fun n => ⟨n, e.a, e.pre ++ [e.s]⟩).filter fun e' => decide (ways cs W e'.s e'.a ≠ [])
theorem filter_exp {cs : List Nat} {W : Wk} (L : List En) : (L.filter fun e' => decide (ways cs W e'.s e'.a ≠ [])).flatMap (expE cs W) = L.flatMap (expE cs W) := by
  induction L with
  | nil => rfl
  | cons e L ih =>
    rw [List.filter_cons]
    by_cases h : ways cs W e.s e.a = []
    · rw [if_neg (by simp [h]), List.flatMap_cons, expE_empty h, ih]; rfl
    · rw [if_pos (by simp [h]), List.flatMap_cons, List.flatMap_cons, ih]
theorem filter_wgt {cs : List Nat} {W : Wk} (L : List En) : wgtAll cs W (L.filter fun e' => decide (ways cs W e'.s e'.a ≠ [])) = wgtAll cs W L := by
  unfold wgtAll
  induction L with
  | nil => rfl
  | cons e L ih =>
    rw [List.filter_cons]
    by_cases h : ways cs W e.s e.a = []
    · rw [if_neg (by simp [h]), List.map_cons, List.sum_cons, wgt_empty h, ih]; omega
    · rw [if_pos (by simp [h]), List.map_cons, List.sum_cons, List.map_cons, List.sum_cons, ih]
theorem filter_rev {α : Type} (p : α → Bool) (l : List α) : (l.filter p).reverse = l.reverse.filter p := (List.filter_reverse ..).symm
theorem kids_exp {cs : List Nat} {W : Wk} (wf : WfW W) {e : En} {x : Wst} (hx : W[e.s]? = some x) (hf : x ≠ .fin) (ne : ways cs W e.s e.a ≠ []) :
    expE cs W e = expAll cs W (kids cs W e x) ∧ wgtAll cs W (kids cs W e x) < wgt cs W e := by
  have hw := ways_at (cs := cs) wf hx e.a
  have pos : 0 < (ways cs W e.s e.a).length := List.length_pos_iff.mpr ne
  cases x with
  | fin => exact absurd rfl hf
  | sign s n t =>
    dsimp only at hw
    cases hc : cs[e.a]? with
    | none => rw [hc] at hw; exact absurd hw ne
    | some c =>
      rw [hc] at hw
      dsimp only at hw
      by_cases hm : c ∈ s.cps.toList
      · rw [if_pos hm] at hw
        refine ⟨?_, ?_⟩
        · show _ = [_].reverse.flatMap _
          unfold expE
          rw [hw, map_cons_exp hx]
          simp
        · show (List.map (wgt cs W) [_]).sum < _
          unfold wgt
          rw [hw, List.length_map] at pos
          rw [hw, map_cons_wgt]
          simp only [List.map_cons, List.map_nil, List.sum_cons, List.sum_nil]
          omega
      · rw [if_neg hm] at hw; exact absurd hw ne
  | choice p q =>
    dsimp only at hw
    refine ⟨?_, ?_⟩
    · unfold expAll kids
      dsimp only
      rw [filter_rev, filter_exp]
      unfold expE
      rw [hw, map_cons_exp hx]
      simp
    · unfold kids
      dsimp only
      rw [filter_wgt]
      unfold wgtAll wgt
      rw [hw, List.length_map] at pos
      rw [hw, map_cons_wgt, List.map_append, List.sum_append]
      simp only [List.map_cons, List.map_nil, List.sum_cons, List.sum_nil]
      omega
  | mark p m nm =>
    dsimp only at hw
    refine ⟨?_, ?_⟩
    · unfold expAll kids
      dsimp only
      rw [filter_rev, filter_exp]
      unfold expE
      rw [hw, map_cons_exp hx]
      simp
    · unfold kids
      dsimp only
      rw [filter_wgt]
      unfold wgtAll wgt
      rw [hw, List.length_map] at pos
      rw [hw, map_cons_wgt]
      simp only [List.map_cons, List.map_nil, List.sum_cons, List.sum_nil]
      omega
/-- at most two kids -/
theorem kids_cases {cs : List Nat} {W : Wk} (wf : WfW W) {e : En} {x : Wst} (hx : W[e.s]? = some x) (hl : e.a ≤ cs.length) (ne : ways cs W e.s e.a ≠ []) :
    ∀ k ∈ kids cs W e x, k.s < e.s ∧ k.a ≤ cs.length ∧ k.pre = e.pre ++ [e.s] ∧ ways cs W k.s k.a ≠ [] := by
  have hs := wf _ _ hx
  cases x with
  | fin => intro k hk; cases hk
  | sign s n t =>
    intro k hk
    have : k = ⟨n, e.a + 1, e.pre ++ [e.s]⟩ := by simpa [kids] using hk
    subst this
    have hw := ways_at (cs := cs) wf hx e.a
    dsimp only at hw
    cases hc : cs[e.a]? with
    | none => rw [hc] at hw; exact absurd hw ne
    | some c =>
      rw [hc] at hw
      dsimp only at hw
      by_cases hm : c ∈ s.cps.toList
      · rw [if_pos hm] at hw
        have := at_lt hc
        exact ⟨hs n (by simp [succs]), by show e.a + 1 ≤ _; omega, rfl, fun z => by dsimp only at z; rw [hw, z] at ne; exact ne rfl⟩
      · rw [if_neg hm] at hw; exact absurd hw ne
  | choice p q =>
    intro k hk
    obtain ⟨h1, h2⟩ := List.mem_filter.mp (show k ∈ List.filter _ _ from hk)
    obtain ⟨n, hn, rfl⟩ := List.mem_map.mp h1
    exact ⟨hs n (by simpa [succs, or_comm] using hn), hl, rfl, by simpa using h2⟩
  | mark p m nm =>
    intro k hk
    obtain ⟨h1, h2⟩ := List.mem_filter.mp (show k ∈ List.filter _ _ from hk)
    obtain ⟨n, hn, rfl⟩ := List.mem_map.mp h1
    exact ⟨hs n (by simpa [succs] using hn), hl, rfl, by simpa using h2⟩
theorem kids_dp {cs : List Nat} {W : Wk} (wf : WfW W) {e : En} {x : Wst} (hx : W[e.s]? = some x) : ∀ (i : Nat) k, (kids cs W e x)[i]? = some k → i + k.s ≤ e.s := by
  have hs := wf _ _ hx
  cases x with
  | fin => intro i k h; simp [kids] at h
  | sign s n t =>
    intro i k h
    cases i with
    | zero => have : k = ⟨n, e.a + 1, e.pre ++ [e.s]⟩ := by simpa [kids] using h.symm
              subst this; have := hs n (by simp [succs]); show 0 + n ≤ _; omega
    | succ i => simp [kids] at h
  | choice p q =>
    have h1 := hs p (by simp [succs])
    have h2 := hs q (by simp [succs])
    intro i k h
    unfold kids at h
    dsimp only at h
    simp only [List.map_cons, List.map_nil, List.filter_cons, List.filter_nil] at h
    by_cases d1 : decide (ways cs W q e.a ≠ []) = true
    · rw [if_pos d1] at h
      by_cases d2 : decide (ways cs W p e.a ≠ []) = true
      · rw [if_pos d2] at h
        match i, h with
        | 0, h => cases h; show 0 + q ≤ _; omega
        | 1, h => cases h; show 1 + p ≤ _; omega
        | i + 2, h => simp at h
      · rw [if_neg d2] at h
        match i, h with
        | 0, h => cases h; show 0 + q ≤ _; omega
        | i + 1, h => simp at h
    · rw [if_neg d1] at h
      by_cases d2 : decide (ways cs W p e.a ≠ []) = true
      · rw [if_pos d2] at h
        match i, h with
        | 0, h => cases h; show 0 + p ≤ _; omega
        | i + 1, h => simp at h
      · rw [if_neg d2] at h; simp at h
  | mark p m nm =>
    have h1 := hs p (by simp [succs])
    intro i k h
    unfold kids at h
    dsimp only at h
    simp only [List.map_cons, List.map_nil, List.filter_cons, List.filter_nil] at h
    by_cases d1 : decide (ways cs W p e.a ≠ []) = true
    · rw [if_pos d1] at h
      match i, h with
      | 0, h => cases h; show 0 + p ≤ _; omega
      | i + 1, h => simp at h
    · rw [if_neg d1] at h; simp at h
theorem SInv.step {cs : List Nat} {W : Wk} {first : Nat} {fnd : List (List Wst)} {left : List En} {e : En} {x : Wst} (wf : WfW W) (h : SInv cs W first fnd (left ++ [e])) (hx : W[e.s]? = some x) (hf : x ≠ .fin) :
    SInv cs W first fnd (left ++ kids cs W e x) ∧ wgtAll cs W (left ++ kids cs W e x) < wgtAll cs W (left ++ [e]) := by
  have me : e ∈ left ++ [e] := by simp
  obtain ⟨k1, k2⟩ := kids_exp (cs := cs) wf hx hf (h.ne e me)
  have kc := kids_cases (cs := cs) wf hx (h.pl e me) (h.ne e me)
  have kd := kids_dp (cs := cs) wf hx
  have de := h.dp left.length e (by simp)
  have pe := h.pr e me
  refine ⟨⟨?_, fun k hk => ?_, fun k hk => ?_, fun j k hk => ?_, fun k hk => ?_, fun k hk => ?_⟩, ?_⟩
  · rw [← h.all, expAll_snoc, k1]
    congr 1
    unfold expAll
    rw [List.reverse_append, List.flatMap_append]
  · rcases List.mem_append.mp hk with hk | hk
    · exact h.ne k (List.mem_append_left _ hk)
    · exact (kc k hk).2.2.2
  · rcases List.mem_append.mp hk with hk | hk
    · exact h.pl k (List.mem_append_left _ hk)
    · exact (kc k hk).2.1
  · by_cases hj : j < left.length
    · rw [List.getElem?_append_left hj] at hk
      exact h.dp j k (by rw [List.getElem?_append_left hj]; exact hk)
    · rw [List.getElem?_append_right (by omega)] at hk
      have := kd _ _ hk
      omega
  · rcases List.mem_append.mp hk with hk | hk
    · exact h.pr k (List.mem_append_left _ hk)
    · obtain ⟨a1, a2, a3, a4⟩ := kc k hk
      rw [a3, List.length_append, List.length_singleton]; omega
  · rcases List.mem_append.mp hk with hk | hk
    · exact h.wf k (List.mem_append_left _ hk)
    · obtain ⟨a1, a2, a3, a4⟩ := kc k hk
      intro i hi
      rw [a3] at hi
      rcases List.mem_append.mp hi with hi | hi
      · exact h.wf e me i hi
      · rw [List.mem_singleton] at hi; subst hi; exact at_lt hx
  · rw [wgtAll_snoc]
    show (List.map (wgt cs W) (left ++ kids cs W e x)).sum < _
    rw [List.map_append, List.sum_append]
    exact Nat.add_lt_add_left k2 _
theorem SInv.found {cs : List Nat} {W : Wk} {first : Nat} {fnd : List (List Wst)} {left : List En} {e : En} (wf : WfW W) (h : SInv cs W first fnd (left ++ [e])) (hx : W[e.s]? = some .fin) :
    SInv cs W first (fnd ++ [wOf W (e.pre ++ [e.s])]) left ∧ wgtAll cs W left < wgtAll cs W (left ++ [e]) := by
  have me : e ∈ left ++ [e] := by simp
  have hw := ways_at (cs := cs) wf hx e.a
  dsimp only at hw
  have ne := h.ne e me
  by_cases ha : e.a = cs.length
  · rw [if_pos ha] at hw
    refine ⟨⟨?_, fun k hk => h.ne k (List.mem_append_left _ hk), fun k hk => h.pl k (List.mem_append_left _ hk), fun j k hk => h.dp j k (by rw [List.getElem?_append_left (at_lt hk)]; exact hk), fun k hk => h.pr k (List.mem_append_left _ hk), fun k hk => h.wf k (List.mem_append_left _ hk)⟩, ?_⟩
    · rw [← h.all, expAll_snoc]
      unfold expE
      rw [hw, wOf_snoc hx]
      simp
    · rw [wgtAll_snoc]
      unfold wgt
      rw [hw]
      simp
  · rw [if_neg ha] at hw; exact absurd hw ne
/-- the ways found are the first ones -/
theorem SInv.take {cs : List Nat} {W : Wk} {first : Nat} {fnd : List (List Wst)} {left : List En} (h : SInv cs W first fnd left) : fnd = (ways cs W first 0).take fnd.length := by
  rw [← h.all, List.take_left']
  rfl
theorem SInv.done {cs : List Nat} {W : Wk} {first : Nat} {fnd : List (List Wst)} (h : SInv cs W first fnd []) : fnd = ways cs W first 0 := by
  rw [← h.all]
  simp [expAll]
theorem ways_le {cs : List Nat} {W : Wk} (wf : WfW W) : ∀ (s : Nat), s < W.length → ∀ a, ways cs W s a ≠ [] → a ≤ cs.length := by
  intro s
  induction s using Nat.strongRecOn with
  | ind s ih =>
    intro hs a ne
    obtain ⟨x, hx⟩ : ∃ x, W[s]? = some x := ⟨_, List.getElem?_eq_getElem hs⟩
    have hw := ways_at (cs := cs) wf hx a
    have hsu := wf s _ hx
    cases x with
    | fin =>
      dsimp only at hw; rw [hw] at ne
      by_cases h : a = cs.length
      · omega
      · rw [if_neg h] at ne; exact absurd rfl ne
    | sign g n t =>
      dsimp only at hw; rw [hw] at ne
      cases hc : cs[a]? with
      | none => rw [hc] at ne; exact absurd rfl ne
      | some c => have := at_lt hc; omega
    | choice p q =>
      dsimp only at hw; rw [hw] at ne
      have hp := hsu p (by simp [succs])
      have hq := hsu q (by simp [succs])
      by_cases h1 : ways cs W p a = []
      · by_cases h2 : ways cs W q a = []
        · rw [h1, h2] at ne; exact absurd rfl ne
        · exact ih q hq (by omega) a h2
      · exact ih p hp (by omega) a h1
    | mark p m nm =>
      dsimp only at hw; rw [hw] at ne
      have hp := hsu p (by simp [succs])
      by_cases h1 : ways cs W p a = []
      · rw [h1] at ne; exact absurd rfl ne
      · exact ih p hp (by omega) a h1
end Lf

/-! # LfRdg -/
set_option Elab.async false
set_option linter.all false
set_option maxRecDepth 100000
set_option maxHeartbeats 4000000
namespace Lf
open PySem L2
/-! ## the steps of a walk, one by one -/
theorem WalkAt.fields {K : PySem.W.Frag} {C : Addr} {H : Hp} {x : Addr} {b : B} (h : WalkAt K C H x b) : ∃ dx fs s t xs ys, H x = some (.ins C dx fs) ∧ fs.lookup ("steps" : Str) = some (.ref s) ∧ fs.lookup ("told" : Str) = some (.ref t) ∧ fs.lookup ("first" : Str) = some (.int (b.2 : Nat)) ∧
    SqL K H s xs ∧ SqL K H t ys ∧ Paired (StR K H) xs b.1 ∧ Paired (TlR K H) ys b.1 := by
  obtain ⟨dx, s, t, xs, ys, h1, h2, h3, h4, h5⟩ := h
  exact ⟨dx, _, s, t, xs, ys, h1, rfl, rfl, rfl, SqL.of h2, SqL.of h3, h4, h5⟩
/-- at which places of a text each step leads to its end -/
def GoodAt (cs : List Nat) (W : Wk) (H : Hp) (g : Addr) : Prop := ∃ gs, H g = some (.lst gs) ∧ gs.length = W.length ∧
  ∀ (i : Nat) v, gs[i]? = some v → ∃ d kvs, v = .ref d ∧ H d = some (.dK kvs) ∧ PL (fun a => ways cs W i a ≠ []) cs.length kvs
theorem GoodAt.mono {cs : List Nat} {W : Wk} {H H' : Hp} {g : Addr} (h : GoodAt cs W H g) (k : Same H H') : GoodAt cs W H' g := by
  obtain ⟨gs, h1, h2, h3⟩ := h
  refine ⟨gs, k _ _ h1, h2, fun i v hv => ?_⟩
  obtain ⟨d, kvs, e, hd, p⟩ := h3 i v hv
  exact ⟨d, kvs, e, k _ _ hd, p⟩
/-- a way so far, the last step outermost -/
def LinkR (K : PySem.W.Frag) (H : Hp) (v : V) : List Nat → Prop
  | [] => v = .non
  | s :: r => ∃ p lv, v = .ref p ∧ SqT K H p [.int (s : Nat), lv] ∧ LinkR K H lv r
theorem LinkR.mono {K : PySem.W.Frag} {H H' : Hp} (k : Same H H') : ∀ {r : List Nat} {v : V}, LinkR K H v r → LinkR K H' v r
  | [], _, h => h
  | s :: r, v, h => by
    obtain ⟨p, lv, e, q, z⟩ := h
    exact ⟨p, lv, e, k.tup q, z.mono k⟩
/-- values of one's own, whose rows are things of their own -/
def RO1 (H0 H : Hp) (d : Addr) (p : Key × V) (q : Str × Vl) : Prop := p.1 = Sum.inr q.1 ∧ match q.2 with
  | .tx s => p.2 = .str s
  | .rws rs => ∃ (l : Addr) (as : List Addr), p.2 = .ref l ∧ H0 l = none ∧ H l = some (.lst (as.map V.ref)) ∧ as.Nodup ∧ (∀ a ∈ as, H0 a = none ∧ a ≠ d) ∧ Paired (fun a r => H a = some (.dK (rowK r))) as rs
theorem RO1.mono {H0 H H' : Hp} {d : Addr} {p : Key × V} {q : Str × Vl} (hd : ∃ kvs, H d = some (.dK kvs)) (h : RO1 H0 H d p q) (k : ∀ b o, b ≠ d → H b = some o → H' b = some o) : RO1 H0 H' d p q := by
  obtain ⟨h1, h2⟩ := h
  obtain ⟨kvs, hd⟩ := hd
  refine ⟨h1, ?_⟩
  obtain ⟨n, vl⟩ := q
  cases vl with
  | tx s => exact h2
  | rws rs =>
    obtain ⟨l, as, e, f, hl, nd, fa, pr⟩ := h2
    have ld : l ≠ d := fun z => by rw [z, hd] at hl; cases hl
    refine ⟨l, as, e, f, k _ _ ld hl, nd, fa, ?_⟩
    refine Paired.of_at (Paired.len pr) fun i a r h1 h2 => ?_
    obtain ⟨r', e', z⟩ := Paired.at pr h1
    rw [h2] at e'; cases e'
    exact k _ _ (fa a (mem_at h1)).2 z
theorem val_RO1 {H0 H : Hp} {d : Addr} {kvs : List (Key × V)} {vals : List (Str × Vl)} (h : Paired (RO1 H0 H d) kvs vals) (n : Str) (e : n ∉ vals.map (·.1)) : valV kvs (Sum.inr n : Key) = none := by
  induction h with
  | nil => rfl
  | @cons p q ps qs z _ ih =>
    rw [List.map_cons, List.mem_cons] at e
    rw [valV_neg (by rw [z.1]; intro y; exact e (.inl (Sum.inr.inj y).symm))]
    exact ih fun w => e (.inr w)
/-- numbers as values -/
def natV (l : List Nat) : List V := l.map fun n => V.int (n : Nat)
theorem natV_at {l : List Nat} {i : Nat} {v : V} (h : (natV l)[i]? = some v) : ∃ n, l[i]? = some n ∧ v = V.int (n : Nat) := by
  unfold natV at h
  rw [List.getElem?_map] at h
  cases e : l[i]? with
  | none => rw [e] at h; cases h
  | some n => rw [e] at h; cases h; exact ⟨n, rfl, rfl⟩
theorem natV_len (l : List Nat) : (natV l).length = l.length := List.length_map ..
section
variable (K : PySem.W.Frag) (C : Addr)
def sp_ends_well : Sp := fun vs H Q _ => ∃ (x : Addr) (tx : Str) (b : B), vs = [.ref x, .str tx] ∧ WalkAt K C H x b ∧ okB b ∧ b.1.length ≤ 1000 ∧ tx.length ≤ 5000 ∧
  ∀ g H', Keep H H' → H g = none → GoodAt tx.cps.toList b.1 H' g → Q (.ref g) H'
def sp_trail_of : Sp := fun vs H Q _ => ∃ (v : V) (r : List Nat), vs = [v] ∧ LinkR K H v r ∧ r.length ≤ 2000 ∧ ∀ l H', Keep H H' → H l = none → H' l = some (.lst (natV r.reverse)) → Q (.ref l) H'
def sp_values_of : Sp := fun vs H Q _ => ∃ (x l : Addr) (tx : Str) (b : B) (tr : List Nat) (vals : List (Str × Vl)) (e : Nat), vs = [.ref x, .ref l, .str tx] ∧ WalkAt K C H x b ∧ SqL K H l (natV tr) ∧ tr.length ≤ 2000 ∧ (∀ i ∈ tr, i < b.1.length) ∧ tx.length ≤ 5000 ∧
  runO tx.cps.toList ⟨.top [], none, 0⟩ (wOf b.1 tr) = some ⟨.top vals, none, e⟩ ∧ ∀ d kvs H', Keep H H' → H d = none → H' d = some (.dK kvs) → Paired (RO1 H H' d) kvs vals → Q (.ref d) H'
end
/-- while the places are found, step by step -/
def ewP (H : Hp) (x g : Addr) (tx : Str) (W : Wk) (i : Nat) (σ : L2.St) (H' : Hp) : Prop := ∃ v3 v4 v5 v6 gs, σ = [some (.ref x), some (.str tx), some (.ref g), v3, v4, v5, v6] ∧ Keep H H' ∧ H' g = some (.lst gs) ∧ gs.length = i ∧
  ∀ (j : Nat) v, gs[j]? = some v → ∃ d kvs, v = .ref d ∧ H' d = some (.dK kvs) ∧ PL (fun a => ways tx.cps.toList W j a ≠ []) tx.length kvs
theorem ewP.next {H H' : Hp} {x g d : Addr} {tx : Str} {W : Wk} {i : Nat} {gs : List V} (ng : H g = none) (k : Keep H H') (hg : H' g = some (.lst gs)) (gl : gs.length = i) (nd : H' d = none)
    (gP : ∀ (j : Nat) v, gs[j]? = some v → ∃ d kvs, v = .ref d ∧ H' d = some (.dK kvs) ∧ PL (fun a => ways tx.cps.toList W j a ≠ []) tx.length kvs)
    (v3 v4 v5 v6 : Option V) (H2 : Hp) (kvs : List (Key × V)) (hk : ∀ a o, a ≠ d → H' a = some o → H2 a = some o) (hd : H2 d = some (.dK kvs)) (hP : PL (fun a => ways tx.cps.toList W i a ≠ []) tx.length kvs) :
    ewP H x g tx W (i + 1) [some (.ref x), some (.str tx), some (.ref g), v3, v4, v5, v6] (upd H2 g (.lst (gs ++ [.ref d]))) := by
  have gd : g ≠ d := ne_of_none hg nd
  refine ⟨v3, v4, v5, v6, _, rfl, fun a o e => ?_, upd_same, by rw [List.length_append, gl]; rfl, fun j v hv => ?_⟩
  · have e1 := k a o e
    rw [upd_ne (ne_of_none e ng)]
    exact hk a o (ne_of_none e1 nd) e1
  · by_cases hj : j < gs.length
    · rw [List.getElem?_append_left hj] at hv
      obtain ⟨d1, kvs1, e, h1, p1⟩ := gP j v hv
      refine ⟨d1, kvs1, e, ?_, p1⟩
      rw [upd_ne (show d1 ≠ g from fun z => by rw [z, hg] at h1; cases h1)]
      exact hk _ _ (ne_of_none h1 nd) h1
    · have hj2 := at_lt hv
      rw [List.length_append, List.length_singleton] at hj2
      have ej : j = gs.length := by omega
      subst ej
      rw [List.getElem?_append_right (Nat.le_refl _), Nat.sub_self] at hv
      cases hv
      refine ⟨d, kvs, rfl, ?_, by rw [gl]; exact hP⟩
      rw [upd_ne gd.symm]; exact hd
/-- while a sign's places are found -/
def ewS (H' : Hp) (x g p d : Addr) (tx : Str) (W : Wk) (i j : Nat) (σ : L2.St) (H2 : Hp) : Prop := ∃ v5 v6 kvs, σ = [some (.ref x), some (.str tx), some (.ref g), some (.ref p), some (.ref d), v5, v6] ∧ (∀ a o, a ≠ d → H' a = some o → H2 a = some o) ∧ H2 d = some (.dK kvs) ∧
  PL (fun a => a < j ∧ ways tx.cps.toList W i a ≠ []) tx.length kvs
theorem ewS.next {H' : Hp} {x g p d : Addr} {tx : Str} {W : Wk} {i j : Nat} {v6 : Option V} (H3 : Hp) (kvs' : List (Key × V)) (k3 : ∀ a o, a ≠ d → H' a = some o → H3 a = some o) (hd3 : H3 d = some (.dK kvs'))
    (P3 : PL (fun a => (a = j ∧ ways tx.cps.toList W i j ≠ []) ∨ (a < j ∧ ways tx.cps.toList W i a ≠ [])) tx.length kvs') : ewS H' x g p d tx W i (j + 1) [some (.ref x), some (.str tx), some (.ref g), some (.ref p), some (.ref d), some (.int (j : Nat)), v6] H3 := by
  refine ⟨_, _, kvs', rfl, k3, hd3, P3.congr fun a => ?_⟩
  constructor
  · rintro (⟨rfl, z⟩ | ⟨z1, z2⟩)
    · exact ⟨by omega, z⟩
    · exact ⟨by omega, z2⟩
  · rintro ⟨z1, z2⟩
    by_cases e : a = j
    · subst e; exact .inl ⟨rfl, z2⟩
    · exact .inr ⟨by omega, z2⟩
/-- while a choice's places are put together -/
def ewC (H' : Hp) (x g p d : Addr) (tx : Str) (W : Wk) (L : List Nat) (σ : L2.St) (H2 : Hp) : Prop := ∃ v5 v6 kvs, σ = [some (.ref x), some (.str tx), some (.ref g), some (.ref p), some (.ref d), v5, v6] ∧ (∀ a o, a ≠ d → H' a = some o → H2 a = some o) ∧ H2 d = some (.dK kvs) ∧
  PL (fun a => ∃ n ∈ L, ways tx.cps.toList W n a ≠ []) tx.length kvs
/-- told readings: dicts of one's own, whose rows are none of these dicts -/
def RO2 (H0 H : Hp) (ds : List Addr) (p : Key × V) (q : Str × Vl) : Prop := p.1 = Sum.inr q.1 ∧ match q.2 with
  | .tx s => p.2 = .str s
  | .rws rs => ∃ (l : Addr) (as : List Addr), p.2 = .ref l ∧ H0 l = none ∧ H l = some (.lst (as.map V.ref)) ∧ as.Nodup ∧ (∀ a ∈ as, H0 a = none ∧ a ∉ ds) ∧ Paired (fun a r => H a = some (.dK (rowK r))) as rs
def ToldR (H0 H : Hp) (ds : List Addr) (d : Addr) (vals : List (Str × Vl)) : Prop := H0 d = none ∧ ∃ kvs, H d = some (.dK kvs) ∧ Paired (RO2 H0 H ds) kvs vals
def ReadsAt (H0 H : Hp) (v : V) (L : List (List (Str × Vl))) : Prop := ∃ l ds, v = .ref l ∧ H0 l = none ∧ H l = some (.lst (ds.map V.ref)) ∧ Paired (ToldR H0 H ds) ds L
section
variable (K : PySem.W.Frag) (C : Addr)
def sp_readings : Sp := fun vs H Q _ => ∃ (f : Addr) (tx : Str) (most : Int) (ps : List Pc), vs = [.ref f, .str tx, .int most] ∧ FormAt K H f ps ∧ okF ps ∧ tx.length ≤ 5000 ∧ 0 ≤ most ∧ most ≤ 50000 ∧
  ∀ v H', Keep H H' → ReadsAt H H' v ((readsP ps tx.cps.toList).take most.toNat) → Q v H'
end
theorem RO2.mono {H0 H H' : Hp} {ds : List Addr} {p : Key × V} {q : Str × Vl} (h : RO2 H0 H ds p q) (k : Keep H H') : RO2 H0 H' ds p q := by
  obtain ⟨h1, h2⟩ := h
  refine ⟨h1, ?_⟩
  obtain ⟨n, vl⟩ := q
  cases vl with
  | tx s => exact h2
  | rws rs =>
    obtain ⟨l, as, e, f, hl, nd, fa, pr⟩ := h2
    exact ⟨l, as, e, f, k _ _ hl, nd, fa, Paired.monoP pr fun _ _ z => k _ _ z⟩
theorem RO2.more {H0 H H' : Hp} {ds : List Addr} {d : Addr} {p : Key × V} {q : Str × Vl} (h : RO2 H0 H ds p q) (k : Keep H H') (hd : H d = none) : RO2 H0 H' (ds ++ [d]) p q := by
  obtain ⟨h1, h2⟩ := h.mono k
  refine ⟨h1, ?_⟩
  obtain ⟨n, vl⟩ := q
  cases vl with
  | tx s => exact h2
  | rws rs =>
    obtain ⟨_, g2⟩ := h
    obtain ⟨l0, as0, e0, _, hl0, _, _, pr0⟩ := g2
    obtain ⟨l, as, e, f, hl, nd, fa, pr⟩ := h2
    refine ⟨l, as, e, f, hl, nd, fun a ha => ⟨(fa a ha).1, fun z => ?_⟩, pr⟩
    rcases List.mem_append.mp z with z | z
    · exact (fa a ha).2 z
    · rw [List.mem_singleton] at z
      subst z
      have el : l0 = l := by rw [e0] at e; exact V.ref.inj e
      subst el
      have := k _ _ hl0
      rw [hl] at this
      have ea : as0.map V.ref = as.map V.ref := by injection this with z; injection z with z; exact z.symm
      have ea2 : as0 = as := by
        have h3 := congrArg (List.filterMap fun v : V => match v with | .ref a => some a | _ => none) ea
        rwa [List.filterMap_map, List.filterMap_map, show ((fun v : V => match v with | .ref a => some a | _ => none) ∘ V.ref) = some from rfl, List.filterMap_some, List.filterMap_some] at h3
      subst ea2
      obtain ⟨i, hi, ei⟩ := List.mem_iff_getElem.mp ha
      obtain ⟨r, _, hr⟩ := Paired.at pr0 (i := i) (x := as0[i]) (List.getElem?_eq_getElem hi)
      rw [ei, hd] at hr; cases hr
end Lf

/-! # LfFold -/
set_option Elab.async false
set_option linter.all false
set_option maxRecDepth 100000
set_option maxHeartbeats 4000000
namespace Lf
open PySem L2
/-! ## the law's own readings: size by size, piece by piece -/
def askOk (cs sg : List Nat) (lo a n : Nat) : Bool := (cut cs a (a + n)).all (fun c => decide (c ∈ sg)) && decide ((cut cs a (a + n)).length = n) && decide (lo ≤ n)
def askL (cs sg : List Nat) (lo a m : Nat) : List Nat := ((List.range m).filter (askOk cs sg lo a)).map (a + ·)
theorem askL_succ (cs sg : List Nat) (lo a m : Nat) : askL cs sg lo a (m + 1) = askL cs sg lo a m ++ if askOk cs sg lo a m = true then [a + m] else [] := by
  unfold askL
  rw [List.range_succ, List.filter_append, List.map_append]
  congr 1
  by_cases h : askOk cs sg lo a m = true
  · rw [if_pos h, List.filter_cons, if_pos h]; rfl
  · rw [if_neg h, List.filter_cons, if_neg h]; rfl
theorem cut_out {cs : List Nat} {a e : Nat} (h : cs[a]? = none) : cut cs a e = [] := by
  unfold cut
  rw [List.drop_eq_nil_of_le (List.getElem?_eq_none_iff.mp h), List.take_nil]
theorem askOk_zero (cs sg : List Nat) (lo a : Nat) : askOk cs sg lo a 0 = decide (lo = 0) := by
  unfold askOk
  rw [Nat.add_zero, cut_self]
  simp
theorem askOk_step (cs sg : List Nat) (lo a n : Nat) : askOk cs sg lo a (n + 1) = match cs[a]? with
    | some c => decide (c ∈ sg) && askOk cs sg (lo - 1) (a + 1) n
    | none => false := by
  unfold askOk
  cases hc : cs[a]? with
  | none => rw [cut_out hc]; simp
  | some c =>
    rw [cut_cons hc (by omega), show a + (n + 1) = a + 1 + n by omega]
    dsimp only
    rw [List.all_cons, List.length_cons]
    have e1 : decide ((cut cs (a + 1) (a + 1 + n)).length + 1 = n + 1) = decide ((cut cs (a + 1) (a + 1 + n)).length = n) := decide_eq_decide.mpr (by omega)
    have e2 : decide (lo ≤ n + 1) = decide (lo - 1 ≤ n) := decide_eq_decide.mpr (by omega)
    rw [e1, e2, Bool.and_assoc, Bool.and_assoc, Bool.and_assoc]
theorem askL_eq (cs sg : List Nat) : ∀ (hi lo a : Nat), lo ≤ hi → askL cs sg lo a (hi + 1) = askE cs sg hi lo a
  | 0, lo, a, h => by
    have : lo = 0 := by omega
    subst this
    unfold askL askE
    rw [show List.range (0 + 1) = [0] from rfl, List.filter_cons, askOk_zero]
    simp
  | hi + 1, lo, a, h => by
    have ih := askL_eq cs sg hi (lo - 1) (a + 1) (by omega)
    unfold askL at ih ⊢
    unfold askE
    rw [List.range_succ_eq_map, List.filter_cons, askOk_zero, List.filter_map, ← ih]
    have e1 : ∀ L : List Nat, L.map (a + ·) = L.map (a + ·) := fun _ => rfl
    have tl : (List.map Nat.succ (List.filter (askOk cs sg lo a ∘ Nat.succ) (List.range (hi + 1)))).map (a + ·) = match cs[a]? with
        | some c => if c ∈ sg then ((List.range (hi + 1)).filter (askOk cs sg (lo - 1) (a + 1))).map (a + 1 + ·) else []
        | none => [] := by
      cases hc : cs[a]? with
      | none =>
        have : List.filter (askOk cs sg lo a ∘ Nat.succ) (List.range (hi + 1)) = [] := List.filter_eq_nil_iff.mpr fun n _ => by
          show ¬ askOk cs sg lo a (n + 1) = true
          rw [askOk_step, hc]; simp
        rw [this]; rfl
      | some c =>
        dsimp only
        have : List.filter (askOk cs sg lo a ∘ Nat.succ) (List.range (hi + 1)) = List.filter (fun n => decide (c ∈ sg) && askOk cs sg (lo - 1) (a + 1) n) (List.range (hi + 1)) := List.filter_congr fun n _ => by
          show askOk cs sg lo a (n + 1) = _
          rw [askOk_step, hc]
        rw [this]
        by_cases hm : c ∈ sg
        · rw [if_pos hm, List.map_map]
          simp only [hm, decide_true, Bool.true_and]
          apply List.map_congr_left
          intro n _
          show a + (n + 1) = a + 1 + n
          omega
        · rw [if_neg hm]
          simp [hm]
    by_cases h0 : lo = 0
    · rw [if_pos (by simpa using h0), if_pos h0, List.map_cons, tl]; rfl
    · rw [if_neg (by simpa using h0), if_neg h0, tl]; rfl
/-- one piece more -/
def stepL (cs : List Nat) (p : P0) (found : List (Rw × Nat)) : List (Rw × Nat) := found.flatMap fun x => (pieceR0 cs p x.2).map fun y => (x.1 ++ y.1, y.2)
def lineF (cs : List Nat) (ps : List P0) (a : Nat) : List (Rw × Nat) := ps.foldl (fun found p => stepL cs p found) [([], a)]
theorem lineF_snoc (cs : List Nat) {ps : List P0} {i : Nat} {p : P0} (h : ps[i]? = some p) (a : Nat) : lineF cs (ps.take (i + 1)) a = stepL cs p (lineF cs (ps.take i) a) := by
  unfold lineF
  rw [take_snoc h, List.foldl_append]; rfl
theorem foldL_eq (cs : List Nat) : ∀ (ps : List P0) (found : List (Rw × Nat)), ps.foldl (fun found p => stepL cs p found) found = found.flatMap fun x => (lineR cs ps x.2).map fun y => (x.1 ++ y.1, y.2)
  | [], found => by
    show found = _
    induction found with
    | nil => rfl
    | cons x found ih => rw [List.flatMap_cons, ← ih]; simp [lineR]
  | p :: ps, found => by
    show ps.foldl _ (stepL cs p found) = _
    rw [foldL_eq cs ps]
    unfold stepL
    rw [List.flatMap_assoc]
    apply flatMap_congr'
    intro x _
    rw [List.flatMap_map, lineR, List.map_flatMap]
    apply flatMap_congr'
    intro y _
    rw [List.map_map]
    apply List.map_congr_left
    intro z _
    show ((x.1 ++ y.1) ++ z.1, z.2) = (x.1 ++ (y.1 ++ z.1), z.2)
    rw [List.append_assoc]
theorem lineF_eq (cs : List Nat) (ps : List P0) (a : Nat) : lineF cs ps a = lineR cs ps a := by
  unfold lineF
  rw [foldL_eq]
  simp
def stepF (cs : List Nat) (p : Pc) (found : List (List (Str × Vl) × Nat)) : List (List (Str × Vl) × Nat) := found.flatMap fun x => (pieceR cs p x.2).map fun y => (x.1 ++ y.1, y.2)
def formF (cs : List Nat) (ps : List Pc) : List (List (Str × Vl) × Nat) := ps.foldl (fun found p => stepF cs p found) [([], 0)]
theorem formF_snoc (cs : List Nat) {ps : List Pc} {i : Nat} {p : Pc} (h : ps[i]? = some p) : formF cs (ps.take (i + 1)) = stepF cs p (formF cs (ps.take i)) := by
  unfold formF
  rw [take_snoc h, List.foldl_append]; rfl
theorem foldF_eq (cs : List Nat) : ∀ (ps : List Pc) (found : List (List (Str × Vl) × Nat)), ps.foldl (fun found p => stepF cs p found) found = found.flatMap fun x => (formR cs ps x.2).map fun y => (x.1 ++ y.1, y.2)
  | [], found => by
    show found = _
    induction found with
    | nil => rfl
    | cons x found ih => rw [List.flatMap_cons, ← ih]; simp [formR]
  | p :: ps, found => by
    show ps.foldl _ (stepF cs p found) = _
    rw [foldF_eq cs ps]
    unfold stepF
    rw [List.flatMap_assoc]
    apply flatMap_congr'
    intro x _
    rw [List.flatMap_map, formR, List.map_flatMap]
    apply flatMap_congr'
    intro y _
    rw [List.map_map]
    apply List.map_congr_left
    intro z _
    show ((x.1 ++ y.1) ++ z.1, z.2) = (x.1 ++ (y.1 ++ z.1), z.2)
    rw [List.append_assoc]
theorem formF_eq (cs : List Nat) (ps : List Pc) : formF cs ps = formR cs ps 0 := by
  unfold formF
  rw [foldF_eq]
  simp
/-! ## how many -/
theorem flatMap_le {α β : Type} {f : α → List β} {m : Nat} : ∀ {L : List α}, (∀ x ∈ L, (f x).length ≤ m) → (L.flatMap f).length ≤ L.length * m
  | [], _ => by simp
  | x :: L, h => by
    have h1 := h x List.mem_cons_self
    have h2 := flatMap_le (L := L) fun y hy => h y (List.mem_cons_of_mem _ hy)
    rw [List.flatMap_cons, List.length_append, List.length_cons, Nat.succ_mul]; omega
theorem sayE_len (cs t : List Nat) (a : Nat) : (sayE cs t a).length ≤ 1 := by
  unfold sayE
  split <;> simp
theorem askE_len (cs sg : List Nat) : ∀ (n l a : Nat), (askE cs sg n l a).length ≤ n + 1
  | 0, l, a => by simp [askE]
  | n + 1, l, a => by
    unfold askE
    rw [List.length_append]
    have h1 : (if l = 0 then [a] else []).length ≤ 1 := by split <;> simp
    have h2 : (match cs[a]? with | some c => if c ∈ sg then askE cs sg n (l - 1) (a + 1) else [] | none => []).length ≤ n + 1 := by
      split
      · split
        · exact askE_len cs sg n _ _
        · exact Nat.zero_le _
      · exact Nat.zero_le _
    exact Nat.le_trans (Nat.add_le_add h1 h2) (by omega)
/-- fields of m signs at most -/
def small0 (m : Int) : P0 → Prop
  | .say _ => True
  | .ask nm _ _ hi => hi ≤ m ∧ nm.length ≤ 100
theorem pieceR0_len {cs : List Nat} {m : Nat} {p : P0} (h : small0 (m : Int) p) (a : Nat) : (pieceR0 cs p a).length ≤ m + 1 := by
  cases p with
  | say t => unfold pieceR0; rw [List.length_map]; have := sayE_len cs t.cps.toList a; omega
  | ask nm sg lo hi =>
    unfold pieceR0; rw [List.length_map]
    have := askE_len cs sg.cps.toList hi.toNat lo.toNat a
    have h2 : hi ≤ (m : Int) := h.1
    omega
theorem lineR_len {cs : List Nat} {m : Nat} : ∀ {ps : List P0}, (∀ p ∈ ps, small0 (m : Int) p) → ∀ a, (lineR cs ps a).length ≤ (m + 1) ^ ps.length
  | [], _, a => by simp [lineR]
  | p :: ps, h, a => by
    unfold lineR
    have h1 := pieceR0_len (cs := cs) (h p List.mem_cons_self) a
    have h2 := flatMap_le (f := fun x : Rw × Nat => (lineR cs ps x.2).map fun y => ((x.1 ++ y.1, y.2) : Rw × Nat)) (m := (m + 1) ^ ps.length) (L := pieceR0 cs p a) fun x _ => by
      rw [List.length_map]; exact lineR_len (fun q hq => h q (List.mem_cons_of_mem _ hq)) x.2
    rw [List.length_cons, Nat.pow_succ, Nat.mul_comm]
    exact Nat.le_trans h2 (Nat.mul_le_mul_right _ h1)
def rowsN (k : Nat) : Nat → Nat
  | 0 => 1
  | n + 1 => 1 + k * rowsN k n
theorem rowsR_len {cs : List Nat} {ips : List P0} {gap : List Nat} {lo k : Nat} (h : ∀ a, (lineR cs ips a).length ≤ k) : ∀ (n i a : Nat), (rowsR cs ips gap lo n i a).length ≤ rowsN k n
  | 0, i, a => by simp [rowsR, rowsN]
  | n + 1, i, a => by
    unfold rowsR rowsN
    rw [List.length_append]
    have h1 : (if lo ≤ i then [(([] : List Rw), a)] else []).length ≤ 1 := by split <;> simp
    have h2 : ((sayE cs (if i = 0 then [] else gap) a).flatMap fun b => (lineR cs ips b).flatMap fun x => (rowsR cs ips gap lo n (i + 1) x.2).map fun y => ((x.1 :: y.1, y.2) : List Rw × Nat)).length ≤ 1 * (k * rowsN k n) := by
      refine Nat.le_trans (flatMap_le (m := k * rowsN k n) fun b _ => ?_) (Nat.mul_le_mul_right _ (sayE_len _ _ _))
      refine Nat.le_trans (flatMap_le (m := rowsN k n) fun x _ => ?_) (Nat.mul_le_mul_right _ (h b))
      rw [List.length_map]
      exact rowsR_len h n _ _
    omega
end Lf

/-! # LfVst -/
set_option Elab.async false
set_option linter.all false
set_option maxRecDepth 100000
set_option maxHeartbeats 4000000
namespace Lf
open PySem L2
/-! ## what a step tells -/
theorem vinv_sign {cs : List Nat} {st st' : Sv} {g : Str} {n : Nat} {nm : Str} (h : vstep cs st (.sign g n (some nm)) = some st') : ∃ s c ks, st.f = some (nm, s) ∧ cs[st.pl]? = some c ∧ st.fr.ks = some ks ∧ st' = ⟨st.fr, some (nm, s ++ [c]), st.pl + 1⟩ := by
  obtain ⟨fr, f, pl⟩ := st
  unfold vstep at h
  dsimp only at h
  cases f with
  | none => cases h
  | some q =>
    obtain ⟨m, s⟩ := q
    cases hc : cs[pl]? with
    | none => rw [hc] at h; cases h
    | some c =>
      rw [hc] at h
      dsimp only at h
      split at h
      · next z =>
        obtain ⟨rfl, z⟩ := z
        cases hk : fr.ks with
        | none => rw [hk] at z; cases z
        | some ks => exact ⟨s, c, ks, rfl, rfl, rfl, (Option.some.inj h).symm⟩
      · cases h
theorem vinv_opened {cs : List Nat} {st st' : Sv} {n : Nat} {nm : Str} (h : vstep cs st (.mark n .opened nm) = some st') : ∃ ks, st.f = none ∧ st.fr.ks = some ks ∧ nm ∉ ks ∧ st' = ⟨st.fr, some (nm, []), st.pl⟩ := by
  obtain ⟨fr, f, pl⟩ := st
  unfold vstep at h
  dsimp only at h
  cases f with
  | some q => cases h
  | none =>
    cases hk : fr.ks with
    | none => rw [hk] at h; cases h
    | some ks =>
      rw [hk] at h
      dsimp only at h
      split at h
      · cases h
      · next z => exact ⟨ks, rfl, rfl, z, (Option.some.inj h).symm⟩
theorem vinv_closed {cs : List Nat} {st st' : Sv} {n : Nat} {nm : Str} (h : vstep cs st (.mark n .closed nm) = some st') : ∃ s ks, st.f = some (nm, s) ∧ st.fr.ks = some ks ∧ st' = ⟨addF st.fr (nm, ofL s), none, st.pl⟩ := by
  obtain ⟨fr, f, pl⟩ := st
  unfold vstep at h
  dsimp only at h
  cases f with
  | none => cases h
  | some q =>
    obtain ⟨m, s⟩ := q
    dsimp only at h
    split at h
    · next z =>
      obtain ⟨rfl, z⟩ := z
      cases hk : fr.ks with
      | none => rw [hk] at z; cases z
      | some ks => exact ⟨s, ks, rfl, rfl, (Option.some.inj h).symm⟩
    · cases h
theorem vinv_begun {cs : List Nat} {st st' : Sv} {n : Nat} {nm : Str} (h : vstep cs st (.mark n .begun nm) = some st') : ∃ vals, st.f = none ∧ st.fr = .top vals ∧ nm ∉ vals.map (·.1) ∧ st' = ⟨.beg vals nm, none, st.pl⟩ := by
  obtain ⟨fr, f, pl⟩ := st
  unfold vstep at h
  dsimp only at h
  cases f with
  | some q => cases h
  | none =>
    cases fr with
    | top vals =>
      dsimp only at h
      split at h
      · cases h
      · next z => exact ⟨vals, rfl, rfl, z, (Option.some.inj h).symm⟩
    | beg vals m => cases h
    | row vals m rs r => cases h
theorem vinv_row {cs : List Nat} {st st' : Sv} {n : Nat} {nm : Str} (h : vstep cs st (.mark n .row nm) = some st') : st.f = none ∧ ((∃ vals, st.fr = .beg vals nm) ∨ ∃ vals rs r, st.fr = .row vals nm rs r) ∧ st' = ⟨addRow st.fr [], none, st.pl⟩ := by
  obtain ⟨fr, f, pl⟩ := st
  unfold vstep at h
  dsimp only at h
  cases f with
  | some q => cases h
  | none =>
    cases fr with
    | top vals => cases h
    | beg vals m =>
      dsimp only at h
      split at h
      · next z => subst z; exact ⟨rfl, .inl ⟨vals, rfl⟩, (Option.some.inj h).symm⟩
      · cases h
    | row vals m rs r =>
      dsimp only at h
      split at h
      · next z => subst z; exact ⟨rfl, .inr ⟨vals, rs, r, rfl⟩, (Option.some.inj h).symm⟩
      · cases h
def Fr.done : Fr → Fr
  | .top vals => .top vals
  | .beg vals m => .top (vals ++ [(m, .rws [])])
  | .row vals m rs r => .top (vals ++ [(m, .rws (rs ++ [r]))])
theorem vinv_ended {cs : List Nat} {st st' : Sv} {n : Nat} {nm : Str} (h : vstep cs st (.mark n .ended nm) = some st') : st.f = none ∧ ((∃ vals, st.fr = .beg vals nm) ∨ ∃ vals rs r, st.fr = .row vals nm rs r) ∧ st' = ⟨st.fr.done, none, st.pl⟩ := by
  obtain ⟨fr, f, pl⟩ := st
  unfold vstep at h
  dsimp only at h
  cases f with
  | some q => cases h
  | none =>
    cases fr with
    | top vals => cases h
    | beg vals m =>
      dsimp only at h
      split at h
      · next z => subst z; exact ⟨rfl, .inl ⟨vals, rfl⟩, (Option.some.inj h).symm⟩
      · cases h
    | row vals m rs r =>
      dsimp only at h
      split at h
      · next z => subst z; exact ⟨rfl, .inr ⟨vals, rs, r, rfl⟩, (Option.some.inj h).symm⟩
      · cases h
def Fr.sz : Fr → Nat
  | .top vals => vals.length
  | .beg vals _ => vals.length + 1
  | .row vals _ rs r => vals.length + 2 + rs.length + r.length
def fsz : Option (Str × List Nat) → Nat
  | none => 0
  | some (_, s) => s.length + 1
def Sv.sz (st : Sv) : Nat := st.fr.sz + fsz st.f
theorem Fr.ks_len {fr : Fr} {ks : List Str} (h : fr.ks = some ks) : ks.length ≤ fr.sz := by
  cases fr with
  | top vals => cases h; rw [List.length_map]; exact Nat.le_refl _
  | beg vals m => cases h
  | row vals m rs r => cases h; rw [List.length_map]; show _ ≤ vals.length + 2 + rs.length + r.length; omega
theorem vstep_sz {cs : List Nat} {st st' : Sv} {x : Wst} (h : vstep cs st x = some st') : st'.sz ≤ st.sz + 1 := by
  cases x with
  | fin => cases h; exact Nat.le_succ _
  | choice a b => cases h; exact Nat.le_succ _
  | sign g n t =>
    cases t with
    | none => cases h; exact Nat.le_succ _
    | some nm =>
      obtain ⟨s, c, ks, e1, e2, e3, rfl⟩ := vinv_sign h
      obtain ⟨fr, f, pl⟩ := st
      dsimp only at e1; subst e1
      show fr.sz + ((s ++ [c]).length + 1) ≤ fr.sz + (s.length + 1) + 1
      rw [List.length_append]; simp <;> omega
  | mark n m nm =>
    obtain ⟨fr, f, pl⟩ := st
    cases m with
    | opened =>
      obtain ⟨ks, e1, e2, e3, rfl⟩ := vinv_opened h
      dsimp only at e1; subst e1
      exact Nat.le_refl _
    | closed =>
      obtain ⟨s, ks, e1, e2, rfl⟩ := vinv_closed h
      dsimp only at e1 e2; subst e1
      cases fr with
      | top vals => show (vals ++ [_]).length + 0 ≤ vals.length + (s.length + 1) + 1; simp <;> omega
      | beg vals m => cases e2
      | row vals m rs r => show vals.length + 2 + rs.length + (r ++ [_]).length + 0 ≤ vals.length + 2 + rs.length + r.length + (s.length + 1) + 1; simp <;> omega
    | begun =>
      obtain ⟨vals, e1, e2, e3, rfl⟩ := vinv_begun h
      dsimp only at e1 e2; subst e1; subst e2
      exact Nat.le_refl _
    | row =>
      obtain ⟨e1, e2, rfl⟩ := vinv_row h
      dsimp only at e1 e2; subst e1
      rcases e2 with ⟨vals, rfl⟩ | ⟨vals, rs, r, rfl⟩
      · show vals.length + 2 + 0 + 0 + 0 ≤ vals.length + 1 + 0 + 1; omega
      · show vals.length + 2 + (rs ++ [r]).length + 0 + 0 ≤ vals.length + 2 + rs.length + r.length + 0 + 1; simp <;> omega
    | ended =>
      obtain ⟨e1, e2, rfl⟩ := vinv_ended h
      dsimp only at e1 e2; subst e1
      rcases e2 with ⟨vals, rfl⟩ | ⟨vals, rs, r, rfl⟩
      · show (vals ++ [_]).length + 0 ≤ vals.length + 1 + 0 + 1; simp
      · show (vals ++ [_]).length + 0 ≤ vals.length + 2 + rs.length + r.length + 0 + 1; simp <;> omega
theorem runO_snoc {cs : List Nat} {x : Wst} : ∀ {L : List Wst} {st : Sv}, runO cs st (L ++ [x]) = (runO cs st L).bind fun st' => vstep cs st' x
  | [], st => by
    show (match vstep cs st x with | some st' => runO cs st' [] | none => none) = vstep cs st x
    cases vstep cs st x <;> rfl
  | y :: L, st => by
    show (match vstep cs st y with | some st' => runO cs st' (L ++ [x]) | none => none) = (match vstep cs st y with | some st' => runO cs st' L | none => none).bind _
    cases e : vstep cs st y with
    | none => rfl
    | some st' => exact runO_snoc
theorem runO_app {cs : List Nat} : ∀ {L M : List Wst} {st : Sv}, runO cs st (L ++ M) = (runO cs st L).bind fun st' => runO cs st' M
  | [], M, st => rfl
  | y :: L, M, st => by
    show (match vstep cs st y with | some st' => runO cs st' (L ++ M) | none => none) = (match vstep cs st y with | some st' => runO cs st' L | none => none).bind _
    cases e : vstep cs st y with
    | none => rfl
    | some st' => exact runO_app
theorem runO_pre {cs : List Nat} {L : List Wst} {st st2 : Sv} (h : runO cs st L = some st2) (i : Nat) {x : Wst} (hx : L[i]? = some x) : ∃ st1 st1', runO cs st (L.take i) = some st1 ∧ vstep cs st1 x = some st1' ∧ runO cs st (L.take (i + 1)) = some st1' := by
  rw [← List.take_append_drop (i + 1) L, runO_app] at h
  cases e : runO cs st (L.take (i + 1)) with
  | none => rw [e] at h; cases h
  | some st1' =>
    have e2 := e
    rw [take_snoc hx, runO_snoc] at e2
    cases e1 : runO cs st (L.take i) with
    | none => rw [e1] at e2; cases e2
    | some st1 => rw [e1] at e2; exact ⟨st1, st1', rfl, e2, rfl⟩
/-! ## how what is told lies in the heap -/
def fK : Option (Str × List Nat) → List (Key × V)
  | none => []
  | some (m, s) => [(Sum.inr m, .str (ofL s))]
def VSt (H0 H : Hp) (d : Addr) (hv : V) : Fr → Option (Str × List Nat) → Prop
  | .top vals, f => hv = .ref d ∧ ∃ kvs, H d = some (.dK (kvs ++ fK f)) ∧ Paired (RO1 H0 H d) kvs vals
  | .beg vals m, f => hv = .ref d ∧ f = none ∧ m ∉ vals.map (·.1) ∧ ∃ kvs l, H d = some (.dK (kvs ++ [(Sum.inr m, .ref l)])) ∧ H0 l = none ∧ H l = some (.lst []) ∧ Paired (RO1 H0 (hide H [l]) d) kvs vals
  | .row vals m rs r, f => m ∉ vals.map (·.1) ∧ ∃ kvs l as h, hv = .ref h ∧ H d = some (.dK (kvs ++ [(Sum.inr m, .ref l)])) ∧ H0 l = none ∧ H l = some (.lst ((as ++ [h]).map V.ref)) ∧ H0 h = none ∧ h ≠ d ∧ as.Nodup ∧ h ∉ as ∧
      (∀ a ∈ as, H0 a = none ∧ a ≠ d) ∧ Paired (fun a r => H a = some (.dK (rowK r))) as rs ∧ H h = some (.dK (rowK r ++ fK f)) ∧ Paired (RO1 H0 (hide H [l, h]) d) kvs vals
structure VS (H0 H : Hp) (d : Addr) (hv : V) (fr : Fr) (f : Option (Str × List Nat)) : Prop where
  kp : Keep H0 H
  d0 : H0 d = none
  st : VSt H0 H d hv fr f
  fo : ∀ m s, f = some (m, s) → ∀ ks, fr.ks = some ks → m ∉ ks
theorem VS.start {H0 : Hp} {d : Addr} (h : H0 d = none) : VS H0 (upd H0 d (.dK [])) d (.ref d) (.top []) none :=
  ⟨Keep.new h, h, ⟨rfl, [], upd_same, .nil⟩, fun m s e => by cases e⟩
theorem RO1.mono' {H0 H H' : Hp} {d : Addr} {kvs : List (Key × V)} {vals : List (Str × Vl)} (h : Paired (RO1 H0 H d) kvs vals) (hd : ∃ kvs, H d = some (.dK kvs)) (k : ∀ b o, b ≠ d → H b = some o → H' b = some o) : Paired (RO1 H0 H' d) kvs vals := Paired.monoP h fun _ _ z => z.mono hd k
theorem VS.field {H0 H : Hp} {d : Addr} {hv : V} {fr : Fr} {f : Option (Str × List Nat)} (h : VS H0 H d hv fr f) {ks : List Str} (hk : fr.ks = some ks) :
    ∃ ha kv0, hv = .ref ha ∧ H ha = some (.dK (kv0 ++ fK f)) ∧ kv0.length = ks.length ∧ (∀ n, n ∉ ks → valV kv0 (Sum.inr n : Key) = none) ∧ ∀ f', (∀ m s, f' = some (m, s) → m ∉ ks) → VS H0 (upd H ha (.dK (kv0 ++ fK f'))) d hv fr f' := by
  obtain ⟨kp, d0, st, fo⟩ := h
  cases fr with
  | top vals =>
    obtain ⟨rfl, kvs, hd, pr⟩ := st
    cases hk
    refine ⟨d, kvs, rfl, hd, by rw [List.length_map, Paired.len pr], fun n hn => val_RO1 pr n hn, fun f' hf => ⟨fun b o e => (upd_ne (ne_of_none e d0)).trans (kp b o e), d0, ⟨rfl, kvs, upd_same, RO1.mono' pr ⟨_, hd⟩ fun b o n e => (upd_ne n).trans e⟩, fun m s e ks' e' => by cases e'; exact hf m s e⟩⟩
  | beg vals m => cases hk
  | row vals m rs r =>
    obtain ⟨hm, kvs, l, as, h, rfl, hd, l0, hl, h0, hne, nd, na, fa, pa, hh, pr⟩ := st
    cases hk
    have hl' : l ≠ h := fun z => by rw [z, hh] at hl; cases hl
    have hdl : d ≠ l := fun z => by rw [z, hl] at hd; cases hd
    refine ⟨h, rowK r, rfl, hh, by unfold rowK; rw [List.length_map, List.length_map], fun n hn => by rw [val_row, (look_keys n r).mpr hn]; rfl, fun f' hf => ⟨fun b o e => (upd_ne (ne_of_none e h0)).trans (kp b o e), d0, ⟨hm, kvs, l, as, h, rfl, (upd_ne hne.symm).trans hd, l0, (upd_ne hl').trans hl, h0, hne, nd, na, fa, ?_, upd_same, ?_⟩, fun m s e ks' e' => by cases e'; exact hf m s e⟩⟩
    · refine Paired.of_at (Paired.len pa) fun i a r' h1 h2 => ?_
      obtain ⟨r2, e', z⟩ := Paired.at pa h1
      rw [h2] at e'; cases e'
      exact (upd_ne (fun z => na (by rw [← z]; exact mem_at h1))).trans z
    · refine RO1.mono' pr ⟨_, (hide_out (by simp [hdl, hne.symm])).trans hd⟩ fun b o n e => ?_
      by_cases hb : b ∈ [l, h]
      · rw [hide_in hb] at e; cases e
      · rw [hide_out hb] at e ⊢
        exact (upd_ne (fun z => hb (by simp [z]))).trans e
theorem VS.closed {H0 H : Hp} {d : Addr} {hv : V} {fr : Fr} {m : Str} {s : List Nat} (h : VS H0 H d hv fr (some (m, s))) {ks : List Str} (hk : fr.ks = some ks) : VS H0 H d hv (addF fr (m, ofL s)) none := by
  obtain ⟨kp, d0, st, fo⟩ := h
  refine ⟨kp, d0, ?_, fun _ _ e => by cases e⟩
  cases fr with
  | top vals =>
    obtain ⟨rfl, kvs, hd, pr⟩ := st
    refine ⟨rfl, kvs ++ [(Sum.inr m, .str (ofL s))], ?_, Paired.snoc pr ⟨rfl, rfl⟩⟩
    rw [hd]; simp [fK]
  | beg vals m => cases hk
  | row vals m2 rs r =>
    obtain ⟨hm, kvs, l, as, h, rfl, hd, l0, hl, h0, hne, nd, na, fa, pa, hh, pr⟩ := st
    refine ⟨hm, kvs, l, as, h, rfl, hd, l0, hl, h0, hne, nd, na, fa, pa, ?_, pr⟩
    rw [hh, rowK_snoc]; simp [fK]
theorem VS.begun {H0 H : Hp} {d l : Addr} {hv : V} {vals : List (Str × Vl)} (h : VS H0 H d hv (.top vals) none) {n : Str} (hn : n ∉ vals.map (·.1)) (nl : H l = none) :
    ∃ kvs, hv = .ref d ∧ H d = some (.dK kvs) ∧ kvs.length = vals.length ∧ VS H0 (upd (upd H l (.lst [])) d (.dK (putK kvs (Sum.inr n : Key) (.ref l)))) d hv (.beg vals n) none := by
  obtain ⟨kp, d0, ⟨rfl, kvs, hd, pr⟩, fo⟩ := h
  have e0 : kvs ++ fK none = kvs := List.append_nil _
  rw [e0] at hd
  have dl : d ≠ l := ne_of_none hd nl
  refine ⟨kvs, rfl, hd, Paired.len pr, ⟨fun b o e => (upd_ne (ne_of_none e d0)).trans ((upd_ne (ne_of_none (kp b o e) nl)).trans (kp b o e)), d0, ⟨rfl, rfl, hn, kvs, l, by rw [upd_same, putK_new _ (val_RO1 pr n hn)], Same.free kp nl, (upd_ne dl.symm).trans upd_same, ?_⟩, fun _ _ e => by cases e⟩⟩
  refine RO1.mono' pr ⟨_, hd⟩ fun b o n e => ?_
  have bl : b ≠ l := ne_of_none e nl
  rw [hide_out (by simp [bl]), upd_ne n, upd_ne bl]
  exact e
/-- a row more -/
theorem VS.row0 {H0 H : Hp} {d h : Addr} {hv : V} {vals : List (Str × Vl)} {m : Str} (h : VS H0 H d hv (.beg vals m) none) {h2 : Addr} (nh : H h2 = none) :
    ∃ kvs l xs, H d = some (.dK kvs) ∧ valV kvs (Sum.inr m : Key) = some (.ref l) ∧ H l = some (.lst xs) ∧ xs.length ≤ Fr.sz (.beg vals m) ∧ VS H0 (upd (upd H h2 (.dK [])) l (.lst (xs ++ [.ref h2]))) d (.ref h2) (addRow (.beg vals m) []) none := by
  obtain ⟨kp, d0, ⟨rfl, _, hm, kvs, l, hd, l0, hl, pr⟩, fo⟩ := h
  have dl : d ≠ l := fun z => by rw [z, hl] at hd; cases hd
  have dh : d ≠ h2 := ne_of_none hd nh
  have lh : l ≠ h2 := ne_of_none hl nh
  have hv := val_RO1 pr m hm
  refine ⟨_, l, [], hd, by rw [valV_snoc _ _ _ _ hv, if_pos rfl], hl, Nat.zero_le _, ⟨fun b o e => (upd_ne (ne_of_none e l0)).trans ((upd_ne (ne_of_none (kp b o e) nh)).trans (kp b o e)), d0,
    ⟨hm, kvs, l, [], h2, rfl, (upd_ne dl).trans ((upd_ne dh).trans hd), l0, upd_same, Same.free kp nh, dh.symm, List.nodup_nil, by simp, fun a ha => (by cases ha), .nil, (upd_ne lh.symm).trans upd_same, ?_⟩, fun _ _ e => by cases e⟩⟩
  refine RO1.mono' pr ⟨_, (hide_out (by simp [dl])).trans hd⟩ fun b o n e => ?_
  by_cases hb : b ∈ [l]
  · rw [hide_in hb] at e; cases e
  · rw [hide_out hb] at e
    have bl : b ≠ l := by simpa using hb
    have bh : b ≠ h2 := ne_of_none e nh
    rw [hide_out (by simp [bl, bh]), upd_ne bl, upd_ne bh]
    exact e
theorem VS.row1 {H0 H : Hp} {d : Addr} {hv : V} {vals : List (Str × Vl)} {m : Str} {rs : List Rw} {r : Rw} (h : VS H0 H d hv (.row vals m rs r) none) {h2 : Addr} (nh : H h2 = none) :
    ∃ kvs l xs, H d = some (.dK kvs) ∧ valV kvs (Sum.inr m : Key) = some (.ref l) ∧ H l = some (.lst xs) ∧ xs.length ≤ Fr.sz (.row vals m rs r) ∧ VS H0 (upd (upd H h2 (.dK [])) l (.lst (xs ++ [.ref h2]))) d (.ref h2) (addRow (.row vals m rs r) []) none := by
  obtain ⟨kp, d0, ⟨hm, kvs, l, as, h, rfl, hd, l0, hl, h0, hne, nd, na, fa, pa, hh, pr⟩, fo⟩ := h
  have dl : d ≠ l := fun z => by rw [z, hl] at hd; cases hd
  have hl' : l ≠ h := fun z => by rw [z, hh] at hl; cases hl
  have dh : d ≠ h2 := ne_of_none hd nh
  have lh : l ≠ h2 := ne_of_none hl nh
  have hh2 : h ≠ h2 := ne_of_none hh nh
  have hv := val_RO1 pr m hm
  have pl := Paired.len pa
  have al : ∀ a ∈ as, a ≠ l ∧ a ≠ h2 := fun a ha => by
    obtain ⟨i, hi⟩ := List.mem_iff_getElem?.mp ha
    obtain ⟨r', _, z⟩ := Paired.at pa hi
    exact ⟨fun e => (by rw [e, hl] at z; cases z), ne_of_none z nh⟩
  refine ⟨_, l, _, hd, by rw [valV_snoc _ _ _ _ hv, if_pos rfl], hl, by rw [List.length_map, List.length_append, pl]; show rs.length + 1 ≤ vals.length + 2 + rs.length + r.length; omega, ⟨fun b o e => (upd_ne (ne_of_none e l0)).trans ((upd_ne (ne_of_none (kp b o e) nh)).trans (kp b o e)), d0,
    ⟨hm, kvs, l, as ++ [h], h2, rfl, (upd_ne dl).trans ((upd_ne dh).trans hd), l0, by rw [upd_same]; simp, Same.free kp nh, dh.symm, ?_, ?_, ?_, ?_, (upd_ne lh.symm).trans upd_same, ?_⟩, fun _ _ e => by cases e⟩⟩
  · rw [List.nodup_append]
    refine ⟨nd, by simp, fun x hx y hy e => ?_⟩
    rw [List.mem_singleton] at hy
    subst hy; subst e; exact na hx
  · intro z
    rcases List.mem_append.mp z with z | z
    · exact (al _ z).2 rfl
    · rw [List.mem_singleton] at z; exact hh2 z.symm
  · intro a ha
    rcases List.mem_append.mp ha with ha | ha
    · exact fa a ha
    · rw [List.mem_singleton] at ha; subst ha; exact ⟨h0, hne⟩
  · refine Paired.snoc (Paired.of_at pl fun i a r' h1 h2 => ?_) ?_
    · obtain ⟨r2, e', z⟩ := Paired.at pa h1
      rw [h2] at e'; cases e'
      obtain ⟨n1, n2⟩ := al a (mem_at h1)
      exact (upd_ne n1).trans ((upd_ne n2).trans z)
    · have hh' : H h = some (.dK (rowK r)) := by rw [hh]; simp [fK]
      exact (upd_ne hl'.symm).trans ((upd_ne hh2).trans hh')
  · refine RO1.mono' pr ⟨_, (hide_out (by simp [dl, hne.symm])).trans hd⟩ fun b o n e => ?_
    by_cases hb : b ∈ [l, h]
    · rw [hide_in hb] at e; cases e
    · rw [hide_out hb] at e
      have bl : b ≠ l := fun z => hb (by simp [z])
      have bh : b ≠ h2 := ne_of_none e nh
      rw [hide_out (by simp [bl, bh]), upd_ne bl, upd_ne bh]
      exact e
theorem VS.row {H0 H : Hp} {d : Addr} {hv : V} {fr : Fr} {m : Str} (h : VS H0 H d hv fr none) (hf : (∃ vals, fr = .beg vals m) ∨ ∃ vals rs r, fr = .row vals m rs r) {h2 : Addr} (nh : H h2 = none) :
    ∃ kvs l xs, H d = some (.dK kvs) ∧ valV kvs (Sum.inr m : Key) = some (.ref l) ∧ H l = some (.lst xs) ∧ xs.length ≤ fr.sz ∧ VS H0 (upd (upd H h2 (.dK [])) l (.lst (xs ++ [.ref h2]))) d (.ref h2) (addRow fr []) none := by
  rcases hf with ⟨vals, rfl⟩ | ⟨vals, rs, r, rfl⟩
  · exact VS.row0 (h := d) h nh
  · exact VS.row1 h nh
theorem VS.ended {H0 H : Hp} {d : Addr} {hv : V} {fr : Fr} {m : Str} (h : VS H0 H d hv fr none) (hf : (∃ vals, fr = .beg vals m) ∨ ∃ vals rs r, fr = .row vals m rs r) : VS H0 H d (.ref d) fr.done none := by
  obtain ⟨kp, d0, st, fo⟩ := h
  refine ⟨kp, d0, ?_, fun _ _ e => by cases e⟩
  rcases hf with ⟨vals, rfl⟩ | ⟨vals, rs, r, rfl⟩
  · obtain ⟨rfl, _, hm, kvs, l, hd, l0, hl, pr⟩ := st
    have dl : d ≠ l := fun z => by rw [z, hl] at hd; cases hd
    refine ⟨rfl, kvs ++ [(Sum.inr m, .ref l)], by rw [hd]; simp [fK], Paired.snoc (RO1.mono' pr ⟨_, (hide_out (by simp [dl])).trans hd⟩ fun b o n e => hide_same _ _ _ _ e) ⟨rfl, l, [], rfl, l0, hl, List.nodup_nil, fun a ha => (by cases ha), .nil⟩⟩
  · obtain ⟨hm, kvs, l, as, h, rfl, hd, l0, hl, h0, hne, nd, na, fa, pa, hh, pr⟩ := st
    have dl : d ≠ l := fun z => by rw [z, hl] at hd; cases hd
    refine ⟨rfl, kvs ++ [(Sum.inr m, .ref l)], by rw [hd]; simp [fK], Paired.snoc (RO1.mono' pr ⟨_, (hide_out (by simp [dl, hne.symm])).trans hd⟩ fun b o n e => hide_same _ _ _ _ e) ⟨rfl, l, as ++ [h], rfl, l0, hl, ?_, ?_, Paired.snoc pa ?_⟩⟩
    · rw [List.nodup_append]
      refine ⟨nd, by simp, fun x hx y hy e => ?_⟩
      rw [List.mem_singleton] at hy
      subst hy; subst e; exact na hx
    · intro a ha
      rcases List.mem_append.mp ha with ha | ha
      · exact fa a ha
      · rw [List.mem_singleton] at ha; subst ha; exact ⟨h0, hne⟩
    · rw [hh]; simp [fK]
theorem putK_lst {kvs : List (Key × V)} {k : Key} {v u : V} (h : valV kvs k = none) : putK (kvs ++ [(k, v)]) k u = kvs ++ [(k, u)] := by
  have hk : ∀ p ∈ kvs, p.1 ≠ k := fun p hp e => by
    have := (valV_mem k kvs).mpr (List.mem_map.mpr ⟨p, hp, e⟩)
    rw [h] at this; cases this
  unfold putK
  rw [valV_any, valV_snoc _ _ _ _ h, if_pos rfl, if_pos (show (some v).isSome = true from rfl), List.map_append]
  congr 1
  · conv => rhs; rw [← List.map_id kvs]
    apply List.map_congr_left
    intro p hp
    exact if_neg (hk p hp)
  · exact congrArg (fun z => [z]) (if_pos rfl)
def Wst.kd : Wst → Str
  | .fin => "end"
  | .sign _ _ _ => "sign"
  | .choice _ _ => "choice"
  | .mark _ _ _ => "mark"
theorem Wst.kd_at (y : Wst) : atI y.vs 0 = some (.str y.kd) := by cases y <;> rfl
/-- while a way's values are told -/
def voP (H : Hp) (x l d : Addr) (tx : Str) (W : Wk) (tr : List Nat) (i : Nat) (σ : L2.St) (H' : Hp) : Prop := ∃ hv st v6 v7, σ = [some (.ref x), some (.ref l), some (.str tx), some (.ref d), some hv, some (.int (st.pl : Nat)), v6, v7] ∧ VS H H' d hv st.fr st.f ∧
  runO tx.cps.toList ⟨.top [], none, 0⟩ ((wOf W tr).take i) = some st ∧ st.sz ≤ i
theorem voP.next {H H2 : Hp} {x l d : Addr} {tx : Str} {W : Wk} {tr : List Nat} {i : Nat} {st st' : Sv} {y : Wst} (hs : vstep tx.cps.toList st y = some st') (hr : runO tx.cps.toList ⟨.top [], none, 0⟩ ((wOf W tr).take (i + 1)) = some st') (hz : st.sz ≤ i) (fr : Fr) (f : Option (Str × List Nat)) (pl : Nat) (e : st' = ⟨fr, f, pl⟩) (hv : V) (v6 v7 : Option V) (h : VS H H2 d hv fr f) {pv : Int} (hp : pv = (pl : Nat)) :
    voP H x l d tx W tr (i + 1) [some (.ref x), some (.ref l), some (.str tx), some (.ref d), some hv, some (.int pv), v6, v7] H2 := by
  subst e; subst hp
  exact ⟨hv, _, v6, v7, rfl, h, hr, Nat.le_trans (vstep_sz hs) (Nat.succ_le_succ hz)⟩
theorem wOf_at {W : Wk} {tr : List Nat} {i s : Nat} {y : Wst} (h : tr[i]? = some s) (hy : W[s]? = some y) : (wOf W tr)[i]? = some y := by
  unfold wOf
  rw [List.getElem?_map, h]
  show some (W.getD s .fin) = _
  rw [List.getD_eq_getElem?_getD, hy]; rfl
theorem wOf_len (W : Wk) (tr : List Nat) : (wOf W tr).length = tr.length := List.length_map ..
end Lf

/-! # LfDef -/
set_option Elab.async false
set_option linter.all false
set_option maxRecDepth 100000
set_option maxHeartbeats 4000000
namespace Lf
open PySem L2
/-! ## a def whose last parameter has a default -/
structure Dd (K : PySem.W.Frag) (mg : Str → Option Value) (x : Str) (st : Stmt) (ps : List Str) (dv : V) : Prop where
  ex : ∃ (f : Addr) (fd : FuncData), FunD K x x (defArgs st) (defBody st) (defScope st) [dv] [] f fd ∧ mg x = some (.ref f) ∧ Binds K fd ps [] ∧ ∃ ds, Vals [dv] ds ∧ Binds K fd ps ds
theorem FunD.okN {P : Program} {w : World} {K : PySem.W.Frag} {mg : Str → Option Value} {base : Heap} {x qual : Str} {st : Stmt} {dvs : List V} {kws : List (Str × V)} {f : Addr} {fd : FuncData} {N ps : List Str} {k : Nat} {sp : Sp}
    (F : FunD K x qual (defArgs st) (defBody st) (defScope st) dvs kws f fd) (S : FnScope N ps (defScope st)) (len : ∀ vs H Q E, sp vs H Q E → vs.length = ps.length)
    (hb : ∀ (cdv : Value) (A : Around) (outer : List Env) (s : Shared) (H : Hp) (vs : List V) (Q : VK) (E : XK), Room k (A.deeper (PyProof.Rows.envOfC qual (defScope st) s.heap.objs.size f cdv)) → sp vs H Q E →
      ∃ t, PSs (cxOf CX0 P w K mg base N qual (defScope st) f cdv A outer s H E).nox (defBody st) t ∧ t { nx := fun _ H' => Q .non H', rt := Q } (L2.start N vs) H) : FnOk P w K mg base CX0 (k + 1) f fd ps sp :=
  F.ok S len fun cdv A outer s H vs Q E hr h => by
    obtain ⟨t, h1, h2⟩ := hb cdv A outer s H vs Q E hr h
    exact ⟨t, h1.nox, h2⟩
structure Dnd (P : Program) (w : World) (K : PySem.W.Frag) (mg : Str → Option Value) (base : Heap) (CX : CXT) (k : Nat) (x : Str) (sp : Sp) (dv : V) : Prop where
  ex : ∃ (f : Addr) (fd : FuncData) (ps : List Str), FnOk P w K mg base CX k f fd ps sp ∧ mg x = some (.ref f) ∧ PySem.W.keepIn K (.ref f) = true ∧ Binds K fd ps [] ∧ ∃ ds, Vals [dv] ds ∧ Binds K fd ps ds
theorem Dnd.of {P : Program} {w : World} {K : PySem.W.Frag} {mg : Str → Option Value} {base : Heap} {CX : CXT} {k : Nat} {x : Str} {st : Stmt} {ps : List Str} {sp : Sp} {dv : V} (D : Dd K mg x st ps dv)
    (h : ∀ f fd, FunD K x x (defArgs st) (defBody st) (defScope st) [dv] [] f fd → FnOk P w K mg base CX k f fd ps sp) : Dnd P w K mg base CX k x sp dv := by
  obtain ⟨f, fd, F, m, b, b2⟩ := D.ex
  exact ⟨f, fd, ps, h f fd F, m, F.kp, b, b2⟩
theorem Dnd.dn {P : Program} {w : World} {K : PySem.W.Frag} {mg : Str → Option Value} {base : Heap} {CX : CXT} {k : Nat} {x : Str} {sp : Sp} {dv : V} (D : Dnd P w K mg base CX k x sp dv) : Dn P w K mg base CX k x sp := by
  obtain ⟨f, fd, ps, F, m, kp, b, _⟩ := D.ex
  exact ⟨f, fd, ps, F, m, kp, b⟩
section
variable {X : Cx} {k j : Nat} {x : Str} {sp : Sp} {p pos : Pos} {e : Expr} {es : List Expr} {t : TA} {dv : V}
theorem cDd (c : Dnd X.prog X.w X.K X.mg X.base CX0 k x sp dv) (hr : Room j X.A) (hk : k ≤ j) (hg : Gl X x) (ha : PA X (e :: es) t)
    (hdb : (x == ("__debug__" : Str)) = false := by decide) (he : starEach (e :: es) X.env = (false, eval e X.env) :: starEach es X.env := by rfl) (hpl : (backTo pos (starEach es X.env)).any (·.1) = false := by rfl) :
    PE X (.Call (.Name x p) (e :: es) [] pos) (tCall sp [dv] E0 t) := by
  obtain ⟨f, fd, ps, F, hm, kp, _, ds, r, b⟩ := c.ex
  exact pe_call F (hr.mono hk) hg hm kp b r pass0 ha hdb he hpl
end
end Lf

/-! # LfSr2 -/
set_option Elab.async false
set_option linter.all false
set_option maxRecDepth 100000
set_option maxHeartbeats 4000000
namespace Lf
open PySem L2
/-! ## the search, in the heap -/
theorem hideK {H H' : Hp} {l : List Addr} (k : ∀ b o, b ∉ l → H b = some o → H' b = some o) : Keep (hide H l) (hide H' l) := fun b o e => by
  by_cases h : b ∈ l
  · rw [hide_in h] at e; cases e
  · rw [hide_out h] at e ⊢; exact k b o h e
def LeftR (K : PySem.W.Frag) (G : Hp) (v : V) (e : En) : Prop := ∃ p lv, v = .ref p ∧ SqT K G p [.int (e.s : Nat), .int (e.a : Nat), lv] ∧ LinkR K G lv e.pre.reverse
theorem LeftR.mono {K : PySem.W.Frag} {G G' : Hp} {v : V} {e : En} (k : Same G G') (h : LeftR K G v e) : LeftR K G' v e := by
  obtain ⟨p, lv, h1, h2, h3⟩ := h
  exact ⟨p, lv, h1, k.tup h2, h3.mono k⟩
theorem ToldR.mono {H0 H H' : Hp} {ds : List Addr} {d : Addr} {vals : List (Str × Vl)} (h : ToldR H0 H ds d vals) (k : Keep H H') : ToldR H0 H' ds d vals := by
  obtain ⟨h0, kvs, hd, pr⟩ := h
  exact ⟨h0, kvs, k _ _ hd, Paired.monoP pr fun _ _ z => z.mono k⟩
theorem ToldR.more {H0 H H' : Hp} {ds : List Addr} {d d2 : Addr} {vals : List (Str × Vl)} (h : ToldR H0 H ds d vals) (k : Keep H H') (hd2 : H d2 = none) : ToldR H0 H' (ds ++ [d2]) d vals := by
  obtain ⟨h0, kvs, hd, pr⟩ := h
  exact ⟨h0, kvs, k _ _ hd, Paired.monoP pr fun _ _ z => z.more k hd2⟩
/-- a new reading, none of whose rows is among the dicts so far -/
theorem ToldR.of {H0 Hc H' G : Hp} {ds : List Addr} {d : Addr} {kvs : List (Key × V)} {vals : List (Str × Vl)} (h00 : ∀ a, Hc a = none → H0 a = none) (hd0 : Hc d = none) (hd : G d = some (.dK kvs)) (hg : ∀ a o, Hc a = none → H' a = some o → G a = some o)
    (hds : ∀ a ∈ ds, Hc a ≠ none) (pr : Paired (RO1 Hc H' d) kvs vals) : ToldR H0 G (ds ++ [d]) d vals := by
  refine ⟨h00 _ hd0, kvs, hd, Paired.monoP pr fun p q z => ?_⟩
  obtain ⟨h1, h2⟩ := z
  refine ⟨h1, ?_⟩
  obtain ⟨n, vl⟩ := q
  cases vl with
  | tx s => exact h2
  | rws rs =>
    obtain ⟨l, as, e, f, hl, nd, fa, pa⟩ := h2
    refine ⟨l, as, e, h00 _ f, hg _ _ f hl, nd, fun a ha => ⟨h00 _ (fa a ha).1, fun z => ?_⟩, Paired.of_at (Paired.len pa) fun i a r e1 e2 => ?_⟩
    · rcases List.mem_append.mp z with z | z
      · exact hds a z (fa a ha).1
      · rw [List.mem_singleton] at z; exact (fa a ha).2 z
    · obtain ⟨r2, e3, z⟩ := Paired.at pa e1
      rw [e2] at e3; cases e3
      exact hg _ _ (fa a (mem_at e1)).1 z
/-- a way, told -/
def ToldW (cs : List Nat) (H0 G : Hp) (ds : List Addr) (d : Addr) (w : List Wst) : Prop := ∃ vals e, runO cs ⟨.top [], none, 0⟩ w = some ⟨.top vals, none, e⟩ ∧ ToldR H0 G ds d vals
structure RdS (K : PySem.W.Frag) (C : Addr) (H : Hp) (x g F L : Addr) (cs : List Nat) (b : B) (fnd : List (List Wst)) (left : List En) (ds : List Addr) (H' : Hp) : Prop where
  kp : Keep H H'
  f0 : H F = none
  l0 : H L = none
  fl : F ≠ L
  wk : WalkAt K C (hide H' [F, L]) x b
  gd : GoodAt cs b.1 (hide H' [F, L]) g
  hF : H' F = some (.lst (ds.map V.ref))
  hL : ∃ lvs, H' L = some (.lst lvs) ∧ Paired (LeftR K (hide H' [F, L])) lvs left
  tl : Paired (ToldW cs H (hide H' [F, L]) ds) ds fnd
section
variable {K : PySem.W.Frag} {C : Addr} {H H' : Hp} {x g F L : Addr} {cs : List Nat} {b : B} {fnd : List (List Wst)} {left : List En} {ds : List Addr}
theorem RdS.keep (h : RdS K C H x g F L cs b fnd left ds H') {H2 : Hp} (k : Keep H' H2) : RdS K C H x g F L cs b fnd left ds H2 := by
  obtain ⟨kp, f0, l0, fl, wk, gd, hF, ⟨lvs, hL, pL⟩, tl⟩ := h
  have kk : Keep (hide H' [F, L]) (hide H2 [F, L]) := hideK fun b o _ e => k b o e
  exact ⟨kp.trans k, f0, l0, fl, wk.mono kk.same, gd.mono kk.same, k _ _ hF, ⟨lvs, k _ _ hL, Paired.monoP pL fun _ _ z => z.mono kk.same⟩, Paired.monoP tl fun _ _ ⟨vals, e, r, t⟩ => ⟨vals, e, r, t.mono kk⟩⟩
theorem RdS.same (h : RdS K C H x g F L cs b fnd left ds H') : Same (hide H' [F, L]) H' := hide_same _ _
/-- what is left, written anew -/
theorem RdS.put (h : RdS K C H x g F L cs b fnd left ds H') {lvs : List V} {left2 : List En} (p : Paired (LeftR K (hide H' [F, L])) lvs left2) : RdS K C H x g F L cs b fnd left2 ds (upd H' L (.lst lvs)) := by
  obtain ⟨kp, f0, l0, fl, wk, gd, hF, _, tl⟩ := h
  have kk : Keep (hide H' [F, L]) (hide (upd H' L (.lst lvs)) [F, L]) := hideK fun b o n e => (upd_ne fun z => n (by simp [z])).trans e
  exact ⟨fun b o e => (upd_ne (ne_of_none e l0)).trans (kp b o e), f0, l0, fl, wk.mono kk.same, gd.mono kk.same, (upd_ne fl).trans hF, ⟨lvs, upd_same, Paired.monoP p fun _ _ z => z.mono kk.same⟩, Paired.monoP tl fun _ _ ⟨vals, e, r, t⟩ => ⟨vals, e, r, t.mono kk⟩⟩
/-- the last one taken off -/
theorem RdS.pop {e : En} (h : RdS K C H x g F L cs b fnd (left ++ [e]) ds H') : ∃ lvs v, H' L = some (.lst lvs) ∧ lvs[lvs.length - 1]? = some v ∧ lvs.length = left.length + 1 ∧ LeftR K (hide H' [F, L]) v e ∧ RdS K C H x g F L cs b fnd left ds (upd H' L (.lst lvs.dropLast)) := by
  obtain ⟨lvs, hL, pL⟩ := h.hL
  have hl := Paired.len pL
  rw [List.length_append, List.length_singleton] at hl
  obtain ⟨v, hv, rv⟩ := Paired.ats pL (i := left.length) (y := e) (by simp)
  refine ⟨lvs, v, hL, by rw [hl]; exact hv, hl, rv, h.put ?_⟩
  rw [List.dropLast_eq_take, hl]
  refine Paired.of_at (by rw [List.length_take]; omega) fun i a y e1 e2 => ?_
  have hi := at_lt e2
  rw [List.getElem?_take, if_pos (by omega)] at e1
  obtain ⟨y2, e3, z⟩ := Paired.at pL e1
  rw [List.getElem?_append_left hi, e2] at e3
  cases e3
  exact z
theorem RdS.push {e : En} {v : V} (h : RdS K C H x g F L cs b fnd left ds H') (r : LeftR K (hide H' [F, L]) v e) : ∃ lvs, H' L = some (.lst lvs) ∧ lvs.length = left.length ∧ RdS K C H x g F L cs b fnd (left ++ [e]) ds (upd H' L (.lst (lvs ++ [v]))) := by
  obtain ⟨lvs, hL, pL⟩ := h.hL
  exact ⟨lvs, hL, Paired.len pL, h.put (Paired.snoc pL r)⟩
/-- a thing told anew -/
theorem RdS.newT (h : RdS K C H x g F L cs b fnd left ds H') {p : Addr} {o : HO} (np : H' p = none) : RdS K C H x g F L cs b fnd left ds (upd H' p o) ∧ hide (upd H' p o) [F, L] p = some o ∧ Keep (hide H' [F, L]) (hide (upd H' p o) [F, L]) := by
  have pF : p ≠ F := fun z => by rw [z, h.hF] at np; cases np
  obtain ⟨lvs, hL, _⟩ := h.hL
  have pL : p ≠ L := fun z => by rw [z, hL] at np; cases np
  exact ⟨h.keep (Keep.new np), by rw [hide_out (by simp [pF, pL])]; exact upd_same, hideK fun b o _ e => (Keep.new np) b o e⟩
theorem RdS.start {H2 : Hp} (k : Keep H H2) (wk : WalkAt K C H2 x b) (gd : GoodAt cs b.1 H2 g) (nF : H2 F = none) (nL : (upd H2 F (.lst [])) L = none) : RdS K C H x g F L cs b [] [] [] (upd (upd H2 F (.lst [])) L (.lst [])) := by
  have nL2 : H2 L = none := Same.free (Keep.new nF).same nL
  have kk : Keep H2 (hide (upd (upd H2 F (.lst [])) L (.lst [])) [F, L]) := fun b o e => by
    have bF := ne_of_none e nF
    have bL := ne_of_none e nL2
    rw [hide_out (by simp [bF, bL]), upd_ne bL, upd_ne bF]; exact e
  have fl : F ≠ L := ne_of_none upd_same nL
  exact ⟨k.trans ((Keep.new nF).trans (Keep.new nL)), Same.free k.same nF, Same.free k.same nL2, fl, wk.mono kk.same, gd.mono kk.same, (upd_ne fl).trans upd_same, ⟨[], upd_same, .nil⟩, .nil⟩
/-- a reading more -/
theorem RdS.more {d : Addr} {kvs : List (Key × V)} {vals : List (Str × Vl)} {H2 : Hp} {w : List Wst} {e : Nat} (h : RdS K C H x g F L cs b fnd left ds H') (k : Keep H' H2) (hd0 : H' d = none) (hd : H2 d = some (.dK kvs)) (pr : Paired (RO1 H' H2 d) kvs vals)
    (hr : runO cs ⟨.top [], none, 0⟩ w = some ⟨.top vals, none, e⟩) : H2 F = some (.lst (ds.map V.ref)) ∧ RdS K C H x g F L cs b (fnd ++ [w]) left (ds ++ [d]) (upd H2 F (.lst (ds.map V.ref ++ [.ref d]))) := by
  have h2 := h.keep k
  refine ⟨h2.hF, ?_⟩
  have hk := h.kp
  have hFs := h.hF
  obtain ⟨lvs0, hL0, _⟩ := h.hL
  have dF : d ≠ F := fun z => by rw [z, hFs] at hd0; cases hd0
  have dL : d ≠ L := fun z => by rw [z, hL0] at hd0; cases hd0
  have hds : ∀ a ∈ ds, H' a ≠ none := fun a ha z => by
    obtain ⟨i, hi⟩ := List.mem_iff_getElem?.mp ha
    obtain ⟨w', _, ⟨_, _, _, _, _, hx, _⟩⟩ := Paired.at h.tl hi
    have := h.same _ _ hx
    rw [z] at this; cases this
  have kk : Keep (hide H' [F, L]) (hide (upd H2 F (.lst (ds.map V.ref ++ [.ref d]))) [F, L]) := hideK fun b o n e => (upd_ne fun z => n (by simp [z])).trans (k b o e)
  have kk2 : Keep (hide H2 [F, L]) (hide (upd H2 F (.lst (ds.map V.ref ++ [.ref d]))) [F, L]) := hideK fun b o n e => (upd_ne fun z => n (by simp [z])).trans e
  have hgen : ∀ a o, H' a = none → H2 a = some o → hide (upd H2 F (.lst (ds.map V.ref ++ [.ref d]))) [F, L] a = some o := fun a o z e => by
    have aF : a ≠ F := fun y => by rw [y, hFs] at z; cases z
    have aL : a ≠ L := fun y => by rw [y, hL0] at z; cases z
    rw [hide_out (by simp [aF, aL]), upd_ne aF]
    exact e
  obtain ⟨kp, f0, l0, fl, wk, gd, hF, ⟨lvs, hL, pL⟩, _⟩ := h2
  refine ⟨fun b o e => (upd_ne (ne_of_none e f0)).trans (kp b o e), f0, l0, fl, wk.mono kk2.same, gd.mono kk2.same, by rw [upd_same, List.map_append]; rfl, ⟨lvs, (upd_ne fl.symm).trans hL, Paired.monoP pL fun _ _ z => z.mono kk2.same⟩, Paired.snoc ?_ ?_⟩
  · refine Paired.monoP h.tl fun _ _ ⟨vals, e, r, t⟩ => ⟨vals, e, r, t.more kk ?_⟩
    rw [hide_out (by simp [dF, dL])]; exact hd0
  · exact ⟨vals, e, hr, ToldR.of (fun a z => Same.free hk.same z) hd0 (hgen _ _ hd0 hd) hgen hds pr⟩
end
/-- while readings are found -/
def rdP (K : PySem.W.Frag) (C : Addr) (H : Hp) (f x g F L : Addr) (tx : Str) (most : Int) (b : B) (m : Nat) (σ : L2.St) (H' : Hp) : Prop := ∃ fnd left ds v7 v8 v9 v10, σ = [some (.ref f), some (.str tx), some (.int most), some (.ref x), some (.ref g), some (.ref F), some (.ref L), v7, v8, v9, v10] ∧
  RdS K C H x g F L tx.cps.toList b fnd left ds H' ∧ SInv tx.cps.toList b.1 b.2 fnd left ∧ (fnd.length : Int) ≤ most ∧ m = wgtAll tx.cps.toList b.1 left
/-- while a step's next ones are put to what is left -/
def rdL (K : PySem.W.Frag) (C : Addr) (H : Hp) (f x g F L p q sp : Addr) (tx : Str) (most : Int) (b : B) (fnd : List (List Wst)) (ds : List Addr) (left : List En) (e : En) (ls : List Nat) (lv : V) (c : Addr) (cvs : List V) (σ : L2.St) (H' : Hp) : Prop := ∃ v10, σ = [some (.ref f), some (.str tx), some (.int most), some (.ref x), some (.ref g), some (.ref F), some (.ref L), some (.ref p), some (.ref sp), some (.ref q), v10] ∧
  RdS K C H x g F L tx.cps.toList b fnd (left ++ (ls.map fun n => (⟨n, e.a, e.pre ++ [e.s]⟩ : En)).filter fun e' => decide (ways tx.cps.toList b.1 e'.s e'.a ≠ [])) ds H' ∧
  SqT K (hide H' [F, L]) p [.int (e.s : Nat), .int (e.a : Nat), lv] ∧ LinkR K (hide H' [F, L]) (.ref q) (e.pre ++ [e.s]).reverse ∧ SqT K (hide H' [F, L]) c cvs
theorem SInv.way {cs : List Nat} {W : Wk} {first : Nat} {fnd : List (List Wst)} {w : List Wst} {left : List En} (h : SInv cs W first (fnd ++ [w]) left) : w ∈ ways cs W first 0 := by
  rw [← h.all]
  simp
theorem way_vals {cs : List Nat} {ps : List Pc} (ok : okF ps) {w : List Wst} (h : w ∈ ways cs (formB ps).1 (formB ps).2 0) : ∃ vals, runO cs ⟨.top [], none, 0⟩ w = some ⟨.top vals, none, cs.length⟩ := by
  have := List.mem_map_of_mem (f := runO cs ⟨.top [], none, 0⟩) h
  rw [form_ways ok] at this
  obtain ⟨vals, _, e⟩ := List.mem_map.mp this
  exact ⟨vals, e.symm⟩
/-- the readings told are the first ones -/
theorem told_first {cs : List Nat} {ps : List Pc} (ok : okF ps) {H0 G : Hp} {ds : List Addr} {fnd : List (List Wst)} {m : Nat} (h : Paired (ToldW cs H0 G ds) ds fnd) (e : fnd = (ways cs (formB ps).1 (formB ps).2 0).take m) : Paired (ToldR H0 G ds) ds ((readsP ps cs).take m) := by
  have hw := congrArg (List.take m) (form_ways (cs := cs) ok)
  rw [← List.map_take, ← List.map_take, ← e] at hw
  have hl := congrArg List.length hw
  rw [List.length_map, List.length_map] at hl
  refine Paired.of_at ((Paired.len h).trans hl) fun i d vals h1 h2 => ?_
  obtain ⟨w, hw2, vs, e2, r, t⟩ := Paired.at h h1
  have e3 := congrArg (·[i]?) hw
  rw [List.getElem?_map, List.getElem?_map, hw2, h2] at e3
  have e4 := Option.some.inj e3
  rw [r] at e4
  have e5 := Option.some.inj e4
  have e6 : vs = vals := by injection e5 with a; injection a
  rw [← e6]; exact t
end Lf

/-! # LfK5 -/
set_option Elab.async false
set_option linter.all false
set_option maxRecDepth 100000
set_option maxHeartbeats 4000000
namespace Lf
open PySem L2
/-! ## small forms -/
def fewStep (st : Nat × List Pc) : Pc → Nat × List Pc
  | .p0 p => (st.1, st.2 ++ [.p0 p])
  | .rows nm ips gap lo hi => (st.1 + 1, st.2 ++ [if st.1 = 0 then .rows nm (ips.take 2) gap (min lo 2) (min hi 2) else .p0 (.ask nm "ab" 0 2)])
def fewF (ps : List Pc) : Nat × List Pc := ps.foldl fewStep (0, [])
theorem fewF_snoc {ps : List Pc} {i : Nat} {p : Pc} (h : ps[i]? = some p) : fewF (ps.take (i + 1)) = fewStep (fewF (ps.take i)) p := by
  unfold fewF
  rw [take_snoc h, List.foldl_append]; rfl
def fewP (ns : List Int) : List Pc := (fewF (piecesP ns 4 2)).2
def smallP (m : Int) : Pc → Prop
  | .p0 p => small0 m p
  | .rows nm ips _ _ hi => ips.length ≤ 2 ∧ hi ≤ 2 ∧ nm.length ≤ 100 ∧ ∀ p ∈ ips, small0 m p
def wgtP : Pc → Nat
  | .p0 _ => 3
  | .rows .. => 91
def wgtF : List Pc → Nat
  | [] => 1
  | p :: ps => wgtP p * wgtF ps
theorem wgtF_app (a b : List Pc) : wgtF (a ++ b) = wgtF a * wgtF b := by
  induction a with
  | nil => simp [wgtF]
  | cons p a ih => show wgtP p * wgtF (a ++ b) = wgtP p * wgtF a * wgtF b; rw [ih, Nat.mul_assoc]
theorem wgtF_pos (a : List Pc) : 1 ≤ wgtF a := by
  induction a with
  | nil => exact Nat.le_refl _
  | cons p a ih =>
    show 1 ≤ wgtP p * wgtF a
    have : 1 ≤ wgtP p := by cases p <;> simp [wgtP]
    exact Nat.mul_pos this ih
theorem wgtF_take (a : List Pc) (i : Nat) : wgtF (a.take i) ≤ wgtF a := by
  conv => rhs; rw [← List.take_append_drop i a, wgtF_app]
  exact Nat.le_mul_of_pos_right _ (wgtF_pos _)
/-- what a piece of a drawn form is -/
def drawnP (m : Int) : Pc → Prop
  | .p0 p => small0 m p
  | .rows nm ips _ _ _ => nm.length ≤ 100 ∧ ∀ p ∈ ips, small0 m p
theorem nmO_short : ∀ n ∈ nmO, n.length ≤ 100 := by decide +kernel
theorem nmI_short : ∀ n ∈ nmI, n.length ≤ 100 := by decide +kernel
theorem nmI_at (j : Nat) : (nmI.getD j Str.empty).length ≤ 100 := by
  rw [List.getD_eq_getElem?_getD]
  cases e : nmI[j]? with
  | none => decide
  | some n => exact nmI_short n (mem_at e)
theorem askP_small (ns : List Int) (k : Int) {nm : Str} {most : Int} (h : 0 ≤ most) (hn : nm.length ≤ 100) : small0 most (askP ns k nm most) := by
  unfold askP small0
  dsimp only
  refine ⟨?_, hn⟩
  have h1 := Int.emod_nonneg (draw ns k / 10) (show most + 1 ≠ 0 by omega)
  have h2 := Int.emod_lt_of_pos (draw ns k / 10) (show 0 < most + 1 by omega)
  have h3 := Int.emod_lt_of_pos (draw ns k / 60) (show 0 < most + 1 - draw ns k / 10 % (most + 1) by omega)
  omega
theorem pieceP_drawn (ns : List Int) (k : Int) {nm : Str} {most : Int} (h : 0 ≤ most) (hn : nm.length ≤ 100) : drawnP most (pieceP ns k nm most) := by
  unfold pieceP
  split
  · exact True.intro
  · split
    · exact askP_small ns _ h hn
    · refine ⟨hn, fun p hp => ?_⟩
      obtain ⟨j, _, rfl⟩ := mem_map_range hp
      unfold innerAt
      split
      · exact True.intro
      · exact askP_small ns _ h (nmI_at j)
theorem pieces_drawn (ns : List Int) (many : Int) {most : Int} (h : 0 ≤ most) : ∀ p ∈ piecesP ns many most, drawnP most p := fun p hp => by
  obtain ⟨j, _, rfl⟩ := mem_map_range hp
  exact pieceP_drawn ns _ h (nmO_short _ (pick_mem nmO _ (by decide)))
structure FewI (ps : List Pc) (st : Nat × List Pc) : Prop where
  len : st.2.length = ps.length
  nm : nms st.2 = nms ps
  ok : ∀ p ∈ st.2, okP p ∧ smallP 2 p
  w : (st.1 = 0 → wgtF st.2 ≤ 3 ^ st.2.length) ∧ wgtF st.2 ≤ 91 * 3 ^ st.2.length
theorem nms_app (a b : List Pc) : nms (a ++ b) = nms a ++ nms b := List.filterMap_append ..
theorem few_I {ps : List Pc} (ok : ∀ p ∈ ps, okP p ∧ drawnP 2 p) : ∀ i, i ≤ ps.length → FewI (ps.take i) (fewF (ps.take i)) := by
  intro i
  induction i with
  | zero => intro _; exact ⟨by rw [List.take_zero]; rfl, by rw [List.take_zero]; rfl, fun p hp => (by rw [List.take_zero] at hp; cases hp), fun _ => (by rw [List.take_zero]; exact Nat.le_refl _), by rw [List.take_zero]; decide⟩
  | succ i ih =>
    intro hi
    have hp : ps[i]? = some ps[i] := List.getElem?_eq_getElem (by omega)
    obtain ⟨h1, h2, h3, h4, h5⟩ := ih (by omega)
    obtain ⟨o1, o2⟩ := ok _ (mem_at hp)
    rw [fewF_snoc hp, take_snoc hp]
    generalize ps[i] = p at o1 o2
    generalize fewF (ps.take i) = st at h1 h2 h3 h4 h5
    obtain ⟨k, qs⟩ := st
    dsimp only at h1 h2 h3 h4 h5
    have pw : ∀ n : Nat, 3 ^ (n + 1) = 3 * 3 ^ n := fun n => by rw [Nat.pow_succ, Nat.mul_comm]
    cases p with
    | p0 p =>
      refine ⟨by show (qs ++ [_]).length = _; rw [List.length_append, List.length_append, h1], by show nms (qs ++ [_]) = _; rw [nms_app, nms_app, h2], fun q hq => ?_, fun e => ?_, ?_⟩
      · rcases List.mem_append.mp (show q ∈ qs ++ [_] from hq) with hq | hq
        · exact h3 q hq
        · rw [List.mem_singleton] at hq; subst hq; exact ⟨o1, o2⟩
      · show wgtF (qs ++ [_]) ≤ 3 ^ (qs ++ [_]).length
        rw [wgtF_app, List.length_append, List.length_singleton, pw]
        have := h4 e
        show wgtF qs * (3 * 1) ≤ _
        omega
      · show wgtF (qs ++ [_]) ≤ 91 * 3 ^ (qs ++ [_]).length
        rw [wgtF_app, List.length_append, List.length_singleton, pw]
        show wgtF qs * (3 * 1) ≤ _
        omega
    | rows nm ips gap lo hi2 =>
      obtain ⟨n0, i1, i3, iok, ind, gl, gs, l0, lh, h3'⟩ := o1
      have hq : ∀ q, (q = if k = 0 then Pc.rows nm (ips.take 2) gap (min lo 2) (min hi2 2) else .p0 (.ask nm "ab" 0 2)) → okP q ∧ smallP 2 q ∧ nmP q = some nm := fun q e => by
        subst e
        split
        · refine ⟨⟨n0, by rw [List.length_take]; omega, by rw [List.length_take]; omega, fun p hp => iok p (List.mem_of_mem_take hp), ?_, gl, gs, by omega, by omega, by omega⟩, ⟨by rw [List.length_take]; omega, by omega, o2.1, fun p hp => o2.2 p (List.mem_of_mem_take hp)⟩, rfl⟩
          exact ind.sublist ((List.take_sublist 2 ips).filterMap nm0)
        · refine ⟨⟨n0, by decide +kernel, by decide +kernel, sgs_of (by decide +kernel), by decide +kernel, by decide, by decide, by decide⟩, ⟨by decide, o2.1⟩, rfl⟩
      obtain ⟨q1, q2, q3⟩ := hq _ rfl
      refine ⟨by show (qs ++ [_]).length = _; rw [List.length_append, List.length_append, h1]; rfl, ?_, fun q hq => ?_, fun e => ?_, ?_⟩
      · show nms (qs ++ [_]) = _
        rw [nms_app, nms_app, h2]
        congr 1
        show List.filterMap nmP [_] = List.filterMap nmP [_]
        rw [List.filterMap_cons, q3]; rfl
      · rcases List.mem_append.mp (show q ∈ qs ++ [_] from hq) with hq | hq
        · exact h3 q hq
        · rw [List.mem_singleton] at hq; subst hq; exact ⟨q1, q2⟩
      · exact absurd (show k + 1 = 0 from e) (Nat.succ_ne_zero k)
      · show wgtF (qs ++ [_]) ≤ 91 * 3 ^ (qs ++ [_]).length
        rw [wgtF_app, List.length_append, List.length_singleton, pw]
        by_cases hk : k = 0
        · have := h4 hk
          rw [if_pos hk]
          show wgtF qs * (91 * 1) ≤ _
          omega
        · rw [if_neg hk]
          show wgtF qs * (3 * 1) ≤ _
          omega
theorem few_ok (ns : List Int) : okF (fewP ns) ∧ (∀ p ∈ fewP ns, smallP 2 p) ∧ (fewP ns).length ≤ 4 ∧ wgtF (fewP ns) ≤ 7371 := by
  have ok := pieces_ok ns (many := 4) (most := 2) (by decide) (by decide) (by decide) (by decide)
  have hl : (piecesP ns 4 2).length ≤ 4 := by
    rw [pieces_len]
    have := Int.emod_lt_of_pos (draw ns 1) (show (0 : Int) < 4 by decide)
    omega
  obtain ⟨h1, h2, h3, h4, h5⟩ := few_I (ps := piecesP ns 4 2) (fun p hp => ⟨ok.ok p hp, pieces_drawn ns 4 (by decide) p hp⟩) _ (Nat.le_refl _)
  rw [List.take_length] at h1 h2 h3 h4 h5
  have hl2 : (fewP ns).length = (piecesP ns 4 2).length := h1
  refine ⟨⟨by rw [hl2]; exact ok.l1, by rw [hl2]; exact ok.l6, fun p hp => (h3 p hp).1, by show (nms (fewF _).2).Nodup; rw [h2]; exact ok.nd⟩, fun p hp => (h3 p hp).2, by rw [hl2]; exact hl, Nat.le_trans h5 ?_⟩
  have : 3 ^ (fewP ns).length ≤ 3 ^ 4 := Nat.pow_le_pow_right (by decide) (by rw [hl2]; exact hl)
  show 91 * 3 ^ (fewP ns).length ≤ _
  omega
/-! ## names of readings -/
theorem piece0_names {cs : List Nat} {p : P0} {a : Nat} {x : Rw × Nat} (h : x ∈ pieceR0 cs p a) : x.1.map (·.1) = (nm0 p).toList := by
  cases p with
  | say t => obtain ⟨e, _, rfl⟩ := List.mem_map.mp h; rfl
  | ask nm sg lo hi => obtain ⟨e, _, rfl⟩ := List.mem_map.mp h; rfl
theorem line_names {cs : List Nat} : ∀ {ps : List P0} {a : Nat} {x : Rw × Nat}, x ∈ lineR cs ps a → x.1.map (·.1) = nms0 ps
  | [], a, x, h => by rw [lineR, List.mem_singleton] at h; subst h; rfl
  | p :: ps, a, x, h => by
    rw [lineR] at h
    obtain ⟨y, hy, h⟩ := List.mem_flatMap.mp h
    obtain ⟨z, hz, rfl⟩ := List.mem_map.mp h
    show (y.1 ++ z.1).map (·.1) = _
    rw [List.map_append, piece0_names hy, line_names hz]
    unfold nms0
    rw [List.filterMap_cons]
    cases nm0 p <;> rfl
theorem rowsR_names {cs : List Nat} {ips : List P0} {gap : List Nat} {lo : Nat} : ∀ {n k a : Nat} {x : List Rw × Nat}, x ∈ rowsR cs ips gap lo n k a → ∀ r ∈ x.1, r.map (·.1) = nms0 ips
  | 0, k, a, x, h => by rw [rowsR, List.mem_singleton] at h; subst h; intro r hr; cases hr
  | n + 1, k, a, x, h => by
    rw [rowsR] at h
    rcases List.mem_append.mp h with h | h
    · split at h
      · rw [List.mem_singleton] at h; subst h; intro r hr; cases hr
      · cases h
    · obtain ⟨b, _, h⟩ := List.mem_flatMap.mp h
      obtain ⟨y, hy, h⟩ := List.mem_flatMap.mp h
      obtain ⟨z, hz, rfl⟩ := List.mem_map.mp h
      intro r hr
      rcases List.mem_cons.mp hr with e | hr
      · rw [e]; exact line_names hy
      · exact rowsR_names hz r hr
theorem pieceR_names {cs : List Nat} {p : Pc} (ok : okP p) {a : Nat} {x : List (Str × Vl) × Nat} (h : x ∈ pieceR cs p a) : x.1.map (·.1) = (nmP p).toList ∧ ∀ q ∈ x.1, ndV q.2 := by
  cases p with
  | p0 p =>
    obtain ⟨y, hy, rfl⟩ := List.mem_map.mp h
    refine ⟨?_, fun q hq => ?_⟩
    · show (y.1.map _).map _ = (nm0 p).toList
      rw [List.map_map, ← piece0_names hy]; rfl
    · obtain ⟨z, _, rfl⟩ := List.mem_map.mp hq; exact True.intro
  | rows nm ips gap lo hi =>
    obtain ⟨y, hy, rfl⟩ := List.mem_map.mp h
    refine ⟨rfl, fun q hq => ?_⟩
    rw [List.mem_singleton] at hq
    subst hq
    intro r hr
    rw [rowsR_names hy r hr]
    exact ok.2.2.2.2.1
theorem formR_names {cs : List Nat} : ∀ {ps : List Pc}, (∀ p ∈ ps, okP p) → ∀ {a : Nat} {x : List (Str × Vl) × Nat}, x ∈ formR cs ps a → x.1.map (·.1) = nms ps ∧ ∀ q ∈ x.1, ndV q.2
  | [], _, a, x, h => by rw [formR, List.mem_singleton] at h; subst h; exact ⟨rfl, fun q hq => by cases hq⟩
  | p :: ps, ok, a, x, h => by
    rw [formR] at h
    obtain ⟨y, hy, h⟩ := List.mem_flatMap.mp h
    obtain ⟨z, hz, rfl⟩ := List.mem_map.mp h
    obtain ⟨a1, a2⟩ := pieceR_names (ok p List.mem_cons_self) hy
    obtain ⟨b1, b2⟩ := formR_names (fun q hq => ok q (List.mem_cons_of_mem _ hq)) hz
    refine ⟨?_, fun q hq => ?_⟩
    · show (y.1 ++ z.1).map (·.1) = _
      rw [List.map_append, a1, b1]
      unfold nms
      rw [List.filterMap_cons]
      cases nmP p <;> rfl
    · rcases List.mem_append.mp (show q ∈ y.1 ++ z.1 from hq) with hq | hq
      · exact a2 q hq
      · exact b2 q hq
theorem reads_names {cs : List Nat} {ps : List Pc} (ok : okF ps) {vals : List (Str × Vl)} (h : vals ∈ readsP ps cs) : (vals.map (·.1)).Nodup ∧ ∀ q ∈ vals, ndV q.2 := by
  obtain ⟨x, hx, rfl⟩ := List.mem_map.mp h
  obtain ⟨h1, h2⟩ := formR_names ok.ok (List.mem_filter.mp hx).1
  exact ⟨by rw [h1]; exact ok.nd, h2⟩
/-! ## how many -/
theorem pieceR_len {cs : List Nat} {p : Pc} (h : smallP 2 p) (ok : okP p) (a : Nat) : (pieceR cs p a).length ≤ wgtP p := by
  cases p with
  | p0 p => unfold pieceR; rw [List.length_map]; exact pieceR0_len (m := 2) h a
  | rows nm ips gap lo hi =>
    unfold pieceR
    rw [List.length_map]
    obtain ⟨h1, h2, _, h3⟩ := h
    have hl : ∀ a, (lineR cs ips a).length ≤ 9 := fun a => Nat.le_trans (lineR_len (m := 2) h3 a) (Nat.le_trans (Nat.pow_le_pow_right (by decide) h1) (by decide))
    have hr := rowsR_len (gap := gap.cps.toList) (lo := lo.toNat) hl hi.toNat 0 a
    have hn : ∀ n : Nat, n ≤ 2 → rowsN 9 n ≤ 91 := fun n hn => by
      match n, hn with
      | 0, _ => decide
      | 1, _ => decide
      | 2, _ => decide
    exact Nat.le_trans hr (hn _ (by omega))
theorem formF_len {cs : List Nat} {ps : List Pc} (h : ∀ p ∈ ps, okP p ∧ smallP 2 p) : ∀ i, i ≤ ps.length → (formF cs (ps.take i)).length ≤ wgtF (ps.take i) := by
  intro i
  induction i with
  | zero => intro _; rw [List.take_zero]; exact Nat.le_refl _
  | succ i ih =>
    intro hi
    have hp : ps[i]? = some ps[i] := List.getElem?_eq_getElem (by omega)
    rw [formF_snoc cs hp, take_snoc hp, wgtF_app]
    show _ ≤ _ * (wgtP _ * 1)
    rw [Nat.mul_one]
    refine Nat.le_trans (flatMap_le (m := wgtP ps[i]) fun x _ => ?_) (Nat.mul_le_mul_right _ (ih (by omega)))
    rw [List.length_map]
    exact pieceR_len (h _ (mem_at hp)).2 (h _ (mem_at hp)).1 _
/-! ## ends within the text -/
theorem piece0_end {cs : List Nat} {p : P0} (ok : ok0 p) {a : Nat} (ha : a ≤ cs.length) {x : Rw × Nat} (h : x ∈ pieceR0 cs p a) : x.2 ≤ cs.length := by
  cases p with
  | say t => obtain ⟨e, he, rfl⟩ := List.mem_map.mp h; exact (sayE_sound ha he).2.1
  | ask nm sg lo hi =>
    obtain ⟨e, he, rfl⟩ := List.mem_map.mp h
    obtain ⟨_, _, _, _, _, l0, lh, _⟩ := ok
    exact (askE_sound ha (by omega) he).2.2.1
theorem line_end {cs : List Nat} : ∀ {ps : List P0}, (∀ p ∈ ps, ok0 p) → ∀ {a : Nat}, a ≤ cs.length → ∀ {x : Rw × Nat}, x ∈ lineR cs ps a → x.2 ≤ cs.length
  | [], _, a, ha, x, h => by rw [lineR, List.mem_singleton] at h; subst h; exact ha
  | p :: ps, ok, a, ha, x, h => by
    rw [lineR] at h
    obtain ⟨y, hy, h⟩ := List.mem_flatMap.mp h
    obtain ⟨z, hz, rfl⟩ := List.mem_map.mp h
    exact line_end (x := z) (fun q hq => ok q (List.mem_cons_of_mem _ hq)) (piece0_end (ok p List.mem_cons_self) ha hy) hz
theorem rowsR_end {cs : List Nat} {ips : List P0} (ok : ∀ p ∈ ips, ok0 p) {gap : List Nat} {lo : Nat} : ∀ {n k a : Nat}, a ≤ cs.length → ∀ {x : List Rw × Nat}, x ∈ rowsR cs ips gap lo n k a → x.2 ≤ cs.length
  | 0, k, a, ha, x, h => by rw [rowsR, List.mem_singleton] at h; subst h; exact ha
  | n + 1, k, a, ha, x, h => by
    rw [rowsR] at h
    rcases List.mem_append.mp h with h | h
    · split at h
      · rw [List.mem_singleton] at h; subst h; exact ha
      · cases h
    · obtain ⟨b, hb, h⟩ := List.mem_flatMap.mp h
      obtain ⟨y, hy, h⟩ := List.mem_flatMap.mp h
      obtain ⟨z, hz, rfl⟩ := List.mem_map.mp h
      exact rowsR_end (x := z) ok (line_end ok (sayE_sound ha hb).2.1 hy) hz
theorem pieceR_end {cs : List Nat} {p : Pc} (ok : okP p) {a : Nat} (ha : a ≤ cs.length) {x : List (Str × Vl) × Nat} (h : x ∈ pieceR cs p a) : x.2 ≤ cs.length := by
  cases p with
  | p0 p => obtain ⟨y, hy, rfl⟩ := List.mem_map.mp h; exact piece0_end ok ha hy
  | rows nm ips gap lo hi => obtain ⟨y, hy, rfl⟩ := List.mem_map.mp h; exact rowsR_end ok.2.2.2.1 ha hy
theorem formF_end {cs : List Nat} {ps : List Pc} (ok : ∀ p ∈ ps, okP p) : ∀ i, i ≤ ps.length → ∀ x ∈ formF cs (ps.take i), x.2 ≤ cs.length := by
  intro i
  induction i with
  | zero => intro _ x hx; rw [List.take_zero] at hx; rw [show x = ([], 0) from List.mem_singleton.mp hx]; exact Nat.zero_le _
  | succ i ih =>
    intro hi x hx
    have hp : ps[i]? = some ps[i] := List.getElem?_eq_getElem (by omega)
    rw [formF_snoc cs hp] at hx
    obtain ⟨y, hy, hx⟩ := List.mem_flatMap.mp hx
    obtain ⟨z, hz, rfl⟩ := List.mem_map.mp hx
    exact pieceR_end (x := z) (ok _ (mem_at hp)) (ih (by omega) y hy) hz
theorem rowsR_many {cs : List Nat} {ips : List P0} {gap : List Nat} {lo : Nat} : ∀ {n k a : Nat} {x : List Rw × Nat}, x ∈ rowsR cs ips gap lo n k a → x.1.length ≤ n
  | 0, k, a, x, h => by rw [rowsR, List.mem_singleton] at h; subst h; exact Nat.le_refl _
  | n + 1, k, a, x, h => by
    rw [rowsR] at h
    rcases List.mem_append.mp h with h | h
    · split at h
      · rw [List.mem_singleton] at h; subst h; exact Nat.zero_le _
      · cases h
    · obtain ⟨b, _, h⟩ := List.mem_flatMap.mp h
      obtain ⟨y, _, h⟩ := List.mem_flatMap.mp h
      obtain ⟨z, hz, rfl⟩ := List.mem_map.mp h
      have := rowsR_many hz
      show (y.1 :: z.1).length ≤ _
      rw [List.length_cons]; omega
/-! ## how they lie in the heap -/
def LinR (H : Hp) (v : V) (x : Rw × Nat) : Prop := ∃ t d, v = .ref t ∧ H t = some (.tup [.ref d, .int (x.2 : Nat)]) ∧ H d = some (.dK (rowK x.1))
def LinesAt (H : Hp) (v : V) (L : List (Rw × Nat)) : Prop := ∃ l vs, v = .ref l ∧ H l = some (.lst vs) ∧ Paired (LinR H) vs L
def RwsR (H : Hp) (v : V) (x : List Rw × Nat) : Prop := ∃ t rl as, v = .ref t ∧ H t = some (.tup [.ref rl, .int (x.2 : Nat)]) ∧ H rl = some (.lst as) ∧ Paired (RD H) as x.1
def RowsAt (H : Hp) (v : V) (L : List (List Rw × Nat)) : Prop := ∃ l vs, v = .ref l ∧ H l = some (.lst vs) ∧ Paired (RwsR H) vs L
def FrmR (K : PySem.W.Frag) (H : Hp) (v : V) (x : List (Str × Vl) × Nat) : Prop := ∃ t d, v = .ref t ∧ H t = some (.tup [d, .int (x.2 : Nat)]) ∧ RV K H d x.1
def DueAt (K : PySem.W.Frag) (H : Hp) (v : V) (L : List (List (Str × Vl))) : Prop := ∃ l vs, v = .ref l ∧ H l = some (.lst vs) ∧ Paired (RV K H) vs L
theorem LinR.mono {H H' : Hp} {v : V} {x : Rw × Nat} (h : LinR H v x) (s : Same H H') : LinR H' v x := by
  obtain ⟨t, d, e, h1, h2⟩ := h; exact ⟨t, d, e, s _ _ h1, s _ _ h2⟩
theorem RwsR.mono {H H' : Hp} {v : V} {x : List Rw × Nat} (h : RwsR H v x) (s : Same H H') : RwsR H' v x := by
  obtain ⟨t, rl, as, e, h1, h2, h3⟩ := h; exact ⟨t, rl, as, e, s _ _ h1, s _ _ h2, Paired.monoP h3 fun _ _ z => z.mono s⟩
theorem FrmR.mono {K : PySem.W.Frag} {H H' : Hp} {v : V} {x : List (Str × Vl) × Nat} (h : FrmR K H v x) (s : Same H H') : FrmR K H' v x := by
  obtain ⟨t, d, e, h1, h2⟩ := h; exact ⟨t, d, e, s _ _ h1, h2.mono s⟩
theorem ToldR.rv {K : PySem.W.Frag} {H0 H : Hp} {ds : List Addr} {d : Addr} {vals : List (Str × Vl)} (h : ToldR H0 H ds d vals) : RV K H (.ref d) vals := by
  obtain ⟨_, kvs, hd, pr⟩ := h
  refine ⟨d, kvs, rfl, hd, Paired.monoP pr fun p q z => ⟨z.1, ?_⟩⟩
  obtain ⟨_, h2⟩ := z
  obtain ⟨n, vl⟩ := q
  cases vl with
  | tx s => exact h2
  | rws rs =>
    obtain ⟨l, as, e, _, hl, _, _, pa⟩ := h2
    refine ⟨l, _, e, SqL.of hl, Paired.of_at (by rw [List.length_map]; exact Paired.len pa) fun i v r e1 e2 => ?_⟩
    rw [List.getElem?_map] at e1
    cases ea : as[i]? with
    | none => rw [ea] at e1; cases e1
    | some a =>
      rw [ea] at e1; cases e1
      obtain ⟨r2, e3, z⟩ := Paired.at pa ea
      rw [e2] at e3; cases e3
      exact ⟨a, rfl, z⟩
/-! ## promises -/
section
variable (K : PySem.W.Frag)
def sp__law_few : Sp := fun vs H Q _ => ∃ (a : Addr) (ns : List Int) (G : Hp), vs = [.ref a] ∧ Same G H ∧ SqL K G a (ns.map V.int) ∧ Ret G H (fun v G' => ∃ l xs, v = .ref l ∧ SqL K G' l xs ∧ Paired (RP K G') xs (fewP ns)) Q
def sp__law_ask_ends : Sp := fun vs H Q _ => ∃ (p : Addr) (tx : Str) (a : Nat) (nm sg : Str) (lo hi : Int), vs = [.ref p, .str tx, .int (a : Nat)] ∧ SqT K H p (P0.ask nm sg lo hi).vs ∧ ok0 (.ask nm sg lo hi) ∧ a ≤ tx.length ∧ tx.length ≤ 5000 ∧
  ∀ l H', Keep H H' → H l = none → H' l = some (.lst (natV (askE tx.cps.toList sg.cps.toList hi.toNat lo.toNat a))) → Q (.ref l) H'
def sp__law_line_readings : Sp := fun vs H Q _ => ∃ (l : Addr) (xs : List V) (tx : Str) (a : Nat) (ips : List P0) (G : Hp), vs = [.ref l, .str tx, .int (a : Nat)] ∧ Same G H ∧ SqL K G l xs ∧ Paired (R0 K G) xs ips ∧ (∀ p ∈ ips, ok0 p ∧ small0 2 p) ∧ (nms0 ips).Nodup ∧ ips.length ≤ 2 ∧ a ≤ tx.length ∧ tx.length ≤ 5000 ∧
  Ret G H (fun v G' => LinesAt G' v (lineR tx.cps.toList ips a)) Q
def sp__law_rows_readings (n : Nat) : Sp := fun vs H Q _ => ∃ (p : Addr) (tx : Str) (a k : Nat) (nm : Str) (ips : List P0) (gap : Str) (lo hi : Int) (G : Hp), vs = [.ref p, .str tx, .int (a : Nat), .int (k : Nat)] ∧ Same G H ∧ RP K G (.ref p) (.rows nm ips gap lo hi) ∧ okP (.rows nm ips gap lo hi) ∧ smallP 2 (.rows nm ips gap lo hi) ∧
  k ≤ hi.toNat ∧ hi.toNat - k ≤ n ∧ a ≤ tx.length ∧ tx.length ≤ 5000 ∧ Ret G H (fun v G' => RowsAt G' v (rowsR tx.cps.toList ips gap.cps.toList lo.toNat (hi.toNat - k) k a)) Q
def sp__law_readings : Sp := fun vs H Q _ => ∃ (l : Addr) (xs : List V) (tx : Str) (ps : List Pc) (G : Hp), vs = [.ref l, .str tx] ∧ Same G H ∧ SqL K G l xs ∧ Paired (RP K G) xs ps ∧ okF ps ∧ (∀ p ∈ ps, smallP 2 p) ∧ wgtF ps ≤ 7371 ∧ tx.length ≤ 5000 ∧
  Ret G H (fun v G' => DueAt K G' v (readsP ps tx.cps.toList)) Q
def sp__law_text : Sp := fun vs H Q _ => ∃ (a : Addr) (ns : List Int) (l : Addr) (xs : List V) (ps : List Pc), vs = [.ref a, .ref l] ∧ SqL K H a (ns.map V.int) ∧ SqL K H l xs ∧ Paired (RP K H) xs ps ∧ okF ps ∧ ∀ (tx : Str) H', Keep H H' → tx.length ≤ 2000 → Q (.str tx) H'
end
theorem Paired.takeP' {α β : Type} {F : α → β → Prop} : ∀ (n : Nat) {xs : List α} {ys : List β}, Paired F xs ys → Paired F (xs.take n) (ys.take n)
  | 0, _, _, _ => by rw [List.take_zero, List.take_zero]; exact .nil
  | n + 1, _, _, .nil => by rw [List.take_nil, List.take_nil]; exact .nil
  | n + 1, _, _, .cons z h => by rw [List.take_succ_cons, List.take_succ_cons]; exact .cons z (Paired.takeP' n h)
theorem cut2 (items : List V) : cutV items none (some 2) = items.take 2 := by
  unfold cutV
  rw [HT.sIx_none, show (some (2 : Int)) = some ((2 : Nat) : Int) from rfl, HT.sIx_nat, List.drop_zero, Nat.sub_zero]
  rcases Nat.le_total 2 items.length with h | h
  · rw [Nat.min_eq_left h]
  · rw [Nat.min_eq_right h, List.take_of_length_le (Nat.le_refl _), List.take_of_length_le h]
theorem cutS_at (tx : Str) {a e : Nat} (ha : a ≤ tx.length) (he : a ≤ e) : (cutS tx (some (a : Int)) (some (e : Int))).cps.toList = cut tx.cps.toList a e := by
  unfold cutS cut
  rw [HT.sIx_nat, HT.sIx_nat, Nat.min_eq_left ha]
  show List.take (min e tx.length - a) (List.drop a tx.cps.toList) = _
  have hl : tx.cps.toList.length = tx.length := Array.length_toList
  rcases Nat.le_total e tx.length with h | h
  · rw [Nat.min_eq_left h]
  · rw [Nat.min_eq_right h, List.take_of_length_le (by rw [List.length_drop]; omega), List.take_of_length_le (by rw [List.length_drop]; omega)]
theorem inV_signs (l sg : List Nat) : inV (.bl false) (l.map fun c => V.bl (decide (c ∈ sg))) = !(l.all fun c => decide (c ∈ sg)) := by
  induction l with
  | nil => rfl
  | cons c l ih =>
    rw [List.map_cons, List.all_cons]
    unfold inV at *
    rw [List.any_cons, ih]
    by_cases hc : c ∈ sg
    · rw [decide_eq_true hc]; simp [eqV]
    · rw [decide_eq_false hc]; simp [eqV]
theorem min2 (i j : Int) : (if j < i then j else i) = min i j := by
  rw [Int.min_def]; split <;> split <;> omega
end Lf
namespace Lf
open PySem PySem.Spec PyProof.Rows L2
/-! ## a text times a number -/
theorem op_repK {X : Cx} : OpR X (binaryOp .Mult) (fun x y H Q => ∃ (z : Str) (n : Int), x = .str z ∧ y = .int n ∧ MulOk z n ∧ Q (.str (Txt.mul z n)) H) := by
  rintro pins s σ H x y v u Q I rx ry ⟨z, n, rfl, rfl, hm, q⟩
  obtain ⟨t1, rfl⟩ := rx
  obtain ⟨t2, rfl⟩ := ry
  exact SB.mul hm fun _ k => ⟨.str (Txt.mul z n), H, I.tok _, ⟨_, rfl⟩, q⟩
theorem mul01 {z : Str} {n : Int} (h1 : 0 ≤ n) (h2 : n ≤ 1) (h3 : z.length ≤ 100) : MulOk z n := by
  refine ⟨?_, fun _ _ => ?_, fun _ _ => ?_⟩
  · rw [Bool.or_eq_false_iff]; exact ⟨decide_eq_false (by omega), decide_eq_false (by omega)⟩
  · have e : n = 1 := by omega
    subst e
    have : (100 : Int) ≤ (2 ^ 63 - 1) / 1 := Int.le_ediv_of_mul_le (by omega) (by omega)
    omega
  · have : (sizeLine : Nat) = 16777216 := sizeLine_eq
    have hq : z.length * n.toNat ≤ 100 * 1 := Nat.mul_le_mul h3 (by omega)
    unfold Builtin.Str.tooLong
    exact decide_eq_false (by omega)
theorem gap_mul (z : Str) (k : Nat) : Txt.mul z (if decide (0 < (k : Int)) = true then 1 else 0) = if k = 0 then Str.empty else z := by
  by_cases h : k = 0
  · subst h; rfl
  · rw [if_neg h, decide_eq_true (show 0 < (k : Int) by omega), if_pos rfl]; rfl
theorem lineR_one (cs : List Nat) (p : P0) (a : Nat) : lineR cs [p] a = pieceR0 cs p a := by
  unfold lineR
  have : ∀ L : List (Rw × Nat), (L.flatMap fun x => (lineR cs [] x.2).map fun y => ((x.1 ++ y.1, y.2) : Rw × Nat)) = L := fun L => by
    induction L with
    | nil => rfl
    | cons x L ih => rw [List.flatMap_cons, ih]; simp [lineR]
  exact this _
/-- an end, with what is told there -/
def EndR (K : PySem.W.Frag) (G : Hp) (p : Pc) (v : V) (y : List (Str × Vl) × Nat) : Prop := ∃ t w, v = .ref t ∧ G t = some (.tup [w, .int (y.2 : Nat)]) ∧ match nmP p with
  | none => y.1 = []
  | some nm => ∃ vl, y.1 = [(nm, vl)] ∧ RVl K G w vl
theorem EndR.mono {K : PySem.W.Frag} {G G' : Hp} {p : Pc} {v : V} {y : List (Str × Vl) × Nat} (h : EndR K G p v y) (s : Same G G') : EndR K G' p v y := by
  obtain ⟨t, w, e, h1, h2⟩ := h
  refine ⟨t, w, e, s _ _ h1, ?_⟩
  cases hn : nmP p with
  | none => rw [hn] at h2; exact h2
  | some nm => rw [hn] at h2; obtain ⟨vl, e2, r⟩ := h2; exact ⟨vl, e2, r.mono s⟩
theorem cutS_len (z : Str) (lo hi : Option Int) : (cutS z lo hi).length ≤ z.length := by
  unfold cutS
  show (List.toArray _).size ≤ _
  rw [List.size_toArray, List.length_take, List.length_drop]
  have : z.cps.toList.length = z.length := Array.length_toList
  omega
theorem atI_mod {α : Type} (l : List α) (c : Int) {n : Int} (h : (l.length : Int) = n) (h0 : 0 < n) : ∃ x, atI l (c % n) = some x := by
  have h1 := Int.emod_nonneg c (show n ≠ 0 by omega)
  have h2 := Int.emod_lt_of_pos c h0
  have hl : (c % n).toNat < l.length := by omega
  exact ⟨l[(c % n).toNat], at_gen (show c % n = ((c % n).toNat : Int) by omega) (List.getElem?_eq_getElem hl)⟩
theorem join_signs (ts : List Nat) : ((ts.map fun c => (⟨#[c]⟩ : Str)).map (·.length)).sum + (ts.map fun c => (⟨#[c]⟩ : Str)).length * Str.empty.length ≤ ts.length ∧ (Txt.join Str.empty (ts.map fun c => (⟨#[c]⟩ : Str))).length ≤ ts.length := by
  have e1 : ((ts.map fun c => (⟨#[c]⟩ : Str)).map (·.length)).sum = ts.length := by
    induction ts with
    | nil => rfl
    | cons t ts ih => rw [List.map_cons, List.map_cons, List.sum_cons, ih, List.length_cons]; show 1 + _ = _; omega
  have h3 := StrLaws.join_length_le Str.empty (ts.map fun c => (⟨#[c]⟩ : Str))
  have h4 : Txt.join Str.empty (ts.map fun c => (⟨#[c]⟩ : Str)) = Str.join Str.empty (ts.map fun c => (⟨#[c]⟩ : Str)) := StrLaws.glued_eq_join _ _
  have h5 : (ts.map fun c => (⟨#[c]⟩ : Str)).length * Str.empty.length = 0 := Nat.mul_zero _
  rw [h4]
  omega
end Lf

/-! # LfK5b -/
set_option Elab.async false
set_option linter.all false
set_option maxRecDepth 100000
set_option maxHeartbeats 4000000
namespace Lf
open PySem L2
/-! ## readings as data -/
theorem row_depth (r : List (Str × Str)) : depthKv (r.map fun p => (p.1, D.str p.2)) = 0 := by
  induction r with
  | nil => rfl
  | cons p r ih => rw [List.map_cons]; unfold depthKv; rw [ih]; rfl
theorem valsD_small (vals : List (Str × Vl)) : (valsD vals).depth ≤ 3 := by
  have h2 : ∀ rs : List (List (Str × Str)), depthAll (rs.map fun r => D.dic (r.map fun p => (p.1, .str p.2))) ≤ 1 := fun rs => by
    induction rs with
    | nil => exact Nat.zero_le _
    | cons r rs ih => rw [List.map_cons]; unfold depthAll; unfold D.depth; rw [row_depth]; exact Nat.max_le.mpr ⟨by omega, ih⟩
  have h4 : depthKv (vals.map fun p => (p.1, VlD p.2)) ≤ 2 := by
    induction vals with
    | nil => exact Nat.zero_le _
    | cons q rs ih =>
      rw [List.map_cons]; unfold depthKv
      refine Nat.max_le.mpr ⟨?_, ih⟩
      obtain ⟨n, vl⟩ := q
      cases vl with
      | tx s => exact Nat.zero_le _
      | rws rs => have := h2 rs; show (VlD (.rws rs)).depth ≤ 2; unfold VlD D.depth; omega
  unfold valsD D.depth
  omega
def dueD (L : List (List (Str × Vl))) : D := .lst (L.map valsD)
theorem dueD_depth (L : List (List (Str × Vl))) : (dueD L).depth ≤ 60 ∧ 1 ≤ (dueD L).depth := by
  have h : depthAll (L.map valsD) ≤ 3 := by
    induction L with
    | nil => exact Nat.zero_le _
    | cons v L ih => rw [List.map_cons]; unfold depthAll; exact Nat.max_le.mpr ⟨valsD_small v, ih⟩
  unfold dueD D.depth
  omega
theorem rv_all {K : PySem.W.Frag} {H : Hp} {vs : List V} {L : List (List (Str × Vl))} (h : Paired (RV K H) vs L) (nd : ∀ vals ∈ L, (vals.map (·.1)).Nodup ∧ ∀ q ∈ vals, ndV q.2) : RpAll K H vs (L.map valsD) := by
  induction h with
  | nil => exact .nil
  | @cons v vals vs L z _ ih => exact .cons (z.rp (nd vals List.mem_cons_self).1 (nd vals List.mem_cons_self).2) (ih fun w hw => nd w (List.mem_cons_of_mem _ hw))
theorem due_rp {K : PySem.W.Frag} {H : Hp} {l : Addr} {vs : List V} {L : List (List (Str × Vl))} (hl : SqL K H l vs) (h : Paired (RV K H) vs L) (nd : ∀ vals ∈ L, (vals.map (·.1)).Nodup ∧ ∀ q ∈ vals, ndV q.2) : Rp K H (.ref l) (dueD L) := .lst hl (rv_all h nd)
theorem told_rv {K : PySem.W.Frag} {H0 H : Hp} {ds0 : List Addr} {ds : List Addr} {L : List (List (Str × Vl))} (h : Paired (ToldR H0 H ds0) ds L) : Paired (RV K H) (ds.map V.ref) L := by
  induction h with
  | nil => exact .nil
  | @cons d vals ds L z _ ih => exact .cons z.rv ih
theorem cut_to (xs : List V) {m : Int} (h : 0 ≤ m) : cutV xs none (some m) = xs.take m.toNat := by
  obtain ⟨k, rfl⟩ : ∃ k : Nat, m = (k : Int) := ⟨m.toNat, by omega⟩
  unfold cutV
  rw [HT.sIx_none, HT.sIx_nat, List.drop_zero, Nat.sub_zero, Int.toNat_natCast]
  rcases Nat.le_total k xs.length with h | h
  · rw [Nat.min_eq_left h]
  · rw [Nat.min_eq_right h, List.take_of_length_le (Nat.le_refl _), List.take_of_length_le h]
/-! ## how great readings are -/
def smallV (vals : List (Str × Vl)) : Prop := vals.length ≤ 6 ∧ ∀ q ∈ vals, ∀ rs, q.2 = .rws rs → rs.length ≤ 3 ∧ ∀ r ∈ rs, r.length ≤ 3
theorem names_len {α : Type} {r : List (Str × α)} {l : List Str} (h : r.map (·.1) = l) : r.length = l.length := by rw [← h, List.length_map]
theorem formR_small {cs : List Nat} : ∀ {ps : List Pc}, (∀ p ∈ ps, okP p) → ∀ {a : Nat} {x : List (Str × Vl) × Nat}, x ∈ formR cs ps a → ∀ q ∈ x.1, ∀ rs, q.2 = .rws rs → rs.length ≤ 3 ∧ ∀ r ∈ rs, r.length ≤ 3
  | [], _, a, x, h => by rw [formR, List.mem_singleton] at h; subst h; intro q hq; cases hq
  | p :: ps, ok, a, x, h => by
    rw [formR] at h
    obtain ⟨y, hy, h⟩ := List.mem_flatMap.mp h
    obtain ⟨z, hz, rfl⟩ := List.mem_map.mp h
    intro q hq rs e
    rcases List.mem_append.mp (show q ∈ y.1 ++ z.1 from hq) with hq | hq
    · cases p with
      | p0 p =>
        obtain ⟨w, hw, rfl⟩ := List.mem_map.mp (show y ∈ List.map _ _ from hy)
        obtain ⟨u, _, rfl⟩ := List.mem_map.mp hq
        cases e
      | rows nm ips gap lo hi =>
        obtain ⟨w, hw, rfl⟩ := List.mem_map.mp (show y ∈ List.map _ _ from hy)
        rw [List.mem_singleton] at hq
        subst hq; cases e
        obtain ⟨_, _, i3, _, _, _, _, _, _, h3⟩ := ok _ List.mem_cons_self
        refine ⟨Nat.le_trans (rowsR_many hw) (by omega), fun r hr => ?_⟩
        rw [names_len (rowsR_names hw r hr)]
        exact Nat.le_trans (List.length_filterMap_le _ _) i3
    · exact formR_small (x := z) (fun q hq => ok q (List.mem_cons_of_mem _ hq)) hz q hq rs e
theorem reads_small {cs : List Nat} {ps : List Pc} (ok : okF ps) {vals : List (Str × Vl)} (h : vals ∈ readsP ps cs) : smallV vals := by
  obtain ⟨x, hx, rfl⟩ := List.mem_map.mp h
  have hf := (List.mem_filter.mp hx).1
  refine ⟨?_, formR_small ok.ok hf⟩
  rw [names_len (formR_names ok.ok hf).1]
  exact Nat.le_trans (List.length_filterMap_le _ _) ok.l6
/-! ## readings told, changed by whom they were told -/
def noneK : Key := Sum.inr ("none" : Str)
def Bn (m : Nat) (kv : List (Key × V)) : Prop := kv.length ≤ m + 1 ∧ (valV kv noneK = none → kv.length ≤ m)
theorem Bn.put {m : Nat} {kv : List (Key × V)} (h : Bn m kv) (v : V) : Bn m (putK kv noneK v) := by
  have e := congrArg List.length (putK_keys kv noneK v)
  rw [List.length_map] at e
  refine ⟨?_, fun z => ?_⟩
  · rw [e]
    split
    · rw [List.length_map]; exact h.1
    · next hn =>
      have := h.2 (by cases q : valV kv noneK with | none => rfl | some u => rw [q] at hn; exact absurd rfl hn)
      rw [List.length_append, List.length_map, List.length_singleton]; omega
  · rw [valV_put, if_pos rfl] at z; cases z
structure Shp (H5 : Hp) (lf : Addr) (ds : List Addr) (n : Nat) (PL PA : Addr → Prop) (H : Hp) : Prop where
  sm : Same H5 H
  f0 : H5 lf = none
  hf : H lf = some (.lst (ds.map V.ref))
  hd : ∀ d ∈ ds, H5 d = none ∧ ∃ kvs, H d = some (.dK kvs) ∧ Bn 6 kvs ∧ ∀ p ∈ kvs, (∃ s, p.1 = Sum.inr s) ∧ ((∃ s, p.2 = V.str s) ∨ ∃ l, p.2 = V.ref l ∧ PL l)
  hl : ∀ l, PL l → H5 l = none ∧ l ≠ lf ∧ ∃ as : List Addr, H l = some (.lst (as.map V.ref)) ∧ as.length ≤ n ∧ ∀ a ∈ as, PA a
  ha : ∀ a, PA a → H5 a = none ∧ a ∉ ds ∧ ∃ kv, H a = some (.dK kv) ∧ Bn 5 kv
section
variable {H5 H : Hp} {lf : Addr} {ds : List Addr} {n : Nat} {PL PA : Addr → Prop}
theorem Shp.up {n2 : Nat} (h : Shp H5 lf ds n PL PA H) (hn : n ≤ n2) : Shp H5 lf ds n2 PL PA H :=
  ⟨h.sm, h.f0, h.hf, h.hd, fun l z => by obtain ⟨a, b, as, c, d, e⟩ := h.hl l z; exact ⟨a, b, as, c, by omega, e⟩, h.ha⟩
theorem Shp.row (h : Shp H5 lf ds n PL PA H) {a : Addr} (ha : PA a) {kv : List (Key × V)} (hk : H a = some (.dK kv)) (v : V) : Shp H5 lf ds n PL PA (upd H a (.dK (putK kv noneK v))) := by
  obtain ⟨a0, ad, kv', hk', hb⟩ := h.ha a ha
  rw [hk] at hk'; cases hk'
  refine ⟨h.sm.mut a0, h.f0, ?_, fun d hd => ?_, fun l hl => ?_, fun b hb2 => ?_⟩
  · rw [upd_ne (fun z => by have := h.hf; rw [z, hk] at this; cases this)]; exact h.hf
  · obtain ⟨d0, kvs, hkd, r⟩ := h.hd d hd
    exact ⟨d0, kvs, (upd_ne fun z => ad (by rw [← z]; exact hd)).trans hkd, r⟩
  · obtain ⟨l0, lne, as, hls, r⟩ := h.hl l hl
    exact ⟨l0, lne, as, (upd_ne fun z => by rw [z, hk] at hls; cases hls).trans hls, r⟩
  · obtain ⟨b0, bd, kb, hkb, bb⟩ := h.ha b hb2
    by_cases z : b = a
    · subst z
      exact ⟨b0, bd, _, upd_same, hb.put v⟩
    · exact ⟨b0, bd, kb, (upd_ne z).trans hkb, bb⟩
theorem Shp.put (h : Shp H5 lf ds n PL PA H) {d : Addr} (hd : d ∈ ds) {kvs : List (Key × V)} (hk : H d = some (.dK kvs)) (s : Str) : Shp H5 lf ds n PL PA (upd H d (.dK (putK kvs noneK (.str s)))) := by
  obtain ⟨d0, kvs', hk', hb, hp⟩ := h.hd d hd
  rw [hk] at hk'; cases hk'
  refine ⟨h.sm.mut d0, h.f0, ?_, fun d2 hd2 => ?_, fun l hl => ?_, fun b hb2 => ?_⟩
  · rw [upd_ne (fun z => by have := h.hf; rw [z, hk] at this; cases this)]; exact h.hf
  · by_cases z : d2 = d
    · subst z
      refine ⟨d0, _, upd_same, hb.put _, fun p hp2 => ?_⟩
      unfold putK at hp2
      split at hp2
      · obtain ⟨q, hq, rfl⟩ := List.mem_map.mp hp2
        split
        · next e => exact ⟨⟨"none", e⟩, .inl ⟨s, rfl⟩⟩
        · exact hp q hq
      · rcases List.mem_append.mp hp2 with hp2 | hp2
        · exact hp p hp2
        · rw [List.mem_singleton] at hp2; subst hp2; exact ⟨⟨"none", rfl⟩, .inl ⟨s, rfl⟩⟩
    · obtain ⟨e0, kv2, hk2, r⟩ := h.hd d2 hd2
      exact ⟨e0, kv2, (upd_ne z).trans hk2, r⟩
  · obtain ⟨l0, lne, as, hls, r⟩ := h.hl l hl
    exact ⟨l0, lne, as, (upd_ne fun z => by rw [z, hk] at hls; cases hls).trans hls, r⟩
  · obtain ⟨b0, bd, kb, hkb, bb⟩ := h.ha b hb2
    exact ⟨b0, bd, kb, (upd_ne fun z => bd (by rw [z]; exact hd)).trans hkb, bb⟩
theorem Shp.app (h : Shp H5 lf ds n PL PA H) {l e : Addr} (hl : PL l) {as : List Addr} (hls : H l = some (.lst (as.map V.ref))) (ne : H e = none) :
    Shp H5 lf ds (n + 1) PL (fun a => PA a ∨ a = e) (upd (upd H e (.dK [])) l (.lst (as.map V.ref ++ [.ref e]))) := by
  obtain ⟨l0, lne, as', hls', hn, hpa⟩ := h.hl l hl
  rw [hls] at hls'
  have eas : as.map V.ref = as'.map V.ref := by injection hls' with z; injection z
  have el : as.length = as'.length := by have := congrArg List.length eas; rwa [List.length_map, List.length_map] at this
  have le : l ≠ e := ne_of_none hls ne
  have e0 : H5 e = none := Same.free h.sm ne
  have oth : ∀ {b o}, b ≠ l → H b = some o → upd (upd H e (.dK [])) l (.lst (as.map V.ref ++ [.ref e])) b = some o := fun n1 e1 => (upd_ne n1).trans ((upd_ne (ne_of_none e1 ne)).trans e1)
  refine ⟨(h.sm.mut e0).mut l0, h.f0, oth lne.symm h.hf, fun d hd => ?_, fun m hm => ?_, fun b hb => ?_⟩
  · obtain ⟨d0, kvs, hk, r⟩ := h.hd d hd
    exact ⟨d0, kvs, oth (fun z => by rw [z, hls] at hk; cases hk) hk, r⟩
  · obtain ⟨m0, mne, ms, hms, hmn, hmp⟩ := h.hl m hm
    by_cases z : m = l
    · subst z
      refine ⟨m0, mne, as' ++ [e], by rw [upd_same, eas, List.map_append]; rfl, by rw [List.length_append, List.length_singleton]; omega, fun a ha => ?_⟩
      rcases List.mem_append.mp ha with ha | ha
      · exact .inl (hpa a ha)
      · rw [List.mem_singleton] at ha; exact .inr ha
    · exact ⟨m0, mne, ms, oth z hms, by omega, fun a ha => .inl (hmp a ha)⟩
  · rcases hb with hb | rfl
    · obtain ⟨b0, bd, kb, hkb, bb⟩ := h.ha b hb
      exact ⟨b0, bd, kb, oth (fun z => by rw [z, hls] at hkb; cases hkb) hkb, bb⟩
    · refine ⟨e0, fun z => ?_, [], (upd_ne le.symm).trans upd_same, Nat.zero_le _, fun _ => Nat.zero_le _⟩
      obtain ⟨_, kvs, hk, _⟩ := h.hd _ z
      rw [ne] at hk; cases hk
theorem ref_map_inj {as bs : List Addr} (h : as.map V.ref = bs.map V.ref) : as = bs := by
  have h3 := congrArg (List.filterMap fun v : V => match v with | .ref a => some a | _ => none) h
  rwa [List.filterMap_map, List.filterMap_map, show ((fun v : V => match v with | .ref a => some a | _ => none) ∘ V.ref) = some from rfl, List.filterMap_some, List.filterMap_some] at h3
/-- readings just told -/
theorem Shp.of {H' : Hp} {L : List (List (Str × Vl))} {l : Addr} (s : Same H5 H') (k : Keep H' H) (l0 : H' l = none) (hl : H l = some (.lst (ds.map V.ref))) (p : Paired (ToldR H' H ds) ds L) (sm : ∀ vals ∈ L, smallV vals) :
    ∃ PL PA, Shp H5 l ds 3 PL PA H := by
  refine ⟨fun m => H' m = none ∧ m ≠ l ∧ ∃ as : List Addr, H m = some (.lst (as.map V.ref)) ∧ as.length ≤ 3 ∧ ∀ a ∈ as, H' a = none ∧ a ∉ ds ∧ ∃ kv, H a = some (.dK kv) ∧ Bn 5 kv, fun a => H' a = none ∧ a ∉ ds ∧ ∃ kv, H a = some (.dK kv) ∧ Bn 5 kv,
    ⟨s.trans k.same, Same.free s l0, hl, fun d hd => ?_, fun m ⟨a, b, as, c, e, f⟩ => ⟨Same.free s a, b, as, c, e, f⟩, fun a ⟨b, c, d⟩ => ⟨Same.free s b, c, d⟩⟩⟩
  obtain ⟨i, hi⟩ := List.mem_iff_getElem?.mp hd
  obtain ⟨vals, hv, d0, kvs, hk, pr⟩ := Paired.at p hi
  obtain ⟨s1, s2⟩ := sm vals (mem_at hv)
  refine ⟨Same.free s d0, kvs, hk, ⟨by rw [Paired.len pr]; omega, fun _ => by rw [Paired.len pr]; exact s1⟩, fun q hq => ?_⟩
  obtain ⟨j, hj⟩ := List.mem_iff_getElem?.mp hq
  obtain ⟨⟨nm, vl⟩, hvj, e1, e2⟩ := Paired.at pr hj
  refine ⟨⟨nm, e1⟩, ?_⟩
  cases vl with
  | tx t => exact .inl ⟨t, e2⟩
  | rws rs =>
    obtain ⟨m, as, e, m0, hm, nd, fa, pa⟩ := e2
    obtain ⟨t1, t2⟩ := s2 _ (mem_at hvj) rs rfl
    have hal := Paired.len pa
    have each : ∀ a ∈ as, H' a = none ∧ a ∉ ds ∧ ∃ kv, H a = some (.dK kv) ∧ Bn 5 kv := fun a ha => by
      obtain ⟨x, hx⟩ := List.mem_iff_getElem?.mp ha
      obtain ⟨r, hr, z⟩ := Paired.at pa hx
      have hr3 := t2 r (mem_at hr)
      have : (rowK r).length ≤ 3 := by unfold rowK; rw [List.length_map]; exact hr3
      exact ⟨(fa a ha).1, (fa a ha).2, _, z, by show _ ≤ 6; omega, fun _ => by omega⟩
    refine .inr ⟨m, e, m0, fun z => ?_, as, hm, by omega, each⟩
    rw [z, hl] at hm
    have ea : ds = as := ref_map_inj (by injection hm with z; injection z)
    subst ea
    exact (fa d hd).2 hd
end
theorem valV_in {kvs : List (Key × V)} {k : Key} {u : V} (h : valV kvs k = some u) : (k, u) ∈ kvs := by
  induction kvs with
  | nil => cases h
  | cons p r ih =>
    by_cases e : p.1 = k
    · rw [valV_pos e] at h
      cases h
      rw [← e]; exact List.mem_cons_self
    · rw [valV_neg e] at h; exact List.mem_cons_of_mem _ (ih h)
theorem upd_back {H : Hp} {d : Addr} {o u : HO} (h : H d = some o) : upd (upd H d u) d o = H := by
  funext b
  by_cases e : b = d
  · subst e; rw [upd_same, h]
  · rw [upd_ne e, upd_ne e]
end Lf

/-! # LfEndW -/
set_option Elab.async false
set_option linter.all false
set_option maxRecDepth 100000
set_option maxHeartbeats 4000000
namespace Lf
open PySem L2
/-! ## what the top leaves of a class with methods, and of a def with a default -/
theorem glob_mk {K : PySem.W.Frag} {h : Heap} {mg : Str → Option Value} (X : K.In h) (G : h.Ns mainGlobals mg) {x : Str} {C : Addr} (a : PySem.W.nsIn K mainGlobals x = some (some (.ref C))) : mg x = some (.ref C) := PySem.W.mg_of X G a
structure Md (K : PySem.W.Frag) (C : Addr) (m qual : Str) (st : Stmt) (ps : List Str) : Prop where
  ex : ∃ (f : Addr) (fd : FuncData), Meth K C m f ∧ Fun K m qual st f fd ∧ Binds K fd ps []
theorem md_mk {K : PySem.W.Frag} {m qual : Str} {st : Stmt} {ps : List Str} {C f : Addr} {oc : Value} {od an : Option Addr} {sl : Array (Option Value)} {kV dc pm cd ct : Value}
    (a : PySem.W.findIn K (.ref C) m = some (some (.ref f))) (i : PySem.W.isFn K (.ref f) = true)
    (l : K.lookup f = some ⟨oc, od, .func (PySem.W.fnOf m qual (defArgs st) (defBody st) (defScope st) .none kV dc pm an cd ct), sl⟩) (c : PySem.W.codeIn K cd qual = true) (k : PySem.W.keepIn K (.ref f) = true)
    (b : ∀ (kV doc pm : Value) (an : Option Addr) (cdv ct : Value) (us : List Value), us.length = ps.length → bindArgs (PySem.W.fnOf m qual (defArgs st) (defBody st) (defScope st) .none kV doc pm an cdv ct) ⟨us, []⟩ = pure (ps.zip us)) : Md K C m qual st ps := by
  have F := fun_mk (st := st) l c k
  exact ⟨f, _, ⟨a, i, k⟩, F, F.binds b⟩
theorem Md.tn {P : Program} {w : World} {K : PySem.W.Frag} {mg : Str → Option Value} {base : Heap} {CX : CXT} {k : Nat} {C : Addr} {m qual : Str} {st : Stmt} {ps : List Str} {sp : Sp} (c : Md K C m qual st ps) (cl : Cls K C)
    (h : ∀ f fd, Fun K m qual st f fd → FnOk P w K mg base CX k f fd ps sp) : Tn P w K mg base CX k C m sp := by
  obtain ⟨f, fd, M, F, b⟩ := c.ex
  exact ⟨f, fd, ps, cl, M, h f fd F, b⟩
theorem cmC_mk {K : PySem.W.Frag} {h : Heap} {mg : Str → Option Value} (X : K.In h) (G : h.Ns mainGlobals mg) {x qual : Str} {st : Stmt} {ps : List Str} {C f : Addr} {oc : Value} {od an : Option Addr} {sl : Array (Option Value)} {kV dc pm cd ct : Value}
    (aC : PySem.W.nsIn K mainGlobals x = some (some (.ref C))) (a : PySem.W.findIn K (.ref C) "__init__" = some (some (.ref f))) (i : PySem.W.isFn K (.ref f) = true)
    (l : K.lookup f = some ⟨oc, od, .func (PySem.W.fnOf "__init__" qual (defArgs st) (defBody st) (defScope st) .none kV dc pm an cd ct), sl⟩) (c : PySem.W.codeIn K cd qual = true) (k : PySem.W.keepIn K (.ref f) = true)
    (pg : PySem.W.plainGet K C Str.empty = true) (hd : PySem.W.hasDictIn K C = true) (po : PySem.W.plainOver K C = true) (sa : PySem.W.findIn K (.ref C) "__setattr__" = some (some (.builtin "object.__setattr__"))) (mk : PySem.W.makesIn K C = true) (kc : PySem.W.keepIn K (.ref C) = true)
    (b : ∀ (kV doc pm : Value) (an : Option Addr) (cdv ct : Value) (us : List Value), us.length = ps.length → bindArgs (PySem.W.fnOf "__init__" qual (defArgs st) (defBody st) (defScope st) .none kV doc pm an cdv ct) ⟨us, []⟩ = pure (ps.zip us)) : Cm K mg x qual st ps C := by
  have F := fun_mk (st := st) l c k
  exact ⟨⟨pg, hd, po, sa⟩, PySem.W.mg_of X G aC, f, _, ⟨mk, a, i, kc⟩, F, F.binds b⟩
theorem cw_mk {K : PySem.W.Frag} {C : Addr} (pg : PySem.W.plainGet K C Str.empty = true) (hd : PySem.W.hasDictIn K C = true) (po : PySem.W.plainOver K C = true) (sa : PySem.W.findIn K (.ref C) "__setattr__" = some (some (.builtin "object.__setattr__")))
    (q1 : PySem.W.findIn K (.ref C) "steps" = some none) (q2 : PySem.W.findIn K (.ref C) "told" = some none) (q3 : PySem.W.findIn K (.ref C) "first" = some none) : CW K C := ⟨⟨pg, hd, po, sa⟩, q1, q2, q3⟩
theorem dd_mk {K : PySem.W.Frag} {h : Heap} {mg : Str → Option Value} (X : K.In h) (G : h.Ns mainGlobals mg) {x : Str} {st : Stmt} {ps : List Str} {i : Int} {f T : Addr} {oc oT : Value} {od an dT : Option Addr} {sl slT : Array (Option Value)} {kV dc pm cd ct : Value} {its : Array Value} {nT : Nat}
    (a : PySem.W.nsIn K mainGlobals x = some (some (.ref f))) (l : K.lookup f = some ⟨oc, od, .func (PySem.W.fnOf x x (defArgs st) (defBody st) (defScope st) (.ref T) kV dc pm an cd ct), sl⟩) (c : PySem.W.codeIn K cd x = true) (k : PySem.W.keepIn K (.ref f) = true)
    (lT : K.lookup T = some ⟨oT, dT, .seq its nT, slT⟩) (eT : ∃ t, its = #[.int i t]) (n : Nat) (hn : n + 1 = ps.length)
    (b1 : ∀ (T : Addr) (kV doc pm : Value) (an : Option Addr) (cdv ct : Value) (us its : List Value), us.length = n + 1 → its.length = 1 →
      ∃ k, bindArgs (PySem.W.fnOf x x (defArgs st) (defBody st) (defScope st) (.ref T) kV doc pm an cdv ct) ⟨us, []⟩ = seqItems? (.ref T) >>= k ∧ k (some its.toArray) = pure (ps.zip (us ++ its.drop 1)))
    (b2 : ∀ (T : Addr) (kV doc pm : Value) (an : Option Addr) (cdv ct : Value) (us its : List Value), us.length = n → its.length = 1 →
      ∃ k, bindArgs (PySem.W.fnOf x x (defArgs st) (defBody st) (defScope st) (.ref T) kV doc pm an cdv ct) ⟨us, []⟩ = seqItems? (.ref T) >>= k ∧ k (some its.toArray) = pure (ps.zip (us ++ its.drop 0))) : Dd K mg x st ps (.int i) := by
  obtain ⟨t, rfl⟩ := eT
  have F : FunD K x x (defArgs st) (defBody st) (defScope st) [.int i] [] f (PySem.W.fnOf x x (defArgs st) (defBody st) (defScope st) (.ref T) kV dc pm an cd ct) :=
    ⟨⟨oc, od, _, kV, dc, pm, an, cd, ct, sl, rfl, l, c, .inr ⟨by simp, T, _, [.int i t], nT, rfl, lT, rfl, .cons ⟨t, rfl⟩ .nil⟩, .inl rfl⟩, k⟩
  have B1 := F.binds1 (ps := ps) (n + 1) 1 (by simp) (by rw [← hn]; rfl) b1
  have B2 := F.binds1 (ps := ps) n 0 (by simp) (by rw [← hn]; rfl) b2
  obtain ⟨ds, r, hb⟩ := B1
  have e : ds = [] := by cases r; rfl
  subst e
  exact ⟨f, _, F, PySem.W.mg_of X G a, hb, B2⟩
end Lf

/-! # LfK7 -/
set_option Elab.async false
set_option linter.all false
set_option maxRecDepth 100000
set_option maxHeartbeats 4000000
namespace Lf
open PySem L2
/-! ## the one reading, or none, or two -/
def sp_Twofold___init__ (C : Addr) : Sp := fun vs H Q _ => ∃ (a : Addr) (v1 v2 : V), vs = [.ref a, v1, v2] ∧ H a = some (exo a C none) ∧ ∀ dx, H dx = none → dx ≠ a → Q .non (upd (upd (upd H dx (exd dx [("one", v1)])) a (exo a C (some dx))) dx (exd dx [("other", v2), ("one", v1)]))
/-- a reading told, a dict of one's own -/
def TellR (K : PySem.W.Frag) (H0 H : Hp) (v : V) (vals : List (Str × Vl)) : Prop := ∃ d, v = .ref d ∧ H0 d = none ∧ RV K H (.ref d) vals
theorem TellR.mono {K : PySem.W.Frag} {H0 H H' : Hp} {v : V} {vals : List (Str × Vl)} (h : TellR K H0 H v vals) (k : Same H H') : TellR K H0 H' v vals := by
  obtain ⟨d, e, h0, r⟩ := h; exact ⟨d, e, h0, r.mono k⟩
section
variable (K : PySem.W.Frag) (CN CT : Addr)
def sp_read_x : Sp := fun vs H Q E => ∃ (f : Addr) (tx : Str) (ps : List Pc), vs = [.ref f, .str tx] ∧ FormAt K H f ps ∧ okF ps ∧ tx.length ≤ 5000 ∧
  (∀ vals v H', readsP ps tx.cps.toList = [vals] → Keep H H' → TellR K H H' v vals → Q v H') ∧
  (readsP ps tx.cps.toList = [] → ∀ H', Keep H H' → E (.ref CN) none H') ∧
  (∀ a b r, readsP ps tx.cps.toList = a :: b :: r → ∀ va vb dd H', Keep H H' → TellR K H H' va a → TellR K H H' vb b → H' dd = some (.xd [("other", vb), ("one", va)]) → E (.ref CT) (some dd) H')
def sp__law_tried7 : Sp := fun vs H Q _ => ∃ (f : Addr) (tx : Str) (ps : List Pc), vs = [.ref f, .str tx] ∧ FormAt K H f ps ∧ okF ps ∧ tx.length ≤ 5000 ∧
  (∀ vals v H', readsP ps tx.cps.toList = [vals] → Keep H H' → TellR K H H' v vals → Q v H') ∧
  (readsP ps tx.cps.toList = [] → ∀ a H', Keep H H' → ExK CN none H' a → Q (.ref a) H') ∧
  (∀ x y r, readsP ps tx.cps.toList = x :: y :: r → ∀ va vb a dd H', Keep H H' → TellR K H H' va x → TellR K H H' vb y → ExK CT (some dd) H' a → H' dd = some (.xd [("other", vb), ("one", va)]) → Q (.ref a) H')
end
theorem two_mk {C : Addr} {v1 v2 : V} {H : Hp} {E : XK} (h : ∀ d H', Keep H H' → H d = none → H' d = some (.xd [("other", v2), ("one", v1)]) → E (.ref C) (some d) H') : ([v1, v2] : List V).length ≤ 1000 ∧ ∀ a, H a = none → sp_Twofold___init__ C (.ref a :: ([v1, v2] ++ [])) (upd H a (exo a C none))
    (fun v H2 => v = .non ∧ ∃ (d : Addr) (fs : List (Str × V)), H2 a = some (exo a C (some d)) ∧ H2 d = some (exd d fs) ∧ H d = none ∧ E (.ref C) (some d) (upd (del H2 a) d (.xd fs))) (fun _ _ _ => False) := by
  refine ⟨Nat.le_of_ble_eq_true rfl, fun a na => ⟨a, v1, v2, rfl, upd_same, fun dx nd ne => ⟨rfl, dx, _, (upd_ne ne.symm).trans upd_same, upd_same, ?_, ?_⟩⟩⟩
  · rw [upd_ne ne] at nd; exact nd
  · rw [upd_ne ne] at nd
    refine h dx _ (fun b o e => ?_) nd upd_same
    have ba : b ≠ a := ne_of_none e na
    have bd : b ≠ dx := ne_of_none e nd
    rw [upd_ne bd, del_ne ba, upd_ne bd, upd_ne ba, upd_ne bd, upd_ne ba]
    exact e
end Lf

set_option Elab.async false
set_option linter.all false
set_option maxRecDepth 100000
set_option maxHeartbeats 4000000
namespace Lf
open PySem L2

local macro_rules | `(tactic| one_item) => `(tactic| first
  | with_reducible rfl
  | refine ⟨_, rfl, ?_⟩
  | refine ⟨_, _, rfl, rfl, ?_⟩
  | (refine ⟨_, _, rfl, rfl, ?_, ?_⟩; focus (first | (show (0 : Int) < _; omega) | (show CMul _ _; first | exact Or.inl ⟨by omega, by omega⟩ | exact Or.inr ⟨by omega, by omega⟩) | (show CDiv _ _; exact ⟨by omega, by omega⟩))))
local macro_rules | `(tactic| one_place) => `(tactic| (repeat one_item))
local macro_rules | `(tactic| got_up) => `(tactic| first | assumption | exact L2.Same.refl _ | (refine L2.Same.trans ?_ (by assumption); got_up))
local macro_rules | `(tactic| k_upd) => `(tactic| first | assumption | exact L2.SqL.of (by assumption) | exact L2.SqT.of (by assumption) | (refine L2.Same.seq ?_ (by assumption); got_up) | (refine L2.Same.tup ?_ (by assumption); got_up))

def top (i : Nat) : Stmt := PySem.Challenge.pw_letterform_k07_read_or_refused.main.body.getD i (.Pass ⟨0, 0, 0, 0⟩)

section
variable {P : Program} {w : World} {K : PySem.W.Frag} {mg : Str → Option Value} {base : Heap}

abbrev s__law_cell_at : Stmt := top 23
abbrev n__law_cell_at : List Str := ["script", "k"]
theorem sc__law_cell_at : FnScope n__law_cell_at ["script", "k"] (defScope s__law_cell_at) := ⟨rfl, rfl, rfl, by decide +kernel, rfl, by decide +kernel, by decide +kernel⟩

theorem dn__law_cell_at (D : Df K mg "_law_cell_at" s__law_cell_at ["script", "k"]) (B : Bl mg) : Dn P w K mg base CX0 1 "_law_cell_at" (sp__law_cell_at K) := by
  refine .of D fun f fd F => F.ok sc__law_cell_at (fun vs H Q E h => ?_) (fun cdv A outer s H vs Q E hr h => ?_)
  · (obtain ⟨_, _, _, rfl, _⟩ := h; rfl)
  · have hu := hu_of hr
    have hu64 : _ := hr.units
    refine ⟨_, (pss_cons (ps_if (pt_cmpR op_lt (pv 1) (pe_callB (callLen (K := K) rfl) rfl B.len PySem.boot_len (pa_cons (pv 0) pa_nil)) (nomark _)) (pss_one (ps_ret (pe_ix (ixLs (K := K) rfl) (pv 0) (pv 1) (fun _ _ => rfl)))) pss_nil)
      (pss_one (ps_ret pe_int))), ?_⟩
    obtain ⟨a, ns, k, rfl, hS, hk, q⟩ := h
    refine ⟨_, rfl, _, rfl, _, _, rfl, .inl hS, _, _, rfl, rfl, _, rfl, ?_⟩
    rw [List.length_map]
    unfold cellAt at q
    refine ite2 (fun c => ?_) (fun c => ?_)
    · have c : k < (ns.length : Int) := by simpa using c
      rw [if_pos c] at q
      refine ⟨_, rfl, _, rfl, _, _, _, _, rfl, rfl, hS, ?_, q⟩
      have hj : k.toNat < ns.length := by omega
      refine at_of (j := k.toNat) (by omega) ?_
      rw [List.getElem?_map, List.getElem?_eq_getElem hj, List.getD_eq_getElem?_getD, List.getElem?_eq_getElem hj]
      rfl
    · have c : ¬ k < (ns.length : Int) := by simpa using c
      rw [if_neg c] at q
      exact q

abbrev s__law_draw : Stmt := top 24
abbrev n__law_draw : List Str := ["script", "k", "stir"]
theorem sc__law_draw : FnScope n__law_draw ["script", "k"] (defScope s__law_draw) := ⟨rfl, rfl, rfl, by decide +kernel, rfl, by decide +kernel, by decide +kernel⟩

theorem dn__law_draw (D : Df K mg "_law_draw" s__law_draw ["script", "k"]) (d__law_cell_at : Dn P w K mg base CX0 1 "_law_cell_at" (sp__law_cell_at K))  : Dn P w K mg base CX0 2 "_law_draw" (sp__law_draw K) := by
  refine .of D fun f fd F => F.ok sc__law_draw (fun vs H Q E h => ?_) (fun cdv A outer s H vs Q E hr h => ?_)
  · (obtain ⟨_, _, _, rfl, _⟩ := h; rfl)
  · have hu := hu_of hr
    have hu64 : _ := hr.units
    refine ⟨_, (pss_cons (ps_set (i := 2) sc__law_draw.nd rfl (Or.inl rfl) (pe_op op_mod (pe_op op_mul (pe_op op_add (pe_op op_add (cD d__law_cell_at hr (by decide) rfl (pa_cons (pv 0) (pa_cons (pe_op op_mod (pv 1) pe_int) pa_nil))) (pe_op op_mul pe_int (pv 1))) pe_int) pe_int) pe_int))
      (pss_cons (ps_set (i := 2) sc__law_draw.nd rfl (Or.inl rfl) (pe_op op_mod (pe_op op_mul (pv 2) (pv 2)) pe_int))
      (pss_one (ps_ret (pe_op op_fdiv (pe_op op_mod (pe_op op_mul (pv 2) pe_int) pe_int) pe_int))))), ?_⟩
    obtain ⟨a, ns, k, rfl, hS, q⟩ := h
    refine ⟨_, rfl, _, rfl, _, _, rfl, rfl, (by show (0 : Int) < 61; decide), a, ns, _, rfl, hS, (by omega), ?_⟩
    refine ⟨_, rfl, _, _, rfl, rfl, .inl ⟨by omega, by omega⟩, _, _, rfl, rfl, _, _, rfl, rfl, _, _, rfl, rfl, .inr ⟨by omega, by omega⟩, _, _, rfl, rfl, (by show (0 : Int) < 2147483647; decide), ?_⟩
    refine ⟨_, rfl, _, rfl, _, _, rfl, rfl, .inl ⟨by omega, by omega⟩, _, _, rfl, rfl, (by show (0 : Int) < 2147483647; decide), ?_⟩
    exact ⟨_, rfl, _, _, rfl, rfl, .inr ⟨by omega, by omega⟩, _, _, rfl, rfl, (by show (0 : Int) < 2147483647; decide), _, _, rfl, rfl, ⟨by decide, by decide⟩, q⟩

abbrev s__law_signs : Stmt := top 25
abbrev n__law_signs : List Str := ["cell", "some"]
theorem sc__law_signs : FnScope n__law_signs ["cell"] (defScope s__law_signs) := ⟨rfl, rfl, rfl, by decide +kernel, rfl, by decide +kernel, by decide +kernel⟩

theorem dn__law_signs (D : Df K mg "_law_signs" s__law_signs ["cell"])  : Dn P w K mg base CX0 1 "_law_signs" (sp__law_signs K) := by
  refine .of D fun f fd F => F.ok sc__law_signs (fun vs H Q E h => ?_) (fun cdv A outer s H vs Q E hr h => ?_)
  · (obtain ⟨_, rfl, _⟩ := h; rfl)
  · have hu := hu_of hr
    have hu64 : _ := hr.units
    refine ⟨_, (pss_cons (ps_set (i := 1) sc__law_signs.nd rfl (Or.inl rfl) (pe_lst (pa_cons pe_str (pa_cons pe_str (pa_cons pe_str (pa_cons pe_str (pa_cons pe_str (pa_cons pe_str (pa_cons pe_str (pa_cons pe_str (pa_cons pe_str (pa_cons pe_str pa_nil))))))))))))
      (pss_one (ps_ret (pe_ix (ixLs (K := K) rfl) (pv 1) (pe_op op_mod (pv 0) pe_int) (fun _ _ => rfl))))), ?_⟩
    obtain ⟨c, rfl, q⟩ := h
    refine ⟨(by show 10 ≤ sizeLine; decide), fun l hl => ?_⟩
    refine ⟨_, rfl, _, rfl, _, _, rfl, rfl, (by show (0 : Int) < 10; decide), l, _, _, _, rfl, rfl, SqL.of upd_same, ?_, q _ (Keep.new hl)⟩
    exact pick_at sgL c rfl

abbrev s__law_say : Stmt := top 26
abbrev n__law_say : List Str := ["cell", "some"]
theorem sc__law_say : FnScope n__law_say ["cell"] (defScope s__law_say) := ⟨rfl, rfl, rfl, by decide +kernel, rfl, by decide +kernel, by decide +kernel⟩

theorem dn__law_say (D : Df K mg "_law_say" s__law_say ["cell"])  : Dn P w K mg base CX0 1 "_law_say" (sp__law_say K) := by
  refine .of D fun f fd F => F.ok sc__law_say (fun vs H Q E h => ?_) (fun cdv A outer s H vs Q E hr h => ?_)
  · (obtain ⟨_, rfl, _⟩ := h; rfl)
  · have hu := hu_of hr
    have hu64 : _ := hr.units
    refine ⟨_, (pss_cons (ps_set (i := 1) sc__law_say.nd rfl (Or.inl rfl) (pe_lst (pa_cons pe_str (pa_cons pe_str (pa_cons pe_str (pa_cons pe_str (pa_cons pe_str (pa_cons pe_str (pa_cons pe_str (pa_cons pe_str (pa_cons pe_str (pa_cons pe_str (pa_cons pe_str (pa_cons pe_str pa_nil))))))))))))))
      (pss_one (ps_ret (pe_ix (ixLs (K := K) rfl) (pv 1) (pe_op op_mod (pv 0) pe_int) (fun _ _ => rfl))))), ?_⟩
    obtain ⟨c, rfl, q⟩ := h
    refine ⟨(by show 12 ≤ sizeLine; decide), fun l hl => ?_⟩
    refine ⟨_, rfl, _, rfl, _, _, rfl, rfl, (by show (0 : Int) < 12; decide), l, _, _, _, rfl, rfl, SqL.of upd_same, ?_, q _ (Keep.new hl)⟩
    exact pick_at sayL c rfl

abbrev s__law_ask : Stmt := top 27
abbrev n__law_ask : List Str := ["script", "k", "name", "most", "cell", "least"]
theorem sc__law_ask : FnScope n__law_ask ["script", "k", "name", "most"] (defScope s__law_ask) := ⟨rfl, rfl, rfl, by decide +kernel, rfl, by decide +kernel, by decide +kernel⟩

theorem dn__law_ask (D : Df K mg "_law_ask" s__law_ask ["script", "k", "name", "most"]) (d__law_draw : Dn P w K mg base CX0 2 "_law_draw" (sp__law_draw K))  (d__law_signs : Dn P w K mg base CX0 1 "_law_signs" (sp__law_signs K))  : Dn P w K mg base CX0 3 "_law_ask" (sp__law_ask K) := by
  refine .of D fun f fd F => F.ok sc__law_ask (fun vs H Q E h => ?_) (fun cdv A outer s H vs Q E hr h => ?_)
  · (obtain ⟨_, _, _, _, _, _, rfl, _⟩ := h; rfl)
  · have hu := hu_of hr
    have hu64 : _ := hr.units
    refine ⟨_, (pss_cons (ps_set (i := 4) sc__law_ask.nd rfl (Or.inl rfl) (cD d__law_draw hr (by decide) rfl (pa_cons (pv 0) (pa_cons (pv 1) pa_nil))))
      (pss_cons (ps_set (i := 5) sc__law_ask.nd rfl (Or.inl rfl) (pe_op op_mod (pe_op op_fdiv (pv 4) pe_int) (pe_op op_add (pv 3) pe_int)))
      (pss_one (ps_ret (pe_tup (pa_cons pe_str (pa_cons (pv 2) (pa_cons (cD d__law_signs hr (by decide) rfl (pa_cons (pv 4) pa_nil)) (pa_cons (pv 5) (pa_cons (pe_op op_add (pv 5) (pe_op op_mod (pe_op op_fdiv (pv 4) pe_int) (pe_op op_sub (pe_op op_add (pv 3) pe_int) (pv 5)))) pa_nil)))))))))), ?_⟩
    obtain ⟨a, ns, k, nm, most, G, rfl, gh, hS, hm, q⟩ := h
    have d0 := draw_nn ns k
    refine ⟨_, rfl, _, rfl, a, ns, k, rfl, gh.seq hS, ?_⟩
    refine ⟨_, rfl, _, _, rfl, rfl, ⟨by decide, by decide⟩, _, rfl, _, _, rfl, rfl, _, _, rfl, rfl, (by show 0 < most + 1; omega), ?_⟩
    have e1 : 0 ≤ draw ns k / 10 % (most + 1) := Int.emod_nonneg _ (by omega)
    have e2 : draw ns k / 10 % (most + 1) < most + 1 := Int.emod_lt_of_pos _ (by omega)
    refine ⟨_, rfl, _, rfl, _, rfl, fun H1 k1 => ⟨_, rfl, _, rfl, _, rfl, _, _, rfl, rfl, ⟨by decide, by decide⟩, _, rfl, _, _, rfl, rfl, _, rfl, _, _, rfl, rfl, _, _, rfl, rfl, ?_, _, _, rfl, rfl, ?_⟩⟩
    · show 0 < most + 1 - draw ns k / 10 % (most + 1)
      omega
    refine ⟨(by show 5 ≤ sizeLine; decide), fun p hp => ?_⟩
    have w := ((Wd.refl gh).keep k1).new (o := .tup [.str "ask", .str nm, .str (pick sgL (draw ns k)), .int (draw ns k / 10 % (most + 1)), .int (draw ns k / 10 % (most + 1) + draw ns k / 60 % (most + 1 - draw ns k / 10 % (most + 1)))]) hp
    exact q _ _ _ w ⟨p, rfl, SqT.of upd_same⟩

abbrev s__law_inner : Stmt := top 28
abbrev n__law_inner : List Str := ["script", "k", "many", "most", "names", "row", "j"]
theorem sc__law_inner : FnScope n__law_inner ["script", "k", "many", "most"] (defScope s__law_inner) := ⟨rfl, rfl, rfl, by decide +kernel, rfl, by decide +kernel, by decide +kernel⟩

theorem dn__law_inner (D : Df K mg "_law_inner" s__law_inner ["script", "k", "many", "most"]) (B : Bl mg) (d__law_draw : Dn P w K mg base CX0 2 "_law_draw" (sp__law_draw K))  (d__law_say : Dn P w K mg base CX0 1 "_law_say" (sp__law_say K))  (d__law_ask : Dn P w K mg base CX0 3 "_law_ask" (sp__law_ask K))  : Dn P w K mg base CX0 4 "_law_inner" (sp__law_inner K) := by
  refine .of D fun f fd F => F.ok sc__law_inner (fun vs H Q E h => ?_) (fun cdv A outer s H vs Q E hr h => ?_)
  · (obtain ⟨_, _, _, _, _, _, rfl, _⟩ := h; rfl)
  · have hu := hu_of hr
    have hu64 : _ := hr.units
    refine ⟨_, (pss_cons (ps_set (i := 4) sc__law_inner.nd rfl (Or.inl rfl) (pe_lst (pa_cons pe_str (pa_cons pe_str (pa_cons pe_str pa_nil)))))
      (pss_cons (ps_set (i := 5) sc__law_inner.nd rfl (Or.inl rfl) (pe_lst pa_nil))
      (pss_cons (ps_for PassesOwn.never rfl (pi_range1 rfl B.range (pa_cons (pe_op op_add pe_int (pe_op op_mod (cD d__law_draw hr (by decide) rfl (pa_cons (pv 0) (pa_cons (pv 1) pa_nil))) (pv 2))) pa_nil)) (pg_name (i := 6) sc__law_inner.nd rfl (Or.inl rfl))
      (pss_one (ps_if (pt_cmpR op_eq (pe_op op_mod (cD d__law_draw hr (by decide) rfl (pa_cons (pv 0) (pa_cons (pe_op op_add (pe_op op_add (pv 1) pe_int) (pv 6)) pa_nil))) pe_int) pe_int (nomark _)) (pss_one (ps_expr (pe_bm PySem.F.plainAttrs_list PySem.F.slot_list_append PySem.F.type_list_append mt_append (pv 5) (pa_cons (pe_tup (pa_cons pe_str (pa_cons (cD d__law_say hr (by decide) rfl (pa_cons (cD d__law_draw hr (by decide) rfl (pa_cons (pv 0) (pa_cons (pe_op op_add (pe_op op_add (pv 1) pe_int) (pv 6)) pa_nil))) pa_nil)) pa_nil))) pa_nil)))) (pss_one (ps_expr (pe_bm PySem.F.plainAttrs_list PySem.F.slot_list_append PySem.F.type_list_append mt_append (pv 5) (pa_cons (cD d__law_ask hr (by decide) rfl (pa_cons (pv 0) (pa_cons (pe_op op_add (pe_op op_add (pv 1) pe_int) (pv 6)) (pa_cons (pe_ix (ixLs (K := K) rfl) (pv 4) (pv 6) (fun _ _ => rfl)) (pa_cons (pv 3) pa_nil))))) pa_nil)))))))
      (pss_one (ps_ret (pv 5)))))), ?_⟩
    obtain ⟨a, ns, k, many, most, G, rfl, gh, hS, hm1, hm3, hm0, q⟩ := h
    refine ⟨(by show 3 ≤ sizeLine; decide), fun ln hln => ⟨(by show 0 ≤ sizeLine; decide), fun l hl => ?_⟩⟩
    have W1 : Wd G H (upd G ln (.lst (nmI.map V.str))) (upd H ln (.lst (nmI.map V.str))) := (Wd.refl gh).new hln
    have hN : SqL K (upd G ln (.lst (nmI.map V.str))) ln (nmI.map V.str) := SqL.of upd_same
    generalize hG1 : upd G ln (.lst (nmI.map V.str)) = G1 at W1 hN
    generalize hH1 : upd H ln (.lst (nmI.map V.str)) = H1 at W1
    have e1 : upd H ln (.lst [V.str "who", V.str "day", V.str "w"]) = H1 := hH1
    rw [e1] at hl ⊢
    have W2 := (Wd.refl W1.gh).keep (Keep.new (o := .lst []) hl)
    have g1l : G1 l = none := Same.free W1.gh hl
    have d0 : 0 ≤ draw ns k % many := Int.emod_nonneg _ (by omega)
    have d1 : draw ns k % many < many := Int.emod_lt_of_pos _ (by omega)
    refine ⟨_, rfl, _, rfl, a, ns, k, rfl, W2.gh.seq (W1.gg.seq hS), _, rfl, _, _, rfl, rfl, (by show 0 < many; omega), _, _, rfl, rfl, _, rfl, (by omega), (by omega), ?_⟩
    refine for_range (lo := 0) (n := (1 + draw ns k % many).toNat) (fun i σ H' => ∃ G' xs v, σ = [some (.ref a), some (.int k), some (.int many), some (.int most), some (.ref ln), some (.ref l), v] ∧ Wd G1 H1 G' H' ∧ H' l = some (.lst xs) ∧ G' l = none ∧ Paired (R0 K G') xs ((List.range i).map (innerAt ns k most)) ∧ xs.length = i)
      ⟨G1, [], none, rfl, W2, upd_same, g1l, .nil, rfl⟩ ?_ ?_
    · rintro i σ H' hi ⟨G', xs, v, rfl, Wx, hlx, gl, hP, hlen⟩
      rw [Int.zero_add]
      have hS' := Wx.gh.seq (Wx.gg.seq (W1.gg.seq hS))
      refine ⟨_, rfl, _, rfl, _, _, rfl, rfl, _, rfl, _, _, rfl, rfl, a, ns, _, rfl, hS', _, _, rfl, rfl, (by show (0 : Int) < 3; decide), rfl, _, rfl, ?_⟩
      have iA : innerAt ns k most i = if draw ns (k + 1 + i) % 3 = 0 then .say (pick sayL (draw ns (k + 5 + i))) else askP ns (k + 9 + i) (nmI.getD i Str.empty) most := rfl
      refine ite2 (fun c => ?_) (fun c => ?_)
      · have c : draw ns (k + 1 + i) % 3 = 0 := by simpa using c
        rw [if_pos c] at iA
        refine ⟨_, rfl, .inl ⟨rfl, _, SqL.of hlx⟩, _, rfl, _, rfl, _, _, rfl, rfl, _, rfl, _, _, rfl, rfl, a, ns, _, rfl, hS', _, rfl, fun H2 k2 => ⟨(by show 2 ≤ sizeLine; decide), fun p hp => ⟨l, xs, _, rfl, rfl, ?_, small1000 (by omega), ?_⟩⟩⟩
        · rw [upd_ne (ne_of_none (k2 _ _ hlx) hp)]; exact k2 _ _ hlx
        have W3 := (Wx.keep k2).new (o := .tup [.str "say", .str (pick sayL (draw ns (k + 5 + i)))]) hp
        have pl : l ≠ p := ne_of_none (k2 _ _ hlx) hp
        have g3 : upd G' p (.tup [.str "say", .str (pick sayL (draw ns (k + 5 + i)))]) l = none := by rw [upd_ne pl]; exact gl
        have sg : Same G' (upd G' p (.tup [.str "say", .str (pick sayL (draw ns (k + 5 + i)))])) := Same.new (Same.free Wx.gh (Keep.free k2 hp))
        refine ⟨_, _, _, rfl, W3.mut hl g3, upd_same, g3, ?_, by simp [hlen]⟩
        rw [map_range_succ, iA]
        exact Paired.snoc (Paired.monoP hP fun _ _ z => z.mono sg) ⟨p, rfl, SqT.of upd_same⟩
      · have c : ¬ draw ns (k + 1 + i) % 3 = 0 := by simpa using c
        rw [if_neg c] at iA
        have hj : i < nmI.length := by show i < 3; omega
        refine ⟨_, rfl, .inl ⟨rfl, _, SqL.of hlx⟩, _, rfl, _, rfl, _, _, rfl, rfl, _, rfl, _, _, rfl, rfl, _, rfl, _, rfl, _, _, _, V.str (nmI.getD i Str.empty), rfl, rfl, Wx.gh.seq (Wx.gg.seq hN), ?_, _, rfl, a, ns, _, _, most, G', rfl, Wx.gh, Wx.gg.seq (W1.gg.seq hS), hm0, ?_⟩
        · refine atI_nat ?_
          rw [List.getElem?_map, List.getElem?_eq_getElem hj, List.getD_eq_getElem?_getD, List.getElem?_eq_getElem hj]
          rfl
        intro v' G2 H2 w2 r2
        have g2 := w2.nw l _ hlx gl
        refine ⟨l, xs, _, rfl, rfl, w2.hh _ _ hlx, small1000 (by omega), ?_⟩
        refine ⟨_, _, _, rfl, (Wx.trans w2).mut hl g2, upd_same, g2, ?_, by simp [hlen]⟩
        rw [map_range_succ, iA]
        exact Paired.snoc (Paired.monoP hP fun _ _ z => z.mono w2.gg) r2
    · rintro σ H' ⟨G', xs, v, rfl, Wx, hlx, gl, hP, hlen⟩
      refine ⟨_, rfl, q _ _ _ (W1.trans (Wx.tell hlx hl gl)) ⟨l, xs, rfl, SqL.of upd_same, Paired.monoP hP fun _ _ z => z.mono (Same.new gl)⟩⟩

abbrev s__law_piece : Stmt := top 29
abbrev n__law_piece : List Str := ["script", "k", "name", "most", "cell", "gap", "least", "inner"]
theorem sc__law_piece : FnScope n__law_piece ["script", "k", "name", "most"] (defScope s__law_piece) := ⟨rfl, rfl, rfl, by decide +kernel, rfl, by decide +kernel, by decide +kernel⟩

theorem dn__law_piece (D : Df K mg "_law_piece" s__law_piece ["script", "k", "name", "most"]) (d__law_draw : Dn P w K mg base CX0 2 "_law_draw" (sp__law_draw K))  (d__law_say : Dn P w K mg base CX0 1 "_law_say" (sp__law_say K))  (d__law_ask : Dn P w K mg base CX0 3 "_law_ask" (sp__law_ask K))  (d__law_inner : Dn P w K mg base CX0 4 "_law_inner" (sp__law_inner K))  : Dn P w K mg base CX0 5 "_law_piece" (sp__law_piece K) := by
  refine .of D fun f fd F => F.ok sc__law_piece (fun vs H Q E h => ?_) (fun cdv A outer s H vs Q E hr h => ?_)
  · (obtain ⟨_, _, _, _, _, _, rfl, _⟩ := h; rfl)
  · have hu := hu_of hr
    have hu64 : _ := hr.units
    refine ⟨_, (pss_cons (ps_set (i := 4) sc__law_piece.nd rfl (Or.inl rfl) (cD d__law_draw hr (by decide) rfl (pa_cons (pv 0) (pa_cons (pv 1) pa_nil))))
      (pss_cons (ps_if (pt_cmpR op_lt (pe_op op_mod (pv 4) pe_int) pe_int (nomark _)) (pss_one (ps_ret (pe_tup (pa_cons pe_str (pa_cons (cD d__law_say hr (by decide) rfl (pa_cons (pe_op op_fdiv (pv 4) pe_int) pa_nil)) pa_nil))))) pss_nil)
      (pss_cons (ps_if (pt_cmpR op_lt (pe_op op_mod (pv 4) pe_int) pe_int (nomark _)) (pss_one (ps_ret (cD d__law_ask hr (by decide) rfl (pa_cons (pv 0) (pa_cons (pe_op op_add (pv 1) pe_int) (pa_cons (pv 2) (pa_cons (pv 3) pa_nil))))))) pss_nil)
      (pss_cons (ps_set (i := 5) sc__law_piece.nd rfl (Or.inl rfl) (pe_ix (ixLs (K := K) rfl) (pe_lst (pa_cons pe_str (pa_cons pe_str (pa_cons pe_str (pa_cons pe_str (pa_cons pe_str pa_nil)))))) (pe_op op_mod (pe_op op_fdiv (pv 4) pe_int) pe_int) (fun _ _ => rfl)))
      (pss_cons (ps_set (i := 6) sc__law_piece.nd rfl (Or.inl rfl) (pe_op op_mod (pe_op op_fdiv (pv 4) pe_int) pe_int))
      (pss_cons (ps_set (i := 7) sc__law_piece.nd rfl (Or.inl rfl) (cD d__law_inner hr (by decide) rfl (pa_cons (pv 0) (pa_cons (pe_op op_add (pv 1) pe_int) (pa_cons pe_int (pa_cons (pv 3) pa_nil))))))
      (pss_one (ps_ret (pe_tup (pa_cons pe_str (pa_cons (pv 2) (pa_cons (pv 7) (pa_cons (pv 5) (pa_cons (pv 6) (pa_cons (pe_op op_add (pv 6) (pe_op op_mod (pe_op op_fdiv (pv 4) pe_int) (pe_op op_sub pe_int (pv 6)))) pa_nil))))))))))))))), ?_⟩
    obtain ⟨a, ns, k, nm, most, G, rfl, gh, hS, hm, q⟩ := h
    refine ⟨_, rfl, _, rfl, a, ns, k, rfl, gh.seq hS, ?_⟩
    refine ⟨_, rfl, _, _, rfl, rfl, (by show (0 : Int) < 5; decide), _, _, rfl, rfl, _, rfl, ?_⟩
    have d0 := draw_nn ns k
    unfold pieceP at q
    refine ite2 (fun c => ?_) (fun c => ?_)
    · have c : draw ns k % 5 < 2 := by simpa using c
      rw [if_pos c] at q
      refine ⟨_, rfl, _, _, rfl, rfl, ⟨by decide, by decide⟩, _, rfl, fun H1 k1 => ⟨(by show 2 ≤ sizeLine; decide), fun p hp => ?_⟩⟩
      exact q _ _ _ (((Wd.refl gh).keep k1).new hp) ⟨p, rfl, SqT.of upd_same⟩
    · have c : ¬ draw ns k % 5 < 2 := by simpa using c
      rw [if_neg c] at q
      refine ⟨_, rfl, _, _, rfl, rfl, (by show (0 : Int) < 5; decide), _, _, rfl, rfl, _, rfl, ?_⟩
      refine ite2 (fun c2 => ?_) (fun c2 => ?_)
      · have c2 : draw ns k % 5 < 4 := by simpa using c2
        rw [if_pos c2] at q
        exact ⟨_, rfl, _, rfl, _, _, rfl, rfl, _, rfl, _, rfl, a, ns, _, nm, most, G, rfl, gh, hS, hm, q⟩
      · have c2 : ¬ draw ns k % 5 < 4 := by simpa using c2
        rw [if_neg c2] at q
        refine ⟨(by show 5 ≤ sizeLine; decide), fun l0 hl0 => ?_⟩
        refine ⟨_, rfl, _, _, rfl, rfl, ⟨by decide, by decide⟩, _, _, rfl, rfl, (by show (0 : Int) < 5; decide), l0, _, _, _, rfl, rfl, SqL.of upd_same, pick_at gapL (draw ns k / 5) rfl, ?_⟩
        have W1 := (Wd.refl gh).keep (Keep.new (o := .lst (gapL.map V.str)) hl0)
        have e1 : 0 ≤ draw ns k / 25 % 4 := Int.emod_nonneg _ (by decide)
        have e2 : draw ns k / 25 % 4 < 4 := Int.emod_lt_of_pos _ (by decide)
        refine ⟨_, rfl, _, _, rfl, rfl, ⟨by decide, by decide⟩, _, _, rfl, rfl, (by show (0 : Int) < 4; decide), ?_⟩
        refine ⟨_, rfl, _, rfl, _, _, rfl, rfl, _, rfl, a, ns, _, 3, most, G, rfl, W1.gh, hS, (by decide), (by decide), hm, fun v G2 H2 W2 r2 => ?_⟩
        obtain ⟨l, xs, rfl, h1, h2⟩ := r2
        refine ⟨_, rfl, _, rfl, _, rfl, _, rfl, _, rfl, _, rfl, _, _, rfl, rfl, ⟨by decide, by decide⟩, _, rfl, _, _, rfl, rfl, _, _, rfl, rfl, (by show 0 < 4 - draw ns k / 25 % 4; omega), _, _, rfl, rfl, ?_⟩
        refine ⟨(by show 6 ≤ sizeLine; decide), fun p hp => ?_⟩
        refine q _ _ _ ((W1.trans W2).new hp) ⟨p, l, xs, rfl, SqT.of upd_same, ?_, Paired.monoP h2 fun _ _ z => z.mono (Same.new (Same.free W2.gh hp))⟩
        exact (Same.new (Same.free W2.gh hp)).seq h1

abbrev s__law_pieces : Stmt := top 30
abbrev n__law_pieces : List Str := ["script", "many", "most", "names", "pieces", "k", "name"]
theorem sc__law_pieces : FnScope n__law_pieces ["script", "many", "most"] (defScope s__law_pieces) := ⟨rfl, rfl, rfl, by decide +kernel, rfl, by decide +kernel, by decide +kernel⟩

theorem dn__law_pieces (D : Df K mg "_law_pieces" s__law_pieces ["script", "many", "most"]) (B : Bl mg) (d__law_draw : Dn P w K mg base CX0 2 "_law_draw" (sp__law_draw K))  (d__law_piece : Dn P w K mg base CX0 5 "_law_piece" (sp__law_piece K))  : Dn P w K mg base CX0 6 "_law_pieces" (sp__law_pieces K) := by
  refine .of D fun f fd F => F.ok sc__law_pieces (fun vs H Q E h => ?_) (fun cdv A outer s H vs Q E hr h => ?_)
  · (obtain ⟨_, _, _, _, _, rfl, _⟩ := h; rfl)
  · have hu := hu_of hr
    have hu64 : _ := hr.units
    refine ⟨_, (pss_cons (ps_set (i := 3) sc__law_pieces.nd rfl (Or.inl rfl) (pe_lst (pa_cons pe_str (pa_cons pe_str (pa_cons pe_str (pa_cons pe_str (pa_cons pe_str (pa_cons pe_str pa_nil))))))))
      (pss_cons (ps_set (i := 4) sc__law_pieces.nd rfl (Or.inl rfl) (pe_lst pa_nil))
      (pss_cons (ps_for PassesOwn.never rfl (pi_range1 rfl B.range (pa_cons (pe_op op_add pe_int (pe_op op_mod (cD d__law_draw hr (by decide) rfl (pa_cons (pv 0) (pa_cons pe_int pa_nil))) (pv 1))) pa_nil)) (pg_name (i := 5) sc__law_pieces.nd rfl (Or.inl rfl))
      (pss_cons (ps_set (i := 6) sc__law_pieces.nd rfl (Or.inl rfl) (pe_ix (ixLs (K := K) rfl) (pv 3) (pe_op op_mod (pe_op op_add (pv 5) (cD d__law_draw hr (by decide) rfl (pa_cons (pv 0) (pa_cons pe_int pa_nil)))) pe_int) (fun _ _ => rfl)))
      (pss_one (ps_expr (pe_bm PySem.F.plainAttrs_list PySem.F.slot_list_append PySem.F.type_list_append mt_append (pv 4) (pa_cons (cD d__law_piece hr (by decide) rfl (pa_cons (pv 0) (pa_cons (pe_op op_add pe_int (pe_op op_mul pe_int (pv 5))) (pa_cons (pv 6) (pa_cons (pv 2) pa_nil))))) pa_nil))))))
      (pss_one (ps_ret (pv 4)))))), ?_⟩
    obtain ⟨a, ns, many, most, G, rfl, gh, hS, hm1, hm6, hm0, q⟩ := h
    refine ⟨(by show 6 ≤ sizeLine; decide), fun ln hln => ⟨(by show 0 ≤ sizeLine; decide), fun l hl => ?_⟩⟩
    have W1 : Wd G H (upd G ln (.lst (nmO.map V.str))) (upd H ln (.lst (nmO.map V.str))) := (Wd.refl gh).new hln
    have hN : SqL K (upd G ln (.lst (nmO.map V.str))) ln (nmO.map V.str) := SqL.of upd_same
    generalize hG1 : upd G ln (.lst (nmO.map V.str)) = G1 at W1 hN
    generalize hH1 : upd H ln (.lst (nmO.map V.str)) = H1 at W1
    have e1 : upd H ln (.lst [V.str "who", V.str "w", V.str "day", V.str "first_name = 1?", V.str "whom", V.str "e-mail@"]) = H1 := hH1
    rw [e1] at hl ⊢
    have W2 := (Wd.refl W1.gh).keep (Keep.new (o := .lst []) hl)
    have g1l : G1 l = none := Same.free W1.gh hl
    have d0 : 0 ≤ draw ns 1 % many := Int.emod_nonneg _ (by omega)
    have d1 : draw ns 1 % many < many := Int.emod_lt_of_pos _ (by omega)
    refine ⟨_, rfl, a, ns, 1, rfl, W2.gh.seq (W1.gg.seq hS), _, rfl, _, _, rfl, rfl, (by show 0 < many; omega), _, _, rfl, rfl, _, rfl, (by omega), (by omega), ?_⟩
    refine for_range (lo := 0) (n := (1 + draw ns 1 % many).toNat) (fun i σ H' => ∃ G' xs v v2, σ = [some (.ref a), some (.int many), some (.int most), some (.ref ln), some (.ref l), v, v2] ∧ Wd G1 H1 G' H' ∧ H' l = some (.lst xs) ∧ G' l = none ∧ Paired (RP K G') xs ((List.range i).map (pieceAt ns most)) ∧ xs.length = i)
      ⟨G1, [], none, none, rfl, W2, upd_same, g1l, .nil, rfl⟩ ?_ ?_
    · rintro i σ H' hi ⟨G', xs, v, v2, rfl, Wx, hlx, gl, hP, hlen⟩
      rw [Int.zero_add]
      have hS' := Wx.gh.seq (Wx.gg.seq (W1.gg.seq hS))
      refine ⟨_, rfl, _, rfl, _, rfl, a, ns, 2, rfl, hS', _, _, rfl, rfl, _, _, rfl, rfl, (by show (0 : Int) < 6; decide), ln, _, _, _, rfl, rfl, Wx.gh.seq (Wx.gg.seq hN), pick_at nmO _ rfl, ?_⟩
      refine ⟨_, rfl, .inl ⟨rfl, _, SqL.of hlx⟩, _, rfl, _, rfl, _, _, rfl, rfl, .inl ⟨by decide, by decide⟩, _, _, rfl, rfl, _, rfl, _, rfl, a, ns, _, _, most, G', rfl, Wx.gh, Wx.gg.seq (W1.gg.seq hS), hm0, ?_⟩
      intro v' G2 H2 w2 r2
      have g2 := w2.nw l _ hlx gl
      refine ⟨l, xs, _, rfl, rfl, w2.hh _ _ hlx, small1000 (by omega), ?_⟩
      refine ⟨_, _, _, _, rfl, (Wx.trans w2).mut hl g2, upd_same, g2, ?_, by simp [hlen]⟩
      rw [map_range_succ]
      exact Paired.snoc (Paired.monoP hP fun _ _ z => z.mono w2.gg) r2
    · rintro σ H' ⟨G', xs, v, v2, rfl, Wx, hlx, gl, hP, hlen⟩
      refine ⟨_, rfl, q _ _ _ (W1.trans (Wx.tell hlx hl gl)) ⟨l, xs, rfl, SqL.of upd_same, Paired.monoP hP fun _ _ z => z.mono (Same.new gl)⟩⟩

abbrev s__law_few : Stmt := top 31
abbrev n__law_few : List Str := ["script", "pieces", "rows", "piece"]
theorem sc__law_few : FnScope n__law_few ["script"] (defScope s__law_few) := ⟨rfl, rfl, rfl, by decide +kernel, rfl, by decide +kernel, by decide +kernel⟩

theorem dn__law_few (D : Df K mg "_law_few" s__law_few ["script"]) (B : Bl mg) (d__law_pieces : Dn P w K mg base CX0 6 "_law_pieces" (sp__law_pieces K))  : Dn P w K mg base CX0 7 "_law_few" (sp__law_few K) := by
  refine .of D fun f fd F => F.ok sc__law_few (fun vs H Q E h => ?_) (fun cdv A outer s H vs Q E hr h => ?_)
  · (obtain ⟨_, _, _, rfl, _⟩ := h; rfl)
  · have hu := hu_of hr
    have hu64 : _ := hr.units
    refine ⟨_, (pss_cons (ps_set (i := 1) sc__law_few.nd rfl (Or.inl rfl) (pe_lst pa_nil))
      (pss_cons (ps_set (i := 2) sc__law_few.nd rfl (Or.inl rfl) pe_int)
      (pss_cons (ps_for PassesOwn.never rfl (pi_list (cD d__law_pieces hr (by decide) rfl (pa_cons (pv 0) (pa_cons pe_int (pa_cons pe_int pa_nil))))) (pg_name (i := 3) sc__law_few.nd rfl (Or.inl rfl))
      (pss_cons (ps_if (pt_cmpR op_eq (pe_ix (ixT (K := K) rfl) (pv 3) pe_int (fun _ _ => rfl)) pe_str (nomark _)) (pss_cons (ps_set (i := 2) sc__law_few.nd rfl (Or.inl rfl) (pe_op op_add (pv 2) pe_int))
      (pss_one (ps_set (i := 3) sc__law_few.nd rfl (Or.inl rfl) (pe_tup (pa_cons (pe_ix (ixT (K := K) rfl) (pv 3) pe_int (fun _ _ => rfl)) (pa_cons (pe_ix (ixT (K := K) rfl) (pv 3) pe_int (fun _ _ => rfl)) (pa_cons (pe_slice (slL (K := K) rfl) (pe_ix (ixT (K := K) rfl) (pv 3) pe_int (fun _ _ => rfl)) po_none (po_some pe_int)) (pa_cons (pe_ix (ixT (K := K) rfl) (pv 3) pe_int (fun _ _ => rfl)) (pa_cons (pe_callB (call_min2 rfl) rfl B.min (by decide +kernel) (pa_cons (pe_ix (ixT (K := K) rfl) (pv 3) pe_int (fun _ _ => rfl)) (pa_cons pe_int pa_nil))) (pa_cons (pe_callB (call_min2 rfl) rfl B.min (by decide +kernel) (pa_cons (pe_ix (ixT (K := K) rfl) (pv 3) pe_int (fun _ _ => rfl)) (pa_cons pe_int pa_nil))) pa_nil)))))))))) pss_nil)
      (pss_cons (ps_if (PW.pt (pw_and (pt_cmpR op_eq (pe_ix (ixT (K := K) rfl) (pv 3) pe_int (fun _ _ => rfl)) pe_str (nomark _)) (pw_and1 (pt_cmpR op_gt (pv 2) pe_int (nomark _))))) (pss_one (ps_set (i := 3) sc__law_few.nd rfl (Or.inl rfl) (pe_tup (pa_cons pe_str (pa_cons (pe_ix (ixT (K := K) rfl) (pv 3) pe_int (fun _ _ => rfl)) (pa_cons pe_str (pa_cons pe_int (pa_cons pe_int pa_nil)))))))) pss_nil)
      (pss_one (ps_expr (pe_bm PySem.F.plainAttrs_list PySem.F.slot_list_append PySem.F.type_list_append mt_append (pv 1) (pa_cons (pv 3) pa_nil)))))))
      (pss_one (ps_ret (pv 1)))))), ?_⟩
    obtain ⟨a, ns, G, rfl, gh, hS, q⟩ := h
    refine ⟨(by show 0 ≤ sizeLine; exact Nat.zero_le _), fun l hl => ?_⟩
    have W1 := (Wd.refl gh).keep (Keep.new (o := .lst []) hl)
    have gl : G l = none := Same.free gh hl
    refine ⟨_, rfl, a, ns, 4, 2, G, rfl, W1.gh, hS, by decide, by decide, by decide, fun v G2 H2 W2 r2 => ?_⟩
    obtain ⟨lp, xs, rfl, hLp, hP⟩ := r2
    have hl2 := W2.hh _ _ (show upd H l (.lst []) l = some (.lst []) from upd_same)
    have gl2 := W2.nw l _ upd_same gl
    have h6 := (pieces_ok ns (many := 4) (most := 2) (by decide) (by decide) (by decide) (by decide)).l6
    unfold fewP at q
    generalize piecesP ns 4 2 = ps at hP q h6
    have hxp := Paired.len hP
    refine ⟨lp, rfl, ⟨xs, W2.gh.seq hLp⟩, for_list (K := K) (a := lp) (xs := xs) (fun i σ H' => ∃ G' ys v, σ = [some (.ref a), some (.ref l), some (.int ((fewF (ps.take i)).1 : Nat)), v] ∧ Wd G H G' H' ∧ H' l = some (.lst ys) ∧ G' l = none ∧ Paired (RP K G') ys (fewF (ps.take i)).2 ∧ ys.length = i ∧ Same G2 G')
      ⟨G2, [], none, rfl, W1.trans W2, hl2, gl2, .nil, rfl, Same.refl _⟩ (fun i σ H' _ ⟨G', _, _, _, W, _, _, _, _, s⟩ => W.gh.seq (s.seq hLp)) ?_ ?_⟩
    · rintro i x σ H' hxi ⟨G', ys, v, rfl, W, hly, gly, hY, hyl, sg⟩
      obtain ⟨p, hp, hR⟩ := Paired.at hP hxi
      have hi6 := at_lt hp
      rw [fewF_snoc hp]
      generalize fewF (ps.take i) = st at hY
      obtain ⟨k, qs⟩ := st
      have fin : ∀ {G3 H3 : Hp} {v : V} {pc : Pc} {z : Option V} {k' : Nat} {c : Int}, z = some v → c = (k' : Nat) → Wd G' H' G3 H3 → RP K G3 v pc → ∃ l' xs' y, V.ref l = V.ref l' ∧ [v] = [y] ∧ H3 l' = some (.lst xs') ∧ xs'.length < sizeLine ∧
          ∃ G4 ys2 v2, [some (V.ref a), some (V.ref l), some (V.int c), z] = [some (V.ref a), some (V.ref l), some (V.int (k' : Nat)), v2] ∧ Wd G H G4 (upd H3 l' (.lst (xs' ++ [y]))) ∧ upd H3 l' (.lst (xs' ++ [y])) l = some (.lst ys2) ∧ G4 l = none ∧ Paired (RP K G4) ys2 (qs ++ [pc]) ∧ ys2.length = i + 1 ∧ Same G2 G4 := by
        intro G3 H3 v pc z k' c ez ec W3 r
        subst ec
        have hl3 := W3.hh _ _ hly
        have g3 := W3.nw l _ hly gly
        exact ⟨l, ys, _, rfl, rfl, hl3, small1000 (by omega), G3, _, _, rfl, (W.trans W3).mut hl g3, upd_same, g3, Paired.snoc (Paired.monoP hY fun _ _ z => z.mono W3.gg) r, by rw [List.length_append, hyl]; rfl, sg.trans W3.gg⟩
      have hR' := (hR.mono sg).mono W.gh
      cases p with
      | p0 p =>
        obtain ⟨ap, rfl, hT0⟩ := hR.mono sg
        have hT := W.gh.tup hT0
        cases p with
        | say t =>
          refine ⟨_, rfl, ap, _, _, _, rfl, rfl, hT, rfl, rfl, _, rfl, iteNe say_rows ?_⟩
          refine ⟨_, rfl, ap, _, _, _, rfl, rfl, hT, rfl, rfl, _, rfl, iteNe say_rows (iteF ?_)⟩
          exact ⟨_, rfl, .inl ⟨rfl, _, SqL.of hly⟩, _, rfl, fin rfl rfl (Wd.refl W.gh) ⟨ap, rfl, hT0⟩⟩
        | ask nm sg lo hi =>
          refine ⟨_, rfl, ap, _, _, _, rfl, rfl, hT, rfl, rfl, _, rfl, iteNe ask_rows ?_⟩
          refine ⟨_, rfl, ap, _, _, _, rfl, rfl, hT, rfl, rfl, _, rfl, iteNe ask_rows (iteF ?_)⟩
          exact ⟨_, rfl, .inl ⟨rfl, _, SqL.of hly⟩, _, rfl, fin rfl rfl (Wd.refl W.gh) ⟨ap, rfl, hT0⟩⟩
      | rows nm ips gap lo hi =>
        obtain ⟨ap, li, its, rfl, hT0, hLi0, hPi⟩ := hR.mono sg
        have hT := W.gh.tup hT0
        refine ⟨_, rfl, ap, _, _, _, rfl, rfl, hT, rfl, rfl, _, rfl, iteEq ?_⟩
        refine ⟨_, rfl, _, _, rfl, rfl, ?_⟩
        refine ⟨_, rfl, ap, _, _, _, rfl, rfl, hT, rfl, _, rfl, ap, _, _, _, rfl, rfl, hT, rfl, _, rfl, ap, _, _, _, rfl, rfl, hT, rfl, 2, rfl, li, its, rfl, W.gh.seq hLi0, fun m nm' => ?_⟩
        have W3 := (Wd.refl W.gh).new (o := .lst (cutV its none (some 2))) nm'
        have hm3 : (upd G' m (.lst (cutV its none (some 2)))) m = some (.lst (its.take 2)) := by rw [upd_same, cut2]
        have hP3 := Paired.monoP (Paired.takeP' 2 hPi) fun _ _ z => z.mono W3.gg
        generalize upd G' m (.lst (cutV its none (some 2))) = G3 at W3 hm3 hP3
        generalize upd H' m (.lst (cutV its none (some 2))) = H3 at W3 ⊢
        have hT3 := W3.hh.same.tup hT
        refine ⟨_, rfl, ap, _, _, _, rfl, rfl, hT3, rfl, _, rfl, ap, _, _, _, rfl, rfl, hT3, rfl, _, _, rfl, _, rfl, ap, _, _, _, rfl, rfl, hT3, rfl, _, _, rfl, (by show 6 ≤ sizeLine; decide), fun t nt => ?_⟩
        rw [min2, min2]
        have W4 := W3.new (o := .tup [.str "rows", .str nm, .ref m, .str gap, .int (min lo 2), .int (min hi 2)]) nt
        have ht4 : (upd G3 t (.tup [.str "rows", .str nm, .ref m, .str gap, .int (min lo 2), .int (min hi 2)])) t = some (.tup [.str "rows", .str nm, .ref m, .str gap, .int (min lo 2), .int (min hi 2)]) := upd_same
        have s34 : Same G3 (upd G3 t (.tup [.str "rows", .str nm, .ref m, .str gap, .int (min lo 2), .int (min hi 2)])) := Same.new (Same.free W3.gh nt)
        have hm4 := s34 _ _ hm3
        have hP4 := Paired.monoP hP3 fun _ _ z => z.mono s34
        generalize upd G3 t (.tup [.str "rows", .str nm, .ref m, .str gap, .int (min lo 2), .int (min hi 2)]) = G4 at W4 ht4 hm4 hP4
        generalize upd H3 t (.tup [.str "rows", .str nm, .ref m, .str gap, .int (min lo 2), .int (min hi 2)]) = H4 at W4 ⊢
        have hT4 : SqT K H4 t [.str "rows", .str nm, .ref m, .str gap, .int (min lo 2), .int (min hi 2)] := SqT.of (W4.gh _ _ ht4)
        refine ⟨_, rfl, t, _, _, _, rfl, rfl, hT4, rfl, rfl, _, rfl, iteEq ?_⟩
        refine ⟨_, rfl, _, _, rfl, rfl, _, rfl, iteDec (fun hc => ?_) (fun hc => ?_)⟩
        · refine ⟨_, rfl, t, _, _, _, rfl, rfl, hT4, rfl, (by show 5 ≤ sizeLine; decide), fun u nu => ?_⟩
          have W5 := W4.new (o := .tup [.str "ask", .str nm, .str "ab", .int 0, .int 2]) nu
          have hu5 : (upd G4 u (.tup [.str "ask", .str nm, .str "ab", .int 0, .int 2])) u = some (.tup [.str "ask", .str nm, .str "ab", .int 0, .int 2]) := upd_same
          have hk : k ≠ 0 := by
            have : (1 : Int) < (k : Nat) + 1 := hc
            omega
          refine ⟨_, rfl, .inl ⟨rfl, _, SqL.of (W5.hh _ _ hly)⟩, _, rfl, ?_⟩
          show ∃ l' xs' y, _
          have := fin (z := some (V.ref u)) (k' := k + 1) (c := (k : Nat) + 1) rfl rfl W5 (pc := .p0 (.ask nm "ab" 0 2)) ⟨u, rfl, SqT.of hu5⟩
          rw [show (fewStep (k, qs) (.rows nm ips gap lo hi)) = (k + 1, qs ++ [.p0 (.ask nm "ab" 0 2)]) from by unfold fewStep; dsimp only; rw [if_neg hk]]
          exact this
        · have hk : k = 0 := by
            have : ¬ (1 : Int) < (k : Nat) + 1 := hc
            omega
          refine ⟨_, rfl, .inl ⟨rfl, _, SqL.of (W4.hh _ _ hly)⟩, _, rfl, ?_⟩
          show ∃ l' xs' y, _
          have := fin (z := some (V.ref t)) (k' := k + 1) (c := (k : Nat) + 1) rfl rfl W4 (pc := .rows nm (ips.take 2) gap (min lo 2) (min hi 2)) ⟨t, m, _, rfl, SqT.of ht4, SqL.of hm4, hP4⟩
          rw [show (fewStep (k, qs) (.rows nm ips gap lo hi)) = (k + 1, qs ++ [.rows nm (ips.take 2) gap (min lo 2) (min hi 2)]) from by unfold fewStep; dsimp only; rw [if_pos hk]]
          exact this
    · rintro σ H' ⟨G', ys, v, rfl, W, hly, gly, hY, hyl, sg⟩
      rw [hxp, List.take_length] at hY
      refine ⟨_, rfl, q _ _ _ (W.tell hly hl gly) ⟨l, ys, rfl, SqL.of upd_same, Paired.monoP hY fun _ _ z => z.mono (Same.new gly)⟩⟩

abbrev s__law_word : Stmt := top 32
abbrev n__law_word : List Str := ["script", "k", "piece", "size", "word", "j"]
theorem sc__law_word : FnScope n__law_word ["script", "k", "piece"] (defScope s__law_word) := ⟨rfl, rfl, rfl, by decide +kernel, rfl, by decide +kernel, by decide +kernel⟩

theorem dn__law_word (D : Df K mg "_law_word" s__law_word ["script", "k", "piece"]) (B : Bl mg) (d__law_draw : Dn P w K mg base CX0 2 "_law_draw" (sp__law_draw K))  : Dn P w K mg base CX0 3 "_law_word" (sp__law_word K) := by
  refine .of D fun f fd F => F.ok sc__law_word (fun vs H Q E h => ?_) (fun cdv A outer s H vs Q E hr h => ?_)
  · (obtain ⟨_, _, _, _, _, _, _, _, rfl, _⟩ := h; rfl)
  · have hu := hu_of hr
    have hu64 : _ := hr.units
    refine ⟨_, (pss_cons (ps_set (i := 3) sc__law_word.nd rfl (Or.inl rfl) (pe_op op_add (pe_ix (ixT (K := K) rfl) (pv 2) pe_int (fun _ _ => rfl)) (pe_op op_mod (cD d__law_draw hr (by decide) rfl (pa_cons (pv 0) (pa_cons (pv 1) pa_nil))) (pe_op op_add (pe_op op_sub (pe_ix (ixT (K := K) rfl) (pv 2) pe_int (fun _ _ => rfl)) (pe_ix (ixT (K := K) rfl) (pv 2) pe_int (fun _ _ => rfl))) pe_int))))
      (pss_cons (ps_set (i := 4) sc__law_word.nd rfl (Or.inl rfl) pe_str)
      (pss_cons (ps_for PassesOwn.never rfl (pi_range1 rfl B.range (pa_cons (pv 3) pa_nil)) (pg_name (i := 5) sc__law_word.nd rfl (Or.inl rfl))
      (pss_one (ps_set (i := 4) sc__law_word.nd rfl (Or.inl rfl) (pe_op op_add_str (pv 4) (pe_ix ix_str (pe_ix (ixT (K := K) rfl) (pv 2) pe_int (fun _ _ => rfl)) (pe_op op_mod (cD d__law_draw hr (by decide) rfl (pa_cons (pv 0) (pa_cons (pe_op op_add (pe_op op_add (pv 1) pe_int) (pv 5)) pa_nil))) (pe_callB call_len_str rfl B.len PySem.boot_len (pa_cons (pe_ix (ixT (K := K) rfl) (pv 2) pe_int (fun _ _ => rfl)) pa_nil))) (fun _ _ => rfl))))))
      (pss_one (ps_ret (pv 4)))))), ?_⟩
    obtain ⟨a, ns, k, p, nm, sg, lo, hi, rfl, hS, hT, s1, s20, l0, lh, h4, q⟩ := h
    have ws := word_size (ns := ns) (k := k) l0 lh
    refine ⟨_, rfl, p, _, _, _, rfl, rfl, hT, rfl, _, rfl, _, rfl, a, ns, k, rfl, hS, _, rfl, p, _, _, _, rfl, rfl, hT, rfl, _, rfl, p, _, _, _, rfl, rfl, hT, rfl, _, _, rfl, rfl, _, _, rfl, rfl, _, _, rfl, rfl, (by show 0 < hi - lo + 1; omega), _, _, rfl, rfl, ?_⟩
    refine ⟨_, rfl, _, rfl, (by omega), (by omega), ?_⟩
    refine for_range (lo := 0) (n := (lo + draw ns k % (hi - lo + 1)).toNat) (fun i σ H' => ∃ v, H' = H ∧ σ = [some (.ref a), some (.int k), some (.ref p), some (.int (lo + draw ns k % (hi - lo + 1))), some (.str (ofL ((List.range i).map fun (j : Nat) => sg.cps.getD (draw ns (k + 1 + j) % (sg.length : Int)).toNat 0))), v])
      ⟨none, rfl, rfl⟩ ?_ ?_
    · rintro i σ H' hi' ⟨v, rfl, rfl⟩
      rw [Int.zero_add]
      have m0 := Int.emod_nonneg (draw ns (k + 1 + i)) (show (sg.length : Int) ≠ 0 by omega)
      have m1 := Int.emod_lt_of_pos (draw ns (k + 1 + i)) (show 0 < (sg.length : Int) by omega)
      have hj : (draw ns (k + 1 + i) % (sg.length : Int)).toNat < sg.cps.size := by show _ < sg.length; omega
      refine ⟨_, rfl, _, rfl, p, _, _, _, rfl, rfl, hT, rfl, _, rfl, _, rfl, _, _, rfl, rfl, _, rfl, _, _, rfl, rfl, a, ns, _, rfl, hS, _, rfl, p, _, _, _, rfl, rfl, hT, rfl, sg, rfl, small_line (by omega), _, _, rfl, rfl, (by show 0 < (sg.length : Int); omega), sg, _, _, rfl, rfl, small_line (by omega), at_gen (j := (draw ns (k + 1 + i) % (sg.length : Int)).toNat) (by omega) (by rw [Array.getElem?_toList]; exact Array.getElem?_eq_getElem hj), _, _, rfl, rfl, ?_, ?_⟩
      · rw [ofL_len, List.length_map, List.length_range]
        exact small_line (by show i + 1 ≤ 100000; omega)
      · refine ⟨some (.int i), rfl, ?_⟩
        rw [ofL_snoc, map_range_succ, Array.getD_eq_getD_getElem?, Array.getElem?_eq_getElem hj]
        rfl
    · rintro σ H' ⟨v, rfl, rfl⟩
      exact ⟨_, rfl, q⟩

abbrev s__law_row : Stmt := top 33
abbrev n__law_row : List Str := ["script", "k", "pieces", "values", "j"]
theorem sc__law_row : FnScope n__law_row ["script", "k", "pieces"] (defScope s__law_row) := ⟨rfl, rfl, rfl, by decide +kernel, rfl, by decide +kernel, by decide +kernel⟩

theorem dn__law_row (D : Df K mg "_law_row" s__law_row ["script", "k", "pieces"]) (B : Bl mg) (d__law_word : Dn P w K mg base CX0 3 "_law_word" (sp__law_word K))  : Dn P w K mg base CX0 4 "_law_row" (sp__law_row K) := by
  refine .of D fun f fd F => F.ok sc__law_row (fun vs H Q E h => ?_) (fun cdv A outer s H vs Q E hr h => ?_)
  · (obtain ⟨_, _, _, _, _, _, _, rfl, _⟩ := h; rfl)
  · have hu := hu_of hr
    have hu64 : _ := hr.units
    refine ⟨_, (pss_cons (ps_set (i := 3) sc__law_row.nd rfl (Or.inl rfl) pe_dnewK)
      (pss_cons (ps_for PassesOwn.never rfl (pi_range1 rfl B.range (pa_cons (pe_callB (callLen (K := K) rfl) rfl B.len PySem.boot_len (pa_cons (pv 2) pa_nil)) pa_nil)) (pg_name (i := 4) sc__law_row.nd rfl (Or.inl rfl))
      (pss_one (ps_if (pt_cmpR op_eq (pe_ix (ixT (K := K) rfl) (pe_ix (ixLs (K := K) rfl) (pv 2) (pv 4) (fun _ _ => rfl)) pe_int (fun _ _ => rfl)) pe_str (nomark _)) (pss_one (ps_dput hu (pv 3) (pe_ix (ixT (K := K) rfl) (pe_ix (ixLs (K := K) rfl) (pv 2) (pv 4) (fun _ _ => rfl)) pe_int (fun _ _ => rfl)) (cD d__law_word hr (by decide) rfl (pa_cons (pv 0) (pa_cons (pe_op op_add (pv 1) (pe_op op_mul pe_int (pv 4))) (pa_cons (pe_ix (ixLs (K := K) rfl) (pv 2) (pv 4) (fun _ _ => rfl)) pa_nil)))) rfl)) pss_nil)))
      (pss_one (ps_ret (pv 3))))), ?_⟩
    obtain ⟨a, ns, k, l, xs, ps, G, rfl, gh, hS, hL, hP, hok, hnd, hlen, q⟩ := h
    have hxp := Paired.len hP
    intro d hd
    refine ⟨_, rfl, l, xs, rfl, .inl ((gh.keep (Keep.new hd)).seq hL), _, rfl, (by omega), (by omega), ?_⟩
    refine for_range (lo := 0) (n := (xs.length : Int).toNat) (fun i σ H' => ∃ v, σ = [some (.ref a), some (.int k), some (.ref l), some (.ref d), v] ∧ Wd G H G H' ∧ H' d = some (.dK (rowK ((List.range i).filterMap fun j => rowEl ns k j ps[j]?))))
      ⟨none, rfl, (Wd.refl gh).keep (Keep.new hd), upd_same⟩ ?_ ?_
    · rintro i σ H' hi ⟨v, rfl, W, hD⟩
      rw [Int.zero_add]
      have hi' : i < xs.length := by omega
      have gd : G d = none := Same.free gh hd
      obtain ⟨p, hp, ap, rfl', hT⟩ := Paired.at hP (List.getElem?_eq_getElem hi')
      have hx : xs[i]? = some (V.ref ap) := by rw [List.getElem?_eq_getElem hi', rfl']
      cases p with
      | say t =>
        refine ⟨_, rfl, _, rfl, l, _, _, _, rfl, rfl, W.gh.seq hL, atI_nat hx, ap, _, _, _, rfl, rfl, W.gh.tup hT, rfl, rfl, _, rfl, iteNe say_ask ⟨some (.int i), rfl, W, ?_⟩⟩
        rw [filterMap_range_succ, hp]
        simpa [rowEl] using hD
      | ask nm sg lo hi =>
        refine ⟨_, rfl, _, rfl, l, _, _, _, rfl, rfl, W.gh.seq hL, atI_nat hx, ap, _, _, _, rfl, rfl, W.gh.tup hT, rfl, rfl, _, rfl, iteEq ?_⟩
        obtain ⟨_, s1, s20, _, _, l0, lh, h4⟩ := hok _ (mem_at hp)
        refine ⟨_, rfl, _, rfl, _, rfl, _, _, rfl, rfl, .inl ⟨by decide, by decide⟩, _, _, rfl, rfl, _, rfl, _, rfl, l, _, _, _, rfl, rfl, W.gh.seq hL, atI_nat hx, a, ns, _, ap, nm, sg, lo, hi, rfl, W.gh.seq hS, W.gh.tup hT, s1, s20, l0, lh, h4, ?_⟩
        refine ⟨_, rfl, _, rfl, _, rfl, l, _, _, _, rfl, rfl, W.gh.seq hL, atI_nat hx, ap, _, _, _, rfl, rfl, W.gh.tup hT, rfl, d, _, rfl, dput_s hD ?_, ?_⟩
        · have : ((List.range i).filterMap fun j => rowEl ns k j ps[j]?).length ≤ i := by
            have := List.length_filterMap_le (fun j => rowEl ns k j ps[j]?) (List.range i)
            rwa [List.length_range] at this
          exact small1000 (by show (rowK _).length ≤ 1000; unfold rowK; rw [List.length_map]; omega)
        · have hk : look nm ((List.range i).filterMap fun j => rowEl ns k j ps[j]?) = none := by
            rw [look_keys, row_keys ns k ps i (by omega)]
            exact nm0_new hnd hp rfl
          refine ⟨some (.int i), rfl, W.mut hd gd, ?_⟩
          rw [upd_same, putK_row hk, filterMap_range_succ, hp]
          rfl
    · rintro σ H' ⟨v, rfl, W, hD⟩
      refine ⟨_, rfl, q _ _ _ (W.tell hD hd (Same.free gh hd)) ⟨d, rfl, ?_⟩⟩
      rw [upd_same]
      unfold rowP
      rw [show (xs.length : Int).toNat = ps.length by omega]

abbrev s__law_values : Stmt := top 34
abbrev n__law_values : List Str := ["script", "start", "pieces", "values", "k", "piece", "here", "many", "row", "j"]
theorem sc__law_values : FnScope n__law_values ["script", "start", "pieces"] (defScope s__law_values) := ⟨rfl, rfl, rfl, by decide +kernel, rfl, by decide +kernel, by decide +kernel⟩

theorem dn__law_values (D : Df K mg "_law_values" s__law_values ["script", "start", "pieces"]) (B : Bl mg) (d__law_word : Dn P w K mg base CX0 3 "_law_word" (sp__law_word K))  (d__law_draw : Dn P w K mg base CX0 2 "_law_draw" (sp__law_draw K))  (d__law_row : Dn P w K mg base CX0 4 "_law_row" (sp__law_row K))  : Dn P w K mg base CX0 5 "_law_values" (sp__law_values K) := by
  refine .of D fun f fd F => F.ok sc__law_values (fun vs H Q E h => ?_) (fun cdv A outer s H vs Q E hr h => ?_)
  · (obtain ⟨_, _, _, _, _, _, _, rfl, _⟩ := h; rfl)
  · have hu := hu_of hr
    have hu64 : _ := hr.units
    refine ⟨_, (pss_cons (ps_set (i := 3) sc__law_values.nd rfl (Or.inl rfl) pe_dnewK)
      (pss_cons (ps_for PassesOwn.never rfl (pi_range1 rfl B.range (pa_cons (pe_callB (callLen (K := K) rfl) rfl B.len PySem.boot_len (pa_cons (pv 2) pa_nil)) pa_nil)) (pg_name (i := 4) sc__law_values.nd rfl (Or.inl rfl))
      (pss_cons (ps_set (i := 5) sc__law_values.nd rfl (Or.inr rfl) (pe_ix (ixLs (K := K) rfl) (pv 2) (pv 4) (fun _ _ => rfl)))
      (pss_cons (ps_set (i := 6) sc__law_values.nd rfl (Or.inr rfl) (pe_op op_add (pv 1) (pe_op op_mul pe_int (pv 4))))
      (pss_cons (ps_if (pt_cmpR op_eq (pe_ix (ixT (K := K) rfl) (pv 5) pe_int (fun _ _ => rfl)) pe_str (nomark _)) (pss_one (ps_dput hu (pv 3) (pe_ix (ixT (K := K) rfl) (pv 5) pe_int (fun _ _ => rfl)) (cD d__law_word hr (by decide) rfl (pa_cons (pv 0) (pa_cons (pv 6) (pa_cons (pv 5) pa_nil)))) rfl)) pss_nil)
      (pss_one (ps_if (pt_cmpR op_eq (pe_ix (ixT (K := K) rfl) (pv 5) pe_int (fun _ _ => rfl)) pe_str (nomark _)) (pss_cons (ps_set (i := 7) sc__law_values.nd rfl (Or.inl rfl) (pe_op op_add (pe_ix (ixT (K := K) rfl) (pv 5) pe_int (fun _ _ => rfl)) (pe_op op_mod (cD d__law_draw hr (by decide) rfl (pa_cons (pv 0) (pa_cons (pv 6) pa_nil))) (pe_op op_add (pe_op op_sub (pe_ix (ixT (K := K) rfl) (pv 5) pe_int (fun _ _ => rfl)) (pe_ix (ixT (K := K) rfl) (pv 5) pe_int (fun _ _ => rfl))) pe_int))))
      (pss_cons (ps_setLc (i := 8) (own := [("j", 9)]) (g := gName 9) rfl sc__law_values.nd rfl rfl (sw_true rfl rfl rfl (by decide +kernel)) (pi_range1 rfl B.range (pa_cons (pv 7) pa_nil)) (blkOk_by (N := n__law_values) (sc := defScope s__law_values) (by decide +kernel)) (fun _ _ _ _ _ => pg_name (i := 9) sc__law_values.nd rfl (Or.inl rfl)) (fun _ _ _ _ _ => pts_nil) (fun _ _ _ _ _ => (cD d__law_row hr (by decide) rfl (pa_cons (pv 0) (pa_cons (pe_op op_add (pe_op op_add (pv 6) pe_int) (pe_op op_mul pe_int (pv 9))) (pa_cons (pe_ix (ixT (K := K) rfl) (pv 5) pe_int (fun _ _ => rfl)) pa_nil))))))
      (pss_one (ps_dput hu (pv 3) (pe_ix (ixT (K := K) rfl) (pv 5) pe_int (fun _ _ => rfl)) (pv 8) rfl)))) pss_nil))))))
      (pss_one (ps_ret (pv 3))))), ?_⟩
    obtain ⟨a, ns, st, l, xs, ps, G, rfl, gh, hS, hL, hP, hok, q⟩ := h
    have hxp := Paired.len hP
    have hl6 := hok.l6
    intro d hd
    have gd : G d = none := Same.free gh hd
    refine ⟨_, rfl, l, xs, rfl, .inl ((gh.keep (Keep.new hd)).seq hL), _, rfl, (by omega), (by omega), ?_⟩
    refine for_range (lo := 0) (n := (xs.length : Int).toNat) (fun i σ H' => ∃ v1 v2 v3 v4 v5 v6 G' kvs, σ = [some (.ref a), some (.int st), some (.ref l), some (.ref d), v1, v2, v3, v4, v5, v6] ∧ Wd G H G' H' ∧ H' d = some (.dK kvs) ∧ G' d = none ∧ Paired (RKv K G') kvs ((List.range i).filterMap fun k => valEl ns st k ps[k]?))
      ⟨none, none, none, none, none, none, G, [], rfl, (Wd.refl gh).keep (Keep.new hd), upd_same, gd, .nil⟩ ?_ ?_
    · rintro i σ H' hi ⟨v1, v2, v3, v4, v5, v6, G', kvs, rfl, W, hD, gd', hV⟩
      rw [Int.zero_add]
      have hi' : i < xs.length := by omega
      obtain ⟨p, hp, hR⟩ := Paired.at hP (List.getElem?_eq_getElem hi')
      have hx : xs[i]? = some xs[i] := List.getElem?_eq_getElem hi'
      have hS' := W.gh.seq (W.gg.seq hS)
      have hL' := W.gh.seq (W.gg.seq hL)
      have hokp := hok.ok _ (mem_at hp)
      have hkl : kvs.length ≤ 6 := by
        have h1 := Paired.len hV
        have h2 := List.length_filterMap_le (fun k => valEl ns st k ps[k]?) (List.range i)
        rw [List.length_range] at h2
        omega
      have hkn : ∀ n, nmP p = some n → valV kvs (Sum.inr n : Key) = none := fun n hn => by
        refine (val_RV hV n).2 ?_
        rw [look_keys, val_keys ns st ps i (by omega)]
        exact nm_new hok.nd hp hn
      refine ⟨_, rfl, _, rfl, l, _, _, _, rfl, rfl, hL', atI_nat hx, ?_⟩
      refine ⟨_, rfl, _, rfl, _, _, rfl, rfl, .inl ⟨by decide, by decide⟩, _, _, rfl, rfl, ?_⟩
      cases p with
      | p0 p =>
        obtain ⟨ap, e, hT⟩ := hR
        rw [e]
        have hT' := W.gh.tup (W.gg.tup hT)
        cases p with
        | say t =>
          refine ⟨_, rfl, ap, _, _, _, rfl, rfl, hT', rfl, rfl, _, rfl, iteNe say_ask ?_⟩
          refine ⟨_, rfl, ap, _, _, _, rfl, rfl, hT', rfl, rfl, _, rfl, iteNe say_rows ?_⟩
          refine ⟨_, _, _, _, _, _, G', kvs, rfl, W, hD, gd', ?_⟩
          rw [filterMap_range_succ, hp]
          simpa [valEl] using hV
        | ask nm sg lo hi =>
          refine ⟨_, rfl, ap, _, _, _, rfl, rfl, hT', rfl, rfl, _, rfl, iteEq ?_⟩
          obtain ⟨_, s1, s20, _, _, l0, lh, h4⟩ := hokp
          refine ⟨_, rfl, _, rfl, _, rfl, a, ns, _, ap, nm, sg, lo, hi, rfl, hS', hT', s1, s20, l0, lh, h4, ?_⟩
          refine ⟨_, rfl, _, rfl, ap, _, _, _, rfl, rfl, hT', rfl, d, _, rfl, dput_s hD (small1000 (by omega)), ?_⟩
          have nd : ∀ o, Wd G H G' (upd H' d o) := fun o => W.mut hd gd'
          have hT2 := (nd (.dK (putK kvs (Sum.inr nm) (.str (wordP ns (st + 90 * i) sg lo hi))))).gh.tup (W.gg.tup hT)
          refine ⟨_, rfl, ap, _, _, _, rfl, rfl, hT2, rfl, rfl, _, rfl, iteNe ask_rows ?_⟩
          refine ⟨_, _, _, _, _, _, G', _, rfl, nd _, upd_same, gd', ?_⟩
          rw [putK_new _ (hkn nm rfl), filterMap_range_succ, hp]
          exact Paired.snoc hV ⟨rfl, rfl⟩
      | rows nm ips gap lo hi =>
        obtain ⟨ap, li, ys, e, hT, hLi, hPi⟩ := hR
        rw [e]
        have hT' := W.gh.tup (W.gg.tup hT)
        refine ⟨_, rfl, ap, _, _, _, rfl, rfl, hT', rfl, rfl, _, rfl, iteNe rows_ask ?_⟩
        refine ⟨_, rfl, ap, _, _, _, rfl, rfl, hT', rfl, rfl, _, rfl, iteEq ?_⟩
        obtain ⟨_, i1, i3, iok, ind, _, _, l0, lh, h3⟩ := hokp
        have ws := word_size (ns := ns) (k := st + 90 * i) l0 lh
        refine ⟨_, rfl, ap, _, _, _, rfl, rfl, hT', rfl, _, rfl, _, rfl, a, ns, _, rfl, hS', _, rfl, ap, _, _, _, rfl, rfl, hT', rfl, _, rfl, ap, _, _, _, rfl, rfl, hT', rfl, _, _, rfl, rfl, _, _, rfl, rfl, _, _, rfl, rfl, (by show 0 < hi - lo + 1; omega), _, _, rfl, rfl, ?_⟩
        refine ⟨_, rfl, _, rfl, (by omega), (by omega), fun D hDn => ?_⟩
        have dD : d ≠ D := ne_of_none hD hDn
        have hDH : H D = none := W.hh.free hDn
        have gDn : G' D = none := Same.free W.gh hDn
        refine lc_range (lo := 0) (n := (lo + draw ns (st + 90 * i) % (hi - lo + 1)).toNat) (fun j H2 => ∃ G2 rs, Wd G' H' G2 H2 ∧ H2 D = some (.lst rs) ∧ G2 D = none ∧ Paired (RD G2) rs ((List.range j).map fun (j : Nat) => rowP ns (st + 90 * i + 1 + 25 * j) ips) ∧ rs.length = j)
          ⟨G', [], (Wd.refl W.gh).keep (Keep.new hDn), upd_same, gDn, .nil, rfl⟩ ?_ ?_
        · rintro j H2 hj ⟨G2, rs, W2, hD2, gD2, hP2, hl2⟩
          rw [Int.zero_add]
          refine ⟨rfl, ?_⟩
          unfold tYes
          dsimp only
          rw [if_pos rfl]
          refine ⟨_, rfl, _, rfl, _, _, rfl, rfl, _, rfl, _, _, rfl, rfl, .inl ⟨by decide, by decide⟩, _, _, rfl, rfl, _, rfl, ap, _, _, _, rfl, rfl, W2.gh.tup (W2.gg.tup (W.gg.tup hT)), rfl, ?_⟩
          refine ⟨a, ns, _, li, ys, ips, G2, rfl, W2.gh, W2.gg.seq (W.gg.seq hS), W2.gg.seq (W.gg.seq hLi), Paired.monoP hPi fun _ _ z => (z.mono W.gg).mono W2.gg, iok, ind, (by omega), fun v G3 H3 W3 r3 => ?_⟩
          refine ⟨rs, W3.hh _ _ hD2, small1000 (by omega), G3, _, (W2.trans W3).mut hDn (W3.nw _ _ hD2 gD2), upd_same, W3.nw _ _ hD2 gD2, ?_, by simp [hl2]⟩
          rw [map_range_succ]
          exact Paired.snoc (Paired.monoP hP2 fun _ _ z => z.mono W3.gg) r3
        · rintro H2 ⟨G2, rs, W2, hD2, gD2, hP2, hl2⟩
          have W3 := W2.tell hD2 hDn gD2
          have gd3 : upd G2 D (.lst rs) d = none := by rw [upd_ne dD]; exact W2.nw _ _ hD gd'
          have hT3 := W3.gh.tup (W3.gg.tup (W.gg.tup hT))
          refine ⟨_, rfl, _, rfl, _, rfl, ap, _, _, _, rfl, rfl, hT3, rfl, d, _, rfl, dput_s (W3.hh _ _ hD) (small1000 (by omega)), ?_⟩
          refine ⟨_, _, _, _, _, _, upd G2 D (.lst rs), _, rfl, (W.trans W3).mut hd gd3, upd_same, gd3, ?_⟩
          rw [putK_new _ (hkn nm rfl), filterMap_range_succ, hp]
          refine Paired.snoc (Paired.monoP hV fun _ _ z => z.mono W3.gg) ⟨rfl, D, rs, rfl, SqL.of upd_same, Paired.monoP hP2 fun _ _ z => z.mono (Same.new gD2)⟩
    · rintro σ H' ⟨v1, v2, v3, v4, v5, v6, G', kvs, rfl, W, hD, gd', hV⟩
      refine ⟨_, rfl, q _ _ _ (W.tell hD hd gd') ⟨d, kvs, rfl, upd_same, ?_⟩⟩
      unfold valuesP
      rw [show ps.length = (xs.length : Int).toNat by omega]
      exact Paired.monoP hV fun _ _ z => z.mono (Same.new gd')

abbrev s__law_line : Stmt := top 35
abbrev n__law_line : List Str := ["pieces", "values", "text", "piece"]
theorem sc__law_line : FnScope n__law_line ["pieces", "values"] (defScope s__law_line) := ⟨rfl, rfl, rfl, by decide +kernel, rfl, by decide +kernel, by decide +kernel⟩

theorem dn__law_line (D : Df K mg "_law_line" s__law_line ["pieces", "values"])  : Dn P w K mg base CX0 1 "_law_line" (sp__law_line K) := by
  refine .of D fun f fd F => F.ok sc__law_line (fun vs H Q E h => ?_) (fun cdv A outer s H vs Q E hr h => ?_)
  · (obtain ⟨_, _, _, _, _, _, rfl, _⟩ := h; rfl)
  · have hu := hu_of hr
    have hu64 : _ := hr.units
    refine ⟨_, (pss_cons (ps_set (i := 2) sc__law_line.nd rfl (Or.inl rfl) pe_str)
      (pss_cons (ps_for PassesOwn.never rfl (pi_list (pv 0)) (pg_name (i := 3) sc__law_line.nd rfl (Or.inl rfl))
      (pss_one (ps_if (pt_cmpR op_eq (pe_ix (ixT (K := K) rfl) (pv 3) pe_int (fun _ _ => rfl)) pe_str (nomark _)) (pss_one (ps_set (i := 2) sc__law_line.nd rfl (Or.inl rfl) (pe_op op_add_str (pv 2) (pe_ix (ixT (K := K) rfl) (pv 3) pe_int (fun _ _ => rfl))))) (pss_one (ps_set (i := 2) sc__law_line.nd rfl (Or.inl rfl) (pe_op op_add_str (pv 2) (pe_dget hu (pv 1) (pe_ix (ixT (K := K) rfl) (pv 3) pe_int (fun _ _ => rfl)) (fun _ _ => rfl))))))))
      (pss_one (ps_ret (pv 2))))), ?_⟩
    obtain ⟨l, xs, ps, d, kvs, f, rfl, hL, hP, hD, hA, hlen, hok, hf, q⟩ := h
    have hxp := Paired.len hP
    refine ⟨_, rfl, l, rfl, ⟨xs, hL⟩, for_list (K := K) (a := l) (xs := xs) (fun i σ H' => ∃ v, H' = H ∧ σ = [some (.ref l), some (.ref d), some (.str (lineP f (ps.take i))), v]) ⟨none, rfl, rfl⟩ (fun i σ H' _ ⟨_, e, _⟩ => e ▸ hL) ?_ ?_⟩
    · rintro i x σ H' hi ⟨v, rfl, rfl⟩
      obtain ⟨p, hp, hR⟩ := Paired.at hP hi
      obtain ⟨ap, rfl, hT⟩ := hR
      have hle := lineP_len hok hf (i + 1)
      rw [lineP_snoc f hp, str_len_app] at hle
      have hi6 := at_lt hp
      cases p with
      | say t =>
        refine ⟨_, rfl, ap, _, _, _, rfl, rfl, hT, rfl, rfl, _, rfl, iteEq ?_⟩
        refine ⟨_, rfl, _, rfl, ap, _, _, _, rfl, rfl, hT, rfl, _, _, rfl, rfl, small_line ?_, some (.ref ap), rfl, ?_⟩
        · have : (fpiece f (.say t)).length = t.length := rfl
          omega
        · rw [lineP_snoc f hp]; rfl
      | ask nm sg lo hi2 =>
        refine ⟨_, rfl, ap, _, _, _, rfl, rfl, hT, rfl, rfl, _, rfl, iteNe ask_say ?_⟩
        refine ⟨_, rfl, _, rfl, _, rfl, ap, _, _, _, rfl, rfl, hT, rfl, d, _, rfl, dget_s hD (hA _ _ _ _ (mem_at hp)), _, _, rfl, rfl, small_line ?_, some (.ref ap), rfl, ?_⟩
        · have : (fpiece f (.ask nm sg lo hi2)).length = (f nm).length := rfl
          omega
        · rw [lineP_snoc f hp]; rfl
    · rintro σ H' ⟨v, rfl, rfl⟩
      rw [hxp, List.take_length]
      exact ⟨_, rfl, q⟩

abbrev s__law_written : Stmt := top 36
abbrev n__law_written : List Str := ["pieces", "values", "text", "piece", "row"]
theorem sc__law_written : FnScope n__law_written ["pieces", "values"] (defScope s__law_written) := ⟨rfl, rfl, rfl, by decide +kernel, rfl, by decide +kernel, by decide +kernel⟩

theorem dn__law_written (D : Df K mg "_law_written" s__law_written ["pieces", "values"]) (d__law_line : Dn P w K mg base CX0 1 "_law_line" (sp__law_line K))  : Dn P w K mg base CX0 2 "_law_written" (sp__law_written K) := by
  refine .of D fun f fd F => F.ok sc__law_written (fun vs H Q E h => ?_) (fun cdv A outer s H vs Q E hr h => ?_)
  · (obtain ⟨_, _, _, _, _, rfl, _⟩ := h; rfl)
  · have hu := hu_of hr
    have hu64 : _ := hr.units
    refine ⟨_, (pss_cons (ps_set (i := 2) sc__law_written.nd rfl (Or.inl rfl) pe_str)
      (pss_cons (ps_for PassesOwn.never rfl (pi_list (pv 0)) (pg_name (i := 3) sc__law_written.nd rfl (Or.inr rfl))
      (pss_one (ps_if (pt_cmpR op_eq (pe_ix (ixT (K := K) rfl) (pv 3) pe_int (fun _ _ => rfl)) pe_str (nomark _)) (pss_one (ps_set (i := 2) sc__law_written.nd rfl (Or.inl rfl) (pe_op op_add_str (pv 2) (pe_join (pe_ix (ixT (K := K) rfl) (pv 3) pe_int (fun _ _ => rfl)) (pe_lc (own := [("row", 4)]) (g := gName 4) rfl sc__law_written.nd (pi_list (pe_dget hu (pv 1) (pe_ix (ixT (K := K) rfl) (pv 3) pe_int (fun _ _ => rfl)) (fun _ _ => rfl))) (blkOk_by (N := n__law_written) (sc := defScope s__law_written) (by decide +kernel)) (fun _ _ _ _ _ => pg_name (i := 4) sc__law_written.nd rfl (Or.inl rfl)) (fun _ _ _ _ _ => pts_nil) (fun _ _ _ _ _ => (cD d__law_line hr (by decide) rfl (pa_cons (pe_ix (ixT (K := K) rfl) (pv 3) pe_int (fun _ _ => rfl)) (pa_cons (pv 4) pa_nil))))))))) (pss_one (ps_set (i := 2) sc__law_written.nd rfl (Or.inl rfl) (pe_op op_add_str (pv 2) (cD d__law_line hr (by decide) rfl (pa_cons (pe_lst (pa_cons (pv 3) pa_nil)) (pa_cons (pv 1) pa_nil)))))))))
      (pss_one (ps_ret (pv 2))))), ?_⟩
    obtain ⟨l, xs, ps, v, vals, rfl, hL, hP, hV, hlen, hok, q⟩ := h
    have hxp := Paired.len hP
    obtain ⟨d, kvs, rfl, hD0, hK⟩ := id hV
    have hD : Rd H d (.dK kvs) := .inl hD0
    refine ⟨_, rfl, l, rfl, ⟨xs, hL⟩, for_list (K := K) (a := l) (xs := xs) (fun i σ H' => ∃ v1 v2, Keep H H' ∧ σ = [some (.ref l), some (.ref d), some (.str (writtenP (fv vals) (gv vals) (ps.take i))), v1, v2]) ⟨none, none, Keep.refl _, rfl⟩ (fun i σ H' _ ⟨_, _, k, _⟩ => k.same.seq hL) ?_ ?_⟩
    · rintro i x σ H' hi ⟨v1, v2, k, rfl⟩
      obtain ⟨p, hp, hR⟩ := Paired.at hP hi
      have hle := writtenP_len hok (i + 1)
      rw [writtenP_snoc _ _ hp, str_len_app] at hle
      have hi6 := at_lt hp
      obtain ⟨hokp, hfp⟩ := hok _ (mem_at hp)
      cases p with
      | p0 p =>
        obtain ⟨ap, rfl, hT⟩ := hR
        have hT' := k.same.tup hT
        have hne : ∀ H1 : Hp, SqT K H1 ap p.vs → ∃ u, atI p.vs 0 = some u ∧ scal u (V.str "rows") = true ∧ u ≠ V.str "rows" := fun H1 _ => by
          cases p with
          | say t => exact ⟨_, rfl, rfl, say_rows⟩
          | ask nm sg lo hi => exact ⟨_, rfl, rfl, ask_rows⟩
        obtain ⟨u, hu1, hu2, hu3⟩ := hne _ hT'
        refine ⟨_, rfl, ap, _, _, _, rfl, rfl, hT', hu1, hu2, _, rfl, iteNe hu3 ?_⟩
        refine ⟨_, rfl, _, rfl, (by show 1 ≤ sizeLine; decide), fun pl hpl => ?_⟩
        have k2 := k.trans (Keep.new (o := .lst [V.ref ap]) hpl)
        obtain ⟨a1, a2⟩ := look_fit hK hfp
        refine ⟨_, rfl, pl, [V.ref ap], [p], d, kvs, fv vals, rfl, SqL.of upd_same, .cons ⟨ap, rfl, k2.same.tup hT⟩ .nil, k2.same.rd hD, a1, (by show 1 ≤ 6; omega), (fun p' hp' => by simp at hp'; subst hp'; exact hokp), a2, _, _, rfl, rfl, small_line ?_, some (.ref ap), v2, k2, ?_⟩
        · rw [lineP_one]
          have : (wpiece (fv vals) (gv vals) (.p0 p)).length = (fpiece (fv vals) p).length := rfl
          omega
        · rw [writtenP_snoc _ _ hp, lineP_one]; rfl
      | rows nm ips gap lo hi2 =>
        obtain ⟨ap, li, ys, rfl, hT, hLi, hPi⟩ := hR
        have hT' := k.same.tup hT
        obtain ⟨rs, e, f1, f2, f3⟩ := hfp
        obtain ⟨_, i1, i3, iok, ind, g5, _, l0, lh, h3⟩ := hokp
        obtain ⟨rv, ev, rl, rvs, rfl, hrl, hrp⟩ := (val_RV hK nm).1 _ e
        have hrl2 := Paired.len hrp
        refine ⟨_, rfl, ap, _, _, _, rfl, rfl, hT', rfl, rfl, _, rfl, iteEq ?_⟩
        refine ⟨_, rfl, _, rfl, ap, _, _, _, rfl, rfl, hT', rfl, ⟨_, rfl⟩, _, rfl, _, rfl, ap, _, _, _, rfl, rfl, hT', rfl, d, _, rfl, dget_s (k.same.rd hD) ev, rl, rfl, ⟨rvs, k.same.seq hrl⟩, fun D hDn => ?_⟩
        refine lc_list (K := K) (a := rl) (xs := rvs) (fun j H2 => Keep H' H2 ∧ H2 D = some (.lst (((rs.take j).map fun r => lineP (rowf r) ips).map V.str)))
          ⟨Keep.new hDn, upd_same⟩ (fun j H2 _ ⟨k2, _⟩ => (k.trans k2).same.seq hrl) ?_ ?_
        · rintro j y H2 hj ⟨k2, hD2⟩
          obtain ⟨r, hr, dr, rfl, hdr⟩ := Paired.at hrp hj
          have k3 := k.trans k2
          refine ⟨rfl, ?_⟩
          unfold tYes
          dsimp only
          rw [if_pos rfl]
          obtain ⟨a1, a2⟩ := row_fits (f3 r (mem_at hr))
          have hjl := at_lt hr
          refine ⟨_, rfl, ap, _, _, _, rfl, rfl, k3.same.tup hT, rfl, _, rfl, li, ys, ips, dr, _, rowf r, rfl, k3.same.seq hLi, Paired.monoP hPi fun _ _ z => z.mono k3.same, k3.same.rd (.inl hdr), a2, (by omega), iok, a1, _, hD2, small1000 ?_, k2.mut hDn, ?_⟩
          · rw [List.length_map, List.length_map, List.length_take]; omega
          · rw [upd_same, map_take_succ _ hr, List.map_append]; rfl
        · rintro H2 ⟨k2, hD2⟩
          rw [hrl2, List.take_length] at hD2
          have k3 := k.trans k2
          obtain ⟨j1, j2⟩ := join_le (gap := gap) (rows_lines_le iok i3 f3) (by rw [List.length_map]; omega) g5
          refine ⟨gap, D, _, rfl, rfl, .inl (SqL.of hD2), Nat.le_trans j1 (by decide), _, _, rfl, rfl, small_line ?_, some (.ref ap), v2, k3, ?_⟩
          · have : (wpiece (fv vals) (gv vals) (.rows nm ips gap lo hi2)).length = (Txt.join gap (rs.map fun r => lineP (rowf r) ips)).length := by
              show (Txt.join gap ((gv vals nm).map fun r => lineP r ips)).length = _
              rw [gv_rows e]
            omega
          · rw [writtenP_snoc _ _ hp]
            show _ = [some (V.ref l), some (V.ref d), some (V.str (writtenP (fv vals) (gv vals) (ps.take i) ++ Txt.join gap ((gv vals nm).map fun r => lineP r ips))), some (V.ref ap), v2]
            rw [gv_rows e]
            rfl
    · rintro σ H' ⟨v1, v2, k, rfl⟩
      rw [hxp, List.take_length]
      exact ⟨_, rfl, q _ k⟩

abbrev s__law_ask_ends : Stmt := top 37
abbrev n__law_ask_ends : List Str := ["piece", "text", "at", "ends", "size", "part", "good", "sign"]
theorem sc__law_ask_ends : FnScope n__law_ask_ends ["piece", "text", "at"] (defScope s__law_ask_ends) := ⟨rfl, rfl, rfl, by decide +kernel, rfl, by decide +kernel, by decide +kernel⟩

theorem dn__law_ask_ends (D : Df K mg "_law_ask_ends" s__law_ask_ends ["piece", "text", "at"]) (B : Bl mg) : Dn P w K mg base CX0 1 "_law_ask_ends" (sp__law_ask_ends K) := by
  refine .of D fun f fd F => F.ok sc__law_ask_ends (fun vs H Q E h => ?_) (fun cdv A outer s H vs Q E hr h => ?_)
  · (obtain ⟨_, _, _, _, _, _, _, rfl, _⟩ := h; rfl)
  · have hu := hu_of hr
    have hu64 : _ := hr.units
    refine ⟨_, (pss_cons (ps_set (i := 3) sc__law_ask_ends.nd rfl (Or.inl rfl) (pe_lst pa_nil))
      (pss_cons (ps_for PassesOwn.never rfl (pi_range1 rfl B.range (pa_cons (pe_op op_add (pe_ix (ixT (K := K) rfl) (pv 0) pe_int (fun _ _ => rfl)) pe_int) pa_nil)) (pg_name (i := 4) sc__law_ask_ends.nd rfl (Or.inl rfl))
      (pss_cons (ps_set (i := 5) sc__law_ask_ends.nd rfl (Or.inl rfl) (pe_slice sl_str (pv 1) (po_some (pv 2)) (po_some (pe_op op_add (pv 2) (pv 4)))))
      (pss_cons (ps_set (i := 6) sc__law_ask_ends.nd rfl (Or.inl rfl) (pe_cmpR op_notIn_seq pe_bl (pe_lc (own := [("sign", 7)]) (g := gName 7) rfl sc__law_ask_ends.nd (pi_str (pv 5)) (blkOk_by (N := n__law_ask_ends) (sc := defScope s__law_ask_ends) (by decide +kernel)) (fun _ _ _ _ _ => pg_name (i := 7) sc__law_ask_ends.nd rfl (Or.inl rfl)) (fun _ _ _ _ _ => pts_nil) (fun _ _ _ _ _ => (pe_cmpR op_in_sign (pv 7) (pe_ix (ixT (K := K) rfl) (pv 0) pe_int (fun _ _ => rfl)) (by with_unfolding_all rfl)))) (by with_unfolding_all rfl)))
      (pss_one (ps_if (PW.pt (pw_and (pt_val (pv 6)) (pw_and (pt_cmpR op_eq (pe_callB call_len_str rfl B.len PySem.boot_len (pa_cons (pv 5) pa_nil)) (pv 4) (nomark _)) (pw_and1 (pt_cmpR op_ge (pv 4) (pe_ix (ixT (K := K) rfl) (pv 0) pe_int (fun _ _ => rfl)) (nomark _)))))) (pss_one (ps_expr (pe_bm PySem.F.plainAttrs_list PySem.F.slot_list_append PySem.F.type_list_append mt_append (pv 3) (pa_cons (pe_op op_add (pv 2) (pv 4)) pa_nil)))) pss_nil)))))
      (pss_one (ps_ret (pv 3))))), ?_⟩
    obtain ⟨p, tx, a, nm, sg, lo, hi, rfl, hT, ok, ha, ht, q⟩ := h
    obtain ⟨_, _, s20, _, _, l0, lh, h4⟩ := ok
    rw [← askL_eq _ _ hi.toNat lo.toNat a (by omega)] at q
    have hcl : tx.cps.toList.length = tx.length := Array.length_toList
    refine ⟨(by show 0 ≤ sizeLine; exact Nat.zero_le _), fun l nl => ?_⟩
    refine ⟨_, rfl, p, _, _, _, rfl, rfl, (Keep.new nl).same.tup hT, rfl, _, _, rfl, rfl, _, rfl, (by omega), (by omega), ?_⟩
    refine for_range (lo := 0) (n := (hi + 1).toNat) (fun i σ H' => ∃ v4 v5 v6 v7, σ = [some (.ref p), some (.str tx), some (.int (a : Nat)), some (.ref l), v4, v5, v6, v7] ∧ Keep H H' ∧ H' l = some (.lst (natV (askL tx.cps.toList sg.cps.toList lo.toNat a i))))
      ⟨none, none, none, none, rfl, Keep.new nl, upd_same⟩ ?_ ?_
    · rintro i σ H' hin ⟨v4, v5, v6, v7, rfl, k, hl⟩
      rw [Int.zero_add]
      have hT' := k.same.tup hT
      have hlen : (askL tx.cps.toList sg.cps.toList lo.toNat a i).length ≤ i := by
        unfold askL
        rw [List.length_map]
        exact Nat.le_trans (List.length_filter_le _ _) (by rw [List.length_range]; exact Nat.le_refl _)
      refine ⟨_, rfl, _, rfl, _, rfl, _, rfl, _, rfl, _, _, rfl, rfl, _, rfl, tx, rfl, small_line (by omega), ?_⟩
      have hcut := cutS_at tx ha (show a ≤ a + i by omega)
      rw [show (((a : Nat) : Int) + ((i : Nat) : Int)) = ((a + i : Nat) : Int) from rfl]
      generalize cutS tx (some ((a : Nat) : Int)) (some ((a + i : Nat) : Int)) = pt at hcut
      have hpl : pt.length = (cut tx.cps.toList a (a + i)).length := by rw [← hcut]; exact Array.length_toList.symm
      have hpi : pt.length ≤ i := by rw [hpl]; unfold cut; rw [List.length_take]; omega
      refine ⟨_, rfl, pt, rfl, fun D hDn => ?_⟩
      have lD : l ≠ D := ne_of_none hl hDn
      have hDH : H D = none := Same.free k.same hDn
      refine lc_it walk_str (fun j H2 => Keep H H2 ∧ H2 l = some (.lst (natV (askL tx.cps.toList sg.cps.toList lo.toNat a i))) ∧ H2 D = some (.lst ((pt.cps.toList.take j).map fun c => V.bl (decide (c ∈ sg.cps.toList))))) ⟨k.trans (Keep.new hDn), (upd_ne lD).trans hl, upd_same⟩ (fun _ _ _ _ => trivial) ?_ ?_
      · rintro j x H2 H3 hj ⟨k2, hl2, hD2⟩ ⟨rfl, c, hc, rfl⟩
        refine ⟨rfl, ?_⟩
        unfold tYes
        dsimp only
        rw [if_pos rfl]
        have hc2 : pt.cps.toList[j]? = some c := by rw [Array.getElem?_toList]; exact hc
        refine ⟨_, rfl, _, rfl, p, _, _, _, rfl, rfl, k2.same.tup hT, rfl, c, sg, rfl, rfl, _, hD2, ?_, k2.mut hDH, (upd_ne lD).trans hl2, ?_⟩
        · rw [List.length_map, List.length_take]
          have : pt.cps.toList.length = pt.length := Array.length_toList
          exact lt_line (by omega)
        · rw [upd_same, map_take_succ _ hc2]
      · rintro H2 ⟨k2, hl2, hD2⟩
        rw [show pt.cps.size = pt.cps.toList.length from Array.length_toList.symm, List.take_length] at hD2
        refine ⟨D, _, rfl, .inl (SqL.of hD2), rfl, ?_, ?_⟩
        · rw [List.all_eq_true]
          intro x hx
          obtain ⟨c, _, rfl⟩ := List.mem_map.mp hx
          rfl
        rw [inV_signs, hcut]
        have hT2 := k2.same.tup hT
        have step : ∀ {H3 : Hp} {v5 v6 v7 : Option V}, Keep H H3 → H3 l = some (.lst (natV (askL tx.cps.toList sg.cps.toList lo.toNat a (i + 1)))) → ∃ w4 w5 w6 w7, [some (V.ref p), some (.str tx), some (.int (a : Nat)), some (.ref l), some (.int (i : Nat)), v5, v6, v7] = [some (.ref p), some (.str tx), some (.int (a : Nat)), some (.ref l), w4, w5, w6, w7] ∧ Keep H H3 ∧ H3 l = some (.lst (natV (askL tx.cps.toList sg.cps.toList lo.toNat a (i + 1)))) := fun h1 h2 => ⟨_, _, _, _, rfl, h1, h2⟩
        have ok0 : askOk tx.cps.toList sg.cps.toList lo.toNat a i = ((cut tx.cps.toList a (a + i)).all (fun c => decide (c ∈ sg.cps.toList)) && decide ((cut tx.cps.toList a (a + i)).length = i) && decide (lo.toNat ≤ i)) := rfl
        have asucc := askL_succ tx.cps.toList sg.cps.toList lo.toNat a i
        have no : askOk tx.cps.toList sg.cps.toList lo.toNat a i = false → H2 l = some (.lst (natV (askL tx.cps.toList sg.cps.toList lo.toNat a (i + 1)))) := fun e => by rw [asucc, e, if_neg (by decide), List.append_nil]; exact hl2
        by_cases c1 : (cut tx.cps.toList a (a + i)).all (fun c => decide (c ∈ sg.cps.toList)) = true
        case neg =>
          rw [Bool.not_eq_true] at c1
          rw [c1] at ok0 ⊢
          exact ⟨_, rfl, _, rfl, iteBF rfl (iteF (step k2 (no ok0)))⟩
        rw [c1] at ok0 ⊢
        refine ⟨_, rfl, _, rfl, iteBT rfl ⟨_, rfl, pt, rfl, small_line (by omega), _, rfl, rfl, _, rfl, ?_⟩⟩
        by_cases c2 : pt.length = i
        case neg =>
          rw [← hpl, decide_eq_false c2] at ok0
          exact iteDF (fun z => c2 (by injection z with z; omega)) (iteF (step k2 (no ok0)))
        rw [← hpl, decide_eq_true c2] at ok0
        refine iteDT (by rw [c2]) ⟨_, rfl, _, rfl, p, _, _, _, rfl, rfl, hT2, rfl, _, _, rfl, rfl, _, rfl, iteDec (fun c3 => ?_) (fun c3 => ?_)⟩
        · rw [decide_eq_true (show lo.toNat ≤ i by omega)] at ok0
          refine ⟨_, rfl, .inl ⟨rfl, _, SqL.of hl2⟩, _, rfl, _, rfl, _, _, rfl, rfl, l, _, _, rfl, rfl, hl2, lt_line (by rw [natV_len]; omega), step (k2.mut nl) ?_⟩
          rw [upd_same, asucc, ok0, if_pos (show (true && true && true) = true from rfl)]
          unfold natV
          rw [List.map_append]; rfl
        · rw [decide_eq_false (show ¬ lo.toNat ≤ i by omega)] at ok0
          exact step k2 (no ok0)
    · rintro σ H' ⟨v4, v5, v6, v7, rfl, k, hl⟩
      exact ⟨_, rfl, q _ _ k nl (by rw [show hi.toNat + 1 = (hi + 1).toNat by omega]; exact hl)⟩

abbrev s__law_line_readings : Stmt := top 38
abbrev n__law_line_readings : List Str := ["pieces", "text", "at", "found", "piece", "longer", "one", "end", "values"]
theorem sc__law_line_readings : FnScope n__law_line_readings ["pieces", "text", "at"] (defScope s__law_line_readings) := ⟨rfl, rfl, rfl, by decide +kernel, rfl, by decide +kernel, by decide +kernel⟩

theorem dn__law_line_readings (D : Df K mg "_law_line_readings" s__law_line_readings ["pieces", "text", "at"]) (B : Bl mg) (d__law_ask_ends : Dn P w K mg base CX0 1 "_law_ask_ends" (sp__law_ask_ends K))  : Dn P w K mg base CX0 2 "_law_line_readings" (sp__law_line_readings K) := by
  refine .of D fun f fd F => F.ok sc__law_line_readings (fun vs H Q E h => ?_) (fun cdv A outer s H vs Q E hr h => ?_)
  · (obtain ⟨_, _, _, _, _, _, rfl, _⟩ := h; rfl)
  · have hu := hu_of hr
    have hu64 : _ := hr.units
    refine ⟨_, (pss_cons (ps_set (i := 3) sc__law_line_readings.nd rfl (Or.inl rfl) (pe_lst (pa_cons (pe_tup (pa_cons pe_dnewK (pa_cons (pv 2) pa_nil))) pa_nil)))
      (pss_cons (ps_for PassesOwn.never rfl (pi_list (pv 0)) (pg_name (i := 4) sc__law_line_readings.nd rfl (Or.inl rfl))
      (pss_cons (ps_set (i := 5) sc__law_line_readings.nd rfl (Or.inl rfl) (pe_lst pa_nil))
      (pss_cons (ps_for PassesOwn.never rfl (pi_list (pv 3)) (pg_name (i := 6) sc__law_line_readings.nd rfl (Or.inl rfl))
      (pss_cons (ps_set (i := 7) sc__law_line_readings.nd rfl (Or.inl rfl) (pe_op op_add (pe_ix (ixT (K := K) rfl) (pv 6) pe_int (fun _ _ => rfl)) (pe_callB call_len_str rfl B.len PySem.boot_len (pa_cons (pe_ix (ixT (K := K) rfl) (pv 4) pe_int (fun _ _ => rfl)) pa_nil))))
      (pss_cons (ps_if (PW.pt (pw_and (pt_cmpR op_eq (pe_ix (ixT (K := K) rfl) (pv 4) pe_int (fun _ _ => rfl)) pe_str (nomark _)) (pw_and1 (pt_cmpR op_eq (pe_slice sl_str (pv 1) (po_some (pe_ix (ixT (K := K) rfl) (pv 6) pe_int (fun _ _ => rfl))) (po_some (pv 7))) (pe_ix (ixT (K := K) rfl) (pv 4) pe_int (fun _ _ => rfl)) (nomark _))))) (pss_one (ps_expr (pe_bm PySem.F.plainAttrs_list PySem.F.slot_list_append PySem.F.type_list_append mt_append (pv 5) (pa_cons (pe_tup (pa_cons (pe_ix (ixT (K := K) rfl) (pv 6) pe_int (fun _ _ => rfl)) (pa_cons (pv 7) pa_nil))) pa_nil)))) pss_nil)
      (pss_one (ps_if (pt_cmpR op_eq (pe_ix (ixT (K := K) rfl) (pv 4) pe_int (fun _ _ => rfl)) pe_str (nomark _)) (pss_one (ps_for PassesOwn.never rfl (pi_list (cD d__law_ask_ends hr (by decide) rfl (pa_cons (pv 4) (pa_cons (pv 1) (pa_cons (pe_ix (ixT (K := K) rfl) (pv 6) pe_int (fun _ _ => rfl)) pa_nil))))) (pg_name (i := 7) sc__law_line_readings.nd rfl (Or.inl rfl))
      (pss_cons (ps_set (i := 8) sc__law_line_readings.nd rfl (Or.inl rfl) (pe_callTy call_dictD rfl B.dict (by decide +kernel) (pa_cons (pe_ix (ixT (K := K) rfl) (pv 6) pe_int (fun _ _ => rfl)) pa_nil)))
      (pss_cons (ps_dput hu (pv 8) (pe_ix (ixT (K := K) rfl) (pv 4) pe_int (fun _ _ => rfl)) (pe_slice sl_str (pv 1) (po_some (pe_ix (ixT (K := K) rfl) (pv 6) pe_int (fun _ _ => rfl))) (po_some (pv 7))) rfl)
      (pss_one (ps_expr (pe_bm PySem.F.plainAttrs_list PySem.F.slot_list_append PySem.F.type_list_append mt_append (pv 5) (pa_cons (pe_tup (pa_cons (pv 8) (pa_cons (pv 7) pa_nil))) pa_nil)))))))) pss_nil)))))
      (pss_one (ps_set (i := 3) sc__law_line_readings.nd rfl (Or.inl rfl) (pv 5))))))
      (pss_one (ps_ret (pv 3))))), ?_⟩
    obtain ⟨l, xs, tx, a, ips, G, rfl, gh, hLg, hPg, hok, hnd, hl2, ha, ht, q⟩ := h
    have hL := gh.seq hLg
    have hP := Paired.monoP hPg fun _ _ z => R0.mono z gh
    clear hLg hPg
    have hxp := Paired.len hP
    have hcl : tx.cps.toList.length = tx.length := Array.length_toList
    have hFl : ∀ i, (lineF tx.cps.toList (ips.take i) a).length ≤ 9 := fun i => by
      rw [lineF_eq]
      refine Nat.le_trans (lineR_len (m := 2) (fun p hp => (hok p (List.mem_of_mem_take hp)).2) a) (Nat.le_trans (Nat.pow_le_pow_right (by decide) (show (ips.take i).length ≤ 2 by rw [List.length_take]; omega)) (by decide))
    have hFm : ∀ i, ∀ x ∈ lineF tx.cps.toList (ips.take i) a, x.1.map (·.1) = nms0 (ips.take i) ∧ x.2 ≤ tx.length := fun i x hx => by
      rw [lineF_eq] at hx
      refine ⟨line_names hx, ?_⟩
      rw [← hcl]
      exact line_end (fun p hp => (hok p (List.mem_of_mem_take hp)).1) (by omega) hx
    refine fun d nd => ⟨_, rfl, (by show 2 ≤ sizeLine; decide), fun t nt => ⟨(by show 1 ≤ sizeLine; decide), fun f nf => ?_⟩⟩
    have W1 := (((Wd.refl gh).new (o := .dK []) nd).new (o := .tup [.ref d, .int (a : Nat)]) nt).new (o := .lst [.ref t]) nf
    have g1 : (upd (upd (upd G d (.dK [])) t (.tup [.ref d, .int (a : Nat)])) f (.lst [.ref t])) f = some (.lst [.ref t]) := upd_same
    have dt : d ≠ t := ne_of_none upd_same nt
    have tf : t ≠ f := ne_of_none upd_same nf
    have df : d ≠ f := ne_of_none ((upd_ne dt).trans upd_same) nf
    have g2 : (upd (upd (upd G d (.dK [])) t (.tup [.ref d, .int (a : Nat)])) f (.lst [.ref t])) t = some (.tup [.ref d, .int (a : Nat)]) := (upd_ne tf).trans upd_same
    have g3 : (upd (upd (upd G d (.dK [])) t (.tup [.ref d, .int (a : Nat)])) f (.lst [.ref t])) d = some (.dK []) := (upd_ne df).trans ((upd_ne dt).trans upd_same)
    generalize upd (upd (upd G d (.dK [])) t (.tup [.ref d, .int (a : Nat)])) f (.lst [.ref t]) = G1 at W1 g1 g2 g3 ⊢
    generalize upd (upd (upd H d (.dK [])) t (.tup [.ref d, .int (a : Nat)])) f (.lst [.ref t]) = H1 at W1 ⊢
    refine ⟨_, rfl, l, rfl, ⟨xs, W1.hh.same.seq hL⟩, for_list (K := K) (a := l) (xs := xs) (fun i σ H' => ∃ G' lf vs v4 v5 v6 v7 v8, σ = [some (.ref l), some (.str tx), some (.int (a : Nat)), some (.ref lf), v4, v5, v6, v7, v8] ∧ Wd G H G' H' ∧ G' lf = some (.lst vs) ∧ Paired (LinR G') vs (lineF tx.cps.toList (ips.take i) a))
      ⟨G1, f, _, none, none, none, none, none, rfl, W1, g1, .cons ⟨t, d, rfl, g2, g3⟩ .nil⟩ (fun i σ H' _ ⟨_, _, _, _, _, _, _, _, _, W, _⟩ => W.hh.same.seq hL) ?_ ?_⟩
    clear W1 g1 g2 g3 nf nt nd dt tf df
    · rintro i pv σ H' hi ⟨G', lf, vs, v4, v5, v6, v7, v8, rfl, W, hlf, hV⟩
      obtain ⟨p, hp, ap, rfl, hT0⟩ := Paired.at hP hi
      obtain ⟨okp, smp⟩ := hok p (mem_at hp)
      have hl9 := hFl i
      have hm := hFm i
      rw [lineF_snoc tx.cps.toList hp]
      have hnp : ∀ n, nm0 p = some n → n ∉ nms0 (ips.take i) := fun n hn hm => by
        have e := take_snoc hp
        have s : (nms0 (ips.take (i + 1))).Nodup := hnd.sublist ((List.take_sublist _ _).filterMap nm0)
        rw [e, show nms0 (ips.take i ++ [p]) = nms0 (ips.take i) ++ nms0 [p] from List.filterMap_append .., List.nodup_append] at s
        exact s.2.2 n hm n (by show n ∈ List.filterMap nm0 [p]; rw [List.filterMap_cons, hn]; exact List.mem_cons_self) rfl
      generalize lineF tx.cps.toList (ips.take i) a = F at hV hl9 hm
      have hvl := Paired.len hV
      refine ⟨(by show 0 ≤ sizeLine; exact Nat.zero_le _), fun lg nlg => ?_⟩
      have hlg0 : H lg = none := Same.free W.hh.same nlg
      have glg : G' lg = none := Same.free W.gh nlg
      have W1 := W.keep (Keep.new (o := .lst []) nlg)
      refine ⟨_, rfl, lf, rfl, ⟨vs, SqL.of (W1.gh _ _ hlf)⟩, ?_⟩
      refine for_list (K := K) (a := lf) (xs := vs) (fun j σ H2 => ∃ G2 ys v6 v7 v8, σ = [some (.ref l), some (.str tx), some (.int (a : Nat)), some (.ref lf), some (.ref ap), some (.ref lg), v6, v7, v8] ∧ Wd G H G2 H2 ∧ Same G' G2 ∧ H2 lg = some (.lst ys) ∧ G2 lg = none ∧ Paired (LinR G2) ys (stepL tx.cps.toList p (F.take j)))
        ⟨G', [], _, _, _, rfl, W1, Same.refl _, upd_same, glg, .nil⟩ (fun j σ H2 _ ⟨_, _, _, _, _, _, W2, s2, _⟩ => SqL.of (W2.gh _ _ (s2 _ _ hlf))) ?_ ?_
      · rintro j ov σ H2 hj ⟨G2, ys, v6, v7, v8, rfl, W2, s2, hlg, glg2, hY⟩
        obtain ⟨x, hx, ot, od, rfl, hot0, hod0⟩ := Paired.at hV hj
        obtain ⟨xn, xe⟩ := hm x (mem_at hx)
        have hot : SqT K H2 ot [.ref od, .int (x.2 : Nat)] := SqT.of (W2.gh _ _ (s2 _ _ hot0))
        have hT := W2.hh.same.tup hT0
        have hyl : ys.length ≤ 27 := by
          rw [Paired.len hY]
          unfold stepL
          refine Nat.le_trans (flatMap_le (m := 3) fun z _ => ?_) ?_
          · rw [List.length_map]; exact pieceR0_len (m := 2) smp _
          · rw [List.length_take]; omega
        have sS : stepL tx.cps.toList p (F.take (j + 1)) = stepL tx.cps.toList p (F.take j) ++ (pieceR0 tx.cps.toList p x.2).map fun y => (x.1 ++ y.1, y.2) := by
          unfold stepL
          rw [take_snoc hx, List.flatMap_append]
          simp
        rw [sS]
        cases p with
        | say t =>
          have hcut := cutS_at tx xe (show x.2 ≤ x.2 + t.length by omega)
          have htl : t.length ≤ 12 := okp.2.1
          refine ⟨_, rfl, ot, _, _, _, rfl, rfl, hot, rfl, _, rfl, ap, _, _, _, rfl, rfl, hT, rfl, t, rfl, small_line (by omega), _, _, rfl, rfl, ?_⟩
          refine ⟨_, rfl, ap, _, _, _, rfl, rfl, hT, rfl, rfl, _, rfl, iteEq ?_⟩
          refine ⟨_, rfl, _, rfl, ot, _, _, _, rfl, rfl, hot, rfl, _, rfl, _, rfl, _, rfl, tx, rfl, small_line (by omega), _, rfl, ap, _, _, _, rfl, rfl, hT, rfl, rfl, _, rfl, ?_⟩
          have e1 : (pieceR0 tx.cps.toList (.say t) x.2).map (fun y => (x.1 ++ y.1, y.2)) = if cut tx.cps.toList x.2 (x.2 + t.length) = t.cps.toList then [(x.1, x.2 + t.length)] else [] := by
            unfold pieceR0 sayE cut
            dsimp only
            have : t.cps.toList.length = t.length := Array.length_toList
            rw [this, show x.2 + t.length - x.2 = t.length by omega]
            split
            · simp
            · rfl
          rw [e1]
          by_cases hc : cut tx.cps.toList x.2 (x.2 + t.length) = t.cps.toList
          · rw [if_pos hc]
            have ec : cutS tx (some ((x.2 : Nat) : Int)) (some (((x.2 : Nat) : Int) + ((t.length : Nat) : Int))) = t := str_ext (by rw [← hc]; exact hcut)
            refine iteDT (by rw [ec]) ?_
            refine ⟨_, rfl, .inl ⟨rfl, _, SqL.of hlg⟩, _, rfl, ot, _, _, _, rfl, rfl, hot, rfl, _, rfl, (by show 2 ≤ sizeLine; decide), fun u nu => ?_⟩
            have W3 := W2.new (o := .tup [.ref od, .int ((x.2 + t.length : Nat) : Int)]) nu
            have s3 : Same G2 (upd G2 u (.tup [.ref od, .int ((x.2 + t.length : Nat) : Int)])) := Same.new (Same.free W2.gh nu)
            have hgu : (upd G2 u (.tup [.ref od, .int ((x.2 + t.length : Nat) : Int)])) u = some (.tup [.ref od, .int ((x.2 + t.length : Nat) : Int)]) := upd_same
            have lu : lg ≠ u := ne_of_none hlg nu
            refine ⟨lg, ys, _, rfl, rfl, (upd_ne lu).trans hlg, small1000 (by omega), ?_⟩
            refine ⟨_, rfl, ap, _, _, _, rfl, rfl, (W3.mut (o := .lst (ys ++ [V.ref u])) hlg0 ((upd_ne lu).trans glg2)).hh.same.tup hT0, rfl, rfl, _, rfl, iteNe say_ask ?_⟩
            exact ⟨_, _, _, _, _, rfl, W3.mut hlg0 ((upd_ne lu).trans glg2), s2.trans s3, upd_same, (upd_ne lu).trans glg2, Paired.snoc (Paired.monoP hY fun _ _ z => z.mono s3) ⟨u, od, rfl, hgu, s3 _ _ (s2 _ _ hod0)⟩⟩
          · rw [if_neg hc, List.append_nil]
            refine iteDF (fun z => hc ?_) ?_
            · injection z with z
              exact hcut.symm.trans (congrArg (fun s : Str => s.cps.toList) z)
            refine ⟨_, rfl, ap, _, _, _, rfl, rfl, hT, rfl, rfl, _, rfl, iteNe say_ask ?_⟩
            exact ⟨_, _, _, _, _, rfl, W2, s2, hlg, glg2, hY⟩
        | ask nm sg lo hi =>
          obtain ⟨_, s1, s20, _, _, l0, lh, h4⟩ := id okp
          refine ⟨_, rfl, ot, _, _, _, rfl, rfl, hot, rfl, _, rfl, ap, _, _, _, rfl, rfl, hT, rfl, nm, rfl, small_line (by have := smp.2; omega), _, _, rfl, rfl, ?_⟩
          refine ⟨_, rfl, ap, _, _, _, rfl, rfl, hT, rfl, rfl, _, rfl, iteNe ask_say (iteF ?_)⟩
          refine ⟨_, rfl, ap, _, _, _, rfl, rfl, hT, rfl, rfl, _, rfl, iteEq ?_⟩
          refine ⟨_, rfl, _, rfl, _, rfl, ot, _, _, _, rfl, rfl, hot, rfl, ap, tx, x.2, nm, sg, lo, hi, rfl, hT, okp, xe, ht, fun le H3 k3 nle hle => ?_⟩
          have e1 : (pieceR0 tx.cps.toList (.ask nm sg lo hi) x.2).map (fun y => (x.1 ++ y.1, y.2)) = (askE tx.cps.toList sg.cps.toList hi.toNat lo.toNat x.2).map fun e => (x.1 ++ [(nm, ofL (cut tx.cps.toList x.2 e))], e) := by
            unfold pieceR0
            rw [List.map_map]; rfl
          rw [e1]
          have hel : (askE tx.cps.toList sg.cps.toList hi.toNat lo.toNat x.2).length ≤ 3 := by
            have := askE_len tx.cps.toList sg.cps.toList hi.toNat lo.toNat x.2
            have : hi ≤ 2 := smp.1
            omega
          have hge : ∀ e ∈ askE tx.cps.toList sg.cps.toList hi.toNat lo.toNat x.2, x.2 ≤ e := fun e he => askE_ge he
          generalize askE tx.cps.toList sg.cps.toList hi.toNat lo.toNat x.2 = E at hel hge hle
          have hnn := hnp nm rfl
          rw [← xn] at hnn
          have W3 := W2.keep k3
          have hlg3 := k3 _ _ hlg
          refine ⟨le, rfl, ⟨_, SqL.of hle⟩, ?_⟩
          have hle0 : H le = none := Same.free W2.hh.same nle
          have gle : G2 le = none := Same.free W2.gh nle
          have W3 := W3.tell hle hle0 gle
          have s3 : Same G2 (upd G2 le (.lst (natV E))) := Same.new gle
          have glg3 : (upd G2 le (.lst (natV E))) lg = none := (upd_ne (ne_of_none hlg nle)).trans glg2
          have hle3 : (upd G2 le (.lst (natV E))) le = some (.lst (natV E)) := upd_same
          have hY3 := Paired.monoP hY fun _ _ z => z.mono s3
          generalize upd G2 le (.lst (natV E)) = G3 at W3 s3 glg3 hle3 hY3
          refine for_list (K := K) (a := le) (xs := natV E) (fun m σ H4 => ∃ G4 zs v7 v8, σ = [some (.ref l), some (.str tx), some (.int (a : Nat)), some (.ref lf), some (.ref ap), some (.ref lg), some (.ref ot), v7, v8] ∧ Wd G H G4 H4 ∧ Same G3 G4 ∧ H4 lg = some (.lst zs) ∧ G4 lg = none ∧
              Paired (LinR G4) zs (stepL tx.cps.toList (.ask nm sg lo hi) (F.take j) ++ (E.take m).map fun e => (x.1 ++ [(nm, ofL (cut tx.cps.toList x.2 e))], e)) ∧ zs.length = ys.length + m)
            ⟨G3, ys, _, _, rfl, W3, Same.refl _, hlg3, glg3, by rw [List.take_zero, List.map_nil, List.append_nil]; exact hY3, rfl⟩ (fun m σ H4 _ ⟨_, _, _, _, _, W4, s4, _⟩ => SqL.of (W4.gh _ _ (s4 _ _ hle3))) ?_ ?_
          · rintro m ev σ H4 hm2 ⟨G4, zs, v7, v8, rfl, W4, s4, hlg4, glg4, hZ, hzl⟩
            obtain ⟨e, he, rfl⟩ := natV_at hm2
            have hml := at_lt he
            have hxe := hge e (mem_at he)
            have hot4 : SqT K H4 ot [.ref od, .int (x.2 : Nat)] := SqT.of (W4.gh _ _ (s4 _ _ (s3 _ _ (s2 _ _ hot0))))
            have hod4 : H4 od = some (.dK (rowK x.1)) := W4.gh _ _ (s4 _ _ (s3 _ _ (s2 _ _ hod0)))
            refine ⟨_, rfl, ot, _, _, _, rfl, rfl, hot4, rfl, od, _, rfl, .inl hod4, fun d2 nd2 => ?_⟩
            have hd20 : H d2 = none := Same.free W4.hh.same nd2
            have gd2 : G4 d2 = none := Same.free W4.gh nd2
            have W5 := W4.keep (Keep.new (o := .dK (rowK x.1)) nd2)
            have hot5 : SqT K (upd H4 d2 (.dK (rowK x.1))) ot [.ref od, .int (x.2 : Nat)] := (Same.new nd2).tup hot4
            have hT5 : SqT K (upd H4 d2 (.dK (rowK x.1))) ap (P0.ask nm sg lo hi).vs := W5.hh.same.tup hT0
            have hcut := cutS_at tx xe hxe
            have ec : cutS tx (some ((x.2 : Nat) : Int)) (some ((e : Nat) : Int)) = ofL (cut tx.cps.toList x.2 e) := str_ext (by rw [ofL_cps]; exact hcut)
            have hxl : (rowK x.1).length ≤ 100 := by
              unfold rowK
              rw [List.length_map]
              have : (x.1.map (·.1)).length = (nms0 (ips.take i)).length := by rw [xn]
              rw [List.length_map] at this
              have h3 := List.length_filterMap_le nm0 (ips.take i)
              unfold nms0 at this
              rw [List.length_take] at h3
              omega
            refine ⟨_, rfl, _, rfl, ot, _, _, _, rfl, rfl, hot5, rfl, _, rfl, _, rfl, _, rfl, tx, rfl, small_line (by omega), _, rfl, _, rfl, ap, _, _, _, rfl, rfl, hT5, rfl, d2, _, rfl, dput_s upd_same (small1000 (by omega)), ?_⟩
            rw [ec, putK_row ((look_keys nm x.1).mpr hnn)]
            have W6 := (W5.mut (o := .dK (rowK (x.1 ++ [(nm, ofL (cut tx.cps.toList x.2 e))]))) hd20 gd2).tell upd_same hd20 gd2
            have s6 : Same G4 (upd G4 d2 (.dK (rowK (x.1 ++ [(nm, ofL (cut tx.cps.toList x.2 e))])))) := Same.new gd2
            have g6 : (upd G4 d2 (.dK (rowK (x.1 ++ [(nm, ofL (cut tx.cps.toList x.2 e))])))) d2 = some (.dK (rowK (x.1 ++ [(nm, ofL (cut tx.cps.toList x.2 e))]))) := upd_same
            have ld : lg ≠ d2 := ne_of_none hlg4 nd2
            have hlg6 : (upd (upd H4 d2 (.dK (rowK x.1))) d2 (.dK (rowK (x.1 ++ [(nm, ofL (cut tx.cps.toList x.2 e))])))) lg = some (.lst zs) := (upd_ne ld).trans ((upd_ne ld).trans hlg4)
            have glg6 : (upd G4 d2 (.dK (rowK (x.1 ++ [(nm, ofL (cut tx.cps.toList x.2 e))])))) lg = none := (upd_ne ld).trans glg4
            generalize upd G4 d2 (.dK (rowK (x.1 ++ [(nm, ofL (cut tx.cps.toList x.2 e))]))) = G6 at W6 s6 g6 glg6
            generalize upd (upd H4 d2 (.dK (rowK x.1))) d2 (.dK (rowK (x.1 ++ [(nm, ofL (cut tx.cps.toList x.2 e))]))) = H6 at W6 hlg6 ⊢
            refine ⟨_, rfl, .inl ⟨rfl, _, SqL.of hlg6⟩, _, rfl, _, rfl, (by show 2 ≤ sizeLine; decide), fun u nu => ?_⟩
            have W7 := W6.new (o := .tup [.ref d2, .int (e : Nat)]) nu
            have s7 : Same G6 (upd G6 u (.tup [.ref d2, .int (e : Nat)])) := Same.new (Same.free W6.gh nu)
            have g7 : (upd G6 u (.tup [.ref d2, .int (e : Nat)])) u = some (.tup [.ref d2, .int (e : Nat)]) := upd_same
            have lu : lg ≠ u := ne_of_none hlg6 nu
            refine ⟨lg, zs, _, rfl, rfl, (upd_ne lu).trans hlg6, small1000 (by omega), ?_⟩
            refine ⟨_, _, _, _, rfl, W7.mut hlg0 ((upd_ne lu).trans glg6), s4.trans (s6.trans s7), upd_same, (upd_ne lu).trans glg6, ?_, by rw [List.length_append, hzl]; rfl⟩
            rw [take_snoc he, List.map_append, ← List.append_assoc]
            exact Paired.snoc (Paired.monoP hZ fun _ _ z => z.mono (s6.trans s7)) ⟨u, d2, rfl, g7, s7 _ _ g6⟩
          · rintro σ H4 ⟨G4, zs, v7, v8, rfl, W4, s4, hlg4, glg4, hZ, hzl⟩
            rw [natV_len, List.take_length] at hZ
            exact ⟨_, _, _, _, _, rfl, W4, s2.trans (s3.trans s4), hlg4, glg4, hZ⟩
      · rintro σ H2 ⟨G2, ys, v6, v7, v8, rfl, W2, s2, hlg, glg2, hY⟩
        rw [hvl, List.take_length] at hY
        refine ⟨_, rfl, ?_⟩
        exact ⟨_, lg, ys, _, _, _, _, _, rfl, W2.tell hlg hlg0 glg2, upd_same, Paired.monoP hY fun _ _ z => z.mono (Same.new glg2)⟩
    · rintro σ H' ⟨G', lf, vs, v4, v5, v6, v7, v8, rfl, W, hlf, hV⟩
      rw [hxp, List.take_length, lineF_eq] at hV
      exact ⟨_, rfl, q (.ref lf) G' H' W ⟨lf, vs, rfl, hlf, hV⟩⟩

abbrev s__law_rows_readings : Stmt := top 39
abbrev n__law_rows_readings : List Str := ["piece", "text", "at", "count", "found", "gap", "one", "more"]
theorem sc__law_rows_readings : FnScope n__law_rows_readings ["piece", "text", "at", "count"] (defScope s__law_rows_readings) := ⟨rfl, rfl, rfl, by decide +kernel, rfl, by decide +kernel, by decide +kernel⟩

theorem dn__law_rows_readings_0 (D : Df K mg "_law_rows_readings" s__law_rows_readings ["piece", "text", "at", "count"]) (B : Bl mg) (d__law_line_readings : Dn P w K mg base CX0 2 "_law_line_readings" (sp__law_line_readings K))  : Dn P w K mg base CX0 3 "_law_rows_readings" (sp__law_rows_readings K 0) := by
  refine .of D fun f fd F => F.ok sc__law_rows_readings (fun vs H Q E h => ?_) (fun cdv A outer s H vs Q E hr h => ?_)
  · (obtain ⟨_, _, _, _, _, _, _, _, _, _, rfl, _⟩ := h; rfl)
  · have hu := hu_of hr
    have hu64 : _ := hr.units
    refine ⟨_, (pss_cons (ps_set (i := 4) sc__law_rows_readings.nd rfl (Or.inl rfl) (pe_lst pa_nil))
      (C8.pss_cut (ps_if (pt_cmpR op_ge (pv 3) (pe_ix (ixT (K := K) rfl) (pv 0) pe_int (fun _ _ => rfl)) (nomark _)) (pss_one (ps_expr (pe_bm PySem.F.plainAttrs_list PySem.F.slot_list_append PySem.F.type_list_append mt_append (pv 4) (pa_cons (pe_tup (pa_cons (pe_lst pa_nil) (pa_cons (pv 2) pa_nil))) pa_nil)))) pss_nil)
      (pss_cons (ps_set (i := 5) sc__law_rows_readings.nd rfl (Or.inl rfl) (pe_op op_repK (pe_ix (ixT (K := K) rfl) (pv 0) pe_int (fun _ _ => rfl)) (pe_callTy call_int1 rfl B.int (by decide +kernel) (pa_cons (pe_cmpR op_gt (pv 3) pe_int (nomark _)) pa_nil))))
      (pss_cons (ps_if (PW.pt (pw_and (pt_cmpR op_lt (pv 3) (pe_ix (ixT (K := K) rfl) (pv 0) pe_int (fun _ _ => rfl)) (nomark _)) (pw_and1 (pt_cmpR op_eq (pe_slice sl_str (pv 1) (po_some (pv 2)) (po_some (pe_op op_add (pv 2) (pe_callB call_len_str rfl B.len PySem.boot_len (pa_cons (pv 5) pa_nil))))) (pv 5) (nomark _))))) (pss_one (ps_for PassesOwn.never rfl (pi_list (cD d__law_line_readings hr (by decide) rfl (pa_cons (pe_ix (ixT (K := K) rfl) (pv 0) pe_int (fun _ _ => rfl)) (pa_cons (pv 1) (pa_cons (pe_op op_add (pv 2) (pe_callB call_len_str rfl B.len PySem.boot_len (pa_cons (pv 5) pa_nil))) pa_nil))))) (pg_name (i := 6) sc__law_rows_readings.nd rfl (Or.inl rfl))
      (pss_one ps_never))) pss_nil)
      (pss_one (ps_ret (pv 4))))))), ?_⟩
    obtain ⟨p, tx, a, k, nm, ips, gap, lo, hi, G, rfl, gh, hRg, ok, sm, hk, hn, ha, ht, q⟩ := h
    obtain ⟨n0, i1, i3, iok, ind, gl5, _, l0, lh, h3⟩ := id ok
    obtain ⟨s1, s2, _, s4⟩ := id sm
    obtain ⟨ap, li, its, ep, hTG, hLiG, hPiG⟩ := id hRg
    cases ep
    have hT0 := gh.tup hTG
    have hcl : tx.cps.toList.length = tx.length := Array.length_toList
    refine ⟨(by show 0 ≤ sizeLine; exact Nat.zero_le _), fun l nl => ?_⟩
    have W1 := (Wd.refl gh).keep (Keep.new (o := .lst []) nl)
    have gnl : G l = none := Same.free gh nl
    have hl1 : (upd H l (.lst [])) l = some (.lst []) := upd_same
    generalize upd H l (.lst []) = H1 at W1 hl1 ⊢
    refine ⟨fun σ H' => ∃ G' ys v5 v6 v7, σ = [some (.ref p), some (.str tx), some (.int (a : Nat)), some (.int (k : Nat)), some (.ref l), v5, v6, v7] ∧ Wd G H G' H' ∧ H' l = some (.lst ys) ∧ G' l = none ∧ Paired (RwsR G') ys (if lo.toNat ≤ k then [([], a)] else []), ?_, ?_⟩
    · have hT := W1.hh.same.tup hT0
      refine ⟨_, rfl, _, rfl, p, _, _, _, rfl, rfl, hT, rfl, _, _, rfl, rfl, _, rfl, iteDec (fun hc => ?_) (fun hc => ?_)⟩
      · rw [if_pos (show lo.toNat ≤ k by omega)]
        refine ⟨_, rfl, .inl ⟨rfl, _, SqL.of hl1⟩, (by show 0 ≤ sizeLine; exact Nat.zero_le _), fun e ne => ⟨_, rfl, (by show 2 ≤ sizeLine; decide), fun t nt => ?_⟩⟩
        have W2 := (W1.new (o := .lst []) ne).new (o := .tup [.ref e, .int (a : Nat)]) nt
        have g1 : (upd (upd G e (.lst [])) t (.tup [.ref e, .int (a : Nat)])) t = some (.tup [.ref e, .int (a : Nat)]) := upd_same
        have et : e ≠ t := ne_of_none upd_same nt
        have g2 : (upd (upd G e (.lst [])) t (.tup [.ref e, .int (a : Nat)])) e = some (.lst []) := (upd_ne et).trans upd_same
        have le : l ≠ e := ne_of_none hl1 ne
        have lt : l ≠ t := ne_of_none ((upd_ne le).trans hl1) nt
        have hl2 : (upd (upd H1 e (.lst [])) t (.tup [.ref e, .int (a : Nat)])) l = some (.lst []) := (upd_ne lt).trans ((upd_ne le).trans hl1)
        have gl2 : (upd (upd G e (.lst [])) t (.tup [.ref e, .int (a : Nat)])) l = none := (upd_ne lt).trans ((upd_ne le).trans gnl)
        refine ⟨l, [], _, rfl, rfl, hl2, small1000 (Nat.zero_le _), ?_⟩
        exact ⟨_, _, _, _, _, rfl, W2.mut nl gl2, upd_same, gl2, .cons ⟨t, e, [], rfl, g1, g2, .nil⟩ .nil⟩
      · rw [if_neg (show ¬ lo.toNat ≤ k by omega)]
        exact ⟨_, _, _, _, _, rfl, W1, hl1, gnl, .nil⟩
    rintro σ H' ⟨G', ys, v5, v6, v7, rfl, W, hl, gl, hY⟩
    clear W1 hl1
    have hT := W.hh.same.tup hT0
    have hbl : (if lo.toNat ≤ k then [(([] : List Rw), a)] else []).length ≤ 1 := by split <;> simp
    refine ⟨_, rfl, p, _, _, _, rfl, rfl, hT, rfl, _, rfl, _, _, rfl, rfl, .inr ⟨_, rfl, gap, _, rfl, rfl, mul01 (by split <;> decide) (by split <;> decide) (by omega), ?_⟩⟩
    rw [gap_mul]
    have hge : (if k = 0 then Str.empty else gap).cps.toList = if k = 0 then [] else gap.cps.toList := by split <;> rfl
    have hgl : (if k = 0 then Str.empty else gap).length ≤ 5 := by
      split
      · exact Nat.zero_le _
      · exact gl5
    generalize (if k = 0 then Str.empty else gap) = gp at hge hgl
    refine ⟨_, rfl, _, rfl, p, _, _, _, rfl, rfl, hT, rfl, _, _, rfl, rfl, _, rfl, iteDec (fun hc => ?_) (fun hc => iteF ⟨_, rfl, q _ _ _ (W.tell hl nl gl) ⟨l, ys, rfl, upd_same, ?_⟩⟩)⟩
    case refine_2 =>
      have e0 : hi.toNat - k = 0 := by omega
      rw [if_pos (show lo.toNat ≤ k by omega)] at hY
      rw [e0, rowsR]
      exact Paired.monoP hY fun _ _ z => z.mono (Same.new gl)
    exact absurd (show (k : Int) < hi from hc) (by omega)

theorem dn__law_rows_readings_1 (D : Df K mg "_law_rows_readings" s__law_rows_readings ["piece", "text", "at", "count"]) (B : Bl mg) (d__law_line_readings : Dn P w K mg base CX0 2 "_law_line_readings" (sp__law_line_readings K))  (d__law_rows_readings : Dn P w K mg base CX0 3 "_law_rows_readings" (sp__law_rows_readings K 0))  : Dn P w K mg base CX0 4 "_law_rows_readings" (sp__law_rows_readings K 1) := by
  refine .of D fun f fd F => F.ok sc__law_rows_readings (fun vs H Q E h => ?_) (fun cdv A outer s H vs Q E hr h => ?_)
  · (obtain ⟨_, _, _, _, _, _, _, _, _, _, rfl, _⟩ := h; rfl)
  · have hu := hu_of hr
    have hu64 : _ := hr.units
    refine ⟨_, (pss_cons (ps_set (i := 4) sc__law_rows_readings.nd rfl (Or.inl rfl) (pe_lst pa_nil))
      (C8.pss_cut (ps_if (pt_cmpR op_ge (pv 3) (pe_ix (ixT (K := K) rfl) (pv 0) pe_int (fun _ _ => rfl)) (nomark _)) (pss_one (ps_expr (pe_bm PySem.F.plainAttrs_list PySem.F.slot_list_append PySem.F.type_list_append mt_append (pv 4) (pa_cons (pe_tup (pa_cons (pe_lst pa_nil) (pa_cons (pv 2) pa_nil))) pa_nil)))) pss_nil)
      (pss_cons (ps_set (i := 5) sc__law_rows_readings.nd rfl (Or.inl rfl) (pe_op op_repK (pe_ix (ixT (K := K) rfl) (pv 0) pe_int (fun _ _ => rfl)) (pe_callTy call_int1 rfl B.int (by decide +kernel) (pa_cons (pe_cmpR op_gt (pv 3) pe_int (nomark _)) pa_nil))))
      (pss_cons (ps_if (PW.pt (pw_and (pt_cmpR op_lt (pv 3) (pe_ix (ixT (K := K) rfl) (pv 0) pe_int (fun _ _ => rfl)) (nomark _)) (pw_and1 (pt_cmpR op_eq (pe_slice sl_str (pv 1) (po_some (pv 2)) (po_some (pe_op op_add (pv 2) (pe_callB call_len_str rfl B.len PySem.boot_len (pa_cons (pv 5) pa_nil))))) (pv 5) (nomark _))))) (pss_one (ps_for PassesOwn.never rfl (pi_list (cD d__law_line_readings hr (by decide) rfl (pa_cons (pe_ix (ixT (K := K) rfl) (pv 0) pe_int (fun _ _ => rfl)) (pa_cons (pv 1) (pa_cons (pe_op op_add (pv 2) (pe_callB call_len_str rfl B.len PySem.boot_len (pa_cons (pv 5) pa_nil))) pa_nil))))) (pg_name (i := 6) sc__law_rows_readings.nd rfl (Or.inl rfl))
      (pss_one (ps_for PassesOwn.never rfl (pi_list (cD d__law_rows_readings hr (by decide) rfl (pa_cons (pv 0) (pa_cons (pv 1) (pa_cons (pe_ix (ixT (K := K) rfl) (pv 6) pe_int (fun _ _ => rfl)) (pa_cons (pe_op op_add (pv 3) pe_int) pa_nil)))))) (pg_name (i := 7) sc__law_rows_readings.nd rfl (Or.inl rfl))
      (pss_one (ps_expr (pe_bm PySem.F.plainAttrs_list PySem.F.slot_list_append PySem.F.type_list_append mt_append (pv 4) (pa_cons (pe_tup (pa_cons (pe_op op_cat (pe_lst (pa_cons (pe_ix (ixT (K := K) rfl) (pv 6) pe_int (fun _ _ => rfl)) pa_nil)) (pe_ix (ixT (K := K) rfl) (pv 7) pe_int (fun _ _ => rfl))) (pa_cons (pe_ix (ixT (K := K) rfl) (pv 7) pe_int (fun _ _ => rfl)) pa_nil))) pa_nil)))))))) pss_nil)
      (pss_one (ps_ret (pv 4))))))), ?_⟩
    obtain ⟨p, tx, a, k, nm, ips, gap, lo, hi, G, rfl, gh, hRg, ok, sm, hk, hn, ha, ht, q⟩ := h
    obtain ⟨n0, i1, i3, iok, ind, gl5, _, l0, lh, h3⟩ := id ok
    obtain ⟨s1, s2, _, s4⟩ := id sm
    obtain ⟨ap, li, its, ep, hTG, hLiG, hPiG⟩ := id hRg
    cases ep
    have hT0 := gh.tup hTG
    have hcl : tx.cps.toList.length = tx.length := Array.length_toList
    refine ⟨(by show 0 ≤ sizeLine; exact Nat.zero_le _), fun l nl => ?_⟩
    have W1 := (Wd.refl gh).keep (Keep.new (o := .lst []) nl)
    have gnl : G l = none := Same.free gh nl
    have hl1 : (upd H l (.lst [])) l = some (.lst []) := upd_same
    generalize upd H l (.lst []) = H1 at W1 hl1 ⊢
    refine ⟨fun σ H' => ∃ G' ys v5 v6 v7, σ = [some (.ref p), some (.str tx), some (.int (a : Nat)), some (.int (k : Nat)), some (.ref l), v5, v6, v7] ∧ Wd G H G' H' ∧ H' l = some (.lst ys) ∧ G' l = none ∧ Paired (RwsR G') ys (if lo.toNat ≤ k then [([], a)] else []), ?_, ?_⟩
    · have hT := W1.hh.same.tup hT0
      refine ⟨_, rfl, _, rfl, p, _, _, _, rfl, rfl, hT, rfl, _, _, rfl, rfl, _, rfl, iteDec (fun hc => ?_) (fun hc => ?_)⟩
      · rw [if_pos (show lo.toNat ≤ k by omega)]
        refine ⟨_, rfl, .inl ⟨rfl, _, SqL.of hl1⟩, (by show 0 ≤ sizeLine; exact Nat.zero_le _), fun e ne => ⟨_, rfl, (by show 2 ≤ sizeLine; decide), fun t nt => ?_⟩⟩
        have W2 := (W1.new (o := .lst []) ne).new (o := .tup [.ref e, .int (a : Nat)]) nt
        have g1 : (upd (upd G e (.lst [])) t (.tup [.ref e, .int (a : Nat)])) t = some (.tup [.ref e, .int (a : Nat)]) := upd_same
        have et : e ≠ t := ne_of_none upd_same nt
        have g2 : (upd (upd G e (.lst [])) t (.tup [.ref e, .int (a : Nat)])) e = some (.lst []) := (upd_ne et).trans upd_same
        have le : l ≠ e := ne_of_none hl1 ne
        have lt : l ≠ t := ne_of_none ((upd_ne le).trans hl1) nt
        have hl2 : (upd (upd H1 e (.lst [])) t (.tup [.ref e, .int (a : Nat)])) l = some (.lst []) := (upd_ne lt).trans ((upd_ne le).trans hl1)
        have gl2 : (upd (upd G e (.lst [])) t (.tup [.ref e, .int (a : Nat)])) l = none := (upd_ne lt).trans ((upd_ne le).trans gnl)
        refine ⟨l, [], _, rfl, rfl, hl2, small1000 (Nat.zero_le _), ?_⟩
        exact ⟨_, _, _, _, _, rfl, W2.mut nl gl2, upd_same, gl2, .cons ⟨t, e, [], rfl, g1, g2, .nil⟩ .nil⟩
      · rw [if_neg (show ¬ lo.toNat ≤ k by omega)]
        exact ⟨_, _, _, _, _, rfl, W1, hl1, gnl, .nil⟩
    rintro σ H' ⟨G', ys, v5, v6, v7, rfl, W, hl, gl, hY⟩
    clear W1 hl1
    have hT := W.hh.same.tup hT0
    have hbl : (if lo.toNat ≤ k then [(([] : List Rw), a)] else []).length ≤ 1 := by split <;> simp
    refine ⟨_, rfl, p, _, _, _, rfl, rfl, hT, rfl, _, rfl, _, _, rfl, rfl, .inr ⟨_, rfl, gap, _, rfl, rfl, mul01 (by split <;> decide) (by split <;> decide) (by omega), ?_⟩⟩
    rw [gap_mul]
    have hge : (if k = 0 then Str.empty else gap).cps.toList = if k = 0 then [] else gap.cps.toList := by split <;> rfl
    have hgl : (if k = 0 then Str.empty else gap).length ≤ 5 := by
      split
      · exact Nat.zero_le _
      · exact gl5
    generalize (if k = 0 then Str.empty else gap) = gp at hge hgl
    refine ⟨_, rfl, _, rfl, p, _, _, _, rfl, rfl, hT, rfl, _, _, rfl, rfl, _, rfl, iteDec (fun hc => ?_) (fun hc => iteF ⟨_, rfl, q _ _ _ (W.tell hl nl gl) ⟨l, ys, rfl, upd_same, ?_⟩⟩)⟩
    case refine_2 =>
      have e0 : hi.toNat - k = 0 := by omega
      rw [if_pos (show lo.toNat ≤ k by omega)] at hY
      rw [e0, rowsR]
      exact Paired.monoP hY fun _ _ z => z.mono (Same.new gl)
    obtain ⟨m, em⟩ : ∃ m, hi.toNat - k = m + 1 := ⟨hi.toNat - k - 1, by omega⟩
    have em2 : hi.toNat - (k + 1) = m := by omega
    rw [em] at q
    unfold rowsR at q
    rw [← hge] at q
    have hcut := cutS_at tx ha (show a ≤ a + gp.length by omega)
    have gll : gp.cps.toList.length = gp.length := Array.length_toList
    have esay : sayE tx.cps.toList gp.cps.toList a = if cut tx.cps.toList a (a + gp.length) = gp.cps.toList then [a + gp.length] else [] := by
      unfold sayE cut
      rw [gll, show a + gp.length - a = gp.length by omega]
    refine ⟨_, rfl, _, rfl, _, rfl, _, rfl, _, rfl, gp, rfl, small_line (by omega), _, _, rfl, rfl, _, rfl, tx, rfl, small_line (by omega), _, rfl, rfl, _, rfl, ?_⟩
    by_cases hcc : cut tx.cps.toList a (a + gp.length) = gp.cps.toList
    case neg =>
      rw [esay, if_neg hcc, List.flatMap_nil, List.append_nil] at q
      refine iteDF (fun z => hcc ?_) ⟨_, rfl, q _ _ _ (W.tell hl nl gl) ⟨l, ys, rfl, upd_same, Paired.monoP hY fun _ _ z => z.mono (Same.new gl)⟩⟩
      injection z with z
      exact hcut.symm.trans (congrArg (fun s : Str => s.cps.toList) z)
    have hen : a + gp.length ≤ tx.length := by
      have := congrArg List.length hcc
      unfold cut at this
      rw [List.length_take, List.length_drop, gll, hcl] at this
      omega
    rw [esay, if_pos hcc, List.flatMap_singleton] at q
    have ec : cutS tx (some ((a : Nat) : Int)) (some (((a : Nat) : Int) + ((gp.length : Nat) : Int))) = gp := str_ext (by rw [← hcc]; exact hcut)
    refine iteDT (by rw [ec]) ?_
    refine ⟨_, rfl, p, _, _, _, rfl, rfl, hT, rfl, _, rfl, _, rfl, _, rfl, gp, rfl, small_line (by omega), _, _, rfl, rfl, li, its, tx, a + gp.length, ips, G', rfl, W.gh, W.gg.seq hLiG, Paired.monoP hPiG fun _ _ z => z.mono W.gg, fun p hp => ⟨iok p hp, s4 p hp⟩, ind, s1, hen, ht, fun v G3 H3 W3 hLA => ?_⟩
    obtain ⟨lf, vs, rfl, hlf, hV⟩ := hLA
    have hLm : ∀ x ∈ lineR tx.cps.toList ips (a + gp.length), x.2 ≤ tx.length := fun x hx => by rw [← hcl]; exact line_end iok (by omega) hx
    have hline9 : ∀ a, (lineR tx.cps.toList ips a).length ≤ 9 := fun a => Nat.le_trans (lineR_len (m := 2) s4 a) (Nat.le_trans (Nat.pow_le_pow_right (by decide) s1) (by decide))
    have hLl := hline9 (a + gp.length)
    have hRl : ∀ b, (rowsR tx.cps.toList ips gap.cps.toList lo.toNat m (k + 1) b).length ≤ 91 := fun b => Nat.le_trans (rowsR_len hline9 m (k + 1) b) (by
      have : m ≤ 1 := by omega
      match m, this with
      | 0, _ => decide
      | 1, _ => decide)
    generalize lineR tx.cps.toList ips (a + gp.length) = F at q hV hLm hLl
    have hvl := Paired.len hV
    have hl3 := W3.hh _ _ hl
    have gl3 := W3.nw _ _ hl gl
    have W2 := W.trans W3
    clear hT hl
    refine ⟨lf, rfl, ⟨_, SqL.of (W3.gh _ _ hlf)⟩, ?_⟩
    refine for_list (K := K) (a := lf) (xs := vs) (fun j σ H4 => ∃ G4 zs v6 v7, σ = [some (.ref p), some (.str tx), some (.int (a : Nat)), some (.int (k : Nat)), some (.ref l), some (.str gp), v6, v7] ∧ Wd G H G4 H4 ∧ Same G3 G4 ∧ H4 l = some (.lst zs) ∧ G4 l = none ∧
        Paired (RwsR G4) zs ((if lo.toNat ≤ k then [([], a)] else []) ++ (F.take j).flatMap fun x => (rowsR tx.cps.toList ips gap.cps.toList lo.toNat m (k + 1) x.2).map fun y => (x.1 :: y.1, y.2)))
      ⟨G3, ys, _, _, rfl, W2, Same.refl _, hl3, gl3, by rw [List.take_zero, List.flatMap_nil, List.append_nil]; exact Paired.monoP hY fun _ _ z => z.mono W3.gg⟩ (fun j σ H4 _ ⟨_, _, _, _, _, W4, s4, _⟩ => SqL.of (W4.gh _ _ (s4 _ _ hlf))) ?_ ?_
    · rintro j ov σ H4 hj ⟨G4, zs, v6, v7, rfl, W4, sg4, hl4, gl4, hZ⟩
      obtain ⟨x, hx, ot, od, rfl, hot0, hod0⟩ := Paired.at hV hj
      have hxe := hLm x (mem_at hx)
      have hot : SqT K H4 ot [.ref od, .int (x.2 : Nat)] := SqT.of (W4.gh _ _ (sg4 _ _ hot0))
      have eF : (F.take (j + 1)).flatMap (fun x => (rowsR tx.cps.toList ips gap.cps.toList lo.toNat m (k + 1) x.2).map fun y => ((x.1 :: y.1, y.2) : List Rw × Nat)) = (F.take j).flatMap (fun x => (rowsR tx.cps.toList ips gap.cps.toList lo.toNat m (k + 1) x.2).map fun y => ((x.1 :: y.1, y.2) : List Rw × Nat)) ++ (rowsR tx.cps.toList ips gap.cps.toList lo.toNat m (k + 1) x.2).map fun y => ((x.1 :: y.1, y.2) : List Rw × Nat) := by
        rw [take_snoc hx, List.flatMap_append]; simp
      rw [eF]
      have hzl : zs.length ≤ 1 + 9 * 91 := by
        rw [Paired.len hZ, List.length_append]
        have := flatMap_le (L := F.take j) (f := fun x : Rw × Nat => (rowsR tx.cps.toList ips gap.cps.toList lo.toNat m (k + 1) x.2).map fun y => ((x.1 :: y.1, y.2) : List Rw × Nat)) (m := 91) fun z _ => by rw [List.length_map]; exact hRl _
        rw [List.length_take] at this
        omega
      generalize (F.take j).flatMap (fun x => (rowsR tx.cps.toList ips gap.cps.toList lo.toNat m (k + 1) x.2).map fun y => ((x.1 :: y.1, y.2) : List Rw × Nat)) = B at hZ
      refine ⟨_, rfl, _, rfl, _, rfl, ot, _, _, _, rfl, rfl, hot, rfl, _, rfl, _, _, rfl, rfl, p, tx, x.2, k + 1, nm, ips, gap, lo, hi, G4, rfl, W4.gh, RP.mono hRg W4.gg, ok, sm, by omega, by omega, hxe, ht, fun v G5 H5 W5 hRA => ?_⟩
      rw [em2] at hRA
      have hRl2 := hRl x.2
      have hRm : ∀ y ∈ rowsR tx.cps.toList ips gap.cps.toList lo.toNat m (k + 1) x.2, y.1.length ≤ m := fun y hy => rowsR_many hy
      generalize rowsR tx.cps.toList ips gap.cps.toList lo.toNat m (k + 1) x.2 = R at hRA hRl2 hRm
      obtain ⟨lr, rs, rfl, hlr, hRr⟩ := hRA
      have hrl := Paired.len hRr
      refine ⟨lr, rfl, ⟨_, SqL.of (W5.gh _ _ hlr)⟩, ?_⟩
      have hl5 := W5.hh _ _ hl4
      have gl5 := W5.nw _ _ hl4 gl4
      refine for_list (K := K) (a := lr) (xs := rs) (fun m2 σ H6 => ∃ G6 ws v7, σ = [some (.ref p), some (.str tx), some (.int (a : Nat)), some (.int (k : Nat)), some (.ref l), some (.str gp), some (.ref ot), v7] ∧ Wd G H G6 H6 ∧ Same G5 G6 ∧ H6 l = some (.lst ws) ∧ G6 l = none ∧ ws.length = zs.length + m2 ∧
          Paired (RwsR G6) ws ((if lo.toNat ≤ k then [([], a)] else []) ++ (B ++ (R.take m2).map fun y => (x.1 :: y.1, y.2))))
        ⟨G5, zs, _, rfl, W4.trans W5, Same.refl _, hl5, gl5, rfl, by rw [List.take_zero, List.map_nil, List.append_nil]; exact Paired.monoP hZ fun _ _ z => z.mono W5.gg⟩ (fun j σ H4 _ ⟨_, _, _, _, W6, s6, _⟩ => SqL.of (W6.gh _ _ (s6 _ _ hlr))) ?_ ?_
      · rintro m2 mv σ H6 hm2 ⟨G6, ws, v7, rfl, W6, sg6, hl6, gl6, hwl, hWs⟩
        obtain ⟨y, hy, mt, ml, as, rfl, hmt0, hml0, has0⟩ := Paired.at hRr hm2
        have hy2 := at_lt hy
        have sG := sg4.trans (W5.gg.trans sg6)
        have hot6 : SqT K H6 ot [.ref od, .int (x.2 : Nat)] := SqT.of (W6.gh _ _ (sG _ _ hot0))
        have hmt6 : H6 mt = some (.tup [.ref ml, .int (y.2 : Nat)]) := W6.gh _ _ (sg6 _ _ hmt0)
        have hml6 : H6 ml = some (.lst as) := W6.gh _ _ (sg6 _ _ hml0)
        refine ⟨_, rfl, .inl ⟨rfl, _, SqL.of hl6⟩, _, rfl, ot, _, _, _, rfl, rfl, hot6, rfl, (by show 1 ≤ sizeLine; decide), fun e ne => ?_⟩
        refine ⟨_, rfl, mt, _, _, _, rfl, rfl, SqT.of ((Keep.new ne) _ _ hmt6), rfl, e, ml, _, _, rfl, rfl, upd_same, (Keep.new ne) _ _ hml6, ?_, fun cl ncl => ?_⟩
        · have h1 := hRm y (mem_at hy)
          have h2 := Paired.len has0
          exact Nat.le_of_lt (lt_line (by rw [List.length_singleton]; omega))
        have W7 := (W6.new (o := .lst [.ref od]) ne).new (o := .lst ([.ref od] ++ as)) ncl
        have c7 : (upd (upd G6 e (.lst [.ref od])) cl (.lst ([.ref od] ++ as))) cl = some (.lst ([.ref od] ++ as)) := upd_same
        have s7 : Same G6 (upd (upd G6 e (.lst [.ref od])) cl (.lst ([.ref od] ++ as))) := (Same.new (Same.free W6.gh ne)).trans (Same.new (Same.free (W6.new (o := .lst [.ref od]) ne).gh ncl))
        have k7 : Keep H6 (upd (upd H6 e (.lst [.ref od])) cl (.lst ([.ref od] ++ as))) := (Keep.new ne).trans (Keep.new ncl)
        have gl7 : (upd (upd G6 e (.lst [.ref od])) cl (.lst ([.ref od] ++ as))) l = none := (upd_ne (ne_of_none ((upd_ne (ne_of_none hl6 ne)).trans hl6) ncl)).trans ((upd_ne (ne_of_none hl6 ne)).trans gl6)
        generalize upd (upd G6 e (.lst [.ref od])) cl (.lst ([.ref od] ++ as)) = G7 at W7 c7 s7 gl7
        generalize upd (upd H6 e (.lst [.ref od])) cl (.lst ([.ref od] ++ as)) = H7 at W7 k7 ⊢
        refine ⟨_, rfl, mt, _, _, _, rfl, rfl, SqT.of (k7 _ _ hmt6), rfl, (by show 2 ≤ sizeLine; decide), fun u nu => ?_⟩
        have W8 := W7.new (o := .tup [.ref cl, .int (y.2 : Nat)]) nu
        have s8 : Same G7 (upd G7 u (.tup [.ref cl, .int (y.2 : Nat)])) := Same.new (Same.free W7.gh nu)
        have c8 : (upd G7 u (.tup [.ref cl, .int (y.2 : Nat)])) u = some (.tup [.ref cl, .int (y.2 : Nat)]) := upd_same
        have hl7 := k7 _ _ hl6
        have lu : l ≠ u := ne_of_none hl7 nu
        refine ⟨l, ws, _, rfl, rfl, (upd_ne lu).trans hl7, lt_line (by omega), ?_⟩
        have s9 := s7.trans s8
        refine ⟨_, _, _, rfl, W8.mut nl ((upd_ne lu).trans gl7), sg6.trans s9, upd_same, (upd_ne lu).trans gl7, by rw [List.length_append, hwl]; rfl, ?_⟩
        rw [take_snoc hy, List.map_append, ← List.append_assoc, ← List.append_assoc, List.append_assoc]
        rw [← List.append_assoc]
        rw [← List.append_assoc] at hWs
        exact Paired.snoc (Paired.monoP hWs fun _ _ z => z.mono s9) ⟨u, cl, _, rfl, c8, s8 _ _ c7, .cons ⟨od, rfl, s9 _ _ (sg6 _ _ (W5.gg _ _ (sg4 _ _ hod0)))⟩ (Paired.monoP has0 fun _ _ z => z.mono (sg6.trans s9))⟩
      · rintro σ H6 ⟨G6, ws, v7, rfl, W6, sg6, hl6, gl6, hwl, hWs⟩
        rw [hrl, List.take_length] at hWs
        exact ⟨_, _, _, _, rfl, W6, sg4.trans (W5.gg.trans sg6), hl6, gl6, hWs⟩
    · rintro σ H4 ⟨G4, zs, v6, v7, rfl, W4, sg4, hl4, gl4, hZ⟩
      rw [hvl, List.take_length] at hZ
      exact ⟨_, rfl, q _ _ _ (W4.tell hl4 nl gl4) ⟨l, zs, rfl, upd_same, Paired.monoP hZ fun _ _ z => z.mono (Same.new gl4)⟩⟩

theorem dn__law_rows_readings_2 (D : Df K mg "_law_rows_readings" s__law_rows_readings ["piece", "text", "at", "count"]) (B : Bl mg) (d__law_line_readings : Dn P w K mg base CX0 2 "_law_line_readings" (sp__law_line_readings K))  (d__law_rows_readings : Dn P w K mg base CX0 4 "_law_rows_readings" (sp__law_rows_readings K 1))  : Dn P w K mg base CX0 5 "_law_rows_readings" (sp__law_rows_readings K 2) := by
  refine .of D fun f fd F => F.ok sc__law_rows_readings (fun vs H Q E h => ?_) (fun cdv A outer s H vs Q E hr h => ?_)
  · (obtain ⟨_, _, _, _, _, _, _, _, _, _, rfl, _⟩ := h; rfl)
  · have hu := hu_of hr
    have hu64 : _ := hr.units
    refine ⟨_, (pss_cons (ps_set (i := 4) sc__law_rows_readings.nd rfl (Or.inl rfl) (pe_lst pa_nil))
      (C8.pss_cut (ps_if (pt_cmpR op_ge (pv 3) (pe_ix (ixT (K := K) rfl) (pv 0) pe_int (fun _ _ => rfl)) (nomark _)) (pss_one (ps_expr (pe_bm PySem.F.plainAttrs_list PySem.F.slot_list_append PySem.F.type_list_append mt_append (pv 4) (pa_cons (pe_tup (pa_cons (pe_lst pa_nil) (pa_cons (pv 2) pa_nil))) pa_nil)))) pss_nil)
      (pss_cons (ps_set (i := 5) sc__law_rows_readings.nd rfl (Or.inl rfl) (pe_op op_repK (pe_ix (ixT (K := K) rfl) (pv 0) pe_int (fun _ _ => rfl)) (pe_callTy call_int1 rfl B.int (by decide +kernel) (pa_cons (pe_cmpR op_gt (pv 3) pe_int (nomark _)) pa_nil))))
      (pss_cons (ps_if (PW.pt (pw_and (pt_cmpR op_lt (pv 3) (pe_ix (ixT (K := K) rfl) (pv 0) pe_int (fun _ _ => rfl)) (nomark _)) (pw_and1 (pt_cmpR op_eq (pe_slice sl_str (pv 1) (po_some (pv 2)) (po_some (pe_op op_add (pv 2) (pe_callB call_len_str rfl B.len PySem.boot_len (pa_cons (pv 5) pa_nil))))) (pv 5) (nomark _))))) (pss_one (ps_for PassesOwn.never rfl (pi_list (cD d__law_line_readings hr (by decide) rfl (pa_cons (pe_ix (ixT (K := K) rfl) (pv 0) pe_int (fun _ _ => rfl)) (pa_cons (pv 1) (pa_cons (pe_op op_add (pv 2) (pe_callB call_len_str rfl B.len PySem.boot_len (pa_cons (pv 5) pa_nil))) pa_nil))))) (pg_name (i := 6) sc__law_rows_readings.nd rfl (Or.inl rfl))
      (pss_one (ps_for PassesOwn.never rfl (pi_list (cD d__law_rows_readings hr (by decide) rfl (pa_cons (pv 0) (pa_cons (pv 1) (pa_cons (pe_ix (ixT (K := K) rfl) (pv 6) pe_int (fun _ _ => rfl)) (pa_cons (pe_op op_add (pv 3) pe_int) pa_nil)))))) (pg_name (i := 7) sc__law_rows_readings.nd rfl (Or.inl rfl))
      (pss_one (ps_expr (pe_bm PySem.F.plainAttrs_list PySem.F.slot_list_append PySem.F.type_list_append mt_append (pv 4) (pa_cons (pe_tup (pa_cons (pe_op op_cat (pe_lst (pa_cons (pe_ix (ixT (K := K) rfl) (pv 6) pe_int (fun _ _ => rfl)) pa_nil)) (pe_ix (ixT (K := K) rfl) (pv 7) pe_int (fun _ _ => rfl))) (pa_cons (pe_ix (ixT (K := K) rfl) (pv 7) pe_int (fun _ _ => rfl)) pa_nil))) pa_nil)))))))) pss_nil)
      (pss_one (ps_ret (pv 4))))))), ?_⟩
    obtain ⟨p, tx, a, k, nm, ips, gap, lo, hi, G, rfl, gh, hRg, ok, sm, hk, hn, ha, ht, q⟩ := h
    obtain ⟨n0, i1, i3, iok, ind, gl5, _, l0, lh, h3⟩ := id ok
    obtain ⟨s1, s2, _, s4⟩ := id sm
    obtain ⟨ap, li, its, ep, hTG, hLiG, hPiG⟩ := id hRg
    cases ep
    have hT0 := gh.tup hTG
    have hcl : tx.cps.toList.length = tx.length := Array.length_toList
    refine ⟨(by show 0 ≤ sizeLine; exact Nat.zero_le _), fun l nl => ?_⟩
    have W1 := (Wd.refl gh).keep (Keep.new (o := .lst []) nl)
    have gnl : G l = none := Same.free gh nl
    have hl1 : (upd H l (.lst [])) l = some (.lst []) := upd_same
    generalize upd H l (.lst []) = H1 at W1 hl1 ⊢
    refine ⟨fun σ H' => ∃ G' ys v5 v6 v7, σ = [some (.ref p), some (.str tx), some (.int (a : Nat)), some (.int (k : Nat)), some (.ref l), v5, v6, v7] ∧ Wd G H G' H' ∧ H' l = some (.lst ys) ∧ G' l = none ∧ Paired (RwsR G') ys (if lo.toNat ≤ k then [([], a)] else []), ?_, ?_⟩
    · have hT := W1.hh.same.tup hT0
      refine ⟨_, rfl, _, rfl, p, _, _, _, rfl, rfl, hT, rfl, _, _, rfl, rfl, _, rfl, iteDec (fun hc => ?_) (fun hc => ?_)⟩
      · rw [if_pos (show lo.toNat ≤ k by omega)]
        refine ⟨_, rfl, .inl ⟨rfl, _, SqL.of hl1⟩, (by show 0 ≤ sizeLine; exact Nat.zero_le _), fun e ne => ⟨_, rfl, (by show 2 ≤ sizeLine; decide), fun t nt => ?_⟩⟩
        have W2 := (W1.new (o := .lst []) ne).new (o := .tup [.ref e, .int (a : Nat)]) nt
        have g1 : (upd (upd G e (.lst [])) t (.tup [.ref e, .int (a : Nat)])) t = some (.tup [.ref e, .int (a : Nat)]) := upd_same
        have et : e ≠ t := ne_of_none upd_same nt
        have g2 : (upd (upd G e (.lst [])) t (.tup [.ref e, .int (a : Nat)])) e = some (.lst []) := (upd_ne et).trans upd_same
        have le : l ≠ e := ne_of_none hl1 ne
        have lt : l ≠ t := ne_of_none ((upd_ne le).trans hl1) nt
        have hl2 : (upd (upd H1 e (.lst [])) t (.tup [.ref e, .int (a : Nat)])) l = some (.lst []) := (upd_ne lt).trans ((upd_ne le).trans hl1)
        have gl2 : (upd (upd G e (.lst [])) t (.tup [.ref e, .int (a : Nat)])) l = none := (upd_ne lt).trans ((upd_ne le).trans gnl)
        refine ⟨l, [], _, rfl, rfl, hl2, small1000 (Nat.zero_le _), ?_⟩
        exact ⟨_, _, _, _, _, rfl, W2.mut nl gl2, upd_same, gl2, .cons ⟨t, e, [], rfl, g1, g2, .nil⟩ .nil⟩
      · rw [if_neg (show ¬ lo.toNat ≤ k by omega)]
        exact ⟨_, _, _, _, _, rfl, W1, hl1, gnl, .nil⟩
    rintro σ H' ⟨G', ys, v5, v6, v7, rfl, W, hl, gl, hY⟩
    clear W1 hl1
    have hT := W.hh.same.tup hT0
    have hbl : (if lo.toNat ≤ k then [(([] : List Rw), a)] else []).length ≤ 1 := by split <;> simp
    refine ⟨_, rfl, p, _, _, _, rfl, rfl, hT, rfl, _, rfl, _, _, rfl, rfl, .inr ⟨_, rfl, gap, _, rfl, rfl, mul01 (by split <;> decide) (by split <;> decide) (by omega), ?_⟩⟩
    rw [gap_mul]
    have hge : (if k = 0 then Str.empty else gap).cps.toList = if k = 0 then [] else gap.cps.toList := by split <;> rfl
    have hgl : (if k = 0 then Str.empty else gap).length ≤ 5 := by
      split
      · exact Nat.zero_le _
      · exact gl5
    generalize (if k = 0 then Str.empty else gap) = gp at hge hgl
    refine ⟨_, rfl, _, rfl, p, _, _, _, rfl, rfl, hT, rfl, _, _, rfl, rfl, _, rfl, iteDec (fun hc => ?_) (fun hc => iteF ⟨_, rfl, q _ _ _ (W.tell hl nl gl) ⟨l, ys, rfl, upd_same, ?_⟩⟩)⟩
    case refine_2 =>
      have e0 : hi.toNat - k = 0 := by omega
      rw [if_pos (show lo.toNat ≤ k by omega)] at hY
      rw [e0, rowsR]
      exact Paired.monoP hY fun _ _ z => z.mono (Same.new gl)
    obtain ⟨m, em⟩ : ∃ m, hi.toNat - k = m + 1 := ⟨hi.toNat - k - 1, by omega⟩
    have em2 : hi.toNat - (k + 1) = m := by omega
    rw [em] at q
    unfold rowsR at q
    rw [← hge] at q
    have hcut := cutS_at tx ha (show a ≤ a + gp.length by omega)
    have gll : gp.cps.toList.length = gp.length := Array.length_toList
    have esay : sayE tx.cps.toList gp.cps.toList a = if cut tx.cps.toList a (a + gp.length) = gp.cps.toList then [a + gp.length] else [] := by
      unfold sayE cut
      rw [gll, show a + gp.length - a = gp.length by omega]
    refine ⟨_, rfl, _, rfl, _, rfl, _, rfl, _, rfl, gp, rfl, small_line (by omega), _, _, rfl, rfl, _, rfl, tx, rfl, small_line (by omega), _, rfl, rfl, _, rfl, ?_⟩
    by_cases hcc : cut tx.cps.toList a (a + gp.length) = gp.cps.toList
    case neg =>
      rw [esay, if_neg hcc, List.flatMap_nil, List.append_nil] at q
      refine iteDF (fun z => hcc ?_) ⟨_, rfl, q _ _ _ (W.tell hl nl gl) ⟨l, ys, rfl, upd_same, Paired.monoP hY fun _ _ z => z.mono (Same.new gl)⟩⟩
      injection z with z
      exact hcut.symm.trans (congrArg (fun s : Str => s.cps.toList) z)
    have hen : a + gp.length ≤ tx.length := by
      have := congrArg List.length hcc
      unfold cut at this
      rw [List.length_take, List.length_drop, gll, hcl] at this
      omega
    rw [esay, if_pos hcc, List.flatMap_singleton] at q
    have ec : cutS tx (some ((a : Nat) : Int)) (some (((a : Nat) : Int) + ((gp.length : Nat) : Int))) = gp := str_ext (by rw [← hcc]; exact hcut)
    refine iteDT (by rw [ec]) ?_
    refine ⟨_, rfl, p, _, _, _, rfl, rfl, hT, rfl, _, rfl, _, rfl, _, rfl, gp, rfl, small_line (by omega), _, _, rfl, rfl, li, its, tx, a + gp.length, ips, G', rfl, W.gh, W.gg.seq hLiG, Paired.monoP hPiG fun _ _ z => z.mono W.gg, fun p hp => ⟨iok p hp, s4 p hp⟩, ind, s1, hen, ht, fun v G3 H3 W3 hLA => ?_⟩
    obtain ⟨lf, vs, rfl, hlf, hV⟩ := hLA
    have hLm : ∀ x ∈ lineR tx.cps.toList ips (a + gp.length), x.2 ≤ tx.length := fun x hx => by rw [← hcl]; exact line_end iok (by omega) hx
    have hline9 : ∀ a, (lineR tx.cps.toList ips a).length ≤ 9 := fun a => Nat.le_trans (lineR_len (m := 2) s4 a) (Nat.le_trans (Nat.pow_le_pow_right (by decide) s1) (by decide))
    have hLl := hline9 (a + gp.length)
    have hRl : ∀ b, (rowsR tx.cps.toList ips gap.cps.toList lo.toNat m (k + 1) b).length ≤ 91 := fun b => Nat.le_trans (rowsR_len hline9 m (k + 1) b) (by
      have : m ≤ 1 := by omega
      match m, this with
      | 0, _ => decide
      | 1, _ => decide)
    generalize lineR tx.cps.toList ips (a + gp.length) = F at q hV hLm hLl
    have hvl := Paired.len hV
    have hl3 := W3.hh _ _ hl
    have gl3 := W3.nw _ _ hl gl
    have W2 := W.trans W3
    clear hT hl
    refine ⟨lf, rfl, ⟨_, SqL.of (W3.gh _ _ hlf)⟩, ?_⟩
    refine for_list (K := K) (a := lf) (xs := vs) (fun j σ H4 => ∃ G4 zs v6 v7, σ = [some (.ref p), some (.str tx), some (.int (a : Nat)), some (.int (k : Nat)), some (.ref l), some (.str gp), v6, v7] ∧ Wd G H G4 H4 ∧ Same G3 G4 ∧ H4 l = some (.lst zs) ∧ G4 l = none ∧
        Paired (RwsR G4) zs ((if lo.toNat ≤ k then [([], a)] else []) ++ (F.take j).flatMap fun x => (rowsR tx.cps.toList ips gap.cps.toList lo.toNat m (k + 1) x.2).map fun y => (x.1 :: y.1, y.2)))
      ⟨G3, ys, _, _, rfl, W2, Same.refl _, hl3, gl3, by rw [List.take_zero, List.flatMap_nil, List.append_nil]; exact Paired.monoP hY fun _ _ z => z.mono W3.gg⟩ (fun j σ H4 _ ⟨_, _, _, _, _, W4, s4, _⟩ => SqL.of (W4.gh _ _ (s4 _ _ hlf))) ?_ ?_
    · rintro j ov σ H4 hj ⟨G4, zs, v6, v7, rfl, W4, sg4, hl4, gl4, hZ⟩
      obtain ⟨x, hx, ot, od, rfl, hot0, hod0⟩ := Paired.at hV hj
      have hxe := hLm x (mem_at hx)
      have hot : SqT K H4 ot [.ref od, .int (x.2 : Nat)] := SqT.of (W4.gh _ _ (sg4 _ _ hot0))
      have eF : (F.take (j + 1)).flatMap (fun x => (rowsR tx.cps.toList ips gap.cps.toList lo.toNat m (k + 1) x.2).map fun y => ((x.1 :: y.1, y.2) : List Rw × Nat)) = (F.take j).flatMap (fun x => (rowsR tx.cps.toList ips gap.cps.toList lo.toNat m (k + 1) x.2).map fun y => ((x.1 :: y.1, y.2) : List Rw × Nat)) ++ (rowsR tx.cps.toList ips gap.cps.toList lo.toNat m (k + 1) x.2).map fun y => ((x.1 :: y.1, y.2) : List Rw × Nat) := by
        rw [take_snoc hx, List.flatMap_append]; simp
      rw [eF]
      have hzl : zs.length ≤ 1 + 9 * 91 := by
        rw [Paired.len hZ, List.length_append]
        have := flatMap_le (L := F.take j) (f := fun x : Rw × Nat => (rowsR tx.cps.toList ips gap.cps.toList lo.toNat m (k + 1) x.2).map fun y => ((x.1 :: y.1, y.2) : List Rw × Nat)) (m := 91) fun z _ => by rw [List.length_map]; exact hRl _
        rw [List.length_take] at this
        omega
      generalize (F.take j).flatMap (fun x => (rowsR tx.cps.toList ips gap.cps.toList lo.toNat m (k + 1) x.2).map fun y => ((x.1 :: y.1, y.2) : List Rw × Nat)) = B at hZ
      refine ⟨_, rfl, _, rfl, _, rfl, ot, _, _, _, rfl, rfl, hot, rfl, _, rfl, _, _, rfl, rfl, p, tx, x.2, k + 1, nm, ips, gap, lo, hi, G4, rfl, W4.gh, RP.mono hRg W4.gg, ok, sm, by omega, by omega, hxe, ht, fun v G5 H5 W5 hRA => ?_⟩
      rw [em2] at hRA
      have hRl2 := hRl x.2
      have hRm : ∀ y ∈ rowsR tx.cps.toList ips gap.cps.toList lo.toNat m (k + 1) x.2, y.1.length ≤ m := fun y hy => rowsR_many hy
      generalize rowsR tx.cps.toList ips gap.cps.toList lo.toNat m (k + 1) x.2 = R at hRA hRl2 hRm
      obtain ⟨lr, rs, rfl, hlr, hRr⟩ := hRA
      have hrl := Paired.len hRr
      refine ⟨lr, rfl, ⟨_, SqL.of (W5.gh _ _ hlr)⟩, ?_⟩
      have hl5 := W5.hh _ _ hl4
      have gl5 := W5.nw _ _ hl4 gl4
      refine for_list (K := K) (a := lr) (xs := rs) (fun m2 σ H6 => ∃ G6 ws v7, σ = [some (.ref p), some (.str tx), some (.int (a : Nat)), some (.int (k : Nat)), some (.ref l), some (.str gp), some (.ref ot), v7] ∧ Wd G H G6 H6 ∧ Same G5 G6 ∧ H6 l = some (.lst ws) ∧ G6 l = none ∧ ws.length = zs.length + m2 ∧
          Paired (RwsR G6) ws ((if lo.toNat ≤ k then [([], a)] else []) ++ (B ++ (R.take m2).map fun y => (x.1 :: y.1, y.2))))
        ⟨G5, zs, _, rfl, W4.trans W5, Same.refl _, hl5, gl5, rfl, by rw [List.take_zero, List.map_nil, List.append_nil]; exact Paired.monoP hZ fun _ _ z => z.mono W5.gg⟩ (fun j σ H4 _ ⟨_, _, _, _, W6, s6, _⟩ => SqL.of (W6.gh _ _ (s6 _ _ hlr))) ?_ ?_
      · rintro m2 mv σ H6 hm2 ⟨G6, ws, v7, rfl, W6, sg6, hl6, gl6, hwl, hWs⟩
        obtain ⟨y, hy, mt, ml, as, rfl, hmt0, hml0, has0⟩ := Paired.at hRr hm2
        have hy2 := at_lt hy
        have sG := sg4.trans (W5.gg.trans sg6)
        have hot6 : SqT K H6 ot [.ref od, .int (x.2 : Nat)] := SqT.of (W6.gh _ _ (sG _ _ hot0))
        have hmt6 : H6 mt = some (.tup [.ref ml, .int (y.2 : Nat)]) := W6.gh _ _ (sg6 _ _ hmt0)
        have hml6 : H6 ml = some (.lst as) := W6.gh _ _ (sg6 _ _ hml0)
        refine ⟨_, rfl, .inl ⟨rfl, _, SqL.of hl6⟩, _, rfl, ot, _, _, _, rfl, rfl, hot6, rfl, (by show 1 ≤ sizeLine; decide), fun e ne => ?_⟩
        refine ⟨_, rfl, mt, _, _, _, rfl, rfl, SqT.of ((Keep.new ne) _ _ hmt6), rfl, e, ml, _, _, rfl, rfl, upd_same, (Keep.new ne) _ _ hml6, ?_, fun cl ncl => ?_⟩
        · have h1 := hRm y (mem_at hy)
          have h2 := Paired.len has0
          exact Nat.le_of_lt (lt_line (by rw [List.length_singleton]; omega))
        have W7 := (W6.new (o := .lst [.ref od]) ne).new (o := .lst ([.ref od] ++ as)) ncl
        have c7 : (upd (upd G6 e (.lst [.ref od])) cl (.lst ([.ref od] ++ as))) cl = some (.lst ([.ref od] ++ as)) := upd_same
        have s7 : Same G6 (upd (upd G6 e (.lst [.ref od])) cl (.lst ([.ref od] ++ as))) := (Same.new (Same.free W6.gh ne)).trans (Same.new (Same.free (W6.new (o := .lst [.ref od]) ne).gh ncl))
        have k7 : Keep H6 (upd (upd H6 e (.lst [.ref od])) cl (.lst ([.ref od] ++ as))) := (Keep.new ne).trans (Keep.new ncl)
        have gl7 : (upd (upd G6 e (.lst [.ref od])) cl (.lst ([.ref od] ++ as))) l = none := (upd_ne (ne_of_none ((upd_ne (ne_of_none hl6 ne)).trans hl6) ncl)).trans ((upd_ne (ne_of_none hl6 ne)).trans gl6)
        generalize upd (upd G6 e (.lst [.ref od])) cl (.lst ([.ref od] ++ as)) = G7 at W7 c7 s7 gl7
        generalize upd (upd H6 e (.lst [.ref od])) cl (.lst ([.ref od] ++ as)) = H7 at W7 k7 ⊢
        refine ⟨_, rfl, mt, _, _, _, rfl, rfl, SqT.of (k7 _ _ hmt6), rfl, (by show 2 ≤ sizeLine; decide), fun u nu => ?_⟩
        have W8 := W7.new (o := .tup [.ref cl, .int (y.2 : Nat)]) nu
        have s8 : Same G7 (upd G7 u (.tup [.ref cl, .int (y.2 : Nat)])) := Same.new (Same.free W7.gh nu)
        have c8 : (upd G7 u (.tup [.ref cl, .int (y.2 : Nat)])) u = some (.tup [.ref cl, .int (y.2 : Nat)]) := upd_same
        have hl7 := k7 _ _ hl6
        have lu : l ≠ u := ne_of_none hl7 nu
        refine ⟨l, ws, _, rfl, rfl, (upd_ne lu).trans hl7, lt_line (by omega), ?_⟩
        have s9 := s7.trans s8
        refine ⟨_, _, _, rfl, W8.mut nl ((upd_ne lu).trans gl7), sg6.trans s9, upd_same, (upd_ne lu).trans gl7, by rw [List.length_append, hwl]; rfl, ?_⟩
        rw [take_snoc hy, List.map_append, ← List.append_assoc, ← List.append_assoc, List.append_assoc]
        rw [← List.append_assoc]
        rw [← List.append_assoc] at hWs
        exact Paired.snoc (Paired.monoP hWs fun _ _ z => z.mono s9) ⟨u, cl, _, rfl, c8, s8 _ _ c7, .cons ⟨od, rfl, s9 _ _ (sg6 _ _ (W5.gg _ _ (sg4 _ _ hod0)))⟩ (Paired.monoP has0 fun _ _ z => z.mono (sg6.trans s9))⟩
      · rintro σ H6 ⟨G6, ws, v7, rfl, W6, sg6, hl6, gl6, hwl, hWs⟩
        rw [hrl, List.take_length] at hWs
        exact ⟨_, _, _, _, rfl, W6, sg4.trans (W5.gg.trans sg6), hl6, gl6, hWs⟩
    · rintro σ H4 ⟨G4, zs, v6, v7, rfl, W4, sg4, hl4, gl4, hZ⟩
      rw [hvl, List.take_length] at hZ
      exact ⟨_, rfl, q _ _ _ (W4.tell hl4 nl gl4) ⟨l, zs, rfl, upd_same, Paired.monoP hZ fun _ _ z => z.mono (Same.new gl4)⟩⟩

abbrev s__law_readings : Stmt := top 40
abbrev n__law_readings : List Str := ["pieces", "text", "found", "piece", "longer", "one", "ends", "end", "values"]
theorem sc__law_readings : FnScope n__law_readings ["pieces", "text"] (defScope s__law_readings) := ⟨rfl, rfl, rfl, by decide +kernel, rfl, by decide +kernel, by decide +kernel⟩

theorem dn__law_readings (D : Df K mg "_law_readings" s__law_readings ["pieces", "text"]) (B : Bl mg) (d__law_rows_readings : Dn P w K mg base CX0 5 "_law_rows_readings" (sp__law_rows_readings K 2))  (d__law_line_readings : Dn P w K mg base CX0 2 "_law_line_readings" (sp__law_line_readings K))  : Dn P w K mg base CX0 6 "_law_readings" (sp__law_readings K) := by
  refine .of D fun f fd F => F.ok sc__law_readings (fun vs H Q E h => ?_) (fun cdv A outer s H vs Q E hr h => ?_)
  · (obtain ⟨_, _, _, _, _, rfl, _⟩ := h; rfl)
  · have hu := hu_of hr
    have hu64 : _ := hr.units
    refine ⟨_, (pss_cons (ps_set (i := 2) sc__law_readings.nd rfl (Or.inl rfl) (pe_lst (pa_cons (pe_tup (pa_cons pe_dnewK (pa_cons pe_int pa_nil))) pa_nil)))
      (pss_cons (ps_for PassesOwn.never rfl (pi_list (pv 0)) (pg_name (i := 3) sc__law_readings.nd rfl (Or.inr rfl))
      (pss_cons (ps_set (i := 4) sc__law_readings.nd rfl (Or.inl rfl) (pe_lst pa_nil))
      (pss_cons (ps_for PassesOwn.never rfl (pi_list (pv 2)) (pg_name (i := 5) sc__law_readings.nd rfl (Or.inl rfl))
      (C8.pss_cut (ps_if (pt_cmpR op_eq (pe_ix (ixT (K := K) rfl) (pv 3) pe_int (fun _ _ => rfl)) pe_str (nomark _)) (pss_one (ps_set (i := 6) sc__law_readings.nd rfl (Or.inl rfl) (cD d__law_rows_readings hr (by decide) rfl (pa_cons (pv 3) (pa_cons (pv 1) (pa_cons (pe_ix (ixT (K := K) rfl) (pv 5) pe_int (fun _ _ => rfl)) (pa_cons pe_int pa_nil))))))) (pss_cons (ps_set (i := 6) sc__law_readings.nd rfl (Or.inl rfl) (cD d__law_line_readings hr (by decide) rfl (pa_cons (pe_lst (pa_cons (pv 3) pa_nil)) (pa_cons (pv 1) (pa_cons (pe_ix (ixT (K := K) rfl) (pv 5) pe_int (fun _ _ => rfl)) pa_nil)))))
      (pss_one (ps_setLc (i := 6) (own := [("end", 7)]) (g := gName 7) rfl sc__law_readings.nd rfl rfl (sw_true rfl rfl rfl (by decide +kernel)) (pi_list (pv 6)) (blkOk_by (N := n__law_readings) (sc := defScope s__law_readings) (by decide +kernel)) (fun _ _ _ _ _ => pg_name (i := 7) sc__law_readings.nd rfl (Or.inl rfl)) (fun _ _ _ _ _ => pts_nil) (fun _ _ _ _ _ => (pe_tup (pa_cons (pe_dget1 hu (pe_ix (ixT (K := K) rfl) (pv 7) pe_int (fun _ _ => rfl)) (pe_ix (ixT (K := K) rfl) (pv 3) pe_int (fun _ _ => rfl)) ⟨by rfl, by rfl, by rfl, by rfl⟩) (pa_cons (pe_ix (ixT (K := K) rfl) (pv 7) pe_int (fun _ _ => rfl)) pa_nil))))))))
      (pss_one (ps_for PassesOwn.never rfl (pi_list (pv 6)) (pg_name (i := 7) sc__law_readings.nd rfl (Or.inl rfl))
      (pss_cons (ps_set (i := 8) sc__law_readings.nd rfl (Or.inl rfl) (pe_callTy call_dictD rfl B.dict (by decide +kernel) (pa_cons (pe_ix (ixT (K := K) rfl) (pv 5) pe_int (fun _ _ => rfl)) pa_nil)))
      (pss_cons (ps_if (pt_cmpR op_ne (pe_ix (ixT (K := K) rfl) (pv 3) pe_int (fun _ _ => rfl)) pe_str (nomark _)) (pss_one (ps_dput hu (pv 8) (pe_ix (ixT (K := K) rfl) (pv 3) pe_int (fun _ _ => rfl)) (pe_ix (ixT (K := K) rfl) (pv 7) pe_int (fun _ _ => rfl)) rfl)) pss_nil)
      (pss_one (ps_expr (pe_bm PySem.F.plainAttrs_list PySem.F.slot_list_append PySem.F.type_list_append mt_append (pv 4) (pa_cons (pe_tup (pa_cons (pv 8) (pa_cons (pe_ix (ixT (K := K) rfl) (pv 7) pe_int (fun _ _ => rfl)) pa_nil))) pa_nil))))))))))
      (pss_one (ps_set (i := 2) sc__law_readings.nd rfl (Or.inl rfl) (pv 4))))))
      (pss_one (ps_ret (pe_lc (own := [("one", 5)]) (g := gName 5) rfl sc__law_readings.nd (pi_list (pv 2)) (blkOk_by (N := n__law_readings) (sc := defScope s__law_readings) (by decide +kernel)) (fun _ _ _ _ _ => pg_name (i := 5) sc__law_readings.nd rfl (Or.inl rfl)) (fun _ _ _ _ _ => pts_one (pt_cmpR op_eq (pe_ix (ixT (K := K) rfl) (pv 5) pe_int (fun _ _ => rfl)) (pe_callB call_len_str rfl B.len PySem.boot_len (pa_cons (pv 1) pa_nil)) (nomark _))) (fun _ _ _ _ _ => (pe_ix (ixT (K := K) rfl) (pv 5) pe_int (fun _ _ => rfl)))))))), ?_⟩
    obtain ⟨l, xs, tx, ps, G, rfl, gh, hLg, hPg, hok, hsm, hw, ht, q⟩ := h
    have hxp := Paired.len hPg
    have hcl : tx.cps.toList.length = tx.length := Array.length_toList
    have hFl : ∀ i, i ≤ ps.length → (formF tx.cps.toList (ps.take i)).length ≤ 7371 := fun i hi => Nat.le_trans (formF_len (fun p hp => ⟨hok.ok p hp, hsm p hp⟩) i hi) (Nat.le_trans (wgtF_take ps i) hw)
    have hFm : ∀ i, i ≤ ps.length → ∀ x ∈ formF tx.cps.toList (ps.take i), x.1.map (·.1) = nms (ps.take i) ∧ x.2 ≤ tx.length := fun i hi x hx => by
      refine ⟨?_, by rw [← hcl]; exact formF_end hok.ok i hi x hx⟩
      rw [formF_eq] at hx
      exact (formR_names (fun p hp => hok.ok p (List.mem_of_mem_take hp)) hx).1
    refine fun d nd => ⟨(by show 2 ≤ sizeLine; decide), fun t nt => ⟨(by show 1 ≤ sizeLine; decide), fun f nf => ?_⟩⟩
    have W1 := (((Wd.refl gh).new (o := .dK []) nd).new (o := .tup [.ref d, .int (0 : Nat)]) nt).new (o := .lst [.ref t]) nf
    have dt : d ≠ t := ne_of_none upd_same nt
    have tf : t ≠ f := ne_of_none upd_same nf
    have df : d ≠ f := ne_of_none ((upd_ne dt).trans upd_same) nf
    have g1 : (upd (upd (upd G d (.dK [])) t (.tup [.ref d, .int (0 : Nat)])) f (.lst [.ref t])) f = some (.lst [.ref t]) := upd_same
    have g2 : (upd (upd (upd G d (.dK [])) t (.tup [.ref d, .int (0 : Nat)])) f (.lst [.ref t])) t = some (.tup [.ref d, .int (0 : Nat)]) := (upd_ne tf).trans upd_same
    have g3 : (upd (upd (upd G d (.dK [])) t (.tup [.ref d, .int (0 : Nat)])) f (.lst [.ref t])) d = some (.dK []) := (upd_ne df).trans ((upd_ne dt).trans upd_same)
    have eH : upd (upd (upd H d (.dK [])) t (.tup [.ref d, .int 0])) f (.lst [.ref t]) = upd (upd (upd H d (.dK [])) t (.tup [.ref d, .int (0 : Nat)])) f (.lst [.ref t]) := rfl
    rw [eH]
    generalize upd (upd (upd G d (.dK [])) t (.tup [.ref d, .int (0 : Nat)])) f (.lst [.ref t]) = G1 at W1 g1 g2 g3 ⊢
    generalize upd (upd (upd H d (.dK [])) t (.tup [.ref d, .int (0 : Nat)])) f (.lst [.ref t]) = H1 at W1 ⊢
    refine ⟨_, rfl, l, rfl, ⟨xs, W1.gh.seq (W1.gg.seq hLg)⟩, for_list (K := K) (a := l) (xs := xs) (fun i σ H' => ∃ G' lf vs v3 v4 v5 v6 v7 v8, σ = [some (.ref l), some (.str tx), some (.ref lf), v3, v4, v5, v6, v7, v8] ∧ Wd G H G' H' ∧ G' lf = some (.lst vs) ∧ Paired (FrmR K G') vs (formF tx.cps.toList (ps.take i)))
      ⟨G1, f, _, none, none, none, none, none, none, rfl, W1, g1, .cons ⟨t, .ref d, rfl, g2, d, [], rfl, g3, .nil⟩ .nil⟩ (fun i σ H' _ ⟨_, _, _, _, _, _, _, _, _, _, W, _⟩ => W.gh.seq (W.gg.seq hLg)) ?_ ?_⟩
    clear W1 g1 g2 g3 nf nt nd dt tf df eH
    · rintro i pv σ H' hxi ⟨G', lf, vs, v3, v4, v5, v6, v7, v8, rfl, W, hlf, hV⟩
      obtain ⟨p, hp, hRg⟩ := Paired.at hPg hxi
      have hpi := at_lt hp
      have okp := hok.ok p (mem_at hp)
      have smp := hsm p (mem_at hp)
      have hl9 := hFl i (by omega)
      have hm := hFm i (by omega)
      rw [formF_snoc tx.cps.toList hp]
      have hnp : ∀ n, nmP p = some n → n ∉ nms (ps.take i) := fun n hn hm => by
        have e := take_snoc hp
        have s : (nms (ps.take (i + 1))).Nodup := hok.nd.sublist ((List.take_sublist _ _).filterMap nmP)
        rw [e, nms_app, List.nodup_append] at s
        exact s.2.2 n hm n (by show n ∈ List.filterMap nmP [p]; rw [List.filterMap_cons, hn]; exact List.mem_cons_self) rfl
      have hkl : ∀ x ∈ formF tx.cps.toList (ps.take i), x.1.length ≤ 6 := fun x hx => by
        have e : (x.1.map (·.1)).length = (nms (ps.take i)).length := by rw [(hm x hx).1]
        rw [List.length_map] at e
        have h3 := List.length_filterMap_le nmP (ps.take i)
        unfold nms at e
        rw [List.length_take] at h3
        have := hok.l6
        omega
      generalize formF tx.cps.toList (ps.take i) = F at hV hl9 hm hkl
      have hvl := Paired.len hV
      refine ⟨(by show 0 ≤ sizeLine; exact Nat.zero_le _), fun lg nlg => ?_⟩
      have hlg0 : H lg = none := Same.free W.hh.same nlg
      have glg : G' lg = none := Same.free W.gh nlg
      have W1 := W.keep (Keep.new (o := .lst []) nlg)
      have hlg1 : (upd H' lg (.lst [])) lg = some (.lst []) := upd_same
      generalize upd H' lg (.lst []) = H1 at W1 hlg1 ⊢
      refine ⟨_, rfl, lf, rfl, ⟨vs, SqL.of (W1.gh _ _ hlf)⟩, ?_⟩
      refine for_list (K := K) (a := lf) (xs := vs) (fun j σ H2 => ∃ G2 ys v5 v6 v7 v8, σ = [some (.ref l), some (.str tx), some (.ref lf), some pv, some (.ref lg), v5, v6, v7, v8] ∧ Wd G H G2 H2 ∧ Same G' G2 ∧ H2 lg = some (.lst ys) ∧ G2 lg = none ∧ Paired (FrmR K G2) ys (stepF tx.cps.toList p (F.take j)))
        ⟨G', [], _, _, _, _, rfl, W1, Same.refl _, hlg1, glg, .nil⟩ (fun j σ H2 _ ⟨_, _, _, _, _, _, _, W2, s2, _⟩ => SqL.of (W2.gh _ _ (s2 _ _ hlf))) ?_ ?_
      · rintro j ov σ H2 hj ⟨G2, ys, v5, v6, v7, v8, rfl, W2, s2, hlg, glg2, hY⟩
        obtain ⟨x, hx, ot, odv, rfl, hot0, od, okv, rfl, hod0, hkv0⟩ := Paired.at hV hj
        obtain ⟨xn, xe⟩ := hm x (mem_at hx)
        have hx6 := hkl x (mem_at hx)
        have hot : SqT K H2 ot [.ref od, .int (x.2 : Nat)] := SqT.of (W2.gh _ _ (s2 _ _ hot0))
        have hR2 : RP K G2 pv p := (RP.mono hRg W.gg).mono s2
        have hpl : ∀ z : List (Str × Vl) × Nat, (pieceR tx.cps.toList p z.2).length ≤ 91 := fun z => Nat.le_trans (pieceR_len smp okp _) (by cases p <;> simp [wgtP])
        have hyl : ys.length ≤ 7371 * 91 := by
          rw [Paired.len hY]
          unfold stepF
          refine Nat.le_trans (flatMap_le (m := 91) fun z _ => ?_) ?_
          · rw [List.length_map]; exact hpl z
          · rw [List.length_take]; omega
        have sS : stepF tx.cps.toList p (F.take (j + 1)) = stepF tx.cps.toList p (F.take j) ++ (pieceR tx.cps.toList p x.2).map fun y => (x.1 ++ y.1, y.2) := by
          unfold stepF
          rw [take_snoc hx, List.flatMap_append]
          simp
        rw [sS]
        have hpx := hpl x
        have hpne : ∀ e ∈ pieceR tx.cps.toList p x.2, True := fun _ _ => trivial
        refine ⟨fun σ H3 => ∃ G3 le es v7 v8, σ = [some (.ref l), some (.str tx), some (.ref lf), some pv, some (.ref lg), some (.ref ot), some (.ref le), v7, v8] ∧ Wd G2 H2 G3 H3 ∧ G3 le = some (.lst es) ∧ Paired (EndR K G3 p) es (pieceR tx.cps.toList p x.2), ?_, ?_⟩
        · cases p with
          | rows nm ips gap lo hi =>
            obtain ⟨ap, li, its, rfl, hTg, hLi, hPi⟩ := id hR2
            have hT := W2.gh.tup hTg
            refine ⟨_, rfl, ap, _, _, _, rfl, rfl, hT, rfl, rfl, _, rfl, iteEq ?_⟩
            refine ⟨_, rfl, _, rfl, _, rfl, ot, _, _, _, rfl, rfl, hot, rfl, ap, tx, x.2, 0, nm, ips, gap, lo, hi, G2, rfl, W2.gh, hR2, okp, smp, Nat.zero_le _, (by have := smp.2.1; omega), xe, ht, fun v G3 H3 W3 hRA => ?_⟩
            obtain ⟨le, es, rfl, hle, hE⟩ := hRA
            refine ⟨G3, le, es, _, _, rfl, W3, hle, ?_⟩
            refine Paired.of_at (by unfold pieceR; rw [List.length_map]; exact Paired.len hE) fun i2 v y h1 h2 => ?_
            unfold pieceR at h2
            rw [List.getElem?_map] at h2
            obtain ⟨z, hz, ez, erl, eas, rfl, e1, e2, e3⟩ := Paired.at hE h1
            rw [Nat.sub_zero] at hz
            rw [hz] at h2
            cases h2
            exact ⟨ez, .ref erl, rfl, e1, .rws z.1, rfl, erl, eas, rfl, SqL.of e2, e3⟩
          | p0 p =>
            obtain ⟨ap, rfl, hTg⟩ := id hR2
            have hT := W2.gh.tup hTg
            have hkd : ∃ u, atI p.vs 0 = some u ∧ scal u (V.str "rows") = true ∧ u ≠ V.str "rows" := by
              cases p with
              | say t => exact ⟨_, rfl, rfl, say_rows⟩
              | ask nm sg lo hi => exact ⟨_, rfl, rfl, ask_rows⟩
            obtain ⟨u, hu1, hu2, hu3⟩ := hkd
            refine ⟨_, rfl, ap, _, _, _, rfl, rfl, hT, hu1, hu2, _, rfl, iteNe hu3 ?_⟩
            refine ⟨_, rfl, (by show 1 ≤ sizeLine; decide), fun lq nlq => ?_⟩
            have W3 := (Wd.refl W2.gh).new (o := .lst [.ref ap]) nlq
            have hq3 : (upd G2 lq (.lst [.ref ap])) lq = some (.lst [.ref ap]) := upd_same
            have hT3 := W3.gg.tup hTg
            generalize upd G2 lq (.lst [.ref ap]) = G3 at W3 hq3 hT3
            generalize upd H2 lq (.lst [.ref ap]) = H3 at W3 ⊢
            refine ⟨_, rfl, _, rfl, ot, _, _, _, rfl, rfl, W3.hh.same.tup hot, rfl, lq, [.ref ap], tx, x.2, [p], G3, rfl, W3.gh, SqL.of hq3, .cons ⟨ap, rfl, hT3⟩ .nil, fun p' hp' => (by rw [List.mem_singleton] at hp'; subst hp'; exact ⟨okp, smp⟩), (by unfold nms0; rw [List.filterMap_cons]; cases nm0 p <;> simp), (by show 1 ≤ 2; decide), xe, ht, fun v G4 H4 W4 hLA => ?_⟩
            rw [lineR_one] at hLA
            obtain ⟨le, es, rfl, hle, hE⟩ := hLA
            have W5 := W3.trans W4
            have hel := Paired.len hE
            have hep : (pieceR0 tx.cps.toList p x.2).length ≤ 3 := pieceR0_len (m := 2) smp _
            refine ⟨_, rfl, le, rfl, ⟨es, SqL.of (W4.gh _ _ hle)⟩, fun D nD => ?_⟩
            have gD : G4 D = none := Same.free W4.gh nD
            have h2D : H2 D = none := Same.free W5.hh.same nD
            refine lc_list (K := K) (a := le) (xs := es) (fun m H5 => ∃ G5 zs, Wd G2 H2 G5 H5 ∧ Same G4 G5 ∧ H5 D = some (.lst zs) ∧ G5 D = none ∧ Paired (EndR K G5 (.p0 p)) zs (((pieceR0 tx.cps.toList p x.2).take m).map fun x => (x.1.map fun q => (q.1, Vl.tx q.2), x.2)))
              ⟨G4, [], W5.keep (Keep.new nD), Same.refl _, upd_same, gD, .nil⟩ (fun m H5 _ ⟨G5, _, W6, s6, _⟩ => SqL.of (W6.gh _ _ (s6 _ _ hle))) ?_ ?_
            · rintro m ev H5 hm2 ⟨G5, zs, W6, s6, hD, gD5, hZ⟩
              obtain ⟨y, hy, et, ed, rfl, het0, hed0⟩ := Paired.at hE hm2
              have hzl := Paired.len hZ
              rw [List.length_map, List.length_take] at hzl
              have het : SqT K H5 et [.ref ed, .int (y.2 : Nat)] := SqT.of (W6.gh _ _ (s6 _ _ het0))
              have hed : H5 ed = some (.dK (rowK y.1)) := W6.gh _ _ (s6 _ _ hed0)
              have hT5 : SqT K H5 ap p.vs := W6.gh.tup (W6.gg.tup hTg)
              refine ⟨rfl, ?_⟩
              unfold tYes
              dsimp only
              rw [if_pos rfl]
              have fin : ∀ w, (match nm0 p with
                  | none => (y.1.map fun q => ((q.1, Vl.tx q.2) : Str × Vl)) = []
                  | some nm => ∃ vl, (y.1.map fun q => ((q.1, Vl.tx q.2) : Str × Vl)) = [(nm, vl)] ∧ RVl K G5 w vl) → ∀ u, H5 u = none → ∃ acc, (upd H5 u (.tup [w, .int (y.2 : Nat)])) D = some (.lst acc) ∧ acc.length < sizeLine ∧ ∃ G6 zs2, Wd G2 H2 G6 (upd (upd H5 u (.tup [w, .int (y.2 : Nat)])) D (.lst (acc ++ [.ref u]))) ∧ Same G4 G6 ∧
                    (upd (upd H5 u (.tup [w, .int (y.2 : Nat)])) D (.lst (acc ++ [.ref u]))) D = some (.lst zs2) ∧ G6 D = none ∧ Paired (EndR K G6 (.p0 p)) zs2 (((pieceR0 tx.cps.toList p x.2).take (m + 1)).map fun x => (x.1.map fun q => (q.1, Vl.tx q.2), x.2)) := by
                intro w hw u nu
                have W7 := W6.new (o := .tup [w, .int (y.2 : Nat)]) nu
                have Du : D ≠ u := ne_of_none hD nu
                have s7 : Same G5 (upd G5 u (.tup [w, .int (y.2 : Nat)])) := Same.new (Same.free W6.gh nu)
                have c7 : (upd G5 u (.tup [w, .int (y.2 : Nat)])) u = some (.tup [w, .int (y.2 : Nat)]) := upd_same
                refine ⟨zs, (upd_ne Du).trans hD, small1000 (by omega), _, _, W7.mut h2D ((upd_ne Du).trans gD5), s6.trans s7, upd_same, (upd_ne Du).trans gD5, ?_⟩
                rw [take_snoc hy, List.map_append]
                refine Paired.snoc (Paired.monoP hZ fun _ _ z => z.mono s7) ⟨u, w, rfl, c7, ?_⟩
                show match nm0 p with | none => _ | some nm => _
                cases hn : nm0 p with
                | none => rw [hn] at hw; exact hw
                | some nm => rw [hn] at hw; obtain ⟨vl, e1, e2⟩ := hw; exact ⟨vl, e1, e2.mono s7⟩
              cases p with
              | say t =>
                have hy0 : y.1 = [] := by
                  obtain ⟨e, _, rfl⟩ := List.mem_map.mp (show y ∈ List.map _ _ from mem_at hy); rfl
                have hv0 : valV (rowK y.1) (Sum.inr t : Key) = none := by rw [hy0]; rfl
                refine ⟨_, rfl, et, _, _, _, rfl, rfl, het, rfl, ed, rfl, .inl ⟨_, .inl hed⟩, _, rfl, ap, _, _, _, rfl, rfl, hT5, rfl, none, dget_s (.inl hed) hv0, _, rfl, et, _, _, _, rfl, rfl, het, rfl, (by show 2 ≤ sizeLine; decide), fun u nu => ?_⟩
                exact fin .non (by show (y.1.map _) = []; rw [hy0]; rfl) u nu
              | ask nm sg lo hi =>
                obtain ⟨s0, hy0⟩ : ∃ s0, y.1 = [(nm, s0)] := by
                  obtain ⟨e, _, rfl⟩ := List.mem_map.mp (show y ∈ List.map _ _ from mem_at hy); exact ⟨_, rfl⟩
                have hv0 : valV (rowK y.1) (Sum.inr nm : Key) = some (.str s0) := by rw [hy0]; exact valV_pos rfl
                refine ⟨_, rfl, et, _, _, _, rfl, rfl, het, rfl, ed, rfl, .inl ⟨_, .inl hed⟩, _, rfl, ap, _, _, _, rfl, rfl, hT5, rfl, some (.str s0), dget_s (.inl hed) hv0, _, rfl, et, _, _, _, rfl, rfl, het, rfl, (by show 2 ≤ sizeLine; decide), fun u nu => ?_⟩
                exact fin (.str s0) ⟨.tx s0, by rw [hy0]; rfl, rfl⟩ u nu
            · rintro H5 ⟨G5, zs, W6, s6, hD, gD5, hZ⟩
              rw [hel, List.take_length] at hZ
              exact ⟨_, D, zs, _, _, rfl, W6.tell hD h2D gD5, upd_same, Paired.monoP hZ fun _ _ z => z.mono (Same.new gD5)⟩
        · rintro σ H3 ⟨G3, le, es, v7, v8, rfl, W3, hle, hE⟩
          have hel := Paired.len hE
          have W4 := W2.trans W3
          have hlg3 := W3.hh _ _ hlg
          have glg3 := W3.nw _ _ hlg glg2
          have hnm := hnp
          generalize pieceR tx.cps.toList p x.2 = E at hE hpx hel
          refine ⟨_, rfl, le, rfl, ⟨es, SqL.of (W3.gh _ _ hle)⟩, ?_⟩
          refine for_list (K := K) (a := le) (xs := es) (fun m σ H4 => ∃ G4 zs v7 v8, σ = [some (.ref l), some (.str tx), some (.ref lf), some pv, some (.ref lg), some (.ref ot), some (.ref le), v7, v8] ∧ Wd G H G4 H4 ∧ Same G3 G4 ∧ H4 lg = some (.lst zs) ∧ G4 lg = none ∧ zs.length = ys.length + m ∧
              Paired (FrmR K G4) zs (stepF tx.cps.toList p (F.take j) ++ (E.take m).map fun y => (x.1 ++ y.1, y.2)))
            ⟨G3, ys, _, _, rfl, W4, Same.refl _, hlg3, glg3, rfl, by rw [List.take_zero, List.map_nil, List.append_nil]; exact Paired.monoP hY fun _ _ z => z.mono W3.gg⟩ (fun m σ H4 _ ⟨_, _, _, _, _, W5, s5, _⟩ => SqL.of (W5.gh _ _ (s5 _ _ hle))) ?_ ?_
          · rintro m ev σ H4 hm2 ⟨G4, zs, v7, v8, rfl, W5, s5, hlg4, glg4, hzl, hZ⟩
            obtain ⟨y, hy, et, w, rfl, het0, hyw⟩ := Paired.at hE hm2
            have hml := at_lt hy
            have sG := s2.trans (W3.gg.trans s5)
            have hot4 : SqT K H4 ot [.ref od, .int (x.2 : Nat)] := SqT.of (W5.gh _ _ (sG _ _ hot0))
            have hod4 : H4 od = some (.dK okv) := W5.gh _ _ (sG _ _ hod0)
            have het4 : H4 et = some (.tup [w, .int (y.2 : Nat)]) := W5.gh _ _ (s5 _ _ het0)
            have hkv4 := Paired.monoP hkv0 fun _ _ z => RKv.mono z sG
            have hkl4 : okv.length ≤ 6 := by rw [Paired.len hkv0]; exact hx6
            refine ⟨_, rfl, ot, _, _, _, rfl, rfl, hot4, rfl, od, _, rfl, .inl hod4, fun d2 nd2 => ?_⟩
            have hd20 : H d2 = none := Same.free W5.hh.same nd2
            have gd2 : G4 d2 = none := Same.free W5.gh nd2
            have ld : lg ≠ d2 := ne_of_none hlg4 nd2
            have W6 := W5.keep (Keep.new (o := .dK okv) nd2)
            have k6 : Keep H4 (upd H4 d2 (.dK okv)) := Keep.new nd2
            have hd6 : (upd H4 d2 (.dK okv)) d2 = some (.dK okv) := upd_same
            generalize upd H4 d2 (.dK okv) = H6 at W6 k6 hd6 ⊢
            have fin : ∀ {H7 : Hp} {kvs : List (Key × V)} {z8 : Option V}, Wd G H G4 H7 → (∀ b o, b ≠ d2 → H6 b = some o → H7 b = some o) → H7 d2 = some (.dK kvs) → z8 = some (V.ref d2) → Paired (RKv K G4) kvs (x.1 ++ y.1) → tyV K "list" (.ref lg) H7 ∧ SqT K H7 et [w, .int (y.2 : Nat)] ∧ ∀ u, H7 u = none → ∃ l' xs' y', V.ref lg = V.ref l' ∧ [V.ref u] = [y'] ∧ (upd H7 u (.tup [.ref d2, .int (y.2 : Nat)])) l' = some (.lst xs') ∧ xs'.length < sizeLine ∧
                ∃ G8 zs2 w7 w8, [some (V.ref l), some (.str tx), some (.ref lf), some pv, some (.ref lg), some (.ref ot), some (.ref le), some (.ref et), z8] = [some (.ref l), some (.str tx), some (.ref lf), some pv, some (.ref lg), some (.ref ot), some (.ref le), w7, w8] ∧ Wd G H G8 (upd (upd H7 u (.tup [.ref d2, .int (y.2 : Nat)])) l' (.lst (xs' ++ [y']))) ∧ Same G3 G8 ∧
                  (upd (upd H7 u (.tup [.ref d2, .int (y.2 : Nat)])) l' (.lst (xs' ++ [y']))) lg = some (.lst zs2) ∧ G8 lg = none ∧ zs2.length = ys.length + (m + 1) ∧ Paired (FrmR K G8) zs2 (stepF tx.cps.toList p (F.take j) ++ (E.take (m + 1)).map fun y => (x.1 ++ y.1, y.2)) := by
              intro H7 kvs z8 W7 k7 hd7 ez hkv
              have hlg7 := k7 _ _ ld (k6 _ _ hlg4)
              have het7 : H7 et = some (.tup [w, .int (y.2 : Nat)]) := k7 _ _ (ne_of_none het4 nd2) (k6 _ _ het4)
              refine ⟨.inl ⟨rfl, _, SqL.of hlg7⟩, SqT.of het7, fun u nu => ?_⟩
              have W8 := (W7.tell hd7 hd20 gd2).new (o := .tup [.ref d2, .int (y.2 : Nat)]) nu
              have du : d2 ≠ u := ne_of_none hd7 nu
              have lu : lg ≠ u := ne_of_none hlg7 nu
              have s8 : Same G4 (upd G4 d2 (.dK kvs)) := Same.new gd2
              have s9 : Same (upd G4 d2 (.dK kvs)) (upd (upd G4 d2 (.dK kvs)) u (.tup [.ref d2, .int (y.2 : Nat)])) := Same.new (Same.free (W7.tell hd7 hd20 gd2).gh nu)
              have g8 : (upd (upd G4 d2 (.dK kvs)) u (.tup [.ref d2, .int (y.2 : Nat)])) lg = none := (upd_ne lu).trans ((upd_ne ld).trans glg4)
              have s89 := s8.trans s9
              refine ⟨lg, zs, _, rfl, rfl, (upd_ne lu).trans hlg7, Nat.lt_of_le_of_lt (show zs.length ≤ 7371 * 91 + 91 by omega) (by rw [sizeLine_eq]; decide), ?_⟩
              refine ⟨_, _, _, _, rfl, W8.mut hlg0 g8, s5.trans s89, upd_same, g8, by rw [List.length_append, hzl]; rfl, ?_⟩
              rw [take_snoc hy, List.map_append, ← List.append_assoc]
              exact Paired.snoc (Paired.monoP hZ fun _ _ z => z.mono s89) ⟨u, .ref d2, rfl, upd_same, d2, kvs, rfl, s9 _ _ upd_same, Paired.monoP hkv fun _ _ z => RKv.mono z s89⟩
            have hR6 : RP K G4 pv p := (hR2.mono W3.gg).mono s5
            cases p with
            | rows nm ips gap lo hi =>
              obtain ⟨ap, li, its, rfl, hTg, _⟩ := id hR6
              have hT6 := W6.gh.tup hTg
              obtain ⟨vl, e1, rvl⟩ := hyw
              have hn : valV okv (Sum.inr nm : Key) = none := (val_RV hkv0 nm).2 ((look_keys _ _).mpr (by rw [xn]; exact hnm nm rfl))
              refine ⟨_, rfl, ap, _, _, _, rfl, rfl, hT6, rfl, rfl, _, rfl, iteNeN rows_say ?_⟩
              refine ⟨_, rfl, et, _, _, _, rfl, rfl, SqT.of (k6 _ _ het4), rfl, _, rfl, _, rfl, ap, _, _, _, rfl, rfl, hT6, rfl, d2, _, rfl, dput_s hd6 (small1000 (by omega)), ?_⟩
              rw [putK_new _ hn]
              obtain ⟨f1, f2, f3⟩ := fin (H7 := upd H6 d2 (.dK (okv ++ [(Sum.inr nm, w)]))) (W6.mut hd20 gd2) (fun b o n e => (upd_ne n).trans e) upd_same rfl (by rw [e1]; exact Paired.snoc hkv4 ⟨rfl, rvl.mono s5⟩)
              exact ⟨_, rfl, f1, _, rfl, _, rfl, et, _, _, _, rfl, rfl, f2, rfl, (by show 2 ≤ sizeLine; decide), f3⟩
            | p0 p =>
              obtain ⟨ap, rfl, hTg⟩ := id hR6
              have hT6 := W6.gh.tup hTg
              cases p with
              | say t =>
                have e1 : y.1 = [] := hyw
                refine ⟨_, rfl, ap, _, _, _, rfl, rfl, hT6, rfl, rfl, _, rfl, iteEqN ?_⟩
                obtain ⟨f1, f2, f3⟩ := fin (H7 := H6) W6 (fun b o n e => e) hd6 rfl (by rw [e1, List.append_nil]; exact hkv4)
                exact ⟨_, rfl, f1, _, rfl, _, rfl, et, _, _, _, rfl, rfl, f2, rfl, (by show 2 ≤ sizeLine; decide), f3⟩
              | ask nm sg lo hi =>
                obtain ⟨vl, e1, rvl⟩ := hyw
                have hn : valV okv (Sum.inr nm : Key) = none := (val_RV hkv0 nm).2 ((look_keys _ _).mpr (by rw [xn]; exact hnm nm rfl))
                refine ⟨_, rfl, ap, _, _, _, rfl, rfl, hT6, rfl, rfl, _, rfl, iteNeN ask_say ?_⟩
                refine ⟨_, rfl, et, _, _, _, rfl, rfl, SqT.of (k6 _ _ het4), rfl, _, rfl, _, rfl, ap, _, _, _, rfl, rfl, hT6, rfl, d2, _, rfl, dput_s hd6 (small1000 (by omega)), ?_⟩
                rw [putK_new _ hn]
                obtain ⟨f1, f2, f3⟩ := fin (H7 := upd H6 d2 (.dK (okv ++ [(Sum.inr nm, w)]))) (W6.mut hd20 gd2) (fun b o n e => (upd_ne n).trans e) upd_same rfl (by rw [e1]; exact Paired.snoc hkv4 ⟨rfl, rvl.mono s5⟩)
                exact ⟨_, rfl, f1, _, rfl, _, rfl, et, _, _, _, rfl, rfl, f2, rfl, (by show 2 ≤ sizeLine; decide), f3⟩
          · rintro σ H4 ⟨G4, zs, v7, v8, rfl, W5, s5, hlg4, glg4, hzl, hZ⟩
            rw [hel, List.take_length] at hZ
            exact ⟨_, _, _, _, _, _, rfl, W5, s2.trans (W3.gg.trans s5), hlg4, glg4, hZ⟩
      · rintro σ H2 ⟨G2, ys, v5, v6, v7, v8, rfl, W2, s2, hlg, glg2, hY⟩
        rw [hvl, List.take_length] at hY
        refine ⟨_, rfl, ?_⟩
        exact ⟨_, lg, ys, _, _, _, _, _, _, rfl, W2.tell hlg hlg0 glg2, upd_same, Paired.monoP hY fun _ _ z => z.mono (Same.new glg2)⟩
    · rintro σ H' ⟨G', lf, vs, v3, v4, v5, v6, v7, v8, rfl, W, hlf, hV⟩
      rw [hxp, List.take_length] at hV
      have hl9 := hFl ps.length (Nat.le_refl _)
      rw [List.take_length] at hl9
      unfold readsP at q
      rw [← formF_eq] at q
      generalize formF tx.cps.toList ps = F at hV hl9 q
      have hvl := Paired.len hV
      refine ⟨_, rfl, lf, rfl, ⟨vs, SqL.of (W.gh _ _ hlf)⟩, fun D nD => ?_⟩
      have gD : G' D = none := Same.free W.gh nD
      have hD0 : H D = none := Same.free W.hh.same nD
      refine lc_list (K := K) (a := lf) (xs := vs) (fun m H2 => ∃ zs, Keep H' H2 ∧ H2 D = some (.lst zs) ∧ zs.length ≤ m ∧ Paired (RV K G') zs (((F.take m).filter fun x => decide (x.2 = tx.cps.toList.length)).map (·.1)))
        ⟨[], Keep.new nD, upd_same, Nat.le_refl _, .nil⟩ (fun m H2 _ ⟨_, k, _⟩ => SqL.of (k _ _ (W.gh _ _ hlf))) ?_ ?_
      · rintro m ov H2 hm2 ⟨zs, k, hD, hzl, hZ⟩
        obtain ⟨x, hx, ot, odv, rfl, hot0, hrv⟩ := Paired.at hV hm2
        have hml := at_lt hx
        have hot : SqT K H2 ot [odv, .int (x.2 : Nat)] := SqT.of (k _ _ (W.gh _ _ hot0))
        rw [take_snoc hx, List.filter_append, List.map_append, hcl]
        rw [hcl] at hZ
        refine ⟨rfl, ?_⟩
        refine ⟨_, rfl, ot, _, _, _, rfl, rfl, hot, rfl, _, rfl, tx, rfl, small_line (by omega), rfl, _, rfl, ?_⟩
        by_cases hc : x.2 = tx.length
        · refine iteDT (by rw [hc]) ?_
          refine ⟨_, rfl, ot, _, _, _, rfl, rfl, hot, rfl, zs, hD, lt_line (by omega), _, k.mut nD, upd_same, by rw [List.length_append]; show zs.length + 1 ≤ _; omega, ?_⟩
          rw [List.filter_cons, if_pos (decide_eq_true hc)]
          exact Paired.snoc hZ hrv
        · refine iteDF (fun z => hc (by injection z with z; omega)) ?_
          refine ⟨zs, k, hD, by omega, ?_⟩
          rw [List.filter_cons, if_neg (by rw [decide_eq_false hc]; decide), List.filter_nil, List.map_nil, List.append_nil]
          exact hZ
      · rintro H2 ⟨zs, k, hD, hzl, hZ⟩
        rw [hvl, List.take_length] at hZ
        exact q (.ref D) _ _ ((W.keep k).tell hD hD0 gD) ⟨D, zs, rfl, upd_same, Paired.monoP hZ fun _ _ z => RV.mono z (Same.new gD)⟩

abbrev s__law_text : Stmt := top 42
abbrev n__law_text : List Str := ["script", "pieces", "text", "at"]
theorem sc__law_text : FnScope n__law_text ["script", "pieces"] (defScope s__law_text) := ⟨rfl, rfl, rfl, by decide +kernel, rfl, by decide +kernel, by decide +kernel⟩

theorem dn__law_text (D : Df K mg "_law_text" s__law_text ["script", "pieces"]) (B : Bl mg) (d__law_written : Dn P w K mg base CX0 2 "_law_written" (sp__law_written K))  (d__law_values : Dn P w K mg base CX0 5 "_law_values" (sp__law_values K))  (d__law_draw : Dn P w K mg base CX0 2 "_law_draw" (sp__law_draw K))  : Dn P w K mg base CX0 6 "_law_text" (sp__law_text K) := by
  refine .of D fun f fd F => F.ok sc__law_text (fun vs H Q E h => ?_) (fun cdv A outer s H vs Q E hr h => ?_)
  · (obtain ⟨_, _, _, _, _, rfl, _⟩ := h; rfl)
  · have hu := hu_of hr
    have hu64 : _ := hr.units
    refine ⟨_, (pss_cons (ps_set (i := 2) sc__law_text.nd rfl (Or.inl rfl) (cD d__law_written hr (by decide) rfl (pa_cons (pv 1) (pa_cons (cD d__law_values hr (by decide) rfl (pa_cons (pv 0) (pa_cons pe_int (pa_cons (pv 1) pa_nil)))) pa_nil))))
      (pss_cons (ps_set (i := 3) sc__law_text.nd rfl (Or.inl rfl) (pe_op op_mod (cD d__law_draw hr (by decide) rfl (pa_cons (pv 0) (pa_cons pe_int pa_nil))) (pe_op op_add (pe_callB call_len_str rfl B.len PySem.boot_len (pa_cons (pv 2) pa_nil)) pe_int)))
      (pss_cons (ps_if (pt_cmpR op_eq (pe_op op_mod (cD d__law_draw hr (by decide) rfl (pa_cons (pv 0) (pa_cons pe_int pa_nil))) pe_int) pe_int (nomark _)) (pss_one (ps_ret (pe_op op_add_str (pe_slice sl_str (pv 2) po_none (po_some (pv 3))) (pe_slice sl_str (pv 2) (po_some (pe_op op_add (pv 3) pe_int)) po_none)))) pss_nil)
      (pss_cons (ps_if (pt_cmpR op_eq (pe_op op_mod (cD d__law_draw hr (by decide) rfl (pa_cons (pv 0) (pa_cons pe_int pa_nil))) pe_int) pe_int (nomark _)) (pss_one (ps_ret (pe_op op_add_str (pe_op op_add_str (pe_slice sl_str (pv 2) po_none (po_some (pv 3))) (pe_ix ix_str pe_str (pe_op op_mod (cD d__law_draw hr (by decide) rfl (pa_cons (pv 0) (pa_cons pe_int pa_nil))) pe_int) (fun _ _ => rfl))) (pe_slice sl_str (pv 2) (po_some (pv 3)) po_none)))) pss_nil)
      (pss_one (ps_ret (pv 2))))))), ?_⟩
    obtain ⟨a, ns, l, xs, ps, rfl, hS, hL, hP, hok, q⟩ := h
    refine ⟨_, rfl, _, rfl, _, rfl, a, ns, 300, l, xs, ps, H, rfl, Same.refl _, hS, hL, hP, hok, fun v G2 H2 W2 r2 => ?_⟩
    have hfit := values_fit (ns := ns) (s := 300) hok
    refine ⟨l, xs, ps, v, _, rfl, W2.hh.same.seq hL, Paired.monoP hP fun _ _ z => z.mono W2.hh.same, r2.mono W2.gh, hok.l6, hfit, fun H3 k3 => ?_⟩
    have hlen := writtenP_len hfit ps.length
    rw [List.take_length] at hlen
    have h6 := hok.l6
    generalize writtenP (fv (valuesP ns 300 ps)) (gv (valuesP ns 300 ps)) ps = tx at hlen ⊢
    have ht : tx.length ≤ 1000 := by omega
    have kk : Keep H H3 := W2.hh.trans k3
    have hS3 := kk.same.seq hS
    clear k3 r2 W2
    have d1 := Int.emod_nonneg (draw ns 4) (show (tx.length : Int) + 1 ≠ 0 by omega)
    have d2 := Int.emod_lt_of_pos (draw ns 4) (show 0 < (tx.length : Int) + 1 by omega)
    obtain ⟨sc, hsc⟩ := atI_mod (("ab0, -" : Str).cps.toList) (draw ns 5) (n := 6) (by decide) (by decide)
    refine ⟨_, rfl, a, ns, 4, rfl, hS3, _, rfl, tx, rfl, small_line (by omega), _, _, rfl, rfl, _, _, rfl, rfl, (by show 0 < (tx.length : Int) + 1; omega), ?_⟩
    have c1 := fun lo hi => cutS_len tx lo hi
    refine ⟨_, rfl, a, ns, 3, rfl, hS3, _, _, rfl, rfl, (by show (0 : Int) < 5; decide), rfl, _, rfl, ?_⟩
    refine ite2 (fun _ => ?_) (fun _ => ?_)
    · have h1 := c1 none (some (draw ns 4 % ((tx.length : Int) + 1)))
      have h2 := c1 (some (draw ns 4 % ((tx.length : Int) + 1) + 1)) none
      refine ⟨_, rfl, _, rfl, _, rfl, tx, rfl, small_line (by omega), _, rfl, _, rfl, _, _, rfl, rfl, _, rfl, tx, rfl, small_line (by omega), _, _, rfl, rfl, Nat.le_of_lt (lt_line (by omega)), q _ _ kk ?_⟩
      rw [str_len_app]
      show _ + _ ≤ _
      omega
    refine ⟨_, rfl, a, ns, 3, rfl, hS3, _, _, rfl, rfl, (by show (0 : Int) < 5; decide), rfl, _, rfl, ?_⟩
    refine ite2 (fun _ => ?_) (fun _ => ?_)
    · have h1 := c1 none (some (draw ns 4 % ((tx.length : Int) + 1)))
      have h2 := c1 (some (draw ns 4 % ((tx.length : Int) + 1))) none
      have h3 : (⟨#[sc]⟩ : Str).length = 1 := rfl
      refine ⟨_, rfl, _, rfl, _, rfl, tx, rfl, small_line (by omega), _, rfl, a, ns, 5, rfl, hS3, _, _, rfl, rfl, (by show (0 : Int) < 6; decide), _, _, sc, rfl, rfl, (by decide +kernel), hsc, _, _, rfl, rfl, Nat.le_of_lt (lt_line (by omega)), _, rfl, _, rfl, _, rfl, tx, rfl, small_line (by omega), _, _, rfl, rfl, ?_, q _ _ kk ?_⟩
      · rw [str_len_app]; exact Nat.le_of_lt (lt_line (by omega))
      · rw [str_len_app, str_len_app]; omega
    exact ⟨_, rfl, q _ _ kk (by omega)⟩

abbrev s__law_alone : Stmt := top 41
abbrev n__law_alone : List Str := ["e", "found"]
theorem sc__law_alone : FnScope n__law_alone ["e"] (defScope s__law_alone) := ⟨rfl, rfl, rfl, by decide +kernel, rfl, by decide +kernel, by decide +kernel⟩

theorem dn__law_alone (D : Df K mg "_law_alone" s__law_alone ["e"]) (B : Bl mg) (e_Twofold : mg "Twofold" = some (.ref C_Twofold_))  (e_NoReading : mg "NoReading" = some (.ref C_NoReading_))  (e_BadValue : mg "BadValue" = some (.ref C_BadValue_))  (e_BadForm : mg "BadForm" = some (.ref C_BadForm_))  (e_FormError : mg "FormError" = some (.ref C_FormError_))  : Dn P w K mg base CX0 1 "_law_alone" (sp__law_alone K C_FormError_ C_BadForm_ C_BadValue_ C_NoReading_ C_Twofold_) := by
  refine .of D fun f fd F => F.ok sc__law_alone (fun vs H Q E h => ?_) (fun cdv A outer s H vs Q E hr h => ?_)
  · (obtain ⟨_, _, _, _, rfl, _⟩ := h; rfl)
  · have hu := hu_of hr
    have hu64 : _ := hr.units
    refine ⟨_, (pss_cons (ps_set (i := 1) sc__law_alone.nd rfl (Or.inl rfl) (pe_lst (pa_cons (pe_callB (call_isX' (K := K) rfl) rfl B.isinstance (by decide +kernel) (pa_cons (pv 0) (pa_cons (pe_glob (v := V.ref C_BadForm_) rfl e_BadForm rfl) pa_nil))) (pa_cons (pe_callB (call_isX' (K := K) rfl) rfl B.isinstance (by decide +kernel) (pa_cons (pv 0) (pa_cons (pe_glob (v := V.ref C_BadValue_) rfl e_BadValue rfl) pa_nil))) (pa_cons (pe_callB (call_isX' (K := K) rfl) rfl B.isinstance (by decide +kernel) (pa_cons (pv 0) (pa_cons (pe_glob (v := V.ref C_NoReading_) rfl e_NoReading rfl) pa_nil))) (pa_cons (pe_callB (call_isX' (K := K) rfl) rfl B.isinstance (by decide +kernel) (pa_cons (pv 0) (pa_cons (pe_glob (v := V.ref C_Twofold_) rfl e_Twofold rfl) pa_nil))) pa_nil))))))
      (pss_cons (ps_if (PW.pt (pw_or (pt_not (pt_val (pe_callB (call_isX' (K := K) rfl) rfl B.isinstance (by decide +kernel) (pa_cons (pv 0) (pa_cons (pe_glob (v := V.ref C_FormError_) rfl e_FormError rfl) pa_nil))))) (pw_or (pt_not (pt_val (pe_callB (call_isX' (K := K) rfl) rfl B.isinstance (by decide +kernel) (pa_cons (pv 0) (pa_cons (pe_bltn (v := .ty "ValueError") rfl B.ValueError (by decide +kernel) rfl) pa_nil))))) (pw_or1 (pt_cmpR op_ne (pe_bm PySem.F.plainAttrs_list PySem.F.slot_list_count PySem.F.type_list_count mt_countF (pv 1) (pa_cons pe_bl pa_nil)) pe_int (nomark _)))))) (pss_one (ps_ret (pe_un un_neg pe_int))) pss_nil)
      (pss_one (ps_ret (pe_bm PySem.F.plainAttrs_list PySem.F.slot_list_index PySem.F.type_list_index mt_index (pv 1) (pa_cons pe_bl pa_nil)))))), ?_⟩
    obtain ⟨a, D, d, i, rfl, hE, A1, q⟩ := h
    refine ⟨_, rfl, a, D, d, _, _, _, rfl, .own _, hE.1, hE.2, A1.x, A1.k0, _, rfl, a, D, d, _, _, _, rfl, .own _, hE.1, hE.2, A1.x, A1.k1, _, rfl, a, D, d, _, _, _, rfl, .own _, hE.1, hE.2, A1.x, A1.k2, _, rfl, a, D, d, _, _, _, rfl, .own _, hE.1, hE.2, A1.x, A1.k3, (by show 4 ≤ sizeLine; decide), fun l nl => ?_⟩
    have k := Keep.new (o := .lst [.bl (i == 0), .bl (i == 1), .bl (i == 2), .bl (i == 3)]) nl
    have e1 : (upd H l (.lst [.bl (i == 0), .bl (i == 1), .bl (i == 2), .bl (i == 3)])) l = some (.lst [.bl (i == 0), .bl (i == 1), .bl (i == 2), .bl (i == 3)]) := upd_same
    generalize upd H l (.lst [.bl (i == 0), .bl (i == 1), .bl (i == 2), .bl (i == 3)]) = H1 at k e1 ⊢
    have hE1 := hE.mono k
    refine ⟨_, rfl, a, D, d, _, _, _, rfl, .own _, hE1.1, hE1.2, A1.x, A1.kE, _, rfl, iteF ?_⟩
    refine ⟨_, rfl, a, D, d, _, _, _, rfl, .ty "ValueError", hE1.1, hE1.2, A1.x, A1.kV, _, rfl, iteF ?_⟩
    have i4 := A1.lt
    have hi : i = 0 ∨ i = 1 ∨ i = 2 ∨ i = 3 := by omega
    have cnt : [V.bl (i == 0), .bl (i == 1), .bl (i == 2), .bl (i == 3)].countP (fun z => eqV z (.bl true)) = 1 := by
      rcases hi with rfl | rfl | rfl | rfl <;> decide +kernel
    refine ⟨_, rfl, .inl ⟨rfl, _, SqL.of e1⟩, l, _, _, rfl, rfl, SqL.of e1, rfl, rfl, rfl, _, rfl, ?_⟩
    rw [cnt]
    refine iteEqN ?_
    refine ⟨_, rfl, .inl ⟨rfl, _, SqL.of e1⟩, l, _, _, i, .bl true, rfl, rfl, SqL.of e1, rfl, rfl, ?_, rfl, ?_, q _ k⟩
    · rcases hi with rfl | rfl | rfl | rfl <;> rfl
    · intro m z' hm hz
      rcases hi with rfl | rfl | rfl | rfl
      · omega
      · have : m = 0 := by omega
        subst this; cases hz; rfl
      · have : m = 0 ∨ m = 1 := by omega
        rcases this with rfl | rfl <;> (cases hz; rfl)
      · have : m = 0 ∨ m = 1 ∨ m = 2 := by omega
        rcases this with rfl | rfl | rfl <;> (cases hz; rfl)

abbrev s_ask_text : Stmt := top 16
abbrev n_ask_text : List Str := ["text", "least", "most", "sign"]
theorem sc_ask_text : FnScope n_ask_text ["text", "least", "most"] (defScope s_ask_text) := ⟨rfl, rfl, rfl, by decide +kernel, rfl, by decide +kernel, by decide +kernel⟩

theorem dn_ask_text (D : Df K mg "ask_text" s_ask_text ["text", "least", "most"]) (B : Bl mg) (g_SIGNS : G_SIGNS mg)  : Dn P w K mg base CX0 1 "ask_text" (sp_ask_text K) := by
  refine .of D fun f fd F => F.ok sc_ask_text (fun vs H Q E h => ?_) (fun cdv A outer s H vs Q E hr h => ?_)
  · (obtain ⟨_, _, _, rfl, _⟩ := h; rfl)
  · have hu := hu_of hr
    have hu64 : _ := hr.units
    refine ⟨_, (pss_cons (ps_if (pt_not (pt_chain op_le op_le (pv 1) (pe_callB call_len_str rfl B.len PySem.boot_len (pa_cons (pv 0) pa_nil)) (pv 2))) (pss_one ps_never) pss_nil)
      (pss_one (ps_for PassesOwn.never rfl (pi_str (pv 0)) (pg_name (i := 3) sc_ask_text.nd rfl (Or.inl rfl))
      (pss_one (ps_if (pt_cmpR op_notIn_sign (pv 3) (pe_globS rfl g_SIGNS) (by with_unfolding_all rfl)) (pss_one ps_never) pss_nil))))), ?_⟩
    obtain ⟨t, lo, hi, rfl, h1, h2, h3, hs, q⟩ := h
    refine ⟨_, rfl, _, rfl, t, rfl, small_line (by omega), _, _, rfl, rfl, _, rfl, ?_⟩
    refine iteDT h1 ⟨_, rfl, _, _, rfl, rfl, _, rfl, ?_⟩
    refine iteNT (decide_eq_true h2) ?_
    refine ⟨_, rfl, t, rfl, for_text (x := t) (fun i σ H' => ∃ v, H' = H ∧ σ = [some (.str t), some (.int lo), some (.int hi), v]) ⟨none, rfl, rfl⟩ ?_ ?_⟩
    · rintro i c σ H' hc ⟨v, rfl, rfl⟩
      have hm : c ∈ SIGNSs.cps.toList := hs c (by rw [← Array.getElem?_toList] at hc; exact List.mem_of_getElem? hc)
      refine ⟨_, rfl, c, SIGNSs, rfl, rfl, _, rfl, ?_⟩
      refine iteNT (decide_eq_true hm) ?_
      exact ⟨_, rfl, rfl⟩
    · rintro σ H' ⟨v, rfl, rfl⟩
      exact q

abbrev s_ask_count : Stmt := top 17
abbrev n_ask_count : List Str := ["least", "most", "bound"]
theorem sc_ask_count : FnScope n_ask_count ["least", "most", "bound"] (defScope s_ask_count) := ⟨rfl, rfl, rfl, by decide +kernel, rfl, by decide +kernel, by decide +kernel⟩

theorem dn_ask_count (D : Df K mg "ask_count" s_ask_count ["least", "most", "bound"])  : Dn P w K mg base CX0 1 "ask_count" (sp_ask_count K) := by
  refine .of D fun f fd F => F.ok sc_ask_count (fun vs H Q E h => ?_) (fun cdv A outer s H vs Q E hr h => ?_)
  · (obtain ⟨_, _, _, rfl, _⟩ := h; rfl)
  · have hu := hu_of hr
    have hu64 : _ := hr.units
    refine ⟨_, (pss_one (ps_if (pt_not (pt_chain3 op_le op_le op_le pe_int (pv 0) (pv 1) (pv 2))) (pss_one ps_never) pss_nil)), ?_⟩
    obtain ⟨a, b, c, rfl, h1, h2, h3, q⟩ := h
    refine ⟨_, rfl, _, _, rfl, rfl, _, rfl, iteDT h1 ⟨_, rfl, _, _, rfl, rfl, _, rfl, iteDT h2 ⟨_, rfl, _, _, rfl, rfl, _, rfl, iteNT (decide_eq_true h3) q⟩⟩⟩

abbrev s_look_at_piece : Stmt := top 18
abbrev n_look_at_piece : List Str := ["piece", "names"]
theorem sc_look_at_piece : FnScope n_look_at_piece ["piece", "names"] (defScope s_look_at_piece) := ⟨rfl, rfl, rfl, by decide +kernel, rfl, by decide +kernel, by decide +kernel⟩

theorem dn_look_at_piece (D : Df K mg "look_at_piece" s_look_at_piece ["piece", "names"]) (B : Bl mg) (d_ask_text : Dn P w K mg base CX0 1 "ask_text" (sp_ask_text K))  (d_ask_count : Dn P w K mg base CX0 1 "ask_count" (sp_ask_count K))  : Dn P w K mg base CX0 2 "look_at_piece" (sp_look_at_piece K) := by
  refine .of D fun f fd F => F.ok sc_look_at_piece (fun vs H Q E h => ?_) (fun cdv A outer s H vs Q E hr h => ?_)
  · (obtain ⟨_, _, _, _, _, rfl, _⟩ := h; rfl)
  · have hu := hu_of hr
    have hu64 : _ := hr.units
    refine ⟨_, (pss_one (ps_if (pt_cmpR op_eq (pe_ix (ixT (K := K) rfl) (pv 0) pe_int (fun _ _ => rfl)) pe_str (nomark _)) (pss_one (ps_expr (cD d_ask_text hr (by decide) rfl (pa_cons (pe_ix (ixT (K := K) rfl) (pv 0) pe_int (fun _ _ => rfl)) (pa_cons pe_int (pa_cons pe_int pa_nil)))))) (pss_cons (ps_if (PW.pt (pw_or (pt_cmpR (opInSeq (K := K) rfl) (pe_ix (ixT (K := K) rfl) (pv 0) pe_int (fun _ _ => rfl)) (pv 1) (by with_unfolding_all rfl)) (pw_or1 (pt_cmpR op_eq (pe_ix (ixT (K := K) rfl) (pv 0) pe_int (fun _ _ => rfl)) pe_str (nomark _))))) (pss_one ps_never) pss_nil)
      (pss_cons (ps_expr (pe_bm PySem.F.plainAttrs_list PySem.F.slot_list_append PySem.F.type_list_append mt_append (pv 1) (pa_cons (pe_ix (ixT (K := K) rfl) (pv 0) pe_int (fun _ _ => rfl)) pa_nil)))
      (pss_cons (ps_expr (cD d_ask_text hr (by decide) rfl (pa_cons (pe_ix (ixT (K := K) rfl) (pv 0) pe_int (fun _ _ => rfl)) (pa_cons pe_int (pa_cons pe_int pa_nil)))))
      (pss_cons (ps_if (pt_cmpR op_ne (pe_lenSetS rfl rfl B.len rfl B.set (pe_ix (ixT (K := K) rfl) (pv 0) pe_int (fun _ _ => rfl))) (pe_callB call_len_str rfl B.len PySem.boot_len (pa_cons (pe_ix (ixT (K := K) rfl) (pv 0) pe_int (fun _ _ => rfl)) pa_nil)) (nomark _)) (pss_one ps_never) pss_nil)
      (pss_one (ps_expr (cD d_ask_count hr (by decide) rfl (pa_cons (pe_ix (ixT (K := K) rfl) (pv 0) pe_int (fun _ _ => rfl)) (pa_cons (pe_ix (ixT (K := K) rfl) (pv 0) pe_int (fun _ _ => rfl)) (pa_cons pe_int pa_nil)))))))))))), ?_⟩
    obtain ⟨a, nl, p, ns, G, rfl, gh, gn, hT, hN, hl, ok, hnew, q⟩ := h
    have hT1 := gh.tup hT
    cases p with
    | say t =>
      refine ⟨_, rfl, a, _, _, _, rfl, rfl, hT1, rfl, rfl, _, rfl, iteEq ?_⟩
      refine ⟨_, rfl, a, _, _, _, rfl, rfl, hT1, rfl, t, 1, 12, rfl, ?_, ?_, by decide, ok.2.2, ?_⟩
      · have := ok.1; omega
      · have := ok.2.1; omega
      · exact q H (fun _ _ => rfl) (by rw [show nms0 [P0.say t] = [] from rfl, List.append_nil]; exact hN)
    | ask nm sg lo hi =>
      obtain ⟨n0, s1, s20, sS, snd, l0, lh, h4⟩ := ok
      refine ⟨_, rfl, a, _, _, _, rfl, rfl, hT1, rfl, rfl, _, rfl, iteNe ask_say ?_⟩
      refine ⟨_, rfl, a, _, _, _, rfl, rfl, hT1, rfl, _, rfl, nl, _, rfl, .inl (SqL.of hN), rfl, flat_strs ns, _, rfl, ?_⟩
      refine iteBF ?_ ?_
      · show inV (.str nm) (ns.map V.str) = false
        rw [inV_strs]; exact decide_eq_false (hnew nm rfl)
      refine ⟨_, rfl, a, _, _, _, rfl, rfl, hT1, rfl, rfl, _, rfl, iteNe (str_ne_empty n0) ?_⟩
      refine ⟨_, rfl, .inl ⟨rfl, _, SqL.of hN⟩, _, rfl, a, _, _, _, rfl, rfl, hT1, rfl, nl, _, _, rfl, rfl, hN, small1000 (by rw [List.length_map]; omega), ?_⟩
      have g1 := gh.mut (o := .lst (ns.map V.str ++ [V.str nm])) gn
      have hT2 := g1.tup hT
      refine ⟨_, rfl, a, _, _, _, rfl, rfl, hT2, rfl, sg, 1, 20, rfl, (by omega), (by omega), by decide, sS, ?_⟩
      refine ⟨_, rfl, a, _, _, _, rfl, rfl, hT2, rfl, sg, rfl, (by omega), _, rfl, a, _, _, _, rfl, rfl, hT2, rfl, sg, rfl, small_line (by omega), rfl, _, rfl, ?_⟩
      rw [dd_signs snd]
      refine iteEqN ?_
      refine ⟨_, rfl, a, _, _, _, rfl, rfl, hT2, rfl, _, rfl, a, _, _, _, rfl, rfl, hT2, rfl, lo, hi, 4, rfl, l0, lh, h4, ?_⟩
      refine q _ (fun b hb => upd_ne hb) ?_
      rw [upd_same]
      simp [nms0, nm0]

abbrev s_look_at_rows : Stmt := top 19
abbrev n_look_at_rows : List Str := ["piece", "names", "inner", "one"]
theorem sc_look_at_rows : FnScope n_look_at_rows ["piece", "names"] (defScope s_look_at_rows) := ⟨rfl, rfl, rfl, by decide +kernel, rfl, by decide +kernel, by decide +kernel⟩

theorem dn_look_at_rows (D : Df K mg "look_at_rows" s_look_at_rows ["piece", "names"]) (B : Bl mg) (d_look_at_piece : Dn P w K mg base CX0 2 "look_at_piece" (sp_look_at_piece K))  (d_ask_text : Dn P w K mg base CX0 1 "ask_text" (sp_ask_text K))  (d_ask_count : Dn P w K mg base CX0 1 "ask_count" (sp_ask_count K))  : Dn P w K mg base CX0 3 "look_at_rows" (sp_look_at_rows K) := by
  refine .of D fun f fd F => F.ok sc_look_at_rows (fun vs H Q E h => ?_) (fun cdv A outer s H vs Q E hr h => ?_)
  · (obtain ⟨_, _, _, _, _, _, _, _, _, rfl, _⟩ := h; rfl)
  · have hu := hu_of hr
    have hu64 : _ := hr.units
    refine ⟨_, (pss_cons (ps_if (PW.pt (pw_or (pt_cmpR (opInSeq (K := K) rfl) (pe_ix (ixT (K := K) rfl) (pv 0) pe_int (fun _ _ => rfl)) (pv 1) (by with_unfolding_all rfl)) (pw_or1 (pt_cmpR op_eq (pe_ix (ixT (K := K) rfl) (pv 0) pe_int (fun _ _ => rfl)) pe_str (nomark _))))) (pss_one ps_never) pss_nil)
      (pss_cons (ps_expr (pe_bm PySem.F.plainAttrs_list PySem.F.slot_list_append PySem.F.type_list_append mt_append (pv 1) (pa_cons (pe_ix (ixT (K := K) rfl) (pv 0) pe_int (fun _ _ => rfl)) pa_nil)))
      (pss_cons (ps_if (pt_not (pt_chain op_le op_le pe_int (pe_callB (callLen (K := K) rfl) rfl B.len PySem.boot_len (pa_cons (pe_ix (ixT (K := K) rfl) (pv 0) pe_int (fun _ _ => rfl)) pa_nil)) pe_int)) (pss_one ps_never) pss_nil)
      (pss_cons (ps_set (i := 2) sc_look_at_rows.nd rfl (Or.inl rfl) (pe_lst pa_nil))
      (pss_cons (ps_for PassesOwn.never rfl (pi_list (pe_ix (ixT (K := K) rfl) (pv 0) pe_int (fun _ _ => rfl))) (pg_name (i := 3) sc_look_at_rows.nd rfl (Or.inl rfl))
      (pss_cons (ps_if (pt_cmpR op_eq (pe_ix (ixT (K := K) rfl) (pv 3) pe_int (fun _ _ => rfl)) pe_str (nomark _)) (pss_one ps_never) pss_nil)
      (pss_one (ps_expr (cD d_look_at_piece hr (by decide) rfl (pa_cons (pv 3) (pa_cons (pv 2) pa_nil)))))))
      (pss_cons (ps_expr (cD d_ask_text hr (by decide) rfl (pa_cons (pe_ix (ixT (K := K) rfl) (pv 0) pe_int (fun _ _ => rfl)) (pa_cons pe_int (pa_cons pe_int pa_nil)))))
      (pss_one (ps_expr (cD d_ask_count hr (by decide) rfl (pa_cons (pe_ix (ixT (K := K) rfl) (pv 0) pe_int (fun _ _ => rfl)) (pa_cons (pe_ix (ixT (K := K) rfl) (pv 0) pe_int (fun _ _ => rfl)) (pa_cons pe_int pa_nil)))))))))))), ?_⟩
    obtain ⟨a, nl, nm, ips, gap, lo, hi, ns, G, rfl, gh, gn, hR, hN, hl, ok, hnew, q⟩ := h
    obtain ⟨n0, i1, i3, iok, ind, g5, gS, l0, lh, h3⟩ := ok
    obtain ⟨ap, li, ys, e, hT, hLi, hPi⟩ := hR
    cases e
    have hip := Paired.len hPi
    have hT1 := gh.tup hT
    refine ⟨_, rfl, a, _, _, _, rfl, rfl, hT1, rfl, _, rfl, nl, _, rfl, .inl (SqL.of hN), rfl, flat_strs ns, _, rfl, ?_⟩
    refine iteBF ?_ ?_
    · show inV (.str nm) (ns.map V.str) = false
      rw [inV_strs]; exact decide_eq_false hnew
    refine ⟨_, rfl, a, _, _, _, rfl, rfl, hT1, rfl, rfl, _, rfl, iteNe (str_ne_empty n0) ?_⟩
    refine ⟨_, rfl, .inl ⟨rfl, _, SqL.of hN⟩, _, rfl, a, _, _, _, rfl, rfl, hT1, rfl, nl, _, _, rfl, rfl, hN, small1000 (by rw [List.length_map]; omega), ?_⟩
    have g1 := gh.mut (o := .lst (ns.map V.str ++ [V.str nm])) gn
    generalize hH1 : upd H nl (.lst (ns.map V.str ++ [V.str nm])) = H1 at g1
    have hN1 : H1 nl = some (.lst (ns.map V.str ++ [V.str nm])) := by rw [← hH1]; exact upd_same
    have hT2 := g1.tup hT
    refine ⟨_, rfl, a, _, _, _, rfl, rfl, hT2, rfl, li, ys, rfl, .inl (g1.seq hLi), _, _, rfl, rfl, _, rfl, ?_⟩
    refine iteDT (by omega) ⟨_, _, rfl, rfl, _, rfl, iteNT (decide_eq_true (by omega)) ?_⟩
    refine ⟨(by show 0 ≤ sizeLine; decide), fun il hil => ?_⟩
    have gil : G il = none := Same.free g1 hil
    have nil : nl ≠ il := ne_of_none hN1 hil
    refine ⟨_, rfl, a, _, _, _, rfl, rfl, ((g1.keep (Keep.new hil)).tup hT), rfl, li, rfl, ⟨ys, (g1.keep (Keep.new hil)).seq hLi⟩, ?_⟩
    refine for_list (K := K) (a := li) (xs := ys) (fun i σ H' => ∃ v, Keep H1 H' ∧ σ = [some (.ref a), some (.ref nl), some (.ref il), v] ∧ H' il = some (.lst ((nms0 (ips.take i)).map V.str)))
      ⟨none, Keep.new hil, rfl, upd_same⟩ (fun i σ H' _ ⟨_, k, _, _⟩ => (g1.keep k).seq hLi) ?_ ?_
    · rintro i x σ H' hi ⟨v, k, rfl, hI⟩
      obtain ⟨p, hp, hRp⟩ := Paired.at hPi hi
      obtain ⟨pa, rfl, hTp⟩ := hRp
      have hTp' := (g1.keep k).tup hTp
      have hu : ∃ u, atI p.vs 0 = some u ∧ scal u (V.str "rows") = true ∧ u ≠ V.str "rows" := by
        cases p with
        | say t => exact ⟨_, rfl, rfl, say_rows⟩
        | ask nm sg lo hi => exact ⟨_, rfl, rfl, ask_rows⟩
      obtain ⟨u, hu1, hu2, hu3⟩ := hu
      refine ⟨_, rfl, pa, _, _, _, rfl, rfl, hTp', hu1, hu2, _, rfl, iteNe hu3 ?_⟩
      have hlen : (nms0 (ips.take i)).length ≤ 100 := by
        have h1 := List.length_filterMap_le nm0 (ips.take i)
        rw [List.length_take] at h1
        unfold nms0; omega
      refine ⟨_, rfl, _, rfl, pa, il, p, nms0 (ips.take i), G, rfl, g1.keep k, gil, hTp, hI, hlen, iok p (mem_at hp), (fun n hn => nm0_new ind hp hn), fun H2 h1 h2 => ?_⟩
      refine ⟨some (.ref pa), fun b o e => ?_, rfl, ?_⟩
      · have hb : b ≠ il := ne_of_none e hil
        rw [h1 b hb]; exact k _ _ e
      · rw [h2, nms0_take ips hp]
        cases p <;> rfl
    · rintro σ H' ⟨v, k, rfl, hI⟩
      have hT3 := (g1.keep k).tup hT
      refine ⟨_, rfl, a, _, _, _, rfl, rfl, hT3, rfl, gap, 0, 5, rfl, (by omega), (by omega), by decide, gS, ?_⟩
      refine ⟨_, rfl, a, _, _, _, rfl, rfl, hT3, rfl, _, rfl, a, _, _, _, rfl, rfl, hT3, rfl, lo, hi, 3, rfl, l0, lh, h3, ?_⟩
      refine q _ (fun b o hb e => k _ _ (by rw [← hH1, upd_ne hb]; exact e)) ?_
      rw [k _ _ hN1]
      simp

abbrev s_copied : Stmt := top 21
abbrev n_copied : List Str := ["piece"]
theorem sc_copied : FnScope n_copied ["piece"] (defScope s_copied) := ⟨rfl, rfl, rfl, by decide +kernel, rfl, by decide +kernel, by decide +kernel⟩

theorem dn_copied (D : Df K mg "copied" s_copied ["piece"]) (B : Bl mg) : Dn P w K mg base CX0 1 "copied" (sp_copied K) := by
  refine .of D fun f fd F => F.ok sc_copied (fun vs H Q E h => ?_) (fun cdv A outer s H vs Q E hr h => ?_)
  · (obtain ⟨_, _, _, rfl, _⟩ := h; rfl)
  · have hu := hu_of hr
    have hu64 : _ := hr.units
    refine ⟨_, (pss_cons (ps_if (pt_cmpR op_eq (pe_ix (ixT (K := K) rfl) (pv 0) pe_int (fun _ _ => rfl)) pe_str (nomark _)) (pss_one (ps_ret (pe_tup (pa_cons pe_str (pa_cons (pe_ix (ixT (K := K) rfl) (pv 0) pe_int (fun _ _ => rfl)) (pa_cons (pe_callTy (callList (K := K) rfl) rfl B.list (by decide +kernel) (pa_cons (pe_ix (ixT (K := K) rfl) (pv 0) pe_int (fun _ _ => rfl)) pa_nil)) (pa_cons (pe_ix (ixT (K := K) rfl) (pv 0) pe_int (fun _ _ => rfl)) (pa_cons (pe_ix (ixT (K := K) rfl) (pv 0) pe_int (fun _ _ => rfl)) (pa_cons (pe_ix (ixT (K := K) rfl) (pv 0) pe_int (fun _ _ => rfl)) pa_nil))))))))) pss_nil)
      (pss_one (ps_ret (pv 0)))), ?_⟩
    obtain ⟨v, ys, p, rfl, hR, q⟩ := h
    cases p with
    | p0 p =>
      obtain ⟨a, rfl, hT⟩ := hR
      have hu : ∃ u, atI p.vs 0 = some u ∧ scal u (V.str "rows") = true ∧ u ≠ V.str "rows" := by
        cases p with
        | say t => exact ⟨_, rfl, rfl, say_rows⟩
        | ask nm sg lo hi => exact ⟨_, rfl, rfl, ask_rows⟩
      obtain ⟨u, hu1, hu2, hu3⟩ := hu
      refine ⟨_, rfl, a, _, _, _, rfl, rfl, hT, hu1, hu2, _, rfl, iteNe hu3 ?_⟩
      exact ⟨_, rfl, q _ _ (Keep.refl _) rfl⟩
    | rows nm ips gap lo hi =>
      obtain ⟨a, l, rfl, hT, hL, hP⟩ := hR
      refine ⟨_, rfl, a, _, _, _, rfl, rfl, hT, rfl, rfl, _, rfl, iteEq ?_⟩
      refine ⟨_, rfl, a, _, _, _, rfl, rfl, hT, rfl, _, rfl, a, _, _, _, rfl, rfl, hT, rfl, l, ys, rfl, .inl hL, fun n hn => ?_⟩
      have k1 : Keep H (upd H n (.lst ys)) := Keep.new hn
      have hT1 := k1.same.tup hT
      refine ⟨_, rfl, a, _, _, _, rfl, rfl, hT1, rfl, _, rfl, a, _, _, _, rfl, rfl, hT1, rfl, _, rfl, a, _, _, _, rfl, rfl, hT1, rfl, ?_⟩
      refine ⟨(by show 6 ≤ sizeLine; decide), fun t ht => ?_⟩
      have k2 := k1.trans (Keep.new (o := .tup [.str "rows", .str nm, .ref n, .str gap, .int lo, .int hi]) ht)
      exact q _ _ k2 ⟨t, n, rfl, k1.free ht, upd_same, hn, Keep.new ht _ _ upd_same⟩

abbrev s_Form___init__ : Stmt := inClass (top 20) 0
abbrev n_Form___init__ : List Str := ["self", "pieces", "names", "piece"]
theorem sc_Form___init__ : FnScope n_Form___init__ ["self", "pieces"] (defScope s_Form___init__) := ⟨rfl, rfl, rfl, by decide +kernel, rfl, by decide +kernel, by decide +kernel⟩

theorem fn_Form___init__ (B : Bl mg) (d_look_at_rows : Dn P w K mg base CX0 3 "look_at_rows" (sp_look_at_rows K))  (d_look_at_piece : Dn P w K mg base CX0 2 "look_at_piece" (sp_look_at_piece K))  (d_copied : Dn P w K mg base CX0 1 "copied" (sp_copied K))  {f : Addr} {fd : FuncData} (F : Fun K "__init__" "Form.__init__" s_Form___init__ f fd) : FnOk P w K mg base CX0 4 f fd ["self", "pieces"] (sp_Form___init__ K) := by
  refine F.ok sc_Form___init__ (fun vs H Q E h => ?_) (fun cdv A outer s H vs Q E hr h => ?_)
  · (obtain ⟨_, _, _, _, _, _, _, rfl, _⟩ := h; rfl)
  · have hu := hu_of hr
    have hu64 : _ := hr.units
    refine ⟨_, (pss_cons (ps_if (pt_not (pt_chain op_le op_le pe_int (pe_callB (callLen (K := K) rfl) rfl B.len PySem.boot_len (pa_cons (pv 1) pa_nil)) pe_int)) (pss_one ps_never) pss_nil)
      (pss_cons (ps_set (i := 2) sc_Form___init__.nd rfl (Or.inl rfl) (pe_lst pa_nil))
      (pss_cons (ps_for PassesOwn.never rfl (pi_list (pv 1)) (pg_name (i := 3) sc_Form___init__.nd rfl (Or.inl rfl))
      (pss_one (ps_if (pt_cmpR op_eq (pe_ix (ixT (K := K) rfl) (pv 3) pe_int (fun _ _ => rfl)) pe_str (nomark _)) (pss_one (ps_expr (cD d_look_at_rows hr (by decide) rfl (pa_cons (pv 3) (pa_cons (pv 2) pa_nil))))) (pss_one (ps_expr (cD d_look_at_piece hr (by decide) rfl (pa_cons (pv 3) (pa_cons (pv 2) pa_nil))))))))
      (pss_one (ps_fld (pv 0) (pe_lc (own := [("piece", 3)]) (g := gName 3) rfl sc_Form___init__.nd (pi_list (pv 1)) (blkOk_by (N := n_Form___init__) (sc := defScope s_Form___init__) (by decide +kernel)) (fun _ _ _ _ _ => pg_name (i := 3) sc_Form___init__.nd rfl (Or.inl rfl)) (fun _ _ _ _ _ => pts_nil) (fun _ _ _ _ _ => (cD d_copied hr (by decide) rfl (pa_cons (pv 3) pa_nil)))) rfl))))), ?_⟩
    obtain ⟨x, dx, C, h0, ys, ps, H0, rfl, nx, ndx, nex, rfl, cC, nP, hL, hP, ok, q⟩ := h
    have hxp := Paired.len hP
    have h1 := ok.l1
    have h6 := ok.l6
    have k0 : Keep H0 (upd (upd H0 dx (.own x)) x (.ins C dx [])) := fun b o e => by rw [upd_ne (ne_of_none e nx), upd_ne (ne_of_none e ndx)]; exact e
    have hX : (upd (upd H0 dx (.own x)) x (.ins C dx [])) x = some (.ins C dx []) := upd_same
    generalize upd (upd H0 dx (.own x)) x (.ins C dx []) = H at k0 hX hr
    refine ⟨_, rfl, h0, ys, rfl, .inl (k0.same.seq hL), _, _, rfl, rfl, _, rfl, iteDT (by omega) ⟨_, _, rfl, rfl, _, rfl, iteNT (decide_eq_true (by omega)) ?_⟩⟩
    refine ⟨(by show 0 ≤ sizeLine; decide), fun nl hnl => ?_⟩
    have gn : H0 nl = none := k0.free hnl
    have xnl : x ≠ nl := ne_of_none hX hnl
    have k1 : Keep H0 (upd H nl (.lst [])) := k0.trans (Keep.new hnl)
    refine ⟨_, rfl, h0, rfl, ⟨ys, k1.same.seq hL⟩, for_list (K := K) (a := h0) (xs := ys) (fun i σ H' => ∃ v, Keep H0 H' ∧ σ = [some (.ref x), some (.ref h0), some (.ref nl), v] ∧ H' x = some (.ins C dx []) ∧ H' nl = some (.lst ((nms (ps.take i)).map V.str)))
      ⟨none, k1, rfl, by rw [upd_ne xnl]; exact hX, upd_same⟩ (fun i σ H' _ ⟨_, k, _, _, _⟩ => k.same.seq hL) ?_ ?_⟩
    · rintro i y σ H' hyi ⟨v, k, rfl, hX', hN⟩
      obtain ⟨p, hp, hR⟩ := Paired.at hP hyi
      have okp := ok.ok _ (mem_at hp)
      have hlen : (nms (ps.take i)).length ≤ 100 := by
        have z1 := List.length_filterMap_le nmP (ps.take i)
        rw [List.length_take] at z1
        unfold nms; omega
      cases p with
      | p0 p =>
        obtain ⟨a, rfl, hT⟩ := hR
        have hT' := k.same.tup hT
        have hu : ∃ u, atI p.vs 0 = some u ∧ scal u (V.str "rows") = true ∧ u ≠ V.str "rows" := by
          cases p with
          | say t => exact ⟨_, rfl, rfl, say_rows⟩
          | ask nm sg lo hi => exact ⟨_, rfl, rfl, ask_rows⟩
        obtain ⟨u, hu1, hu2, hu3⟩ := hu
        refine ⟨_, rfl, a, _, _, _, rfl, rfl, hT', hu1, hu2, _, rfl, iteNe hu3 ?_⟩
        refine ⟨_, rfl, _, rfl, a, nl, p, nms (ps.take i), H0, rfl, k.same, gn, hT, hN, hlen, okp, (fun n hn => nm_new ok.nd hp hn), fun H2 z1 z2 => ?_⟩
        refine ⟨some (.ref a), fun b o e => ?_, rfl, ?_, ?_⟩
        · rw [z1 b (ne_of_none e gn)]; exact k _ _ e
        · rw [z1 x xnl]; exact hX'
        · rw [z2, nms_take ps hp]
          cases p <;> rfl
      | rows nm ips gap lo hi =>
        obtain ⟨a, l, items, rfl, hT, hLi, hPi⟩ := hR
        refine ⟨_, rfl, a, _, _, _, rfl, rfl, k.same.tup hT, rfl, rfl, _, rfl, iteEq ?_⟩
        refine ⟨_, rfl, _, rfl, a, nl, nm, ips, gap, lo, hi, nms (ps.take i), H0, rfl, k.same, gn, ⟨a, l, items, rfl, hT, hLi, hPi⟩, hN, hlen, okp, nm_new ok.nd hp rfl, fun H2 z1 z2 => ?_⟩
        refine ⟨some (.ref a), fun b o e => z1 b o (ne_of_none e gn) (k _ _ e), rfl, z1 x _ xnl hX', ?_⟩
        rw [z2, nms_take ps hp]
        rfl
    · rintro σ H' ⟨v, k, rfl, hX', hN⟩
      refine ⟨_, rfl, h0, rfl, ⟨ys, k.same.seq hL⟩, fun D hD => ?_⟩
      have xD : x ≠ D := ne_of_none hX' hD
      have kD := k.trans (Keep.new (o := .lst []) hD)
      have DH0 : H0 D = none := k.free hD
      refine lc_list (K := K) (a := h0) (xs := ys) (fun j H2 => ∃ zs, Keep H0 H2 ∧ H2 x = some (.ins C dx []) ∧ H2 D = some (.lst zs) ∧ zs.length = j ∧ (∀ (i : Nat) y z p, ys[i]? = some y → zs[i]? = some z → ps[i]? = some p → CopyE K H0 (hide H2 [D, x]) y z p))
        ⟨[], kD, by rw [upd_ne xD]; exact hX', upd_same, rfl, fun i y z p _ e _ => by simp at e⟩ (fun j H2 _ ⟨_, k2, _⟩ => k2.same.seq hL) ?_ ?_
      · rintro j y H2 hj ⟨zs, k2, hX2, hD2, hl2, hC⟩
        obtain ⟨p, hp, hR⟩ := Paired.at hP hj
        obtain ⟨items, hRi⟩ := hR.items
        refine ⟨rfl, ?_⟩
        unfold tYes
        dsimp only
        rw [if_pos rfl]
        have hj6 := at_lt hp
        refine ⟨_, rfl, y, items, p, rfl, hRi.mono k2.same, fun z H3 k3 c3 => ?_⟩
        have k23 := k2.trans k3
        refine ⟨zs, k3 _ _ hD2, small1000 (by omega), zs ++ [z], k23.mut DH0, by rw [upd_ne xD]; exact k3 _ _ hX2, upd_same, by simp [hl2], fun i y' z' p' e1 e2 e3 => ?_⟩
        rw [hide_upd (by simp)]
        by_cases hij : i < zs.length
        · rw [List.getElem?_append_left hij] at e2
          obtain ⟨its, r1, r2⟩ := hC i y' z' p' e1 e2 e3
          exact ⟨its, r1, r2.mono (hide_keep k3 _)⟩
        · have hij' : i = zs.length := by
            have := at_lt e2
            simp at this; omega
          subst hij'
          rw [List.getElem?_append_right (Nat.le_refl _)] at e2
          simp at e2
          subst e2
          rw [hl2] at e1 e3
          rw [hj] at e1; cases e1
          rw [hp] at e3; cases e3
          exact ⟨items, hRi, c3.hide k2 (fun a ha => by
            simp at ha
            rcases ha with rfl | rfl
            · rw [hD2]; simp
            · rw [hX2]; simp)⟩
      · rintro H2 ⟨zs, k2, hX2, hD2, hl2, hC⟩
        refine ⟨_, rfl, x, C, dx, [], rfl, hX2, cC, nP, (by show 0 < 1000; decide), ?_⟩
        refine q D zs _ (k2.mut nx) upd_same DH0 (by rw [upd_ne xD.symm]; exact hD2) hl2 fun i y z p e1 e2 e3 => ?_
        obtain ⟨its, r1, r2⟩ := hC i y z p e1 e2 e3
        refine ⟨its, r1, r2.mono ?_⟩
        rw [← hide_upd (H := H2) (l := [D, x]) (a := x) (o := .ins C dx (putF "pieces" (.ref D) [])) (by simp)]
        exact hide_same _ _

abbrev s_Walk_step : Stmt := inClass (top 7) 1
abbrev n_Walk_step : List Str := ["self", "one", "told"]
theorem sc_Walk_step : FnScope n_Walk_step ["self", "one", "told"] (defScope s_Walk_step) := ⟨rfl, rfl, rfl, by decide +kernel, rfl, by decide +kernel, by decide +kernel⟩

theorem fn_Walk_step (B : Bl mg)(cW : CW K C_Walk_)  {f : Addr} {fd : FuncData} (F : Fun K "step" "Walk.step" s_Walk_step f fd) : FnOk P w K mg base CX0 1 f fd ["self", "one", "told"] (sp_Walk_step K C_Walk_) := by
  refine F.ok sc_Walk_step (fun vs H Q E h => ?_) (fun cdv A outer s H vs Q E hr h => ?_)
  · (obtain ⟨_, _, _, _, _, _, _, _, rfl, _⟩ := h; rfl)
  · have hu := hu_of hr
    have hu64 : _ := hr.units
    refine ⟨_, (pss_cons (ps_expr (pe_bm PySem.F.plainAttrs_list PySem.F.slot_list_append PySem.F.type_list_append mt_append (pe_fld (pv 0) rfl) (pa_cons (pv 1) pa_nil)))
      (pss_cons (ps_expr (pe_bm PySem.F.plainAttrs_list PySem.F.slot_list_append PySem.F.type_list_append mt_append (pe_fld (pv 0) rfl) (pa_cons (pv 2) pa_nil)))
      (pss_one (ps_ret (pe_op op_sub (pe_callB (callLen (K := K) rfl) rfl B.len PySem.boot_len (pa_cons (pe_fld (pv 0) rfl) pa_nil)) pe_int))))), ?_⟩
    obtain ⟨x, s, t, W, sv, tv, a, G, rfl, gh, ⟨⟨dx, hx⟩, ⟨xs, hs, ps⟩, ⟨ys, ht, pt⟩, gs, gt, st⟩, ra, rt, hl, q⟩ := h
    have lx := Paired.len ps
    have ly := Paired.len pt
    have ls : (F0 s t).lookup ("steps" : Str) = some (.ref s) := rfl
    have lt : (F0 s t).lookup ("told" : Str) = some (.ref t) := rfl
    have xs0 : x ≠ s := fun z => by rw [z, hs] at hx; cases hx
    have xt0 : x ≠ t := fun z => by rw [z, ht] at hx; cases hx
    refine ⟨_, rfl, x, C_Walk_, dx, F0 s t, _, rfl, hx, cW.cl, cW.ns, ls, .inl ⟨rfl, _, SqL.of hs⟩, _, rfl, s, xs, sv, rfl, rfl, hs, lt_line (by omega), ?_⟩
    refine ⟨_, rfl, x, C_Walk_, dx, F0 s t, _, rfl, (upd_ne xs0).trans hx, cW.cl, cW.nt, lt, .inl ⟨rfl, _, SqL.of ((upd_ne st.symm).trans ht)⟩, _, rfl, t, ys, tv, rfl, rfl, (upd_ne st.symm).trans ht, lt_line (by omega), ?_⟩
    have hs2 : (upd (upd H s (.lst (xs ++ [sv]))) t (.lst (ys ++ [tv]))) s = some (.lst (xs ++ [sv])) := (upd_ne st).trans upd_same
    have hx2 : (upd (upd H s (.lst (xs ++ [sv]))) t (.lst (ys ++ [tv]))) x = some (.ins C_Walk_ dx (F0 s t)) := (upd_ne xt0).trans ((upd_ne xs0).trans hx)
    refine ⟨_, rfl, x, C_Walk_, dx, F0 s t, _, rfl, hx2, cW.cl, cW.ns, ls, s, _, rfl, .inl (SqL.of hs2), _, _, rfl, rfl, ?_⟩
    have w1 : Wm [s, t] G H G (upd (upd H s (.lst (xs ++ [sv]))) t (.lst (ys ++ [tv]))) := ((Wm.refl gh).mut (by simp) gs).mut (by simp) gt
    have := q _ w1 ⟨⟨dx, hx2⟩, ⟨_, hs2, Paired.snoc ps ra⟩, ⟨_, upd_same, Paired.snoc pt rt⟩, gs, gt, st⟩
    rw [List.length_append, show ([sv] : List V).length = 1 from rfl, lx]
    show Q (V.int (((W.length + 1 : Nat) : Int) - 1)) _
    rw [show (((W.length + 1 : Nat) : Int) - 1) = ((W.length : Nat) : Int) by omega]
    exact this

abbrev s_Walk_say : Stmt := inClass (top 7) 3
abbrev n_Walk_say : List Str := ["self", "text", "after", "sign"]
theorem sc_Walk_say : FnScope n_Walk_say ["self", "text", "after"] (defScope s_Walk_say) := ⟨rfl, rfl, rfl, by decide +kernel, rfl, by decide +kernel, by decide +kernel⟩

theorem fn_Walk_say (B : Bl mg) (t_Walk_step : Tn P w K mg base CX0 1 C_Walk_ "step" (sp_Walk_step K C_Walk_)) (cW : CW K C_Walk_)  {f : Addr} {fd : FuncData} (F : Fun K "say" "Walk.say" s_Walk_say f fd) : FnOk P w K mg base CX0 2 f fd ["self", "text", "after"] (sp_Walk_say K C_Walk_) := by
  refine F.ok sc_Walk_say (fun vs H Q E h => ?_) (fun cdv A outer s H vs Q E hr h => ?_)
  · (obtain ⟨_, _, _, _, _, _, rfl, _⟩ := h; rfl)
  · have hu := hu_of hr
    have hu64 : _ := hr.units
    refine ⟨_, (pss_cons (ps_for PassesOwn.never rfl (pi_revS rfl B.reversed (pv 1)) (pg_name (i := 3) sc_Walk_say.nd rfl (Or.inl rfl))
      (pss_one (ps_set (i := 2) sc_Walk_say.nd rfl (Or.inl rfl) (cT t_Walk_step hr (by decide) (pv 0) (pa_cons (pe_tup (pa_cons pe_str (pa_cons (pv 3) (pa_cons (pv 2) pa_nil)))) (pa_cons pe_non pa_nil))))))
      (pss_one (ps_ret (pv 2)))), ?_⟩
    obtain ⟨x, s, t, b, tx, G, rfl, gh, hW, ok, hl, q⟩ := h
    refine ⟨_, rfl, tx, rfl, small_line (by omega), ?_⟩
    refine for_revS (x := tx) (fun i σ H' => ∃ v3 G', σ = [some (.ref x), some (.str tx), some (.int ((tellB (tx.cps.toList.drop (tx.length - i)) b).2 : Nat)), v3] ∧ Wm [s, t] G H G' H' ∧ WH K C_Walk_ G' H' x s t (tellB (tx.cps.toList.drop (tx.length - i)) b).1)
      ⟨none, G, ?_, Wm.refl gh, ?_⟩ ?_ ?_
    · have e0 : tx.cps.toList.drop (tx.length - 0) = [] := by rw [Nat.sub_zero]; exact List.drop_eq_nil_of_le (Nat.le_of_eq Array.length_toList)
      rw [e0]; rfl
    · have e0 : tx.cps.toList.drop (tx.length - 0) = [] := by rw [Nat.sub_zero]; exact List.drop_eq_nil_of_le (Nat.le_of_eq Array.length_toList)
      rw [e0]; exact hW
    · rintro i c σ H' hi hc ⟨v3, G', rfl, W1, hW1⟩
      have hd : tx.cps.toList.drop (tx.length - (i + 1)) = c :: tx.cps.toList.drop (tx.length - i) := by
        have hc2 : tx.cps.toList[tx.length - 1 - i]? = some c := by rw [Array.getElem?_toList]; exact hc
        have e1 : tx.length - (i + 1) = tx.length - 1 - i := by omega
        have e2 : tx.length - i = tx.length - 1 - i + 1 := by omega
        rw [e1, e2]
        exact drop_at hc2
      have hlen := (tellB_ok (t := tx.cps.toList.drop (tx.length - i)) ok).2.2
      have hdl : (tx.cps.toList.drop (tx.length - i)).length ≤ tx.length := by rw [List.length_drop]; have : tx.cps.toList.length = tx.length := Array.length_toList; omega
      have esb : tellB (c :: tx.cps.toList.drop (tx.length - i)) b = addB (.sign ⟨#[c]⟩ (tellB (tx.cps.toList.drop (tx.length - i)) b).2 none) (tellB (tx.cps.toList.drop (tx.length - i)) b).1 := rfl
      rw [hd, esb]
      generalize tellB (tx.cps.toList.drop (tx.length - i)) b = b1 at hW1 hlen
      obtain ⟨dx, hx⟩ := hW1.hx
      refine ⟨_, rfl, x, dx, F0 s t, rfl, hx, rfl, _, rfl, _, rfl, (by show 3 ≤ sizeLine; decide), fun p np => ?_⟩
      have W2 := (Wd.refl W1.gh).new (o := .tup [.str "sign", .str ⟨#[c]⟩, .int (b1.2 : Nat)]) np
      refine ⟨x, s, t, b1.1, .ref p, .non, .sign ⟨#[c]⟩ b1.2 none, _, rfl, W2.gh, hW1.mono W2, ⟨p, rfl, SqT.of upd_same⟩, rfl, by omega, fun H2 W3 hW3 => ?_⟩
      exact ⟨_, _, rfl, W1.trans (W2.wm.trans W3), hW3⟩
    · rintro σ H' ⟨v3, G', rfl, W1, hW1⟩
      rw [Nat.sub_self, List.drop_zero] at hW1 ⊢
      exact ⟨_, rfl, q _ _ W1 hW1⟩

abbrev s_Walk_ask : Stmt := inClass (top 7) 4
abbrev n_Walk_ask : List Str := ["self", "piece", "after", "here", "count"]
theorem sc_Walk_ask : FnScope n_Walk_ask ["self", "piece", "after"] (defScope s_Walk_ask) := ⟨rfl, rfl, rfl, by decide +kernel, rfl, by decide +kernel, by decide +kernel⟩

theorem fn_Walk_ask (B : Bl mg) (t_Walk_step : Tn P w K mg base CX0 1 C_Walk_ "step" (sp_Walk_step K C_Walk_)) (cW : CW K C_Walk_)  {f : Addr} {fd : FuncData} (F : Fun K "ask" "Walk.ask" s_Walk_ask f fd) : FnOk P w K mg base CX0 2 f fd ["self", "piece", "after"] (sp_Walk_ask K C_Walk_) := by
  refine F.ok sc_Walk_ask (fun vs H Q E h => ?_) (fun cdv A outer s H vs Q E hr h => ?_)
  · (obtain ⟨_, _, _, _, _, _, _, _, _, _, rfl, _⟩ := h; rfl)
  · have hu := hu_of hr
    have hu64 : _ := hr.units
    refine ⟨_, (pss_cons (ps_set (i := 2) sc_Walk_ask.nd rfl (Or.inl rfl) (cT t_Walk_step hr (by decide) (pv 0) (pa_cons (pe_tup (pa_cons pe_str (pa_cons (pv 2) pa_nil))) (pa_cons (pe_tup (pa_cons pe_str (pa_cons (pe_ix (ixT (K := K) rfl) (pv 1) pe_int (fun _ _ => rfl)) pa_nil))) pa_nil))))
      (pss_cons (ps_set (i := 3) sc_Walk_ask.nd rfl (Or.inl rfl) (pv 2))
      (pss_cons (ps_for PassesOwn.never rfl (pi_range3 rfl B.range (pa_cons (pe_ix (ixT (K := K) rfl) (pv 1) pe_int (fun _ _ => rfl)) (pa_cons pe_int (pa_cons (pe_un un_neg pe_int) pa_nil)))) (pg_name (i := 4) sc_Walk_ask.nd rfl (Or.inl rfl))
      (pss_cons (ps_set (i := 3) sc_Walk_ask.nd rfl (Or.inl rfl) (cT t_Walk_step hr (by decide) (pv 0) (pa_cons (pe_tup (pa_cons pe_str (pa_cons (pe_ix (ixT (K := K) rfl) (pv 1) pe_int (fun _ _ => rfl)) (pa_cons (pv 3) pa_nil)))) (pa_cons (pe_tup (pa_cons pe_str (pa_cons (pe_ix (ixT (K := K) rfl) (pv 1) pe_int (fun _ _ => rfl)) pa_nil))) pa_nil))))
      (pss_one (ps_if (pt_cmpR op_gt (pv 4) (pe_ix (ixT (K := K) rfl) (pv 1) pe_int (fun _ _ => rfl)) (nomark _)) (pss_one (ps_set (i := 3) sc_Walk_ask.nd rfl (Or.inl rfl) (cT t_Walk_step hr (by decide) (pv 0) (pa_cons (pe_tup (pa_cons pe_str (pa_cons (pv 2) (pa_cons (pv 3) pa_nil)))) (pa_cons pe_non pa_nil))))) pss_nil))))
      (pss_one (ps_ret (cT t_Walk_step hr (by decide) (pv 0) (pa_cons (pe_tup (pa_cons pe_str (pa_cons (pv 3) pa_nil))) (pa_cons (pe_tup (pa_cons pe_str (pa_cons (pe_ix (ixT (K := K) rfl) (pv 1) pe_int (fun _ _ => rfl)) pa_nil))) pa_nil)))))))), ?_⟩
    obtain ⟨x, s, t, p, b, nm, sg, lo, hi, G, rfl, gh, hp, hW, ok, hl, okp, q⟩ := h
    obtain ⟨_, _, _, _, _, l0, lh, h4⟩ := okp
    obtain ⟨dx, hx⟩ := hW.hx
    have at1 : atI (P0.ask nm sg lo hi).vs 1 = some (.str nm) := rfl
    have at2 : atI (P0.ask nm sg lo hi).vs 2 = some (.str sg) := rfl
    have at3 : atI (P0.ask nm sg lo hi).vs 3 = some (.int lo) := rfl
    have at4 : atI (P0.ask nm sg lo hi).vs 4 = some (.int hi) := rfl
    have hpH : ∀ {G' H'}, Wm [s, t] G H G' H' → SqT K H' p (P0.ask nm sg lo hi).vs := fun w => w.gh.tup (w.gg.tup hp)
    refine ⟨_, rfl, x, dx, F0 s t, rfl, hx, rfl, _, rfl, (by show 2 ≤ sizeLine; decide), fun p1 np1 => ?_⟩
    have W1 := (Wd.refl gh).new (o := .tup [.str "mark", .int (b.2 : Nat)]) np1
    have r1 : StR K (upd G p1 (.tup [.str "mark", .int (b.2 : Nat)])) (.ref p1) (.mark b.2 .closed nm) := ⟨p1, rfl, SqT.of upd_same⟩
    generalize upd G p1 (.tup [.str "mark", .int (b.2 : Nat)]) = G1 at W1 r1
    generalize upd H p1 (.tup [.str "mark", .int (b.2 : Nat)]) = H1 at W1 ⊢
    refine ⟨_, rfl, p, _, _, _, rfl, rfl, W1.hh.same.tup (gh.tup hp), at1, (by show 2 ≤ sizeLine; decide), fun p2 np2 => ?_⟩
    have W2 := W1.new (o := .tup [.str "closed", .str nm]) np2
    have r2 : TlR K (upd G1 p2 (.tup [.str "closed", .str nm])) (.ref p2) (.mark b.2 .closed nm) := ⟨p2, rfl, SqT.of upd_same⟩
    have r1 := r1.mono (Same.new (o := .tup [.str "closed", .str nm]) (Same.free W1.gh np2))
    generalize upd G1 p2 (.tup [.str "closed", .str nm]) = G2 at W2 r1 r2
    generalize upd H1 p2 (.tup [.str "closed", .str nm]) = H2 at W2 ⊢
    refine ⟨x, s, t, b.1, .ref p1, .ref p2, .mark b.2 .closed nm, G2, rfl, W2.gh, hW.mono W2, r1, r2, by omega, fun H3 W3 hW3 => ?_⟩
    have W3 := W2.wm.trans W3
    obtain ⟨o1, l1⟩ := mark_ok (m := .closed) (nm := nm) ok.1 ok.2
    have ll := fun j => askLoop_ok (nm := nm) (sg := sg) (lo := lo.toNat) (hi := hi.toNat) o1 j
    clear r1 r2
    refine ⟨_, rfl, ?_⟩
    refine ⟨_, rfl, p, _, _, _, rfl, rfl, hpH W3, at4, 1, rfl, hi, 0, -1, hi.toNat, rfl, (by have := RgC.neg (i := hi) (j := 0) (by omega) (by omega) (by decide) (by decide); rwa [Int.sub_zero] at this), ?_⟩
    refine for_rangeC (lo := hi) (c := -1) (n := hi.toNat) (fun i σ H' => ∃ v4 G', σ = [some (.ref x), some (.ref p), some (.int ((addB (.mark b.2 .closed nm) b.1).2 : Nat)), some (.int ((askLoop nm sg lo.toNat hi.toNat (addB (.mark b.2 .closed nm) b.1) i).2 : Nat)), v4] ∧ Wm [s, t] G H G' H' ∧
        WH K C_Walk_ G' H' x s t (askLoop nm sg lo.toNat hi.toNat (addB (.mark b.2 .closed nm) b.1) i).1)
      ⟨none, G2, rfl, W3, hW3⟩ ?_ ?_
    · rintro i σ H' hi2 ⟨v4, G', rfl, W4, hW4⟩
      obtain ⟨k1, k2, k3⟩ := ll i
      rw [askLoop_succ]
      generalize askLoop nm sg lo.toNat hi.toNat (addB (.mark b.2 .closed nm) b.1) i = h1 at hW4 k1 k2 k3
      obtain ⟨dx4, hx4⟩ := hW4.hx
      refine ⟨_, rfl, x, dx4, F0 s t, rfl, hx4, rfl, _, rfl, p, _, _, _, rfl, rfl, hpH W4, at2, _, rfl, (by show 3 ≤ sizeLine; decide), fun p3 np3 => ?_⟩
      have W5 := (Wd.refl W4.gh).new (o := .tup [.str "sign", .str sg, .int (h1.2 : Nat)]) np3
      have r3 : StR K (upd G' p3 (.tup [.str "sign", .str sg, .int (h1.2 : Nat)])) (.ref p3) (.sign sg h1.2 (some nm)) := ⟨p3, rfl, SqT.of upd_same⟩
      generalize upd G' p3 (.tup [.str "sign", .str sg, .int (h1.2 : Nat)]) = G5 at W5 r3
      generalize upd H' p3 (.tup [.str "sign", .str sg, .int (h1.2 : Nat)]) = H5 at W5 ⊢
      refine ⟨_, rfl, p, _, _, _, rfl, rfl, W5.hh.same.tup (hpH W4), at1, (by show 2 ≤ sizeLine; decide), fun p4 np4 => ?_⟩
      have W6 := W5.new (o := .tup [.str "sign", .str nm]) np4
      have r4 : TlR K (upd G5 p4 (.tup [.str "sign", .str nm])) (.ref p4) (.sign sg h1.2 (some nm)) := ⟨p4, rfl, SqT.of upd_same⟩
      have r3 := r3.mono (Same.new (o := .tup [.str "sign", .str nm]) (Same.free W5.gh np4))
      generalize upd G5 p4 (.tup [.str "sign", .str nm]) = G6 at W6 r3 r4
      generalize upd H5 p4 (.tup [.str "sign", .str nm]) = H6 at W6 ⊢
      refine ⟨x, s, t, h1.1, .ref p3, .ref p4, .sign sg h1.2 (some nm), G6, rfl, W6.gh, hW4.mono W6, r3, r4, by omega, fun H7 W7 hW7 => ?_⟩
      have W7 := W4.trans (W6.wm.trans W7)
      have l7 : (h1.1 ++ [Wst.sign sg h1.2 (some nm)]).length = h1.1.length + 1 := by rw [List.length_append]; rfl
      refine ⟨_, rfl, _, rfl, p, _, _, _, rfl, rfl, hpH W7, at3, _, _, rfl, rfl, _, rfl, ?_⟩
      unfold askStep
      refine iteDec (fun hc => ?_) (fun hc => ?_)
      · obtain ⟨dx7, hx7⟩ := hW7.hx
        refine ⟨_, rfl, x, dx7, F0 s t, rfl, hx7, rfl, _, rfl, _, rfl, (by show 3 ≤ sizeLine; decide), fun p5 np5 => ?_⟩
        have W8 := (Wd.refl W7.gh).new (o := .tup [.str "choice", .int ((addB (.mark b.2 .closed nm) b.1).2 : Nat), .int (h1.1.length : Nat)]) np5
        refine ⟨x, s, t, _, .ref p5, .non, .choice (addB (.mark b.2 .closed nm) b.1).2 h1.1.length, _, rfl, W8.gh, hW7.mono W8, ⟨p5, rfl, SqT.of upd_same⟩, rfl, by omega, fun H9 W9 hW9 => ?_⟩
        rw [if_pos (show lo.toNat < hi.toNat - i by omega)]
        exact ⟨_, _, rfl, W7.trans (W8.wm.trans W9), hW9⟩
      · rw [if_neg (show ¬ lo.toNat < hi.toNat - i by omega)]
        exact ⟨_, _, rfl, W7, hW7⟩
    · rintro σ H' ⟨v4, G', rfl, W4, hW4⟩
      obtain ⟨k1, k2, k3⟩ := ll hi.toNat
      obtain ⟨dx4, hx4⟩ := hW4.hx
      refine ⟨_, rfl, x, dx4, F0 s t, rfl, hx4, rfl, _, rfl, (by show 2 ≤ sizeLine; decide), fun p3 np3 => ?_⟩
      unfold askB at q
      generalize askLoop nm sg lo.toNat hi.toNat (addB (.mark b.2 .closed nm) b.1) hi.toNat = h1 at hW4 k1 k2 k3 q np3 ⊢
      have W5 := (Wd.refl W4.gh).new (o := .tup [.str "mark", .int (h1.2 : Nat)]) np3
      have r3 : StR K (upd G' p3 (.tup [.str "mark", .int (h1.2 : Nat)])) (.ref p3) (.mark h1.2 .opened nm) := ⟨p3, rfl, SqT.of upd_same⟩
      generalize upd G' p3 (.tup [.str "mark", .int (h1.2 : Nat)]) = G5 at W5 r3
      generalize upd H' p3 (.tup [.str "mark", .int (h1.2 : Nat)]) = H5 at W5 ⊢
      refine ⟨_, rfl, p, _, _, _, rfl, rfl, W5.hh.same.tup (hpH W4), at1, (by show 2 ≤ sizeLine; decide), fun p4 np4 => ?_⟩
      have W6 := W5.new (o := .tup [.str "opened", .str nm]) np4
      have r4 : TlR K (upd G5 p4 (.tup [.str "opened", .str nm])) (.ref p4) (.mark h1.2 .opened nm) := ⟨p4, rfl, SqT.of upd_same⟩
      have r3 := r3.mono (Same.new (o := .tup [.str "opened", .str nm]) (Same.free W5.gh np4))
      generalize upd G5 p4 (.tup [.str "opened", .str nm]) = G6 at W6 r3 r4
      generalize upd H5 p4 (.tup [.str "opened", .str nm]) = H6 at W6 ⊢
      refine ⟨x, s, t, h1.1, .ref p3, .ref p4, .mark h1.2 .opened nm, G6, rfl, W6.gh, hW4.mono W6, r3, r4, by omega, fun H7 W7 hW7 => ?_⟩
      exact q _ _ (W4.trans (W6.wm.trans W7)) hW7

abbrev s_Walk_chain : Stmt := inClass (top 7) 2
abbrev n_Walk_chain : List Str := ["self", "row", "after", "piece"]
theorem sc_Walk_chain : FnScope n_Walk_chain ["self", "row", "after"] (defScope s_Walk_chain) := ⟨rfl, rfl, rfl, by decide +kernel, rfl, by decide +kernel, by decide +kernel⟩

theorem fn_Walk_chain0 (B : Bl mg) (t_Walk_say : Tn P w K mg base CX0 2 C_Walk_ "say" (sp_Walk_say K C_Walk_))  (t_Walk_ask : Tn P w K mg base CX0 2 C_Walk_ "ask" (sp_Walk_ask K C_Walk_)) (cW : CW K C_Walk_)  {f : Addr} {fd : FuncData} (F : Fun K "chain" "Walk.chain" s_Walk_chain f fd) : FnOk P w K mg base CX0 3 f fd ["self", "row", "after"] (sp_Walk_chain0 K C_Walk_) := by
  refine F.ok sc_Walk_chain (fun vs H Q E h => ?_) (fun cdv A outer s H vs Q E hr h => ?_)
  · (obtain ⟨_, _, _, _, _, _, _, _, rfl, _⟩ := h; rfl)
  · have hu := hu_of hr
    have hu64 : _ := hr.units
    refine ⟨_, (pss_cons (ps_for PassesOwn.never rfl (RT.pi_revA rfl B.reversed (pv 1)) (pg_name (i := 3) sc_Walk_chain.nd rfl (Or.inl rfl))
      (pss_one (ps_if (pt_cmpR op_eq (pe_ix (ixT (K := K) rfl) (pv 3) pe_int (fun _ _ => rfl)) pe_str (nomark _)) (pss_one (ps_set (i := 2) sc_Walk_chain.nd rfl (Or.inl rfl) (cT t_Walk_say hr (by decide) (pv 0) (pa_cons (pe_ix (ixT (K := K) rfl) (pv 3) pe_int (fun _ _ => rfl)) (pa_cons (pv 2) pa_nil))))) (pss_one (ps_if (pt_cmpR op_eq (pe_ix (ixT (K := K) rfl) (pv 3) pe_int (fun _ _ => rfl)) pe_str (nomark _)) (pss_one (ps_set (i := 2) sc_Walk_chain.nd rfl (Or.inl rfl) (cT t_Walk_ask hr (by decide) (pv 0) (pa_cons (pv 3) (pa_cons (pv 2) pa_nil))))) (pss_one ps_never))))))
      (pss_one (ps_ret (pv 2)))), ?_⟩
    obtain ⟨x, s, t, l, items, b, ips, G, rfl, gh, hL, hP, hW, ok, hl, hok, h3, q⟩ := h
    have hlen := Paired.len hP
    have e0 : ips.drop (items.length - 0) = [] := List.drop_eq_nil_of_le (by omega)
    refine ⟨_, rfl, l, items, rfl, .inl ⟨gh.seq hL, ?_⟩⟩
    refine RT.for_Itv (xs := items) (fun i σ H' => ∃ v3 G', σ = [some (.ref x), some (.ref l), some (.int ((lineB (ips.drop (items.length - i)) b).2 : Nat)), v3] ∧ Wm [s, t] G H G' H' ∧ WH K C_Walk_ G' H' x s t (lineB (ips.drop (items.length - i)) b).1)
      ⟨none, G, by rw [e0]; rfl, Wm.refl gh, by rw [e0]; exact hW⟩ (fun i σ H' ⟨_, G', _, W1, _⟩ => W1.gh.seq (W1.gg.seq hL)) ?_ ?_
    · rintro i y σ H' hi hy ⟨v3, G', rfl, W1, hW1⟩
      obtain ⟨p, hp, hR⟩ := Paired.at hP hy
      have hd : ips.drop (items.length - (i + 1)) = p :: ips.drop (items.length - i) := by
        have hlt : items.length - 1 - i < ips.length := at_lt hp
        rw [show items.length - (i + 1) = items.length - 1 - i by omega, show items.length - i = items.length - 1 - i + 1 by omega, List.drop_eq_getElem_cons hlt]
        congr 1
        rw [List.getElem?_eq_getElem hlt] at hp
        exact Option.some.inj hp
      have hok1 : ∀ p ∈ ips.drop (items.length - i), ok0 p := fun p hp => hok p (List.mem_of_mem_drop hp)
      obtain ⟨k1, k2, k3⟩ := lineB_ok ok hok1
      have hdl : (ips.drop (items.length - i)).length ≤ 3 := by rw [List.length_drop]; omega
      have okp := hok p (mem_at hp)
      have esb : lineB (p :: ips.drop (items.length - i)) b = p0B p (lineB (ips.drop (items.length - i)) b) := rfl
      rw [hd, esb]
      generalize lineB (ips.drop (items.length - i)) b = b1 at hW1 k1 k2 k3
      obtain ⟨a, rfl, ha⟩ := hR
      have haH : SqT K H' a p.vs := W1.gh.tup (W1.gg.tup ha)
      obtain ⟨dx, hx⟩ := hW1.hx
      cases p with
      | say tx =>
        obtain ⟨_, t12, _⟩ := okp
        refine ⟨_, rfl, a, _, _, _, rfl, rfl, haH, rfl, rfl, _, rfl, iteEq ?_⟩
        refine ⟨_, rfl, x, dx, F0 s t, rfl, hx, rfl, _, rfl, a, _, _, _, rfl, rfl, haH, rfl, _, rfl, ?_⟩
        refine ⟨x, s, t, b1, tx, G', rfl, W1.gh, hW1, k1, by omega, fun G2 H2 W2 hW2 => ?_⟩
        exact ⟨_, _, rfl, W1.trans W2, hW2⟩
      | ask nm sg lo hi =>
        refine ⟨_, rfl, a, _, _, _, rfl, rfl, haH, rfl, rfl, _, rfl, iteNe ask_say ?_⟩
        refine ⟨_, rfl, a, _, _, _, rfl, rfl, haH, rfl, rfl, _, rfl, iteEq ?_⟩
        refine ⟨_, rfl, x, dx, F0 s t, rfl, hx, rfl, _, rfl, _, rfl, ?_⟩
        refine ⟨x, s, t, a, b1, nm, sg, lo, hi, G', rfl, W1.gh, W1.gg.tup ha, hW1, k1, by omega, okp, fun G2 H2 W2 hW2 => ?_⟩
        exact ⟨_, _, rfl, W1.trans W2, hW2⟩
    · rintro σ H' ⟨v3, G', rfl, W1, hW1⟩
      rw [Nat.sub_self, List.drop_zero] at hW1 ⊢
      exact ⟨_, rfl, q _ _ W1 hW1⟩

abbrev s_Walk_rows : Stmt := inClass (top 7) 5
abbrev n_Walk_rows : List Str := ["self", "piece", "after", "here", "count"]
theorem sc_Walk_rows : FnScope n_Walk_rows ["self", "piece", "after"] (defScope s_Walk_rows) := ⟨rfl, rfl, rfl, by decide +kernel, rfl, by decide +kernel, by decide +kernel⟩

theorem fn_Walk_rows (B : Bl mg) (t_Walk_step : Tn P w K mg base CX0 1 C_Walk_ "step" (sp_Walk_step K C_Walk_))  (t_Walk_chain : Tn P w K mg base CX0 3 C_Walk_ "chain" (sp_Walk_chain0 K C_Walk_))  (t_Walk_say : Tn P w K mg base CX0 2 C_Walk_ "say" (sp_Walk_say K C_Walk_)) (cW : CW K C_Walk_)  {f : Addr} {fd : FuncData} (F : Fun K "rows" "Walk.rows" s_Walk_rows f fd) : FnOk P w K mg base CX0 4 f fd ["self", "piece", "after"] (sp_Walk_rows K C_Walk_) := by
  refine F.ok sc_Walk_rows (fun vs H Q E h => ?_) (fun cdv A outer s H vs Q E hr h => ?_)
  · (obtain ⟨_, _, _, _, _, _, _, _, _, _, _, rfl, _⟩ := h; rfl)
  · have hu := hu_of hr
    have hu64 : _ := hr.units
    refine ⟨_, (pss_cons (ps_set (i := 2) sc_Walk_rows.nd rfl (Or.inl rfl) (cT t_Walk_step hr (by decide) (pv 0) (pa_cons (pe_tup (pa_cons pe_str (pa_cons (pv 2) pa_nil))) (pa_cons (pe_tup (pa_cons pe_str (pa_cons (pe_ix (ixT (K := K) rfl) (pv 1) pe_int (fun _ _ => rfl)) pa_nil))) pa_nil))))
      (pss_cons (ps_set (i := 3) sc_Walk_rows.nd rfl (Or.inl rfl) (pv 2))
      (pss_cons (ps_for PassesOwn.never rfl (pi_range3 rfl B.range (pa_cons (pe_ix (ixT (K := K) rfl) (pv 1) pe_int (fun _ _ => rfl)) (pa_cons pe_int (pa_cons (pe_un un_neg pe_int) pa_nil)))) (pg_name (i := 4) sc_Walk_rows.nd rfl (Or.inl rfl))
      (pss_cons (ps_set (i := 3) sc_Walk_rows.nd rfl (Or.inl rfl) (cT t_Walk_chain hr (by decide) (pv 0) (pa_cons (pe_ix (ixT (K := K) rfl) (pv 1) pe_int (fun _ _ => rfl)) (pa_cons (pv 3) pa_nil))))
      (pss_cons (ps_set (i := 3) sc_Walk_rows.nd rfl (Or.inl rfl) (cT t_Walk_step hr (by decide) (pv 0) (pa_cons (pe_tup (pa_cons pe_str (pa_cons (pv 3) pa_nil))) (pa_cons (pe_tup (pa_cons pe_str (pa_cons (pe_ix (ixT (K := K) rfl) (pv 1) pe_int (fun _ _ => rfl)) pa_nil))) pa_nil))))
      (C8.pss_cut (ps_if (pt_cmpR op_gt (pv 4) pe_int (nomark _)) (pss_one (ps_set (i := 3) sc_Walk_rows.nd rfl (Or.inl rfl) (cT t_Walk_say hr (by decide) (pv 0) (pa_cons (pe_ix (ixT (K := K) rfl) (pv 1) pe_int (fun _ _ => rfl)) (pa_cons (pv 3) pa_nil))))) pss_nil)
      (pss_one (ps_if (pt_cmpR op_gt (pv 4) (pe_ix (ixT (K := K) rfl) (pv 1) pe_int (fun _ _ => rfl)) (nomark _)) (pss_one (ps_set (i := 3) sc_Walk_rows.nd rfl (Or.inl rfl) (cT t_Walk_step hr (by decide) (pv 0) (pa_cons (pe_tup (pa_cons pe_str (pa_cons (pv 2) (pa_cons (pv 3) pa_nil)))) (pa_cons pe_non pa_nil))))) pss_nil))))))
      (pss_one (ps_ret (cT t_Walk_step hr (by decide) (pv 0) (pa_cons (pe_tup (pa_cons pe_str (pa_cons (pv 3) pa_nil))) (pa_cons (pe_tup (pa_cons pe_str (pa_cons (pe_ix (ixT (K := K) rfl) (pv 1) pe_int (fun _ _ => rfl)) pa_nil))) pa_nil)))))))), ?_⟩
    obtain ⟨x, s, t, p, b, nm, ips, gap, lo, hi, G, rfl, gh, hR, hW, ok, hl, okp, q⟩ := h
    obtain ⟨_, _, n3, hok, _, g5, _, l0, lh, h4⟩ := okp
    obtain ⟨pp, li, its, ep, hp, hli, hpi⟩ := hR
    cases ep
    obtain ⟨dx, hx⟩ := hW.hx
    have hpH : ∀ {G' H'}, Wm [s, t] G H G' H' → SqT K H' p [.str "rows", .str nm, .ref li, .str gap, .int lo, .int hi] := fun w => w.gh.tup (w.gg.tup hp)
    refine ⟨_, rfl, x, dx, F0 s t, rfl, hx, rfl, _, rfl, (by show 2 ≤ sizeLine; decide), fun p1 np1 => ?_⟩
    have W1 := (Wd.refl gh).new (o := .tup [.str "mark", .int (b.2 : Nat)]) np1
    have r1 : StR K (upd G p1 (.tup [.str "mark", .int (b.2 : Nat)])) (.ref p1) (.mark b.2 .ended nm) := ⟨p1, rfl, SqT.of upd_same⟩
    generalize upd G p1 (.tup [.str "mark", .int (b.2 : Nat)]) = G1 at W1 r1
    generalize upd H p1 (.tup [.str "mark", .int (b.2 : Nat)]) = H1 at W1 ⊢
    refine ⟨_, rfl, p, _, _, _, rfl, rfl, W1.hh.same.tup (gh.tup hp), rfl, (by show 2 ≤ sizeLine; decide), fun p2 np2 => ?_⟩
    have W2 := W1.new (o := .tup [.str "ended", .str nm]) np2
    have r2 : TlR K (upd G1 p2 (.tup [.str "ended", .str nm])) (.ref p2) (.mark b.2 .ended nm) := ⟨p2, rfl, SqT.of upd_same⟩
    have r1 := r1.mono (Same.new (o := .tup [.str "ended", .str nm]) (Same.free W1.gh np2))
    generalize upd G1 p2 (.tup [.str "ended", .str nm]) = G2 at W2 r1 r2
    generalize upd H1 p2 (.tup [.str "ended", .str nm]) = H2 at W2 ⊢
    refine ⟨x, s, t, b.1, .ref p1, .ref p2, .mark b.2 .ended nm, G2, rfl, W2.gh, hW.mono W2, r1, r2, by omega, fun H3 W3 hW3 => ?_⟩
    have W3 := W2.wm.trans W3
    obtain ⟨o1, l1⟩ := mark_ok (m := .ended) (nm := nm) ok.1 ok.2
    have ll := fun j => rowsLoop_ok (nm := nm) hok (gap := gap.cps.toList) (lo := lo.toNat) (hi := hi.toNat) o1 j
    have hgl : gap.cps.toList.length = gap.length := Array.length_toList
    clear r1 r2
    refine ⟨_, rfl, ?_⟩
    refine ⟨_, rfl, p, _, _, _, rfl, rfl, hpH W3, rfl, 1, rfl, hi, 0, -1, hi.toNat, rfl, (by have := RgC.neg (i := hi) (j := 0) (by omega) (by omega) (by decide) (by decide); rwa [Int.sub_zero] at this), ?_⟩
    refine for_rangeC (lo := hi) (c := -1) (n := hi.toNat) (fun i σ H' => ∃ v4 G', σ = [some (.ref x), some (.ref p), some (.int ((addB (.mark b.2 .ended nm) b.1).2 : Nat)), some (.int ((rowsLoop nm ips gap.cps.toList lo.toNat hi.toNat (addB (.mark b.2 .ended nm) b.1) i).2 : Nat)), v4] ∧ Wm [s, t] G H G' H' ∧
        WH K C_Walk_ G' H' x s t (rowsLoop nm ips gap.cps.toList lo.toNat hi.toNat (addB (.mark b.2 .ended nm) b.1) i).1)
      ⟨none, G2, rfl, W3, hW3⟩ ?_ ?_
    · rintro i σ H' hi2 ⟨v4, G', rfl, W4, hW4⟩
      obtain ⟨k1, k2, k3⟩ := ll i
      have km : (12 * ips.length + gap.cps.toList.length + 2) * i ≤ 43 * 3 := Nat.mul_le_mul (by omega) (by omega)
      rw [rowsLoop_succ]
      generalize rowsLoop nm ips gap.cps.toList lo.toNat hi.toNat (addB (.mark b.2 .ended nm) b.1) i = h1 at hW4 k1 k2 k3
      obtain ⟨dx4, hx4⟩ := hW4.hx
      obtain ⟨m1, m2, m3⟩ := lineB_ok k1 hok
      refine ⟨_, rfl, x, dx4, F0 s t, rfl, hx4, rfl, _, rfl, p, _, _, _, rfl, rfl, hpH W4, rfl, _, rfl, ?_⟩
      refine ⟨x, s, t, li, its, h1, ips, G', rfl, W4.gh, W4.gg.seq hli, Paired.monoP hpi fun _ _ z => z.mono W4.gg, hW4, k1, by omega, hok, n3, fun G5 H5 W5 hW5 => ?_⟩
      have W5 := W4.trans W5
      unfold rowsStep
      dsimp only
      generalize lineB ips h1 = h2 at m1 m2 m3 hW5
      obtain ⟨dx5, hx5⟩ := hW5.hx
      refine ⟨_, rfl, x, dx5, F0 s t, rfl, hx5, rfl, _, rfl, (by show 2 ≤ sizeLine; decide), fun p3 np3 => ?_⟩
      have W6 := (Wd.refl W5.gh).new (o := .tup [.str "mark", .int (h2.2 : Nat)]) np3
      have r3 : StR K (upd G5 p3 (.tup [.str "mark", .int (h2.2 : Nat)])) (.ref p3) (.mark h2.2 .row nm) := ⟨p3, rfl, SqT.of upd_same⟩
      generalize upd G5 p3 (.tup [.str "mark", .int (h2.2 : Nat)]) = G6 at W6 r3
      generalize upd H5 p3 (.tup [.str "mark", .int (h2.2 : Nat)]) = H6 at W6 ⊢
      refine ⟨_, rfl, p, _, _, _, rfl, rfl, W6.hh.same.tup (hpH W5), rfl, (by show 2 ≤ sizeLine; decide), fun p4 np4 => ?_⟩
      have W7 := W6.new (o := .tup [.str "row", .str nm]) np4
      have r4 : TlR K (upd G6 p4 (.tup [.str "row", .str nm])) (.ref p4) (.mark h2.2 .row nm) := ⟨p4, rfl, SqT.of upd_same⟩
      have r3 := r3.mono (Same.new (o := .tup [.str "row", .str nm]) (Same.free W6.gh np4))
      generalize upd G6 p4 (.tup [.str "row", .str nm]) = G7 at W7 r3 r4
      generalize upd H6 p4 (.tup [.str "row", .str nm]) = H7 at W7 ⊢
      refine ⟨x, s, t, h2.1, .ref p3, .ref p4, .mark h2.2 .row nm, G7, rfl, W7.gh, hW5.mono W7, r3, r4, by omega, fun H8 W8 hW8 => ?_⟩
      have W8 := W5.trans (W7.wm.trans W8)
      obtain ⟨mk1, mk2⟩ := mark_ok (m := .row) (nm := nm) m1.1 m1.2
      have e8 : (h2.1 ++ [Wst.mark h2.2 .row nm]).length = (addB (.mark h2.2 .row nm) h2.1).2 + 1 := by rw [List.length_append]; rfl
      have hW8 : WH K C_Walk_ G7 H8 x s t (addB (.mark h2.2 .row nm) h2.1).1 := hW8
      have e9 : (h2.1.length : Nat) = (addB (.mark h2.2 .row nm) h2.1).2 := rfl
      rw [e9]
      generalize addB (.mark h2.2 .row nm) h2.1 = h3 at hW8 mk1 mk2 e8
      have gl : okB (if i + 1 < hi.toNat then tellB gap.cps.toList h3 else h3) ∧ (if i + 1 < hi.toNat then tellB gap.cps.toList h3 else h3).1.length ≤ h3.1.length + gap.length := by
        split
        · obtain ⟨a1, a2, a3⟩ := tellB_ok (t := gap.cps.toList) mk1
          exact ⟨a1, by omega⟩
        · exact ⟨mk1, by omega⟩
      refine ⟨fun σ H' => ∃ G9, σ = [some (.ref x), some (.ref p), some (.int ((addB (.mark b.2 .ended nm) b.1).2 : Nat)), some (.int ((if i + 1 < hi.toNat then tellB gap.cps.toList h3 else h3).2 : Nat)), some (.int (hi + (i : Nat) * -1))] ∧ Wm [s, t] G H G9 H' ∧
        WH K C_Walk_ G9 H' x s t (if i + 1 < hi.toNat then tellB gap.cps.toList h3 else h3).1, ?_, ?_⟩
      · refine ⟨_, rfl, _, _, rfl, rfl, _, rfl, iteDec (fun hc => ?_) (fun hc => ?_)⟩
        · obtain ⟨dx8, hx8⟩ := hW8.hx
          refine ⟨_, rfl, x, dx8, F0 s t, rfl, hx8, rfl, _, rfl, p, _, _, _, rfl, rfl, hpH W8, rfl, _, rfl, ?_⟩
          refine ⟨x, s, t, h3, gap, G7, rfl, W8.gh, hW8, mk1, by omega, fun G9 H9 W9 hW9 => ?_⟩
          rw [if_pos (show i + 1 < hi.toNat by omega)]
          exact ⟨G9, rfl, W8.trans W9, hW9⟩
        · rw [if_neg (show ¬ i + 1 < hi.toNat by omega)]
          exact ⟨G7, rfl, W8, hW8⟩
      · generalize (if i + 1 < hi.toNat then tellB gap.cps.toList h3 else h3) = h4 at gl ⊢
        rintro σ H9 ⟨G9, rfl, W9, hW9⟩
        obtain ⟨g1, g2⟩ := gl
        refine ⟨_, rfl, _, rfl, p, _, _, _, rfl, rfl, hpH W9, rfl, _, _, rfl, rfl, _, rfl, iteDec (fun hc => ?_) (fun hc => ?_)⟩
        · obtain ⟨dx9, hx9⟩ := hW9.hx
          refine ⟨_, rfl, x, dx9, F0 s t, rfl, hx9, rfl, _, rfl, _, rfl, (by show 3 ≤ sizeLine; decide), fun p5 np5 => ?_⟩
          have W10 := (Wd.refl W9.gh).new (o := .tup [.str "choice", .int ((addB (.mark b.2 .ended nm) b.1).2 : Nat), .int (h4.2 : Nat)]) np5
          refine ⟨x, s, t, _, .ref p5, .non, .choice (addB (.mark b.2 .ended nm) b.1).2 h4.2, _, rfl, W10.gh, hW9.mono W10, ⟨p5, rfl, SqT.of upd_same⟩, rfl, by omega, fun H11 W11 hW11 => ?_⟩
          rw [if_pos (show lo.toNat < hi.toNat - i by omega)]
          exact ⟨_, _, rfl, W9.trans (W10.wm.trans W11), hW11⟩
        · rw [if_neg (show ¬ lo.toNat < hi.toNat - i by omega)]
          exact ⟨_, _, rfl, W9, hW9⟩
    · rintro σ H' ⟨v4, G', rfl, W4, hW4⟩
      obtain ⟨k1, k2, k3⟩ := ll hi.toNat
      have km : (12 * ips.length + gap.cps.toList.length + 2) * hi.toNat ≤ 43 * 3 := Nat.mul_le_mul (by omega) (by omega)
      obtain ⟨dx4, hx4⟩ := hW4.hx
      refine ⟨_, rfl, x, dx4, F0 s t, rfl, hx4, rfl, _, rfl, (by show 2 ≤ sizeLine; decide), fun p3 np3 => ?_⟩
      unfold rowsB at q
      generalize rowsLoop nm ips gap.cps.toList lo.toNat hi.toNat (addB (.mark b.2 .ended nm) b.1) hi.toNat = h1 at hW4 k1 k2 k3 q np3 ⊢
      have W5 := (Wd.refl W4.gh).new (o := .tup [.str "mark", .int (h1.2 : Nat)]) np3
      have r3 : StR K (upd G' p3 (.tup [.str "mark", .int (h1.2 : Nat)])) (.ref p3) (.mark h1.2 .begun nm) := ⟨p3, rfl, SqT.of upd_same⟩
      generalize upd G' p3 (.tup [.str "mark", .int (h1.2 : Nat)]) = G5 at W5 r3
      generalize upd H' p3 (.tup [.str "mark", .int (h1.2 : Nat)]) = H5 at W5 ⊢
      refine ⟨_, rfl, p, _, _, _, rfl, rfl, W5.hh.same.tup (hpH W4), rfl, (by show 2 ≤ sizeLine; decide), fun p4 np4 => ?_⟩
      have W6 := W5.new (o := .tup [.str "begun", .str nm]) np4
      have r4 : TlR K (upd G5 p4 (.tup [.str "begun", .str nm])) (.ref p4) (.mark h1.2 .begun nm) := ⟨p4, rfl, SqT.of upd_same⟩
      have r3 := r3.mono (Same.new (o := .tup [.str "begun", .str nm]) (Same.free W5.gh np4))
      generalize upd G5 p4 (.tup [.str "begun", .str nm]) = G6 at W6 r3 r4
      generalize upd H5 p4 (.tup [.str "begun", .str nm]) = H6 at W6 ⊢
      refine ⟨x, s, t, h1.1, .ref p3, .ref p4, .mark h1.2 .begun nm, G6, rfl, W6.gh, hW4.mono W6, r3, r4, by omega, fun H7 W7 hW7 => ?_⟩
      exact q _ _ (W4.trans (W6.wm.trans W7)) hW7

theorem fn_Walk_chain (B : Bl mg) (t_Walk_say : Tn P w K mg base CX0 2 C_Walk_ "say" (sp_Walk_say K C_Walk_))  (t_Walk_ask : Tn P w K mg base CX0 2 C_Walk_ "ask" (sp_Walk_ask K C_Walk_))  (t_Walk_rows : Tn P w K mg base CX0 4 C_Walk_ "rows" (sp_Walk_rows K C_Walk_)) (cW : CW K C_Walk_)  {f : Addr} {fd : FuncData} (F : Fun K "chain" "Walk.chain" s_Walk_chain f fd) : FnOk P w K mg base CX0 5 f fd ["self", "row", "after"] (sp_Walk_chain K C_Walk_) := by
  refine F.ok sc_Walk_chain (fun vs H Q E h => ?_) (fun cdv A outer s H vs Q E hr h => ?_)
  · (obtain ⟨_, _, _, _, _, _, _, _, rfl, _⟩ := h; rfl)
  · have hu := hu_of hr
    have hu64 : _ := hr.units
    refine ⟨_, (pss_cons (ps_for PassesOwn.never rfl (RT.pi_revA rfl B.reversed (pv 1)) (pg_name (i := 3) sc_Walk_chain.nd rfl (Or.inl rfl))
      (pss_one (ps_if (pt_cmpR op_eq (pe_ix (ixT (K := K) rfl) (pv 3) pe_int (fun _ _ => rfl)) pe_str (nomark _)) (pss_one (ps_set (i := 2) sc_Walk_chain.nd rfl (Or.inl rfl) (cT t_Walk_say hr (by decide) (pv 0) (pa_cons (pe_ix (ixT (K := K) rfl) (pv 3) pe_int (fun _ _ => rfl)) (pa_cons (pv 2) pa_nil))))) (pss_one (ps_if (pt_cmpR op_eq (pe_ix (ixT (K := K) rfl) (pv 3) pe_int (fun _ _ => rfl)) pe_str (nomark _)) (pss_one (ps_set (i := 2) sc_Walk_chain.nd rfl (Or.inl rfl) (cT t_Walk_ask hr (by decide) (pv 0) (pa_cons (pv 3) (pa_cons (pv 2) pa_nil))))) (pss_one (ps_set (i := 2) sc_Walk_chain.nd rfl (Or.inl rfl) (cT t_Walk_rows hr (by decide) (pv 0) (pa_cons (pv 3) (pa_cons (pv 2) pa_nil))))))))))
      (pss_one (ps_ret (pv 2)))), ?_⟩
    obtain ⟨x, s, t, l, items, b, ps, G, rfl, gh, hL, hP, hW, ok, hl, hok, h6, q⟩ := h
    have hlen := Paired.len hP
    have e0 : ps.drop (items.length - 0) = [] := List.drop_eq_nil_of_le (by omega)
    refine ⟨_, rfl, l, items, rfl, .inl ⟨gh.seq hL, ?_⟩⟩
    refine RT.for_Itv (xs := items) (fun i σ H' => ∃ v3 G', σ = [some (.ref x), some (.ref l), some (.int ((chainB (ps.drop (items.length - i)) b).2 : Nat)), v3] ∧ Wm [s, t] G H G' H' ∧ WH K C_Walk_ G' H' x s t (chainB (ps.drop (items.length - i)) b).1)
      ⟨none, G, by rw [e0]; rfl, Wm.refl gh, by rw [e0]; exact hW⟩ (fun i σ H' ⟨_, G', _, W1, _⟩ => W1.gh.seq (W1.gg.seq hL)) ?_ ?_
    · rintro i y σ H' hi hy ⟨v3, G', rfl, W1, hW1⟩
      obtain ⟨p, hp, hR⟩ := Paired.at hP hy
      have hd : ps.drop (items.length - (i + 1)) = p :: ps.drop (items.length - i) := by
        have hlt : items.length - 1 - i < ps.length := at_lt hp
        rw [show items.length - (i + 1) = items.length - 1 - i by omega, show items.length - i = items.length - 1 - i + 1 by omega, List.drop_eq_getElem_cons hlt]
        congr 1
        rw [List.getElem?_eq_getElem hlt] at hp
        exact Option.some.inj hp
      have hok1 : ∀ p ∈ ps.drop (items.length - i), okP p := fun p hp => hok p (List.mem_of_mem_drop hp)
      obtain ⟨k1, k2, k3⟩ := chainB_ok ok hok1
      have hdl : (ps.drop (items.length - i)).length ≤ 6 := by rw [List.length_drop]; omega
      have okp := hok p (mem_at hp)
      have esb : chainB (p :: ps.drop (items.length - i)) b = pcB p (chainB (ps.drop (items.length - i)) b) := rfl
      rw [hd, esb]
      generalize chainB (ps.drop (items.length - i)) b = b1 at hW1 k1 k2 k3
      obtain ⟨dx, hx⟩ := hW1.hx
      cases p with
      | p0 p =>
        obtain ⟨a, rfl, ha⟩ := hR
        have haH : SqT K H' a p.vs := W1.gh.tup (W1.gg.tup ha)
        cases p with
        | say tx =>
          obtain ⟨_, t12, _⟩ := okp
          refine ⟨_, rfl, a, _, _, _, rfl, rfl, haH, rfl, rfl, _, rfl, iteEq ?_⟩
          refine ⟨_, rfl, x, dx, F0 s t, rfl, hx, rfl, _, rfl, a, _, _, _, rfl, rfl, haH, rfl, _, rfl, ?_⟩
          refine ⟨x, s, t, b1, tx, G', rfl, W1.gh, hW1, k1, by omega, fun G2 H2 W2 hW2 => ?_⟩
          exact ⟨_, _, rfl, W1.trans W2, hW2⟩
        | ask nm sg lo hi =>
          refine ⟨_, rfl, a, _, _, _, rfl, rfl, haH, rfl, rfl, _, rfl, iteNe ask_say ?_⟩
          refine ⟨_, rfl, a, _, _, _, rfl, rfl, haH, rfl, rfl, _, rfl, iteEq ?_⟩
          refine ⟨_, rfl, x, dx, F0 s t, rfl, hx, rfl, _, rfl, _, rfl, ?_⟩
          refine ⟨x, s, t, a, b1, nm, sg, lo, hi, G', rfl, W1.gh, W1.gg.tup ha, hW1, k1, by omega, okp, fun G2 H2 W2 hW2 => ?_⟩
          exact ⟨_, _, rfl, W1.trans W2, hW2⟩
      | rows nm ips gap lo hi =>
        have hR2 := hR
        obtain ⟨a, li, its, rfl, ha, hli, hpi⟩ := hR
        have haH := W1.gh.tup (W1.gg.tup ha)
        refine ⟨_, rfl, a, _, _, _, rfl, rfl, haH, rfl, rfl, _, rfl, iteNe rows_say ?_⟩
        refine ⟨_, rfl, a, _, _, _, rfl, rfl, haH, rfl, rfl, _, rfl, iteNe rows_ask ?_⟩
        refine ⟨_, rfl, x, dx, F0 s t, rfl, hx, rfl, _, rfl, _, rfl, ?_⟩
        refine ⟨x, s, t, a, b1, nm, ips, gap, lo, hi, G', rfl, W1.gh, RP.mono hR2 W1.gg, hW1, k1, by omega, okp, fun G2 H2 W2 hW2 => ?_⟩
        exact ⟨_, _, rfl, W1.trans W2, hW2⟩
    · rintro σ H' ⟨v3, G', rfl, W1, hW1⟩
      rw [Nat.sub_self, List.drop_zero] at hW1 ⊢
      exact ⟨_, rfl, q _ _ W1 hW1⟩

abbrev s_Walk___init__ : Stmt := inClass (top 7) 0
abbrev n_Walk___init__ : List Str := ["self", "form"]
theorem sc_Walk___init__ : FnScope n_Walk___init__ ["self", "form"] (defScope s_Walk___init__) := ⟨rfl, rfl, rfl, by decide +kernel, rfl, by decide +kernel, by decide +kernel⟩

theorem fn_Walk___init__ (t_Walk_chain : Tn P w K mg base CX0 5 C_Walk_ "chain" (sp_Walk_chain K C_Walk_)) (cW : CW K C_Walk_)  {f : Addr} {fd : FuncData} (F : Fun K "__init__" "Walk.__init__" s_Walk___init__ f fd) : FnOk P w K mg base CX0 6 f fd ["self", "form"] (sp_Walk___init__ K C_Walk_) := by
  refine F.ok sc_Walk___init__ (fun vs H Q E h => ?_) (fun cdv A outer s H vs Q E hr h => ?_)
  · (obtain ⟨_, _, _, _, _, rfl, _⟩ := h; rfl)
  · have hu := hu_of hr
    have hu64 : _ := hr.units
    refine ⟨_, (pss_cons (ps_fld (pv 0) (pe_lst (pa_cons (pe_tup (pa_cons pe_str pa_nil)) pa_nil)) rfl)
      (pss_cons (ps_fld (pv 0) (pe_lst (pa_cons pe_non pa_nil)) rfl)
      (pss_one (ps_fld (pv 0) (cT t_Walk_chain hr (by decide) (pv 0) (pa_cons (pe_fld (pv 1) rfl) (pa_cons pe_int pa_nil))) rfl)))), ?_⟩
    obtain ⟨x, dx, f, ps, H0, rfl, nx, nd, ne, eH, ⟨CF, dF, l, zs, cF, nF, hf, hL, hP⟩, okf, q⟩ := h
    have hxH : H x = some (.ins C_Walk_ dx []) := by rw [eH, upd_same]
    have kH : Keep H0 H := by
      rw [eH]
      exact (Keep.new nd).trans (Keep.new (by rw [upd_ne ne.symm]; exact nx))
    have W0 : Wd H0 H0 H0 H := (Wd.refl (Same.refl _)).keep kH
    clear eH
    refine ⟨(by show 1 ≤ sizeLine; decide), fun p np => ⟨(by show 1 ≤ sizeLine; decide), fun s ns => ?_⟩⟩
    have W1 := W0.new (o := .tup [.str "end"]) np
    have r1 : StR K (upd H0 p (.tup [.str "end"])) (.ref p) .fin := ⟨p, rfl, SqT.of upd_same⟩
    have xp : x ≠ p := ne_of_none hxH np
    have g1 : (upd H0 p (.tup [.str "end"])) x = none := by rw [upd_ne xp]; exact nx
    have hx1 : (upd H p (.tup [.str "end"])) x = some (.ins C_Walk_ dx []) := by rw [upd_ne xp]; exact hxH
    generalize upd H0 p (.tup [.str "end"]) = G1 at W1 r1 g1
    generalize upd H p (.tup [.str "end"]) = H1 at W1 hx1 ns ⊢
    have sg : G1 s = none := Same.free W1.gh ns
    have W2 := W1.keep (Keep.new (o := .lst [.ref p]) ns)
    have xs0 : x ≠ s := ne_of_none hx1 ns
    have hx2 : (upd H1 s (.lst [.ref p])) x = some (.ins C_Walk_ dx []) := by rw [upd_ne xs0]; exact hx1
    have hs2 : (upd H1 s (.lst [.ref p])) s = some (.lst [.ref p]) := upd_same
    generalize upd H1 s (.lst [.ref p]) = H2 at W2 hx2 hs2 ⊢
    refine ⟨_, rfl, x, C_Walk_, dx, [], rfl, hx2, cW.cl, cW.ns, (by show 0 < 1000; decide), ?_⟩
    have W3 := W2.mut (o := .ins C_Walk_ dx (putF "steps" (.ref s) [])) nx g1
    have hx3 : (upd H2 x (.ins C_Walk_ dx (putF "steps" (.ref s) []))) x = some (.ins C_Walk_ dx (putF "steps" (.ref s) [])) := upd_same
    have hs3 : (upd H2 x (.ins C_Walk_ dx (putF "steps" (.ref s) []))) s = some (.lst [.ref p]) := by rw [upd_ne xs0.symm]; exact hs2
    generalize upd H2 x (.ins C_Walk_ dx (putF "steps" (.ref s) [])) = H3 at W3 hx3 hs3 ⊢
    refine ⟨(by show 1 ≤ sizeLine; decide), fun t nt => ?_⟩
    have tg : G1 t = none := Same.free W3.gh nt
    have st : s ≠ t := ne_of_none hs3 nt
    have xt : x ≠ t := ne_of_none hx3 nt
    have W4 := W3.keep (Keep.new (o := .lst [.non]) nt)
    have hx4 : (upd H3 t (.lst [.non])) x = some (.ins C_Walk_ dx (putF "steps" (.ref s) [])) := by rw [upd_ne xt]; exact hx3
    have hs4 : (upd H3 t (.lst [.non])) s = some (.lst [.ref p]) := by rw [upd_ne st]; exact hs3
    have ht4 : (upd H3 t (.lst [.non])) t = some (.lst [.non]) := upd_same
    generalize upd H3 t (.lst [.non]) = H4 at W4 hx4 hs4 ht4 ⊢
    refine ⟨_, rfl, x, C_Walk_, dx, _, rfl, hx4, cW.cl, cW.nt, (by show 1 < 1000; decide), ?_⟩
    have W5 := W4.mut (o := .ins C_Walk_ dx (F0 s t)) nx g1
    have hx5 : (upd H4 x (.ins C_Walk_ dx (F0 s t))) x = some (.ins C_Walk_ dx (F0 s t)) := upd_same
    have hs5 : (upd H4 x (.ins C_Walk_ dx (F0 s t))) s = some (.lst [.ref p]) := by rw [upd_ne xs0.symm]; exact hs4
    have ht5 : (upd H4 x (.ins C_Walk_ dx (F0 s t))) t = some (.lst [.non]) := by rw [upd_ne xt.symm]; exact ht4
    show _
    generalize hH5 : upd H4 x (.ins C_Walk_ dx (F0 s t)) = H5 at W5 hx5 hs5 ht5
    have hH5' : upd H4 x (.ins C_Walk_ dx (putF "told" (.ref t) (putF "steps" (.ref s) []))) = H5 := hH5
    rw [hH5']
    have lp : (putF "pieces" (.ref l) []).lookup ("pieces" : Str) = some (.ref l) := rfl
    have lc : (F0 s t).lookup ("chain" : Str) = none := rfl
    refine ⟨_, rfl, x, dx, F0 s t, rfl, hx5, lc, _, rfl, f, CF, dF, _, _, rfl, W5.gh _ _ (W5.gg _ _ hf), cF, nF, lp, ?_⟩
    refine ⟨x, s, t, l, zs, ([.fin], 0), ps, G1, rfl, W5.gh, W5.gg.seq hL, Paired.monoP hP fun _ _ z => RP.mono z W5.gg, ⟨⟨dx, hx5⟩, ⟨_, hs5, .cons r1 .nil⟩, ⟨_, ht5, .cons rfl .nil⟩, sg, tg, st⟩, fin_ok, (by show 1 ≤ 1000; decide), okf.ok, okf.l6, fun G6 H6 W6 hW6 => ?_⟩
    obtain ⟨⟨dx6, hx6⟩, ⟨xs6, hs6, ps6⟩, ⟨ys6, ht6, pt6⟩, gs6, gt6, _⟩ := hW6
    have gx6 : G6 x = none := W6.nw _ _ hx5 g1
    refine ⟨_, rfl, x, C_Walk_, dx6, F0 s t, rfl, hx6, cW.cl, cW.nf, (by show 2 < 1000; decide), ?_⟩
    have s6 : Same G6 (upd H6 x (.ins C_Walk_ dx6 (putF "first" (.int ((chainB ps ([.fin], 0)).2 : Nat)) (F0 s t)))) := W6.gh.mut gx6
    refine q _ ((W5.gg.trans W6.gg).trans s6) ⟨dx6, s, t, xs6, ys6, upd_same, (upd_ne xs0.symm).trans hs6, (upd_ne xt.symm).trans ht6, Paired.monoP ps6 fun _ _ z => z.mono s6, Paired.monoP pt6 fun _ _ z => z.mono s6⟩

abbrev s_ends_well : Stmt := top 9
abbrev n_ends_well : List Str := ["walk", "text", "good", "step", "places", "at", "after"]
theorem sc_ends_well : FnScope n_ends_well ["walk", "text"] (defScope s_ends_well) := ⟨rfl, rfl, rfl, by decide +kernel, rfl, by decide +kernel, by decide +kernel⟩

theorem dn_ends_well (D : Df K mg "ends_well" s_ends_well ["walk", "text"]) (B : Bl mg)(cW : CW K C_Walk_)  : Dn P w K mg base CX0 1 "ends_well" (sp_ends_well K C_Walk_) := by
  refine .of D fun f fd F => F.ok sc_ends_well (fun vs H Q E h => ?_) (fun cdv A outer s H vs Q E hr h => ?_)
  · (obtain ⟨_, _, _, rfl, _⟩ := h; rfl)
  · have hu := hu_of hr
    have hu64 : _ := hr.units
    refine ⟨_, (pss_cons (ps_set (i := 2) sc_ends_well.nd rfl (Or.inl rfl) (pe_lst pa_nil))
      (pss_cons (ps_for PassesOwn.never rfl (pi_list (pe_fld (pv 0) rfl)) (pg_name (i := 3) sc_ends_well.nd rfl (Or.inl rfl))
      (pss_cons (ps_set (i := 4) sc_ends_well.nd rfl (Or.inl rfl) pe_dnewK)
      (pss_cons (ps_if (pt_cmpR op_eq (pe_ix (ixT (K := K) rfl) (pv 3) pe_int (fun _ _ => rfl)) pe_str (nomark _)) (pss_one (ps_dput hu (pv 4) (pe_callB call_len_str rfl B.len PySem.boot_len (pa_cons (pv 1) pa_nil)) pe_bl rfl)) (pss_one (ps_if (pt_cmpR op_eq (pe_ix (ixT (K := K) rfl) (pv 3) pe_int (fun _ _ => rfl)) pe_str (nomark _)) (pss_one (ps_for PassesOwn.never rfl (pi_range1 rfl B.range (pa_cons (pe_callB call_len_str rfl B.len PySem.boot_len (pa_cons (pv 1) pa_nil)) pa_nil)) (pg_name (i := 5) sc_ends_well.nd rfl (Or.inl rfl))
      (pss_one (ps_if (PW.pt (pw_and (pt_cmpR op_in_sign (pe_ix ix_str (pv 1) (pv 5) (fun _ _ => rfl)) (pe_ix (ixT (K := K) rfl) (pv 3) pe_int (fun _ _ => rfl)) (by with_unfolding_all rfl)) (pw_and1 (pt_cmp (pc_din hu (pe_op op_add (pv 5) pe_int) (pe_ix (ixLs (K := K) rfl) (pv 2) (pe_ix (ixT (K := K) rfl) (pv 3) pe_int (fun _ _ => rfl)) (fun _ _ => rfl))))))) (pss_one (ps_dput hu (pv 4) (pv 5) pe_bl rfl)) pss_nil)))) (pss_one (ps_for PassesOwn.never rfl (pi_tup (pe_slice (slT (K := K) rfl) (pv 3) (po_some pe_int) po_none)) (pg_name (i := 6) sc_ends_well.nd rfl (Or.inl rfl))
      (pss_one (ps_expr (pe_bm PySem.F.plainAttrs_dict PySem.F.slot_dict_update PySem.F.type_dict_update mt_dupd (pv 4) (pa_cons (pe_ix (ixLs (K := K) rfl) (pv 2) (pv 6) (fun _ _ => rfl)) pa_nil)))))))))
      (pss_one (ps_expr (pe_bm PySem.F.plainAttrs_list PySem.F.slot_list_append PySem.F.type_list_append mt_append (pv 2) (pa_cons (pv 4) pa_nil)))))))
      (pss_one (ps_ret (pv 2))))), ?_⟩
    obtain ⟨x, tx, b, rfl, hW, ok, hl, ht, q⟩ := h
    obtain ⟨dx, fs, s, t, xs, ys, hx, ls, lt, lf, hS, hT, pS, pT⟩ := hW.fields
    have hlen := Paired.len pS
    refine ⟨(by show 0 ≤ sizeLine; exact Nat.zero_le _), fun g ng => ?_⟩
    have xg : x ≠ g := ne_of_none hx ng
    refine ⟨_, rfl, x, C_Walk_, dx, fs, _, rfl, (upd_ne xg).trans hx, cW.cl, cW.ns, ls, s, rfl, ⟨xs, (Keep.new ng).same.seq hS⟩, ?_⟩
    refine for_list (K := K) (a := s) (xs := xs) (ewP H x g tx b.1) ⟨none, none, none, none, [], rfl, Keep.new ng, upd_same, rfl, fun j v h => by simp at h⟩ (fun i σ H' _ ⟨_, _, _, _, _, _, k, _⟩ => k.same.seq hS) ?_ ?_
    · rintro i sv σ H' hi ⟨v3, v4, v5, v6, gs, rfl, k, hg, gl, gP⟩
      obtain ⟨st, hst, p, rfl, hp⟩ := Paired.at pS hi
      intro d nd
      have gd : g ≠ d := ne_of_none hg nd
      have hgl : gs.length < b.1.length := by have := at_lt hst; omega
      have fin := ewP.next (x := x) ng k hg gl nd gP
      have hg1 : (upd H' d (.dK [])) g = some (.lst gs) := (upd_ne gd).trans hg
      have k1 : ∀ a o, a ≠ d → H' a = some o → (upd H' d (.dK [])) a = some o := fun a o n e => (upd_ne n).trans e
      have s1 : Same H (upd H' d (.dK [])) := (k.trans (Keep.new nd)).same
      have hd1 : (upd H' d (.dK [])) d = some (.dK []) := upd_same
      generalize upd H' d (.dK []) = H1 at hg1 k1 s1 hd1 ⊢
      have hpH : ∀ {H2}, (∀ a o, a ≠ d → H' a = some o → H2 a = some o) → SqT K H2 p st.vs := fun hk => Same.tup (fun a o e => hk a o (ne_of_none (k a o e) nd) (k a o e)) hp
      have hpH1 := hpH k1
      have hw := fun a => ways_at (cs := tx.cps.toList) ok.1 hst a
      have hsu := ok.1 i st hst
      cases st with
      | fin =>
        refine ⟨_, rfl, p, _, _, _, rfl, rfl, hpH1, rfl, rfl, _, rfl, iteEq ?_⟩
        refine ⟨_, rfl, _, rfl, tx, rfl, small_line (by omega), d, _, rfl, .inl ⟨[], Sum.inl (tx.length : Int), hd1, rfl, lt_line (by show 0 ≤ 100000; omega), rfl⟩, ?_⟩
        refine ⟨_, rfl, .inl ⟨rfl, _, SqL.of ((upd_ne gd).trans hg1)⟩, _, rfl, g, gs, .ref d, rfl, rfl, (upd_ne gd).trans hg1, lt_line (by omega), ?_⟩
        refine fin _ _ _ _ _ _ (fun a o n e => (upd_ne n).trans (k1 a o n e)) upd_same (((PL.nil tx.length).put (Nat.le_refl _) (V.bl true)).congr fun a => ?_)
        rw [hw a]
        dsimp only
        rw [show tx.cps.toList.length = tx.length from Array.length_toList]
        by_cases e : a = tx.length
        · simp [e]
        · simp [e]
      | sign sg n tl =>
        refine ⟨_, rfl, p, _, _, _, rfl, rfl, hpH1, rfl, rfl, _, rfl, iteNe (by decide +kernel) ?_⟩
        refine ⟨_, rfl, p, _, _, _, rfl, rfl, hpH1, rfl, rfl, _, rfl, iteEq ?_⟩
        refine ⟨_, rfl, tx, rfl, small_line (by omega), _, rfl, (by omega), (by omega), ?_⟩
        have hn : n < i := hsu n (by simp [succs])
        obtain ⟨dn, kn, en, hdn, pn⟩ := gP n gs[n] (List.getElem?_eq_getElem (by omega))
        have dnd : dn ≠ d := ne_of_none hdn nd
        refine for_range (lo := 0) (n := ((tx.length : Nat) : Int).toNat) (ewS H' x g p d tx b.1 i) ⟨v5, v6, [], rfl, k1, hd1, (PL.nil _).congr fun a => by simp⟩ ?_ ?_
        · rintro j σ H2 hj ⟨v5, v6, kvs, rfl, k2, hd2, P2⟩
          rw [Int.zero_add]
          have hj' : j < tx.length := by omega
          have hc : tx.cps.toList[j]? = some (tx.cps.getD j 0) := by rw [Array.getElem?_toList, Array.getD_eq_getD_getElem?, Array.getElem?_eq_getElem (show j < tx.cps.size from hj')]; rfl
          have hp2 := hpH k2
          have hwj := hw j
          dsimp only at hwj
          rw [hc] at hwj
          dsimp only at hwj
          have hg2 : H2 g = some (.lst gs) := k2 _ _ gd hg
          have hdn2 : H2 dn = some (.dK kn) := k2 _ _ dnd hdn
          have hk2 : kvs.length < sizeLine := lt_line (by have := P2.len; omega)
          refine ⟨_, rfl, _, rfl, tx, _, tx.cps.getD j 0, rfl, rfl, small_line (by omega), atI_nat hc, _, rfl, p, _, _, _, rfl, rfl, hp2, rfl, tx.cps.getD j 0, sg, rfl, rfl, _, rfl, iteDec (fun hm => ?_) (fun hm => ?_)⟩
          · rw [if_pos hm] at hwj
            refine ⟨_, rfl, _, _, rfl, rfl, _, rfl, _, rfl, p, _, _, _, rfl, rfl, hp2, rfl, g, gs, _, _, rfl, rfl, SqL.of hg2, atI_nat (List.getElem?_eq_getElem (by omega)), dn, _, en, dget_i (.inl hdn2) rfl, _, rfl, ?_⟩
            have hiff := pn.iff (j + 1)
            refine ite2 (fun hs => ?_) (fun hs => ?_)
            · refine ⟨_, rfl, _, rfl, d, _, rfl, .inl ⟨kvs, Sum.inl (j : Int), hd2, rfl, hk2, rfl⟩, ?_⟩
              have hne : ways tx.cps.toList b.1 i j ≠ [] := by
                rw [hwj]
                intro z
                exact hiff.mp hs (List.map_eq_nil_iff.mp z)
              refine ewS.next _ _ (fun a o n e => (upd_ne n).trans (k2 a o n e)) upd_same ((P2.put (show j ≤ tx.length by omega) (V.bl true)).congr fun a => ?_)
              simp [hne]
            · refine ewS.next _ _ k2 hd2 (P2.congr fun a => ?_)
              have hne : ways tx.cps.toList b.1 i j = [] := by
                rw [hwj]
                rcases hh : ways tx.cps.toList b.1 n (j + 1) with _ | ⟨y, ys⟩
                · rfl
                · exact absurd (hiff.mpr (by rw [hh]; simp)) hs
              simp [hne]
          · refine ewS.next _ _ k2 hd2 (P2.congr fun a => ?_)
            rw [if_neg hm] at hwj
            simp [hwj]
        · rintro σ H2 ⟨v5, v6, kvs, rfl, k2, hd2, P2⟩
          have hg2 : H2 g = some (.lst gs) := k2 _ _ gd hg
          refine ⟨_, rfl, .inl ⟨rfl, _, SqL.of hg2⟩, _, rfl, g, gs, .ref d, rfl, rfl, hg2, lt_line (by omega), ?_⟩
          refine fin _ _ _ _ _ _ k2 hd2 (P2.congr fun a => ?_)
          refine ⟨fun z => z.2, fun z => ⟨?_, z⟩⟩
          rw [hw a] at z
          dsimp only at z
          cases hc : tx.cps.toList[a]? with
          | none => rw [hc] at z; exact absurd rfl z
          | some c => have := at_lt hc; rw [Array.length_toList] at this; show a < ((tx.length : Nat) : Int).toNat; rw [Int.toNat_natCast]; exact this
      | choice a1 a2 =>
        refine ⟨_, rfl, p, _, _, _, rfl, rfl, hpH1, rfl, rfl, _, rfl, iteNe (by decide +kernel) ?_⟩
        refine ⟨_, rfl, p, _, _, _, rfl, rfl, hpH1, rfl, rfl, _, rfl, iteNe (by decide +kernel) ?_⟩
        refine ⟨_, rfl, 1, rfl, p, _, rfl, hpH1, fun z => absurd z.1 (by show ¬ (1 : Nat) = 0; decide), fun _ c nc => ?_⟩
        have dc : d ≠ c := ne_of_none hd1 nc
        refine ⟨c, rfl, ⟨_, SqT.of upd_same⟩, ?_⟩
        refine for_tup (K := K) (a := c) (xs := natV [a1, a2]) (fun j σ H2 => ewC H' x g p d tx b.1 ([a1, a2].take j) σ H2 ∧ H2 c = some (.tup (natV [a1, a2])))
          ⟨⟨_, _, [], rfl, fun a o n e => (upd_ne (ne_of_none (k1 a o n e) nc)).trans (k1 a o n e), (upd_ne dc).trans hd1, (PL.nil _).congr fun a => by simp⟩, upd_same⟩ (fun _ _ _ _ z => SqT.of z.2) ?_ ?_
        · rintro j v σ H2 hj ⟨⟨v5, v6, kvs, rfl, k2, hd2, P2⟩, hc2⟩
          obtain ⟨n, hn, rfl⟩ := natV_at hj
          have hni : n < i := hsu n (show n ∈ succs (.choice a1 a2) from mem_at hn)
          obtain ⟨dn, kn, en, hdn, pn⟩ := gP n gs[n] (List.getElem?_eq_getElem (by omega))
          have dnd : dn ≠ d := ne_of_none hdn nd
          have hdn2 : H2 dn = some (.dK kn) := k2 _ _ dnd hdn
          have hg2 : H2 g = some (.lst gs) := k2 _ _ gd hg
          have l1 := P2.len
          have l2 := pn.len
          have PM := P2.mrg pn.rg
          rw [take_snoc hn]
          refine ⟨_, rfl, .inr (.inr (.inl ⟨rfl, .inl ⟨kvs, hd2⟩⟩)), _, rfl, _, rfl, g, gs, _, _, rfl, rfl, SqL.of hg2, atI_nat (List.getElem?_eq_getElem (show n < gs.length by omega)), d, dn, kvs, kn, rfl, (by rw [en]), dnd.symm, hd2, hdn2, Nat.le_of_lt (lt_line (by omega)), ⟨_, _, mrg kvs kn, rfl, fun a o n e => (upd_ne n).trans (k2 a o n e), upd_same, PM.congr fun a => ?_⟩, (upd_ne dc.symm).trans hc2⟩
          rw [pn.iff a]
          constructor
          · rintro (⟨m, hm, z⟩ | z)
            · exact ⟨m, List.mem_append_left _ hm, z⟩
            · exact ⟨n, List.mem_append_right _ List.mem_cons_self, z⟩
          · rintro ⟨m, hm, z⟩
            rcases List.mem_append.mp hm with hm | hm
            · exact .inl ⟨m, hm, z⟩
            · rw [List.mem_singleton] at hm; subst hm; exact .inr z
        · rintro σ H2 ⟨⟨v5, v6, kvs, rfl, k2, hd2, P2⟩, hc2⟩
          have hg2 : H2 g = some (.lst gs) := k2 _ _ gd hg
          refine ⟨_, rfl, .inl ⟨rfl, _, SqL.of hg2⟩, _, rfl, g, gs, .ref d, rfl, rfl, hg2, lt_line (by omega), ?_⟩
          refine fin _ _ _ _ _ _ k2 hd2 (P2.congr fun a => ?_)
          rw [hw a]
          dsimp only
          rw [show [a1, a2].take (natV [a1, a2]).length = [a1, a2] from by rw [natV_len]; exact List.take_length]
          by_cases e1 : ways tx.cps.toList b.1 a1 a = [] <;> by_cases e2 : ways tx.cps.toList b.1 a2 a = [] <;> simp [e1, e2, or_and_right, exists_or]
      | mark a1 m nm =>
        refine ⟨_, rfl, p, _, _, _, rfl, rfl, hpH1, rfl, rfl, _, rfl, iteNe (by decide +kernel) ?_⟩
        refine ⟨_, rfl, p, _, _, _, rfl, rfl, hpH1, rfl, rfl, _, rfl, iteNe (by decide +kernel) ?_⟩
        refine ⟨_, rfl, 1, rfl, p, _, rfl, hpH1, fun z => absurd z.1 (by show ¬ (1 : Nat) = 0; decide), fun _ c nc => ?_⟩
        have dc : d ≠ c := ne_of_none hd1 nc
        refine ⟨c, rfl, ⟨_, SqT.of upd_same⟩, ?_⟩
        refine for_tup (K := K) (a := c) (xs := natV [a1]) (fun j σ H2 => ewC H' x g p d tx b.1 ([a1].take j) σ H2 ∧ H2 c = some (.tup (natV [a1])))
          ⟨⟨_, _, [], rfl, fun a o n e => (upd_ne (ne_of_none (k1 a o n e) nc)).trans (k1 a o n e), (upd_ne dc).trans hd1, (PL.nil _).congr fun a => by simp⟩, upd_same⟩ (fun _ _ _ _ z => SqT.of z.2) ?_ ?_
        · rintro j v σ H2 hj ⟨⟨v5, v6, kvs, rfl, k2, hd2, P2⟩, hc2⟩
          obtain ⟨n, hn, rfl⟩ := natV_at hj
          have hni : n < i := hsu n (show n ∈ succs (.mark a1 m nm) from mem_at hn)
          obtain ⟨dn, kn, en, hdn, pn⟩ := gP n gs[n] (List.getElem?_eq_getElem (by omega))
          have dnd : dn ≠ d := ne_of_none hdn nd
          have hdn2 : H2 dn = some (.dK kn) := k2 _ _ dnd hdn
          have hg2 : H2 g = some (.lst gs) := k2 _ _ gd hg
          have l1 := P2.len
          have l2 := pn.len
          have PM := P2.mrg pn.rg
          rw [take_snoc hn]
          refine ⟨_, rfl, .inr (.inr (.inl ⟨rfl, .inl ⟨kvs, hd2⟩⟩)), _, rfl, _, rfl, g, gs, _, _, rfl, rfl, SqL.of hg2, atI_nat (List.getElem?_eq_getElem (show n < gs.length by omega)), d, dn, kvs, kn, rfl, (by rw [en]), dnd.symm, hd2, hdn2, Nat.le_of_lt (lt_line (by omega)), ⟨_, _, mrg kvs kn, rfl, fun a o n e => (upd_ne n).trans (k2 a o n e), upd_same, PM.congr fun a => ?_⟩, (upd_ne dc.symm).trans hc2⟩
          rw [pn.iff a]
          constructor
          · rintro (⟨m, hm, z⟩ | z)
            · exact ⟨m, List.mem_append_left _ hm, z⟩
            · exact ⟨n, List.mem_append_right _ List.mem_cons_self, z⟩
          · rintro ⟨m, hm, z⟩
            rcases List.mem_append.mp hm with hm | hm
            · exact .inl ⟨m, hm, z⟩
            · rw [List.mem_singleton] at hm; subst hm; exact .inr z
        · rintro σ H2 ⟨⟨v5, v6, kvs, rfl, k2, hd2, P2⟩, hc2⟩
          have hg2 : H2 g = some (.lst gs) := k2 _ _ gd hg
          refine ⟨_, rfl, .inl ⟨rfl, _, SqL.of hg2⟩, _, rfl, g, gs, .ref d, rfl, rfl, hg2, lt_line (by omega), ?_⟩
          refine fin _ _ _ _ _ _ k2 hd2 (P2.congr fun a => ?_)
          rw [hw a]
          dsimp only
          rw [show [a1].take (natV [a1]).length = [a1] from by rw [natV_len]; exact List.take_length]
          simp
    · rintro σ H' ⟨v3, v4, v5, v6, gs, rfl, k, hg, gl, gP⟩
      rw [hlen] at gl
      exact ⟨_, rfl, q g H' k ng ⟨gs, hg, gl, by rw [show tx.cps.toList.length = tx.length from Array.length_toList]; exact gP⟩⟩

abbrev s_trail_of : Stmt := top 11
abbrev n_trail_of : List Str := ["link", "trail"]
theorem sc_trail_of : FnScope n_trail_of ["link"] (defScope s_trail_of) := ⟨rfl, rfl, rfl, by decide +kernel, rfl, by decide +kernel, by decide +kernel⟩

theorem dn_trail_of (D : Df K mg "trail_of" s_trail_of ["link"]) (B : Bl mg) : Dn P w K mg base CX0 1 "trail_of" (sp_trail_of K) := by
  refine .of D fun f fd F => F.ok sc_trail_of (fun vs H Q E h => ?_) (fun cdv A outer s H vs Q E hr h => ?_)
  · (obtain ⟨_, _, rfl, _⟩ := h; rfl)
  · have hu := hu_of hr
    have hu64 : _ := hr.units
    refine ⟨_, (pss_cons (ps_set (i := 1) sc_trail_of.nd rfl (Or.inl rfl) (pe_lst pa_nil))
      (pss_cons (ps_while PassesOwn.never (pt_cmpR op_notN (pv 0) pe_non (nomark _))
      (pss_cons (ps_expr (pe_bm PySem.F.plainAttrs_list PySem.F.slot_list_append PySem.F.type_list_append mt_append (pv 1) (pa_cons (pe_ix (ixT (K := K) rfl) (pv 0) pe_int (fun _ _ => rfl)) pa_nil)))
      (pss_one (ps_set (i := 0) sc_trail_of.nd rfl (Or.inl rfl) (pe_ix (ixT (K := K) rfl) (pv 0) pe_int (fun _ _ => rfl))))))
      (pss_one (ps_ret (pe_listRev rfl rfl B.list rfl B.reversed (pv 1)))))), ?_⟩
    obtain ⟨v, r, rfl, hR, hl, q⟩ := h
    refine ⟨(by show 0 ≤ sizeLine; exact Nat.zero_le _), fun l nl => ?_⟩
    refine ⟨fun m σ H' => ∃ v' r' dn, σ = [some v', some (.ref l)] ∧ Keep H H' ∧ H' l = some (.lst (natV dn)) ∧ LinkR K H v' r' ∧ dn ++ r' = r ∧ m = r'.length, ⟨_, v, r, [], rfl, Keep.new nl, upd_same, hR, rfl, rfl⟩, ?_⟩
    rintro m σ H' ⟨v', r', dn, rfl, k, hl1, hR', er, rfl⟩
    have hdn : dn.length + r'.length ≤ 2000 := by rw [← List.length_append, er]; exact hl
    cases r' with
    | nil =>
      have e : v' = .non := hR'
      subst e
      refine ⟨_, rfl, rfl, _, rfl, iteEqN ?_⟩
      rw [List.append_nil] at er
      subst er
      refine ⟨_, rfl, l, _, rfl, SqL.of hl1, fun q1 nq => q q1 _ (k.trans (Keep.new nq)) (Same.free k.same nq) ?_⟩
      rw [upd_same]
      unfold natV
      rw [List.map_reverse]
    | cons s r' =>
      obtain ⟨p, lv, rfl, hp, hR2⟩ := hR'
      refine ⟨_, rfl, rfl, _, rfl, iteNeN (by intro z; cases z) ?_⟩
      refine ⟨fun σ H2 => ∃ m', m' < (s :: r').length ∧ ∃ v' r' dn, σ = [some v', some (.ref l)] ∧ Keep H H2 ∧ H2 l = some (.lst (natV dn)) ∧ LinkR K H v' r' ∧ dn ++ r' = r ∧ m' = r'.length, fun σ H2 z => z, ?_⟩
      refine ⟨_, rfl, .inl ⟨rfl, _, SqL.of hl1⟩, _, rfl, p, _, _, _, rfl, rfl, k.same.tup hp, rfl, l, _, _, rfl, rfl, hl1, lt_line (by rw [natV_len]; omega), ?_⟩
      have k2 : Keep H (upd H' l (.lst (natV dn ++ [.int (s : Nat)]))) := fun b o e => (upd_ne (ne_of_none e nl)).trans (k b o e)
      refine ⟨_, rfl, p, _, _, _, rfl, rfl, k2.same.tup hp, rfl, ?_⟩
      refine ⟨r'.length, by simp, lv, r', dn ++ [s], rfl, k2, ?_, hR2, by rw [List.append_assoc]; exact er, rfl⟩
      rw [upd_same]
      unfold natV
      rw [List.map_append]; rfl

abbrev s_values_of : Stmt := top 10
abbrev n_values_of : List Str := ["walk", "trail", "text", "values", "here", "at", "step", "told"]
theorem sc_values_of : FnScope n_values_of ["walk", "trail", "text"] (defScope s_values_of) := ⟨rfl, rfl, rfl, by decide +kernel, rfl, by decide +kernel, by decide +kernel⟩

theorem dn_values_of (D : Df K mg "values_of" s_values_of ["walk", "trail", "text"]) (cW : CW K C_Walk_)  : Dn P w K mg base CX0 1 "values_of" (sp_values_of K C_Walk_) := by
  refine .of D fun f fd F => F.ok sc_values_of (fun vs H Q E h => ?_) (fun cdv A outer s H vs Q E hr h => ?_)
  · (obtain ⟨_, _, _, _, _, _, _, rfl, _⟩ := h; rfl)
  · have hu := hu_of hr
    have hu64 : _ := hr.units
    refine ⟨_, (pss_cons (ps_set (i := 3) sc_values_of.nd rfl (Or.inl rfl) pe_dnewK)
      (pss_cons (ps_set (i := 4) sc_values_of.nd rfl (Or.inl rfl) (pv 3))
      (pss_cons (ps_set (i := 5) sc_values_of.nd rfl (Or.inl rfl) pe_int)
      (pss_cons (ps_for PassesOwn.never rfl (pi_list (pv 1)) (pg_name (i := 6) sc_values_of.nd rfl (Or.inl rfl))
      (pss_cons (ps_set (i := 7) sc_values_of.nd rfl (Or.inl rfl) (pe_ix (ixLs (K := K) rfl) (pe_fld (pv 0) rfl) (pv 6) (fun _ _ => rfl)))
      (pss_one (ps_if (pt_cmpR op_eq (pe_ix (ixT (K := K) rfl) (pe_ix (ixLs (K := K) rfl) (pe_fld (pv 0) rfl) (pv 6) (fun _ _ => rfl)) pe_int (fun _ _ => rfl)) pe_str (nomark _)) (pss_cons (ps_if (pt_cmpR op_notN (pv 7) pe_non (nomark _)) (pss_one (ps_dput hu (pv 4) (pe_ix (ixT (K := K) rfl) (pv 7) pe_int (fun _ _ => rfl)) (pe_op op_add_str (pe_dget hu (pv 4) (pe_ix (ixT (K := K) rfl) (pv 7) pe_int (fun _ _ => rfl)) (fun _ _ => rfl)) (pe_ix ix_str (pv 2) (pv 5) (fun _ _ => rfl))) rfl)) pss_nil)
      (pss_one (ps_set (i := 5) sc_values_of.nd rfl (Or.inl rfl) (pe_op op_add (pv 5) pe_int)))) (pss_one (ps_if (PW.pt (pw_and (pt_cmpR op_notN (pv 7) pe_non (nomark _)) (pw_and1 (pt_cmpR op_eq (pe_ix (ixT (K := K) rfl) (pv 7) pe_int (fun _ _ => rfl)) pe_str (nomark _))))) (pss_one (ps_dput hu (pv 4) (pe_ix (ixT (K := K) rfl) (pv 7) pe_int (fun _ _ => rfl)) pe_str rfl)) (pss_one (ps_if (PW.pt (pw_and (pt_cmpR op_notN (pv 7) pe_non (nomark _)) (pw_and1 (pt_cmpR op_eq (pe_ix (ixT (K := K) rfl) (pv 7) pe_int (fun _ _ => rfl)) pe_str (nomark _))))) (pss_one (ps_dput hu (pv 3) (pe_ix (ixT (K := K) rfl) (pv 7) pe_int (fun _ _ => rfl)) (pe_lst pa_nil) rfl)) (pss_one (ps_if (PW.pt (pw_and (pt_cmpR op_notN (pv 7) pe_non (nomark _)) (pw_and1 (pt_cmpR op_eq (pe_ix (ixT (K := K) rfl) (pv 7) pe_int (fun _ _ => rfl)) pe_str (nomark _))))) (pss_cons (ps_set (i := 4) sc_values_of.nd rfl (Or.inl rfl) pe_dnewK)
      (pss_one (ps_expr (pe_bm PySem.F.plainAttrs_list PySem.F.slot_list_append PySem.F.type_list_append mt_append (pe_dget hu (pv 3) (pe_ix (ixT (K := K) rfl) (pv 7) pe_int (fun _ _ => rfl)) (fun _ _ => rfl)) (pa_cons (pv 4) pa_nil))))) (pss_one (ps_if (PW.pt (pw_and (pt_cmpR op_notN (pv 7) pe_non (nomark _)) (pw_and1 (pt_cmpR op_eq (pe_ix (ixT (K := K) rfl) (pv 7) pe_int (fun _ _ => rfl)) pe_str (nomark _))))) (pss_one (ps_set (i := 4) sc_values_of.nd rfl (Or.inl rfl) (pv 3))) pss_nil))))))))))))
      (pss_one (ps_ret (pv 3))))))), ?_⟩
    obtain ⟨x, l, tx, b, tr, vals, e, rfl, hW, hL, hl, hw, ht, hR, q⟩ := h
    obtain ⟨dx, fs, s, t, xs, ys, hx, ls, lt, lf, hS, hT, pS, pT⟩ := hW.fields
    refine fun d nd => ?_
    refine ⟨_, rfl, ?_⟩
    refine ⟨_, rfl, l, rfl, ⟨_, (Keep.new nd).same.seq hL⟩, ?_⟩
    refine for_list (K := K) (a := l) (xs := natV tr) (voP H x l d tx b.1 tr) ⟨.ref d, ⟨.top [], none, 0⟩, none, none, rfl, VS.start nd, rfl, Nat.le_refl _⟩ (fun i σ H' _ ⟨_, _, _, _, _, v, _⟩ => v.kp.same.seq hL) ?_ ?_
    · rintro i sv σ H' hi ⟨hv, st, v6, v7, rfl, hVS, hrun, hsz⟩
      obtain ⟨sn, hsn, rfl⟩ := natV_at hi
      have hsl := hw sn (mem_at hsn)
      obtain ⟨y, hy⟩ : ∃ y, b.1[sn]? = some y := ⟨_, List.getElem?_eq_getElem hsl⟩
      obtain ⟨st1, st', e1, hs, hr⟩ := runO_pre hR i (wOf_at hsn hy)
      rw [hrun] at e1
      cases e1
      have hi2 := at_lt hsn
      obtain ⟨pv, hpv, p, rfl, hp⟩ := Paired.ats pS hy
      obtain ⟨tv, htv, hTl⟩ := Paired.ats pT hy
      have kk : Same H H' := hVS.kp.same
      have hx' : H' x = some (.ins C_Walk_ dx fs) := kk _ _ hx
      have nxt := fun {H2} => voP.next (H := H) (H2 := H2) (x := x) (l := l) (d := d) hs hr hsz
      refine ⟨_, rfl, x, C_Walk_, dx, fs, _, rfl, hx', cW.cl, cW.nt, lt, _, rfl, t, ys, _, tv, rfl, rfl, kk.seq hT, atI_nat htv, ?_⟩
      refine ⟨_, rfl, x, C_Walk_, dx, fs, _, rfl, hx', cW.cl, cW.ns, ls, _, rfl, s, xs, _, _, rfl, rfl, kk.seq hS, atI_nat hpv, p, y.vs, 0, .str y.kd, rfl, rfl, kk.tup hp, y.kd_at, rfl, _, rfl, ?_⟩
      unfold TlR at hTl
      cases y with
      | fin =>
        have htn : tv = .non := hTl
        subst htn
        refine iteNe (by decide +kernel) ?_
        refine ⟨_, rfl, rfl, _, rfl, iteEqN (iteF ?_)⟩
        refine ⟨_, rfl, rfl, _, rfl, iteEqN (iteF ?_)⟩
        refine ⟨_, rfl, rfl, _, rfl, iteEqN (iteF ?_)⟩
        refine ⟨_, rfl, rfl, _, rfl, iteEqN (iteF ?_)⟩
        exact nxt _ _ _ (Option.some.inj hs).symm _ _ _ hVS rfl
      | choice a1 a2 =>
        have htn : tv = .non := hTl
        subst htn
        refine iteNe (show V.str "choice" ≠ V.str "sign" by decide +kernel) ?_
        refine ⟨_, rfl, rfl, _, rfl, iteEqN (iteF ?_)⟩
        refine ⟨_, rfl, rfl, _, rfl, iteEqN (iteF ?_)⟩
        refine ⟨_, rfl, rfl, _, rfl, iteEqN (iteF ?_)⟩
        refine ⟨_, rfl, rfl, _, rfl, iteEqN (iteF ?_)⟩
        exact nxt _ _ _ (Option.some.inj hs).symm _ _ _ hVS rfl
      | sign g n tl =>
        refine iteEq ?_
        cases tl with
        | none =>
          have htn : tv = .non := hTl
          subst htn
          refine ⟨_, rfl, rfl, _, rfl, iteEqN ?_⟩
          refine ⟨_, rfl, _, _, rfl, rfl, ?_⟩
          exact nxt _ _ _ (Option.some.inj hs).symm _ _ _ hVS (by omega)
        | some nm =>
          obtain ⟨q0, rfl, hq⟩ : ∃ a, tv = .ref a ∧ SqT K H a [.str "sign", .str nm] := hTl
          have hq' := kk.tup hq
          obtain ⟨z, c, ks, ef, hc, hk, e'⟩ := vinv_sign hs
          obtain ⟨ha, kv0, rfl, hha, hkl, hfr, hput⟩ := hVS.field hk
          have hz2 : z.length ≤ st.sz := by show _ ≤ st.fr.sz + fsz st.f; rw [ef]; show _ ≤ _ + (z.length + 1); omega
          have hkz : ks.length ≤ st.sz := by have := Fr.ks_len hk; show _ ≤ st.fr.sz + fsz st.f; omega
          rw [ef] at hha
          have hn := hVS.fo nm z ef ks hk
          have hv0 := hfr nm hn
          have hkv : valV (kv0 ++ [((Sum.inr nm : Key), V.str (ofL z))]) (Sum.inr nm) = some (.str (ofL z)) := by rw [valV_snoc _ _ _ _ hv0, if_pos rfl]
          have hlc := at_lt hc
          have hlt : tx.cps.toList.length = tx.length := Array.length_toList
          refine ⟨_, rfl, rfl, _, rfl, iteNeN (by intro z; cases z) ?_⟩
          refine ⟨_, rfl, _, rfl, q0, _, _, _, rfl, rfl, hq', rfl, ha, _, rfl, dget_s (.inl hha) hkv, ?_⟩
          refine ⟨_, rfl, _, rfl, tx, _, c, rfl, rfl, small_line (by omega), atI_nat hc, _, _, rfl, rfl, ?_, ?_⟩
          · rw [ofL_len]; exact Nat.le_of_lt (lt_line (by show z.length + 1 ≤ _; omega))
          refine ⟨_, rfl, _, rfl, q0, _, _, _, rfl, rfl, hq', rfl, ha, _, rfl, dput_s hha (lt_line ?_), ?_⟩
          · show (kv0 ++ [_]).length ≤ _
            rw [List.length_append, hkl]; show ks.length + 1 ≤ _; omega
          refine ⟨_, rfl, _, _, rfl, rfl, ?_⟩
          refine nxt _ _ _ e' _ _ _ ?_ (by omega)
          have h2 := hput (some (nm, z ++ [c])) fun m s e => by cases e; exact hn
          show VS H (upd H' ha (.dK (putK (kv0 ++ [_]) _ _))) d (.ref ha) _ _
          rw [putK_lst hv0, ofL_snoc]
          exact h2
      | mark n m nm =>
        obtain ⟨q0, rfl, hq⟩ : ∃ a, tv = .ref a ∧ SqT K H a [.str (mkS m), .str nm] := hTl
        have hq' := kk.tup hq
        refine iteNe (show V.str "mark" ≠ V.str "sign" by decide +kernel) ?_
        cases m with
        | opened =>
          obtain ⟨ks, ef, hk, hn, e'⟩ := vinv_opened hs
          obtain ⟨ha, kv0, rfl, hha, hkl, hfr, hput⟩ := hVS.field hk
          have hkz : ks.length ≤ st.sz := by have := Fr.ks_len hk; show _ ≤ st.fr.sz + fsz st.f; omega
          rw [ef] at hha
          refine ⟨_, rfl, rfl, _, rfl, iteNeN (by intro z; cases z) ⟨_, rfl, q0, _, _, _, rfl, rfl, hq', rfl, rfl, _, rfl, iteEq ?_⟩⟩
          refine ⟨_, rfl, _, rfl, q0, _, _, _, rfl, rfl, hq', rfl, ha, _, rfl, dput_s hha (lt_line ?_), ?_⟩
          · show (kv0 ++ []).length ≤ _
            rw [List.append_nil, hkl]; omega
          refine nxt _ _ _ e' _ _ _ ?_ rfl
          have h2 := hput (some (nm, [])) fun m s e => by cases e; exact hn
          show VS H (upd H' ha (.dK (putK (kv0 ++ []) _ _))) d (.ref ha) _ _
          rw [List.append_nil, putK_new _ (hfr nm hn)]
          exact h2
        | closed =>
          obtain ⟨z, ks, ef, hk, e'⟩ := vinv_closed hs
          refine ⟨_, rfl, rfl, _, rfl, iteNeN (by intro z; cases z) ⟨_, rfl, q0, _, _, _, rfl, rfl, hq', rfl, rfl, _, rfl, iteNe (by decide +kernel) ?_⟩⟩
          refine ⟨_, rfl, rfl, _, rfl, iteNeN (by intro z; cases z) ⟨_, rfl, q0, _, _, _, rfl, rfl, hq', rfl, rfl, _, rfl, iteNe (by decide +kernel) ?_⟩⟩
          refine ⟨_, rfl, rfl, _, rfl, iteNeN (by intro z; cases z) ⟨_, rfl, q0, _, _, _, rfl, rfl, hq', rfl, rfl, _, rfl, iteNe (by decide +kernel) ?_⟩⟩
          refine ⟨_, rfl, rfl, _, rfl, iteNeN (by intro z; cases z) ⟨_, rfl, q0, _, _, _, rfl, rfl, hq', rfl, rfl, _, rfl, iteNe (by decide +kernel) ?_⟩⟩
          rw [ef] at hVS
          exact nxt _ _ _ e' _ _ _ (hVS.closed hk) rfl
        | begun =>
          obtain ⟨vs, ef, efr, hn, e'⟩ := vinv_begun hs
          have hlv : vs.length ≤ st.sz := by show _ ≤ st.fr.sz + fsz st.f; rw [efr]; show vs.length ≤ vs.length + _; omega
          rw [ef, efr] at hVS
          refine ⟨_, rfl, rfl, _, rfl, iteNeN (by intro z; cases z) ⟨_, rfl, q0, _, _, _, rfl, rfl, hq', rfl, rfl, _, rfl, iteNe (by decide +kernel) ?_⟩⟩
          refine ⟨_, rfl, rfl, _, rfl, iteNeN (by intro z; cases z) ⟨_, rfl, q0, _, _, _, rfl, rfl, hq', rfl, rfl, _, rfl, iteEq ?_⟩⟩
          refine ⟨(by show 0 ≤ sizeLine; exact Nat.zero_le _), fun l1 nl1 => ?_⟩
          obtain ⟨kvs, rfl, hd, hkl, h2⟩ := hVS.begun hn nl1
          have hd' : (upd H' l1 (.lst [])) d = some (.dK kvs) := (upd_ne (ne_of_none hd nl1)).trans hd
          refine ⟨_, rfl, _, rfl, q0, _, _, _, rfl, rfl, (kk.trans (Same.new nl1)).tup hq, rfl, d, _, rfl, dput_s hd' (lt_line (by omega)), ?_⟩
          exact nxt _ _ _ e' _ _ _ h2 rfl
        | row =>
          obtain ⟨ef, efr, e'⟩ := vinv_row hs
          have hlv : st.fr.sz ≤ st.sz := by show _ ≤ st.fr.sz + fsz st.f; omega
          rw [ef] at hVS
          refine ⟨_, rfl, rfl, _, rfl, iteNeN (by intro z; cases z) ⟨_, rfl, q0, _, _, _, rfl, rfl, hq', rfl, rfl, _, rfl, iteNe (by decide +kernel) ?_⟩⟩
          refine ⟨_, rfl, rfl, _, rfl, iteNeN (by intro z; cases z) ⟨_, rfl, q0, _, _, _, rfl, rfl, hq', rfl, rfl, _, rfl, iteNe (by decide +kernel) ?_⟩⟩
          refine ⟨_, rfl, rfl, _, rfl, iteNeN (by intro z; cases z) ⟨_, rfl, q0, _, _, _, rfl, rfl, hq', rfl, rfl, _, rfl, iteEq ?_⟩⟩
          intro h2 nh
          obtain ⟨kvs, l1, ws, hd, hl1, hws, hwl, hV2⟩ := hVS.row efr nh
          have hd' : (upd H' h2 (.dK [])) d = some (.dK kvs) := (upd_ne (ne_of_none hd nh)).trans hd
          have hws' : (upd H' h2 (.dK [])) l1 = some (.lst ws) := (upd_ne (ne_of_none hws nh)).trans hws
          refine ⟨_, rfl, _, rfl, q0, _, _, _, rfl, rfl, (kk.trans (Same.new nh)).tup hq, rfl, d, _, rfl, dget_s (.inl hd') hl1, .inl ⟨rfl, _, SqL.of hws'⟩, _, rfl, l1, ws, _, rfl, rfl, hws', lt_line (by omega), ?_⟩
          exact nxt _ _ _ e' _ _ _ hV2 rfl
        | ended =>
          obtain ⟨ef, efr, e'⟩ := vinv_ended hs
          rw [ef] at hVS
          refine ⟨_, rfl, rfl, _, rfl, iteNeN (by intro z; cases z) ⟨_, rfl, q0, _, _, _, rfl, rfl, hq', rfl, rfl, _, rfl, iteNe (by decide +kernel) ?_⟩⟩
          refine ⟨_, rfl, rfl, _, rfl, iteNeN (by intro z; cases z) ⟨_, rfl, q0, _, _, _, rfl, rfl, hq', rfl, rfl, _, rfl, iteNe (by decide +kernel) ?_⟩⟩
          refine ⟨_, rfl, rfl, _, rfl, iteNeN (by intro z; cases z) ⟨_, rfl, q0, _, _, _, rfl, rfl, hq', rfl, rfl, _, rfl, iteNe (by decide +kernel) ?_⟩⟩
          refine ⟨_, rfl, rfl, _, rfl, iteNeN (by intro z; cases z) ⟨_, rfl, q0, _, _, _, rfl, rfl, hq', rfl, rfl, _, rfl, iteEq ?_⟩⟩
          refine ⟨_, rfl, ?_⟩
          exact nxt _ _ _ e' _ _ _ (hVS.ended efr) rfl
    · rintro σ H' ⟨hv, st, v6, v7, rfl, hVS, hrun, hsz⟩
      rw [natV_len, List.take_of_length_le (by rw [wOf_len]; exact Nat.le_refl _), hR] at hrun
      cases hrun
      obtain ⟨kp, d0, ⟨rfl, kvs, hd, pr⟩, _⟩ := hVS
      exact ⟨_, rfl, q d kvs H' kp nd (by rw [hd]; simp [fK]) pr⟩

abbrev s_readings : Stmt := top 12
abbrev n_readings : List Str := ["form", "text", "most", "walk", "good", "found", "left", "place", "step", "link", "after"]
theorem sc_readings : FnScope n_readings ["form", "text", "most"] (defScope s_readings) := ⟨rfl, rfl, rfl, by decide +kernel, rfl, by decide +kernel, by decide +kernel⟩

theorem dn_readings (D : Dd K mg "readings" s_readings ["form", "text", "most"] (V.int 2)) (B : Bl mg) (m_Walk : Mn P w K mg base CX0 6 "Walk" C_Walk_ (sp_Walk___init__ K C_Walk_))  (d_ends_well : Dn P w K mg base CX0 1 "ends_well" (sp_ends_well K C_Walk_))  (d_values_of : Dn P w K mg base CX0 1 "values_of" (sp_values_of K C_Walk_))  (d_trail_of : Dn P w K mg base CX0 1 "trail_of" (sp_trail_of K)) (cW : CW K C_Walk_)  : Dnd P w K mg base CX0 8 "readings" (sp_readings K) (V.int 2) := by
  refine .of D fun f fd F => FunD.okN F sc_readings (fun vs H Q E h => ?_) (fun cdv A outer s H vs Q E hr h => ?_)
  · (obtain ⟨_, _, _, _, rfl, _⟩ := h; rfl)
  · have hu := hu_of hr
    have hu64 : _ := hr.units
    refine ⟨_, (pss_cons (ps_set (i := 3) sc_readings.nd rfl (Or.inl rfl) (cM m_Walk hr (by decide) rfl (pa_cons (pv 0) pa_nil)))
      (pss_cons (ps_set (i := 4) sc_readings.nd rfl (Or.inl rfl) (cD d_ends_well hr (by decide) rfl (pa_cons (pv 3) (pa_cons (pv 1) pa_nil))))
      (pss_cons (ps_set (i := 5) sc_readings.nd rfl (Or.inl rfl) (pe_lst pa_nil))
      (pss_cons (ps_set (i := 6) sc_readings.nd rfl (Or.inl rfl) (pe_lst pa_nil))
      (C8.pss_cut (ps_if (pt_cmp (pc_din hu pe_int (pe_ix (ixLs (K := K) rfl) (pv 4) (pe_fld (pv 3) rfl) (fun _ _ => rfl)))) (pss_one (ps_expr (pe_bm PySem.F.plainAttrs_list PySem.F.slot_list_append PySem.F.type_list_append mt_append (pv 6) (pa_cons (pe_tup (pa_cons (pe_fld (pv 3) rfl) (pa_cons pe_int (pa_cons pe_non pa_nil)))) pa_nil)))) pss_nil)
      (pss_cons (ps_while PassesOwn.never (PW.pt (pw_and (pt_truth (pv 6) (by intro _; rfl)) (pw_and1 (pt_cmpR op_lt (pe_callB (callLen (K := K) rfl) rfl B.len PySem.boot_len (pa_cons (pv 5) pa_nil)) (pv 2) (nomark _)))))
      (pss_cons (ps_set (i := 7) sc_readings.nd rfl (Or.inl rfl) (pe_bm0 PySem.F.plainAttrs_list PySem.F.slot_list_pop PySem.F.type_list_pop mt_pop (pv 6)))
      (pss_cons (ps_set (i := 8) sc_readings.nd rfl (Or.inl rfl) (pe_ix (ixLs (K := K) rfl) (pe_fld (pv 3) rfl) (pe_ix (ixT (K := K) rfl) (pv 7) pe_int (fun _ _ => rfl)) (fun _ _ => rfl)))
      (pss_cons (ps_set (i := 9) sc_readings.nd rfl (Or.inl rfl) (pe_tup (pa_cons (pe_ix (ixT (K := K) rfl) (pv 7) pe_int (fun _ _ => rfl)) (pa_cons (pe_ix (ixT (K := K) rfl) (pv 7) pe_int (fun _ _ => rfl)) pa_nil))))
      (pss_one (ps_if (pt_cmpR op_eq (pe_ix (ixT (K := K) rfl) (pv 8) pe_int (fun _ _ => rfl)) pe_str (nomark _)) (pss_one (ps_expr (pe_bm PySem.F.plainAttrs_list PySem.F.slot_list_append PySem.F.type_list_append mt_append (pv 5) (pa_cons (cD d_values_of hr (by decide) rfl (pa_cons (pv 3) (pa_cons (cD d_trail_of hr (by decide) rfl (pa_cons (pv 9) pa_nil)) (pa_cons (pv 1) pa_nil)))) pa_nil)))) (pss_one (ps_if (pt_cmpR op_eq (pe_ix (ixT (K := K) rfl) (pv 8) pe_int (fun _ _ => rfl)) pe_str (nomark _)) (pss_one (ps_expr (pe_bm PySem.F.plainAttrs_list PySem.F.slot_list_append PySem.F.type_list_append mt_append (pv 6) (pa_cons (pe_tup (pa_cons (pe_ix (ixT (K := K) rfl) (pv 8) pe_int (fun _ _ => rfl)) (pa_cons (pe_op op_add (pe_ix (ixT (K := K) rfl) (pv 7) pe_int (fun _ _ => rfl)) pe_int) (pa_cons (pv 9) pa_nil)))) pa_nil)))) (pss_one (ps_for PassesOwn.never rfl (RT.pi_revA rfl B.reversed (pe_slice (slT (K := K) rfl) (pv 8) (po_some pe_int) po_none)) (pg_name (i := 10) sc_readings.nd rfl (Or.inl rfl))
      (pss_one (ps_if (pt_cmp (pc_din hu (pe_ix (ixT (K := K) rfl) (pv 7) pe_int (fun _ _ => rfl)) (pe_ix (ixLs (K := K) rfl) (pv 4) (pv 10) (fun _ _ => rfl)))) (pss_one (ps_expr (pe_bm PySem.F.plainAttrs_list PySem.F.slot_list_append PySem.F.type_list_append mt_append (pv 6) (pa_cons (pe_tup (pa_cons (pv 10) (pa_cons (pe_ix (ixT (K := K) rfl) (pv 7) pe_int (fun _ _ => rfl)) (pa_cons (pv 9) pa_nil)))) pa_nil)))) pss_nil))))))))))))
      (pss_one (ps_ret (pv 5))))))))), ?_⟩
    obtain ⟨f, tx, most, ps, rfl, hF, hok, ht, h0, hm, q⟩ := h
    obtain ⟨okb, hbl⟩ := formB_ok hok
    have hcl : tx.cps.toList.length = tx.length := Array.length_toList
    refine ⟨_, rfl, fun x dx nx ndx xd => ⟨x, dx, f, ps, H, rfl, nx, ndx, xd, rfl, hF, hok, fun H1 k1 w1 => ⟨rfl, ?_⟩⟩⟩
    refine ⟨_, rfl, _, rfl, x, tx, formB ps, rfl, w1, okb, by omega, ht, fun g H2 k2 ng gd => ?_⟩
    refine ⟨(by show 0 ≤ sizeLine; exact Nat.zero_le _), fun F nF => ?_⟩
    refine ⟨(by show 0 ≤ sizeLine; exact Nat.zero_le _), fun L nL => ?_⟩
    have S0 := RdS.start (k1.trans k2) (w1.mono k2.same) gd nF nL
    generalize upd (upd H2 F (.lst [])) L (.lst []) = H3 at S0 ⊢
    refine ⟨fun σ H' => ∃ m, rdP K C_Walk_ H f x g F L tx most (formB ps) m σ H', ?_, ?_⟩
    · obtain ⟨dx', fs, s, t, xs, ys, hx, ls, lt, lf, hS, hT, pS, pT⟩ := S0.wk.fields
      obtain ⟨gs, hg, hgl, hgP⟩ := S0.gd
      have hgi : (formB ps).2 < gs.length := by rw [hgl]; exact okb.2
      have hgn : gs[(formB ps).2]? = some gs[(formB ps).2] := List.getElem?_eq_getElem hgi
      obtain ⟨dn, kn, en, hdn, pn⟩ := hgP _ _ hgn
      have hiff := pn.iff 0
      obtain ⟨st1, st2⟩ := SInv.start (cs := tx.cps.toList) okb.2
      refine ⟨_, rfl, _, rfl, x, C_Walk_, dx', fs, _, rfl, S0.same _ _ hx, cW.cl, cW.nf, lf, g, gs, _, _, rfl, rfl, SqL.of (S0.same _ _ hg), atI_nat hgn, dn, _, en, dget_i (.inl (S0.same _ _ hdn)) rfl, _, rfl, ?_⟩
      refine ite2 (fun hs => ?_) (fun hs => ?_)
      · obtain ⟨lvs0, hL0, _⟩ := S0.hL
        refine ⟨_, rfl, .inl ⟨rfl, _, SqL.of hL0⟩, _, rfl, x, C_Walk_, dx', fs, _, rfl, S0.same _ _ hx, cW.cl, cW.nf, lf, (by show 3 ≤ sizeLine; decide), fun p np => ?_⟩
        obtain ⟨S1, hp, kp1⟩ := S0.newT (o := .tup [.int ((formB ps).2 : Nat), .int (0 : Nat), .non]) np
        obtain ⟨lvs, hL, hll, S2⟩ := S1.push (e := ⟨(formB ps).2, 0, []⟩) (v := .ref p) ⟨p, .non, rfl, SqT.of hp, rfl⟩
        refine ⟨L, lvs, _, rfl, rfl, hL, lt_line (by rw [hll]; exact Nat.zero_le _), ?_⟩
        exact ⟨_, [], _, [], _, _, _, _, rfl, S2, st1 (hiff.mp hs), h0, rfl⟩
      · refine ⟨_, [], _, [], _, _, _, _, rfl, S0, st2 ?_, h0, rfl⟩
        rcases hh : ways tx.cps.toList (formB ps).1 (formB ps).2 0 with _ | ⟨y, ys⟩
        · rfl
        · exact absurd (hiff.mpr (by rw [hh]; simp)) hs
    rintro σ H' ⟨m, w0⟩
    refine ⟨rdP K C_Walk_ H f x g F L tx most (formB ps), ⟨m, w0⟩, ?_⟩
    clear w0
    rintro m σ H' ⟨fnd, left, ds, v7, v8, v9, v10, rfl, S, I, hlen, rfl⟩
    have fin : fnd = (ways tx.cps.toList (formB ps).1 (formB ps).2 0).take most.toNat → Q (.ref F) H' := fun e =>
      q _ _ S.kp ⟨F, ds, rfl, S.f0, S.hF, Paired.monoP (told_first hok S.tl e) fun _ _ z => z.mono S.same⟩
    have hds := Paired.len S.tl
    rcases List.eq_nil_or_concat left with rfl | ⟨left', e, rfl⟩
    · obtain ⟨lvs, hL, pL⟩ := S.hL
      have : lvs = [] := List.eq_nil_of_length_eq_zero (Paired.len pL)
      subst this
      refine ⟨_, rfl, _, .inl ⟨_, SqL.of hL, rfl⟩, iteF (iteF ⟨_, rfl, fin ?_⟩)⟩
      have h1 := I.done
      rw [← h1, List.take_of_length_le (by omega)]
    rw [List.concat_eq_append] at *
    have hleft := I.len
    obtain ⟨lvs, v, hL, hv, hll, ⟨p, lv, rfl, hp, hlk⟩, S1⟩ := S.pop
    have htr : (!lvs.isEmpty) = true := by
      cases lvs with
      | nil => simp at hll
      | cons a r => rfl
    refine ⟨_, rfl, _, .inl ⟨_, SqL.of hL, rfl⟩, iteBT htr ?_⟩
    refine ⟨_, rfl, F, _, rfl, .inl (SqL.of S.hF), _, rfl, _, _, rfl, rfl, _, rfl, iteDec (fun hc => ?_) (fun hc => ⟨_, rfl, fin (by rw [List.length_map, hds] at hc; rw [show most.toNat = fnd.length by omega]; exact I.take)⟩)⟩
    rw [List.length_map, hds] at hc
    refine ⟨fun σ' H2 => ∃ m', m' < wgtAll tx.cps.toList (formB ps).1 (left' ++ [e]) ∧ rdP K C_Walk_ H f x g F L tx most (formB ps) m' σ' H2, fun _ _ z => z, ?_⟩
    refine ⟨_, rfl, .inl ⟨rfl, _, SqL.of hL⟩, L, lvs, _, rfl, rfl, hL, hv, ?_⟩
    have k1 : Keep (hide H' [F, L]) (hide (upd H' L (.lst lvs.dropLast)) [F, L]) := hideK fun b o n e => (upd_ne fun z => n (by simp [z])).trans e
    have hp1 := k1.same.tup hp
    have hlk1 := hlk.mono k1.same
    generalize upd H' L (.lst lvs.dropLast) = H4 at S1 hp1 hlk1 k1 ⊢
    have hes : e.s < (formB ps).1.length := by have := I.dp left'.length e (by simp); omega
    have hep := I.pr e (by simp)
    have hew := I.wf e (by simp)
    obtain ⟨y, hy⟩ : ∃ y, (formB ps).1[e.s]? = some y := ⟨_, List.getElem?_eq_getElem hes⟩
    obtain ⟨dx', fs, s, t, xs, ys, hx, ls, lt, lf, hS, hT, pS, pT⟩ := S1.wk.fields
    obtain ⟨sv, hsv, sp, rfl, hst⟩ := Paired.ats pS hy
    have sm := S1.same
    refine ⟨_, rfl, x, C_Walk_, dx', fs, _, rfl, sm _ _ hx, cW.cl, cW.ns, ls, _, rfl, p, _, _, _, rfl, rfl, sm.tup hp1, rfl, s, xs, _, _, rfl, rfl, sm.seq hS, atI_nat hsv, ?_⟩
    refine ⟨_, rfl, p, _, _, _, rfl, rfl, sm.tup hp1, rfl, _, rfl, p, _, _, _, rfl, rfl, sm.tup hp1, rfl, (by show 2 ≤ sizeLine; decide), fun q0 nq => ?_⟩
    obtain ⟨S2, hq2, k2'⟩ := S1.newT (o := .tup [.int (e.s : Nat), lv]) nq
    have hp2 := k2'.same.tup hp1
    have hlk2 : LinkR K (hide (upd H4 q0 (.tup [.int (e.s : Nat), lv])) [F, L]) (.ref q0) (e.pre ++ [e.s]).reverse := by
      rw [List.reverse_append]
      exact ⟨q0, lv, rfl, SqT.of hq2, hlk1.mono k2'.same⟩
    have hst2 := k2'.same.tup hst
    have hst3 := S2.same.tup hst2
    have hsu := okb.1 e.s y hy
    generalize upd H4 q0 (.tup [.int (e.s : Nat), lv]) = H5 at S2 hp2 hlk2 hst2 hst3 ⊢
    clear k2' hq2 k1 hp hlk S1 hp1 hlk1 sm hst S htr
    refine ⟨_, rfl, sp, y.vs, 0, .str y.kd, rfl, rfl, hst3, y.kd_at, rfl, _, rfl, ?_⟩
    cases y with
    | fin =>
      refine iteEq ?_
      obtain ⟨I2, m2⟩ := I.found okb.1 hy
      obtain ⟨vals, hr⟩ := way_vals hok I2.way
      refine ⟨_, rfl, .inl ⟨rfl, _, SqL.of S2.hF⟩, _, rfl, _, rfl, .ref q0, (e.pre ++ [e.s]).reverse, rfl, hlk2.mono S2.same, by simp; omega, fun l H6 k6 nl hl6 => ?_⟩
      have S3 := S2.keep k6
      rw [List.reverse_reverse] at hl6
      refine ⟨_, rfl, x, l, tx, formB ps, e.pre ++ [e.s], vals, tx.cps.toList.length, rfl, S3.wk.mono S3.same, SqL.of hl6, by simp; omega, fun i hi => ?_, ht, hr, fun d kvs H7 k7 nd hd pr => ?_⟩
      · rcases List.mem_append.mp hi with hi | hi
        · exact hew i hi
        · rw [List.mem_singleton] at hi; subst hi; exact hes
      obtain ⟨hF4, S4⟩ := S3.more k7 nd hd pr hr
      refine ⟨F, _, _, rfl, rfl, hF4, lt_line (by rw [List.length_map, hds]; omega), ?_⟩
      exact ⟨_, m2, fnd ++ [wOf (formB ps).1 (e.pre ++ [e.s])], left', ds ++ [d], _, _, _, _, rfl, S4, I2, by rw [List.length_append, List.length_singleton]; omega, rfl⟩
    | sign g0 n tl =>
      refine iteNe (show V.str "sign" ≠ V.str "end" by decide +kernel) ?_
      refine ⟨_, rfl, sp, _, _, _, rfl, rfl, hst3, rfl, rfl, _, rfl, iteEq ?_⟩
      obtain ⟨lv2, hL2, _⟩ := S2.hL
      refine ⟨_, rfl, .inl ⟨rfl, _, SqL.of hL2⟩, _, rfl, sp, _, _, _, rfl, rfl, hst3, rfl, _, rfl, p, _, _, _, rfl, rfl, S2.same.tup hp2, rfl, _, _, rfl, rfl, _, rfl, (by show 3 ≤ sizeLine; decide), fun r nr => ?_⟩
      obtain ⟨S3, hr3, k3⟩ := S2.newT (o := .tup [.int (n : Nat), .int ((e.a : Nat) + 1 : Int), .ref q0]) nr
      obtain ⟨lv3, hL3, hl3, S4⟩ := S3.push (e := ⟨n, e.a + 1, e.pre ++ [e.s]⟩) (v := .ref r) ⟨r, .ref q0, rfl, SqT.of hr3, hlk2.mono k3.same⟩
      refine ⟨L, lv3, _, rfl, rfl, hL3, lt_line (by rw [hl3]; simp at hleft; omega), ?_⟩
      obtain ⟨I2, m2⟩ := I.step okb.1 hy (by simp)
      exact ⟨_, m2, fnd, _, ds, _, _, _, _, rfl, S4, I2, hlen, rfl⟩
    | choice a1 a2 =>
      refine iteNe (show V.str "choice" ≠ V.str "end" by decide +kernel) ?_
      refine ⟨_, rfl, sp, _, _, _, rfl, rfl, hst3, rfl, rfl, _, rfl, iteNe (by decide +kernel) ?_⟩
      refine ⟨_, rfl, 1, rfl, sp, _, rfl, hst3, fun z => absurd z.1 (by show ¬ (1 : Nat) = 0; decide), fun _ c nc => ⟨c, natV [a1, a2], rfl, .inr ⟨SqT.of upd_same, ?_⟩⟩⟩
      obtain ⟨S3, hc3, k3⟩ := S2.newT (o := .tup (natV [a1, a2])) nc
      refine RT.for_ItvT (K := K) (a := c) (xs := natV [a1, a2]) (fun j σ H2 => rdL K C_Walk_ H f x g F L p q0 sp tx most (formB ps) fnd ds left' e ([a1, a2].reverse.take j) lv c (natV [a1, a2]) σ H2)
        ⟨v10, rfl, by rw [List.take_zero, List.map_nil, List.filter_nil, List.append_nil]; exact S3, k3.same.tup hp2, hlk2.mono k3.same, SqT.of hc3⟩ (fun j σ H2 ⟨_, _, S, _, _, z⟩ => S.same.tup z) ?_ ?_
      · rintro j v σ H2 hj hv2 ⟨v10, rfl, S, hp, hlk, hc⟩
        rw [natV_len] at hj hv2
        obtain ⟨n, hn, rfl⟩ := natV_at hv2
        have hnr : [a1, a2].reverse[j]? = some n := by rw [List.getElem?_reverse hj]; exact hn
        have hni : n < e.s := hsu n (show n ∈ succs (.choice a1 a2) from mem_at hn)
        obtain ⟨gs, hg, hgl, hgP⟩ := S.gd
        have hgi : n < gs.length := by omega
        have hgn : gs[n]? = some gs[n] := List.getElem?_eq_getElem hgi
        obtain ⟨dn, kn, en, hdn, pn⟩ := hgP n _ hgn
        have hiff := pn.iff e.a
        unfold rdL
        rw [take_snoc hnr, List.map_append, List.filter_append, List.map_singleton]
        refine ⟨_, rfl, p, _, _, _, rfl, rfl, S.same.tup hp, rfl, _, rfl, _, rfl, g, gs, _, _, rfl, rfl, SqL.of (S.same _ _ hg), atI_nat hgn, dn, _, en, dget_i (.inl (S.same _ _ hdn)) rfl, _, rfl, ?_⟩
        refine ite2 (fun hs => ?_) (fun hs => ?_)
        · have hne : ways tx.cps.toList (formB ps).1 n e.a ≠ [] := hiff.mp hs
          obtain ⟨lv2, hL2, _⟩ := S.hL
          refine ⟨_, rfl, .inl ⟨rfl, _, SqL.of hL2⟩, _, rfl, _, rfl, p, _, _, _, rfl, rfl, S.same.tup hp, rfl, _, rfl, (by show 3 ≤ sizeLine; decide), fun r nr => ?_⟩
          obtain ⟨S4, hr4, k4⟩ := S.newT (o := .tup [.int (n : Nat), .int (e.a : Nat), .ref q0]) nr
          obtain ⟨lv3, hL3, hl3, S5⟩ := S4.push (e := ⟨n, e.a, e.pre ++ [e.s]⟩) (v := .ref r) ⟨r, .ref q0, rfl, SqT.of hr4, hlk.mono k4.same⟩
          have hlr := List.length_filter_le (fun e' : En => decide (ways tx.cps.toList (formB ps).1 e'.s e'.a ≠ [])) (([a1, a2].reverse.take j).map fun n => (⟨n, e.a, e.pre ++ [e.s]⟩ : En))
          rw [List.length_map, List.length_take] at hlr
          have hLL : [a1, a2].length ≤ 2 := by simp
          refine ⟨L, lv3, _, rfl, rfl, hL3, lt_line (by rw [hl3, List.length_append]; simp only [List.length_append, List.length_singleton] at hleft; omega), ?_⟩
          have k5 : Keep (hide (upd H2 r (.tup [.int (n : Nat), .int (e.a : Nat), .ref q0])) [F, L]) (hide (upd (upd H2 r (.tup [.int (n : Nat), .int (e.a : Nat), .ref q0])) L (.lst (lv3 ++ [.ref r]))) [F, L]) := hideK fun b o n e => (upd_ne fun z => n (by simp [z])).trans e
          have k6 := k4.trans k5
          refine ⟨_, rfl, ?_, k6.same.tup hp, hlk.mono k6.same, k6.same.tup hc⟩
          rw [List.filter_cons, if_pos (by simp [hne]), List.filter_nil, ← List.append_assoc]
          exact S5
        · have hne : ways tx.cps.toList (formB ps).1 n e.a = [] := by
            rcases hh : ways tx.cps.toList (formB ps).1 n e.a with _ | ⟨y, ys⟩
            · rfl
            · exact absurd (hiff.mpr (by rw [hh]; simp)) hs
          refine ⟨_, rfl, ?_, hp, hlk, hc⟩
          rw [List.filter_cons, if_neg (by simp [hne]), List.filter_nil, List.append_nil]
          exact S
      · rintro σ H2 ⟨v10, rfl, S, hp, hlk, hc⟩
        rw [natV_len, List.take_of_length_le (by simp)] at S
        obtain ⟨I2, m2⟩ := I.step okb.1 hy (by simp)
        exact ⟨_, m2, fnd, _, ds, _, _, _, _, rfl, S, I2, hlen, rfl⟩
    | mark a1 m nm =>
      refine iteNe (show V.str "mark" ≠ V.str "end" by decide +kernel) ?_
      refine ⟨_, rfl, sp, _, _, _, rfl, rfl, hst3, rfl, rfl, _, rfl, iteNe (by decide +kernel) ?_⟩
      refine ⟨_, rfl, 1, rfl, sp, _, rfl, hst3, fun z => absurd z.1 (by show ¬ (1 : Nat) = 0; decide), fun _ c nc => ⟨c, natV [a1], rfl, .inr ⟨SqT.of upd_same, ?_⟩⟩⟩
      obtain ⟨S3, hc3, k3⟩ := S2.newT (o := .tup (natV [a1])) nc
      refine RT.for_ItvT (K := K) (a := c) (xs := natV [a1]) (fun j σ H2 => rdL K C_Walk_ H f x g F L p q0 sp tx most (formB ps) fnd ds left' e ([a1].reverse.take j) lv c (natV [a1]) σ H2)
        ⟨v10, rfl, by rw [List.take_zero, List.map_nil, List.filter_nil, List.append_nil]; exact S3, k3.same.tup hp2, hlk2.mono k3.same, SqT.of hc3⟩ (fun j σ H2 ⟨_, _, S, _, _, z⟩ => S.same.tup z) ?_ ?_
      · rintro j v σ H2 hj hv2 ⟨v10, rfl, S, hp, hlk, hc⟩
        rw [natV_len] at hj hv2
        obtain ⟨n, hn, rfl⟩ := natV_at hv2
        have hnr : [a1].reverse[j]? = some n := by rw [List.getElem?_reverse hj]; exact hn
        have hni : n < e.s := hsu n (show n ∈ succs (.mark a1 m nm) from mem_at hn)
        obtain ⟨gs, hg, hgl, hgP⟩ := S.gd
        have hgi : n < gs.length := by omega
        have hgn : gs[n]? = some gs[n] := List.getElem?_eq_getElem hgi
        obtain ⟨dn, kn, en, hdn, pn⟩ := hgP n _ hgn
        have hiff := pn.iff e.a
        unfold rdL
        rw [take_snoc hnr, List.map_append, List.filter_append, List.map_singleton]
        refine ⟨_, rfl, p, _, _, _, rfl, rfl, S.same.tup hp, rfl, _, rfl, _, rfl, g, gs, _, _, rfl, rfl, SqL.of (S.same _ _ hg), atI_nat hgn, dn, _, en, dget_i (.inl (S.same _ _ hdn)) rfl, _, rfl, ?_⟩
        refine ite2 (fun hs => ?_) (fun hs => ?_)
        · have hne : ways tx.cps.toList (formB ps).1 n e.a ≠ [] := hiff.mp hs
          obtain ⟨lv2, hL2, _⟩ := S.hL
          refine ⟨_, rfl, .inl ⟨rfl, _, SqL.of hL2⟩, _, rfl, _, rfl, p, _, _, _, rfl, rfl, S.same.tup hp, rfl, _, rfl, (by show 3 ≤ sizeLine; decide), fun r nr => ?_⟩
          obtain ⟨S4, hr4, k4⟩ := S.newT (o := .tup [.int (n : Nat), .int (e.a : Nat), .ref q0]) nr
          obtain ⟨lv3, hL3, hl3, S5⟩ := S4.push (e := ⟨n, e.a, e.pre ++ [e.s]⟩) (v := .ref r) ⟨r, .ref q0, rfl, SqT.of hr4, hlk.mono k4.same⟩
          have hlr := List.length_filter_le (fun e' : En => decide (ways tx.cps.toList (formB ps).1 e'.s e'.a ≠ [])) (([a1].reverse.take j).map fun n => (⟨n, e.a, e.pre ++ [e.s]⟩ : En))
          rw [List.length_map, List.length_take] at hlr
          have hLL : [a1].length ≤ 2 := by simp
          refine ⟨L, lv3, _, rfl, rfl, hL3, lt_line (by rw [hl3, List.length_append]; simp only [List.length_append, List.length_singleton] at hleft; omega), ?_⟩
          have k5 : Keep (hide (upd H2 r (.tup [.int (n : Nat), .int (e.a : Nat), .ref q0])) [F, L]) (hide (upd (upd H2 r (.tup [.int (n : Nat), .int (e.a : Nat), .ref q0])) L (.lst (lv3 ++ [.ref r]))) [F, L]) := hideK fun b o n e => (upd_ne fun z => n (by simp [z])).trans e
          have k6 := k4.trans k5
          refine ⟨_, rfl, ?_, k6.same.tup hp, hlk.mono k6.same, k6.same.tup hc⟩
          rw [List.filter_cons, if_pos (by simp [hne]), List.filter_nil, ← List.append_assoc]
          exact S5
        · have hne : ways tx.cps.toList (formB ps).1 n e.a = [] := by
            rcases hh : ways tx.cps.toList (formB ps).1 n e.a with _ | ⟨y, ys⟩
            · rfl
            · exact absurd (hiff.mpr (by rw [hh]; simp)) hs
          refine ⟨_, rfl, ?_, hp, hlk, hc⟩
          rw [List.filter_cons, if_neg (by simp [hne]), List.filter_nil, List.append_nil]
          exact S
      · rintro σ H2 ⟨v10, rfl, S, hp, hlk, hc⟩
        rw [natV_len, List.take_of_length_le (by simp)] at S
        obtain ⟨I2, m2⟩ := I.step okb.1 hy (by simp)
        exact ⟨_, m2, fnd, _, ds, _, _, _, _, rfl, S, I2, hlen, rfl⟩

abbrev s_Twofold___init__ : Stmt := inClass (top 5) 0
abbrev n_Twofold___init__ : List Str := ["self", "one", "other"]
theorem sc_Twofold___init__ : FnScope n_Twofold___init__ ["self", "one", "other"] (defScope s_Twofold___init__) := ⟨rfl, rfl, rfl, by decide +kernel, rfl, by decide +kernel, by decide +kernel⟩

theorem fn_Twofold___init__ (oV : OexC K C_Twofold_) (n1 : PySem.W.findIn K (.ref C_Twofold_) "one" = some none) (n2 : PySem.W.findIn K (.ref C_Twofold_) "other" = some none)  {f : Addr} {fd : FuncData} (F : Fun K "__init__" "Twofold.__init__" s_Twofold___init__ f fd) : FnOk P w K mg base CX0 1 f fd ["self", "one", "other"] (sp_Twofold___init__ C_Twofold_) := by
  refine F.ok sc_Twofold___init__ (fun vs H Q E h => ?_) (fun cdv A outer s H vs Q E hr h => ?_)
  · (obtain ⟨_, _, _, rfl, _⟩ := h; rfl)
  · have hu := hu_of hr
    have hu64 : _ := hr.units
    refine ⟨_, (pss_cons (ps_ost (pv 0) (pv 1))
      (pss_one (ps_ost (pv 0) (pv 2)))), ?_⟩
    obtain ⟨a, v1, v2, rfl, ha, q⟩ := h
    refine ⟨_, rfl, _, rfl, a, C_Twofold_, rfl, oV, n1, .inl ⟨ha, fun dx nd ne => ?_⟩⟩
    exact ⟨_, rfl, _, rfl, a, C_Twofold_, rfl, oV, n2, .inr ⟨dx, _, upd_same, (upd_ne ne).trans upd_same, (by show 1 ≤ 900; decide), q dx nd ne⟩⟩

abbrev s_read : Stmt := top 13
abbrev n_read : List Str := ["form", "text", "found"]
theorem sc_read : FnScope n_read ["form", "text"] (defScope s_read) := ⟨rfl, rfl, rfl, by decide +kernel, rfl, by decide +kernel, by decide +kernel⟩

theorem dn_read_x (D : Df K mg "read" s_read ["form", "text"]) (B : Bl mg) (d_readings : Dnd P w K mg base CX0 8 "readings" (sp_readings K) (V.int 2))  (r_NoReading : RzC K mg "NoReading" C_NoReading_)  (r_Twofold : RzI P w K mg base "Twofold" C_Twofold_ 1 (sp_Twofold___init__ C_Twofold_))  : Dn P w K mg base (L2.CX P w) 9 "read" (sp_read_x K C_NoReading_ C_Twofold_) := by
  refine .of D fun f fd F => F.okX sc_read (fun vs H Q E h => ?_) (fun cdv A outer s H vs Q E hr h => ?_)
  · (obtain ⟨_, _, _, rfl, _⟩ := h; rfl)
  · have hu := hu_of hr
    have hu64 : _ := hr.units
    refine ⟨_, (pss_cons (ps_set (i := 2) sc_read.nd rfl (Or.inl rfl) (cD d_readings.dn hr (by decide) rfl (pa_cons (pv 0) (pa_cons (pv 1) (pa_cons pe_int pa_nil)))))
      (pss_cons (ps_if (pt_cmpR op_eq (pe_callB (callLen (K := K) rfl) rfl B.len PySem.boot_len (pa_cons (pv 2) pa_nil)) pe_int (nomark _)) (pss_one (ps_rz r_NoReading rfl (takes_of rfl rfl rfl rfl) rfl)) pss_nil)
      (pss_cons (ps_if (pt_cmpR op_eq (pe_callB (callLen (K := K) rfl) rfl B.len PySem.boot_len (pa_cons (pv 2) pa_nil)) pe_int (nomark _)) (pss_one (ps_rzI r_Twofold hr (by decide) rfl (takes_of rfl rfl rfl rfl) rfl (pa_cons (pe_ix (ixLs (K := K) rfl) (pv 2) pe_int (fun _ _ => rfl)) (pa_cons (pe_ix (ixLs (K := K) rfl) (pv 2) pe_int (fun _ _ => rfl)) pa_nil)))) pss_nil)
      (pss_one (ps_ret (pe_ix (ixLs (K := K) rfl) (pv 2) pe_int (fun _ _ => rfl))))))), ?_⟩
    obtain ⟨f, tx, ps, rfl, hF, ok, ht, q1, q2, q3⟩ := h
    refine ⟨_, rfl, _, rfl, f, tx, 2, ps, rfl, hF, ok, ht, by decide, by decide, fun v H1 k1 hR => ?_⟩
    obtain ⟨lf, ds, rfl, lf0, hlf, hT⟩ := hR
    generalize readsP ps tx.cps.toList = L at hT q1 q2 q3
    match L, hT, q1, q2, q3 with
    | [], hT, q1, q2, q3 =>
      cases hT
      exact ⟨_, rfl, lf, [], rfl, .inl (SqL.of hlf), rfl, _, rfl, iteDT rfl (q2 rfl _ k1)⟩
    | [vals], hT, q1, q2, q3 =>
      cases hT with
      | cons h1 h2 =>
        cases h2
        refine ⟨_, rfl, lf, _, rfl, .inl (SqL.of hlf), rfl, _, rfl, iteDF (by intro z; injection z with z; exact absurd z (show ¬ ((1 : Nat) : Int) = 0 by decide)) ?_⟩
        refine ⟨_, rfl, lf, _, rfl, .inl (SqL.of hlf), rfl, _, rfl, iteDF (by intro z; injection z with z; exact absurd z (show ¬ ((1 : Nat) : Int) = 2 by decide)) ?_⟩
        exact ⟨_, rfl, lf, _, _, _, rfl, rfl, SqL.of hlf, rfl, q1 vals _ _ rfl k1 ⟨_, rfl, h1.1, h1.rv⟩⟩
    | x :: y :: r, hT, q1, q2, q3 =>
      cases hT with
      | cons h1 h2 =>
        cases h2 with
        | cons h2 h3 =>
          cases h3
          refine ⟨_, rfl, lf, _, rfl, .inl (SqL.of hlf), rfl, _, rfl, iteDF (by intro z; injection z with z; exact absurd z (show ¬ ((2 : Nat) : Int) = 0 by decide)) ?_⟩
          refine ⟨_, rfl, lf, _, rfl, .inl (SqL.of hlf), rfl, _, rfl, iteDT rfl ?_⟩
          refine ⟨_, rfl, lf, _, _, _, rfl, rfl, SqL.of hlf, rfl, _, rfl, lf, _, _, _, rfl, rfl, SqL.of hlf, rfl, two_mk fun dd H' k nd e => ?_⟩
          exact q3 x y r rfl _ _ dd H' (k1.trans k) ⟨_, rfl, h1.1, h1.rv.mono k.same⟩ ⟨_, rfl, h2.1, h2.rv.mono k.same⟩ e

abbrev s__law_tried : Stmt := top 43
abbrev n__law_tried : List Str := ["form", "text", "found", "e"]
theorem sc__law_tried : FnScope n__law_tried ["form", "text"] (defScope s__law_tried) := ⟨rfl, rfl, rfl, by decide +kernel, rfl, by decide +kernel, by decide +kernel⟩

theorem dn__law_tried (D : Df K mg "_law_tried" s__law_tried ["form", "text"]) (e_FormError : mg "FormError" = some (.ref C_FormError_))  (d_read : Dn P w K mg base (L2.CX P w) 9 "read" (sp_read_x K C_NoReading_ C_Twofold_)) (ex1 : PySem.W.exmOne K (.ref C_NoReading_) (.ref C_FormError_) = some true) (ex2 : PySem.W.exmOne K (.ref C_Twofold_) (.ref C_FormError_) = some true)  : Dn P w K mg base CX0 10 "_law_tried" (sp__law_tried7 K C_NoReading_ C_Twofold_) := by
  refine .of D fun f fd F => F.ok sc__law_tried (fun vs H Q E h => ?_) (fun cdv A outer s H vs Q E hr h => ?_)
  · (obtain ⟨_, _, _, rfl, _⟩ := h; rfl)
  · have hu := hu_of hr
    have hu64 : _ := hr.units
    refine ⟨_, (pss_cons (ps_set (i := 2) sc__law_tried.nd rfl (Or.inl rfl) pe_non)
      (pss_cons (ps_try_asT (i := 3) rfl rfl rfl sc__law_tried.nd rfl rfl ⟨rfl, by decide, .inl e_FormError⟩ takes0 (fun W pn xe tk po => (pss_one (ps_set (i := 2) sc__law_tried.nd rfl (Or.inl rfl) (cX d_read tk hr (by decide) rfl (pa_cons (pv 0) (pa_cons (pv 1) pa_nil)))))) (fun a pn => (pss_one (ps_set (i := 2) sc__law_tried.nd rfl (Or.inl rfl) (pv 3)))))
      (pss_one (ps_ret (pv 2))))), ?_⟩
    obtain ⟨f, tx, ps, rfl, hF, ok, ht, q1, q2, q3⟩ := h
    refine ⟨_, rfl, _, rfl, f, tx, ps, rfl, hF, ok, ht, fun vals v H' e k t => ⟨_, rfl, q1 vals v H' e k t⟩, fun e H' k => ⟨true, ex1, fun _ a na => ⟨_, rfl, _, rfl, q2 e a _ (k.trans (Keep.new na)) ⟨upd_same, fun e2 he => nomatch he⟩⟩, fun z => nomatch z⟩, fun x y r e va vb dd H' k ta tb hd => ⟨true, ex2, fun _ a na => ?_, fun z => nomatch z⟩⟩
    have ad : a ≠ dd := fun z => by rw [z, hd] at na; cases na
    refine ⟨_, rfl, _, rfl, q3 x y r e va vb a dd _ (k.trans (Keep.new na)) (ta.mono (Same.new na)) (tb.mono (Same.new na)) ⟨upd_same, fun e2 he => ?_⟩ ((upd_ne ad.symm).trans hd)⟩
    cases he
    exact ⟨_, (upd_ne ad.symm).trans hd⟩

abbrev s_law : Stmt := top 44
abbrev n_law : List Str := ["script", "pieces", "form", "text", "due", "k", "found"]
theorem sc_law : FnScope n_law ["script"] (defScope s_law) := ⟨rfl, rfl, rfl, by decide +kernel, rfl, by decide +kernel, by decide +kernel⟩

theorem fn_law (B : Bl mg) (d__law_few : Dn P w K mg base CX0 7 "_law_few" (sp__law_few K))  (m_Form : Mn P w K mg base CX0 4 "Form" C_Form_ (sp_Form___init__ K))  (d__law_text : Dn P w K mg base CX0 6 "_law_text" (sp__law_text K))  (d__law_readings : Dn P w K mg base CX0 6 "_law_readings" (sp__law_readings K))  (d__law_tried : Dn P w K mg base CX0 10 "_law_tried" (sp__law_tried7 K C_NoReading_ C_Twofold_))  (d__law_alone : Dn P w K mg base CX0 1 "_law_alone" (sp__law_alone K C_FormError_ C_BadForm_ C_BadValue_ C_NoReading_ C_Twofold_)) (cF : CF K C_Form_) (aN : AlX K C_NoReading_ C_FormError_ C_BadForm_ C_BadValue_ C_NoReading_ C_Twofold_ 2) (aT : AlX K C_Twofold_ C_FormError_ C_BadForm_ C_BadValue_ C_NoReading_ C_Twofold_ 3) (n1 : PySem.W.findIn K (.ref C_Twofold_) "one" = some none) (n2 : PySem.W.findIn K (.ref C_Twofold_) "other" = some none)  {f : Addr} {fd : FuncData} (F : Fun K "law" "law" s_law f fd) : FnOk P w K mg base CX0 11 f fd ["script"] (sp_law K) := by
  refine F.ok sc_law (fun vs H Q E h => ?_) (fun cdv A outer s H vs Q E hr h => ?_)
  · (obtain ⟨_, _, rfl, _⟩ := h; rfl)
  · have hu := hu_of hr
    have hu64 : _ := hr.units
    refine ⟨_, (pss_cons (ps_set (i := 1) sc_law.nd rfl (Or.inl rfl) (cD d__law_few hr (by decide) rfl (pa_cons (pv 0) pa_nil)))
      (pss_cons (ps_set (i := 2) sc_law.nd rfl (Or.inl rfl) (cM m_Form hr (by decide) rfl (pa_cons (pe_callTy (callList (K := K) rfl) rfl B.list (by decide +kernel) (pa_cons (pv 1) pa_nil)) pa_nil)))
      (pss_cons (ps_set (i := 3) sc_law.nd rfl (Or.inl rfl) (cD d__law_text hr (by decide) rfl (pa_cons (pv 0) (pa_cons (pv 1) pa_nil))))
      (pss_cons (ps_set (i := 4) sc_law.nd rfl (Or.inl rfl) (cD d__law_readings hr (by decide) rfl (pa_cons (pv 1) (pa_cons (pv 3) pa_nil))))
      (pss_cons (ps_for PassesOwn.never rfl (pi_range1 rfl B.range (pa_cons pe_int pa_nil)) (pg_name (i := 5) sc_law.nd rfl (Or.inl rfl))
      (pss_cons (ps_set (i := 6) sc_law.nd rfl (Or.inl rfl) (cD d__law_tried hr (by decide) rfl (pa_cons (pv 2) (pa_cons (pv 3) pa_nil))))
      (pss_cons (ps_if (PW.pt (pw_and (pt_cmpR op_eq (pe_callB (callLen (K := K) rfl) rfl B.len PySem.boot_len (pa_cons (pv 4) pa_nil)) pe_int (nomark _)) (pw_and1 (pt_cmpR op_ne (cD d__law_alone hr (by decide) rfl (pa_cons (pv 6) pa_nil)) pe_int (nomark _))))) (pss_one (ps_ret pe_bl)) pss_nil)
      (pss_cons (ps_if (PW.pt (pw_and (pt_cmpR op_eq (pe_callB (callLen (K := K) rfl) rfl B.len PySem.boot_len (pa_cons (pv 4) pa_nil)) pe_int (nomark _)) (pw_and1 (pt_cmpR (op_neS (K := K) rfl hu64) (pv 6) (pe_ix (ixLs (K := K) rfl) (pv 4) pe_int (fun _ _ => rfl)) (nomark _))))) (pss_one (ps_ret pe_bl)) pss_nil)
      (pss_cons (ps_if (PW.pt (pw_and (pt_cmpR op_gt (pe_callB (callLen (K := K) rfl) rfl B.len PySem.boot_len (pa_cons (pv 4) pa_nil)) pe_int (nomark _)) (pw_and1 (PW.pt (pw_or (pt_cmpR op_ne (cD d__law_alone hr (by decide) rfl (pa_cons (pv 6) pa_nil)) pe_int (nomark _)) (pw_or (pt_cmpR (op_neS (K := K) rfl hu64) (pe_xh (C := C_Twofold_) aT.x n1 (pv 6)) (pe_ix (ixLs (K := K) rfl) (pv 4) pe_int (fun _ _ => rfl)) (nomark _)) (pw_or1 (pt_cmpR (op_neS (K := K) rfl hu64) (pe_xh (C := C_Twofold_) aT.x n2 (pv 6)) (pe_ix (ixLs (K := K) rfl) (pv 4) pe_int (fun _ _ => rfl)) (nomark _))))))))) (pss_one (ps_ret pe_bl)) pss_nil)
      (pss_cons (ps_if (pt_cmpR op_eq (pe_callB (callLen (K := K) rfl) rfl B.len PySem.boot_len (pa_cons (pv 4) pa_nil)) pe_int (nomark _)) (pss_one (ps_expr (pe_dclear (pv 6)))) pss_nil)
      (pss_one (ps_if (pt_cmpR op_gt (pe_callB (callLen (K := K) rfl) rfl B.len PySem.boot_len (pa_cons (pv 4) pa_nil)) pe_int (nomark _)) (pss_cons (ps_expr (pe_dclear (pe_xh (C := C_Twofold_) aT.x n1 (pv 6))))
      (pss_one (ps_expr (pe_dclear (pe_xh (C := C_Twofold_) aT.x n2 (pv 6)))))) pss_nil))))))))
      (pss_one (ps_ret pe_bl))))))), ?_⟩
    obtain ⟨a, ns, rfl, hS, q⟩ := h
    refine ⟨_, rfl, a, ns, H, rfl, Same.refl _, hS, fun v G1 H1 W1 r1 => ?_⟩
    obtain ⟨l, xs, rfl, hL0, hP0⟩ := r1
    obtain ⟨ok, sm, _, hw⟩ := few_ok ns
    generalize fewP ns = ps at hP0 ok sm hw
    have hL : SqL K H1 l xs := W1.gh.seq hL0
    have hP : Paired (RP K H1) xs ps := Paired.monoP hP0 fun _ _ z => z.mono W1.gh
    have hS1 : SqL K H1 a (ns.map V.int) := W1.hh.same.seq hS
    clear hL0 hP0 W1
    -- form
    refine ⟨_, rfl, l, xs, rfl, .inl hL, fun hd2 hh x dx nx ndx nex => ?_⟩
    have k6 : Keep H1 (upd H1 hd2 (.lst xs)) := Keep.new hh
    have hH6 : (upd H1 hd2 (.lst xs)) hd2 = some (.lst xs) := upd_same
    generalize upd H1 hd2 (.lst xs) = H6 at nx ndx k6 hH6
    have hP6 : Paired (RP K H6) xs ps := Paired.monoP hP fun _ _ z => z.mono k6.same
    refine ⟨x, dx, _, hd2, xs, ps, H6, rfl, nx, ndx, nex, rfl, cF.1, cF.2, SqL.of hH6, hP6, ok, fun f0 zs H7 k7 hX7 nf hf7 hzl hCz => ⟨rfl, ?_⟩⟩
    have hF := form_mk cF k7 hX7 hf7 hzl hP6 hCz
    have k17 := k6.trans k7
    -- text
    refine ⟨_, rfl, _, rfl, a, ns, l, xs, ps, rfl, k17.same.seq hS1, k17.same.seq hL, Paired.monoP hP fun _ _ z => z.mono k17.same, ok, fun tx H8 k8 ht => ?_⟩
    have k18 := k17.trans k8
    -- due
    refine ⟨_, rfl, _, rfl, l, xs, tx, ps, H8, rfl, Same.refl _, k18.same.seq hL, Paired.monoP hP fun _ _ z => z.mono k18.same, ok, sm, hw, by omega, fun v G9 H9 W9 rD => ?_⟩
    obtain ⟨ld, dvs, rfl, hld0, hDv0⟩ := rD
    have hld := W9.gh _ _ hld0
    have hDv : Paired (RV K H9) dvs (readsP ps tx.cps.toList) := Paired.monoP hDv0 fun _ _ z => RV.mono z W9.gh
    have hF9 := (hF.mono k8.same).mono W9.hh.same
    have hS9 := W9.hh.same.seq (k18.same.seq hS1)
    have hnd := fun vals (h : vals ∈ readsP ps tx.cps.toList) => reads_names ok h
    clear hld0 hDv0 W9 k18 k17 hF k8 hCz hf7 nf hX7 k7 hP6 hH6 k6 hL hP hS1
    refine ⟨_, rfl, by decide, by decide, ?_⟩
    refine for_range (lo := 0) (n := (2 : Int).toNat) (fun i σ H' => ∃ v5 v6, σ = [some (.ref a), some (.ref l), some (.ref x), some (.str tx), some (.ref ld), v5, v6] ∧ Same H9 H') ⟨none, none, rfl, Same.refl _⟩ ?_ (fun σ H' _ => q _)
    rintro i σ H' hi ⟨v5, v6, rfl, s9⟩
    rw [Int.zero_add]
    refine ⟨_, rfl, _, rfl, x, tx, ps, rfl, hF9.mono s9, ok, by omega, fun vals v H1 eL k1 t1 => ?_, fun eL ea H1 k1 hE => ?_, fun va vb r eL wa wb ea dd H1 k1 t1 t2 hE hdd => ?_⟩
    · -- the one reading
      rw [eL] at hDv hnd
      have hl1 : dvs.length = 1 := Paired.len hDv
      obtain ⟨w, hw0, hrw⟩ := Paired.ats hDv (i := 0) (y := vals) rfl
      obtain ⟨d, rfl, d0, rv⟩ := t1
      obtain ⟨nd1, nd2⟩ := hnd vals List.mem_cons_self
      have s1 : Same H9 H1 := s9.trans k1.same
      have hld1 : SqL K H1 ld dvs := SqL.of (s1 _ _ hld)
      have hlen : ((dvs.length : Nat) : Int) = 1 := by omega
      refine ⟨_, rfl, ld, _, rfl, .inl hld1, rfl, _, rfl, iteDF (by intro z; injection z with z; omega) (iteF ?_)⟩
      refine ⟨_, rfl, ld, _, rfl, .inl hld1, rfl, _, rfl, iteDT (by rw [hlen]) ?_⟩
      have dp := valsD_depth vals
      refine ⟨_, rfl, _, rfl, ld, _, _, _, rfl, rfl, hld1, at_gen (j := 0) rfl hw0, valsD vals, rv.rp nd1 nd2, (hrw.mono s1).rp nd1 nd2, dp.1, trivial, _, rfl, iteBF rfl ?_⟩
      refine ⟨_, rfl, ld, _, rfl, .inl hld1, _, _, rfl, rfl, _, rfl, iteDF (by omega) (iteF ?_)⟩
      refine ⟨_, rfl, ld, _, rfl, .inl hld1, rfl, _, rfl, iteDT (by rw [hlen]) ?_⟩
      obtain ⟨d', kvs, ed, hdk, _⟩ := rv
      cases ed
      have d9 : H9 d = none := Same.free s9 d0
      refine ⟨_, rfl, .inr (.inr (.inl ⟨rfl, .inl ⟨kvs, hdk⟩⟩)), d, kvs, rfl, rfl, hdk, ?_⟩
      have s2 : Same H9 (upd H1 d (.dK [])) := s1.mut d9
      refine ⟨_, rfl, ld, _, rfl, .inl (SqL.of (s2 _ _ hld)), _, _, rfl, rfl, _, rfl, iteDF (by omega) ?_⟩
      exact ⟨_, _, rfl, s2⟩
    · -- no reading
      rw [eL] at hDv
      have hl1 : dvs.length = 0 := Paired.len hDv
      have s1 : Same H9 H1 := s9.trans k1.same
      have hlen : ((dvs.length : Nat) : Int) = 0 := by omega
      refine ⟨_, rfl, ld, _, rfl, .inl (SqL.of (s1 _ _ hld)), rfl, _, rfl, iteDT (by rw [hlen]) ?_⟩
      refine ⟨_, rfl, ea, _, _, 2, rfl, hE, aN, fun HB kB => ⟨rfl, _, rfl, iteEqN ?_⟩⟩
      have s2 : Same H9 HB := s1.trans kB.same
      have hldB : SqL K HB ld dvs := SqL.of (s2 _ _ hld)
      refine ⟨_, rfl, ld, _, rfl, .inl hldB, rfl, _, rfl, iteDF (by intro z; injection z with z; omega) (iteF ?_)⟩
      refine ⟨_, rfl, ld, _, rfl, .inl hldB, _, _, rfl, rfl, _, rfl, iteDF (by omega) (iteF ?_)⟩
      refine ⟨_, rfl, ld, _, rfl, .inl hldB, rfl, _, rfl, iteDF (by intro z; injection z with z; omega) ?_⟩
      refine ⟨_, rfl, ld, _, rfl, .inl hldB, _, _, rfl, rfl, _, rfl, iteDF (by omega) ?_⟩
      exact ⟨_, _, rfl, s2⟩
    · -- two readings
      rw [eL] at hDv hnd
      have hl1 : dvs.length = r.length + 2 := Paired.len hDv
      obtain ⟨w1, hw1, hrw1⟩ := Paired.ats hDv (i := 0) (y := va) rfl
      obtain ⟨w2, hw2, hrw2⟩ := Paired.ats hDv (i := 1) (y := vb) rfl
      obtain ⟨d1, rfl, d10, rv1⟩ := t1
      obtain ⟨d2, rfl, d20, rv2⟩ := t2
      obtain ⟨na1, na2⟩ := hnd va List.mem_cons_self
      obtain ⟨nb1, nb2⟩ := hnd vb (List.mem_cons_of_mem _ List.mem_cons_self)
      have s1 : Same H9 H1 := s9.trans k1.same
      refine ⟨_, rfl, ld, _, rfl, .inl (SqL.of (s1 _ _ hld)), rfl, _, rfl, iteDF (by intro z; injection z with z; omega) (iteF ?_)⟩
      refine ⟨_, rfl, ld, _, rfl, .inl (SqL.of (s1 _ _ hld)), rfl, _, rfl, iteDF (by intro z; injection z with z; omega) (iteF ?_)⟩
      refine ⟨_, rfl, ld, _, rfl, .inl (SqL.of (s1 _ _ hld)), _, _, rfl, rfl, _, rfl, iteDT (by omega) ?_⟩
      refine ⟨_, rfl, ea, _, _, 3, rfl, hE, aT, fun HB kB => ⟨rfl, _, rfl, iteEqN ?_⟩⟩
      have s2 : Same H9 HB := s1.trans kB.same
      have hldB : SqL K HB ld dvs := SqL.of (s2 _ _ hld)
      have hEB := (hE.mono kB).1
      have hddB := kB _ _ hdd
      have dp1 := valsD_depth va
      have dp2 := valsD_depth vb
      refine ⟨_, rfl, ea, dd, _, _, rfl, hEB, hddB, rfl, _, rfl, ld, _, _, _, rfl, rfl, hldB, at_gen (j := 0) rfl hw1, valsD va, (rv1.mono kB.same).rp na1 na2, (hrw1.mono s2).rp na1 na2, dp1.1, trivial, _, rfl, iteBF rfl ?_⟩
      refine ⟨_, rfl, ea, dd, _, _, rfl, hEB, hddB, rfl, _, rfl, ld, _, _, _, rfl, rfl, hldB, at_gen (j := 1) rfl hw2, valsD vb, (rv2.mono kB.same).rp nb1 nb2, (hrw2.mono s2).rp nb1 nb2, dp2.1, trivial, _, rfl, iteBF rfl ?_⟩
      refine ⟨_, rfl, ld, _, rfl, .inl hldB, rfl, _, rfl, iteDF (by intro z; injection z with z; omega) ?_⟩
      refine ⟨_, rfl, ld, _, rfl, .inl hldB, _, _, rfl, rfl, _, rfl, iteDT (by omega) ?_⟩
      obtain ⟨_, kvs1, ed1, hk1, _⟩ := rv1.mono kB.same
      cases ed1
      obtain ⟨_, kvs2, ed2, hk2, _⟩ := rv2.mono kB.same
      cases ed2
      have e91 : H9 d1 = none := Same.free s9 d10
      have e92 : H9 d2 = none := Same.free s9 d20
      have c1 : ea ≠ d1 := fun z => by rw [z, hk1] at hEB; cases hEB
      have c2 : dd ≠ d1 := fun z => by rw [z, hk1] at hddB; cases hddB
      refine ⟨_, rfl, ea, dd, _, _, rfl, hEB, hddB, rfl, .inr (.inr (.inl ⟨rfl, .inl ⟨kvs1, hk1⟩⟩)), d1, kvs1, rfl, rfl, hk1, ?_⟩
      have s3 : Same H9 (upd HB d1 (.dK [])) := s2.mut e91
      obtain ⟨kvs3, hk3⟩ : ∃ kvs3, (upd HB d1 (.dK [])) d2 = some (.dK kvs3) := by
        by_cases z : d2 = d1
        · subst z; exact ⟨_, upd_same⟩
        · exact ⟨_, (upd_ne z).trans hk2⟩
      refine ⟨_, rfl, ea, dd, _, _, rfl, (upd_ne c1).trans hEB, (upd_ne c2).trans hddB, rfl, .inr (.inr (.inl ⟨rfl, .inl ⟨kvs3, hk3⟩⟩)), d2, kvs3, rfl, rfl, hk3, ?_⟩
      exact ⟨_, _, rfl, s3.mut e92⟩

end
end Lf
namespace Lf
open PySem L2
theorem all_mk {l : PySem.W.OpenLaw} {w : World} {K : PySem.W.Frag} {mg : Str → Option Value} {fa : Addr} {C_FormError_ C_BadForm_ C_BadValue_ C_NoReading_ C_Twofold_ : Addr}
    (e_FormError : mg "FormError" = some (.ref C_FormError_))
    (e_BadForm : mg "BadForm" = some (.ref C_BadForm_))
    (e_BadValue : mg "BadValue" = some (.ref C_BadValue_))
    (e_NoReading : mg "NoReading" = some (.ref C_NoReading_))
    (e_Twofold : mg "Twofold" = some (.ref C_Twofold_))
    (r_NoReading : RzC K mg "NoReading" C_NoReading_)
    (a_NoReading : AlX K C_NoReading_ C_FormError_ C_BadForm_ C_BadValue_ C_NoReading_ C_Twofold_ 2)
    (x_NoReading : PySem.W.exmOne K (.ref C_NoReading_) (.ref C_FormError_) = some true)
    (a_Twofold : AlX K C_Twofold_ C_FormError_ C_BadForm_ C_BadValue_ C_NoReading_ C_Twofold_ 3)
    (x_Twofold : PySem.W.exmOne K (.ref C_Twofold_) (.ref C_FormError_) = some true)
    (D__law_cell_at : Df K mg "_law_cell_at" s__law_cell_at ["script", "k"])
    (D__law_draw : Df K mg "_law_draw" s__law_draw ["script", "k"])
    (D__law_signs : Df K mg "_law_signs" s__law_signs ["cell"])
    (D__law_say : Df K mg "_law_say" s__law_say ["cell"])
    (D__law_ask : Df K mg "_law_ask" s__law_ask ["script", "k", "name", "most"])
    (D__law_inner : Df K mg "_law_inner" s__law_inner ["script", "k", "many", "most"])
    (D__law_piece : Df K mg "_law_piece" s__law_piece ["script", "k", "name", "most"])
    (D__law_pieces : Df K mg "_law_pieces" s__law_pieces ["script", "many", "most"])
    (D__law_few : Df K mg "_law_few" s__law_few ["script"])
    (D__law_word : Df K mg "_law_word" s__law_word ["script", "k", "piece"])
    (D__law_row : Df K mg "_law_row" s__law_row ["script", "k", "pieces"])
    (D__law_values : Df K mg "_law_values" s__law_values ["script", "start", "pieces"])
    (D__law_line : Df K mg "_law_line" s__law_line ["pieces", "values"])
    (D__law_written : Df K mg "_law_written" s__law_written ["pieces", "values"])
    (D__law_ask_ends : Df K mg "_law_ask_ends" s__law_ask_ends ["piece", "text", "at"])
    (D__law_line_readings : Df K mg "_law_line_readings" s__law_line_readings ["pieces", "text", "at"])
    (D__law_rows_readings : Df K mg "_law_rows_readings" s__law_rows_readings ["piece", "text", "at", "count"])
    (D__law_readings : Df K mg "_law_readings" s__law_readings ["pieces", "text"])
    (D__law_text : Df K mg "_law_text" s__law_text ["script", "pieces"])
    (D__law_alone : Df K mg "_law_alone" s__law_alone ["e"])
    (D_ask_text : Df K mg "ask_text" s_ask_text ["text", "least", "most"])
    (D_ask_count : Df K mg "ask_count" s_ask_count ["least", "most", "bound"])
    (D_look_at_piece : Df K mg "look_at_piece" s_look_at_piece ["piece", "names"])
    (D_look_at_rows : Df K mg "look_at_rows" s_look_at_rows ["piece", "names"])
    (D_copied : Df K mg "copied" s_copied ["piece"])
    (D_ends_well : Df K mg "ends_well" s_ends_well ["walk", "text"])
    (D_trail_of : Df K mg "trail_of" s_trail_of ["link"])
    (D_values_of : Df K mg "values_of" s_values_of ["walk", "trail", "text"])
    (D_readings : Dd K mg "readings" s_readings ["form", "text", "most"] (V.int 2))
    (D_read : Df K mg "read" s_read ["form", "text"])
    (D__law_tried : Df K mg "_law_tried" s__law_tried ["form", "text"])
    (B : Bl mg)
    (g_SIGNS : G_SIGNS mg)
    (cmF0 : ∃ C, Cm K mg "Form" "Form.__init__" s_Form___init__ ["self", "pieces"] C ∧ InsF K C)
    (e_Walk : mg "Walk" = some (.ref C_Walk_))
    (cmW : Cm K mg "Walk" "Walk.__init__" s_Walk___init__ ["self", "form"] C_Walk_)
    (cW : CW K C_Walk_)
    (md_step : Md K C_Walk_ "step" "Walk.step" s_Walk_step ["self", "one", "told"])
    (md_say : Md K C_Walk_ "say" "Walk.say" s_Walk_say ["self", "text", "after"])
    (md_ask : Md K C_Walk_ "ask" "Walk.ask" s_Walk_ask ["self", "piece", "after"])
    (md_rows : Md K C_Walk_ "rows" "Walk.rows" s_Walk_rows ["self", "piece", "after"])
    (md_chain : Md K C_Walk_ "chain" "Walk.chain" s_Walk_chain ["self", "row", "after"])
    (ri_Twofold : Ri K mg "Twofold" "Twofold.__init__" s_Twofold___init__ ["self", "one", "other"] C_Twofold_)
    (nf_Twofold_one : PySem.W.findIn K (.ref C_Twofold_) "one" = some none)
    (nf_Twofold_other : PySem.W.findIn K (.ref C_Twofold_) "other" = some none)
    (FL0 : ∃ fd : FuncData, Fun K "law" "law" s_law fa fd ∧ ∀ (s : Shared) (v : Value), BindsTo s fd ⟨[v], []⟩ [("script", v)])
    : ∃ fd : FuncData, (∀ (s : Shared) (v : Value), BindsTo s fd ⟨[v], []⟩ [("script", v)]) ∧ ∀ base : Heap, K.In base → base.Ns mainGlobals mg → FnOk l.prog w K mg base CX0 11 fa fd ["script"] (sp_law K) := by
  obtain ⟨CF_, cmF, iF⟩ := cmF0
  obtain ⟨fd, FL, bL⟩ := FL0
  refine ⟨fd, bL, fun base _ _ => ?_⟩
  have n__law_cell_at := dn__law_cell_at (P := l.prog) (w := w) (base := base) D__law_cell_at B
  have n__law_draw := dn__law_draw (P := l.prog) (w := w) (base := base) D__law_draw n__law_cell_at
  have n__law_signs := dn__law_signs (P := l.prog) (w := w) (base := base) D__law_signs 
  have n__law_say := dn__law_say (P := l.prog) (w := w) (base := base) D__law_say 
  have n__law_ask := dn__law_ask (P := l.prog) (w := w) (base := base) D__law_ask n__law_draw n__law_signs
  have n__law_inner := dn__law_inner (P := l.prog) (w := w) (base := base) D__law_inner B n__law_draw n__law_say n__law_ask
  have n__law_piece := dn__law_piece (P := l.prog) (w := w) (base := base) D__law_piece n__law_draw n__law_say n__law_ask n__law_inner
  have n__law_pieces := dn__law_pieces (P := l.prog) (w := w) (base := base) D__law_pieces B n__law_draw n__law_piece
  have n__law_few := dn__law_few (P := l.prog) (w := w) (base := base) D__law_few B n__law_pieces
  have n__law_word := dn__law_word (P := l.prog) (w := w) (base := base) D__law_word B n__law_draw
  have n__law_row := dn__law_row (P := l.prog) (w := w) (base := base) D__law_row B n__law_word
  have n__law_values := dn__law_values (P := l.prog) (w := w) (base := base) D__law_values B n__law_word n__law_draw n__law_row
  have n__law_line := dn__law_line (P := l.prog) (w := w) (base := base) D__law_line 
  have n__law_written := dn__law_written (P := l.prog) (w := w) (base := base) D__law_written n__law_line
  have n__law_ask_ends := dn__law_ask_ends (P := l.prog) (w := w) (base := base) D__law_ask_ends B
  have n__law_line_readings := dn__law_line_readings (P := l.prog) (w := w) (base := base) D__law_line_readings B n__law_ask_ends
  have n__law_rows_readings_0 := dn__law_rows_readings_0 (P := l.prog) (w := w) (base := base) D__law_rows_readings B n__law_line_readings
  have n__law_rows_readings_1 := dn__law_rows_readings_1 (P := l.prog) (w := w) (base := base) D__law_rows_readings B n__law_line_readings n__law_rows_readings_0
  have n__law_rows_readings_2 := dn__law_rows_readings_2 (P := l.prog) (w := w) (base := base) D__law_rows_readings B n__law_line_readings n__law_rows_readings_1
  have n__law_readings := dn__law_readings (P := l.prog) (w := w) (base := base) D__law_readings B n__law_rows_readings_2 n__law_line_readings
  have n__law_text := dn__law_text (P := l.prog) (w := w) (base := base) D__law_text B n__law_written n__law_values n__law_draw
  have n__law_alone := dn__law_alone (P := l.prog) (w := w) (base := base) D__law_alone B e_Twofold e_NoReading e_BadValue e_BadForm e_FormError
  have n_ask_text := dn_ask_text (P := l.prog) (w := w) (base := base) D_ask_text B g_SIGNS
  have n_ask_count := dn_ask_count (P := l.prog) (w := w) (base := base) D_ask_count 
  have n_look_at_piece := dn_look_at_piece (P := l.prog) (w := w) (base := base) D_look_at_piece B n_ask_text n_ask_count
  have n_look_at_rows := dn_look_at_rows (P := l.prog) (w := w) (base := base) D_look_at_rows B n_look_at_piece n_ask_text n_ask_count
  have n_copied := dn_copied (P := l.prog) (w := w) (base := base) D_copied B
  have m_Form := cmF.mn (P := l.prog) (w := w) (base := base) fun f fd F => fn_Form___init__ B n_look_at_rows n_look_at_piece n_copied F
  have t_Walk_step := md_step.tn (P := l.prog) (w := w) (mg := mg) (base := base) cW.cl fun f fd F => fn_Walk_step B cW F
  have t_Walk_say := md_say.tn (P := l.prog) (w := w) (mg := mg) (base := base) cW.cl fun f fd F => fn_Walk_say B t_Walk_step cW F
  have t_Walk_ask := md_ask.tn (P := l.prog) (w := w) (mg := mg) (base := base) cW.cl fun f fd F => fn_Walk_ask B t_Walk_step cW F
  have t_Walk_chain0 := md_chain.tn (P := l.prog) (w := w) (mg := mg) (base := base) cW.cl fun f fd F => fn_Walk_chain0 B t_Walk_say t_Walk_ask cW F
  have t_Walk_rows := md_rows.tn (P := l.prog) (w := w) (mg := mg) (base := base) cW.cl fun f fd F => fn_Walk_rows B t_Walk_step t_Walk_chain0 t_Walk_say cW F
  have t_Walk_chain := md_chain.tn (P := l.prog) (w := w) (mg := mg) (base := base) cW.cl fun f fd F => fn_Walk_chain B t_Walk_say t_Walk_ask t_Walk_rows cW F
  have m_Walk := cmW.mn (P := l.prog) (w := w) (base := base) fun f fd F => fn_Walk___init__ t_Walk_chain cW F
  have n_ends_well := dn_ends_well (P := l.prog) (w := w) (base := base) D_ends_well B cW
  have n_trail_of := dn_trail_of (P := l.prog) (w := w) (base := base) D_trail_of B
  have n_values_of := dn_values_of (P := l.prog) (w := w) (base := base) D_values_of cW
  have n_readings := dn_readings (P := l.prog) (w := w) (base := base) D_readings B m_Walk n_ends_well n_values_of n_trail_of cW
  have i_Twofold := ri_Twofold.rz (P := l.prog) (w := w) (base := base) fun f fd F => fn_Twofold___init__ ri_Twofold.T nf_Twofold_one nf_Twofold_other F
  have n_read_x := dn_read_x (P := l.prog) (w := w) (base := base) D_read B n_readings r_NoReading i_Twofold
  have n__law_tried := dn__law_tried (P := l.prog) (w := w) (base := base) D__law_tried e_FormError n_read_x x_NoReading x_Twofold
  exact fn_law B n__law_few m_Form n__law_text n__law_readings n__law_tried n__law_alone ⟨iF.cl, iF.na⟩ a_NoReading a_Twofold nf_Twofold_one nf_Twofold_other FL
end Lf
open PySem PySem.W PyProof.Rows
set_option maxRecDepth 100000 in
set_option maxHeartbeats 0 in
theorem PySem.Challenge.cw_letterform_k07_read_or_refused_holds : PySem.Challenge.rw_letterform_k07_read_or_refused.Holds := by
  w_on; o_law; k_head; (case hw => w_witness2)
  k_fill
  refine L2.walk_of (l := PySem.Challenge.rw_letterform_k07_read_or_refused) (n := 63) (k := 11) (x := "script") (CX := fun _ => L2.CX0) (sp := fun w => Lf.sp_law _) rfl (by decide) rfl ⟨rfl, by decide, by decide⟩ (fun w h Y => PySem.W.kIn_of Y) ?F (fun _ _ a ns _ _ hS => ⟨a, ns, rfl, hS, fun _ => rfl⟩) (fun _ _ _ _ _ z => z)
  case F =>
    intro w mg fa h KX G hmg
    refine' Lf.all_mk ?e_FormError ?e_BadForm ?e_BadValue ?e_NoReading ?e_Twofold ?r_NoReading ?a_NoReading ?x_NoReading ?a_Twofold ?x_Twofold ?D__law_cell_at ?D__law_draw ?D__law_signs ?D__law_say ?D__law_ask ?D__law_inner ?D__law_piece ?D__law_pieces ?D__law_few ?D__law_word ?D__law_row ?D__law_values ?D__law_line ?D__law_written ?D__law_ask_ends ?D__law_line_readings ?D__law_rows_readings ?D__law_readings ?D__law_text ?D__law_alone ?D_ask_text ?D_ask_count ?D_look_at_piece ?D_look_at_rows ?D_copied ?D_ends_well ?D_trail_of ?D_values_of ?D_readings ?D_read ?D__law_tried ?B ?g_SIGNS ?cmF0 ?e_Walk ?cmW ?cW ?md_step ?md_say ?md_ask ?md_rows ?md_chain ?ri_Twofold ?nf_Twofold_one ?nf_Twofold_other ?FL0
    (case e_FormError => (refine' Lf.gl_mk KX G ?a; (case a => k_is)))
    (case e_BadForm => (refine' Lf.gl_mk KX G ?a; (case a => k_is)))
    (case e_BadValue => (refine' Lf.gl_mk KX G ?a; (case a => k_is)))
    (case e_NoReading => (refine' Lf.gl_mk KX G ?a; (case a => k_is)))
    (case e_Twofold => (refine' Lf.gl_mk KX G ?a; (case a => k_is)))
    (case r_NoReading => (refine' ⟨PySem.W.mg_of KX G ?a, ?ex, ?kp, ?sb, ?ty⟩; (case a => k_is); (case ex => k_exc); (case kp => k_is); (case sb => k_is); (case ty => k_is)))
    (case a_NoReading => (refine' ⟨Lf.xc_mk ?c1 ?c2 ?c3 ?c4 ?c5 ?c6 ?c7 ?c8, ?k0, ?k1, ?k2, ?k3, ?kE, ?kV, by decide⟩; (case c1 => k_is); (case c2 => k_is); (case c3 => k_is); (case c4 => k_is); (case c5 => k_is); (case c6 => k_is); (case c7 => k_is); (case c8 => k_is); (case k0 => kit_is); (case k1 => kit_is); (case k2 => kit_is); (case k3 => kit_is); (case kE => kit_is); (case kV => kit_is)))
    (case x_NoReading => (refine' Lf.exm_mk ?h1 ?hd ?ht ?h4; (case h1 => k_is); (case hd => k_is); (case ht => k_is); (case h4 => k_is)))
    (case a_Twofold => (refine' ⟨Lf.xc_mk ?c1 ?c2 ?c3 ?c4 ?c5 ?c6 ?c7 ?c8, ?k0, ?k1, ?k2, ?k3, ?kE, ?kV, by decide⟩; (case c1 => k_is); (case c2 => k_is); (case c3 => k_is); (case c4 => k_is); (case c5 => k_is); (case c6 => k_is); (case c7 => k_is); (case c8 => k_is); (case k0 => kit_is); (case k1 => kit_is); (case k2 => kit_is); (case k3 => kit_is); (case kE => kit_is); (case kV => kit_is)))
    (case x_Twofold => (refine' Lf.exm_mk ?h1 ?hd ?ht ?h4; (case h1 => k_is); (case hd => k_is); (case ht => k_is); (case h4 => k_is)))
    (case D__law_cell_at => (refine' Lf.df_mk KX G ?a ?l ?c ?k (fun _ _ _ _ _ _ us hl => match us, hl with | [_, _], _ => rfl); (case a => k_is); (case l => k_is); (case c => k_is); (case k => k_is)))
    (case D__law_draw => (refine' Lf.df_mk KX G ?a ?l ?c ?k (fun _ _ _ _ _ _ us hl => match us, hl with | [_, _], _ => rfl); (case a => k_is); (case l => k_is); (case c => k_is); (case k => k_is)))
    (case D__law_signs => (refine' Lf.df_mk KX G ?a ?l ?c ?k (fun _ _ _ _ _ _ us hl => match us, hl with | [_], _ => rfl); (case a => k_is); (case l => k_is); (case c => k_is); (case k => k_is)))
    (case D__law_say => (refine' Lf.df_mk KX G ?a ?l ?c ?k (fun _ _ _ _ _ _ us hl => match us, hl with | [_], _ => rfl); (case a => k_is); (case l => k_is); (case c => k_is); (case k => k_is)))
    (case D__law_ask => (refine' Lf.df_mk KX G ?a ?l ?c ?k (fun _ _ _ _ _ _ us hl => match us, hl with | [_, _, _, _], _ => rfl); (case a => k_is); (case l => k_is); (case c => k_is); (case k => k_is)))
    (case D__law_inner => (refine' Lf.df_mk KX G ?a ?l ?c ?k (fun _ _ _ _ _ _ us hl => match us, hl with | [_, _, _, _], _ => rfl); (case a => k_is); (case l => k_is); (case c => k_is); (case k => k_is)))
    (case D__law_piece => (refine' Lf.df_mk KX G ?a ?l ?c ?k (fun _ _ _ _ _ _ us hl => match us, hl with | [_, _, _, _], _ => rfl); (case a => k_is); (case l => k_is); (case c => k_is); (case k => k_is)))
    (case D__law_pieces => (refine' Lf.df_mk KX G ?a ?l ?c ?k (fun _ _ _ _ _ _ us hl => match us, hl with | [_, _, _], _ => rfl); (case a => k_is); (case l => k_is); (case c => k_is); (case k => k_is)))
    (case D__law_few => (refine' Lf.df_mk KX G ?a ?l ?c ?k (fun _ _ _ _ _ _ us hl => match us, hl with | [_], _ => rfl); (case a => k_is); (case l => k_is); (case c => k_is); (case k => k_is)))
    (case D__law_word => (refine' Lf.df_mk KX G ?a ?l ?c ?k (fun _ _ _ _ _ _ us hl => match us, hl with | [_, _, _], _ => rfl); (case a => k_is); (case l => k_is); (case c => k_is); (case k => k_is)))
    (case D__law_row => (refine' Lf.df_mk KX G ?a ?l ?c ?k (fun _ _ _ _ _ _ us hl => match us, hl with | [_, _, _], _ => rfl); (case a => k_is); (case l => k_is); (case c => k_is); (case k => k_is)))
    (case D__law_values => (refine' Lf.df_mk KX G ?a ?l ?c ?k (fun _ _ _ _ _ _ us hl => match us, hl with | [_, _, _], _ => rfl); (case a => k_is); (case l => k_is); (case c => k_is); (case k => k_is)))
    (case D__law_line => (refine' Lf.df_mk KX G ?a ?l ?c ?k (fun _ _ _ _ _ _ us hl => match us, hl with | [_, _], _ => rfl); (case a => k_is); (case l => k_is); (case c => k_is); (case k => k_is)))
    (case D__law_written => (refine' Lf.df_mk KX G ?a ?l ?c ?k (fun _ _ _ _ _ _ us hl => match us, hl with | [_, _], _ => rfl); (case a => k_is); (case l => k_is); (case c => k_is); (case k => k_is)))
    (case D__law_ask_ends => (refine' Lf.df_mk KX G ?a ?l ?c ?k (fun _ _ _ _ _ _ us hl => match us, hl with | [_, _, _], _ => rfl); (case a => k_is); (case l => k_is); (case c => k_is); (case k => k_is)))
    (case D__law_line_readings => (refine' Lf.df_mk KX G ?a ?l ?c ?k (fun _ _ _ _ _ _ us hl => match us, hl with | [_, _, _], _ => rfl); (case a => k_is); (case l => k_is); (case c => k_is); (case k => k_is)))
    (case D__law_rows_readings => (refine' Lf.df_mk KX G ?a ?l ?c ?k (fun _ _ _ _ _ _ us hl => match us, hl with | [_, _, _, _], _ => rfl); (case a => k_is); (case l => k_is); (case c => k_is); (case k => k_is)))
    (case D__law_readings => (refine' Lf.df_mk KX G ?a ?l ?c ?k (fun _ _ _ _ _ _ us hl => match us, hl with | [_, _], _ => rfl); (case a => k_is); (case l => k_is); (case c => k_is); (case k => k_is)))
    (case D__law_text => (refine' Lf.df_mk KX G ?a ?l ?c ?k (fun _ _ _ _ _ _ us hl => match us, hl with | [_, _], _ => rfl); (case a => k_is); (case l => k_is); (case c => k_is); (case k => k_is)))
    (case D__law_alone => (refine' Lf.df_mk KX G ?a ?l ?c ?k (fun _ _ _ _ _ _ us hl => match us, hl with | [_], _ => rfl); (case a => k_is); (case l => k_is); (case c => k_is); (case k => k_is)))
    (case D_ask_text => (refine' Lf.df_mk KX G ?a ?l ?c ?k (fun _ _ _ _ _ _ us hl => match us, hl with | [_, _, _], _ => rfl); (case a => k_is); (case l => k_is); (case c => k_is); (case k => k_is)))
    (case D_ask_count => (refine' Lf.df_mk KX G ?a ?l ?c ?k (fun _ _ _ _ _ _ us hl => match us, hl with | [_, _, _], _ => rfl); (case a => k_is); (case l => k_is); (case c => k_is); (case k => k_is)))
    (case D_look_at_piece => (refine' Lf.df_mk KX G ?a ?l ?c ?k (fun _ _ _ _ _ _ us hl => match us, hl with | [_, _], _ => rfl); (case a => k_is); (case l => k_is); (case c => k_is); (case k => k_is)))
    (case D_look_at_rows => (refine' Lf.df_mk KX G ?a ?l ?c ?k (fun _ _ _ _ _ _ us hl => match us, hl with | [_, _], _ => rfl); (case a => k_is); (case l => k_is); (case c => k_is); (case k => k_is)))
    (case D_copied => (refine' Lf.df_mk KX G ?a ?l ?c ?k (fun _ _ _ _ _ _ us hl => match us, hl with | [_], _ => rfl); (case a => k_is); (case l => k_is); (case c => k_is); (case k => k_is)))
    (case D_ends_well => (refine' Lf.df_mk KX G ?a ?l ?c ?k (fun _ _ _ _ _ _ us hl => match us, hl with | [_, _], _ => rfl); (case a => k_is); (case l => k_is); (case c => k_is); (case k => k_is)))
    (case D_trail_of => (refine' Lf.df_mk KX G ?a ?l ?c ?k (fun _ _ _ _ _ _ us hl => match us, hl with | [_], _ => rfl); (case a => k_is); (case l => k_is); (case c => k_is); (case k => k_is)))
    (case D_values_of => (refine' Lf.df_mk KX G ?a ?l ?c ?k (fun _ _ _ _ _ _ us hl => match us, hl with | [_, _, _], _ => rfl); (case a => k_is); (case l => k_is); (case c => k_is); (case k => k_is)))
    (case D_readings => (refine' Lf.dd_mk KX G ?a ?l ?c ?k ?lT ?eT 2 rfl (fun _ _ _ _ _ _ _ us its hu hi => match us, its, hu, hi with | [_, _, _], [_], _, _ => ⟨_, rfl, rfl⟩) (fun _ _ _ _ _ _ _ us its hu hi => match us, its, hu, hi with | [_, _], [_], _, _ => ⟨_, rfl, rfl⟩); (case a => k_is); (case l => k_is); (case c => k_is); (case k => k_is); (case lT => k_is); (case eT => exact ⟨_, rfl⟩)))
    (case D_read => (refine' Lf.df_mk KX G ?a ?l ?c ?k (fun _ _ _ _ _ _ us hl => match us, hl with | [_, _], _ => rfl); (case a => k_is); (case l => k_is); (case c => k_is); (case k => k_is)))
    (case D__law_tried => (refine' Lf.df_mk KX G ?a ?l ?c ?k (fun _ _ _ _ _ _ us hl => match us, hl with | [_, _], _ => rfl); (case a => k_is); (case l => k_is); (case c => k_is); (case k => k_is)))
    (case B => (refine' ⟨PySem.W.mg_none_of KX G ?z0, PySem.W.mg_none_of KX G ?z1, PySem.W.mg_none_of KX G ?z2, PySem.W.mg_none_of KX G ?z3, PySem.W.mg_none_of KX G ?z4, PySem.W.mg_none_of KX G ?z5, PySem.W.mg_none_of KX G ?z6, PySem.W.mg_none_of KX G ?z7, PySem.W.mg_none_of KX G ?z8, PySem.W.mg_none_of KX G ?z9, PySem.W.mg_none_of KX G ?z10, PySem.W.mg_none_of KX G ?z11, PySem.W.mg_none_of KX G ?z12⟩; (case z0 => k_is); (case z1 => k_is); (case z2 => k_is); (case z3 => k_is); (case z4 => k_is); (case z5 => k_is); (case z6 => k_is); (case z7 => k_is); (case z8 => k_is); (case z9 => k_is); (case z10 => k_is); (case z11 => k_is); (case z12 => k_is)))
    (case g_SIGNS => (refine' Lf.signs_mk KX G ?z ?e; (case z => k_is); (case e => exact ⟨_, rfl⟩)))
    (case cmF0 => (refine' Lf.cm_mk2 KX G ?aC ?a ?i ?l ?c ?k ?pg ?hd ?po ?sa ?mk ?kc (fun _ _ _ _ _ _ us hl => match us, hl with | [_, _], _ => rfl) ?q1 ?ha ?hn ?ht ?hm; (case aC => k_is); (case a => k_is); (case i => k_is); (case l => k_is); (case c => k_is); (case k => k_is); (case pg => k_is); (case hd => k_is); (case po => k_is); (case sa => k_is); (case mk => k_is); (case kc => k_is); (case q1 => k_is); (case ha => k_is); (case hn => k_is); (case ht => k_is); (case hm => k_is)))
    (case e_Walk => (refine' Lf.glob_mk KX G ?a; (case a => k_is)))
    (case cmW => (refine' Lf.cmC_mk KX G ?aC ?a ?i ?l ?c ?k ?pg ?hd ?po ?sa ?mk ?kc (fun _ _ _ _ _ _ us hl => match us, hl with | [_, _], _ => rfl); (case aC => k_is); (case a => k_is); (case i => k_is); (case l => k_is); (case c => k_is); (case k => k_is); (case pg => k_is); (case hd => k_is); (case po => k_is); (case sa => k_is); (case mk => k_is); (case kc => k_is)))
    (case cW => (refine' Lf.cw_mk ?pg ?hd ?po ?sa ?q1 ?q2 ?q3; (case pg => k_is); (case hd => k_is); (case po => k_is); (case sa => k_is); (case q1 => k_is); (case q2 => k_is); (case q3 => k_is)))
    (case md_step => (refine' Lf.md_mk ?a ?i ?l ?c ?k (fun _ _ _ _ _ _ us hl => match us, hl with | [_, _, _], _ => rfl); (case a => k_is); (case i => k_is); (case l => k_is); (case c => k_is); (case k => k_is)))
    (case md_say => (refine' Lf.md_mk ?a ?i ?l ?c ?k (fun _ _ _ _ _ _ us hl => match us, hl with | [_, _, _], _ => rfl); (case a => k_is); (case i => k_is); (case l => k_is); (case c => k_is); (case k => k_is)))
    (case md_ask => (refine' Lf.md_mk ?a ?i ?l ?c ?k (fun _ _ _ _ _ _ us hl => match us, hl with | [_, _, _], _ => rfl); (case a => k_is); (case i => k_is); (case l => k_is); (case c => k_is); (case k => k_is)))
    (case md_rows => (refine' Lf.md_mk ?a ?i ?l ?c ?k (fun _ _ _ _ _ _ us hl => match us, hl with | [_, _, _], _ => rfl); (case a => k_is); (case i => k_is); (case l => k_is); (case c => k_is); (case k => k_is)))
    (case md_chain => (refine' Lf.md_mk ?a ?i ?l ?c ?k (fun _ _ _ _ _ _ us hl => match us, hl with | [_, _, _], _ => rfl); (case a => k_is); (case i => k_is); (case l => k_is); (case c => k_is); (case k => k_is)))
    (case ri_Twofold => (refine' Lf.ri_mk KX G ?aC ?xL ?xb ?sa ?eC ?tC ?kC ?a ?t ?l ?c ?k (fun _ _ _ _ _ _ us hl => match us, hl with | [_, _, _], _ => rfl); (case aC => k_is); (case xL => k_is); (case xb => decide +kernel); (case sa => k_is); (case eC => k_is); (case tC => k_is); (case kC => k_is); (case a => k_is); (case t => k_is); (case l => k_is); (case c => k_is); (case k => k_is)))
    (case nf_Twofold_one => k_is)
    (case nf_Twofold_other => k_is)
    (case FL0 => (refine' Lf.law_mk KX G hmg ?a ?l ?c ?k (fun _ _ _ _ _ _ _ _ => .of_eq rfl); (case a => k_is); (case l => k_is); (case c => k_is); (case k => k_is)))

