import PyProof.Rows.All
import Wide.All
import OpenK.AllK
import Wide.FinOn
import HandS.ForMost
import HandS.Rev
import HandS.IsInst
import HandS.TupAny
import HandS.Strs
import PyProof.FactsAll.subtypes_3
import KE.DataEq
import KE.KEqNest
import HandS.More
import HandS.Walk
import HandS.ForExc
import HandS.ExcIs
import KE.KExcIs
import HandS.ExcField
import HandS.ExcInit
import HandS.Codes
import PyProof.StrBlock2
import PyProof.CompFree
import PySem.Challenge.RW_letterform_k04_values_refused
/-! # LfBase -/
set_option Elab.async false
set_option linter.all false
set_option maxRecDepth 100000
set_option maxHeartbeats 4000000
namespace Lf
open PySem L2

/-! ### defs of the module -/
structure Df (K : PySem.W.Frag) (mg : Str → Option Value) (x : Str) (st : Stmt) (ps : List Str) : Prop where
  ex : ∃ (f : Addr) (fd : FuncData), Fun K x x st f fd ∧ mg x = some (.ref f) ∧ Binds K fd ps []
structure Dn (P : Program) (w : World) (K : PySem.W.Frag) (mg : Str → Option Value) (base : Heap) (CX : CXT) (k : Nat) (x : Str) (sp : Sp) : Prop where
  ex : ∃ (f : Addr) (fd : FuncData) (ps : List Str), FnOk P w K mg base CX k f fd ps sp ∧ mg x = some (.ref f) ∧ PySem.W.keepIn K (.ref f) = true ∧ Binds K fd ps []
theorem Dn.of {P : Program} {w : World} {K : PySem.W.Frag} {mg : Str → Option Value} {base : Heap} {CX : CXT} {k : Nat} {x : Str} {st : Stmt} {ps : List Str} {sp : Sp} (D : Df K mg x st ps)
    (h : ∀ f fd, Fun K x x st f fd → FnOk P w K mg base CX k f fd ps sp) : Dn P w K mg base CX k x sp := by
  obtain ⟨f, fd, F, m, b⟩ := D.ex
  exact ⟨f, fd, ps, h f fd F, m, F.kp, b⟩
theorem Dn.imp {P : Program} {w : World} {K : PySem.W.Frag} {mg : Str → Option Value} {base : Heap} {CX : CXT} {k : Nat} {x : Str} {sp sp' : Sp} (D : Dn P w K mg base CX k x sp)
    (h : ∀ vs H Q E, sp' vs H Q E → sp vs H Q E) : Dn P w K mg base CX k x sp' := by
  obtain ⟨f, fd, ps, F, m, kp, b⟩ := D.ex
  exact ⟨f, fd, ps, F.imp h, m, kp, b⟩
section
variable {X : Cx} {k j : Nat} {C : Addr} {x m : Str} {sp : Sp} {p pos apos : Pos} {e o : Expr} {es : List Expr} {ta : TE} {t : TA}
theorem cD (c : Dn X.prog X.w X.K X.mg X.base CX0 k x sp) (hr : Room j X.A) (hk : k ≤ j) (hg : Gl X x) (ha : PA X (e :: es) t)
    (hdb : (x == ("__debug__" : Str)) = false := by decide) (he : starEach (e :: es) X.env = (false, eval e X.env) :: starEach es X.env := by rfl) (hpl : (backTo pos (starEach es X.env)).any (·.1) = false := by rfl) :
    PE X (.Call (.Name x p) (e :: es) [] pos) (tCall sp [] E0 t) := by
  obtain ⟨f, fd, ps, F, hm, kp, b⟩ := c.ex
  exact pe_call F (hr.mono hk) hg hm kp b .nil pass0 ha hdb he hpl
/-- an own class, made -/
structure Mn (P : Program) (w : World) (K : PySem.W.Frag) (mg : Str → Option Value) (base : Heap) (CX : CXT) (k : Nat) (x : Str) (C : Addr) (sp : Sp) : Prop where
  ex : ∃ (f : Addr) (fd : FuncData) (ps : List Str), Mk K C f ∧ FnOk P w K mg base CX k f fd ps sp ∧ mg x = some (.ref C) ∧ Binds K fd ps []
theorem cM (c : Mn X.prog X.w X.K X.mg X.base CX0 k x C sp) (hr : Room j X.A) (hk : k + 1 ≤ j) (hg : Gl X x) (ha : PA X (e :: es) t)
    (hdb : (x == ("__debug__" : Str)) = false := by decide) (he : starEach (e :: es) X.env = (false, eval e X.env) :: starEach es X.env := by rfl) (hpl : (backTo pos (starEach es X.env)).any (·.1) = false := by rfl) :
    PE X (.Call (.Name x p) (e :: es) [] pos) (tMake C sp [] E0 t) := by
  obtain ⟨f, fd, ps, M, F, hm, b⟩ := c.ex
  exact pe_make M F (hr.mono hk) hg hm b .nil pass0 ha hdb he hpl
/-- a method -/
structure Tn (P : Program) (w : World) (K : PySem.W.Frag) (mg : Str → Option Value) (base : Heap) (CX : CXT) (k : Nat) (C : Addr) (m : Str) (sp : Sp) : Prop where
  ex : ∃ (f : Addr) (fd : FuncData) (ps : List Str), Cls K C ∧ Meth K C m f ∧ FnOk P w K mg base CX k f fd ps sp ∧ Binds K fd ps []
theorem cT {pl : Sem Bool} (c : Tn X.prog X.w X.K X.mg X.base CX0 k C m sp) (hr : Room j X.A) (hk : k ≤ j) (he : PE X o ta) (ha : PA X (e :: es) t)
    (hst : starEach (e :: es) X.env = (false, eval e X.env) :: starEach es X.env := by rfl) (hpl : (backTo pos (starEach es X.env)).any (·.1) = false := by rfl)
    (ht : eval (.Call (.Attribute o m apos) (e :: es) [] pos) X.env = (do
      let ov ← eval o X.env
      standAt apos.atName
      let (f, first) ← holding [ov] (getMethod ov m pl)
      callWith pos f first (backTo pos (starEach (e :: es) X.env)) (backToKw pos (keywordEach [] X.env))) := by rfl) :
    PE X (.Call (.Attribute o m apos) (e :: es) [] pos) (tMeth C m sp [] E0 ta t) := by
  obtain ⟨f, fd, ps, hc, hm, F, b⟩ := c.ex
  exact pe_meth (pl := pl) he hc hm F (hr.mono hk) b .nil pass0 ha hst hpl ht
end

/-! ### the built-in names -/
structure Bl (mg : Str → Option Value) : Prop where
  len : mg "len" = none
  range : mg "range" = none
  list : mg "list" = none
  isinstance : mg "isinstance" = none
  set : mg "set" = none
  reversed : mg "reversed" = none
  dict : mg "dict" = none
  sorted : mg "sorted" = none
  min : mg "min" = none
  int : mg "int" = none
  str : mg "str" = none
  tuple : mg "tuple" = none
  ValueError : mg "ValueError" = none

/-! ### heaps: what is told once stays (Same); all of the heap stays (Keep) -/
def Keep (H H' : Hp) : Prop := ∀ b o, H b = some o → H' b = some o
theorem Keep.same {H H' : Hp} (k : Keep H H') : Same H H' := k
theorem Keep.refl (H : Hp) : Keep H H := fun _ _ h => h
theorem Keep.trans {H H1 H2 : Hp} (a : Keep H H1) (b : Keep H1 H2) : Keep H H2 := fun c o h => b c o (a c o h)
theorem Keep.new {H : Hp} {p : Addr} {o : HO} (h : H p = none) : Keep H (upd H p o) := fun a u e => by rw [upd_ne (ne_of_none e h)]; exact e
theorem _root_.L2.Same.new {H : Hp} {p : Addr} {o : HO} (h : H p = none) : Same H (upd H p o) := Keep.new h
theorem _root_.L2.Same.keep {G H H' : Hp} (a : Same G H) (k : Keep H H') : Same G H' := a.trans k
theorem Keep.free {H H' : Hp} (e : Keep H H') {l : Addr} (h : H' l = none) : H l = none := Same.free e h
/-- a list of one's own is changed -/
theorem _root_.L2.Same.mut {G H : Hp} {l : Addr} {o : HO} (a : Same G H) (h : G l = none) : Same G (upd H l o) := fun b u e => by
  rw [upd_ne (ne_of_none e h)]; exact a b u e
theorem Keep.mut {G H : Hp} {l : Addr} {o : HO} (a : Keep G H) (h : G l = none) : Keep G (upd H l o) := Same.mut a h
theorem _root_.L2.Same.rd {G H : Hp} {a : Addr} {u : HO} (s : Same G H) (h : Rd G a u) : Rd H a u := by
  rcases h with h | ⟨o, h⟩
  · exact .inl (s _ _ h)
  · exact .inr ⟨o, s _ _ h⟩
theorem _root_.L2.Same.tup {K : PySem.W.Frag} {H H' : Hp} {a : Addr} {xs : List V} (e : Same H H') (h : SqT K H a xs) : SqT K H' a xs := by
  rcases h with h | h
  · exact .inl (e.rd h)
  · exact .inr h
/-- the world: G what is told once and stays, H the whole heap -/
structure Wd (G H G' H' : Hp) : Prop where
  gg : Same G G'
  gh : Same G' H'
  hh : Keep H H'
  nw : ∀ b o, H b = some o → G b = none → G' b = none
theorem Wd.refl {G H : Hp} (s : Same G H) : Wd G H G H := ⟨Same.refl _, s, Keep.refl _, fun _ _ _ h => h⟩
theorem Wd.trans {G H G1 H1 G2 H2 : Hp} (a : Wd G H G1 H1) (b : Wd G1 H1 G2 H2) : Wd G H G2 H2 :=
  ⟨a.gg.trans b.gg, b.gh, a.hh.trans b.hh, fun c o h1 h2 => b.nw c o (a.hh c o h1) (a.nw c o h1 h2)⟩
/-- H grows by what nobody asks for -/
theorem Wd.keep {G H G1 H1 H2 : Hp} (a : Wd G H G1 H1) (k : Keep H1 H2) : Wd G H G1 H2 := ⟨a.gg, a.gh.keep k, a.hh.trans k, a.nw⟩
/-- a new thing, told -/
theorem Wd.new {G H G1 H1 : Hp} {p : Addr} {o : HO} (a : Wd G H G1 H1) (h : H1 p = none) : Wd G H (upd G1 p o) (upd H1 p o) := by
  have gp : G1 p = none := Same.free a.gh h
  refine ⟨a.gg.trans (Same.new gp), fun b u e => ?_, a.hh.trans (Keep.new h), fun b u e1 e2 => ?_⟩
  · by_cases hb : b = p
    · subst hb; rw [upd_same] at e ⊢; exact e
    · rw [upd_ne hb] at e ⊢; exact a.gh _ _ e
  · have hb : b ≠ p := ne_of_none (a.hh _ _ e1) h
    rw [upd_ne hb]; exact a.nw _ _ e1 e2
/-- a thing of one's own is told from now on -/
theorem Wd.tell {G H G1 H1 : Hp} {p : Addr} {o : HO} (a : Wd G H G1 H1) (hp : H1 p = some o) (h0 : H p = none) (g1 : G1 p = none) : Wd G H (upd G1 p o) H1 := by
  refine ⟨a.gg.trans (Same.new g1), fun b u e => ?_, a.hh, fun b u e1 e2 => ?_⟩
  · by_cases hb : b = p
    · subst hb; rw [upd_same] at e; rw [hp]; exact e
    · rw [upd_ne hb] at e; exact a.gh _ _ e
  · have hb : b ≠ p := ne_of_none e1 h0
    rw [upd_ne hb]; exact a.nw _ _ e1 e2
/-- a thing of one's own is changed -/
theorem Wd.mut {G H G1 H1 : Hp} {p : Addr} {o : HO} (a : Wd G H G1 H1) (h0 : H p = none) (g1 : G1 p = none) : Wd G H G1 (upd H1 p o) :=
  ⟨a.gg, a.gh.mut g1, a.hh.mut h0, a.nw⟩
/-- what a def hands back: a value of which Post holds -/
def Ret (G H : Hp) (Post : V → Hp → Prop) (Q : VK) : Prop := ∀ v G' H', Wd G H G' H' → Post v G' → Q v H'
/-- .. that leans on no heap -/
def RetV (H : Hp) (v : V) (Q : VK) : Prop := ∀ H', Keep H H' → Q v H'
end Lf

/-! # LfSet -/
set_option Elab.async false
set_option linter.all false
set_option maxRecDepth 100000
set_option maxHeartbeats 4000000
namespace Lf
open PySem PySem.Spec PyProof.Rows

/-! ### the texts of a list that differ, in the order in which they come first -/
def dd1 (acc : List Str) (v : Str) : List Str := if acc.any (· == v) = true then acc else acc ++ [v]
def ddS (l : List Str) : List Str := l.foldl dd1 []
def ddAt (val : Nat → Str) (i : Nat) : List Str := ddS ((List.range i).map val)
theorem dd1_in {acc : List Str} {v : Str} (h : v ∈ acc) : dd1 acc v = acc := if_pos (by simpa using h)
theorem dd1_out {acc : List Str} {v : Str} (h : v ∉ acc) : dd1 acc v = acc ++ [v] := if_neg (by simpa using h)
theorem dd1_mem (acc : List Str) (v k : Str) : k ∈ dd1 acc v ↔ k ∈ acc ∨ k = v := by
  rcases Classical.em (v ∈ acc) with h | h
  · rw [dd1_in h]
    exact ⟨.inl, fun e => e.elim id fun e => e ▸ h⟩
  · rw [dd1_out h, List.mem_append, List.mem_singleton]
theorem dd1_any (acc : List Str) (v k : Str) : (dd1 acc v).any (· == k) = (acc.any (· == k) || decide (k = v)) := by
  have e : ∀ l : List Str, l.any (· == k) = decide (k ∈ l) := fun l => by rw [Bool.eq_iff_iff]; simp
  rw [e, e, ← Bool.decide_or]
  exact decide_eq_decide.mpr (dd1_mem acc v k)
theorem dd1_length (acc : List Str) (v : Str) : (dd1 acc v).length = if acc.any (· == v) then acc.length else acc.length + 1 :=
  (apply_ite List.length _ _ _).trans (by rw [List.length_append, List.length_singleton])
theorem ddAt_zero (val : Nat → Str) : ddAt val 0 = [] := rfl
theorem ddAt_succ (val : Nat → Str) (i : Nat) : ddAt val (i + 1) = dd1 (ddAt val i) (val i) := by
  simp [ddAt, ddS, List.range_succ]
theorem ddAt_le (val : Nat → Str) (i : Nat) : (ddAt val i).length ≤ i := by
  induction i with
  | zero => exact Nat.le_refl 0
  | succ j hj =>
    have e := dd1_length (ddAt val j) (val j)
    rw [← ddAt_succ] at e
    rcases Bool.eq_false_or_eq_true ((ddAt val j).any (· == val j)) with c | c <;> simp [c] at e <;> omega

/-! ### a set object that holds just the texts of a list -/
def HasTx (prog : Program) (w : World) (h : Heap) (D : Addr) (l : List Str) : Prop := h.SetOf (PySem.strKind prog w) D (fun k => l.any (· == k)) l.length
section
variable {prog : Program} {w : World}
theorem HasTx.keep {h h' : Heap} {D : Addr} {l : List Str} (x : HasTx prog w h D l) (hl : l.length < scanBound) (k : ∀ o, h.get? D = some o → h'.get? D = some o) : HasTx prog w h' D l :=
  let ⟨o, e, q⟩ := Heap.SetOf.objOf x
  q.setOf (k o e) hl
/-- one text more -/
theorem HasTx.take {A : Around} {E : Value → Shared → Prop} {s : Shared} {D : Addr} {l : List Str} {v : Str} {t : Tok} {Q : Bool → Shared → Prop} (x : HasTx prog w s.heap D l) (hl : l.length + 1 < scanBound)
    (next : ∀ (b : Bool) (h' : Heap) (tk : Nat), s.toks ≤ tk → Heap.SameBut D s.heap h' → HasTx prog w h' D (dd1 l v) → Q b { s with heap := h', toks := tk }) : wpAny (model prog w) A (setAdd D (.str v t)) Q E s := by
  have hk := strKind_is prog w v t
  refine wpAny_holding (wpAny_bind (KeyKind.pyHash _ hk (wpAny_setAddHashed_of (s := { s with toks := s.toks + 1 }) hk rfl x hl fun h' same y => ?_)))
  refine next _ h' _ (Nat.le_add_right _ _) same ?_
  have e1 : (fun k => l.any (· == k) || decide (k = v)) = fun k => (dd1 l v).any (· == k) := funext fun k => (dd1_any l v k).symm
  rw [HasTx, ← e1, dd1_length]
  exact y
end

/-! ### the loop that fills it out of an iterator -/
section
variable {prog : Program} {w : World} {A : Around} {R : Result → Shared → Prop} {I D : Addr} {fp wr : List Addr} {G : Array GenState → Array GenState → Prop} {n : Nat} {P : Nat → Value → Prop} {St : Nat → Shared → Prop} {f : Nat → Str} {s0 : Shared}
theorem fills (W : WalksS prog w A.in1 I fp wr G n P St) (out : D ∉ fp) (txt : ∀ i v, P i v → ∃ t, v = .str (f i) t) (small : n + 1 < scanBound)
    (last : ∀ s', Moved (D :: wr) G s0 s' → HasTx prog w s'.heap D (ddAt f n) → R (.ok (.ret .none)) s') (i : Nat) (hi : i ≤ n) (s : Shared) (st : St i s) (mv : Moved (D :: wr) G s0 s) (x : HasTx prog w s.heap D (ddAt f i)) :
    codeAny (model prog w) A (.builtin "set.update.loop" ⟨[.ref D, .ref I], []⟩) R s := by
  have small_i : (ddAt f i).length + 1 < scanBound := Nat.lt_of_le_of_lt (Nat.succ_le_succ (Nat.le_trans (ddAt_le f i) hi)) small
  have stays : ∀ {s'}, Moved wr G s s' → HasTx prog w s'.heap D (ddAt f i) := fun m => x.keep (Nat.lt_of_succ_lt small_i) fun o => m.heap D o fun c => out (W.sub D c)
  have goes : ∀ {s'}, Moved wr G s s' → Moved (D :: wr) G s0 s' := fun m => mv.trans W.gtrans (m.mono fun _ => List.mem_cons_of_mem D)
  refine codeAny_builtin F.entry_set_update_loop (Around.under_plainId F.plain_set_update_loop _ ▸ ?_)
  unfold Builtin.«set.update.loop»
  dsimp only
  rcases Nat.lt_or_ge i n with lt | ge
  · refine wpAny_bind (W.item i s _ _ lt st fun v s1 pv st1 m1 => ?_)
    obtain ⟨t, rfl⟩ := txt i v pv
    refine wpAny_bind (wpAny_holding ((stays m1).take small_i fun b h2 tk more same y => ?_))
    have safe : ∀ a, a ≠ D → ∀ o, s1.heap.get? a = some o → h2.get? a = some o := fun a na o e => (same.2 a na).trans e
    refine wpAny_pure ⟨plainId_quiet F.plain_set_update_loop _, ?_⟩
    exact fills W out txt small last (i + 1) lt _ (W.frame _ s1 h2 tk st1 more fun a ha => safe a fun c => out (c ▸ ha))
      ((goes m1).then_heap more fun a o ha => safe a (fun c => ha (c ▸ List.mem_cons_self)) o) (ddAt_succ f i ▸ y)
  · obtain rfl : i = n := Nat.le_antisymm hi ge
    exact wpAny_bind (W.done s _ _ st fun s1 m1 => wpAny_pure (last s1 (goes m1) (stays m1)))
termination_by n - i
end

/-! ### set(x): a bare set is made, then its __init__ takes x in -/
def bareSet (led : Bool) : Obj := { cls := .type "set", dict := none, data := .set #[] 0 (.fresh 0 0 led) }
section
variable {prog : Program} {w : World} {A : Around} {E : Value → Shared → Prop} {s : Shared}
theorem codeAny_thn {c : Code} {Q : Value → Shared → Prop} {R : Result → Shared → Prop} (x : codeAny (model prog w) A c (wants Q E) s) (good : ∀ v s', Q v s' → R (.ok (.ret v)) s') (bad : ∀ e s', E e s' → R (.error e) s') : codeAny (model prog w) A c R s :=
  codeAny_mono x fun r s' q => match r, q with
    | .ok (.ret v), q => good v s' q
    | .error e, q => bad e s' q
theorem bareSet_is (h : Heap) (led : Bool) : (h.push (bareSet led)).get? h.objs.size = some (bareSet led) := Heap.get?_push_size h rfl
theorem set_made {a : Value} {Q : Value → Shared → Prop} (body : ∀ led : Bool, wpAny (model prog w) A.in1.in1 (Builtin.«set.__init__» ⟨[.ref s.heap.objs.size, a], []⟩) (fun fin s' => fin = .done (.ret .none) ∧ Q (.ref s.heap.objs.size) s') E { s with heap := s.heap.push (bareSet led) }) :
    wpAny (model prog w) A (call (.type "set") [a]) Q E s := by
  have T := PySem.F.called_set
  obtain ⟨c0, more, line⟩ := T.mro
  have known := And.intro T.made (And.intro T.sub (And.intro T.notType (And.intro T.canCreate (PySem.F.typeCall_set_1 a))))
  obtain ⟨k1, k2, k3, k4, k5⟩ := known
  have start : codeAny (model prog w) A (.call (.type "set") ⟨[a], []⟩) (wants Q E) s := by
    refine codeAny_of_tree ?_
    show wpAny _ _ (callAny (.type "set") ⟨[a], []⟩) _ _ s
    refine wpAny_pure (And.intro (Code.quiet_builtin _ (by decide +kernel)) (codeAny_builtin PySem.F.entry_type_call ?_))
    rw [Around.under_plain (weight_type_call_type "set" [a] []) (units_type_call_type "set" [a] [])]
    repeat any_goals first | assumption | wp_step
    refine codeAny_thn (E := E) (Q := fun v s1 => v = .ref s.heap.objs.size ∧ ∃ led, s1 = { s with heap := s.heap.push (bareSet led) }) (code_set_new_1 a fun led => ⟨rfl, led, rfl⟩) (fun v s1 q => ?_) fun e s1 q => q
    obtain ⟨rfl, led, rfl⟩ := q
    have own : Shared.TypeIs { s with heap := s.heap.push (bareSet led) } (.ref s.heap.objs.size) "set" := ⟨bareSet led, bareSet_is _ _, rfl⟩
    have j1 := T.init.lookup
    have j2 := T.init.bind (.ref s.heap.objs.size)
    repeat any_goals first | assumption | wp_step
    refine codeAny_thn (E := E) (Q := fun v s2 => v = .none ∧ Q (.ref s.heap.objs.size) s2) (codeAny_call_builtin T.init.plain PySem.F.entry_set_init (check_set_init_1 own (wpAny_mono (body led) (fun fin s2 q => ?_) fun e s2 q => q))) (fun v s2 q => ?_) fun e s2 q => q
    · obtain ⟨rfl, q⟩ := q
      exact ⟨rfl, q⟩
    · obtain ⟨rfl, q⟩ := q
      repeat any_goals first | assumption | wp_step
  exact wpAny_call start
theorem type_later {h : Heap} {x : Value} {T : String} (y : s.TypeIs x T) (k : ∀ b o, s.heap.get? b = some o → h.get? b = some o) : Shared.TypeIs { s with heap := h } x T := by
  cases x with
  | ref a => exact y.elim fun o q => ⟨o, k a o q.1, q.2⟩
  | _ => exact y
/-- x is no set and no dict, and its iterator walks the texts f 0 .. f (n - 1): set(x) is a set that holds just them -/
theorem set_walked {x : Value} {T : String} {n : Nat} {f : Nat → Str} {Pv : Nat → Value → Prop} {Q : Value → Shared → Prop} (calm : A.handled = none) (ty : s.TypeIs x T)
    (noS : isSubtype (.type T) (.type "set") = pure false) (noF : isSubtype (.type T) (.type "frozenset") = pure false) (noD : (Value.type T == Value.type "dict") = false) (small : n + 1 < scanBound) (txt : ∀ i v, Pv i v → ∃ t, v = .str (f i) t)
    (iter : ∀ (A' : Around) (h : Heap) (Q' E' : _), s.heap.objs.size < h.objs.size → (∀ b o, s.heap.get? b = some o → h.get? b = some o) →
      (∀ (o : Obj) (fp : List Addr) (St : Nat → Heap → Prop), (∀ b ∈ fp, b ≠ s.heap.objs.size) → (∀ A' : Around, A'.handled = none → Walks prog w A' h.objs.size fp [h.objs.size] n Pv St) → St 0 (h.push o) → Q' (.ref h.objs.size) { s with heap := h.push o }) →
      wpAny (model prog w) A' (pyIter x) Q' E' { s with heap := h })
    (next : ∀ (h' : Heap) (tk : Nat), HasTx prog w h' s.heap.objs.size (ddAt f n) → (∀ b o, b < s.heap.objs.size → s.heap.get? b = some o → h'.get? b = some o) → Q (.ref s.heap.objs.size) { s with heap := h', toks := tk }) :
    wpAny (model prog w) A (call (.type "set") [x]) Q E s := by
  refine set_made fun led => ?_
  have more : s.heap.objs.size < (s.heap.push (bareSet led)).objs.size := by rw [Heap.size_push]; exact Nat.lt_add_one _
  have kept : ∀ b o, s.heap.get? b = some o → (s.heap.push (bareSet led)).get? b = some o := fun b o e => Heap.get?_push_of_some _ e
  have own := bareSet_is s.heap led
  have ty1 := type_later ty kept
  have fresh : ∀ o, HasTx prog w ((s.heap.push (bareSet led)).push o) s.heap.objs.size (ddAt f 0) := fun o =>
    (setObjOf_fresh (knd := PySem.strKind prog w) led).setOf (Heap.get?_push_of_some o own) (Nat.lt_of_le_of_lt (Nat.zero_le _) small)
  unfold Builtin.«set.__init__» noKeywords
  unfold bareSet at *
  generalize hU : Builtin.Frozenset.updateFrom = U
  wp_walk
  subst hU
  unfold Builtin.Frozenset.updateFrom Builtin.Frozenset.isAnySet
  refine wpAny_bind ?_
  unfold orM
  refine wpAny_bind (wpAny_isInstance ty1 noS (wpAny_isInstance ty1 noF ?_))
  refine wpAny_bind (wpAny_typeOf ty1 ?_)
  rw [noD]
  refine wpAny_bind (iter A.in1.in1 _ _ _ more kept fun o fp St apart W st => ?_)
  have calm3 : A.in1.in1.in1.handled = none := by simp [calm]
  refine wpAny_bind (wpAny_runValue ?_)
  refine fills (W A.in1.in1.in1 calm3).toS (fun c => apart _ c rfl) txt small (fun s1 mv held => ?_) 0 (Nat.zero_le n) _ st (Moved.refl fun _ => rfl) (fresh o)
  refine wpAny_pure (wpAny_pure ⟨rfl, ?_⟩)
  have same : s1 = { s with heap := s1.heap, toks := s1.toks } := by
    cases s1
    simp only [Shared.mk.injEq, true_and]
    exact ⟨mv.gens, mv.drawn, mv.os⟩
  rw [same]
  refine next _ _ held fun b ob low e => mv.heap b ob ?_ (Heap.get?_push_of_some o (kept b ob e))
  rintro (_ | ⟨_, _ | ⟨_, c⟩⟩)
  · exact Nat.lt_irrefl _ low
  · exact Nat.lt_irrefl _ (Nat.lt_trans low more)
  · cases c
/-- set(text): its signs -/
theorem call_set_str {x : Str} {tx : Tok} {Q : Value → Shared → Prop} (hh : A.handled = none) (hb : x.cps.size + 1 < scanBound)
    (h : ∀ (h' : Heap) (tk : Nat), HasTx prog w h' s.heap.objs.size (ddAt (fun i => ⟨#[x.cps.getD i 0]⟩) x.cps.size) → (∀ b o, b < s.heap.objs.size → s.heap.get? b = some o → h'.get? b = some o) → Q (.ref s.heap.objs.size) { s with heap := h', toks := tk }) :
    wpAny (model prog w) A (call (.type "set") [.str x tx]) Q E s := by
  refine set_walked (T := "str") (Pv := SignAt x) hh rfl PySem.F.sub_str_set PySem.F.sub_str_frozenset (by decide) hb (fun i v sign => ?_) (fun A' h0 Q' E' more kept q => ?_) h
  · obtain ⟨c, u, at_i, rfl⟩ := sign
    exact ⟨u, by rw [Array.getD_eq_getD_getElem?, at_i]; rfl⟩
  · refine wpAny_pyIter_str fun o St W st => q o _ St (fun b c => ?_) W st
    exact List.mem_singleton.mp c ▸ Nat.ne_of_gt more
end
end Lf

/-! # LfRules -/
set_option Elab.async false
set_option linter.all false
set_option maxRecDepth 100000
set_option maxHeartbeats 4000000
namespace Lf
open PySem PySem.Spec PyProof.Rows L2
section
variable {X : Cx} {a b c d : Expr} {ta tb tc td : TE} {pos : Pos}
/-- how many there are in set(a), for whatever a may be of which we know what the set holds -/
theorem pe_count {p p2 q pos : Pos} {body : V → Hp → VK → Prop} {give : V → Hp → List Str → Prop} (g1 : Gl X "len") (m1 : X.mg "len" = none) (g2 : Gl X "set") (m2 : X.mg "set" = none) (ha : PE X a ta) (asks : ∀ x H Q, body x H Q → ∃ l, give x H l ∧ Q (.int l.length) H)
    (holds : ∀ {pins σ H s x v l} {Q : Value → Shared → Prop}, Inv X pins σ H s → RelV x v → give x H l → (l.length < 4000 → ∀ (h' : Heap) (tk : Nat), HasTx X.prog X.w h' s.heap.objs.size l → (∀ b o, b < s.heap.objs.size → s.heap.get? b = some o → h'.get? b = some o) → Q (.ref s.heap.objs.size) { s with heap := h', toks := tk }) →
      wpAny (model X.prog X.w) X.A (call (.type "set") [v]) Q X.xe s)
    (one : starEach [a] X.env = (false, eval a X.env) :: starEach [] X.env := by rfl) : PE X (.Call (.Name "len" p) [.Call (.Name "set" p2) [a] [] q] [] pos) (fun σ H Q => ta σ H fun x H1 => body x H1 Q) := PE.mk fun pins s σ H Q I h =>
  Call_ (ld_blt I g1 m1 boot_len (callWith_builtin1 (args_cons (Call_ (ld_blt I g2 m2 boot_set (callWith_type1 (args_cons (thn (ha.run pins s σ H _ I h) fun v s1 => fun ⟨x, H1, I1, r, b⟩ => (asks x H1 Q b).elim fun l yk =>
    args_nil (holds I1 r yk.1 fun few h' tk full old => args_nil (by
      have J := Inv.kept (h' := h') (t' := tk) I1 fun b o e => old b o (Heap.lt_size e) e
      have d := full
      rcases d with ⟨ob, es, _, _, at_ob, exact_ob, data_ob, _, _, _, fits_ob, size_ob⟩
      have fit : (es.size : Int) < 2 ^ 63 := by omega
      exact call_len_set at_ob exact_ob data_ob fits_ob fit ⟨.int l.length, H1, J.tok _, ⟨_, congrArg (fun n : Nat => Value.int (n : Int) (tk + 1)) size_ob⟩, yk.2⟩))) one) one rfl))) rfl) rfl rfl))
/-- len(set(text)) -/
def tLenSetS (ta : TE) : TE := fun σ H Q => ta σ H fun x H1 => ∃ z : Str, x = .str z ∧ z.length < 4000 ∧ Q (.int (ddAt (fun i => ⟨#[z.cps.getD i 0]⟩) z.cps.size).length) H1
theorem pe_lenSetS {p p2 q pos : Pos} (hc : X.calm = true) (hg : Gl X "len") (hm : X.mg "len" = none) (hg2 : Gl X "set") (hm2 : X.mg "set" = none) (ha : PE X a ta)
    (na : starEach [a] X.env = (false, eval a X.env) :: starEach [] X.env := by rfl) : PE X (.Call (.Name "len" p) [.Call (.Name "set" p2) [a] [] q] [] pos) (tLenSetS ta) := by
  refine pe_count (ta := ta) (body := fun x H1 Q => ∃ z : Str, x = .str z ∧ z.length < 4000 ∧ Q (.int (ddAt (fun i => ⟨#[z.cps.getD i 0]⟩) z.cps.size).length) H1) (give := fun x _ l => ∃ z : Str, x = .str z ∧ z.length < 4000 ∧ l = ddAt (fun i => ⟨#[z.cps.getD i 0]⟩) z.cps.size) hg hm hg2 hm2 ha (fun x H Q => fun ⟨z, e, n, k⟩ => ⟨_, ⟨z, e, n, rfl⟩, k⟩) (fun I r y k => ?_) na
  obtain ⟨z, rfl, few, rfl⟩ := y
  obtain ⟨u, rfl⟩ := r
  have few' : z.cps.size < 4000 := few
  exact call_set_str (I.ok.hd hc) (Nat.lt_trans (Nat.succ_lt_succ few') (by decide)) (k (Nat.lt_of_le_of_lt (ddAt_le _ _) few'))
/-- a constant text of the module -/
theorem pe_globS {x : Str} {z : Str} (hg : Gl X x) (hm : ∃ t, X.mg x = some (.str z t)) (hd : (x == ("__debug__" : Str)) = false := by decide) : PE X (.Name x pos) (tC (.str z)) := by
  obtain ⟨t, e⟩ := hm
  exact pe_glob hg e ⟨_, rfl⟩ hd
/-- a loop over a text's signs -/
theorem for_text {x : Str} {g : TG} {tb : TS} {D : Ends} {σ : L2.St} {H : Hp} (Pv : Nat → L2.St → Hp → Prop) (h0 : Pv 0 σ H)
    (hs : ∀ (i c : Nat) (σ : L2.St) (H : Hp), x.cps[i]? = some c → Pv i σ H → g (.str ⟨#[c]⟩) σ H fun σ2 H2 => tb { D with nx := Pv (i + 1), ct := Pv (i + 1), bk := D.nx } σ2 H2) (hd : ∀ σ H, Pv x.cps.size σ H → D.nx σ H) :
    ∃ W : Nat → Nat → L2.St → Hp → Prop, (∃ m, W 0 m σ H) ∧ ∀ i m σ H, W i m σ H →
      ((Its x).stop i H ∧ D.nx σ H) ∨ ((Its x).go i H ∧ ∃ N : L2.St → Hp → Prop, (∀ σ' H', N σ' H' → ∃ m', m' < m ∧ W (i + 1) m' σ' H') ∧ ∀ v H', (Its x).yld i H v H' → g v σ H' fun σ2 H2 => tb { D with nx := N, ct := N, bk := D.nx } σ2 H2) := by
  refine ⟨fun i m σ H => m = x.cps.size - i ∧ i ≤ x.cps.size ∧ Pv i σ H, ⟨x.cps.size, rfl, Nat.zero_le _, h0⟩, ?_⟩
  rintro i m σ H ⟨rfl, hi, p⟩
  by_cases hlt : i < x.cps.size
  · refine .inr ⟨hlt, Pv (i + 1), fun σ' H' p' => ⟨x.cps.size - (i + 1), by omega, rfl, hlt, p'⟩, fun v H' y => ?_⟩
    obtain ⟨rfl, c, hc, rfl⟩ := y
    exact hs i c _ _ hc p
  · have e : i = x.cps.size := by omega
    subst e
    exact .inl ⟨Nat.le_refl _, hd _ _ p⟩
/-- a op1 b op2 c op3 d, as a test -/
def tChain3 (r r' r'' : R2) (ta tb tc td : TE) : TT := fun σ H Q => ta σ H fun x H1 => tb σ H1 fun y H2 => r x y H2 fun z H3 => ∃ k, z = .bl k ∧
  (if k = true then tc σ H3 fun u H4 => r' y u H4 fun z' H5 => ∃ k', z' = .bl k' ∧ (if k' = true then td σ H5 fun v H6 => r'' u v H6 fun z2 H7 => ∃ k2, z2 = .bl k2 ∧ Q k2 H7 else Q false H5) else Q false H3)
theorem pt_chain3 {op op' op'' : CmpOp} {r r' r'' : R2} (ho : OpR X (compareOp op) r) (ho' : OpR X (compareOp op') r') (ho'' : OpR X (compareOp op'') r'') (ha : PE X a ta) (hb : PE X b tb) (hc : PE X c tc) (hd : PE X d td)
    (hm : lastMarks [op, op', op''] [b, c, d] = false := by with_unfolding_all rfl) : PT X (.Compare a [op, op', op''] [b, c, d] pos) (tChain3 r r' r'' ta tb tc td) := by
  refine ⟨fun pins s σ H Q I h => ?_⟩
  refine isTrue_chain (thn (ha.run pins s σ H _ I h) fun v s1 ⟨x, H1, I1, r1, q1⟩ => test_link (thn (hb.run pins s1 σ H1 _ I1 q1) fun u s2 ⟨y, H2, I2, r2, q2⟩ =>
    thn (ho pins s2 σ H2 x y v u _ I2 r1 r2 q2) fun e s3 ⟨z, H3, I3, r3, k, e, q3⟩ => ?_)) hm
  subst e
  cases r3
  refine wpAny_truthy_bool ?_
  cases k with
  | false => exact ite_ff ⟨H3, I3, q3⟩
  | true =>
    refine ite_tt (test_link (thn (hc.run pins s3 σ H3 _ I3 q3) fun w' s4 ⟨z', H4, I4, r4, q4⟩ => thn (ho' pins s4 σ H4 y z' u w' _ I4 r2 r4 q4) fun d' s5 ⟨z2, H5, I5, r5, k2, e2, q5⟩ => ?_))
    subst e2
    cases r5
    refine wpAny_truthy_bool ?_
    cases k2 with
    | false => exact ite_ff ⟨H5, I5, q5⟩
    | true =>
      refine ite_tt (test_last (thn (hd.run pins s5 σ H5 _ I5 q5) fun v' s6 ⟨z6, H6, I6, r6, q6⟩ => thn (ho'' pins s6 σ H6 z' z6 w' v' _ I6 r4 r6 q6) fun d7 s7 ⟨z7, H7, I7, r7, k7, e7, q7⟩ => ?_))
      subst e7
      cases r7
      exact wpAny_truthy_bool ⟨H7, I7, q7⟩
end

/-! ### rules with the written part named (for a comprehension's block) -/
theorem ixT {X : Cx} {K : PySem.W.Frag} (h : X.K = K) : IxR X (rIxT K) := by subst h; exact ix_tup
theorem ixLs {X : Cx} {K : PySem.W.Frag} (h : X.K = K) : IxR X (rIxL K) := by subst h; exact ix_list
theorem callLen {X : Cx} {K : PySem.W.Frag} (h : X.K = K) : CallR X (.builtin "len") (fun xs H Q => ∃ p ys, xs = [.ref p] ∧ (SqL K H p ys ∨ SqT K H p ys) ∧ Q (.int ys.length) H) := by subst h; exact call_len_seq
theorem callList {X : Cx} {K : PySem.W.Frag} (h : X.K = K) : CallR X (.type "list") (fun xs H Q => ∃ p ys, xs = [.ref p] ∧ (SqL K H p ys ∨ SqT K H p ys) ∧ ∀ l, H l = none → Q (.ref l) (upd H l (.lst ys))) := by subst h; exact call_list_of
theorem opInSeq {X : Cx} {K : PySem.W.Frag} (h : X.K = K) : OpR X (compareOp .In) (rIn K false) := by subst h; exact op_in_seq
theorem slL {X : Cx} {K : PySem.W.Frag} (h : X.K = K) : SlR X (rSlL K) := by subst h; exact sl_list
theorem slT {X : Cx} {K : PySem.W.Frag} (h : X.K = K) : SlR X (rSlA K) := by subst h; exact sl_tupA
end Lf

/-! # LfMir -/
set_option Elab.async false
set_option linter.all false
set_option maxRecDepth 100000
set_option maxHeartbeats 4000000
namespace Lf
open PySem L2

/-! ## the draws -/
def cellAt (ns : List Int) (k : Int) : Int := if k < (ns.length : Int) then ns.getD k.toNat 0 else 0
def draw (ns : List Int) (k : Int) : Int :=
  ((cellAt ns (k % 61) + 7919 * k + 104729) * 48271 % 2147483647 * ((cellAt ns (k % 61) + 7919 * k + 104729) * 48271 % 2147483647)) % 2147483647 * 16807 % 2147483647 / 8
theorem draw_nn (ns : List Int) (k : Int) : 0 ≤ draw ns k := by unfold draw; omega
theorem draw_lt (ns : List Int) (k : Int) : draw ns k < 268435456 := by unfold draw; omega
def sgL : List Str := ["a", "ab", "abc", "b", "0123456789", "xyz-", "ba ", "Zz.", "c,", "\n/"]
def sayL : List Str := ["x", "ab", "-", ": ", "a", ", ", "Dear ", "\n", "b", "ba", "(0)", "c;c"]
def nmI : List Str := ["who", "day", "w"]
def nmO : List Str := ["who", "w", "day", "first_name = 1?", "whom", "e-mail@"]
def gapL : List Str := ["", ", ", "\n", "a", "--"]
def pick (l : List Str) (c : Int) : Str := l.getD (c % (l.length : Int)).toNat Str.empty

/-! ## pieces -/
inductive P0 where
  | say (t : Str)
  | ask (nm sg : Str) (lo hi : Int)
inductive Pc where
  | p0 (p : P0)
  | rows (nm : Str) (ps : List P0) (gap : Str) (lo hi : Int)
def askP (ns : List Int) (k : Int) (nm : Str) (most : Int) : P0 :=
  .ask nm (pick sgL (draw ns k)) (draw ns k / 10 % (most + 1)) (draw ns k / 10 % (most + 1) + draw ns k / 60 % (most + 1 - draw ns k / 10 % (most + 1)))
def innerAt (ns : List Int) (k most : Int) (j : Nat) : P0 :=
  if draw ns (k + 1 + j) % 3 = 0 then .say (pick sayL (draw ns (k + 5 + j))) else askP ns (k + 9 + j) (nmI.getD j Str.empty) most
def innerP (ns : List Int) (k many most : Int) : List P0 := (List.range (1 + draw ns k % many).toNat).map (innerAt ns k most)
def pieceP (ns : List Int) (k : Int) (nm : Str) (most : Int) : Pc :=
  if draw ns k % 5 < 2 then .p0 (.say (pick sayL (draw ns k / 5)))
  else if draw ns k % 5 < 4 then .p0 (askP ns (k + 1) nm most)
  else .rows nm (innerP ns (k + 2) 3 most) (pick gapL (draw ns k / 5)) (draw ns k / 25 % 4) (draw ns k / 25 % 4 + draw ns k / 100 % (4 - draw ns k / 25 % 4))
def pieceAt (ns : List Int) (most : Int) (k : Nat) : Pc := pieceP ns (10 + 20 * k) (pick nmO (k + draw ns 2)) most
def piecesP (ns : List Int) (many most : Int) : List Pc := (List.range (1 + draw ns 1 % many).toNat).map (pieceAt ns most)

/-! ## how they lie in the heap -/
def P0.vs : P0 → List V
  | .say t => [.str "say", .str t]
  | .ask nm sg lo hi => [.str "ask", .str nm, .str sg, .int lo, .int hi]
def R0 (K : PySem.W.Frag) (G : Hp) (v : V) (p : P0) : Prop := ∃ a, v = .ref a ∧ SqT K G a p.vs
def RP (K : PySem.W.Frag) (G : Hp) (v : V) : Pc → Prop
  | .p0 p => R0 K G v p
  | .rows nm ps gap lo hi => ∃ a l xs, v = .ref a ∧ SqT K G a [.str "rows", .str nm, .ref l, .str gap, .int lo, .int hi] ∧ SqL K G l xs ∧ Paired (R0 K G) xs ps
theorem R0.mono {K : PySem.W.Frag} {G G' : Hp} {v : V} {p : P0} (h : R0 K G v p) (s : Same G G') : R0 K G' v p := by
  obtain ⟨a, e, t⟩ := h; exact ⟨a, e, s.tup t⟩
theorem Paired.monoP {α β : Type} {F F' : α → β → Prop} {xs : List α} {ys : List β} (h : Paired F xs ys) (f : ∀ a b, F a b → F' a b) : Paired F' xs ys := L2.Paired.mapP h f
theorem RP.mono {K : PySem.W.Frag} {G G' : Hp} {v : V} {p : Pc} (h : RP K G v p) (s : Same G G') : RP K G' v p := by
  cases p with
  | p0 p => exact R0.mono h s
  | rows nm ps gap lo hi =>
    obtain ⟨a, l, xs, e, t, q, r⟩ := h
    exact ⟨a, l, xs, e, s.tup t, s.seq q, Paired.monoP r fun _ _ z => z.mono s⟩
theorem Paired.snoc {α β : Type} {F : α → β → Prop} {xs : List α} {ys : List β} {x : α} {y : β} (h : Paired F xs ys) (z : F x y) : Paired F (xs ++ [x]) (ys ++ [y]) := by
  induction h with
  | nil => exact .cons z .nil
  | cons a b ih => exact .cons a ih
theorem map_range_succ {α : Type} (f : Nat → α) (n : Nat) : (List.range (n + 1)).map f = (List.range n).map f ++ [f n] := by
  rw [List.range_succ, List.map_append]; rfl

/-! ## promises -/
section
variable (K : PySem.W.Frag)
def sp__law_cell_at : Sp := fun vs H Q _ => ∃ (a : Addr) (ns : List Int) (k : Int), vs = [.ref a, .int k] ∧ SqL K H a (ns.map V.int) ∧ 0 ≤ k ∧ Q (.int (cellAt ns k)) H
def sp__law_draw : Sp := fun vs H Q _ => ∃ (a : Addr) (ns : List Int) (k : Int), vs = [.ref a, .int k] ∧ SqL K H a (ns.map V.int) ∧ Q (.int (draw ns k)) H
def sp__law_signs (_ : PySem.W.Frag) : Sp := fun vs H Q _ => ∃ (c : Int), vs = [.int c] ∧ RetV H (.str (pick sgL c)) Q
def sp__law_say (_ : PySem.W.Frag) : Sp := fun vs H Q _ => ∃ (c : Int), vs = [.int c] ∧ RetV H (.str (pick sayL c)) Q
def sp__law_ask : Sp := fun vs H Q _ => ∃ (a : Addr) (ns : List Int) (k : Int) (nm : Str) (most : Int) (G : Hp), vs = [.ref a, .int k, .str nm, .int most] ∧ Same G H ∧ SqL K G a (ns.map V.int) ∧ 0 ≤ most ∧
  Ret G H (fun v G' => R0 K G' v (askP ns k nm most)) Q
def sp__law_inner : Sp := fun vs H Q _ => ∃ (a : Addr) (ns : List Int) (k many most : Int) (G : Hp), vs = [.ref a, .int k, .int many, .int most] ∧ Same G H ∧ SqL K G a (ns.map V.int) ∧ 1 ≤ many ∧ many ≤ 3 ∧ 0 ≤ most ∧
  Ret G H (fun v G' => ∃ l xs, v = .ref l ∧ SqL K G' l xs ∧ Paired (R0 K G') xs (innerP ns k many most)) Q
def sp__law_piece : Sp := fun vs H Q _ => ∃ (a : Addr) (ns : List Int) (k : Int) (nm : Str) (most : Int) (G : Hp), vs = [.ref a, .int k, .str nm, .int most] ∧ Same G H ∧ SqL K G a (ns.map V.int) ∧ 0 ≤ most ∧
  Ret G H (fun v G' => RP K G' v (pieceP ns k nm most)) Q
def sp__law_pieces : Sp := fun vs H Q _ => ∃ (a : Addr) (ns : List Int) (many most : Int) (G : Hp), vs = [.ref a, .int many, .int most] ∧ Same G H ∧ SqL K G a (ns.map V.int) ∧ 1 ≤ many ∧ many ≤ 6 ∧ 0 ≤ most ∧
  Ret G H (fun v G' => ∃ l xs, v = .ref l ∧ SqL K G' l xs ∧ Paired (RP K G') xs (piecesP ns many most)) Q
end
theorem pick_at (l : List Str) (c : Int) {n : Int} (h : (l.length : Int) = n) (h0 : 0 < n := by decide) : atI (l.map V.str) (c % n) = some (.str (pick l c)) := by
  subst h
  have h1 := Int.emod_nonneg c (show (l.length : Int) ≠ 0 by omega)
  have h2 := Int.emod_lt_of_pos c h0
  have hj : (c % (l.length : Int)).toNat < l.length := by omega
  refine at_of (j := (c % (l.length : Int)).toNat) (by omega) ?_
  unfold pick
  rw [List.getElem?_map, List.getElem?_eq_getElem hj, List.getD_eq_getElem?_getD, List.getElem?_eq_getElem hj]
  rfl
end Lf

/-! # LfMir2 -/
set_option Elab.async false
set_option linter.all false
set_option maxRecDepth 100000
set_option maxHeartbeats 4000000
namespace Lf
open PySem L2

/-! ## texts -/
def ofL (l : List Nat) : Str := ⟨l.toArray⟩
theorem ofL_snoc (l : List Nat) (c : Nat) : ofL l ++ (⟨#[c]⟩ : Str) = ofL (l ++ [c]) := by
  show (⟨l.toArray ++ #[c]⟩ : Str) = ⟨(l ++ [c]).toArray⟩
  simp
theorem ofL_len (l : List Nat) : (ofL l).length = l.length := by
  show l.toArray.size = l.length
  simp
theorem str_len_app (a b : Str) : (a ++ b).length = a.length + b.length := by
  show (a.cps ++ b.cps).size = a.cps.size + b.cps.size
  simp
theorem ofL_cps (l : List Nat) : (ofL l).cps.toList = l := by
  show l.toArray.toList = l
  simp
theorem str_ext {a b : Str} (h : a.cps.toList = b.cps.toList) : a = b := by
  cases a; cases b; congr 1; exact Array.ext' h
theorem app_cps (a b : Str) : (a ++ b).cps.toList = a.cps.toList ++ b.cps.toList := by
  show (a.cps ++ b.cps).toList = _
  simp
theorem empty_app (a : Str) : Str.empty ++ a = a := str_ext (by rw [app_cps]; rfl)
def Sgs (t : Str) : Prop := ∀ c ∈ t.cps.toList, c ∈ (("abcdefghijklmnopqrstuvwxyzABCDEFGHIJKLMNOPQRSTUVWXYZ0123456789 .,:;-/()\n" : Str)).cps.toList
def SIGNSs : Str := "abcdefghijklmnopqrstuvwxyzABCDEFGHIJKLMNOPQRSTUVWXYZ0123456789 .,:;-/()\n"
def G_SIGNS (mg : Str → Option Value) : Prop := ∃ t, mg "SIGNS" = some (.str ("abcdefghijklmnopqrstuvwxyzABCDEFGHIJKLMNOPQRSTUVWXYZ0123456789 .,:;-/()\n" : Str) t)

/-! ## forms that are good -/
def ok0 : P0 → Prop
  | .say t => 1 ≤ t.length ∧ t.length ≤ 12 ∧ Sgs t
  | .ask nm sg lo hi => nm ≠ Str.empty ∧ 1 ≤ sg.length ∧ sg.length ≤ 20 ∧ Sgs sg ∧ sg.cps.toList.Nodup ∧ 0 ≤ lo ∧ lo ≤ hi ∧ hi ≤ 4
def nm0 : P0 → Option Str
  | .say _ => none
  | .ask nm _ _ _ => some nm
def nmP : Pc → Option Str
  | .p0 p => nm0 p
  | .rows nm _ _ _ _ => some nm
def nms0 (ps : List P0) : List Str := ps.filterMap nm0
def nms (ps : List Pc) : List Str := ps.filterMap nmP
def okP : Pc → Prop
  | .p0 p => ok0 p
  | .rows nm ips gap lo hi => nm ≠ Str.empty ∧ 1 ≤ ips.length ∧ ips.length ≤ 3 ∧ (∀ p ∈ ips, ok0 p) ∧ (nms0 ips).Nodup ∧ gap.length ≤ 5 ∧ Sgs gap ∧ 0 ≤ lo ∧ lo ≤ hi ∧ hi ≤ 3
structure okF (ps : List Pc) : Prop where
  l1 : 1 ≤ ps.length
  l6 : ps.length ≤ 6
  ok : ∀ p ∈ ps, okP p
  nd : (nms ps).Nodup

/-! ## values -/
inductive Vl where
  | tx (s : Str)
  | rws (rs : List (List (Str × Str)))
def look {α : Type} (n : Str) (l : List (Str × α)) : Option α := (l.find? fun p => decide (p.1 = n)).map (·.2)
def fpiece (f : Str → Str) : P0 → Str
  | .say t => t
  | .ask nm _ _ _ => f nm
def lineP (f : Str → Str) (ps : List P0) : Str := ps.foldl (fun t p => t ++ fpiece f p) Str.empty
def wpiece (f : Str → Str) (g : Str → List (Str → Str)) : Pc → Str
  | .p0 p => fpiece f p
  | .rows nm ips gap _ _ => Txt.join gap ((g nm).map fun r => lineP r ips)
def writtenP (f : Str → Str) (g : Str → List (Str → Str)) (ps : List Pc) : Str := ps.foldl (fun t p => t ++ wpiece f g p) Str.empty
def rowf (r : List (Str × Str)) (n : Str) : Str := (look n r).getD Str.empty
def fv (vals : List (Str × Vl)) (n : Str) : Str := match look n vals with
  | some (.tx s) => s
  | _ => Str.empty
def gv (vals : List (Str × Vl)) (n : Str) : List (Str → Str) := match look n vals with
  | some (.rws rs) => rs.map rowf
  | _ => []
def fit0 (sg : Str) (lo hi : Int) (s : Str) : Prop := lo ≤ s.length ∧ s.length ≤ hi ∧ ∀ c ∈ s.cps.toList, c ∈ sg.cps.toList
def fits0 (r : List (Str × Str)) : P0 → Prop
  | .say _ => True
  | .ask nm sg lo hi => ∃ s, look nm r = some s ∧ fit0 sg lo hi s
def fitsP (vals : List (Str × Vl)) : Pc → Prop
  | .p0 (.say _) => True
  | .p0 (.ask nm sg lo hi) => ∃ s, look nm vals = some (.tx s) ∧ fit0 sg lo hi s
  | .rows nm ips _ lo hi => ∃ rs, look nm vals = some (.rws rs) ∧ lo ≤ rs.length ∧ rs.length ≤ hi ∧ ∀ r ∈ rs, ∀ p ∈ ips, fits0 r p
def wordL (ns : List Int) (k : Int) (sg : Str) (lo hi : Int) : List Nat :=
  (List.range (lo + draw ns k % (hi - lo + 1)).toNat).map fun (j : Nat) => sg.cps.getD (draw ns (k + 1 + j) % (sg.length : Int)).toNat 0
def wordP (ns : List Int) (k : Int) (sg : Str) (lo hi : Int) : Str := ofL (wordL ns k sg lo hi)
def rowEl (ns : List Int) (k : Int) (j : Nat) : Option P0 → Option (Str × Str)
  | some (.ask nm sg lo hi) => some (nm, wordP ns (k + 6 * j) sg lo hi)
  | _ => none
def rowP (ns : List Int) (k : Int) (ps : List P0) : List (Str × Str) := (List.range ps.length).filterMap fun j => rowEl ns k j ps[j]?
def valEl (ns : List Int) (start : Int) (k : Nat) : Option Pc → Option (Str × Vl)
  | some (.p0 (.ask nm sg lo hi)) => some (nm, .tx (wordP ns (start + 90 * k) sg lo hi))
  | some (.rows nm ips _ lo hi) => some (nm, .rws ((List.range (lo + draw ns (start + 90 * k) % (hi - lo + 1)).toNat).map fun (j : Nat) => rowP ns (start + 90 * k + 1 + 25 * j) ips))
  | _ => none
def valuesP (ns : List Int) (start : Int) (ps : List Pc) : List (Str × Vl) := (List.range ps.length).filterMap fun k => valEl ns start k ps[k]?

/-! ## how values lie in the heap -/
def rowK (r : List (Str × Str)) : List (Key × V) := r.map fun p => (Sum.inr p.1, V.str p.2)
def RD (G : Hp) (v : V) (r : List (Str × Str)) : Prop := ∃ d, v = .ref d ∧ G d = some (.dK (rowK r))
def RVl (K : PySem.W.Frag) (G : Hp) (v : V) : Vl → Prop
  | .tx s => v = .str s
  | .rws rs => ∃ l xs, v = .ref l ∧ SqL K G l xs ∧ Paired (RD G) xs rs
def RKv (K : PySem.W.Frag) (G : Hp) (p : Key × V) (q : Str × Vl) : Prop := p.1 = Sum.inr q.1 ∧ RVl K G p.2 q.2
def RV (K : PySem.W.Frag) (G : Hp) (v : V) (vals : List (Str × Vl)) : Prop := ∃ d kvs, v = .ref d ∧ G d = some (.dK kvs) ∧ Paired (RKv K G) kvs vals
theorem RD.mono {G G' : Hp} {v : V} {r : List (Str × Str)} (h : RD G v r) (s : Same G G') : RD G' v r := by
  obtain ⟨d, e, q⟩ := h; exact ⟨d, e, s _ _ q⟩
theorem RVl.mono {K : PySem.W.Frag} {G G' : Hp} {v : V} {vl : Vl} (h : RVl K G v vl) (s : Same G G') : RVl K G' v vl := by
  cases vl with
  | tx t => exact h
  | rws rs => obtain ⟨l, xs, e, q, p⟩ := h; exact ⟨l, xs, e, s.seq q, Paired.monoP p fun _ _ z => z.mono s⟩
theorem RKv.mono {K : PySem.W.Frag} {G G' : Hp} {p : Key × V} {q : Str × Vl} (h : RKv K G p q) (s : Same G G') : RKv K G' p q := ⟨h.1, h.2.mono s⟩
theorem RV.mono {K : PySem.W.Frag} {G G' : Hp} {v : V} {vals : List (Str × Vl)} (h : RV K G v vals) (s : Same G G') : RV K G' v vals := by
  obtain ⟨d, kvs, e, q, p⟩ := h; exact ⟨d, kvs, e, s _ _ q, Paired.monoP p fun _ _ z => z.mono s⟩
theorem val_row (r : List (Str × Str)) (n : Str) : valV (rowK r) (Sum.inr n : Key) = (look n r).map V.str := by
  induction r with
  | nil => rfl
  | cons p r ih =>
    unfold rowK look at *
    rw [List.map_cons]
    by_cases e : p.1 = n
    · rw [valV_pos (by rw [e]), List.find?_cons, decide_eq_true e]; rfl
    · rw [valV_neg (by intro q; exact e (Sum.inr.inj q)), ih, List.find?_cons, decide_eq_false e]
theorem val_RV {K : PySem.W.Frag} {G : Hp} {kvs : List (Key × V)} {vals : List (Str × Vl)} (h : Paired (RKv K G) kvs vals) (n : Str) :
    (∀ vl, look n vals = some vl → ∃ v, valV kvs (Sum.inr n : Key) = some v ∧ RVl K G v vl) ∧ (look n vals = none → valV kvs (Sum.inr n : Key) = none) := by
  induction h with
  | nil => exact ⟨fun _ e => (by cases e), fun _ => rfl⟩
  | @cons p q ps qs z _ ih =>
    obtain ⟨e1, e2⟩ := z
    unfold look at *
    rw [List.find?_cons]
    by_cases e : q.1 = n
    · rw [decide_eq_true e]
      have ek : p.1 = (Sum.inr n : Key) := by rw [e1, e]
      rw [valV_pos ek]
      exact ⟨fun vl h => ⟨p.2, rfl, by cases h; exact e2⟩, fun h => (by cases h)⟩
    · rw [decide_eq_false e]
      have ek : ¬ p.1 = (Sum.inr n : Key) := by rw [e1]; intro q; exact e (Sum.inr.inj q)
      rw [valV_neg ek]
      exact ih

/-! ## what stands in a form -/
/-- a piece, its inner pieces named -/
def RPi (K : PySem.W.Frag) (G : Hp) (v : V) (items : List V) : Pc → Prop
  | .p0 p => R0 K G v p
  | .rows nm ips gap lo hi => ∃ a l, v = .ref a ∧ SqT K G a [.str "rows", .str nm, .ref l, .str gap, .int lo, .int hi] ∧ SqL K G l items ∧ Paired (R0 K G) items ips
theorem RP.items {K : PySem.W.Frag} {G : Hp} {v : V} {p : Pc} (h : RP K G v p) : ∃ items, RPi K G v items p := by
  cases p with
  | p0 p => exact ⟨[], h⟩
  | rows nm ips gap lo hi => obtain ⟨a, l, xs, h1, h2, h3, h4⟩ := h; exact ⟨xs, a, l, h1, h2, h3, h4⟩
theorem RPi.mono {K : PySem.W.Frag} {G G' : Hp} {v : V} {items : List V} {p : Pc} (h : RPi K G v items p) (s : Same G G') : RPi K G' v items p := by
  cases p with
  | p0 p => exact R0.mono h s
  | rows nm ips gap lo hi => obtain ⟨a, l, h1, h2, h3, h4⟩ := h; exact ⟨a, l, h1, s.tup h2, s.seq h3, Paired.monoP h4 fun _ _ z => z.mono s⟩
def CopyR (H H' : Hp) (y z : V) (items : List V) : Pc → Prop
  | .p0 _ => z = y
  | .rows nm _ gap lo hi => ∃ t n, z = .ref t ∧ H t = none ∧ H' t = some (.tup [.str "rows", .str nm, .ref n, .str gap, .int lo, .int hi]) ∧ H n = none ∧ H' n = some (.lst items)
theorem CopyR.mono {H H' H2 : Hp} {y z : V} {items : List V} {p : Pc} (h : CopyR H H' y z items p) (s : Same H' H2) : CopyR H H2 y z items p := by
  cases p with
  | p0 p => exact h
  | rows nm ips gap lo hi =>
    obtain ⟨t, n, h5, h6, h7, h8, h9⟩ := h
    exact ⟨t, n, h5, h6, s _ _ h7, h8, s _ _ h9⟩
/-- the heap without some things -/
def hide (H : Hp) (l : List Addr) : Hp := fun a => if a ∈ l then none else H a
theorem hide_in {H : Hp} {l : List Addr} {a : Addr} (h : a ∈ l) : hide H l a = none := by unfold hide; rw [if_pos h]
theorem hide_out {H : Hp} {l : List Addr} {a : Addr} (h : a ∉ l) : hide H l a = H a := by unfold hide; rw [if_neg h]
theorem hide_same (H : Hp) (l : List Addr) : Same (hide H l) H := fun a o e => by
  by_cases h : a ∈ l
  · rw [hide_in h] at e; cases e
  · rw [hide_out h] at e; exact e
theorem hide_keep {H H' : Hp} (k : Keep H H') (l : List Addr) : Same (hide H l) (hide H' l) := fun a o e => by
  by_cases h : a ∈ l
  · rw [hide_in h] at e; cases e
  · rw [hide_out h] at e ⊢; exact k _ _ e
theorem hide_upd {H : Hp} {l : List Addr} {a : Addr} {o : HO} (h : a ∈ l) : hide (upd H a o) l = hide H l := by
  funext b
  by_cases hb : b ∈ l
  · rw [hide_in hb, hide_in hb]
  · rw [hide_out hb, hide_out hb, upd_ne (show b ≠ a from fun e => hb (by rw [e]; exact h))]
theorem hide_of {G H : Hp} {l : List Addr} (s : Same G H) (n : ∀ a ∈ l, G a = none) : Same G (hide H l) := fun a o e => by
  have : a ∉ l := fun m => by rw [n a m] at e; cases e
  rw [hide_out this]; exact s _ _ e
theorem SqT.hide {K : PySem.W.Frag} {H : Hp} {l : List Addr} {a : Addr} {xs : List V} (h : SqT K H a xs) (hl : ∀ b ∈ l, ∃ ys, H b = some (.lst ys)) : SqT K (hide H l) a xs := by
  rcases h with (h | ⟨o, h⟩) | h
  · refine .inl (.inl ?_)
    rw [hide_out fun m => ?_]; exact h
    obtain ⟨ys, e⟩ := hl a m
    rw [h] at e; cases e
  · refine .inl (.inr ⟨o, ?_⟩)
    rw [hide_out fun m => ?_]; exact h
    obtain ⟨ys, e⟩ := hl a m
    rw [h] at e; cases e
  · exact .inr h
theorem R0.hide {K : PySem.W.Frag} {H : Hp} {l : List Addr} {v : V} {p : P0} (h : R0 K H v p) (hl : ∀ b ∈ l, ∃ ys, H b = some (.lst ys)) : R0 K (hide H l) v p := by
  obtain ⟨a, e, t⟩ := h; exact ⟨a, e, SqT.hide t hl⟩
theorem CopyR.hide {H0 H H' : Hp} {y z : V} {items : List V} {p : Pc} {l : List Addr} (h : CopyR H H' y z items p) (k : Keep H0 H) (hl : ∀ a ∈ l, H a ≠ none) : CopyR H0 (hide H' l) y z items p := by
  cases p with
  | p0 p => exact h
  | rows nm ips gap lo hi =>
    obtain ⟨t, n, h5, h6, h7, h8, h9⟩ := h
    exact ⟨t, n, h5, k.free h6, by rw [hide_out fun m => hl _ m h6]; exact h7, k.free h8, by rw [hide_out fun m => hl _ m h8]; exact h9⟩
def CopyE (K : PySem.W.Frag) (H H' : Hp) (y z : V) (p : Pc) : Prop := ∃ items, RPi K H y items p ∧ CopyR H H' y z items p
theorem CopyE.rp {K : PySem.W.Frag} {H H' : Hp} {y z : V} {p : Pc} (h : CopyE K H H' y z p) (k : Keep H H') : RP K H' z p := by
  obtain ⟨items, h1, h2⟩ := h
  cases p with
  | p0 p => have e : z = y := h2; subst e; exact R0.mono h1 k.same
  | rows nm ips gap lo hi =>
    obtain ⟨a, l, _, _, _, h4⟩ := h1
    obtain ⟨t, n, h5, h6, h7, h8, h9⟩ := h2
    exact ⟨t, n, items, h5, SqT.of h7, SqL.of h9, Paired.monoP h4 fun _ _ z => z.mono k.same⟩
def FormAt (K : PySem.W.Frag) (G : Hp) (x : Addr) (ps : List Pc) : Prop :=
  ∃ C dx f zs, Cls K C ∧ NoAttr K C "pieces" ∧ G x = some (.ins C dx (putF "pieces" (.ref f) [])) ∧ SqL K G f zs ∧ Paired (RP K G) zs ps
theorem FormAt.mono {K : PySem.W.Frag} {G G' : Hp} {x : Addr} {ps : List Pc} (h : FormAt K G x ps) (s : Same G G') : FormAt K G' x ps := by
  obtain ⟨C, dx, f, zs, h1, h2, h3, h4, h5⟩ := h
  exact ⟨C, dx, f, zs, h1, h2, s _ _ h3, s.seq h4, Paired.monoP h5 fun _ _ z => z.mono s⟩
def AsksIn (kvs : List (Key × V)) (f : Str → Str) (ps : List P0) : Prop := ∀ nm sg lo hi, P0.ask nm sg lo hi ∈ ps → valV kvs (Sum.inr nm : Key) = some (.str (f nm))
def AsksFit (f : Str → Str) (ps : List P0) : Prop := ∀ nm sg lo hi, P0.ask nm sg lo hi ∈ ps → fit0 sg lo hi (f nm)

/-! ## lists side by side -/
theorem Paired.at {α β : Type} {F : α → β → Prop} : ∀ {xs : List α} {ys : List β} {i : Nat} {x : α}, Paired F xs ys → xs[i]? = some x → ∃ y, ys[i]? = some y ∧ F x y
  | _, _, _, _, .nil, e => by simp at e
  | _, _, 0, _, .cons r _, e => by simp at e; subst e; exact ⟨_, rfl, r⟩
  | _, _, i + 1, x, .cons _ t, e => by
    obtain ⟨u, h1, h2⟩ := Paired.at (i := i) (x := x) t (by simpa using e)
    exact ⟨u, by simpa using h1, h2⟩
theorem Paired.ats {α β : Type} {F : α → β → Prop} : ∀ {xs : List α} {ys : List β} {i : Nat} {y : β}, Paired F xs ys → ys[i]? = some y → ∃ x, xs[i]? = some x ∧ F x y
  | _, _, _, _, .nil, e => by simp at e
  | _, _, 0, _, .cons r _, e => by simp at e; subst e; exact ⟨_, rfl, r⟩
  | _, _, i + 1, y, .cons _ t, e => by
    obtain ⟨u, h1, h2⟩ := Paired.ats (i := i) (y := y) t (by simpa using e)
    exact ⟨u, by simpa using h1, h2⟩
theorem Paired.len {α β : Type} {F : α → β → Prop} {xs : List α} {ys : List β} (h : Paired F xs ys) : xs.length = ys.length := PySem.Paired.length h
theorem Paired.of_at {α β : Type} {F : α → β → Prop} : ∀ {xs : List α} {ys : List β}, xs.length = ys.length → (∀ (i : Nat) x y, xs[i]? = some x → ys[i]? = some y → F x y) → Paired F xs ys
  | [], [], _, _ => .nil
  | x :: xs, y :: ys, h, f => .cons (f 0 x y rfl rfl) (Paired.of_at (by simpa using h) fun i a b h1 h2 => f (i + 1) a b (by simpa using h1) (by simpa using h2))
  | [], _ :: _, h, _ => by simp at h
  | _ :: _, [], h, _ => by simp at h
theorem take_snoc {α : Type} {l : List α} {i : Nat} {x : α} (h : l[i]? = some x) : l.take (i + 1) = l.take i ++ [x] := by
  rw [List.take_succ, h]; rfl
theorem lineP_snoc (f : Str → Str) {ps : List P0} {i : Nat} {p : P0} (h : ps[i]? = some p) : lineP f (ps.take (i + 1)) = lineP f (ps.take i) ++ fpiece f p := by
  unfold lineP; rw [take_snoc h, List.foldl_append]; rfl
theorem writtenP_snoc (f : Str → Str) (g : Str → List (Str → Str)) {ps : List Pc} {i : Nat} {p : Pc} (h : ps[i]? = some p) : writtenP f g (ps.take (i + 1)) = writtenP f g (ps.take i) ++ wpiece f g p := by
  unfold writtenP; rw [take_snoc h, List.foldl_append]; rfl
theorem mem_at {α : Type} {l : List α} {i : Nat} {x : α} (h : l[i]? = some x) : x ∈ l := List.mem_of_getElem? h
theorem at_lt {α : Type} {l : List α} {i : Nat} {x : α} (h : l[i]? = some x) : i < l.length := (List.getElem?_eq_some_iff.mp h).1
theorem fpiece_le {f : Str → Str} {p : P0} (h : ok0 p) (hf : ∀ nm sg lo hi, p = .ask nm sg lo hi → fit0 sg lo hi (f nm)) : (fpiece f p).length ≤ 12 := by
  cases p with
  | say t => exact h.2.1
  | ask nm sg lo hi =>
    have a := (hf nm sg lo hi rfl).2.1
    obtain ⟨_, _, _, _, _, _, _, b⟩ := h
    show (f nm).length ≤ 12
    omega
theorem lineP_le {f : Str → Str} : ∀ {ps : List P0}, (∀ p ∈ ps, (fpiece f p).length ≤ 12) → ∀ i, (lineP f (ps.take i)).length ≤ 12 * i
  | ps, h, 0 => Nat.le_refl _
  | ps, h, i + 1 => by
    have ih := lineP_le h i
    cases e : ps[i]? with
    | none => rw [List.take_succ, e]; simp; omega
    | some p => rw [lineP_snoc f e, str_len_app]; have := h p (mem_at e); omega
theorem lineP_len {f : Str → Str} {ps : List P0} (h : ∀ p ∈ ps, ok0 p) (hf : AsksFit f ps) (i : Nat) : (lineP f (ps.take i)).length ≤ 12 * i :=
  lineP_le (fun p hp => fpiece_le (h p hp) fun nm sg lo hi e => hf nm sg lo hi (e ▸ hp)) i
theorem lineP_all {f : Str → Str} {ps : List P0} (h : ∀ p ∈ ps, ok0 p) (hf : AsksFit f ps) : (lineP f ps).length ≤ 12 * ps.length := by
  have := lineP_len h hf ps.length
  rwa [List.take_length] at this

/-! ## promises -/
section
variable (K : PySem.W.Frag)
def sp__law_word : Sp := fun vs H Q _ => ∃ (a : Addr) (ns : List Int) (k : Int) (p : Addr) (nm sg : Str) (lo hi : Int), vs = [.ref a, .int k, .ref p] ∧ SqL K H a (ns.map V.int) ∧ SqT K H p (P0.ask nm sg lo hi).vs ∧
  1 ≤ sg.length ∧ sg.length ≤ 20 ∧ 0 ≤ lo ∧ lo ≤ hi ∧ hi ≤ 4 ∧ Q (.str (wordP ns k sg lo hi)) H
def sp__law_row : Sp := fun vs H Q _ => ∃ (a : Addr) (ns : List Int) (k : Int) (l : Addr) (xs : List V) (ps : List P0) (G : Hp), vs = [.ref a, .int k, .ref l] ∧ Same G H ∧ SqL K G a (ns.map V.int) ∧ SqL K G l xs ∧ Paired (R0 K G) xs ps ∧
  (∀ p ∈ ps, ok0 p) ∧ (nms0 ps).Nodup ∧ ps.length ≤ 100 ∧ Ret G H (fun v G' => RD G' v (rowP ns k ps)) Q
def sp__law_values : Sp := fun vs H Q _ => ∃ (a : Addr) (ns : List Int) (start : Int) (l : Addr) (xs : List V) (ps : List Pc) (G : Hp), vs = [.ref a, .int start, .ref l] ∧ Same G H ∧ SqL K G a (ns.map V.int) ∧ SqL K G l xs ∧ Paired (RP K G) xs ps ∧
  okF ps ∧ Ret G H (fun v G' => RV K G' v (valuesP ns start ps)) Q
def sp__law_line : Sp := fun vs H Q _ => ∃ (l : Addr) (xs : List V) (ps : List P0) (d : Addr) (kvs : List (Key × V)) (f : Str → Str), vs = [.ref l, .ref d] ∧ SqL K H l xs ∧ Paired (R0 K H) xs ps ∧ Rd H d (.dK kvs) ∧ AsksIn kvs f ps ∧
  ps.length ≤ 6 ∧ (∀ p ∈ ps, ok0 p) ∧ AsksFit f ps ∧ Q (.str (lineP f ps)) H
def sp__law_written : Sp := fun vs H Q _ => ∃ (l : Addr) (xs : List V) (ps : List Pc) (v : V) (vals : List (Str × Vl)), vs = [.ref l, v] ∧ SqL K H l xs ∧ Paired (RP K H) xs ps ∧ RV K H v vals ∧
  ps.length ≤ 6 ∧ (∀ p ∈ ps, okP p ∧ fitsP vals p) ∧ RetV H (.str (writtenP (fv vals) (gv vals) ps)) Q
def sp_ask_text (_ : PySem.W.Frag) : Sp := fun vs H Q _ => ∃ (t : Str) (lo hi : Int), vs = [.str t, .int lo, .int hi] ∧ lo ≤ t.length ∧ t.length ≤ hi ∧ hi ≤ 100 ∧ Sgs t ∧ Q .non H
def sp_ask_count (_ : PySem.W.Frag) : Sp := fun vs H Q _ => ∃ (a b c : Int), vs = [.int a, .int b, .int c] ∧ 0 ≤ a ∧ a ≤ b ∧ b ≤ c ∧ Q .non H
def sp_look_at_piece : Sp := fun vs H Q _ => ∃ (a nl : Addr) (p : P0) (ns : List Str) (G : Hp), vs = [.ref a, .ref nl] ∧ Same G H ∧ G nl = none ∧ SqT K G a p.vs ∧ H nl = some (.lst (ns.map V.str)) ∧ ns.length ≤ 100 ∧ ok0 p ∧
  (∀ n, nm0 p = some n → n ∉ ns) ∧ ∀ H', (∀ b, b ≠ nl → H' b = H b) → H' nl = some (.lst ((ns ++ nms0 [p]).map V.str)) → Q .non H'
def sp_look_at_rows : Sp := fun vs H Q _ => ∃ (a nl : Addr) (nm : Str) (ips : List P0) (gap : Str) (lo hi : Int) (ns : List Str) (G : Hp), vs = [.ref a, .ref nl] ∧ Same G H ∧ G nl = none ∧ RP K G (.ref a) (.rows nm ips gap lo hi) ∧
  H nl = some (.lst (ns.map V.str)) ∧ ns.length ≤ 100 ∧ okP (.rows nm ips gap lo hi) ∧ nm ∉ ns ∧
  ∀ H', (∀ b o, b ≠ nl → H b = some o → H' b = some o) → H' nl = some (.lst ((ns ++ [nm]).map V.str)) → Q .non H'
def sp_copied : Sp := fun vs H Q _ => ∃ (v : V) (items : List V) (p : Pc), vs = [v] ∧ RPi K H v items p ∧ ∀ z H', Keep H H' → CopyR H H' v z items p → Q z H'
def sp_Form___init__ : Sp := fun vs H Q _ => ∃ (x dx C h : Addr) (ys : List V) (ps : List Pc) (H0 : Hp), vs = [.ref x, .ref h] ∧ H0 x = none ∧ H0 dx = none ∧ dx ≠ x ∧ H = upd (upd H0 dx (.own x)) x (.ins C dx []) ∧
  Cls K C ∧ NoAttr K C "pieces" ∧ SqL K H0 h ys ∧ Paired (RP K H0) ys ps ∧ okF ps ∧
  ∀ f zs H', Keep H0 H' → H' x = some (.ins C dx (putF "pieces" (.ref f) [])) → H0 f = none → H' f = some (.lst zs) → zs.length = ys.length →
    (∀ (i : Nat) y z p, ys[i]? = some y → zs[i]? = some z → ps[i]? = some p → CopyE K H0 H' y z p) → Q .non H'
def sp_names_of : Sp := fun vs H Q _ => ∃ (x : Addr) (ps : List Pc), vs = [.ref x] ∧ FormAt K H x ps ∧ ps.length ≤ 6 ∧ ∀ l H', Keep H H' → H l = none → H' l = some (.lst ((nms ps).map V.str)) → Q (.ref l) H'
def sp_ask_value : Sp := fun vs H Q _ => ∃ (a d : Addr) (nm sg : Str) (lo hi : Int) (kvs : List (Key × V)) (s : Str), vs = [.ref a, .ref d] ∧ SqT K H a (P0.ask nm sg lo hi).vs ∧ Rd H d (.dK kvs) ∧ valV kvs (Sum.inr nm : Key) = some (.str s) ∧
  fit0 sg lo hi s ∧ hi ≤ 100 ∧ Q (.str s) H
def sp_filled0 : Sp := fun vs H Q _ => ∃ (l : Addr) (xs : List V) (ps : List P0) (d : Addr) (kvs : List (Key × V)) (f : Str → Str), vs = [.ref l, .ref d] ∧ SqL K H l xs ∧ Paired (R0 K H) xs ps ∧ Rd H d (.dK kvs) ∧ AsksIn kvs f ps ∧
  ps.length ≤ 6 ∧ (∀ p ∈ ps, ok0 p) ∧ AsksFit f ps ∧ Q (.str (lineP f ps)) H
def sp_rows_filled : Sp := fun vs H Q _ => ∃ (a d : Addr) (nm : Str) (ips : List P0) (gap : Str) (lo hi : Int) (kvs : List (Key × V)) (rv : V) (rs : List (List (Str × Str))), vs = [.ref a, .ref d] ∧ RP K H (.ref a) (.rows nm ips gap lo hi) ∧
  Rd H d (.dK kvs) ∧ valV kvs (Sum.inr nm : Key) = some rv ∧ RVl K H rv (.rws rs) ∧ okP (.rows nm ips gap lo hi) ∧ lo ≤ rs.length ∧ rs.length ≤ hi ∧ (∀ r ∈ rs, ∀ p ∈ ips, fits0 r p) ∧
  RetV H (.str (Txt.join gap (rs.map fun r => lineP (rowf r) ips))) Q
def sp_filled : Sp := fun vs H Q _ => ∃ (l : Addr) (xs : List V) (ps : List Pc) (v : V) (vals : List (Str × Vl)), vs = [.ref l, v] ∧ SqL K H l xs ∧ Paired (RP K H) xs ps ∧ RV K H v vals ∧
  ps.length ≤ 6 ∧ (∀ p ∈ ps, okP p ∧ fitsP vals p) ∧ RetV H (.str (writtenP (fv vals) (gv vals) ps)) Q
def sp_fill : Sp := fun vs H Q _ => ∃ (x : Addr) (ps : List Pc) (v : V) (vals : List (Str × Vl)), vs = [.ref x, v] ∧ FormAt K H x ps ∧ RV K H v vals ∧
  ps.length ≤ 6 ∧ (∀ p ∈ ps, okP p ∧ fitsP vals p) ∧ RetV H (.str (writtenP (fv vals) (gv vals) ps)) Q
end
end Lf
namespace Lf
open PySem L2
/-- a class whose instances hold pieces -/
def CF (K : PySem.W.Frag) (C : Addr) : Prop := Cls K C ∧ NoAttr K C "pieces"
def sp_law (K : PySem.W.Frag) : Sp := fun vs H Q _ => ∃ (a : Addr) (ns : List Int), vs = [.ref a] ∧ SqL K H a (ns.map V.int) ∧ ∀ H', Q (.bl true) H'
end Lf

/-! # LfRd -/
set_option Elab.async false
set_option linter.all false
set_option maxRecDepth 100000
set_option maxHeartbeats 4000000
namespace Lf
open PySem L2
/-! ## small helps for the readings -/
theorem at_gen {α : Type} {xs : List α} {z : Int} {j : Nat} {v : α} (e : z = (j : Int)) (h : xs[j]? = some v) : atI xs z = some v := by rw [e]; exact atI_nat h
theorem dget_s {H : Hp} {a : Addr} {kvs : List (Key × V)} {nm : Str} {r : Option V} (e : Rd H a (.dK kvs)) (h : valV kvs (Sum.inr nm : Key) = r) : DGet H a (.str nm) r := .inl ⟨kvs, Sum.inr nm, e, rfl, h.symm⟩
theorem dget_i {H : Hp} {a : Addr} {kvs : List (Key × V)} {n : Int} {r : Option V} (e : Rd H a (.dK kvs)) (h : valV kvs (Sum.inl n : Key) = r) : DGet H a (.int n) r := .inl ⟨kvs, Sum.inl n, e, rfl, h.symm⟩
theorem dput_s {H : Hp} {a : Addr} {kvs : List (Key × V)} {nm : Str} {v : V} (e : H a = some (.dK kvs)) (hl : kvs.length < sizeLine) : DPut H a (.str nm) v (upd H a (.dK (putK kvs (Sum.inr nm) v))) := .inl ⟨kvs, Sum.inr nm, e, rfl, hl, rfl⟩
theorem iteEq {A B : Prop} {x : V} (h : A) : if decide (x = x) = true then A else B := by rw [decide_eq_true rfl]; exact iteT h
theorem iteNe {A B : Prop} {x y : V} (hne : x ≠ y) (h : B) : if decide (x = y) = true then A else B := by rw [decide_eq_false hne]; exact iteF h
theorem iteEqN {A B : Prop} {x : V} (h : B) : if (!decide (x = x)) = true then A else B := by rw [decide_eq_true rfl]; exact iteF h
theorem iteNeN {A B : Prop} {x y : V} (hne : x ≠ y) (h : A) : if (!decide (x = y)) = true then A else B := by rw [decide_eq_false hne]; exact iteT h
theorem ask_say : (V.str "ask") ≠ V.str "say" := by decide +kernel
theorem rows_say : (V.str "rows") ≠ V.str "say" := by decide +kernel
theorem say_ask : (V.str "say") ≠ V.str "ask" := by decide +kernel
theorem rows_ask : (V.str "rows") ≠ V.str "ask" := by decide +kernel
theorem say_rows : (V.str "say") ≠ V.str "rows" := by decide +kernel
theorem ask_rows : (V.str "ask") ≠ V.str "rows" := by decide +kernel
theorem iteDT {A B : Prop} {p : Prop} [Decidable p] (hp : p) (h : A) : if decide p = true then A else B := by rw [decide_eq_true hp]; exact iteT h
theorem iteDF {A B : Prop} {p : Prop} [Decidable p] (hp : ¬ p) (h : B) : if decide p = true then A else B := by rw [decide_eq_false hp]; exact iteF h
theorem iteNT {A B : Prop} {b : Bool} (hb : b = true) (h : B) : if (!b) = true then A else B := by subst hb; exact iteF h
theorem iteNF {A B : Prop} {b : Bool} (hb : b = false) (h : A) : if (!b) = true then A else B := by subst hb; exact iteT h
theorem iteBT {A B : Prop} {b : Bool} (hb : b = true) (h : A) : if b = true then A else B := by subst hb; exact iteT h
theorem iteBF {A B : Prop} {b : Bool} (hb : b = false) (h : B) : if b = true then A else B := by subst hb; exact iteF h
theorem look_keys {α : Type} (n : Str) (l : List (Str × α)) : look n l = none ↔ n ∉ l.map (·.1) := by
  induction l with
  | nil => simp [look]
  | cons p r ih =>
    unfold look at *
    rw [List.find?_cons]
    by_cases e : p.1 = n
    · rw [decide_eq_true e]; simp [e]
    · rw [decide_eq_false e, ih, List.map_cons, List.mem_cons, not_or]
      exact ⟨fun h => ⟨fun q => e q.symm, h⟩, fun h => h.2⟩
theorem rowK_snoc (r : List (Str × Str)) (nm w : Str) : rowK (r ++ [(nm, w)]) = rowK r ++ [(Sum.inr nm, V.str w)] := by unfold rowK; rw [List.map_append]; rfl
theorem putK_row {r : List (Str × Str)} {nm w : Str} (h : look nm r = none) : putK (rowK r) (Sum.inr nm : Key) (V.str w) = rowK (r ++ [(nm, w)]) := by
  rw [putK_new _ (by rw [val_row, h]; rfl), rowK_snoc]
theorem filterMap_range_succ {α : Type} (f : Nat → Option α) (n : Nat) : (List.range (n + 1)).filterMap f = (List.range n).filterMap f ++ (f n).toList := by
  rw [List.range_succ, List.filterMap_append]
  cases h : f n <;> simp [h]
theorem nms0_take (ps : List P0) {i : Nat} {p : P0} (h : ps[i]? = some p) : nms0 (ps.take (i + 1)) = nms0 (ps.take i) ++ (nm0 p).toList := by
  unfold nms0; rw [take_snoc h, List.filterMap_append]
  cases e : nm0 p <;> simp [e]
theorem nms_take (ps : List Pc) {i : Nat} {p : Pc} (h : ps[i]? = some p) : nms (ps.take (i + 1)) = nms (ps.take i) ++ (nmP p).toList := by
  unfold nms; rw [take_snoc h, List.filterMap_append]
  cases e : nmP p <;> simp [e]
theorem take_sub {α : Type} (l : List α) (i : Nat) : (l.take i).Sublist l := List.take_sublist i l
theorem nm0_new {ps : List P0} {i : Nat} {p : P0} {n : Str} (nd : (nms0 ps).Nodup) (h : ps[i]? = some p) (hn : nm0 p = some n) : n ∉ nms0 (ps.take i) := by
  have e := nms0_take ps h
  rw [hn] at e
  have s : (nms0 (ps.take (i + 1))).Nodup := nd.sublist ((take_sub ps (i + 1)).filterMap nm0)
  rw [e] at s
  have := (List.nodup_append.mp s).2.2
  intro m
  exact this n m n (by simp) rfl
theorem nm_new {ps : List Pc} {i : Nat} {p : Pc} {n : Str} (nd : (nms ps).Nodup) (h : ps[i]? = some p) (hn : nmP p = some n) : n ∉ nms (ps.take i) := by
  have e := nms_take ps h
  rw [hn] at e
  have s : (nms (ps.take (i + 1))).Nodup := nd.sublist ((take_sub ps (i + 1)).filterMap nmP)
  rw [e] at s
  have := (List.nodup_append.mp s).2.2
  intro m
  exact this n m n (by simp) rfl
theorem row_keys (ns : List Int) (k : Int) (ps : List P0) : ∀ i, i ≤ ps.length → ((List.range i).filterMap fun j => rowEl ns k j ps[j]?).map (·.1) = nms0 (ps.take i)
  | 0, _ => rfl
  | i + 1, h => by
    have hi : i < ps.length := h
    have e : ps[i]? = some ps[i] := List.getElem?_eq_getElem hi
    rw [filterMap_range_succ, List.map_append, row_keys ns k ps i (Nat.le_of_lt hi), nms0_take ps e, e]
    cases ps[i] <;> rfl
theorem val_keys (ns : List Int) (s : Int) (ps : List Pc) : ∀ i, i ≤ ps.length → ((List.range i).filterMap fun k => valEl ns s k ps[k]?).map (·.1) = nms (ps.take i)
  | 0, _ => rfl
  | i + 1, h => by
    have hi : i < ps.length := h
    have e : ps[i]? = some ps[i] := List.getElem?_eq_getElem hi
    rw [filterMap_range_succ, List.map_append, val_keys ns s ps i (Nat.le_of_lt hi), nms_take ps e, e]
    cases q : ps[i] with
    | p0 p => cases p <;> rfl
    | rows => rfl
theorem wordL_sz (ns : List Int) (k : Int) (sg : Str) (lo hi : Int) : (wordL ns k sg lo hi).length = (lo + draw ns k % (hi - lo + 1)).toNat := by
  unfold wordL; rw [List.length_map, List.length_range]
theorem word_size {ns : List Int} {k : Int} {lo hi : Int} (h0 : 0 ≤ lo) (h : lo ≤ hi) : lo ≤ lo + draw ns k % (hi - lo + 1) ∧ lo + draw ns k % (hi - lo + 1) ≤ hi := by
  have h1 := Int.emod_nonneg (draw ns k) (show hi - lo + 1 ≠ 0 by omega)
  have h2 := Int.emod_lt_of_pos (draw ns k) (show 0 < hi - lo + 1 by omega)
  omega
theorem small_line {n : Nat} (h : n ≤ 100000) : n ≤ sizeLine := Nat.le_trans h (by decide)

/-! ## sizes of what is written -/
theorem row_fits {r : List (Str × Str)} {ips : List P0} (h : ∀ p ∈ ips, fits0 r p) : AsksFit (rowf r) ips ∧ AsksIn (rowK r) (rowf r) ips := by
  refine ⟨fun nm sg lo hi hp => ?_, fun nm sg lo hi hp => ?_⟩
  · obtain ⟨s, e, f⟩ := h _ hp
    unfold rowf; rw [e]; exact f
  · obtain ⟨s, e, f⟩ := h _ hp
    rw [val_row, e]; unfold rowf; rw [e]; rfl
theorem sum_le_of {n : Nat} : ∀ {l : List Nat}, (∀ x ∈ l, x ≤ n) → l.sum ≤ n * l.length
  | [], _ => by simp
  | a :: r, h => by
    have ih := sum_le_of (n := n) (l := r) fun x hx => h x (List.mem_cons_of_mem _ hx)
    have := h a List.mem_cons_self
    rw [List.sum_cons, List.length_cons, Nat.mul_succ]; omega
theorem join_le {gap : Str} {ts : List Str} (h : ∀ t ∈ ts, t.length ≤ 36) (hn : ts.length ≤ 3) (hg : gap.length ≤ 5) :
    (ts.map (·.length)).sum + ts.length * gap.length ≤ 123 ∧ (Txt.join gap ts).length ≤ 123 := by
  have h1 : (ts.map (·.length)).sum ≤ 36 * (ts.map (·.length)).length := sum_le_of fun x hx => by
    obtain ⟨t, ht, rfl⟩ := List.mem_map.mp hx; exact h t ht
  rw [List.length_map] at h1
  have h2 : ts.length * gap.length ≤ 3 * 5 := Nat.mul_le_mul hn hg
  have h3 := StrLaws.join_length_le gap ts
  have h4 : Txt.join gap ts = Str.join gap ts := StrLaws.glued_eq_join gap ts
  rw [h4]
  omega
theorem rows_lines_le {ips : List P0} {rs : List (List (Str × Str))} (ok : ∀ p ∈ ips, ok0 p) (l3 : ips.length ≤ 3) (hf : ∀ r ∈ rs, ∀ p ∈ ips, fits0 r p) : ∀ t ∈ rs.map (fun r => lineP (rowf r) ips), t.length ≤ 36 := fun t ht => by
  obtain ⟨r, hr, rfl⟩ := List.mem_map.mp ht
  have := lineP_all ok (row_fits (hf r hr)).1
  omega
theorem gv_rows {vals : List (Str × Vl)} {nm : Str} {rs : List (List (Str × Str))} (h : look nm vals = some (.rws rs)) (ips : List P0) : (gv vals nm).map (fun r => lineP r ips) = rs.map fun r => lineP (rowf r) ips := by
  unfold gv; rw [h]; simp
theorem fv_tx {vals : List (Str × Vl)} {nm s : Str} (h : look nm vals = some (.tx s)) : fv vals nm = s := by unfold fv; rw [h]
theorem wpiece_le {vals : List (Str × Vl)} {p : Pc} (ok : okP p) (hf : fitsP vals p) : (wpiece (fv vals) (gv vals) p).length ≤ 123 := by
  cases p with
  | p0 p =>
    cases p with
    | say t => have := ok.2.1; show t.length ≤ 123; omega
    | ask nm sg lo hi =>
      obtain ⟨s, e, f⟩ := hf
      obtain ⟨_, _, _, _, _, _, _, h4⟩ := ok
      show (fv vals nm).length ≤ 123
      rw [fv_tx e]
      have := f.2.1
      omega
  | rows nm ips gap lo hi =>
    obtain ⟨rs, e, f1, f2, f3⟩ := hf
    obtain ⟨_, _, l3, ok, _, g5, _, _, _, h3⟩ := ok
    show (Txt.join gap ((gv vals nm).map fun r => lineP r ips)).length ≤ 123
    rw [gv_rows e]
    exact (join_le (rows_lines_le ok l3 f3) (by rw [List.length_map]; omega) g5).2
theorem writtenP_len {vals : List (Str × Vl)} : ∀ {ps : List Pc}, (∀ p ∈ ps, okP p ∧ fitsP vals p) → ∀ i, (writtenP (fv vals) (gv vals) (ps.take i)).length ≤ 123 * i
  | ps, h, 0 => Nat.le_refl _
  | ps, h, i + 1 => by
    have ih := writtenP_len h i
    cases e : ps[i]? with
    | none => rw [List.take_succ, e]; simp; omega
    | some p => rw [writtenP_snoc _ _ e, str_len_app]; have := wpiece_le (h p (mem_at e)).1 (h p (mem_at e)).2; omega
theorem map_take_succ {α β : Type} (f : α → β) {l : List α} {i : Nat} {x : α} (h : l[i]? = some x) : (l.take (i + 1)).map f = (l.take i).map f ++ [f x] := by rw [take_snoc h, List.map_append]; rfl
theorem lineP_one (f : Str → Str) (p : P0) : lineP f [p] = fpiece f p := empty_app _
theorem look_fit {vals : List (Str × Vl)} {K : PySem.W.Frag} {G : Hp} {kvs : List (Key × V)} (h : Paired (RKv K G) kvs vals) {p : P0} (hf : fitsP vals (.p0 p)) : AsksIn kvs (fv vals) [p] ∧ AsksFit (fv vals) [p] := by
  cases p with
  | say t => exact ⟨fun nm sg lo hi hp => by simp at hp, fun nm sg lo hi hp => by simp at hp⟩
  | ask nm0 sg0 lo0 hi0 =>
    obtain ⟨s, e, f⟩ := hf
    obtain ⟨v, e2, r⟩ := (val_RV h nm0).1 _ e
    have ev : v = .str s := r
    refine ⟨fun nm sg lo hi hp => ?_, fun nm sg lo hi hp => ?_⟩
    · simp at hp; obtain ⟨rfl, rfl, rfl, rfl⟩ := hp; rw [e2, ev, fv_tx e]
    · simp at hp; obtain ⟨rfl, rfl, rfl, rfl⟩ := hp; rw [fv_tx e]; exact f

/-! ## signs that differ -/
theorem ddS_nodup (l : List Str) (h : l.Nodup) : ddS l = l := by
  have all : ∀ (l acc : List Str), (acc ++ l).Nodup → l.foldl dd1 acc = acc ++ l := by
    intro l
    induction l with
    | nil => intro acc _; simp
    | cons a r ih =>
      intro acc hn
      have hna : acc.any (· == a) = false := by
        rw [Bool.eq_false_iff]
        intro q
        obtain ⟨b, hb, e⟩ := List.any_eq_true.mp q
        have e' : b = a := by simpa using e
        subst e'
        have := (List.nodup_append.mp hn).2.2 b hb b (by simp)
        exact this rfl
      rw [List.foldl_cons]
      have e1 : dd1 acc a = acc ++ [a] := by unfold dd1; rw [hna]; rfl
      rw [e1, ih (acc ++ [a]) (by rw [List.append_assoc]; exact hn), List.append_assoc]
      rfl
  exact all l [] (by simpa using h)
theorem signs_map (z : Str) : (List.range z.cps.size).map (fun i => (⟨#[z.cps.getD i 0]⟩ : Str)) = z.cps.toList.map fun c => (⟨#[c]⟩ : Str) := by
  apply List.ext_getElem?
  intro i
  rw [List.getElem?_map, List.getElem?_map]
  by_cases hi : i < z.cps.size
  · rw [List.getElem?_range hi, Array.getElem?_toList, Array.getElem?_eq_getElem hi]
    show some (⟨#[z.cps.getD i 0]⟩ : Str) = some ⟨#[z.cps[i]]⟩
    rw [Array.getD_eq_getD_getElem?, Array.getElem?_eq_getElem hi]; rfl
  · rw [List.getElem?_eq_none (by simpa using hi), List.getElem?_eq_none (by simpa using hi)]; rfl
theorem one_inj {a b : Nat} (h : (⟨#[a]⟩ : Str) = ⟨#[b]⟩) : a = b := by
  have : #[a] = #[b] := congrArg Str.cps h
  simpa using this
theorem nodup_map_inj {α β : Type} {f : α → β} (hf : ∀ a b, f a = f b → a = b) : ∀ {l : List α}, l.Nodup → (l.map f).Nodup
  | [], _ => List.nodup_nil
  | a :: r, h => by
    rw [List.map_cons, List.nodup_cons]
    obtain ⟨h1, h2⟩ := List.nodup_cons.mp h
    refine ⟨fun m => ?_, nodup_map_inj hf h2⟩
    obtain ⟨b, hb, e⟩ := List.mem_map.mp m
    have := hf _ _ e
    subst this
    exact h1 hb
theorem dd_signs {z : Str} (h : z.cps.toList.Nodup) : (ddAt (fun i => (⟨#[z.cps.getD i 0]⟩ : Str)) z.cps.size).length = z.length := by
  unfold ddAt
  rw [signs_map, ddS_nodup _ (nodup_map_inj (fun _ _ => one_inj) h), List.length_map]
  exact Array.length_toList
theorem inV_strs {n : Str} : ∀ {ns : List Str}, inV (.str n) (ns.map V.str) = decide (n ∈ ns)
  | [] => by simp [inV]
  | m :: r => by
    have ih := inV_strs (n := n) (ns := r)
    rw [List.map_cons]
    unfold inV at *
    simp only [List.any_cons, ih, List.mem_cons]
    by_cases e : n = m
    · subst e; simp [eqV]
    · have e' : ¬ m = n := fun q => e q.symm
      simp [eqV, e, e']
theorem flat_strs (ns : List Str) : (ns.map V.str).all flatV = true := by
  rw [List.all_eq_true]
  intro x hx
  obtain ⟨n, _, rfl⟩ := List.mem_map.mp hx
  rfl
theorem empty_lit : (("" : Str)) = Str.empty := by decide +kernel
theorem str_ne_empty {n : Str} (h : n ≠ Str.empty) : V.str n ≠ V.str "" := fun q => h (by rw [← empty_lit]; exact V.str.inj q)
theorem nat_int_ne {a b : Nat} (h : a = b) : ¬ (V.int (a : Int) ≠ V.int (b : Int)) := by subst h; simp
end Lf

/-! # LfEqP -/
set_option Elab.async false
set_option linter.all false
set_option maxRecDepth 100000
set_option maxHeartbeats 4000000
namespace Lf
open PySem L2
/-! ## == of data without dicts, whatever the texts -/
def rEqP (K : PySem.W.Frag) : R2 := fun x y H Q => ∃ d e : PyData, Dp K H x d ∧ Dp K H y e ∧ d.plain = true ∧ e.plain = true ∧ d.depth ≤ 60 ∧ Q (.bl (PyData.eqv d e)) H
def rNeP (K : PySem.W.Frag) : R2 := fun x y H Q => ∃ d e : PyData, Dp K H x d ∧ Dp K H y e ∧ d.plain = true ∧ e.plain = true ∧ d.depth ≤ 60 ∧ Q (.bl (!PyData.eqv d e)) H
section
variable {X : Cx}
theorem op_eqP {K : PySem.W.Frag} (h : X.K = K) (hu : X.A.units + 64 < cLine) : OpR X (compareOp .Eq) (rEqP K) := by
  subst h
  intro pins s σ H x y v u Q I rx ry h
  obtain ⟨d, e, hd, he, sd, se, dd, q⟩ := h
  obtain ⟨as, r1⟩ := Dp.reads I d x v hd rx
  obtain ⟨bs, r2⟩ := Dp.reads I e y u he ry
  exact SeqAt.eq_plain r1 r2 sd se (by omega) ⟨.bl _, H, I, rfl, q⟩
theorem op_neP {K : PySem.W.Frag} (h : X.K = K) (hu : X.A.units + 64 < cLine) : OpR X (compareOp .NotEq) (rNeP K) := by
  subst h
  intro pins s σ H x y v u Q I rx ry h
  obtain ⟨d, e, hd, he, sd, se, dd, q⟩ := h
  obtain ⟨as, r1⟩ := Dp.reads I d x v hd rx
  obtain ⟨bs, r2⟩ := Dp.reads I e y u he ry
  exact SeqAt.ne_plain r1 r2 sd se (by omega) ⟨.bl _, H, I, rfl, q⟩
end
def P0.dt : P0 → PyData
  | .say t => .tuple [.str "say", .str t]
  | .ask nm sg lo hi => .tuple [.str "ask", .str nm, .str sg, .int lo, .int hi]
def Pc.dt : Pc → PyData
  | .p0 p => p.dt
  | .rows nm ps gap lo hi => .tuple [.str "rows", .str nm, .list (ps.map P0.dt), .str gap, .int lo, .int hi]
theorem dp_all {α : Type} {K : PySem.W.Frag} {G : Hp} {f : α → PyData} {F : V → α → Prop} (h : ∀ v a, F v a → Dp K G v (f a)) {xs : List V} {ys : List α} (p : Paired F xs ys) : DpAll K G xs (ys.map f) := by
  induction p with
  | nil => exact .nil
  | cons a _ ih => exact .cons (h _ _ a) ih
theorem R0.dp {K : PySem.W.Frag} {G : Hp} {v : V} {p : P0} (h : R0 K G v p) : Dp K G v p.dt := by
  obtain ⟨a, rfl, t⟩ := h
  cases p with
  | say t' => exact .tup t (.cons (.str _) (.cons (.str _) .nil))
  | ask nm sg lo hi => exact .tup t (.cons (.str _) (.cons (.str _) (.cons (.str _) (.cons (.int _) (.cons (.int _) .nil)))))
theorem RP.dp {K : PySem.W.Frag} {G : Hp} {v : V} {p : Pc} (h : RP K G v p) : Dp K G v p.dt := by
  cases p with
  | p0 p => exact R0.dp h
  | rows nm ps gap lo hi =>
    obtain ⟨a, l, xs, rfl, t, q, r⟩ := h
    exact .tup t (.cons (.str _) (.cons (.str _) (.cons (.lst q (dp_all (fun _ _ z => R0.dp z) r)) (.cons (.str _) (.cons (.int _) (.cons (.int _) .nil))))))
theorem plain_all {α : Type} {f : α → PyData} (h : ∀ a, (f a).plain = true) : ∀ l : List α, PyData.plainAll (l.map f) = true
  | [] => rfl
  | a :: r => by rw [List.map_cons]; unfold PyData.plainAll; rw [h a, plain_all h r]; rfl
theorem depth_all {α : Type} {f : α → PyData} {n : Nat} (h : ∀ a, (f a).depth ≤ n) : ∀ l : List α, PyData.depthAll (l.map f) ≤ n
  | [] => by rw [List.map_nil]; unfold PyData.depthAll; exact Nat.zero_le _
  | a :: r => by rw [List.map_cons]; unfold PyData.depthAll; exact Nat.max_le.mpr ⟨h a, depth_all h r⟩
theorem P0.plain (p : P0) : p.dt.plain = true := by cases p <;> rfl
theorem Pc.plain (p : Pc) : p.dt.plain = true := by
  cases p with
  | p0 p => exact P0.plain p
  | rows nm ps gap lo hi =>
    have := plain_all P0.plain ps
    simp only [Pc.dt, PyData.plain, PyData.plainAll, this, Bool.and_self]
theorem P0.depth (p : P0) : p.dt.depth ≤ 3 := by cases p <;> (simp only [P0.dt, PyData.depth, PyData.depthAll]; omega)
theorem Pc.depth (p : Pc) : p.dt.depth ≤ 6 := by
  cases p with
  | p0 p => have := P0.depth p; show p.dt.depth ≤ 6; omega
  | rows nm ps gap lo hi =>
    have := depth_all P0.depth ps
    simp only [Pc.dt, PyData.depth, PyData.depthAll]
    omega
def formD (ps : List Pc) : PyData := .list (ps.map Pc.dt)
theorem formD_plain (ps : List Pc) : (formD ps).plain = true := plain_all Pc.plain ps
theorem formD_depth (ps : List Pc) : (formD ps).depth ≤ 60 := by
  have := depth_all Pc.depth ps
  unfold formD
  simp only [PyData.depth]
  omega
theorem formD_refl (ps : List Pc) : PyData.eqv (formD ps) (formD ps) = true := SeqAt.eqv_refl_plain _ (formD_plain ps)
theorem formD_dp {K : PySem.W.Frag} {G : Hp} {l : Addr} {xs : List V} {ps : List Pc} (h : SqL K G l xs) (p : Paired (RP K G) xs ps) : Dp K G (.ref l) (formD ps) := .lst h (dp_all (fun _ _ z => RP.dp z) p)
def strsD (ns : List Str) : PyData := .list (ns.map PyData.str)
theorem strsD_plain (ns : List Str) : (strsD ns).plain = true := plain_all (fun _ => rfl) ns
theorem strsD_depth (ns : List Str) : (strsD ns).depth ≤ 60 := by
  have := depth_all (f := PyData.str) (n := 1) (fun _ => by simp only [PyData.depth]; omega) ns
  unfold strsD
  simp only [PyData.depth]
  omega
theorem strsD_refl (ns : List Str) : PyData.eqv (strsD ns) (strsD ns) = true := SeqAt.eqv_refl_plain _ (strsD_plain ns)
theorem strsD_dp {K : PySem.W.Frag} {G : Hp} {l : Addr} {ns : List Str} (h : SqL K G l (ns.map V.str)) : Dp K G (.ref l) (strsD ns) := by
  refine .lst h ?_
  clear h
  induction ns with
  | nil => exact .nil
  | cons a r ih => exact .cons (.str _) ih
end Lf

/-! # LfMath -/
set_option Elab.async false
set_option linter.all false
set_option maxRecDepth 100000
set_option maxHeartbeats 4000000
namespace Lf
open PySem L2
/-! ## the drawn forms are forms -/
def sgsB (t : Str) : Bool := t.cps.toList.all fun c => decide (c ∈ SIGNSs.cps.toList)
theorem sgs_of {t : Str} (h : sgsB t = true) : Sgs t := fun c hc => of_decide_eq_true (List.all_eq_true.mp h c hc)
def sayB (t : Str) : Bool := decide (1 ≤ t.length) && decide (t.length ≤ 12) && sgsB t
def sgB (t : Str) : Bool := decide (1 ≤ t.length) && decide (t.length ≤ 20) && sgsB t && decide t.cps.toList.Nodup
def gapB (t : Str) : Bool := decide (t.length ≤ 5) && sgsB t
theorem say_all : sayL.all sayB = true := by decide +kernel
theorem sg_all : sgL.all sgB = true := by decide +kernel
theorem gap_all : gapL.all gapB = true := by decide +kernel
theorem pick_mem (l : List Str) (c : Int) (h : 0 < l.length) : pick l c ∈ l := by
  unfold pick
  have h1 := Int.emod_nonneg c (show (l.length : Int) ≠ 0 by omega)
  have h2 := Int.emod_lt_of_pos c (show 0 < (l.length : Int) by omega)
  have hj : (c % (l.length : Int)).toNat < l.length := by omega
  rw [List.getD_eq_getElem?_getD, List.getElem?_eq_getElem hj]
  exact List.getElem_mem hj
theorem say_ok (c : Int) : ok0 (.say (pick sayL c)) := by
  have h := List.all_eq_true.mp say_all _ (pick_mem sayL c (by decide))
  simp only [sayB, Bool.and_eq_true, decide_eq_true_eq] at h
  exact ⟨h.1.1, h.1.2, sgs_of h.2⟩
theorem sg_ok (c : Int) : 1 ≤ (pick sgL c).length ∧ (pick sgL c).length ≤ 20 ∧ Sgs (pick sgL c) ∧ (pick sgL c).cps.toList.Nodup := by
  have h := List.all_eq_true.mp sg_all _ (pick_mem sgL c (by decide))
  simp only [sgB, Bool.and_eq_true, decide_eq_true_eq] at h
  exact ⟨h.1.1.1, h.1.1.2, sgs_of h.1.2, h.2⟩
theorem gap_ok (c : Int) : (pick gapL c).length ≤ 5 ∧ Sgs (pick gapL c) := by
  have h := List.all_eq_true.mp gap_all _ (pick_mem gapL c (by decide))
  simp only [gapB, Bool.and_eq_true, decide_eq_true_eq] at h
  exact ⟨h.1, sgs_of h.2⟩
theorem ask_ok (ns : List Int) (k : Int) {nm : Str} {most : Int} (hn : nm ≠ Str.empty) (h0 : 0 ≤ most) (h4 : most ≤ 4) : ok0 (askP ns k nm most) := by
  obtain ⟨s1, s2, s3, s4⟩ := sg_ok (draw ns k)
  have e1 : 0 ≤ draw ns k / 10 % (most + 1) := Int.emod_nonneg _ (by omega)
  have e2 : draw ns k / 10 % (most + 1) < most + 1 := Int.emod_lt_of_pos _ (by omega)
  have f1 : 0 ≤ draw ns k / 60 % (most + 1 - draw ns k / 10 % (most + 1)) := Int.emod_nonneg _ (by omega)
  have f2 : draw ns k / 60 % (most + 1 - draw ns k / 10 % (most + 1)) < most + 1 - draw ns k / 10 % (most + 1) := Int.emod_lt_of_pos _ (by omega)
  exact ⟨hn, s1, s2, s3, s4, e1, by omega, by omega⟩
theorem nmI_ne : ∀ n ∈ nmI, n ≠ Str.empty := by decide +kernel
theorem nmO_ne : ∀ n ∈ nmO, n ≠ Str.empty := by decide +kernel
theorem nmI_nd : nmI.Nodup := by decide +kernel
theorem nmO_nd : nmO.Nodup := by decide +kernel
theorem getD_mem {l : List Str} {j : Nat} (h : j < l.length) : l.getD j Str.empty ∈ l := by
  rw [List.getD_eq_getElem?_getD, List.getElem?_eq_getElem h]; exact List.getElem_mem h
theorem getD_inj {l : List Str} (nd : l.Nodup) {i j : Nat} (hi : i < l.length) (hj : j < l.length) (e : l.getD i Str.empty = l.getD j Str.empty) : i = j := by
  rw [List.getD_eq_getElem?_getD, List.getD_eq_getElem?_getD, List.getElem?_eq_getElem hi, List.getElem?_eq_getElem hj] at e
  exact (List.getElem_inj nd).mp e
theorem inner_size (ns : List Int) (k : Int) {many : Int} (h1 : 1 ≤ many) (h3 : many ≤ 6) : 1 ≤ (1 + draw ns k % many).toNat ∧ (1 + draw ns k % many).toNat ≤ many.toNat := by
  have d0 : 0 ≤ draw ns k % many := Int.emod_nonneg _ (by omega)
  have d1 : draw ns k % many < many := Int.emod_lt_of_pos _ (by omega)
  omega
theorem inner_len (ns : List Int) (k many most : Int) : (innerP ns k many most).length = (1 + draw ns k % many).toNat := by unfold innerP; rw [List.length_map, List.length_range]
theorem innerAt_ok (ns : List Int) (k : Int) {most : Int} (h0 : 0 ≤ most) (h4 : most ≤ 4) {j : Nat} (hj : j < 3) : ok0 (innerAt ns k most j) := by
  unfold innerAt
  split
  · exact say_ok _
  · exact ask_ok ns _ (nmI_ne _ (getD_mem hj)) h0 h4
theorem innerAt_nm (ns : List Int) (k most : Int) (j : Nat) : nm0 (innerAt ns k most j) = none ∨ nm0 (innerAt ns k most j) = some (nmI.getD j Str.empty) := by
  unfold innerAt
  split
  · exact .inl rfl
  · exact .inr rfl
/-- names of different places differ -/
theorem nodup_names {α : Type} (f : Nat → Option α) (g : Nat → α) (n : Nat) (hf : ∀ i, i < n → f i = none ∨ f i = some (g i)) (hg : ∀ i j, i < n → j < n → g i = g j → i = j) : ((List.range n).filterMap f).Nodup := by
  induction n with
  | zero => exact List.nodup_nil
  | succ n ih =>
    have ih := ih (fun i hi => hf i (by omega)) (fun i j hi hj => hg i j (by omega) (by omega))
    rw [filterMap_range_succ]
    rcases hf n (Nat.lt_succ_self n) with e | e
    · rw [e]; simpa using ih
    · rw [e]
      rw [List.nodup_append]
      refine ⟨ih, by simp, fun a ha b hb => ?_⟩
      simp at hb
      subst hb
      obtain ⟨i, hi, e2⟩ := List.mem_filterMap.mp ha
      have hin := List.mem_range.mp hi
      rcases hf i (by omega) with z | z
      · rw [z] at e2; cases e2
      · rw [z] at e2; cases e2
        intro q
        have := hg i n (by omega) (by omega) q
        omega
theorem inner_nd (ns : List Int) (k many most : Int) (h : (1 + draw ns k % many).toNat ≤ 3) : (nms0 (innerP ns k many most)).Nodup := by
  unfold nms0 innerP
  rw [List.filterMap_map]
  exact nodup_names (nm0 ∘ innerAt ns k most) (fun j => nmI.getD j Str.empty) _ (fun i _ => innerAt_nm ns k most i) fun i j hi hj e => getD_inj nmI_nd (by show i < 3; omega) (by show j < 3; omega) e
theorem mem_map_range {α : Type} {f : Nat → α} {n : Nat} {x : α} (h : x ∈ (List.range n).map f) : ∃ i, i < n ∧ x = f i := by
  obtain ⟨i, hi, e⟩ := List.mem_map.mp h
  exact ⟨i, List.mem_range.mp hi, e.symm⟩
theorem pieceP_ok (ns : List Int) (k : Int) {nm : Str} {most : Int} (hn : nm ≠ Str.empty) (h0 : 0 ≤ most) (h4 : most ≤ 4) : okP (pieceP ns k nm most) := by
  unfold pieceP
  split
  · exact say_ok _
  · split
    · exact ask_ok ns _ hn h0 h4
    · have hs := inner_size ns (k + 2) (many := 3) (by decide) (by decide)
      have g := gap_ok (draw ns k / 5)
      have e1 : 0 ≤ draw ns k / 25 % 4 := Int.emod_nonneg _ (by decide)
      have e2 : draw ns k / 25 % 4 < 4 := Int.emod_lt_of_pos _ (by decide)
      have f1 : 0 ≤ draw ns k / 100 % (4 - draw ns k / 25 % 4) := Int.emod_nonneg _ (by omega)
      have f2 : draw ns k / 100 % (4 - draw ns k / 25 % 4) < 4 - draw ns k / 25 % 4 := Int.emod_lt_of_pos _ (by omega)
      have hlen := inner_len ns (k + 2) 3 most
      refine ⟨hn, by rw [hlen]; exact hs.1, by rw [hlen]; exact hs.2, fun p hp => ?_, inner_nd ns _ 3 most hs.2, g.1, g.2, e1, by omega, by omega⟩
      obtain ⟨j, hj, rfl⟩ := mem_map_range hp
      have h3 : (3 : Int).toNat = 3 := rfl
      exact innerAt_ok ns _ h0 h4 (by omega)
theorem pieceP_nm (ns : List Int) (k : Int) (nm : Str) (most : Int) : nmP (pieceP ns k nm most) = none ∨ nmP (pieceP ns k nm most) = some nm := by
  unfold pieceP
  split
  · exact .inl rfl
  · split
    · exact .inr rfl
    · exact .inr rfl
theorem pieces_len (ns : List Int) (many most : Int) : (piecesP ns many most).length = (1 + draw ns 1 % many).toNat := by unfold piecesP; rw [List.length_map, List.length_range]
theorem pieces_ok (ns : List Int) {many most : Int} (h1 : 1 ≤ many) (h6 : many ≤ 6) (h0 : 0 ≤ most) (h4 : most ≤ 4) : okF (piecesP ns many most) := by
  have hs := inner_size ns 1 h1 h6
  have hlen := pieces_len ns many most
  refine ⟨by rw [hlen]; exact hs.1, by rw [hlen]; omega, fun p hp => ?_, ?_⟩
  · obtain ⟨j, hj, rfl⟩ := mem_map_range hp
    exact pieceP_ok ns _ (nmO_ne _ (pick_mem nmO _ (by decide))) h0 h4
  · unfold nms piecesP
    rw [List.filterMap_map]
    refine nodup_names (nmP ∘ pieceAt ns most) (fun j => pick nmO (j + draw ns 2)) _ (fun i _ => pieceP_nm ns _ _ most) fun i j hi hj e => ?_
    unfold pick at e
    have l6 : (nmO.length : Int) = 6 := rfl
    rw [l6] at e
    have a0 := Int.emod_nonneg ((i : Int) + draw ns 2) (show (6 : Int) ≠ 0 by decide)
    have a1 := Int.emod_lt_of_pos ((i : Int) + draw ns 2) (show 0 < (6 : Int) by decide)
    have b0 := Int.emod_nonneg ((j : Int) + draw ns 2) (show (6 : Int) ≠ 0 by decide)
    have b1 := Int.emod_lt_of_pos ((j : Int) + draw ns 2) (show 0 < (6 : Int) by decide)
    have l6' : nmO.length = 6 := rfl
    have := getD_inj nmO_nd (by omega) (by omega) e
    omega

/-! ## the drawn values fit -/
theorem word_fits {ns : List Int} {k : Int} {sg : Str} {lo hi : Int} (h0 : 0 ≤ lo) (h : lo ≤ hi) (hs : 1 ≤ sg.length) : fit0 sg lo hi (wordP ns k sg lo hi) := by
  have ws := word_size (ns := ns) (k := k) h0 h
  have hl : (wordP ns k sg lo hi).length = (lo + draw ns k % (hi - lo + 1)).toNat := by unfold wordP; rw [ofL_len, wordL_sz]
  refine ⟨by rw [hl]; omega, by rw [hl]; omega, fun c hc => ?_⟩
  unfold wordP at hc
  rw [ofL_cps] at hc
  obtain ⟨j, hj, rfl⟩ := mem_map_range hc
  have m0 := Int.emod_nonneg (draw ns (k + 1 + j)) (show (sg.length : Int) ≠ 0 by omega)
  have m1 := Int.emod_lt_of_pos (draw ns (k + 1 + j)) (show 0 < (sg.length : Int) by omega)
  have hj : (draw ns (k + 1 + j) % (sg.length : Int)).toNat < sg.cps.size := by show _ < sg.length; omega
  rw [Array.getD_eq_getD_getElem?, Array.getElem?_eq_getElem hj]
  exact Array.getElem_mem_toList hj
theorem look_of {α : Type} : ∀ {l : List (Str × α)} {n : Str} {x : α}, (l.map (·.1)).Nodup → (n, x) ∈ l → look n l = some x
  | p :: r, n, x, nd, h => by
    unfold look
    rw [List.find?_cons]
    rw [List.map_cons, List.nodup_cons] at nd
    rcases List.mem_cons.mp h with e | h
    · subst e; rw [decide_eq_true rfl]; rfl
    · have hne : ¬ p.1 = n := fun e => nd.1 (e ▸ List.mem_map.mpr ⟨(n, x), h, rfl⟩)
      rw [decide_eq_false hne]
      exact look_of nd.2 h
theorem row_all_keys (ns : List Int) (k : Int) (ps : List P0) : (rowP ns k ps).map (·.1) = nms0 ps := by
  have := row_keys ns k ps ps.length (Nat.le_refl _)
  rw [List.take_length] at this
  exact this
theorem val_all_keys (ns : List Int) (s : Int) (ps : List Pc) : (valuesP ns s ps).map (·.1) = nms ps := by
  have := val_keys ns s ps ps.length (Nat.le_refl _)
  rw [List.take_length] at this
  exact this
theorem row_fits0 {ns : List Int} {k : Int} {ps : List P0} (nd : (nms0 ps).Nodup) (ok : ∀ p ∈ ps, ok0 p) : ∀ p ∈ ps, fits0 (rowP ns k ps) p := fun p hp => by
  cases p with
  | say t => trivial
  | ask nm sg lo hi =>
    obtain ⟨i, hi', e⟩ := List.mem_iff_getElem?.mp hp |>.elim fun i h => (⟨i, at_lt h, h⟩ : ∃ i, i < ps.length ∧ ps[i]? = some (.ask nm sg lo hi))
    obtain ⟨_, s1, _, _, _, l0, lh, _⟩ := ok _ hp
    refine ⟨wordP ns (k + 6 * i) sg lo hi, look_of (by rw [row_all_keys]; exact nd) ?_, word_fits l0 lh s1⟩
    refine List.mem_filterMap.mpr ⟨i, List.mem_range.mpr hi', ?_⟩
    rw [e]; rfl
theorem values_fit {ns : List Int} {s : Int} {ps : List Pc} (ok : okF ps) : ∀ p ∈ ps, okP p ∧ fitsP (valuesP ns s ps) p := fun p hp => by
  refine ⟨ok.ok p hp, ?_⟩
  obtain ⟨i, hi', e⟩ := List.mem_iff_getElem?.mp hp |>.elim fun i h => (⟨i, at_lt h, h⟩ : ∃ i, i < ps.length ∧ ps[i]? = some p)
  have nd : ((valuesP ns s ps).map (·.1)).Nodup := by rw [val_all_keys]; exact ok.nd
  have okp := ok.ok p hp
  cases p with
  | p0 p =>
    cases p with
    | say t => trivial
    | ask nm sg lo hi =>
      obtain ⟨_, s1, _, _, _, l0, lh, _⟩ := okp
      refine ⟨wordP ns (s + 90 * i) sg lo hi, look_of nd (List.mem_filterMap.mpr ⟨i, List.mem_range.mpr hi', ?_⟩), word_fits l0 lh s1⟩
      rw [e]; rfl
  | rows nm ips gap lo hi =>
    obtain ⟨_, _, _, iok, ind, _, _, l0, lh, _⟩ := okp
    have ws := word_size (ns := ns) (k := s + 90 * i) l0 lh
    refine ⟨(List.range (lo + draw ns (s + 90 * i) % (hi - lo + 1)).toNat).map fun (j : Nat) => rowP ns (s + 90 * i + 1 + 25 * j) ips, look_of nd (List.mem_filterMap.mpr ⟨i, List.mem_range.mpr hi', by rw [e]; rfl⟩), ?_, ?_, ?_⟩
    · rw [List.length_map, List.length_range]; omega
    · rw [List.length_map, List.length_range]; omega
    · intro r hr p hp
      obtain ⟨j, _, rfl⟩ := mem_map_range hr
      exact row_fits0 ind iok p hp
end Lf

/-! # LfEnd -/
set_option Elab.async false
set_option linter.all false
set_option maxRecDepth 100000
set_option maxHeartbeats 4000000
namespace Lf
open PySem L2
/-! ## what the top leaves -/
theorem df_mk {K : PySem.W.Frag} {h : Heap} {mg : Str → Option Value} (X : K.In h) (G : h.Ns mainGlobals mg) {x : Str} {st : Stmt} {ps : List Str} {f : Addr} {oc : Value} {od an : Option Addr} {sl : Array (Option Value)} {kV dc pm cd ct : Value}
    (a : PySem.W.nsIn K mainGlobals x = some (some (.ref f))) (l : K.lookup f = some ⟨oc, od, .func (PySem.W.fnOf x x (defArgs st) (defBody st) (defScope st) .none kV dc pm an cd ct), sl⟩) (c : PySem.W.codeIn K cd x = true) (k : PySem.W.keepIn K (.ref f) = true)
    (b : ∀ (kV doc pm : Value) (an : Option Addr) (cdv ct : Value) (us : List Value), us.length = ps.length → bindArgs (PySem.W.fnOf x x (defArgs st) (defBody st) (defScope st) .none kV doc pm an cdv ct) ⟨us, []⟩ = pure (ps.zip us)) : Df K mg x st ps := by
  have F := fun_mk (st := st) l c k
  exact ⟨f, _, F, PySem.W.mg_of X G a, F.binds b⟩
/-- the law's own def -/
theorem law_mk {K : PySem.W.Frag} {h : Heap} {mg : Str → Option Value} (X : K.In h) (G : h.Ns mainGlobals mg) {st : Stmt} {fa f : Addr} {oc : Value} {od an : Option Addr} {sl : Array (Option Value)} {kV dc pm cd ct : Value}
    (hfa : mg "law" = some (.ref fa)) (a : PySem.W.nsIn K mainGlobals "law" = some (some (.ref f))) (l : K.lookup f = some ⟨oc, od, .func (PySem.W.fnOf "law" "law" (defArgs st) (defBody st) (defScope st) .none kV dc pm an cd ct), sl⟩) (c : PySem.W.codeIn K cd "law" = true) (k : PySem.W.keepIn K (.ref f) = true)
    (b : ∀ (kV doc pm : Value) (an : Option Addr) (cdv ct : Value) (s : Shared) (v : Value), BindsTo s (PySem.W.fnOf "law" "law" (defArgs st) (defBody st) (defScope st) .none kV doc pm an cdv ct) ⟨[v], []⟩ [("script", v)]) :
    ∃ fd : FuncData, Fun K "law" "law" st fa fd ∧ ∀ (s : Shared) (v : Value), BindsTo s fd ⟨[v], []⟩ [("script", v)] := by
  have e := hfa.symm.trans (PySem.W.mg_of X G a)
  cases e
  exact ⟨_, fun_mk (st := st) l c k, b _ _ _ _ _ _⟩
/-- a class with an __init__ -/
structure Cm (K : PySem.W.Frag) (mg : Str → Option Value) (x qual : Str) (st : Stmt) (ps : List Str) (C : Addr) : Prop where
  cl : Cls K C
  mgc : mg x = some (.ref C)
  ex : ∃ (f : Addr) (fd : FuncData), Mk K C f ∧ Fun K "__init__" qual st f fd ∧ Binds K fd ps []
theorem cm_mk {K : PySem.W.Frag} {h : Heap} {mg : Str → Option Value} (X : K.In h) (G : h.Ns mainGlobals mg) {x qual : Str} {st : Stmt} {ps : List Str} {C f : Addr} {oc : Value} {od an : Option Addr} {sl : Array (Option Value)} {kV dc pm cd ct : Value}
    (aC : PySem.W.nsIn K mainGlobals x = some (some (.ref C))) (a : PySem.W.findIn K (.ref C) "__init__" = some (some (.ref f))) (i : PySem.W.isFn K (.ref f) = true)
    (l : K.lookup f = some ⟨oc, od, .func (PySem.W.fnOf "__init__" qual (defArgs st) (defBody st) (defScope st) .none kV dc pm an cd ct), sl⟩) (c : PySem.W.codeIn K cd qual = true) (k : PySem.W.keepIn K (.ref f) = true)
    (pg : PySem.W.plainGet K C Str.empty = true) (hd : PySem.W.hasDictIn K C = true) (po : PySem.W.plainOver K C = true) (sa : PySem.W.findIn K (.ref C) "__setattr__" = some (some (.builtin "object.__setattr__"))) (mk : PySem.W.makesIn K C = true) (kc : PySem.W.keepIn K (.ref C) = true)
    (b : ∀ (kV doc pm : Value) (an : Option Addr) (cdv ct : Value) (us : List Value), us.length = ps.length → bindArgs (PySem.W.fnOf "__init__" qual (defArgs st) (defBody st) (defScope st) .none kV doc pm an cdv ct) ⟨us, []⟩ = pure (ps.zip us))
    {n1 : Str} (q1 : PySem.W.findIn K (.ref C) n1 = some none) : ∃ C, Cm K mg x qual st ps C ∧ NoAttr K C n1 := by
  have F := fun_mk (st := st) l c k
  exact ⟨C, ⟨⟨pg, hd, po, sa⟩, PySem.W.mg_of X G aC, f, _, ⟨mk, a, i, kc⟩, F, F.binds b⟩, q1⟩
theorem Cm.mn {P : Program} {w : World} {K : PySem.W.Frag} {mg : Str → Option Value} {base : Heap} {CX : CXT} {k : Nat} {x qual : Str} {st : Stmt} {ps : List Str} {C : Addr} {sp : Sp} (c : Cm K mg x qual st ps C)
    (h : ∀ f fd, Fun K "__init__" qual st f fd → FnOk P w K mg base CX k f fd ps sp) : Mn P w K mg base CX k x C sp := by
  obtain ⟨f, fd, M, F, b⟩ := c.ex
  exact ⟨f, fd, ps, M, h f fd F, c.mgc, b⟩
end Lf
namespace Lf
open PySem L2
theorem signs_mk {K : PySem.W.Frag} {h : Heap} {mg : Str → Option Value} (X : K.In h) (G : h.Ns mainGlobals mg) {u : Value} (a : PySem.W.nsIn K mainGlobals "SIGNS" = some (some u))
    (e : ∃ t, u = .str ("abcdefghijklmnopqrstuvwxyzABCDEFGHIJKLMNOPQRSTUVWXYZ0123456789 .,:;-/()\n" : Str) t) : G_SIGNS mg := by
  obtain ⟨t, rfl⟩ := e
  exact ⟨t, PySem.W.mg_of X G a⟩
end Lf

/-! # LfEqD -/
set_option Elab.async false
set_option linter.all false
set_option maxRecDepth 100000
set_option maxHeartbeats 4000000
namespace PySem.SeqAt
open AutoSeq1 (wpAny_loadPart')
open MeetsSeq MeetsSeq2 MeetsSeq3 SeqRoads2
section
variable {prog : Program} {w : World}
/-- != of two lists of one length, their items compared in this world -/
theorem lf_ne_loop (l b : Addr) (xs ys : Array Value) (n n2 : Nat) (dd dd2 : Option Addr) (sl sl2 : Array (Option Value)) (hsz : xs.size = ys.size) (e : Nat → Bool) (k : Nat) :
    ∀ i : Nat, xs.size - i = k → MeetsIn prog w (Builtin.«list.__eq__.loop» ⟨[.ref l, .ref b, rawInt i, rawInt 3], []⟩)
      (fun A R s => s.heap.get? l = some { cls := .type "list", dict := dd, data := .seq xs n, slots := sl } ∧ s.heap.get? b = some { cls := .type "list", dict := dd2, data := .seq ys n2, slots := sl2 } ∧
        (∀ j (h1 : j < xs.size) (h2 : j < ys.size), EqIn prog w A.in1 s xs[j] ys[j] (e j)) ∧
        R (.ok (.ret (.bool (!((List.range xs.size).drop i).all e)))) s) := by
  induction k with
  | zero =>
    intro i hk A R s h
    obtain ⟨hp, g, d, tk, os⟩ := s
    obtain ⟨hl, hb, he, h⟩ := h
    wp_walk using wpAny_loadPart' hl, wpAny_loadPart' hb
    have q1 : xs[((i : Nat) : Int).toNat]? = none := by simp; omega
    have q2 : ys[((i : Nat) : Int).toNat]? = none := by simp; omega
    have q3 : (List.range xs.size).drop i = [] := by simp; omega
    rw [q3] at h
    rw [q1, q2]
    wp_walk using wpAny_loadPart' hl, wpAny_loadPart' hb
    show R (.ok (.ret (.bool (xs.size != ys.size)))) _
    rw [hsz]
    simpa using h
  | succ k ih =>
    intro i hk A R s h
    obtain ⟨hp, g, d, tk, os⟩ := s
    obtain ⟨hl, hb, he, h⟩ := h
    wp_walk using wpAny_loadPart' hl, wpAny_loadPart' hb
    have p1 : i < xs.size := by omega
    have p2 : i < ys.size := by omega
    have q1 : xs[((i : Nat) : Int).toNat]? = some xs[i] := by simp [p1]
    have q2 : ys[((i : Nat) : Int).toNat]? = some ys[i] := by simp [p2]
    have q3 : (List.range xs.size).drop i = i :: (List.range xs.size).drop (i + 1) := by simp [List.drop_eq_getElem_cons, p1]
    have q4 : ((i : Int) + 1) = ((i + 1 : Nat) : Int) := by push_cast; rfl
    rw [q3, List.all_cons] at h
    rw [q1, q2]
    refine wpAny_bind (he i p1 p2 _ _ ?_)
    cases hx : e i with
    | true =>
      rw [hx] at h
      wp_walk
      rw [q4]
      exact ⟨plainId_quiet plain_eq_loop _, codeAny_builtin entry_eq_loop (by
        rw [Around.under_plainId plain_eq_loop _]
        exact ih (i + 1) (by omega) A R _ ⟨hl, hb, he, by simpa using h⟩)⟩
    | false =>
      rw [hx] at h
      wp_walk using wpAny_loadPart' hl, wpAny_loadPart' hb
      rw [q1, q2]
      wp_walk
      simpa using h
theorem lf_list_ne (l b : Addr) (xs ys : Array Value) (n n2 : Nat) (dd dd2 : Option Addr) (sl sl2 : Array (Option Value)) (hsz : xs.size = ys.size) (e : Nat → Bool) :
    MeetsIn prog w (Builtin.«list.__ne__» ⟨[.ref l, .ref b], []⟩)
      (fun A R s => s.heap.get? l = some { cls := .type "list", dict := dd, data := .seq xs n, slots := sl } ∧ s.heap.get? b = some { cls := .type "list", dict := dd2, data := .seq ys n2, slots := sl2 } ∧
        (∀ j (h1 : j < xs.size) (h2 : j < ys.size), EqIn prog w A.in1 s xs[j] ys[j] (e j)) ∧
        R (.ok (.ret (.bool (!(List.range xs.size).all e)))) s) := by
  intro A R s h
  obtain ⟨hp, g, d, tk, os⟩ := s
  obtain ⟨hl, hb, he, h⟩ := h
  have f3 := AutoSeq1.sub_list_list
  have hne : ¬ (xs.size != ys.size) = true := by simp [hsz]
  wp_walk using wpAny_loadPart' hl, wpAny_loadPart' hb
  exact ⟨plainId_quiet plain_eq_loop _, codeAny_builtin entry_eq_loop (by
    rw [Around.under_plainId plain_eq_loop _]
    exact lf_ne_loop l b xs ys n n2 dd dd2 sl sl2 hsz e _ 0 rfl A R _ ⟨hl, hb, he, by simpa using h⟩)⟩
theorem lf_ne_lists {A : Around} {s : Shared} {E : Value → Shared → Prop} {l b : Addr} {xs ys : Array Value} {e : Nat → Bool} {Q : Value → Shared → Prop} (hl : s.heap.IsList l xs) (hb : s.heap.IsList b ys) (hsz : xs.size = ys.size) (hu : A.units < cLine)
    (he : ∀ j (h1 : j < xs.size) (h2 : j < ys.size), EqIn prog w A.in1 s xs[j] ys[j] (e j)) (h : Q (.bool (!(List.range xs.size).all e)) s) : wpAny (model prog w) A (richCompare .NotEq (.ref l) (.ref b)) Q E s := by
  obtain ⟨⟨c1, d1, t1, s1⟩, ho, hc, n, hd⟩ := id hl
  obtain ⟨⟨c2, d2, t2, s2⟩, ho2, hc2, n2, hd2⟩ := id hb
  simp only at hc hd hc2 hd2
  subst hc hd hc2 hd2
  exact wpAny_richCompare_same_room (T := "list") (op := .NotEq) ⟨_, ho, rfl⟩ ⟨_, ho2, rfl⟩ F.slot_list_ne (call_meetsIn F.slot_list_ne ⟨_, ho, rfl⟩ F.entry_list_ne (F.args_list_ne_2 _ _) (lf_list_ne l b xs ys n n2 d1 d2 s1 s2 hsz e)
    ⟨ho, ho2, he, show Value.bool (!(List.range xs.size).all e) ≠ Value.notImplemented ∧ Q (.bool (!(List.range xs.size).all e)) s from ⟨(fun x => nomatch x), h⟩⟩) hu
end
end PySem.SeqAt
namespace PySem.W
open PySem PySem.Calls PyProof.Rows PySem.Spec
/-- != of two dicts, their values compared in this world -/
theorem lf_ne_dicts {prog : Program} {w : World} {K : Type} [DecidableEq K] {knd : KeyKind prog w K} {A : Around} {E : Value → Shared → Prop} {s : Shared} {a b : Addr} {ka kb : List (K × Value)} {r : Bool} {Q : Value → Shared → Prop} (ha : (a == sysModules) = false) (hb : (b == sysModules) = false)
    (da : s.heap.DictOf knd a ka) (db : s.heap.DictOf knd b kb) (hu : A.units < cLine) (hits : ka.length = kb.length → KeqHitsIn prog w A.in1 s kb ka r) (h : Q (.bool (!(ka.length == kb.length && r))) s) :
    wpAny (model prog w) A (compareOp .NotEq (.ref a) (.ref b)) Q E s := by
  refine wpAny_richCompare_same_room (op := .NotEq) da.typeIs db.typeIs PySem.F.slot_dict_ne (wpAny_call_entry PySem.F.slot_dict_ne da.typeIs PySem.F.entry_dict_ne ?_ (PySem.F.args_dict_ne_2 _ _)) hu
  show wpAny _ _ (Builtin.Dict.dictSlotArgs "__ne__" ⟨[.ref a, .ref b], []⟩ >>= _) _ _ s
  refine wpAny_bind ?_
  unfold Builtin.Dict.dictSlotArgs
  refine wpAny_bind (wpAny_notOrdered_dict da.typeIs ?_)
  show wpAny _ _ (pure (Value.ref a, Value.ref b)) _ _ s
  refine wpAny_pure ?_
  refine wpAny_bind (wpAny_isInstance (T := "dict") db.typeIs PySem.F.sub_dict_dict ?_)
  simp only [Bool.not_true, Bool.false_eq_true, if_false]
  refine wpAny_bind (wpAny_pure (wpAny_bind (wpAny_pure ?_)))
  refine wpAny_bind (keq_samePairsIn ha hb da db hits ?_)
  refine wpAny_pure ⟨_, rfl, ?_, ?_⟩
  · exact fun x => nomatch x
  · simpa using h
end PySem.W
namespace Lf
open PySem L2
/-! ## data: lists, tuples, dicts with text keys, in any order -/
inductive D where
  | non | bl (b : Bool) | int (i : Int) | str (s : Str)
  | tup (l : List D) | lst (l : List D) | dic (l : List (Str × D))
mutual
def D.depth : D → Nat
  | .non | .bl _ | .int _ | .str _ => 0
  | .tup l | .lst l => depthAll l + 1
  | .dic l => depthKv l + 1
def depthAll : List D → Nat
  | [] => 0
  | d :: r => max d.depth (depthAll r)
def depthKv : List (Str × D) → Nat
  | [] => 0
  | (_, d) :: r => max d.depth (depthKv r)
end
mutual
inductive Rp (K : PySem.W.Frag) (H : Hp) : V → D → Prop
  | non : Rp K H .non .non
  | bl (b : Bool) : Rp K H (.bl b) (.bl b)
  | int (i : Int) : Rp K H (.int i) (.int i)
  | str (s : Str) : Rp K H (.str s) (.str s)
  | lst {a : Addr} {xs : List V} {ds : List D} : SqL K H a xs → RpAll K H xs ds → Rp K H (.ref a) (.lst ds)
  | tup {a : Addr} {xs : List V} {ds : List D} : SqT K H a xs → RpAll K H xs ds → Rp K H (.ref a) (.tup ds)
  | dic {a : Addr} {kvs : List (Key × V)} {ds : List (Str × D)} : Rd H a (.dK kvs) → RpKv K H kvs ds → (ds.map (·.1)).Nodup → Rp K H (.ref a) (.dic ds)
inductive RpAll (K : PySem.W.Frag) (H : Hp) : List V → List D → Prop
  | nil : RpAll K H [] []
  | cons {v : V} {vs : List V} {d : D} {ds : List D} : Rp K H v d → RpAll K H vs ds → RpAll K H (v :: vs) (d :: ds)
inductive RpKv (K : PySem.W.Frag) (H : Hp) : List (Key × V) → List (Str × D) → Prop
  | nil : RpKv K H [] []
  | cons {n : Str} {v : V} {vs : List (Key × V)} {d : D} {ds : List (Str × D)} : Rp K H v d → RpKv K H vs ds → RpKv K H ((Sum.inr n, v) :: vs) ((n, d) :: ds)
end
section
variable {K : PySem.W.Frag} {H : Hp}
theorem RpAll.len : ∀ {xs : List V} {ds : List D}, RpAll K H xs ds → xs.length = ds.length
  | _, _, .nil => rfl
  | _, _, .cons _ t => by rw [List.length_cons, List.length_cons, RpAll.len t]
theorem RpKv.len : ∀ {xs : List (Key × V)} {ds : List (Str × D)}, RpKv K H xs ds → xs.length = ds.length
  | _, _, .nil => rfl
  | _, _, .cons _ t => by rw [List.length_cons, List.length_cons, RpKv.len t]
theorem RpAll.at : ∀ {xs : List V} {ds : List D} {i : Nat} {x : V}, RpAll K H xs ds → xs[i]? = some x → ∃ d, ds[i]? = some d ∧ Rp K H x d
  | _, _, _, _, .nil, e => by simp at e
  | _, _, 0, _, .cons r _, e => by simp at e; subst e; exact ⟨_, rfl, r⟩
  | _, _, i + 1, x, .cons _ t, e => by
    obtain ⟨d, h1, h2⟩ := RpAll.at (i := i) (x := x) t (by simpa using e)
    exact ⟨d, by simpa using h1, h2⟩
theorem RpKv.mem : ∀ {xs : List (Key × V)} {ds : List (Str × D)} {k : Key} {x : V}, RpKv K H xs ds → (k, x) ∈ xs → ∃ n d, k = Sum.inr n ∧ (n, d) ∈ ds ∧ Rp K H x d
  | _, _, _, _, .nil, e => by cases e
  | _, _, k, x, .cons r t, e => by
    rcases List.mem_cons.mp e with e | e
    · cases e; exact ⟨_, _, rfl, List.mem_cons_self, r⟩
    · obtain ⟨n, d, h1, h2, h3⟩ := RpKv.mem t e
      exact ⟨n, d, h1, List.mem_cons_of_mem _ h2, h3⟩
theorem RpKv.val : ∀ {xs : List (Key × V)} {ds : List (Str × D)} {n : Str} {d : D}, RpKv K H xs ds → (ds.map (·.1)).Nodup → (n, d) ∈ ds → ∃ x, valV xs (Sum.inr n : Key) = some x ∧ Rp K H x d
  | _, _, _, _, .nil, _, e => by cases e
  | _, _, n, d, .cons (n := m) (v := v) (vs := vs) (ds := ds) r t, nd, e0 => by
    rw [List.map_cons, List.nodup_cons] at nd
    rcases List.mem_cons.mp e0 with e | e
    · cases e; exact ⟨v, valV_pos rfl, r⟩
    · obtain ⟨x, h1, h2⟩ := RpKv.val t nd.2 e
      have hne : ¬ (Sum.inr m : Key) = Sum.inr n := fun q => nd.1 (by cases q; exact List.mem_map.mpr ⟨(_, d), e, rfl⟩)
      exact ⟨x, by rw [valV_neg (p := ((Sum.inr m : Key), v)) hne]; exact h1, h2⟩
end
theorem depth_mem {d : D} : ∀ {l : List D}, d ∈ l → d.depth ≤ depthAll l
  | _ :: r, h => by
    rcases List.mem_cons.mp h with e | h
    · subst e; unfold depthAll; exact Nat.le_max_left _ _
    · have := depth_mem h; unfold depthAll; exact Nat.le_trans this (Nat.le_max_right _ _)
theorem depth_memKv {n : Str} {d : D} : ∀ {l : List (Str × D)}, (n, d) ∈ l → d.depth ≤ depthKv l
  | (m, e) :: r, h => by
    rcases List.mem_cons.mp h with q | h
    · cases q; unfold depthKv; exact Nat.le_max_left _ _
    · have := depth_memKv h; unfold depthKv; exact Nat.le_trans this (Nat.le_max_right _ _)
theorem all_true {α : Type} (l : List α) : (l.all fun _ => true) = true := List.all_eq_true.mpr fun _ _ => rfl
section
variable {X : Cx} {pins : List (Addr × Obj)} {σ : L2.St} {H : Hp} {s : Shared}
/-- what a dict at a is -/
theorem dict_at (I : Inv X pins σ H s) {a : Addr} {kvs : List (Key × V)} (h : Rd H a (.dK kvs)) : (a == sysModules) = false ∧ ∃ vs, KV kvs vs ∧ s.heap.DictOf (mixKind X.prog X.w) a vs := by
  obtain ⟨_, b, vs, c, d⟩ := dk_rd I.hok h
  exact ⟨b, vs, c, d⟩
theorem kv_mem {kvs : List (Key × V)} {vs : List (Key × Value)} (h : KV kvs vs) {k : Key} {u : Value} (m : (k, u) ∈ vs) : ∃ x, (k, x) ∈ kvs ∧ RelV x u := by
  unfold KV at h
  induction h with
  | nil => cases m
  | @cons p q ps qs r t ih =>
    rcases List.mem_cons.mp m with e | m
    · subst e
      obtain ⟨k', x⟩ := p
      have : k' = k := r.1
      subst this
      exact ⟨x, List.mem_cons_self, r.2⟩
    · obtain ⟨x, h1, h2⟩ := ih m
      exact ⟨x, List.mem_cons_of_mem _ h1, h2⟩
/-- the same data: they are equal -/
theorem tree_eq (I : Inv X pins σ H s) : ∀ (n : Nat) (d : D) (v y : V) (u u' : Value), d.depth ≤ n → Rp X.K H v d → Rp X.K H y d → RelV v u → RelV y u' → PySem.W.EqTree X.prog X.w s n u u' true := by
  intro n
  induction n with
  | zero =>
    intro d v y u u' hd h1 h2 r1 r2
    cases d with
    | non => cases h1; cases h2; cases r1; cases r2; exact .same
    | bl b => cases h1; cases h2; cases r1; cases r2; exact .same
    | int i =>
      cases h1; cases h2
      obtain ⟨t, rfl⟩ := r1
      obtain ⟨t', rfl⟩ := r2
      exact .leaf fun A _ => by have := SeqAt.EqAt.int_int (A := A) (s := s) i t i t'; simpa using this
    | str x =>
      cases h1; cases h2
      obtain ⟨t, rfl⟩ := r1
      obtain ⟨t', rfl⟩ := r2
      exact .leaf fun A _ => by have := SeqAt.EqAt.str_str (A := A) (s := s) x t x t'; simpa using this
    | tup l => unfold D.depth at hd; omega
    | lst l => unfold D.depth at hd; omega
    | dic l => unfold D.depth at hd; omega
  | succ n ih =>
    intro d v y u u' hd h1 h2 r1 r2
    cases d with
    | non => cases h1; cases h2; cases r1; cases r2; exact .same
    | bl b => cases h1; cases h2; cases r1; cases r2; exact .same
    | int i =>
      cases h1; cases h2
      obtain ⟨t, rfl⟩ := r1
      obtain ⟨t', rfl⟩ := r2
      exact .leaf fun A _ => by have := SeqAt.EqAt.int_int (A := A) (s := s) i t i t'; simpa using this
    | str x =>
      cases h1; cases h2
      obtain ⟨t, rfl⟩ := r1
      obtain ⟨t', rfl⟩ := r2
      exact .leaf fun A _ => by have := SeqAt.EqAt.str_str (A := A) (s := s) x t x t'; simpa using this
    | tup l =>
      cases h1 with
      | tup q1 p1 =>
        cases h2 with
        | tup q2 p2 =>
          rename_i a xs b ys
          cases r1; cases r2
          by_cases e : a = b
          · subst e; exact .same
          · obtain ⟨us, v1, t1, _⟩ := I.tuple q1
            obtain ⟨ws, v2, t2, _⟩ := I.tuple q2
            have l1 := p1.len
            have l2 := p2.len
            have k1 := v1.length
            have k2 := v2.length
            have tr := PySem.W.EqTree.tuples (prog := X.prog) (w := X.w) (n := n) (e := fun _ => true) e t1 t2 (fun j h1 h2 => by
              simp only [List.size_toArray] at h1 h2
              obtain ⟨d1, e1, z1⟩ := p1.at (i := j) (x := xs[j]'(by omega)) (List.getElem?_eq_getElem _)
              obtain ⟨d2, e2, z2⟩ := p2.at (i := j) (x := ys[j]'(by omega)) (List.getElem?_eq_getElem _)
              rw [e1] at e2; cases e2
              obtain ⟨w1, f1, g1⟩ := v1.get (i := j) (x := xs[j]'(by omega)) (List.getElem?_eq_getElem _)
              obtain ⟨w2, f2, g2⟩ := v2.get (i := j) (x := ys[j]'(by omega)) (List.getElem?_eq_getElem _)
              rw [List.getElem?_eq_getElem h1] at f1; cases f1
              rw [List.getElem?_eq_getElem h2] at f2; cases f2
              have hdd := depth_mem (List.mem_of_getElem? e1)
              unfold D.depth at hd
              exact ih d1 _ _ _ _ (by omega) z1 z2 g1 g2)
            rw [all_true] at tr
            have es : (us.toArray.size == ws.toArray.size) = true := by simp only [List.size_toArray, beq_iff_eq]; omega
            rw [es] at tr
            exact tr
    | lst l =>
      cases h1 with
      | lst q1 p1 =>
        cases h2 with
        | lst q2 p2 =>
          rename_i a xs b ys
          cases r1; cases r2
          by_cases e : a = b
          · subst e; exact .same
          · obtain ⟨us, v1, t1, _⟩ := I.list q1
            obtain ⟨ws, v2, t2, _⟩ := I.list q2
            have l1 := p1.len
            have l2 := p2.len
            have k1 := v1.length
            have k2 := v2.length
            have tr := PySem.W.EqTree.lists (prog := X.prog) (w := X.w) (n := n) (e := fun _ => true) e t1.isList t2.isList (by simp only [List.size_toArray]; omega) (fun j h1 h2 => by
              simp only [List.size_toArray] at h1 h2
              obtain ⟨d1, e1, z1⟩ := p1.at (i := j) (x := xs[j]'(by omega)) (List.getElem?_eq_getElem _)
              obtain ⟨d2, e2, z2⟩ := p2.at (i := j) (x := ys[j]'(by omega)) (List.getElem?_eq_getElem _)
              rw [e1] at e2; cases e2
              obtain ⟨w1, f1, g1⟩ := v1.get (i := j) (x := xs[j]'(by omega)) (List.getElem?_eq_getElem _)
              obtain ⟨w2, f2, g2⟩ := v2.get (i := j) (x := ys[j]'(by omega)) (List.getElem?_eq_getElem _)
              rw [List.getElem?_eq_getElem h1] at f1; cases f1
              rw [List.getElem?_eq_getElem h2] at f2; cases f2
              have hdd := depth_mem (List.mem_of_getElem? e1)
              unfold D.depth at hd
              exact ih d1 _ _ _ _ (by omega) z1 z2 g1 g2)
            rw [all_true] at tr
            exact tr
    | dic l =>
      cases h1 with
      | dic q1 p1 nd1 =>
        cases h2 with
        | dic q2 p2 nd2 =>
          rename_i a xs b ys
          cases r1; cases r2
          by_cases e : a = b
          · subst e; exact .same
          · obtain ⟨s1, vs1, k1, d1⟩ := dict_at I q1
            obtain ⟨s2, vs2, k2, d2⟩ := dict_at I q2
            have there : ∀ k v, (k, v) ∈ vs1 → ∃ n d x y, k = Sum.inr n ∧ (n, d) ∈ l ∧ Rp X.K H x d ∧ RelV x v ∧ valV ys k = some y ∧ Rp X.K H y d := fun k v m => by
              obtain ⟨x, m1, rx⟩ := kv_mem k1 m
              obtain ⟨n, d, e1, m2, rp⟩ := p1.mem m1
              obtain ⟨y, e2, rp2⟩ := p2.val nd1 m2
              exact ⟨n, d, x, y, e1, m2, rp, rx, by rw [e1]; exact e2, rp2⟩
            have tr := PySem.W.EqTree.dicts (prog := X.prog) (w := X.w) (knd := mixKind X.prog X.w) (n := n) (e := fun _ => true) e s1 s2 d1 d2 (fun k v y' m hv => by
              obtain ⟨nm, d, x, y, e1, m2, rp, rx, e2, rp2⟩ := there k v m
              have ro := k2.val k
              rw [e2, hv] at ro
              have hdd := depth_memKv m2
              unfold D.depth at hd
              exact ih d x y v y' (by omega) rp rp2 rx ro)
            have hl : (vs1.length == vs2.length) = true := by
              have := p1.len; have := p2.len; have := k1.length; have := k2.length
              simp only [beq_iff_eq]; omega
            have ha : (vs1.all fun p => (valueAt vs2 p.1).isSome && true) = true := List.all_eq_true.mpr fun p hp => by
              obtain ⟨nm, d, x, y, e1, m2, rp, rx, e2, rp2⟩ := there p.1 p.2 hp
              have ro := k2.val p.1
              rw [e2] at ro
              obtain ⟨z, hz, _⟩ := ro.some_of
              rw [hz]; rfl
            rw [hl, ha] at tr
            exact tr
end
/-- a == b, a != b of the same data (a list, a tuple, a dict) -/
def rEqS (K : PySem.W.Frag) : R2 := fun x y H Q => ∃ d : D, Rp K H x d ∧ Rp K H y d ∧ d.depth ≤ 60 ∧ 1 ≤ d.depth ∧ Q (.bl true) H
def rNeS (K : PySem.W.Frag) : R2 := fun x y H Q => ∃ d : D, Rp K H x d ∧ Rp K H y d ∧ d.depth ≤ 60 ∧ (match d with | .lst _ => True | .dic _ => True | _ => False) ∧ Q (.bl false) H
section
variable {X : Cx}
theorem op_eqS {K : PySem.W.Frag} (h : X.K = K) (hu : X.A.units + 64 < cLine) : OpR X (compareOp .Eq) (rEqS K) := by
  subst h
  intro pins s σ H x y v u Q I rx ry h
  obtain ⟨d, hx, hy, hd, h1, q⟩ := h
  have sub := fun (d' : D) (x' y' : V) (v' u' : Value) (hd' : d'.depth ≤ 60) h1 h2 r1 r2 => (tree_eq I 60 d' x' y' v' u' hd' h1 h2 r1 r2).at X.A.in1 (by show X.A.units + 1 + 60 < cLine; omega)
  cases d with
  | non => unfold D.depth at h1; omega
  | bl b => unfold D.depth at h1; omega
  | int i => unfold D.depth at h1; omega
  | str x => unfold D.depth at h1; omega
  | tup l =>
    cases hx with
    | tup q1 p1 =>
      cases hy with
      | tup q2 p2 =>
        rename_i a xs b ys
        cases rx; cases ry
        obtain ⟨us, v1, t1, _⟩ := I.tuple q1
        obtain ⟨ws, v2, t2, _⟩ := I.tuple q2
        have l1 := p1.len; have l2 := p2.len; have k1 := v1.length; have k2 := v2.length
        refine SeqAt.rcIn_tuples (e := fun _ => true) t1 t2 (by omega) (fun j h1 h2 => ?_) ?_
        · simp only [List.size_toArray] at h1 h2
          obtain ⟨d1, e1, z1⟩ := p1.at (i := j) (x := xs[j]'(by omega)) (List.getElem?_eq_getElem _)
          obtain ⟨d2, e2, z2⟩ := p2.at (i := j) (x := ys[j]'(by omega)) (List.getElem?_eq_getElem _)
          rw [e1] at e2; cases e2
          obtain ⟨w1, f1, g1⟩ := v1.get (i := j) (x := xs[j]'(by omega)) (List.getElem?_eq_getElem _)
          obtain ⟨w2, f2, g2⟩ := v2.get (i := j) (x := ys[j]'(by omega)) (List.getElem?_eq_getElem _)
          rw [List.getElem?_eq_getElem h1] at f1; cases f1
          rw [List.getElem?_eq_getElem h2] at f2; cases f2
          have hdd := depth_mem (List.mem_of_getElem? e1)
          unfold D.depth at hd
          exact sub d1 _ _ _ _ (by omega) z1 z2 g1 g2
        · rw [all_true]
          have es : (us.toArray.size == ws.toArray.size) = true := by simp only [List.size_toArray, beq_iff_eq]; omega
          rw [es]
          exact ⟨.bl true, H, I, rfl, q⟩
  | lst l =>
    cases hx with
    | lst q1 p1 =>
      cases hy with
      | lst q2 p2 =>
        rename_i a xs b ys
        cases rx; cases ry
        obtain ⟨us, v1, t1, _⟩ := I.list q1
        obtain ⟨ws, v2, t2, _⟩ := I.list q2
        have l1 := p1.len; have l2 := p2.len; have k1 := v1.length; have k2 := v2.length
        refine SeqAt.rcIn_lists (e := fun _ => true) t1.isList t2.isList (by simp only [List.size_toArray]; omega) (by omega) (fun j h1 h2 => ?_) ?_
        · simp only [List.size_toArray] at h1 h2
          obtain ⟨d1, e1, z1⟩ := p1.at (i := j) (x := xs[j]'(by omega)) (List.getElem?_eq_getElem _)
          obtain ⟨d2, e2, z2⟩ := p2.at (i := j) (x := ys[j]'(by omega)) (List.getElem?_eq_getElem _)
          rw [e1] at e2; cases e2
          obtain ⟨w1, f1, g1⟩ := v1.get (i := j) (x := xs[j]'(by omega)) (List.getElem?_eq_getElem _)
          obtain ⟨w2, f2, g2⟩ := v2.get (i := j) (x := ys[j]'(by omega)) (List.getElem?_eq_getElem _)
          rw [List.getElem?_eq_getElem h1] at f1; cases f1
          rw [List.getElem?_eq_getElem h2] at f2; cases f2
          have hdd := depth_mem (List.mem_of_getElem? e1)
          unfold D.depth at hd
          exact sub d1 _ _ _ _ (by omega) z1 z2 g1 g2
        · rw [all_true]
          exact ⟨.bl true, H, I, rfl, q⟩
  | dic l =>
    cases hx with
    | dic q1 p1 nd1 =>
      cases hy with
      | dic q2 p2 nd2 =>
        rename_i a xs b ys
        cases rx; cases ry
        obtain ⟨s1, vs1, k1, d1⟩ := dict_at I q1
        obtain ⟨s2, vs2, k2, d2⟩ := dict_at I q2
        have there : ∀ k v, (k, v) ∈ vs1 → ∃ n d x y, k = Sum.inr n ∧ (n, d) ∈ l ∧ Rp X.K H x d ∧ RelV x v ∧ valV ys k = some y ∧ Rp X.K H y d := fun k v m => by
          obtain ⟨x, m1, rx⟩ := kv_mem k1 m
          obtain ⟨n, d, e1, m2, rp⟩ := p1.mem m1
          obtain ⟨y, e2, rp2⟩ := p2.val nd1 m2
          exact ⟨n, d, x, y, e1, m2, rp, rx, by rw [e1]; exact e2, rp2⟩
        have ha : (vs1.all fun p => (valueAt vs2 p.1).isSome && true) = true := List.all_eq_true.mpr fun p hp => by
          obtain ⟨nm, d, x, y, e1, m2, rp, rx, e2, rp2⟩ := there p.1 p.2 hp
          have ro := k2.val p.1
          rw [e2] at ro
          obtain ⟨z, hz, _⟩ := ro.some_of
          rw [hz]; rfl
        have hl : (vs1.length == vs2.length) = true := by
          have := p1.len; have := p2.len; have := k1.length; have := k2.length
          simp only [beq_iff_eq]; omega
        have hits := PySem.W.KeqHitsIn.of (prog := X.prog) (w := X.w) (A := X.A.in1) (s := s) (kb := vs2) (e := fun _ => true) vs1 (fun k v y' m hv => by
          obtain ⟨nm, d, x, y, e1, m2, rp, rx, e2, rp2⟩ := there k v m
          have ro := k2.val k
          rw [e2, hv] at ro
          have hdd := depth_memKv m2
          unfold D.depth at hd
          exact sub d x y v y' (by omega) rp rp2 rx ro)
        rw [ha] at hits
        refine PySem.W.keq_eqIn (r := true) s1 s2 d1 d2 (by omega) (fun _ => hits) ?_
        rw [hl]
        exact ⟨.bl true, H, I, rfl, q⟩
theorem op_neS {K : PySem.W.Frag} (h : X.K = K) (hu : X.A.units + 64 < cLine) : OpR X (compareOp .NotEq) (rNeS K) := by
  subst h
  intro pins s σ H x y v u Q I rx ry h
  obtain ⟨d, hx, hy, hd, h1, q⟩ := h
  have sub := fun (d' : D) (x' y' : V) (v' u' : Value) (hd' : d'.depth ≤ 60) h1 h2 r1 r2 => (tree_eq I 60 d' x' y' v' u' hd' h1 h2 r1 r2).at X.A.in1 (by show X.A.units + 1 + 60 < cLine; omega)
  cases d with
  | non => exact h1.elim
  | bl b => exact h1.elim
  | int i => exact h1.elim
  | str x => exact h1.elim
  | tup l => exact h1.elim
  | lst l =>
    cases hx with
    | lst q1 p1 =>
      cases hy with
      | lst q2 p2 =>
        rename_i a xs b ys
        cases rx; cases ry
        obtain ⟨us, v1, t1, _⟩ := I.list q1
        obtain ⟨ws, v2, t2, _⟩ := I.list q2
        have l1 := p1.len; have l2 := p2.len; have k1 := v1.length; have k2 := v2.length
        refine SeqAt.lf_ne_lists (e := fun _ => true) t1.isList t2.isList (by simp only [List.size_toArray]; omega) (by omega) (fun j h1 h2 => ?_) ?_
        · simp only [List.size_toArray] at h1 h2
          obtain ⟨d1, e1, z1⟩ := p1.at (i := j) (x := xs[j]'(by omega)) (List.getElem?_eq_getElem _)
          obtain ⟨d2, e2, z2⟩ := p2.at (i := j) (x := ys[j]'(by omega)) (List.getElem?_eq_getElem _)
          rw [e1] at e2; cases e2
          obtain ⟨w1, f1, g1⟩ := v1.get (i := j) (x := xs[j]'(by omega)) (List.getElem?_eq_getElem _)
          obtain ⟨w2, f2, g2⟩ := v2.get (i := j) (x := ys[j]'(by omega)) (List.getElem?_eq_getElem _)
          rw [List.getElem?_eq_getElem h1] at f1; cases f1
          rw [List.getElem?_eq_getElem h2] at f2; cases f2
          have hdd := depth_mem (List.mem_of_getElem? e1)
          unfold D.depth at hd
          exact sub d1 _ _ _ _ (by omega) z1 z2 g1 g2
        · rw [all_true]
          exact ⟨.bl false, H, I, rfl, q⟩
  | dic l =>
    cases hx with
    | dic q1 p1 nd1 =>
      cases hy with
      | dic q2 p2 nd2 =>
        rename_i a xs b ys
        cases rx; cases ry
        obtain ⟨s1, vs1, k1, d1⟩ := dict_at I q1
        obtain ⟨s2, vs2, k2, d2⟩ := dict_at I q2
        have there : ∀ k v, (k, v) ∈ vs1 → ∃ n d x y, k = Sum.inr n ∧ (n, d) ∈ l ∧ Rp X.K H x d ∧ RelV x v ∧ valV ys k = some y ∧ Rp X.K H y d := fun k v m => by
          obtain ⟨x, m1, rx⟩ := kv_mem k1 m
          obtain ⟨n, d, e1, m2, rp⟩ := p1.mem m1
          obtain ⟨y, e2, rp2⟩ := p2.val nd1 m2
          exact ⟨n, d, x, y, e1, m2, rp, rx, by rw [e1]; exact e2, rp2⟩
        have ha : (vs1.all fun p => (valueAt vs2 p.1).isSome && true) = true := List.all_eq_true.mpr fun p hp => by
          obtain ⟨nm, d, x, y, e1, m2, rp, rx, e2, rp2⟩ := there p.1 p.2 hp
          have ro := k2.val p.1
          rw [e2] at ro
          obtain ⟨z, hz, _⟩ := ro.some_of
          rw [hz]; rfl
        have hl : (vs1.length == vs2.length) = true := by
          have := p1.len; have := p2.len; have := k1.length; have := k2.length
          simp only [beq_iff_eq]; omega
        have hits := PySem.W.KeqHitsIn.of (prog := X.prog) (w := X.w) (A := X.A.in1) (s := s) (kb := vs2) (e := fun _ => true) vs1 (fun k v y' m hv => by
          obtain ⟨nm, d, x, y, e1, m2, rp, rx, e2, rp2⟩ := there k v m
          have ro := k2.val k
          rw [e2, hv] at ro
          have hdd := depth_memKv m2
          unfold D.depth at hd
          exact sub d x y v y' (by omega) rp rp2 rx ro)
        rw [ha] at hits
        refine PySem.W.lf_ne_dicts (r := true) s1 s2 d1 d2 (by omega) (fun _ => hits) ?_
        rw [hl]
        exact ⟨.bl false, H, I, rfl, q⟩
end
end Lf

/-! # LfVals -/
set_option Elab.async false
set_option linter.all false
set_option maxRecDepth 100000
set_option maxHeartbeats 4000000
namespace Lf
open PySem L2
/-! ## values as data -/
def VlD : Vl → D
  | .tx s => .str s
  | .rws rs => .lst (rs.map fun r => .dic (r.map fun p => (p.1, .str p.2)))
def valsD (vals : List (Str × Vl)) : D := .dic (vals.map fun p => (p.1, VlD p.2))
theorem rowK_rp {K : PySem.W.Frag} {H : Hp} : ∀ (r : List (Str × Str)), RpKv K H (rowK r) (r.map fun p => (p.1, D.str p.2))
  | [] => .nil
  | p :: r => .cons (.str _) (rowK_rp r)
theorem rows_rp {K : PySem.W.Frag} {H : Hp} {xs : List V} {rs : List (List (Str × Str))} (h : Paired (RD H) xs rs) (nd : ∀ r ∈ rs, (r.map (·.1)).Nodup) : RpAll K H xs (rs.map fun r => D.dic (r.map fun p => (p.1, .str p.2))) := by
  induction h with
  | nil => exact .nil
  | @cons x r xs rs z _ ih =>
    obtain ⟨d, rfl, e⟩ := z
    refine .cons (.dic (.inl e) (rowK_rp r) ?_) (ih fun r' hr' => nd r' (List.mem_cons_of_mem _ hr'))
    rw [List.map_map]; exact nd r List.mem_cons_self
def ndV : Vl → Prop
  | .tx _ => True
  | .rws rs => ∀ r ∈ rs, (r.map (·.1)).Nodup
theorem RVl.rp {K : PySem.W.Frag} {H : Hp} {v : V} {vl : Vl} (h : RVl K H v vl) (nd : ndV vl) : Rp K H v (VlD vl) := by
  cases vl with
  | tx s => cases h; exact .str _
  | rws rs => obtain ⟨l, xs, rfl, q, p⟩ := h; exact .lst q (rows_rp p nd)
theorem RKv.rp {K : PySem.W.Frag} {H : Hp} {kvs : List (Key × V)} {vals : List (Str × Vl)} (h : Paired (RKv K H) kvs vals) (nd : ∀ p ∈ vals, ndV p.2) : RpKv K H kvs (vals.map fun p => (p.1, VlD p.2)) := by
  induction h with
  | nil => exact .nil
  | @cons x r xs rs z _ ih =>
    obtain ⟨k, v⟩ := x
    obtain ⟨e, q⟩ := z
    simp only at e
    subst e
    exact .cons (q.rp (nd r List.mem_cons_self)) (ih fun p hp => nd p (List.mem_cons_of_mem _ hp))
theorem RV.rp {K : PySem.W.Frag} {H : Hp} {v : V} {vals : List (Str × Vl)} (h : RV K H v vals) (n1 : (vals.map (·.1)).Nodup) (n2 : ∀ p ∈ vals, ndV p.2) : Rp K H v (valsD vals) := by
  obtain ⟨d, kvs, rfl, e, p⟩ := h
  refine .dic (.inl e) (RKv.rp p n2) ?_
  rw [List.map_map]; exact n1
theorem valsD_depth (vals : List (Str × Vl)) : (valsD vals).depth ≤ 60 ∧ 1 ≤ (valsD vals).depth := by
  have h1 : ∀ r : List (Str × Str), depthKv (r.map fun p => (p.1, D.str p.2)) = 0 := fun r => by
    induction r with
    | nil => rfl
    | cons p r ih => rw [List.map_cons]; unfold depthKv; rw [ih]; rfl
  have h2 : ∀ rs : List (List (Str × Str)), depthAll (rs.map fun r => D.dic (r.map fun p => (p.1, .str p.2))) ≤ 1 := fun rs => by
    induction rs with
    | nil => exact Nat.zero_le _
    | cons r rs ih =>
      rw [List.map_cons]; unfold depthAll; unfold D.depth; rw [h1]; exact Nat.max_le.mpr ⟨by omega, ih⟩
  have h3 : ∀ vl, (VlD vl).depth ≤ 2 := fun vl => by
    cases vl with
    | tx s => exact Nat.zero_le _
    | rws rs => unfold VlD D.depth; have := h2 rs; omega
  have h4 : depthKv (vals.map fun p => (p.1, VlD p.2)) ≤ 2 := by
    induction vals with
    | nil => exact Nat.zero_le _
    | cons r rs ih => rw [List.map_cons]; unfold depthKv; exact Nat.max_le.mpr ⟨h3 _, ih⟩
  unfold valsD D.depth
  omega
/-! ## a dict's own rows, the dict itself away -/
theorem rowK_ref {r : List (Str × Str)} {k : Key} {l : Addr} (h : (k, V.ref l) ∈ rowK r) : False := by
  unfold rowK at h
  obtain ⟨p, _, e⟩ := List.mem_map.mp h
  cases e
theorem paired_mem {α β : Type} {F : α → β → Prop} {xs : List α} {ys : List β} {y : β} (h : Paired F xs ys) (m : y ∈ ys) : ∃ x ∈ xs, F x y := by
  obtain ⟨i, hi, e⟩ := List.mem_iff_getElem.mp m
  obtain ⟨x, h1, h2⟩ := Paired.ats h (i := i) (y := y) (by rw [List.getElem?_eq_getElem hi, e])
  exact ⟨x, mem_at h1, h2⟩
theorem RV.own {K : PySem.W.Frag} {G : Hp} {v : V} {vals : List (Str × Vl)} (h : RV K G v vals) : ∃ d kvs, v = .ref d ∧ G d = some (.dK kvs) ∧ Paired (RKv K (hide G [d])) kvs vals := by
  obtain ⟨d, kvs, e, hd, p⟩ := h
  refine ⟨d, kvs, e, hd, Paired.of_at (Paired.len p) fun i x y h1 h2 => ?_⟩
  obtain ⟨y', e2, z1, z2⟩ := Paired.at p h1
  rw [h2] at e2; cases e2
  refine ⟨z1, ?_⟩
  obtain ⟨n, vl⟩ := y
  cases vl with
  | tx s => exact z2
  | rws rs =>
    obtain ⟨l, xs, e3, q, pr⟩ := z2
    have nd : ∀ a, a ∈ [d] → ∀ o, G a = some o → o = .dK kvs := fun a ha o eo => by
      simp at ha; subst ha; rw [hd] at eo; exact (Option.some.inj eo).symm
    refine ⟨l, xs, e3, ?_, Paired.of_at (Paired.len pr) fun j x2 r2 g1 g2 => ?_⟩
    · rcases q with (q | ⟨o, q⟩) | q
      · exact .inl (.inl (by rw [hide_out fun m => by have := nd _ m _ q; cases this]; exact q))
      · exact .inl (.inr ⟨o, by rw [hide_out fun m => by have := nd _ m _ q; cases this]; exact q⟩)
      · exact .inr q
    · obtain ⟨r3, e4, d3, e5, e6⟩ := Paired.at pr g1
      rw [g2] at e4; cases e4
      refine ⟨d3, e5, ?_⟩
      rw [hide_out fun m => ?_]; exact e6
      have e7 := nd _ m _ e6
      have e8 : rowK r2 = kvs := by cases e7; rfl
      have m1 := mem_at h1
      obtain ⟨k, w⟩ := x
      simp only at e3
      subst e3
      rw [← e8] at m1
      exact rowK_ref m1
section
variable (K : PySem.W.Frag)
def sp__law_copy : Sp := fun vs H Q _ => ∃ (v : V) (vals : List (Str × Vl)) (G : Hp), vs = [v] ∧ Same G H ∧ RV K G v vals ∧ (vals.map (·.1)).Nodup ∧ vals.length ≤ 100 ∧
  (∀ p ∈ vals, ∀ rs, p.2 = .rws rs → rs.length ≤ 100) ∧ Ret G H (fun v G' => RV K G' v vals) Q
end
end Lf
namespace Lf
open PySem L2
theorem SqL.ty {K : PySem.W.Frag} {H : Hp} {a : Addr} {xs : List V} (h : SqL K H a xs) : TyX K H (.ref a) (.type "list") := by
  rcases h with (h | ⟨o, h⟩) | ⟨o, its, n, h1, h2, _⟩
  · exact .base (.lst h)
  · exact .base (.frz h)
  · exact .kList h1 h2
/-- a dict was walked: it is free again -/
theorem Wd.unlock {G H G2 H2 : Hp} {d : Addr} {o u : HO} (gh : Same G H) (hd : G d = some o) (W : Wd (hide G [d]) (upd H d u) G2 H2) (e : H2 d = some u) : Wd G H (upd G2 d o) (upd H2 d o) := by
  refine ⟨fun b v hb => ?_, fun b v hb => ?_, fun b v hb => ?_, fun b v h1 h2 => ?_⟩
  · by_cases q : b = d
    · subst q; rw [upd_same]; rw [hd] at hb; exact hb
    · rw [upd_ne q]; exact W.gg _ _ (by rw [hide_out (by simpa using q)]; exact hb)
  · by_cases q : b = d
    · subst q; rw [upd_same] at hb ⊢; exact hb
    · rw [upd_ne q] at hb ⊢; exact W.gh _ _ hb
  · by_cases q : b = d
    · subst q; rw [gh _ _ hd] at hb; rw [upd_same]; exact hb
    · rw [upd_ne q]; exact W.hh _ _ (by rw [upd_ne q]; exact hb)
  · have q : b ≠ d := fun z => by subst z; rw [hd] at h2; cases h2
    rw [upd_ne q]; exact W.nw b v (by rw [upd_ne q]; exact h1) (by rw [hide_out (by simpa using q)]; exact h2)
theorem upd_comm {H : Hp} {a b : Addr} {o u : HO} (h : a ≠ b) : upd (upd H a o) b u = upd (upd H b u) a o := by
  funext c
  by_cases e1 : c = a
  · subst e1; rw [upd_ne h, upd_same, upd_same]
  · by_cases e2 : c = b
    · subst e2; rw [upd_same, upd_ne e1, upd_same]
    · rw [upd_ne e2, upd_ne e1, upd_ne e1, upd_ne e2]
theorem look_mem {α : Type} {l : List (Str × α)} {n : Str} {v : α} (nd : (l.map (·.1)).Nodup) (h : (n, v) ∈ l) : look n l = some v := by
  induction l with
  | nil => cases h
  | cons p r ih =>
    unfold look at *
    rw [List.map_cons, List.nodup_cons] at nd
    rw [List.find?_cons]
    rcases List.mem_cons.mp h with e | h
    · subst e; rw [decide_eq_true rfl]; rfl
    · have ne : ¬ p.1 = n := fun e => nd.1 (by rw [e]; exact List.mem_map.mpr ⟨(n, v), h, rfl⟩)
      rw [decide_eq_false ne]
      exact ih nd.2 h
theorem look_take {α : Type} {l : List (Str × α)} {i : Nat} {n : Str} {v : α} (nd : (l.map (·.1)).Nodup) (h : l[i]? = some (n, v)) : look n (l.take i) = none := by
  rw [look_keys]
  have e := take_snoc h
  have s : ((l.take (i + 1)).map (·.1)).Nodup := nd.sublist ((take_sub l (i + 1)).map _)
  rw [e, List.map_append, List.nodup_append] at s
  intro m
  exact s.2.2 n m n (by simp) rfl
theorem putK_last {kvs : List (Key × V)} {k : Key} {v u : V} (h : valV kvs k = none) : putK (kvs ++ [(k, v)]) k u = kvs ++ [(k, u)] := by
  have h1 : ∀ p ∈ kvs, p.1 ≠ k := fun p hp e => by
    induction kvs with
    | nil => cases hp
    | cons q r ih =>
      by_cases z : q.1 = k
      · rw [valV_pos z] at h; cases h
      · rw [valV_neg z] at h
        rcases List.mem_cons.mp hp with e2 | hp
        · subst e2; exact z e
        · exact ih h hp
  unfold putK
  rw [if_pos (by rw [List.any_append]; simp), List.map_append]
  congr 1
  · conv => rhs; rw [← List.map_id kvs]
    exact List.map_congr_left fun p hp => by rw [if_neg (h1 p hp)]; rfl
  · simp
end Lf

namespace Lf
open PySem L2
/-! ## a heap without dicts -/
def noD (H : Hp) : Hp := fun a => match H a with
  | some (.dK _) => none
  | o => o
theorem noD_out {H : Hp} {a : Addr} (h : ∀ kvs, H a ≠ some (.dK kvs)) : noD H a = H a := by
  unfold noD
  split
  · next e => exact absurd e (h _)
  · rfl
theorem noD_in {H : Hp} {a : Addr} {kvs : List (Key × V)} (h : H a = some (.dK kvs)) : noD H a = none := by unfold noD; rw [h]
theorem noD_same (H : Hp) : Same (noD H) H := fun a o e => by
  unfold noD at e
  split at e
  · cases e
  · exact e
theorem SqL.noD {K : PySem.W.Frag} {H : Hp} {a : Addr} {xs : List V} (h : SqL K H a xs) : SqL K (noD H) a xs := by
  rcases h with (h | ⟨o, h⟩) | h
  · exact .inl (.inl (by rw [noD_out fun _ e => by rw [h] at e; cases e]; exact h))
  · exact .inl (.inr ⟨o, by rw [noD_out fun _ e => by rw [h] at e; cases e]; exact h⟩)
  · exact .inr h
theorem SqT.noD {K : PySem.W.Frag} {H : Hp} {a : Addr} {xs : List V} (h : SqT K H a xs) : SqT K (noD H) a xs := by
  rcases h with (h | ⟨o, h⟩) | h
  · exact .inl (.inl (by rw [noD_out fun _ e => by rw [h] at e; cases e]; exact h))
  · exact .inl (.inr ⟨o, by rw [noD_out fun _ e => by rw [h] at e; cases e]; exact h⟩)
  · exact .inr h
theorem R0.noD {K : PySem.W.Frag} {H : Hp} {v : V} {p : P0} (h : R0 K H v p) : R0 K (noD H) v p := by
  obtain ⟨a, e, t⟩ := h; exact ⟨a, e, SqT.noD t⟩
theorem RP.noD {K : PySem.W.Frag} {H : Hp} {v : V} {p : Pc} (h : RP K H v p) : RP K (noD H) v p := by
  cases p with
  | p0 p => exact R0.noD h
  | rows nm ps gap lo hi =>
    obtain ⟨a, l, xs, e, t, q, r⟩ := h
    exact ⟨a, l, xs, e, SqT.noD t, SqL.noD q, Paired.monoP r fun _ _ z => R0.noD z⟩
/-! ## names -/
theorem piece_names (ns : List Int) (k : Int) (nm : Str) (most : Int) {ips : List P0} {n gap : Str} {lo hi : Int} (h : pieceP ns k nm most = .rows n ips gap lo hi) : ∀ q ∈ ips, ∀ m, nm0 q = some m → m ∈ nmI := by
  unfold pieceP at h
  split at h
  · cases h
  · split at h
    · cases h
    · injection h with _ h2
      subst h2
      intro q hq m e
      obtain ⟨j, hj, rfl⟩ := mem_map_range hq
      have hs := inner_size ns (k + 2) (many := 3) (by decide) (by decide)
      rcases innerAt_nm ns (k + 2) most j with z | z
      · rw [z] at e; cases e
      · rw [z] at e; cases e; exact getD_mem (by have h3 : (3 : Int).toNat = 3 := rfl; show j < 3; omega)
theorem pieces_names (ns : List Int) (many most : Int) : ∀ p ∈ piecesP ns many most, (∀ n, nmP p = some n → n ∈ nmO) ∧ ∀ nm ips gap lo hi, p = .rows nm ips gap lo hi → ∀ q ∈ ips, ∀ m, nm0 q = some m → m ∈ nmI := fun p hp => by
  obtain ⟨j, hj, rfl⟩ := mem_map_range hp
  refine ⟨fun n e => ?_, fun nm ips gap lo hi e => piece_names ns _ _ most e⟩
  rcases pieceP_nm ns (10 + 20 * (j : Nat)) (pick nmO ((j : Nat) + draw ns 2)) most with z | z
  · unfold pieceAt at e; rw [z] at e; cases e
  · unfold pieceAt at e; rw [z] at e; cases e; exact pick_mem nmO _ (by decide)
theorem none_I : ("none" : Str) ∉ nmI := by decide +kernel
theorem none_O : ("none" : Str) ∉ nmO := by decide +kernel
def NN (ps : List Pc) : Prop := ∀ p ∈ ps, nmP p ≠ some ("none" : Str) ∧ ∀ nm ips gap lo hi, p = .rows nm ips gap lo hi → ∀ q ∈ ips, nm0 q ≠ some ("none" : Str)
theorem pieces_NN (ns : List Int) (many most : Int) : NN (piecesP ns many most) := fun p hp => by
  have h := pieces_names ns many most p hp
  exact ⟨fun e => none_O (h.1 _ e), fun nm ips gap lo hi e q hq e2 => none_I (h.2 nm ips gap lo hi e q hq _ e2)⟩
/-! ## names beside -/
def rowLe (r r' : List (Str × Str)) : Prop := r' = r ∨ r' = r ++ [(("none" : Str), ("?" : Str))]
def VLe : Vl → Vl → Prop
  | .tx s, vl => vl = .tx s
  | .rws rs, vl => ∃ rs', vl = .rws rs' ∧ Paired rowLe rs rs'
def PLe (p q : Str × Vl) : Prop := p.1 = q.1 ∧ VLe p.2 q.2
theorem Paired.pick {α β γ : Type} {F : α → β → Prop} {R : α → γ → Prop} {L : β → γ → Prop} {xs : List α} {ys : List β} (h : Paired F xs ys) (f : ∀ x y, x ∈ xs → y ∈ ys → F x y → ∃ z, R x z ∧ L y z) : ∃ zs, Paired R xs zs ∧ Paired L ys zs := by
  induction h with
  | nil => exact ⟨[], .nil, .nil⟩
  | @cons x y xs ys z _ ih =>
    obtain ⟨zs, h1, h2⟩ := ih fun x y hx hy => f x y (List.mem_cons_of_mem _ hx) (List.mem_cons_of_mem _ hy)
    obtain ⟨w, w1, w2⟩ := f x y List.mem_cons_self List.mem_cons_self z
    exact ⟨w :: zs, .cons w1 h1, .cons w2 h2⟩
theorem PLe.keys {a b : List (Str × Vl)} (h : Paired PLe a b) : b.map (·.1) = a.map (·.1) := by
  induction h with
  | nil => rfl
  | cons z _ ih => rw [List.map_cons, List.map_cons, ih, z.1]
theorem PLe.look {a b : List (Str × Vl)} (h : Paired PLe a b) (n : Str) : ∀ vl, look n a = some vl → ∃ vl', look n b = some vl' ∧ VLe vl vl' := by
  induction h with
  | nil => intro vl e; cases e
  | @cons p q ps qs z _ ih =>
    intro vl e
    unfold Lf.look at *
    rw [List.find?_cons] at e ⊢
    by_cases en : p.1 = n
    · rw [decide_eq_true en] at e
      rw [← z.1, decide_eq_true en]
      cases e
      exact ⟨_, rfl, z.2⟩
    · rw [decide_eq_false en] at e
      rw [← z.1, decide_eq_false en]
      exact ih vl e
theorem look_app {α : Type} {n : Str} {a b : List (Str × α)} (h : look n b = none) : look n (a ++ b) = look n a := by
  unfold look at *
  rw [List.find?_append]
  cases e : List.find? (fun p => decide (p.1 = n)) a with
  | some x => rfl
  | none =>
    rw [Option.map_eq_none_iff] at h
    rw [h]; rfl
theorem look_none1 {α : Type} {n m : Str} {v : α} (h : m ≠ n) : look n [(m, v)] = none := by
  unfold look; rw [List.find?_cons, decide_eq_false h]; rfl
theorem rowLe.look {r r' : List (Str × Str)} (h : rowLe r r') {n : Str} (hn : n ≠ "none") : look n r' = look n r := by
  rcases h with rfl | rfl
  · rfl
  · exact look_app (look_none1 (Ne.symm hn))
theorem fits_le {vals vals' : List (Str × Vl)} {ps : List Pc} (nn : NN ps) (h : Paired PLe (vals ++ [(("none" : Str), Vl.tx "?")]) vals') {p : Pc} (hp : p ∈ ps) (hf : fitsP vals p) : fitsP vals' p := by
  have n1 := (nn p hp).1
  cases p with
  | p0 p =>
    cases p with
    | say t => trivial
    | ask nm sg lo hi =>
      obtain ⟨s, e, f⟩ := hf
      have ne : ("none" : Str) ≠ nm := fun z => n1 (by rw [z]; rfl)
      obtain ⟨vl', e2, le⟩ := PLe.look h nm (.tx s) (by rw [look_app (look_none1 ne)]; exact e)
      exact ⟨s, by rw [e2]; exact congrArg some le, f⟩
  | rows nm ips gap lo hi =>
    obtain ⟨rs, e, f1, f2, f3⟩ := hf
    have ne : ("none" : Str) ≠ nm := fun z => n1 (by rw [z]; rfl)
    obtain ⟨vl', e2, rs', rfl, pr⟩ := PLe.look h nm (.rws rs) (by rw [look_app (look_none1 ne)]; exact e)
    have hl := Paired.len pr
    refine ⟨rs', e2, by omega, by omega, fun r' hr' p hp2 => ?_⟩
    obtain ⟨r, hr, le⟩ := paired_mem pr hr'
    have := f3 r hr p hp2
    cases p with
    | say t => trivial
    | ask n2 sg lo hi =>
      obtain ⟨s, e3, f4⟩ := this
      exact ⟨s, by rw [le.look fun z => (nn _ hp).2 nm ips gap _ _ rfl _ hp2 (by rw [← z]; rfl)]; exact e3, f4⟩
theorem rowK_inj {r r' : List (Str × Str)} (h : rowK r = rowK r') : r = r' := by
  induction r generalizing r' with
  | nil => cases r' with
    | nil => rfl
    | cons => cases h
  | cons p r ih => cases r' with
    | nil => cases h
    | cons q r' =>
      unfold rowK at h
      rw [List.map_cons, List.map_cons] at h
      injection h with h1 h2
      obtain ⟨a, b⟩ := p
      obtain ⟨c, d⟩ := q
      cases h1
      rw [ih h2]
theorem val_names (ns : List Int) (s : Int) (ps : List Pc) : (valuesP ns s ps).map (·.1) = nms ps := by
  have h := val_keys ns s ps ps.length (Nat.le_refl _)
  rw [List.take_length] at h
  exact h
theorem row_names (ns : List Int) (k : Int) (ps : List P0) : (rowP ns k ps).map (·.1) = nms0 ps := by
  have h := row_keys ns k ps ps.length (Nat.le_refl _)
  rw [List.take_length] at h
  exact h
/-- what stands in drawn values -/
theorem values_mem {ns : List Int} {s : Int} {ps : List Pc} (ok : okF ps) {q : Str × Vl} (h : q ∈ valuesP ns s ps) : (∃ sg lo hi t, Pc.p0 (.ask q.1 sg lo hi) ∈ ps ∧ q.2 = .tx t) ∨
    ∃ ips gap lo hi rs, Pc.rows q.1 ips gap lo hi ∈ ps ∧ q.2 = .rws rs ∧ rs.length ≤ 3 ∧ ∀ r ∈ rs, r.map (·.1) = nms0 ips := by
  unfold valuesP at h
  obtain ⟨k, hk, e⟩ := List.mem_filterMap.mp h
  have hk := List.mem_range.mp hk
  rw [List.getElem?_eq_getElem hk] at e
  have hm : ps[k] ∈ ps := List.getElem_mem hk
  cases hp : ps[k] with
  | p0 p =>
    rw [hp] at e hm
    cases p with
    | say t => cases e
    | ask nm sg lo hi => cases e; exact .inl ⟨sg, lo, hi, _, hm, rfl⟩
  | rows nm ips gap lo hi =>
    rw [hp] at e hm
    cases e
    refine .inr ⟨ips, gap, lo, hi, _, hm, rfl, ?_, fun r hr => ?_⟩
    · rw [List.length_map, List.length_range]
      obtain ⟨_, _, _, _, _, _, _, l0, lh, h3⟩ := ok.ok _ hm
      have ws := word_size (ns := ns) (k := s + 90 * k) l0 lh
      omega
    · obtain ⟨j, hj, rfl⟩ := mem_map_range hr
      exact row_names ns _ ips
theorem nms_mem {ps : List Pc} {p : Pc} {n : Str} (h : p ∈ ps) (e : nmP p = some n) : n ∈ nms ps := List.mem_filterMap.mpr ⟨p, h, e⟩
/-- a form, just made -/
theorem form_mk {K : PySem.W.Frag} {H3 H4 : Hp} {x dx C f0 : Addr} {ys zs : List V} {ps : List Pc} (cF : CF K C) (k4 : Keep H3 H4) (hX4 : H4 x = some (.ins C dx (putF "pieces" (.ref f0) []))) (hf4 : H4 f0 = some (.lst zs)) (hzl : zs.length = ys.length)
    (hP : Paired (RP K H3) ys ps) (hC : ∀ (i : Nat) y z p, ys[i]? = some y → zs[i]? = some z → ps[i]? = some p → CopyE K H3 H4 y z p) : FormAt K H4 x ps := by
  have hl := Paired.len hP
  refine ⟨C, dx, f0, zs, cF.1, cF.2, hX4, SqL.of hf4, Paired.of_at (by omega) fun i z p h1 h2 => ?_⟩
  have hi : i < ys.length := by have := at_lt h1; omega
  exact (hC i _ z p (List.getElem?_eq_getElem hi) h1 h2).rp k4
end Lf

/-! # LfExc -/
set_option Elab.async false
set_option linter.all false
set_option maxRecDepth 100000
set_option maxHeartbeats 4000000
namespace Lf
open PySem PySem.Spec PyProof.Rows L2
/-! ## an exception that was caught and is kept -/
/-- at a: an exception of the class cls, its own dict d -/
def ExH (cls : Value) (d : Option Addr) (a : Addr) : HO := .ext fun h => ∃ (ob : Obj) (fs : Array Value), h.get? a = some ob ∧ Zc cls d ob ∧ ob.data = .fields fs
theorem exH_ok {P : Program} {w : World} {H : Hp} {h : Heap} {a : Addr} {cls : Value} {d : Option Addr} {ob : Obj} {fs : Array Value} (e : h.get? a = some ob) (z : Zc cls d ob) (f : ob.data = .fields fs) : ObjOk P w H h a (ExH cls d a) :=
  ⟨⟨ob, fs, e, z, f⟩, ⟨ob, e⟩, fun _ _ ⟨o, v, q, r⟩ k => ⟨o, v, k o q, r⟩⟩
section
variable {X : Cx} {pins : List (Addr × Obj)} {σ : L2.St} {H : Hp} {s : Shared}
theorem inv_track {a : Addr} {ob : Obj} {fs : Array Value} {cls : Value} {d : Option Addr} (I : Inv X pins σ H s) (ha : s.heap.get? a = some ob) (hz : Zc cls d ob) (hf : ob.data = .fields fs) (na : H a = none)
    (n0 : X.s_0.heap.get? a = none) (nL : a ≠ X.env.locals) (hp : ∀ p ∈ X.pn ++ pins, p.1 ≠ a) : Inv X pins σ (upd H a (ExH cls d a)) s where
  ok := I.ok
  os := I.os
  bare := I.bare
  base := by
    refine ⟨I.base.keep, I.base.slot, fun b o e n hx => ?_, I.base.there, fun b ys e => ?_, fun b o u e => ?_, fun b ps e => ?_⟩
    · rw [upd_ne fun z => by rw [z, n0] at e; cases e]
      exact I.base.free b o e n hx
    · have q := I.base.tups b ys e
      rw [upd_ne (ne_of_none q na)]; exact q
    · have q := I.base.frzs b o u e
      rw [upd_ne (ne_of_none q na)]; exact q
    · obtain ⟨m, q⟩ := I.base.tbls b ps e
      exact ⟨m, (upd_ne (ne_of_none q na)).trans q⟩
  loc := I.loc
  cell := I.cell
  free := (upd_ne nL.symm).trans I.free
  freeC := fun x c e => by
    have hc : c ≠ a := fun z => by
      obtain ⟨v, o, ho, hd⟩ := I.cell x c e
      rw [z, ha] at ho; cases ho
      rw [hf] at hd; cases hd
    exact (upd_ne hc).trans (I.freeC x c e)
  pin := fun p m => by
    obtain ⟨e1, e2, e3⟩ := I.pin p m
    exact ⟨e1, (upd_ne (hp p m)).trans e2, e3⟩
  hok := fun b u e => by
    by_cases hb : b = a
    · subst hb
      rw [upd_same] at e
      cases e
      exact exH_ok ha hz hf
    · rw [upd_ne hb] at e
      exact (I.hok b u e).stay (fun c v _ q => q) (fun c q => by rw [upd_ne (ne_of_none q na)]; exact q) fun c ys q => by rw [upd_ne (ne_of_none q na)]; exact q
  len := I.len
theorem inv_suite {a : Addr} (I : Inv X pins σ H s) : Inv (X.suite a (X.pn ++ pins)) [] σ H s where
  ok := I.ok.suite _ _
  os := I.os
  bare := I.bare
  base := I.base
  loc := I.loc
  cell := I.cell
  free := I.free
  freeC := I.freeC
  pin := fun p m => I.pin p (by rw [List.append_nil] at m; exact m)
  hok := I.hok
  len := I.len
theorem inv_unsuite {a : Addr} {pn' : List (Addr × Obj)} (I : Inv (X.suite a (X.pn ++ pins)) pn' σ H s) (ok : X.Ok) : Inv X pins σ H s where
  ok := ok
  os := I.os
  bare := I.bare
  base := I.base
  loc := I.loc
  cell := I.cell
  free := I.free
  freeC := I.freeC
  pin := fun p m => I.pin p (List.mem_append_left _ m)
  hok := I.hok
  len := I.len
end
/-- what 'except x as n' wishes, the exception being kept: slot i is n's -/
def wAsT (K : PySem.W.Frag) (c : Value) (i : Nat) (ts : TS) (Wout : WX) (D : Ends) : WX := fun cls d σ H =>
  ∃ b, PySem.W.exmOne K cls c = some b ∧
    (b = true → ∀ a, H a = none → ts ⟨fun σ' H' => D.nx (σ'.set i none) H', D.rt, fun σ' H' => D.bk (σ'.set i none) H', fun σ' H' => D.ct (σ'.set i none) H'⟩ (σ.set i (some (.ref a))) (upd H a (ExH cls d a))) ∧
    (b = false → Wout cls d σ H)
section
variable {X : Cx} {x n : Str} {c : Value} {i : Nat} {body suite : List Stmt} {b₀ : Stmt} {np pos pos' : Pos} {tb : WX → TS} {ts : TS} {Wout : WX}
theorem ps_try_asT (hs : X.stack = X.env :: X.outer) (hf : X.env.frame = some X.env.locals) (hex : X.ex = []) (hN : X.N.Nodup) (hi : X.N[i]? = some n) (hln : X.env.kindOf n = some .local) (hc : Names X x c) (tk : Takes X Wout)
    (hb : ∀ (W : WX) (pn : List (Addr × Obj)) (xe : Value → Shared → Prop), Takes (X.tr pn xe) W → PassesOwn (model X.prog X.w) X.A X.env xe → PSs (X.tr pn xe) body (tb W))
    (hsu : ∀ (a : Addr) (pn : List (Addr × Obj)), PSs (X.suite a pn) (b₀ :: suite) ts) :
    PS X (.Try body [.ExceptHandler (some (.Name x np)) (some n) (b₀ :: suite) pos'] [] [] pos) (fun D σ H => tb (wAsT X.K c i ts Wout D) D σ H) := by
  refine ⟨fun pins s σ H D I h => wpAny_Try_except ?_⟩
  have ok := I.ok
  have hfr : X.A.frames = some (X.env :: X.outer) := ok.frames.trans (congrArg some hs)
  refine wpAny_mono ((hb (wAsT X.K c i ts Wout D) (X.pn ++ pins)
    (fun e t1 => wpAny (model X.prog X.w) X.A (noteFrame e X.env) (fun _ t2 => wpAny (model X.prog X.w) X.A (setFlight e none)
      (fun _ t3 => wpAny (model X.prog X.w) X.A (handleBy e X.env [.ExceptHandler (some (.Name x np)) (some n) (b₀ :: suite) pos']) (SP X pins D) X.xe t3) X.xe t2) X.xe t1)
    (fun u s' air => ?_) PassesOwn.looking).run [] s σ H D (I.toTry _) h) (fun f s1 q => ?_) (fun _ _ z => z)
  · obtain ⟨a, B, sI, pn1, σ1, H1, cls, d, rfl, J0, nb, up, sky, na, os, ag, b, hb1, yes, no⟩ := air
    have J := J0.ofTry ok
    have sky1 : Sky B (X.env :: X.outer) a (Zc cls d) X.env.locals s'.heap := hs ▸ sky
    show wpAny (model X.prog X.w) X.A (noteFrame (.ref a) X.env) _ _ _
    refine Sky.land Zc.steady hfr hf sky1 fun h3 fl3 up3 => ?_
    have J3 : Inv X pins σ1 H1 { s' with heap := h3 } := J.landed nb fl3.1 (up.trans up3) os ag
    obtain ⟨o3, vs3, he3, hz3, hd3⟩ := fl3.there
    have nfr : a ∉ frs (X.env :: X.outer) := fun hm => by
      obtain ⟨_, o', e', hnf⟩ := fl3.2.2.1.mem hm
      rw [he3] at e'; cases e'
      exact hnf _ hd3
    have nL : a ≠ X.env.locals := fun z => nfr (List.mem_filterMap.mpr ⟨X.env, List.mem_cons_self, hf.trans (congrArg some z.symm)⟩)
    have nI : sI.heap.get? a = none := by
      cases e : sI.heap.get? a with
      | none => rfl
      | some o =>
        have z := nb a o e (by show a ∉ frs X.stack; rw [hs]; exact nfr)
        rw [fl3.2.1] at z; cases z
    have n0 : X.s_0.heap.get? a = none := by
      cases e : X.s_0.heap.get? a with
      | none => rfl
      | some o =>
        obtain ⟨o', z⟩ := J.base.there a o e (by rw [hex]; exact fun z => nomatch z)
        rw [nI] at z; cases z
    have np1 : ∀ p ∈ X.pn ++ pins, p.1 ≠ a := fun p hp z => by
      have e := (J.pin p hp).1
      rw [z, nI] at e; cases e
    refine wpAny_handleBy_cons (codeAny_handlers_test ?_) (by intro q; cases q)
    have LT : PySem.W.Looks (model X.prog X.w) h3 (typeOf (.ref a)) cls := fun A Q E t k q => wpAny_typeOf_ref (k _ _ he3) (by rw [hz3.1]; exact q)
    have LM := PySem.W.exm_one (M := model X.prog X.w) J3.kIn LT hb1
    have S3 : Inv (X.suite a (X.pn ++ pins)) [] σ1 H1 { s' with heap := h3 } := inv_suite J3
    have test : ∀ {Q : Value → Shared → Prop} {E : Value → Shared → Prop}, Q c { s' with heap := h3 } → wpAny (model X.prog X.w) (X.A.mark (some (.ref a))) (eval (.Name x np) X.env) Q E { s' with heap := h3 } := fun {Q E} q => by
      obtain ⟨hg, hdbg, hm | ⟨hm, hv, hnn⟩⟩ := hc
      · exact ld_glob (X := X.suite a (X.pn ++ pins)) S3 hg hm q hdbg
      · exact ld_blt (X := X.suite a (X.pn ++ pins)) S3 hg hm hv q hnn hdbg
    refine test (LM.here ?_)
    cases b with
    | true =>
      refine codeAny_handlers_suite_as (HandSPX.lands_againZ fl3 fun h4 fl4 up4 => ?_)
      have J4 : Inv X pins σ1 H1 { s' with heap := h4 } := J.landed nb fl4.1 ((up.trans up3).trans up4) os ag
      obtain ⟨o4, vs4, he4, hz4, hd4⟩ := fl4.there
      have S4 : Inv (X.suite a (X.pn ++ pins)) [] σ1 (upd H1 a (ExH cls d a)) { s' with heap := h4 } := inv_suite (inv_track J4 he4 hz4 hd4 na n0 nL np1)
      refine store_ok (X := X.suite a (X.pn ++ pins)) (v := .ref a) S4 hN hi (.inl hln) rfl (fun s5 S5 => ?_) (.inr hln)
      refine wpAny_mono ((hsu a (X.pn ++ pins)).run [] s5 _ _ _ S5 (yes rfl a na)) (fun f s6 q6 => ?_) (fun _ _ z => z.elim)
      have back : ∀ {σ6 : L2.St} {H6 : Hp} {Q : Shared → Prop}, Inv (X.suite a (X.pn ++ pins)) [] σ6 H6 s6 → (∀ s7, Inv X pins (σ6.set i none) H6 s7 → Q s7) →
          wpAny (model X.prog X.w) X.A (do bindName X.env n .none; unbindBehindTheSuite X.env n pos') (fun _ s7 => Q s7) X.xe s6 := fun {σ6 H6 Q} S6 hq => gone_ok (inv_unsuite S6 ok) hN hi hln hq
      cases f with
      | ret u =>
        obtain ⟨v6, σ6, H6, S6, r6, q7⟩ := q6
        exact back S6 fun s7 J7 => ⟨_, _, _, J7, r6, q7⟩
      | next =>
        obtain ⟨σ6, H6, S6, q7⟩ := q6
        exact back S6 fun s7 J7 => ⟨_, _, J7, q7⟩
      | brk =>
        obtain ⟨σ6, H6, S6, q7⟩ := q6
        exact back S6 fun s7 J7 => ⟨_, _, J7, q7⟩
      | cont =>
        obtain ⟨σ6, H6, S6, q7⟩ := q6
        exact back S6 fun s7 J7 => ⟨_, _, J7, q7⟩
    | false =>
      refine wpAny_handleBy_nil ?_
      obtain ⟨k1, k2, k3, oe, vs, T, oT, ts', he, hz, hd, h1, hr⟩ := id fl3
      unfold PySem.passOn
      refine wpAny_bind (wpAny_field he hd h1 ?_)
      rw [if_neg (show ¬ ((Value.ref T == Value.none) = true) from by simp)]
      have fin : wpAny (model X.prog X.w) X.A (setFlight (.ref a) X.env.frame) (fun _ t4 => wpAny (model X.prog X.w) X.A (throw (.ref a) : Sem Flow) (SP X pins D) X.xe t4) X.xe { s' with heap := h3 } := by
        rw [hf]
        exact HandSPX.setFlight_upZ fl3 fun h4 hh4 up4 => wpAny_throw (tk _ _ ⟨a, B, sI, pins, σ1, H1, cls, d, rfl, J, nb, (up.trans up3).trans up4, .inr (.inr (hs ▸ hh4)), na, os, ag, no rfl⟩)
      first
        | exact wpAny_bind (wpAny_pure (wpAny_bind fin))
        | exact wpAny_bind fin
  · cases f with
    | ret u =>
      obtain ⟨v, σ', H', J', r, q'⟩ := q
      exact ⟨v, σ', H', J'.ofTry ok, r, q'⟩
    | next =>
      obtain ⟨σ', H', J', q'⟩ := q
      exact wpAny_execs_nil ⟨σ', H', J'.ofTry ok, q'⟩
    | brk =>
      obtain ⟨σ', H', J', q'⟩ := q
      exact ⟨σ', H', J'.ofTry ok, q'⟩
    | cont =>
      obtain ⟨σ', H', J', q'⟩ := q
      exact ⟨σ', H', J'.ofTry ok, q'⟩
end

/-! ## isinstance of it, a field of it -/
structure XcC (K : PySem.W.Frag) (D : Addr) : Prop where
  cl : (PySem.W.clsIn K D).isSome = true
  ga : PySem.W.findIn K (.ref D) "__getattribute__" = some (some (.builtin "BaseException.__getattribute__"))
  gt : PySem.W.findIn K (.ref D) "__getattr__" = some none
  sb : PySem.W.subIn K (.ref D) (.type "BaseException") = some true
  ca : PySem.W.findIn K (.ref D) "__class__" = some (some (.builtin "object.__class__"))
  gs : PySem.W.specialIn K (.builtin "object.__class__") "__get__" = some (some (.builtin "getset_descriptor.__get__"))
  tk : PySem.W.takesIn K (.builtin "object.__class__") = some true
  ob : PySem.W.mroIn K D (.type "object") = some true
  hd : PySem.W.hasDictIn K D = true
def rIsX (K : PySem.W.Frag) : List V → Hp → VK → Prop := fun xs H Q => ∃ (a D : Addr) (d : Option Addr) (c : V) (u : Value) (b : Bool), xs = [.ref a, c] ∧ ClsV c u ∧ H a = some (ExH (.ref D) d a) ∧ (∀ e, d = some e → ∃ fs, H e = some (.xd fs)) ∧ XcC K D ∧
  PySem.W.kitOne K (.ref D) u = some b ∧ Q (.bl b) H
section
variable {X : Cx}
theorem inst_of {pins : List (Addr × Obj)} {σ : L2.St} {H : Hp} {s : Shared} {a D : Addr} {d : Option Addr} (I : Inv X pins σ H s) (ha : H a = some (ExH (.ref D) d a)) (hd : ∀ e, d = some e → ∃ fs, H e = some (.xd fs)) : ∃ ox od, PySem.W.InstAt s.heap a ox D od := by
  obtain ⟨⟨ox, vs, h1, h2, h3⟩, _⟩ := I.hok a _ ha
  have nc : PySem.W.notCls ox = true := by unfold PySem.W.notCls; rw [h3]
  cases d with
  | none => exact ⟨ox, none, h1, h2.1, nc, by rw [h2.2]; trivial⟩
  | some e =>
    obtain ⟨fs, he⟩ := hd e rfl
    obtain ⟨mA, hns, _⟩ := I.hok e _ he
    obtain ⟨od, ho, _⟩ := lookIn_ns hns
    exact ⟨ox, some od, h1, h2.1, nc, by rw [h2.2]; exact ho⟩
theorem call_isX : CallR X (.builtin "isinstance") (rIsX X.K) := by
  rintro pins s σ H xs us Q I r ⟨a, D, d, c, u, b, rfl, k, ha, hd, C, e, q⟩
  obtain ⟨u1, u2, rfl, r1, r2⟩ := vals2 r
  cases k.eq r2
  cases r1
  obtain ⟨ox, od, J⟩ := inst_of I ha hd
  exact PySem.W.kia_one (PySem.W.kitx_exc C.cl C.ga C.gt C.sb C.ca C.gs C.tk C.ob) I.kIn J e (fun z => nomatch z) fun tk => ⟨.bl b, H, I.tok tk, rfl, q⟩
theorem call_isX' {K : PySem.W.Frag} (h : X.K = K) : CallR X (.builtin "isinstance") (rIsX K) := by subst h; exact call_isX
/-- found.name, found an exception that was kept -/
def tXh (C : Addr) (f : Str) (te : TE) : TE := fun σ H Q => te σ H fun x H1 => ∃ (a dd : Addr) (fs : List (Str × V)) (v : V), x = .ref a ∧ H1 a = some (ExH (.ref C) (some dd) a) ∧ H1 dd = some (.xd fs) ∧ fs.lookup f = some v ∧ Q v H1
theorem pe_xh {C : Addr} {e : Expr} {te : TE} {pos : Pos} {n : Str} (T : XcC X.K C) (hno : PySem.W.findIn X.K (.ref C) n = some none) (he : PE X e te) (hb : attributeBase e n X.env (eval e X.env) = eval e X.env := by rfl) :
    PE X (.Attribute e n pos) (tXh C n te) := by
  refine ⟨fun pins s σ H Q I h => attr_of hb (thn (he.run pins s σ H _ I h) ?_)⟩
  rintro u s1 ⟨x, H1, I1, rx, a, dd, fs, v, rfl, ha, hdd, l, q⟩
  cases rx
  obtain ⟨⟨ox, vs, h1, h2, h3⟩, _⟩ := I1.hok a _ ha
  obtain ⟨mA, hns, hr⟩ := I1.hok dd _ hdd
  obtain ⟨od, ho, hl⟩ := lookIn_ns hns
  obtain ⟨u, hu, ru⟩ := RelO.some_of (v := v) (o := mA n) (by rw [← l]; exact hr n)
  have J : PySem.W.InstAt s1.heap a ox C (some od) := ⟨h1, h2.1, by unfold PySem.W.notCls; rw [h3], by rw [h2.2]; exact ho⟩
  exact HandSPX.exc_get I1.kIn J T.ga T.gt T.sb (PySem.W.findObj_own T.hd hno rfl (by rw [hl, hu])) (handed_of ru) ⟨v, H1, I1.tok _, ru, q⟩
end
/-! ## calls of defs that may raise -/
section
variable {X : Cx} {k j : Nat} {C : Addr} {x m : Str} {sp : Sp} {p pos apos : Pos} {e o : Expr} {es : List Expr} {ta : TE} {t : TA} {W : WX}
theorem cX (c : Dn X.prog X.w X.K X.mg X.base (L2.CX X.prog X.w) k x sp) (tk : Takes X W) (hr : Room j X.A) (hk : k ≤ j) (hg : Gl X x) (ha : PA X (e :: es) t)
    (hdb : (x == ("__debug__" : Str)) = false := by decide) (he : starEach (e :: es) X.env = (false, eval e X.env) :: starEach es X.env := by rfl) (hpl : (backTo pos (starEach es X.env)).any (·.1) = false := by rfl) :
    PE X (.Call (.Name x p) (e :: es) [] pos) (tCallS sp (WE W) t) := by
  obtain ⟨f, fd, ps, F, hm, kp, b⟩ := c.ex
  exact pe_callS F (hr.mono hk) hg hm kp b (fun σ => passAt tk σ) ha hdb he hpl
/-- an own class, made, its __init__ may raise -/
def tMakeS (C : Addr) (sp : Sp) (W : WX) (t : TA) : TE := fun σ H Q => t σ H fun vs H1 => ∀ x dx, H1 x = none → H1 dx = none → dx ≠ x →
  sp (.ref x :: vs) (upd (upd H1 dx (.own x)) x (.ins C dx [])) (fun v H2 => v = .non ∧ Q (.ref x) H2) (WE W σ)
theorem cMX (c : Mn X.prog X.w X.K X.mg X.base (L2.CX X.prog X.w) k x C sp) (tk : Takes X W) (hr : Room j X.A) (hk : k + 1 ≤ j) (hg : Gl X x) (ha : PA X (e :: es) t)
    (hdb : (x == ("__debug__" : Str)) = false := by decide) (he : starEach (e :: es) X.env = (false, eval e X.env) :: starEach es X.env := by rfl) (hpl : (backTo pos (starEach es X.env)).any (·.1) = false := by rfl) :
    PE X (.Call (.Name x p) (e :: es) [] pos) (tMakeS C sp W t) := by
  obtain ⟨f, fd, ps, M, F, hm, b⟩ := c.ex
  refine ⟨fun pins s σ H Q I h => wpAny_Call_Name_kw (ld_glob I hg hm ?_ hdb)⟩
  refine PySem.W.callWith_K (h₀ := X.base) I.ok.mod.kin M.kp (thn (ha.run pos pins s σ H _ I h) fun us s1 ⟨vs, H1, I1, r, q⟩ => ⟨I1.kIn, ?_⟩) he hpl
  have q0 := q (s1.heap.objs.size + 1) s1.heap.objs.size (I1.hok.fresh (Nat.le_succ _)) (I1.hok.fresh (Nat.le_refl _)) (Nat.ne_of_lt (Nat.lt_succ_self _))
  have I2 := Inv.made (C := C) I1
  have r2 : Vals (V.ref (s1.heap.objs.size + 1) :: vs) (Value.ref (s1.heap.objs.size + 1) :: us) := .cons rfl r
  have hl : (Value.ref (s1.heap.objs.size + 1) :: us ++ []).length = ps.length := by
    rw [List.append_nil, ← r2.length]; exact F.len _ _ _ _ q0
  have hb := b _ (Value.ref (s1.heap.objs.size + 1) :: us) I2.kIn hl
  rw [List.append_nil] at hb
  refine wpAny_call (make_map (f := f) I1.kIn M.makes M.init (beq_iff_eq.mp M.fn) (codeAny_mono (F.run _ X.stack _ _ ⟨_ :: us, []⟩ _ _ _ _ (((hr.mono hk)).make C us []) (I2.env0.make C us []) hb r2 q0) fun r s' hq => ?_))
  cases r with
  | error e => exact passAt tk σ pins _ _ e s' I2 hq
  | ok fl =>
    cases fl with
    | ret u =>
      obtain ⟨v, H', I3, rv, ev, q3⟩ := I2.after hq
      subst ev
      exact ⟨rv, V.ref (s1.heap.objs.size + 1), H', I3, rfl, q3⟩
    | next => exact hq.elim
    | brk => exact hq.elim
    | cont => exact hq.elim
end
/-- what an own exception class without __init__ must have to be raised -/
structure RzC (K : PySem.W.Frag) (mg : Str → Option Value) (x : Str) (C : Addr) : Prop where
  mgc : mg x = some (.ref C)
  ex : PySem.W.excIn K C [.type "ValueError", .type "Exception", .type "BaseException", .type "object"] "ValueError.__new__" = true
  kp : PySem.W.keepIn K (.ref C) = true
  sb : PySem.W.subIn K (.ref C) (.type "BaseException") = some true
  ty : PySem.W.typeIn K (.ref C) = some (.type "type")
theorem ps_rz {X : Cx} {W : WX} {x m : Str} {j : Nat} {C : Addr} {p p2 pos pos2 : Pos} (c : RzC X.K X.mg x C) (hc : X.calm = true) (tk : Takes X W) (hg : Gl X x) (hdb : (x == ("__debug__" : Str)) = false := by decide) :
    PS X (.Raise (some (.Call (.Name x p) [.Constant (.str m) j p2] [] pos)) none pos2) (fun _ σ H => W (.ref C) none σ H) :=
  ps_raise hc tk (pmk_own PySem.F.excBase_ValueError c.ex c.mgc c.kp (raises_own c.sb c.ty) hg hdb)
end Lf

/-! # LfBad -/
set_option Elab.async false
set_option linter.all false
set_option maxRecDepth 100000
set_option maxHeartbeats 4000000
namespace Lf
open PySem PySem.Spec PyProof.Rows L2
/-! ## a text times a number; how often a thing stands in a list -/
section
variable {X : Cx}
theorem op_repS : OpR X (binaryOp .Mult) (fun x y H Q => ∃ (z : Str) (n : Int), x = .str z ∧ y = .int n ∧ MulOk z n ∧ Q (.str (Txt.mul z n)) H) := by
  rintro pins s σ H x y v u Q I rx ry ⟨z, n, rfl, rfl, hm, q⟩
  obtain ⟨t, rfl⟩ := rx
  obtain ⟨t', rfl⟩ := ry
  exact SB.mul hm fun t' k => ⟨.str (Txt.mul z n), H, I.tok _, ⟨_, rfl⟩, q⟩
def rCntF (K : PySem.W.Frag) : V → List V → Hp → VK → Prop := fun x xs H Q => ∃ (p : Addr) (ys : List V) (y : V), x = .ref p ∧ xs = [y] ∧ SqL K H p ys ∧ flatV y = true ∧ ys.all flatV = true ∧ Q (.int (ys.countP (fun z => eqV z y) : Nat)) H
theorem countU {y : V} : ∀ {ys : List V} {us : List Value}, Vals ys us → ys.all flatV = true → us.countP (eqU y) = ys.countP (fun z => eqV z y)
  | _, _, .nil, _ => rfl
  | z :: ys, u :: us, .cons r t, f => by
    rw [List.all_cons, Bool.and_eq_true] at f
    rw [List.countP_cons, List.countP_cons, countU t f.2, eqU_of r f.1]
theorem mt_countF : MtR X "list.count" (rCntF X.K) := by
  rintro pins s σ H x xs v us Q I rx rxs ⟨p, ys, y, rfl, rfl, hs, fy, fys, q⟩
  cases rx
  obtain ⟨u, rfl, ru⟩ := rxs.one
  obtain ⟨its, rv, ⟨⟨cls, dd, data, sl⟩, n, ho, hc, hdn, hd⟩, hlen⟩ := I.list hs
  dsimp only at hc hd
  subst hc hd
  refine call_meets PySem.F.slot_list_count ⟨_, ho, rfl⟩ PySem.F.entry_list_count (PySem.F.args_list_count_2 _ _) (SeqAt.list_countAt p its.toArray n dd sl u (eqU y)) ⟨ho, fun w hw => mem_eqAt ru fy rv fys w (by simpa using hw), ?_⟩
  exact ⟨.int (ys.countP (fun z => eqV z y) : Nat), H, I.tok _, ⟨s.toks, by rw [show its.toArray.toList = its from rfl, countU rv fys]⟩, q⟩
end
/-! ## pieces of any kind: rows may hold rows -/
inductive Qc where
  | p0 (p : P0)
  | rows (nm : Str) (ips : List Pc) (gap : Str) (lo hi : Int)
def RQ (K : PySem.W.Frag) (G : Hp) (v : V) : Qc → Prop
  | .p0 p => R0 K G v p
  | .rows nm ps gap lo hi => ∃ a l xs, v = .ref a ∧ SqT K G a [.str "rows", .str nm, .ref l, .str gap, .int lo, .int hi] ∧ SqL K G l xs ∧ Paired (RP K G) xs ps
theorem RQ.mono {K : PySem.W.Frag} {G G' : Hp} {v : V} {p : Qc} (h : RQ K G v p) (s : Same G G') : RQ K G' v p := by
  cases p with
  | p0 p => exact R0.mono h s
  | rows nm ps gap lo hi =>
    obtain ⟨a, l, xs, e, t, q, r⟩ := h
    exact ⟨a, l, xs, e, s.tup t, s.seq q, Paired.monoP r fun _ _ z => z.mono s⟩
def okI : Pc → Prop
  | .p0 p => ok0 p
  | .rows .. => False
def nmQ : Qc → Option Str
  | .p0 p => nm0 p
  | .rows nm _ _ _ _ => some nm
def nmsQ (qs : List Qc) : List Str := qs.filterMap nmQ
def okQ : Qc → Prop
  | .p0 p => ok0 p
  | .rows nm ips gap lo hi => nm ≠ Str.empty ∧ 1 ≤ ips.length ∧ ips.length ≤ 3 ∧ (∀ p ∈ ips, okI p) ∧ (nms ips).Nodup ∧ gap.length ≤ 5 ∧ Sgs gap ∧ 0 ≤ lo ∧ lo ≤ hi ∧ hi ≤ 3
structure okFQ (qs : List Qc) : Prop where
  l1 : 1 ≤ qs.length
  l6 : qs.length ≤ 6
  ok : ∀ q ∈ qs, okQ q
  nd : (nmsQ qs).Nodup
/-- lengths that the machine takes -/
def sm0 : P0 → Prop
  | .say t => t.length ≤ 1000
  | .ask _ sg _ _ => sg.length ≤ 1000
def smI : Pc → Prop
  | .p0 p => sm0 p
  | .rows .. => True
def smQ : Qc → Prop
  | .p0 p => sm0 p
  | .rows _ ips gap _ _ => (∀ p ∈ ips, smI p) ∧ ips.length ≤ 50 ∧ gap.length ≤ 1000
theorem nmsQ_take (qs : List Qc) {i : Nat} {q : Qc} (h : qs[i]? = some q) : nmsQ (qs.take (i + 1)) = nmsQ (qs.take i) ++ (nmQ q).toList := by
  unfold nmsQ; rw [take_snoc h, List.filterMap_append]
  cases e : nmQ q <;> simp [e]
/-- no sign twice, where all counts -/
theorem dd_signs_conv {z : Str} (h : (ddAt (fun i => (⟨#[z.cps.getD i 0]⟩ : Str)) z.cps.size).length = z.length) : z.cps.toList.Nodup := by
  unfold ddAt at h
  rw [signs_map] at h
  have key : ∀ (l : List Str), (ddS l).length = l.length → l.Nodup := by
    have all : ∀ (l acc : List Str), (l.foldl dd1 acc).length ≤ acc.length + l.length ∧ ((l.foldl dd1 acc).length = acc.length + l.length → l.Nodup ∧ ∀ x ∈ l, x ∉ acc) := by
      intro l
      induction l with
      | nil => intro acc; exact ⟨Nat.le_refl _, fun _ => ⟨List.nodup_nil, fun x hx => by cases hx⟩⟩
      | cons a r ih =>
        intro acc
        rw [List.foldl_cons, List.length_cons]
        have hl := dd1_length acc a
        obtain ⟨i1, i2⟩ := ih (dd1 acc a)
        by_cases ha : acc.any (· == a) = true
        · rw [if_pos ha] at hl
          exact ⟨by omega, fun e => by omega⟩
        · rw [if_neg ha] at hl
          refine ⟨by omega, fun e => ?_⟩
          obtain ⟨n1, n2⟩ := i2 (by omega)
          have nm : ∀ x, x ∉ dd1 acc a → x ∉ acc ∧ x ≠ a := fun x hx => by
            unfold dd1 at hx
            rw [if_neg ha] at hx
            simp at hx
            exact hx
          refine ⟨List.nodup_cons.mpr ⟨fun m => (nm a (n2 a m)).2 rfl, n1⟩, fun x hx => ?_⟩
          rcases List.mem_cons.mp hx with rfl | hx
          · intro m
            exact ha (List.any_eq_true.mpr ⟨x, m, by simp⟩)
          · exact (nm x (n2 x hx)).1
    intro l e
    exact ((all l []).2 (by simpa [ddS] using e)).1
  have n := key _ (by rw [h, List.length_map]; exact Array.length_toList.symm)
  have inj : ∀ l : List Nat, (l.map fun c => (⟨#[c]⟩ : Str)).Nodup → l.Nodup := fun l => by
    induction l with
    | nil => intro _; exact List.nodup_nil
    | cons a r ih =>
      intro h
      rw [List.map_cons, List.nodup_cons] at h
      exact List.nodup_cons.mpr ⟨fun m => h.1 (List.mem_map.mpr ⟨a, m, rfl⟩), ih h.2⟩
  exact inj _ n

/-! ## promises of the defs that refuse -/
section
variable (K : PySem.W.Frag) (C : Addr)
def tOk (t : Str) (lo hi : Int) : Prop := lo ≤ t.length ∧ t.length ≤ hi ∧ Sgs t
def sp_ask_text_b (_ : PySem.W.Frag) : Sp := fun vs H Q E => ∃ (t : Str) (lo hi : Int), vs = [.str t, .int lo, .int hi] ∧ t.length ≤ 1000 ∧ (tOk t lo hi → Q .non H) ∧ (¬ tOk t lo hi → E (.ref C) none H)
def sp_ask_count_b (_ : PySem.W.Frag) : Sp := fun vs H Q E => ∃ (a b c : Int), vs = [.int a, .int b, .int c] ∧ ((0 ≤ a ∧ a ≤ b ∧ b ≤ c) → Q .non H) ∧ (¬ (0 ≤ a ∧ a ≤ b ∧ b ≤ c) → E (.ref C) none H)
def new0 (p : P0) (ns : List Str) : Prop := ok0 p ∧ ∀ n, nm0 p = some n → n ∉ ns
def sp_look_at_piece_b : Sp := fun vs H Q E => ∃ (a nl : Addr) (p : P0) (ns : List Str) (G : Hp), vs = [.ref a, .ref nl] ∧ Same G H ∧ G nl = none ∧ SqT K G a p.vs ∧ H nl = some (.lst (ns.map V.str)) ∧ ns.length ≤ 100 ∧ sm0 p ∧
  (new0 p ns → ∀ H', (∀ b, b ≠ nl → H' b = H b) → H' nl = some (.lst ((ns ++ nms0 [p]).map V.str)) → Q .non H') ∧ (¬ new0 p ns → ∀ H', (∀ b, b ≠ nl → H' b = H b) → E (.ref C) none H')
def newR (nm : Str) (ips : List Pc) (gap : Str) (lo hi : Int) (ns : List Str) : Prop := okQ (.rows nm ips gap lo hi) ∧ nm ∉ ns
def sp_look_at_rows_b : Sp := fun vs H Q E => ∃ (a nl : Addr) (nm : Str) (ips : List Pc) (gap : Str) (lo hi : Int) (ns : List Str) (G : Hp), vs = [.ref a, .ref nl] ∧ Same G H ∧ G nl = none ∧ RQ K G (.ref a) (.rows nm ips gap lo hi) ∧
  H nl = some (.lst (ns.map V.str)) ∧ ns.length ≤ 100 ∧ smQ (.rows nm ips gap lo hi) ∧
  (newR nm ips gap lo hi ns → ∀ H', (∀ b o, b ≠ nl → H b = some o → H' b = some o) → H' nl = some (.lst ((ns ++ [nm]).map V.str)) → Q .non H') ∧
  (¬ newR nm ips gap lo hi ns → ∀ H', (∀ b o, b ≠ nl → H b = some o → H' b = some o) → E (.ref C) none H')
def sp_Form___init___b : Sp := fun vs H Q E => ∃ (x dx D h : Addr) (ys : List V) (qs : List Qc) (H0 : Hp), vs = [.ref x, .ref h] ∧ H0 x = none ∧ H0 dx = none ∧ dx ≠ x ∧ H = upd (upd H0 dx (.own x)) x (.ins D dx []) ∧
  SqL K H0 h ys ∧ Paired (RQ K H0) ys qs ∧ (∀ q ∈ qs, smQ q) ∧ qs.length ≤ 100 ∧ ¬ okFQ qs ∧ ∀ H', Keep H0 H' → E (.ref C) none H'
end
end Lf

/-! # LfBad2 -/
set_option Elab.async false
set_option linter.all false
set_option maxRecDepth 100000
set_option maxHeartbeats 4000000
namespace Lf
open PySem PySem.Spec PyProof.Rows L2
/-! ## the spoiled forms, the forms at a bound, the forms of one sign -/
theorem mul_small {z : Str} {n : Int} (h1 : 1 ≤ n) (h2 : n ≤ 100) (h3 : z.length ≤ 100) : MulOk z n := by
  have hq : z.length * n.toNat ≤ 100 * 100 := Nat.mul_le_mul h3 (by omega)
  refine ⟨?_, fun _ _ => ?_, fun _ _ => ?_⟩
  · rw [Bool.or_eq_false_iff]; exact ⟨decide_eq_false (by omega), decide_eq_false (by omega)⟩
  · have : (100 : Int) ≤ (2 ^ 63 - 1) / n := Int.le_ediv_of_mul_le (by omega) (by omega)
    omega
  · have : (sizeLine : Nat) = 16777216 := sizeLine_eq
    unfold Builtin.Str.tooLong
    exact decide_eq_false (by omega)
def sayT : List Str := [("" : Str), Txt.mul ("a" : Str) 13, ("a?" : Str), ("A=" : Str), ("a_" : Str), ("tab\t" : Str)]
def sayW (w : Nat) : Str := if w < 6 then sayT.getD w Str.empty else "Dear "
def askT (c : Int) : List P0 := [.ask ("" : Str) ("abc" : Str) 1 3, .ask ("all" : Str) ("abc" : Str) 1 3, .ask ("who" : Str) ("" : Str) 1 3, .ask ("who" : Str) ("aba" : Str) 1 3, .ask ("who" : Str) ("a!" : Str) 1 3, .ask ("who" : Str) ("abc" : Str) 3 2, .ask ("who" : Str) ("abc" : Str) (0 - 1 - c % 9) 3, .ask ("who" : Str) ("abc" : Str) 0 (5 + c % 9), .ask ("who" : Str) ("abcdefghijklmnopqrstu" : Str) 0 2, .ask ("who" : Str) ("abc" : Str) (5 + c % 9) (5 + c % 9)]
def askW (w : Nat) (c : Int) : P0 := if 6 ≤ w ∧ w < 16 then (askT c).getD (w - 6) (.say Str.empty) else .ask "who" "abc" 1 3
def nmW (w : Nat) : Str := if w = 16 ∨ w = 17 then (["", "who"] : List Str).getD (w - 16) Str.empty else "all"
def innT (c : Int) : List (List Pc) := [[],
  [.p0 (.say (("a" : Str))), .p0 (.say (("a" : Str))), .p0 (.say (("a" : Str))), .p0 (.say (("a" : Str)))],
  [.p0 (.say (("b" : Str))), .p0 (.say (("" : Str))), .p0 (.say (("c" : Str)))],
  [.p0 (.say (("a" : Str))), .rows ("in" : Str) [.say (("a" : Str))] (("" : Str)) 0 1],
  [.p0 (.ask ("b" : Str) ("a" : Str) 0 1), .p0 (.say (("a" : Str))), .p0 (.ask ("b" : Str) ("c" : Str) 0 1)],
  [.p0 (.ask ("b" : Str) ("aa" : Str) 0 1), .p0 (.say (("a" : Str)))],
  [.p0 (.say (("a" : Str))), .p0 (.ask ("" : Str) ("a" : Str) 0 1)],
  [.p0 (.ask ("b" : Str) ("a" : Str) 2 1)],
  [.p0 (.ask ("b" : Str) ("a" : Str) 0 (5 + c % 9)), .p0 (.say (("a" : Str)))],
  [.p0 (.say (Txt.mul ("a" : Str) 13))],
  [.p0 (.say (("a" : Str))), .p0 (.ask ("b" : Str) ("a=" : Str) 0 1)],
  [.p0 (.ask ("b" : Str) ("" : Str) 0 1)],
  [.p0 (.ask ("b" : Str) ("abcdefghijklmnopqrstu" : Str) 0 1), .p0 (.say (("a?" : Str)))]]
def innD : List Pc := [.p0 (.say (("a" : Str))), .p0 (.ask ("who" : Str) ("bc" : Str) 0 2)]
def innW (w : Nat) (c : Int) : List Pc := if 18 ≤ w ∧ w < 31 then (innT c).getD (w - 18) [] else innD
def gapW (w : Nat) : Str := if w = 31 ∨ w = 32 then ([Txt.mul "a" 6, "a&"] : List Str).getD (w - 31) Str.empty else ", "
def loW (w : Nat) (c : Int) : Int := if 33 ≤ w ∧ w < 36 then ([0 - 1 - c % 9, 3, 0] : List Int).getD (w - 33) 0 else 0
def hiW (w : Nat) (c : Int) : Int := if 33 ≤ w ∧ w < 36 then ([2, 2, 4 + c % 9] : List Int).getD (w - 33) 0 else 2
def threeW (w : Nat) (c : Int) : List Qc := [.p0 (.say (sayW w)), .p0 (askW w c), .rows (nmW w) (innW w c) (gapW w) (loW w c) (hiW w c)]
def turned (l : List Qc) (t x : Nat) : List Qc := l.drop t ++ l.take t ++ List.replicate x (.p0 (.say "end"))
def spoil (w : Nat) (c : Int) : List Qc := if w = 36 then [] else if w = 37 then turned (threeW w c) (c / 81 % 3).toNat (c / 243 % 3).toNat ++ List.replicate (4 + c % 3).toNat (.p0 (.say "a"))
  else turned (threeW w c) (c / 81 % 3).toNat (c / 243 % 3).toNat
def reachT : List (List Pc) := [[.p0 (.say (Txt.mul ("a" : Str) 12))],
  [.p0 (.ask ("who" : Str) ("abcdefghijklmnopqrst" : Str) 4 4)],
  [.p0 (.ask ("w" : Str) ("a" : Str) 0 0)],
  [.rows ("w_x = y?" : Str) [.say (("a" : Str)), .ask ("c@d" : Str) ("a" : Str) 0 1] (Txt.mul ("a" : Str) 5) 3 3],
  [.rows ("w" : Str) [.say (("a" : Str))] (("" : Str)) 0 0],
  [.p0 (.say (("x" : Str))), .p0 (.say (("x" : Str))), .p0 (.say (("x" : Str))), .p0 (.say (("x" : Str))), .p0 (.say (("x" : Str))), .p0 (.say (("x" : Str)))],
  [.p0 (.ask ("w" : Str) ("a" : Str) 0 1), .rows ("v" : Str) [.ask ("w" : Str) ("a" : Str) 0 1] (("" : Str)) 0 1],
  [.p0 (.say (("azAZ09 .,:;" : Str)))],
  [.p0 (.say (("-/()\n" : Str)))]]
def tailS : Str := ("!\"#$&'*+<=>?@" : Str) ++ ("[\\]^_`{|}~\t" : Str)
def everyS : Str := SIGNSs ++ tailS
def signAt (c : Int) : Nat := everyS.cps.getD (c % (everyS.length : Int)).toNat 0
def signP (c : Int) : P0 := if signAt c ∉ ("a0" : Str).cps.toList ∧ c / 97 % 2 = 1 then .ask "w" ("a0" ++ (⟨#[signAt c]⟩ : Str)) 0 1 else .say ⟨#[signAt c]⟩
/-- the world of _law_spoiled: what was made is told, the list of the rows is one's own -/
def SpM (K : PySem.W.Frag) (a b : V) (sy : Str) (ak : P0) (nm : Str) (inn : List Pc) (gap : Str) (lo hi : Int) (H : Hp) : L2.St → Hp → Prop := fun σ H' => ∃ (tS aA aR li : Addr) (ys : List V) (G' : Hp),
  σ = [some a, some b, some (.ref tS), some (.ref aA), some (.ref aR), none, none] ∧ Wd H H G' H' ∧ H aR = none ∧ G' aR = none ∧ H' aR = some (.lst [.str "rows", .str nm, .ref li, .str gap, .int lo, .int hi]) ∧
  SqT K G' tS (P0.say sy).vs ∧ SqL K G' aA ak.vs ∧ SqL K G' li ys ∧ Paired (RP K G') ys inn
section
variable (K : PySem.W.Frag)
def sp__law_spoiled : Sp := fun vs H Q _ => ∃ (w : Nat) (c : Int), vs = [.int w, .int c] ∧ w < 54 ∧ 0 ≤ c ∧ ∀ l xs G' H', Wd H H G' H' → H' l = some (.lst xs) → G' l = none → H l = none → Paired (RQ K G') xs (spoil w c) → Q (.ref l) H'
def sp__law_reached : Sp := fun vs H Q _ => ∃ (w : Nat) (c : V), vs = [.int w, c] ∧ ∀ l xs G' H', Wd H H G' H' → SqL K G' l xs → Paired (RP K G') xs (reachT.getD (w % 9) []) → Q (.ref l) H'
def sp__law_one_sign : Sp := fun vs H Q _ => ∃ (c : Int), vs = [.int c] ∧ 0 ≤ c ∧ ∀ t l p G' H', Wd H H G' H' → SqT K G' t [.bl (decide (signAt c ∈ SIGNSs.cps.toList)), .ref l] → SqL K G' l [.ref p] → SqT K G' p (signP c).vs → Q (.ref t) H'
end
end Lf

/-! # LfGd -/
set_option Elab.async false
set_option linter.all false
set_option maxRecDepth 100000
set_option maxHeartbeats 4000000
namespace Lf
open PySem PySem.Spec PyProof.Rows L2
/-! ## what is written out is told -/
/-- a value is computed, the heap stays -/
def Pu (te : TE) (σ : L2.St) (v : V) : Prop := ∀ H Q, Q v H → te σ H Q
def Gd (te : TE) (σ : L2.St) (R : Hp → V → Prop) : Prop := ∀ G H Q, Same G H → (∀ v G' H', Wd G H G' H' → R G' v → Q v H') → te σ H Q
def GdL {α : Type} (ta : TA) (σ : L2.St) (F : Hp → V → α → Prop) (ys : List α) : Prop := ∀ G H Q, Same G H → (∀ vs G' H', Wd G H G' H' → Paired (F G') vs ys → Q vs H') → ta σ H Q
/-- the rule: e is told -/
def tGd {α : Type} (P : α → L2.St → Prop) (R : α → Hp → V → Prop) : TE := fun σ H Q => ∃ (x : α) (G : Hp), P x σ ∧ Same G H ∧ ∀ v G' H', Wd G H G' H' → R x G' v → Q v H'
theorem pe_told {α : Type} {X : Cx} {e : Expr} {te : TE} {P : α → L2.St → Prop} {R : α → Hp → V → Prop} (h : PE X e te) (hg : ∀ x σ, P x σ → Gd te σ (R x)) : PE X e (tGd P R) :=
  ⟨fun pins s σ H Q I ⟨x, G, p, g, q⟩ => h.run pins s σ H Q I (hg x σ p G H Q g q)⟩
def MonoF {α : Type} (F : Hp → V → α → Prop) : Prop := ∀ G G' v y, Same G G' → F G v y → F G' v y
section
variable {σ : L2.St} {α : Type} {F : Hp → V → α → Prop} {te t1 t2 t3 t4 : TE} {ta : TA} {K : PySem.W.Frag}
theorem pu_c {v : V} : Pu (tC v) σ v := fun _ _ q => q
theorem gdl_nil : GdL tNil σ F [] := fun G H Q g q => q [] G H (Wd.refl g) .nil
theorem gdl_cons {y : α} {ys : List α} (m : MonoF F) (h : Gd te σ fun G v => F G v y) (hr : GdL ta σ F ys) : GdL (tCons te ta) σ F (y :: ys) := fun G H Q g q =>
  h G H _ g fun v G1 H1 W1 r1 => hr G1 H1 _ W1.gh fun vs G2 H2 W2 p => q _ _ _ (W1.trans W2) (.cons (m _ _ _ _ W2.gg r1) p)
def LL (F : Hp → V → α → Prop) (ys : List α) (G : Hp) (v : V) : Prop := ∃ a xs, v = .ref a ∧ G a = some (.lst xs) ∧ Paired (F G) xs ys
theorem LL.mono (m : MonoF F) : MonoF (fun G v ys => LL F ys G v) := fun G G' v ys s ⟨a, xs, e, h, p⟩ => ⟨a, xs, e, s _ _ h, Paired.monoP p fun _ _ z => m _ _ _ _ s z⟩
theorem gd_list {ys : List α} (m : MonoF F) (h : GdL ta σ F ys) (hl : ys.length ≤ 1000) : Gd (tLst ta) σ (LL F ys) := fun G H Q g q =>
  h G H _ g fun vs G1 H1 W1 p => ⟨by rw [Paired.len p, sizeLine_eq]; omega, fun l nl => q _ _ _ (W1.new nl) ⟨l, vs, rfl, upd_same, Paired.monoP p fun _ _ z => m _ _ _ _ (Same.new (Same.free W1.gh nl)) z⟩⟩
theorem Paired.rep {α β : Type} {F : α → β → Prop} {x : α} {y : β} (h : F x y) : ∀ n, Paired F (List.replicate n x) (List.replicate n y)
  | 0 => .nil
  | n + 1 => .cons h (Paired.rep h n)
theorem flat_rep {α : Type} (x : α) (n : Nat) : (List.replicate n [x]).flatten = List.replicate n x := by
  induction n with
  | zero => rfl
  | succ n ih => rw [List.replicate_succ, List.flatten_cons, ih]; rfl
theorem gd_rep {y : α} {n : Int} (m : MonoF F) (h : Gd te σ (LL F [y])) (h0 : 0 ≤ n) (h1 : n ≤ 100) : Gd (tOp rRep te (tC (.int n))) σ (LL F (List.replicate n.toNat y)) := fun G H Q g q =>
  h G H _ g fun v G1 H1 W1 ⟨a, xs, e, ha, p⟩ => by
    subst e
    cases p with
    | @cons x _ _ _ hx p' =>
      cases p'
      refine ⟨a, n, [x], rfl, rfl, W1.gh _ _ ha, by omega, by omega, ?_, fun l nl => ?_⟩
      · show 1 * n.toNat ≤ sizeLine
        rw [sizeLine_eq]; omega
      · rw [flat_rep]
        exact q _ _ _ (W1.new nl) ⟨l, _, rfl, upd_same, Paired.rep (m _ _ _ _ (Same.new (Same.free W1.gh nl)) hx) _⟩
theorem pu_repS {z : Str} {n : Int} (h1 : 1 ≤ n) (h2 : n ≤ 100) (h3 : z.length ≤ 100) : Pu (tOp (fun x y H Q => ∃ (z : Str) (n : Int), x = .str z ∧ y = .int n ∧ MulOk z n ∧ Q (.str (Txt.mul z n)) H) (tC (.str z)) (tC (.int n))) σ (.str (Txt.mul z n)) :=
  fun H Q q => ⟨z, n, rfl, rfl, mul_small h1 h2 h3, q⟩
theorem gd_tup2 {a b : V} (h1 : Pu t1 σ a) (h2 : Pu t2 σ b) : Gd (tTup (tCons t1 (tCons t2 tNil))) σ fun G v => ∃ p, v = .ref p ∧ G p = some (.tup [a, b]) := fun G H Q g q =>
  h1 H _ (h2 H _ ⟨by show 2 ≤ sizeLine; decide, fun p np => q _ _ _ ((Wd.refl g).new np) ⟨p, rfl, upd_same⟩⟩)
theorem gd_say {t : Str} (h : Pu te σ (.str t)) : Gd (tTup (tCons (tC (.str "say")) (tCons te tNil))) σ fun G v => R0 K G v (.say t) := fun G H Q g q =>
  h H _ ⟨by show 2 ≤ sizeLine; decide, fun p np => q _ _ _ ((Wd.refl g).new np) ⟨p, rfl, SqT.of upd_same⟩⟩
theorem gd_ask {nm sg : Str} {lo hi : Int} (h1 : Pu t1 σ (.str nm)) (h2 : Pu t2 σ (.str sg)) (h3 : Pu t3 σ (.int lo)) (h4 : Pu t4 σ (.int hi)) :
    Gd (tTup (tCons (tC (.str "ask")) (tCons t1 (tCons t2 (tCons t3 (tCons t4 tNil)))))) σ fun G v => R0 K G v (.ask nm sg lo hi) := fun G H Q g q =>
  h1 H _ (h2 H _ (h3 H _ (h4 H _ ⟨by show 5 ≤ sizeLine; decide, fun p np => q _ _ _ ((Wd.refl g).new np) ⟨p, rfl, SqT.of upd_same⟩⟩)))
/-- an ask as a list -/
def RL (G : Hp) (v : V) (p : P0) : Prop := ∃ a, v = .ref a ∧ G a = some (.lst p.vs)
theorem RL.mono : MonoF RL := fun _ _ _ _ s ⟨a, e, h⟩ => ⟨a, e, s _ _ h⟩
theorem gd_askL {nm sg : Str} {lo hi : Int} (h1 : Pu t1 σ (.str nm)) (h2 : Pu t2 σ (.str sg)) (h3 : Pu t3 σ (.int lo)) (h4 : Pu t4 σ (.int hi)) :
    Gd (tLst (tCons (tC (.str "ask")) (tCons t1 (tCons t2 (tCons t3 (tCons t4 tNil)))))) σ fun G v => RL G v (.ask nm sg lo hi) := fun G H Q g q =>
  h1 H _ (h2 H _ (h3 H _ (h4 H _ ⟨by show 5 ≤ sizeLine; decide, fun p np => q _ _ _ ((Wd.refl g).new np) ⟨p, rfl, upd_same⟩⟩)))
theorem R0.monoF : MonoF (R0 K) := fun _ _ _ _ s h => R0.mono h s
theorem RP.monoF : MonoF (RP K) := fun _ _ _ _ s h => RP.mono h s
theorem gd_rows {nm gap : Str} {ps : List P0} {lo hi : Int} (h1 : Pu t1 σ (.str nm)) (hi1 : Gd te σ (LL (R0 K) ps)) (h2 : Pu t2 σ (.str gap)) (h3 : Pu t3 σ (.int lo)) (h4 : Pu t4 σ (.int hi)) :
    Gd (tTup (tCons (tC (.str "rows")) (tCons t1 (tCons te (tCons t2 (tCons t3 (tCons t4 tNil))))))) σ fun G v => RP K G v (.rows nm ps gap lo hi) := fun G H Q g q =>
  h1 H _ (hi1 G H _ g fun v G1 H1 W1 ⟨l, xs, e, hl, p⟩ => h2 H1 _ (h3 H1 _ (h4 H1 _ ⟨by show 6 ≤ sizeLine; decide, fun t nt => q _ _ _ (W1.new nt)
    ⟨t, l, xs, rfl, by subst e; exact SqT.of upd_same, SqL.of ((Same.new (Same.free W1.gh nt)) _ _ hl), Paired.monoP p fun _ _ z => z.mono (Same.new (Same.free W1.gh nt))⟩⟩)))
/-- a value among others -/
def RVv (_ : Hp) (v : V) (w : V) : Prop := v = w
theorem RVv.mono : MonoF RVv := fun _ _ _ _ _ h => h
theorem gd_v {w : V} (h : Pu te σ w) : Gd te σ fun G v => RVv G v w := fun G H Q g q => h H _ (q _ _ _ (Wd.refl g) rfl)
end

theorem Paired.app {α β : Type} {F : α → β → Prop} {xs xs' : List α} {ys ys' : List β} (h : Paired F xs ys) (h' : Paired F xs' ys') : Paired F (xs ++ xs') (ys ++ ys') := by
  induction h with
  | nil => exact h'
  | cons a _ ih => exact .cons a ih
theorem Paired.dropP {α β : Type} {F : α → β → Prop} : ∀ (n : Nat) {xs : List α} {ys : List β}, Paired F xs ys → Paired F (xs.drop n) (ys.drop n)
  | 0, _, _, h => h
  | _ + 1, _, _, .nil => .nil
  | n + 1, _, _, .cons _ h => Paired.dropP n h
theorem Paired.takeP {α β : Type} {F : α → β → Prop} : ∀ (n : Nat) {xs : List α} {ys : List β}, Paired F xs ys → Paired F (xs.take n) (ys.take n)
  | 0, _, _, _ => .nil
  | _ + 1, _, _, .nil => .nil
  | n + 1, _, _, .cons a h => .cons a (Paired.takeP n h)
theorem cut3 {a b c : V} {t : Int} (h0 : 0 ≤ t) (h3 : t < 3) : cutV [a, b, c] (some t) none = [a, b, c].drop t.toNat ∧ cutV [a, b, c] none (some t) = [a, b, c].take t.toNat := by
  have : t = 0 ∨ t = 1 ∨ t = 2 := by omega
  rcases this with rfl | rfl | rfl <;> exact ⟨rfl, rfl⟩

/-! ## the law's own words -/
def FormC (K : PySem.W.Frag) (C : Addr) (G : Hp) (x : Addr) (ps : List Pc) : Prop := ∃ dx f zs, G x = some (.ins C dx (putF "pieces" (.ref f) [])) ∧ SqL K G f zs ∧ Paired (RP K G) zs ps
theorem FormC.mono {K : PySem.W.Frag} {C : Addr} {G G' : Hp} {x : Addr} {ps : List Pc} (h : FormC K C G x ps) (s : Same G G') : FormC K C G' x ps := by
  obtain ⟨dx, f, zs, h3, h4, h5⟩ := h
  exact ⟨dx, f, zs, s _ _ h3, s.seq h4, Paired.monoP h5 fun _ _ z => z.mono s⟩
structure InsF (K : PySem.W.Frag) (C : Addr) : Prop where
  cl : Cls K C
  na : NoAttr K C "pieces"
  ha : PySem.W.findIn K (.ref C) "__class__" = some (some (.builtin "object.__class__"))
  hn : PySem.W.specialIn K (.builtin "object.__class__") "__get__" = some (some (.builtin "getset_descriptor.__get__"))
  ht : PySem.W.takesIn K (.builtin "object.__class__") = some true
  hm : PySem.W.mroIn K C (.type "object") = some true
theorem InsF.ty {K : PySem.W.Frag} {C x : Addr} {ps : List Pc} {H : Hp} (c : InsF K C) (h : FormC K C H x ps) : TyX K H (.ref x) (.ref C) := by
  obtain ⟨dx, f, zs, h3, _⟩ := h
  exact .base (.ins h3 c.cl c.ha c.hn c.ht c.hm)
theorem kit_self {K : PySem.W.Frag} {C : Addr} : PySem.W.kitOne K (.ref C) (.ref C) = some true := if_pos (by simp)
/-- what isinstance answers of an exception of the class at D, the i-th of the four -/
structure AlX (K : PySem.W.Frag) (D CE C0 C1 C2 C3 : Addr) (i : Nat) : Prop where
  x : XcC K D
  k0 : PySem.W.kitOne K (.ref D) (.ref C0) = some (i == 0)
  k1 : PySem.W.kitOne K (.ref D) (.ref C1) = some (i == 1)
  k2 : PySem.W.kitOne K (.ref D) (.ref C2) = some (i == 2)
  k3 : PySem.W.kitOne K (.ref D) (.ref C3) = some (i == 3)
  kE : PySem.W.kitOne K (.ref D) (.ref CE) = some true
  kV : PySem.W.kitOne K (.ref D) (.type "ValueError") = some true
  lt : i < 4
/-- an exception that was kept -/
def ExK (D : Addr) (d : Option Addr) (H : Hp) (a : Addr) : Prop := H a = some (ExH (.ref D) d a) ∧ ∀ e, d = some e → ∃ fs, H e = some (.xd fs)
theorem ExK.mono {D a : Addr} {d : Option Addr} {H H' : Hp} (h : ExK D d H a) (k : Keep H H') : ExK D d H' a := ⟨k _ _ h.1, fun e he => by obtain ⟨fs, z⟩ := h.2 e he; exact ⟨fs, k _ _ z⟩⟩
def sp__law_alone (K : PySem.W.Frag) (CE C0 C1 C2 C3 : Addr) : Sp := fun vs H Q _ => ∃ (a D : Addr) (d : Option Addr) (i : Nat), vs = [.ref a] ∧ ExK D d H a ∧ AlX K D CE C0 C1 C2 C3 i ∧ ∀ H', Keep H H' → Q (.int i) H'
theorem FnOk.or {P : Program} {w : World} {K : PySem.W.Frag} {mg : Str → Option Value} {base : Heap} {i j k : Nat} {f : Addr} {fd : FuncData} {ps : List Str} {sp sp' : Sp} (h : FnOk P w K mg base CX0 i f fd ps sp) (h' : FnOk P w K mg base (L2.CX P w) j f fd ps sp') (hi : i ≤ k) (hj : j ≤ k) :
    FnOk P w K mg base (L2.CX P w) k f fd ps (fun vs H Q E => sp vs H Q E ∨ sp' vs H Q E) where
  len := fun vs H Q E z => z.elim (h.len vs H Q E) (h'.len vs H Q E)
  run := fun A outer s H args us vs Q E hr e b v z => by
    rcases z with z | z
    · refine codeAny_mono (h.run A outer s H args us vs Q E (hr.mono hi) e b v z) fun r s' q => ?_
      cases r with
      | error x => exact q.elim
      | ok fl => cases fl <;> exact q
    · exact h'.run A outer s H args us vs Q E (hr.mono hj) e b v z
section
variable (K : PySem.W.Frag) (CF CB : Addr)
def sp_Form_or : Sp := fun vs H Q E => sp_Form___init__ K vs H Q E ∨ sp_Form___init___b K CB vs H Q E
def sp__law_made : Sp := fun vs H Q _ => ∃ (l : Addr) (xs : List V), vs = [.ref l] ∧ SqL K H l xs ∧
  ((∃ ps, okF ps ∧ Paired (RP K H) xs ps ∧ ∀ x H', Keep H H' → FormC K CF H' x ps → Q (.ref x) H') ∨
   (∃ qs, ¬ okFQ qs ∧ (∀ q ∈ qs, smQ q) ∧ qs.length ≤ 100 ∧ Paired (RQ K H) xs qs ∧ ∀ a H', Keep H H' → ExK CB none H' a → Q (.ref a) H'))
end
/-! ## == of them -/
def Qc.dt : Qc → PyData
  | .p0 p => p.dt
  | .rows nm ps gap lo hi => .tuple [.str "rows", .str nm, .list (ps.map Pc.dt), .str gap, .int lo, .int hi]
theorem RQ.dp {K : PySem.W.Frag} {G : Hp} {v : V} {p : Qc} (h : RQ K G v p) : Dp K G v p.dt := by
  cases p with
  | p0 p => exact R0.dp h
  | rows nm ps gap lo hi =>
    obtain ⟨a, l, xs, rfl, t, q, r⟩ := h
    exact .tup t (.cons (.str _) (.cons (.str _) (.cons (.lst q (dp_all (fun _ _ z => RP.dp z) r)) (.cons (.str _) (.cons (.int _) (.cons (.int _) .nil))))))
theorem Qc.plain (p : Qc) : p.dt.plain = true := by
  cases p with
  | p0 p => exact P0.plain p
  | rows nm ps gap lo hi =>
    have := plain_all Pc.plain ps
    simp only [Qc.dt, PyData.plain, PyData.plainAll, this, Bool.and_self]
theorem Qc.depth (p : Qc) : p.dt.depth ≤ 9 := by
  cases p with
  | p0 p => have := P0.depth p; show p.dt.depth ≤ 9; omega
  | rows nm ps gap lo hi =>
    have := depth_all Pc.depth ps
    simp only [Qc.dt, PyData.depth, PyData.depthAll]
    omega
def formQ (qs : List Qc) : PyData := .list (qs.map Qc.dt)
theorem formQ_plain (qs : List Qc) : (formQ qs).plain = true := plain_all Qc.plain qs
theorem formQ_depth (qs : List Qc) : (formQ qs).depth ≤ 60 := by
  have := depth_all Qc.depth qs
  unfold formQ
  simp only [PyData.depth]
  omega
theorem formQ_refl (qs : List Qc) : PyData.eqv (formQ qs) (formQ qs) = true := SeqAt.eqv_refl_plain _ (formQ_plain qs)
theorem formQ_dp {K : PySem.W.Frag} {G : Hp} {l : Addr} {xs : List V} {qs : List Qc} (h : SqL K G l xs) (p : Paired (RQ K G) xs qs) : Dp K G (.ref l) (formQ qs) := .lst h (dp_all (fun _ _ z => RQ.dp z) p)
end Lf

/-! # LfEnd2 -/
set_option Elab.async false
set_option linter.all false
set_option maxRecDepth 100000
set_option maxHeartbeats 4000000
namespace Lf
open PySem PySem.Spec PyProof.Rows L2
/-! ## what the top leaves of the exception classes -/
theorem xc_mk {K : PySem.W.Frag} {D : Addr} (ga : PySem.W.findIn K (.ref D) "__getattribute__" = some (some (.builtin "BaseException.__getattribute__"))) (gt : PySem.W.findIn K (.ref D) "__getattr__" = some none) (sb : PySem.W.subIn K (.ref D) (.type "BaseException") = some true)
    (ca : PySem.W.findIn K (.ref D) "__class__" = some (some (.builtin "object.__class__"))) (gs : PySem.W.specialIn K (.builtin "object.__class__") "__get__" = some (some (.builtin "getset_descriptor.__get__"))) (tk : PySem.W.takesIn K (.builtin "object.__class__") = some true)
    (ob : PySem.W.mroIn K D (.type "object") = some true) (hd : PySem.W.hasDictIn K D = true) : XcC K D :=
  ⟨by obtain ⟨cd, hc, _⟩ := PySem.W.any_some hd; rw [hc]; rfl, ga, gt, sb, ca, gs, tk, ob, hd⟩
theorem exm_mk {K : PySem.W.Frag} {D C : Addr} (h1 : PySem.W.subIn K (.ref C) (.type "BaseException") = some true) (hd : PySem.W.hasDictIn K C = true) (ht : PySem.W.typeIn K (.ref C) = some (.type "type")) (h4 : PySem.W.subIn K (.ref D) (.ref C) = some true) : PySem.W.exmOne K (.ref D) (.ref C) = some true :=
  PySem.W.exm_ref h1 hd ht h4
theorem gl_mk {K : PySem.W.Frag} {h : Heap} {mg : Str → Option Value} (X : K.In h) (G : h.Ns mainGlobals mg) {x : Str} {C : Addr} (a : PySem.W.nsIn K mainGlobals x = some (some (.ref C))) : mg x = some (.ref C) := PySem.W.mg_of X G a
/-- the names of the classes -/
structure ErN (mg : Str → Option Value) (CE C0 C1 C2 C3 : Addr) : Prop where
  gE : mg "FormError" = some (.ref CE)
  g0 : mg "BadForm" = some (.ref C0)
  g1 : mg "BadValue" = some (.ref C1)
  g2 : mg "NoReading" = some (.ref C2)
  g3 : mg "Twofold" = some (.ref C3)
theorem cm_mk2 {K : PySem.W.Frag} {h : Heap} {mg : Str → Option Value} (X : K.In h) (G : h.Ns mainGlobals mg) {x qual : Str} {st : Stmt} {ps : List Str} {C f : Addr} {oc : Value} {od an : Option Addr} {sl : Array (Option Value)} {kV dc pm cd ct : Value}
    (aC : PySem.W.nsIn K mainGlobals x = some (some (.ref C))) (a : PySem.W.findIn K (.ref C) "__init__" = some (some (.ref f))) (i : PySem.W.isFn K (.ref f) = true)
    (l : K.lookup f = some ⟨oc, od, .func (PySem.W.fnOf "__init__" qual (defArgs st) (defBody st) (defScope st) .none kV dc pm an cd ct), sl⟩) (c : PySem.W.codeIn K cd qual = true) (k : PySem.W.keepIn K (.ref f) = true)
    (pg : PySem.W.plainGet K C Str.empty = true) (hd : PySem.W.hasDictIn K C = true) (po : PySem.W.plainOver K C = true) (sa : PySem.W.findIn K (.ref C) "__setattr__" = some (some (.builtin "object.__setattr__"))) (mk : PySem.W.makesIn K C = true) (kc : PySem.W.keepIn K (.ref C) = true)
    (b : ∀ (kV doc pm : Value) (an : Option Addr) (cdv ct : Value) (us : List Value), us.length = ps.length → bindArgs (PySem.W.fnOf "__init__" qual (defArgs st) (defBody st) (defScope st) .none kV doc pm an cdv ct) ⟨us, []⟩ = pure (ps.zip us))
    (q1 : PySem.W.findIn K (.ref C) "pieces" = some none)
    (ha : PySem.W.findIn K (.ref C) "__class__" = some (some (.builtin "object.__class__"))) (hn : PySem.W.specialIn K (.builtin "object.__class__") "__get__" = some (some (.builtin "getset_descriptor.__get__")))
    (ht : PySem.W.takesIn K (.builtin "object.__class__") = some true) (hm : PySem.W.mroIn K C (.type "object") = some true) : ∃ C, Cm K mg x qual st ps C ∧ InsF K C := by
  have F := fun_mk (st := st) l c k
  exact ⟨C, ⟨⟨pg, hd, po, sa⟩, PySem.W.mg_of X G aC, f, _, ⟨mk, a, i, kc⟩, F, F.binds b⟩, ⟨⟨pg, hd, po, sa⟩, q1, ha, hn, ht, hm⟩⟩
end Lf

/-! # LfBad3 -/
set_option Elab.async false
set_option linter.all false
set_option maxRecDepth 100000
set_option maxHeartbeats 4000000
namespace Lf
open PySem PySem.Spec PyProof.Rows L2
/-! ## which drawn forms are forms -/
theorem sgsB_iff {t : Str} : sgsB t = true ↔ Sgs t := ⟨sgs_of, fun h => List.all_eq_true.mpr fun c hc => decide_eq_true (h c hc)⟩
def ok0B : P0 → Bool
  | .say t => sayB t
  | .ask nm sg lo hi => decide (nm ≠ Str.empty) && (sgB sg && (decide (0 ≤ lo) && (decide (lo ≤ hi) && decide (hi ≤ 4))))
theorem ok0B_iff {p : P0} : ok0B p = true ↔ ok0 p := by
  cases p with
  | say t =>
    unfold ok0B sayB ok0
    rw [Bool.and_eq_true, Bool.and_eq_true, decide_eq_true_eq, decide_eq_true_eq, sgsB_iff]
    exact ⟨fun h => ⟨h.1.1, h.1.2, h.2⟩, fun h => ⟨⟨h.1, h.2.1⟩, h.2.2⟩⟩
  | ask nm sg lo hi =>
    unfold ok0B sgB ok0
    simp only [Bool.and_eq_true, decide_eq_true_eq, sgsB_iff]
    exact ⟨fun h => ⟨h.1, h.2.1.1.1.1, h.2.1.1.1.2, h.2.1.1.2, h.2.1.2, h.2.2.1, h.2.2.2.1, h.2.2.2.2⟩, fun h => ⟨h.1, ⟨⟨⟨h.2.1, h.2.2.1⟩, h.2.2.2.1⟩, h.2.2.2.2.1⟩, h.2.2.2.2.2.1, h.2.2.2.2.2.2.1, h.2.2.2.2.2.2.2⟩⟩
def okIB : Pc → Bool
  | .p0 p => ok0B p
  | .rows .. => false
theorem okIB_iff {p : Pc} : okIB p = true ↔ okI p := by
  cases p with
  | p0 p => exact ok0B_iff
  | rows => exact ⟨fun h => Bool.noConfusion h, fun h => False.elim h⟩
def okQB : Qc → Bool
  | .p0 p => ok0B p
  | .rows nm ips gap lo hi => decide (nm ≠ Str.empty) && (decide (1 ≤ ips.length) && (decide (ips.length ≤ 3) && (ips.all okIB && (decide (nms ips).Nodup && (decide (gap.length ≤ 5) && (sgsB gap && (decide (0 ≤ lo) && (decide (lo ≤ hi) && decide (hi ≤ 3)))))))))
theorem okQB_of {q : Qc} (h : okQ q) : okQB q = true := by
  cases q with
  | p0 p => exact ok0B_iff.mpr h
  | rows nm ips gap lo hi =>
    obtain ⟨h1, h2, h3, h4, h5, h6, h7, h8, h9, h10⟩ := h
    unfold okQB
    simp only [Bool.and_eq_true, decide_eq_true_eq]
    exact ⟨h1, h2, h3, List.all_eq_true.mpr fun p hp => okIB_iff.mpr (h4 p hp), h5, h6, sgsB_iff.mpr h7, h8, h9, h10⟩
def okPB : Pc → Bool
  | .p0 p => ok0B p
  | .rows nm ips gap lo hi => decide (nm ≠ Str.empty) && (decide (1 ≤ ips.length) && (decide (ips.length ≤ 3) && (ips.all ok0B && (decide (nms0 ips).Nodup && (decide (gap.length ≤ 5) && (sgsB gap && (decide (0 ≤ lo) && (decide (lo ≤ hi) && decide (hi ≤ 3)))))))))
theorem okP_of {q : Pc} (h : okPB q = true) : okP q := by
  cases q with
  | p0 p => exact ok0B_iff.mp h
  | rows nm ips gap lo hi =>
    unfold okPB at h
    simp only [Bool.and_eq_true, decide_eq_true_eq] at h
    obtain ⟨h1, h2, h3, h4, h5, h6, h7, h8, h9, h10⟩ := h
    exact ⟨h1, h2, h3, fun p hp => ok0B_iff.mp (List.all_eq_true.mp h4 p hp), h5, h6, sgsB_iff.mp h7, h8, h9, h10⟩
def okFB (ps : List Pc) : Bool := decide (1 ≤ ps.length) && (decide (ps.length ≤ 6) && (ps.all okPB && decide (nms ps).Nodup))
theorem okF_of {ps : List Pc} (h : okFB ps = true) : okF ps := by
  unfold okFB at h
  simp only [Bool.and_eq_true, decide_eq_true_eq] at h
  exact ⟨h.1, h.2.1, fun p hp => okP_of (List.all_eq_true.mp h.2.2.1 p hp), h.2.2.2⟩
theorem reach_all : reachT.all okFB = true := by decide +kernel
theorem reach_ok (w : Nat) : okF (reachT.getD (w % 9) []) := by
  have hl : w % 9 < reachT.length := by show w % 9 < 9; omega
  rw [List.getD_eq_getElem?_getD, List.getElem?_eq_getElem hl]
  exact okF_of (List.all_eq_true.mp reach_all _ (List.getElem_mem hl))
/-! ## the spoiled ones -/
def g3B (l : List Qc) : Bool := l.all okQB && decide (nmsQ l).Nodup
theorem g3_of {l : List Qc} {t x : Nat} {e : List Qc} (h : okFQ (turned l t x ++ e)) : g3B l = true := by
  unfold turned at h
  unfold g3B
  rw [Bool.and_eq_true, decide_eq_true_eq]
  refine ⟨List.all_eq_true.mpr fun q hq => okQB_of (h.ok q ?_), ?_⟩
  · have : q ∈ l.drop t ++ l.take t := by
      rw [← List.take_append_drop t l] at hq
      rcases List.mem_append.mp hq with z | z
      · exact List.mem_append_right _ z
      · exact List.mem_append_left _ z
    exact List.mem_append_left _ (List.mem_append_left _ this)
  · have n := h.nd
    unfold nmsQ at *
    rw [List.filterMap_append, List.filterMap_append, List.filterMap_append] at n
    have n2 := (List.nodup_append.mp (List.nodup_append.mp n).1).1
    have n3 : (List.filterMap nmQ (l.take t) ++ List.filterMap nmQ (l.drop t)).Nodup := by
      rw [List.nodup_append] at n2 ⊢
      exact ⟨n2.2.1, n2.1, fun a ha b hb e => n2.2.2 b hb a ha e.symm⟩
    rw [← List.filterMap_append, List.take_append_drop] at n3
    exact n3
theorem three_mod (w : Nat) (c : Int) : threeW w c = threeW w (c % 9) := by
  have e : c % 9 % 9 = c % 9 := Int.emod_emod_of_dvd c (Int.dvd_refl 9)
  unfold threeW askW innW loW hiW askT innT
  rw [e]
theorem three_bad : ∀ w : Fin 36, ∀ r : Fin 9, g3B (threeW w.val (r.val : Int)) = false := by decide +kernel
theorem spoil_bad {w : Nat} {c : Int} (hw : w < 38) : ¬ okFQ (spoil w c) := by
  intro h
  unfold spoil at h
  by_cases h36 : w = 36
  · rw [if_pos h36] at h
    have := h.l1
    simp at this
  rw [if_neg h36] at h
  by_cases h37 : w = 37
  · rw [if_pos h37] at h
    have l6 := h.l6
    rw [List.length_append, List.length_replicate] at l6
    unfold turned at l6
    rw [List.length_append, List.length_append, List.length_drop, List.length_take, List.length_replicate] at l6
    have l3 : (threeW w c).length = 3 := rfl
    rw [l3] at l6
    have y0 : 0 ≤ c % 3 := Int.emod_nonneg _ (by decide)
    omega
  · rw [if_neg h37] at h
    have g := g3_of (e := []) (by rw [List.append_nil]; exact h)
    rw [three_mod] at g
    have r0 : 0 ≤ c % 9 := Int.emod_nonneg _ (by decide)
    have r9 : c % 9 < 9 := Int.emod_lt_of_pos _ (by decide)
    have b := three_bad ⟨w, by omega⟩ ⟨(c % 9).toNat, by omega⟩
    rw [show (((c % 9).toNat : Nat) : Int) = c % 9 by omega] at b
    rw [b] at g; cases g
def sm0B : P0 → Bool
  | .say t => decide (t.length ≤ 1000)
  | .ask _ sg _ _ => decide (sg.length ≤ 1000)
def smIB : Pc → Bool
  | .p0 p => sm0B p
  | .rows .. => true
def smQB : Qc → Bool
  | .p0 p => sm0B p
  | .rows _ ips gap _ _ => ips.all smIB && (decide (ips.length ≤ 50) && decide (gap.length ≤ 1000))
theorem sm0_of {p : P0} (h : sm0B p = true) : sm0 p := by
  cases p with
  | say t => have := of_decide_eq_true (p := t.length ≤ 1000) h; exact this
  | ask nm sg lo hi => have := of_decide_eq_true (p := sg.length ≤ 1000) h; exact this
theorem smQ_of {q : Qc} (h : smQB q = true) : smQ q := by
  cases q with
  | p0 p => exact sm0_of h
  | rows nm ips gap lo hi =>
    unfold smQB at h
    simp only [Bool.and_eq_true, decide_eq_true_eq] at h
    refine ⟨fun p hp => ?_, h.2.1, h.2.2⟩
    have := List.all_eq_true.mp h.1 p hp
    cases p with
    | p0 p => exact sm0_of this
    | rows => trivial
theorem three_sm : ∀ w : Fin 54, ∀ r : Fin 9, (threeW w.val (r.val : Int)).all smQB = true := by decide +kernel
theorem spoil_sm {w : Nat} {c : Int} (hw : w < 54) : (∀ q ∈ spoil w c, smQ q) ∧ (spoil w c).length ≤ 100 := by
  have r0 : 0 ≤ c % 9 := Int.emod_nonneg _ (by decide)
  have r9 : c % 9 < 9 := Int.emod_lt_of_pos _ (by decide)
  have b := three_sm ⟨w, hw⟩ ⟨(c % 9).toNat, by omega⟩
  rw [show (((c % 9).toNat : Nat) : Int) = c % 9 by omega] at b
  have h3 : ∀ q ∈ threeW w c, smQ q := fun q hq => smQ_of (List.all_eq_true.mp b q (by rw [← three_mod]; exact hq))
  have x0 : 0 ≤ c / 243 % 3 := Int.emod_nonneg _ (by decide)
  have x3 : c / 243 % 3 < 3 := Int.emod_lt_of_pos _ (by decide)
  have y3 : c % 3 < 3 := Int.emod_lt_of_pos _ (by decide)
  have hT : (∀ q ∈ turned (threeW w c) (c / 81 % 3).toNat (c / 243 % 3).toNat, smQ q) ∧ (turned (threeW w c) (c / 81 % 3).toNat (c / 243 % 3).toNat).length ≤ 20 := by
    unfold turned
    refine ⟨fun q hq => ?_, ?_⟩
    · rcases List.mem_append.mp hq with hq | hq
      · rcases List.mem_append.mp hq with hq | hq
        · exact h3 q (List.mem_of_mem_drop hq)
        · exact h3 q (List.mem_of_mem_take hq)
      · rw [(List.mem_replicate.mp hq).2]; exact smQ_of (by decide +kernel)
    · rw [List.length_append, List.length_append, List.length_drop, List.length_take, List.length_replicate]
      have l3 : (threeW w c).length = 3 := rfl
      rw [l3]; omega
  unfold spoil
  split
  · exact ⟨fun q hq => by (have := hq; simp at this), Nat.zero_le _⟩
  · split
    · refine ⟨fun q hq => ?_, ?_⟩
      · rcases List.mem_append.mp hq with hq | hq
        · exact hT.1 q hq
        · rw [(List.mem_replicate.mp hq).2]; exact smQ_of (by decide +kernel)
      · rw [List.length_append, List.length_replicate]; have := hT.2; omega
    · exact ⟨hT.1, by have := hT.2; omega⟩
/-! ## one sign -/
def sign1 (s : Nat) (b : Bool) : P0 := if s ∉ ("a0" : Str).cps.toList ∧ b = true then .ask "w" ("a0" ++ (⟨#[s]⟩ : Str)) 0 1 else .say ⟨#[s]⟩
theorem signP_eq (c : Int) : signP c = sign1 (signAt c) (decide (c / 97 % 2 = 1)) := by
  unfold signP sign1
  simp only [decide_eq_true_eq]
theorem sign_all : everyS.cps.toList.all (fun s => (sm0B (sign1 s true) && sm0B (sign1 s false)) && ((ok0B (sign1 s true) == decide (s ∈ SIGNSs.cps.toList)) && (ok0B (sign1 s false) == decide (s ∈ SIGNSs.cps.toList)))) = true := by decide +kernel
theorem sign_mem (c : Int) : signAt c ∈ everyS.cps.toList := by
  have hlen : everyS.length = 96 := by decide +kernel
  have m0 : 0 ≤ c % (everyS.length : Int) := Int.emod_nonneg _ (by omega)
  have m1 : c % (everyS.length : Int) < (everyS.length : Int) := Int.emod_lt_of_pos _ (by omega)
  have hj : (c % (everyS.length : Int)).toNat < everyS.cps.size := by show _ < everyS.length; omega
  unfold signAt
  rw [Array.getD_eq_getD_getElem?, Array.getElem?_eq_getElem hj]
  exact Array.getElem_mem_toList hj
theorem sign_is (c : Int) : sm0 (signP c) ∧ (ok0 (signP c) ↔ signAt c ∈ SIGNSs.cps.toList) := by
  have h := List.all_eq_true.mp sign_all _ (sign_mem c)
  simp only [Bool.and_eq_true, beq_iff_eq] at h
  rw [signP_eq]
  cases decide (c / 97 % 2 = 1) with
  | true => exact ⟨sm0_of h.1.1, by rw [← ok0B_iff, h.2.1, decide_eq_true_eq]⟩
  | false => exact ⟨sm0_of h.1.2, by rw [← ok0B_iff, h.2.2, decide_eq_true_eq]⟩
theorem nm1 (p : P0) : (nms [.p0 p]).Nodup := by cases p with | say t => exact List.nodup_nil | ask n2 sg2 lo2 hi2 => exact List.nodup_cons.mpr ⟨by simp, List.nodup_nil⟩
theorem sign_ok {c : Int} (h : signAt c ∈ SIGNSs.cps.toList) : okF [.p0 (signP c)] :=
  ⟨Nat.le_refl _, Nat.le_of_ble_eq_true rfl, fun p hp => by rw [List.mem_singleton] at hp; subst hp; exact (sign_is c).2.mpr h, nm1 _⟩
theorem sign_bad {c : Int} (h : ¬ signAt c ∈ SIGNSs.cps.toList) : ¬ okFQ [.p0 (signP c)] := fun z => h ((sign_is c).2.mp (z.ok _ (List.mem_singleton.mpr rfl)))

/-- what the law's loop works on: pieces that make a form, or that make none -/
def LoopM (K : PySem.W.Frag) (a : V) : L2.St → Hp → Prop := fun σ H => ∃ (v1 v2 : Option V) (gd : Bool) (l : Addr) (xs : List V), σ = [some a, v1, v2, some (.bl gd), some (.ref l), none, none, none] ∧ SqL K H l xs ∧
  ((gd = true ∧ ∃ ps, okF ps ∧ Paired (RP K H) xs ps) ∨ (gd = false ∧ ∃ qs, ¬ okFQ qs ∧ (∀ q ∈ qs, smQ q) ∧ qs.length ≤ 100 ∧ Paired (RQ K H) xs qs))
end Lf

/-! # LfLcX -/
set_option Elab.async false
set_option linter.all false
set_option maxRecDepth 100000
set_option maxHeartbeats 4000000
namespace Lf
open PySem PySem.Spec PyProof.Rows L2
/-! ## a list comprehension whose element may let an exception out -/
section
variable {M : Model} {A : Around} {E : Value → Shared → Prop} {s : Shared} {env : Env}
/-- behind the block: the list, or an exception that goes on from the block's own environment -/
def CPost (M : Model) (A : Around) (E : Value → Shared → Prop) (Q : Value → Shared → Prop) (acc : Value) (ce : Env) : Result → Shared → Prop
  | .ok _, t => ∃ m, t.heap.Ns ce.locals m ∧ ∀ h, Heap.SameBut ce.locals t.heap h → Q acc { t with heap := h }
  | .error x, t => ∃ m, t.heap.Ns ce.locals m ∧ ∀ h, Heap.SameBut ce.locals t.heap h → wpAny M A (passOn "comprehension.variables-let-go" x ce : Sem Value) (fun _ _ => False) E { t with heap := h }
theorem comp_out {e : Expr} {scope : Scope} {pos : Pos} {newAcc first : Sem Value} {g : Comprehension} {gs : List Comprehension} {cl : List (Str × Addr)} {Q : Value → Shared → Prop}
    (h1 : clausesOf e = g :: gs) (h2 : ∀ x, foldedSetIterable g.iter env x = pure x) (h3 : closureFor scope env = pure cl) (h4 : scope.kind = .function) (h5 : ∀ x ∈ scope.names, x.2 = .local → scope.names.lookup x.1 = some .local)
    (h : wpAny M A first (fun x t1 => wpAny M A (pyIter x) (fun it t2 => wpAny M A newAcc (fun acc t3 => wpAny M A (newFunctionEnv scope env.globals cl [] env.qual none .none (some env))
      (fun ce t4 => codeAny M A (.compStart e 0 it acc { ce with scope := relabel scope env }) (CPost M A E Q acc { ce with scope := relabel scope env }) t4) E t3) E t2) E t1) E s) :
    wpAny M A (comprehension e scope env pos newAcc false first none) Q E s := by
  unfold comprehension
  rw [h3, h1]
  have up : ∀ {α : Type} {t : Sem α} {P P' : α → Shared → Prop} {u : Shared}, wpAny M A t P E u → (∀ a v, P a v → P' a v) → wpAny M A t P' E u := fun w k => wpAny_mono w k fun _ _ z => z
  refine wpAny_bind (up h fun x t1 w1 => wpAny_bind (wpAny_standAt (wpAny_bind (wpAny_of_eq (h2 x) (wpAny_bind (wpAny_holding (up w1 fun it t2 w2 => ?_)))))))
  refine wpAny_standIf (wpAny_bind (up w2 fun acc t3 w3 => wpAny_bind (wpAny_pure (wpAny_bind (up w3 fun ce t4 w4 => ?_)))))
  dsimp only
  have hv : ∀ x ∈ (scope.names.filter fun x => (x.2 == .local || x.2 == .cell) && x.1 != (".0" : Str)).reverse, x.2 = .local → Env.kindOf { ce with scope := relabel scope env } x.1 = some .local :=
    fun x hx hl => lookup_relabel_local (h5 x (List.mem_filter.mp (List.mem_reverse.mp hx)).1 hl)
  refine wpAny_holding (wpAny_bind (wpAny_attempt (wpAny_holding (wpAny_run (codeAny_mono w4 fun r t5 w5 => ?_)))))
  cases r with
  | ok f =>
    obtain ⟨m, hn, k⟩ := w5
    exact wpAny_bind (wpAny_holding (wpAny_comp_letGo (cenv := { ce with scope := relabel scope env }) h4 _ t5 m hv hn fun h' m' _ sb => wpAny_pure (k h' sb)))
  | error x =>
    obtain ⟨m, hn, k⟩ := w5
    exact wpAny_bind (wpAny_holding (wpAny_comp_letGo (cenv := { ce with scope := relabel scope env }) h4 _ t5 m hv hn fun h' m' _ sb => wpAny_mono (k h' sb) (fun _ _ z => z.elim) fun _ _ z => z))
theorem frames_to {h h' B B' : Heap} : ∀ {l : List Env}, h.FunFrames B l → (∀ b ∈ frs l, h'.get? b = h.get? b) → (∀ b ∈ frs l, B'.get? b = none) → h'.FunFrames B' l
  | [], _, _, _ => trivial
  | env :: l, ⟨hk, ⟨L, o, hf, _, ho, hd⟩, hr⟩, k, n => by
    have hL : L ∈ frs (env :: l) := List.mem_filterMap.mpr ⟨env, List.mem_cons_self, hf⟩
    have sub : ∀ b ∈ frs l, b ∈ frs (env :: l) := fun b hb => by
      obtain ⟨e, he, q⟩ := List.mem_filterMap.mp hb
      exact List.mem_filterMap.mpr ⟨e, List.mem_cons_of_mem _ he, q⟩
    exact ⟨hk, ⟨L, o, hf, n L hL, (k L hL).trans ho, hd⟩, frames_to hr (fun b hb => k b (sub b hb)) fun b hb => n b (sub b hb)⟩
theorem noteFrame_eq {ce : Env} {x : Value} (h : ce.frame = env.frame) : noteFrame x ce = noteFrame x env := by
  simp only [noteFrame, PySem.frameOf, h]
end
section
variable {X : Cx} {W : WX}
/-- behind a call that let an exception out: where it flies -/
theorem call_air {pins : List (Addr × Obj)} {σ : L2.St} {H : Hp} {s s' : Shared} {E : XK} {u : Value} (I : Inv X pins σ H s) (c : L2.CX X.prog X.w X.stack H s E u s') :
    ∃ (a : Addr) (B : Heap) (sI : Shared) (H' : Hp) (cls : Value) (d : Option Addr), u = .ref a ∧ Inv X pins σ H' sI ∧ (∀ b o, sI.heap.get? b = some o → b ∉ frs X.stack → B.get? b = some o) ∧ sI.heap.UpToSlots s'.heap ∧
      HandSPX.FlyingZ B X.stack a (Zc cls d) s'.heap ∧ H' a = none ∧ s'.os = sI.os ∧ AllBare s'.gens ∧ E cls d H' ∧ (∀ b o, s.heap.get? b = some o → H b = none → H' b = none) := by
  obtain ⟨a, B, H', cls, d, e0, fl, hok, ub, na, os, ag, hE⟩ := c
  obtain ⟨G, in1, out1⟩ := restrict s'.heap fun b => (B.get? b).isSome || decide (b ∈ frs X.stack)
  have grd : ∀ b o, B.get? b = some o → G.get? b = some o := fun b o e => (in1 b (by simp [e])).trans (fl.1 b o e)
  have frm : ∀ b, b ∈ frs X.stack → G.get? b = s'.heap.get? b := fun b hb => in1 b (by simp [hb])
  have src : ∀ b o, G.get? b = some o → s'.heap.get? b = some o ∧ (b ∉ frs X.stack → B.get? b = some o) := fun b o e => by
    cases q : ((B.get? b).isSome || decide (b ∈ frs X.stack)) with
    | false => rw [out1 b q] at e; cases e
    | true =>
      rw [in1 b q] at e
      refine ⟨e, fun nb => ?_⟩
      have : (B.get? b).isSome = true := by simpa [nb] using q
      obtain ⟨o', q'⟩ := Option.isSome_iff_exists.mp this
      have z := fl.1 b o' q'
      rw [e] at z; cases z
      exact q'
  have J : Inv X pins σ H' { s with heap := G, gens := s'.gens, drawn := s'.drawn, toks := s'.toks } := by
    refine I.call (ch := []) ⟨fun b o e n hb _ => grd b o (ub.keep b o e n hb), fun b o e _ hb _ => ?_, fun b o e n _ => ub.free b o e n, fun b o e _ => ?_, ub.tups, ub.frzs, ub.tbls⟩ (hok.kept grd) ag (fun _ z => nomatch z)
    · obtain ⟨sl, q⟩ := ub.slot b o e hb
      exact ⟨sl, (frm b hb).trans q⟩
    · by_cases hb : b ∈ frs X.stack
      · obtain ⟨sl, q⟩ := ub.slot b o e hb
        exact ⟨_, (frm b hb).trans q⟩
      · obtain ⟨o', q⟩ := ub.there b o e hb
        exact ⟨o', grd b o' q⟩
  exact ⟨a, B, _, H', cls, d, e0, J, fun b o e hb => (src b o e).2 hb, Heap.UpToSlots.of_keeps fun b o e => (src b o e).1, fl, na, os, ag, hE, ub.free⟩
/-- an exception of the block is in our air: it is noted, the block's names go, it goes on -/
theorem air_out (hs : X.stack = X.env :: X.outer) (hf : X.env.frame = some X.env.locals) (tk : Takes X W) {u acc : Value} {s s' : Shared} {Q : Value → Shared → Prop} {ce : Env} {m : Str → Option Value} {pins : List (Addr × Obj)} {σ : L2.St} {H0 : Hp} (hce : ce.frame = X.env.frame)
    (I0 : Inv X pins σ H0 s) (c : L2.CX X.prog X.w X.stack H0 s (WE W σ) u s') (h0 : s.heap.Ns ce.locals m) (hn : s'.heap.Ns ce.locals m) (hC : FpOk X pins H0 ce.locals) :
    notedBy (model X.prog X.w) X.A ce (fun e t => CPost (model X.prog X.w) X.A X.xe Q acc ce (.error e) t) u s' := by
  obtain ⟨a, B, sI, H, cls, d, rfl, I, nb, up, fl, na, os, ag, w, fr⟩ := call_air I0 c
  obtain ⟨f0, f1, f2, f3, f4, f5⟩ := hC
  have f0 : H ce.locals = none := let ⟨o, _, _, ho, _⟩ := h0; fr _ o ho f0
  rw [hs] at fl
  have hfr : X.A.frames = some (X.env :: X.outer) := I.ok.frames.trans (congrArg some hs)
  have fin : ∀ h1, HandSPX.HeldZ B (X.env :: X.outer) a (Zc cls d) X.env.locals h1 → s'.heap.UpToSlots h1 → CPost (model X.prog X.w) X.A X.xe Q acc ce (.error (.ref a)) { s' with heap := h1 } := fun h1 hh up1 => by
    have n1 := up1.ns hn
    refine ⟨m, n1, fun h sb => ?_⟩
    obtain ⟨k1, k2, k3, oe, vs, T, oT, ts, he, hz, hd, ht1, hnT, hTe, hT, hdT, h3⟩ := hh
    obtain ⟨oC, es, ep, hoC, hdC, _⟩ := n1
    have isF : ∀ b o v, h1.get? b = some o → o.data = .fields v → b ≠ ce.locals := fun b o v e q z => by
      rw [z] at e
      have : oC = o := Option.some.inj (hoC.symm.trans e)
      rw [← this, hdC] at q; cases q
    obtain ⟨G, g1, g2⟩ := restrict sI.heap fun b => decide (b ≠ ce.locals)
    obtain ⟨B', b1, b2⟩ := restrict B fun b => decide (b ≠ ce.locals)
    have gne : ∀ b o, G.get? b = some o → b ≠ ce.locals ∧ sI.heap.get? b = some o := fun b o e => by
      by_cases z : b = ce.locals
      · rw [g2 b (decide_eq_false fun y => y z)] at e; cases e
      · exact ⟨z, by rw [← g1 b (decide_eq_true z)]; exact e⟩
    have bne : ∀ b o, B'.get? b = some o → b ≠ ce.locals ∧ B.get? b = some o := fun b o e => by
      by_cases z : b = ce.locals
      · rw [b2 b (decide_eq_false fun y => y z)] at e; cases e
      · exact ⟨z, by rw [← b1 b (decide_eq_true z)]; exact e⟩
    have bno : ∀ b, B.get? b = none → B'.get? b = none := fun b e => by
      cases q : B'.get? b with
      | none => rfl
      | some o => have := (bne b o q).2; rw [e] at this; cases this
    have kh : ∀ b, b ≠ ce.locals → h.get? b = h1.get? b := fun b z => sb.2 b z
    have hh' : HandSPX.HeldZ B' (X.env :: X.outer) a (Zc cls d) X.env.locals h := by
      refine ⟨fun b o e => ?_, bno _ k2, ?_, oe, vs, T, oT, ts, ?_, hz, hd, ht1, bno _ hnT, hTe, ?_, hdT, h3⟩
      · obtain ⟨z, e'⟩ := bne b o e
        rw [kh b z]; exact k1 b o e'
      · refine frames_to k3 (fun b hb => kh b fun z => ?_) fun b hb => bno b (k3.mem hb).1
        rcases List.mem_cons.mp (I.stkSub b (by rw [hs]; exact hb)) with y | y
        · exact f1 (z ▸ y)
        · exact f2 (z ▸ y)
      · rw [kh a (isF a oe vs he hd)]; exact he
      · rw [kh T (isF T oT ts hT hdT)]; exact hT
    have I' : Inv X pins σ H { sI with heap := G, toks := sI.toks } := I.turned (fun b o hb e => by rw [g1 b (decide_eq_true hb)]; exact e) f0 f1 f3 f4 f5
    have up2 : G.UpToSlots h := fun b o e nf => by
      obtain ⟨z, e'⟩ := gne b o e
      obtain ⟨sl, q⟩ := up b o e' nf
      obtain ⟨sl2, q2⟩ := up1 b _ q nf
      exact ⟨sl2, by rw [kh b z]; exact q2⟩
    unfold PySem.passOn
    refine wpAny_bind (wpAny_field (by rw [kh a (isF a oe vs he hd)]; exact he) hd ht1 ?_)
    rw [if_neg (show ¬ ((Value.ref T == Value.none) = true) from by simp)]
    have go : wpAny (model X.prog X.w) X.A (setFlight (.ref a) ce.frame) (fun _ t4 => wpAny (model X.prog X.w) X.A (throw (.ref a) : Sem Value) (fun _ _ => False) X.xe t4) X.xe { s' with heap := h } := by
      rw [hce, hf]
      refine HandSPX.setFlight_onZ hh' fun h4 hh4 up4 => wpAny_throw (tk _ _ ?_)
      exact ⟨a, B', { sI with heap := G, toks := sI.toks }, pins, σ, H, cls, d, rfl, I', fun b o e nf => by obtain ⟨z, e'⟩ := gne b o e; rw [b1 b (decide_eq_true z)]; exact nb b o e' nf, up2.trans up4, .inr (.inr (by rw [hs]; exact hh4)), na, os, ag, w⟩
    first
      | exact wpAny_bind (wpAny_pure (wpAny_bind go))
      | exact wpAny_bind go
  show wpAny _ _ (noteFrame (.ref a) ce) _ _ _
  rw [noteFrame_eq hce]
  exact HandSPX.looks_onZ Zc.steady hfr hf fl fun h' hh up' => fin h' hh up'
end
section
variable {X : Cx} {W : WX}
/-- the block's context: what is let out goes to xe -/
abbrev blkX (X : Cx) (s : Shared) (H : Hp) (scope : Scope) (ce : Env) (fp : List Addr) (xe : Value → Shared → Prop) : Cx := (X.blk s H scope ce fp).wish xe
theorem pe_lcX {elt tg iter : Expr} {scope : Scope} {own : List (Str × Nat)} {pos : Pos} {wi : TI} {g : TG} {te : L2.St → TE} (hs : X.stack = X.env :: X.outer) (hf : X.env.frame = some X.env.locals) (tk : Takes X W) (hc : X.calm = true) (hN : X.N.Nodup) (hi : PI X tg iter wi)
    (ok : BlkOk X.N X.env.scope scope own) (hg : ∀ (s : Shared) (H : Hp) (C : Addr) (cl : List (Str × Addr)) (fp : List Addr) (xe : Value → Shared → Prop), PG (blkX X s H scope (compEnvC scope cl C X.env) fp xe) tg g)
    (he : ∀ (s : Shared) (H : Hp) (C : Addr) (cl : List (Str × Addr)) (fp : List Addr) (xe : Value → Shared → Prop) (σ0 : L2.St), (∀ σ, PassesAt (L2.CX X.prog X.w) (blkX X s H scope (compEnvC scope cl C X.env) fp xe) σ (WE W σ0)) →
      PE (blkX X s H scope (compEnvC scope cl C X.env) fp xe) elt (te σ0)) (hfs : ∀ x, foldedSetIterable iter X.env x = pure x := by intro _; rfl) :
    PE X (.ListComp elt [⟨tg, iter, [], 0⟩] scope pos) (fun σ H Q => tLc wi g tYes (te σ) (own.map (·.2)) σ H Q) := by
  refine ⟨fun pins s σ H Q I h => ?_⟩
  rw [eval_ListComp]
  have hfree : ∀ y ∈ scope.names, y.2 = .free → ∃ c, X.env.cells.lookup y.1 = some c := fun y hy e => (ok.free y hy e).elim (fun k => I.ok.has _ (.inl k)) fun k => I.ok.has _ (.inr k)
  refine comp_out rfl hfs (closure_ok hfree) ok.kind (fun y hy e => by rw [ok.uniq y hy, e]) (thn (hi.run pins s σ H _ I h) fun _ s1 hx => thn hx ?_)
  rintro _ s2 ⟨it, fp, tn, J, H2, rfl, I2, T, st2, f2, q⟩
  refine wpAny_newObj_type (newEnv_comp ?_) (by show 0 ≤ sizeLine; decide)
  generalize hD : s2.heap.objs.size = D
  obtain ⟨V0, ⟨m0, v0⟩, turn⟩ := q D (I2.hok.fresh (Nat.le_of_eq hD))
  generalize hs3 : ({ s2 with heap := s2.heap.push { cls := .type "list", data := .seq ([] : List Value).toArray } } : Shared) = s3
  have h3 : s3.heap = s2.heap.push { cls := .type "list", data := .seq ([] : List Value).toArray } := by rw [← hs3]
  have I3 : Inv X pins σ (upd H2 D (.lst [])) s3 := by
    rw [← hs3]
    exact I2.laid (t' := s2.toks) (fun b o e => Heap.get?_push_of_some _ e) (Nat.le_of_eq hD) ⟨Nat.zero_le _, [], 0, .nil, by rw [← hD]; exact Heap.get?_push_size _ rfl⟩
  have sz : ∀ b ∈ fp, b < s2.heap.objs.size := fun b hb => let ⟨_, e, _⟩ := T.obj _ _ st2 b hb; Heap.lt_size e
  have f3 : ∀ b ∈ fp, FpOk X pins (upd H2 D (.lst [])) b ∧ b < s3.heap.objs.size := fun b hb =>
    ⟨⟨(upd_ne (by rw [← hD]; exact Nat.ne_of_lt (sz b hb))).trans (f2 b hb).1, (f2 b hb).2⟩, by rw [h3, Heap.size_push]; exact Nat.lt_succ_of_lt (sz b hb)⟩
  have st3 : tn 0 s3.heap := T.keep _ _ _ st2 fun b _ o e => by rw [h3]; exact Heap.get?_push_of_some _ e
  have I4 := block_start I3 ok hN f3
  generalize hcl : cellsFrom (s3.heap.objs.size + 1) scope.names (cloFrom X.env.cells scope.names []) = cl at I4
  generalize hxe : notedBy (model X.prog X.w) X.A (compEnvC scope cl s3.heap.objs.size X.env) (fun e t => CPost (model X.prog X.w) X.A X.xe (EP X pins σ Q) (.ref D) (compEnvC scope cl s3.heap.objs.size X.env) (.error e) t) = xe
  have pg := hg s3 (upd H2 D (.lst [])) s3.heap.objs.size cl fp xe
  have pe := he s3 (upd H2 D (.lst [])) s3.heap.objs.size cl fp xe σ
  have hce : (compEnvC scope cl s3.heap.objs.size X.env).frame = X.env.frame := rfl
  have cL : (compEnvC scope cl s3.heap.objs.size X.env).locals = s3.heap.objs.size := rfl
  show codeAny _ _ (.compStart (.ListComp elt [⟨tg, iter, [], 0⟩] scope pos) 0 (.ref it) (.ref D) (compEnvC scope cl s3.heap.objs.size X.env))
    (CPost (model X.prog X.w) X.A X.xe (EP X pins σ Q) (.ref D) (compEnvC scope cl s3.heap.objs.size X.env)) { s3 with heap := pushCells (s3.heap.push { cls := .type "dict", data := .dict #[] }) scope.names }
  generalize compEnvC scope cl s3.heap.objs.size X.env = ce at I4 pg pe hce cL hxe ⊢
  have nfp : ∀ b ∈ fp, (upd H2 D (.lst [])) b = none := fun b hb => (f3 b hb).1.1
  generalize hH3 : upd H2 D (.lst []) = H3 at I3 I4 pg pe v0 nfp f3
  generalize hs4 : ({ s3 with heap := pushCells (s3.heap.push { cls := .type "dict", data := .dict #[] }) scope.names } : Shared) = s4 at I4 ⊢
  have st4 : tn 0 s4.heap := T.keep _ _ _ st3 fun b _ o e => by rw [← hs4]; exact pushCells_keeps _ _ _ _ (Heap.get?_push_of_some _ e)
  -- from the block's context back to the def's
  have back : ∀ {p : List (Addr × Obj)} {σ' : L2.St} {H' : Hp} {s' : Shared}, Inv (blkX X s3 H3 scope ce fp xe) p σ' H' s' → Inv X pins σ H' s' ∧ FpOk X pins H' ce.locals := fun {p σ' H' s'} I' =>
    ⟨I3.call' (ch := fp) I'.os I'.base I'.hok I'.bare fun b hb => ⟨(f3 b hb).1.2.2.2.1, (f3 b hb).1.2.1, (f3 b hb).1.2.2.2.2.1, (f3 b hb).1.2.2.2.2.2⟩,
     I3.fpOk (Nat.le_of_eq cL.symm) (show H' ce.locals = none from I'.free)⟩
  have pass : ∀ σ', PassesAt (L2.CX X.prog X.w) (blkX X s3 H3 scope ce fp xe) σ' (WE W σ) := fun σ' p H' s' e t I' c => by
    obtain ⟨m, hn, _⟩ := I'.loc
    have hn : s'.heap.Ns ce.locals m := hn
    have nC : H' ce.locals = none := I'.free
    obtain ⟨I0, fC⟩ := back I'
    have hn' : t.heap.Ns ce.locals m := by
      obtain ⟨a, B, H'', cls, d, _, fl, _, ub, _⟩ := id c
      obtain ⟨o, es, ep, ho, r⟩ := hn
      refine ⟨o, es, ep, fl.1 _ _ (ub.keep _ _ ho nC fun hm => ?_), r⟩
      rcases List.mem_cons.mp (I0.stkSub _ hm) with z | z
      · exact fC.2.1 z
      · exact fC.2.2.1 z
    show xe e t
    rw [← hxe]
    exact air_out hs hf tk hce I0 c hn hn' fC
  have pe := pe pass
  have stat : ∀ {σ' : L2.St} {H' : Hp} {s' : Shared}, Inv (blkX X s3 H3 scope ce fp xe) [] σ' H' s' → (∀ b ∈ fp, H' b = none) → ∀ b ∈ fp, FpOk (blkX X s3 H3 scope ce fp xe) [] H' b := fun {σ' H' s'} I' hn b hb =>
    ⟨hn b hb, (I'.ok.exf b hb).1, I'.ok.exfs b hb, .inl hb, fun x c e => (I'.ok.exf b hb).2 x c e, fun p hp => nomatch (show p ∈ ([] : List (Addr × Obj)) from hp)⟩
  have loop : codeAny (model X.prog X.w) X.A (.compLoop (.ListComp elt [⟨tg, iter, [], 0⟩] scope pos) 0 (.ref it) (.ref D) ce) (CPost (model X.prog X.w) X.A X.xe (EP X pins σ Q) (.ref D) ce) s4 := by
    refine compLoop_any (fun n s' => ∃ i H', Inv (blkX X s3 H3 scope ce fp xe) [] (wipe σ (own.map (·.2))) H' s' ∧ tn i s'.heap ∧ (∀ b ∈ fp, H' b = none) ∧ V0 i n H') ?_ m0 ⟨0, H3, I4.wish xe, st4, nfp, v0⟩
    rintro n s5 ⟨i, H5, I5, st5, n5, w5⟩
    rw [hxe]
    rcases turn i n H5 w5 with ⟨stop, qq⟩ | ⟨go, Nx, hNx, step⟩
    · refine thn (T.done (blkX X s3 H3 scope ce fp xe) rfl rfl rfl hc i [] s5 _ H5 xe I5 (stat I5 n5) st5 stop) fun r s6 ⟨hr, I6⟩ => ?_
      subst hr
      obtain ⟨I7, fC⟩ := back I6
      obtain ⟨m, hn, _⟩ := I6.loc
      exact ⟨m, hn, fun h sb => ⟨.ref D, H5, I7.turned (t' := s6.toks) (fun b o hb e => (sb.2 b hb).trans e) fC.1 fC.2.1 fC.2.2.2.1 fC.2.2.2.2.1 fC.2.2.2.2.2, rfl, qq⟩⟩
    · refine thn (T.item (blkX X s3 H3 scope ce fp xe) rfl rfl rfl hc i [] s5 _ H5 xe I5 (stat I5 n5) st5 go) fun r s6 ⟨u, hr, h6⟩ => ?_
      subst hr
      refine thn h6 fun _ s7 ⟨x, H7, I7, r7, y7, st7, n7⟩ => ?_
      refine thn (pg.run _ s7 _ H7 x u _ (I7.pinned (stat I7 n7) (T.obj _ _ st7)) r7 (step x H7 y7)) fun _ s8 ⟨σ8, H8, I8, hw8, q8⟩ => ?_
      have fin : ∀ {s' : Shared} {H' : Hp}, Inv (blkX X s3 H3 scope ce fp xe) ([] ++ pinsAt fp s7.heap) σ8 H' s' → Nx H' → ∃ m, m < n ∧ ∃ i H', Inv (blkX X s3 H3 scope ce fp xe) [] (wipe σ (own.map (·.2))) H' s' ∧ tn i s'.heap ∧ (∀ b ∈ fp, H' b = none) ∧ V0 i m H' := fun {s' H'} I' nx => by
        obtain ⟨m', hm, w'⟩ := hNx H' nx
        have held : ∀ b ∈ fp, ∀ o, s7.heap.get? b = some o → s'.heap.get? b = some o ∧ H' b = none := fun b hb o e =>
          ⟨(I'.pin (b, o) (List.mem_append_right _ (List.mem_append_right _ (mem_pinsAt hb e)))).1, (I'.pin (b, o) (List.mem_append_right _ (List.mem_append_right _ (mem_pinsAt hb e)))).2.1⟩
        refine ⟨m', hm, i + 1, H', (I'.unpinned (pins := [])).weak (by rw [← hw8, wipe_length]) (fun j v e => ?_), T.keep _ _ _ st7 fun b hb o e => (held b hb o e).1, fun b hb => ?_, w'⟩
        · rw [← hw8] at e
          exact (wipe_some e).1
        · obtain ⟨o, e, _⟩ := T.obj _ _ st7 b hb
          exact (held b hb o e).2
      refine wpAny_tests_nil ?_
      rw [if_pos rfl]
      have q9 := q8
      unfold tYes at q9
      dsimp only at q9
      rw [if_pos rfl] at q9
      refine thn (pe.run _ s8 σ8 H8 _ I8 q9) fun z s10 ⟨yv, H10, I10, r10, acc, hD10, hz10, nx⟩ => ?_
      exact app_ok (X := blkX X s3 H3 scope ce fp xe) I10 hD10 hz10 r10 fun s11 I11 => fin I11 nx
  exact codeAny_compStart_list loop (T.self X.A 0 _ _ _ st4 loop)
end
end Lf

/-! # LfFx -/
set_option Elab.async false
set_option linter.all false
set_option maxRecDepth 100000
set_option maxHeartbeats 4000000
namespace Lf
open PySem PySem.Spec PyProof.Rows L2
/-! ## raise of an own class with an __init__ -/
structure RzI (P : Program) (w : World) (K : PySem.W.Frag) (mg : Str → Option Value) (base : Heap) (x : Str) (C : Addr) (k : Nat) (sp : Sp) : Prop where
  T : OexC K C
  mgc : mg x = some (.ref C)
  ex : ∃ (f : Addr) (fd : FuncData) (ps : List Str), PySem.W.findIn K (.ref C) "__init__" = some (some (.ref f)) ∧ PySem.W.typeIn K (.ref f) = some (.type "function") ∧ FnOk P w K mg base CX0 k f fd ps sp ∧ Binds K fd ps []
theorem ps_rzI {X : Cx} {W : WX} {x : Str} {C : Addr} {k j : Nat} {sp : Sp} {e : Expr} {es : List Expr} {ta : TA} {p pos pos2 : Pos} (c : RzI X.prog X.w X.K X.mg X.base x C k sp) (hr : Room j X.A) (hk : k + 1 ≤ j) (hc : X.calm = true) (tk : Takes X W) (hg : Gl X x) (ha : PA X (e :: es) ta)
    (hdb : (x == ("__debug__" : Str)) = false := by decide) (he : starEach (e :: es) X.env = (false, eval e X.env) :: starEach es X.env := by rfl) (hpl : (backTo pos (starEach es X.env)).any (·.1) = false := by rfl) :
    PS X (.Raise (some (.Call (.Name x p) (e :: es) [] pos)) none pos2) (fun _ σ H => tMkO C sp [] ta σ H fun cls d H' => W cls d σ H') := by
  obtain ⟨f, fd, ps, i1, i2, F, b⟩ := c.ex
  exact ps_raise hc tk (pmk_oex c.T i1 i2 F (hr.mono hk) b .nil pass0 hg c.mgc ha hdb he hpl)
/-- a call within a block, its exceptions going where hx says -/
theorem cXb {X : Cx} {k j : Nat} {x : Str} {sp : Sp} {p pos : Pos} {e : Expr} {es : List Expr} {t : TA} {E : L2.St → XK} (hx : ∀ σ, PassesAt (L2.CX X.prog X.w) X σ (E σ)) (c : Dn X.prog X.w X.K X.mg X.base (L2.CX X.prog X.w) k x sp) (hr : Room j X.A) (hk : k ≤ j) (hg : Gl X x) (ha : PA X (e :: es) t)
    (hdb : (x == ("__debug__" : Str)) = false := by decide) (he : starEach (e :: es) X.env = (false, eval e X.env) :: starEach es X.env := by rfl) (hpl : (backTo pos (starEach es X.env)).any (·.1) = false := by rfl) :
    PE X (.Call (.Name x p) (e :: es) [] pos) (tCallS sp E t) := by
  obtain ⟨f, fd, ps, F, hm, kp, b⟩ := c.ex
  exact pe_callS F (hr.mono hk) hg hm kp b hx ha hdb he hpl
/-- BadValue's own __init__ -/
def sp_BadValue___init__ (C : Addr) : Sp := fun vs H Q _ => ∃ (a : Addr) (v : V), vs = [.ref a, v] ∧ H a = some (exo a C none) ∧ ∀ dx, H dx = none → dx ≠ a → Q .non (upd (upd H dx (exd dx [("name", v)])) a (exo a C (some dx)))
/-- an exception with that name goes out -/
def Rz (C : Addr) (n : Str) (H : Hp) (E : XK) : Prop := ∀ d H', Keep H H' → H d = none → H' d = some (.xd [("name", .str n)]) → E (.ref C) (some d) H'
theorem Rz.mono {C : Addr} {n : Str} {H H1 : Hp} {E : XK} (h : Rz C n H E) (k : Keep H H1) : Rz C n H1 E := fun d H' k' nd e => h d H' (k.trans k') (k.free nd) e
theorem rz_mk {C : Addr} {n : Str} {H : Hp} {E : XK} (h : Rz C n H E) : ([V.str n] : List V).length ≤ 1000 ∧ ∀ a, H a = none → sp_BadValue___init__ C (.ref a :: ([V.str n] ++ [])) (upd H a (exo a C none))
    (fun v H2 => v = .non ∧ ∃ (d : Addr) (fs : List (Str × V)), H2 a = some (exo a C (some d)) ∧ H2 d = some (exd d fs) ∧ H d = none ∧ E (.ref C) (some d) (upd (del H2 a) d (.xd fs))) (fun _ _ _ => False) := by
  refine ⟨Nat.le_of_ble_eq_true rfl, fun a na => ⟨a, .str n, rfl, upd_same, fun dx nd ne => ⟨rfl, dx, _, upd_same, (upd_ne ne).trans upd_same, ?_, ?_⟩⟩⟩
  · rw [upd_ne ne] at nd; exact nd
  · rw [upd_ne ne] at nd
    refine h dx _ (fun b o e => ?_) nd upd_same
    have ba : b ≠ a := ne_of_none e na
    have bd : b ≠ dx := ne_of_none e nd
    rw [upd_ne bd, del_ne ba, upd_ne ba, upd_ne bd, upd_ne ba]
    exact e
/-! ## what does not fit, first -/
def fitO (sg : Str) (lo hi : Int) : Option Str → Bool
  | none => false
  | some s => decide (lo ≤ (s.length : Int)) && (decide ((s.length : Int) ≤ hi) && s.cps.toList.all fun c => decide (c ∈ sg.cps.toList))
theorem fitO_iff {sg : Str} {lo hi : Int} {o : Option Str} : fitO sg lo hi o = true ↔ ∃ s, o = some s ∧ fit0 sg lo hi s := by
  cases o with
  | none => exact ⟨fun h => Bool.noConfusion h, fun ⟨_, h, _⟩ => nomatch h⟩
  | some s =>
    unfold fitO fit0
    simp only [Bool.and_eq_true, decide_eq_true_eq, List.all_eq_true]
    exact ⟨fun h => ⟨s, rfl, h.1, h.2.1, h.2.2⟩, fun ⟨_, e, h⟩ => by cases e; exact h⟩
def bad0 (f : Str → Option Str) : P0 → Option Str
  | .say _ => none
  | .ask nm sg lo hi => if fitO sg lo hi (f nm) = true then none else some nm
def first0 (f : Str → Option Str) (ps : List P0) : Option Str := ps.findSome? (bad0 f)
def txO (vals : List (Str × Vl)) (n : Str) : Option Str := match look n vals with
  | some (.tx s) => some s
  | _ => none
def badP (vals : List (Str × Vl)) : Pc → Option Str
  | .p0 p => bad0 (txO vals) p
  | .rows nm ips _ lo hi => match look nm vals with
    | some (.rws rs) => if lo ≤ (rs.length : Int) ∧ (rs.length : Int) ≤ hi then rs.findSome? fun r => first0 (fun n => look n r) ips else some nm
    | _ => some nm
def firstF (vals : List (Str × Vl)) (ps : List Pc) : Option Str := ps.findSome? (badP vals)
theorem findSome_at {α β : Type} {f : α → Option β} : ∀ {l : List α} {i : Nat} {x : α} {y : β}, (∀ z ∈ l.take i, f z = none) → l[i]? = some x → f x = some y → l.findSome? f = some y
  | [], _, _, _, _, h, _ => by simp at h
  | a :: l, 0, x, y, _, h, e => by
    simp at h; subst h
    rw [List.findSome?_cons, e]
  | a :: l, i + 1, x, y, n, h, e => by
    rw [List.findSome?_cons, n a (by simp)]
    exact findSome_at (i := i) (fun z hz => n z (by rw [List.take_succ_cons]; exact List.mem_cons_of_mem _ hz)) (by simpa using h) e
theorem take_none {α β : Type} {f : α → Option β} {l : List α} {i : Nat} {x : α} (h : ∀ z ∈ l.take i, f z = none) (hx : l[i]? = some x) (e : f x = none) : ∀ z ∈ l.take (i + 1), f z = none := fun z hz => by
  rw [take_snoc hx] at hz
  rcases List.mem_append.mp hz with hz | hz
  · exact h z hz
  · rw [List.mem_singleton] at hz; subst hz; exact e
theorem findSome_none {α β : Type} {f : α → Option β} {l : List α} (h : ∀ z ∈ l, f z = none) : l.findSome? f = none := List.findSome?_eq_none_iff.mpr h
def getF (f : Str → Option Str) (n : Str) : Str := (f n).getD Str.empty
theorem bad0_none {f : Str → Option Str} {nm sg : Str} {lo hi : Int} (h : bad0 f (.ask nm sg lo hi) = none) : ∃ s, f nm = some s ∧ fit0 sg lo hi s := by
  have h : (if fitO sg lo hi (f nm) = true then none else some nm) = none := h
  by_cases e : fitO sg lo hi (f nm) = true
  · exact fitO_iff.mp e
  · rw [if_neg e] at h; cases h
theorem bad0_some {f : Str → Option Str} {nm sg : Str} {lo hi : Int} (h : ¬ ∃ s, f nm = some s ∧ fit0 sg lo hi s) : bad0 f (.ask nm sg lo hi) = some nm := if_neg fun e => h (fitO_iff.mp e)
theorem bad0_ok {f : Str → Option Str} {nm sg s : Str} {lo hi : Int} (e : f nm = some s) (h : fit0 sg lo hi s) : bad0 f (.ask nm sg lo hi) = none := if_pos (fitO_iff.mpr ⟨s, e, h⟩)
theorem fit_of_none {f : Str → Option Str} {ps : List P0} (h : ∀ p ∈ ps, bad0 f p = none) : AsksFit (getF f) ps := fun nm sg lo hi hp => by
  obtain ⟨s, e, z⟩ := bad0_none (h _ hp)
  unfold getF; rw [e]; exact z
theorem fits_of_none {vals : List (Str × Vl)} {p : Pc} (h : badP vals p = none) : fitsP vals p := by
  cases p with
  | p0 p =>
    cases p with
    | say t => trivial
    | ask nm sg lo hi =>
      obtain ⟨s, e, z⟩ := bad0_none h
      refine ⟨s, ?_, z⟩
      unfold txO at e
      split at e
      · next s' e' => cases e; exact e'
      · cases e
  | rows nm ips gap lo hi =>
    unfold badP at h
    dsimp only at h
    split at h
    · next rs e =>
      split at h
      · next hb =>
        refine ⟨rs, e, hb.1, hb.2, fun r hr p hp => ?_⟩
        have hn := List.findSome?_eq_none_iff.mp h r hr
        have hp2 := List.findSome?_eq_none_iff.mp hn p hp
        cases p with
        | say t => trivial
        | ask nm2 sg lo2 hi2 =>
          obtain ⟨s, e2, z⟩ := bad0_none hp2
          exact ⟨s, e2, z⟩
      · cases h
    · cases h
/-! ## promises of the defs that fill, or refuse -/
def tyF (vals : List (Str × Vl)) : Pc → Prop
  | .p0 (.say _) => True
  | .p0 (.ask nm _ _ _) => look nm vals = none ∨ ∃ s, look nm vals = some (.tx s) ∧ s.length ≤ 1000
  | .rows nm _ _ _ _ => look nm vals = none ∨ ∃ rs, look nm vals = some (.rws rs) ∧ rs.length ≤ 1000 ∧ ∀ r ∈ rs, ∀ n s, look n r = some s → s.length ≤ 1000
section
variable (K : PySem.W.Frag) (C : Addr)
def sp_ask_value_x : Sp := fun vs H Q E => ∃ (a d : Addr) (nm sg : Str) (lo hi : Int) (kvs : List (Key × V)) (o : Option Str), vs = [.ref a, .ref d] ∧ SqT K H a (P0.ask nm sg lo hi).vs ∧ Rd H d (.dK kvs) ∧ valV kvs (Sum.inr nm : Key) = o.map V.str ∧
  (∀ s, o = some s → s.length ≤ 1000) ∧ (∀ s, o = some s → fit0 sg lo hi s → Q (.str s) H) ∧ ((¬ ∃ s, o = some s ∧ fit0 sg lo hi s) → Rz C nm H E)
def sp_filled0_x : Sp := fun vs H Q E => ∃ (l : Addr) (xs : List V) (ps : List P0) (d : Addr) (kvs : List (Key × V)) (f : Str → Option Str), vs = [.ref l, .ref d] ∧ SqL K H l xs ∧ Paired (R0 K H) xs ps ∧ Rd H d (.dK kvs) ∧
  (∀ nm sg lo hi, P0.ask nm sg lo hi ∈ ps → valV kvs (Sum.inr nm : Key) = (f nm).map V.str) ∧ (∀ n s, f n = some s → s.length ≤ 1000) ∧ ps.length ≤ 6 ∧ (∀ p ∈ ps, ok0 p) ∧ (first0 f ps = none → Q (.str (lineP (getF f) ps)) H) ∧ (∀ n, first0 f ps = some n → Rz C n H E)
def sp_rows_filled_x : Sp := fun vs H Q E => ∃ (a d : Addr) (nm : Str) (ips : List P0) (gap : Str) (lo hi : Int) (kvs : List (Key × V)) (vals : List (Str × Vl)), vs = [.ref a, .ref d] ∧ RP K H (.ref a) (.rows nm ips gap lo hi) ∧ H d = some (.dK kvs) ∧ Paired (RKv K H) kvs vals ∧
  tyF vals (.rows nm ips gap lo hi) ∧ okP (.rows nm ips gap lo hi) ∧ (∀ rs, look nm vals = some (.rws rs) → badP vals (.rows nm ips gap lo hi) = none → RetV H (.str (Txt.join gap (rs.map fun r => lineP (rowf r) ips))) Q) ∧
  (∀ n, badP vals (.rows nm ips gap lo hi) = some n → Rz C n H E)
def sp_filled_x : Sp := fun vs H Q E => ∃ (l : Addr) (xs : List V) (ps : List Pc) (v : V) (vals : List (Str × Vl)), vs = [.ref l, v] ∧ SqL K H l xs ∧ Paired (RP K H) xs ps ∧ RV K H v vals ∧
  ps.length ≤ 6 ∧ (∀ p ∈ ps, okP p ∧ tyF vals p) ∧ (firstF vals ps = none → RetV H (.str (writtenP (fv vals) (gv vals) ps)) Q) ∧ (∀ n, firstF vals ps = some n → Rz C n H E)
def sp_fill_x : Sp := fun vs H Q E => ∃ (x : Addr) (ps : List Pc) (v : V) (vals : List (Str × Vl)), vs = [.ref x, v] ∧ FormAt K H x ps ∧ RV K H v vals ∧
  ps.length ≤ 6 ∧ (∀ p ∈ ps, okP p ∧ tyF vals p) ∧ (firstF vals ps = none → RetV H (.str (writtenP (fv vals) (gv vals) ps)) Q) ∧ (∀ n, firstF vals ps = some n → Rz C n H E)
end
end Lf

/-! # LfVd -/
set_option Elab.async false
set_option linter.all false
set_option maxRecDepth 100000
set_option maxHeartbeats 4000000
namespace Lf
open PySem PySem.Spec PyProof.Rows L2
/-! ## values of one's own, whose rows are things of their own -/
abbrev Row := List (Str × Str)
def RO (H0 H : Hp) (d : Addr) (p : Key × V) (q : Str × Vl) : Prop := p.1 = Sum.inr q.1 ∧ match q.2 with
  | .tx s => p.2 = .str s
  | .rws rs => ∃ (l : Addr) (as : List Addr), p.2 = .ref l ∧ H0 l = none ∧ H l = some (.lst (as.map V.ref)) ∧ as.Nodup ∧ (∀ a ∈ as, H0 a = none ∧ a ≠ d) ∧ Paired (fun a r => H a = some (.dK (rowK r))) as rs
theorem RO.mono {H0 H H' : Hp} {d : Addr} {p : Key × V} {q : Str × Vl} (hd : ∃ kvs, H d = some (.dK kvs)) (h : RO H0 H d p q) (k : ∀ b o, b ≠ d → H b = some o → H' b = some o) : RO H0 H' d p q := by
  obtain ⟨h1, h2⟩ := h
  obtain ⟨kvs, hd⟩ := hd
  refine ⟨h1, ?_⟩
  obtain ⟨n, vl⟩ := q
  cases vl with
  | tx s => exact h2
  | rws rs =>
    obtain ⟨l, as, e, f, hl, nd, fa, pr⟩ := h2
    have ld : l ≠ d := fun z => by rw [z, hd] at hl; cases hl
    refine ⟨l, as, e, f, k _ _ ld hl, nd, fa, ?_⟩
    refine Paired.of_at (Paired.len pr) fun i a r h1 h2 => ?_
    obtain ⟨r', e', z⟩ := Paired.at pr h1
    rw [h2] at e'; cases e'
    exact k _ _ (fa a (mem_at h1)).2 z
section
variable (K : PySem.W.Frag)
def sp__law_row_d : Sp := fun vs H Q _ => ∃ (a : Addr) (ns : List Int) (k : Int) (l : Addr) (xs : List V) (ps : List P0), vs = [.ref a, .int k, .ref l] ∧ SqL K H a (ns.map V.int) ∧ SqL K H l xs ∧ Paired (R0 K H) xs ps ∧
  (∀ p ∈ ps, ok0 p) ∧ (nms0 ps).Nodup ∧ ps.length ≤ 100 ∧ ∀ d H', Keep H H' → H d = none → H' d = some (.dK (rowK (rowP ns k ps))) → Q (.ref d) H'
def sp__law_values_d : Sp := fun vs H Q _ => ∃ (a : Addr) (ns : List Int) (start : Int) (l : Addr) (xs : List V) (ps : List Pc), vs = [.ref a, .int start, .ref l] ∧ SqL K H a (ns.map V.int) ∧ SqL K H l xs ∧ Paired (RP K H) xs ps ∧
  okF ps ∧ ∀ d kvs H', Keep H H' → H d = none → H' d = some (.dK kvs) → Paired (RO H H' d) kvs (valuesP ns start ps) → Q (.ref d) H'
end
theorem val_RO {H0 H : Hp} {d : Addr} {kvs : List (Key × V)} {vals : List (Str × Vl)} (h : Paired (RO H0 H d) kvs vals) (n : Str) (e : look n vals = none) : valV kvs (Sum.inr n : Key) = none := by
  induction h with
  | nil => rfl
  | @cons p q ps qs z _ ih =>
    unfold Lf.look at e ih
    rw [List.find?_cons] at e
    by_cases en : q.1 = n
    · rw [decide_eq_true en] at e; cases e
    · rw [decide_eq_false en] at e
      rw [valV_neg (by rw [z.1]; intro y; exact en (Sum.inr.inj y))]
      exact ih e
/-! ## dicts with keys in their order -/
def popM {α : Type} (l : List (Str × α)) (k : Str) : List (Str × α) := l.filter fun p => decide (p.1 ≠ k)
def putM {α : Type} (l : List (Str × α)) (k : Str) (v : α) : List (Str × α) := if (l.any fun p => decide (p.1 = k)) = true then l.map (fun p => if p.1 = k then (p.1, v) else p) else l ++ [(k, v)]
section
variable {α : Type} {F : Key × V → Str × α → Prop}
theorem any_key {kvs : List (Key × V)} {vals : List (Str × α)} (hk : ∀ p q, F p q → p.1 = Sum.inr q.1) (h : Paired F kvs vals) (k : Str) : (kvs.any fun p => decide (p.1 = (Sum.inr k : Key))) = vals.any fun p => decide (p.1 = k) := by
  induction h with
  | nil => rfl
  | @cons p q ps qs z _ ih =>
    rw [List.any_cons, List.any_cons, ih, hk _ _ z]
    congr 1
    by_cases e : q.1 = k
    · rw [decide_eq_true e, e]; simp
    · rw [decide_eq_false e]; simp [e]
theorem Paired.popM {kvs : List (Key × V)} {vals : List (Str × α)} (hk : ∀ p q, F p q → p.1 = Sum.inr q.1) (h : Paired F kvs vals) (k : Str) : Paired F (dropK kvs (Sum.inr k : Key)) (Lf.popM vals k) := by
  induction h with
  | nil => exact .nil
  | @cons p q ps qs z _ ih =>
    unfold dropK Lf.popM at *
    rw [List.filter_cons, List.filter_cons]
    by_cases e : q.1 = k
    · rw [if_neg (by rw [hk _ _ z, e]; simp), if_neg (by simp [e])]
      exact ih
    · rw [if_pos (by rw [hk _ _ z]; simp [e]), if_pos (by simp [e])]
      exact .cons z ih
theorem Paired.putM {kvs : List (Key × V)} {vals : List (Str × α)} (hk : ∀ p q, F p q → p.1 = Sum.inr q.1) (h : Paired F kvs vals) (k : Str) {v : V} {w : α} (hv : ∀ n : Str, F (Sum.inr n, v) (n, w)) : Paired F (putK kvs (Sum.inr k : Key) v) (Lf.putM vals k w) := by
  unfold putK Lf.putM
  rw [any_key hk h k]
  by_cases e : (vals.any fun p => decide (p.1 = k)) = true
  · rw [if_pos e, if_pos e]
    clear e
    induction h with
    | nil => exact .nil
    | @cons p q ps qs z _ ih =>
      rw [List.map_cons, List.map_cons]
      refine .cons ?_ ih
      by_cases e : q.1 = k
      · rw [if_pos (by rw [hk _ _ z, e]), if_pos e, hk _ _ z]
        exact hv _
      · rw [if_neg (by rw [hk _ _ z]; intro y; exact e (Sum.inr.inj y)), if_neg e]
        exact z
  · rw [if_neg e, if_neg e]
    exact Paired.snoc h (hv k)
theorem valV_paired {kvs : List (Key × V)} {vals : List (Str × α)} (hk : ∀ p q, F p q → p.1 = Sum.inr q.1) (h : Paired F kvs vals) (k : Str) : (look k vals = none → valV kvs (Sum.inr k : Key) = none) ∧ ∀ w, look k vals = some w → ∃ v, valV kvs (Sum.inr k : Key) = some v ∧ F (Sum.inr k, v) (k, w) := by
  induction h with
  | nil => exact ⟨fun _ => rfl, fun _ e => by cases e⟩
  | @cons p q ps qs z _ ih =>
    unfold Lf.look at *
    rw [List.find?_cons]
    by_cases en : q.1 = k
    · rw [decide_eq_true en, valV_pos (by rw [hk _ _ z, en])]
      refine ⟨fun e => (by cases e), fun w e => ⟨_, rfl, ?_⟩⟩
      obtain ⟨p1, p2⟩ := p
      obtain ⟨q1, q2⟩ := q
      have e1 := hk _ _ z
      dsimp only at e1 en
      subst en
      subst e1
      cases e
      exact z
    · rw [decide_eq_false en, valV_neg (by rw [hk _ _ z]; intro y; exact en (Sum.inr.inj y))]
      exact ih
end
theorem rowK_pop (r : Row) (k : Str) : dropK (rowK r) (Sum.inr k : Key) = rowK (popM r k) := by
  induction r with
  | nil => rfl
  | cons p r ih =>
    unfold dropK rowK popM at *
    rw [List.map_cons, List.filter_cons, List.filter_cons, ih]
    by_cases e : p.1 = k
    · rw [if_neg (by simp [e]), if_neg (by simp [e])]
    · rw [if_pos (by simp [e]), if_pos (by simp [e])]; rfl
theorem rowK_put (r : Row) (k s : Str) : putK (rowK r) (Sum.inr k : Key) (.str s) = rowK (putM r k s) := by
  have ha : ((rowK r).any fun p => decide (p.1 = (Sum.inr k : Key))) = r.any fun p => decide (p.1 = k) := by
    unfold rowK
    rw [List.any_map]
    congr 1
    funext p
    by_cases e : p.1 = k
    · simp [e]
    · simp [e]
  unfold putK putM
  rw [ha]
  by_cases e : (r.any fun p => decide (p.1 = k)) = true
  · rw [if_pos e, if_pos e]
    unfold rowK
    rw [List.map_map, List.map_map]
    refine List.map_congr_left fun p _ => ?_
    show (if (Sum.inr p.1 : Key) = Sum.inr k then _ else _) = _
    by_cases e : p.1 = k
    · rw [if_pos (by rw [e])]
      show _ = (fun p : Str × Str => ((Sum.inr p.1 : Key), V.str p.2)) (if p.1 = k then (p.1, s) else p)
      rw [if_pos e]
    · rw [if_neg (by intro y; exact e (Sum.inr.inj y))]
      show _ = (fun p : Str × Str => ((Sum.inr p.1 : Key), V.str p.2)) (if p.1 = k then (p.1, s) else p)
      rw [if_neg e]
  · rw [if_neg e, if_neg e, rowK_snoc]
/-! ## faults -/
inductive Vi where
  | tx (s : Str)
  | rw (is : List Nat)
abbrev Vs := List (Str × Vi) × List Row
def RVi (H : Hp) (as : List Addr) (p : Key × V) (q : Str × Vi) : Prop := p.1 = Sum.inr q.1 ∧ match q.2 with
  | .tx s => p.2 = .str s
  | .rw is => ∃ l, p.2 = .ref l ∧ H l = some (.lst (is.map fun i => V.ref (as.getD i 0))) ∧ (∀ i ∈ is, i < as.length)
structure VRel (H : Hp) (d : Addr) (as : List Addr) (S : Vs) : Prop where
  kv : ∃ kvs, H d = some (.dK kvs) ∧ kvs.length ≤ 50 ∧ Paired (RVi H as) kvs S.1
  rows : Paired (fun a r => H a = some (.dK (rowK r))) as S.2
  rl : ∀ r ∈ S.2, r.length ≤ 50
  nd : as.Nodup
  dn : d ∉ as
def allM (vals : List (Str × Vi)) : List Nat := match look "all" vals with
  | some (.rw is) => is
  | _ => []
def t1 : List Str := ["", "abca", "abd", "A"]
def t2 : List Str := ["0000", "x", "cc0"]
def t3 : List Str := ["z", "yyy", "xx "]
def faultM (w : Nat) (c : Int) (n0 n1 : Str) (S : Vs) : Vs :=
  if w = 0 then (popM S.1 "first", S.2)
  else if w = 1 then (putM S.1 "first" (.tx (pick t1 c)), S.2)
  else if w = 2 then (popM S.1 "all", S.2)
  else if w = 3 then (putM S.1 "all" (.rw ((if c % 2 = 0 then [] else (List.replicate 4 (allM S.1)).flatten).take 4)), S.2)
  else if w < 8 then
    if allM S.1 = [] then S else
      (S.1, S.2.set ((allM S.1).getD (c % ((allM S.1).length : Int)).toNat 0) (if w < 6 then popM (S.2.getD ((allM S.1).getD (c % ((allM S.1).length : Int)).toNat 0) []) (if w % 2 = 0 then n0 else n1)
        else putM (S.2.getD ((allM S.1).getD (c % ((allM S.1).length : Int)).toNat 0) []) (if w % 2 = 0 then n0 else n1) (pick t2 (c / 3))))
  else if c % 2 = 1 then (popM S.1 "last", S.2) else (putM S.1 "last" (.tx (pick t3 (c / 2))), S.2)
theorem set_same {α : Type} {l : List α} {j : Nat} {x : α} (h : l[j]? = some x) : l.set j x = l := by
  apply List.ext_getElem?
  intro i
  by_cases e : j = i
  · subst e
    rw [List.getElem?_set_self (at_lt h), h]
  · rw [List.getElem?_set_ne e]
theorem cut_take {xs : List V} {k : Nat} : cutV xs none (some (k : Int)) = xs.take k := by
  unfold cutV
  rw [HT.sIx_none, HT.sIx_nat, Nat.sub_zero, List.drop_zero]
  by_cases h : k ≤ xs.length
  · rw [Nat.min_eq_left h]
  · rw [Nat.min_eq_right (by omega), List.take_length, List.take_of_length_le (by omega)]
section
variable (K : PySem.W.Frag)
def okS (S : Vs) : Prop := (∀ p ∈ S.1, p.1 = "all" → ∃ is, p.2 = .rw is ∧ is.length ≤ 4) ∧ ∀ p ∈ S.1, p.1 ≠ "all" → ∃ s, p.2 = .tx s
def sp__law_fault : Sp := fun vs H Q _ => ∃ (d nl : Addr) (w : Nat) (c : Int) (n0 n1 : Str) (as : List Addr) (S : Vs) (G : Hp), vs = [.ref d, .int w, .int c, .ref nl] ∧ w < 9 ∧ 0 ≤ c ∧ Same G H ∧ G d = none ∧ (∀ a ∈ as, G a = none) ∧
  SqL K G nl [.str n0, .str n1] ∧ VRel H d as S ∧ (∀ v, look "all" S.1 = some v → ∃ is, v = .rw is ∧ is.length ≤ 4) ∧ S.1.length ≤ 40 ∧ (∀ r ∈ S.2, r.length ≤ 40) ∧ ∀ H', Same G H' → VRel H' d as (faultM w c n0 n1 S) → Q .non H'
end
end Lf

/-! # LfVe -/
set_option Elab.async false
set_option linter.all false
set_option maxRecDepth 100000
set_option maxHeartbeats 4000000
namespace Lf
open PySem PySem.Spec PyProof.Rows L2
/-! ## the law's words over values that may not fit -/
def noSay : Pc → Prop
  | .p0 (.say _) => False
  | .p0 (.ask ..) => True
  | .rows _ ips _ _ _ => ∀ p ∈ ips, ∃ nm sg lo hi, p = P0.ask nm sg lo hi
def optV : Option Str → V
  | none => .non
  | some n => .str n
section
variable (K : PySem.W.Frag) (CF CV : Addr)
def sp__law_word_bad : Sp := fun vs H Q _ => ∃ (a d : Addr) (nm sg : Str) (lo hi : Int) (kvs : List (Key × V)) (o : Option Str), vs = [.ref a, .ref d] ∧ SqT K H a (P0.ask nm sg lo hi).vs ∧ Rd H d (.dK kvs) ∧ valV kvs (Sum.inr nm : Key) = o.map V.str ∧
  (∀ s, o = some s → s.length ≤ 1000) ∧ ∀ H', Keep H H' → Q (.bl (!fitO sg lo hi o)) H'
def sp__law_first : Sp := fun vs H Q _ => ∃ (l : Addr) (xs : List V) (ps : List Pc) (v : V) (vals : List (Str × Vl)), vs = [.ref l, v] ∧ SqL K H l xs ∧ Paired (RP K H) xs ps ∧ RV K H v vals ∧ (∀ p ∈ ps, noSay p ∧ tyF vals p) ∧ ∀ H', Keep H H' → Q (optV (firstF vals ps)) H'
def sp__law_tried : Sp := fun vs H Q _ => ∃ (x : Addr) (ps : List Pc) (v : V) (vals : List (Str × Vl)), vs = [.ref x, v] ∧ FormAt K H x ps ∧ RV K H v vals ∧ ps.length ≤ 6 ∧ (∀ p ∈ ps, okP p ∧ tyF vals p) ∧
  (firstF vals ps = none → ∀ H', Keep H H' → Q (.str (writtenP (fv vals) (gv vals) ps)) H') ∧ (∀ n, firstF vals ps = some n → ∀ a dd H', Keep H H' → ExK CV (some dd) H' a → H' dd = some (.xd [("name", .str n)]) → Q (.ref a) H')
end
/-! ## what the faults leave -/
theorem look_in {α : Type} {l : List (Str × α)} {n : Str} {v : α} (h : look n l = some v) : ∃ p ∈ l, p.1 = n ∧ p.2 = v := by
  unfold look at h
  cases e : l.find? (fun p => decide (p.1 = n)) with
  | none => rw [e] at h; cases h
  | some p =>
    rw [e] at h; cases h
    exact ⟨p, List.mem_of_find?_eq_some e, by simpa using List.find?_some e, rfl⟩
theorem popM_mem {α : Type} {l : List (Str × α)} {k : Str} {p : Str × α} (h : p ∈ popM l k) : p ∈ l := (List.mem_filter.mp h).1
theorem popM_keys {α : Type} {l : List (Str × α)} {k : Str} (h : (l.map (·.1)).Nodup) : ((popM l k).map (·.1)).Nodup := h.sublist ((List.filter_sublist).map _)
theorem putM_mem {α : Type} {l : List (Str × α)} {k : Str} {v : α} {p : Str × α} (h : p ∈ putM l k v) : p ∈ l ∨ (p.1 = k ∧ p.2 = v) := by
  unfold putM at h
  split at h
  · obtain ⟨q, hq, e⟩ := List.mem_map.mp h
    by_cases z : q.1 = k
    · rw [if_pos z] at e; subst e; exact .inr ⟨z, rfl⟩
    · rw [if_neg z] at e; subst e; exact .inl hq
  · rcases List.mem_append.mp h with h | h
    · exact .inl h
    · rw [List.mem_singleton] at h; subst h; exact .inr ⟨rfl, rfl⟩
theorem putM_keys {α : Type} {l : List (Str × α)} {k : Str} {v : α} (h : (l.map (·.1)).Nodup) : ((putM l k v).map (·.1)).Nodup := by
  unfold putM
  split
  · rw [List.map_map]
    have : ((fun p : Str × α => p.1) ∘ fun p => if p.1 = k then (p.1, v) else p) = fun p => p.1 := by
      funext p
      show (if p.1 = k then (p.1, v) else p).1 = p.1
      split <;> rfl
    rw [this]; exact h
  · next e =>
    rw [List.map_append, List.nodup_append]
    refine ⟨h, by simp, fun a ha b hb => ?_⟩
    simp at hb; subst hb
    rintro rfl
    obtain ⟨p, hp, e2⟩ := List.mem_map.mp ha
    exact e (List.any_eq_true.mpr ⟨p, hp, decide_eq_true e2⟩)
theorem putM_len {α : Type} {l : List (Str × α)} {k : Str} {v : α} : (putM l k v).length ≤ l.length + 1 := by
  unfold putM
  split
  · rw [List.length_map]; omega
  · rw [List.length_append]; exact Nat.le_refl _
def okVi (p : Str × Vi) : Prop := (p.1 = "all" ∧ ∃ is, p.2 = .rw is ∧ is.length ≤ 4) ∨ (p.1 ≠ "all" ∧ ∃ s, p.2 = .tx s ∧ s.length ≤ 10)
structure okV (i : Nat) (S : Vs) : Prop where
  ty : ∀ p ∈ S.1, okVi p
  nd : (S.1.map (·.1)).Nodup
  ln : S.1.length ≤ 3 + i
  rw : ∀ r ∈ S.2, (r.map (·.1)).Nodup ∧ r.length ≤ 3 + i ∧ ∀ p ∈ r, p.2.length ≤ 10
theorem okV.all {i : Nat} {S : Vs} (h : okV i S) : ∀ v, look "all" S.1 = some v → ∃ is, v = .rw is ∧ is.length ≤ 4 := fun v e => by
  obtain ⟨p, hp, e1, e2⟩ := look_in e
  rcases h.ty p hp with ⟨_, is, z, l⟩ | ⟨z, _⟩
  · exact ⟨is, by rw [← e2]; exact z, l⟩
  · exact absurd e1 z
theorem okV.tx {i : Nat} {S : Vs} (h : okV i S) {n : Str} (hn : n ≠ "all") : ∀ v, look n S.1 = some v → ∃ s, v = .tx s ∧ s.length ≤ 10 := fun v e => by
  obtain ⟨p, hp, e1, e2⟩ := look_in e
  rcases h.ty p hp with ⟨z, _⟩ | ⟨_, s, z, l⟩
  · exact absurd (e1.symm.trans z) hn
  · exact ⟨s, by rw [← e2]; exact z, l⟩
theorem pick_len {l : List Str} (h : l.all (fun s => decide (s.length ≤ 10)) = true) (hl : 0 < l.length) (c : Int) : (pick l c).length ≤ 10 := of_decide_eq_true (List.all_eq_true.mp h _ (pick_mem l c hl))
theorem first_all : ("first" : Str) ≠ "all" := by decide +kernel
theorem last_all : ("last" : Str) ≠ "all" := by decide +kernel
theorem okV.fault {i w : Nat} {c : Int} {n0 n1 : Str} {S : Vs} (h : okV i S) : okV (i + 1) (faultM w c n0 n1 S) := by
  have pop : ∀ k, okV (i + 1) (popM S.1 k, S.2) := fun k => ⟨fun p hp => h.ty p (popM_mem hp), popM_keys h.nd, by have := List.length_filter_le (fun p : Str × Vi => decide (p.1 ≠ k)) S.1; have := h.ln; show (popM S.1 k).length ≤ _; unfold popM; omega,
    fun r hr => ⟨(h.rw r hr).1, by have := (h.rw r hr).2.1; omega, (h.rw r hr).2.2⟩⟩
  have put : ∀ k v, okVi (k, v) → okV (i + 1) (putM S.1 k v, S.2) := fun k v hv => ⟨fun p hp => by
      rcases putM_mem hp with z | ⟨z1, z2⟩
      · exact h.ty p z
      · obtain ⟨a, b⟩ := p; dsimp only at z1 z2; subst z1 z2; exact hv, putM_keys h.nd, by have := putM_len (l := S.1) (k := k) (v := v); have := h.ln; show (putM S.1 k v).length ≤ _; omega,
    fun r hr => ⟨(h.rw r hr).1, by have := (h.rw r hr).2.1; omega, (h.rw r hr).2.2⟩⟩
  have same : okV (i + 1) S := ⟨h.ty, h.nd, by have := h.ln; omega, fun r hr => ⟨(h.rw r hr).1, by have := (h.rw r hr).2.1; omega, (h.rw r hr).2.2⟩⟩
  unfold faultM
  split
  · exact pop _
  split
  · exact put _ _ (.inr ⟨first_all, _, rfl, pick_len (by decide +kernel) (by decide) _⟩)
  split
  · exact pop _
  split
  · exact put _ _ (.inl ⟨rfl, _, rfl, by rw [List.length_take]; exact Nat.min_le_left _ _⟩)
  split
  · split
    · exact same
    · refine ⟨h.ty, h.nd, by have := h.ln; show S.1.length ≤ _; omega, fun r hr => ?_⟩
      have old : ∀ j, ((S.2.getD j []).map (·.1)).Nodup ∧ (S.2.getD j []).length ≤ 3 + i ∧ ∀ p ∈ S.2.getD j [], p.2.length ≤ 10 := fun j => by
        rw [List.getD_eq_getElem?_getD]
        cases e : S.2[j]? with
        | none => exact ⟨List.nodup_nil, Nat.zero_le _, fun p hp => nomatch hp⟩
        | some r => exact h.rw r (mem_at e)
      rcases List.mem_or_eq_of_mem_set hr with hr | hr
      · exact ⟨(h.rw r hr).1, by have := (h.rw r hr).2.1; omega, (h.rw r hr).2.2⟩
      · subst hr
        split
        · refine ⟨popM_keys (old _).1, ?_, fun p hp => (old _).2.2 p (popM_mem hp)⟩
          have := (old ((allM S.1).getD (c % ((allM S.1).length : Int)).toNat 0)).2.1
          exact Nat.le_trans (List.length_filter_le _ _) (by omega)
        · refine ⟨putM_keys (old _).1, Nat.le_trans putM_len (by have := (old ((allM S.1).getD (c % ((allM S.1).length : Int)).toNat 0)).2.1; omega), fun p hp => ?_⟩
          rcases putM_mem hp with z | ⟨_, z⟩
          · exact (old _).2.2 p z
          · rw [z]; exact pick_len (by decide +kernel) (by decide) _
  · split
    · exact pop _
    · exact put _ _ (.inr ⟨last_all, _, rfl, pick_len (by decide +kernel) (by decide) _⟩)
/-- the values, told -/
def resV (S : Vs) : List (Str × Vl) := S.1.map fun p => (p.1, match p.2 with
  | .tx s => Vl.tx s
  | .rw is => Vl.rws (is.map fun i => S.2.getD i []))
theorem resV_keys (S : Vs) : (resV S).map (·.1) = S.1.map (·.1) := by unfold resV; rw [List.map_map]; rfl
theorem resV_look (S : Vs) (n : Str) : look n (resV S) = (look n S.1).map fun v => match v with
  | .tx s => Vl.tx s
  | .rw is => Vl.rws (is.map fun i => S.2.getD i []) := by
  unfold resV
  generalize S.1 = l
  induction l with
  | nil => rfl
  | cons p l ih =>
    unfold look at *
    rw [List.map_cons, List.find?_cons, List.find?_cons]
    by_cases e : p.1 = n
    · rw [decide_eq_true e]; rfl
    · rw [decide_eq_false e]; exact ih
theorem VRel.rv {K : PySem.W.Frag} {H : Hp} {d : Addr} {as : List Addr} {S : Vs} (h : VRel H d as S) : RV K H (.ref d) (resV S) := by
  obtain ⟨⟨kvs, hd, _, hP⟩, hr, _, _, _⟩ := h
  refine ⟨d, kvs, rfl, hd, ?_⟩
  have hl := Paired.len hP
  unfold resV
  refine Paired.of_at (by rw [List.length_map]; exact hl) fun i p q h1 h2 => ?_
  rw [List.getElem?_map] at h2
  obtain ⟨q0, hq, z1, z2⟩ := Paired.at hP h1
  rw [hq] at h2
  cases h2
  refine ⟨z1, ?_⟩
  obtain ⟨n, vi⟩ := q0
  cases vi with
  | tx s => exact z2
  | rw is =>
    obtain ⟨l, e, hl, hb⟩ := z2
    refine ⟨l, _, e, SqL.of hl, Paired.of_at (by rw [List.length_map, List.length_map]) fun j x r g1 g2 => ?_⟩
    rw [List.getElem?_map] at g1 g2
    cases e3 : is[j]? with
    | none => rw [e3] at g1; cases g1
    | some m =>
      rw [e3] at g1 g2
      cases g1; cases g2
      have hm := hb m (mem_at e3)
      have ha : as[m]? = some (as.getD m 0) := by rw [List.getD_eq_getElem?_getD, List.getElem?_eq_getElem hm]; rfl
      obtain ⟨r, hr2, z⟩ := Paired.at hr ha
      refine ⟨as.getD m 0, rfl, ?_⟩
      have eg : S.2.getD m [] = r := by rw [List.getD_eq_getElem?_getD, hr2]; rfl
      show H (as.getD m 0) = some (.dK (rowK (S.2.getD m [])))
      rw [eg]
      exact z
theorem resV_rows {i : Nat} {S : Vs} (h : okV i S) {p : Str × Vl} (hp : p ∈ resV S) {rs : List Row} (e : p.2 = .rws rs) : rs.length ≤ 4 ∧ ∀ r ∈ rs, (r.map (·.1)).Nodup ∧ ∀ q ∈ r, q.2.length ≤ 10 := by
  obtain ⟨q, hq, e2⟩ := List.mem_map.mp hp
  have ho := h.ty q hq
  obtain ⟨n, vi⟩ := q
  subst e2
  cases vi with
  | tx s => cases e
  | rw is =>
    cases e
    rcases ho with ⟨_, is', z, l⟩ | ⟨_, s, z, _⟩
    · cases z
      refine ⟨by rw [List.length_map]; exact l, fun r hr => ?_⟩
      obtain ⟨j, _, rfl⟩ := List.mem_map.mp hr
      show ((S.2.getD j []).map (·.1)).Nodup ∧ ∀ q ∈ S.2.getD j [], q.2.length ≤ 10
      rw [List.getD_eq_getElem?_getD]
      cases e : S.2[j]? with
      | none => exact ⟨List.nodup_nil, fun p hp => nomatch hp⟩
      | some r => exact ⟨(h.rw r (mem_at e)).1, (h.rw r (mem_at e)).2.2⟩
    · cases z
theorem resV_nd {i : Nat} {S : Vs} (h : okV i S) : ∀ p ∈ resV S, ndV p.2 := fun p hp => by
  cases e : p.2 with
  | tx s => trivial
  | rws rs => exact fun r hr => ((resV_rows h hp e).2 r hr).1
theorem resV_ty {i : Nat} {S : Vs} (h : okV i S) : (∀ (nm sg : Str) (lo hi : Int), nm ≠ ("all" : Str) → tyF (resV S) (.p0 (.ask nm sg lo hi))) ∧ ∀ ips gap lo hi, tyF (resV S) (.rows "all" ips gap lo hi) := by
  refine ⟨fun nm sg lo hi hn => ?_, fun ips gap lo hi => ?_⟩
  · show look nm (resV S) = none ∨ _
    rw [resV_look]
    cases e : look nm S.1 with
    | none => exact .inl rfl
    | some v =>
      obtain ⟨s, rfl, hs⟩ := h.tx hn v e
      exact .inr ⟨s, rfl, by omega⟩
  · show look "all" (resV S) = none ∨ _
    cases e : look "all" (resV S) with
    | none => exact .inl rfl
    | some v =>
      have e0 := e
      rw [resV_look] at e
      cases e2 : look "all" S.1 with
      | none => rw [e2] at e; cases e
      | some v2 =>
        obtain ⟨is, rfl, _⟩ := h.all v2 e2
        rw [e2] at e
        cases e
        obtain ⟨p, hp, _, e4⟩ := look_in e0
        have hr := resV_rows h hp e4
        refine .inr ⟨_, rfl, by have := hr.1; omega, fun r hr2 n s es => ?_⟩
        obtain ⟨q, hq, _, e5⟩ := look_in es
        have := (hr.2 r hr2).2 q hq
        rw [e5] at this; omega
/-- the form -/
def pcs4 (n0 n1 : Str) (lo : Int) : List Pc := [.p0 (.ask "first" "abc" 1 3), .rows "all" [.ask n0 "bc" 0 2, .ask n1 "01" 1 3] "-" lo 3, .p0 (.ask "last" "xy" 0 2)]
def nmT : List (Str × Str) := [("who", "day"), ("first", "last"), ("last", "who")]
theorem pcs4_ok : ∀ j : Fin 3, ∀ lo : Fin 2, okFB (pcs4 (nmT.getD j.val ("", "")).1 (nmT.getD j.val ("", "")).2 (lo.val : Int)) = true := by decide +kernel
theorem pcs4_noSay {n0 n1 : Str} {lo : Int} : ∀ p ∈ pcs4 n0 n1 lo, noSay p := fun p hp => by
  unfold pcs4 at hp
  simp only [List.mem_cons, List.not_mem_nil, or_false] at hp
  rcases hp with rfl | rfl | rfl
  · trivial
  · intro q hq
    simp only [List.mem_cons, List.not_mem_nil, or_false] at hq
    rcases hq with rfl | rfl
    · exact ⟨_, _, _, _, rfl⟩
    · exact ⟨_, _, _, _, rfl⟩
  · trivial
theorem pcs4_ty {i : Nat} {S : Vs} (h : okV i S) {n0 n1 : Str} {lo : Int} : ∀ p ∈ pcs4 n0 n1 lo, tyF (resV S) p := fun p hp => by
  obtain ⟨t1, t2⟩ := resV_ty h
  unfold pcs4 at hp
  simp only [List.mem_cons, List.not_mem_nil, or_false] at hp
  rcases hp with rfl | rfl | rfl
  · exact t1 _ _ _ _ first_all
  · exact t2 _ _ _ _
  · exact t1 _ _ _ _ last_all

/-! ## the law's own start -/
def R2L (G : Hp) (v : V) (p : Str × Str) : Prop := ∃ a, v = .ref a ∧ G a = some (.lst [.str p.1, .str p.2])
theorem R2L.mono : MonoF R2L := fun _ _ _ _ s ⟨a, e, h⟩ => ⟨a, e, s _ _ h⟩
theorem gd_two {σ : L2.St} {a b : Str} : Gd (tLst (tCons (tC (.str a)) (tCons (tC (.str b)) tNil))) σ fun G v => R2L G v (a, b) := fun G H Q g q =>
  ⟨by show 2 ≤ sizeLine; decide, fun p np => q _ _ _ ((Wd.refl g).new np) ⟨p, rfl, upd_same⟩⟩
abbrev vl4 (w1 w3 : Str) (rs : List Row) : List (Str × Vl) := [("first", .tx w1), ("all", .rws rs), ("last", .tx w3)]
abbrev vi4 (w1 w3 : Str) (rs : List Row) : Vs := ([("first", .tx w1), ("all", .rw (List.range rs.length)), ("last", .tx w3)], rs)
/-- the drawn values, as things of their own -/
theorem RO.vrel {K : PySem.W.Frag} {H0 H : Hp} {d : Addr} {kvs : List (Key × V)} {w1 w3 : Str} {rs : List Row} (hd : H d = some (.dK kvs)) (h : Paired (RO H0 H d) kvs (vl4 w1 w3 rs)) (hr : ∀ r ∈ rs, r.length ≤ 50) :
    ∃ as, VRel H d as (vi4 w1 w3 rs) ∧ ∀ a ∈ as, H0 a = none := by
  cases h with
  | @cons p1 _ _ _ z1 h =>
  cases h with
  | @cons p2 _ _ _ z2 h =>
  cases h with
  | @cons p3 _ _ _ z3 h =>
  cases h
  obtain ⟨k1, v1⟩ := p1
  obtain ⟨k2, v2⟩ := p2
  obtain ⟨k3, v3⟩ := p3
  obtain ⟨e1, f1⟩ := z1
  obtain ⟨e2, l, as, f2, fl, hl, nd, fa, pr⟩ := z2
  obtain ⟨e3, f3⟩ := z3
  dsimp only at e1 e2 e3 f1 f2 f3
  subst e1 e2 e3 f1 f2 f3
  have hlen := Paired.len pr
  refine ⟨as, ⟨⟨_, hd, by show 3 ≤ 50; decide, .cons ⟨rfl, rfl⟩ (.cons ⟨rfl, l, rfl, ?_, fun i hi => by rw [hlen]; exact List.mem_range.mp hi⟩ (.cons ⟨rfl, rfl⟩ .nil))⟩, pr, hr, nd, fun m => (fa d m).2 rfl⟩, fun a ha => (fa a ha).1⟩
  rw [hl]
  congr 2
  apply List.ext_getElem?
  intro i
  rw [List.getElem?_map, List.getElem?_map]
  by_cases hi : i < rs.length
  · rw [List.getElem?_range hi, List.getElem?_eq_getElem (by omega : i < as.length)]
    show some (V.ref as[i]) = some (V.ref (as.getD i 0))
    rw [List.getD_eq_getElem?_getD, List.getElem?_eq_getElem (by omega : i < as.length)]; rfl
  · rw [List.getElem?_eq_none (show as.length ≤ i by omega), List.getElem?_eq_none (show (List.range rs.length).length ≤ i by rw [List.length_range]; omega)]; rfl
theorem vals4 (ns : List Int) (n0 n1 : Str) (lo : Int) : ∃ w1 w3 rs, valuesP ns 300 (pcs4 n0 n1 lo) = vl4 w1 w3 rs := ⟨_, _, _, rfl⟩
theorem fit_len {sg s : Str} {lo hi : Int} (h : fit0 sg lo hi s) (hh : hi ≤ 10) : s.length ≤ 10 := by have := h.2.1; omega
/-- .. are of the right kinds -/
theorem vals4_ok {ns : List Int} {n0 n1 : Str} {lo : Int} {w1 w3 : Str} {rs : List Row} (ok : okF (pcs4 n0 n1 lo)) (h : valuesP ns 300 (pcs4 n0 n1 lo) = vl4 w1 w3 rs) :
    okV 0 (vi4 w1 w3 rs) := by
  have hf := values_fit (ns := ns) (s := 300) ok
  have hm := fun q (z : q ∈ valuesP ns 300 (pcs4 n0 n1 lo)) => values_mem (ns := ns) (s := 300) ok z
  have hnd : ((valuesP ns 300 (pcs4 n0 n1 lo)).map (·.1)).Nodup := by rw [val_names]; exact ok.nd
  rw [h] at hf hm hnd
  have i1 := (hf (.p0 (.ask "first" "abc" 1 3)) (by simp [pcs4])).2
  have i2 := (hf (.rows "all" [.ask n0 "bc" 0 2, .ask n1 "01" 1 3] "-" lo 3) (by simp [pcs4])).2
  have i3 := (hf (.p0 (.ask "last" "xy" 0 2)) (by simp [pcs4])).2
  obtain ⟨s1, e1, f1⟩ := i1
  obtain ⟨rs', e2, f2, f3, f4⟩ := i2
  obtain ⟨s3, e3, f5⟩ := i3
  have l1 := look_mem hnd (n := "first") (v := Vl.tx w1) (by simp)
  have l2 := look_mem hnd (n := "all") (v := Vl.rws rs) (by simp)
  have l3 := look_mem hnd (n := "last") (v := Vl.tx w3) (by simp)
  rw [l1] at e1; rw [l2] at e2; rw [l3] at e3
  cases e1; cases e2; cases e3
  have hks : ∀ r ∈ rs, r.map (·.1) = [n0, n1] := fun r hr => by
    rcases hm ("all", .rws rs) (by simp) with ⟨_, _, _, _, _, z⟩ | ⟨ips, gap, lo', hi', rs2, hp, z, _, hk⟩
    · cases z
    · cases z
      have hk := hk r hr
      have : ips = [.ask n0 "bc" 0 2, .ask n1 "01" 1 3] := by
        simp only [pcs4, List.mem_cons, List.not_mem_nil, or_false] at hp
        rcases hp with hp | hp | hp
        · cases hp
        · cases hp; rfl
        · cases hp
      rw [hk, this]; rfl
  have okr := ok.ok (.rows "all" [.ask n0 "bc" 0 2, .ask n1 "01" 1 3] "-" lo 3) (by simp [pcs4])
  obtain ⟨_, _, _, _, ind, _⟩ := okr
  have nd2 : [n0, n1].Nodup := ind
  refine ⟨fun p hp => ?_, hnd, Nat.le_refl _, fun r hr => ?_⟩
  · simp only [List.mem_cons, List.not_mem_nil, or_false] at hp
    rcases hp with rfl | rfl | rfl
    · exact .inr ⟨first_all, _, rfl, fit_len f1 (by decide)⟩
    · exact .inl ⟨rfl, _, rfl, by rw [List.length_range]; omega⟩
    · exact .inr ⟨last_all, _, rfl, fit_len f5 (by decide)⟩
  · have hk := hks r hr
    refine ⟨by rw [hk]; exact nd2, ?_, fun p hp => ?_⟩
    · have : (r.map (·.1)).length = 2 := by rw [hk]; rfl
      rw [List.length_map] at this; omega
    · have hpk : p.1 ∈ [n0, n1] := by rw [← hk]; exact List.mem_map.mpr ⟨p, hp, rfl⟩
      have hlp : look p.1 r = some p.2 := look_mem (by rw [hk]; exact nd2) hp
      simp only [List.mem_cons, List.not_mem_nil, or_false] at hpk
      rcases hpk with e | e
      · obtain ⟨s, es, fs⟩ := f4 r hr (.ask n0 "bc" 0 2) (by simp)
        rw [← e, hlp] at es; cases es
        exact fit_len fs (by decide)
      · obtain ⟨s, es, fs⟩ := f4 r hr (.ask n1 "01" 1 3) (by simp)
        rw [← e, hlp] at es; cases es
        exact fit_len fs (by decide)
end Lf

/-! # LfEnd3 -/
set_option Elab.async false
set_option linter.all false
set_option maxRecDepth 100000
set_option maxHeartbeats 4000000
namespace Lf
open PySem L2
/-! ## what the top leaves of an exception class with an __init__ -/
structure Ri (K : PySem.W.Frag) (mg : Str → Option Value) (x qual : Str) (st : Stmt) (ps : List Str) (C : Addr) : Prop where
  T : OexC K C
  mgc : mg x = some (.ref C)
  ex : ∃ (f : Addr) (fd : FuncData), PySem.W.findIn K (.ref C) "__init__" = some (some (.ref f)) ∧ PySem.W.typeIn K (.ref f) = some (.type "function") ∧ Fun K "__init__" qual st f fd ∧ Binds K fd ps []
theorem ri_mk {K : PySem.W.Frag} {h : Heap} {mg : Str → Option Value} (X : K.In h) (G : h.Ns mainGlobals mg) {x qual : Str} {st : Stmt} {ps : List Str} {C f : Addr} {oc : Value} {od an : Option Addr} {sl : Array (Option Value)} {kV dc pm cd ct : Value}
    {nm q : Str} {N : Addr} {bs bm : List Value} {sn : List Str} {sub : List Value} {ab : Bool} {col : Option Bool} {dd : Option Addr} {m0 m1 m2 m3 m5 : Option Value}
    (aC : PySem.W.nsIn K mainGlobals x = some (some (.ref C)))
    (xL : K.lookup C = some (excClassObj nm q C N bs bm true sn sub ab col dd m0 m1 m2 m3 m5 "ValueError.__new__")) (xb : PySem.HandSPX.refsVE bm = true)
    (sa : PySem.W.findIn K (.ref C) "__setattr__" = some (some (.builtin "object.__setattr__"))) (eC : PySem.W.subIn K (.ref C) (.type "BaseException") = some true) (tC : PySem.W.typeIn K (.ref C) = some (.type "type")) (kC : PySem.W.keepIn K (.ref C) = true)
    (a : PySem.W.findIn K (.ref C) "__init__" = some (some (.ref f))) (t : PySem.W.typeIn K (.ref f) = some (.type "function"))
    (l : K.lookup f = some ⟨oc, od, .func (PySem.W.fnOf "__init__" qual (defArgs st) (defBody st) (defScope st) .none kV dc pm an cd ct), sl⟩) (c : PySem.W.codeIn K cd qual = true) (k : PySem.W.keepIn K (.ref f) = true)
    (b : ∀ (kV doc pm : Value) (an : Option Addr) (cdv ct : Value) (us : List Value), us.length = ps.length → bindArgs (PySem.W.fnOf "__init__" qual (defArgs st) (defBody st) (defScope st) .none kV doc pm an cdv ct) ⟨us, []⟩ = pure (ps.zip us)) :
    Ri K mg x qual st ps C := by
  have F := fun_mk (st := st) l c k
  exact ⟨⟨⟨nm, q, N, bs, bm, sn, sub, ab, col, dd, m0, m1, m2, m3, m5, xL, xb⟩, sa, eC, tC, kC⟩, PySem.W.mg_of X G aC, f, _, a, t, F, F.binds b⟩
theorem Ri.rz {P : Program} {w : World} {K : PySem.W.Frag} {mg : Str → Option Value} {base : Heap} {k : Nat} {x qual : Str} {st : Stmt} {ps : List Str} {C : Addr} {sp : Sp} (c : Ri K mg x qual st ps C)
    (h : ∀ f fd, Fun K "__init__" qual st f fd → FnOk P w K mg base CX0 k f fd ps sp) : RzI P w K mg base x C k sp := by
  obtain ⟨f, fd, a, t, F, b⟩ := c.ex
  exact ⟨c.T, c.mgc, f, fd, ps, a, t, h f fd F, b⟩
end Lf

set_option Elab.async false
set_option linter.all false
set_option maxRecDepth 100000
set_option maxHeartbeats 4000000
namespace Lf
open PySem L2

local macro_rules | `(tactic| one_item) => `(tactic| first
  | with_reducible rfl
  | refine ⟨_, rfl, ?_⟩
  | refine ⟨_, _, rfl, rfl, ?_⟩
  | (refine ⟨_, _, rfl, rfl, ?_, ?_⟩; focus (first | (show (0 : Int) < _; omega) | (show CMul _ _; first | exact Or.inl ⟨by omega, by omega⟩ | exact Or.inr ⟨by omega, by omega⟩) | (show CDiv _ _; exact ⟨by omega, by omega⟩))))
local macro_rules | `(tactic| one_place) => `(tactic| (repeat one_item))
local macro_rules | `(tactic| got_up) => `(tactic| first | assumption | exact L2.Same.refl _ | (refine L2.Same.trans ?_ (by assumption); got_up))
local macro_rules | `(tactic| k_upd) => `(tactic| first | assumption | exact L2.SqL.of (by assumption) | exact L2.SqT.of (by assumption) | (refine L2.Same.seq ?_ (by assumption); got_up) | (refine L2.Same.tup ?_ (by assumption); got_up))

def top (i : Nat) : Stmt := PySem.Challenge.pw_letterform_k04_values_refused.main.body.getD i (.Pass ⟨0, 0, 0, 0⟩)

section
variable {P : Program} {w : World} {K : PySem.W.Frag} {mg : Str → Option Value} {base : Heap}

abbrev s__law_cell_at : Stmt := top 20
abbrev n__law_cell_at : List Str := ["script", "k"]
theorem sc__law_cell_at : FnScope n__law_cell_at ["script", "k"] (defScope s__law_cell_at) := ⟨rfl, rfl, rfl, by decide +kernel, rfl, by decide +kernel, by decide +kernel⟩

theorem dn__law_cell_at (D : Df K mg "_law_cell_at" s__law_cell_at ["script", "k"]) (B : Bl mg) : Dn P w K mg base CX0 1 "_law_cell_at" (sp__law_cell_at K) := by
  refine .of D fun f fd F => F.ok sc__law_cell_at (fun vs H Q E h => ?_) (fun cdv A outer s H vs Q E hr h => ?_)
  · (obtain ⟨_, _, _, rfl, _⟩ := h; rfl)
  · have hu := hu_of hr
    have hu64 : _ := hr.units
    refine ⟨_, (pss_cons (ps_if (pt_cmpR op_lt (pv 1) (pe_callB (callLen (K := K) rfl) rfl B.len PySem.boot_len (pa_cons (pv 0) pa_nil)) (nomark _)) (pss_one (ps_ret (pe_ix (ixLs (K := K) rfl) (pv 0) (pv 1) (fun _ _ => rfl)))) pss_nil)
      (pss_one (ps_ret pe_int))), ?_⟩
    obtain ⟨a, ns, k, rfl, hS, hk, q⟩ := h
    refine ⟨_, rfl, _, rfl, _, _, rfl, .inl hS, _, _, rfl, rfl, _, rfl, ?_⟩
    rw [List.length_map]
    unfold cellAt at q
    refine ite2 (fun c => ?_) (fun c => ?_)
    · have c : k < (ns.length : Int) := by simpa using c
      rw [if_pos c] at q
      refine ⟨_, rfl, _, rfl, _, _, _, _, rfl, rfl, hS, ?_, q⟩
      have hj : k.toNat < ns.length := by omega
      refine at_of (j := k.toNat) (by omega) ?_
      rw [List.getElem?_map, List.getElem?_eq_getElem hj, List.getD_eq_getElem?_getD, List.getElem?_eq_getElem hj]
      rfl
    · have c : ¬ k < (ns.length : Int) := by simpa using c
      rw [if_neg c] at q
      exact q

abbrev s__law_draw : Stmt := top 21
abbrev n__law_draw : List Str := ["script", "k", "stir"]
theorem sc__law_draw : FnScope n__law_draw ["script", "k"] (defScope s__law_draw) := ⟨rfl, rfl, rfl, by decide +kernel, rfl, by decide +kernel, by decide +kernel⟩

theorem dn__law_draw (D : Df K mg "_law_draw" s__law_draw ["script", "k"]) (d__law_cell_at : Dn P w K mg base CX0 1 "_law_cell_at" (sp__law_cell_at K))  : Dn P w K mg base CX0 2 "_law_draw" (sp__law_draw K) := by
  refine .of D fun f fd F => F.ok sc__law_draw (fun vs H Q E h => ?_) (fun cdv A outer s H vs Q E hr h => ?_)
  · (obtain ⟨_, _, _, rfl, _⟩ := h; rfl)
  · have hu := hu_of hr
    have hu64 : _ := hr.units
    refine ⟨_, (pss_cons (ps_set (i := 2) sc__law_draw.nd rfl (Or.inl rfl) (pe_op op_mod (pe_op op_mul (pe_op op_add (pe_op op_add (cD d__law_cell_at hr (by decide) rfl (pa_cons (pv 0) (pa_cons (pe_op op_mod (pv 1) pe_int) pa_nil))) (pe_op op_mul pe_int (pv 1))) pe_int) pe_int) pe_int))
      (pss_cons (ps_set (i := 2) sc__law_draw.nd rfl (Or.inl rfl) (pe_op op_mod (pe_op op_mul (pv 2) (pv 2)) pe_int))
      (pss_one (ps_ret (pe_op op_fdiv (pe_op op_mod (pe_op op_mul (pv 2) pe_int) pe_int) pe_int))))), ?_⟩
    obtain ⟨a, ns, k, rfl, hS, q⟩ := h
    refine ⟨_, rfl, _, rfl, _, _, rfl, rfl, (by show (0 : Int) < 61; decide), a, ns, _, rfl, hS, (by omega), ?_⟩
    refine ⟨_, rfl, _, _, rfl, rfl, .inl ⟨by omega, by omega⟩, _, _, rfl, rfl, _, _, rfl, rfl, _, _, rfl, rfl, .inr ⟨by omega, by omega⟩, _, _, rfl, rfl, (by show (0 : Int) < 2147483647; decide), ?_⟩
    refine ⟨_, rfl, _, rfl, _, _, rfl, rfl, .inl ⟨by omega, by omega⟩, _, _, rfl, rfl, (by show (0 : Int) < 2147483647; decide), ?_⟩
    exact ⟨_, rfl, _, _, rfl, rfl, .inr ⟨by omega, by omega⟩, _, _, rfl, rfl, (by show (0 : Int) < 2147483647; decide), _, _, rfl, rfl, ⟨by decide, by decide⟩, q⟩

abbrev s__law_word : Stmt := top 22
abbrev n__law_word : List Str := ["script", "k", "piece", "size", "word", "j"]
theorem sc__law_word : FnScope n__law_word ["script", "k", "piece"] (defScope s__law_word) := ⟨rfl, rfl, rfl, by decide +kernel, rfl, by decide +kernel, by decide +kernel⟩

theorem dn__law_word (D : Df K mg "_law_word" s__law_word ["script", "k", "piece"]) (B : Bl mg) (d__law_draw : Dn P w K mg base CX0 2 "_law_draw" (sp__law_draw K))  : Dn P w K mg base CX0 3 "_law_word" (sp__law_word K) := by
  refine .of D fun f fd F => F.ok sc__law_word (fun vs H Q E h => ?_) (fun cdv A outer s H vs Q E hr h => ?_)
  · (obtain ⟨_, _, _, _, _, _, _, _, rfl, _⟩ := h; rfl)
  · have hu := hu_of hr
    have hu64 : _ := hr.units
    refine ⟨_, (pss_cons (ps_set (i := 3) sc__law_word.nd rfl (Or.inl rfl) (pe_op op_add (pe_ix (ixT (K := K) rfl) (pv 2) pe_int (fun _ _ => rfl)) (pe_op op_mod (cD d__law_draw hr (by decide) rfl (pa_cons (pv 0) (pa_cons (pv 1) pa_nil))) (pe_op op_add (pe_op op_sub (pe_ix (ixT (K := K) rfl) (pv 2) pe_int (fun _ _ => rfl)) (pe_ix (ixT (K := K) rfl) (pv 2) pe_int (fun _ _ => rfl))) pe_int))))
      (pss_cons (ps_set (i := 4) sc__law_word.nd rfl (Or.inl rfl) pe_str)
      (pss_cons (ps_for PassesOwn.never rfl (pi_range1 rfl B.range (pa_cons (pv 3) pa_nil)) (pg_name (i := 5) sc__law_word.nd rfl (Or.inl rfl))
      (pss_one (ps_set (i := 4) sc__law_word.nd rfl (Or.inl rfl) (pe_op op_add_str (pv 4) (pe_ix ix_str (pe_ix (ixT (K := K) rfl) (pv 2) pe_int (fun _ _ => rfl)) (pe_op op_mod (cD d__law_draw hr (by decide) rfl (pa_cons (pv 0) (pa_cons (pe_op op_add (pe_op op_add (pv 1) pe_int) (pv 5)) pa_nil))) (pe_callB call_len_str rfl B.len PySem.boot_len (pa_cons (pe_ix (ixT (K := K) rfl) (pv 2) pe_int (fun _ _ => rfl)) pa_nil))) (fun _ _ => rfl))))))
      (pss_one (ps_ret (pv 4)))))), ?_⟩
    obtain ⟨a, ns, k, p, nm, sg, lo, hi, rfl, hS, hT, s1, s20, l0, lh, h4, q⟩ := h
    have ws := word_size (ns := ns) (k := k) l0 lh
    refine ⟨_, rfl, p, _, _, _, rfl, rfl, hT, rfl, _, rfl, _, rfl, a, ns, k, rfl, hS, _, rfl, p, _, _, _, rfl, rfl, hT, rfl, _, rfl, p, _, _, _, rfl, rfl, hT, rfl, _, _, rfl, rfl, _, _, rfl, rfl, _, _, rfl, rfl, (by show 0 < hi - lo + 1; omega), _, _, rfl, rfl, ?_⟩
    refine ⟨_, rfl, _, rfl, (by omega), (by omega), ?_⟩
    refine for_range (lo := 0) (n := (lo + draw ns k % (hi - lo + 1)).toNat) (fun i σ H' => ∃ v, H' = H ∧ σ = [some (.ref a), some (.int k), some (.ref p), some (.int (lo + draw ns k % (hi - lo + 1))), some (.str (ofL ((List.range i).map fun (j : Nat) => sg.cps.getD (draw ns (k + 1 + j) % (sg.length : Int)).toNat 0))), v])
      ⟨none, rfl, rfl⟩ ?_ ?_
    · rintro i σ H' hi' ⟨v, rfl, rfl⟩
      rw [Int.zero_add]
      have m0 := Int.emod_nonneg (draw ns (k + 1 + i)) (show (sg.length : Int) ≠ 0 by omega)
      have m1 := Int.emod_lt_of_pos (draw ns (k + 1 + i)) (show 0 < (sg.length : Int) by omega)
      have hj : (draw ns (k + 1 + i) % (sg.length : Int)).toNat < sg.cps.size := by show _ < sg.length; omega
      refine ⟨_, rfl, _, rfl, p, _, _, _, rfl, rfl, hT, rfl, _, rfl, _, rfl, _, _, rfl, rfl, _, rfl, _, _, rfl, rfl, a, ns, _, rfl, hS, _, rfl, p, _, _, _, rfl, rfl, hT, rfl, sg, rfl, small_line (by omega), _, _, rfl, rfl, (by show 0 < (sg.length : Int); omega), sg, _, _, rfl, rfl, small_line (by omega), at_gen (j := (draw ns (k + 1 + i) % (sg.length : Int)).toNat) (by omega) (by rw [Array.getElem?_toList]; exact Array.getElem?_eq_getElem hj), _, _, rfl, rfl, ?_, ?_⟩
      · rw [ofL_len, List.length_map, List.length_range]
        exact small_line (by show i + 1 ≤ 100000; omega)
      · refine ⟨some (.int i), rfl, ?_⟩
        rw [ofL_snoc, map_range_succ, Array.getD_eq_getD_getElem?, Array.getElem?_eq_getElem hj]
        rfl
    · rintro σ H' ⟨v, rfl, rfl⟩
      exact ⟨_, rfl, q⟩

abbrev s__law_row : Stmt := top 23
abbrev n__law_row : List Str := ["script", "k", "pieces", "values", "j"]
theorem sc__law_row : FnScope n__law_row ["script", "k", "pieces"] (defScope s__law_row) := ⟨rfl, rfl, rfl, by decide +kernel, rfl, by decide +kernel, by decide +kernel⟩

theorem dn__law_row_d (D : Df K mg "_law_row" s__law_row ["script", "k", "pieces"]) (B : Bl mg) (d__law_word : Dn P w K mg base CX0 3 "_law_word" (sp__law_word K))  : Dn P w K mg base CX0 4 "_law_row" (sp__law_row_d K) := by
  refine .of D fun f fd F => F.ok sc__law_row (fun vs H Q E h => ?_) (fun cdv A outer s H vs Q E hr h => ?_)
  · (obtain ⟨_, _, _, _, _, _, rfl, _⟩ := h; rfl)
  · have hu := hu_of hr
    have hu64 : _ := hr.units
    refine ⟨_, (pss_cons (ps_set (i := 3) sc__law_row.nd rfl (Or.inl rfl) pe_dnewK)
      (pss_cons (ps_for PassesOwn.never rfl (pi_range1 rfl B.range (pa_cons (pe_callB (callLen (K := K) rfl) rfl B.len PySem.boot_len (pa_cons (pv 2) pa_nil)) pa_nil)) (pg_name (i := 4) sc__law_row.nd rfl (Or.inl rfl))
      (pss_one (ps_if (pt_cmpR op_eq (pe_ix (ixT (K := K) rfl) (pe_ix (ixLs (K := K) rfl) (pv 2) (pv 4) (fun _ _ => rfl)) pe_int (fun _ _ => rfl)) pe_str (nomark _)) (pss_one (ps_dput hu (pv 3) (pe_ix (ixT (K := K) rfl) (pe_ix (ixLs (K := K) rfl) (pv 2) (pv 4) (fun _ _ => rfl)) pe_int (fun _ _ => rfl)) (cD d__law_word hr (by decide) rfl (pa_cons (pv 0) (pa_cons (pe_op op_add (pv 1) (pe_op op_mul pe_int (pv 4))) (pa_cons (pe_ix (ixLs (K := K) rfl) (pv 2) (pv 4) (fun _ _ => rfl)) pa_nil)))) rfl)) pss_nil)))
      (pss_one (ps_ret (pv 3))))), ?_⟩
    obtain ⟨a, ns, k, l, xs, ps, rfl, hS, hL, hP, hok, hnd, hlen, q⟩ := h
    have gh : Same H H := Same.refl _
    let G := H
    have gh : Same G H := gh
    have hxp := Paired.len hP
    intro d hd
    refine ⟨_, rfl, l, xs, rfl, .inl ((gh.keep (Keep.new hd)).seq hL), _, rfl, (by omega), (by omega), ?_⟩
    refine for_range (lo := 0) (n := (xs.length : Int).toNat) (fun i σ H' => ∃ v, σ = [some (.ref a), some (.int k), some (.ref l), some (.ref d), v] ∧ Wd G H G H' ∧ H' d = some (.dK (rowK ((List.range i).filterMap fun j => rowEl ns k j ps[j]?))))
      ⟨none, rfl, (Wd.refl gh).keep (Keep.new hd), upd_same⟩ ?_ ?_
    · rintro i σ H' hi ⟨v, rfl, W, hD⟩
      rw [Int.zero_add]
      have hi' : i < xs.length := by omega
      have gd : G d = none := Same.free gh hd
      obtain ⟨p, hp, ap, rfl', hT⟩ := Paired.at hP (List.getElem?_eq_getElem hi')
      have hx : xs[i]? = some (V.ref ap) := by rw [List.getElem?_eq_getElem hi', rfl']
      cases p with
      | say t =>
        refine ⟨_, rfl, _, rfl, l, _, _, _, rfl, rfl, W.gh.seq hL, atI_nat hx, ap, _, _, _, rfl, rfl, W.gh.tup hT, rfl, rfl, _, rfl, iteNe say_ask ⟨some (.int i), rfl, W, ?_⟩⟩
        rw [filterMap_range_succ, hp]
        simpa [rowEl] using hD
      | ask nm sg lo hi =>
        refine ⟨_, rfl, _, rfl, l, _, _, _, rfl, rfl, W.gh.seq hL, atI_nat hx, ap, _, _, _, rfl, rfl, W.gh.tup hT, rfl, rfl, _, rfl, iteEq ?_⟩
        obtain ⟨_, s1, s20, _, _, l0, lh, h4⟩ := hok _ (mem_at hp)
        refine ⟨_, rfl, _, rfl, _, rfl, _, _, rfl, rfl, .inl ⟨by decide, by decide⟩, _, _, rfl, rfl, _, rfl, _, rfl, l, _, _, _, rfl, rfl, W.gh.seq hL, atI_nat hx, a, ns, _, ap, nm, sg, lo, hi, rfl, W.gh.seq hS, W.gh.tup hT, s1, s20, l0, lh, h4, ?_⟩
        refine ⟨_, rfl, _, rfl, _, rfl, l, _, _, _, rfl, rfl, W.gh.seq hL, atI_nat hx, ap, _, _, _, rfl, rfl, W.gh.tup hT, rfl, d, _, rfl, dput_s hD ?_, ?_⟩
        · have : ((List.range i).filterMap fun j => rowEl ns k j ps[j]?).length ≤ i := by
            have := List.length_filterMap_le (fun j => rowEl ns k j ps[j]?) (List.range i)
            rwa [List.length_range] at this
          exact small1000 (by show (rowK _).length ≤ 1000; unfold rowK; rw [List.length_map]; omega)
        · have hk : look nm ((List.range i).filterMap fun j => rowEl ns k j ps[j]?) = none := by
            rw [look_keys, row_keys ns k ps i (by omega)]
            exact nm0_new hnd hp rfl
          refine ⟨some (.int i), rfl, ⟨W.gg, fun b o e => by rw [upd_ne (ne_of_none e gd)]; exact W.gh _ _ e, W.hh.mut hd, W.nw⟩, ?_⟩
          rw [upd_same, putK_row hk, filterMap_range_succ, hp]
          rfl
    · rintro σ H' ⟨v, rfl, W, hD⟩
      have hD2 : H' d = some (.dK (rowK (rowP ns k ps))) := by
        rw [hD]
        unfold rowP
        rw [show (xs.length : Int).toNat = ps.length by omega]
      exact ⟨_, rfl, q d H' W.hh hd hD2⟩

abbrev s__law_values : Stmt := top 24
abbrev n__law_values : List Str := ["script", "start", "pieces", "values", "k", "piece", "here", "many", "row", "j"]
theorem sc__law_values : FnScope n__law_values ["script", "start", "pieces"] (defScope s__law_values) := ⟨rfl, rfl, rfl, by decide +kernel, rfl, by decide +kernel, by decide +kernel⟩

theorem dn__law_values_d (D : Df K mg "_law_values" s__law_values ["script", "start", "pieces"]) (B : Bl mg) (d__law_word : Dn P w K mg base CX0 3 "_law_word" (sp__law_word K))  (d__law_draw : Dn P w K mg base CX0 2 "_law_draw" (sp__law_draw K))  (d__law_row : Dn P w K mg base CX0 4 "_law_row" (sp__law_row_d K))  : Dn P w K mg base CX0 5 "_law_values" (sp__law_values_d K) := by
  refine .of D fun f fd F => F.ok sc__law_values (fun vs H Q E h => ?_) (fun cdv A outer s H vs Q E hr h => ?_)
  · (obtain ⟨_, _, _, _, _, _, rfl, _⟩ := h; rfl)
  · have hu := hu_of hr
    have hu64 : _ := hr.units
    refine ⟨_, (pss_cons (ps_set (i := 3) sc__law_values.nd rfl (Or.inl rfl) pe_dnewK)
      (pss_cons (ps_for PassesOwn.never rfl (pi_range1 rfl B.range (pa_cons (pe_callB (callLen (K := K) rfl) rfl B.len PySem.boot_len (pa_cons (pv 2) pa_nil)) pa_nil)) (pg_name (i := 4) sc__law_values.nd rfl (Or.inl rfl))
      (pss_cons (ps_set (i := 5) sc__law_values.nd rfl (Or.inr rfl) (pe_ix (ixLs (K := K) rfl) (pv 2) (pv 4) (fun _ _ => rfl)))
      (pss_cons (ps_set (i := 6) sc__law_values.nd rfl (Or.inr rfl) (pe_op op_add (pv 1) (pe_op op_mul pe_int (pv 4))))
      (pss_cons (ps_if (pt_cmpR op_eq (pe_ix (ixT (K := K) rfl) (pv 5) pe_int (fun _ _ => rfl)) pe_str (nomark _)) (pss_one (ps_dput hu (pv 3) (pe_ix (ixT (K := K) rfl) (pv 5) pe_int (fun _ _ => rfl)) (cD d__law_word hr (by decide) rfl (pa_cons (pv 0) (pa_cons (pv 6) (pa_cons (pv 5) pa_nil)))) rfl)) pss_nil)
      (pss_one (ps_if (pt_cmpR op_eq (pe_ix (ixT (K := K) rfl) (pv 5) pe_int (fun _ _ => rfl)) pe_str (nomark _)) (pss_cons (ps_set (i := 7) sc__law_values.nd rfl (Or.inl rfl) (pe_op op_add (pe_ix (ixT (K := K) rfl) (pv 5) pe_int (fun _ _ => rfl)) (pe_op op_mod (cD d__law_draw hr (by decide) rfl (pa_cons (pv 0) (pa_cons (pv 6) pa_nil))) (pe_op op_add (pe_op op_sub (pe_ix (ixT (K := K) rfl) (pv 5) pe_int (fun _ _ => rfl)) (pe_ix (ixT (K := K) rfl) (pv 5) pe_int (fun _ _ => rfl))) pe_int))))
      (pss_cons (ps_setLc (i := 8) (own := [("j", 9)]) (g := gName 9) rfl sc__law_values.nd rfl rfl (sw_true rfl rfl rfl (by decide +kernel)) (pi_range1 rfl B.range (pa_cons (pv 7) pa_nil)) (blkOk_by (N := n__law_values) (sc := defScope s__law_values) (by decide +kernel)) (fun _ _ _ _ _ => pg_name (i := 9) sc__law_values.nd rfl (Or.inl rfl)) (fun _ _ _ _ _ => pts_nil) (fun _ _ _ _ _ => (cD d__law_row hr (by decide) rfl (pa_cons (pv 0) (pa_cons (pe_op op_add (pe_op op_add (pv 6) pe_int) (pe_op op_mul pe_int (pv 9))) (pa_cons (pe_ix (ixT (K := K) rfl) (pv 5) pe_int (fun _ _ => rfl)) pa_nil))))))
      (pss_one (ps_dput hu (pv 3) (pe_ix (ixT (K := K) rfl) (pv 5) pe_int (fun _ _ => rfl)) (pv 8) rfl)))) pss_nil))))))
      (pss_one (ps_ret (pv 3))))), ?_⟩
    obtain ⟨a, ns, st, l, xs, ps, rfl, hS, hL, hP, hok, q⟩ := h
    have hxp := Paired.len hP
    have hl6 := hok.l6
    intro d hd
    refine ⟨_, rfl, l, xs, rfl, .inl ((Keep.new hd).same.seq hL), _, rfl, (by omega), (by omega), ?_⟩
    refine for_range (lo := 0) (n := (xs.length : Int).toNat) (fun i σ H' => ∃ v1 v2 v3 v4 v5 v6 kvs, σ = [some (.ref a), some (.int st), some (.ref l), some (.ref d), v1, v2, v3, v4, v5, v6] ∧ Keep H H' ∧ H' d = some (.dK kvs) ∧ Paired (RO H H' d) kvs ((List.range i).filterMap fun k => valEl ns st k ps[k]?))
      ⟨none, none, none, none, none, none, [], rfl, Keep.new hd, upd_same, .nil⟩ ?_ ?_
    · rintro i σ H' hi ⟨v1, v2, v3, v4, v5, v6, kvs, rfl, W, hD, hV⟩
      rw [Int.zero_add]
      have hi' : i < xs.length := by omega
      obtain ⟨p, hp, hR⟩ := Paired.at hP (List.getElem?_eq_getElem hi')
      have hx : xs[i]? = some xs[i] := List.getElem?_eq_getElem hi'
      have hS' := W.same.seq hS
      have hL' := W.same.seq hL
      have hokp := hok.ok _ (mem_at hp)
      have hkl : kvs.length ≤ 6 := by
        have h1 := Paired.len hV
        have h2 := List.length_filterMap_le (fun k => valEl ns st k ps[k]?) (List.range i)
        rw [List.length_range] at h2
        omega
      have hkn : ∀ n, nmP p = some n → valV kvs (Sum.inr n : Key) = none := fun n hn => by
        refine val_RO hV n ?_
        rw [look_keys, val_keys ns st ps i (by omega)]
        exact nm_new hok.nd hp hn
      refine ⟨_, rfl, _, rfl, l, _, _, _, rfl, rfl, hL', atI_nat hx, ?_⟩
      refine ⟨_, rfl, _, rfl, _, _, rfl, rfl, .inl ⟨by decide, by decide⟩, _, _, rfl, rfl, ?_⟩
      cases p with
      | p0 p =>
        obtain ⟨ap, e, hT⟩ := hR
        rw [e]
        have hT' := W.same.tup hT
        cases p with
        | say t =>
          refine ⟨_, rfl, ap, _, _, _, rfl, rfl, hT', rfl, rfl, _, rfl, iteNe say_ask ?_⟩
          refine ⟨_, rfl, ap, _, _, _, rfl, rfl, hT', rfl, rfl, _, rfl, iteNe say_rows ?_⟩
          refine ⟨_, _, _, _, _, _, kvs, rfl, W, hD, ?_⟩
          rw [filterMap_range_succ, hp]
          simpa [valEl] using hV
        | ask nm sg lo hi =>
          refine ⟨_, rfl, ap, _, _, _, rfl, rfl, hT', rfl, rfl, _, rfl, iteEq ?_⟩
          obtain ⟨_, s1, s20, _, _, l0, lh, h4⟩ := hokp
          refine ⟨_, rfl, _, rfl, _, rfl, a, ns, _, ap, nm, sg, lo, hi, rfl, hS', hT', s1, s20, l0, lh, h4, ?_⟩
          refine ⟨_, rfl, _, rfl, ap, _, _, _, rfl, rfl, hT', rfl, d, _, rfl, dput_s hD (small1000 (by omega)), ?_⟩
          have k2 : Keep H (upd H' d (.dK (putK kvs (Sum.inr nm) (.str (wordP ns (st + 90 * i) sg lo hi))))) := W.mut hd
          refine ⟨_, rfl, ap, _, _, _, rfl, rfl, k2.same.tup hT, rfl, rfl, _, rfl, iteNe ask_rows ?_⟩
          refine ⟨_, _, _, _, _, _, _, rfl, k2, upd_same, ?_⟩
          rw [putK_new _ (hkn nm rfl), filterMap_range_succ, hp]
          exact Paired.snoc (Paired.monoP hV fun _ _ z => z.mono ⟨_, hD⟩ fun b o hb e => (upd_ne hb).trans e) ⟨rfl, rfl⟩
      | rows nm ips gap lo hi =>
        obtain ⟨ap, li, ys, e, hT, hLi, hPi⟩ := hR
        rw [e]
        have hT' := W.same.tup hT
        refine ⟨_, rfl, ap, _, _, _, rfl, rfl, hT', rfl, rfl, _, rfl, iteNe rows_ask ?_⟩
        refine ⟨_, rfl, ap, _, _, _, rfl, rfl, hT', rfl, rfl, _, rfl, iteEq ?_⟩
        obtain ⟨_, i1, i3, iok, ind, _, _, l0, lh, h3⟩ := hokp
        have ws := word_size (ns := ns) (k := st + 90 * i) l0 lh
        refine ⟨_, rfl, ap, _, _, _, rfl, rfl, hT', rfl, _, rfl, _, rfl, a, ns, _, rfl, hS', _, rfl, ap, _, _, _, rfl, rfl, hT', rfl, _, rfl, ap, _, _, _, rfl, rfl, hT', rfl, _, _, rfl, rfl, _, _, rfl, rfl, _, _, rfl, rfl, (by show 0 < hi - lo + 1; omega), _, _, rfl, rfl, ?_⟩
        refine ⟨_, rfl, _, rfl, (by omega), (by omega), fun D hDn => ?_⟩
        have dD : d ≠ D := ne_of_none hD hDn
        have hDH : H D = none := W.free hDn
        refine lc_range (lo := 0) (n := (lo + draw ns (st + 90 * i) % (hi - lo + 1)).toNat) (fun j H2 => ∃ as : List Addr, Keep H' H2 ∧ H2 D = some (.lst (as.map V.ref)) ∧ as.Nodup ∧ (∀ x ∈ as, H' x = none ∧ x ≠ D) ∧ as.length = j ∧
            Paired (fun x r => H2 x = some (.dK (rowK r))) as ((List.range j).map fun (j : Nat) => rowP ns (st + 90 * i + 1 + 25 * j) ips))
          ⟨[], Keep.new hDn, upd_same, List.nodup_nil, fun x hx => (by cases hx), rfl, .nil⟩ ?_ ?_
        · rintro j H2 hj ⟨as, k2, hD2, nd2, fr2, hl2, hP2⟩
          rw [Int.zero_add]
          refine ⟨rfl, ?_⟩
          unfold tYes
          dsimp only
          rw [if_pos rfl]
          have k02 := W.trans k2
          refine ⟨_, rfl, _, rfl, _, _, rfl, rfl, _, rfl, _, _, rfl, rfl, .inl ⟨by decide, by decide⟩, _, _, rfl, rfl, _, rfl, ap, _, _, _, rfl, rfl, k02.same.tup hT, rfl, ?_⟩
          refine ⟨a, ns, _, li, ys, ips, rfl, k02.same.seq hS, k02.same.seq hLi, Paired.monoP hPi fun _ _ z => z.mono k02.same, iok, ind, (by omega), fun x H3 k3 nx hx3 => ?_⟩
          have xD : x ≠ D := fun z => by rw [z, hD2] at nx; cases nx
          have xa : x ∉ as := fun m => by
            obtain ⟨i, hi, e⟩ := List.mem_iff_getElem.mp m
            obtain ⟨r, _, hr⟩ := Paired.at hP2 (i := i) (x := x) (by rw [List.getElem?_eq_getElem hi, e])
            rw [nx] at hr; cases hr
          refine ⟨as.map V.ref, k3 _ _ hD2, small1000 (by rw [List.length_map]; omega), as ++ [x], (k2.trans k3).mut hDn, by rw [upd_same, List.map_append]; rfl, ?_, fun y hy => ?_, by simp [hl2], ?_⟩
          · rw [List.nodup_append]
            refine ⟨nd2, by simp, fun y hy z hz => ?_⟩
            simp at hz; subst hz
            rintro rfl
            exact xa hy
          · rcases List.mem_append.mp hy with hy | hy
            · exact fr2 y hy
            · simp at hy; subst hy; exact ⟨k2.free nx, xD⟩
          · rw [map_range_succ]
            refine Paired.snoc ?_ ((upd_ne xD).trans hx3)
            refine Paired.of_at (Paired.len hP2) fun m y r h1 h2 => ?_
            obtain ⟨r', e', z⟩ := Paired.at hP2 h1
            rw [h2] at e'; cases e'
            rw [upd_ne (fr2 y (mem_at h1)).2]
            exact k3 _ _ z
        · rintro H2 ⟨as, k2, hD2, nd2, fr2, hl2, hP2⟩
          have k02 := W.trans k2
          have hT3 := k02.same.tup hT
          have hd2 := k2 _ _ hD
          refine ⟨_, rfl, _, rfl, _, rfl, ap, _, _, _, rfl, rfl, hT3, rfl, d, _, rfl, dput_s hd2 (small1000 (by omega)), ?_⟩
          refine ⟨_, _, _, _, _, _, _, rfl, k02.mut hd, upd_same, ?_⟩
          rw [putK_new _ (hkn nm rfl), filterMap_range_succ, hp]
          have dr : ∀ x ∈ as, x ≠ d := fun x hx z => by have := (fr2 x hx).1; rw [z, hD] at this; cases this
          refine Paired.snoc (Paired.monoP hV fun _ _ z => (z.mono ⟨_, hD⟩ fun b o _ e => k2 _ _ e).mono ⟨_, hd2⟩ fun b o hb e => (upd_ne hb).trans e) ⟨rfl, D, as, rfl, hDH, (upd_ne dD.symm).trans hD2, nd2, fun x hx => ⟨W.free (fr2 x hx).1, dr x hx⟩, ?_⟩
          refine Paired.of_at (Paired.len hP2) fun m y r h1 h2 => ?_
          obtain ⟨r', e', z⟩ := Paired.at hP2 h1
          rw [h2] at e'; cases e'
          exact (upd_ne (dr y (mem_at h1))).trans z
    · rintro σ H' ⟨v1, v2, v3, v4, v5, v6, kvs, rfl, W, hD, hV⟩
      refine ⟨_, rfl, q d kvs H' W hd hD ?_⟩
      unfold valuesP
      rw [show ps.length = (xs.length : Int).toNat by omega]
      exact hV

abbrev s__law_line : Stmt := top 25
abbrev n__law_line : List Str := ["pieces", "values", "text", "piece"]
theorem sc__law_line : FnScope n__law_line ["pieces", "values"] (defScope s__law_line) := ⟨rfl, rfl, rfl, by decide +kernel, rfl, by decide +kernel, by decide +kernel⟩

theorem dn__law_line (D : Df K mg "_law_line" s__law_line ["pieces", "values"])  : Dn P w K mg base CX0 1 "_law_line" (sp__law_line K) := by
  refine .of D fun f fd F => F.ok sc__law_line (fun vs H Q E h => ?_) (fun cdv A outer s H vs Q E hr h => ?_)
  · (obtain ⟨_, _, _, _, _, _, rfl, _⟩ := h; rfl)
  · have hu := hu_of hr
    have hu64 : _ := hr.units
    refine ⟨_, (pss_cons (ps_set (i := 2) sc__law_line.nd rfl (Or.inl rfl) pe_str)
      (pss_cons (ps_for PassesOwn.never rfl (pi_list (pv 0)) (pg_name (i := 3) sc__law_line.nd rfl (Or.inl rfl))
      (pss_one (ps_if (pt_cmpR op_eq (pe_ix (ixT (K := K) rfl) (pv 3) pe_int (fun _ _ => rfl)) pe_str (nomark _)) (pss_one (ps_set (i := 2) sc__law_line.nd rfl (Or.inl rfl) (pe_op op_add_str (pv 2) (pe_ix (ixT (K := K) rfl) (pv 3) pe_int (fun _ _ => rfl))))) (pss_one (ps_set (i := 2) sc__law_line.nd rfl (Or.inl rfl) (pe_op op_add_str (pv 2) (pe_dget hu (pv 1) (pe_ix (ixT (K := K) rfl) (pv 3) pe_int (fun _ _ => rfl)) (fun _ _ => rfl))))))))
      (pss_one (ps_ret (pv 2))))), ?_⟩
    obtain ⟨l, xs, ps, d, kvs, f, rfl, hL, hP, hD, hA, hlen, hok, hf, q⟩ := h
    have hxp := Paired.len hP
    refine ⟨_, rfl, l, rfl, ⟨xs, hL⟩, for_list (K := K) (a := l) (xs := xs) (fun i σ H' => ∃ v, H' = H ∧ σ = [some (.ref l), some (.ref d), some (.str (lineP f (ps.take i))), v]) ⟨none, rfl, rfl⟩ (fun i σ H' _ ⟨_, e, _⟩ => e ▸ hL) ?_ ?_⟩
    · rintro i x σ H' hi ⟨v, rfl, rfl⟩
      obtain ⟨p, hp, hR⟩ := Paired.at hP hi
      obtain ⟨ap, rfl, hT⟩ := hR
      have hle := lineP_len hok hf (i + 1)
      rw [lineP_snoc f hp, str_len_app] at hle
      have hi6 := at_lt hp
      cases p with
      | say t =>
        refine ⟨_, rfl, ap, _, _, _, rfl, rfl, hT, rfl, rfl, _, rfl, iteEq ?_⟩
        refine ⟨_, rfl, _, rfl, ap, _, _, _, rfl, rfl, hT, rfl, _, _, rfl, rfl, small_line ?_, some (.ref ap), rfl, ?_⟩
        · have : (fpiece f (.say t)).length = t.length := rfl
          omega
        · rw [lineP_snoc f hp]; rfl
      | ask nm sg lo hi2 =>
        refine ⟨_, rfl, ap, _, _, _, rfl, rfl, hT, rfl, rfl, _, rfl, iteNe ask_say ?_⟩
        refine ⟨_, rfl, _, rfl, _, rfl, ap, _, _, _, rfl, rfl, hT, rfl, d, _, rfl, dget_s hD (hA _ _ _ _ (mem_at hp)), _, _, rfl, rfl, small_line ?_, some (.ref ap), rfl, ?_⟩
        · have : (fpiece f (.ask nm sg lo hi2)).length = (f nm).length := rfl
          omega
        · rw [lineP_snoc f hp]; rfl
    · rintro σ H' ⟨v, rfl, rfl⟩
      rw [hxp, List.take_length]
      exact ⟨_, rfl, q⟩

abbrev s__law_written : Stmt := top 26
abbrev n__law_written : List Str := ["pieces", "values", "text", "piece", "row"]
theorem sc__law_written : FnScope n__law_written ["pieces", "values"] (defScope s__law_written) := ⟨rfl, rfl, rfl, by decide +kernel, rfl, by decide +kernel, by decide +kernel⟩

theorem dn__law_written (D : Df K mg "_law_written" s__law_written ["pieces", "values"]) (d__law_line : Dn P w K mg base CX0 1 "_law_line" (sp__law_line K))  : Dn P w K mg base CX0 2 "_law_written" (sp__law_written K) := by
  refine .of D fun f fd F => F.ok sc__law_written (fun vs H Q E h => ?_) (fun cdv A outer s H vs Q E hr h => ?_)
  · (obtain ⟨_, _, _, _, _, rfl, _⟩ := h; rfl)
  · have hu := hu_of hr
    have hu64 : _ := hr.units
    refine ⟨_, (pss_cons (ps_set (i := 2) sc__law_written.nd rfl (Or.inl rfl) pe_str)
      (pss_cons (ps_for PassesOwn.never rfl (pi_list (pv 0)) (pg_name (i := 3) sc__law_written.nd rfl (Or.inr rfl))
      (pss_one (ps_if (pt_cmpR op_eq (pe_ix (ixT (K := K) rfl) (pv 3) pe_int (fun _ _ => rfl)) pe_str (nomark _)) (pss_one (ps_set (i := 2) sc__law_written.nd rfl (Or.inl rfl) (pe_op op_add_str (pv 2) (pe_join (pe_ix (ixT (K := K) rfl) (pv 3) pe_int (fun _ _ => rfl)) (pe_lc (own := [("row", 4)]) (g := gName 4) rfl sc__law_written.nd (pi_list (pe_dget hu (pv 1) (pe_ix (ixT (K := K) rfl) (pv 3) pe_int (fun _ _ => rfl)) (fun _ _ => rfl))) (blkOk_by (N := n__law_written) (sc := defScope s__law_written) (by decide +kernel)) (fun _ _ _ _ _ => pg_name (i := 4) sc__law_written.nd rfl (Or.inl rfl)) (fun _ _ _ _ _ => pts_nil) (fun _ _ _ _ _ => (cD d__law_line hr (by decide) rfl (pa_cons (pe_ix (ixT (K := K) rfl) (pv 3) pe_int (fun _ _ => rfl)) (pa_cons (pv 4) pa_nil))))))))) (pss_one (ps_set (i := 2) sc__law_written.nd rfl (Or.inl rfl) (pe_op op_add_str (pv 2) (cD d__law_line hr (by decide) rfl (pa_cons (pe_lst (pa_cons (pv 3) pa_nil)) (pa_cons (pv 1) pa_nil)))))))))
      (pss_one (ps_ret (pv 2))))), ?_⟩
    obtain ⟨l, xs, ps, v, vals, rfl, hL, hP, hV, hlen, hok, q⟩ := h
    have hxp := Paired.len hP
    obtain ⟨d, kvs, rfl, hD0, hK⟩ := id hV
    have hD : Rd H d (.dK kvs) := .inl hD0
    refine ⟨_, rfl, l, rfl, ⟨xs, hL⟩, for_list (K := K) (a := l) (xs := xs) (fun i σ H' => ∃ v1 v2, Keep H H' ∧ σ = [some (.ref l), some (.ref d), some (.str (writtenP (fv vals) (gv vals) (ps.take i))), v1, v2]) ⟨none, none, Keep.refl _, rfl⟩ (fun i σ H' _ ⟨_, _, k, _⟩ => k.same.seq hL) ?_ ?_⟩
    · rintro i x σ H' hi ⟨v1, v2, k, rfl⟩
      obtain ⟨p, hp, hR⟩ := Paired.at hP hi
      have hle := writtenP_len hok (i + 1)
      rw [writtenP_snoc _ _ hp, str_len_app] at hle
      have hi6 := at_lt hp
      obtain ⟨hokp, hfp⟩ := hok _ (mem_at hp)
      cases p with
      | p0 p =>
        obtain ⟨ap, rfl, hT⟩ := hR
        have hT' := k.same.tup hT
        have hne : ∀ H1 : Hp, SqT K H1 ap p.vs → ∃ u, atI p.vs 0 = some u ∧ scal u (V.str "rows") = true ∧ u ≠ V.str "rows" := fun H1 _ => by
          cases p with
          | say t => exact ⟨_, rfl, rfl, say_rows⟩
          | ask nm sg lo hi => exact ⟨_, rfl, rfl, ask_rows⟩
        obtain ⟨u, hu1, hu2, hu3⟩ := hne _ hT'
        refine ⟨_, rfl, ap, _, _, _, rfl, rfl, hT', hu1, hu2, _, rfl, iteNe hu3 ?_⟩
        refine ⟨_, rfl, _, rfl, (by show 1 ≤ sizeLine; decide), fun pl hpl => ?_⟩
        have k2 := k.trans (Keep.new (o := .lst [V.ref ap]) hpl)
        obtain ⟨a1, a2⟩ := look_fit hK hfp
        refine ⟨_, rfl, pl, [V.ref ap], [p], d, kvs, fv vals, rfl, SqL.of upd_same, .cons ⟨ap, rfl, k2.same.tup hT⟩ .nil, k2.same.rd hD, a1, (by show 1 ≤ 6; omega), (fun p' hp' => by simp at hp'; subst hp'; exact hokp), a2, _, _, rfl, rfl, small_line ?_, some (.ref ap), v2, k2, ?_⟩
        · rw [lineP_one]
          have : (wpiece (fv vals) (gv vals) (.p0 p)).length = (fpiece (fv vals) p).length := rfl
          omega
        · rw [writtenP_snoc _ _ hp, lineP_one]; rfl
      | rows nm ips gap lo hi2 =>
        obtain ⟨ap, li, ys, rfl, hT, hLi, hPi⟩ := hR
        have hT' := k.same.tup hT
        obtain ⟨rs, e, f1, f2, f3⟩ := hfp
        obtain ⟨_, i1, i3, iok, ind, g5, _, l0, lh, h3⟩ := hokp
        obtain ⟨rv, ev, rl, rvs, rfl, hrl, hrp⟩ := (val_RV hK nm).1 _ e
        have hrl2 := Paired.len hrp
        refine ⟨_, rfl, ap, _, _, _, rfl, rfl, hT', rfl, rfl, _, rfl, iteEq ?_⟩
        refine ⟨_, rfl, _, rfl, ap, _, _, _, rfl, rfl, hT', rfl, ⟨_, rfl⟩, _, rfl, _, rfl, ap, _, _, _, rfl, rfl, hT', rfl, d, _, rfl, dget_s (k.same.rd hD) ev, rl, rfl, ⟨rvs, k.same.seq hrl⟩, fun D hDn => ?_⟩
        refine lc_list (K := K) (a := rl) (xs := rvs) (fun j H2 => Keep H' H2 ∧ H2 D = some (.lst (((rs.take j).map fun r => lineP (rowf r) ips).map V.str)))
          ⟨Keep.new hDn, upd_same⟩ (fun j H2 _ ⟨k2, _⟩ => (k.trans k2).same.seq hrl) ?_ ?_
        · rintro j y H2 hj ⟨k2, hD2⟩
          obtain ⟨r, hr, dr, rfl, hdr⟩ := Paired.at hrp hj
          have k3 := k.trans k2
          refine ⟨rfl, ?_⟩
          unfold tYes
          dsimp only
          rw [if_pos rfl]
          obtain ⟨a1, a2⟩ := row_fits (f3 r (mem_at hr))
          have hjl := at_lt hr
          refine ⟨_, rfl, ap, _, _, _, rfl, rfl, k3.same.tup hT, rfl, _, rfl, li, ys, ips, dr, _, rowf r, rfl, k3.same.seq hLi, Paired.monoP hPi fun _ _ z => z.mono k3.same, k3.same.rd (.inl hdr), a2, (by omega), iok, a1, _, hD2, small1000 ?_, k2.mut hDn, ?_⟩
          · rw [List.length_map, List.length_map, List.length_take]; omega
          · rw [upd_same, map_take_succ _ hr, List.map_append]; rfl
        · rintro H2 ⟨k2, hD2⟩
          rw [hrl2, List.take_length] at hD2
          have k3 := k.trans k2
          obtain ⟨j1, j2⟩ := join_le (gap := gap) (rows_lines_le iok i3 f3) (by rw [List.length_map]; omega) g5
          refine ⟨gap, D, _, rfl, rfl, .inl (SqL.of hD2), Nat.le_trans j1 (by decide), _, _, rfl, rfl, small_line ?_, some (.ref ap), v2, k3, ?_⟩
          · have : (wpiece (fv vals) (gv vals) (.rows nm ips gap lo hi2)).length = (Txt.join gap (rs.map fun r => lineP (rowf r) ips)).length := by
              show (Txt.join gap ((gv vals nm).map fun r => lineP r ips)).length = _
              rw [gv_rows e]
            omega
          · rw [writtenP_snoc _ _ hp]
            show _ = [some (V.ref l), some (V.ref d), some (V.str (writtenP (fv vals) (gv vals) (ps.take i) ++ Txt.join gap ((gv vals nm).map fun r => lineP r ips))), some (V.ref ap), v2]
            rw [gv_rows e]
            rfl
    · rintro σ H' ⟨v1, v2, k, rfl⟩
      rw [hxp, List.take_length]
      exact ⟨_, rfl, q _ k⟩

abbrev s__law_copy : Stmt := top 27
abbrev n__law_copy : List Str := ["values", "made", "name", "row"]
theorem sc__law_copy : FnScope n__law_copy ["values"] (defScope s__law_copy) := ⟨rfl, rfl, rfl, by decide +kernel, rfl, by decide +kernel, by decide +kernel⟩

theorem dn__law_copy (D : Df K mg "_law_copy" s__law_copy ["values"]) (B : Bl mg) : Dn P w K mg base CX0 1 "_law_copy" (sp__law_copy K) := by
  refine .of D fun f fd F => F.ok sc__law_copy (fun vs H Q E h => ?_) (fun cdv A outer s H vs Q E hr h => ?_)
  · (obtain ⟨_, _, _, rfl, _⟩ := h; rfl)
  · have hu := hu_of hr
    have hu64 : _ := hr.units
    refine ⟨_, (pss_cons (ps_set (i := 1) sc__law_copy.nd rfl (Or.inl rfl) pe_dnewK)
      (pss_cons (ps_lock (ps_for PassesOwn.never rfl (pi_keys (pv 0)) (pg_name (i := 2) sc__law_copy.nd rfl (Or.inl rfl))
      (pss_cons (ps_dput hu (pv 1) (pv 2) (pe_dget hu (pv 0) (pv 2) (fun _ _ => rfl)) rfl)
      (pss_one (ps_if (pt_val (pe_callB call_isi rfl B.isinstance (by decide +kernel) (pa_cons (pe_dget hu (pv 0) (pv 2) (fun _ _ => rfl)) (pa_cons (pe_bltn (v := .ty "list") rfl B.list (by decide +kernel) rfl) pa_nil)))) (pss_one (ps_dput hu (pv 1) (pv 2) (pe_lc (own := [("row", 3)]) (g := gName 3) rfl sc__law_copy.nd (pi_list (pe_dget hu (pv 0) (pv 2) (fun _ _ => rfl))) (blkOk_by (N := n__law_copy) (sc := defScope s__law_copy) (by decide +kernel)) (fun _ _ _ _ _ => pg_name (i := 3) sc__law_copy.nd rfl (Or.inl rfl)) (fun _ _ _ _ _ => pts_nil) (fun _ _ _ _ _ => (pe_callTy call_dictD rfl B.dict (by decide +kernel) (pa_cons (pv 3) pa_nil)))) rfl)) pss_nil)))))
      (pss_one (ps_ret (pv 1))))), ?_⟩
    obtain ⟨v, vals, G, rfl, gh, hV, nd, hl, hr, q⟩ := h
    obtain ⟨d, kvs, rfl, hd, hP⟩ := hV.own
    have hkl := Paired.len hP
    intro m hm
    have md : m ≠ d := fun e => by rw [e, gh _ _ hd] at hm; cases hm
    have hd1 : (upd H m (.dK [])) d = some (.dK kvs) := by rw [upd_ne (Ne.symm md)]; exact gh _ _ hd
    refine ⟨d, _, hd1, trivial, fun od => ?_⟩
    rw [upd_comm md]
    have hm0 : (upd H d (.frz od (.dK kvs))) m = none := by rw [upd_ne md]; exact hm
    have g0 : Same (hide G [d]) (upd H d (.frz od (.dK kvs))) := Same.mut ((hide_same _ _).trans gh) (hide_in (by simp))
    have gm0 : hide G [d] m = none := Same.free g0 hm0
    refine ⟨_, rfl, d, od, rfl, .inl ⟨kvs, by rw [upd_ne (Ne.symm md)]; exact upd_same, ?_⟩⟩
    refine for_it walk_keys (fun i σ H' => ∃ v2 v3 G' kv', σ = [some (.ref d), some (.ref m), v2, v3] ∧ Wd (hide G [d]) (upd H d (.frz od (.dK kvs))) G' H' ∧ H' m = some (.dK kv') ∧ G' m = none ∧ Paired (RKv K G') kv' (vals.take i))
      ⟨none, none, _, [], rfl, (Wd.refl g0).keep (Keep.new hm0), upd_same, gm0, .nil⟩ (fun i σ H' _ ⟨_, _, _, _, _, W, _⟩ => W.hh _ _ upd_same) ?_ ?_
    · rintro i x σ H' H'' hi ⟨v2, v3, G', kv', rfl, W, hmm, gm, hK⟩ ⟨rfl, k, u, hku, rfl⟩
      obtain ⟨⟨nm, vl⟩, hvl, ek, hu⟩ := Paired.at hP hku
      simp only at ek
      subst ek
      have hF : ∀ {H4 : Hp}, Keep H'' H4 → Rd H4 d (.dK kvs) := fun k4 => .inr ⟨od, k4 _ _ (W.hh _ _ upd_same)⟩
      have hlk := look_mem nd (mem_at hvl)
      obtain ⟨u2, eu2, hu2⟩ := (val_RV hP nm).1 _ hlk
      have hu3 := (hu2.mono W.gg)
      have hkl' : kv'.length ≤ 100 := by rw [Paired.len hK, List.length_take]; omega
      have hnew : valV kv' (Sum.inr nm : Key) = none := (val_RV hK nm).2 (look_take nd hvl)
      have hpn := putK_new u2 hnew
      have nd2 : (Rd (upd H'' m (.dK (putK kv' (Sum.inr nm) u2))) d (.dK kvs)) := .inr ⟨od, by rw [upd_ne (Ne.symm md)]; exact W.hh _ _ upd_same⟩
      refine ⟨_, rfl, _, rfl, d, _, rfl, dget_s (hF (Keep.refl _)) eu2, _, rfl, _, rfl, m, _, rfl, dput_s hmm (small1000 (by omega)), ?_⟩
      rw [hpn] at nd2 ⊢
      cases vl with
      | tx t =>
        have e : u2 = .str t := hu2
        subst e
        refine ⟨_, rfl, _, rfl, d, _, rfl, dget_s nd2 eu2, ⟨_, _, _, _, false, rfl, .ty "list", .base (.str _), kit_ty (by decide +kernel), _, rfl, iteF ?_⟩⟩
        refine ⟨_, _, G', _, rfl, W.mut hm0 gm, upd_same, gm, ?_⟩
        rw [take_snoc hvl]
        exact Paired.snoc hK ⟨rfl, rfl⟩
      | rws rs =>
        obtain ⟨rl, rvs, e, hrl, hrp⟩ := hu2
        subst e
        have hrs := hr _ (mem_at hvl) rs rfl
        have hrl2 := Paired.len hrp
        have W1 := W.mut (o := .dK (kv' ++ [(Sum.inr nm, .ref rl)])) hm0 gm
        have hm1 : (upd H'' m (.dK (kv' ++ [(Sum.inr nm, .ref rl)]))) m = some (.dK (kv' ++ [(Sum.inr nm, .ref rl)])) := upd_same
        generalize upd H'' m (.dK (kv' ++ [(Sum.inr nm, .ref rl)])) = H1 at nd2 W1 hm1
        have hrl3 : ∀ {G3 H3 : Hp}, Wd G' H1 G3 H3 → SqL K H3 rl rvs := fun W3 => W3.gh.seq (W3.gg.seq (W.gg.seq hrl))
        refine ⟨_, rfl, _, rfl, d, _, rfl, dget_s nd2 eu2, ⟨_, _, _, _, true, rfl, .ty "list", SqL.ty (hrl3 (Wd.refl W1.gh)), kit_ty (by decide +kernel), _, rfl, iteT ?_⟩⟩
        refine ⟨_, rfl, _, rfl, d, _, rfl, dget_s nd2 eu2, rl, rfl, ⟨rvs, hrl3 (Wd.refl W1.gh)⟩, fun D hDn => ?_⟩
        have gDn : G' D = none := Same.free W1.gh hDn
        have hDm : D ≠ m := fun e => by subst e; rw [hm1] at hDn; cases hDn
        refine lc_list (K := K) (a := rl) (xs := rvs) (fun j H2 => ∃ G2 ys, Wd G' H1 G2 H2 ∧ H2 D = some (.lst ys) ∧ G2 D = none ∧ Paired (RD G2) ys (rs.take j))
          ⟨G', [], (Wd.refl W1.gh).keep (Keep.new hDn), upd_same, gDn, .nil⟩ (fun j H2 _ ⟨_, _, W3, _⟩ => hrl3 W3) ?_ ?_
        · rintro j y H2 hj ⟨G2, ys, W2, hD2, gD2, hP2⟩
          obtain ⟨r, hrr, dr, rfl, hdr⟩ := Paired.at hrp hj
          refine ⟨rfl, ?_⟩
          unfold tYes
          dsimp only
          rw [if_pos rfl]
          refine ⟨_, rfl, dr, _, rfl, .inl (W2.gh _ _ (W2.gg _ _ (W.gg _ _ hdr))), fun p hp => ?_⟩
          have gp : G2 p = none := Same.free W2.gh hp
          have W3 := W2.new (o := .dK (rowK r)) hp
          have Dp : D ≠ p := fun e => by subst e; rw [hD2] at hp; cases hp
          have hD3 : (upd H2 p (.dK (rowK r))) D = some (.lst ys) := by rw [upd_ne Dp]; exact hD2
          have gD3 : (upd G2 p (.dK (rowK r))) D = none := by rw [upd_ne Dp]; exact gD2
          have hyl := Paired.len hP2
          rw [List.length_take] at hyl
          refine ⟨ys, hD3, small1000 (by omega), _, _, W3.mut hDn gD3, upd_same, gD3, ?_⟩
          rw [take_snoc hrr]
          exact Paired.snoc (Paired.monoP hP2 fun _ _ z => z.mono (Same.new gp)) ⟨p, rfl, upd_same⟩
        · rintro H2 ⟨G2, ys, W2, hD2, gD2, hP2⟩
          rw [hrl2, List.take_length] at hP2
          have W3 := W2.tell hD2 hDn gD2
          have gm3 : (upd G2 D (.lst ys)) m = none := by rw [upd_ne (Ne.symm hDm)]; exact W2.nw _ _ hm1 gm
          refine ⟨_, rfl, _, rfl, m, _, rfl, dput_s (W3.hh _ _ hm1) (small1000 (by rw [List.length_append, List.length_singleton]; omega)), ?_⟩
          rw [putK_last hnew]
          refine ⟨_, _, upd G2 D (.lst ys), _, rfl, (W1.trans W3).mut hm0 gm3, upd_same, gm3, ?_⟩
          rw [take_snoc hvl]
          refine Paired.snoc (Paired.monoP hK fun _ _ z => z.mono W3.gg) ⟨rfl, D, ys, rfl, SqL.of upd_same, Paired.monoP hP2 fun _ _ z => z.mono (Same.new gD2)⟩
    · rintro σ H' ⟨v2, v3, G', kv', rfl, W, hmm, gm, hK⟩
      rw [hkl, List.take_length] at hK
      refine ⟨W.hh _ _ upd_same, _, rfl, ?_⟩
      have W2 := W.unlock gh hd (W.hh _ _ upd_same)
      have gm2 : (upd G' d (.dK kvs)) m = none := by rw [upd_ne md]; exact gm
      have hm2 : (upd H' d (.dK kvs)) m = some (.dK kv') := by rw [upd_ne md]; exact hmm
      have gd : G' d = none := W.nw d _ upd_same (hide_in (by simp))
      refine q _ _ _ (W2.tell hm2 hm gm2) ⟨m, kv', rfl, upd_same, Paired.monoP hK fun _ _ z => (z.mono (Same.new gd)).mono (Same.new gm2)⟩

abbrev s__law_alone : Stmt := top 28
abbrev n__law_alone : List Str := ["e", "found"]
theorem sc__law_alone : FnScope n__law_alone ["e"] (defScope s__law_alone) := ⟨rfl, rfl, rfl, by decide +kernel, rfl, by decide +kernel, by decide +kernel⟩

theorem dn__law_alone (D : Df K mg "_law_alone" s__law_alone ["e"]) (B : Bl mg) (e_Twofold : mg "Twofold" = some (.ref C_Twofold_))  (e_NoReading : mg "NoReading" = some (.ref C_NoReading_))  (e_BadValue : mg "BadValue" = some (.ref C_BadValue_))  (e_BadForm : mg "BadForm" = some (.ref C_BadForm_))  (e_FormError : mg "FormError" = some (.ref C_FormError_))  : Dn P w K mg base CX0 1 "_law_alone" (sp__law_alone K C_FormError_ C_BadForm_ C_BadValue_ C_NoReading_ C_Twofold_) := by
  refine .of D fun f fd F => F.ok sc__law_alone (fun vs H Q E h => ?_) (fun cdv A outer s H vs Q E hr h => ?_)
  · (obtain ⟨_, _, _, _, rfl, _⟩ := h; rfl)
  · have hu := hu_of hr
    have hu64 : _ := hr.units
    refine ⟨_, (pss_cons (ps_set (i := 1) sc__law_alone.nd rfl (Or.inl rfl) (pe_lst (pa_cons (pe_callB (call_isX' (K := K) rfl) rfl B.isinstance (by decide +kernel) (pa_cons (pv 0) (pa_cons (pe_glob (v := V.ref C_BadForm_) rfl e_BadForm rfl) pa_nil))) (pa_cons (pe_callB (call_isX' (K := K) rfl) rfl B.isinstance (by decide +kernel) (pa_cons (pv 0) (pa_cons (pe_glob (v := V.ref C_BadValue_) rfl e_BadValue rfl) pa_nil))) (pa_cons (pe_callB (call_isX' (K := K) rfl) rfl B.isinstance (by decide +kernel) (pa_cons (pv 0) (pa_cons (pe_glob (v := V.ref C_NoReading_) rfl e_NoReading rfl) pa_nil))) (pa_cons (pe_callB (call_isX' (K := K) rfl) rfl B.isinstance (by decide +kernel) (pa_cons (pv 0) (pa_cons (pe_glob (v := V.ref C_Twofold_) rfl e_Twofold rfl) pa_nil))) pa_nil))))))
      (pss_cons (ps_if (PW.pt (pw_or (pt_not (pt_val (pe_callB (call_isX' (K := K) rfl) rfl B.isinstance (by decide +kernel) (pa_cons (pv 0) (pa_cons (pe_glob (v := V.ref C_FormError_) rfl e_FormError rfl) pa_nil))))) (pw_or (pt_not (pt_val (pe_callB (call_isX' (K := K) rfl) rfl B.isinstance (by decide +kernel) (pa_cons (pv 0) (pa_cons (pe_bltn (v := .ty "ValueError") rfl B.ValueError (by decide +kernel) rfl) pa_nil))))) (pw_or1 (pt_cmpR op_ne (pe_bm PySem.F.plainAttrs_list PySem.F.slot_list_count PySem.F.type_list_count mt_countF (pv 1) (pa_cons pe_bl pa_nil)) pe_int (nomark _)))))) (pss_one (ps_ret (pe_un un_neg pe_int))) pss_nil)
      (pss_one (ps_ret (pe_bm PySem.F.plainAttrs_list PySem.F.slot_list_index PySem.F.type_list_index mt_index (pv 1) (pa_cons pe_bl pa_nil)))))), ?_⟩
    obtain ⟨a, D, d, i, rfl, hE, A1, q⟩ := h
    refine ⟨_, rfl, a, D, d, _, _, _, rfl, .own _, hE.1, hE.2, A1.x, A1.k0, _, rfl, a, D, d, _, _, _, rfl, .own _, hE.1, hE.2, A1.x, A1.k1, _, rfl, a, D, d, _, _, _, rfl, .own _, hE.1, hE.2, A1.x, A1.k2, _, rfl, a, D, d, _, _, _, rfl, .own _, hE.1, hE.2, A1.x, A1.k3, (by show 4 ≤ sizeLine; decide), fun l nl => ?_⟩
    have k := Keep.new (o := .lst [.bl (i == 0), .bl (i == 1), .bl (i == 2), .bl (i == 3)]) nl
    have e1 : (upd H l (.lst [.bl (i == 0), .bl (i == 1), .bl (i == 2), .bl (i == 3)])) l = some (.lst [.bl (i == 0), .bl (i == 1), .bl (i == 2), .bl (i == 3)]) := upd_same
    generalize upd H l (.lst [.bl (i == 0), .bl (i == 1), .bl (i == 2), .bl (i == 3)]) = H1 at k e1 ⊢
    have hE1 := hE.mono k
    refine ⟨_, rfl, a, D, d, _, _, _, rfl, .own _, hE1.1, hE1.2, A1.x, A1.kE, _, rfl, iteF ?_⟩
    refine ⟨_, rfl, a, D, d, _, _, _, rfl, .ty "ValueError", hE1.1, hE1.2, A1.x, A1.kV, _, rfl, iteF ?_⟩
    have i4 := A1.lt
    have hi : i = 0 ∨ i = 1 ∨ i = 2 ∨ i = 3 := by omega
    have cnt : [V.bl (i == 0), .bl (i == 1), .bl (i == 2), .bl (i == 3)].countP (fun z => eqV z (.bl true)) = 1 := by
      rcases hi with rfl | rfl | rfl | rfl <;> decide +kernel
    refine ⟨_, rfl, .inl ⟨rfl, _, SqL.of e1⟩, l, _, _, rfl, rfl, SqL.of e1, rfl, rfl, rfl, _, rfl, ?_⟩
    rw [cnt]
    refine iteEqN ?_
    refine ⟨_, rfl, .inl ⟨rfl, _, SqL.of e1⟩, l, _, _, i, .bl true, rfl, rfl, SqL.of e1, rfl, rfl, ?_, rfl, ?_, q _ k⟩
    · rcases hi with rfl | rfl | rfl | rfl <;> rfl
    · intro m z' hm hz
      rcases hi with rfl | rfl | rfl | rfl
      · omega
      · have : m = 0 := by omega
        subst this; cases hz; rfl
      · have : m = 0 ∨ m = 1 := by omega
        rcases this with rfl | rfl <;> (cases hz; rfl)
      · have : m = 0 ∨ m = 1 ∨ m = 2 := by omega
        rcases this with rfl | rfl | rfl <;> (cases hz; rfl)

abbrev s__law_fault : Stmt := top 29
abbrev n__law_fault : List Str := ["values", "way", "cell", "names", "row", "name"]
theorem sc__law_fault : FnScope n__law_fault ["values", "way", "cell", "names"] (defScope s__law_fault) := ⟨rfl, rfl, rfl, by decide +kernel, rfl, by decide +kernel, by decide +kernel⟩

theorem dn__law_fault (D : Df K mg "_law_fault" s__law_fault ["values", "way", "cell", "names"]) (B : Bl mg) : Dn P w K mg base CX0 1 "_law_fault" (sp__law_fault K) := by
  refine .of D fun f fd F => F.ok sc__law_fault (fun vs H Q E h => ?_) (fun cdv A outer s H vs Q E hr h => ?_)
  · (obtain ⟨_, _, _, _, _, _, _, _, _, rfl, _⟩ := h; rfl)
  · have hu := hu_of hr
    have hu64 : _ := hr.units
    refine ⟨_, (pss_cons (ps_if (pt_cmpR op_eq (pv 1) pe_int (nomark _)) (pss_one (ps_expr (pe_dpop2 (pv 0) pe_str pe_non ⟨by rfl, by rfl, by rfl, by rfl⟩))) pss_nil)
      (pss_cons (ps_if (pt_cmpR op_eq (pv 1) pe_int (nomark _)) (pss_one (ps_dput hu (pv 0) pe_str (pe_ix (ixLs (K := K) rfl) (pe_lst (pa_cons pe_str (pa_cons pe_str (pa_cons pe_str (pa_cons pe_str pa_nil))))) (pe_op op_mod (pv 2) pe_int) (fun _ _ => rfl)) rfl)) pss_nil)
      (pss_cons (ps_if (pt_cmpR op_eq (pv 1) pe_int (nomark _)) (pss_one (ps_expr (pe_dpop2 (pv 0) pe_str pe_non ⟨by rfl, by rfl, by rfl, by rfl⟩))) pss_nil)
      (pss_cons (ps_if (pt_cmpR op_eq (pv 1) pe_int (nomark _)) (pss_one (ps_dput hu (pv 0) pe_str (pe_slice (slL (K := K) rfl) (pe_ix (ixLs (K := K) rfl) (pe_lst (pa_cons (pe_lst pa_nil) (pa_cons (pe_op op_rep (pe_dget2 hu (pv 0) pe_str (pe_lst pa_nil) ⟨by rfl, by rfl, by rfl, by rfl⟩) pe_int) pa_nil))) (pe_op op_mod (pv 2) pe_int) (fun _ _ => rfl)) po_none (po_some pe_int)) rfl)) pss_nil)
      (pss_cons (ps_if (PW.pt (pw_and (pt_cmpR op_gt (pv 1) pe_int (nomark _)) (pw_and (pt_cmpR op_lt (pv 1) pe_int (nomark _)) (pw_and (pt_cmp (pc_din hu pe_str (pv 0))) (pw_and1 (pt_cmpR op_gt (pe_callB (callLen (K := K) rfl) rfl B.len PySem.boot_len (pa_cons (pe_dget hu (pv 0) pe_str (fun _ _ => rfl)) pa_nil)) pe_int (nomark _))))))) (pss_cons (ps_set (i := 4) sc__law_fault.nd rfl (Or.inl rfl) (pe_ix (ixLs (K := K) rfl) (pe_dget hu (pv 0) pe_str (fun _ _ => rfl)) (pe_op op_mod (pv 2) (pe_callB (callLen (K := K) rfl) rfl B.len PySem.boot_len (pa_cons (pe_dget hu (pv 0) pe_str (fun _ _ => rfl)) pa_nil))) (fun _ _ => rfl)))
      (pss_cons (ps_set (i := 5) sc__law_fault.nd rfl (Or.inl rfl) (pe_ix (ixLs (K := K) rfl) (pv 3) (pe_op op_mod (pv 1) pe_int) (fun _ _ => rfl)))
      (pss_one (ps_if (pt_cmpR op_lt (pv 1) pe_int (nomark _)) (pss_one (ps_expr (pe_dpop2 (pv 4) (pv 5) pe_non ⟨by rfl, by rfl, by rfl, by rfl⟩))) (pss_one (ps_dput hu (pv 4) (pv 5) (pe_ix (ixLs (K := K) rfl) (pe_lst (pa_cons pe_str (pa_cons pe_str (pa_cons pe_str pa_nil)))) (pe_op op_mod (pe_op op_fdiv (pv 2) pe_int) pe_int) (fun _ _ => rfl)) rfl)))))) pss_nil)
      (pss_cons (ps_if (PW.pt (pw_and (pt_cmpR op_eq (pv 1) pe_int (nomark _)) (pw_and1 (pt_cmpR op_eq (pe_op op_mod (pv 2) pe_int) pe_int (nomark _))))) (pss_one (ps_expr (pe_dpop2 (pv 0) pe_str pe_non ⟨by rfl, by rfl, by rfl, by rfl⟩))) pss_nil)
      (pss_one (ps_if (PW.pt (pw_and (pt_cmpR op_eq (pv 1) pe_int (nomark _)) (pw_and1 (pt_cmpR op_eq (pe_op op_mod (pv 2) pe_int) pe_int (nomark _))))) (pss_one (ps_dput hu (pv 0) pe_str (pe_ix (ixLs (K := K) rfl) (pe_lst (pa_cons pe_str (pa_cons pe_str (pa_cons pe_str pa_nil)))) (pe_op op_mod (pe_op op_fdiv (pv 2) pe_int) pe_int) (fun _ _ => rfl)) rfl)) pss_nil)))))))), ?_⟩
    obtain ⟨d, nl, w, c, n0, n1, as, S, G, rfl, hw, hc, gh, gd, ga, hN, R, hall, hl1, hl2, q⟩ := h
    obtain ⟨vals, tbl⟩ := S
    obtain ⟨⟨kvs, hd, hk, hP⟩, hrows, hrl, hnd, hdn⟩ := R
    have hkl := Paired.len hP
    have hkF : ∀ (H : Hp) (p : Key × V) (q : Str × Vi), RVi H as p q → p.1 = Sum.inr q.1 := fun _ _ _ z => z.1
    dsimp only at hP hrows hrl hl1 hl2 hall hkl
    have monoI : ∀ {H1 H2 : Hp} {p : Key × V} {q : Str × Vi}, (∀ b xs, H1 b = some (.lst xs) → H2 b = some (.lst xs)) → RVi H1 as p q → RVi H2 as p q := fun {H1 H2 p q} k z => by
      refine ⟨z.1, ?_⟩
      obtain ⟨n, vi⟩ := q
      cases vi with
      | tx s => exact z.2
      | rw is => obtain ⟨l, e, h, b⟩ := z.2; exact ⟨l, e, k _ _ h, b⟩
    have listD : ∀ {o : HO} {u : HO} {H1 : Hp} {x : Addr}, H1 x = some u → (∀ xs, u ≠ .lst xs) → ∀ b xs, H1 b = some (.lst xs) → (upd H1 x o) b = some (.lst xs) := fun {o u H1 x} e nu b xs hb => by
      rw [upd_ne fun z => by rw [z, e] at hb; exact nu _ (Option.some.inj hb)]; exact hb
    have rowsD : ∀ {o : HO} {H1 : Hp}, Paired (fun a r => H1 a = some (.dK (rowK r))) as tbl → Paired (fun a r => (upd H1 d o) a = some (.dK (rowK r))) as tbl := fun {o H1} h => by
      refine Paired.of_at (Paired.len h) fun i a r h1 h2 => ?_
      obtain ⟨r', e', z⟩ := Paired.at h h1
      rw [h2] at e'; cases e'
      rw [upd_ne fun y => hdn (by rw [← y]; exact mem_at h1)]; exact z
    have popd : ∀ k : Str, VRel (upd H d (.dK (dropK kvs (Sum.inr k)))) d as (popM vals k, tbl) := fun k =>
      ⟨⟨_, upd_same, Nat.le_trans (List.length_filter_le _ _) (by omega), Paired.monoP (Paired.popM (hkF H) hP k) fun _ _ z => monoI (listD hd fun _ z => by cases z) z⟩, rowsD hrows, hrl, hnd, hdn⟩
    have putd : ∀ (H1 : Hp) (k : Str) (v : V) (w : Vi), Keep H H1 → (∀ n : Str, RVi H1 as (Sum.inr n, v) (n, w)) → VRel (upd H1 d (.dK (putK kvs (Sum.inr k) v))) d as (putM vals k w, tbl) := fun H1 k v w k1 hv => by
      refine ⟨⟨_, upd_same, ?_, Paired.monoP (Paired.putM (hkF H1) (Paired.monoP hP fun _ _ z => monoI (fun b xs e => k1 _ _ e) z) k hv) fun _ _ z => monoI (listD (k1 _ _ hd) fun _ z => by cases z) z⟩, rowsD (Paired.monoP hrows fun _ _ z => k1 _ _ z), hrl, hnd, hdn⟩
      have : (putK kvs (Sum.inr k : Key) v).length ≤ kvs.length + 1 := by
        unfold putK
        split
        · rw [List.length_map]; omega
        · rw [List.length_append]; exact Nat.le_refl _
      omega
    have gmut : ∀ {H1 : Hp} {o : HO}, Same G H1 → Same G (upd H1 d o) := fun s => Same.mut s gd
    have hcase : w = 0 ∨ w = 1 ∨ w = 2 ∨ w = 3 ∨ w = 4 ∨ w = 5 ∨ w = 6 ∨ w = 7 ∨ w = 8 := by omega
    rcases hcase with rfl | rfl | rfl | rfl | rfl | rfl | rfl | rfl | rfl
    · refine ⟨_, rfl, rfl, _, rfl, iteEq ?_⟩
      refine ⟨_, rfl, d, rfl, .inl ⟨kvs, .inl hd⟩, kvs, Sum.inr "first", hd, rfl, fun v hv => ?_, fun hv => ?_⟩
      · refine ⟨_, rfl, rfl, _, rfl, iteNe (fun z => absurd (V.int.inj z) (by decide)) ?_⟩
        refine ⟨_, rfl, rfl, _, rfl, iteNe (fun z => absurd (V.int.inj z) (by decide)) ?_⟩
        refine ⟨_, rfl, rfl, _, rfl, iteNe (fun z => absurd (V.int.inj z) (by decide)) ?_⟩
        refine ⟨_, rfl, _, _, rfl, rfl, _, rfl, iteDF (by decide) ?_⟩
        refine ⟨_, rfl, rfl, _, rfl, iteNe (fun z => absurd (V.int.inj z) (by decide)) ?_⟩
        refine ⟨_, rfl, rfl, _, rfl, iteNe (fun z => absurd (V.int.inj z) (by decide)) ?_⟩
        exact q _ (gmut gh) (popd "first")
      · refine ⟨_, rfl, rfl, _, rfl, iteNe (fun z => absurd (V.int.inj z) (by decide)) ?_⟩
        refine ⟨_, rfl, rfl, _, rfl, iteNe (fun z => absurd (V.int.inj z) (by decide)) ?_⟩
        refine ⟨_, rfl, rfl, _, rfl, iteNe (fun z => absurd (V.int.inj z) (by decide)) ?_⟩
        refine ⟨_, rfl, _, _, rfl, rfl, _, rfl, iteDF (by decide) ?_⟩
        refine ⟨_, rfl, rfl, _, rfl, iteNe (fun z => absurd (V.int.inj z) (by decide)) ?_⟩
        refine ⟨_, rfl, rfl, _, rfl, iteNe (fun z => absurd (V.int.inj z) (by decide)) ?_⟩
        have e : popM vals "first" = vals := List.filter_eq_self.mpr fun p hp => decide_eq_true fun z => ?_
        · refine q _ gh ?_
          show VRel H d as (popM vals "first", tbl)
          rw [e]
          exact ⟨⟨kvs, hd, hk, hP⟩, hrows, hrl, hnd, hdn⟩
        · have h0 := any_key (hkF H) hP "first"
          rw [valV_any, hv] at h0
          have : (vals.any fun p => decide (p.1 = "first")) = true := List.any_eq_true.mpr ⟨p, hp, decide_eq_true z⟩
          rw [this] at h0; cases h0
    · refine ⟨_, rfl, rfl, _, rfl, iteNe (fun z => absurd (V.int.inj z) (by decide)) ?_⟩
      refine ⟨_, rfl, rfl, _, rfl, iteEq ?_⟩
      refine ⟨(by show 4 ≤ sizeLine; decide), fun p1 n1 => ?_⟩
      refine ⟨_, rfl, _, _, rfl, rfl, (by show (0 : Int) < 4; decide), p1, _, _, _, rfl, rfl, SqL.of upd_same, pick_at t1 c rfl, ?_⟩
      refine ⟨_, rfl, d, _, rfl, dput_s ((Keep.new n1) _ _ hd) (small1000 (by omega)), ?_⟩
      refine ⟨_, rfl, rfl, _, rfl, iteNe (fun z => absurd (V.int.inj z) (by decide)) ?_⟩
      refine ⟨_, rfl, rfl, _, rfl, iteNe (fun z => absurd (V.int.inj z) (by decide)) ?_⟩
      refine ⟨_, rfl, _, _, rfl, rfl, _, rfl, iteDF (by decide) ?_⟩
      refine ⟨_, rfl, rfl, _, rfl, iteNe (fun z => absurd (V.int.inj z) (by decide)) ?_⟩
      refine ⟨_, rfl, rfl, _, rfl, iteNe (fun z => absurd (V.int.inj z) (by decide)) ?_⟩
      exact q _ (gmut (gh.keep (Keep.new n1))) (putd _ "first" _ (.tx (pick t1 c)) (Keep.new n1) fun n => ⟨rfl, rfl⟩)
    · refine ⟨_, rfl, rfl, _, rfl, iteNe (fun z => absurd (V.int.inj z) (by decide)) ?_⟩
      refine ⟨_, rfl, rfl, _, rfl, iteNe (fun z => absurd (V.int.inj z) (by decide)) ?_⟩
      refine ⟨_, rfl, rfl, _, rfl, iteEq ?_⟩
      refine ⟨_, rfl, d, rfl, .inl ⟨kvs, .inl hd⟩, kvs, Sum.inr "all", hd, rfl, fun v hv => ?_, fun hv => ?_⟩
      · refine ⟨_, rfl, rfl, _, rfl, iteNe (fun z => absurd (V.int.inj z) (by decide)) ?_⟩
        refine ⟨_, rfl, _, _, rfl, rfl, _, rfl, iteDF (by decide) ?_⟩
        refine ⟨_, rfl, rfl, _, rfl, iteNe (fun z => absurd (V.int.inj z) (by decide)) ?_⟩
        refine ⟨_, rfl, rfl, _, rfl, iteNe (fun z => absurd (V.int.inj z) (by decide)) ?_⟩
        exact q _ (gmut gh) (popd "all")
      · refine ⟨_, rfl, rfl, _, rfl, iteNe (fun z => absurd (V.int.inj z) (by decide)) ?_⟩
        refine ⟨_, rfl, _, _, rfl, rfl, _, rfl, iteDF (by decide) ?_⟩
        refine ⟨_, rfl, rfl, _, rfl, iteNe (fun z => absurd (V.int.inj z) (by decide)) ?_⟩
        refine ⟨_, rfl, rfl, _, rfl, iteNe (fun z => absurd (V.int.inj z) (by decide)) ?_⟩
        have e : popM vals "all" = vals := List.filter_eq_self.mpr fun p hp => decide_eq_true fun z => ?_
        · refine q _ gh ?_
          show VRel H d as (popM vals "all", tbl)
          rw [e]
          exact ⟨⟨kvs, hd, hk, hP⟩, hrows, hrl, hnd, hdn⟩
        · have h0 := any_key (hkF H) hP "all"
          rw [valV_any, hv] at h0
          have : (vals.any fun p => decide (p.1 = "all")) = true := List.any_eq_true.mpr ⟨p, hp, decide_eq_true z⟩
          rw [this] at h0; cases h0
    · refine ⟨_, rfl, rfl, _, rfl, iteNe (fun z => absurd (V.int.inj z) (by decide)) ?_⟩
      refine ⟨_, rfl, rfl, _, rfl, iteNe (fun z => absurd (V.int.inj z) (by decide)) ?_⟩
      refine ⟨_, rfl, rfl, _, rfl, iteNe (fun z => absurd (V.int.inj z) (by decide)) ?_⟩
      refine ⟨_, rfl, rfl, _, rfl, iteEq ?_⟩
      have la : ∃ (o : Option V) (xs : List V), valV kvs (Sum.inr "all" : Key) = o ∧ (o = none → xs = []) ∧ (∀ v, o = some v → ∃ l, v = .ref l ∧ H l = some (.lst xs)) ∧ xs = (allM vals).map (fun i => V.ref (as.getD i 0)) ∧ (∀ i ∈ allM vals, i < as.length) ∧ (allM vals).length ≤ 4 := by
        unfold allM
        cases e : look "all" vals with
        | none => exact ⟨none, [], (valV_paired (hkF H) hP "all").1 e, fun _ => rfl, fun _ z => (nomatch z), rfl, fun _ z => (nomatch z), Nat.zero_le _⟩
        | some vi =>
          obtain ⟨v, hv, hF⟩ := (valV_paired (hkF H) hP "all").2 _ e
          obtain ⟨is, rfl, h4⟩ := hall _ e
          obtain ⟨l, e2, hl, hb⟩ := hF.2
          dsimp only at e2
          exact ⟨some v, _, hv, fun z => (nomatch z), fun v' z => ⟨l, by rw [← Option.some.inj z]; exact e2, hl⟩, rfl, hb, h4⟩
      obtain ⟨o, xs, ho, hon, hos, ex, hib, h4⟩ := la
      have xl : xs.length ≤ 4 := by rw [ex, List.length_map]; exact h4
      refine ⟨(by show 0 ≤ sizeLine; decide), fun p1 n1 => ?_⟩
      have k1 := Keep.new (o := .lst []) n1
      have h1 : (upd H p1 (.lst [])) p1 = some (.lst []) := upd_same
      generalize upd H p1 (.lst []) = H1 at k1 h1 ⊢
      refine ⟨_, rfl, d, rfl, .inl ⟨kvs, .inl (k1 _ _ hd)⟩, (by show 0 ≤ sizeLine; decide), fun p2 n2 => ?_⟩
      have k2 := k1.trans (Keep.new (o := .lst []) n2)
      have h12 := (upd_ne (o := .lst []) (ne_of_none h1 n2)).trans h1
      have h2 : (upd H1 p2 (.lst [])) p2 = some (.lst []) := upd_same
      generalize upd H1 p2 (.lst []) = H2 at k2 h12 h2 ⊢
      refine ⟨o, dget_s (.inl (k2 _ _ hd)) ho, ?_⟩
      have hlx : ∃ l, o.getD (.ref p2) = .ref l ∧ H2 l = some (.lst xs) := by
        cases o with
        | none => exact ⟨p2, rfl, by rw [hon rfl]; exact h2⟩
        | some v => obtain ⟨l, e, hl⟩ := hos v rfl; exact ⟨l, e, k2 _ _ hl⟩
      obtain ⟨l, el, hl⟩ := hlx
      refine ⟨l, 4, xs, el, rfl, hl, by decide, by decide, ?_, fun p3 n3 => ?_⟩
      · show xs.length * 4 ≤ sizeLine
        rw [sizeLine_eq]; omega
      have k3 := k2.trans (Keep.new (o := .lst (List.replicate (4 : Int).toNat xs).flatten) n3)
      have h13 := (upd_ne (o := .lst (List.replicate (4 : Int).toNat xs).flatten) (ne_of_none h12 n3)).trans h12
      have h3 : (upd H2 p3 (.lst (List.replicate (4 : Int).toNat xs).flatten)) p3 = some (.lst (List.replicate (4 : Int).toNat xs).flatten) := upd_same
      generalize upd H2 p3 (.lst (List.replicate (4 : Int).toNat xs).flatten) = H3 at k3 h13 h3 ⊢
      refine ⟨(by show 2 ≤ sizeLine; decide), fun p4 n4 => ?_⟩
      have k4 := k3.trans (Keep.new (o := .lst [V.ref p1, V.ref p3]) n4)
      have h14 := (upd_ne (o := .lst [V.ref p1, V.ref p3]) (ne_of_none h13 n4)).trans h13
      have h34 := (upd_ne (o := .lst [V.ref p1, V.ref p3]) (ne_of_none h3 n4)).trans h3
      have h4' : (upd H3 p4 (.lst [V.ref p1, V.ref p3])) p4 = some (.lst [V.ref p1, V.ref p3]) := upd_same
      generalize upd H3 p4 (.lst [V.ref p1, V.ref p3]) = H4 at k4 h14 h34 h4' ⊢
      have c0 : 0 ≤ c % 2 := Int.emod_nonneg _ (by decide)
      have c2 : c % 2 < 2 := Int.emod_lt_of_pos _ (by decide)
      have pickL : ∃ pz ys, atI [V.ref p1, V.ref p3] (c % 2) = some (.ref pz) ∧ H4 pz = some (.lst ys) ∧ ys = (if c % 2 = 0 then [] else (List.replicate 4 (allM vals)).flatten).map fun i => V.ref (as.getD i 0) := by
        by_cases e : c % 2 = 0
        · exact ⟨p1, [], by rw [e]; rfl, h14, by rw [if_pos e]; rfl⟩
        · have e1 : c % 2 = 1 := by omega
          refine ⟨p3, _, by rw [e1]; rfl, h34, ?_⟩
          rw [if_neg e, ex]
          show (List.replicate 4 ((allM vals).map _)).flatten = _
          rw [List.map_flatten, List.map_replicate]
      obtain ⟨pz, ys, hat, hpz, ey⟩ := pickL
      refine ⟨_, rfl, _, _, rfl, rfl, (by show (0 : Int) < 2; decide), p4, _, _, _, rfl, rfl, SqL.of h4', hat, ?_⟩
      refine ⟨_, rfl, pz, ys, rfl, SqL.of hpz, fun p5 n5 => ?_⟩
      rw [show cutV ys none (some 4) = ys.take 4 from cut_take (k := 4)]
      have k5 := k4.trans (Keep.new (o := .lst (ys.take 4)) n5)
      have h5 : (upd H4 p5 (.lst (ys.take 4))) p5 = some (.lst (ys.take 4)) := upd_same
      generalize upd H4 p5 (.lst (ys.take 4)) = H5 at k5 h5 ⊢
      refine ⟨_, rfl, d, _, rfl, dput_s (k5 _ _ hd) (small1000 (by omega)), ?_⟩
      refine ⟨_, rfl, _, _, rfl, rfl, _, rfl, iteDF (by decide) ?_⟩
      refine ⟨_, rfl, rfl, _, rfl, iteNe (fun z => absurd (V.int.inj z) (by decide)) ?_⟩
      refine ⟨_, rfl, rfl, _, rfl, iteNe (fun z => absurd (V.int.inj z) (by decide)) ?_⟩
      refine q _ (gmut (gh.keep k5)) (putd _ "all" _ (.rw ((if c % 2 = 0 then [] else (List.replicate 4 (allM vals)).flatten).take 4)) k5 fun n => ⟨rfl, p5, rfl, ?_, fun i hi => ?_⟩)
      · rw [h5, ey, List.map_take]
      · have hi2 := List.mem_of_mem_take hi
        split at hi2
        · cases hi2
        · obtain ⟨l', h1', h2'⟩ := List.mem_flatten.mp hi2
          rw [(List.mem_replicate.mp h1').2] at h2'
          exact hib i h2'
    · refine ⟨_, rfl, rfl, _, rfl, iteNe (fun z => absurd (V.int.inj z) (by decide)) ?_⟩
      refine ⟨_, rfl, rfl, _, rfl, iteNe (fun z => absurd (V.int.inj z) (by decide)) ?_⟩
      refine ⟨_, rfl, rfl, _, rfl, iteNe (fun z => absurd (V.int.inj z) (by decide)) ?_⟩
      refine ⟨_, rfl, rfl, _, rfl, iteNe (fun z => absurd (V.int.inj z) (by decide)) ?_⟩
      refine ⟨_, rfl, _, _, rfl, rfl, _, rfl, iteDT (by decide) ⟨_, rfl, _, _, rfl, rfl, _, rfl, iteDT (by decide) ?_⟩⟩
      have noAll : allM vals = [] → VRel H d as (faultM 4 c n0 n1 (vals, tbl)) := fun e => by
        have : faultM 4 c n0 n1 (vals, tbl) = if allM vals = [] then (vals, tbl) else _ := rfl
        rw [this, if_pos e]
        exact ⟨⟨kvs, hd, hk, hP⟩, hrows, hrl, hnd, hdn⟩
      cases ea : look "all" vals with
      | none =>
        have hv := (valV_paired (hkF H) hP "all").1 ea
        refine ⟨_, rfl, d, _, rfl, (DGet.k (k := Sum.inr "all") hd), _, rfl, iteBF (by rw [hv]; rfl) ?_⟩
        refine ⟨_, rfl, rfl, _, rfl, iteNe (fun z => absurd (V.int.inj z) (by decide)) ?_⟩
        refine ⟨_, rfl, rfl, _, rfl, iteNe (fun z => absurd (V.int.inj z) (by decide)) ?_⟩
        exact q _ gh (noAll (by unfold allM; rw [ea]))
      | some vi =>
        obtain ⟨v, hv, hF⟩ := (valV_paired (hkF H) hP "all").2 _ ea
        obtain ⟨is, rfl, h4⟩ := hall _ ea
        obtain ⟨l, e2, hl, hb⟩ := hF.2
        dsimp only at e2
        subst e2
        have eA : allM vals = is := by unfold allM; rw [ea]
        refine ⟨_, rfl, d, _, rfl, (DGet.k (k := Sum.inr "all") hd), _, rfl, iteBT (by rw [hv]; rfl) ?_⟩
        refine ⟨_, rfl, d, _, rfl, dget_s (.inl hd) hv, l, _, rfl, .inl (SqL.of hl), _, _, rfl, rfl, _, rfl, ?_⟩
        by_cases hn : is = []
        · refine iteDF (by rw [List.length_map, hn, List.length_nil]; omega) ?_
          refine ⟨_, rfl, rfl, _, rfl, iteNe (fun z => absurd (V.int.inj z) (by decide)) ?_⟩
          refine ⟨_, rfl, rfl, _, rfl, iteNe (fun z => absurd (V.int.inj z) (by decide)) ?_⟩
          exact q _ gh (noAll (eA.trans hn))
        have hpos : 0 < is.length := List.length_pos_iff.mpr hn
        refine iteDT (by rw [List.length_map]; omega) ?_
        have m0 : 0 ≤ c % (is.length : Int) := Int.emod_nonneg _ (by omega)
        have m1 : c % (is.length : Int) < (is.length : Int) := Int.emod_lt_of_pos _ (by omega)
        have hj : (c % (is.length : Int)).toNat < is.length := by omega
        have hlm : ((is.map fun i => V.ref (as.getD i 0)).length : Int) = (is.length : Int) := by rw [List.length_map]
        have hat : atI (is.map fun i => V.ref (as.getD i 0)) (c % (is.length : Int)) = some (.ref (as.getD (is.getD (c % (is.length : Int)).toNat 0) 0)) := by
          refine at_gen (j := (c % (is.length : Int)).toNat) (by omega) ?_
          rw [List.getElem?_map, List.getElem?_eq_getElem hj, List.getD_eq_getElem?_getD (l := is), List.getElem?_eq_getElem hj]; rfl
        have hjm : is.getD (c % (is.length : Int)).toNat 0 ∈ is := by
          rw [List.getD_eq_getElem?_getD, List.getElem?_eq_getElem hj]; exact List.getElem_mem hj
        generalize ej : is.getD (c % (is.length : Int)).toNat 0 = j at hat hjm
        have hja := hb j hjm
        have htl := Paired.len hrows
        have ha : as[j]? = some (as.getD j 0) := by rw [List.getD_eq_getElem?_getD, List.getElem?_eq_getElem hja]; rfl
        obtain ⟨r, hr, hra⟩ := Paired.at hrows ha
        have hrg : tbl.getD j [] = r := by rw [List.getD_eq_getElem?_getD, hr]; rfl
        generalize ear : as.getD j 0 = ar at hat ha hra
        have har : ar ∈ as := mem_at ha
        have hrlen := hl2 r (mem_at hr)
        have ard : ar ≠ d := fun z => hdn (z ▸ har)
        refine ⟨_, rfl, d, _, rfl, dget_s (.inl hd) hv, _, rfl, _, rfl, d, _, rfl, dget_s (.inl hd) hv, l, _, rfl, .inl (SqL.of hl), _, _, rfl, rfl, (by show (0 : Int) < _; omega), l, _, _, _, rfl, rfl, SqL.of hl, (by rw [hlm]; exact hat), ?_⟩
        refine ⟨_, rfl, _, rfl, _, _, rfl, rfl, (by show (0 : Int) < 2; decide), nl, _, _, _, rfl, rfl, gh.seq hN, (rfl : atI [V.str n0, V.str n1] _ = some (V.str n0)), ?_⟩
        have setR : ∀ r2 : Row, r2.length ≤ 50 → VRel (upd H ar (.dK (rowK r2))) d as (vals, tbl.set j r2) := fun r2 hr2 => by
          refine ⟨⟨kvs, (upd_ne ard.symm).trans hd, hk, Paired.monoP hP fun _ _ z => monoI (listD hra fun _ z => by cases z) z⟩, ?_, fun x hx => ?_, hnd, hdn⟩
          · refine Paired.of_at (by rw [List.length_set]; exact htl) fun i a x h1 h2 => ?_
            by_cases hij : j = i
            · subst hij
              rw [ha] at h1; cases h1
              rw [List.getElem?_set_self (by omega)] at h2
              cases h2
              exact upd_same
            · rw [List.getElem?_set_ne hij] at h2
              obtain ⟨r', e', z⟩ := Paired.at hrows h1
              rw [h2] at e'; cases e'
              refine (upd_ne fun z => hij ?_).trans ‹_›
              rw [z] at h1
              exact (List.getElem?_inj (by omega) hnd).mp (ha.trans h1.symm)
          · rcases List.mem_or_eq_of_mem_set hx with hx | hx
            · exact hrl x hx
            · rw [hx]; exact hr2
        have eF : faultM 4 c n0 n1 (vals, tbl) = (vals, tbl.set j (popM r n0)) := by
          have : faultM 4 c n0 n1 (vals, tbl) = if allM vals = [] then (vals, tbl) else (vals, tbl.set ((allM vals).getD (c % ((allM vals).length : Int)).toNat 0) (popM (tbl.getD ((allM vals).getD (c % ((allM vals).length : Int)).toNat 0) []) n0)) := rfl
          rw [this, if_neg (by rw [eA]; exact hn), eA, ej, hrg]
        refine ⟨_, rfl, _, _, rfl, rfl, _, rfl, iteDT (by decide) ?_⟩
        refine ⟨_, rfl, ar, rfl, .inl ⟨_, .inl hra⟩, _, rfl, rowK r, Sum.inr n0, hra, rfl, fun v hv => ?_, fun hv => ?_⟩
        · refine ⟨_, rfl, rfl, _, rfl, iteNe (fun z => absurd (V.int.inj z) (by decide)) ?_⟩
          refine ⟨_, rfl, rfl, _, rfl, iteNe (fun z => absurd (V.int.inj z) (by decide)) ?_⟩
          refine q _ (Same.mut gh (ga ar har)) ?_
          rw [eF, rowK_pop]
          exact setR _ (Nat.le_trans (List.length_filter_le _ _) (by omega))
        · refine ⟨_, rfl, rfl, _, rfl, iteNe (fun z => absurd (V.int.inj z) (by decide)) ?_⟩
          refine ⟨_, rfl, rfl, _, rfl, iteNe (fun z => absurd (V.int.inj z) (by decide)) ?_⟩
          refine q _ gh ?_
          have ep : popM r n0 = r := by
            have h0 : look n0 r = none := by
              rw [val_row] at hv
              cases e : look n0 r with
              | none => rfl
              | some s => rw [e] at hv; cases hv
            rw [look_keys] at h0
            exact List.filter_eq_self.mpr fun p hp => decide_eq_true fun z => h0 (List.mem_map.mpr ⟨p, hp, z⟩)
          rw [eF, ep, set_same hr]
          exact ⟨⟨kvs, hd, hk, hP⟩, hrows, hrl, hnd, hdn⟩
    · refine ⟨_, rfl, rfl, _, rfl, iteNe (fun z => absurd (V.int.inj z) (by decide)) ?_⟩
      refine ⟨_, rfl, rfl, _, rfl, iteNe (fun z => absurd (V.int.inj z) (by decide)) ?_⟩
      refine ⟨_, rfl, rfl, _, rfl, iteNe (fun z => absurd (V.int.inj z) (by decide)) ?_⟩
      refine ⟨_, rfl, rfl, _, rfl, iteNe (fun z => absurd (V.int.inj z) (by decide)) ?_⟩
      refine ⟨_, rfl, _, _, rfl, rfl, _, rfl, iteDT (by decide) ⟨_, rfl, _, _, rfl, rfl, _, rfl, iteDT (by decide) ?_⟩⟩
      have noAll : allM vals = [] → VRel H d as (faultM 5 c n0 n1 (vals, tbl)) := fun e => by
        have : faultM 5 c n0 n1 (vals, tbl) = if allM vals = [] then (vals, tbl) else _ := rfl
        rw [this, if_pos e]
        exact ⟨⟨kvs, hd, hk, hP⟩, hrows, hrl, hnd, hdn⟩
      cases ea : look "all" vals with
      | none =>
        have hv := (valV_paired (hkF H) hP "all").1 ea
        refine ⟨_, rfl, d, _, rfl, (DGet.k (k := Sum.inr "all") hd), _, rfl, iteBF (by rw [hv]; rfl) ?_⟩
        refine ⟨_, rfl, rfl, _, rfl, iteNe (fun z => absurd (V.int.inj z) (by decide)) ?_⟩
        refine ⟨_, rfl, rfl, _, rfl, iteNe (fun z => absurd (V.int.inj z) (by decide)) ?_⟩
        exact q _ gh (noAll (by unfold allM; rw [ea]))
      | some vi =>
        obtain ⟨v, hv, hF⟩ := (valV_paired (hkF H) hP "all").2 _ ea
        obtain ⟨is, rfl, h4⟩ := hall _ ea
        obtain ⟨l, e2, hl, hb⟩ := hF.2
        dsimp only at e2
        subst e2
        have eA : allM vals = is := by unfold allM; rw [ea]
        refine ⟨_, rfl, d, _, rfl, (DGet.k (k := Sum.inr "all") hd), _, rfl, iteBT (by rw [hv]; rfl) ?_⟩
        refine ⟨_, rfl, d, _, rfl, dget_s (.inl hd) hv, l, _, rfl, .inl (SqL.of hl), _, _, rfl, rfl, _, rfl, ?_⟩
        by_cases hn : is = []
        · refine iteDF (by rw [List.length_map, hn, List.length_nil]; omega) ?_
          refine ⟨_, rfl, rfl, _, rfl, iteNe (fun z => absurd (V.int.inj z) (by decide)) ?_⟩
          refine ⟨_, rfl, rfl, _, rfl, iteNe (fun z => absurd (V.int.inj z) (by decide)) ?_⟩
          exact q _ gh (noAll (eA.trans hn))
        have hpos : 0 < is.length := List.length_pos_iff.mpr hn
        refine iteDT (by rw [List.length_map]; omega) ?_
        have m0 : 0 ≤ c % (is.length : Int) := Int.emod_nonneg _ (by omega)
        have m1 : c % (is.length : Int) < (is.length : Int) := Int.emod_lt_of_pos _ (by omega)
        have hj : (c % (is.length : Int)).toNat < is.length := by omega
        have hlm : ((is.map fun i => V.ref (as.getD i 0)).length : Int) = (is.length : Int) := by rw [List.length_map]
        have hat : atI (is.map fun i => V.ref (as.getD i 0)) (c % (is.length : Int)) = some (.ref (as.getD (is.getD (c % (is.length : Int)).toNat 0) 0)) := by
          refine at_gen (j := (c % (is.length : Int)).toNat) (by omega) ?_
          rw [List.getElem?_map, List.getElem?_eq_getElem hj, List.getD_eq_getElem?_getD (l := is), List.getElem?_eq_getElem hj]; rfl
        have hjm : is.getD (c % (is.length : Int)).toNat 0 ∈ is := by
          rw [List.getD_eq_getElem?_getD, List.getElem?_eq_getElem hj]; exact List.getElem_mem hj
        generalize ej : is.getD (c % (is.length : Int)).toNat 0 = j at hat hjm
        have hja := hb j hjm
        have htl := Paired.len hrows
        have ha : as[j]? = some (as.getD j 0) := by rw [List.getD_eq_getElem?_getD, List.getElem?_eq_getElem hja]; rfl
        obtain ⟨r, hr, hra⟩ := Paired.at hrows ha
        have hrg : tbl.getD j [] = r := by rw [List.getD_eq_getElem?_getD, hr]; rfl
        generalize ear : as.getD j 0 = ar at hat ha hra
        have har : ar ∈ as := mem_at ha
        have hrlen := hl2 r (mem_at hr)
        have ard : ar ≠ d := fun z => hdn (z ▸ har)
        refine ⟨_, rfl, d, _, rfl, dget_s (.inl hd) hv, _, rfl, _, rfl, d, _, rfl, dget_s (.inl hd) hv, l, _, rfl, .inl (SqL.of hl), _, _, rfl, rfl, (by show (0 : Int) < _; omega), l, _, _, _, rfl, rfl, SqL.of hl, (by rw [hlm]; exact hat), ?_⟩
        refine ⟨_, rfl, _, rfl, _, _, rfl, rfl, (by show (0 : Int) < 2; decide), nl, _, _, _, rfl, rfl, gh.seq hN, (rfl : atI [V.str n0, V.str n1] _ = some (V.str n1)), ?_⟩
        have setR : ∀ r2 : Row, r2.length ≤ 50 → VRel (upd H ar (.dK (rowK r2))) d as (vals, tbl.set j r2) := fun r2 hr2 => by
          refine ⟨⟨kvs, (upd_ne ard.symm).trans hd, hk, Paired.monoP hP fun _ _ z => monoI (listD hra fun _ z => by cases z) z⟩, ?_, fun x hx => ?_, hnd, hdn⟩
          · refine Paired.of_at (by rw [List.length_set]; exact htl) fun i a x h1 h2 => ?_
            by_cases hij : j = i
            · subst hij
              rw [ha] at h1; cases h1
              rw [List.getElem?_set_self (by omega)] at h2
              cases h2
              exact upd_same
            · rw [List.getElem?_set_ne hij] at h2
              obtain ⟨r', e', z⟩ := Paired.at hrows h1
              rw [h2] at e'; cases e'
              refine (upd_ne fun z => hij ?_).trans ‹_›
              rw [z] at h1
              exact (List.getElem?_inj (by omega) hnd).mp (ha.trans h1.symm)
          · rcases List.mem_or_eq_of_mem_set hx with hx | hx
            · exact hrl x hx
            · rw [hx]; exact hr2
        have eF : faultM 5 c n0 n1 (vals, tbl) = (vals, tbl.set j (popM r n1)) := by
          have : faultM 5 c n0 n1 (vals, tbl) = if allM vals = [] then (vals, tbl) else (vals, tbl.set ((allM vals).getD (c % ((allM vals).length : Int)).toNat 0) (popM (tbl.getD ((allM vals).getD (c % ((allM vals).length : Int)).toNat 0) []) n1)) := rfl
          rw [this, if_neg (by rw [eA]; exact hn), eA, ej, hrg]
        refine ⟨_, rfl, _, _, rfl, rfl, _, rfl, iteDT (by decide) ?_⟩
        refine ⟨_, rfl, ar, rfl, .inl ⟨_, .inl hra⟩, _, rfl, rowK r, Sum.inr n1, hra, rfl, fun v hv => ?_, fun hv => ?_⟩
        · refine ⟨_, rfl, rfl, _, rfl, iteNe (fun z => absurd (V.int.inj z) (by decide)) ?_⟩
          refine ⟨_, rfl, rfl, _, rfl, iteNe (fun z => absurd (V.int.inj z) (by decide)) ?_⟩
          refine q _ (Same.mut gh (ga ar har)) ?_
          rw [eF, rowK_pop]
          exact setR _ (Nat.le_trans (List.length_filter_le _ _) (by omega))
        · refine ⟨_, rfl, rfl, _, rfl, iteNe (fun z => absurd (V.int.inj z) (by decide)) ?_⟩
          refine ⟨_, rfl, rfl, _, rfl, iteNe (fun z => absurd (V.int.inj z) (by decide)) ?_⟩
          refine q _ gh ?_
          have ep : popM r n1 = r := by
            have h0 : look n1 r = none := by
              rw [val_row] at hv
              cases e : look n1 r with
              | none => rfl
              | some s => rw [e] at hv; cases hv
            rw [look_keys] at h0
            exact List.filter_eq_self.mpr fun p hp => decide_eq_true fun z => h0 (List.mem_map.mpr ⟨p, hp, z⟩)
          rw [eF, ep, set_same hr]
          exact ⟨⟨kvs, hd, hk, hP⟩, hrows, hrl, hnd, hdn⟩
    · refine ⟨_, rfl, rfl, _, rfl, iteNe (fun z => absurd (V.int.inj z) (by decide)) ?_⟩
      refine ⟨_, rfl, rfl, _, rfl, iteNe (fun z => absurd (V.int.inj z) (by decide)) ?_⟩
      refine ⟨_, rfl, rfl, _, rfl, iteNe (fun z => absurd (V.int.inj z) (by decide)) ?_⟩
      refine ⟨_, rfl, rfl, _, rfl, iteNe (fun z => absurd (V.int.inj z) (by decide)) ?_⟩
      refine ⟨_, rfl, _, _, rfl, rfl, _, rfl, iteDT (by decide) ⟨_, rfl, _, _, rfl, rfl, _, rfl, iteDT (by decide) ?_⟩⟩
      have noAll : allM vals = [] → VRel H d as (faultM 6 c n0 n1 (vals, tbl)) := fun e => by
        have : faultM 6 c n0 n1 (vals, tbl) = if allM vals = [] then (vals, tbl) else _ := rfl
        rw [this, if_pos e]
        exact ⟨⟨kvs, hd, hk, hP⟩, hrows, hrl, hnd, hdn⟩
      cases ea : look "all" vals with
      | none =>
        have hv := (valV_paired (hkF H) hP "all").1 ea
        refine ⟨_, rfl, d, _, rfl, (DGet.k (k := Sum.inr "all") hd), _, rfl, iteBF (by rw [hv]; rfl) ?_⟩
        refine ⟨_, rfl, rfl, _, rfl, iteNe (fun z => absurd (V.int.inj z) (by decide)) ?_⟩
        refine ⟨_, rfl, rfl, _, rfl, iteNe (fun z => absurd (V.int.inj z) (by decide)) ?_⟩
        exact q _ gh (noAll (by unfold allM; rw [ea]))
      | some vi =>
        obtain ⟨v, hv, hF⟩ := (valV_paired (hkF H) hP "all").2 _ ea
        obtain ⟨is, rfl, h4⟩ := hall _ ea
        obtain ⟨l, e2, hl, hb⟩ := hF.2
        dsimp only at e2
        subst e2
        have eA : allM vals = is := by unfold allM; rw [ea]
        refine ⟨_, rfl, d, _, rfl, (DGet.k (k := Sum.inr "all") hd), _, rfl, iteBT (by rw [hv]; rfl) ?_⟩
        refine ⟨_, rfl, d, _, rfl, dget_s (.inl hd) hv, l, _, rfl, .inl (SqL.of hl), _, _, rfl, rfl, _, rfl, ?_⟩
        by_cases hn : is = []
        · refine iteDF (by rw [List.length_map, hn, List.length_nil]; omega) ?_
          refine ⟨_, rfl, rfl, _, rfl, iteNe (fun z => absurd (V.int.inj z) (by decide)) ?_⟩
          refine ⟨_, rfl, rfl, _, rfl, iteNe (fun z => absurd (V.int.inj z) (by decide)) ?_⟩
          exact q _ gh (noAll (eA.trans hn))
        have hpos : 0 < is.length := List.length_pos_iff.mpr hn
        refine iteDT (by rw [List.length_map]; omega) ?_
        have m0 : 0 ≤ c % (is.length : Int) := Int.emod_nonneg _ (by omega)
        have m1 : c % (is.length : Int) < (is.length : Int) := Int.emod_lt_of_pos _ (by omega)
        have hj : (c % (is.length : Int)).toNat < is.length := by omega
        have hlm : ((is.map fun i => V.ref (as.getD i 0)).length : Int) = (is.length : Int) := by rw [List.length_map]
        have hat : atI (is.map fun i => V.ref (as.getD i 0)) (c % (is.length : Int)) = some (.ref (as.getD (is.getD (c % (is.length : Int)).toNat 0) 0)) := by
          refine at_gen (j := (c % (is.length : Int)).toNat) (by omega) ?_
          rw [List.getElem?_map, List.getElem?_eq_getElem hj, List.getD_eq_getElem?_getD (l := is), List.getElem?_eq_getElem hj]; rfl
        have hjm : is.getD (c % (is.length : Int)).toNat 0 ∈ is := by
          rw [List.getD_eq_getElem?_getD, List.getElem?_eq_getElem hj]; exact List.getElem_mem hj
        generalize ej : is.getD (c % (is.length : Int)).toNat 0 = j at hat hjm
        have hja := hb j hjm
        have htl := Paired.len hrows
        have ha : as[j]? = some (as.getD j 0) := by rw [List.getD_eq_getElem?_getD, List.getElem?_eq_getElem hja]; rfl
        obtain ⟨r, hr, hra⟩ := Paired.at hrows ha
        have hrg : tbl.getD j [] = r := by rw [List.getD_eq_getElem?_getD, hr]; rfl
        generalize ear : as.getD j 0 = ar at hat ha hra
        have har : ar ∈ as := mem_at ha
        have hrlen := hl2 r (mem_at hr)
        have ard : ar ≠ d := fun z => hdn (z ▸ har)
        refine ⟨_, rfl, d, _, rfl, dget_s (.inl hd) hv, _, rfl, _, rfl, d, _, rfl, dget_s (.inl hd) hv, l, _, rfl, .inl (SqL.of hl), _, _, rfl, rfl, (by show (0 : Int) < _; omega), l, _, _, _, rfl, rfl, SqL.of hl, (by rw [hlm]; exact hat), ?_⟩
        refine ⟨_, rfl, _, rfl, _, _, rfl, rfl, (by show (0 : Int) < 2; decide), nl, _, _, _, rfl, rfl, gh.seq hN, (rfl : atI [V.str n0, V.str n1] _ = some (V.str n0)), ?_⟩
        have setR : ∀ r2 : Row, r2.length ≤ 50 → VRel (upd H ar (.dK (rowK r2))) d as (vals, tbl.set j r2) := fun r2 hr2 => by
          refine ⟨⟨kvs, (upd_ne ard.symm).trans hd, hk, Paired.monoP hP fun _ _ z => monoI (listD hra fun _ z => by cases z) z⟩, ?_, fun x hx => ?_, hnd, hdn⟩
          · refine Paired.of_at (by rw [List.length_set]; exact htl) fun i a x h1 h2 => ?_
            by_cases hij : j = i
            · subst hij
              rw [ha] at h1; cases h1
              rw [List.getElem?_set_self (by omega)] at h2
              cases h2
              exact upd_same
            · rw [List.getElem?_set_ne hij] at h2
              obtain ⟨r', e', z⟩ := Paired.at hrows h1
              rw [h2] at e'; cases e'
              refine (upd_ne fun z => hij ?_).trans ‹_›
              rw [z] at h1
              exact (List.getElem?_inj (by omega) hnd).mp (ha.trans h1.symm)
          · rcases List.mem_or_eq_of_mem_set hx with hx | hx
            · exact hrl x hx
            · rw [hx]; exact hr2
        have eF : faultM 6 c n0 n1 (vals, tbl) = (vals, tbl.set j (putM r n0 (pick t2 (c / 3)))) := by
          have : faultM 6 c n0 n1 (vals, tbl) = if allM vals = [] then (vals, tbl) else (vals, tbl.set ((allM vals).getD (c % ((allM vals).length : Int)).toNat 0) (putM (tbl.getD ((allM vals).getD (c % ((allM vals).length : Int)).toNat 0) []) n0 (pick t2 (c / 3)))) := rfl
          rw [this, if_neg (by rw [eA]; exact hn), eA, ej, hrg]
        refine ⟨_, rfl, _, _, rfl, rfl, _, rfl, iteDF (by decide) ?_⟩
        refine ⟨(by show 3 ≤ sizeLine; decide), fun p1 n1' => ?_⟩
        have k1 := Keep.new (o := .lst [V.str "0000", V.str "x", V.str "cc0"]) n1'
        refine ⟨_, rfl, _, _, rfl, rfl, ⟨by decide, by decide⟩, _, _, rfl, rfl, (by show (0 : Int) < 3; decide), p1, _, _, _, rfl, rfl, SqL.of upd_same, pick_at t2 (c / 3) rfl, ?_⟩
        refine ⟨_, rfl, _, rfl, ar, _, rfl, dput_s (k1 _ _ hra) (small1000 (by show (rowK r).length ≤ 1000; unfold rowK; rw [List.length_map]; omega)), ?_⟩
        refine ⟨_, rfl, rfl, _, rfl, iteNe (fun z => absurd (V.int.inj z) (by decide)) ?_⟩
        refine ⟨_, rfl, rfl, _, rfl, iteNe (fun z => absurd (V.int.inj z) (by decide)) ?_⟩
        refine q _ (Same.mut (gh.keep k1) (ga ar har)) ?_
        rw [eF, rowK_put]
        have V1 := setR (putM r n0 (pick t2 (c / 3))) (by
          unfold putM
          split
          · rw [List.length_map]; omega
          · rw [List.length_append]; show r.length + 1 ≤ 50; omega)
        have pr : p1 ≠ ar := fun z => by rw [z, hra] at n1'; cases n1'
        have nar : (upd H ar (.dK (rowK (putM r n0 (pick t2 (c / 3)))))) p1 = none := (upd_ne pr).trans n1'
        rw [upd_comm pr]
        obtain ⟨⟨kv2, w1, w2, w3⟩, w4, w5, w6, w7⟩ := V1
        have kk := Keep.new (o := .lst [V.str "0000", V.str "x", V.str "cc0"]) nar
        exact ⟨⟨kv2, kk _ _ w1, w2, Paired.monoP w3 fun _ _ z => monoI (fun b xs e => kk _ _ e) z⟩, Paired.monoP w4 fun _ _ z => kk _ _ z, w5, w6, w7⟩
    · refine ⟨_, rfl, rfl, _, rfl, iteNe (fun z => absurd (V.int.inj z) (by decide)) ?_⟩
      refine ⟨_, rfl, rfl, _, rfl, iteNe (fun z => absurd (V.int.inj z) (by decide)) ?_⟩
      refine ⟨_, rfl, rfl, _, rfl, iteNe (fun z => absurd (V.int.inj z) (by decide)) ?_⟩
      refine ⟨_, rfl, rfl, _, rfl, iteNe (fun z => absurd (V.int.inj z) (by decide)) ?_⟩
      refine ⟨_, rfl, _, _, rfl, rfl, _, rfl, iteDT (by decide) ⟨_, rfl, _, _, rfl, rfl, _, rfl, iteDT (by decide) ?_⟩⟩
      have noAll : allM vals = [] → VRel H d as (faultM 7 c n0 n1 (vals, tbl)) := fun e => by
        have : faultM 7 c n0 n1 (vals, tbl) = if allM vals = [] then (vals, tbl) else _ := rfl
        rw [this, if_pos e]
        exact ⟨⟨kvs, hd, hk, hP⟩, hrows, hrl, hnd, hdn⟩
      cases ea : look "all" vals with
      | none =>
        have hv := (valV_paired (hkF H) hP "all").1 ea
        refine ⟨_, rfl, d, _, rfl, (DGet.k (k := Sum.inr "all") hd), _, rfl, iteBF (by rw [hv]; rfl) ?_⟩
        refine ⟨_, rfl, rfl, _, rfl, iteNe (fun z => absurd (V.int.inj z) (by decide)) ?_⟩
        refine ⟨_, rfl, rfl, _, rfl, iteNe (fun z => absurd (V.int.inj z) (by decide)) ?_⟩
        exact q _ gh (noAll (by unfold allM; rw [ea]))
      | some vi =>
        obtain ⟨v, hv, hF⟩ := (valV_paired (hkF H) hP "all").2 _ ea
        obtain ⟨is, rfl, h4⟩ := hall _ ea
        obtain ⟨l, e2, hl, hb⟩ := hF.2
        dsimp only at e2
        subst e2
        have eA : allM vals = is := by unfold allM; rw [ea]
        refine ⟨_, rfl, d, _, rfl, (DGet.k (k := Sum.inr "all") hd), _, rfl, iteBT (by rw [hv]; rfl) ?_⟩
        refine ⟨_, rfl, d, _, rfl, dget_s (.inl hd) hv, l, _, rfl, .inl (SqL.of hl), _, _, rfl, rfl, _, rfl, ?_⟩
        by_cases hn : is = []
        · refine iteDF (by rw [List.length_map, hn, List.length_nil]; omega) ?_
          refine ⟨_, rfl, rfl, _, rfl, iteNe (fun z => absurd (V.int.inj z) (by decide)) ?_⟩
          refine ⟨_, rfl, rfl, _, rfl, iteNe (fun z => absurd (V.int.inj z) (by decide)) ?_⟩
          exact q _ gh (noAll (eA.trans hn))
        have hpos : 0 < is.length := List.length_pos_iff.mpr hn
        refine iteDT (by rw [List.length_map]; omega) ?_
        have m0 : 0 ≤ c % (is.length : Int) := Int.emod_nonneg _ (by omega)
        have m1 : c % (is.length : Int) < (is.length : Int) := Int.emod_lt_of_pos _ (by omega)
        have hj : (c % (is.length : Int)).toNat < is.length := by omega
        have hlm : ((is.map fun i => V.ref (as.getD i 0)).length : Int) = (is.length : Int) := by rw [List.length_map]
        have hat : atI (is.map fun i => V.ref (as.getD i 0)) (c % (is.length : Int)) = some (.ref (as.getD (is.getD (c % (is.length : Int)).toNat 0) 0)) := by
          refine at_gen (j := (c % (is.length : Int)).toNat) (by omega) ?_
          rw [List.getElem?_map, List.getElem?_eq_getElem hj, List.getD_eq_getElem?_getD (l := is), List.getElem?_eq_getElem hj]; rfl
        have hjm : is.getD (c % (is.length : Int)).toNat 0 ∈ is := by
          rw [List.getD_eq_getElem?_getD, List.getElem?_eq_getElem hj]; exact List.getElem_mem hj
        generalize ej : is.getD (c % (is.length : Int)).toNat 0 = j at hat hjm
        have hja := hb j hjm
        have htl := Paired.len hrows
        have ha : as[j]? = some (as.getD j 0) := by rw [List.getD_eq_getElem?_getD, List.getElem?_eq_getElem hja]; rfl
        obtain ⟨r, hr, hra⟩ := Paired.at hrows ha
        have hrg : tbl.getD j [] = r := by rw [List.getD_eq_getElem?_getD, hr]; rfl
        generalize ear : as.getD j 0 = ar at hat ha hra
        have har : ar ∈ as := mem_at ha
        have hrlen := hl2 r (mem_at hr)
        have ard : ar ≠ d := fun z => hdn (z ▸ har)
        refine ⟨_, rfl, d, _, rfl, dget_s (.inl hd) hv, _, rfl, _, rfl, d, _, rfl, dget_s (.inl hd) hv, l, _, rfl, .inl (SqL.of hl), _, _, rfl, rfl, (by show (0 : Int) < _; omega), l, _, _, _, rfl, rfl, SqL.of hl, (by rw [hlm]; exact hat), ?_⟩
        refine ⟨_, rfl, _, rfl, _, _, rfl, rfl, (by show (0 : Int) < 2; decide), nl, _, _, _, rfl, rfl, gh.seq hN, (rfl : atI [V.str n0, V.str n1] _ = some (V.str n1)), ?_⟩
        have setR : ∀ r2 : Row, r2.length ≤ 50 → VRel (upd H ar (.dK (rowK r2))) d as (vals, tbl.set j r2) := fun r2 hr2 => by
          refine ⟨⟨kvs, (upd_ne ard.symm).trans hd, hk, Paired.monoP hP fun _ _ z => monoI (listD hra fun _ z => by cases z) z⟩, ?_, fun x hx => ?_, hnd, hdn⟩
          · refine Paired.of_at (by rw [List.length_set]; exact htl) fun i a x h1 h2 => ?_
            by_cases hij : j = i
            · subst hij
              rw [ha] at h1; cases h1
              rw [List.getElem?_set_self (by omega)] at h2
              cases h2
              exact upd_same
            · rw [List.getElem?_set_ne hij] at h2
              obtain ⟨r', e', z⟩ := Paired.at hrows h1
              rw [h2] at e'; cases e'
              refine (upd_ne fun z => hij ?_).trans ‹_›
              rw [z] at h1
              exact (List.getElem?_inj (by omega) hnd).mp (ha.trans h1.symm)
          · rcases List.mem_or_eq_of_mem_set hx with hx | hx
            · exact hrl x hx
            · rw [hx]; exact hr2
        have eF : faultM 7 c n0 n1 (vals, tbl) = (vals, tbl.set j (putM r n1 (pick t2 (c / 3)))) := by
          have : faultM 7 c n0 n1 (vals, tbl) = if allM vals = [] then (vals, tbl) else (vals, tbl.set ((allM vals).getD (c % ((allM vals).length : Int)).toNat 0) (putM (tbl.getD ((allM vals).getD (c % ((allM vals).length : Int)).toNat 0) []) n1 (pick t2 (c / 3)))) := rfl
          rw [this, if_neg (by rw [eA]; exact hn), eA, ej, hrg]
        refine ⟨_, rfl, _, _, rfl, rfl, _, rfl, iteDF (by decide) ?_⟩
        refine ⟨(by show 3 ≤ sizeLine; decide), fun p1 n1' => ?_⟩
        have k1 := Keep.new (o := .lst [V.str "0000", V.str "x", V.str "cc0"]) n1'
        refine ⟨_, rfl, _, _, rfl, rfl, ⟨by decide, by decide⟩, _, _, rfl, rfl, (by show (0 : Int) < 3; decide), p1, _, _, _, rfl, rfl, SqL.of upd_same, pick_at t2 (c / 3) rfl, ?_⟩
        refine ⟨_, rfl, _, rfl, ar, _, rfl, dput_s (k1 _ _ hra) (small1000 (by show (rowK r).length ≤ 1000; unfold rowK; rw [List.length_map]; omega)), ?_⟩
        refine ⟨_, rfl, rfl, _, rfl, iteNe (fun z => absurd (V.int.inj z) (by decide)) ?_⟩
        refine ⟨_, rfl, rfl, _, rfl, iteNe (fun z => absurd (V.int.inj z) (by decide)) ?_⟩
        refine q _ (Same.mut (gh.keep k1) (ga ar har)) ?_
        rw [eF, rowK_put]
        have V1 := setR (putM r n1 (pick t2 (c / 3))) (by
          unfold putM
          split
          · rw [List.length_map]; omega
          · rw [List.length_append]; show r.length + 1 ≤ 50; omega)
        have pr : p1 ≠ ar := fun z => by rw [z, hra] at n1'; cases n1'
        have nar : (upd H ar (.dK (rowK (putM r n1 (pick t2 (c / 3)))))) p1 = none := (upd_ne pr).trans n1'
        rw [upd_comm pr]
        obtain ⟨⟨kv2, w1, w2, w3⟩, w4, w5, w6, w7⟩ := V1
        have kk := Keep.new (o := .lst [V.str "0000", V.str "x", V.str "cc0"]) nar
        exact ⟨⟨kv2, kk _ _ w1, w2, Paired.monoP w3 fun _ _ z => monoI (fun b xs e => kk _ _ e) z⟩, Paired.monoP w4 fun _ _ z => kk _ _ z, w5, w6, w7⟩
    · refine ⟨_, rfl, rfl, _, rfl, iteNe (fun z => absurd (V.int.inj z) (by decide)) ?_⟩
      refine ⟨_, rfl, rfl, _, rfl, iteNe (fun z => absurd (V.int.inj z) (by decide)) ?_⟩
      refine ⟨_, rfl, rfl, _, rfl, iteNe (fun z => absurd (V.int.inj z) (by decide)) ?_⟩
      refine ⟨_, rfl, rfl, _, rfl, iteNe (fun z => absurd (V.int.inj z) (by decide)) ?_⟩
      refine ⟨_, rfl, _, _, rfl, rfl, _, rfl, iteDT (by decide) ⟨_, rfl, _, _, rfl, rfl, _, rfl, iteDF (by decide) ?_⟩⟩
      have c0 : 0 ≤ c % 2 := Int.emod_nonneg _ (by decide)
      have c2 : c % 2 < 2 := Int.emod_lt_of_pos _ (by decide)
      have eF : faultM 8 c n0 n1 (vals, tbl) = if c % 2 = 1 then (popM vals "last", tbl) else (putM vals "last" (.tx (pick t3 (c / 2))), tbl) := rfl
      by_cases e1 : c % 2 = 1
      · refine ⟨_, rfl, rfl, _, rfl, iteEq ⟨_, rfl, _, _, rfl, rfl, (by show (0 : Int) < 2; decide), rfl, _, rfl, iteDT (congrArg V.int e1) ?_⟩⟩
        rw [if_pos e1] at eF
        refine ⟨_, rfl, d, rfl, .inl ⟨kvs, .inl hd⟩, kvs, Sum.inr "last", hd, rfl, fun v hv => ?_, fun hv => ?_⟩
        · refine ⟨_, rfl, rfl, _, rfl, iteEq ⟨_, rfl, _, _, rfl, rfl, (by show (0 : Int) < 2; decide), rfl, _, rfl, iteDF (fun z => by have := V.int.inj z; omega) ?_⟩⟩
          exact q _ (gmut gh) (by rw [eF]; exact popd "last")
        · refine ⟨_, rfl, rfl, _, rfl, iteEq ⟨_, rfl, _, _, rfl, rfl, (by show (0 : Int) < 2; decide), rfl, _, rfl, iteDF (fun z => by have := V.int.inj z; omega) ?_⟩⟩
          refine q _ gh ?_
          have h0 := any_key (hkF H) hP "last"
          rw [valV_any, hv] at h0
          have e : popM vals "last" = vals := List.filter_eq_self.mpr fun p hp => decide_eq_true fun z => by
            have : (vals.any fun p => decide (p.1 = "last")) = true := List.any_eq_true.mpr ⟨p, hp, decide_eq_true z⟩
            rw [this] at h0; cases h0
          rw [eF, e]
          exact ⟨⟨kvs, hd, hk, hP⟩, hrows, hrl, hnd, hdn⟩
      · refine ⟨_, rfl, rfl, _, rfl, iteEq ⟨_, rfl, _, _, rfl, rfl, (by show (0 : Int) < 2; decide), rfl, _, rfl, iteDF (fun z => e1 (V.int.inj z)) ?_⟩⟩
        rw [if_neg e1] at eF
        refine ⟨_, rfl, rfl, _, rfl, iteEq ⟨_, rfl, _, _, rfl, rfl, (by show (0 : Int) < 2; decide), rfl, _, rfl, iteDT (congrArg V.int (by omega)) ?_⟩⟩
        refine ⟨(by show 3 ≤ sizeLine; decide), fun p1 n1' => ?_⟩
        refine ⟨_, rfl, _, _, rfl, rfl, ⟨by decide, by decide⟩, _, _, rfl, rfl, (by show (0 : Int) < 3; decide), p1, _, _, _, rfl, rfl, SqL.of upd_same, pick_at t3 (c / 2) rfl, ?_⟩
        refine ⟨_, rfl, d, _, rfl, dput_s ((Keep.new n1') _ _ hd) (small1000 (by omega)), ?_⟩
        exact q _ (gmut (gh.keep (Keep.new n1'))) (by rw [eF]; exact putd _ "last" _ (.tx (pick t3 (c / 2))) (Keep.new n1') fun n => ⟨rfl, rfl⟩)

abbrev s__law_word_bad : Stmt := top 30
abbrev n__law_word_bad : List Str := ["piece", "values", "sign"]
theorem sc__law_word_bad : FnScope n__law_word_bad ["piece", "values"] (defScope s__law_word_bad) := ⟨rfl, rfl, rfl, by decide +kernel, rfl, by decide +kernel, by decide +kernel⟩

theorem dn__law_word_bad (D : Df K mg "_law_word_bad" s__law_word_bad ["piece", "values"]) (B : Bl mg) : Dn P w K mg base CX0 1 "_law_word_bad" (sp__law_word_bad K) := by
  refine .of D fun f fd F => F.ok sc__law_word_bad (fun vs H Q E h => ?_) (fun cdv A outer s H vs Q E hr h => ?_)
  · (obtain ⟨_, _, _, _, _, _, _, _, rfl, _⟩ := h; rfl)
  · have hu := hu_of hr
    have hu64 : _ := hr.units
    refine ⟨_, (pss_cons (ps_if (PW.pt (pw_or (pt_cmp (pc_dnotin hu (pe_ix (ixT (K := K) rfl) (pv 0) pe_int (fun _ _ => rfl)) (pv 1))) (pw_or1 (pt_not (pt_chain op_le op_le (pe_ix (ixT (K := K) rfl) (pv 0) pe_int (fun _ _ => rfl)) (pe_callB call_len_str rfl B.len PySem.boot_len (pa_cons (pe_dget hu (pv 1) (pe_ix (ixT (K := K) rfl) (pv 0) pe_int (fun _ _ => rfl)) (fun _ _ => rfl)) pa_nil)) (pe_ix (ixT (K := K) rfl) (pv 0) pe_int (fun _ _ => rfl))))))) (pss_one (ps_ret pe_bl)) pss_nil)
      (pss_one (ps_ret (pe_cmpR (opInSeq (K := K) rfl) pe_bl (pe_lc (own := [("sign", 2)]) (g := gName 2) rfl sc__law_word_bad.nd (pi_str (pe_dget hu (pv 1) (pe_ix (ixT (K := K) rfl) (pv 0) pe_int (fun _ _ => rfl)) (fun _ _ => rfl))) (blkOk_by (N := n__law_word_bad) (sc := defScope s__law_word_bad) (by decide +kernel)) (fun _ _ _ _ _ => pg_name (i := 2) sc__law_word_bad.nd rfl (Or.inl rfl)) (fun _ _ _ _ _ => pts_nil) (fun _ _ _ _ _ => (pe_cmpR op_in_sign (pv 2) (pe_ix (ixT (K := K) rfl) (pv 0) pe_int (fun _ _ => rfl)) (by with_unfolding_all rfl)))) (by with_unfolding_all rfl))))), ?_⟩
    obtain ⟨a, d, nm, sg, lo, hi, kvs, o, rfl, hT, hD, hv, hl, q⟩ := h
    cases o with
    | none =>
      refine ⟨_, rfl, a, _, _, _, rfl, rfl, hT, rfl, _, rfl, d, _, rfl, dget_s hD hv, _, rfl, iteBT rfl ?_⟩
      exact q H (Keep.refl _)
    | some s0 =>
      have hl := hl s0 rfl
      have eF : fitO sg lo hi (some s0) = (decide (lo ≤ (s0.length : Int)) && (decide ((s0.length : Int) ≤ hi) && s0.cps.toList.all fun c => decide (c ∈ sg.cps.toList))) := rfl
      refine ⟨_, rfl, a, _, _, _, rfl, rfl, hT, rfl, _, rfl, d, _, rfl, dget_s hD hv, _, rfl, iteBF rfl ?_⟩
      refine ⟨_, rfl, a, _, _, _, rfl, rfl, hT, rfl, _, rfl, _, rfl, a, _, _, _, rfl, rfl, hT, rfl, d, _, rfl, dget_s hD hv, s0, rfl, small_line (by omega), _, _, rfl, rfl, _, rfl, ?_⟩
      by_cases f1 : lo ≤ (s0.length : Int)
      case neg =>
        refine iteDF f1 ⟨_, rfl, iteNF rfl ?_⟩
        rw [eF, decide_eq_false f1] at q
        exact q H (Keep.refl _)
      refine iteDT f1 ⟨_, rfl, a, _, _, _, rfl, rfl, hT, rfl, _, _, rfl, rfl, _, rfl, ?_⟩
      by_cases f2 : (s0.length : Int) ≤ hi
      case neg =>
        refine iteNF (decide_eq_false f2) ?_
        rw [eF, decide_eq_true f1, decide_eq_false f2] at q
        exact q H (Keep.refl _)
      refine iteNT (decide_eq_true f2) ?_
      refine ⟨_, rfl, _, rfl, a, _, _, _, rfl, rfl, hT, rfl, d, _, rfl, dget_s hD hv, s0, rfl, fun D hDn => ?_⟩
      refine lc_it walk_str (fun i H' => Keep H H' ∧ H' D = some (.lst ((s0.cps.toList.take i).map fun c => V.bl (decide (c ∈ sg.cps.toList))))) ⟨Keep.new hDn, upd_same⟩ (fun _ _ _ _ => trivial) ?_ ?_
      · rintro i x H2 H3 hi ⟨k, hD2⟩ ⟨rfl, c, hc, rfl⟩
        refine ⟨rfl, ?_⟩
        unfold tYes
        dsimp only
        rw [if_pos rfl]
        have hc2 : s0.cps.toList[i]? = some c := by rw [Array.getElem?_toList]; exact hc
        refine ⟨_, rfl, _, rfl, a, _, _, _, rfl, rfl, k.same.tup hT, rfl, c, sg, rfl, rfl, _, hD2, ?_, k.mut hDn, ?_⟩
        · rw [List.length_map, List.length_take, sizeLine_eq]
          have : s0.cps.toList.length = s0.length := Array.length_toList
          omega
        · rw [upd_same, map_take_succ _ hc2]
      · rintro H2 ⟨k, hD2⟩
        rw [show s0.cps.size = s0.cps.toList.length from Array.length_toList.symm, List.take_length] at hD2
        refine ⟨D, _, rfl, .inl (SqL.of hD2), rfl, ?_, ?_⟩
        · rw [List.all_eq_true]
          intro x hx
          obtain ⟨c, _, rfl⟩ := List.mem_map.mp hx
          rfl
        have e : inV (.bl false) (s0.cps.toList.map fun c => V.bl (decide (c ∈ sg.cps.toList))) = !fitO sg lo hi (some s0) := by
          rw [eF, decide_eq_true f1, decide_eq_true f2, Bool.true_and, Bool.true_and]
          generalize s0.cps.toList = l
          induction l with
          | nil => rfl
          | cons c l ih =>
            rw [List.map_cons, List.all_cons]
            unfold inV at *
            rw [List.any_cons, ih]
            by_cases hc : c ∈ sg.cps.toList
            · rw [decide_eq_true hc]; simp [eqV]
            · rw [decide_eq_false hc]; simp [eqV]
        exact (show Q (.bl (inV (.bl false) _)) H2 from by rw [e]; exact q _ k)

abbrev s__law_first : Stmt := top 31
abbrev n__law_first : List Str := ["pieces", "values", "piece", "row", "one"]
theorem sc__law_first : FnScope n__law_first ["pieces", "values"] (defScope s__law_first) := ⟨rfl, rfl, rfl, by decide +kernel, rfl, by decide +kernel, by decide +kernel⟩

theorem dn__law_first (D : Df K mg "_law_first" s__law_first ["pieces", "values"]) (B : Bl mg) (d__law_word_bad : Dn P w K mg base CX0 1 "_law_word_bad" (sp__law_word_bad K))  : Dn P w K mg base CX0 2 "_law_first" (sp__law_first K) := by
  refine .of D fun f fd F => F.ok sc__law_first (fun vs H Q E h => ?_) (fun cdv A outer s H vs Q E hr h => ?_)
  · (obtain ⟨_, _, _, _, _, rfl, _⟩ := h; rfl)
  · have hu := hu_of hr
    have hu64 : _ := hr.units
    refine ⟨_, (pss_cons (ps_for PassesOwn.never rfl (pi_list (pv 0)) (pg_name (i := 2) sc__law_first.nd rfl (Or.inl rfl))
      (pss_one (ps_if (pt_cmpR op_eq (pe_ix (ixT (K := K) rfl) (pv 2) pe_int (fun _ _ => rfl)) pe_str (nomark _)) (pss_one (ps_if (pt_val (cD d__law_word_bad hr (by decide) rfl (pa_cons (pv 2) (pa_cons (pv 1) pa_nil)))) (pss_one (ps_ret (pe_ix (ixT (K := K) rfl) (pv 2) pe_int (fun _ _ => rfl)))) pss_nil)) (pss_cons (ps_if (PW.pt (pw_or (pt_cmp (pc_dnotin hu (pe_ix (ixT (K := K) rfl) (pv 2) pe_int (fun _ _ => rfl)) (pv 1))) (pw_or1 (pt_not (pt_chain op_le op_le (pe_ix (ixT (K := K) rfl) (pv 2) pe_int (fun _ _ => rfl)) (pe_callB (callLen (K := K) rfl) rfl B.len PySem.boot_len (pa_cons (pe_dget hu (pv 1) (pe_ix (ixT (K := K) rfl) (pv 2) pe_int (fun _ _ => rfl)) (fun _ _ => rfl)) pa_nil)) (pe_ix (ixT (K := K) rfl) (pv 2) pe_int (fun _ _ => rfl))))))) (pss_one (ps_ret (pe_ix (ixT (K := K) rfl) (pv 2) pe_int (fun _ _ => rfl)))) pss_nil)
      (pss_one (ps_for PassesOwn.never rfl (pi_list (pe_dget hu (pv 1) (pe_ix (ixT (K := K) rfl) (pv 2) pe_int (fun _ _ => rfl)) (fun _ _ => rfl))) (pg_name (i := 3) sc__law_first.nd rfl (Or.inl rfl))
      (pss_one (ps_for PassesOwn.never rfl (pi_list (pe_ix (ixT (K := K) rfl) (pv 2) pe_int (fun _ _ => rfl))) (pg_name (i := 4) sc__law_first.nd rfl (Or.inl rfl))
      (pss_one (ps_if (pt_val (cD d__law_word_bad hr (by decide) rfl (pa_cons (pv 4) (pa_cons (pv 3) pa_nil)))) (pss_one (ps_ret (pe_ix (ixT (K := K) rfl) (pv 4) pe_int (fun _ _ => rfl)))) pss_nil))))))))))
      (pss_one (ps_ret pe_non))), ?_⟩
    obtain ⟨l, xs, ps, v, vals, rfl, hL, hP, hV, hok, q⟩ := h
    have hxp := Paired.len hP
    obtain ⟨d, kvs, rfl, hD0, hK⟩ := id hV
    have hD : ∀ {H' : Hp}, Keep H H' → Rd H' d (.dK kvs) := fun k => .inl (k _ _ hD0)
    refine ⟨_, rfl, l, rfl, ⟨xs, hL⟩, for_list (K := K) (a := l) (xs := xs) (fun i σ H' => ∃ v1 v2 v3, Keep H H' ∧ σ = [some (.ref l), some (.ref d), v1, v2, v3] ∧ ∀ p ∈ ps.take i, badP vals p = none) ⟨none, none, none, Keep.refl _, rfl, fun p hp => by simp at hp⟩ (fun i σ H' _ ⟨_, _, _, k, _⟩ => k.same.seq hL) ?_ ?_⟩
    · rintro i x σ H' hxi ⟨v1, v2, v3, k, rfl, hn⟩
      obtain ⟨p, hp, hR⟩ := Paired.at hP hxi
      obtain ⟨hns, htp⟩ := hok _ (mem_at hp)
      cases p with
      | p0 p =>
        obtain ⟨ap, rfl, hT⟩ := hR
        have hT' := k.same.tup hT
        cases p with
        | say t => exact hns.elim
        | ask nm sg lo hi =>
          refine ⟨_, rfl, ap, _, _, _, rfl, rfl, hT', rfl, rfl, _, rfl, iteEq ?_⟩
          have hval : valV kvs (Sum.inr nm : Key) = (txO vals nm).map V.str := by
            unfold txO
            rcases htp with e | ⟨s, e, _⟩
            · rw [(val_RV hK nm).2 e, e]; rfl
            · obtain ⟨v2, e2, r2⟩ := (val_RV hK nm).1 _ e
              have : v2 = .str s := r2
              rw [e2, e, this]; rfl
          have htl : ∀ s, txO vals nm = some s → s.length ≤ 1000 := fun s es => by
            unfold txO at es
            rcases htp with e | ⟨s', e, hs'⟩
            · rw [e] at es; cases es
            · rw [e] at es; cases es; exact hs'
          refine ⟨_, rfl, _, rfl, ap, d, nm, sg, lo, hi, kvs, txO vals nm, rfl, hT', hD k, hval, htl, fun H2 k2 => ?_⟩
          by_cases eb : fitO sg lo hi (txO vals nm) = true
          · rw [eb]
            exact ⟨_, rfl, iteF ⟨_, _, _, k.trans k2, rfl, take_none hn hp (show badP vals (.p0 (.ask nm sg lo hi)) = none from if_pos eb)⟩⟩
          · rw [Bool.not_eq_true] at eb
            rw [eb]
            have e1 : firstF vals ps = some nm := findSome_at hn hp (show badP vals (.p0 (.ask nm sg lo hi)) = some nm from if_neg (by rw [eb]; decide))
            rw [e1] at q
            exact ⟨_, rfl, iteT ⟨_, rfl, ap, _, _, _, rfl, rfl, (k.trans k2).same.tup hT, rfl, q _ (k.trans k2)⟩⟩
      | rows nm ips gap lo hi =>
        obtain ⟨ap, li, ys, rfl, hT, hLi, hPi⟩ := hR
        have hT' := k.same.tup hT
        refine ⟨_, rfl, ap, _, _, _, rfl, rfl, hT', rfl, rfl, _, rfl, iteNe rows_ask ?_⟩
        have eb : badP vals (.rows nm ips gap lo hi) = match look nm vals with
            | some (.rws rs) => if lo ≤ (rs.length : Int) ∧ (rs.length : Int) ≤ hi then rs.findSome? fun r => first0 (fun n => look n r) ips else some nm
            | _ => some nm := rfl
        have out : badP vals (.rows nm ips gap lo hi) = some nm → ∀ H2, Keep H H2 → Q (.str nm) H2 := fun e H2 k2 => by
          have e1 : firstF vals ps = some nm := findSome_at hn hp e
          rw [e1] at q
          exact q _ k2
        rcases htp with e | ⟨rs, e, rl, hrt⟩
        · have hv := (val_RV hK nm).2 e
          refine ⟨_, rfl, ap, _, _, _, rfl, rfl, hT', rfl, _, rfl, d, _, rfl, dget_s (hD k) hv, _, rfl, iteBT rfl ?_⟩
          exact ⟨_, rfl, ap, _, _, _, rfl, rfl, hT', rfl, out (by rw [eb, e]) _ k⟩
        obtain ⟨rv, hv, hRv⟩ := (val_RV hK nm).1 _ e
        obtain ⟨rla, rvs, rfl, hrl, hrp⟩ := hRv
        have hrl2 := Paired.len hrp
        rw [e] at eb
        dsimp only at eb
        refine ⟨_, rfl, ap, _, _, _, rfl, rfl, hT', rfl, _, rfl, d, _, rfl, dget_s (hD k) hv, _, rfl, iteBF rfl ?_⟩
        refine ⟨_, rfl, ap, _, _, _, rfl, rfl, hT', rfl, _, rfl, _, rfl, ap, _, _, _, rfl, rfl, hT', rfl, d, _, rfl, dget_s (hD k) hv, rla, rvs, rfl, .inl (k.same.seq hrl), _, _, rfl, rfl, _, rfl, ?_⟩
        by_cases f1 : lo ≤ (rs.length : Int)
        case neg => exact iteDF (by omega) ⟨_, rfl, iteNF rfl ⟨_, rfl, ap, _, _, _, rfl, rfl, hT', rfl, out (by rw [eb, if_neg fun z => f1 z.1]) _ k⟩⟩
        refine iteDT (by omega) ⟨_, rfl, ap, _, _, _, rfl, rfl, hT', rfl, _, _, rfl, rfl, _, rfl, ?_⟩
        by_cases f2 : (rs.length : Int) ≤ hi
        case neg => exact iteNF (decide_eq_false (by omega)) ⟨_, rfl, ap, _, _, _, rfl, rfl, hT', rfl, out (by rw [eb, if_neg fun z => f2 z.2]) _ k⟩
        rw [if_pos ⟨f1, f2⟩] at eb
        refine iteNT (decide_eq_true (by omega)) ?_
        refine ⟨_, rfl, _, rfl, ap, _, _, _, rfl, rfl, hT', rfl, d, _, rfl, dget_s (hD k) hv, rla, rfl, ⟨rvs, k.same.seq hrl⟩, ?_⟩
        refine for_list (K := K) (a := rla) (xs := rvs) (fun j σ H2 => ∃ v2 v3, Keep H H2 ∧ σ = [some (.ref l), some (.ref d), some (.ref ap), v2, v3] ∧ ∀ r ∈ rs.take j, first0 (fun n => look n r) ips = none)
          ⟨v2, v3, k, rfl, fun r hr => by simp at hr⟩ (fun j σ H2 _ ⟨_, _, k2, _⟩ => k2.same.seq hrl) ?_ ?_
        · rintro j y σ H2 hj ⟨v2, v3, k2, rfl, hnr⟩
          obtain ⟨r, hr, dr, rfl, hdr⟩ := Paired.at hrp hj
          refine ⟨_, rfl, ap, _, _, _, rfl, rfl, k2.same.tup hT, rfl, li, rfl, ⟨ys, k2.same.seq hLi⟩, ?_⟩
          refine for_list (K := K) (a := li) (xs := ys) (fun m σ H3 => ∃ v3, Keep H H3 ∧ σ = [some (.ref l), some (.ref d), some (.ref ap), some (.ref dr), v3] ∧ ∀ p ∈ ips.take m, bad0 (fun n => look n r) p = none)
            ⟨v3, k2, rfl, fun p hp => by simp at hp⟩ (fun m σ H3 _ ⟨_, k3, _⟩ => k3.same.seq hLi) ?_ ?_
          · rintro m z σ H3 hm ⟨v3, k3, rfl, hnp⟩
            obtain ⟨p0, hp0, ip, rfl, hTi⟩ := Paired.at hPi hm
            obtain ⟨n2, sg2, lo2, hi2, rfl⟩ := hns _ (mem_at hp0)
            refine ⟨_, rfl, _, rfl, ip, dr, n2, sg2, lo2, hi2, _, look n2 r, rfl, k3.same.tup hTi, .inl (k3 _ _ hdr), val_row r n2, fun s es => hrt r (mem_at hr) n2 s es, fun H4 k4 => ?_⟩
            by_cases ef : fitO sg2 lo2 hi2 (look n2 r) = true
            · rw [ef]
              exact ⟨_, rfl, iteF ⟨_, k3.trans k4, rfl, take_none hnp hp0 (show bad0 (fun n => look n r) (.ask n2 sg2 lo2 hi2) = none from if_pos ef)⟩⟩
            · rw [Bool.not_eq_true] at ef
              rw [ef]
              have e1 : first0 (fun n => look n r) ips = some n2 := findSome_at hnp hp0 (show bad0 (fun n => look n r) (.ask n2 sg2 lo2 hi2) = some n2 from if_neg (by rw [ef]; decide))
              have e2 : firstF vals ps = some n2 := findSome_at hn hp (by rw [eb]; exact findSome_at hnr hr e1)
              rw [e2] at q
              exact ⟨_, rfl, iteT ⟨_, rfl, ip, _, _, _, rfl, rfl, (k3.trans k4).same.tup hTi, rfl, q _ (k3.trans k4)⟩⟩
          · rintro σ H3 ⟨v3, k3, rfl, hnp⟩
            rw [Paired.len hPi, List.take_length] at hnp
            exact ⟨_, _, k3, rfl, take_none hnr hr (findSome_none hnp)⟩
        · rintro σ H2 ⟨v2, v3, k2, rfl, hnr⟩
          rw [hrl2, List.take_length] at hnr
          exact ⟨_, _, _, k2, rfl, take_none hn hp (by rw [eb]; exact findSome_none hnr)⟩
    · rintro σ H' ⟨v1, v2, v3, k, rfl, hn⟩
      rw [hxp, List.take_length] at hn
      have e1 : firstF vals ps = none := findSome_none hn
      rw [e1] at q
      exact q _ k

abbrev s_ask_text : Stmt := top 13
abbrev n_ask_text : List Str := ["text", "least", "most", "sign"]
theorem sc_ask_text : FnScope n_ask_text ["text", "least", "most"] (defScope s_ask_text) := ⟨rfl, rfl, rfl, by decide +kernel, rfl, by decide +kernel, by decide +kernel⟩

theorem dn_ask_text (D : Df K mg "ask_text" s_ask_text ["text", "least", "most"]) (B : Bl mg) (g_SIGNS : G_SIGNS mg)  : Dn P w K mg base CX0 1 "ask_text" (sp_ask_text K) := by
  refine .of D fun f fd F => F.ok sc_ask_text (fun vs H Q E h => ?_) (fun cdv A outer s H vs Q E hr h => ?_)
  · (obtain ⟨_, _, _, rfl, _⟩ := h; rfl)
  · have hu := hu_of hr
    have hu64 : _ := hr.units
    refine ⟨_, (pss_cons (ps_if (pt_not (pt_chain op_le op_le (pv 1) (pe_callB call_len_str rfl B.len PySem.boot_len (pa_cons (pv 0) pa_nil)) (pv 2))) (pss_one ps_never) pss_nil)
      (pss_one (ps_for PassesOwn.never rfl (pi_str (pv 0)) (pg_name (i := 3) sc_ask_text.nd rfl (Or.inl rfl))
      (pss_one (ps_if (pt_cmpR op_notIn_sign (pv 3) (pe_globS rfl g_SIGNS) (by with_unfolding_all rfl)) (pss_one ps_never) pss_nil))))), ?_⟩
    obtain ⟨t, lo, hi, rfl, h1, h2, h3, hs, q⟩ := h
    refine ⟨_, rfl, _, rfl, t, rfl, small_line (by omega), _, _, rfl, rfl, _, rfl, ?_⟩
    refine iteDT h1 ⟨_, rfl, _, _, rfl, rfl, _, rfl, ?_⟩
    refine iteNT (decide_eq_true h2) ?_
    refine ⟨_, rfl, t, rfl, for_text (x := t) (fun i σ H' => ∃ v, H' = H ∧ σ = [some (.str t), some (.int lo), some (.int hi), v]) ⟨none, rfl, rfl⟩ ?_ ?_⟩
    · rintro i c σ H' hc ⟨v, rfl, rfl⟩
      have hm : c ∈ SIGNSs.cps.toList := hs c (by rw [← Array.getElem?_toList] at hc; exact List.mem_of_getElem? hc)
      refine ⟨_, rfl, c, SIGNSs, rfl, rfl, _, rfl, ?_⟩
      refine iteNT (decide_eq_true hm) ?_
      exact ⟨_, rfl, rfl⟩
    · rintro σ H' ⟨v, rfl, rfl⟩
      exact q

abbrev s_ask_count : Stmt := top 14
abbrev n_ask_count : List Str := ["least", "most", "bound"]
theorem sc_ask_count : FnScope n_ask_count ["least", "most", "bound"] (defScope s_ask_count) := ⟨rfl, rfl, rfl, by decide +kernel, rfl, by decide +kernel, by decide +kernel⟩

theorem dn_ask_count (D : Df K mg "ask_count" s_ask_count ["least", "most", "bound"])  : Dn P w K mg base CX0 1 "ask_count" (sp_ask_count K) := by
  refine .of D fun f fd F => F.ok sc_ask_count (fun vs H Q E h => ?_) (fun cdv A outer s H vs Q E hr h => ?_)
  · (obtain ⟨_, _, _, rfl, _⟩ := h; rfl)
  · have hu := hu_of hr
    have hu64 : _ := hr.units
    refine ⟨_, (pss_one (ps_if (pt_not (pt_chain3 op_le op_le op_le pe_int (pv 0) (pv 1) (pv 2))) (pss_one ps_never) pss_nil)), ?_⟩
    obtain ⟨a, b, c, rfl, h1, h2, h3, q⟩ := h
    refine ⟨_, rfl, _, _, rfl, rfl, _, rfl, iteDT h1 ⟨_, rfl, _, _, rfl, rfl, _, rfl, iteDT h2 ⟨_, rfl, _, _, rfl, rfl, _, rfl, iteNT (decide_eq_true h3) q⟩⟩⟩

abbrev s_look_at_piece : Stmt := top 15
abbrev n_look_at_piece : List Str := ["piece", "names"]
theorem sc_look_at_piece : FnScope n_look_at_piece ["piece", "names"] (defScope s_look_at_piece) := ⟨rfl, rfl, rfl, by decide +kernel, rfl, by decide +kernel, by decide +kernel⟩

theorem dn_look_at_piece (D : Df K mg "look_at_piece" s_look_at_piece ["piece", "names"]) (B : Bl mg) (d_ask_text : Dn P w K mg base CX0 1 "ask_text" (sp_ask_text K))  (d_ask_count : Dn P w K mg base CX0 1 "ask_count" (sp_ask_count K))  : Dn P w K mg base CX0 2 "look_at_piece" (sp_look_at_piece K) := by
  refine .of D fun f fd F => F.ok sc_look_at_piece (fun vs H Q E h => ?_) (fun cdv A outer s H vs Q E hr h => ?_)
  · (obtain ⟨_, _, _, _, _, rfl, _⟩ := h; rfl)
  · have hu := hu_of hr
    have hu64 : _ := hr.units
    refine ⟨_, (pss_one (ps_if (pt_cmpR op_eq (pe_ix (ixT (K := K) rfl) (pv 0) pe_int (fun _ _ => rfl)) pe_str (nomark _)) (pss_one (ps_expr (cD d_ask_text hr (by decide) rfl (pa_cons (pe_ix (ixT (K := K) rfl) (pv 0) pe_int (fun _ _ => rfl)) (pa_cons pe_int (pa_cons pe_int pa_nil)))))) (pss_cons (ps_if (PW.pt (pw_or (pt_cmpR (opInSeq (K := K) rfl) (pe_ix (ixT (K := K) rfl) (pv 0) pe_int (fun _ _ => rfl)) (pv 1) (by with_unfolding_all rfl)) (pw_or1 (pt_cmpR op_eq (pe_ix (ixT (K := K) rfl) (pv 0) pe_int (fun _ _ => rfl)) pe_str (nomark _))))) (pss_one ps_never) pss_nil)
      (pss_cons (ps_expr (pe_bm PySem.F.plainAttrs_list PySem.F.slot_list_append PySem.F.type_list_append mt_append (pv 1) (pa_cons (pe_ix (ixT (K := K) rfl) (pv 0) pe_int (fun _ _ => rfl)) pa_nil)))
      (pss_cons (ps_expr (cD d_ask_text hr (by decide) rfl (pa_cons (pe_ix (ixT (K := K) rfl) (pv 0) pe_int (fun _ _ => rfl)) (pa_cons pe_int (pa_cons pe_int pa_nil)))))
      (pss_cons (ps_if (pt_cmpR op_ne (pe_lenSetS rfl rfl B.len rfl B.set (pe_ix (ixT (K := K) rfl) (pv 0) pe_int (fun _ _ => rfl))) (pe_callB call_len_str rfl B.len PySem.boot_len (pa_cons (pe_ix (ixT (K := K) rfl) (pv 0) pe_int (fun _ _ => rfl)) pa_nil)) (nomark _)) (pss_one ps_never) pss_nil)
      (pss_one (ps_expr (cD d_ask_count hr (by decide) rfl (pa_cons (pe_ix (ixT (K := K) rfl) (pv 0) pe_int (fun _ _ => rfl)) (pa_cons (pe_ix (ixT (K := K) rfl) (pv 0) pe_int (fun _ _ => rfl)) (pa_cons pe_int pa_nil)))))))))))), ?_⟩
    obtain ⟨a, nl, p, ns, G, rfl, gh, gn, hT, hN, hl, ok, hnew, q⟩ := h
    have hT1 := gh.tup hT
    cases p with
    | say t =>
      refine ⟨_, rfl, a, _, _, _, rfl, rfl, hT1, rfl, rfl, _, rfl, iteEq ?_⟩
      refine ⟨_, rfl, a, _, _, _, rfl, rfl, hT1, rfl, t, 1, 12, rfl, ?_, ?_, by decide, ok.2.2, ?_⟩
      · have := ok.1; omega
      · have := ok.2.1; omega
      · exact q H (fun _ _ => rfl) (by rw [show nms0 [P0.say t] = [] from rfl, List.append_nil]; exact hN)
    | ask nm sg lo hi =>
      obtain ⟨n0, s1, s20, sS, snd, l0, lh, h4⟩ := ok
      refine ⟨_, rfl, a, _, _, _, rfl, rfl, hT1, rfl, rfl, _, rfl, iteNe ask_say ?_⟩
      refine ⟨_, rfl, a, _, _, _, rfl, rfl, hT1, rfl, _, rfl, nl, _, rfl, .inl (SqL.of hN), rfl, flat_strs ns, _, rfl, ?_⟩
      refine iteBF ?_ ?_
      · show inV (.str nm) (ns.map V.str) = false
        rw [inV_strs]; exact decide_eq_false (hnew nm rfl)
      refine ⟨_, rfl, a, _, _, _, rfl, rfl, hT1, rfl, rfl, _, rfl, iteNe (str_ne_empty n0) ?_⟩
      refine ⟨_, rfl, .inl ⟨rfl, _, SqL.of hN⟩, _, rfl, a, _, _, _, rfl, rfl, hT1, rfl, nl, _, _, rfl, rfl, hN, small1000 (by rw [List.length_map]; omega), ?_⟩
      have g1 := gh.mut (o := .lst (ns.map V.str ++ [V.str nm])) gn
      have hT2 := g1.tup hT
      refine ⟨_, rfl, a, _, _, _, rfl, rfl, hT2, rfl, sg, 1, 20, rfl, (by omega), (by omega), by decide, sS, ?_⟩
      refine ⟨_, rfl, a, _, _, _, rfl, rfl, hT2, rfl, sg, rfl, (by omega), _, rfl, a, _, _, _, rfl, rfl, hT2, rfl, sg, rfl, small_line (by omega), rfl, _, rfl, ?_⟩
      rw [dd_signs snd]
      refine iteEqN ?_
      refine ⟨_, rfl, a, _, _, _, rfl, rfl, hT2, rfl, _, rfl, a, _, _, _, rfl, rfl, hT2, rfl, lo, hi, 4, rfl, l0, lh, h4, ?_⟩
      refine q _ (fun b hb => upd_ne hb) ?_
      rw [upd_same]
      simp [nms0, nm0]

abbrev s_look_at_rows : Stmt := top 16
abbrev n_look_at_rows : List Str := ["piece", "names", "inner", "one"]
theorem sc_look_at_rows : FnScope n_look_at_rows ["piece", "names"] (defScope s_look_at_rows) := ⟨rfl, rfl, rfl, by decide +kernel, rfl, by decide +kernel, by decide +kernel⟩

theorem dn_look_at_rows (D : Df K mg "look_at_rows" s_look_at_rows ["piece", "names"]) (B : Bl mg) (d_look_at_piece : Dn P w K mg base CX0 2 "look_at_piece" (sp_look_at_piece K))  (d_ask_text : Dn P w K mg base CX0 1 "ask_text" (sp_ask_text K))  (d_ask_count : Dn P w K mg base CX0 1 "ask_count" (sp_ask_count K))  : Dn P w K mg base CX0 3 "look_at_rows" (sp_look_at_rows K) := by
  refine .of D fun f fd F => F.ok sc_look_at_rows (fun vs H Q E h => ?_) (fun cdv A outer s H vs Q E hr h => ?_)
  · (obtain ⟨_, _, _, _, _, _, _, _, _, rfl, _⟩ := h; rfl)
  · have hu := hu_of hr
    have hu64 : _ := hr.units
    refine ⟨_, (pss_cons (ps_if (PW.pt (pw_or (pt_cmpR (opInSeq (K := K) rfl) (pe_ix (ixT (K := K) rfl) (pv 0) pe_int (fun _ _ => rfl)) (pv 1) (by with_unfolding_all rfl)) (pw_or1 (pt_cmpR op_eq (pe_ix (ixT (K := K) rfl) (pv 0) pe_int (fun _ _ => rfl)) pe_str (nomark _))))) (pss_one ps_never) pss_nil)
      (pss_cons (ps_expr (pe_bm PySem.F.plainAttrs_list PySem.F.slot_list_append PySem.F.type_list_append mt_append (pv 1) (pa_cons (pe_ix (ixT (K := K) rfl) (pv 0) pe_int (fun _ _ => rfl)) pa_nil)))
      (pss_cons (ps_if (pt_not (pt_chain op_le op_le pe_int (pe_callB (callLen (K := K) rfl) rfl B.len PySem.boot_len (pa_cons (pe_ix (ixT (K := K) rfl) (pv 0) pe_int (fun _ _ => rfl)) pa_nil)) pe_int)) (pss_one ps_never) pss_nil)
      (pss_cons (ps_set (i := 2) sc_look_at_rows.nd rfl (Or.inl rfl) (pe_lst pa_nil))
      (pss_cons (ps_for PassesOwn.never rfl (pi_list (pe_ix (ixT (K := K) rfl) (pv 0) pe_int (fun _ _ => rfl))) (pg_name (i := 3) sc_look_at_rows.nd rfl (Or.inl rfl))
      (pss_cons (ps_if (pt_cmpR op_eq (pe_ix (ixT (K := K) rfl) (pv 3) pe_int (fun _ _ => rfl)) pe_str (nomark _)) (pss_one ps_never) pss_nil)
      (pss_one (ps_expr (cD d_look_at_piece hr (by decide) rfl (pa_cons (pv 3) (pa_cons (pv 2) pa_nil)))))))
      (pss_cons (ps_expr (cD d_ask_text hr (by decide) rfl (pa_cons (pe_ix (ixT (K := K) rfl) (pv 0) pe_int (fun _ _ => rfl)) (pa_cons pe_int (pa_cons pe_int pa_nil)))))
      (pss_one (ps_expr (cD d_ask_count hr (by decide) rfl (pa_cons (pe_ix (ixT (K := K) rfl) (pv 0) pe_int (fun _ _ => rfl)) (pa_cons (pe_ix (ixT (K := K) rfl) (pv 0) pe_int (fun _ _ => rfl)) (pa_cons pe_int pa_nil)))))))))))), ?_⟩
    obtain ⟨a, nl, nm, ips, gap, lo, hi, ns, G, rfl, gh, gn, hR, hN, hl, ok, hnew, q⟩ := h
    obtain ⟨n0, i1, i3, iok, ind, g5, gS, l0, lh, h3⟩ := ok
    obtain ⟨ap, li, ys, e, hT, hLi, hPi⟩ := hR
    cases e
    have hip := Paired.len hPi
    have hT1 := gh.tup hT
    refine ⟨_, rfl, a, _, _, _, rfl, rfl, hT1, rfl, _, rfl, nl, _, rfl, .inl (SqL.of hN), rfl, flat_strs ns, _, rfl, ?_⟩
    refine iteBF ?_ ?_
    · show inV (.str nm) (ns.map V.str) = false
      rw [inV_strs]; exact decide_eq_false hnew
    refine ⟨_, rfl, a, _, _, _, rfl, rfl, hT1, rfl, rfl, _, rfl, iteNe (str_ne_empty n0) ?_⟩
    refine ⟨_, rfl, .inl ⟨rfl, _, SqL.of hN⟩, _, rfl, a, _, _, _, rfl, rfl, hT1, rfl, nl, _, _, rfl, rfl, hN, small1000 (by rw [List.length_map]; omega), ?_⟩
    have g1 := gh.mut (o := .lst (ns.map V.str ++ [V.str nm])) gn
    generalize hH1 : upd H nl (.lst (ns.map V.str ++ [V.str nm])) = H1 at g1
    have hN1 : H1 nl = some (.lst (ns.map V.str ++ [V.str nm])) := by rw [← hH1]; exact upd_same
    have hT2 := g1.tup hT
    refine ⟨_, rfl, a, _, _, _, rfl, rfl, hT2, rfl, li, ys, rfl, .inl (g1.seq hLi), _, _, rfl, rfl, _, rfl, ?_⟩
    refine iteDT (by omega) ⟨_, _, rfl, rfl, _, rfl, iteNT (decide_eq_true (by omega)) ?_⟩
    refine ⟨(by show 0 ≤ sizeLine; decide), fun il hil => ?_⟩
    have gil : G il = none := Same.free g1 hil
    have nil : nl ≠ il := ne_of_none hN1 hil
    refine ⟨_, rfl, a, _, _, _, rfl, rfl, ((g1.keep (Keep.new hil)).tup hT), rfl, li, rfl, ⟨ys, (g1.keep (Keep.new hil)).seq hLi⟩, ?_⟩
    refine for_list (K := K) (a := li) (xs := ys) (fun i σ H' => ∃ v, Keep H1 H' ∧ σ = [some (.ref a), some (.ref nl), some (.ref il), v] ∧ H' il = some (.lst ((nms0 (ips.take i)).map V.str)))
      ⟨none, Keep.new hil, rfl, upd_same⟩ (fun i σ H' _ ⟨_, k, _, _⟩ => (g1.keep k).seq hLi) ?_ ?_
    · rintro i x σ H' hi ⟨v, k, rfl, hI⟩
      obtain ⟨p, hp, hRp⟩ := Paired.at hPi hi
      obtain ⟨pa, rfl, hTp⟩ := hRp
      have hTp' := (g1.keep k).tup hTp
      have hu : ∃ u, atI p.vs 0 = some u ∧ scal u (V.str "rows") = true ∧ u ≠ V.str "rows" := by
        cases p with
        | say t => exact ⟨_, rfl, rfl, say_rows⟩
        | ask nm sg lo hi => exact ⟨_, rfl, rfl, ask_rows⟩
      obtain ⟨u, hu1, hu2, hu3⟩ := hu
      refine ⟨_, rfl, pa, _, _, _, rfl, rfl, hTp', hu1, hu2, _, rfl, iteNe hu3 ?_⟩
      have hlen : (nms0 (ips.take i)).length ≤ 100 := by
        have h1 := List.length_filterMap_le nm0 (ips.take i)
        rw [List.length_take] at h1
        unfold nms0; omega
      refine ⟨_, rfl, _, rfl, pa, il, p, nms0 (ips.take i), G, rfl, g1.keep k, gil, hTp, hI, hlen, iok p (mem_at hp), (fun n hn => nm0_new ind hp hn), fun H2 h1 h2 => ?_⟩
      refine ⟨some (.ref pa), fun b o e => ?_, rfl, ?_⟩
      · have hb : b ≠ il := ne_of_none e hil
        rw [h1 b hb]; exact k _ _ e
      · rw [h2, nms0_take ips hp]
        cases p <;> rfl
    · rintro σ H' ⟨v, k, rfl, hI⟩
      have hT3 := (g1.keep k).tup hT
      refine ⟨_, rfl, a, _, _, _, rfl, rfl, hT3, rfl, gap, 0, 5, rfl, (by omega), (by omega), by decide, gS, ?_⟩
      refine ⟨_, rfl, a, _, _, _, rfl, rfl, hT3, rfl, _, rfl, a, _, _, _, rfl, rfl, hT3, rfl, lo, hi, 3, rfl, l0, lh, h3, ?_⟩
      refine q _ (fun b o hb e => k _ _ (by rw [← hH1, upd_ne hb]; exact e)) ?_
      rw [k _ _ hN1]
      simp

abbrev s_copied : Stmt := top 18
abbrev n_copied : List Str := ["piece"]
theorem sc_copied : FnScope n_copied ["piece"] (defScope s_copied) := ⟨rfl, rfl, rfl, by decide +kernel, rfl, by decide +kernel, by decide +kernel⟩

theorem dn_copied (D : Df K mg "copied" s_copied ["piece"]) (B : Bl mg) : Dn P w K mg base CX0 1 "copied" (sp_copied K) := by
  refine .of D fun f fd F => F.ok sc_copied (fun vs H Q E h => ?_) (fun cdv A outer s H vs Q E hr h => ?_)
  · (obtain ⟨_, _, _, rfl, _⟩ := h; rfl)
  · have hu := hu_of hr
    have hu64 : _ := hr.units
    refine ⟨_, (pss_cons (ps_if (pt_cmpR op_eq (pe_ix (ixT (K := K) rfl) (pv 0) pe_int (fun _ _ => rfl)) pe_str (nomark _)) (pss_one (ps_ret (pe_tup (pa_cons pe_str (pa_cons (pe_ix (ixT (K := K) rfl) (pv 0) pe_int (fun _ _ => rfl)) (pa_cons (pe_callTy (callList (K := K) rfl) rfl B.list (by decide +kernel) (pa_cons (pe_ix (ixT (K := K) rfl) (pv 0) pe_int (fun _ _ => rfl)) pa_nil)) (pa_cons (pe_ix (ixT (K := K) rfl) (pv 0) pe_int (fun _ _ => rfl)) (pa_cons (pe_ix (ixT (K := K) rfl) (pv 0) pe_int (fun _ _ => rfl)) (pa_cons (pe_ix (ixT (K := K) rfl) (pv 0) pe_int (fun _ _ => rfl)) pa_nil))))))))) pss_nil)
      (pss_one (ps_ret (pv 0)))), ?_⟩
    obtain ⟨v, ys, p, rfl, hR, q⟩ := h
    cases p with
    | p0 p =>
      obtain ⟨a, rfl, hT⟩ := hR
      have hu : ∃ u, atI p.vs 0 = some u ∧ scal u (V.str "rows") = true ∧ u ≠ V.str "rows" := by
        cases p with
        | say t => exact ⟨_, rfl, rfl, say_rows⟩
        | ask nm sg lo hi => exact ⟨_, rfl, rfl, ask_rows⟩
      obtain ⟨u, hu1, hu2, hu3⟩ := hu
      refine ⟨_, rfl, a, _, _, _, rfl, rfl, hT, hu1, hu2, _, rfl, iteNe hu3 ?_⟩
      exact ⟨_, rfl, q _ _ (Keep.refl _) rfl⟩
    | rows nm ips gap lo hi =>
      obtain ⟨a, l, rfl, hT, hL, hP⟩ := hR
      refine ⟨_, rfl, a, _, _, _, rfl, rfl, hT, rfl, rfl, _, rfl, iteEq ?_⟩
      refine ⟨_, rfl, a, _, _, _, rfl, rfl, hT, rfl, _, rfl, a, _, _, _, rfl, rfl, hT, rfl, l, ys, rfl, .inl hL, fun n hn => ?_⟩
      have k1 : Keep H (upd H n (.lst ys)) := Keep.new hn
      have hT1 := k1.same.tup hT
      refine ⟨_, rfl, a, _, _, _, rfl, rfl, hT1, rfl, _, rfl, a, _, _, _, rfl, rfl, hT1, rfl, _, rfl, a, _, _, _, rfl, rfl, hT1, rfl, ?_⟩
      refine ⟨(by show 6 ≤ sizeLine; decide), fun t ht => ?_⟩
      have k2 := k1.trans (Keep.new (o := .tup [.str "rows", .str nm, .ref n, .str gap, .int lo, .int hi]) ht)
      exact q _ _ k2 ⟨t, n, rfl, k1.free ht, upd_same, hn, Keep.new ht _ _ upd_same⟩

abbrev s_Form___init__ : Stmt := inClass (top 17) 0
abbrev n_Form___init__ : List Str := ["self", "pieces", "names", "piece"]
theorem sc_Form___init__ : FnScope n_Form___init__ ["self", "pieces"] (defScope s_Form___init__) := ⟨rfl, rfl, rfl, by decide +kernel, rfl, by decide +kernel, by decide +kernel⟩

theorem fn_Form___init__ (B : Bl mg) (d_look_at_rows : Dn P w K mg base CX0 3 "look_at_rows" (sp_look_at_rows K))  (d_look_at_piece : Dn P w K mg base CX0 2 "look_at_piece" (sp_look_at_piece K))  (d_copied : Dn P w K mg base CX0 1 "copied" (sp_copied K))  {f : Addr} {fd : FuncData} (F : Fun K "__init__" "Form.__init__" s_Form___init__ f fd) : FnOk P w K mg base CX0 4 f fd ["self", "pieces"] (sp_Form___init__ K) := by
  refine F.ok sc_Form___init__ (fun vs H Q E h => ?_) (fun cdv A outer s H vs Q E hr h => ?_)
  · (obtain ⟨_, _, _, _, _, _, _, rfl, _⟩ := h; rfl)
  · have hu := hu_of hr
    have hu64 : _ := hr.units
    refine ⟨_, (pss_cons (ps_if (pt_not (pt_chain op_le op_le pe_int (pe_callB (callLen (K := K) rfl) rfl B.len PySem.boot_len (pa_cons (pv 1) pa_nil)) pe_int)) (pss_one ps_never) pss_nil)
      (pss_cons (ps_set (i := 2) sc_Form___init__.nd rfl (Or.inl rfl) (pe_lst pa_nil))
      (pss_cons (ps_for PassesOwn.never rfl (pi_list (pv 1)) (pg_name (i := 3) sc_Form___init__.nd rfl (Or.inl rfl))
      (pss_one (ps_if (pt_cmpR op_eq (pe_ix (ixT (K := K) rfl) (pv 3) pe_int (fun _ _ => rfl)) pe_str (nomark _)) (pss_one (ps_expr (cD d_look_at_rows hr (by decide) rfl (pa_cons (pv 3) (pa_cons (pv 2) pa_nil))))) (pss_one (ps_expr (cD d_look_at_piece hr (by decide) rfl (pa_cons (pv 3) (pa_cons (pv 2) pa_nil))))))))
      (pss_one (ps_fld (pv 0) (pe_lc (own := [("piece", 3)]) (g := gName 3) rfl sc_Form___init__.nd (pi_list (pv 1)) (blkOk_by (N := n_Form___init__) (sc := defScope s_Form___init__) (by decide +kernel)) (fun _ _ _ _ _ => pg_name (i := 3) sc_Form___init__.nd rfl (Or.inl rfl)) (fun _ _ _ _ _ => pts_nil) (fun _ _ _ _ _ => (cD d_copied hr (by decide) rfl (pa_cons (pv 3) pa_nil)))) rfl))))), ?_⟩
    obtain ⟨x, dx, C, h0, ys, ps, H0, rfl, nx, ndx, nex, rfl, cC, nP, hL, hP, ok, q⟩ := h
    have hxp := Paired.len hP
    have h1 := ok.l1
    have h6 := ok.l6
    have k0 : Keep H0 (upd (upd H0 dx (.own x)) x (.ins C dx [])) := fun b o e => by rw [upd_ne (ne_of_none e nx), upd_ne (ne_of_none e ndx)]; exact e
    have hX : (upd (upd H0 dx (.own x)) x (.ins C dx [])) x = some (.ins C dx []) := upd_same
    generalize upd (upd H0 dx (.own x)) x (.ins C dx []) = H at k0 hX hr
    refine ⟨_, rfl, h0, ys, rfl, .inl (k0.same.seq hL), _, _, rfl, rfl, _, rfl, iteDT (by omega) ⟨_, _, rfl, rfl, _, rfl, iteNT (decide_eq_true (by omega)) ?_⟩⟩
    refine ⟨(by show 0 ≤ sizeLine; decide), fun nl hnl => ?_⟩
    have gn : H0 nl = none := k0.free hnl
    have xnl : x ≠ nl := ne_of_none hX hnl
    have k1 : Keep H0 (upd H nl (.lst [])) := k0.trans (Keep.new hnl)
    refine ⟨_, rfl, h0, rfl, ⟨ys, k1.same.seq hL⟩, for_list (K := K) (a := h0) (xs := ys) (fun i σ H' => ∃ v, Keep H0 H' ∧ σ = [some (.ref x), some (.ref h0), some (.ref nl), v] ∧ H' x = some (.ins C dx []) ∧ H' nl = some (.lst ((nms (ps.take i)).map V.str)))
      ⟨none, k1, rfl, by rw [upd_ne xnl]; exact hX, upd_same⟩ (fun i σ H' _ ⟨_, k, _, _, _⟩ => k.same.seq hL) ?_ ?_⟩
    · rintro i y σ H' hyi ⟨v, k, rfl, hX', hN⟩
      obtain ⟨p, hp, hR⟩ := Paired.at hP hyi
      have okp := ok.ok _ (mem_at hp)
      have hlen : (nms (ps.take i)).length ≤ 100 := by
        have z1 := List.length_filterMap_le nmP (ps.take i)
        rw [List.length_take] at z1
        unfold nms; omega
      cases p with
      | p0 p =>
        obtain ⟨a, rfl, hT⟩ := hR
        have hT' := k.same.tup hT
        have hu : ∃ u, atI p.vs 0 = some u ∧ scal u (V.str "rows") = true ∧ u ≠ V.str "rows" := by
          cases p with
          | say t => exact ⟨_, rfl, rfl, say_rows⟩
          | ask nm sg lo hi => exact ⟨_, rfl, rfl, ask_rows⟩
        obtain ⟨u, hu1, hu2, hu3⟩ := hu
        refine ⟨_, rfl, a, _, _, _, rfl, rfl, hT', hu1, hu2, _, rfl, iteNe hu3 ?_⟩
        refine ⟨_, rfl, _, rfl, a, nl, p, nms (ps.take i), H0, rfl, k.same, gn, hT, hN, hlen, okp, (fun n hn => nm_new ok.nd hp hn), fun H2 z1 z2 => ?_⟩
        refine ⟨some (.ref a), fun b o e => ?_, rfl, ?_, ?_⟩
        · rw [z1 b (ne_of_none e gn)]; exact k _ _ e
        · rw [z1 x xnl]; exact hX'
        · rw [z2, nms_take ps hp]
          cases p <;> rfl
      | rows nm ips gap lo hi =>
        obtain ⟨a, l, items, rfl, hT, hLi, hPi⟩ := hR
        refine ⟨_, rfl, a, _, _, _, rfl, rfl, k.same.tup hT, rfl, rfl, _, rfl, iteEq ?_⟩
        refine ⟨_, rfl, _, rfl, a, nl, nm, ips, gap, lo, hi, nms (ps.take i), H0, rfl, k.same, gn, ⟨a, l, items, rfl, hT, hLi, hPi⟩, hN, hlen, okp, nm_new ok.nd hp rfl, fun H2 z1 z2 => ?_⟩
        refine ⟨some (.ref a), fun b o e => z1 b o (ne_of_none e gn) (k _ _ e), rfl, z1 x _ xnl hX', ?_⟩
        rw [z2, nms_take ps hp]
        rfl
    · rintro σ H' ⟨v, k, rfl, hX', hN⟩
      refine ⟨_, rfl, h0, rfl, ⟨ys, k.same.seq hL⟩, fun D hD => ?_⟩
      have xD : x ≠ D := ne_of_none hX' hD
      have kD := k.trans (Keep.new (o := .lst []) hD)
      have DH0 : H0 D = none := k.free hD
      refine lc_list (K := K) (a := h0) (xs := ys) (fun j H2 => ∃ zs, Keep H0 H2 ∧ H2 x = some (.ins C dx []) ∧ H2 D = some (.lst zs) ∧ zs.length = j ∧ (∀ (i : Nat) y z p, ys[i]? = some y → zs[i]? = some z → ps[i]? = some p → CopyE K H0 (hide H2 [D, x]) y z p))
        ⟨[], kD, by rw [upd_ne xD]; exact hX', upd_same, rfl, fun i y z p _ e _ => by simp at e⟩ (fun j H2 _ ⟨_, k2, _⟩ => k2.same.seq hL) ?_ ?_
      · rintro j y H2 hj ⟨zs, k2, hX2, hD2, hl2, hC⟩
        obtain ⟨p, hp, hR⟩ := Paired.at hP hj
        obtain ⟨items, hRi⟩ := hR.items
        refine ⟨rfl, ?_⟩
        unfold tYes
        dsimp only
        rw [if_pos rfl]
        have hj6 := at_lt hp
        refine ⟨_, rfl, y, items, p, rfl, hRi.mono k2.same, fun z H3 k3 c3 => ?_⟩
        have k23 := k2.trans k3
        refine ⟨zs, k3 _ _ hD2, small1000 (by omega), zs ++ [z], k23.mut DH0, by rw [upd_ne xD]; exact k3 _ _ hX2, upd_same, by simp [hl2], fun i y' z' p' e1 e2 e3 => ?_⟩
        rw [hide_upd (by simp)]
        by_cases hij : i < zs.length
        · rw [List.getElem?_append_left hij] at e2
          obtain ⟨its, r1, r2⟩ := hC i y' z' p' e1 e2 e3
          exact ⟨its, r1, r2.mono (hide_keep k3 _)⟩
        · have hij' : i = zs.length := by
            have := at_lt e2
            simp at this; omega
          subst hij'
          rw [List.getElem?_append_right (Nat.le_refl _)] at e2
          simp at e2
          subst e2
          rw [hl2] at e1 e3
          rw [hj] at e1; cases e1
          rw [hp] at e3; cases e3
          exact ⟨items, hRi, c3.hide k2 (fun a ha => by
            simp at ha
            rcases ha with rfl | rfl
            · rw [hD2]; simp
            · rw [hX2]; simp)⟩
      · rintro H2 ⟨zs, k2, hX2, hD2, hl2, hC⟩
        refine ⟨_, rfl, x, C, dx, [], rfl, hX2, cC, nP, (by show 0 < 1000; decide), ?_⟩
        refine q D zs _ (k2.mut nx) upd_same DH0 (by rw [upd_ne xD.symm]; exact hD2) hl2 fun i y z p e1 e2 e3 => ?_
        obtain ⟨its, r1, r2⟩ := hC i y z p e1 e2 e3
        refine ⟨its, r1, r2.mono ?_⟩
        rw [← hide_upd (H := H2) (l := [D, x]) (a := x) (o := .ins C dx (putF "pieces" (.ref D) [])) (by simp)]
        exact hide_same _ _

abbrev s_BadValue___init__ : Stmt := inClass (top 3) 0
abbrev n_BadValue___init__ : List Str := ["self", "name"]
theorem sc_BadValue___init__ : FnScope n_BadValue___init__ ["self", "name"] (defScope s_BadValue___init__) := ⟨rfl, rfl, rfl, by decide +kernel, rfl, by decide +kernel, by decide +kernel⟩

theorem fn_BadValue___init__ (oV : OexC K C_BadValue_) (nV : PySem.W.findIn K (.ref C_BadValue_) "name" = some none)  {f : Addr} {fd : FuncData} (F : Fun K "__init__" "BadValue.__init__" s_BadValue___init__ f fd) : FnOk P w K mg base CX0 1 f fd ["self", "name"] (sp_BadValue___init__ C_BadValue_) := by
  refine F.ok sc_BadValue___init__ (fun vs H Q E h => ?_) (fun cdv A outer s H vs Q E hr h => ?_)
  · (obtain ⟨_, _, rfl, _⟩ := h; rfl)
  · have hu := hu_of hr
    have hu64 : _ := hr.units
    refine ⟨_, (pss_one (ps_ost (pv 0) (pv 1))), ?_⟩
    obtain ⟨a, v, rfl, ha, q⟩ := h
    exact ⟨_, rfl, _, rfl, a, C_BadValue_, rfl, oV, nV, .inl ⟨ha, fun dx nd ne => q dx nd ne⟩⟩

abbrev s_ask_value : Stmt := top 7
abbrev n_ask_value : List Str := ["piece", "values", "text", "sign"]
theorem sc_ask_value : FnScope n_ask_value ["piece", "values"] (defScope s_ask_value) := ⟨rfl, rfl, rfl, by decide +kernel, rfl, by decide +kernel, by decide +kernel⟩

theorem dn_ask_value_x (D : Df K mg "ask_value" s_ask_value ["piece", "values"]) (B : Bl mg) (r_BadValue : RzI P w K mg base "BadValue" C_BadValue_ 1 (sp_BadValue___init__ C_BadValue_))  : Dn P w K mg base (L2.CX P w) 3 "ask_value" (sp_ask_value_x K C_BadValue_) := by
  refine .of D fun f fd F => F.okX sc_ask_value (fun vs H Q E h => ?_) (fun cdv A outer s H vs Q E hr h => ?_)
  · (obtain ⟨_, _, _, _, _, _, _, _, rfl, _⟩ := h; rfl)
  · have hu := hu_of hr
    have hu64 : _ := hr.units
    refine ⟨_, (pss_cons (ps_if (pt_cmp (pc_dnotin hu (pe_ix (ixT (K := K) rfl) (pv 0) pe_int (fun _ _ => rfl)) (pv 1))) (pss_one (ps_rzI r_BadValue hr (by decide) rfl (takes_of rfl rfl rfl rfl) rfl (pa_cons (pe_ix (ixT (K := K) rfl) (pv 0) pe_int (fun _ _ => rfl)) pa_nil))) pss_nil)
      (pss_cons (ps_set (i := 2) sc_ask_value.nd rfl (Or.inl rfl) (pe_dget hu (pv 1) (pe_ix (ixT (K := K) rfl) (pv 0) pe_int (fun _ _ => rfl)) (fun _ _ => rfl)))
      (pss_cons (ps_if (pt_not (pt_chain op_le op_le (pe_ix (ixT (K := K) rfl) (pv 0) pe_int (fun _ _ => rfl)) (pe_callB call_len_str rfl B.len PySem.boot_len (pa_cons (pv 2) pa_nil)) (pe_ix (ixT (K := K) rfl) (pv 0) pe_int (fun _ _ => rfl)))) (pss_one (ps_rzI r_BadValue hr (by decide) rfl (takes_of rfl rfl rfl rfl) rfl (pa_cons (pe_ix (ixT (K := K) rfl) (pv 0) pe_int (fun _ _ => rfl)) pa_nil))) pss_nil)
      (pss_cons (ps_for (passes_of rfl) rfl (pi_str (pv 2)) (pg_name (i := 3) sc_ask_value.nd rfl (Or.inl rfl))
      (pss_one (ps_if (pt_cmpR op_notIn_sign (pv 3) (pe_ix (ixT (K := K) rfl) (pv 0) pe_int (fun _ _ => rfl)) (by with_unfolding_all rfl)) (pss_one (ps_rzI r_BadValue hr (by decide) rfl (takes_of rfl rfl rfl rfl) rfl (pa_cons (pe_ix (ixT (K := K) rfl) (pv 0) pe_int (fun _ _ => rfl)) pa_nil))) pss_nil)))
      (pss_one (ps_ret (pv 2))))))), ?_⟩
    obtain ⟨a, d, nm, sg, lo, hi, kvs, o, rfl, hT, hD, hv, hl, q, qe⟩ := h
    cases o with
    | none =>
      refine ⟨_, rfl, a, _, _, _, rfl, rfl, hT, rfl, _, rfl, d, _, rfl, dget_s hD hv, _, rfl, iteNF rfl ?_⟩
      refine ⟨_, rfl, a, _, _, _, rfl, rfl, hT, rfl, ?_⟩
      exact rz_mk (qe fun ⟨_, z, _⟩ => nomatch z)
    | some s0 =>
      have hl := hl s0 rfl
      have bad : ¬ fit0 sg lo hi s0 → Rz C_BadValue_ nm H E := fun n => qe fun ⟨s, e, z⟩ => by cases e; exact n z
      refine ⟨_, rfl, a, _, _, _, rfl, rfl, hT, rfl, _, rfl, d, _, rfl, dget_s hD hv, _, rfl, iteNT rfl ?_⟩
      refine ⟨_, rfl, _, rfl, a, _, _, _, rfl, rfl, hT, rfl, d, _, rfl, dget_s hD hv, ?_⟩
      refine ⟨_, rfl, a, _, _, _, rfl, rfl, hT, rfl, _, rfl, s0, rfl, small_line (by omega), _, _, rfl, rfl, _, rfl, ?_⟩
      by_cases f1 : lo ≤ (s0.length : Int)
      case neg => exact iteDF f1 ⟨_, rfl, iteNF rfl ⟨_, rfl, a, _, _, _, rfl, rfl, hT, rfl, rz_mk (bad fun z => f1 z.1)⟩⟩
      refine iteDT f1 ⟨_, rfl, a, _, _, _, rfl, rfl, hT, rfl, _, _, rfl, rfl, _, rfl, ?_⟩
      by_cases f2 : (s0.length : Int) ≤ hi
      case neg => exact iteNF (decide_eq_false f2) ⟨_, rfl, a, _, _, _, rfl, rfl, hT, rfl, rz_mk (bad fun z => f2 z.2.1)⟩
      refine iteNT (decide_eq_true f2) ?_
      refine ⟨_, rfl, s0, rfl, for_text (x := s0) (fun i σ H' => ∃ v, H' = H ∧ σ = [some (.ref a), some (.ref d), some (.str s0), v] ∧ ∀ (j c : Nat), j < i → s0.cps[j]? = some c → c ∈ sg.cps.toList)
        ⟨none, rfl, rfl, fun j c hj => absurd hj (Nat.not_lt_zero _)⟩ ?_ ?_⟩
      · rintro i c σ H' hc ⟨v, rfl, rfl, hp⟩
        refine ⟨_, rfl, _, rfl, a, _, _, _, rfl, rfl, hT, rfl, c, sg, rfl, rfl, _, rfl, ?_⟩
        by_cases hm : c ∈ sg.cps.toList
        · refine iteNT (decide_eq_true hm) ⟨_, rfl, rfl, fun j c' hj hc' => ?_⟩
          by_cases hji : j = i
          · subst hji
            rw [hc] at hc'; cases hc'
            exact hm
          · exact hp j c' (by omega) hc'
        · refine iteNF (decide_eq_false hm) ⟨_, rfl, a, _, _, _, rfl, rfl, hT, rfl, rz_mk (bad fun z => hm (z.2.2 c (by rw [← Array.getElem?_toList] at hc; exact List.mem_of_getElem? hc)))⟩
      · rintro σ H' ⟨v, rfl, rfl, hp⟩
        refine ⟨_, rfl, q s0 rfl ⟨f1, f2, fun c hc => ?_⟩⟩
        obtain ⟨j, hj, e⟩ := List.mem_iff_getElem.mp hc
        rw [Array.length_toList] at hj
        exact hp j c hj (by rw [← Array.getElem?_toList, ← e]; exact List.getElem?_eq_getElem _)

abbrev s_filled : Stmt := top 8
abbrev n_filled : List Str := ["pieces", "values", "text", "piece"]
theorem sc_filled : FnScope n_filled ["pieces", "values"] (defScope s_filled) := ⟨rfl, rfl, rfl, by decide +kernel, rfl, by decide +kernel, by decide +kernel⟩

theorem dn_filled0_x (D : Df K mg "filled" s_filled ["pieces", "values"]) (d_ask_value : Dn P w K mg base (L2.CX P w) 3 "ask_value" (sp_ask_value_x K C_BadValue_))  : Dn P w K mg base (L2.CX P w) 4 "filled" (sp_filled0_x K C_BadValue_) := by
  refine .of D fun f fd F => F.okX sc_filled (fun vs H Q E h => ?_) (fun cdv A outer s H vs Q E hr h => ?_)
  · (obtain ⟨_, _, _, _, _, _, rfl, _⟩ := h; rfl)
  · have hu := hu_of hr
    have hu64 : _ := hr.units
    refine ⟨_, (pss_cons (ps_set (i := 2) sc_filled.nd rfl (Or.inl rfl) pe_str)
      (pss_cons (ps_for (passes_of rfl) rfl (pi_list (pv 0)) (pg_name (i := 3) sc_filled.nd rfl (Or.inl rfl))
      (pss_one (ps_if (pt_cmpR op_eq (pe_ix (ixT (K := K) rfl) (pv 3) pe_int (fun _ _ => rfl)) pe_str (nomark _)) (pss_one (ps_set (i := 2) sc_filled.nd rfl (Or.inl rfl) (pe_op op_add_str (pv 2) (pe_ix (ixT (K := K) rfl) (pv 3) pe_int (fun _ _ => rfl))))) (pss_one (ps_if (pt_cmpR op_eq (pe_ix (ixT (K := K) rfl) (pv 3) pe_int (fun _ _ => rfl)) pe_str (nomark _)) (pss_one (ps_set (i := 2) sc_filled.nd rfl (Or.inl rfl) (pe_op op_add_str (pv 2) (cX d_ask_value (takes_of rfl rfl rfl rfl) hr (by decide) rfl (pa_cons (pv 3) (pa_cons (pv 1) pa_nil)))))) (pss_one ps_never))))))
      (pss_one (ps_ret (pv 2))))), ?_⟩
    obtain ⟨l, xs, ps, d, kvs, f, rfl, hL, hP, hD, hA, hl, hlen, hok, q, qe⟩ := h
    have hxp := Paired.len hP
    refine ⟨_, rfl, l, rfl, ⟨xs, hL⟩, for_list (K := K) (a := l) (xs := xs) (fun i σ H' => ∃ v1, H' = H ∧ σ = [some (.ref l), some (.ref d), some (.str (lineP (getF f) (ps.take i))), v1] ∧ ∀ p ∈ ps.take i, bad0 f p = none) ⟨none, rfl, rfl, fun p hp => by simp at hp⟩ (fun i σ H' _ ⟨_, e, _⟩ => by rw [e]; exact hL) ?_ ?_⟩
    · rintro i x σ H' hxi ⟨v1, rfl, rfl, hn⟩
      obtain ⟨p, hp, ap, rfl, hT⟩ := Paired.at hP hxi
      have hi6 := at_lt hp
      have step : bad0 f p = none → (lineP (getF f) (ps.take i)).length + (fpiece (getF f) p).length ≤ 100 := fun e => by
        have hn2 := take_none hn hp e
        have := lineP_all (ps := ps.take (i + 1)) (f := getF f) (fun p' hp' => hok p' (List.mem_of_mem_take hp')) (fit_of_none hn2)
        rw [lineP_snoc _ hp, str_len_app, List.length_take] at this
        omega
      cases p with
      | say t =>
        have st := step rfl
        refine ⟨_, rfl, ap, _, _, _, rfl, rfl, hT, rfl, rfl, _, rfl, iteEq ?_⟩
        refine ⟨_, rfl, _, rfl, ap, _, _, _, rfl, rfl, hT, rfl, _, _, rfl, rfl, small_line ?_, some (.ref ap), rfl, ?_, take_none hn hp rfl⟩
        · have : (fpiece (getF f) (.say t)).length = t.length := rfl
          omega
        · rw [lineP_snoc _ hp]; rfl
      | ask nm sg lo hi =>
        refine ⟨_, rfl, ap, _, _, _, rfl, rfl, hT, rfl, rfl, _, rfl, iteNe ask_say ?_⟩
        refine ⟨_, rfl, ap, _, _, _, rfl, rfl, hT, rfl, rfl, _, rfl, iteEq ?_⟩
        refine ⟨_, rfl, _, rfl, _, rfl, ap, d, nm, sg, lo, hi, kvs, f nm, rfl, hT, hD, hA _ _ _ _ (mem_at hp), fun s e => hl nm s e, fun s e z => ?_, fun z => ?_⟩
        · have eb := bad0_ok (f := f) e z
          have st := step eb
          have eg : getF f nm = s := by unfold getF; rw [e]; rfl
          refine ⟨_, _, rfl, rfl, small_line ?_, some (.ref ap), rfl, ?_, take_none hn hp eb⟩
          · have : (fpiece (getF f) (.ask nm sg lo hi)).length = (getF f nm).length := rfl
            rw [eg] at this
            omega
          · rw [lineP_snoc _ hp, show fpiece (getF f) (.ask nm sg lo hi) = s from eg]; rfl
        · exact qe nm (findSome_at hn hp (bad0_some z))
    · rintro σ H' ⟨v1, rfl, rfl, hn⟩
      rw [hxp, List.take_length] at hn ⊢
      exact ⟨_, rfl, q (findSome_none hn)⟩

abbrev s_rows_filled : Stmt := top 9
abbrev n_rows_filled : List Str := ["piece", "values", "row"]
theorem sc_rows_filled : FnScope n_rows_filled ["piece", "values"] (defScope s_rows_filled) := ⟨rfl, rfl, rfl, by decide +kernel, rfl, by decide +kernel, by decide +kernel⟩

theorem dn_rows_filled_x (D : Df K mg "rows_filled" s_rows_filled ["piece", "values"]) (B : Bl mg) (r_BadValue : RzI P w K mg base "BadValue" C_BadValue_ 1 (sp_BadValue___init__ C_BadValue_))  (d_filled : Dn P w K mg base (L2.CX P w) 4 "filled" (sp_filled0_x K C_BadValue_))  : Dn P w K mg base (L2.CX P w) 5 "rows_filled" (sp_rows_filled_x K C_BadValue_) := by
  refine .of D fun f fd F => F.okX sc_rows_filled (fun vs H Q E h => ?_) (fun cdv A outer s H vs Q E hr h => ?_)
  · (obtain ⟨_, _, _, _, _, _, _, _, _, rfl, _⟩ := h; rfl)
  · have hu := hu_of hr
    have hu64 : _ := hr.units
    refine ⟨_, (pss_cons (ps_if (PW.pt (pw_or (pt_cmp (pc_dnotin hu (pe_ix (ixT (K := K) rfl) (pv 0) pe_int (fun _ _ => rfl)) (pv 1))) (pw_or1 (pt_not (pt_chain op_le op_le (pe_ix (ixT (K := K) rfl) (pv 0) pe_int (fun _ _ => rfl)) (pe_callB (callLen (K := K) rfl) rfl B.len PySem.boot_len (pa_cons (pe_dget hu (pv 1) (pe_ix (ixT (K := K) rfl) (pv 0) pe_int (fun _ _ => rfl)) (fun _ _ => rfl)) pa_nil)) (pe_ix (ixT (K := K) rfl) (pv 0) pe_int (fun _ _ => rfl))))))) (pss_one (ps_rzI r_BadValue hr (by decide) rfl (takes_of rfl rfl rfl rfl) rfl (pa_cons (pe_ix (ixT (K := K) rfl) (pv 0) pe_int (fun _ _ => rfl)) pa_nil))) pss_nil)
      (pss_one (ps_ret (pe_join (pe_ix (ixT (K := K) rfl) (pv 0) pe_int (fun _ _ => rfl)) (pe_lcX (own := [("row", 2)]) (g := gName 2) rfl rfl (takes_of rfl rfl rfl rfl) rfl sc_rows_filled.nd (pi_list (pe_dget hu (pv 1) (pe_ix (ixT (K := K) rfl) (pv 0) pe_int (fun _ _ => rfl)) (fun _ _ => rfl))) (blkOk_by (N := n_rows_filled) (sc := defScope s_rows_filled) (by decide +kernel)) (fun _ _ _ _ _ _ => pg_name (i := 2) sc_rows_filled.nd rfl (Or.inl rfl)) (fun _ _ _ _ _ _ _ hx => (cXb hx d_filled hr (by decide) rfl (pa_cons (pe_ix (ixT (K := K) rfl) (pv 0) pe_int (fun _ _ => rfl)) (pa_cons (pv 2) pa_nil))))))))), ?_⟩
    obtain ⟨a, d, nm, ips, gap, lo, hi, kvs, vals, rfl, hR, hD0, hK, ty, ok, q, qe⟩ := h
    have hD : Rd H d (.dK kvs) := .inl hD0
    obtain ⟨ap, li, ys, e, hT, hLi, hPi⟩ := hR
    cases e
    obtain ⟨_, i1, i3, iok, ind, g5, _, l0, lh, h3⟩ := ok
    have eb : badP vals (.rows nm ips gap lo hi) = match look nm vals with
        | some (.rws rs) => if lo ≤ (rs.length : Int) ∧ (rs.length : Int) ≤ hi then rs.findSome? fun r => first0 (fun n => look n r) ips else some nm
        | _ => some nm := rfl
    rcases ty with e | ⟨rs, e, rl, hrt⟩
    · have hv := (val_RV hK nm).2 e
      refine ⟨_, rfl, a, _, _, _, rfl, rfl, hT, rfl, _, rfl, d, _, rfl, dget_s hD hv, _, rfl, iteBT rfl ?_⟩
      refine ⟨_, rfl, a, _, _, _, rfl, rfl, hT, rfl, ?_⟩
      exact rz_mk (qe nm (by rw [eb, e]))
    obtain ⟨rv, hv, hRv⟩ := (val_RV hK nm).1 _ e
    obtain ⟨rla, rvs, rfl, hrl, hrp⟩ := hRv
    have hrl2 := Paired.len hrp
    rw [e] at eb
    dsimp only at eb
    refine ⟨_, rfl, a, _, _, _, rfl, rfl, hT, rfl, _, rfl, d, _, rfl, dget_s hD hv, _, rfl, iteBF rfl ?_⟩
    refine ⟨_, rfl, a, _, _, _, rfl, rfl, hT, rfl, _, rfl, _, rfl, a, _, _, _, rfl, rfl, hT, rfl, d, _, rfl, dget_s hD hv, rla, rvs, rfl, .inl hrl, _, _, rfl, rfl, _, rfl, ?_⟩
    by_cases f1 : lo ≤ (rs.length : Int)
    case neg => exact iteDF (by omega) ⟨_, rfl, iteNF rfl ⟨_, rfl, a, _, _, _, rfl, rfl, hT, rfl, rz_mk (qe nm (by rw [eb, if_neg fun z => f1 z.1]))⟩⟩
    refine iteDT (by omega) ⟨_, rfl, a, _, _, _, rfl, rfl, hT, rfl, _, _, rfl, rfl, _, rfl, ?_⟩
    by_cases f2 : (rs.length : Int) ≤ hi
    case neg => exact iteNF (decide_eq_false (by omega)) ⟨_, rfl, a, _, _, _, rfl, rfl, hT, rfl, rz_mk (qe nm (by rw [eb, if_neg fun z => f2 z.2]))⟩
    rw [if_pos ⟨f1, f2⟩] at eb
    refine iteNT (decide_eq_true (by omega)) ?_
    refine ⟨_, rfl, a, _, _, _, rfl, rfl, hT, rfl, ⟨_, rfl⟩, _, rfl, _, rfl, a, _, _, _, rfl, rfl, hT, rfl, d, _, rfl, dget_s hD hv, rla, rfl, ⟨rvs, hrl⟩, fun D hDn => ?_⟩
    refine lc_list (K := K) (a := rla) (xs := rvs) (fun j H2 => Keep H H2 ∧ H2 D = some (.lst (((rs.take j).map fun r => lineP (rowf r) ips).map V.str)) ∧ ∀ r ∈ rs.take j, first0 (fun n => look n r) ips = none)
      ⟨Keep.new hDn, upd_same, fun r hr => by simp at hr⟩ (fun j H2 _ ⟨k2, _⟩ => k2.same.seq hrl) ?_ ?_
    · rintro j y H2 hj ⟨k2, hD2, hn⟩
      obtain ⟨r, hr, dr, rfl, hdr⟩ := Paired.at hrp hj
      refine ⟨rfl, ?_⟩
      unfold tYes
      dsimp only
      rw [if_pos rfl]
      have hjl := at_lt hr
      refine ⟨_, rfl, a, _, _, _, rfl, rfl, k2.same.tup hT, rfl, _, rfl, li, ys, ips, dr, _, fun n => look n r, rfl, k2.same.seq hLi, Paired.monoP hPi fun _ _ z => z.mono k2.same, k2.same.rd (.inl hdr), fun n2 _ _ _ _ => val_row r n2, fun n2 s es => hrt r (mem_at hr) n2 s es, (by omega), iok, fun e0 => ?_, fun n2 e0 => ?_⟩
      · refine ⟨_, hD2, small1000 ?_, k2.mut hDn, ?_, take_none hn hr e0⟩
        · rw [List.length_map, List.length_map, List.length_take]; omega
        · rw [upd_same, map_take_succ _ hr, List.map_append]; rfl
      · exact (qe n2 (by rw [eb]; exact findSome_at hn hr e0)).mono k2
    · rintro H2 ⟨k2, hD2, hn⟩
      rw [hrl2, List.take_length] at hD2 hn
      rw [findSome_none hn] at eb
      obtain ⟨rs', e', f1', f2', f3'⟩ := fits_of_none eb
      rw [e] at e'; cases e'
      obtain ⟨j1, j2⟩ := join_le (gap := gap) (rows_lines_le iok i3 f3') (by rw [List.length_map]; omega) g5
      exact ⟨gap, D, _, rfl, rfl, .inl (SqL.of hD2), Nat.le_trans j1 (by decide), q rs e eb _ k2⟩

theorem dn_filled_x (D : Df K mg "filled" s_filled ["pieces", "values"]) (d_ask_value : Dn P w K mg base (L2.CX P w) 3 "ask_value" (sp_ask_value_x K C_BadValue_))  (d_rows_filled : Dn P w K mg base (L2.CX P w) 5 "rows_filled" (sp_rows_filled_x K C_BadValue_))  : Dn P w K mg base (L2.CX P w) 6 "filled" (sp_filled_x K C_BadValue_) := by
  refine .of D fun f fd F => F.okX sc_filled (fun vs H Q E h => ?_) (fun cdv A outer s H vs Q E hr h => ?_)
  · (obtain ⟨_, _, _, _, _, rfl, _⟩ := h; rfl)
  · have hu := hu_of hr
    have hu64 : _ := hr.units
    refine ⟨_, (pss_cons (ps_set (i := 2) sc_filled.nd rfl (Or.inl rfl) pe_str)
      (pss_cons (ps_for (passes_of rfl) rfl (pi_list (pv 0)) (pg_name (i := 3) sc_filled.nd rfl (Or.inl rfl))
      (pss_one (ps_if (pt_cmpR op_eq (pe_ix (ixT (K := K) rfl) (pv 3) pe_int (fun _ _ => rfl)) pe_str (nomark _)) (pss_one (ps_set (i := 2) sc_filled.nd rfl (Or.inl rfl) (pe_op op_add_str (pv 2) (pe_ix (ixT (K := K) rfl) (pv 3) pe_int (fun _ _ => rfl))))) (pss_one (ps_if (pt_cmpR op_eq (pe_ix (ixT (K := K) rfl) (pv 3) pe_int (fun _ _ => rfl)) pe_str (nomark _)) (pss_one (ps_set (i := 2) sc_filled.nd rfl (Or.inl rfl) (pe_op op_add_str (pv 2) (cX d_ask_value (takes_of rfl rfl rfl rfl) hr (by decide) rfl (pa_cons (pv 3) (pa_cons (pv 1) pa_nil)))))) (pss_one (ps_set (i := 2) sc_filled.nd rfl (Or.inl rfl) (pe_op op_add_str (pv 2) (cX d_rows_filled (takes_of rfl rfl rfl rfl) hr (by decide) rfl (pa_cons (pv 3) (pa_cons (pv 1) pa_nil)))))))))))
      (pss_one (ps_ret (pv 2))))), ?_⟩
    obtain ⟨l, xs, ps, v, vals, rfl, hL, hP, hV, hlen, hok, q, qe⟩ := h
    have hxp := Paired.len hP
    obtain ⟨d, kvs, rfl, hD0, hK⟩ := id hV
    have hD : Rd H d (.dK kvs) := .inl hD0
    refine ⟨_, rfl, l, rfl, ⟨xs, hL⟩, for_list (K := K) (a := l) (xs := xs) (fun i σ H' => ∃ v1, Keep H H' ∧ σ = [some (.ref l), some (.ref d), some (.str (writtenP (fv vals) (gv vals) (ps.take i))), v1] ∧ ∀ p ∈ ps.take i, badP vals p = none) ⟨none, Keep.refl _, rfl, fun p hp => by simp at hp⟩ (fun i σ H' _ ⟨_, k, _⟩ => k.same.seq hL) ?_ ?_⟩
    · rintro i x σ H' hxi ⟨v1, k, rfl, hn⟩
      obtain ⟨p, hp, hR⟩ := Paired.at hP hxi
      have hi6 := at_lt hp
      obtain ⟨hokp, htp⟩ := hok _ (mem_at hp)
      have step : badP vals p = none → (writtenP (fv vals) (gv vals) (ps.take i)).length + (wpiece (fv vals) (gv vals) p).length ≤ 10000 := fun e => by
        have hn2 := take_none hn hp e
        have := writtenP_len (ps := ps.take (i + 1)) (vals := vals) (fun p' hp' => ⟨(hok p' (List.mem_of_mem_take hp')).1, fits_of_none (hn2 p' hp')⟩) (i + 1)
        rw [List.take_take, Nat.min_self, writtenP_snoc _ _ hp, str_len_app] at this
        omega
      cases p with
      | p0 p =>
        obtain ⟨ap, rfl, hT⟩ := hR
        have hT' := k.same.tup hT
        have hwl : (wpiece (fv vals) (gv vals) (.p0 p)).length = (fpiece (fv vals) p).length := rfl
        cases p with
        | say t =>
          have st := step rfl
          refine ⟨_, rfl, ap, _, _, _, rfl, rfl, hT', rfl, rfl, _, rfl, iteEq ?_⟩
          refine ⟨_, rfl, _, rfl, ap, _, _, _, rfl, rfl, hT', rfl, _, _, rfl, rfl, small_line ?_, some (.ref ap), k, ?_, take_none hn hp rfl⟩
          · have : (fpiece (fv vals) (.say t)).length = t.length := rfl
            omega
          · rw [writtenP_snoc _ _ hp]; rfl
        | ask nm sg lo hi =>
          refine ⟨_, rfl, ap, _, _, _, rfl, rfl, hT', rfl, rfl, _, rfl, iteNe ask_say ?_⟩
          refine ⟨_, rfl, ap, _, _, _, rfl, rfl, hT', rfl, rfl, _, rfl, iteEq ?_⟩
          have hval : valV kvs (Sum.inr nm : Key) = (txO vals nm).map V.str := by
            unfold txO
            rcases htp with e | ⟨s, e, _⟩
            · rw [(val_RV hK nm).2 e, e]; rfl
            · obtain ⟨v2, e2, r2⟩ := (val_RV hK nm).1 _ e
              have : v2 = .str s := r2
              rw [e2, e, this]; rfl
          have htl : ∀ s, txO vals nm = some s → s.length ≤ 1000 := fun s es => by
            unfold txO at es
            rcases htp with e | ⟨s', e, hs'⟩
            · rw [e] at es; cases es
            · rw [e] at es; cases es; exact hs'
          refine ⟨_, rfl, _, rfl, _, rfl, ap, d, nm, sg, lo, hi, kvs, txO vals nm, rfl, hT', k.same.rd hD, hval, htl, fun s e z => ?_, fun z => ?_⟩
          · have eb : badP vals (.p0 (.ask nm sg lo hi)) = none := bad0_ok (f := txO vals) e z
            have st := step eb
            obtain ⟨s2, e2, _⟩ := fits_of_none eb
            have es : s2 = s := by
              unfold txO at e; rw [e2] at e; cases e; rfl
            subst es
            have eg : fv vals nm = s2 := fv_tx e2
            refine ⟨_, _, rfl, rfl, small_line ?_, some (.ref ap), k, ?_, take_none hn hp eb⟩
            · have : (fpiece (fv vals) (.ask nm sg lo hi)).length = (fv vals nm).length := rfl
              rw [eg] at this
              omega
            · rw [writtenP_snoc _ _ hp, show wpiece (fv vals) (gv vals) (.p0 (.ask nm sg lo hi)) = s2 from eg]; rfl
          · exact (qe nm (findSome_at hn hp (show badP vals (.p0 (.ask nm sg lo hi)) = some nm from bad0_some z))).mono k
      | rows nm ips gap lo hi =>
        obtain ⟨ap, li, ys, rfl, hT, hLi, hPi⟩ := hR
        have hT' := k.same.tup hT
        refine ⟨_, rfl, ap, _, _, _, rfl, rfl, hT', rfl, rfl, _, rfl, iteNe rows_say ?_⟩
        refine ⟨_, rfl, ap, _, _, _, rfl, rfl, hT', rfl, rfl, _, rfl, iteNe rows_ask ?_⟩
        refine ⟨_, rfl, _, rfl, _, rfl, ap, d, nm, ips, gap, lo, hi, kvs, vals, rfl, RP.mono ⟨ap, li, ys, rfl, hT, hLi, hPi⟩ k.same, k _ _ hD0, Paired.monoP hK fun _ _ z => z.mono k.same, htp, hokp, fun rs e eb H2 k2 => ?_, fun n eb => ?_⟩
        · have st := step eb
          have hwl : wpiece (fv vals) (gv vals) (.rows nm ips gap lo hi) = Txt.join gap (rs.map fun r => lineP (rowf r) ips) := by
            show Txt.join gap ((gv vals nm).map fun r => lineP r ips) = _
            rw [gv_rows e]
          rw [hwl] at st
          refine ⟨_, _, rfl, rfl, small_line (by omega), some (.ref ap), k.trans k2, ?_, take_none hn hp eb⟩
          rw [writtenP_snoc _ _ hp, hwl]; rfl
        · exact (qe n (findSome_at hn hp eb)).mono k
    · rintro σ H' ⟨v1, k, rfl, hn⟩
      rw [hxp, List.take_length] at hn ⊢
      exact ⟨_, rfl, q (findSome_none hn) _ k⟩

abbrev s_fill : Stmt := top 10
abbrev n_fill : List Str := ["form", "values"]
theorem sc_fill : FnScope n_fill ["form", "values"] (defScope s_fill) := ⟨rfl, rfl, rfl, by decide +kernel, rfl, by decide +kernel, by decide +kernel⟩

theorem dn_fill_x (D : Df K mg "fill" s_fill ["form", "values"]) (d_filled : Dn P w K mg base (L2.CX P w) 6 "filled" (sp_filled_x K C_BadValue_))  : Dn P w K mg base (L2.CX P w) 7 "fill" (sp_fill_x K C_BadValue_) := by
  refine .of D fun f fd F => F.okX sc_fill (fun vs H Q E h => ?_) (fun cdv A outer s H vs Q E hr h => ?_)
  · (obtain ⟨_, _, _, _, rfl, _⟩ := h; rfl)
  · have hu := hu_of hr
    have hu64 : _ := hr.units
    refine ⟨_, (pss_one (ps_ret (cX d_filled (takes_of rfl rfl rfl rfl) hr (by decide) rfl (pa_cons (pe_fld (pv 0) rfl) (pa_cons (pv 1) pa_nil))))), ?_⟩
    obtain ⟨x, ps, v, vals, rfl, hF, hV, hlen, hok, q, qe⟩ := h
    obtain ⟨C, dx, f0, zs, cC, nP, hX, hL, hP⟩ := hF
    exact ⟨_, rfl, x, C, dx, _, .ref f0, rfl, hX, cC, nP, (by rw [lookup_putF, if_pos rfl]), _, rfl, f0, zs, ps, v, vals, rfl, hL, hP, hV, hlen, hok, q, qe⟩

abbrev s__law_tried : Stmt := top 32
abbrev n__law_tried : List Str := ["form", "values", "found", "e"]
theorem sc__law_tried : FnScope n__law_tried ["form", "values"] (defScope s__law_tried) := ⟨rfl, rfl, rfl, by decide +kernel, rfl, by decide +kernel, by decide +kernel⟩

theorem dn__law_tried (D : Df K mg "_law_tried" s__law_tried ["form", "values"]) (e_FormError : mg "FormError" = some (.ref C_FormError_))  (d_fill : Dn P w K mg base (L2.CX P w) 7 "fill" (sp_fill_x K C_BadValue_)) (exV : PySem.W.exmOne K (.ref C_BadValue_) (.ref C_FormError_) = some true)  : Dn P w K mg base CX0 8 "_law_tried" (sp__law_tried K C_BadValue_) := by
  refine .of D fun f fd F => F.ok sc__law_tried (fun vs H Q E h => ?_) (fun cdv A outer s H vs Q E hr h => ?_)
  · (obtain ⟨_, _, _, _, rfl, _⟩ := h; rfl)
  · have hu := hu_of hr
    have hu64 : _ := hr.units
    refine ⟨_, (pss_cons (ps_set (i := 2) sc__law_tried.nd rfl (Or.inl rfl) pe_non)
      (pss_cons (ps_try_asT (i := 3) rfl rfl rfl sc__law_tried.nd rfl rfl ⟨rfl, by decide, .inl e_FormError⟩ takes0 (fun W pn xe tk po => (pss_one (ps_set (i := 2) sc__law_tried.nd rfl (Or.inl rfl) (cX d_fill tk hr (by decide) rfl (pa_cons (pv 0) (pa_cons (pv 1) pa_nil)))))) (fun a pn => (pss_one (ps_set (i := 2) sc__law_tried.nd rfl (Or.inl rfl) (pv 3)))))
      (pss_one (ps_ret (pv 2))))), ?_⟩
    obtain ⟨x, ps, v, vals, rfl, hF, hV, h6, hok, q, qe⟩ := h
    refine ⟨_, rfl, _, rfl, x, ps, v, vals, rfl, hF, hV, h6, hok, fun e H' k => ⟨_, rfl, q e H' k⟩, fun n e d H' k nd hd => ?_⟩
    refine ⟨true, exV, fun _ a na => ?_, fun z => nomatch z⟩
    have ad : a ≠ d := fun z => by rw [z, hd] at na; cases na
    refine ⟨_, rfl, _, rfl, qe n e a d _ (k.trans (Keep.new na)) ⟨upd_same, fun e2 he => ?_⟩ ((upd_ne ad.symm).trans hd)⟩
    cases he
    exact ⟨_, (upd_ne ad.symm).trans hd⟩

abbrev s_law : Stmt := top 33
abbrev n_law : List Str := ["script", "names", "inner", "rows", "pieces", "values", "k", "handed", "due", "form", "found"]
theorem sc_law : FnScope n_law ["script"] (defScope s_law) := ⟨rfl, rfl, rfl, by decide +kernel, rfl, by decide +kernel, by decide +kernel⟩

theorem fn_law (B : Bl mg) (d__law_draw : Dn P w K mg base CX0 2 "_law_draw" (sp__law_draw K))  (d__law_values : Dn P w K mg base CX0 5 "_law_values" (sp__law_values_d K))  (d__law_fault : Dn P w K mg base CX0 1 "_law_fault" (sp__law_fault K))  (d__law_copy : Dn P w K mg base CX0 1 "_law_copy" (sp__law_copy K))  (d__law_first : Dn P w K mg base CX0 2 "_law_first" (sp__law_first K))  (m_Form : Mn P w K mg base CX0 4 "Form" C_Form_ (sp_Form___init__ K))  (d__law_tried : Dn P w K mg base CX0 8 "_law_tried" (sp__law_tried K C_BadValue_))  (d__law_written : Dn P w K mg base CX0 2 "_law_written" (sp__law_written K))  (d__law_alone : Dn P w K mg base CX0 1 "_law_alone" (sp__law_alone K C_FormError_ C_BadForm_ C_BadValue_ C_NoReading_ C_Twofold_)) (iF : InsF K C_Form_) (aV : AlX K C_BadValue_ C_FormError_ C_BadForm_ C_BadValue_ C_NoReading_ C_Twofold_ 1) (nV : PySem.W.findIn K (.ref C_BadValue_) "name" = some none)  {f : Addr} {fd : FuncData} (F : Fun K "law" "law" s_law f fd) : FnOk P w K mg base CX0 10 f fd ["script"] (sp_law K) := by
  refine F.ok sc_law (fun vs H Q E h => ?_) (fun cdv A outer s H vs Q E hr h => ?_)
  · (obtain ⟨_, _, rfl, _⟩ := h; rfl)
  · have hu := hu_of hr
    have hu64 : _ := hr.units
    refine ⟨_, (pss_cons (ps_set (i := 1) sc_law.nd rfl (Or.inl rfl) (pe_ix (ixLs (K := K) rfl) (pe_told (P := fun (_ : Unit) (_ : L2.St) => True) (R := fun _ G v => LL R2L nmT G v) (pe_lst (pa_cons (pe_lst (pa_cons pe_str (pa_cons pe_str pa_nil))) (pa_cons (pe_lst (pa_cons pe_str (pa_cons pe_str pa_nil))) (pa_cons (pe_lst (pa_cons pe_str (pa_cons pe_str pa_nil))) pa_nil)))) (fun c σ hc => (gd_list R2L.mono (gdl_cons R2L.mono gd_two (gdl_cons R2L.mono gd_two (gdl_cons R2L.mono gd_two gdl_nil))) (Nat.le_of_ble_eq_true rfl)))) (pe_op op_mod (cD d__law_draw hr (by decide) rfl (pa_cons (pv 0) (pa_cons pe_int pa_nil))) pe_int) (fun _ _ => rfl)))
      (pss_cons (ps_set (i := 2) sc_law.nd rfl (Or.inl rfl) (pe_lst (pa_cons (pe_tup (pa_cons pe_str (pa_cons (pe_ix (ixLs (K := K) rfl) (pv 1) pe_int (fun _ _ => rfl)) (pa_cons pe_str (pa_cons pe_int (pa_cons pe_int pa_nil)))))) (pa_cons (pe_tup (pa_cons pe_str (pa_cons (pe_ix (ixLs (K := K) rfl) (pv 1) pe_int (fun _ _ => rfl)) (pa_cons pe_str (pa_cons pe_int (pa_cons pe_int pa_nil)))))) pa_nil))))
      (pss_cons (ps_set (i := 3) sc_law.nd rfl (Or.inl rfl) (pe_tup (pa_cons pe_str (pa_cons pe_str (pa_cons (pv 2) (pa_cons pe_str (pa_cons (pe_op op_mod (cD d__law_draw hr (by decide) rfl (pa_cons (pv 0) (pa_cons pe_int pa_nil))) pe_int) (pa_cons pe_int pa_nil))))))))
      (pss_cons (ps_set (i := 4) sc_law.nd rfl (Or.inl rfl) (pe_lst (pa_cons (pe_tup (pa_cons pe_str (pa_cons pe_str (pa_cons pe_str (pa_cons pe_int (pa_cons pe_int pa_nil)))))) (pa_cons (pv 3) (pa_cons (pe_tup (pa_cons pe_str (pa_cons pe_str (pa_cons pe_str (pa_cons pe_int (pa_cons pe_int pa_nil)))))) pa_nil)))))
      (pss_cons (ps_set (i := 5) sc_law.nd rfl (Or.inl rfl) (cD d__law_values hr (by decide) rfl (pa_cons (pv 0) (pa_cons pe_int (pa_cons (pv 4) pa_nil)))))
      (pss_cons (ps_for PassesOwn.never rfl (pi_range1 rfl B.range (pa_cons (pe_op op_mod (cD d__law_draw hr (by decide) rfl (pa_cons (pv 0) (pa_cons pe_int pa_nil))) pe_int) pa_nil)) (pg_name (i := 6) sc_law.nd rfl (Or.inl rfl))
      (pss_one (ps_expr (cD d__law_fault hr (by decide) rfl (pa_cons (pv 5) (pa_cons (pe_op op_mod (cD d__law_draw hr (by decide) rfl (pa_cons (pv 0) (pa_cons (pe_op op_add pe_int (pv 6)) pa_nil))) pe_int) (pa_cons (cD d__law_draw hr (by decide) rfl (pa_cons (pv 0) (pa_cons (pe_op op_add pe_int (pv 6)) pa_nil))) (pa_cons (pv 1) pa_nil))))))))
      (pss_cons (ps_set (i := 7) sc_law.nd rfl (Or.inl rfl) (cD d__law_copy hr (by decide) rfl (pa_cons (pv 5) pa_nil)))
      (pss_cons (ps_set (i := 8) sc_law.nd rfl (Or.inl rfl) (cD d__law_first hr (by decide) rfl (pa_cons (pv 4) (pa_cons (pv 5) pa_nil))))
      (pss_cons (ps_set (i := 9) sc_law.nd rfl (Or.inl rfl) (cM m_Form hr (by decide) rfl (pa_cons (pv 4) pa_nil)))
      (pss_cons (ps_for PassesOwn.never rfl (pi_range1 rfl B.range (pa_cons pe_int pa_nil)) (pg_name (i := 6) sc_law.nd rfl (Or.inl rfl))
      (pss_cons (ps_set (i := 10) sc_law.nd rfl (Or.inl rfl) (cD d__law_tried hr (by decide) rfl (pa_cons (pv 9) (pa_cons (pv 7) pa_nil))))
      (pss_cons (ps_if (pt_cmpR (op_neS (K := K) rfl hu64) (pv 7) (pv 5) (nomark _)) (pss_one (ps_ret pe_bl)) pss_nil)
      (pss_cons (ps_if (PW.pt (pw_and (pt_cmpR op_isN (pv 8) pe_non (nomark _)) (pw_and1 (pt_cmpR op_ne (pv 10) (cD d__law_written hr (by decide) rfl (pa_cons (pv 4) (pa_cons (pv 5) pa_nil))) (nomark _))))) (pss_one (ps_ret pe_bl)) pss_nil)
      (pss_one (ps_if (PW.pt (pw_and (pt_cmpR op_notN (pv 8) pe_non (nomark _)) (pw_and1 (PW.pt (pw_or (pt_cmpR op_ne (cD d__law_alone hr (by decide) rfl (pa_cons (pv 10) pa_nil)) pe_int (nomark _)) (pw_or1 (pt_cmpR op_ne (pe_xh (C := C_BadValue_) aV.x nV (pv 10)) (pv 8) (nomark _)))))))) (pss_one (ps_ret pe_bl)) pss_nil))))))
      (pss_one (ps_ret pe_bl)))))))))))), ?_⟩
    obtain ⟨a, ns, rfl, hS, q⟩ := h
    -- names
    refine ⟨(), H, trivial, Same.refl _, fun v1 G1 H1 W1 r1 => ?_⟩
    obtain ⟨nL, nxs, rfl, hnL, hnP⟩ := r1
    have d80 : 0 ≤ draw ns 8 % 3 := Int.emod_nonneg _ (by decide)
    have d83 : draw ns 8 % 3 < 3 := Int.emod_lt_of_pos _ (by decide)
    obtain ⟨jn, hjn⟩ : ∃ j : Nat, draw ns 8 % 3 = (j : Int) := ⟨(draw ns 8 % 3).toNat, by omega⟩
    have hj3 : jn < nmT.length := by show jn < 3; omega
    have en : nmT[jn]? = some (nmT.getD jn ("", "")) := by rw [List.getD_eq_getElem?_getD, List.getElem?_eq_getElem hj3]; rfl
    obtain ⟨nx, hnx, nl, rfl, hnl⟩ := Paired.ats hnP en
    refine ⟨_, rfl, a, ns, 8, rfl, W1.hh.same.seq hS, _, _, rfl, rfl, (by show (0 : Int) < 3; decide), nL, _, _, _, rfl, rfl, SqL.of (W1.gh _ _ hnL), at_gen (j := jn) hjn hnx, ?_⟩
    have d90 : 0 ≤ draw ns 9 % 2 := Int.emod_nonneg _ (by decide)
    have d92 : draw ns 9 % 2 < 2 := Int.emod_lt_of_pos _ (by decide)
    have okF4 : okF (pcs4 (nmT.getD jn ("", "")).1 (nmT.getD jn ("", "")).2 (draw ns 9 % 2)) := by
      have := okF_of (pcs4_ok ⟨jn, hj3⟩ ⟨(draw ns 9 % 2).toNat, by omega⟩)
      rw [show (((draw ns 9 % 2).toNat : Nat) : Int) = draw ns 9 % 2 by omega] at this
      exact this
    generalize (nmT.getD jn ("", "")).1 = n0 at hnl okF4
    generalize (nmT.getD jn ("", "")).2 = n1 at hnl okF4
    -- inner
    have hN1 : SqL K H1 nl [.str n0, .str n1] := SqL.of (W1.gh _ _ hnl)
    refine ⟨_, rfl, nl, _, _, _, rfl, rfl, hN1, rfl, (by show 5 ≤ sizeLine; decide), fun p1 np1 => ?_⟩
    have W2 := W1.new (o := .tup (P0.ask n0 "bc" 0 2).vs) np1
    have s2 : Same G1 (upd G1 p1 (.tup (P0.ask n0 "bc" 0 2).vs)) := Same.new (Same.free W1.gh np1)
    have e1 : R0 K (upd G1 p1 (.tup (P0.ask n0 "bc" 0 2).vs)) (.ref p1) (.ask n0 "bc" 0 2) := ⟨p1, rfl, SqT.of upd_same⟩
    have hnl2 := s2 _ _ hnl
    generalize upd G1 p1 (.tup (P0.ask n0 "bc" 0 2).vs) = G2 at W2 s2 e1 hnl2
    generalize hHH : upd H1 p1 (.tup (P0.ask n0 "bc" 0 2).vs) = H2 at W2
    have hHH' : upd H1 p1 (.tup [.str "ask", .str n0, .str "bc", .int 0, .int 2]) = H2 := hHH
    rw [hHH']
    refine ⟨_, rfl, nl, _, _, _, rfl, rfl, SqL.of (W2.gh _ _ hnl2), rfl, (by show 5 ≤ sizeLine; decide), fun p2 np2 => ?_⟩
    have W3 := W2.new (o := .tup (P0.ask n1 "01" 1 3).vs) np2
    have s3 : Same G2 (upd G2 p2 (.tup (P0.ask n1 "01" 1 3).vs)) := Same.new (Same.free W2.gh np2)
    have e2 : R0 K (upd G2 p2 (.tup (P0.ask n1 "01" 1 3).vs)) (.ref p2) (.ask n1 "01" 1 3) := ⟨p2, rfl, SqT.of upd_same⟩
    have e1 := e1.mono s3
    have hnl3 := s3 _ _ hnl2
    generalize upd G2 p2 (.tup (P0.ask n1 "01" 1 3).vs) = G3 at W3 s3 e1 e2 hnl3
    generalize hHH3 : upd H2 p2 (.tup (P0.ask n1 "01" 1 3).vs) = H3 at W3
    have hHH3' : upd H2 p2 (.tup [.str "ask", .str n1, .str "01", .int 1, .int 3]) = H3 := hHH3
    rw [hHH3']
    refine ⟨(by show 2 ≤ sizeLine; decide), fun li nli => ?_⟩
    have W4 := W3.new (o := .lst [.ref p1, .ref p2]) nli
    have s4 : Same G3 (upd G3 li (.lst [.ref p1, .ref p2])) := Same.new (Same.free W3.gh nli)
    have hli : (upd G3 li (.lst [.ref p1, .ref p2])) li = some (.lst [.ref p1, .ref p2]) := upd_same
    have e1 := e1.mono s4
    have e2 := e2.mono s4
    have hnl4 := s4 _ _ hnl3
    generalize upd G3 li (.lst [.ref p1, .ref p2]) = G4 at W4 s4 hli e1 e2 hnl4
    generalize upd H3 li (.lst [.ref p1, .ref p2]) = H4 at W4 ⊢
    -- rows
    refine ⟨_, rfl, _, rfl, a, ns, 9, rfl, W4.hh.same.seq hS, _, _, rfl, rfl, (by show (0 : Int) < 2; decide), (by show 6 ≤ sizeLine; decide), fun pr npr => ?_⟩
    have W5 := W4.new (o := .tup [.str "rows", .str "all", .ref li, .str "-", .int (draw ns 9 % 2), .int 3]) npr
    have s5 : Same G4 (upd G4 pr (.tup [.str "rows", .str "all", .ref li, .str "-", .int (draw ns 9 % 2), .int 3])) := Same.new (Same.free W4.gh npr)
    have e3 : RP K (upd G4 pr (.tup [.str "rows", .str "all", .ref li, .str "-", .int (draw ns 9 % 2), .int 3])) (.ref pr) (.rows "all" [.ask n0 "bc" 0 2, .ask n1 "01" 1 3] "-" (draw ns 9 % 2) 3) :=
      ⟨pr, li, _, rfl, SqT.of upd_same, SqL.of (s5 _ _ hli), .cons (e1.mono s5) (.cons (e2.mono s5) .nil)⟩
    have hnl5 := s5 _ _ hnl4
    generalize upd G4 pr (.tup [.str "rows", .str "all", .ref li, .str "-", .int (draw ns 9 % 2), .int 3]) = G5 at W5 s5 e3 hnl5
    generalize upd H4 pr (.tup [.str "rows", .str "all", .ref li, .str "-", .int (draw ns 9 % 2), .int 3]) = H5 at W5 ⊢
    -- pieces
    refine ⟨(by show 5 ≤ sizeLine; decide), fun p4 np4 => ?_⟩
    have W6 := W5.new (o := .tup (P0.ask "first" "abc" 1 3).vs) np4
    have s6 : Same G5 (upd G5 p4 (.tup (P0.ask "first" "abc" 1 3).vs)) := Same.new (Same.free W5.gh np4)
    have e4 : R0 K (upd G5 p4 (.tup (P0.ask "first" "abc" 1 3).vs)) (.ref p4) (.ask "first" "abc" 1 3) := ⟨p4, rfl, SqT.of upd_same⟩
    have e3 := e3.mono s6
    have hnl6 := s6 _ _ hnl5
    generalize upd G5 p4 (.tup (P0.ask "first" "abc" 1 3).vs) = G6 at W6 s6 e3 e4 hnl6
    generalize hHH6 : upd H5 p4 (.tup (P0.ask "first" "abc" 1 3).vs) = H6 at W6
    have hHH6' : upd H5 p4 (.tup [.str "ask", .str "first", .str "abc", .int 1, .int 3]) = H6 := hHH6
    rw [hHH6']
    refine ⟨_, rfl, (by show 5 ≤ sizeLine; decide), fun p5 np5 => ?_⟩
    have W7 := W6.new (o := .tup (P0.ask "last" "xy" 0 2).vs) np5
    have s7 : Same G6 (upd G6 p5 (.tup (P0.ask "last" "xy" 0 2).vs)) := Same.new (Same.free W6.gh np5)
    have e5 : R0 K (upd G6 p5 (.tup (P0.ask "last" "xy" 0 2).vs)) (.ref p5) (.ask "last" "xy" 0 2) := ⟨p5, rfl, SqT.of upd_same⟩
    have e3 := e3.mono s7
    have e4 := e4.mono s7
    have hnl7 := s7 _ _ hnl6
    generalize upd G6 p5 (.tup (P0.ask "last" "xy" 0 2).vs) = G7 at W7 s7 e3 e4 e5 hnl7
    generalize hHH7 : upd H6 p5 (.tup (P0.ask "last" "xy" 0 2).vs) = H7 at W7
    have hHH7' : upd H6 p5 (.tup [.str "ask", .str "last", .str "xy", .int 0, .int 2]) = H7 := hHH7
    rw [hHH7']
    refine ⟨(by show 3 ≤ sizeLine; decide), fun l nl0 => ?_⟩
    have W8 := W7.new (o := .lst [.ref p4, .ref pr, .ref p5]) nl0
    have s8 : Same G7 (upd G7 l (.lst [.ref p4, .ref pr, .ref p5])) := Same.new (Same.free W7.gh nl0)
    have hl : (upd G7 l (.lst [.ref p4, .ref pr, .ref p5])) l = some (.lst [.ref p4, .ref pr, .ref p5]) := upd_same
    have hnl8 := s8 _ _ hnl7
    have hP0 : Paired (RP K (upd G7 l (.lst [.ref p4, .ref pr, .ref p5]))) [.ref p4, .ref pr, .ref p5] (pcs4 n0 n1 (draw ns 9 % 2)) :=
      .cons (show R0 K _ _ _ from e4.mono s8) (.cons (e3.mono s8) (.cons (show R0 K _ _ _ from e5.mono s8) .nil))
    generalize upd G7 l (.lst [.ref p4, .ref pr, .ref p5]) = G8 at W8 s8 hl hnl8 hP0
    generalize upd H7 l (.lst [.ref p4, .ref pr, .ref p5]) = H8 at W8 ⊢
    clear hHH hHH' hHH3 hHH3' hHH6 hHH6' hHH7 hHH7' e1 e2 e3 e4 e5
    have hS8 := W8.hh.same.seq hS
    have hL8 : SqL K H8 l [.ref p4, .ref pr, .ref p5] := SqL.of (W8.gh _ _ hl)
    have hP8 : Paired (RP K H8) [.ref p4, .ref pr, .ref p5] (pcs4 n0 n1 (draw ns 9 % 2)) := Paired.monoP hP0 fun _ _ z => z.mono W8.gh
    have hN8 : SqL K H8 nl [.str n0, .str n1] := SqL.of (W8.gh _ _ hnl8)
    -- values
    refine ⟨_, rfl, _, rfl, a, ns, 300, l, _, _, rfl, hS8, hL8, hP8, okF4, fun d kvs H9 k9 nd hd hRO => ?_⟩
    obtain ⟨w1, w3, rs, hvals⟩ := vals4 ns n0 n1 (draw ns 9 % 2)
    have ok0 := vals4_ok okF4 hvals
    rw [hvals] at hRO
    obtain ⟨as, hV0, hfr⟩ := RO.vrel (K := K) hd hRO (fun r hr => by have := (ok0.rw r hr).2.1; omega)
    -- faults
    have e10 : 0 ≤ draw ns 1 % 3 := Int.emod_nonneg _ (by decide)
    have e13 : draw ns 1 % 3 < 3 := Int.emod_lt_of_pos _ (by decide)
    refine ⟨_, rfl, a, ns, 1, rfl, k9.same.seq hS8, _, _, rfl, rfl, (by show (0 : Int) < 3; decide), _, rfl, (by omega), (by omega), ?_⟩
    refine for_range (lo := 0) (n := (draw ns 1 % 3).toNat) (fun i σ H' => ∃ v6 S, σ = [some (.ref a), some (.ref nl), some (.ref li), some (.ref pr), some (.ref l), some (.ref d), v6, none, none, none, none] ∧ Same H8 H' ∧ VRel H' d as S ∧ okV i S)
      ⟨none, _, rfl, k9, hV0, ok0⟩ ?_ ?_
    · rintro i σ H' hi ⟨v6, S, rfl, k10, hV, okS⟩
      rw [Int.zero_add]
      have m0 : 0 ≤ draw ns (2 + i) % 9 := Int.emod_nonneg _ (by decide)
      have m9 : draw ns (2 + i) % 9 < 9 := Int.emod_lt_of_pos _ (by decide)
      refine ⟨_, rfl, _, rfl, _, rfl, _, _, rfl, rfl, a, ns, _, rfl, k10.seq hS8, _, _, rfl, rfl, (by show (0 : Int) < 9; decide), _, rfl, _, rfl, _, _, rfl, rfl, a, ns, _, rfl, k10.seq hS8, _, rfl, ?_⟩
      have eq9 : draw ns (2 + i) % 9 = (((draw ns (2 + i) % 9).toNat : Nat) : Int) := by omega
      refine ⟨d, nl, (draw ns (2 + i) % 9).toNat, draw ns (5 + i), n0, n1, as, S, H8, ?_, by omega, draw_nn _ _, k10, nd, hfr, hN8, hV, okS.all, by have := okS.ln; omega, fun r hr => by have := (okS.rw r hr).2.1; omega, fun H'' k11 hV2 => ?_⟩
      · show [V.ref d, V.int (draw ns (2 + i) % 9), V.int (draw ns (5 + i)), V.ref nl] = _
        rw [← eq9]
      · exact ⟨_, _, rfl, k11, hV2, okS.fault⟩
    rintro σ H4' ⟨v6, S, rfl, k10, hV, okS⟩
    have hRV : RV K H4' (.ref d) (resV S) := hV.rv
    have nd' : ((resV S).map (·.1)).Nodup := by rw [resV_keys]; exact okS.nd
    have ndV' := resV_nd okS
    have hty := pcs4_ty okS (n0 := n0) (n1 := n1) (lo := draw ns 9 % 2)
    have hrw := fun p (hp : p ∈ resV S) rs (e : p.2 = .rws rs) => (resV_rows okS hp e).1
    have hlen : (resV S).length ≤ 100 := by unfold resV; rw [List.length_map]; have := okS.ln; omega
    generalize resV S = vals at hRV nd' ndV' hty hrw hlen
    have hL4 := k10.seq hL8
    have hP4 := Paired.monoP hP8 fun _ _ z => RP.mono z k10
    clear hV okS hV0 ok0 hRO hvals hS8 hN8 hL8 hP8 hnl8 hP0 hl
    -- handed
    refine ⟨_, rfl, .ref d, vals, H4', rfl, Same.refl _, hRV, nd', hlen, fun p hp rs e => by have := hrw p hp rs e; omega, fun vh G5' H5' W5' hVh => ?_⟩
    have hVh5 := hVh.mono W5'.gh
    have hVd5 := hRV.mono W5'.hh.same
    have hP5 := Paired.monoP hP4 fun _ _ z => RP.mono z W5'.hh.same
    have hL5 := W5'.hh.same.seq hL4
    -- due
    refine ⟨_, rfl, _, rfl, l, _, _, .ref d, vals, rfl, hL5, hP5, hVd5, fun p hp => ⟨pcs4_noSay p hp, hty p hp⟩, fun H6' k6 => ?_⟩
    have hP6 := Paired.monoP hP5 fun _ _ z => RP.mono z k6.same
    -- form
    refine ⟨_, rfl, fun x dx nx ndx nex => ?_⟩
    refine ⟨x, dx, _, l, _, _, H6', rfl, nx, ndx, nex, rfl, iF.cl, iF.na, k6.same.seq hL5, hP6, okF4, fun f0 zs H7' k7 hX7 nf hf7 hzl hCz => ⟨rfl, ?_⟩⟩
    have k57 := k6.trans k7
    have hF := form_mk ⟨iF.cl, iF.na⟩ k7 hX7 hf7 hzl hP6 hCz
    have h6 := okF4.l6
    have hok : ∀ p ∈ pcs4 n0 n1 (draw ns 9 % 2), okP p ∧ tyF vals p := fun p hp => ⟨okF4.ok p hp, hty p hp⟩
    have okP4 := okF4.ok
    generalize pcs4 n0 n1 (draw ns 9 % 2) = ps at hP4 hP5 hP6 hF h6 hok okP4 okF4 hCz hty
    -- the two tries
    refine ⟨_, rfl, by decide, by decide, ?_⟩
    refine for_range (lo := 0) (n := (2 : Int).toNat) (fun i σ H' => ∃ v6 v10, Keep H7' H' ∧ σ = [some (.ref a), some (.ref nl), some (.ref li), some (.ref pr), some (.ref l), some (.ref d), v6, some vh, some (optV (firstF vals ps)), some (.ref x), v10])
      ⟨_, none, Keep.refl _, rfl⟩ ?_ ?_
    · rintro i σ H' hi ⟨v6, v10, k9, rfl⟩
      have k59 := k57.trans k9
      refine ⟨_, rfl, _, rfl, x, ps, vh, vals, rfl, hF.mono k9.same, hVh5.mono k59.same, h6, hok, fun e1 HA kA => ?_, fun n e1 ea dd HA kA hE hdd => ?_⟩
      · have k5A := k59.trans kA
        have dp := valsD_depth vals
        have hfit : ∀ p ∈ ps, okP p ∧ fitsP vals p := fun p hp => ⟨okP4 p hp, fits_of_none (List.findSome?_eq_none_iff.mp e1 p hp)⟩
        refine ⟨_, rfl, _, rfl, valsD vals, (hVh5.mono k5A.same).rp nd' ndV', (hVd5.mono k5A.same).rp nd' ndV', dp.1, trivial, _, rfl, iteBF rfl ?_⟩
        refine ⟨_, rfl, rfl, _, rfl, iteDT (by rw [e1]; rfl) ?_⟩
        refine ⟨_, rfl, _, rfl, _, rfl, l, _, ps, .ref d, vals, rfl, k5A.same.seq hL5, Paired.monoP hP5 fun _ _ z => z.mono k5A.same, hVd5.mono k5A.same, h6, hfit, fun HB kB => ?_⟩
        refine ⟨rfl, _, rfl, iteEqN ?_⟩
        refine ⟨_, rfl, rfl, _, rfl, iteNT (decide_eq_true (by rw [e1]; rfl)) ?_⟩
        exact ⟨_, _, (k9.trans kA).trans kB, rfl⟩
      · have k5A := k59.trans kA
        have dp := valsD_depth vals
        refine ⟨_, rfl, _, rfl, valsD vals, (hVh5.mono k5A.same).rp nd' ndV', (hVd5.mono k5A.same).rp nd' ndV', dp.1, trivial, _, rfl, iteBF rfl ?_⟩
        refine ⟨_, rfl, rfl, _, rfl, iteDF (by rw [e1]; exact fun z => nomatch z) ?_⟩
        refine ⟨_, rfl, rfl, _, rfl, iteNF (decide_eq_false (by rw [e1]; exact fun z => nomatch z)) ?_⟩
        refine ⟨_, rfl, ea, _, _, 1, rfl, hE, aV, fun HB kB => ?_⟩
        refine ⟨rfl, _, rfl, iteEqN ?_⟩
        refine ⟨_, rfl, ea, dd, _, .str n, rfl, (hE.mono kB).1, kB _ _ hdd, rfl, ?_⟩
        rw [e1]
        refine ⟨_, rfl, rfl, _, rfl, iteEqN ?_⟩
        exact ⟨_, _, (k9.trans kA).trans kB, rfl⟩
    · rintro σ H' ⟨v6, v10, k9, rfl⟩
      exact q _

end
end Lf
namespace Lf
open PySem L2
theorem all_mk {l : PySem.W.OpenLaw} {w : World} {K : PySem.W.Frag} {mg : Str → Option Value} {fa : Addr} {C_FormError_ C_BadForm_ C_BadValue_ C_NoReading_ C_Twofold_ : Addr}
    (e_FormError : mg "FormError" = some (.ref C_FormError_))
    (e_BadForm : mg "BadForm" = some (.ref C_BadForm_))
    (e_BadValue : mg "BadValue" = some (.ref C_BadValue_))
    (e_NoReading : mg "NoReading" = some (.ref C_NoReading_))
    (e_Twofold : mg "Twofold" = some (.ref C_Twofold_))
    (a_BadValue : AlX K C_BadValue_ C_FormError_ C_BadForm_ C_BadValue_ C_NoReading_ C_Twofold_ 1)
    (x_BadValue : PySem.W.exmOne K (.ref C_BadValue_) (.ref C_FormError_) = some true)
    (D__law_cell_at : Df K mg "_law_cell_at" s__law_cell_at ["script", "k"])
    (D__law_draw : Df K mg "_law_draw" s__law_draw ["script", "k"])
    (D__law_word : Df K mg "_law_word" s__law_word ["script", "k", "piece"])
    (D__law_row : Df K mg "_law_row" s__law_row ["script", "k", "pieces"])
    (D__law_values : Df K mg "_law_values" s__law_values ["script", "start", "pieces"])
    (D__law_line : Df K mg "_law_line" s__law_line ["pieces", "values"])
    (D__law_written : Df K mg "_law_written" s__law_written ["pieces", "values"])
    (D__law_copy : Df K mg "_law_copy" s__law_copy ["values"])
    (D__law_alone : Df K mg "_law_alone" s__law_alone ["e"])
    (D__law_fault : Df K mg "_law_fault" s__law_fault ["values", "way", "cell", "names"])
    (D__law_word_bad : Df K mg "_law_word_bad" s__law_word_bad ["piece", "values"])
    (D__law_first : Df K mg "_law_first" s__law_first ["pieces", "values"])
    (D_ask_text : Df K mg "ask_text" s_ask_text ["text", "least", "most"])
    (D_ask_count : Df K mg "ask_count" s_ask_count ["least", "most", "bound"])
    (D_look_at_piece : Df K mg "look_at_piece" s_look_at_piece ["piece", "names"])
    (D_look_at_rows : Df K mg "look_at_rows" s_look_at_rows ["piece", "names"])
    (D_copied : Df K mg "copied" s_copied ["piece"])
    (D_ask_value : Df K mg "ask_value" s_ask_value ["piece", "values"])
    (D_filled : Df K mg "filled" s_filled ["pieces", "values"])
    (D_rows_filled : Df K mg "rows_filled" s_rows_filled ["piece", "values"])
    (D_fill : Df K mg "fill" s_fill ["form", "values"])
    (D__law_tried : Df K mg "_law_tried" s__law_tried ["form", "values"])
    (B : Bl mg)
    (g_SIGNS : G_SIGNS mg)
    (cmF0 : ∃ C, Cm K mg "Form" "Form.__init__" s_Form___init__ ["self", "pieces"] C ∧ InsF K C)
    (ri_BadValue : Ri K mg "BadValue" "BadValue.__init__" s_BadValue___init__ ["self", "name"] C_BadValue_)
    (nf_BadValue_name : PySem.W.findIn K (.ref C_BadValue_) "name" = some none)
    (FL0 : ∃ fd : FuncData, Fun K "law" "law" s_law fa fd ∧ ∀ (s : Shared) (v : Value), BindsTo s fd ⟨[v], []⟩ [("script", v)])
    : ∃ fd : FuncData, (∀ (s : Shared) (v : Value), BindsTo s fd ⟨[v], []⟩ [("script", v)]) ∧ ∀ base : Heap, K.In base → base.Ns mainGlobals mg → FnOk l.prog w K mg base CX0 10 fa fd ["script"] (sp_law K) := by
  obtain ⟨CF_, cmF, iF⟩ := cmF0
  obtain ⟨fd, FL, bL⟩ := FL0
  refine ⟨fd, bL, fun base _ _ => ?_⟩
  have n__law_cell_at := dn__law_cell_at (P := l.prog) (w := w) (base := base) D__law_cell_at B
  have n__law_draw := dn__law_draw (P := l.prog) (w := w) (base := base) D__law_draw n__law_cell_at
  have n__law_word := dn__law_word (P := l.prog) (w := w) (base := base) D__law_word B n__law_draw
  have n__law_row_d := dn__law_row_d (P := l.prog) (w := w) (base := base) D__law_row B n__law_word
  have n__law_values_d := dn__law_values_d (P := l.prog) (w := w) (base := base) D__law_values B n__law_word n__law_draw n__law_row_d
  have n__law_line := dn__law_line (P := l.prog) (w := w) (base := base) D__law_line 
  have n__law_written := dn__law_written (P := l.prog) (w := w) (base := base) D__law_written n__law_line
  have n__law_copy := dn__law_copy (P := l.prog) (w := w) (base := base) D__law_copy B
  have n__law_alone := dn__law_alone (P := l.prog) (w := w) (base := base) D__law_alone B e_Twofold e_NoReading e_BadValue e_BadForm e_FormError
  have n__law_fault := dn__law_fault (P := l.prog) (w := w) (base := base) D__law_fault B
  have n__law_word_bad := dn__law_word_bad (P := l.prog) (w := w) (base := base) D__law_word_bad B
  have n__law_first := dn__law_first (P := l.prog) (w := w) (base := base) D__law_first B n__law_word_bad
  have n_ask_text := dn_ask_text (P := l.prog) (w := w) (base := base) D_ask_text B g_SIGNS
  have n_ask_count := dn_ask_count (P := l.prog) (w := w) (base := base) D_ask_count 
  have n_look_at_piece := dn_look_at_piece (P := l.prog) (w := w) (base := base) D_look_at_piece B n_ask_text n_ask_count
  have n_look_at_rows := dn_look_at_rows (P := l.prog) (w := w) (base := base) D_look_at_rows B n_look_at_piece n_ask_text n_ask_count
  have n_copied := dn_copied (P := l.prog) (w := w) (base := base) D_copied B
  have m_Form := cmF.mn (P := l.prog) (w := w) (base := base) fun f fd F => fn_Form___init__ B n_look_at_rows n_look_at_piece n_copied F
  have i_BadValue := ri_BadValue.rz (P := l.prog) (w := w) (base := base) fun f fd F => fn_BadValue___init__ ri_BadValue.T nf_BadValue_name F
  have n_ask_value_x := dn_ask_value_x (P := l.prog) (w := w) (base := base) D_ask_value B i_BadValue
  have n_filled0_x := dn_filled0_x (P := l.prog) (w := w) (base := base) D_filled n_ask_value_x
  have n_rows_filled_x := dn_rows_filled_x (P := l.prog) (w := w) (base := base) D_rows_filled B i_BadValue n_filled0_x
  have n_filled_x := dn_filled_x (P := l.prog) (w := w) (base := base) D_filled n_ask_value_x n_rows_filled_x
  have n_fill_x := dn_fill_x (P := l.prog) (w := w) (base := base) D_fill n_filled_x
  have n__law_tried := dn__law_tried (P := l.prog) (w := w) (base := base) D__law_tried e_FormError n_fill_x x_BadValue
  exact fn_law B n__law_draw n__law_values_d n__law_fault n__law_copy n__law_first m_Form n__law_tried n__law_written n__law_alone iF a_BadValue nf_BadValue_name FL
end Lf
open PySem PySem.W PyProof.Rows
set_option maxRecDepth 100000 in
set_option maxHeartbeats 0 in
theorem PySem.Challenge.cw_letterform_k04_values_refused_holds : PySem.Challenge.rw_letterform_k04_values_refused.Holds := by
  w_on; o_law; k_head; (case hw => w_witness2)
  k_fill
  refine L2.walk_of (l := PySem.Challenge.rw_letterform_k04_values_refused) (n := 63) (k := 10) (x := "script") (CX := fun _ => L2.CX0) (sp := fun w => Lf.sp_law _) rfl (by decide) rfl ⟨rfl, by decide, by decide⟩ (fun w h Y => PySem.W.kIn_of Y) ?F (fun _ _ a ns _ _ hS => ⟨a, ns, rfl, hS, fun _ => rfl⟩) (fun _ _ _ _ _ z => z)
  case F =>
    intro w mg fa h KX G hmg
    refine' Lf.all_mk ?e_FormError ?e_BadForm ?e_BadValue ?e_NoReading ?e_Twofold ?a_BadValue ?x_BadValue ?D__law_cell_at ?D__law_draw ?D__law_word ?D__law_row ?D__law_values ?D__law_line ?D__law_written ?D__law_copy ?D__law_alone ?D__law_fault ?D__law_word_bad ?D__law_first ?D_ask_text ?D_ask_count ?D_look_at_piece ?D_look_at_rows ?D_copied ?D_ask_value ?D_filled ?D_rows_filled ?D_fill ?D__law_tried ?B ?g_SIGNS ?cmF0 ?ri_BadValue ?nf_BadValue_name ?FL0
    (case e_FormError => (refine' Lf.gl_mk KX G ?a; (case a => k_is)))
    (case e_BadForm => (refine' Lf.gl_mk KX G ?a; (case a => k_is)))
    (case e_BadValue => (refine' Lf.gl_mk KX G ?a; (case a => k_is)))
    (case e_NoReading => (refine' Lf.gl_mk KX G ?a; (case a => k_is)))
    (case e_Twofold => (refine' Lf.gl_mk KX G ?a; (case a => k_is)))
    (case a_BadValue => (refine' ⟨Lf.xc_mk ?c1 ?c2 ?c3 ?c4 ?c5 ?c6 ?c7 ?c8, ?k0, ?k1, ?k2, ?k3, ?kE, ?kV, by decide⟩; (case c1 => k_is); (case c2 => k_is); (case c3 => k_is); (case c4 => k_is); (case c5 => k_is); (case c6 => k_is); (case c7 => k_is); (case c8 => k_is); (case k0 => kit_is); (case k1 => kit_is); (case k2 => kit_is); (case k3 => kit_is); (case kE => kit_is); (case kV => kit_is)))
    (case x_BadValue => (refine' Lf.exm_mk ?h1 ?hd ?ht ?h4; (case h1 => k_is); (case hd => k_is); (case ht => k_is); (case h4 => k_is)))
    (case D__law_cell_at => (refine' Lf.df_mk KX G ?a ?l ?c ?k (fun _ _ _ _ _ _ us hl => match us, hl with | [_, _], _ => rfl); (case a => k_is); (case l => k_is); (case c => k_is); (case k => k_is)))
    (case D__law_draw => (refine' Lf.df_mk KX G ?a ?l ?c ?k (fun _ _ _ _ _ _ us hl => match us, hl with | [_, _], _ => rfl); (case a => k_is); (case l => k_is); (case c => k_is); (case k => k_is)))
    (case D__law_word => (refine' Lf.df_mk KX G ?a ?l ?c ?k (fun _ _ _ _ _ _ us hl => match us, hl with | [_, _, _], _ => rfl); (case a => k_is); (case l => k_is); (case c => k_is); (case k => k_is)))
    (case D__law_row => (refine' Lf.df_mk KX G ?a ?l ?c ?k (fun _ _ _ _ _ _ us hl => match us, hl with | [_, _, _], _ => rfl); (case a => k_is); (case l => k_is); (case c => k_is); (case k => k_is)))
    (case D__law_values => (refine' Lf.df_mk KX G ?a ?l ?c ?k (fun _ _ _ _ _ _ us hl => match us, hl with | [_, _, _], _ => rfl); (case a => k_is); (case l => k_is); (case c => k_is); (case k => k_is)))
    (case D__law_line => (refine' Lf.df_mk KX G ?a ?l ?c ?k (fun _ _ _ _ _ _ us hl => match us, hl with | [_, _], _ => rfl); (case a => k_is); (case l => k_is); (case c => k_is); (case k => k_is)))
    (case D__law_written => (refine' Lf.df_mk KX G ?a ?l ?c ?k (fun _ _ _ _ _ _ us hl => match us, hl with | [_, _], _ => rfl); (case a => k_is); (case l => k_is); (case c => k_is); (case k => k_is)))
    (case D__law_copy => (refine' Lf.df_mk KX G ?a ?l ?c ?k (fun _ _ _ _ _ _ us hl => match us, hl with | [_], _ => rfl); (case a => k_is); (case l => k_is); (case c => k_is); (case k => k_is)))
    (case D__law_alone => (refine' Lf.df_mk KX G ?a ?l ?c ?k (fun _ _ _ _ _ _ us hl => match us, hl with | [_], _ => rfl); (case a => k_is); (case l => k_is); (case c => k_is); (case k => k_is)))
    (case D__law_fault => (refine' Lf.df_mk KX G ?a ?l ?c ?k (fun _ _ _ _ _ _ us hl => match us, hl with | [_, _, _, _], _ => rfl); (case a => k_is); (case l => k_is); (case c => k_is); (case k => k_is)))
    (case D__law_word_bad => (refine' Lf.df_mk KX G ?a ?l ?c ?k (fun _ _ _ _ _ _ us hl => match us, hl with | [_, _], _ => rfl); (case a => k_is); (case l => k_is); (case c => k_is); (case k => k_is)))
    (case D__law_first => (refine' Lf.df_mk KX G ?a ?l ?c ?k (fun _ _ _ _ _ _ us hl => match us, hl with | [_, _], _ => rfl); (case a => k_is); (case l => k_is); (case c => k_is); (case k => k_is)))
    (case D_ask_text => (refine' Lf.df_mk KX G ?a ?l ?c ?k (fun _ _ _ _ _ _ us hl => match us, hl with | [_, _, _], _ => rfl); (case a => k_is); (case l => k_is); (case c => k_is); (case k => k_is)))
    (case D_ask_count => (refine' Lf.df_mk KX G ?a ?l ?c ?k (fun _ _ _ _ _ _ us hl => match us, hl with | [_, _, _], _ => rfl); (case a => k_is); (case l => k_is); (case c => k_is); (case k => k_is)))
    (case D_look_at_piece => (refine' Lf.df_mk KX G ?a ?l ?c ?k (fun _ _ _ _ _ _ us hl => match us, hl with | [_, _], _ => rfl); (case a => k_is); (case l => k_is); (case c => k_is); (case k => k_is)))
    (case D_look_at_rows => (refine' Lf.df_mk KX G ?a ?l ?c ?k (fun _ _ _ _ _ _ us hl => match us, hl with | [_, _], _ => rfl); (case a => k_is); (case l => k_is); (case c => k_is); (case k => k_is)))
    (case D_copied => (refine' Lf.df_mk KX G ?a ?l ?c ?k (fun _ _ _ _ _ _ us hl => match us, hl with | [_], _ => rfl); (case a => k_is); (case l => k_is); (case c => k_is); (case k => k_is)))
    (case D_ask_value => (refine' Lf.df_mk KX G ?a ?l ?c ?k (fun _ _ _ _ _ _ us hl => match us, hl with | [_, _], _ => rfl); (case a => k_is); (case l => k_is); (case c => k_is); (case k => k_is)))
    (case D_filled => (refine' Lf.df_mk KX G ?a ?l ?c ?k (fun _ _ _ _ _ _ us hl => match us, hl with | [_, _], _ => rfl); (case a => k_is); (case l => k_is); (case c => k_is); (case k => k_is)))
    (case D_rows_filled => (refine' Lf.df_mk KX G ?a ?l ?c ?k (fun _ _ _ _ _ _ us hl => match us, hl with | [_, _], _ => rfl); (case a => k_is); (case l => k_is); (case c => k_is); (case k => k_is)))
    (case D_fill => (refine' Lf.df_mk KX G ?a ?l ?c ?k (fun _ _ _ _ _ _ us hl => match us, hl with | [_, _], _ => rfl); (case a => k_is); (case l => k_is); (case c => k_is); (case k => k_is)))
    (case D__law_tried => (refine' Lf.df_mk KX G ?a ?l ?c ?k (fun _ _ _ _ _ _ us hl => match us, hl with | [_, _], _ => rfl); (case a => k_is); (case l => k_is); (case c => k_is); (case k => k_is)))
    (case B => (refine' ⟨PySem.W.mg_none_of KX G ?z0, PySem.W.mg_none_of KX G ?z1, PySem.W.mg_none_of KX G ?z2, PySem.W.mg_none_of KX G ?z3, PySem.W.mg_none_of KX G ?z4, PySem.W.mg_none_of KX G ?z5, PySem.W.mg_none_of KX G ?z6, PySem.W.mg_none_of KX G ?z7, PySem.W.mg_none_of KX G ?z8, PySem.W.mg_none_of KX G ?z9, PySem.W.mg_none_of KX G ?z10, PySem.W.mg_none_of KX G ?z11, PySem.W.mg_none_of KX G ?z12⟩; (case z0 => k_is); (case z1 => k_is); (case z2 => k_is); (case z3 => k_is); (case z4 => k_is); (case z5 => k_is); (case z6 => k_is); (case z7 => k_is); (case z8 => k_is); (case z9 => k_is); (case z10 => k_is); (case z11 => k_is); (case z12 => k_is)))
    (case g_SIGNS => (refine' Lf.signs_mk KX G ?z ?e; (case z => k_is); (case e => exact ⟨_, rfl⟩)))
    (case cmF0 => (refine' Lf.cm_mk2 KX G ?aC ?a ?i ?l ?c ?k ?pg ?hd ?po ?sa ?mk ?kc (fun _ _ _ _ _ _ us hl => match us, hl with | [_, _], _ => rfl) ?q1 ?ha ?hn ?ht ?hm; (case aC => k_is); (case a => k_is); (case i => k_is); (case l => k_is); (case c => k_is); (case k => k_is); (case pg => k_is); (case hd => k_is); (case po => k_is); (case sa => k_is); (case mk => k_is); (case kc => k_is); (case q1 => k_is); (case ha => k_is); (case hn => k_is); (case ht => k_is); (case hm => k_is)))
    (case ri_BadValue => (refine' Lf.ri_mk KX G ?aC ?xL ?xb ?sa ?eC ?tC ?kC ?a ?t ?l ?c ?k (fun _ _ _ _ _ _ us hl => match us, hl with | [_, _], _ => rfl); (case aC => k_is); (case xL => k_is); (case xb => decide +kernel); (case sa => k_is); (case eC => k_is); (case tC => k_is); (case kC => k_is); (case a => k_is); (case t => k_is); (case l => k_is); (case c => k_is); (case k => k_is)))
    (case nf_BadValue_name => k_is)
    (case FL0 => (refine' Lf.law_mk KX G hmg ?a ?l ?c ?k (fun _ _ _ _ _ _ _ _ => .of_eq rfl); (case a => k_is); (case l => k_is); (case c => k_is); (case k => k_is)))

