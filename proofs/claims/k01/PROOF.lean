import PyProof.Rows.All
import Wide.All
import OpenK.AllK
import Wide.FinOn
import HandS.ForMost
import HandS.Rev
import HandS.IsInst
import HandS.TupAny
import HandS.Strs
import PyProof.FactsAll.subtypes_3
import KE.DataEq
import KE.KEqNest
import HandS.More
import HandS.Walk
import PySem.Challenge.RW_letterform_k01_forms
/-! # LfBase -/
set_option Elab.async false
set_option linter.all false
set_option maxRecDepth 100000
set_option maxHeartbeats 4000000
namespace Lf
open PySem L2

/-! ### defs of the module -/
structure Df (K : PySem.W.Frag) (mg : Str → Option Value) (x : Str) (st : Stmt) (ps : List Str) : Prop where
  ex : ∃ (f : Addr) (fd : FuncData), Fun K x x st f fd ∧ mg x = some (.ref f) ∧ Binds K fd ps []
structure Dn (P : Program) (w : World) (K : PySem.W.Frag) (mg : Str → Option Value) (base : Heap) (CX : CXT) (k : Nat) (x : Str) (sp : Sp) : Prop where
  ex : ∃ (f : Addr) (fd : FuncData) (ps : List Str), FnOk P w K mg base CX k f fd ps sp ∧ mg x = some (.ref f) ∧ PySem.W.keepIn K (.ref f) = true ∧ Binds K fd ps []
theorem Dn.of {P : Program} {w : World} {K : PySem.W.Frag} {mg : Str → Option Value} {base : Heap} {CX : CXT} {k : Nat} {x : Str} {st : Stmt} {ps : List Str} {sp : Sp} (D : Df K mg x st ps)
    (h : ∀ f fd, Fun K x x st f fd → FnOk P w K mg base CX k f fd ps sp) : Dn P w K mg base CX k x sp := by
  obtain ⟨f, fd, F, m, b⟩ := D.ex
  exact ⟨f, fd, ps, h f fd F, m, F.kp, b⟩
theorem Dn.imp {P : Program} {w : World} {K : PySem.W.Frag} {mg : Str → Option Value} {base : Heap} {CX : CXT} {k : Nat} {x : Str} {sp sp' : Sp} (D : Dn P w K mg base CX k x sp)
    (h : ∀ vs H Q E, sp' vs H Q E → sp vs H Q E) : Dn P w K mg base CX k x sp' := by
  obtain ⟨f, fd, ps, F, m, kp, b⟩ := D.ex
  exact ⟨f, fd, ps, F.imp h, m, kp, b⟩
section
variable {X : Cx} {k j : Nat} {C : Addr} {x m : Str} {sp : Sp} {p pos apos : Pos} {e o : Expr} {es : List Expr} {ta : TE} {t : TA}
theorem cD (c : Dn X.prog X.w X.K X.mg X.base CX0 k x sp) (hr : Room j X.A) (hk : k ≤ j) (hg : Gl X x) (ha : PA X (e :: es) t)
    (hdb : (x == ("__debug__" : Str)) = false := by decide) (he : starEach (e :: es) X.env = (false, eval e X.env) :: starEach es X.env := by rfl) (hpl : (backTo pos (starEach es X.env)).any (·.1) = false := by rfl) :
    PE X (.Call (.Name x p) (e :: es) [] pos) (tCall sp [] E0 t) := by
  obtain ⟨f, fd, ps, F, hm, kp, b⟩ := c.ex
  exact pe_call F (hr.mono hk) hg hm kp b .nil pass0 ha hdb he hpl
/-- an own class, made -/
structure Mn (P : Program) (w : World) (K : PySem.W.Frag) (mg : Str → Option Value) (base : Heap) (CX : CXT) (k : Nat) (x : Str) (C : Addr) (sp : Sp) : Prop where
  ex : ∃ (f : Addr) (fd : FuncData) (ps : List Str), Mk K C f ∧ FnOk P w K mg base CX k f fd ps sp ∧ mg x = some (.ref C) ∧ Binds K fd ps []
theorem cM (c : Mn X.prog X.w X.K X.mg X.base CX0 k x C sp) (hr : Room j X.A) (hk : k + 1 ≤ j) (hg : Gl X x) (ha : PA X (e :: es) t)
    (hdb : (x == ("__debug__" : Str)) = false := by decide) (he : starEach (e :: es) X.env = (false, eval e X.env) :: starEach es X.env := by rfl) (hpl : (backTo pos (starEach es X.env)).any (·.1) = false := by rfl) :
    PE X (.Call (.Name x p) (e :: es) [] pos) (tMake C sp [] E0 t) := by
  obtain ⟨f, fd, ps, M, F, hm, b⟩ := c.ex
  exact pe_make M F (hr.mono hk) hg hm b .nil pass0 ha hdb he hpl
/-- a method -/
structure Tn (P : Program) (w : World) (K : PySem.W.Frag) (mg : Str → Option Value) (base : Heap) (CX : CXT) (k : Nat) (C : Addr) (m : Str) (sp : Sp) : Prop where
  ex : ∃ (f : Addr) (fd : FuncData) (ps : List Str), Cls K C ∧ Meth K C m f ∧ FnOk P w K mg base CX k f fd ps sp ∧ Binds K fd ps []
theorem cT {pl : Sem Bool} (c : Tn X.prog X.w X.K X.mg X.base CX0 k C m sp) (hr : Room j X.A) (hk : k ≤ j) (he : PE X o ta) (ha : PA X (e :: es) t)
    (hst : starEach (e :: es) X.env = (false, eval e X.env) :: starEach es X.env := by rfl) (hpl : (backTo pos (starEach es X.env)).any (·.1) = false := by rfl)
    (ht : eval (.Call (.Attribute o m apos) (e :: es) [] pos) X.env = (do
      let ov ← eval o X.env
      standAt apos.atName
      let (f, first) ← holding [ov] (getMethod ov m pl)
      callWith pos f first (backTo pos (starEach (e :: es) X.env)) (backToKw pos (keywordEach [] X.env))) := by rfl) :
    PE X (.Call (.Attribute o m apos) (e :: es) [] pos) (tMeth C m sp [] E0 ta t) := by
  obtain ⟨f, fd, ps, hc, hm, F, b⟩ := c.ex
  exact pe_meth (pl := pl) he hc hm F (hr.mono hk) b .nil pass0 ha hst hpl ht
end

/-! ### the built-in names -/
structure Bl (mg : Str → Option Value) : Prop where
  len : mg "len" = none
  range : mg "range" = none
  list : mg "list" = none
  isinstance : mg "isinstance" = none
  set : mg "set" = none
  reversed : mg "reversed" = none
  dict : mg "dict" = none
  sorted : mg "sorted" = none
  min : mg "min" = none
  int : mg "int" = none
  str : mg "str" = none
  tuple : mg "tuple" = none
  ValueError : mg "ValueError" = none

/-! ### heaps: what is told once stays (Same); all of the heap stays (Keep) -/
def Keep (H H' : Hp) : Prop := ∀ b o, H b = some o → H' b = some o
theorem Keep.same {H H' : Hp} (k : Keep H H') : Same H H' := k
theorem Keep.refl (H : Hp) : Keep H H := fun _ _ h => h
theorem Keep.trans {H H1 H2 : Hp} (a : Keep H H1) (b : Keep H1 H2) : Keep H H2 := fun c o h => b c o (a c o h)
theorem Keep.new {H : Hp} {p : Addr} {o : HO} (h : H p = none) : Keep H (upd H p o) := fun a u e => by rw [upd_ne (ne_of_none e h)]; exact e
theorem _root_.L2.Same.new {H : Hp} {p : Addr} {o : HO} (h : H p = none) : Same H (upd H p o) := Keep.new h
theorem _root_.L2.Same.keep {G H H' : Hp} (a : Same G H) (k : Keep H H') : Same G H' := a.trans k
theorem Keep.free {H H' : Hp} (e : Keep H H') {l : Addr} (h : H' l = none) : H l = none := Same.free e h
/-- a list of one's own is changed -/
theorem _root_.L2.Same.mut {G H : Hp} {l : Addr} {o : HO} (a : Same G H) (h : G l = none) : Same G (upd H l o) := fun b u e => by
  rw [upd_ne (ne_of_none e h)]; exact a b u e
theorem Keep.mut {G H : Hp} {l : Addr} {o : HO} (a : Keep G H) (h : G l = none) : Keep G (upd H l o) := Same.mut a h
theorem _root_.L2.Same.rd {G H : Hp} {a : Addr} {u : HO} (s : Same G H) (h : Rd G a u) : Rd H a u := by
  rcases h with h | ⟨o, h⟩
  · exact .inl (s _ _ h)
  · exact .inr ⟨o, s _ _ h⟩
theorem _root_.L2.Same.tup {K : PySem.W.Frag} {H H' : Hp} {a : Addr} {xs : List V} (e : Same H H') (h : SqT K H a xs) : SqT K H' a xs := by
  rcases h with h | h
  · exact .inl (e.rd h)
  · exact .inr h
/-- the world: G what is told once and stays, H the whole heap -/
structure Wd (G H G' H' : Hp) : Prop where
  gg : Same G G'
  gh : Same G' H'
  hh : Keep H H'
  nw : ∀ b o, H b = some o → G b = none → G' b = none
theorem Wd.refl {G H : Hp} (s : Same G H) : Wd G H G H := ⟨Same.refl _, s, Keep.refl _, fun _ _ _ h => h⟩
theorem Wd.trans {G H G1 H1 G2 H2 : Hp} (a : Wd G H G1 H1) (b : Wd G1 H1 G2 H2) : Wd G H G2 H2 :=
  ⟨a.gg.trans b.gg, b.gh, a.hh.trans b.hh, fun c o h1 h2 => b.nw c o (a.hh c o h1) (a.nw c o h1 h2)⟩
/-- H grows by what nobody asks for -/
theorem Wd.keep {G H G1 H1 H2 : Hp} (a : Wd G H G1 H1) (k : Keep H1 H2) : Wd G H G1 H2 := ⟨a.gg, a.gh.keep k, a.hh.trans k, a.nw⟩
/-- a new thing, told -/
theorem Wd.new {G H G1 H1 : Hp} {p : Addr} {o : HO} (a : Wd G H G1 H1) (h : H1 p = none) : Wd G H (upd G1 p o) (upd H1 p o) := by
  have gp : G1 p = none := Same.free a.gh h
  refine ⟨a.gg.trans (Same.new gp), fun b u e => ?_, a.hh.trans (Keep.new h), fun b u e1 e2 => ?_⟩
  · by_cases hb : b = p
    · subst hb; rw [upd_same] at e ⊢; exact e
    · rw [upd_ne hb] at e ⊢; exact a.gh _ _ e
  · have hb : b ≠ p := ne_of_none (a.hh _ _ e1) h
    rw [upd_ne hb]; exact a.nw _ _ e1 e2
/-- a thing of one's own is told from now on -/
theorem Wd.tell {G H G1 H1 : Hp} {p : Addr} {o : HO} (a : Wd G H G1 H1) (hp : H1 p = some o) (h0 : H p = none) (g1 : G1 p = none) : Wd G H (upd G1 p o) H1 := by
  refine ⟨a.gg.trans (Same.new g1), fun b u e => ?_, a.hh, fun b u e1 e2 => ?_⟩
  · by_cases hb : b = p
    · subst hb; rw [upd_same] at e; rw [hp]; exact e
    · rw [upd_ne hb] at e; exact a.gh _ _ e
  · have hb : b ≠ p := ne_of_none e1 h0
    rw [upd_ne hb]; exact a.nw _ _ e1 e2
/-- a thing of one's own is changed -/
theorem Wd.mut {G H G1 H1 : Hp} {p : Addr} {o : HO} (a : Wd G H G1 H1) (h0 : H p = none) (g1 : G1 p = none) : Wd G H G1 (upd H1 p o) :=
  ⟨a.gg, a.gh.mut g1, a.hh.mut h0, a.nw⟩
/-- what a def hands back: a value of which Post holds -/
def Ret (G H : Hp) (Post : V → Hp → Prop) (Q : VK) : Prop := ∀ v G' H', Wd G H G' H' → Post v G' → Q v H'
/-- .. that leans on no heap -/
def RetV (H : Hp) (v : V) (Q : VK) : Prop := ∀ H', Keep H H' → Q v H'
end Lf

/-! # LfSet -/
set_option Elab.async false
set_option linter.all false
set_option maxRecDepth 100000
set_option maxHeartbeats 4000000
namespace Lf
open PySem PySem.Spec PyProof.Rows

/-! ### the texts of a list that differ, in the order in which they come first -/
def dd1 (acc : List Str) (v : Str) : List Str := if acc.any (· == v) = true then acc else acc ++ [v]
def ddS (l : List Str) : List Str := l.foldl dd1 []
def ddAt (val : Nat → Str) (i : Nat) : List Str := ddS ((List.range i).map val)
theorem dd1_in {acc : List Str} {v : Str} (h : v ∈ acc) : dd1 acc v = acc := if_pos (by simpa using h)
theorem dd1_out {acc : List Str} {v : Str} (h : v ∉ acc) : dd1 acc v = acc ++ [v] := if_neg (by simpa using h)
theorem dd1_mem (acc : List Str) (v k : Str) : k ∈ dd1 acc v ↔ k ∈ acc ∨ k = v := by
  rcases Classical.em (v ∈ acc) with h | h
  · rw [dd1_in h]
    exact ⟨.inl, fun e => e.elim id fun e => e ▸ h⟩
  · rw [dd1_out h, List.mem_append, List.mem_singleton]
theorem dd1_any (acc : List Str) (v k : Str) : (dd1 acc v).any (· == k) = (acc.any (· == k) || decide (k = v)) := by
  have e : ∀ l : List Str, l.any (· == k) = decide (k ∈ l) := fun l => by rw [Bool.eq_iff_iff]; simp
  rw [e, e, ← Bool.decide_or]
  exact decide_eq_decide.mpr (dd1_mem acc v k)
theorem dd1_length (acc : List Str) (v : Str) : (dd1 acc v).length = if acc.any (· == v) then acc.length else acc.length + 1 :=
  (apply_ite List.length _ _ _).trans (by rw [List.length_append, List.length_singleton])
theorem ddAt_zero (val : Nat → Str) : ddAt val 0 = [] := rfl
theorem ddAt_succ (val : Nat → Str) (i : Nat) : ddAt val (i + 1) = dd1 (ddAt val i) (val i) := by
  simp [ddAt, ddS, List.range_succ]
theorem ddAt_le (val : Nat → Str) (i : Nat) : (ddAt val i).length ≤ i := by
  induction i with
  | zero => exact Nat.le_refl 0
  | succ j hj =>
    have e := dd1_length (ddAt val j) (val j)
    rw [← ddAt_succ] at e
    rcases Bool.eq_false_or_eq_true ((ddAt val j).any (· == val j)) with c | c <;> simp [c] at e <;> omega

/-! ### a set object that holds just the texts of a list -/
def HasTx (prog : Program) (w : World) (h : Heap) (D : Addr) (l : List Str) : Prop := h.SetOf (PySem.strKind prog w) D (fun k => l.any (· == k)) l.length
section
variable {prog : Program} {w : World}
theorem HasTx.keep {h h' : Heap} {D : Addr} {l : List Str} (x : HasTx prog w h D l) (hl : l.length < scanBound) (k : ∀ o, h.get? D = some o → h'.get? D = some o) : HasTx prog w h' D l :=
  let ⟨o, e, q⟩ := Heap.SetOf.objOf x
  q.setOf (k o e) hl
/-- one text more -/
theorem HasTx.take {A : Around} {E : Value → Shared → Prop} {s : Shared} {D : Addr} {l : List Str} {v : Str} {t : Tok} {Q : Bool → Shared → Prop} (x : HasTx prog w s.heap D l) (hl : l.length + 1 < scanBound)
    (next : ∀ (b : Bool) (h' : Heap) (tk : Nat), s.toks ≤ tk → Heap.SameBut D s.heap h' → HasTx prog w h' D (dd1 l v) → Q b { s with heap := h', toks := tk }) : wpAny (model prog w) A (setAdd D (.str v t)) Q E s := by
  have hk := strKind_is prog w v t
  refine wpAny_holding (wpAny_bind (KeyKind.pyHash _ hk (wpAny_setAddHashed_of (s := { s with toks := s.toks + 1 }) hk rfl x hl fun h' same y => ?_)))
  refine next _ h' _ (Nat.le_add_right _ _) same ?_
  have e1 : (fun k => l.any (· == k) || decide (k = v)) = fun k => (dd1 l v).any (· == k) := funext fun k => (dd1_any l v k).symm
  rw [HasTx, ← e1, dd1_length]
  exact y
end

/-! ### the loop that fills it out of an iterator -/
section
variable {prog : Program} {w : World} {A : Around} {R : Result → Shared → Prop} {I D : Addr} {fp wr : List Addr} {G : Array GenState → Array GenState → Prop} {n : Nat} {P : Nat → Value → Prop} {St : Nat → Shared → Prop} {f : Nat → Str} {s0 : Shared}
theorem fills (W : WalksS prog w A.in1 I fp wr G n P St) (out : D ∉ fp) (txt : ∀ i v, P i v → ∃ t, v = .str (f i) t) (small : n + 1 < scanBound)
    (last : ∀ s', Moved (D :: wr) G s0 s' → HasTx prog w s'.heap D (ddAt f n) → R (.ok (.ret .none)) s') (i : Nat) (hi : i ≤ n) (s : Shared) (st : St i s) (mv : Moved (D :: wr) G s0 s) (x : HasTx prog w s.heap D (ddAt f i)) :
    codeAny (model prog w) A (.builtin "set.update.loop" ⟨[.ref D, .ref I], []⟩) R s := by
  have small_i : (ddAt f i).length + 1 < scanBound := Nat.lt_of_le_of_lt (Nat.succ_le_succ (Nat.le_trans (ddAt_le f i) hi)) small
  have stays : ∀ {s'}, Moved wr G s s' → HasTx prog w s'.heap D (ddAt f i) := fun m => x.keep (Nat.lt_of_succ_lt small_i) fun o => m.heap D o fun c => out (W.sub D c)
  have goes : ∀ {s'}, Moved wr G s s' → Moved (D :: wr) G s0 s' := fun m => mv.trans W.gtrans (m.mono fun _ => List.mem_cons_of_mem D)
  refine codeAny_builtin F.entry_set_update_loop (Around.under_plainId F.plain_set_update_loop _ ▸ ?_)
  unfold Builtin.«set.update.loop»
  dsimp only
  rcases Nat.lt_or_ge i n with lt | ge
  · refine wpAny_bind (W.item i s _ _ lt st fun v s1 pv st1 m1 => ?_)
    obtain ⟨t, rfl⟩ := txt i v pv
    refine wpAny_bind (wpAny_holding ((stays m1).take small_i fun b h2 tk more same y => ?_))
    have safe : ∀ a, a ≠ D → ∀ o, s1.heap.get? a = some o → h2.get? a = some o := fun a na o e => (same.2 a na).trans e
    refine wpAny_pure ⟨plainId_quiet F.plain_set_update_loop _, ?_⟩
    exact fills W out txt small last (i + 1) lt _ (W.frame _ s1 h2 tk st1 more fun a ha => safe a fun c => out (c ▸ ha))
      ((goes m1).then_heap more fun a o ha => safe a (fun c => ha (c ▸ List.mem_cons_self)) o) (ddAt_succ f i ▸ y)
  · obtain rfl : i = n := Nat.le_antisymm hi ge
    exact wpAny_bind (W.done s _ _ st fun s1 m1 => wpAny_pure (last s1 (goes m1) (stays m1)))
termination_by n - i
end

/-! ### set(x): a bare set is made, then its __init__ takes x in -/
def bareSet (led : Bool) : Obj := { cls := .type "set", dict := none, data := .set #[] 0 (.fresh 0 0 led) }
section
variable {prog : Program} {w : World} {A : Around} {E : Value → Shared → Prop} {s : Shared}
theorem codeAny_thn {c : Code} {Q : Value → Shared → Prop} {R : Result → Shared → Prop} (x : codeAny (model prog w) A c (wants Q E) s) (good : ∀ v s', Q v s' → R (.ok (.ret v)) s') (bad : ∀ e s', E e s' → R (.error e) s') : codeAny (model prog w) A c R s :=
  codeAny_mono x fun r s' q => match r, q with
    | .ok (.ret v), q => good v s' q
    | .error e, q => bad e s' q
theorem bareSet_is (h : Heap) (led : Bool) : (h.push (bareSet led)).get? h.objs.size = some (bareSet led) := Heap.get?_push_size h rfl
theorem set_made {a : Value} {Q : Value → Shared → Prop} (body : ∀ led : Bool, wpAny (model prog w) A.in1.in1 (Builtin.«set.__init__» ⟨[.ref s.heap.objs.size, a], []⟩) (fun fin s' => fin = .done (.ret .none) ∧ Q (.ref s.heap.objs.size) s') E { s with heap := s.heap.push (bareSet led) }) :
    wpAny (model prog w) A (call (.type "set") [a]) Q E s := by
  have T := PySem.F.called_set
  obtain ⟨c0, more, line⟩ := T.mro
  have known := And.intro T.made (And.intro T.sub (And.intro T.notType (And.intro T.canCreate (PySem.F.typeCall_set_1 a))))
  obtain ⟨k1, k2, k3, k4, k5⟩ := known
  have start : codeAny (model prog w) A (.call (.type "set") ⟨[a], []⟩) (wants Q E) s := by
    refine codeAny_of_tree ?_
    show wpAny _ _ (callAny (.type "set") ⟨[a], []⟩) _ _ s
    refine wpAny_pure (And.intro (Code.quiet_builtin _ (by decide +kernel)) (codeAny_builtin PySem.F.entry_type_call ?_))
    rw [Around.under_plain (weight_type_call_type "set" [a] []) (units_type_call_type "set" [a] [])]
    repeat any_goals first | assumption | wp_step
    refine codeAny_thn (E := E) (Q := fun v s1 => v = .ref s.heap.objs.size ∧ ∃ led, s1 = { s with heap := s.heap.push (bareSet led) }) (code_set_new_1 a fun led => ⟨rfl, led, rfl⟩) (fun v s1 q => ?_) fun e s1 q => q
    obtain ⟨rfl, led, rfl⟩ := q
    have own : Shared.TypeIs { s with heap := s.heap.push (bareSet led) } (.ref s.heap.objs.size) "set" := ⟨bareSet led, bareSet_is _ _, rfl⟩
    have j1 := T.init.lookup
    have j2 := T.init.bind (.ref s.heap.objs.size)
    repeat any_goals first | assumption | wp_step
    refine codeAny_thn (E := E) (Q := fun v s2 => v = .none ∧ Q (.ref s.heap.objs.size) s2) (codeAny_call_builtin T.init.plain PySem.F.entry_set_init (check_set_init_1 own (wpAny_mono (body led) (fun fin s2 q => ?_) fun e s2 q => q))) (fun v s2 q => ?_) fun e s2 q => q
    · obtain ⟨rfl, q⟩ := q
      exact ⟨rfl, q⟩
    · obtain ⟨rfl, q⟩ := q
      repeat any_goals first | assumption | wp_step
  exact wpAny_call start
theorem type_later {h : Heap} {x : Value} {T : String} (y : s.TypeIs x T) (k : ∀ b o, s.heap.get? b = some o → h.get? b = some o) : Shared.TypeIs { s with heap := h } x T := by
  cases x with
  | ref a => exact y.elim fun o q => ⟨o, k a o q.1, q.2⟩
  | _ => exact y
/-- x is no set and no dict, and its iterator walks the texts f 0 .. f (n - 1): set(x) is a set that holds just them -/
theorem set_walked {x : Value} {T : String} {n : Nat} {f : Nat → Str} {Pv : Nat → Value → Prop} {Q : Value → Shared → Prop} (calm : A.handled = none) (ty : s.TypeIs x T)
    (noS : isSubtype (.type T) (.type "set") = pure false) (noF : isSubtype (.type T) (.type "frozenset") = pure false) (noD : (Value.type T == Value.type "dict") = false) (small : n + 1 < scanBound) (txt : ∀ i v, Pv i v → ∃ t, v = .str (f i) t)
    (iter : ∀ (A' : Around) (h : Heap) (Q' E' : _), s.heap.objs.size < h.objs.size → (∀ b o, s.heap.get? b = some o → h.get? b = some o) →
      (∀ (o : Obj) (fp : List Addr) (St : Nat → Heap → Prop), (∀ b ∈ fp, b ≠ s.heap.objs.size) → (∀ A' : Around, A'.handled = none → Walks prog w A' h.objs.size fp [h.objs.size] n Pv St) → St 0 (h.push o) → Q' (.ref h.objs.size) { s with heap := h.push o }) →
      wpAny (model prog w) A' (pyIter x) Q' E' { s with heap := h })
    (next : ∀ (h' : Heap) (tk : Nat), HasTx prog w h' s.heap.objs.size (ddAt f n) → (∀ b o, b < s.heap.objs.size → s.heap.get? b = some o → h'.get? b = some o) → Q (.ref s.heap.objs.size) { s with heap := h', toks := tk }) :
    wpAny (model prog w) A (call (.type "set") [x]) Q E s := by
  refine set_made fun led => ?_
  have more : s.heap.objs.size < (s.heap.push (bareSet led)).objs.size := by rw [Heap.size_push]; exact Nat.lt_add_one _
  have kept : ∀ b o, s.heap.get? b = some o → (s.heap.push (bareSet led)).get? b = some o := fun b o e => Heap.get?_push_of_some _ e
  have own := bareSet_is s.heap led
  have ty1 := type_later ty kept
  have fresh : ∀ o, HasTx prog w ((s.heap.push (bareSet led)).push o) s.heap.objs.size (ddAt f 0) := fun o =>
    (setObjOf_fresh (knd := PySem.strKind prog w) led).setOf (Heap.get?_push_of_some o own) (Nat.lt_of_le_of_lt (Nat.zero_le _) small)
  unfold Builtin.«set.__init__» noKeywords
  unfold bareSet at *
  generalize hU : Builtin.Frozenset.updateFrom = U
  wp_walk
  subst hU
  unfold Builtin.Frozenset.updateFrom Builtin.Frozenset.isAnySet
  refine wpAny_bind ?_
  unfold orM
  refine wpAny_bind (wpAny_isInstance ty1 noS (wpAny_isInstance ty1 noF ?_))
  refine wpAny_bind (wpAny_typeOf ty1 ?_)
  rw [noD]
  refine wpAny_bind (iter A.in1.in1 _ _ _ more kept fun o fp St apart W st => ?_)
  have calm3 : A.in1.in1.in1.handled = none := by simp [calm]
  refine wpAny_bind (wpAny_runValue ?_)
  refine fills (W A.in1.in1.in1 calm3).toS (fun c => apart _ c rfl) txt small (fun s1 mv held => ?_) 0 (Nat.zero_le n) _ st (Moved.refl fun _ => rfl) (fresh o)
  refine wpAny_pure (wpAny_pure ⟨rfl, ?_⟩)
  have same : s1 = { s with heap := s1.heap, toks := s1.toks } := by
    cases s1
    simp only [Shared.mk.injEq, true_and]
    exact ⟨mv.gens, mv.drawn, mv.os⟩
  rw [same]
  refine next _ _ held fun b ob low e => mv.heap b ob ?_ (Heap.get?_push_of_some o (kept b ob e))
  rintro (_ | ⟨_, _ | ⟨_, c⟩⟩)
  · exact Nat.lt_irrefl _ low
  · exact Nat.lt_irrefl _ (Nat.lt_trans low more)
  · cases c
/-- set(text): its signs -/
theorem call_set_str {x : Str} {tx : Tok} {Q : Value → Shared → Prop} (hh : A.handled = none) (hb : x.cps.size + 1 < scanBound)
    (h : ∀ (h' : Heap) (tk : Nat), HasTx prog w h' s.heap.objs.size (ddAt (fun i => ⟨#[x.cps.getD i 0]⟩) x.cps.size) → (∀ b o, b < s.heap.objs.size → s.heap.get? b = some o → h'.get? b = some o) → Q (.ref s.heap.objs.size) { s with heap := h', toks := tk }) :
    wpAny (model prog w) A (call (.type "set") [.str x tx]) Q E s := by
  refine set_walked (T := "str") (Pv := SignAt x) hh rfl PySem.F.sub_str_set PySem.F.sub_str_frozenset (by decide) hb (fun i v sign => ?_) (fun A' h0 Q' E' more kept q => ?_) h
  · obtain ⟨c, u, at_i, rfl⟩ := sign
    exact ⟨u, by rw [Array.getD_eq_getD_getElem?, at_i]; rfl⟩
  · refine wpAny_pyIter_str fun o St W st => q o _ St (fun b c => ?_) W st
    exact List.mem_singleton.mp c ▸ Nat.ne_of_gt more
end
end Lf

/-! # LfRules -/
set_option Elab.async false
set_option linter.all false
set_option maxRecDepth 100000
set_option maxHeartbeats 4000000
namespace Lf
open PySem PySem.Spec PyProof.Rows L2
section
variable {X : Cx} {a b c d : Expr} {ta tb tc td : TE} {pos : Pos}
/-- how many there are in set(a), for whatever a may be of which we know what the set holds -/
theorem pe_count {p p2 q pos : Pos} {body : V → Hp → VK → Prop} {give : V → Hp → List Str → Prop} (g1 : Gl X "len") (m1 : X.mg "len" = none) (g2 : Gl X "set") (m2 : X.mg "set" = none) (ha : PE X a ta) (asks : ∀ x H Q, body x H Q → ∃ l, give x H l ∧ Q (.int l.length) H)
    (holds : ∀ {pins σ H s x v l} {Q : Value → Shared → Prop}, Inv X pins σ H s → RelV x v → give x H l → (l.length < 4000 → ∀ (h' : Heap) (tk : Nat), HasTx X.prog X.w h' s.heap.objs.size l → (∀ b o, b < s.heap.objs.size → s.heap.get? b = some o → h'.get? b = some o) → Q (.ref s.heap.objs.size) { s with heap := h', toks := tk }) →
      wpAny (model X.prog X.w) X.A (call (.type "set") [v]) Q X.xe s)
    (one : starEach [a] X.env = (false, eval a X.env) :: starEach [] X.env := by rfl) : PE X (.Call (.Name "len" p) [.Call (.Name "set" p2) [a] [] q] [] pos) (fun σ H Q => ta σ H fun x H1 => body x H1 Q) := PE.mk fun pins s σ H Q I h =>
  Call_ (ld_blt I g1 m1 boot_len (callWith_builtin1 (args_cons (Call_ (ld_blt I g2 m2 boot_set (callWith_type1 (args_cons (thn (ha.run pins s σ H _ I h) fun v s1 => fun ⟨x, H1, I1, r, b⟩ => (asks x H1 Q b).elim fun l yk =>
    args_nil (holds I1 r yk.1 fun few h' tk full old => args_nil (by
      have J := Inv.kept (h' := h') (t' := tk) I1 fun b o e => old b o (Heap.lt_size e) e
      have d := full
      rcases d with ⟨ob, es, _, _, at_ob, exact_ob, data_ob, _, _, _, fits_ob, size_ob⟩
      have fit : (es.size : Int) < 2 ^ 63 := by omega
      exact call_len_set at_ob exact_ob data_ob fits_ob fit ⟨.int l.length, H1, J.tok _, ⟨_, congrArg (fun n : Nat => Value.int (n : Int) (tk + 1)) size_ob⟩, yk.2⟩))) one) one rfl))) rfl) rfl rfl))
/-- len(set(text)) -/
def tLenSetS (ta : TE) : TE := fun σ H Q => ta σ H fun x H1 => ∃ z : Str, x = .str z ∧ z.length < 4000 ∧ Q (.int (ddAt (fun i => ⟨#[z.cps.getD i 0]⟩) z.cps.size).length) H1
theorem pe_lenSetS {p p2 q pos : Pos} (hc : X.calm = true) (hg : Gl X "len") (hm : X.mg "len" = none) (hg2 : Gl X "set") (hm2 : X.mg "set" = none) (ha : PE X a ta)
    (na : starEach [a] X.env = (false, eval a X.env) :: starEach [] X.env := by rfl) : PE X (.Call (.Name "len" p) [.Call (.Name "set" p2) [a] [] q] [] pos) (tLenSetS ta) := by
  refine pe_count (ta := ta) (body := fun x H1 Q => ∃ z : Str, x = .str z ∧ z.length < 4000 ∧ Q (.int (ddAt (fun i => ⟨#[z.cps.getD i 0]⟩) z.cps.size).length) H1) (give := fun x _ l => ∃ z : Str, x = .str z ∧ z.length < 4000 ∧ l = ddAt (fun i => ⟨#[z.cps.getD i 0]⟩) z.cps.size) hg hm hg2 hm2 ha (fun x H Q => fun ⟨z, e, n, k⟩ => ⟨_, ⟨z, e, n, rfl⟩, k⟩) (fun I r y k => ?_) na
  obtain ⟨z, rfl, few, rfl⟩ := y
  obtain ⟨u, rfl⟩ := r
  have few' : z.cps.size < 4000 := few
  exact call_set_str (I.ok.hd hc) (Nat.lt_trans (Nat.succ_lt_succ few') (by decide)) (k (Nat.lt_of_le_of_lt (ddAt_le _ _) few'))
/-- a constant text of the module -/
theorem pe_globS {x : Str} {z : Str} (hg : Gl X x) (hm : ∃ t, X.mg x = some (.str z t)) (hd : (x == ("__debug__" : Str)) = false := by decide) : PE X (.Name x pos) (tC (.str z)) := by
  obtain ⟨t, e⟩ := hm
  exact pe_glob hg e ⟨_, rfl⟩ hd
/-- a loop over a text's signs -/
theorem for_text {x : Str} {g : TG} {tb : TS} {D : Ends} {σ : L2.St} {H : Hp} (Pv : Nat → L2.St → Hp → Prop) (h0 : Pv 0 σ H)
    (hs : ∀ (i c : Nat) (σ : L2.St) (H : Hp), x.cps[i]? = some c → Pv i σ H → g (.str ⟨#[c]⟩) σ H fun σ2 H2 => tb { D with nx := Pv (i + 1), ct := Pv (i + 1), bk := D.nx } σ2 H2) (hd : ∀ σ H, Pv x.cps.size σ H → D.nx σ H) :
    ∃ W : Nat → Nat → L2.St → Hp → Prop, (∃ m, W 0 m σ H) ∧ ∀ i m σ H, W i m σ H →
      ((Its x).stop i H ∧ D.nx σ H) ∨ ((Its x).go i H ∧ ∃ N : L2.St → Hp → Prop, (∀ σ' H', N σ' H' → ∃ m', m' < m ∧ W (i + 1) m' σ' H') ∧ ∀ v H', (Its x).yld i H v H' → g v σ H' fun σ2 H2 => tb { D with nx := N, ct := N, bk := D.nx } σ2 H2) := by
  refine ⟨fun i m σ H => m = x.cps.size - i ∧ i ≤ x.cps.size ∧ Pv i σ H, ⟨x.cps.size, rfl, Nat.zero_le _, h0⟩, ?_⟩
  rintro i m σ H ⟨rfl, hi, p⟩
  by_cases hlt : i < x.cps.size
  · refine .inr ⟨hlt, Pv (i + 1), fun σ' H' p' => ⟨x.cps.size - (i + 1), by omega, rfl, hlt, p'⟩, fun v H' y => ?_⟩
    obtain ⟨rfl, c, hc, rfl⟩ := y
    exact hs i c _ _ hc p
  · have e : i = x.cps.size := by omega
    subst e
    exact .inl ⟨Nat.le_refl _, hd _ _ p⟩
/-- a op1 b op2 c op3 d, as a test -/
def tChain3 (r r' r'' : R2) (ta tb tc td : TE) : TT := fun σ H Q => ta σ H fun x H1 => tb σ H1 fun y H2 => r x y H2 fun z H3 => ∃ k, z = .bl k ∧
  (if k = true then tc σ H3 fun u H4 => r' y u H4 fun z' H5 => ∃ k', z' = .bl k' ∧ (if k' = true then td σ H5 fun v H6 => r'' u v H6 fun z2 H7 => ∃ k2, z2 = .bl k2 ∧ Q k2 H7 else Q false H5) else Q false H3)
theorem pt_chain3 {op op' op'' : CmpOp} {r r' r'' : R2} (ho : OpR X (compareOp op) r) (ho' : OpR X (compareOp op') r') (ho'' : OpR X (compareOp op'') r'') (ha : PE X a ta) (hb : PE X b tb) (hc : PE X c tc) (hd : PE X d td)
    (hm : lastMarks [op, op', op''] [b, c, d] = false := by with_unfolding_all rfl) : PT X (.Compare a [op, op', op''] [b, c, d] pos) (tChain3 r r' r'' ta tb tc td) := by
  refine ⟨fun pins s σ H Q I h => ?_⟩
  refine isTrue_chain (thn (ha.run pins s σ H _ I h) fun v s1 ⟨x, H1, I1, r1, q1⟩ => test_link (thn (hb.run pins s1 σ H1 _ I1 q1) fun u s2 ⟨y, H2, I2, r2, q2⟩ =>
    thn (ho pins s2 σ H2 x y v u _ I2 r1 r2 q2) fun e s3 ⟨z, H3, I3, r3, k, e, q3⟩ => ?_)) hm
  subst e
  cases r3
  refine wpAny_truthy_bool ?_
  cases k with
  | false => exact ite_ff ⟨H3, I3, q3⟩
  | true =>
    refine ite_tt (test_link (thn (hc.run pins s3 σ H3 _ I3 q3) fun w' s4 ⟨z', H4, I4, r4, q4⟩ => thn (ho' pins s4 σ H4 y z' u w' _ I4 r2 r4 q4) fun d' s5 ⟨z2, H5, I5, r5, k2, e2, q5⟩ => ?_))
    subst e2
    cases r5
    refine wpAny_truthy_bool ?_
    cases k2 with
    | false => exact ite_ff ⟨H5, I5, q5⟩
    | true =>
      refine ite_tt (test_last (thn (hd.run pins s5 σ H5 _ I5 q5) fun v' s6 ⟨z6, H6, I6, r6, q6⟩ => thn (ho'' pins s6 σ H6 z' z6 w' v' _ I6 r4 r6 q6) fun d7 s7 ⟨z7, H7, I7, r7, k7, e7, q7⟩ => ?_))
      subst e7
      cases r7
      exact wpAny_truthy_bool ⟨H7, I7, q7⟩
end

/-! ### rules with the written part named (for a comprehension's block) -/
theorem ixT {X : Cx} {K : PySem.W.Frag} (h : X.K = K) : IxR X (rIxT K) := by subst h; exact ix_tup
theorem ixLs {X : Cx} {K : PySem.W.Frag} (h : X.K = K) : IxR X (rIxL K) := by subst h; exact ix_list
theorem callLen {X : Cx} {K : PySem.W.Frag} (h : X.K = K) : CallR X (.builtin "len") (fun xs H Q => ∃ p ys, xs = [.ref p] ∧ (SqL K H p ys ∨ SqT K H p ys) ∧ Q (.int ys.length) H) := by subst h; exact call_len_seq
theorem callList {X : Cx} {K : PySem.W.Frag} (h : X.K = K) : CallR X (.type "list") (fun xs H Q => ∃ p ys, xs = [.ref p] ∧ (SqL K H p ys ∨ SqT K H p ys) ∧ ∀ l, H l = none → Q (.ref l) (upd H l (.lst ys))) := by subst h; exact call_list_of
theorem opInSeq {X : Cx} {K : PySem.W.Frag} (h : X.K = K) : OpR X (compareOp .In) (rIn K false) := by subst h; exact op_in_seq
theorem slL {X : Cx} {K : PySem.W.Frag} (h : X.K = K) : SlR X (rSlL K) := by subst h; exact sl_list
theorem slT {X : Cx} {K : PySem.W.Frag} (h : X.K = K) : SlR X (rSlA K) := by subst h; exact sl_tupA
end Lf

/-! # LfMir -/
set_option Elab.async false
set_option linter.all false
set_option maxRecDepth 100000
set_option maxHeartbeats 4000000
namespace Lf
open PySem L2

/-! ## the draws -/
def cellAt (ns : List Int) (k : Int) : Int := if k < (ns.length : Int) then ns.getD k.toNat 0 else 0
def draw (ns : List Int) (k : Int) : Int :=
  ((cellAt ns (k % 61) + 7919 * k + 104729) * 48271 % 2147483647 * ((cellAt ns (k % 61) + 7919 * k + 104729) * 48271 % 2147483647)) % 2147483647 * 16807 % 2147483647 / 8
theorem draw_nn (ns : List Int) (k : Int) : 0 ≤ draw ns k := by unfold draw; omega
theorem draw_lt (ns : List Int) (k : Int) : draw ns k < 268435456 := by unfold draw; omega
def sgL : List Str := ["a", "ab", "abc", "b", "0123456789", "xyz-", "ba ", "Zz.", "c,", "\n/"]
def sayL : List Str := ["x", "ab", "-", ": ", "a", ", ", "Dear ", "\n", "b", "ba", "(0)", "c;c"]
def nmI : List Str := ["who", "day", "w"]
def nmO : List Str := ["who", "w", "day", "first_name = 1?", "whom", "e-mail@"]
def gapL : List Str := ["", ", ", "\n", "a", "--"]
def pick (l : List Str) (c : Int) : Str := l.getD (c % (l.length : Int)).toNat Str.empty

/-! ## pieces -/
inductive P0 where
  | say (t : Str)
  | ask (nm sg : Str) (lo hi : Int)
inductive Pc where
  | p0 (p : P0)
  | rows (nm : Str) (ps : List P0) (gap : Str) (lo hi : Int)
def askP (ns : List Int) (k : Int) (nm : Str) (most : Int) : P0 :=
  .ask nm (pick sgL (draw ns k)) (draw ns k / 10 % (most + 1)) (draw ns k / 10 % (most + 1) + draw ns k / 60 % (most + 1 - draw ns k / 10 % (most + 1)))
def innerAt (ns : List Int) (k most : Int) (j : Nat) : P0 :=
  if draw ns (k + 1 + j) % 3 = 0 then .say (pick sayL (draw ns (k + 5 + j))) else askP ns (k + 9 + j) (nmI.getD j Str.empty) most
def innerP (ns : List Int) (k many most : Int) : List P0 := (List.range (1 + draw ns k % many).toNat).map (innerAt ns k most)
def pieceP (ns : List Int) (k : Int) (nm : Str) (most : Int) : Pc :=
  if draw ns k % 5 < 2 then .p0 (.say (pick sayL (draw ns k / 5)))
  else if draw ns k % 5 < 4 then .p0 (askP ns (k + 1) nm most)
  else .rows nm (innerP ns (k + 2) 3 most) (pick gapL (draw ns k / 5)) (draw ns k / 25 % 4) (draw ns k / 25 % 4 + draw ns k / 100 % (4 - draw ns k / 25 % 4))
def pieceAt (ns : List Int) (most : Int) (k : Nat) : Pc := pieceP ns (10 + 20 * k) (pick nmO (k + draw ns 2)) most
def piecesP (ns : List Int) (many most : Int) : List Pc := (List.range (1 + draw ns 1 % many).toNat).map (pieceAt ns most)

/-! ## how they lie in the heap -/
def P0.vs : P0 → List V
  | .say t => [.str "say", .str t]
  | .ask nm sg lo hi => [.str "ask", .str nm, .str sg, .int lo, .int hi]
def R0 (K : PySem.W.Frag) (G : Hp) (v : V) (p : P0) : Prop := ∃ a, v = .ref a ∧ SqT K G a p.vs
def RP (K : PySem.W.Frag) (G : Hp) (v : V) : Pc → Prop
  | .p0 p => R0 K G v p
  | .rows nm ps gap lo hi => ∃ a l xs, v = .ref a ∧ SqT K G a [.str "rows", .str nm, .ref l, .str gap, .int lo, .int hi] ∧ SqL K G l xs ∧ Paired (R0 K G) xs ps
theorem R0.mono {K : PySem.W.Frag} {G G' : Hp} {v : V} {p : P0} (h : R0 K G v p) (s : Same G G') : R0 K G' v p := by
  obtain ⟨a, e, t⟩ := h; exact ⟨a, e, s.tup t⟩
theorem Paired.monoP {α β : Type} {F F' : α → β → Prop} {xs : List α} {ys : List β} (h : Paired F xs ys) (f : ∀ a b, F a b → F' a b) : Paired F' xs ys := L2.Paired.mapP h f
theorem RP.mono {K : PySem.W.Frag} {G G' : Hp} {v : V} {p : Pc} (h : RP K G v p) (s : Same G G') : RP K G' v p := by
  cases p with
  | p0 p => exact R0.mono h s
  | rows nm ps gap lo hi =>
    obtain ⟨a, l, xs, e, t, q, r⟩ := h
    exact ⟨a, l, xs, e, s.tup t, s.seq q, Paired.monoP r fun _ _ z => z.mono s⟩
theorem Paired.snoc {α β : Type} {F : α → β → Prop} {xs : List α} {ys : List β} {x : α} {y : β} (h : Paired F xs ys) (z : F x y) : Paired F (xs ++ [x]) (ys ++ [y]) := by
  induction h with
  | nil => exact .cons z .nil
  | cons a b ih => exact .cons a ih
theorem map_range_succ {α : Type} (f : Nat → α) (n : Nat) : (List.range (n + 1)).map f = (List.range n).map f ++ [f n] := by
  rw [List.range_succ, List.map_append]; rfl

/-! ## promises -/
section
variable (K : PySem.W.Frag)
def sp__law_cell_at : Sp := fun vs H Q _ => ∃ (a : Addr) (ns : List Int) (k : Int), vs = [.ref a, .int k] ∧ SqL K H a (ns.map V.int) ∧ 0 ≤ k ∧ Q (.int (cellAt ns k)) H
def sp__law_draw : Sp := fun vs H Q _ => ∃ (a : Addr) (ns : List Int) (k : Int), vs = [.ref a, .int k] ∧ SqL K H a (ns.map V.int) ∧ Q (.int (draw ns k)) H
def sp__law_signs (_ : PySem.W.Frag) : Sp := fun vs H Q _ => ∃ (c : Int), vs = [.int c] ∧ RetV H (.str (pick sgL c)) Q
def sp__law_say (_ : PySem.W.Frag) : Sp := fun vs H Q _ => ∃ (c : Int), vs = [.int c] ∧ RetV H (.str (pick sayL c)) Q
def sp__law_ask : Sp := fun vs H Q _ => ∃ (a : Addr) (ns : List Int) (k : Int) (nm : Str) (most : Int) (G : Hp), vs = [.ref a, .int k, .str nm, .int most] ∧ Same G H ∧ SqL K G a (ns.map V.int) ∧ 0 ≤ most ∧
  Ret G H (fun v G' => R0 K G' v (askP ns k nm most)) Q
def sp__law_inner : Sp := fun vs H Q _ => ∃ (a : Addr) (ns : List Int) (k many most : Int) (G : Hp), vs = [.ref a, .int k, .int many, .int most] ∧ Same G H ∧ SqL K G a (ns.map V.int) ∧ 1 ≤ many ∧ many ≤ 3 ∧ 0 ≤ most ∧
  Ret G H (fun v G' => ∃ l xs, v = .ref l ∧ SqL K G' l xs ∧ Paired (R0 K G') xs (innerP ns k many most)) Q
def sp__law_piece : Sp := fun vs H Q _ => ∃ (a : Addr) (ns : List Int) (k : Int) (nm : Str) (most : Int) (G : Hp), vs = [.ref a, .int k, .str nm, .int most] ∧ Same G H ∧ SqL K G a (ns.map V.int) ∧ 0 ≤ most ∧
  Ret G H (fun v G' => RP K G' v (pieceP ns k nm most)) Q
def sp__law_pieces : Sp := fun vs H Q _ => ∃ (a : Addr) (ns : List Int) (many most : Int) (G : Hp), vs = [.ref a, .int many, .int most] ∧ Same G H ∧ SqL K G a (ns.map V.int) ∧ 1 ≤ many ∧ many ≤ 6 ∧ 0 ≤ most ∧
  Ret G H (fun v G' => ∃ l xs, v = .ref l ∧ SqL K G' l xs ∧ Paired (RP K G') xs (piecesP ns many most)) Q
end
theorem pick_at (l : List Str) (c : Int) {n : Int} (h : (l.length : Int) = n) (h0 : 0 < n := by decide) : atI (l.map V.str) (c % n) = some (.str (pick l c)) := by
  subst h
  have h1 := Int.emod_nonneg c (show (l.length : Int) ≠ 0 by omega)
  have h2 := Int.emod_lt_of_pos c h0
  have hj : (c % (l.length : Int)).toNat < l.length := by omega
  refine at_of (j := (c % (l.length : Int)).toNat) (by omega) ?_
  unfold pick
  rw [List.getElem?_map, List.getElem?_eq_getElem hj, List.getD_eq_getElem?_getD, List.getElem?_eq_getElem hj]
  rfl
end Lf

/-! # LfMir2 -/
set_option Elab.async false
set_option linter.all false
set_option maxRecDepth 100000
set_option maxHeartbeats 4000000
namespace Lf
open PySem L2

/-! ## texts -/
def ofL (l : List Nat) : Str := ⟨l.toArray⟩
theorem ofL_snoc (l : List Nat) (c : Nat) : ofL l ++ (⟨#[c]⟩ : Str) = ofL (l ++ [c]) := by
  show (⟨l.toArray ++ #[c]⟩ : Str) = ⟨(l ++ [c]).toArray⟩
  simp
theorem ofL_len (l : List Nat) : (ofL l).length = l.length := by
  show l.toArray.size = l.length
  simp
theorem str_len_app (a b : Str) : (a ++ b).length = a.length + b.length := by
  show (a.cps ++ b.cps).size = a.cps.size + b.cps.size
  simp
theorem ofL_cps (l : List Nat) : (ofL l).cps.toList = l := by
  show l.toArray.toList = l
  simp
theorem str_ext {a b : Str} (h : a.cps.toList = b.cps.toList) : a = b := by
  cases a; cases b; congr 1; exact Array.ext' h
theorem app_cps (a b : Str) : (a ++ b).cps.toList = a.cps.toList ++ b.cps.toList := by
  show (a.cps ++ b.cps).toList = _
  simp
theorem empty_app (a : Str) : Str.empty ++ a = a := str_ext (by rw [app_cps]; rfl)
def Sgs (t : Str) : Prop := ∀ c ∈ t.cps.toList, c ∈ (("abcdefghijklmnopqrstuvwxyzABCDEFGHIJKLMNOPQRSTUVWXYZ0123456789 .,:;-/()\n" : Str)).cps.toList
def SIGNSs : Str := "abcdefghijklmnopqrstuvwxyzABCDEFGHIJKLMNOPQRSTUVWXYZ0123456789 .,:;-/()\n"
def G_SIGNS (mg : Str → Option Value) : Prop := ∃ t, mg "SIGNS" = some (.str ("abcdefghijklmnopqrstuvwxyzABCDEFGHIJKLMNOPQRSTUVWXYZ0123456789 .,:;-/()\n" : Str) t)

/-! ## forms that are good -/
def ok0 : P0 → Prop
  | .say t => 1 ≤ t.length ∧ t.length ≤ 12 ∧ Sgs t
  | .ask nm sg lo hi => nm ≠ Str.empty ∧ 1 ≤ sg.length ∧ sg.length ≤ 20 ∧ Sgs sg ∧ sg.cps.toList.Nodup ∧ 0 ≤ lo ∧ lo ≤ hi ∧ hi ≤ 4
def nm0 : P0 → Option Str
  | .say _ => none
  | .ask nm _ _ _ => some nm
def nmP : Pc → Option Str
  | .p0 p => nm0 p
  | .rows nm _ _ _ _ => some nm
def nms0 (ps : List P0) : List Str := ps.filterMap nm0
def nms (ps : List Pc) : List Str := ps.filterMap nmP
def okP : Pc → Prop
  | .p0 p => ok0 p
  | .rows nm ips gap lo hi => nm ≠ Str.empty ∧ 1 ≤ ips.length ∧ ips.length ≤ 3 ∧ (∀ p ∈ ips, ok0 p) ∧ (nms0 ips).Nodup ∧ gap.length ≤ 5 ∧ Sgs gap ∧ 0 ≤ lo ∧ lo ≤ hi ∧ hi ≤ 3
structure okF (ps : List Pc) : Prop where
  l1 : 1 ≤ ps.length
  l6 : ps.length ≤ 6
  ok : ∀ p ∈ ps, okP p
  nd : (nms ps).Nodup

/-! ## values -/
inductive Vl where
  | tx (s : Str)
  | rws (rs : List (List (Str × Str)))
def look {α : Type} (n : Str) (l : List (Str × α)) : Option α := (l.find? fun p => decide (p.1 = n)).map (·.2)
def fpiece (f : Str → Str) : P0 → Str
  | .say t => t
  | .ask nm _ _ _ => f nm
def lineP (f : Str → Str) (ps : List P0) : Str := ps.foldl (fun t p => t ++ fpiece f p) Str.empty
def wpiece (f : Str → Str) (g : Str → List (Str → Str)) : Pc → Str
  | .p0 p => fpiece f p
  | .rows nm ips gap _ _ => Txt.join gap ((g nm).map fun r => lineP r ips)
def writtenP (f : Str → Str) (g : Str → List (Str → Str)) (ps : List Pc) : Str := ps.foldl (fun t p => t ++ wpiece f g p) Str.empty
def rowf (r : List (Str × Str)) (n : Str) : Str := (look n r).getD Str.empty
def fv (vals : List (Str × Vl)) (n : Str) : Str := match look n vals with
  | some (.tx s) => s
  | _ => Str.empty
def gv (vals : List (Str × Vl)) (n : Str) : List (Str → Str) := match look n vals with
  | some (.rws rs) => rs.map rowf
  | _ => []
def fit0 (sg : Str) (lo hi : Int) (s : Str) : Prop := lo ≤ s.length ∧ s.length ≤ hi ∧ ∀ c ∈ s.cps.toList, c ∈ sg.cps.toList
def fits0 (r : List (Str × Str)) : P0 → Prop
  | .say _ => True
  | .ask nm sg lo hi => ∃ s, look nm r = some s ∧ fit0 sg lo hi s
def fitsP (vals : List (Str × Vl)) : Pc → Prop
  | .p0 (.say _) => True
  | .p0 (.ask nm sg lo hi) => ∃ s, look nm vals = some (.tx s) ∧ fit0 sg lo hi s
  | .rows nm ips _ lo hi => ∃ rs, look nm vals = some (.rws rs) ∧ lo ≤ rs.length ∧ rs.length ≤ hi ∧ ∀ r ∈ rs, ∀ p ∈ ips, fits0 r p
def wordL (ns : List Int) (k : Int) (sg : Str) (lo hi : Int) : List Nat :=
  (List.range (lo + draw ns k % (hi - lo + 1)).toNat).map fun (j : Nat) => sg.cps.getD (draw ns (k + 1 + j) % (sg.length : Int)).toNat 0
def wordP (ns : List Int) (k : Int) (sg : Str) (lo hi : Int) : Str := ofL (wordL ns k sg lo hi)
def rowEl (ns : List Int) (k : Int) (j : Nat) : Option P0 → Option (Str × Str)
  | some (.ask nm sg lo hi) => some (nm, wordP ns (k + 6 * j) sg lo hi)
  | _ => none
def rowP (ns : List Int) (k : Int) (ps : List P0) : List (Str × Str) := (List.range ps.length).filterMap fun j => rowEl ns k j ps[j]?
def valEl (ns : List Int) (start : Int) (k : Nat) : Option Pc → Option (Str × Vl)
  | some (.p0 (.ask nm sg lo hi)) => some (nm, .tx (wordP ns (start + 90 * k) sg lo hi))
  | some (.rows nm ips _ lo hi) => some (nm, .rws ((List.range (lo + draw ns (start + 90 * k) % (hi - lo + 1)).toNat).map fun (j : Nat) => rowP ns (start + 90 * k + 1 + 25 * j) ips))
  | _ => none
def valuesP (ns : List Int) (start : Int) (ps : List Pc) : List (Str × Vl) := (List.range ps.length).filterMap fun k => valEl ns start k ps[k]?

/-! ## how values lie in the heap -/
def rowK (r : List (Str × Str)) : List (Key × V) := r.map fun p => (Sum.inr p.1, V.str p.2)
def RD (G : Hp) (v : V) (r : List (Str × Str)) : Prop := ∃ d, v = .ref d ∧ G d = some (.dK (rowK r))
def RVl (K : PySem.W.Frag) (G : Hp) (v : V) : Vl → Prop
  | .tx s => v = .str s
  | .rws rs => ∃ l xs, v = .ref l ∧ SqL K G l xs ∧ Paired (RD G) xs rs
def RKv (K : PySem.W.Frag) (G : Hp) (p : Key × V) (q : Str × Vl) : Prop := p.1 = Sum.inr q.1 ∧ RVl K G p.2 q.2
def RV (K : PySem.W.Frag) (G : Hp) (v : V) (vals : List (Str × Vl)) : Prop := ∃ d kvs, v = .ref d ∧ G d = some (.dK kvs) ∧ Paired (RKv K G) kvs vals
theorem RD.mono {G G' : Hp} {v : V} {r : List (Str × Str)} (h : RD G v r) (s : Same G G') : RD G' v r := by
  obtain ⟨d, e, q⟩ := h; exact ⟨d, e, s _ _ q⟩
theorem RVl.mono {K : PySem.W.Frag} {G G' : Hp} {v : V} {vl : Vl} (h : RVl K G v vl) (s : Same G G') : RVl K G' v vl := by
  cases vl with
  | tx t => exact h
  | rws rs => obtain ⟨l, xs, e, q, p⟩ := h; exact ⟨l, xs, e, s.seq q, Paired.monoP p fun _ _ z => z.mono s⟩
theorem RKv.mono {K : PySem.W.Frag} {G G' : Hp} {p : Key × V} {q : Str × Vl} (h : RKv K G p q) (s : Same G G') : RKv K G' p q := ⟨h.1, h.2.mono s⟩
theorem RV.mono {K : PySem.W.Frag} {G G' : Hp} {v : V} {vals : List (Str × Vl)} (h : RV K G v vals) (s : Same G G') : RV K G' v vals := by
  obtain ⟨d, kvs, e, q, p⟩ := h; exact ⟨d, kvs, e, s _ _ q, Paired.monoP p fun _ _ z => z.mono s⟩
theorem val_row (r : List (Str × Str)) (n : Str) : valV (rowK r) (Sum.inr n : Key) = (look n r).map V.str := by
  induction r with
  | nil => rfl
  | cons p r ih =>
    unfold rowK look at *
    rw [List.map_cons]
    by_cases e : p.1 = n
    · rw [valV_pos (by rw [e]), List.find?_cons, decide_eq_true e]; rfl
    · rw [valV_neg (by intro q; exact e (Sum.inr.inj q)), ih, List.find?_cons, decide_eq_false e]
theorem val_RV {K : PySem.W.Frag} {G : Hp} {kvs : List (Key × V)} {vals : List (Str × Vl)} (h : Paired (RKv K G) kvs vals) (n : Str) :
    (∀ vl, look n vals = some vl → ∃ v, valV kvs (Sum.inr n : Key) = some v ∧ RVl K G v vl) ∧ (look n vals = none → valV kvs (Sum.inr n : Key) = none) := by
  induction h with
  | nil => exact ⟨fun _ e => (by cases e), fun _ => rfl⟩
  | @cons p q ps qs z _ ih =>
    obtain ⟨e1, e2⟩ := z
    unfold look at *
    rw [List.find?_cons]
    by_cases e : q.1 = n
    · rw [decide_eq_true e]
      have ek : p.1 = (Sum.inr n : Key) := by rw [e1, e]
      rw [valV_pos ek]
      exact ⟨fun vl h => ⟨p.2, rfl, by cases h; exact e2⟩, fun h => (by cases h)⟩
    · rw [decide_eq_false e]
      have ek : ¬ p.1 = (Sum.inr n : Key) := by rw [e1]; intro q; exact e (Sum.inr.inj q)
      rw [valV_neg ek]
      exact ih

/-! ## what stands in a form -/
/-- a piece, its inner pieces named -/
def RPi (K : PySem.W.Frag) (G : Hp) (v : V) (items : List V) : Pc → Prop
  | .p0 p => R0 K G v p
  | .rows nm ips gap lo hi => ∃ a l, v = .ref a ∧ SqT K G a [.str "rows", .str nm, .ref l, .str gap, .int lo, .int hi] ∧ SqL K G l items ∧ Paired (R0 K G) items ips
theorem RP.items {K : PySem.W.Frag} {G : Hp} {v : V} {p : Pc} (h : RP K G v p) : ∃ items, RPi K G v items p := by
  cases p with
  | p0 p => exact ⟨[], h⟩
  | rows nm ips gap lo hi => obtain ⟨a, l, xs, h1, h2, h3, h4⟩ := h; exact ⟨xs, a, l, h1, h2, h3, h4⟩
theorem RPi.mono {K : PySem.W.Frag} {G G' : Hp} {v : V} {items : List V} {p : Pc} (h : RPi K G v items p) (s : Same G G') : RPi K G' v items p := by
  cases p with
  | p0 p => exact R0.mono h s
  | rows nm ips gap lo hi => obtain ⟨a, l, h1, h2, h3, h4⟩ := h; exact ⟨a, l, h1, s.tup h2, s.seq h3, Paired.monoP h4 fun _ _ z => z.mono s⟩
def CopyR (H H' : Hp) (y z : V) (items : List V) : Pc → Prop
  | .p0 _ => z = y
  | .rows nm _ gap lo hi => ∃ t n, z = .ref t ∧ H t = none ∧ H' t = some (.tup [.str "rows", .str nm, .ref n, .str gap, .int lo, .int hi]) ∧ H n = none ∧ H' n = some (.lst items)
theorem CopyR.mono {H H' H2 : Hp} {y z : V} {items : List V} {p : Pc} (h : CopyR H H' y z items p) (s : Same H' H2) : CopyR H H2 y z items p := by
  cases p with
  | p0 p => exact h
  | rows nm ips gap lo hi =>
    obtain ⟨t, n, h5, h6, h7, h8, h9⟩ := h
    exact ⟨t, n, h5, h6, s _ _ h7, h8, s _ _ h9⟩
/-- the heap without some things -/
def hide (H : Hp) (l : List Addr) : Hp := fun a => if a ∈ l then none else H a
theorem hide_in {H : Hp} {l : List Addr} {a : Addr} (h : a ∈ l) : hide H l a = none := by unfold hide; rw [if_pos h]
theorem hide_out {H : Hp} {l : List Addr} {a : Addr} (h : a ∉ l) : hide H l a = H a := by unfold hide; rw [if_neg h]
theorem hide_same (H : Hp) (l : List Addr) : Same (hide H l) H := fun a o e => by
  by_cases h : a ∈ l
  · rw [hide_in h] at e; cases e
  · rw [hide_out h] at e; exact e
theorem hide_keep {H H' : Hp} (k : Keep H H') (l : List Addr) : Same (hide H l) (hide H' l) := fun a o e => by
  by_cases h : a ∈ l
  · rw [hide_in h] at e; cases e
  · rw [hide_out h] at e ⊢; exact k _ _ e
theorem hide_upd {H : Hp} {l : List Addr} {a : Addr} {o : HO} (h : a ∈ l) : hide (upd H a o) l = hide H l := by
  funext b
  by_cases hb : b ∈ l
  · rw [hide_in hb, hide_in hb]
  · rw [hide_out hb, hide_out hb, upd_ne (show b ≠ a from fun e => hb (by rw [e]; exact h))]
theorem hide_of {G H : Hp} {l : List Addr} (s : Same G H) (n : ∀ a ∈ l, G a = none) : Same G (hide H l) := fun a o e => by
  have : a ∉ l := fun m => by rw [n a m] at e; cases e
  rw [hide_out this]; exact s _ _ e
theorem SqT.hide {K : PySem.W.Frag} {H : Hp} {l : List Addr} {a : Addr} {xs : List V} (h : SqT K H a xs) (hl : ∀ b ∈ l, ∃ ys, H b = some (.lst ys)) : SqT K (hide H l) a xs := by
  rcases h with (h | ⟨o, h⟩) | h
  · refine .inl (.inl ?_)
    rw [hide_out fun m => ?_]; exact h
    obtain ⟨ys, e⟩ := hl a m
    rw [h] at e; cases e
  · refine .inl (.inr ⟨o, ?_⟩)
    rw [hide_out fun m => ?_]; exact h
    obtain ⟨ys, e⟩ := hl a m
    rw [h] at e; cases e
  · exact .inr h
theorem R0.hide {K : PySem.W.Frag} {H : Hp} {l : List Addr} {v : V} {p : P0} (h : R0 K H v p) (hl : ∀ b ∈ l, ∃ ys, H b = some (.lst ys)) : R0 K (hide H l) v p := by
  obtain ⟨a, e, t⟩ := h; exact ⟨a, e, SqT.hide t hl⟩
theorem CopyR.hide {H0 H H' : Hp} {y z : V} {items : List V} {p : Pc} {l : List Addr} (h : CopyR H H' y z items p) (k : Keep H0 H) (hl : ∀ a ∈ l, H a ≠ none) : CopyR H0 (hide H' l) y z items p := by
  cases p with
  | p0 p => exact h
  | rows nm ips gap lo hi =>
    obtain ⟨t, n, h5, h6, h7, h8, h9⟩ := h
    exact ⟨t, n, h5, k.free h6, by rw [hide_out fun m => hl _ m h6]; exact h7, k.free h8, by rw [hide_out fun m => hl _ m h8]; exact h9⟩
def CopyE (K : PySem.W.Frag) (H H' : Hp) (y z : V) (p : Pc) : Prop := ∃ items, RPi K H y items p ∧ CopyR H H' y z items p
theorem CopyE.rp {K : PySem.W.Frag} {H H' : Hp} {y z : V} {p : Pc} (h : CopyE K H H' y z p) (k : Keep H H') : RP K H' z p := by
  obtain ⟨items, h1, h2⟩ := h
  cases p with
  | p0 p => have e : z = y := h2; subst e; exact R0.mono h1 k.same
  | rows nm ips gap lo hi =>
    obtain ⟨a, l, _, _, _, h4⟩ := h1
    obtain ⟨t, n, h5, h6, h7, h8, h9⟩ := h2
    exact ⟨t, n, items, h5, SqT.of h7, SqL.of h9, Paired.monoP h4 fun _ _ z => z.mono k.same⟩
def FormAt (K : PySem.W.Frag) (G : Hp) (x : Addr) (ps : List Pc) : Prop :=
  ∃ C dx f zs, Cls K C ∧ NoAttr K C "pieces" ∧ G x = some (.ins C dx (putF "pieces" (.ref f) [])) ∧ SqL K G f zs ∧ Paired (RP K G) zs ps
theorem FormAt.mono {K : PySem.W.Frag} {G G' : Hp} {x : Addr} {ps : List Pc} (h : FormAt K G x ps) (s : Same G G') : FormAt K G' x ps := by
  obtain ⟨C, dx, f, zs, h1, h2, h3, h4, h5⟩ := h
  exact ⟨C, dx, f, zs, h1, h2, s _ _ h3, s.seq h4, Paired.monoP h5 fun _ _ z => z.mono s⟩
def AsksIn (kvs : List (Key × V)) (f : Str → Str) (ps : List P0) : Prop := ∀ nm sg lo hi, P0.ask nm sg lo hi ∈ ps → valV kvs (Sum.inr nm : Key) = some (.str (f nm))
def AsksFit (f : Str → Str) (ps : List P0) : Prop := ∀ nm sg lo hi, P0.ask nm sg lo hi ∈ ps → fit0 sg lo hi (f nm)

/-! ## lists side by side -/
theorem Paired.at {α β : Type} {F : α → β → Prop} : ∀ {xs : List α} {ys : List β} {i : Nat} {x : α}, Paired F xs ys → xs[i]? = some x → ∃ y, ys[i]? = some y ∧ F x y
  | _, _, _, _, .nil, e => by simp at e
  | _, _, 0, _, .cons r _, e => by simp at e; subst e; exact ⟨_, rfl, r⟩
  | _, _, i + 1, x, .cons _ t, e => by
    obtain ⟨u, h1, h2⟩ := Paired.at (i := i) (x := x) t (by simpa using e)
    exact ⟨u, by simpa using h1, h2⟩
theorem Paired.ats {α β : Type} {F : α → β → Prop} : ∀ {xs : List α} {ys : List β} {i : Nat} {y : β}, Paired F xs ys → ys[i]? = some y → ∃ x, xs[i]? = some x ∧ F x y
  | _, _, _, _, .nil, e => by simp at e
  | _, _, 0, _, .cons r _, e => by simp at e; subst e; exact ⟨_, rfl, r⟩
  | _, _, i + 1, y, .cons _ t, e => by
    obtain ⟨u, h1, h2⟩ := Paired.ats (i := i) (y := y) t (by simpa using e)
    exact ⟨u, by simpa using h1, h2⟩
theorem Paired.len {α β : Type} {F : α → β → Prop} {xs : List α} {ys : List β} (h : Paired F xs ys) : xs.length = ys.length := PySem.Paired.length h
theorem Paired.of_at {α β : Type} {F : α → β → Prop} : ∀ {xs : List α} {ys : List β}, xs.length = ys.length → (∀ (i : Nat) x y, xs[i]? = some x → ys[i]? = some y → F x y) → Paired F xs ys
  | [], [], _, _ => .nil
  | x :: xs, y :: ys, h, f => .cons (f 0 x y rfl rfl) (Paired.of_at (by simpa using h) fun i a b h1 h2 => f (i + 1) a b (by simpa using h1) (by simpa using h2))
  | [], _ :: _, h, _ => by simp at h
  | _ :: _, [], h, _ => by simp at h
theorem take_snoc {α : Type} {l : List α} {i : Nat} {x : α} (h : l[i]? = some x) : l.take (i + 1) = l.take i ++ [x] := by
  rw [List.take_succ, h]; rfl
theorem lineP_snoc (f : Str → Str) {ps : List P0} {i : Nat} {p : P0} (h : ps[i]? = some p) : lineP f (ps.take (i + 1)) = lineP f (ps.take i) ++ fpiece f p := by
  unfold lineP; rw [take_snoc h, List.foldl_append]; rfl
theorem writtenP_snoc (f : Str → Str) (g : Str → List (Str → Str)) {ps : List Pc} {i : Nat} {p : Pc} (h : ps[i]? = some p) : writtenP f g (ps.take (i + 1)) = writtenP f g (ps.take i) ++ wpiece f g p := by
  unfold writtenP; rw [take_snoc h, List.foldl_append]; rfl
theorem mem_at {α : Type} {l : List α} {i : Nat} {x : α} (h : l[i]? = some x) : x ∈ l := List.mem_of_getElem? h
theorem at_lt {α : Type} {l : List α} {i : Nat} {x : α} (h : l[i]? = some x) : i < l.length := (List.getElem?_eq_some_iff.mp h).1
theorem fpiece_le {f : Str → Str} {p : P0} (h : ok0 p) (hf : ∀ nm sg lo hi, p = .ask nm sg lo hi → fit0 sg lo hi (f nm)) : (fpiece f p).length ≤ 12 := by
  cases p with
  | say t => exact h.2.1
  | ask nm sg lo hi =>
    have a := (hf nm sg lo hi rfl).2.1
    obtain ⟨_, _, _, _, _, _, _, b⟩ := h
    show (f nm).length ≤ 12
    omega
theorem lineP_le {f : Str → Str} : ∀ {ps : List P0}, (∀ p ∈ ps, (fpiece f p).length ≤ 12) → ∀ i, (lineP f (ps.take i)).length ≤ 12 * i
  | ps, h, 0 => Nat.le_refl _
  | ps, h, i + 1 => by
    have ih := lineP_le h i
    cases e : ps[i]? with
    | none => rw [List.take_succ, e]; simp; omega
    | some p => rw [lineP_snoc f e, str_len_app]; have := h p (mem_at e); omega
theorem lineP_len {f : Str → Str} {ps : List P0} (h : ∀ p ∈ ps, ok0 p) (hf : AsksFit f ps) (i : Nat) : (lineP f (ps.take i)).length ≤ 12 * i :=
  lineP_le (fun p hp => fpiece_le (h p hp) fun nm sg lo hi e => hf nm sg lo hi (e ▸ hp)) i
theorem lineP_all {f : Str → Str} {ps : List P0} (h : ∀ p ∈ ps, ok0 p) (hf : AsksFit f ps) : (lineP f ps).length ≤ 12 * ps.length := by
  have := lineP_len h hf ps.length
  rwa [List.take_length] at this

/-! ## promises -/
section
variable (K : PySem.W.Frag)
def sp__law_word : Sp := fun vs H Q _ => ∃ (a : Addr) (ns : List Int) (k : Int) (p : Addr) (nm sg : Str) (lo hi : Int), vs = [.ref a, .int k, .ref p] ∧ SqL K H a (ns.map V.int) ∧ SqT K H p (P0.ask nm sg lo hi).vs ∧
  1 ≤ sg.length ∧ sg.length ≤ 20 ∧ 0 ≤ lo ∧ lo ≤ hi ∧ hi ≤ 4 ∧ Q (.str (wordP ns k sg lo hi)) H
def sp__law_row : Sp := fun vs H Q _ => ∃ (a : Addr) (ns : List Int) (k : Int) (l : Addr) (xs : List V) (ps : List P0) (G : Hp), vs = [.ref a, .int k, .ref l] ∧ Same G H ∧ SqL K G a (ns.map V.int) ∧ SqL K G l xs ∧ Paired (R0 K G) xs ps ∧
  (∀ p ∈ ps, ok0 p) ∧ (nms0 ps).Nodup ∧ ps.length ≤ 100 ∧ Ret G H (fun v G' => RD G' v (rowP ns k ps)) Q
def sp__law_values : Sp := fun vs H Q _ => ∃ (a : Addr) (ns : List Int) (start : Int) (l : Addr) (xs : List V) (ps : List Pc) (G : Hp), vs = [.ref a, .int start, .ref l] ∧ Same G H ∧ SqL K G a (ns.map V.int) ∧ SqL K G l xs ∧ Paired (RP K G) xs ps ∧
  okF ps ∧ Ret G H (fun v G' => RV K G' v (valuesP ns start ps)) Q
def sp__law_line : Sp := fun vs H Q _ => ∃ (l : Addr) (xs : List V) (ps : List P0) (d : Addr) (kvs : List (Key × V)) (f : Str → Str), vs = [.ref l, .ref d] ∧ SqL K H l xs ∧ Paired (R0 K H) xs ps ∧ Rd H d (.dK kvs) ∧ AsksIn kvs f ps ∧
  ps.length ≤ 6 ∧ (∀ p ∈ ps, ok0 p) ∧ AsksFit f ps ∧ Q (.str (lineP f ps)) H
def sp__law_written : Sp := fun vs H Q _ => ∃ (l : Addr) (xs : List V) (ps : List Pc) (v : V) (vals : List (Str × Vl)), vs = [.ref l, v] ∧ SqL K H l xs ∧ Paired (RP K H) xs ps ∧ RV K H v vals ∧
  ps.length ≤ 6 ∧ (∀ p ∈ ps, okP p ∧ fitsP vals p) ∧ RetV H (.str (writtenP (fv vals) (gv vals) ps)) Q
def sp_ask_text (_ : PySem.W.Frag) : Sp := fun vs H Q _ => ∃ (t : Str) (lo hi : Int), vs = [.str t, .int lo, .int hi] ∧ lo ≤ t.length ∧ t.length ≤ hi ∧ hi ≤ 100 ∧ Sgs t ∧ Q .non H
def sp_ask_count (_ : PySem.W.Frag) : Sp := fun vs H Q _ => ∃ (a b c : Int), vs = [.int a, .int b, .int c] ∧ 0 ≤ a ∧ a ≤ b ∧ b ≤ c ∧ Q .non H
def sp_look_at_piece : Sp := fun vs H Q _ => ∃ (a nl : Addr) (p : P0) (ns : List Str) (G : Hp), vs = [.ref a, .ref nl] ∧ Same G H ∧ G nl = none ∧ SqT K G a p.vs ∧ H nl = some (.lst (ns.map V.str)) ∧ ns.length ≤ 100 ∧ ok0 p ∧
  (∀ n, nm0 p = some n → n ∉ ns) ∧ ∀ H', (∀ b, b ≠ nl → H' b = H b) → H' nl = some (.lst ((ns ++ nms0 [p]).map V.str)) → Q .non H'
def sp_look_at_rows : Sp := fun vs H Q _ => ∃ (a nl : Addr) (nm : Str) (ips : List P0) (gap : Str) (lo hi : Int) (ns : List Str) (G : Hp), vs = [.ref a, .ref nl] ∧ Same G H ∧ G nl = none ∧ RP K G (.ref a) (.rows nm ips gap lo hi) ∧
  H nl = some (.lst (ns.map V.str)) ∧ ns.length ≤ 100 ∧ okP (.rows nm ips gap lo hi) ∧ nm ∉ ns ∧
  ∀ H', (∀ b o, b ≠ nl → H b = some o → H' b = some o) → H' nl = some (.lst ((ns ++ [nm]).map V.str)) → Q .non H'
def sp_copied : Sp := fun vs H Q _ => ∃ (v : V) (items : List V) (p : Pc), vs = [v] ∧ RPi K H v items p ∧ ∀ z H', Keep H H' → CopyR H H' v z items p → Q z H'
def sp_Form___init__ : Sp := fun vs H Q _ => ∃ (x dx C h : Addr) (ys : List V) (ps : List Pc) (H0 : Hp), vs = [.ref x, .ref h] ∧ H0 x = none ∧ H0 dx = none ∧ dx ≠ x ∧ H = upd (upd H0 dx (.own x)) x (.ins C dx []) ∧
  Cls K C ∧ NoAttr K C "pieces" ∧ SqL K H0 h ys ∧ Paired (RP K H0) ys ps ∧ okF ps ∧
  ∀ f zs H', Keep H0 H' → H' x = some (.ins C dx (putF "pieces" (.ref f) [])) → H0 f = none → H' f = some (.lst zs) → zs.length = ys.length →
    (∀ (i : Nat) y z p, ys[i]? = some y → zs[i]? = some z → ps[i]? = some p → CopyE K H0 H' y z p) → Q .non H'
def sp_names_of : Sp := fun vs H Q _ => ∃ (x : Addr) (ps : List Pc), vs = [.ref x] ∧ FormAt K H x ps ∧ ps.length ≤ 6 ∧ ∀ l H', Keep H H' → H l = none → H' l = some (.lst ((nms ps).map V.str)) → Q (.ref l) H'
def sp_ask_value : Sp := fun vs H Q _ => ∃ (a d : Addr) (nm sg : Str) (lo hi : Int) (kvs : List (Key × V)) (s : Str), vs = [.ref a, .ref d] ∧ SqT K H a (P0.ask nm sg lo hi).vs ∧ Rd H d (.dK kvs) ∧ valV kvs (Sum.inr nm : Key) = some (.str s) ∧
  fit0 sg lo hi s ∧ hi ≤ 100 ∧ Q (.str s) H
def sp_filled0 : Sp := fun vs H Q _ => ∃ (l : Addr) (xs : List V) (ps : List P0) (d : Addr) (kvs : List (Key × V)) (f : Str → Str), vs = [.ref l, .ref d] ∧ SqL K H l xs ∧ Paired (R0 K H) xs ps ∧ Rd H d (.dK kvs) ∧ AsksIn kvs f ps ∧
  ps.length ≤ 6 ∧ (∀ p ∈ ps, ok0 p) ∧ AsksFit f ps ∧ Q (.str (lineP f ps)) H
def sp_rows_filled : Sp := fun vs H Q _ => ∃ (a d : Addr) (nm : Str) (ips : List P0) (gap : Str) (lo hi : Int) (kvs : List (Key × V)) (rv : V) (rs : List (List (Str × Str))), vs = [.ref a, .ref d] ∧ RP K H (.ref a) (.rows nm ips gap lo hi) ∧
  Rd H d (.dK kvs) ∧ valV kvs (Sum.inr nm : Key) = some rv ∧ RVl K H rv (.rws rs) ∧ okP (.rows nm ips gap lo hi) ∧ lo ≤ rs.length ∧ rs.length ≤ hi ∧ (∀ r ∈ rs, ∀ p ∈ ips, fits0 r p) ∧
  RetV H (.str (Txt.join gap (rs.map fun r => lineP (rowf r) ips))) Q
def sp_filled : Sp := fun vs H Q _ => ∃ (l : Addr) (xs : List V) (ps : List Pc) (v : V) (vals : List (Str × Vl)), vs = [.ref l, v] ∧ SqL K H l xs ∧ Paired (RP K H) xs ps ∧ RV K H v vals ∧
  ps.length ≤ 6 ∧ (∀ p ∈ ps, okP p ∧ fitsP vals p) ∧ RetV H (.str (writtenP (fv vals) (gv vals) ps)) Q
def sp_fill : Sp := fun vs H Q _ => ∃ (x : Addr) (ps : List Pc) (v : V) (vals : List (Str × Vl)), vs = [.ref x, v] ∧ FormAt K H x ps ∧ RV K H v vals ∧
  ps.length ≤ 6 ∧ (∀ p ∈ ps, okP p ∧ fitsP vals p) ∧ RetV H (.str (writtenP (fv vals) (gv vals) ps)) Q
end
end Lf
namespace Lf
open PySem L2
/-- a class whose instances hold pieces -/
def CF (K : PySem.W.Frag) (C : Addr) : Prop := Cls K C ∧ NoAttr K C "pieces"
def sp_law (K : PySem.W.Frag) : Sp := fun vs H Q _ => ∃ (a : Addr) (ns : List Int), vs = [.ref a] ∧ SqL K H a (ns.map V.int) ∧ ∀ H', Q (.bl true) H'
end Lf

/-! # LfRd -/
set_option Elab.async false
set_option linter.all false
set_option maxRecDepth 100000
set_option maxHeartbeats 4000000
namespace Lf
open PySem L2
/-! ## small helps for the readings -/
theorem at_gen {α : Type} {xs : List α} {z : Int} {j : Nat} {v : α} (e : z = (j : Int)) (h : xs[j]? = some v) : atI xs z = some v := by rw [e]; exact atI_nat h
theorem dget_s {H : Hp} {a : Addr} {kvs : List (Key × V)} {nm : Str} {r : Option V} (e : Rd H a (.dK kvs)) (h : valV kvs (Sum.inr nm : Key) = r) : DGet H a (.str nm) r := .inl ⟨kvs, Sum.inr nm, e, rfl, h.symm⟩
theorem dget_i {H : Hp} {a : Addr} {kvs : List (Key × V)} {n : Int} {r : Option V} (e : Rd H a (.dK kvs)) (h : valV kvs (Sum.inl n : Key) = r) : DGet H a (.int n) r := .inl ⟨kvs, Sum.inl n, e, rfl, h.symm⟩
theorem dput_s {H : Hp} {a : Addr} {kvs : List (Key × V)} {nm : Str} {v : V} (e : H a = some (.dK kvs)) (hl : kvs.length < sizeLine) : DPut H a (.str nm) v (upd H a (.dK (putK kvs (Sum.inr nm) v))) := .inl ⟨kvs, Sum.inr nm, e, rfl, hl, rfl⟩
theorem iteEq {A B : Prop} {x : V} (h : A) : if decide (x = x) = true then A else B := by rw [decide_eq_true rfl]; exact iteT h
theorem iteNe {A B : Prop} {x y : V} (hne : x ≠ y) (h : B) : if decide (x = y) = true then A else B := by rw [decide_eq_false hne]; exact iteF h
theorem iteEqN {A B : Prop} {x : V} (h : B) : if (!decide (x = x)) = true then A else B := by rw [decide_eq_true rfl]; exact iteF h
theorem iteNeN {A B : Prop} {x y : V} (hne : x ≠ y) (h : A) : if (!decide (x = y)) = true then A else B := by rw [decide_eq_false hne]; exact iteT h
theorem ask_say : (V.str "ask") ≠ V.str "say" := by decide +kernel
theorem rows_say : (V.str "rows") ≠ V.str "say" := by decide +kernel
theorem say_ask : (V.str "say") ≠ V.str "ask" := by decide +kernel
theorem rows_ask : (V.str "rows") ≠ V.str "ask" := by decide +kernel
theorem say_rows : (V.str "say") ≠ V.str "rows" := by decide +kernel
theorem ask_rows : (V.str "ask") ≠ V.str "rows" := by decide +kernel
theorem iteDT {A B : Prop} {p : Prop} [Decidable p] (hp : p) (h : A) : if decide p = true then A else B := by rw [decide_eq_true hp]; exact iteT h
theorem iteDF {A B : Prop} {p : Prop} [Decidable p] (hp : ¬ p) (h : B) : if decide p = true then A else B := by rw [decide_eq_false hp]; exact iteF h
theorem iteNT {A B : Prop} {b : Bool} (hb : b = true) (h : B) : if (!b) = true then A else B := by subst hb; exact iteF h
theorem iteNF {A B : Prop} {b : Bool} (hb : b = false) (h : A) : if (!b) = true then A else B := by subst hb; exact iteT h
theorem iteBT {A B : Prop} {b : Bool} (hb : b = true) (h : A) : if b = true then A else B := by subst hb; exact iteT h
theorem iteBF {A B : Prop} {b : Bool} (hb : b = false) (h : B) : if b = true then A else B := by subst hb; exact iteF h
theorem look_keys {α : Type} (n : Str) (l : List (Str × α)) : look n l = none ↔ n ∉ l.map (·.1) := by
  induction l with
  | nil => simp [look]
  | cons p r ih =>
    unfold look at *
    rw [List.find?_cons]
    by_cases e : p.1 = n
    · rw [decide_eq_true e]; simp [e]
    · rw [decide_eq_false e, ih, List.map_cons, List.mem_cons, not_or]
      exact ⟨fun h => ⟨fun q => e q.symm, h⟩, fun h => h.2⟩
theorem rowK_snoc (r : List (Str × Str)) (nm w : Str) : rowK (r ++ [(nm, w)]) = rowK r ++ [(Sum.inr nm, V.str w)] := by unfold rowK; rw [List.map_append]; rfl
theorem putK_row {r : List (Str × Str)} {nm w : Str} (h : look nm r = none) : putK (rowK r) (Sum.inr nm : Key) (V.str w) = rowK (r ++ [(nm, w)]) := by
  rw [putK_new _ (by rw [val_row, h]; rfl), rowK_snoc]
theorem filterMap_range_succ {α : Type} (f : Nat → Option α) (n : Nat) : (List.range (n + 1)).filterMap f = (List.range n).filterMap f ++ (f n).toList := by
  rw [List.range_succ, List.filterMap_append]
  cases h : f n <;> simp [h]
theorem nms0_take (ps : List P0) {i : Nat} {p : P0} (h : ps[i]? = some p) : nms0 (ps.take (i + 1)) = nms0 (ps.take i) ++ (nm0 p).toList := by
  unfold nms0; rw [take_snoc h, List.filterMap_append]
  cases e : nm0 p <;> simp [e]
theorem nms_take (ps : List Pc) {i : Nat} {p : Pc} (h : ps[i]? = some p) : nms (ps.take (i + 1)) = nms (ps.take i) ++ (nmP p).toList := by
  unfold nms; rw [take_snoc h, List.filterMap_append]
  cases e : nmP p <;> simp [e]
theorem take_sub {α : Type} (l : List α) (i : Nat) : (l.take i).Sublist l := List.take_sublist i l
theorem nm0_new {ps : List P0} {i : Nat} {p : P0} {n : Str} (nd : (nms0 ps).Nodup) (h : ps[i]? = some p) (hn : nm0 p = some n) : n ∉ nms0 (ps.take i) := by
  have e := nms0_take ps h
  rw [hn] at e
  have s : (nms0 (ps.take (i + 1))).Nodup := nd.sublist ((take_sub ps (i + 1)).filterMap nm0)
  rw [e] at s
  have := (List.nodup_append.mp s).2.2
  intro m
  exact this n m n (by simp) rfl
theorem nm_new {ps : List Pc} {i : Nat} {p : Pc} {n : Str} (nd : (nms ps).Nodup) (h : ps[i]? = some p) (hn : nmP p = some n) : n ∉ nms (ps.take i) := by
  have e := nms_take ps h
  rw [hn] at e
  have s : (nms (ps.take (i + 1))).Nodup := nd.sublist ((take_sub ps (i + 1)).filterMap nmP)
  rw [e] at s
  have := (List.nodup_append.mp s).2.2
  intro m
  exact this n m n (by simp) rfl
theorem row_keys (ns : List Int) (k : Int) (ps : List P0) : ∀ i, i ≤ ps.length → ((List.range i).filterMap fun j => rowEl ns k j ps[j]?).map (·.1) = nms0 (ps.take i)
  | 0, _ => rfl
  | i + 1, h => by
    have hi : i < ps.length := h
    have e : ps[i]? = some ps[i] := List.getElem?_eq_getElem hi
    rw [filterMap_range_succ, List.map_append, row_keys ns k ps i (Nat.le_of_lt hi), nms0_take ps e, e]
    cases ps[i] <;> rfl
theorem val_keys (ns : List Int) (s : Int) (ps : List Pc) : ∀ i, i ≤ ps.length → ((List.range i).filterMap fun k => valEl ns s k ps[k]?).map (·.1) = nms (ps.take i)
  | 0, _ => rfl
  | i + 1, h => by
    have hi : i < ps.length := h
    have e : ps[i]? = some ps[i] := List.getElem?_eq_getElem hi
    rw [filterMap_range_succ, List.map_append, val_keys ns s ps i (Nat.le_of_lt hi), nms_take ps e, e]
    cases q : ps[i] with
    | p0 p => cases p <;> rfl
    | rows => rfl
theorem wordL_sz (ns : List Int) (k : Int) (sg : Str) (lo hi : Int) : (wordL ns k sg lo hi).length = (lo + draw ns k % (hi - lo + 1)).toNat := by
  unfold wordL; rw [List.length_map, List.length_range]
theorem word_size {ns : List Int} {k : Int} {lo hi : Int} (h0 : 0 ≤ lo) (h : lo ≤ hi) : lo ≤ lo + draw ns k % (hi - lo + 1) ∧ lo + draw ns k % (hi - lo + 1) ≤ hi := by
  have h1 := Int.emod_nonneg (draw ns k) (show hi - lo + 1 ≠ 0 by omega)
  have h2 := Int.emod_lt_of_pos (draw ns k) (show 0 < hi - lo + 1 by omega)
  omega
theorem small_line {n : Nat} (h : n ≤ 100000) : n ≤ sizeLine := Nat.le_trans h (by decide)

/-! ## sizes of what is written -/
theorem row_fits {r : List (Str × Str)} {ips : List P0} (h : ∀ p ∈ ips, fits0 r p) : AsksFit (rowf r) ips ∧ AsksIn (rowK r) (rowf r) ips := by
  refine ⟨fun nm sg lo hi hp => ?_, fun nm sg lo hi hp => ?_⟩
  · obtain ⟨s, e, f⟩ := h _ hp
    unfold rowf; rw [e]; exact f
  · obtain ⟨s, e, f⟩ := h _ hp
    rw [val_row, e]; unfold rowf; rw [e]; rfl
theorem sum_le_of {n : Nat} : ∀ {l : List Nat}, (∀ x ∈ l, x ≤ n) → l.sum ≤ n * l.length
  | [], _ => by simp
  | a :: r, h => by
    have ih := sum_le_of (n := n) (l := r) fun x hx => h x (List.mem_cons_of_mem _ hx)
    have := h a List.mem_cons_self
    rw [List.sum_cons, List.length_cons, Nat.mul_succ]; omega
theorem join_le {gap : Str} {ts : List Str} (h : ∀ t ∈ ts, t.length ≤ 36) (hn : ts.length ≤ 3) (hg : gap.length ≤ 5) :
    (ts.map (·.length)).sum + ts.length * gap.length ≤ 123 ∧ (Txt.join gap ts).length ≤ 123 := by
  have h1 : (ts.map (·.length)).sum ≤ 36 * (ts.map (·.length)).length := sum_le_of fun x hx => by
    obtain ⟨t, ht, rfl⟩ := List.mem_map.mp hx; exact h t ht
  rw [List.length_map] at h1
  have h2 : ts.length * gap.length ≤ 3 * 5 := Nat.mul_le_mul hn hg
  have h3 := StrLaws.join_length_le gap ts
  have h4 : Txt.join gap ts = Str.join gap ts := StrLaws.glued_eq_join gap ts
  rw [h4]
  omega
theorem rows_lines_le {ips : List P0} {rs : List (List (Str × Str))} (ok : ∀ p ∈ ips, ok0 p) (l3 : ips.length ≤ 3) (hf : ∀ r ∈ rs, ∀ p ∈ ips, fits0 r p) : ∀ t ∈ rs.map (fun r => lineP (rowf r) ips), t.length ≤ 36 := fun t ht => by
  obtain ⟨r, hr, rfl⟩ := List.mem_map.mp ht
  have := lineP_all ok (row_fits (hf r hr)).1
  omega
theorem gv_rows {vals : List (Str × Vl)} {nm : Str} {rs : List (List (Str × Str))} (h : look nm vals = some (.rws rs)) (ips : List P0) : (gv vals nm).map (fun r => lineP r ips) = rs.map fun r => lineP (rowf r) ips := by
  unfold gv; rw [h]; simp
theorem fv_tx {vals : List (Str × Vl)} {nm s : Str} (h : look nm vals = some (.tx s)) : fv vals nm = s := by unfold fv; rw [h]
theorem wpiece_le {vals : List (Str × Vl)} {p : Pc} (ok : okP p) (hf : fitsP vals p) : (wpiece (fv vals) (gv vals) p).length ≤ 123 := by
  cases p with
  | p0 p =>
    cases p with
    | say t => have := ok.2.1; show t.length ≤ 123; omega
    | ask nm sg lo hi =>
      obtain ⟨s, e, f⟩ := hf
      obtain ⟨_, _, _, _, _, _, _, h4⟩ := ok
      show (fv vals nm).length ≤ 123
      rw [fv_tx e]
      have := f.2.1
      omega
  | rows nm ips gap lo hi =>
    obtain ⟨rs, e, f1, f2, f3⟩ := hf
    obtain ⟨_, _, l3, ok, _, g5, _, _, _, h3⟩ := ok
    show (Txt.join gap ((gv vals nm).map fun r => lineP r ips)).length ≤ 123
    rw [gv_rows e]
    exact (join_le (rows_lines_le ok l3 f3) (by rw [List.length_map]; omega) g5).2
theorem writtenP_len {vals : List (Str × Vl)} : ∀ {ps : List Pc}, (∀ p ∈ ps, okP p ∧ fitsP vals p) → ∀ i, (writtenP (fv vals) (gv vals) (ps.take i)).length ≤ 123 * i
  | ps, h, 0 => Nat.le_refl _
  | ps, h, i + 1 => by
    have ih := writtenP_len h i
    cases e : ps[i]? with
    | none => rw [List.take_succ, e]; simp; omega
    | some p => rw [writtenP_snoc _ _ e, str_len_app]; have := wpiece_le (h p (mem_at e)).1 (h p (mem_at e)).2; omega
theorem map_take_succ {α β : Type} (f : α → β) {l : List α} {i : Nat} {x : α} (h : l[i]? = some x) : (l.take (i + 1)).map f = (l.take i).map f ++ [f x] := by rw [take_snoc h, List.map_append]; rfl
theorem lineP_one (f : Str → Str) (p : P0) : lineP f [p] = fpiece f p := empty_app _
theorem look_fit {vals : List (Str × Vl)} {K : PySem.W.Frag} {G : Hp} {kvs : List (Key × V)} (h : Paired (RKv K G) kvs vals) {p : P0} (hf : fitsP vals (.p0 p)) : AsksIn kvs (fv vals) [p] ∧ AsksFit (fv vals) [p] := by
  cases p with
  | say t => exact ⟨fun nm sg lo hi hp => by simp at hp, fun nm sg lo hi hp => by simp at hp⟩
  | ask nm0 sg0 lo0 hi0 =>
    obtain ⟨s, e, f⟩ := hf
    obtain ⟨v, e2, r⟩ := (val_RV h nm0).1 _ e
    have ev : v = .str s := r
    refine ⟨fun nm sg lo hi hp => ?_, fun nm sg lo hi hp => ?_⟩
    · simp at hp; obtain ⟨rfl, rfl, rfl, rfl⟩ := hp; rw [e2, ev, fv_tx e]
    · simp at hp; obtain ⟨rfl, rfl, rfl, rfl⟩ := hp; rw [fv_tx e]; exact f

/-! ## signs that differ -/
theorem ddS_nodup (l : List Str) (h : l.Nodup) : ddS l = l := by
  have all : ∀ (l acc : List Str), (acc ++ l).Nodup → l.foldl dd1 acc = acc ++ l := by
    intro l
    induction l with
    | nil => intro acc _; simp
    | cons a r ih =>
      intro acc hn
      have hna : acc.any (· == a) = false := by
        rw [Bool.eq_false_iff]
        intro q
        obtain ⟨b, hb, e⟩ := List.any_eq_true.mp q
        have e' : b = a := by simpa using e
        subst e'
        have := (List.nodup_append.mp hn).2.2 b hb b (by simp)
        exact this rfl
      rw [List.foldl_cons]
      have e1 : dd1 acc a = acc ++ [a] := by unfold dd1; rw [hna]; rfl
      rw [e1, ih (acc ++ [a]) (by rw [List.append_assoc]; exact hn), List.append_assoc]
      rfl
  exact all l [] (by simpa using h)
theorem signs_map (z : Str) : (List.range z.cps.size).map (fun i => (⟨#[z.cps.getD i 0]⟩ : Str)) = z.cps.toList.map fun c => (⟨#[c]⟩ : Str) := by
  apply List.ext_getElem?
  intro i
  rw [List.getElem?_map, List.getElem?_map]
  by_cases hi : i < z.cps.size
  · rw [List.getElem?_range hi, Array.getElem?_toList, Array.getElem?_eq_getElem hi]
    show some (⟨#[z.cps.getD i 0]⟩ : Str) = some ⟨#[z.cps[i]]⟩
    rw [Array.getD_eq_getD_getElem?, Array.getElem?_eq_getElem hi]; rfl
  · rw [List.getElem?_eq_none (by simpa using hi), List.getElem?_eq_none (by simpa using hi)]; rfl
theorem one_inj {a b : Nat} (h : (⟨#[a]⟩ : Str) = ⟨#[b]⟩) : a = b := by
  have : #[a] = #[b] := congrArg Str.cps h
  simpa using this
theorem nodup_map_inj {α β : Type} {f : α → β} (hf : ∀ a b, f a = f b → a = b) : ∀ {l : List α}, l.Nodup → (l.map f).Nodup
  | [], _ => List.nodup_nil
  | a :: r, h => by
    rw [List.map_cons, List.nodup_cons]
    obtain ⟨h1, h2⟩ := List.nodup_cons.mp h
    refine ⟨fun m => ?_, nodup_map_inj hf h2⟩
    obtain ⟨b, hb, e⟩ := List.mem_map.mp m
    have := hf _ _ e
    subst this
    exact h1 hb
theorem dd_signs {z : Str} (h : z.cps.toList.Nodup) : (ddAt (fun i => (⟨#[z.cps.getD i 0]⟩ : Str)) z.cps.size).length = z.length := by
  unfold ddAt
  rw [signs_map, ddS_nodup _ (nodup_map_inj (fun _ _ => one_inj) h), List.length_map]
  exact Array.length_toList
theorem inV_strs {n : Str} : ∀ {ns : List Str}, inV (.str n) (ns.map V.str) = decide (n ∈ ns)
  | [] => by simp [inV]
  | m :: r => by
    have ih := inV_strs (n := n) (ns := r)
    rw [List.map_cons]
    unfold inV at *
    simp only [List.any_cons, ih, List.mem_cons]
    by_cases e : n = m
    · subst e; simp [eqV]
    · have e' : ¬ m = n := fun q => e q.symm
      simp [eqV, e, e']
theorem flat_strs (ns : List Str) : (ns.map V.str).all flatV = true := by
  rw [List.all_eq_true]
  intro x hx
  obtain ⟨n, _, rfl⟩ := List.mem_map.mp hx
  rfl
theorem empty_lit : (("" : Str)) = Str.empty := by decide +kernel
theorem str_ne_empty {n : Str} (h : n ≠ Str.empty) : V.str n ≠ V.str "" := fun q => h (by rw [← empty_lit]; exact V.str.inj q)
theorem nat_int_ne {a b : Nat} (h : a = b) : ¬ (V.int (a : Int) ≠ V.int (b : Int)) := by subst h; simp
end Lf

/-! # LfEqP -/
set_option Elab.async false
set_option linter.all false
set_option maxRecDepth 100000
set_option maxHeartbeats 4000000
namespace Lf
open PySem L2
/-! ## == of data without dicts, whatever the texts -/
def rEqP (K : PySem.W.Frag) : R2 := fun x y H Q => ∃ d e : PyData, Dp K H x d ∧ Dp K H y e ∧ d.plain = true ∧ e.plain = true ∧ d.depth ≤ 60 ∧ Q (.bl (PyData.eqv d e)) H
def rNeP (K : PySem.W.Frag) : R2 := fun x y H Q => ∃ d e : PyData, Dp K H x d ∧ Dp K H y e ∧ d.plain = true ∧ e.plain = true ∧ d.depth ≤ 60 ∧ Q (.bl (!PyData.eqv d e)) H
section
variable {X : Cx}
theorem op_eqP {K : PySem.W.Frag} (h : X.K = K) (hu : X.A.units + 64 < cLine) : OpR X (compareOp .Eq) (rEqP K) := by
  subst h
  intro pins s σ H x y v u Q I rx ry h
  obtain ⟨d, e, hd, he, sd, se, dd, q⟩ := h
  obtain ⟨as, r1⟩ := Dp.reads I d x v hd rx
  obtain ⟨bs, r2⟩ := Dp.reads I e y u he ry
  exact SeqAt.eq_plain r1 r2 sd se (by omega) ⟨.bl _, H, I, rfl, q⟩
theorem op_neP {K : PySem.W.Frag} (h : X.K = K) (hu : X.A.units + 64 < cLine) : OpR X (compareOp .NotEq) (rNeP K) := by
  subst h
  intro pins s σ H x y v u Q I rx ry h
  obtain ⟨d, e, hd, he, sd, se, dd, q⟩ := h
  obtain ⟨as, r1⟩ := Dp.reads I d x v hd rx
  obtain ⟨bs, r2⟩ := Dp.reads I e y u he ry
  exact SeqAt.ne_plain r1 r2 sd se (by omega) ⟨.bl _, H, I, rfl, q⟩
end
def P0.dt : P0 → PyData
  | .say t => .tuple [.str "say", .str t]
  | .ask nm sg lo hi => .tuple [.str "ask", .str nm, .str sg, .int lo, .int hi]
def Pc.dt : Pc → PyData
  | .p0 p => p.dt
  | .rows nm ps gap lo hi => .tuple [.str "rows", .str nm, .list (ps.map P0.dt), .str gap, .int lo, .int hi]
theorem dp_all {α : Type} {K : PySem.W.Frag} {G : Hp} {f : α → PyData} {F : V → α → Prop} (h : ∀ v a, F v a → Dp K G v (f a)) {xs : List V} {ys : List α} (p : Paired F xs ys) : DpAll K G xs (ys.map f) := by
  induction p with
  | nil => exact .nil
  | cons a _ ih => exact .cons (h _ _ a) ih
theorem R0.dp {K : PySem.W.Frag} {G : Hp} {v : V} {p : P0} (h : R0 K G v p) : Dp K G v p.dt := by
  obtain ⟨a, rfl, t⟩ := h
  cases p with
  | say t' => exact .tup t (.cons (.str _) (.cons (.str _) .nil))
  | ask nm sg lo hi => exact .tup t (.cons (.str _) (.cons (.str _) (.cons (.str _) (.cons (.int _) (.cons (.int _) .nil)))))
theorem RP.dp {K : PySem.W.Frag} {G : Hp} {v : V} {p : Pc} (h : RP K G v p) : Dp K G v p.dt := by
  cases p with
  | p0 p => exact R0.dp h
  | rows nm ps gap lo hi =>
    obtain ⟨a, l, xs, rfl, t, q, r⟩ := h
    exact .tup t (.cons (.str _) (.cons (.str _) (.cons (.lst q (dp_all (fun _ _ z => R0.dp z) r)) (.cons (.str _) (.cons (.int _) (.cons (.int _) .nil))))))
theorem plain_all {α : Type} {f : α → PyData} (h : ∀ a, (f a).plain = true) : ∀ l : List α, PyData.plainAll (l.map f) = true
  | [] => rfl
  | a :: r => by rw [List.map_cons]; unfold PyData.plainAll; rw [h a, plain_all h r]; rfl
theorem depth_all {α : Type} {f : α → PyData} {n : Nat} (h : ∀ a, (f a).depth ≤ n) : ∀ l : List α, PyData.depthAll (l.map f) ≤ n
  | [] => by rw [List.map_nil]; unfold PyData.depthAll; exact Nat.zero_le _
  | a :: r => by rw [List.map_cons]; unfold PyData.depthAll; exact Nat.max_le.mpr ⟨h a, depth_all h r⟩
theorem P0.plain (p : P0) : p.dt.plain = true := by cases p <;> rfl
theorem Pc.plain (p : Pc) : p.dt.plain = true := by
  cases p with
  | p0 p => exact P0.plain p
  | rows nm ps gap lo hi =>
    have := plain_all P0.plain ps
    simp only [Pc.dt, PyData.plain, PyData.plainAll, this, Bool.and_self]
theorem P0.depth (p : P0) : p.dt.depth ≤ 3 := by cases p <;> (simp only [P0.dt, PyData.depth, PyData.depthAll]; omega)
theorem Pc.depth (p : Pc) : p.dt.depth ≤ 6 := by
  cases p with
  | p0 p => have := P0.depth p; show p.dt.depth ≤ 6; omega
  | rows nm ps gap lo hi =>
    have := depth_all P0.depth ps
    simp only [Pc.dt, PyData.depth, PyData.depthAll]
    omega
def formD (ps : List Pc) : PyData := .list (ps.map Pc.dt)
theorem formD_plain (ps : List Pc) : (formD ps).plain = true := plain_all Pc.plain ps
theorem formD_depth (ps : List Pc) : (formD ps).depth ≤ 60 := by
  have := depth_all Pc.depth ps
  unfold formD
  simp only [PyData.depth]
  omega
theorem formD_refl (ps : List Pc) : PyData.eqv (formD ps) (formD ps) = true := SeqAt.eqv_refl_plain _ (formD_plain ps)
theorem formD_dp {K : PySem.W.Frag} {G : Hp} {l : Addr} {xs : List V} {ps : List Pc} (h : SqL K G l xs) (p : Paired (RP K G) xs ps) : Dp K G (.ref l) (formD ps) := .lst h (dp_all (fun _ _ z => RP.dp z) p)
def strsD (ns : List Str) : PyData := .list (ns.map PyData.str)
theorem strsD_plain (ns : List Str) : (strsD ns).plain = true := plain_all (fun _ => rfl) ns
theorem strsD_depth (ns : List Str) : (strsD ns).depth ≤ 60 := by
  have := depth_all (f := PyData.str) (n := 1) (fun _ => by simp only [PyData.depth]; omega) ns
  unfold strsD
  simp only [PyData.depth]
  omega
theorem strsD_refl (ns : List Str) : PyData.eqv (strsD ns) (strsD ns) = true := SeqAt.eqv_refl_plain _ (strsD_plain ns)
theorem strsD_dp {K : PySem.W.Frag} {G : Hp} {l : Addr} {ns : List Str} (h : SqL K G l (ns.map V.str)) : Dp K G (.ref l) (strsD ns) := by
  refine .lst h ?_
  clear h
  induction ns with
  | nil => exact .nil
  | cons a r ih => exact .cons (.str _) ih
end Lf

/-! # LfMath -/
set_option Elab.async false
set_option linter.all false
set_option maxRecDepth 100000
set_option maxHeartbeats 4000000
namespace Lf
open PySem L2
/-! ## the drawn forms are forms -/
def sgsB (t : Str) : Bool := t.cps.toList.all fun c => decide (c ∈ SIGNSs.cps.toList)
theorem sgs_of {t : Str} (h : sgsB t = true) : Sgs t := fun c hc => of_decide_eq_true (List.all_eq_true.mp h c hc)
def sayB (t : Str) : Bool := decide (1 ≤ t.length) && decide (t.length ≤ 12) && sgsB t
def sgB (t : Str) : Bool := decide (1 ≤ t.length) && decide (t.length ≤ 20) && sgsB t && decide t.cps.toList.Nodup
def gapB (t : Str) : Bool := decide (t.length ≤ 5) && sgsB t
theorem say_all : sayL.all sayB = true := by decide +kernel
theorem sg_all : sgL.all sgB = true := by decide +kernel
theorem gap_all : gapL.all gapB = true := by decide +kernel
theorem pick_mem (l : List Str) (c : Int) (h : 0 < l.length) : pick l c ∈ l := by
  unfold pick
  have h1 := Int.emod_nonneg c (show (l.length : Int) ≠ 0 by omega)
  have h2 := Int.emod_lt_of_pos c (show 0 < (l.length : Int) by omega)
  have hj : (c % (l.length : Int)).toNat < l.length := by omega
  rw [List.getD_eq_getElem?_getD, List.getElem?_eq_getElem hj]
  exact List.getElem_mem hj
theorem say_ok (c : Int) : ok0 (.say (pick sayL c)) := by
  have h := List.all_eq_true.mp say_all _ (pick_mem sayL c (by decide))
  simp only [sayB, Bool.and_eq_true, decide_eq_true_eq] at h
  exact ⟨h.1.1, h.1.2, sgs_of h.2⟩
theorem sg_ok (c : Int) : 1 ≤ (pick sgL c).length ∧ (pick sgL c).length ≤ 20 ∧ Sgs (pick sgL c) ∧ (pick sgL c).cps.toList.Nodup := by
  have h := List.all_eq_true.mp sg_all _ (pick_mem sgL c (by decide))
  simp only [sgB, Bool.and_eq_true, decide_eq_true_eq] at h
  exact ⟨h.1.1.1, h.1.1.2, sgs_of h.1.2, h.2⟩
theorem gap_ok (c : Int) : (pick gapL c).length ≤ 5 ∧ Sgs (pick gapL c) := by
  have h := List.all_eq_true.mp gap_all _ (pick_mem gapL c (by decide))
  simp only [gapB, Bool.and_eq_true, decide_eq_true_eq] at h
  exact ⟨h.1, sgs_of h.2⟩
theorem ask_ok (ns : List Int) (k : Int) {nm : Str} {most : Int} (hn : nm ≠ Str.empty) (h0 : 0 ≤ most) (h4 : most ≤ 4) : ok0 (askP ns k nm most) := by
  obtain ⟨s1, s2, s3, s4⟩ := sg_ok (draw ns k)
  have e1 : 0 ≤ draw ns k / 10 % (most + 1) := Int.emod_nonneg _ (by omega)
  have e2 : draw ns k / 10 % (most + 1) < most + 1 := Int.emod_lt_of_pos _ (by omega)
  have f1 : 0 ≤ draw ns k / 60 % (most + 1 - draw ns k / 10 % (most + 1)) := Int.emod_nonneg _ (by omega)
  have f2 : draw ns k / 60 % (most + 1 - draw ns k / 10 % (most + 1)) < most + 1 - draw ns k / 10 % (most + 1) := Int.emod_lt_of_pos _ (by omega)
  exact ⟨hn, s1, s2, s3, s4, e1, by omega, by omega⟩
theorem nmI_ne : ∀ n ∈ nmI, n ≠ Str.empty := by decide +kernel
theorem nmO_ne : ∀ n ∈ nmO, n ≠ Str.empty := by decide +kernel
theorem nmI_nd : nmI.Nodup := by decide +kernel
theorem nmO_nd : nmO.Nodup := by decide +kernel
theorem getD_mem {l : List Str} {j : Nat} (h : j < l.length) : l.getD j Str.empty ∈ l := by
  rw [List.getD_eq_getElem?_getD, List.getElem?_eq_getElem h]; exact List.getElem_mem h
theorem getD_inj {l : List Str} (nd : l.Nodup) {i j : Nat} (hi : i < l.length) (hj : j < l.length) (e : l.getD i Str.empty = l.getD j Str.empty) : i = j := by
  rw [List.getD_eq_getElem?_getD, List.getD_eq_getElem?_getD, List.getElem?_eq_getElem hi, List.getElem?_eq_getElem hj] at e
  exact (List.getElem_inj nd).mp e
theorem inner_size (ns : List Int) (k : Int) {many : Int} (h1 : 1 ≤ many) (h3 : many ≤ 6) : 1 ≤ (1 + draw ns k % many).toNat ∧ (1 + draw ns k % many).toNat ≤ many.toNat := by
  have d0 : 0 ≤ draw ns k % many := Int.emod_nonneg _ (by omega)
  have d1 : draw ns k % many < many := Int.emod_lt_of_pos _ (by omega)
  omega
theorem inner_len (ns : List Int) (k many most : Int) : (innerP ns k many most).length = (1 + draw ns k % many).toNat := by unfold innerP; rw [List.length_map, List.length_range]
theorem innerAt_ok (ns : List Int) (k : Int) {most : Int} (h0 : 0 ≤ most) (h4 : most ≤ 4) {j : Nat} (hj : j < 3) : ok0 (innerAt ns k most j) := by
  unfold innerAt
  split
  · exact say_ok _
  · exact ask_ok ns _ (nmI_ne _ (getD_mem hj)) h0 h4
theorem innerAt_nm (ns : List Int) (k most : Int) (j : Nat) : nm0 (innerAt ns k most j) = none ∨ nm0 (innerAt ns k most j) = some (nmI.getD j Str.empty) := by
  unfold innerAt
  split
  · exact .inl rfl
  · exact .inr rfl
/-- names of different places differ -/
theorem nodup_names {α : Type} (f : Nat → Option α) (g : Nat → α) (n : Nat) (hf : ∀ i, i < n → f i = none ∨ f i = some (g i)) (hg : ∀ i j, i < n → j < n → g i = g j → i = j) : ((List.range n).filterMap f).Nodup := by
  induction n with
  | zero => exact List.nodup_nil
  | succ n ih =>
    have ih := ih (fun i hi => hf i (by omega)) (fun i j hi hj => hg i j (by omega) (by omega))
    rw [filterMap_range_succ]
    rcases hf n (Nat.lt_succ_self n) with e | e
    · rw [e]; simpa using ih
    · rw [e]
      rw [List.nodup_append]
      refine ⟨ih, by simp, fun a ha b hb => ?_⟩
      simp at hb
      subst hb
      obtain ⟨i, hi, e2⟩ := List.mem_filterMap.mp ha
      have hin := List.mem_range.mp hi
      rcases hf i (by omega) with z | z
      · rw [z] at e2; cases e2
      · rw [z] at e2; cases e2
        intro q
        have := hg i n (by omega) (by omega) q
        omega
theorem inner_nd (ns : List Int) (k many most : Int) (h : (1 + draw ns k % many).toNat ≤ 3) : (nms0 (innerP ns k many most)).Nodup := by
  unfold nms0 innerP
  rw [List.filterMap_map]
  exact nodup_names (nm0 ∘ innerAt ns k most) (fun j => nmI.getD j Str.empty) _ (fun i _ => innerAt_nm ns k most i) fun i j hi hj e => getD_inj nmI_nd (by show i < 3; omega) (by show j < 3; omega) e
theorem mem_map_range {α : Type} {f : Nat → α} {n : Nat} {x : α} (h : x ∈ (List.range n).map f) : ∃ i, i < n ∧ x = f i := by
  obtain ⟨i, hi, e⟩ := List.mem_map.mp h
  exact ⟨i, List.mem_range.mp hi, e.symm⟩
theorem pieceP_ok (ns : List Int) (k : Int) {nm : Str} {most : Int} (hn : nm ≠ Str.empty) (h0 : 0 ≤ most) (h4 : most ≤ 4) : okP (pieceP ns k nm most) := by
  unfold pieceP
  split
  · exact say_ok _
  · split
    · exact ask_ok ns _ hn h0 h4
    · have hs := inner_size ns (k + 2) (many := 3) (by decide) (by decide)
      have g := gap_ok (draw ns k / 5)
      have e1 : 0 ≤ draw ns k / 25 % 4 := Int.emod_nonneg _ (by decide)
      have e2 : draw ns k / 25 % 4 < 4 := Int.emod_lt_of_pos _ (by decide)
      have f1 : 0 ≤ draw ns k / 100 % (4 - draw ns k / 25 % 4) := Int.emod_nonneg _ (by omega)
      have f2 : draw ns k / 100 % (4 - draw ns k / 25 % 4) < 4 - draw ns k / 25 % 4 := Int.emod_lt_of_pos _ (by omega)
      have hlen := inner_len ns (k + 2) 3 most
      refine ⟨hn, by rw [hlen]; exact hs.1, by rw [hlen]; exact hs.2, fun p hp => ?_, inner_nd ns _ 3 most hs.2, g.1, g.2, e1, by omega, by omega⟩
      obtain ⟨j, hj, rfl⟩ := mem_map_range hp
      have h3 : (3 : Int).toNat = 3 := rfl
      exact innerAt_ok ns _ h0 h4 (by omega)
theorem pieceP_nm (ns : List Int) (k : Int) (nm : Str) (most : Int) : nmP (pieceP ns k nm most) = none ∨ nmP (pieceP ns k nm most) = some nm := by
  unfold pieceP
  split
  · exact .inl rfl
  · split
    · exact .inr rfl
    · exact .inr rfl
theorem pieces_len (ns : List Int) (many most : Int) : (piecesP ns many most).length = (1 + draw ns 1 % many).toNat := by unfold piecesP; rw [List.length_map, List.length_range]
theorem pieces_ok (ns : List Int) {many most : Int} (h1 : 1 ≤ many) (h6 : many ≤ 6) (h0 : 0 ≤ most) (h4 : most ≤ 4) : okF (piecesP ns many most) := by
  have hs := inner_size ns 1 h1 h6
  have hlen := pieces_len ns many most
  refine ⟨by rw [hlen]; exact hs.1, by rw [hlen]; omega, fun p hp => ?_, ?_⟩
  · obtain ⟨j, hj, rfl⟩ := mem_map_range hp
    exact pieceP_ok ns _ (nmO_ne _ (pick_mem nmO _ (by decide))) h0 h4
  · unfold nms piecesP
    rw [List.filterMap_map]
    refine nodup_names (nmP ∘ pieceAt ns most) (fun j => pick nmO (j + draw ns 2)) _ (fun i _ => pieceP_nm ns _ _ most) fun i j hi hj e => ?_
    unfold pick at e
    have l6 : (nmO.length : Int) = 6 := rfl
    rw [l6] at e
    have a0 := Int.emod_nonneg ((i : Int) + draw ns 2) (show (6 : Int) ≠ 0 by decide)
    have a1 := Int.emod_lt_of_pos ((i : Int) + draw ns 2) (show 0 < (6 : Int) by decide)
    have b0 := Int.emod_nonneg ((j : Int) + draw ns 2) (show (6 : Int) ≠ 0 by decide)
    have b1 := Int.emod_lt_of_pos ((j : Int) + draw ns 2) (show 0 < (6 : Int) by decide)
    have l6' : nmO.length = 6 := rfl
    have := getD_inj nmO_nd (by omega) (by omega) e
    omega

/-! ## the drawn values fit -/
theorem word_fits {ns : List Int} {k : Int} {sg : Str} {lo hi : Int} (h0 : 0 ≤ lo) (h : lo ≤ hi) (hs : 1 ≤ sg.length) : fit0 sg lo hi (wordP ns k sg lo hi) := by
  have ws := word_size (ns := ns) (k := k) h0 h
  have hl : (wordP ns k sg lo hi).length = (lo + draw ns k % (hi - lo + 1)).toNat := by unfold wordP; rw [ofL_len, wordL_sz]
  refine ⟨by rw [hl]; omega, by rw [hl]; omega, fun c hc => ?_⟩
  unfold wordP at hc
  rw [ofL_cps] at hc
  obtain ⟨j, hj, rfl⟩ := mem_map_range hc
  have m0 := Int.emod_nonneg (draw ns (k + 1 + j)) (show (sg.length : Int) ≠ 0 by omega)
  have m1 := Int.emod_lt_of_pos (draw ns (k + 1 + j)) (show 0 < (sg.length : Int) by omega)
  have hj : (draw ns (k + 1 + j) % (sg.length : Int)).toNat < sg.cps.size := by show _ < sg.length; omega
  rw [Array.getD_eq_getD_getElem?, Array.getElem?_eq_getElem hj]
  exact Array.getElem_mem_toList hj
theorem look_of {α : Type} : ∀ {l : List (Str × α)} {n : Str} {x : α}, (l.map (·.1)).Nodup → (n, x) ∈ l → look n l = some x
  | p :: r, n, x, nd, h => by
    unfold look
    rw [List.find?_cons]
    rw [List.map_cons, List.nodup_cons] at nd
    rcases List.mem_cons.mp h with e | h
    · subst e; rw [decide_eq_true rfl]; rfl
    · have hne : ¬ p.1 = n := fun e => nd.1 (e ▸ List.mem_map.mpr ⟨(n, x), h, rfl⟩)
      rw [decide_eq_false hne]
      exact look_of nd.2 h
theorem row_all_keys (ns : List Int) (k : Int) (ps : List P0) : (rowP ns k ps).map (·.1) = nms0 ps := by
  have := row_keys ns k ps ps.length (Nat.le_refl _)
  rw [List.take_length] at this
  exact this
theorem val_all_keys (ns : List Int) (s : Int) (ps : List Pc) : (valuesP ns s ps).map (·.1) = nms ps := by
  have := val_keys ns s ps ps.length (Nat.le_refl _)
  rw [List.take_length] at this
  exact this
theorem row_fits0 {ns : List Int} {k : Int} {ps : List P0} (nd : (nms0 ps).Nodup) (ok : ∀ p ∈ ps, ok0 p) : ∀ p ∈ ps, fits0 (rowP ns k ps) p := fun p hp => by
  cases p with
  | say t => trivial
  | ask nm sg lo hi =>
    obtain ⟨i, hi', e⟩ := List.mem_iff_getElem?.mp hp |>.elim fun i h => (⟨i, at_lt h, h⟩ : ∃ i, i < ps.length ∧ ps[i]? = some (.ask nm sg lo hi))
    obtain ⟨_, s1, _, _, _, l0, lh, _⟩ := ok _ hp
    refine ⟨wordP ns (k + 6 * i) sg lo hi, look_of (by rw [row_all_keys]; exact nd) ?_, word_fits l0 lh s1⟩
    refine List.mem_filterMap.mpr ⟨i, List.mem_range.mpr hi', ?_⟩
    rw [e]; rfl
theorem values_fit {ns : List Int} {s : Int} {ps : List Pc} (ok : okF ps) : ∀ p ∈ ps, okP p ∧ fitsP (valuesP ns s ps) p := fun p hp => by
  refine ⟨ok.ok p hp, ?_⟩
  obtain ⟨i, hi', e⟩ := List.mem_iff_getElem?.mp hp |>.elim fun i h => (⟨i, at_lt h, h⟩ : ∃ i, i < ps.length ∧ ps[i]? = some p)
  have nd : ((valuesP ns s ps).map (·.1)).Nodup := by rw [val_all_keys]; exact ok.nd
  have okp := ok.ok p hp
  cases p with
  | p0 p =>
    cases p with
    | say t => trivial
    | ask nm sg lo hi =>
      obtain ⟨_, s1, _, _, _, l0, lh, _⟩ := okp
      refine ⟨wordP ns (s + 90 * i) sg lo hi, look_of nd (List.mem_filterMap.mpr ⟨i, List.mem_range.mpr hi', ?_⟩), word_fits l0 lh s1⟩
      rw [e]; rfl
  | rows nm ips gap lo hi =>
    obtain ⟨_, _, _, iok, ind, _, _, l0, lh, _⟩ := okp
    have ws := word_size (ns := ns) (k := s + 90 * i) l0 lh
    refine ⟨(List.range (lo + draw ns (s + 90 * i) % (hi - lo + 1)).toNat).map fun (j : Nat) => rowP ns (s + 90 * i + 1 + 25 * j) ips, look_of nd (List.mem_filterMap.mpr ⟨i, List.mem_range.mpr hi', by rw [e]; rfl⟩), ?_, ?_, ?_⟩
    · rw [List.length_map, List.length_range]; omega
    · rw [List.length_map, List.length_range]; omega
    · intro r hr p hp
      obtain ⟨j, _, rfl⟩ := mem_map_range hr
      exact row_fits0 ind iok p hp
end Lf

/-! # LfEnd -/
set_option Elab.async false
set_option linter.all false
set_option maxRecDepth 100000
set_option maxHeartbeats 4000000
namespace Lf
open PySem L2
/-! ## what the top leaves -/
theorem df_mk {K : PySem.W.Frag} {h : Heap} {mg : Str → Option Value} (X : K.In h) (G : h.Ns mainGlobals mg) {x : Str} {st : Stmt} {ps : List Str} {f : Addr} {oc : Value} {od an : Option Addr} {sl : Array (Option Value)} {kV dc pm cd ct : Value}
    (a : PySem.W.nsIn K mainGlobals x = some (some (.ref f))) (l : K.lookup f = some ⟨oc, od, .func (PySem.W.fnOf x x (defArgs st) (defBody st) (defScope st) .none kV dc pm an cd ct), sl⟩) (c : PySem.W.codeIn K cd x = true) (k : PySem.W.keepIn K (.ref f) = true)
    (b : ∀ (kV doc pm : Value) (an : Option Addr) (cdv ct : Value) (us : List Value), us.length = ps.length → bindArgs (PySem.W.fnOf x x (defArgs st) (defBody st) (defScope st) .none kV doc pm an cdv ct) ⟨us, []⟩ = pure (ps.zip us)) : Df K mg x st ps := by
  have F := fun_mk (st := st) l c k
  exact ⟨f, _, F, PySem.W.mg_of X G a, F.binds b⟩
/-- the law's own def -/
theorem law_mk {K : PySem.W.Frag} {h : Heap} {mg : Str → Option Value} (X : K.In h) (G : h.Ns mainGlobals mg) {st : Stmt} {fa f : Addr} {oc : Value} {od an : Option Addr} {sl : Array (Option Value)} {kV dc pm cd ct : Value}
    (hfa : mg "law" = some (.ref fa)) (a : PySem.W.nsIn K mainGlobals "law" = some (some (.ref f))) (l : K.lookup f = some ⟨oc, od, .func (PySem.W.fnOf "law" "law" (defArgs st) (defBody st) (defScope st) .none kV dc pm an cd ct), sl⟩) (c : PySem.W.codeIn K cd "law" = true) (k : PySem.W.keepIn K (.ref f) = true)
    (b : ∀ (kV doc pm : Value) (an : Option Addr) (cdv ct : Value) (s : Shared) (v : Value), BindsTo s (PySem.W.fnOf "law" "law" (defArgs st) (defBody st) (defScope st) .none kV doc pm an cdv ct) ⟨[v], []⟩ [("script", v)]) :
    ∃ fd : FuncData, Fun K "law" "law" st fa fd ∧ ∀ (s : Shared) (v : Value), BindsTo s fd ⟨[v], []⟩ [("script", v)] := by
  have e := hfa.symm.trans (PySem.W.mg_of X G a)
  cases e
  exact ⟨_, fun_mk (st := st) l c k, b _ _ _ _ _ _⟩
/-- a class with an __init__ -/
structure Cm (K : PySem.W.Frag) (mg : Str → Option Value) (x qual : Str) (st : Stmt) (ps : List Str) (C : Addr) : Prop where
  cl : Cls K C
  mgc : mg x = some (.ref C)
  ex : ∃ (f : Addr) (fd : FuncData), Mk K C f ∧ Fun K "__init__" qual st f fd ∧ Binds K fd ps []
theorem cm_mk {K : PySem.W.Frag} {h : Heap} {mg : Str → Option Value} (X : K.In h) (G : h.Ns mainGlobals mg) {x qual : Str} {st : Stmt} {ps : List Str} {C f : Addr} {oc : Value} {od an : Option Addr} {sl : Array (Option Value)} {kV dc pm cd ct : Value}
    (aC : PySem.W.nsIn K mainGlobals x = some (some (.ref C))) (a : PySem.W.findIn K (.ref C) "__init__" = some (some (.ref f))) (i : PySem.W.isFn K (.ref f) = true)
    (l : K.lookup f = some ⟨oc, od, .func (PySem.W.fnOf "__init__" qual (defArgs st) (defBody st) (defScope st) .none kV dc pm an cd ct), sl⟩) (c : PySem.W.codeIn K cd qual = true) (k : PySem.W.keepIn K (.ref f) = true)
    (pg : PySem.W.plainGet K C Str.empty = true) (hd : PySem.W.hasDictIn K C = true) (po : PySem.W.plainOver K C = true) (sa : PySem.W.findIn K (.ref C) "__setattr__" = some (some (.builtin "object.__setattr__"))) (mk : PySem.W.makesIn K C = true) (kc : PySem.W.keepIn K (.ref C) = true)
    (b : ∀ (kV doc pm : Value) (an : Option Addr) (cdv ct : Value) (us : List Value), us.length = ps.length → bindArgs (PySem.W.fnOf "__init__" qual (defArgs st) (defBody st) (defScope st) .none kV doc pm an cdv ct) ⟨us, []⟩ = pure (ps.zip us))
    {n1 : Str} (q1 : PySem.W.findIn K (.ref C) n1 = some none) : ∃ C, Cm K mg x qual st ps C ∧ NoAttr K C n1 := by
  have F := fun_mk (st := st) l c k
  exact ⟨C, ⟨⟨pg, hd, po, sa⟩, PySem.W.mg_of X G aC, f, _, ⟨mk, a, i, kc⟩, F, F.binds b⟩, q1⟩
theorem Cm.mn {P : Program} {w : World} {K : PySem.W.Frag} {mg : Str → Option Value} {base : Heap} {CX : CXT} {k : Nat} {x qual : Str} {st : Stmt} {ps : List Str} {C : Addr} {sp : Sp} (c : Cm K mg x qual st ps C)
    (h : ∀ f fd, Fun K "__init__" qual st f fd → FnOk P w K mg base CX k f fd ps sp) : Mn P w K mg base CX k x C sp := by
  obtain ⟨f, fd, M, F, b⟩ := c.ex
  exact ⟨f, fd, ps, M, h f fd F, c.mgc, b⟩
end Lf
namespace Lf
open PySem L2
theorem signs_mk {K : PySem.W.Frag} {h : Heap} {mg : Str → Option Value} (X : K.In h) (G : h.Ns mainGlobals mg) {u : Value} (a : PySem.W.nsIn K mainGlobals "SIGNS" = some (some u))
    (e : ∃ t, u = .str ("abcdefghijklmnopqrstuvwxyzABCDEFGHIJKLMNOPQRSTUVWXYZ0123456789 .,:;-/()\n" : Str) t) : G_SIGNS mg := by
  obtain ⟨t, rfl⟩ := e
  exact ⟨t, PySem.W.mg_of X G a⟩
end Lf

/-! # LfEqD -/
set_option Elab.async false
set_option linter.all false
set_option maxRecDepth 100000
set_option maxHeartbeats 4000000
namespace PySem.SeqAt
open AutoSeq1 (wpAny_loadPart')
open MeetsSeq MeetsSeq2 MeetsSeq3 SeqRoads2
section
variable {prog : Program} {w : World}
/-- != of two lists of one length, their items compared in this world -/
theorem lf_ne_loop (l b : Addr) (xs ys : Array Value) (n n2 : Nat) (dd dd2 : Option Addr) (sl sl2 : Array (Option Value)) (hsz : xs.size = ys.size) (e : Nat → Bool) (k : Nat) :
    ∀ i : Nat, xs.size - i = k → MeetsIn prog w (Builtin.«list.__eq__.loop» ⟨[.ref l, .ref b, rawInt i, rawInt 3], []⟩)
      (fun A R s => s.heap.get? l = some { cls := .type "list", dict := dd, data := .seq xs n, slots := sl } ∧ s.heap.get? b = some { cls := .type "list", dict := dd2, data := .seq ys n2, slots := sl2 } ∧
        (∀ j (h1 : j < xs.size) (h2 : j < ys.size), EqIn prog w A.in1 s xs[j] ys[j] (e j)) ∧
        R (.ok (.ret (.bool (!((List.range xs.size).drop i).all e)))) s) := by
  induction k with
  | zero =>
    intro i hk A R s h
    obtain ⟨hp, g, d, tk, os⟩ := s
    obtain ⟨hl, hb, he, h⟩ := h
    wp_walk using wpAny_loadPart' hl, wpAny_loadPart' hb
    have q1 : xs[((i : Nat) : Int).toNat]? = none := by simp; omega
    have q2 : ys[((i : Nat) : Int).toNat]? = none := by simp; omega
    have q3 : (List.range xs.size).drop i = [] := by simp; omega
    rw [q3] at h
    rw [q1, q2]
    wp_walk using wpAny_loadPart' hl, wpAny_loadPart' hb
    show R (.ok (.ret (.bool (xs.size != ys.size)))) _
    rw [hsz]
    simpa using h
  | succ k ih =>
    intro i hk A R s h
    obtain ⟨hp, g, d, tk, os⟩ := s
    obtain ⟨hl, hb, he, h⟩ := h
    wp_walk using wpAny_loadPart' hl, wpAny_loadPart' hb
    have p1 : i < xs.size := by omega
    have p2 : i < ys.size := by omega
    have q1 : xs[((i : Nat) : Int).toNat]? = some xs[i] := by simp [p1]
    have q2 : ys[((i : Nat) : Int).toNat]? = some ys[i] := by simp [p2]
    have q3 : (List.range xs.size).drop i = i :: (List.range xs.size).drop (i + 1) := by simp [List.drop_eq_getElem_cons, p1]
    have q4 : ((i : Int) + 1) = ((i + 1 : Nat) : Int) := by push_cast; rfl
    rw [q3, List.all_cons] at h
    rw [q1, q2]
    refine wpAny_bind (he i p1 p2 _ _ ?_)
    cases hx : e i with
    | true =>
      rw [hx] at h
      wp_walk
      rw [q4]
      exact ⟨plainId_quiet plain_eq_loop _, codeAny_builtin entry_eq_loop (by
        rw [Around.under_plainId plain_eq_loop _]
        exact ih (i + 1) (by omega) A R _ ⟨hl, hb, he, by simpa using h⟩)⟩
    | false =>
      rw [hx] at h
      wp_walk using wpAny_loadPart' hl, wpAny_loadPart' hb
      rw [q1, q2]
      wp_walk
      simpa using h
theorem lf_list_ne (l b : Addr) (xs ys : Array Value) (n n2 : Nat) (dd dd2 : Option Addr) (sl sl2 : Array (Option Value)) (hsz : xs.size = ys.size) (e : Nat → Bool) :
    MeetsIn prog w (Builtin.«list.__ne__» ⟨[.ref l, .ref b], []⟩)
      (fun A R s => s.heap.get? l = some { cls := .type "list", dict := dd, data := .seq xs n, slots := sl } ∧ s.heap.get? b = some { cls := .type "list", dict := dd2, data := .seq ys n2, slots := sl2 } ∧
        (∀ j (h1 : j < xs.size) (h2 : j < ys.size), EqIn prog w A.in1 s xs[j] ys[j] (e j)) ∧
        R (.ok (.ret (.bool (!(List.range xs.size).all e)))) s) := by
  intro A R s h
  obtain ⟨hp, g, d, tk, os⟩ := s
  obtain ⟨hl, hb, he, h⟩ := h
  have f3 := AutoSeq1.sub_list_list
  have hne : ¬ (xs.size != ys.size) = true := by simp [hsz]
  wp_walk using wpAny_loadPart' hl, wpAny_loadPart' hb
  exact ⟨plainId_quiet plain_eq_loop _, codeAny_builtin entry_eq_loop (by
    rw [Around.under_plainId plain_eq_loop _]
    exact lf_ne_loop l b xs ys n n2 dd dd2 sl sl2 hsz e _ 0 rfl A R _ ⟨hl, hb, he, by simpa using h⟩)⟩
theorem lf_ne_lists {A : Around} {s : Shared} {E : Value → Shared → Prop} {l b : Addr} {xs ys : Array Value} {e : Nat → Bool} {Q : Value → Shared → Prop} (hl : s.heap.IsList l xs) (hb : s.heap.IsList b ys) (hsz : xs.size = ys.size) (hu : A.units < cLine)
    (he : ∀ j (h1 : j < xs.size) (h2 : j < ys.size), EqIn prog w A.in1 s xs[j] ys[j] (e j)) (h : Q (.bool (!(List.range xs.size).all e)) s) : wpAny (model prog w) A (richCompare .NotEq (.ref l) (.ref b)) Q E s := by
  obtain ⟨⟨c1, d1, t1, s1⟩, ho, hc, n, hd⟩ := id hl
  obtain ⟨⟨c2, d2, t2, s2⟩, ho2, hc2, n2, hd2⟩ := id hb
  simp only at hc hd hc2 hd2
  subst hc hd hc2 hd2
  exact wpAny_richCompare_same_room (T := "list") (op := .NotEq) ⟨_, ho, rfl⟩ ⟨_, ho2, rfl⟩ F.slot_list_ne (call_meetsIn F.slot_list_ne ⟨_, ho, rfl⟩ F.entry_list_ne (F.args_list_ne_2 _ _) (lf_list_ne l b xs ys n n2 d1 d2 s1 s2 hsz e)
    ⟨ho, ho2, he, show Value.bool (!(List.range xs.size).all e) ≠ Value.notImplemented ∧ Q (.bool (!(List.range xs.size).all e)) s from ⟨(fun x => nomatch x), h⟩⟩) hu
end
end PySem.SeqAt
namespace PySem.W
open PySem PySem.Calls PyProof.Rows PySem.Spec
/-- != of two dicts, their values compared in this world -/
theorem lf_ne_dicts {prog : Program} {w : World} {K : Type} [DecidableEq K] {knd : KeyKind prog w K} {A : Around} {E : Value → Shared → Prop} {s : Shared} {a b : Addr} {ka kb : List (K × Value)} {r : Bool} {Q : Value → Shared → Prop} (ha : (a == sysModules) = false) (hb : (b == sysModules) = false)
    (da : s.heap.DictOf knd a ka) (db : s.heap.DictOf knd b kb) (hu : A.units < cLine) (hits : ka.length = kb.length → KeqHitsIn prog w A.in1 s kb ka r) (h : Q (.bool (!(ka.length == kb.length && r))) s) :
    wpAny (model prog w) A (compareOp .NotEq (.ref a) (.ref b)) Q E s := by
  refine wpAny_richCompare_same_room (op := .NotEq) da.typeIs db.typeIs PySem.F.slot_dict_ne (wpAny_call_entry PySem.F.slot_dict_ne da.typeIs PySem.F.entry_dict_ne ?_ (PySem.F.args_dict_ne_2 _ _)) hu
  show wpAny _ _ (Builtin.Dict.dictSlotArgs "__ne__" ⟨[.ref a, .ref b], []⟩ >>= _) _ _ s
  refine wpAny_bind ?_
  unfold Builtin.Dict.dictSlotArgs
  refine wpAny_bind (wpAny_notOrdered_dict da.typeIs ?_)
  show wpAny _ _ (pure (Value.ref a, Value.ref b)) _ _ s
  refine wpAny_pure ?_
  refine wpAny_bind (wpAny_isInstance (T := "dict") db.typeIs PySem.F.sub_dict_dict ?_)
  simp only [Bool.not_true, Bool.false_eq_true, if_false]
  refine wpAny_bind (wpAny_pure (wpAny_bind (wpAny_pure ?_)))
  refine wpAny_bind (keq_samePairsIn ha hb da db hits ?_)
  refine wpAny_pure ⟨_, rfl, ?_, ?_⟩
  · exact fun x => nomatch x
  · simpa using h
end PySem.W
namespace Lf
open PySem L2
/-! ## data: lists, tuples, dicts with text keys, in any order -/
inductive D where
  | non | bl (b : Bool) | int (i : Int) | str (s : Str)
  | tup (l : List D) | lst (l : List D) | dic (l : List (Str × D))
mutual
def D.depth : D → Nat
  | .non | .bl _ | .int _ | .str _ => 0
  | .tup l | .lst l => depthAll l + 1
  | .dic l => depthKv l + 1
def depthAll : List D → Nat
  | [] => 0
  | d :: r => max d.depth (depthAll r)
def depthKv : List (Str × D) → Nat
  | [] => 0
  | (_, d) :: r => max d.depth (depthKv r)
end
mutual
inductive Rp (K : PySem.W.Frag) (H : Hp) : V → D → Prop
  | non : Rp K H .non .non
  | bl (b : Bool) : Rp K H (.bl b) (.bl b)
  | int (i : Int) : Rp K H (.int i) (.int i)
  | str (s : Str) : Rp K H (.str s) (.str s)
  | lst {a : Addr} {xs : List V} {ds : List D} : SqL K H a xs → RpAll K H xs ds → Rp K H (.ref a) (.lst ds)
  | tup {a : Addr} {xs : List V} {ds : List D} : SqT K H a xs → RpAll K H xs ds → Rp K H (.ref a) (.tup ds)
  | dic {a : Addr} {kvs : List (Key × V)} {ds : List (Str × D)} : Rd H a (.dK kvs) → RpKv K H kvs ds → (ds.map (·.1)).Nodup → Rp K H (.ref a) (.dic ds)
inductive RpAll (K : PySem.W.Frag) (H : Hp) : List V → List D → Prop
  | nil : RpAll K H [] []
  | cons {v : V} {vs : List V} {d : D} {ds : List D} : Rp K H v d → RpAll K H vs ds → RpAll K H (v :: vs) (d :: ds)
inductive RpKv (K : PySem.W.Frag) (H : Hp) : List (Key × V) → List (Str × D) → Prop
  | nil : RpKv K H [] []
  | cons {n : Str} {v : V} {vs : List (Key × V)} {d : D} {ds : List (Str × D)} : Rp K H v d → RpKv K H vs ds → RpKv K H ((Sum.inr n, v) :: vs) ((n, d) :: ds)
end
section
variable {K : PySem.W.Frag} {H : Hp}
theorem RpAll.len : ∀ {xs : List V} {ds : List D}, RpAll K H xs ds → xs.length = ds.length
  | _, _, .nil => rfl
  | _, _, .cons _ t => by rw [List.length_cons, List.length_cons, RpAll.len t]
theorem RpKv.len : ∀ {xs : List (Key × V)} {ds : List (Str × D)}, RpKv K H xs ds → xs.length = ds.length
  | _, _, .nil => rfl
  | _, _, .cons _ t => by rw [List.length_cons, List.length_cons, RpKv.len t]
theorem RpAll.at : ∀ {xs : List V} {ds : List D} {i : Nat} {x : V}, RpAll K H xs ds → xs[i]? = some x → ∃ d, ds[i]? = some d ∧ Rp K H x d
  | _, _, _, _, .nil, e => by simp at e
  | _, _, 0, _, .cons r _, e => by simp at e; subst e; exact ⟨_, rfl, r⟩
  | _, _, i + 1, x, .cons _ t, e => by
    obtain ⟨d, h1, h2⟩ := RpAll.at (i := i) (x := x) t (by simpa using e)
    exact ⟨d, by simpa using h1, h2⟩
theorem RpKv.mem : ∀ {xs : List (Key × V)} {ds : List (Str × D)} {k : Key} {x : V}, RpKv K H xs ds → (k, x) ∈ xs → ∃ n d, k = Sum.inr n ∧ (n, d) ∈ ds ∧ Rp K H x d
  | _, _, _, _, .nil, e => by cases e
  | _, _, k, x, .cons r t, e => by
    rcases List.mem_cons.mp e with e | e
    · cases e; exact ⟨_, _, rfl, List.mem_cons_self, r⟩
    · obtain ⟨n, d, h1, h2, h3⟩ := RpKv.mem t e
      exact ⟨n, d, h1, List.mem_cons_of_mem _ h2, h3⟩
theorem RpKv.val : ∀ {xs : List (Key × V)} {ds : List (Str × D)} {n : Str} {d : D}, RpKv K H xs ds → (ds.map (·.1)).Nodup → (n, d) ∈ ds → ∃ x, valV xs (Sum.inr n : Key) = some x ∧ Rp K H x d
  | _, _, _, _, .nil, _, e => by cases e
  | _, _, n, d, .cons (n := m) (v := v) (vs := vs) (ds := ds) r t, nd, e0 => by
    rw [List.map_cons, List.nodup_cons] at nd
    rcases List.mem_cons.mp e0 with e | e
    · cases e; exact ⟨v, valV_pos rfl, r⟩
    · obtain ⟨x, h1, h2⟩ := RpKv.val t nd.2 e
      have hne : ¬ (Sum.inr m : Key) = Sum.inr n := fun q => nd.1 (by cases q; exact List.mem_map.mpr ⟨(_, d), e, rfl⟩)
      exact ⟨x, by rw [valV_neg (p := ((Sum.inr m : Key), v)) hne]; exact h1, h2⟩
end
theorem depth_mem {d : D} : ∀ {l : List D}, d ∈ l → d.depth ≤ depthAll l
  | _ :: r, h => by
    rcases List.mem_cons.mp h with e | h
    · subst e; unfold depthAll; exact Nat.le_max_left _ _
    · have := depth_mem h; unfold depthAll; exact Nat.le_trans this (Nat.le_max_right _ _)
theorem depth_memKv {n : Str} {d : D} : ∀ {l : List (Str × D)}, (n, d) ∈ l → d.depth ≤ depthKv l
  | (m, e) :: r, h => by
    rcases List.mem_cons.mp h with q | h
    · cases q; unfold depthKv; exact Nat.le_max_left _ _
    · have := depth_memKv h; unfold depthKv; exact Nat.le_trans this (Nat.le_max_right _ _)
theorem all_true {α : Type} (l : List α) : (l.all fun _ => true) = true := List.all_eq_true.mpr fun _ _ => rfl
section
variable {X : Cx} {pins : List (Addr × Obj)} {σ : L2.St} {H : Hp} {s : Shared}
/-- what a dict at a is -/
theorem dict_at (I : Inv X pins σ H s) {a : Addr} {kvs : List (Key × V)} (h : Rd H a (.dK kvs)) : (a == sysModules) = false ∧ ∃ vs, KV kvs vs ∧ s.heap.DictOf (mixKind X.prog X.w) a vs := by
  obtain ⟨_, b, vs, c, d⟩ := dk_rd I.hok h
  exact ⟨b, vs, c, d⟩
theorem kv_mem {kvs : List (Key × V)} {vs : List (Key × Value)} (h : KV kvs vs) {k : Key} {u : Value} (m : (k, u) ∈ vs) : ∃ x, (k, x) ∈ kvs ∧ RelV x u := by
  unfold KV at h
  induction h with
  | nil => cases m
  | @cons p q ps qs r t ih =>
    rcases List.mem_cons.mp m with e | m
    · subst e
      obtain ⟨k', x⟩ := p
      have : k' = k := r.1
      subst this
      exact ⟨x, List.mem_cons_self, r.2⟩
    · obtain ⟨x, h1, h2⟩ := ih m
      exact ⟨x, List.mem_cons_of_mem _ h1, h2⟩
/-- the same data: they are equal -/
theorem tree_eq (I : Inv X pins σ H s) : ∀ (n : Nat) (d : D) (v y : V) (u u' : Value), d.depth ≤ n → Rp X.K H v d → Rp X.K H y d → RelV v u → RelV y u' → PySem.W.EqTree X.prog X.w s n u u' true := by
  intro n
  induction n with
  | zero =>
    intro d v y u u' hd h1 h2 r1 r2
    cases d with
    | non => cases h1; cases h2; cases r1; cases r2; exact .same
    | bl b => cases h1; cases h2; cases r1; cases r2; exact .same
    | int i =>
      cases h1; cases h2
      obtain ⟨t, rfl⟩ := r1
      obtain ⟨t', rfl⟩ := r2
      exact .leaf fun A _ => by have := SeqAt.EqAt.int_int (A := A) (s := s) i t i t'; simpa using this
    | str x =>
      cases h1; cases h2
      obtain ⟨t, rfl⟩ := r1
      obtain ⟨t', rfl⟩ := r2
      exact .leaf fun A _ => by have := SeqAt.EqAt.str_str (A := A) (s := s) x t x t'; simpa using this
    | tup l => unfold D.depth at hd; omega
    | lst l => unfold D.depth at hd; omega
    | dic l => unfold D.depth at hd; omega
  | succ n ih =>
    intro d v y u u' hd h1 h2 r1 r2
    cases d with
    | non => cases h1; cases h2; cases r1; cases r2; exact .same
    | bl b => cases h1; cases h2; cases r1; cases r2; exact .same
    | int i =>
      cases h1; cases h2
      obtain ⟨t, rfl⟩ := r1
      obtain ⟨t', rfl⟩ := r2
      exact .leaf fun A _ => by have := SeqAt.EqAt.int_int (A := A) (s := s) i t i t'; simpa using this
    | str x =>
      cases h1; cases h2
      obtain ⟨t, rfl⟩ := r1
      obtain ⟨t', rfl⟩ := r2
      exact .leaf fun A _ => by have := SeqAt.EqAt.str_str (A := A) (s := s) x t x t'; simpa using this
    | tup l =>
      cases h1 with
      | tup q1 p1 =>
        cases h2 with
        | tup q2 p2 =>
          rename_i a xs b ys
          cases r1; cases r2
          by_cases e : a = b
          · subst e; exact .same
          · obtain ⟨us, v1, t1, _⟩ := I.tuple q1
            obtain ⟨ws, v2, t2, _⟩ := I.tuple q2
            have l1 := p1.len
            have l2 := p2.len
            have k1 := v1.length
            have k2 := v2.length
            have tr := PySem.W.EqTree.tuples (prog := X.prog) (w := X.w) (n := n) (e := fun _ => true) e t1 t2 (fun j h1 h2 => by
              simp only [List.size_toArray] at h1 h2
              obtain ⟨d1, e1, z1⟩ := p1.at (i := j) (x := xs[j]'(by omega)) (List.getElem?_eq_getElem _)
              obtain ⟨d2, e2, z2⟩ := p2.at (i := j) (x := ys[j]'(by omega)) (List.getElem?_eq_getElem _)
              rw [e1] at e2; cases e2
              obtain ⟨w1, f1, g1⟩ := v1.get (i := j) (x := xs[j]'(by omega)) (List.getElem?_eq_getElem _)
              obtain ⟨w2, f2, g2⟩ := v2.get (i := j) (x := ys[j]'(by omega)) (List.getElem?_eq_getElem _)
              rw [List.getElem?_eq_getElem h1] at f1; cases f1
              rw [List.getElem?_eq_getElem h2] at f2; cases f2
              have hdd := depth_mem (List.mem_of_getElem? e1)
              unfold D.depth at hd
              exact ih d1 _ _ _ _ (by omega) z1 z2 g1 g2)
            rw [all_true] at tr
            have es : (us.toArray.size == ws.toArray.size) = true := by simp only [List.size_toArray, beq_iff_eq]; omega
            rw [es] at tr
            exact tr
    | lst l =>
      cases h1 with
      | lst q1 p1 =>
        cases h2 with
        | lst q2 p2 =>
          rename_i a xs b ys
          cases r1; cases r2
          by_cases e : a = b
          · subst e; exact .same
          · obtain ⟨us, v1, t1, _⟩ := I.list q1
            obtain ⟨ws, v2, t2, _⟩ := I.list q2
            have l1 := p1.len
            have l2 := p2.len
            have k1 := v1.length
            have k2 := v2.length
            have tr := PySem.W.EqTree.lists (prog := X.prog) (w := X.w) (n := n) (e := fun _ => true) e t1.isList t2.isList (by simp only [List.size_toArray]; omega) (fun j h1 h2 => by
              simp only [List.size_toArray] at h1 h2
              obtain ⟨d1, e1, z1⟩ := p1.at (i := j) (x := xs[j]'(by omega)) (List.getElem?_eq_getElem _)
              obtain ⟨d2, e2, z2⟩ := p2.at (i := j) (x := ys[j]'(by omega)) (List.getElem?_eq_getElem _)
              rw [e1] at e2; cases e2
              obtain ⟨w1, f1, g1⟩ := v1.get (i := j) (x := xs[j]'(by omega)) (List.getElem?_eq_getElem _)
              obtain ⟨w2, f2, g2⟩ := v2.get (i := j) (x := ys[j]'(by omega)) (List.getElem?_eq_getElem _)
              rw [List.getElem?_eq_getElem h1] at f1; cases f1
              rw [List.getElem?_eq_getElem h2] at f2; cases f2
              have hdd := depth_mem (List.mem_of_getElem? e1)
              unfold D.depth at hd
              exact ih d1 _ _ _ _ (by omega) z1 z2 g1 g2)
            rw [all_true] at tr
            exact tr
    | dic l =>
      cases h1 with
      | dic q1 p1 nd1 =>
        cases h2 with
        | dic q2 p2 nd2 =>
          rename_i a xs b ys
          cases r1; cases r2
          by_cases e : a = b
          · subst e; exact .same
          · obtain ⟨s1, vs1, k1, d1⟩ := dict_at I q1
            obtain ⟨s2, vs2, k2, d2⟩ := dict_at I q2
            have there : ∀ k v, (k, v) ∈ vs1 → ∃ n d x y, k = Sum.inr n ∧ (n, d) ∈ l ∧ Rp X.K H x d ∧ RelV x v ∧ valV ys k = some y ∧ Rp X.K H y d := fun k v m => by
              obtain ⟨x, m1, rx⟩ := kv_mem k1 m
              obtain ⟨n, d, e1, m2, rp⟩ := p1.mem m1
              obtain ⟨y, e2, rp2⟩ := p2.val nd1 m2
              exact ⟨n, d, x, y, e1, m2, rp, rx, by rw [e1]; exact e2, rp2⟩
            have tr := PySem.W.EqTree.dicts (prog := X.prog) (w := X.w) (knd := mixKind X.prog X.w) (n := n) (e := fun _ => true) e s1 s2 d1 d2 (fun k v y' m hv => by
              obtain ⟨nm, d, x, y, e1, m2, rp, rx, e2, rp2⟩ := there k v m
              have ro := k2.val k
              rw [e2, hv] at ro
              have hdd := depth_memKv m2
              unfold D.depth at hd
              exact ih d x y v y' (by omega) rp rp2 rx ro)
            have hl : (vs1.length == vs2.length) = true := by
              have := p1.len; have := p2.len; have := k1.length; have := k2.length
              simp only [beq_iff_eq]; omega
            have ha : (vs1.all fun p => (valueAt vs2 p.1).isSome && true) = true := List.all_eq_true.mpr fun p hp => by
              obtain ⟨nm, d, x, y, e1, m2, rp, rx, e2, rp2⟩ := there p.1 p.2 hp
              have ro := k2.val p.1
              rw [e2] at ro
              obtain ⟨z, hz, _⟩ := ro.some_of
              rw [hz]; rfl
            rw [hl, ha] at tr
            exact tr
end
/-- a == b, a != b of the same data (a list, a tuple, a dict) -/
def rEqS (K : PySem.W.Frag) : R2 := fun x y H Q => ∃ d : D, Rp K H x d ∧ Rp K H y d ∧ d.depth ≤ 60 ∧ 1 ≤ d.depth ∧ Q (.bl true) H
def rNeS (K : PySem.W.Frag) : R2 := fun x y H Q => ∃ d : D, Rp K H x d ∧ Rp K H y d ∧ d.depth ≤ 60 ∧ (match d with | .lst _ => True | .dic _ => True | _ => False) ∧ Q (.bl false) H
section
variable {X : Cx}
theorem op_eqS {K : PySem.W.Frag} (h : X.K = K) (hu : X.A.units + 64 < cLine) : OpR X (compareOp .Eq) (rEqS K) := by
  subst h
  intro pins s σ H x y v u Q I rx ry h
  obtain ⟨d, hx, hy, hd, h1, q⟩ := h
  have sub := fun (d' : D) (x' y' : V) (v' u' : Value) (hd' : d'.depth ≤ 60) h1 h2 r1 r2 => (tree_eq I 60 d' x' y' v' u' hd' h1 h2 r1 r2).at X.A.in1 (by show X.A.units + 1 + 60 < cLine; omega)
  cases d with
  | non => unfold D.depth at h1; omega
  | bl b => unfold D.depth at h1; omega
  | int i => unfold D.depth at h1; omega
  | str x => unfold D.depth at h1; omega
  | tup l =>
    cases hx with
    | tup q1 p1 =>
      cases hy with
      | tup q2 p2 =>
        rename_i a xs b ys
        cases rx; cases ry
        obtain ⟨us, v1, t1, _⟩ := I.tuple q1
        obtain ⟨ws, v2, t2, _⟩ := I.tuple q2
        have l1 := p1.len; have l2 := p2.len; have k1 := v1.length; have k2 := v2.length
        refine SeqAt.rcIn_tuples (e := fun _ => true) t1 t2 (by omega) (fun j h1 h2 => ?_) ?_
        · simp only [List.size_toArray] at h1 h2
          obtain ⟨d1, e1, z1⟩ := p1.at (i := j) (x := xs[j]'(by omega)) (List.getElem?_eq_getElem _)
          obtain ⟨d2, e2, z2⟩ := p2.at (i := j) (x := ys[j]'(by omega)) (List.getElem?_eq_getElem _)
          rw [e1] at e2; cases e2
          obtain ⟨w1, f1, g1⟩ := v1.get (i := j) (x := xs[j]'(by omega)) (List.getElem?_eq_getElem _)
          obtain ⟨w2, f2, g2⟩ := v2.get (i := j) (x := ys[j]'(by omega)) (List.getElem?_eq_getElem _)
          rw [List.getElem?_eq_getElem h1] at f1; cases f1
          rw [List.getElem?_eq_getElem h2] at f2; cases f2
          have hdd := depth_mem (List.mem_of_getElem? e1)
          unfold D.depth at hd
          exact sub d1 _ _ _ _ (by omega) z1 z2 g1 g2
        · rw [all_true]
          have es : (us.toArray.size == ws.toArray.size) = true := by simp only [List.size_toArray, beq_iff_eq]; omega
          rw [es]
          exact ⟨.bl true, H, I, rfl, q⟩
  | lst l =>
    cases hx with
    | lst q1 p1 =>
      cases hy with
      | lst q2 p2 =>
        rename_i a xs b ys
        cases rx; cases ry
        obtain ⟨us, v1, t1, _⟩ := I.list q1
        obtain ⟨ws, v2, t2, _⟩ := I.list q2
        have l1 := p1.len; have l2 := p2.len; have k1 := v1.length; have k2 := v2.length
        refine SeqAt.rcIn_lists (e := fun _ => true) t1.isList t2.isList (by simp only [List.size_toArray]; omega) (by omega) (fun j h1 h2 => ?_) ?_
        · simp only [List.size_toArray] at h1 h2
          obtain ⟨d1, e1, z1⟩ := p1.at (i := j) (x := xs[j]'(by omega)) (List.getElem?_eq_getElem _)
          obtain ⟨d2, e2, z2⟩ := p2.at (i := j) (x := ys[j]'(by omega)) (List.getElem?_eq_getElem _)
          rw [e1] at e2; cases e2
          obtain ⟨w1, f1, g1⟩ := v1.get (i := j) (x := xs[j]'(by omega)) (List.getElem?_eq_getElem _)
          obtain ⟨w2, f2, g2⟩ := v2.get (i := j) (x := ys[j]'(by omega)) (List.getElem?_eq_getElem _)
          rw [List.getElem?_eq_getElem h1] at f1; cases f1
          rw [List.getElem?_eq_getElem h2] at f2; cases f2
          have hdd := depth_mem (List.mem_of_getElem? e1)
          unfold D.depth at hd
          exact sub d1 _ _ _ _ (by omega) z1 z2 g1 g2
        · rw [all_true]
          exact ⟨.bl true, H, I, rfl, q⟩
  | dic l =>
    cases hx with
    | dic q1 p1 nd1 =>
      cases hy with
      | dic q2 p2 nd2 =>
        rename_i a xs b ys
        cases rx; cases ry
        obtain ⟨s1, vs1, k1, d1⟩ := dict_at I q1
        obtain ⟨s2, vs2, k2, d2⟩ := dict_at I q2
        have there : ∀ k v, (k, v) ∈ vs1 → ∃ n d x y, k = Sum.inr n ∧ (n, d) ∈ l ∧ Rp X.K H x d ∧ RelV x v ∧ valV ys k = some y ∧ Rp X.K H y d := fun k v m => by
          obtain ⟨x, m1, rx⟩ := kv_mem k1 m
          obtain ⟨n, d, e1, m2, rp⟩ := p1.mem m1
          obtain ⟨y, e2, rp2⟩ := p2.val nd1 m2
          exact ⟨n, d, x, y, e1, m2, rp, rx, by rw [e1]; exact e2, rp2⟩
        have ha : (vs1.all fun p => (valueAt vs2 p.1).isSome && true) = true := List.all_eq_true.mpr fun p hp => by
          obtain ⟨nm, d, x, y, e1, m2, rp, rx, e2, rp2⟩ := there p.1 p.2 hp
          have ro := k2.val p.1
          rw [e2] at ro
          obtain ⟨z, hz, _⟩ := ro.some_of
          rw [hz]; rfl
        have hl : (vs1.length == vs2.length) = true := by
          have := p1.len; have := p2.len; have := k1.length; have := k2.length
          simp only [beq_iff_eq]; omega
        have hits := PySem.W.KeqHitsIn.of (prog := X.prog) (w := X.w) (A := X.A.in1) (s := s) (kb := vs2) (e := fun _ => true) vs1 (fun k v y' m hv => by
          obtain ⟨nm, d, x, y, e1, m2, rp, rx, e2, rp2⟩ := there k v m
          have ro := k2.val k
          rw [e2, hv] at ro
          have hdd := depth_memKv m2
          unfold D.depth at hd
          exact sub d x y v y' (by omega) rp rp2 rx ro)
        rw [ha] at hits
        refine PySem.W.keq_eqIn (r := true) s1 s2 d1 d2 (by omega) (fun _ => hits) ?_
        rw [hl]
        exact ⟨.bl true, H, I, rfl, q⟩
theorem op_neS {K : PySem.W.Frag} (h : X.K = K) (hu : X.A.units + 64 < cLine) : OpR X (compareOp .NotEq) (rNeS K) := by
  subst h
  intro pins s σ H x y v u Q I rx ry h
  obtain ⟨d, hx, hy, hd, h1, q⟩ := h
  have sub := fun (d' : D) (x' y' : V) (v' u' : Value) (hd' : d'.depth ≤ 60) h1 h2 r1 r2 => (tree_eq I 60 d' x' y' v' u' hd' h1 h2 r1 r2).at X.A.in1 (by show X.A.units + 1 + 60 < cLine; omega)
  cases d with
  | non => exact h1.elim
  | bl b => exact h1.elim
  | int i => exact h1.elim
  | str x => exact h1.elim
  | tup l => exact h1.elim
  | lst l =>
    cases hx with
    | lst q1 p1 =>
      cases hy with
      | lst q2 p2 =>
        rename_i a xs b ys
        cases rx; cases ry
        obtain ⟨us, v1, t1, _⟩ := I.list q1
        obtain ⟨ws, v2, t2, _⟩ := I.list q2
        have l1 := p1.len; have l2 := p2.len; have k1 := v1.length; have k2 := v2.length
        refine SeqAt.lf_ne_lists (e := fun _ => true) t1.isList t2.isList (by simp only [List.size_toArray]; omega) (by omega) (fun j h1 h2 => ?_) ?_
        · simp only [List.size_toArray] at h1 h2
          obtain ⟨d1, e1, z1⟩ := p1.at (i := j) (x := xs[j]'(by omega)) (List.getElem?_eq_getElem _)
          obtain ⟨d2, e2, z2⟩ := p2.at (i := j) (x := ys[j]'(by omega)) (List.getElem?_eq_getElem _)
          rw [e1] at e2; cases e2
          obtain ⟨w1, f1, g1⟩ := v1.get (i := j) (x := xs[j]'(by omega)) (List.getElem?_eq_getElem _)
          obtain ⟨w2, f2, g2⟩ := v2.get (i := j) (x := ys[j]'(by omega)) (List.getElem?_eq_getElem _)
          rw [List.getElem?_eq_getElem h1] at f1; cases f1
          rw [List.getElem?_eq_getElem h2] at f2; cases f2
          have hdd := depth_mem (List.mem_of_getElem? e1)
          unfold D.depth at hd
          exact sub d1 _ _ _ _ (by omega) z1 z2 g1 g2
        · rw [all_true]
          exact ⟨.bl false, H, I, rfl, q⟩
  | dic l =>
    cases hx with
    | dic q1 p1 nd1 =>
      cases hy with
      | dic q2 p2 nd2 =>
        rename_i a xs b ys
        cases rx; cases ry
        obtain ⟨s1, vs1, k1, d1⟩ := dict_at I q1
        obtain ⟨s2, vs2, k2, d2⟩ := dict_at I q2
        have there : ∀ k v, (k, v) ∈ vs1 → ∃ n d x y, k = Sum.inr n ∧ (n, d) ∈ l ∧ Rp X.K H x d ∧ RelV x v ∧ valV ys k = some y ∧ Rp X.K H y d := fun k v m => by
          obtain ⟨x, m1, rx⟩ := kv_mem k1 m
          obtain ⟨n, d, e1, m2, rp⟩ := p1.mem m1
          obtain ⟨y, e2, rp2⟩ := p2.val nd1 m2
          exact ⟨n, d, x, y, e1, m2, rp, rx, by rw [e1]; exact e2, rp2⟩
        have ha : (vs1.all fun p => (valueAt vs2 p.1).isSome && true) = true := List.all_eq_true.mpr fun p hp => by
          obtain ⟨nm, d, x, y, e1, m2, rp, rx, e2, rp2⟩ := there p.1 p.2 hp
          have ro := k2.val p.1
          rw [e2] at ro
          obtain ⟨z, hz, _⟩ := ro.some_of
          rw [hz]; rfl
        have hl : (vs1.length == vs2.length) = true := by
          have := p1.len; have := p2.len; have := k1.length; have := k2.length
          simp only [beq_iff_eq]; omega
        have hits := PySem.W.KeqHitsIn.of (prog := X.prog) (w := X.w) (A := X.A.in1) (s := s) (kb := vs2) (e := fun _ => true) vs1 (fun k v y' m hv => by
          obtain ⟨nm, d, x, y, e1, m2, rp, rx, e2, rp2⟩ := there k v m
          have ro := k2.val k
          rw [e2, hv] at ro
          have hdd := depth_memKv m2
          unfold D.depth at hd
          exact sub d x y v y' (by omega) rp rp2 rx ro)
        rw [ha] at hits
        refine PySem.W.lf_ne_dicts (r := true) s1 s2 d1 d2 (by omega) (fun _ => hits) ?_
        rw [hl]
        exact ⟨.bl false, H, I, rfl, q⟩
end
end Lf

/-! # LfVals -/
set_option Elab.async false
set_option linter.all false
set_option maxRecDepth 100000
set_option maxHeartbeats 4000000
namespace Lf
open PySem L2
/-! ## values as data -/
def VlD : Vl → D
  | .tx s => .str s
  | .rws rs => .lst (rs.map fun r => .dic (r.map fun p => (p.1, .str p.2)))
def valsD (vals : List (Str × Vl)) : D := .dic (vals.map fun p => (p.1, VlD p.2))
theorem rowK_rp {K : PySem.W.Frag} {H : Hp} : ∀ (r : List (Str × Str)), RpKv K H (rowK r) (r.map fun p => (p.1, D.str p.2))
  | [] => .nil
  | p :: r => .cons (.str _) (rowK_rp r)
theorem rows_rp {K : PySem.W.Frag} {H : Hp} {xs : List V} {rs : List (List (Str × Str))} (h : Paired (RD H) xs rs) (nd : ∀ r ∈ rs, (r.map (·.1)).Nodup) : RpAll K H xs (rs.map fun r => D.dic (r.map fun p => (p.1, .str p.2))) := by
  induction h with
  | nil => exact .nil
  | @cons x r xs rs z _ ih =>
    obtain ⟨d, rfl, e⟩ := z
    refine .cons (.dic (.inl e) (rowK_rp r) ?_) (ih fun r' hr' => nd r' (List.mem_cons_of_mem _ hr'))
    rw [List.map_map]; exact nd r List.mem_cons_self
def ndV : Vl → Prop
  | .tx _ => True
  | .rws rs => ∀ r ∈ rs, (r.map (·.1)).Nodup
theorem RVl.rp {K : PySem.W.Frag} {H : Hp} {v : V} {vl : Vl} (h : RVl K H v vl) (nd : ndV vl) : Rp K H v (VlD vl) := by
  cases vl with
  | tx s => cases h; exact .str _
  | rws rs => obtain ⟨l, xs, rfl, q, p⟩ := h; exact .lst q (rows_rp p nd)
theorem RKv.rp {K : PySem.W.Frag} {H : Hp} {kvs : List (Key × V)} {vals : List (Str × Vl)} (h : Paired (RKv K H) kvs vals) (nd : ∀ p ∈ vals, ndV p.2) : RpKv K H kvs (vals.map fun p => (p.1, VlD p.2)) := by
  induction h with
  | nil => exact .nil
  | @cons x r xs rs z _ ih =>
    obtain ⟨k, v⟩ := x
    obtain ⟨e, q⟩ := z
    simp only at e
    subst e
    exact .cons (q.rp (nd r List.mem_cons_self)) (ih fun p hp => nd p (List.mem_cons_of_mem _ hp))
theorem RV.rp {K : PySem.W.Frag} {H : Hp} {v : V} {vals : List (Str × Vl)} (h : RV K H v vals) (n1 : (vals.map (·.1)).Nodup) (n2 : ∀ p ∈ vals, ndV p.2) : Rp K H v (valsD vals) := by
  obtain ⟨d, kvs, rfl, e, p⟩ := h
  refine .dic (.inl e) (RKv.rp p n2) ?_
  rw [List.map_map]; exact n1
theorem valsD_depth (vals : List (Str × Vl)) : (valsD vals).depth ≤ 60 ∧ 1 ≤ (valsD vals).depth := by
  have h1 : ∀ r : List (Str × Str), depthKv (r.map fun p => (p.1, D.str p.2)) = 0 := fun r => by
    induction r with
    | nil => rfl
    | cons p r ih => rw [List.map_cons]; unfold depthKv; rw [ih]; rfl
  have h2 : ∀ rs : List (List (Str × Str)), depthAll (rs.map fun r => D.dic (r.map fun p => (p.1, .str p.2))) ≤ 1 := fun rs => by
    induction rs with
    | nil => exact Nat.zero_le _
    | cons r rs ih =>
      rw [List.map_cons]; unfold depthAll; unfold D.depth; rw [h1]; exact Nat.max_le.mpr ⟨by omega, ih⟩
  have h3 : ∀ vl, (VlD vl).depth ≤ 2 := fun vl => by
    cases vl with
    | tx s => exact Nat.zero_le _
    | rws rs => unfold VlD D.depth; have := h2 rs; omega
  have h4 : depthKv (vals.map fun p => (p.1, VlD p.2)) ≤ 2 := by
    induction vals with
    | nil => exact Nat.zero_le _
    | cons r rs ih => rw [List.map_cons]; unfold depthKv; exact Nat.max_le.mpr ⟨h3 _, ih⟩
  unfold valsD D.depth
  omega
/-! ## a dict's own rows, the dict itself away -/
theorem rowK_ref {r : List (Str × Str)} {k : Key} {l : Addr} (h : (k, V.ref l) ∈ rowK r) : False := by
  unfold rowK at h
  obtain ⟨p, _, e⟩ := List.mem_map.mp h
  cases e
theorem paired_mem {α β : Type} {F : α → β → Prop} {xs : List α} {ys : List β} {y : β} (h : Paired F xs ys) (m : y ∈ ys) : ∃ x ∈ xs, F x y := by
  obtain ⟨i, hi, e⟩ := List.mem_iff_getElem.mp m
  obtain ⟨x, h1, h2⟩ := Paired.ats h (i := i) (y := y) (by rw [List.getElem?_eq_getElem hi, e])
  exact ⟨x, mem_at h1, h2⟩
theorem RV.own {K : PySem.W.Frag} {G : Hp} {v : V} {vals : List (Str × Vl)} (h : RV K G v vals) : ∃ d kvs, v = .ref d ∧ G d = some (.dK kvs) ∧ Paired (RKv K (hide G [d])) kvs vals := by
  obtain ⟨d, kvs, e, hd, p⟩ := h
  refine ⟨d, kvs, e, hd, Paired.of_at (Paired.len p) fun i x y h1 h2 => ?_⟩
  obtain ⟨y', e2, z1, z2⟩ := Paired.at p h1
  rw [h2] at e2; cases e2
  refine ⟨z1, ?_⟩
  obtain ⟨n, vl⟩ := y
  cases vl with
  | tx s => exact z2
  | rws rs =>
    obtain ⟨l, xs, e3, q, pr⟩ := z2
    have nd : ∀ a, a ∈ [d] → ∀ o, G a = some o → o = .dK kvs := fun a ha o eo => by
      simp at ha; subst ha; rw [hd] at eo; exact (Option.some.inj eo).symm
    refine ⟨l, xs, e3, ?_, Paired.of_at (Paired.len pr) fun j x2 r2 g1 g2 => ?_⟩
    · rcases q with (q | ⟨o, q⟩) | q
      · exact .inl (.inl (by rw [hide_out fun m => by have := nd _ m _ q; cases this]; exact q))
      · exact .inl (.inr ⟨o, by rw [hide_out fun m => by have := nd _ m _ q; cases this]; exact q⟩)
      · exact .inr q
    · obtain ⟨r3, e4, d3, e5, e6⟩ := Paired.at pr g1
      rw [g2] at e4; cases e4
      refine ⟨d3, e5, ?_⟩
      rw [hide_out fun m => ?_]; exact e6
      have e7 := nd _ m _ e6
      have e8 : rowK r2 = kvs := by cases e7; rfl
      have m1 := mem_at h1
      obtain ⟨k, w⟩ := x
      simp only at e3
      subst e3
      rw [← e8] at m1
      exact rowK_ref m1
section
variable (K : PySem.W.Frag)
def sp__law_copy : Sp := fun vs H Q _ => ∃ (v : V) (vals : List (Str × Vl)) (G : Hp), vs = [v] ∧ Same G H ∧ RV K G v vals ∧ (vals.map (·.1)).Nodup ∧ vals.length ≤ 100 ∧
  (∀ p ∈ vals, ∀ rs, p.2 = .rws rs → rs.length ≤ 100) ∧ Ret G H (fun v G' => RV K G' v vals) Q
end
end Lf
namespace Lf
open PySem L2
theorem SqL.ty {K : PySem.W.Frag} {H : Hp} {a : Addr} {xs : List V} (h : SqL K H a xs) : TyX K H (.ref a) (.type "list") := by
  rcases h with (h | ⟨o, h⟩) | ⟨o, its, n, h1, h2, _⟩
  · exact .base (.lst h)
  · exact .base (.frz h)
  · exact .kList h1 h2
/-- a dict was walked: it is free again -/
theorem Wd.unlock {G H G2 H2 : Hp} {d : Addr} {o u : HO} (gh : Same G H) (hd : G d = some o) (W : Wd (hide G [d]) (upd H d u) G2 H2) (e : H2 d = some u) : Wd G H (upd G2 d o) (upd H2 d o) := by
  refine ⟨fun b v hb => ?_, fun b v hb => ?_, fun b v hb => ?_, fun b v h1 h2 => ?_⟩
  · by_cases q : b = d
    · subst q; rw [upd_same]; rw [hd] at hb; exact hb
    · rw [upd_ne q]; exact W.gg _ _ (by rw [hide_out (by simpa using q)]; exact hb)
  · by_cases q : b = d
    · subst q; rw [upd_same] at hb ⊢; exact hb
    · rw [upd_ne q] at hb ⊢; exact W.gh _ _ hb
  · by_cases q : b = d
    · subst q; rw [gh _ _ hd] at hb; rw [upd_same]; exact hb
    · rw [upd_ne q]; exact W.hh _ _ (by rw [upd_ne q]; exact hb)
  · have q : b ≠ d := fun z => by subst z; rw [hd] at h2; cases h2
    rw [upd_ne q]; exact W.nw b v (by rw [upd_ne q]; exact h1) (by rw [hide_out (by simpa using q)]; exact h2)
theorem upd_comm {H : Hp} {a b : Addr} {o u : HO} (h : a ≠ b) : upd (upd H a o) b u = upd (upd H b u) a o := by
  funext c
  by_cases e1 : c = a
  · subst e1; rw [upd_ne h, upd_same, upd_same]
  · by_cases e2 : c = b
    · subst e2; rw [upd_same, upd_ne e1, upd_same]
    · rw [upd_ne e2, upd_ne e1, upd_ne e1, upd_ne e2]
theorem look_mem {α : Type} {l : List (Str × α)} {n : Str} {v : α} (nd : (l.map (·.1)).Nodup) (h : (n, v) ∈ l) : look n l = some v := by
  induction l with
  | nil => cases h
  | cons p r ih =>
    unfold look at *
    rw [List.map_cons, List.nodup_cons] at nd
    rw [List.find?_cons]
    rcases List.mem_cons.mp h with e | h
    · subst e; rw [decide_eq_true rfl]; rfl
    · have ne : ¬ p.1 = n := fun e => nd.1 (by rw [e]; exact List.mem_map.mpr ⟨(n, v), h, rfl⟩)
      rw [decide_eq_false ne]
      exact ih nd.2 h
theorem look_take {α : Type} {l : List (Str × α)} {i : Nat} {n : Str} {v : α} (nd : (l.map (·.1)).Nodup) (h : l[i]? = some (n, v)) : look n (l.take i) = none := by
  rw [look_keys]
  have e := take_snoc h
  have s : ((l.take (i + 1)).map (·.1)).Nodup := nd.sublist ((take_sub l (i + 1)).map _)
  rw [e, List.map_append, List.nodup_append] at s
  intro m
  exact s.2.2 n m n (by simp) rfl
theorem putK_last {kvs : List (Key × V)} {k : Key} {v u : V} (h : valV kvs k = none) : putK (kvs ++ [(k, v)]) k u = kvs ++ [(k, u)] := by
  have h1 : ∀ p ∈ kvs, p.1 ≠ k := fun p hp e => by
    induction kvs with
    | nil => cases hp
    | cons q r ih =>
      by_cases z : q.1 = k
      · rw [valV_pos z] at h; cases h
      · rw [valV_neg z] at h
        rcases List.mem_cons.mp hp with e2 | hp
        · subst e2; exact z e
        · exact ih h hp
  unfold putK
  rw [if_pos (by rw [List.any_append]; simp), List.map_append]
  congr 1
  · conv => rhs; rw [← List.map_id kvs]
    exact List.map_congr_left fun p hp => by rw [if_neg (h1 p hp)]; rfl
  · simp
end Lf

namespace Lf
open PySem L2
/-! ## a heap without dicts -/
def noD (H : Hp) : Hp := fun a => match H a with
  | some (.dK _) => none
  | o => o
theorem noD_out {H : Hp} {a : Addr} (h : ∀ kvs, H a ≠ some (.dK kvs)) : noD H a = H a := by
  unfold noD
  split
  · next e => exact absurd e (h _)
  · rfl
theorem noD_in {H : Hp} {a : Addr} {kvs : List (Key × V)} (h : H a = some (.dK kvs)) : noD H a = none := by unfold noD; rw [h]
theorem noD_same (H : Hp) : Same (noD H) H := fun a o e => by
  unfold noD at e
  split at e
  · cases e
  · exact e
theorem SqL.noD {K : PySem.W.Frag} {H : Hp} {a : Addr} {xs : List V} (h : SqL K H a xs) : SqL K (noD H) a xs := by
  rcases h with (h | ⟨o, h⟩) | h
  · exact .inl (.inl (by rw [noD_out fun _ e => by rw [h] at e; cases e]; exact h))
  · exact .inl (.inr ⟨o, by rw [noD_out fun _ e => by rw [h] at e; cases e]; exact h⟩)
  · exact .inr h
theorem SqT.noD {K : PySem.W.Frag} {H : Hp} {a : Addr} {xs : List V} (h : SqT K H a xs) : SqT K (noD H) a xs := by
  rcases h with (h | ⟨o, h⟩) | h
  · exact .inl (.inl (by rw [noD_out fun _ e => by rw [h] at e; cases e]; exact h))
  · exact .inl (.inr ⟨o, by rw [noD_out fun _ e => by rw [h] at e; cases e]; exact h⟩)
  · exact .inr h
theorem R0.noD {K : PySem.W.Frag} {H : Hp} {v : V} {p : P0} (h : R0 K H v p) : R0 K (noD H) v p := by
  obtain ⟨a, e, t⟩ := h; exact ⟨a, e, SqT.noD t⟩
theorem RP.noD {K : PySem.W.Frag} {H : Hp} {v : V} {p : Pc} (h : RP K H v p) : RP K (noD H) v p := by
  cases p with
  | p0 p => exact R0.noD h
  | rows nm ps gap lo hi =>
    obtain ⟨a, l, xs, e, t, q, r⟩ := h
    exact ⟨a, l, xs, e, SqT.noD t, SqL.noD q, Paired.monoP r fun _ _ z => R0.noD z⟩
/-! ## names -/
theorem piece_names (ns : List Int) (k : Int) (nm : Str) (most : Int) {ips : List P0} {n gap : Str} {lo hi : Int} (h : pieceP ns k nm most = .rows n ips gap lo hi) : ∀ q ∈ ips, ∀ m, nm0 q = some m → m ∈ nmI := by
  unfold pieceP at h
  split at h
  · cases h
  · split at h
    · cases h
    · injection h with _ h2
      subst h2
      intro q hq m e
      obtain ⟨j, hj, rfl⟩ := mem_map_range hq
      have hs := inner_size ns (k + 2) (many := 3) (by decide) (by decide)
      rcases innerAt_nm ns (k + 2) most j with z | z
      · rw [z] at e; cases e
      · rw [z] at e; cases e; exact getD_mem (by have h3 : (3 : Int).toNat = 3 := rfl; show j < 3; omega)
theorem pieces_names (ns : List Int) (many most : Int) : ∀ p ∈ piecesP ns many most, (∀ n, nmP p = some n → n ∈ nmO) ∧ ∀ nm ips gap lo hi, p = .rows nm ips gap lo hi → ∀ q ∈ ips, ∀ m, nm0 q = some m → m ∈ nmI := fun p hp => by
  obtain ⟨j, hj, rfl⟩ := mem_map_range hp
  refine ⟨fun n e => ?_, fun nm ips gap lo hi e => piece_names ns _ _ most e⟩
  rcases pieceP_nm ns (10 + 20 * (j : Nat)) (pick nmO ((j : Nat) + draw ns 2)) most with z | z
  · unfold pieceAt at e; rw [z] at e; cases e
  · unfold pieceAt at e; rw [z] at e; cases e; exact pick_mem nmO _ (by decide)
theorem none_I : ("none" : Str) ∉ nmI := by decide +kernel
theorem none_O : ("none" : Str) ∉ nmO := by decide +kernel
def NN (ps : List Pc) : Prop := ∀ p ∈ ps, nmP p ≠ some ("none" : Str) ∧ ∀ nm ips gap lo hi, p = .rows nm ips gap lo hi → ∀ q ∈ ips, nm0 q ≠ some ("none" : Str)
theorem pieces_NN (ns : List Int) (many most : Int) : NN (piecesP ns many most) := fun p hp => by
  have h := pieces_names ns many most p hp
  exact ⟨fun e => none_O (h.1 _ e), fun nm ips gap lo hi e q hq e2 => none_I (h.2 nm ips gap lo hi e q hq _ e2)⟩
/-! ## names beside -/
def rowLe (r r' : List (Str × Str)) : Prop := r' = r ∨ r' = r ++ [(("none" : Str), ("?" : Str))]
def VLe : Vl → Vl → Prop
  | .tx s, vl => vl = .tx s
  | .rws rs, vl => ∃ rs', vl = .rws rs' ∧ Paired rowLe rs rs'
def PLe (p q : Str × Vl) : Prop := p.1 = q.1 ∧ VLe p.2 q.2
theorem Paired.pick {α β γ : Type} {F : α → β → Prop} {R : α → γ → Prop} {L : β → γ → Prop} {xs : List α} {ys : List β} (h : Paired F xs ys) (f : ∀ x y, x ∈ xs → y ∈ ys → F x y → ∃ z, R x z ∧ L y z) : ∃ zs, Paired R xs zs ∧ Paired L ys zs := by
  induction h with
  | nil => exact ⟨[], .nil, .nil⟩
  | @cons x y xs ys z _ ih =>
    obtain ⟨zs, h1, h2⟩ := ih fun x y hx hy => f x y (List.mem_cons_of_mem _ hx) (List.mem_cons_of_mem _ hy)
    obtain ⟨w, w1, w2⟩ := f x y List.mem_cons_self List.mem_cons_self z
    exact ⟨w :: zs, .cons w1 h1, .cons w2 h2⟩
theorem PLe.keys {a b : List (Str × Vl)} (h : Paired PLe a b) : b.map (·.1) = a.map (·.1) := by
  induction h with
  | nil => rfl
  | cons z _ ih => rw [List.map_cons, List.map_cons, ih, z.1]
theorem PLe.look {a b : List (Str × Vl)} (h : Paired PLe a b) (n : Str) : ∀ vl, look n a = some vl → ∃ vl', look n b = some vl' ∧ VLe vl vl' := by
  induction h with
  | nil => intro vl e; cases e
  | @cons p q ps qs z _ ih =>
    intro vl e
    unfold Lf.look at *
    rw [List.find?_cons] at e ⊢
    by_cases en : p.1 = n
    · rw [decide_eq_true en] at e
      rw [← z.1, decide_eq_true en]
      cases e
      exact ⟨_, rfl, z.2⟩
    · rw [decide_eq_false en] at e
      rw [← z.1, decide_eq_false en]
      exact ih vl e
theorem look_app {α : Type} {n : Str} {a b : List (Str × α)} (h : look n b = none) : look n (a ++ b) = look n a := by
  unfold look at *
  rw [List.find?_append]
  cases e : List.find? (fun p => decide (p.1 = n)) a with
  | some x => rfl
  | none =>
    rw [Option.map_eq_none_iff] at h
    rw [h]; rfl
theorem look_none1 {α : Type} {n m : Str} {v : α} (h : m ≠ n) : look n [(m, v)] = none := by
  unfold look; rw [List.find?_cons, decide_eq_false h]; rfl
theorem rowLe.look {r r' : List (Str × Str)} (h : rowLe r r') {n : Str} (hn : n ≠ "none") : look n r' = look n r := by
  rcases h with rfl | rfl
  · rfl
  · exact look_app (look_none1 (Ne.symm hn))
theorem fits_le {vals vals' : List (Str × Vl)} {ps : List Pc} (nn : NN ps) (h : Paired PLe (vals ++ [(("none" : Str), Vl.tx "?")]) vals') {p : Pc} (hp : p ∈ ps) (hf : fitsP vals p) : fitsP vals' p := by
  have n1 := (nn p hp).1
  cases p with
  | p0 p =>
    cases p with
    | say t => trivial
    | ask nm sg lo hi =>
      obtain ⟨s, e, f⟩ := hf
      have ne : ("none" : Str) ≠ nm := fun z => n1 (by rw [z]; rfl)
      obtain ⟨vl', e2, le⟩ := PLe.look h nm (.tx s) (by rw [look_app (look_none1 ne)]; exact e)
      exact ⟨s, by rw [e2]; exact congrArg some le, f⟩
  | rows nm ips gap lo hi =>
    obtain ⟨rs, e, f1, f2, f3⟩ := hf
    have ne : ("none" : Str) ≠ nm := fun z => n1 (by rw [z]; rfl)
    obtain ⟨vl', e2, rs', rfl, pr⟩ := PLe.look h nm (.rws rs) (by rw [look_app (look_none1 ne)]; exact e)
    have hl := Paired.len pr
    refine ⟨rs', e2, by omega, by omega, fun r' hr' p hp2 => ?_⟩
    obtain ⟨r, hr, le⟩ := paired_mem pr hr'
    have := f3 r hr p hp2
    cases p with
    | say t => trivial
    | ask n2 sg lo hi =>
      obtain ⟨s, e3, f4⟩ := this
      exact ⟨s, by rw [le.look fun z => (nn _ hp).2 nm ips gap _ _ rfl _ hp2 (by rw [← z]; rfl)]; exact e3, f4⟩
theorem rowK_inj {r r' : List (Str × Str)} (h : rowK r = rowK r') : r = r' := by
  induction r generalizing r' with
  | nil => cases r' with
    | nil => rfl
    | cons => cases h
  | cons p r ih => cases r' with
    | nil => cases h
    | cons q r' =>
      unfold rowK at h
      rw [List.map_cons, List.map_cons] at h
      injection h with h1 h2
      obtain ⟨a, b⟩ := p
      obtain ⟨c, d⟩ := q
      cases h1
      rw [ih h2]
theorem val_names (ns : List Int) (s : Int) (ps : List Pc) : (valuesP ns s ps).map (·.1) = nms ps := by
  have h := val_keys ns s ps ps.length (Nat.le_refl _)
  rw [List.take_length] at h
  exact h
theorem row_names (ns : List Int) (k : Int) (ps : List P0) : (rowP ns k ps).map (·.1) = nms0 ps := by
  have h := row_keys ns k ps ps.length (Nat.le_refl _)
  rw [List.take_length] at h
  exact h
/-- what stands in drawn values -/
theorem values_mem {ns : List Int} {s : Int} {ps : List Pc} (ok : okF ps) {q : Str × Vl} (h : q ∈ valuesP ns s ps) : (∃ sg lo hi t, Pc.p0 (.ask q.1 sg lo hi) ∈ ps ∧ q.2 = .tx t) ∨
    ∃ ips gap lo hi rs, Pc.rows q.1 ips gap lo hi ∈ ps ∧ q.2 = .rws rs ∧ rs.length ≤ 3 ∧ ∀ r ∈ rs, r.map (·.1) = nms0 ips := by
  unfold valuesP at h
  obtain ⟨k, hk, e⟩ := List.mem_filterMap.mp h
  have hk := List.mem_range.mp hk
  rw [List.getElem?_eq_getElem hk] at e
  have hm : ps[k] ∈ ps := List.getElem_mem hk
  cases hp : ps[k] with
  | p0 p =>
    rw [hp] at e hm
    cases p with
    | say t => cases e
    | ask nm sg lo hi => cases e; exact .inl ⟨sg, lo, hi, _, hm, rfl⟩
  | rows nm ips gap lo hi =>
    rw [hp] at e hm
    cases e
    refine .inr ⟨ips, gap, lo, hi, _, hm, rfl, ?_, fun r hr => ?_⟩
    · rw [List.length_map, List.length_range]
      obtain ⟨_, _, _, _, _, _, _, l0, lh, h3⟩ := ok.ok _ hm
      have ws := word_size (ns := ns) (k := s + 90 * k) l0 lh
      omega
    · obtain ⟨j, hj, rfl⟩ := mem_map_range hr
      exact row_names ns _ ips
theorem nms_mem {ps : List Pc} {p : Pc} {n : Str} (h : p ∈ ps) (e : nmP p = some n) : n ∈ nms ps := List.mem_filterMap.mpr ⟨p, h, e⟩
/-- a form, just made -/
theorem form_mk {K : PySem.W.Frag} {H3 H4 : Hp} {x dx C f0 : Addr} {ys zs : List V} {ps : List Pc} (cF : CF K C) (k4 : Keep H3 H4) (hX4 : H4 x = some (.ins C dx (putF "pieces" (.ref f0) []))) (hf4 : H4 f0 = some (.lst zs)) (hzl : zs.length = ys.length)
    (hP : Paired (RP K H3) ys ps) (hC : ∀ (i : Nat) y z p, ys[i]? = some y → zs[i]? = some z → ps[i]? = some p → CopyE K H3 H4 y z p) : FormAt K H4 x ps := by
  have hl := Paired.len hP
  refine ⟨C, dx, f0, zs, cF.1, cF.2, hX4, SqL.of hf4, Paired.of_at (by omega) fun i z p h1 h2 => ?_⟩
  have hi : i < ys.length := by have := at_lt h1; omega
  exact (hC i _ z p (List.getElem?_eq_getElem hi) h1 h2).rp k4
end Lf

set_option Elab.async false
set_option linter.all false
set_option maxRecDepth 100000
set_option maxHeartbeats 4000000
namespace Lf
open PySem L2

local macro_rules | `(tactic| one_item) => `(tactic| first
  | with_reducible rfl
  | refine ⟨_, rfl, ?_⟩
  | refine ⟨_, _, rfl, rfl, ?_⟩
  | (refine ⟨_, _, rfl, rfl, ?_, ?_⟩; focus (first | (show (0 : Int) < _; omega) | (show CMul _ _; first | exact Or.inl ⟨by omega, by omega⟩ | exact Or.inr ⟨by omega, by omega⟩) | (show CDiv _ _; exact ⟨by omega, by omega⟩))))
local macro_rules | `(tactic| one_place) => `(tactic| (repeat one_item))
local macro_rules | `(tactic| got_up) => `(tactic| first | assumption | exact L2.Same.refl _ | (refine L2.Same.trans ?_ (by assumption); got_up))
local macro_rules | `(tactic| k_upd) => `(tactic| first | assumption | exact L2.SqL.of (by assumption) | exact L2.SqT.of (by assumption) | (refine L2.Same.seq ?_ (by assumption); got_up) | (refine L2.Same.tup ?_ (by assumption); got_up))

def top (i : Nat) : Stmt := PySem.Challenge.pw_letterform_k01_forms.main.body.getD i (.Pass ⟨0, 0, 0, 0⟩)

section
variable {P : Program} {w : World} {K : PySem.W.Frag} {mg : Str → Option Value} {base : Heap}

abbrev s__law_cell_at : Stmt := top 19
abbrev n__law_cell_at : List Str := ["script", "k"]
theorem sc__law_cell_at : FnScope n__law_cell_at ["script", "k"] (defScope s__law_cell_at) := ⟨rfl, rfl, rfl, by decide +kernel, rfl, by decide +kernel, by decide +kernel⟩

theorem dn__law_cell_at (D : Df K mg "_law_cell_at" s__law_cell_at ["script", "k"]) (B : Bl mg) : Dn P w K mg base CX0 1 "_law_cell_at" (sp__law_cell_at K) := by
  refine .of D fun f fd F => F.ok sc__law_cell_at (fun vs H Q E h => ?_) (fun cdv A outer s H vs Q E hr h => ?_)
  · (obtain ⟨_, _, _, rfl, _⟩ := h; rfl)
  · have hu := hu_of hr
    have hu64 : _ := hr.units
    refine ⟨_, (pss_cons (ps_if (pt_cmpR op_lt (pv 1) (pe_callB (callLen (K := K) rfl) rfl B.len PySem.boot_len (pa_cons (pv 0) pa_nil)) (nomark _)) (pss_one (ps_ret (pe_ix (ixLs (K := K) rfl) (pv 0) (pv 1) (fun _ _ => rfl)))) pss_nil)
      (pss_one (ps_ret pe_int))), ?_⟩
    obtain ⟨a, ns, k, rfl, hS, hk, q⟩ := h
    refine ⟨_, rfl, _, rfl, _, _, rfl, .inl hS, _, _, rfl, rfl, _, rfl, ?_⟩
    rw [List.length_map]
    unfold cellAt at q
    refine ite2 (fun c => ?_) (fun c => ?_)
    · have c : k < (ns.length : Int) := by simpa using c
      rw [if_pos c] at q
      refine ⟨_, rfl, _, rfl, _, _, _, _, rfl, rfl, hS, ?_, q⟩
      have hj : k.toNat < ns.length := by omega
      refine at_of (j := k.toNat) (by omega) ?_
      rw [List.getElem?_map, List.getElem?_eq_getElem hj, List.getD_eq_getElem?_getD, List.getElem?_eq_getElem hj]
      rfl
    · have c : ¬ k < (ns.length : Int) := by simpa using c
      rw [if_neg c] at q
      exact q

abbrev s__law_draw : Stmt := top 20
abbrev n__law_draw : List Str := ["script", "k", "stir"]
theorem sc__law_draw : FnScope n__law_draw ["script", "k"] (defScope s__law_draw) := ⟨rfl, rfl, rfl, by decide +kernel, rfl, by decide +kernel, by decide +kernel⟩

theorem dn__law_draw (D : Df K mg "_law_draw" s__law_draw ["script", "k"]) (d__law_cell_at : Dn P w K mg base CX0 1 "_law_cell_at" (sp__law_cell_at K))  : Dn P w K mg base CX0 2 "_law_draw" (sp__law_draw K) := by
  refine .of D fun f fd F => F.ok sc__law_draw (fun vs H Q E h => ?_) (fun cdv A outer s H vs Q E hr h => ?_)
  · (obtain ⟨_, _, _, rfl, _⟩ := h; rfl)
  · have hu := hu_of hr
    have hu64 : _ := hr.units
    refine ⟨_, (pss_cons (ps_set (i := 2) sc__law_draw.nd rfl (Or.inl rfl) (pe_op op_mod (pe_op op_mul (pe_op op_add (pe_op op_add (cD d__law_cell_at hr (by decide) rfl (pa_cons (pv 0) (pa_cons (pe_op op_mod (pv 1) pe_int) pa_nil))) (pe_op op_mul pe_int (pv 1))) pe_int) pe_int) pe_int))
      (pss_cons (ps_set (i := 2) sc__law_draw.nd rfl (Or.inl rfl) (pe_op op_mod (pe_op op_mul (pv 2) (pv 2)) pe_int))
      (pss_one (ps_ret (pe_op op_fdiv (pe_op op_mod (pe_op op_mul (pv 2) pe_int) pe_int) pe_int))))), ?_⟩
    obtain ⟨a, ns, k, rfl, hS, q⟩ := h
    refine ⟨_, rfl, _, rfl, _, _, rfl, rfl, (by show (0 : Int) < 61; decide), a, ns, _, rfl, hS, (by omega), ?_⟩
    refine ⟨_, rfl, _, _, rfl, rfl, .inl ⟨by omega, by omega⟩, _, _, rfl, rfl, _, _, rfl, rfl, _, _, rfl, rfl, .inr ⟨by omega, by omega⟩, _, _, rfl, rfl, (by show (0 : Int) < 2147483647; decide), ?_⟩
    refine ⟨_, rfl, _, rfl, _, _, rfl, rfl, .inl ⟨by omega, by omega⟩, _, _, rfl, rfl, (by show (0 : Int) < 2147483647; decide), ?_⟩
    exact ⟨_, rfl, _, _, rfl, rfl, .inr ⟨by omega, by omega⟩, _, _, rfl, rfl, (by show (0 : Int) < 2147483647; decide), _, _, rfl, rfl, ⟨by decide, by decide⟩, q⟩

abbrev s__law_signs : Stmt := top 21
abbrev n__law_signs : List Str := ["cell", "some"]
theorem sc__law_signs : FnScope n__law_signs ["cell"] (defScope s__law_signs) := ⟨rfl, rfl, rfl, by decide +kernel, rfl, by decide +kernel, by decide +kernel⟩

theorem dn__law_signs (D : Df K mg "_law_signs" s__law_signs ["cell"])  : Dn P w K mg base CX0 1 "_law_signs" (sp__law_signs K) := by
  refine .of D fun f fd F => F.ok sc__law_signs (fun vs H Q E h => ?_) (fun cdv A outer s H vs Q E hr h => ?_)
  · (obtain ⟨_, rfl, _⟩ := h; rfl)
  · have hu := hu_of hr
    have hu64 : _ := hr.units
    refine ⟨_, (pss_cons (ps_set (i := 1) sc__law_signs.nd rfl (Or.inl rfl) (pe_lst (pa_cons pe_str (pa_cons pe_str (pa_cons pe_str (pa_cons pe_str (pa_cons pe_str (pa_cons pe_str (pa_cons pe_str (pa_cons pe_str (pa_cons pe_str (pa_cons pe_str pa_nil))))))))))))
      (pss_one (ps_ret (pe_ix (ixLs (K := K) rfl) (pv 1) (pe_op op_mod (pv 0) pe_int) (fun _ _ => rfl))))), ?_⟩
    obtain ⟨c, rfl, q⟩ := h
    refine ⟨(by show 10 ≤ sizeLine; decide), fun l hl => ?_⟩
    refine ⟨_, rfl, _, rfl, _, _, rfl, rfl, (by show (0 : Int) < 10; decide), l, _, _, _, rfl, rfl, SqL.of upd_same, ?_, q _ (Keep.new hl)⟩
    exact pick_at sgL c rfl

abbrev s__law_say : Stmt := top 22
abbrev n__law_say : List Str := ["cell", "some"]
theorem sc__law_say : FnScope n__law_say ["cell"] (defScope s__law_say) := ⟨rfl, rfl, rfl, by decide +kernel, rfl, by decide +kernel, by decide +kernel⟩

theorem dn__law_say (D : Df K mg "_law_say" s__law_say ["cell"])  : Dn P w K mg base CX0 1 "_law_say" (sp__law_say K) := by
  refine .of D fun f fd F => F.ok sc__law_say (fun vs H Q E h => ?_) (fun cdv A outer s H vs Q E hr h => ?_)
  · (obtain ⟨_, rfl, _⟩ := h; rfl)
  · have hu := hu_of hr
    have hu64 : _ := hr.units
    refine ⟨_, (pss_cons (ps_set (i := 1) sc__law_say.nd rfl (Or.inl rfl) (pe_lst (pa_cons pe_str (pa_cons pe_str (pa_cons pe_str (pa_cons pe_str (pa_cons pe_str (pa_cons pe_str (pa_cons pe_str (pa_cons pe_str (pa_cons pe_str (pa_cons pe_str (pa_cons pe_str (pa_cons pe_str pa_nil))))))))))))))
      (pss_one (ps_ret (pe_ix (ixLs (K := K) rfl) (pv 1) (pe_op op_mod (pv 0) pe_int) (fun _ _ => rfl))))), ?_⟩
    obtain ⟨c, rfl, q⟩ := h
    refine ⟨(by show 12 ≤ sizeLine; decide), fun l hl => ?_⟩
    refine ⟨_, rfl, _, rfl, _, _, rfl, rfl, (by show (0 : Int) < 12; decide), l, _, _, _, rfl, rfl, SqL.of upd_same, ?_, q _ (Keep.new hl)⟩
    exact pick_at sayL c rfl

abbrev s__law_ask : Stmt := top 23
abbrev n__law_ask : List Str := ["script", "k", "name", "most", "cell", "least"]
theorem sc__law_ask : FnScope n__law_ask ["script", "k", "name", "most"] (defScope s__law_ask) := ⟨rfl, rfl, rfl, by decide +kernel, rfl, by decide +kernel, by decide +kernel⟩

theorem dn__law_ask (D : Df K mg "_law_ask" s__law_ask ["script", "k", "name", "most"]) (d__law_draw : Dn P w K mg base CX0 2 "_law_draw" (sp__law_draw K))  (d__law_signs : Dn P w K mg base CX0 1 "_law_signs" (sp__law_signs K))  : Dn P w K mg base CX0 3 "_law_ask" (sp__law_ask K) := by
  refine .of D fun f fd F => F.ok sc__law_ask (fun vs H Q E h => ?_) (fun cdv A outer s H vs Q E hr h => ?_)
  · (obtain ⟨_, _, _, _, _, _, rfl, _⟩ := h; rfl)
  · have hu := hu_of hr
    have hu64 : _ := hr.units
    refine ⟨_, (pss_cons (ps_set (i := 4) sc__law_ask.nd rfl (Or.inl rfl) (cD d__law_draw hr (by decide) rfl (pa_cons (pv 0) (pa_cons (pv 1) pa_nil))))
      (pss_cons (ps_set (i := 5) sc__law_ask.nd rfl (Or.inl rfl) (pe_op op_mod (pe_op op_fdiv (pv 4) pe_int) (pe_op op_add (pv 3) pe_int)))
      (pss_one (ps_ret (pe_tup (pa_cons pe_str (pa_cons (pv 2) (pa_cons (cD d__law_signs hr (by decide) rfl (pa_cons (pv 4) pa_nil)) (pa_cons (pv 5) (pa_cons (pe_op op_add (pv 5) (pe_op op_mod (pe_op op_fdiv (pv 4) pe_int) (pe_op op_sub (pe_op op_add (pv 3) pe_int) (pv 5)))) pa_nil)))))))))), ?_⟩
    obtain ⟨a, ns, k, nm, most, G, rfl, gh, hS, hm, q⟩ := h
    have d0 := draw_nn ns k
    refine ⟨_, rfl, _, rfl, a, ns, k, rfl, gh.seq hS, ?_⟩
    refine ⟨_, rfl, _, _, rfl, rfl, ⟨by decide, by decide⟩, _, rfl, _, _, rfl, rfl, _, _, rfl, rfl, (by show 0 < most + 1; omega), ?_⟩
    have e1 : 0 ≤ draw ns k / 10 % (most + 1) := Int.emod_nonneg _ (by omega)
    have e2 : draw ns k / 10 % (most + 1) < most + 1 := Int.emod_lt_of_pos _ (by omega)
    refine ⟨_, rfl, _, rfl, _, rfl, fun H1 k1 => ⟨_, rfl, _, rfl, _, rfl, _, _, rfl, rfl, ⟨by decide, by decide⟩, _, rfl, _, _, rfl, rfl, _, rfl, _, _, rfl, rfl, _, _, rfl, rfl, ?_, _, _, rfl, rfl, ?_⟩⟩
    · show 0 < most + 1 - draw ns k / 10 % (most + 1)
      omega
    refine ⟨(by show 5 ≤ sizeLine; decide), fun p hp => ?_⟩
    have w := ((Wd.refl gh).keep k1).new (o := .tup [.str "ask", .str nm, .str (pick sgL (draw ns k)), .int (draw ns k / 10 % (most + 1)), .int (draw ns k / 10 % (most + 1) + draw ns k / 60 % (most + 1 - draw ns k / 10 % (most + 1)))]) hp
    exact q _ _ _ w ⟨p, rfl, SqT.of upd_same⟩

abbrev s__law_inner : Stmt := top 24
abbrev n__law_inner : List Str := ["script", "k", "many", "most", "names", "row", "j"]
theorem sc__law_inner : FnScope n__law_inner ["script", "k", "many", "most"] (defScope s__law_inner) := ⟨rfl, rfl, rfl, by decide +kernel, rfl, by decide +kernel, by decide +kernel⟩

theorem dn__law_inner (D : Df K mg "_law_inner" s__law_inner ["script", "k", "many", "most"]) (B : Bl mg) (d__law_draw : Dn P w K mg base CX0 2 "_law_draw" (sp__law_draw K))  (d__law_say : Dn P w K mg base CX0 1 "_law_say" (sp__law_say K))  (d__law_ask : Dn P w K mg base CX0 3 "_law_ask" (sp__law_ask K))  : Dn P w K mg base CX0 4 "_law_inner" (sp__law_inner K) := by
  refine .of D fun f fd F => F.ok sc__law_inner (fun vs H Q E h => ?_) (fun cdv A outer s H vs Q E hr h => ?_)
  · (obtain ⟨_, _, _, _, _, _, rfl, _⟩ := h; rfl)
  · have hu := hu_of hr
    have hu64 : _ := hr.units
    refine ⟨_, (pss_cons (ps_set (i := 4) sc__law_inner.nd rfl (Or.inl rfl) (pe_lst (pa_cons pe_str (pa_cons pe_str (pa_cons pe_str pa_nil)))))
      (pss_cons (ps_set (i := 5) sc__law_inner.nd rfl (Or.inl rfl) (pe_lst pa_nil))
      (pss_cons (ps_for PassesOwn.never rfl (pi_range1 rfl B.range (pa_cons (pe_op op_add pe_int (pe_op op_mod (cD d__law_draw hr (by decide) rfl (pa_cons (pv 0) (pa_cons (pv 1) pa_nil))) (pv 2))) pa_nil)) (pg_name (i := 6) sc__law_inner.nd rfl (Or.inl rfl))
      (pss_one (ps_if (pt_cmpR op_eq (pe_op op_mod (cD d__law_draw hr (by decide) rfl (pa_cons (pv 0) (pa_cons (pe_op op_add (pe_op op_add (pv 1) pe_int) (pv 6)) pa_nil))) pe_int) pe_int (nomark _)) (pss_one (ps_expr (pe_bm PySem.F.plainAttrs_list PySem.F.slot_list_append PySem.F.type_list_append mt_append (pv 5) (pa_cons (pe_tup (pa_cons pe_str (pa_cons (cD d__law_say hr (by decide) rfl (pa_cons (cD d__law_draw hr (by decide) rfl (pa_cons (pv 0) (pa_cons (pe_op op_add (pe_op op_add (pv 1) pe_int) (pv 6)) pa_nil))) pa_nil)) pa_nil))) pa_nil)))) (pss_one (ps_expr (pe_bm PySem.F.plainAttrs_list PySem.F.slot_list_append PySem.F.type_list_append mt_append (pv 5) (pa_cons (cD d__law_ask hr (by decide) rfl (pa_cons (pv 0) (pa_cons (pe_op op_add (pe_op op_add (pv 1) pe_int) (pv 6)) (pa_cons (pe_ix (ixLs (K := K) rfl) (pv 4) (pv 6) (fun _ _ => rfl)) (pa_cons (pv 3) pa_nil))))) pa_nil)))))))
      (pss_one (ps_ret (pv 5)))))), ?_⟩
    obtain ⟨a, ns, k, many, most, G, rfl, gh, hS, hm1, hm3, hm0, q⟩ := h
    refine ⟨(by show 3 ≤ sizeLine; decide), fun ln hln => ⟨(by show 0 ≤ sizeLine; decide), fun l hl => ?_⟩⟩
    have W1 : Wd G H (upd G ln (.lst (nmI.map V.str))) (upd H ln (.lst (nmI.map V.str))) := (Wd.refl gh).new hln
    have hN : SqL K (upd G ln (.lst (nmI.map V.str))) ln (nmI.map V.str) := SqL.of upd_same
    generalize hG1 : upd G ln (.lst (nmI.map V.str)) = G1 at W1 hN
    generalize hH1 : upd H ln (.lst (nmI.map V.str)) = H1 at W1
    have e1 : upd H ln (.lst [V.str "who", V.str "day", V.str "w"]) = H1 := hH1
    rw [e1] at hl ⊢
    have W2 := (Wd.refl W1.gh).keep (Keep.new (o := .lst []) hl)
    have g1l : G1 l = none := Same.free W1.gh hl
    have d0 : 0 ≤ draw ns k % many := Int.emod_nonneg _ (by omega)
    have d1 : draw ns k % many < many := Int.emod_lt_of_pos _ (by omega)
    refine ⟨_, rfl, _, rfl, a, ns, k, rfl, W2.gh.seq (W1.gg.seq hS), _, rfl, _, _, rfl, rfl, (by show 0 < many; omega), _, _, rfl, rfl, _, rfl, (by omega), (by omega), ?_⟩
    refine for_range (lo := 0) (n := (1 + draw ns k % many).toNat) (fun i σ H' => ∃ G' xs v, σ = [some (.ref a), some (.int k), some (.int many), some (.int most), some (.ref ln), some (.ref l), v] ∧ Wd G1 H1 G' H' ∧ H' l = some (.lst xs) ∧ G' l = none ∧ Paired (R0 K G') xs ((List.range i).map (innerAt ns k most)) ∧ xs.length = i)
      ⟨G1, [], none, rfl, W2, upd_same, g1l, .nil, rfl⟩ ?_ ?_
    · rintro i σ H' hi ⟨G', xs, v, rfl, Wx, hlx, gl, hP, hlen⟩
      rw [Int.zero_add]
      have hS' := Wx.gh.seq (Wx.gg.seq (W1.gg.seq hS))
      refine ⟨_, rfl, _, rfl, _, _, rfl, rfl, _, rfl, _, _, rfl, rfl, a, ns, _, rfl, hS', _, _, rfl, rfl, (by show (0 : Int) < 3; decide), rfl, _, rfl, ?_⟩
      have iA : innerAt ns k most i = if draw ns (k + 1 + i) % 3 = 0 then .say (pick sayL (draw ns (k + 5 + i))) else askP ns (k + 9 + i) (nmI.getD i Str.empty) most := rfl
      refine ite2 (fun c => ?_) (fun c => ?_)
      · have c : draw ns (k + 1 + i) % 3 = 0 := by simpa using c
        rw [if_pos c] at iA
        refine ⟨_, rfl, .inl ⟨rfl, _, SqL.of hlx⟩, _, rfl, _, rfl, _, _, rfl, rfl, _, rfl, _, _, rfl, rfl, a, ns, _, rfl, hS', _, rfl, fun H2 k2 => ⟨(by show 2 ≤ sizeLine; decide), fun p hp => ⟨l, xs, _, rfl, rfl, ?_, small1000 (by omega), ?_⟩⟩⟩
        · rw [upd_ne (ne_of_none (k2 _ _ hlx) hp)]; exact k2 _ _ hlx
        have W3 := (Wx.keep k2).new (o := .tup [.str "say", .str (pick sayL (draw ns (k + 5 + i)))]) hp
        have pl : l ≠ p := ne_of_none (k2 _ _ hlx) hp
        have g3 : upd G' p (.tup [.str "say", .str (pick sayL (draw ns (k + 5 + i)))]) l = none := by rw [upd_ne pl]; exact gl
        have sg : Same G' (upd G' p (.tup [.str "say", .str (pick sayL (draw ns (k + 5 + i)))])) := Same.new (Same.free Wx.gh (Keep.free k2 hp))
        refine ⟨_, _, _, rfl, W3.mut hl g3, upd_same, g3, ?_, by simp [hlen]⟩
        rw [map_range_succ, iA]
        exact Paired.snoc (Paired.monoP hP fun _ _ z => z.mono sg) ⟨p, rfl, SqT.of upd_same⟩
      · have c : ¬ draw ns (k + 1 + i) % 3 = 0 := by simpa using c
        rw [if_neg c] at iA
        have hj : i < nmI.length := by show i < 3; omega
        refine ⟨_, rfl, .inl ⟨rfl, _, SqL.of hlx⟩, _, rfl, _, rfl, _, _, rfl, rfl, _, rfl, _, _, rfl, rfl, _, rfl, _, rfl, _, _, _, V.str (nmI.getD i Str.empty), rfl, rfl, Wx.gh.seq (Wx.gg.seq hN), ?_, _, rfl, a, ns, _, _, most, G', rfl, Wx.gh, Wx.gg.seq (W1.gg.seq hS), hm0, ?_⟩
        · refine atI_nat ?_
          rw [List.getElem?_map, List.getElem?_eq_getElem hj, List.getD_eq_getElem?_getD, List.getElem?_eq_getElem hj]
          rfl
        intro v' G2 H2 w2 r2
        have g2 := w2.nw l _ hlx gl
        refine ⟨l, xs, _, rfl, rfl, w2.hh _ _ hlx, small1000 (by omega), ?_⟩
        refine ⟨_, _, _, rfl, (Wx.trans w2).mut hl g2, upd_same, g2, ?_, by simp [hlen]⟩
        rw [map_range_succ, iA]
        exact Paired.snoc (Paired.monoP hP fun _ _ z => z.mono w2.gg) r2
    · rintro σ H' ⟨G', xs, v, rfl, Wx, hlx, gl, hP, hlen⟩
      refine ⟨_, rfl, q _ _ _ (W1.trans (Wx.tell hlx hl gl)) ⟨l, xs, rfl, SqL.of upd_same, Paired.monoP hP fun _ _ z => z.mono (Same.new gl)⟩⟩

abbrev s__law_piece : Stmt := top 25
abbrev n__law_piece : List Str := ["script", "k", "name", "most", "cell", "gap", "least", "inner"]
theorem sc__law_piece : FnScope n__law_piece ["script", "k", "name", "most"] (defScope s__law_piece) := ⟨rfl, rfl, rfl, by decide +kernel, rfl, by decide +kernel, by decide +kernel⟩

theorem dn__law_piece (D : Df K mg "_law_piece" s__law_piece ["script", "k", "name", "most"]) (d__law_draw : Dn P w K mg base CX0 2 "_law_draw" (sp__law_draw K))  (d__law_say : Dn P w K mg base CX0 1 "_law_say" (sp__law_say K))  (d__law_ask : Dn P w K mg base CX0 3 "_law_ask" (sp__law_ask K))  (d__law_inner : Dn P w K mg base CX0 4 "_law_inner" (sp__law_inner K))  : Dn P w K mg base CX0 5 "_law_piece" (sp__law_piece K) := by
  refine .of D fun f fd F => F.ok sc__law_piece (fun vs H Q E h => ?_) (fun cdv A outer s H vs Q E hr h => ?_)
  · (obtain ⟨_, _, _, _, _, _, rfl, _⟩ := h; rfl)
  · have hu := hu_of hr
    have hu64 : _ := hr.units
    refine ⟨_, (pss_cons (ps_set (i := 4) sc__law_piece.nd rfl (Or.inl rfl) (cD d__law_draw hr (by decide) rfl (pa_cons (pv 0) (pa_cons (pv 1) pa_nil))))
      (pss_cons (ps_if (pt_cmpR op_lt (pe_op op_mod (pv 4) pe_int) pe_int (nomark _)) (pss_one (ps_ret (pe_tup (pa_cons pe_str (pa_cons (cD d__law_say hr (by decide) rfl (pa_cons (pe_op op_fdiv (pv 4) pe_int) pa_nil)) pa_nil))))) pss_nil)
      (pss_cons (ps_if (pt_cmpR op_lt (pe_op op_mod (pv 4) pe_int) pe_int (nomark _)) (pss_one (ps_ret (cD d__law_ask hr (by decide) rfl (pa_cons (pv 0) (pa_cons (pe_op op_add (pv 1) pe_int) (pa_cons (pv 2) (pa_cons (pv 3) pa_nil))))))) pss_nil)
      (pss_cons (ps_set (i := 5) sc__law_piece.nd rfl (Or.inl rfl) (pe_ix (ixLs (K := K) rfl) (pe_lst (pa_cons pe_str (pa_cons pe_str (pa_cons pe_str (pa_cons pe_str (pa_cons pe_str pa_nil)))))) (pe_op op_mod (pe_op op_fdiv (pv 4) pe_int) pe_int) (fun _ _ => rfl)))
      (pss_cons (ps_set (i := 6) sc__law_piece.nd rfl (Or.inl rfl) (pe_op op_mod (pe_op op_fdiv (pv 4) pe_int) pe_int))
      (pss_cons (ps_set (i := 7) sc__law_piece.nd rfl (Or.inl rfl) (cD d__law_inner hr (by decide) rfl (pa_cons (pv 0) (pa_cons (pe_op op_add (pv 1) pe_int) (pa_cons pe_int (pa_cons (pv 3) pa_nil))))))
      (pss_one (ps_ret (pe_tup (pa_cons pe_str (pa_cons (pv 2) (pa_cons (pv 7) (pa_cons (pv 5) (pa_cons (pv 6) (pa_cons (pe_op op_add (pv 6) (pe_op op_mod (pe_op op_fdiv (pv 4) pe_int) (pe_op op_sub pe_int (pv 6)))) pa_nil))))))))))))))), ?_⟩
    obtain ⟨a, ns, k, nm, most, G, rfl, gh, hS, hm, q⟩ := h
    refine ⟨_, rfl, _, rfl, a, ns, k, rfl, gh.seq hS, ?_⟩
    refine ⟨_, rfl, _, _, rfl, rfl, (by show (0 : Int) < 5; decide), _, _, rfl, rfl, _, rfl, ?_⟩
    have d0 := draw_nn ns k
    unfold pieceP at q
    refine ite2 (fun c => ?_) (fun c => ?_)
    · have c : draw ns k % 5 < 2 := by simpa using c
      rw [if_pos c] at q
      refine ⟨_, rfl, _, _, rfl, rfl, ⟨by decide, by decide⟩, _, rfl, fun H1 k1 => ⟨(by show 2 ≤ sizeLine; decide), fun p hp => ?_⟩⟩
      exact q _ _ _ (((Wd.refl gh).keep k1).new hp) ⟨p, rfl, SqT.of upd_same⟩
    · have c : ¬ draw ns k % 5 < 2 := by simpa using c
      rw [if_neg c] at q
      refine ⟨_, rfl, _, _, rfl, rfl, (by show (0 : Int) < 5; decide), _, _, rfl, rfl, _, rfl, ?_⟩
      refine ite2 (fun c2 => ?_) (fun c2 => ?_)
      · have c2 : draw ns k % 5 < 4 := by simpa using c2
        rw [if_pos c2] at q
        exact ⟨_, rfl, _, rfl, _, _, rfl, rfl, _, rfl, _, rfl, a, ns, _, nm, most, G, rfl, gh, hS, hm, q⟩
      · have c2 : ¬ draw ns k % 5 < 4 := by simpa using c2
        rw [if_neg c2] at q
        refine ⟨(by show 5 ≤ sizeLine; decide), fun l0 hl0 => ?_⟩
        refine ⟨_, rfl, _, _, rfl, rfl, ⟨by decide, by decide⟩, _, _, rfl, rfl, (by show (0 : Int) < 5; decide), l0, _, _, _, rfl, rfl, SqL.of upd_same, pick_at gapL (draw ns k / 5) rfl, ?_⟩
        have W1 := (Wd.refl gh).keep (Keep.new (o := .lst (gapL.map V.str)) hl0)
        have e1 : 0 ≤ draw ns k / 25 % 4 := Int.emod_nonneg _ (by decide)
        have e2 : draw ns k / 25 % 4 < 4 := Int.emod_lt_of_pos _ (by decide)
        refine ⟨_, rfl, _, _, rfl, rfl, ⟨by decide, by decide⟩, _, _, rfl, rfl, (by show (0 : Int) < 4; decide), ?_⟩
        refine ⟨_, rfl, _, rfl, _, _, rfl, rfl, _, rfl, a, ns, _, 3, most, G, rfl, W1.gh, hS, (by decide), (by decide), hm, fun v G2 H2 W2 r2 => ?_⟩
        obtain ⟨l, xs, rfl, h1, h2⟩ := r2
        refine ⟨_, rfl, _, rfl, _, rfl, _, rfl, _, rfl, _, rfl, _, _, rfl, rfl, ⟨by decide, by decide⟩, _, rfl, _, _, rfl, rfl, _, _, rfl, rfl, (by show 0 < 4 - draw ns k / 25 % 4; omega), _, _, rfl, rfl, ?_⟩
        refine ⟨(by show 6 ≤ sizeLine; decide), fun p hp => ?_⟩
        refine q _ _ _ ((W1.trans W2).new hp) ⟨p, l, xs, rfl, SqT.of upd_same, ?_, Paired.monoP h2 fun _ _ z => z.mono (Same.new (Same.free W2.gh hp))⟩
        exact (Same.new (Same.free W2.gh hp)).seq h1

abbrev s__law_pieces : Stmt := top 26
abbrev n__law_pieces : List Str := ["script", "many", "most", "names", "pieces", "k", "name"]
theorem sc__law_pieces : FnScope n__law_pieces ["script", "many", "most"] (defScope s__law_pieces) := ⟨rfl, rfl, rfl, by decide +kernel, rfl, by decide +kernel, by decide +kernel⟩

theorem dn__law_pieces (D : Df K mg "_law_pieces" s__law_pieces ["script", "many", "most"]) (B : Bl mg) (d__law_draw : Dn P w K mg base CX0 2 "_law_draw" (sp__law_draw K))  (d__law_piece : Dn P w K mg base CX0 5 "_law_piece" (sp__law_piece K))  : Dn P w K mg base CX0 6 "_law_pieces" (sp__law_pieces K) := by
  refine .of D fun f fd F => F.ok sc__law_pieces (fun vs H Q E h => ?_) (fun cdv A outer s H vs Q E hr h => ?_)
  · (obtain ⟨_, _, _, _, _, rfl, _⟩ := h; rfl)
  · have hu := hu_of hr
    have hu64 : _ := hr.units
    refine ⟨_, (pss_cons (ps_set (i := 3) sc__law_pieces.nd rfl (Or.inl rfl) (pe_lst (pa_cons pe_str (pa_cons pe_str (pa_cons pe_str (pa_cons pe_str (pa_cons pe_str (pa_cons pe_str pa_nil))))))))
      (pss_cons (ps_set (i := 4) sc__law_pieces.nd rfl (Or.inl rfl) (pe_lst pa_nil))
      (pss_cons (ps_for PassesOwn.never rfl (pi_range1 rfl B.range (pa_cons (pe_op op_add pe_int (pe_op op_mod (cD d__law_draw hr (by decide) rfl (pa_cons (pv 0) (pa_cons pe_int pa_nil))) (pv 1))) pa_nil)) (pg_name (i := 5) sc__law_pieces.nd rfl (Or.inl rfl))
      (pss_cons (ps_set (i := 6) sc__law_pieces.nd rfl (Or.inl rfl) (pe_ix (ixLs (K := K) rfl) (pv 3) (pe_op op_mod (pe_op op_add (pv 5) (cD d__law_draw hr (by decide) rfl (pa_cons (pv 0) (pa_cons pe_int pa_nil)))) pe_int) (fun _ _ => rfl)))
      (pss_one (ps_expr (pe_bm PySem.F.plainAttrs_list PySem.F.slot_list_append PySem.F.type_list_append mt_append (pv 4) (pa_cons (cD d__law_piece hr (by decide) rfl (pa_cons (pv 0) (pa_cons (pe_op op_add pe_int (pe_op op_mul pe_int (pv 5))) (pa_cons (pv 6) (pa_cons (pv 2) pa_nil))))) pa_nil))))))
      (pss_one (ps_ret (pv 4)))))), ?_⟩
    obtain ⟨a, ns, many, most, G, rfl, gh, hS, hm1, hm6, hm0, q⟩ := h
    refine ⟨(by show 6 ≤ sizeLine; decide), fun ln hln => ⟨(by show 0 ≤ sizeLine; decide), fun l hl => ?_⟩⟩
    have W1 : Wd G H (upd G ln (.lst (nmO.map V.str))) (upd H ln (.lst (nmO.map V.str))) := (Wd.refl gh).new hln
    have hN : SqL K (upd G ln (.lst (nmO.map V.str))) ln (nmO.map V.str) := SqL.of upd_same
    generalize hG1 : upd G ln (.lst (nmO.map V.str)) = G1 at W1 hN
    generalize hH1 : upd H ln (.lst (nmO.map V.str)) = H1 at W1
    have e1 : upd H ln (.lst [V.str "who", V.str "w", V.str "day", V.str "first_name = 1?", V.str "whom", V.str "e-mail@"]) = H1 := hH1
    rw [e1] at hl ⊢
    have W2 := (Wd.refl W1.gh).keep (Keep.new (o := .lst []) hl)
    have g1l : G1 l = none := Same.free W1.gh hl
    have d0 : 0 ≤ draw ns 1 % many := Int.emod_nonneg _ (by omega)
    have d1 : draw ns 1 % many < many := Int.emod_lt_of_pos _ (by omega)
    refine ⟨_, rfl, a, ns, 1, rfl, W2.gh.seq (W1.gg.seq hS), _, rfl, _, _, rfl, rfl, (by show 0 < many; omega), _, _, rfl, rfl, _, rfl, (by omega), (by omega), ?_⟩
    refine for_range (lo := 0) (n := (1 + draw ns 1 % many).toNat) (fun i σ H' => ∃ G' xs v v2, σ = [some (.ref a), some (.int many), some (.int most), some (.ref ln), some (.ref l), v, v2] ∧ Wd G1 H1 G' H' ∧ H' l = some (.lst xs) ∧ G' l = none ∧ Paired (RP K G') xs ((List.range i).map (pieceAt ns most)) ∧ xs.length = i)
      ⟨G1, [], none, none, rfl, W2, upd_same, g1l, .nil, rfl⟩ ?_ ?_
    · rintro i σ H' hi ⟨G', xs, v, v2, rfl, Wx, hlx, gl, hP, hlen⟩
      rw [Int.zero_add]
      have hS' := Wx.gh.seq (Wx.gg.seq (W1.gg.seq hS))
      refine ⟨_, rfl, _, rfl, _, rfl, a, ns, 2, rfl, hS', _, _, rfl, rfl, _, _, rfl, rfl, (by show (0 : Int) < 6; decide), ln, _, _, _, rfl, rfl, Wx.gh.seq (Wx.gg.seq hN), pick_at nmO _ rfl, ?_⟩
      refine ⟨_, rfl, .inl ⟨rfl, _, SqL.of hlx⟩, _, rfl, _, rfl, _, _, rfl, rfl, .inl ⟨by decide, by decide⟩, _, _, rfl, rfl, _, rfl, _, rfl, a, ns, _, _, most, G', rfl, Wx.gh, Wx.gg.seq (W1.gg.seq hS), hm0, ?_⟩
      intro v' G2 H2 w2 r2
      have g2 := w2.nw l _ hlx gl
      refine ⟨l, xs, _, rfl, rfl, w2.hh _ _ hlx, small1000 (by omega), ?_⟩
      refine ⟨_, _, _, _, rfl, (Wx.trans w2).mut hl g2, upd_same, g2, ?_, by simp [hlen]⟩
      rw [map_range_succ]
      exact Paired.snoc (Paired.monoP hP fun _ _ z => z.mono w2.gg) r2
    · rintro σ H' ⟨G', xs, v, v2, rfl, Wx, hlx, gl, hP, hlen⟩
      refine ⟨_, rfl, q _ _ _ (W1.trans (Wx.tell hlx hl gl)) ⟨l, xs, rfl, SqL.of upd_same, Paired.monoP hP fun _ _ z => z.mono (Same.new gl)⟩⟩

abbrev s__law_word : Stmt := top 27
abbrev n__law_word : List Str := ["script", "k", "piece", "size", "word", "j"]
theorem sc__law_word : FnScope n__law_word ["script", "k", "piece"] (defScope s__law_word) := ⟨rfl, rfl, rfl, by decide +kernel, rfl, by decide +kernel, by decide +kernel⟩

theorem dn__law_word (D : Df K mg "_law_word" s__law_word ["script", "k", "piece"]) (B : Bl mg) (d__law_draw : Dn P w K mg base CX0 2 "_law_draw" (sp__law_draw K))  : Dn P w K mg base CX0 3 "_law_word" (sp__law_word K) := by
  refine .of D fun f fd F => F.ok sc__law_word (fun vs H Q E h => ?_) (fun cdv A outer s H vs Q E hr h => ?_)
  · (obtain ⟨_, _, _, _, _, _, _, _, rfl, _⟩ := h; rfl)
  · have hu := hu_of hr
    have hu64 : _ := hr.units
    refine ⟨_, (pss_cons (ps_set (i := 3) sc__law_word.nd rfl (Or.inl rfl) (pe_op op_add (pe_ix (ixT (K := K) rfl) (pv 2) pe_int (fun _ _ => rfl)) (pe_op op_mod (cD d__law_draw hr (by decide) rfl (pa_cons (pv 0) (pa_cons (pv 1) pa_nil))) (pe_op op_add (pe_op op_sub (pe_ix (ixT (K := K) rfl) (pv 2) pe_int (fun _ _ => rfl)) (pe_ix (ixT (K := K) rfl) (pv 2) pe_int (fun _ _ => rfl))) pe_int))))
      (pss_cons (ps_set (i := 4) sc__law_word.nd rfl (Or.inl rfl) pe_str)
      (pss_cons (ps_for PassesOwn.never rfl (pi_range1 rfl B.range (pa_cons (pv 3) pa_nil)) (pg_name (i := 5) sc__law_word.nd rfl (Or.inl rfl))
      (pss_one (ps_set (i := 4) sc__law_word.nd rfl (Or.inl rfl) (pe_op op_add_str (pv 4) (pe_ix ix_str (pe_ix (ixT (K := K) rfl) (pv 2) pe_int (fun _ _ => rfl)) (pe_op op_mod (cD d__law_draw hr (by decide) rfl (pa_cons (pv 0) (pa_cons (pe_op op_add (pe_op op_add (pv 1) pe_int) (pv 5)) pa_nil))) (pe_callB call_len_str rfl B.len PySem.boot_len (pa_cons (pe_ix (ixT (K := K) rfl) (pv 2) pe_int (fun _ _ => rfl)) pa_nil))) (fun _ _ => rfl))))))
      (pss_one (ps_ret (pv 4)))))), ?_⟩
    obtain ⟨a, ns, k, p, nm, sg, lo, hi, rfl, hS, hT, s1, s20, l0, lh, h4, q⟩ := h
    have ws := word_size (ns := ns) (k := k) l0 lh
    refine ⟨_, rfl, p, _, _, _, rfl, rfl, hT, rfl, _, rfl, _, rfl, a, ns, k, rfl, hS, _, rfl, p, _, _, _, rfl, rfl, hT, rfl, _, rfl, p, _, _, _, rfl, rfl, hT, rfl, _, _, rfl, rfl, _, _, rfl, rfl, _, _, rfl, rfl, (by show 0 < hi - lo + 1; omega), _, _, rfl, rfl, ?_⟩
    refine ⟨_, rfl, _, rfl, (by omega), (by omega), ?_⟩
    refine for_range (lo := 0) (n := (lo + draw ns k % (hi - lo + 1)).toNat) (fun i σ H' => ∃ v, H' = H ∧ σ = [some (.ref a), some (.int k), some (.ref p), some (.int (lo + draw ns k % (hi - lo + 1))), some (.str (ofL ((List.range i).map fun (j : Nat) => sg.cps.getD (draw ns (k + 1 + j) % (sg.length : Int)).toNat 0))), v])
      ⟨none, rfl, rfl⟩ ?_ ?_
    · rintro i σ H' hi' ⟨v, rfl, rfl⟩
      rw [Int.zero_add]
      have m0 := Int.emod_nonneg (draw ns (k + 1 + i)) (show (sg.length : Int) ≠ 0 by omega)
      have m1 := Int.emod_lt_of_pos (draw ns (k + 1 + i)) (show 0 < (sg.length : Int) by omega)
      have hj : (draw ns (k + 1 + i) % (sg.length : Int)).toNat < sg.cps.size := by show _ < sg.length; omega
      refine ⟨_, rfl, _, rfl, p, _, _, _, rfl, rfl, hT, rfl, _, rfl, _, rfl, _, _, rfl, rfl, _, rfl, _, _, rfl, rfl, a, ns, _, rfl, hS, _, rfl, p, _, _, _, rfl, rfl, hT, rfl, sg, rfl, small_line (by omega), _, _, rfl, rfl, (by show 0 < (sg.length : Int); omega), sg, _, _, rfl, rfl, small_line (by omega), at_gen (j := (draw ns (k + 1 + i) % (sg.length : Int)).toNat) (by omega) (by rw [Array.getElem?_toList]; exact Array.getElem?_eq_getElem hj), _, _, rfl, rfl, ?_, ?_⟩
      · rw [ofL_len, List.length_map, List.length_range]
        exact small_line (by show i + 1 ≤ 100000; omega)
      · refine ⟨some (.int i), rfl, ?_⟩
        rw [ofL_snoc, map_range_succ, Array.getD_eq_getD_getElem?, Array.getElem?_eq_getElem hj]
        rfl
    · rintro σ H' ⟨v, rfl, rfl⟩
      exact ⟨_, rfl, q⟩

abbrev s__law_row : Stmt := top 28
abbrev n__law_row : List Str := ["script", "k", "pieces", "values", "j"]
theorem sc__law_row : FnScope n__law_row ["script", "k", "pieces"] (defScope s__law_row) := ⟨rfl, rfl, rfl, by decide +kernel, rfl, by decide +kernel, by decide +kernel⟩

theorem dn__law_row (D : Df K mg "_law_row" s__law_row ["script", "k", "pieces"]) (B : Bl mg) (d__law_word : Dn P w K mg base CX0 3 "_law_word" (sp__law_word K))  : Dn P w K mg base CX0 4 "_law_row" (sp__law_row K) := by
  refine .of D fun f fd F => F.ok sc__law_row (fun vs H Q E h => ?_) (fun cdv A outer s H vs Q E hr h => ?_)
  · (obtain ⟨_, _, _, _, _, _, _, rfl, _⟩ := h; rfl)
  · have hu := hu_of hr
    have hu64 : _ := hr.units
    refine ⟨_, (pss_cons (ps_set (i := 3) sc__law_row.nd rfl (Or.inl rfl) pe_dnewK)
      (pss_cons (ps_for PassesOwn.never rfl (pi_range1 rfl B.range (pa_cons (pe_callB (callLen (K := K) rfl) rfl B.len PySem.boot_len (pa_cons (pv 2) pa_nil)) pa_nil)) (pg_name (i := 4) sc__law_row.nd rfl (Or.inl rfl))
      (pss_one (ps_if (pt_cmpR op_eq (pe_ix (ixT (K := K) rfl) (pe_ix (ixLs (K := K) rfl) (pv 2) (pv 4) (fun _ _ => rfl)) pe_int (fun _ _ => rfl)) pe_str (nomark _)) (pss_one (ps_dput hu (pv 3) (pe_ix (ixT (K := K) rfl) (pe_ix (ixLs (K := K) rfl) (pv 2) (pv 4) (fun _ _ => rfl)) pe_int (fun _ _ => rfl)) (cD d__law_word hr (by decide) rfl (pa_cons (pv 0) (pa_cons (pe_op op_add (pv 1) (pe_op op_mul pe_int (pv 4))) (pa_cons (pe_ix (ixLs (K := K) rfl) (pv 2) (pv 4) (fun _ _ => rfl)) pa_nil)))) rfl)) pss_nil)))
      (pss_one (ps_ret (pv 3))))), ?_⟩
    obtain ⟨a, ns, k, l, xs, ps, G, rfl, gh, hS, hL, hP, hok, hnd, hlen, q⟩ := h
    have hxp := Paired.len hP
    intro d hd
    refine ⟨_, rfl, l, xs, rfl, .inl ((gh.keep (Keep.new hd)).seq hL), _, rfl, (by omega), (by omega), ?_⟩
    refine for_range (lo := 0) (n := (xs.length : Int).toNat) (fun i σ H' => ∃ v, σ = [some (.ref a), some (.int k), some (.ref l), some (.ref d), v] ∧ Wd G H G H' ∧ H' d = some (.dK (rowK ((List.range i).filterMap fun j => rowEl ns k j ps[j]?))))
      ⟨none, rfl, (Wd.refl gh).keep (Keep.new hd), upd_same⟩ ?_ ?_
    · rintro i σ H' hi ⟨v, rfl, W, hD⟩
      rw [Int.zero_add]
      have hi' : i < xs.length := by omega
      have gd : G d = none := Same.free gh hd
      obtain ⟨p, hp, ap, rfl', hT⟩ := Paired.at hP (List.getElem?_eq_getElem hi')
      have hx : xs[i]? = some (V.ref ap) := by rw [List.getElem?_eq_getElem hi', rfl']
      cases p with
      | say t =>
        refine ⟨_, rfl, _, rfl, l, _, _, _, rfl, rfl, W.gh.seq hL, atI_nat hx, ap, _, _, _, rfl, rfl, W.gh.tup hT, rfl, rfl, _, rfl, iteNe say_ask ⟨some (.int i), rfl, W, ?_⟩⟩
        rw [filterMap_range_succ, hp]
        simpa [rowEl] using hD
      | ask nm sg lo hi =>
        refine ⟨_, rfl, _, rfl, l, _, _, _, rfl, rfl, W.gh.seq hL, atI_nat hx, ap, _, _, _, rfl, rfl, W.gh.tup hT, rfl, rfl, _, rfl, iteEq ?_⟩
        obtain ⟨_, s1, s20, _, _, l0, lh, h4⟩ := hok _ (mem_at hp)
        refine ⟨_, rfl, _, rfl, _, rfl, _, _, rfl, rfl, .inl ⟨by decide, by decide⟩, _, _, rfl, rfl, _, rfl, _, rfl, l, _, _, _, rfl, rfl, W.gh.seq hL, atI_nat hx, a, ns, _, ap, nm, sg, lo, hi, rfl, W.gh.seq hS, W.gh.tup hT, s1, s20, l0, lh, h4, ?_⟩
        refine ⟨_, rfl, _, rfl, _, rfl, l, _, _, _, rfl, rfl, W.gh.seq hL, atI_nat hx, ap, _, _, _, rfl, rfl, W.gh.tup hT, rfl, d, _, rfl, dput_s hD ?_, ?_⟩
        · have : ((List.range i).filterMap fun j => rowEl ns k j ps[j]?).length ≤ i := by
            have := List.length_filterMap_le (fun j => rowEl ns k j ps[j]?) (List.range i)
            rwa [List.length_range] at this
          exact small1000 (by show (rowK _).length ≤ 1000; unfold rowK; rw [List.length_map]; omega)
        · have hk : look nm ((List.range i).filterMap fun j => rowEl ns k j ps[j]?) = none := by
            rw [look_keys, row_keys ns k ps i (by omega)]
            exact nm0_new hnd hp rfl
          refine ⟨some (.int i), rfl, W.mut hd gd, ?_⟩
          rw [upd_same, putK_row hk, filterMap_range_succ, hp]
          rfl
    · rintro σ H' ⟨v, rfl, W, hD⟩
      refine ⟨_, rfl, q _ _ _ (W.tell hD hd (Same.free gh hd)) ⟨d, rfl, ?_⟩⟩
      rw [upd_same]
      unfold rowP
      rw [show (xs.length : Int).toNat = ps.length by omega]

abbrev s__law_values : Stmt := top 29
abbrev n__law_values : List Str := ["script", "start", "pieces", "values", "k", "piece", "here", "many", "row", "j"]
theorem sc__law_values : FnScope n__law_values ["script", "start", "pieces"] (defScope s__law_values) := ⟨rfl, rfl, rfl, by decide +kernel, rfl, by decide +kernel, by decide +kernel⟩

theorem dn__law_values (D : Df K mg "_law_values" s__law_values ["script", "start", "pieces"]) (B : Bl mg) (d__law_word : Dn P w K mg base CX0 3 "_law_word" (sp__law_word K))  (d__law_draw : Dn P w K mg base CX0 2 "_law_draw" (sp__law_draw K))  (d__law_row : Dn P w K mg base CX0 4 "_law_row" (sp__law_row K))  : Dn P w K mg base CX0 5 "_law_values" (sp__law_values K) := by
  refine .of D fun f fd F => F.ok sc__law_values (fun vs H Q E h => ?_) (fun cdv A outer s H vs Q E hr h => ?_)
  · (obtain ⟨_, _, _, _, _, _, _, rfl, _⟩ := h; rfl)
  · have hu := hu_of hr
    have hu64 : _ := hr.units
    refine ⟨_, (pss_cons (ps_set (i := 3) sc__law_values.nd rfl (Or.inl rfl) pe_dnewK)
      (pss_cons (ps_for PassesOwn.never rfl (pi_range1 rfl B.range (pa_cons (pe_callB (callLen (K := K) rfl) rfl B.len PySem.boot_len (pa_cons (pv 2) pa_nil)) pa_nil)) (pg_name (i := 4) sc__law_values.nd rfl (Or.inl rfl))
      (pss_cons (ps_set (i := 5) sc__law_values.nd rfl (Or.inr rfl) (pe_ix (ixLs (K := K) rfl) (pv 2) (pv 4) (fun _ _ => rfl)))
      (pss_cons (ps_set (i := 6) sc__law_values.nd rfl (Or.inr rfl) (pe_op op_add (pv 1) (pe_op op_mul pe_int (pv 4))))
      (pss_cons (ps_if (pt_cmpR op_eq (pe_ix (ixT (K := K) rfl) (pv 5) pe_int (fun _ _ => rfl)) pe_str (nomark _)) (pss_one (ps_dput hu (pv 3) (pe_ix (ixT (K := K) rfl) (pv 5) pe_int (fun _ _ => rfl)) (cD d__law_word hr (by decide) rfl (pa_cons (pv 0) (pa_cons (pv 6) (pa_cons (pv 5) pa_nil)))) rfl)) pss_nil)
      (pss_one (ps_if (pt_cmpR op_eq (pe_ix (ixT (K := K) rfl) (pv 5) pe_int (fun _ _ => rfl)) pe_str (nomark _)) (pss_cons (ps_set (i := 7) sc__law_values.nd rfl (Or.inl rfl) (pe_op op_add (pe_ix (ixT (K := K) rfl) (pv 5) pe_int (fun _ _ => rfl)) (pe_op op_mod (cD d__law_draw hr (by decide) rfl (pa_cons (pv 0) (pa_cons (pv 6) pa_nil))) (pe_op op_add (pe_op op_sub (pe_ix (ixT (K := K) rfl) (pv 5) pe_int (fun _ _ => rfl)) (pe_ix (ixT (K := K) rfl) (pv 5) pe_int (fun _ _ => rfl))) pe_int))))
      (pss_cons (ps_setLc (i := 8) (own := [("j", 9)]) (g := gName 9) rfl sc__law_values.nd rfl rfl (sw_true rfl rfl rfl (by decide +kernel)) (pi_range1 rfl B.range (pa_cons (pv 7) pa_nil)) (blkOk_by (N := n__law_values) (sc := defScope s__law_values) (by decide +kernel)) (fun _ _ _ _ _ => pg_name (i := 9) sc__law_values.nd rfl (Or.inl rfl)) (fun _ _ _ _ _ => pts_nil) (fun _ _ _ _ _ => (cD d__law_row hr (by decide) rfl (pa_cons (pv 0) (pa_cons (pe_op op_add (pe_op op_add (pv 6) pe_int) (pe_op op_mul pe_int (pv 9))) (pa_cons (pe_ix (ixT (K := K) rfl) (pv 5) pe_int (fun _ _ => rfl)) pa_nil))))))
      (pss_one (ps_dput hu (pv 3) (pe_ix (ixT (K := K) rfl) (pv 5) pe_int (fun _ _ => rfl)) (pv 8) rfl)))) pss_nil))))))
      (pss_one (ps_ret (pv 3))))), ?_⟩
    obtain ⟨a, ns, st, l, xs, ps, G, rfl, gh, hS, hL, hP, hok, q⟩ := h
    have hxp := Paired.len hP
    have hl6 := hok.l6
    intro d hd
    have gd : G d = none := Same.free gh hd
    refine ⟨_, rfl, l, xs, rfl, .inl ((gh.keep (Keep.new hd)).seq hL), _, rfl, (by omega), (by omega), ?_⟩
    refine for_range (lo := 0) (n := (xs.length : Int).toNat) (fun i σ H' => ∃ v1 v2 v3 v4 v5 v6 G' kvs, σ = [some (.ref a), some (.int st), some (.ref l), some (.ref d), v1, v2, v3, v4, v5, v6] ∧ Wd G H G' H' ∧ H' d = some (.dK kvs) ∧ G' d = none ∧ Paired (RKv K G') kvs ((List.range i).filterMap fun k => valEl ns st k ps[k]?))
      ⟨none, none, none, none, none, none, G, [], rfl, (Wd.refl gh).keep (Keep.new hd), upd_same, gd, .nil⟩ ?_ ?_
    · rintro i σ H' hi ⟨v1, v2, v3, v4, v5, v6, G', kvs, rfl, W, hD, gd', hV⟩
      rw [Int.zero_add]
      have hi' : i < xs.length := by omega
      obtain ⟨p, hp, hR⟩ := Paired.at hP (List.getElem?_eq_getElem hi')
      have hx : xs[i]? = some xs[i] := List.getElem?_eq_getElem hi'
      have hS' := W.gh.seq (W.gg.seq hS)
      have hL' := W.gh.seq (W.gg.seq hL)
      have hokp := hok.ok _ (mem_at hp)
      have hkl : kvs.length ≤ 6 := by
        have h1 := Paired.len hV
        have h2 := List.length_filterMap_le (fun k => valEl ns st k ps[k]?) (List.range i)
        rw [List.length_range] at h2
        omega
      have hkn : ∀ n, nmP p = some n → valV kvs (Sum.inr n : Key) = none := fun n hn => by
        refine (val_RV hV n).2 ?_
        rw [look_keys, val_keys ns st ps i (by omega)]
        exact nm_new hok.nd hp hn
      refine ⟨_, rfl, _, rfl, l, _, _, _, rfl, rfl, hL', atI_nat hx, ?_⟩
      refine ⟨_, rfl, _, rfl, _, _, rfl, rfl, .inl ⟨by decide, by decide⟩, _, _, rfl, rfl, ?_⟩
      cases p with
      | p0 p =>
        obtain ⟨ap, e, hT⟩ := hR
        rw [e]
        have hT' := W.gh.tup (W.gg.tup hT)
        cases p with
        | say t =>
          refine ⟨_, rfl, ap, _, _, _, rfl, rfl, hT', rfl, rfl, _, rfl, iteNe say_ask ?_⟩
          refine ⟨_, rfl, ap, _, _, _, rfl, rfl, hT', rfl, rfl, _, rfl, iteNe say_rows ?_⟩
          refine ⟨_, _, _, _, _, _, G', kvs, rfl, W, hD, gd', ?_⟩
          rw [filterMap_range_succ, hp]
          simpa [valEl] using hV
        | ask nm sg lo hi =>
          refine ⟨_, rfl, ap, _, _, _, rfl, rfl, hT', rfl, rfl, _, rfl, iteEq ?_⟩
          obtain ⟨_, s1, s20, _, _, l0, lh, h4⟩ := hokp
          refine ⟨_, rfl, _, rfl, _, rfl, a, ns, _, ap, nm, sg, lo, hi, rfl, hS', hT', s1, s20, l0, lh, h4, ?_⟩
          refine ⟨_, rfl, _, rfl, ap, _, _, _, rfl, rfl, hT', rfl, d, _, rfl, dput_s hD (small1000 (by omega)), ?_⟩
          have nd : ∀ o, Wd G H G' (upd H' d o) := fun o => W.mut hd gd'
          have hT2 := (nd (.dK (putK kvs (Sum.inr nm) (.str (wordP ns (st + 90 * i) sg lo hi))))).gh.tup (W.gg.tup hT)
          refine ⟨_, rfl, ap, _, _, _, rfl, rfl, hT2, rfl, rfl, _, rfl, iteNe ask_rows ?_⟩
          refine ⟨_, _, _, _, _, _, G', _, rfl, nd _, upd_same, gd', ?_⟩
          rw [putK_new _ (hkn nm rfl), filterMap_range_succ, hp]
          exact Paired.snoc hV ⟨rfl, rfl⟩
      | rows nm ips gap lo hi =>
        obtain ⟨ap, li, ys, e, hT, hLi, hPi⟩ := hR
        rw [e]
        have hT' := W.gh.tup (W.gg.tup hT)
        refine ⟨_, rfl, ap, _, _, _, rfl, rfl, hT', rfl, rfl, _, rfl, iteNe rows_ask ?_⟩
        refine ⟨_, rfl, ap, _, _, _, rfl, rfl, hT', rfl, rfl, _, rfl, iteEq ?_⟩
        obtain ⟨_, i1, i3, iok, ind, _, _, l0, lh, h3⟩ := hokp
        have ws := word_size (ns := ns) (k := st + 90 * i) l0 lh
        refine ⟨_, rfl, ap, _, _, _, rfl, rfl, hT', rfl, _, rfl, _, rfl, a, ns, _, rfl, hS', _, rfl, ap, _, _, _, rfl, rfl, hT', rfl, _, rfl, ap, _, _, _, rfl, rfl, hT', rfl, _, _, rfl, rfl, _, _, rfl, rfl, _, _, rfl, rfl, (by show 0 < hi - lo + 1; omega), _, _, rfl, rfl, ?_⟩
        refine ⟨_, rfl, _, rfl, (by omega), (by omega), fun D hDn => ?_⟩
        have dD : d ≠ D := ne_of_none hD hDn
        have hDH : H D = none := W.hh.free hDn
        have gDn : G' D = none := Same.free W.gh hDn
        refine lc_range (lo := 0) (n := (lo + draw ns (st + 90 * i) % (hi - lo + 1)).toNat) (fun j H2 => ∃ G2 rs, Wd G' H' G2 H2 ∧ H2 D = some (.lst rs) ∧ G2 D = none ∧ Paired (RD G2) rs ((List.range j).map fun (j : Nat) => rowP ns (st + 90 * i + 1 + 25 * j) ips) ∧ rs.length = j)
          ⟨G', [], (Wd.refl W.gh).keep (Keep.new hDn), upd_same, gDn, .nil, rfl⟩ ?_ ?_
        · rintro j H2 hj ⟨G2, rs, W2, hD2, gD2, hP2, hl2⟩
          rw [Int.zero_add]
          refine ⟨rfl, ?_⟩
          unfold tYes
          dsimp only
          rw [if_pos rfl]
          refine ⟨_, rfl, _, rfl, _, _, rfl, rfl, _, rfl, _, _, rfl, rfl, .inl ⟨by decide, by decide⟩, _, _, rfl, rfl, _, rfl, ap, _, _, _, rfl, rfl, W2.gh.tup (W2.gg.tup (W.gg.tup hT)), rfl, ?_⟩
          refine ⟨a, ns, _, li, ys, ips, G2, rfl, W2.gh, W2.gg.seq (W.gg.seq hS), W2.gg.seq (W.gg.seq hLi), Paired.monoP hPi fun _ _ z => (z.mono W.gg).mono W2.gg, iok, ind, (by omega), fun v G3 H3 W3 r3 => ?_⟩
          refine ⟨rs, W3.hh _ _ hD2, small1000 (by omega), G3, _, (W2.trans W3).mut hDn (W3.nw _ _ hD2 gD2), upd_same, W3.nw _ _ hD2 gD2, ?_, by simp [hl2]⟩
          rw [map_range_succ]
          exact Paired.snoc (Paired.monoP hP2 fun _ _ z => z.mono W3.gg) r3
        · rintro H2 ⟨G2, rs, W2, hD2, gD2, hP2, hl2⟩
          have W3 := W2.tell hD2 hDn gD2
          have gd3 : upd G2 D (.lst rs) d = none := by rw [upd_ne dD]; exact W2.nw _ _ hD gd'
          have hT3 := W3.gh.tup (W3.gg.tup (W.gg.tup hT))
          refine ⟨_, rfl, _, rfl, _, rfl, ap, _, _, _, rfl, rfl, hT3, rfl, d, _, rfl, dput_s (W3.hh _ _ hD) (small1000 (by omega)), ?_⟩
          refine ⟨_, _, _, _, _, _, upd G2 D (.lst rs), _, rfl, (W.trans W3).mut hd gd3, upd_same, gd3, ?_⟩
          rw [putK_new _ (hkn nm rfl), filterMap_range_succ, hp]
          refine Paired.snoc (Paired.monoP hV fun _ _ z => z.mono W3.gg) ⟨rfl, D, rs, rfl, SqL.of upd_same, Paired.monoP hP2 fun _ _ z => z.mono (Same.new gD2)⟩
    · rintro σ H' ⟨v1, v2, v3, v4, v5, v6, G', kvs, rfl, W, hD, gd', hV⟩
      refine ⟨_, rfl, q _ _ _ (W.tell hD hd gd') ⟨d, kvs, rfl, upd_same, ?_⟩⟩
      unfold valuesP
      rw [show ps.length = (xs.length : Int).toNat by omega]
      exact Paired.monoP hV fun _ _ z => z.mono (Same.new gd')

abbrev s__law_line : Stmt := top 30
abbrev n__law_line : List Str := ["pieces", "values", "text", "piece"]
theorem sc__law_line : FnScope n__law_line ["pieces", "values"] (defScope s__law_line) := ⟨rfl, rfl, rfl, by decide +kernel, rfl, by decide +kernel, by decide +kernel⟩

theorem dn__law_line (D : Df K mg "_law_line" s__law_line ["pieces", "values"])  : Dn P w K mg base CX0 1 "_law_line" (sp__law_line K) := by
  refine .of D fun f fd F => F.ok sc__law_line (fun vs H Q E h => ?_) (fun cdv A outer s H vs Q E hr h => ?_)
  · (obtain ⟨_, _, _, _, _, _, rfl, _⟩ := h; rfl)
  · have hu := hu_of hr
    have hu64 : _ := hr.units
    refine ⟨_, (pss_cons (ps_set (i := 2) sc__law_line.nd rfl (Or.inl rfl) pe_str)
      (pss_cons (ps_for PassesOwn.never rfl (pi_list (pv 0)) (pg_name (i := 3) sc__law_line.nd rfl (Or.inl rfl))
      (pss_one (ps_if (pt_cmpR op_eq (pe_ix (ixT (K := K) rfl) (pv 3) pe_int (fun _ _ => rfl)) pe_str (nomark _)) (pss_one (ps_set (i := 2) sc__law_line.nd rfl (Or.inl rfl) (pe_op op_add_str (pv 2) (pe_ix (ixT (K := K) rfl) (pv 3) pe_int (fun _ _ => rfl))))) (pss_one (ps_set (i := 2) sc__law_line.nd rfl (Or.inl rfl) (pe_op op_add_str (pv 2) (pe_dget hu (pv 1) (pe_ix (ixT (K := K) rfl) (pv 3) pe_int (fun _ _ => rfl)) (fun _ _ => rfl))))))))
      (pss_one (ps_ret (pv 2))))), ?_⟩
    obtain ⟨l, xs, ps, d, kvs, f, rfl, hL, hP, hD, hA, hlen, hok, hf, q⟩ := h
    have hxp := Paired.len hP
    refine ⟨_, rfl, l, rfl, ⟨xs, hL⟩, for_list (K := K) (a := l) (xs := xs) (fun i σ H' => ∃ v, H' = H ∧ σ = [some (.ref l), some (.ref d), some (.str (lineP f (ps.take i))), v]) ⟨none, rfl, rfl⟩ (fun i σ H' _ ⟨_, e, _⟩ => e ▸ hL) ?_ ?_⟩
    · rintro i x σ H' hi ⟨v, rfl, rfl⟩
      obtain ⟨p, hp, hR⟩ := Paired.at hP hi
      obtain ⟨ap, rfl, hT⟩ := hR
      have hle := lineP_len hok hf (i + 1)
      rw [lineP_snoc f hp, str_len_app] at hle
      have hi6 := at_lt hp
      cases p with
      | say t =>
        refine ⟨_, rfl, ap, _, _, _, rfl, rfl, hT, rfl, rfl, _, rfl, iteEq ?_⟩
        refine ⟨_, rfl, _, rfl, ap, _, _, _, rfl, rfl, hT, rfl, _, _, rfl, rfl, small_line ?_, some (.ref ap), rfl, ?_⟩
        · have : (fpiece f (.say t)).length = t.length := rfl
          omega
        · rw [lineP_snoc f hp]; rfl
      | ask nm sg lo hi2 =>
        refine ⟨_, rfl, ap, _, _, _, rfl, rfl, hT, rfl, rfl, _, rfl, iteNe ask_say ?_⟩
        refine ⟨_, rfl, _, rfl, _, rfl, ap, _, _, _, rfl, rfl, hT, rfl, d, _, rfl, dget_s hD (hA _ _ _ _ (mem_at hp)), _, _, rfl, rfl, small_line ?_, some (.ref ap), rfl, ?_⟩
        · have : (fpiece f (.ask nm sg lo hi2)).length = (f nm).length := rfl
          omega
        · rw [lineP_snoc f hp]; rfl
    · rintro σ H' ⟨v, rfl, rfl⟩
      rw [hxp, List.take_length]
      exact ⟨_, rfl, q⟩

abbrev s__law_written : Stmt := top 31
abbrev n__law_written : List Str := ["pieces", "values", "text", "piece", "row"]
theorem sc__law_written : FnScope n__law_written ["pieces", "values"] (defScope s__law_written) := ⟨rfl, rfl, rfl, by decide +kernel, rfl, by decide +kernel, by decide +kernel⟩

theorem dn__law_written (D : Df K mg "_law_written" s__law_written ["pieces", "values"]) (d__law_line : Dn P w K mg base CX0 1 "_law_line" (sp__law_line K))  : Dn P w K mg base CX0 2 "_law_written" (sp__law_written K) := by
  refine .of D fun f fd F => F.ok sc__law_written (fun vs H Q E h => ?_) (fun cdv A outer s H vs Q E hr h => ?_)
  · (obtain ⟨_, _, _, _, _, rfl, _⟩ := h; rfl)
  · have hu := hu_of hr
    have hu64 : _ := hr.units
    refine ⟨_, (pss_cons (ps_set (i := 2) sc__law_written.nd rfl (Or.inl rfl) pe_str)
      (pss_cons (ps_for PassesOwn.never rfl (pi_list (pv 0)) (pg_name (i := 3) sc__law_written.nd rfl (Or.inr rfl))
      (pss_one (ps_if (pt_cmpR op_eq (pe_ix (ixT (K := K) rfl) (pv 3) pe_int (fun _ _ => rfl)) pe_str (nomark _)) (pss_one (ps_set (i := 2) sc__law_written.nd rfl (Or.inl rfl) (pe_op op_add_str (pv 2) (pe_join (pe_ix (ixT (K := K) rfl) (pv 3) pe_int (fun _ _ => rfl)) (pe_lc (own := [("row", 4)]) (g := gName 4) rfl sc__law_written.nd (pi_list (pe_dget hu (pv 1) (pe_ix (ixT (K := K) rfl) (pv 3) pe_int (fun _ _ => rfl)) (fun _ _ => rfl))) (blkOk_by (N := n__law_written) (sc := defScope s__law_written) (by decide +kernel)) (fun _ _ _ _ _ => pg_name (i := 4) sc__law_written.nd rfl (Or.inl rfl)) (fun _ _ _ _ _ => pts_nil) (fun _ _ _ _ _ => (cD d__law_line hr (by decide) rfl (pa_cons (pe_ix (ixT (K := K) rfl) (pv 3) pe_int (fun _ _ => rfl)) (pa_cons (pv 4) pa_nil))))))))) (pss_one (ps_set (i := 2) sc__law_written.nd rfl (Or.inl rfl) (pe_op op_add_str (pv 2) (cD d__law_line hr (by decide) rfl (pa_cons (pe_lst (pa_cons (pv 3) pa_nil)) (pa_cons (pv 1) pa_nil)))))))))
      (pss_one (ps_ret (pv 2))))), ?_⟩
    obtain ⟨l, xs, ps, v, vals, rfl, hL, hP, hV, hlen, hok, q⟩ := h
    have hxp := Paired.len hP
    obtain ⟨d, kvs, rfl, hD0, hK⟩ := id hV
    have hD : Rd H d (.dK kvs) := .inl hD0
    refine ⟨_, rfl, l, rfl, ⟨xs, hL⟩, for_list (K := K) (a := l) (xs := xs) (fun i σ H' => ∃ v1 v2, Keep H H' ∧ σ = [some (.ref l), some (.ref d), some (.str (writtenP (fv vals) (gv vals) (ps.take i))), v1, v2]) ⟨none, none, Keep.refl _, rfl⟩ (fun i σ H' _ ⟨_, _, k, _⟩ => k.same.seq hL) ?_ ?_⟩
    · rintro i x σ H' hi ⟨v1, v2, k, rfl⟩
      obtain ⟨p, hp, hR⟩ := Paired.at hP hi
      have hle := writtenP_len hok (i + 1)
      rw [writtenP_snoc _ _ hp, str_len_app] at hle
      have hi6 := at_lt hp
      obtain ⟨hokp, hfp⟩ := hok _ (mem_at hp)
      cases p with
      | p0 p =>
        obtain ⟨ap, rfl, hT⟩ := hR
        have hT' := k.same.tup hT
        have hne : ∀ H1 : Hp, SqT K H1 ap p.vs → ∃ u, atI p.vs 0 = some u ∧ scal u (V.str "rows") = true ∧ u ≠ V.str "rows" := fun H1 _ => by
          cases p with
          | say t => exact ⟨_, rfl, rfl, say_rows⟩
          | ask nm sg lo hi => exact ⟨_, rfl, rfl, ask_rows⟩
        obtain ⟨u, hu1, hu2, hu3⟩ := hne _ hT'
        refine ⟨_, rfl, ap, _, _, _, rfl, rfl, hT', hu1, hu2, _, rfl, iteNe hu3 ?_⟩
        refine ⟨_, rfl, _, rfl, (by show 1 ≤ sizeLine; decide), fun pl hpl => ?_⟩
        have k2 := k.trans (Keep.new (o := .lst [V.ref ap]) hpl)
        obtain ⟨a1, a2⟩ := look_fit hK hfp
        refine ⟨_, rfl, pl, [V.ref ap], [p], d, kvs, fv vals, rfl, SqL.of upd_same, .cons ⟨ap, rfl, k2.same.tup hT⟩ .nil, k2.same.rd hD, a1, (by show 1 ≤ 6; omega), (fun p' hp' => by simp at hp'; subst hp'; exact hokp), a2, _, _, rfl, rfl, small_line ?_, some (.ref ap), v2, k2, ?_⟩
        · rw [lineP_one]
          have : (wpiece (fv vals) (gv vals) (.p0 p)).length = (fpiece (fv vals) p).length := rfl
          omega
        · rw [writtenP_snoc _ _ hp, lineP_one]; rfl
      | rows nm ips gap lo hi2 =>
        obtain ⟨ap, li, ys, rfl, hT, hLi, hPi⟩ := hR
        have hT' := k.same.tup hT
        obtain ⟨rs, e, f1, f2, f3⟩ := hfp
        obtain ⟨_, i1, i3, iok, ind, g5, _, l0, lh, h3⟩ := hokp
        obtain ⟨rv, ev, rl, rvs, rfl, hrl, hrp⟩ := (val_RV hK nm).1 _ e
        have hrl2 := Paired.len hrp
        refine ⟨_, rfl, ap, _, _, _, rfl, rfl, hT', rfl, rfl, _, rfl, iteEq ?_⟩
        refine ⟨_, rfl, _, rfl, ap, _, _, _, rfl, rfl, hT', rfl, ⟨_, rfl⟩, _, rfl, _, rfl, ap, _, _, _, rfl, rfl, hT', rfl, d, _, rfl, dget_s (k.same.rd hD) ev, rl, rfl, ⟨rvs, k.same.seq hrl⟩, fun D hDn => ?_⟩
        refine lc_list (K := K) (a := rl) (xs := rvs) (fun j H2 => Keep H' H2 ∧ H2 D = some (.lst (((rs.take j).map fun r => lineP (rowf r) ips).map V.str)))
          ⟨Keep.new hDn, upd_same⟩ (fun j H2 _ ⟨k2, _⟩ => (k.trans k2).same.seq hrl) ?_ ?_
        · rintro j y H2 hj ⟨k2, hD2⟩
          obtain ⟨r, hr, dr, rfl, hdr⟩ := Paired.at hrp hj
          have k3 := k.trans k2
          refine ⟨rfl, ?_⟩
          unfold tYes
          dsimp only
          rw [if_pos rfl]
          obtain ⟨a1, a2⟩ := row_fits (f3 r (mem_at hr))
          have hjl := at_lt hr
          refine ⟨_, rfl, ap, _, _, _, rfl, rfl, k3.same.tup hT, rfl, _, rfl, li, ys, ips, dr, _, rowf r, rfl, k3.same.seq hLi, Paired.monoP hPi fun _ _ z => z.mono k3.same, k3.same.rd (.inl hdr), a2, (by omega), iok, a1, _, hD2, small1000 ?_, k2.mut hDn, ?_⟩
          · rw [List.length_map, List.length_map, List.length_take]; omega
          · rw [upd_same, map_take_succ _ hr, List.map_append]; rfl
        · rintro H2 ⟨k2, hD2⟩
          rw [hrl2, List.take_length] at hD2
          have k3 := k.trans k2
          obtain ⟨j1, j2⟩ := join_le (gap := gap) (rows_lines_le iok i3 f3) (by rw [List.length_map]; omega) g5
          refine ⟨gap, D, _, rfl, rfl, .inl (SqL.of hD2), Nat.le_trans j1 (by decide), _, _, rfl, rfl, small_line ?_, some (.ref ap), v2, k3, ?_⟩
          · have : (wpiece (fv vals) (gv vals) (.rows nm ips gap lo hi2)).length = (Txt.join gap (rs.map fun r => lineP (rowf r) ips)).length := by
              show (Txt.join gap ((gv vals nm).map fun r => lineP r ips)).length = _
              rw [gv_rows e]
            omega
          · rw [writtenP_snoc _ _ hp]
            show _ = [some (V.ref l), some (V.ref d), some (V.str (writtenP (fv vals) (gv vals) (ps.take i) ++ Txt.join gap ((gv vals nm).map fun r => lineP r ips))), some (V.ref ap), v2]
            rw [gv_rows e]
            rfl
    · rintro σ H' ⟨v1, v2, k, rfl⟩
      rw [hxp, List.take_length]
      exact ⟨_, rfl, q _ k⟩

abbrev s_ask_text : Stmt := top 6
abbrev n_ask_text : List Str := ["text", "least", "most", "sign"]
theorem sc_ask_text : FnScope n_ask_text ["text", "least", "most"] (defScope s_ask_text) := ⟨rfl, rfl, rfl, by decide +kernel, rfl, by decide +kernel, by decide +kernel⟩

theorem dn_ask_text (D : Df K mg "ask_text" s_ask_text ["text", "least", "most"]) (B : Bl mg) (g_SIGNS : G_SIGNS mg)  : Dn P w K mg base CX0 1 "ask_text" (sp_ask_text K) := by
  refine .of D fun f fd F => F.ok sc_ask_text (fun vs H Q E h => ?_) (fun cdv A outer s H vs Q E hr h => ?_)
  · (obtain ⟨_, _, _, rfl, _⟩ := h; rfl)
  · have hu := hu_of hr
    have hu64 : _ := hr.units
    refine ⟨_, (pss_cons (ps_if (pt_not (pt_chain op_le op_le (pv 1) (pe_callB call_len_str rfl B.len PySem.boot_len (pa_cons (pv 0) pa_nil)) (pv 2))) (pss_one ps_never) pss_nil)
      (pss_one (ps_for PassesOwn.never rfl (pi_str (pv 0)) (pg_name (i := 3) sc_ask_text.nd rfl (Or.inl rfl))
      (pss_one (ps_if (pt_cmpR op_notIn_sign (pv 3) (pe_globS rfl g_SIGNS) (by with_unfolding_all rfl)) (pss_one ps_never) pss_nil))))), ?_⟩
    obtain ⟨t, lo, hi, rfl, h1, h2, h3, hs, q⟩ := h
    refine ⟨_, rfl, _, rfl, t, rfl, small_line (by omega), _, _, rfl, rfl, _, rfl, ?_⟩
    refine iteDT h1 ⟨_, rfl, _, _, rfl, rfl, _, rfl, ?_⟩
    refine iteNT (decide_eq_true h2) ?_
    refine ⟨_, rfl, t, rfl, for_text (x := t) (fun i σ H' => ∃ v, H' = H ∧ σ = [some (.str t), some (.int lo), some (.int hi), v]) ⟨none, rfl, rfl⟩ ?_ ?_⟩
    · rintro i c σ H' hc ⟨v, rfl, rfl⟩
      have hm : c ∈ SIGNSs.cps.toList := hs c (by rw [← Array.getElem?_toList] at hc; exact List.mem_of_getElem? hc)
      refine ⟨_, rfl, c, SIGNSs, rfl, rfl, _, rfl, ?_⟩
      refine iteNT (decide_eq_true hm) ?_
      exact ⟨_, rfl, rfl⟩
    · rintro σ H' ⟨v, rfl, rfl⟩
      exact q

abbrev s_ask_count : Stmt := top 7
abbrev n_ask_count : List Str := ["least", "most", "bound"]
theorem sc_ask_count : FnScope n_ask_count ["least", "most", "bound"] (defScope s_ask_count) := ⟨rfl, rfl, rfl, by decide +kernel, rfl, by decide +kernel, by decide +kernel⟩

theorem dn_ask_count (D : Df K mg "ask_count" s_ask_count ["least", "most", "bound"])  : Dn P w K mg base CX0 1 "ask_count" (sp_ask_count K) := by
  refine .of D fun f fd F => F.ok sc_ask_count (fun vs H Q E h => ?_) (fun cdv A outer s H vs Q E hr h => ?_)
  · (obtain ⟨_, _, _, rfl, _⟩ := h; rfl)
  · have hu := hu_of hr
    have hu64 : _ := hr.units
    refine ⟨_, (pss_one (ps_if (pt_not (pt_chain3 op_le op_le op_le pe_int (pv 0) (pv 1) (pv 2))) (pss_one ps_never) pss_nil)), ?_⟩
    obtain ⟨a, b, c, rfl, h1, h2, h3, q⟩ := h
    refine ⟨_, rfl, _, _, rfl, rfl, _, rfl, iteDT h1 ⟨_, rfl, _, _, rfl, rfl, _, rfl, iteDT h2 ⟨_, rfl, _, _, rfl, rfl, _, rfl, iteNT (decide_eq_true h3) q⟩⟩⟩

abbrev s_look_at_piece : Stmt := top 8
abbrev n_look_at_piece : List Str := ["piece", "names"]
theorem sc_look_at_piece : FnScope n_look_at_piece ["piece", "names"] (defScope s_look_at_piece) := ⟨rfl, rfl, rfl, by decide +kernel, rfl, by decide +kernel, by decide +kernel⟩

theorem dn_look_at_piece (D : Df K mg "look_at_piece" s_look_at_piece ["piece", "names"]) (B : Bl mg) (d_ask_text : Dn P w K mg base CX0 1 "ask_text" (sp_ask_text K))  (d_ask_count : Dn P w K mg base CX0 1 "ask_count" (sp_ask_count K))  : Dn P w K mg base CX0 2 "look_at_piece" (sp_look_at_piece K) := by
  refine .of D fun f fd F => F.ok sc_look_at_piece (fun vs H Q E h => ?_) (fun cdv A outer s H vs Q E hr h => ?_)
  · (obtain ⟨_, _, _, _, _, rfl, _⟩ := h; rfl)
  · have hu := hu_of hr
    have hu64 : _ := hr.units
    refine ⟨_, (pss_one (ps_if (pt_cmpR op_eq (pe_ix (ixT (K := K) rfl) (pv 0) pe_int (fun _ _ => rfl)) pe_str (nomark _)) (pss_one (ps_expr (cD d_ask_text hr (by decide) rfl (pa_cons (pe_ix (ixT (K := K) rfl) (pv 0) pe_int (fun _ _ => rfl)) (pa_cons pe_int (pa_cons pe_int pa_nil)))))) (pss_cons (ps_if (PW.pt (pw_or (pt_cmpR (opInSeq (K := K) rfl) (pe_ix (ixT (K := K) rfl) (pv 0) pe_int (fun _ _ => rfl)) (pv 1) (by with_unfolding_all rfl)) (pw_or1 (pt_cmpR op_eq (pe_ix (ixT (K := K) rfl) (pv 0) pe_int (fun _ _ => rfl)) pe_str (nomark _))))) (pss_one ps_never) pss_nil)
      (pss_cons (ps_expr (pe_bm PySem.F.plainAttrs_list PySem.F.slot_list_append PySem.F.type_list_append mt_append (pv 1) (pa_cons (pe_ix (ixT (K := K) rfl) (pv 0) pe_int (fun _ _ => rfl)) pa_nil)))
      (pss_cons (ps_expr (cD d_ask_text hr (by decide) rfl (pa_cons (pe_ix (ixT (K := K) rfl) (pv 0) pe_int (fun _ _ => rfl)) (pa_cons pe_int (pa_cons pe_int pa_nil)))))
      (pss_cons (ps_if (pt_cmpR op_ne (pe_lenSetS rfl rfl B.len rfl B.set (pe_ix (ixT (K := K) rfl) (pv 0) pe_int (fun _ _ => rfl))) (pe_callB call_len_str rfl B.len PySem.boot_len (pa_cons (pe_ix (ixT (K := K) rfl) (pv 0) pe_int (fun _ _ => rfl)) pa_nil)) (nomark _)) (pss_one ps_never) pss_nil)
      (pss_one (ps_expr (cD d_ask_count hr (by decide) rfl (pa_cons (pe_ix (ixT (K := K) rfl) (pv 0) pe_int (fun _ _ => rfl)) (pa_cons (pe_ix (ixT (K := K) rfl) (pv 0) pe_int (fun _ _ => rfl)) (pa_cons pe_int pa_nil)))))))))))), ?_⟩
    obtain ⟨a, nl, p, ns, G, rfl, gh, gn, hT, hN, hl, ok, hnew, q⟩ := h
    have hT1 := gh.tup hT
    cases p with
    | say t =>
      refine ⟨_, rfl, a, _, _, _, rfl, rfl, hT1, rfl, rfl, _, rfl, iteEq ?_⟩
      refine ⟨_, rfl, a, _, _, _, rfl, rfl, hT1, rfl, t, 1, 12, rfl, ?_, ?_, by decide, ok.2.2, ?_⟩
      · have := ok.1; omega
      · have := ok.2.1; omega
      · exact q H (fun _ _ => rfl) (by rw [show nms0 [P0.say t] = [] from rfl, List.append_nil]; exact hN)
    | ask nm sg lo hi =>
      obtain ⟨n0, s1, s20, sS, snd, l0, lh, h4⟩ := ok
      refine ⟨_, rfl, a, _, _, _, rfl, rfl, hT1, rfl, rfl, _, rfl, iteNe ask_say ?_⟩
      refine ⟨_, rfl, a, _, _, _, rfl, rfl, hT1, rfl, _, rfl, nl, _, rfl, .inl (SqL.of hN), rfl, flat_strs ns, _, rfl, ?_⟩
      refine iteBF ?_ ?_
      · show inV (.str nm) (ns.map V.str) = false
        rw [inV_strs]; exact decide_eq_false (hnew nm rfl)
      refine ⟨_, rfl, a, _, _, _, rfl, rfl, hT1, rfl, rfl, _, rfl, iteNe (str_ne_empty n0) ?_⟩
      refine ⟨_, rfl, .inl ⟨rfl, _, SqL.of hN⟩, _, rfl, a, _, _, _, rfl, rfl, hT1, rfl, nl, _, _, rfl, rfl, hN, small1000 (by rw [List.length_map]; omega), ?_⟩
      have g1 := gh.mut (o := .lst (ns.map V.str ++ [V.str nm])) gn
      have hT2 := g1.tup hT
      refine ⟨_, rfl, a, _, _, _, rfl, rfl, hT2, rfl, sg, 1, 20, rfl, (by omega), (by omega), by decide, sS, ?_⟩
      refine ⟨_, rfl, a, _, _, _, rfl, rfl, hT2, rfl, sg, rfl, (by omega), _, rfl, a, _, _, _, rfl, rfl, hT2, rfl, sg, rfl, small_line (by omega), rfl, _, rfl, ?_⟩
      rw [dd_signs snd]
      refine iteEqN ?_
      refine ⟨_, rfl, a, _, _, _, rfl, rfl, hT2, rfl, _, rfl, a, _, _, _, rfl, rfl, hT2, rfl, lo, hi, 4, rfl, l0, lh, h4, ?_⟩
      refine q _ (fun b hb => upd_ne hb) ?_
      rw [upd_same]
      simp [nms0, nm0]

abbrev s_look_at_rows : Stmt := top 9
abbrev n_look_at_rows : List Str := ["piece", "names", "inner", "one"]
theorem sc_look_at_rows : FnScope n_look_at_rows ["piece", "names"] (defScope s_look_at_rows) := ⟨rfl, rfl, rfl, by decide +kernel, rfl, by decide +kernel, by decide +kernel⟩

theorem dn_look_at_rows (D : Df K mg "look_at_rows" s_look_at_rows ["piece", "names"]) (B : Bl mg) (d_look_at_piece : Dn P w K mg base CX0 2 "look_at_piece" (sp_look_at_piece K))  (d_ask_text : Dn P w K mg base CX0 1 "ask_text" (sp_ask_text K))  (d_ask_count : Dn P w K mg base CX0 1 "ask_count" (sp_ask_count K))  : Dn P w K mg base CX0 3 "look_at_rows" (sp_look_at_rows K) := by
  refine .of D fun f fd F => F.ok sc_look_at_rows (fun vs H Q E h => ?_) (fun cdv A outer s H vs Q E hr h => ?_)
  · (obtain ⟨_, _, _, _, _, _, _, _, _, rfl, _⟩ := h; rfl)
  · have hu := hu_of hr
    have hu64 : _ := hr.units
    refine ⟨_, (pss_cons (ps_if (PW.pt (pw_or (pt_cmpR (opInSeq (K := K) rfl) (pe_ix (ixT (K := K) rfl) (pv 0) pe_int (fun _ _ => rfl)) (pv 1) (by with_unfolding_all rfl)) (pw_or1 (pt_cmpR op_eq (pe_ix (ixT (K := K) rfl) (pv 0) pe_int (fun _ _ => rfl)) pe_str (nomark _))))) (pss_one ps_never) pss_nil)
      (pss_cons (ps_expr (pe_bm PySem.F.plainAttrs_list PySem.F.slot_list_append PySem.F.type_list_append mt_append (pv 1) (pa_cons (pe_ix (ixT (K := K) rfl) (pv 0) pe_int (fun _ _ => rfl)) pa_nil)))
      (pss_cons (ps_if (pt_not (pt_chain op_le op_le pe_int (pe_callB (callLen (K := K) rfl) rfl B.len PySem.boot_len (pa_cons (pe_ix (ixT (K := K) rfl) (pv 0) pe_int (fun _ _ => rfl)) pa_nil)) pe_int)) (pss_one ps_never) pss_nil)
      (pss_cons (ps_set (i := 2) sc_look_at_rows.nd rfl (Or.inl rfl) (pe_lst pa_nil))
      (pss_cons (ps_for PassesOwn.never rfl (pi_list (pe_ix (ixT (K := K) rfl) (pv 0) pe_int (fun _ _ => rfl))) (pg_name (i := 3) sc_look_at_rows.nd rfl (Or.inl rfl))
      (pss_cons (ps_if (pt_cmpR op_eq (pe_ix (ixT (K := K) rfl) (pv 3) pe_int (fun _ _ => rfl)) pe_str (nomark _)) (pss_one ps_never) pss_nil)
      (pss_one (ps_expr (cD d_look_at_piece hr (by decide) rfl (pa_cons (pv 3) (pa_cons (pv 2) pa_nil)))))))
      (pss_cons (ps_expr (cD d_ask_text hr (by decide) rfl (pa_cons (pe_ix (ixT (K := K) rfl) (pv 0) pe_int (fun _ _ => rfl)) (pa_cons pe_int (pa_cons pe_int pa_nil)))))
      (pss_one (ps_expr (cD d_ask_count hr (by decide) rfl (pa_cons (pe_ix (ixT (K := K) rfl) (pv 0) pe_int (fun _ _ => rfl)) (pa_cons (pe_ix (ixT (K := K) rfl) (pv 0) pe_int (fun _ _ => rfl)) (pa_cons pe_int pa_nil)))))))))))), ?_⟩
    obtain ⟨a, nl, nm, ips, gap, lo, hi, ns, G, rfl, gh, gn, hR, hN, hl, ok, hnew, q⟩ := h
    obtain ⟨n0, i1, i3, iok, ind, g5, gS, l0, lh, h3⟩ := ok
    obtain ⟨ap, li, ys, e, hT, hLi, hPi⟩ := hR
    cases e
    have hip := Paired.len hPi
    have hT1 := gh.tup hT
    refine ⟨_, rfl, a, _, _, _, rfl, rfl, hT1, rfl, _, rfl, nl, _, rfl, .inl (SqL.of hN), rfl, flat_strs ns, _, rfl, ?_⟩
    refine iteBF ?_ ?_
    · show inV (.str nm) (ns.map V.str) = false
      rw [inV_strs]; exact decide_eq_false hnew
    refine ⟨_, rfl, a, _, _, _, rfl, rfl, hT1, rfl, rfl, _, rfl, iteNe (str_ne_empty n0) ?_⟩
    refine ⟨_, rfl, .inl ⟨rfl, _, SqL.of hN⟩, _, rfl, a, _, _, _, rfl, rfl, hT1, rfl, nl, _, _, rfl, rfl, hN, small1000 (by rw [List.length_map]; omega), ?_⟩
    have g1 := gh.mut (o := .lst (ns.map V.str ++ [V.str nm])) gn
    generalize hH1 : upd H nl (.lst (ns.map V.str ++ [V.str nm])) = H1 at g1
    have hN1 : H1 nl = some (.lst (ns.map V.str ++ [V.str nm])) := by rw [← hH1]; exact upd_same
    have hT2 := g1.tup hT
    refine ⟨_, rfl, a, _, _, _, rfl, rfl, hT2, rfl, li, ys, rfl, .inl (g1.seq hLi), _, _, rfl, rfl, _, rfl, ?_⟩
    refine iteDT (by omega) ⟨_, _, rfl, rfl, _, rfl, iteNT (decide_eq_true (by omega)) ?_⟩
    refine ⟨(by show 0 ≤ sizeLine; decide), fun il hil => ?_⟩
    have gil : G il = none := Same.free g1 hil
    have nil : nl ≠ il := ne_of_none hN1 hil
    refine ⟨_, rfl, a, _, _, _, rfl, rfl, ((g1.keep (Keep.new hil)).tup hT), rfl, li, rfl, ⟨ys, (g1.keep (Keep.new hil)).seq hLi⟩, ?_⟩
    refine for_list (K := K) (a := li) (xs := ys) (fun i σ H' => ∃ v, Keep H1 H' ∧ σ = [some (.ref a), some (.ref nl), some (.ref il), v] ∧ H' il = some (.lst ((nms0 (ips.take i)).map V.str)))
      ⟨none, Keep.new hil, rfl, upd_same⟩ (fun i σ H' _ ⟨_, k, _, _⟩ => (g1.keep k).seq hLi) ?_ ?_
    · rintro i x σ H' hi ⟨v, k, rfl, hI⟩
      obtain ⟨p, hp, hRp⟩ := Paired.at hPi hi
      obtain ⟨pa, rfl, hTp⟩ := hRp
      have hTp' := (g1.keep k).tup hTp
      have hu : ∃ u, atI p.vs 0 = some u ∧ scal u (V.str "rows") = true ∧ u ≠ V.str "rows" := by
        cases p with
        | say t => exact ⟨_, rfl, rfl, say_rows⟩
        | ask nm sg lo hi => exact ⟨_, rfl, rfl, ask_rows⟩
      obtain ⟨u, hu1, hu2, hu3⟩ := hu
      refine ⟨_, rfl, pa, _, _, _, rfl, rfl, hTp', hu1, hu2, _, rfl, iteNe hu3 ?_⟩
      have hlen : (nms0 (ips.take i)).length ≤ 100 := by
        have h1 := List.length_filterMap_le nm0 (ips.take i)
        rw [List.length_take] at h1
        unfold nms0; omega
      refine ⟨_, rfl, _, rfl, pa, il, p, nms0 (ips.take i), G, rfl, g1.keep k, gil, hTp, hI, hlen, iok p (mem_at hp), (fun n hn => nm0_new ind hp hn), fun H2 h1 h2 => ?_⟩
      refine ⟨some (.ref pa), fun b o e => ?_, rfl, ?_⟩
      · have hb : b ≠ il := ne_of_none e hil
        rw [h1 b hb]; exact k _ _ e
      · rw [h2, nms0_take ips hp]
        cases p <;> rfl
    · rintro σ H' ⟨v, k, rfl, hI⟩
      have hT3 := (g1.keep k).tup hT
      refine ⟨_, rfl, a, _, _, _, rfl, rfl, hT3, rfl, gap, 0, 5, rfl, (by omega), (by omega), by decide, gS, ?_⟩
      refine ⟨_, rfl, a, _, _, _, rfl, rfl, hT3, rfl, _, rfl, a, _, _, _, rfl, rfl, hT3, rfl, lo, hi, 3, rfl, l0, lh, h3, ?_⟩
      refine q _ (fun b o hb e => k _ _ (by rw [← hH1, upd_ne hb]; exact e)) ?_
      rw [k _ _ hN1]
      simp

abbrev s_copied : Stmt := top 11
abbrev n_copied : List Str := ["piece"]
theorem sc_copied : FnScope n_copied ["piece"] (defScope s_copied) := ⟨rfl, rfl, rfl, by decide +kernel, rfl, by decide +kernel, by decide +kernel⟩

theorem dn_copied (D : Df K mg "copied" s_copied ["piece"]) (B : Bl mg) : Dn P w K mg base CX0 1 "copied" (sp_copied K) := by
  refine .of D fun f fd F => F.ok sc_copied (fun vs H Q E h => ?_) (fun cdv A outer s H vs Q E hr h => ?_)
  · (obtain ⟨_, _, _, rfl, _⟩ := h; rfl)
  · have hu := hu_of hr
    have hu64 : _ := hr.units
    refine ⟨_, (pss_cons (ps_if (pt_cmpR op_eq (pe_ix (ixT (K := K) rfl) (pv 0) pe_int (fun _ _ => rfl)) pe_str (nomark _)) (pss_one (ps_ret (pe_tup (pa_cons pe_str (pa_cons (pe_ix (ixT (K := K) rfl) (pv 0) pe_int (fun _ _ => rfl)) (pa_cons (pe_callTy (callList (K := K) rfl) rfl B.list (by decide +kernel) (pa_cons (pe_ix (ixT (K := K) rfl) (pv 0) pe_int (fun _ _ => rfl)) pa_nil)) (pa_cons (pe_ix (ixT (K := K) rfl) (pv 0) pe_int (fun _ _ => rfl)) (pa_cons (pe_ix (ixT (K := K) rfl) (pv 0) pe_int (fun _ _ => rfl)) (pa_cons (pe_ix (ixT (K := K) rfl) (pv 0) pe_int (fun _ _ => rfl)) pa_nil))))))))) pss_nil)
      (pss_one (ps_ret (pv 0)))), ?_⟩
    obtain ⟨v, ys, p, rfl, hR, q⟩ := h
    cases p with
    | p0 p =>
      obtain ⟨a, rfl, hT⟩ := hR
      have hu : ∃ u, atI p.vs 0 = some u ∧ scal u (V.str "rows") = true ∧ u ≠ V.str "rows" := by
        cases p with
        | say t => exact ⟨_, rfl, rfl, say_rows⟩
        | ask nm sg lo hi => exact ⟨_, rfl, rfl, ask_rows⟩
      obtain ⟨u, hu1, hu2, hu3⟩ := hu
      refine ⟨_, rfl, a, _, _, _, rfl, rfl, hT, hu1, hu2, _, rfl, iteNe hu3 ?_⟩
      exact ⟨_, rfl, q _ _ (Keep.refl _) rfl⟩
    | rows nm ips gap lo hi =>
      obtain ⟨a, l, rfl, hT, hL, hP⟩ := hR
      refine ⟨_, rfl, a, _, _, _, rfl, rfl, hT, rfl, rfl, _, rfl, iteEq ?_⟩
      refine ⟨_, rfl, a, _, _, _, rfl, rfl, hT, rfl, _, rfl, a, _, _, _, rfl, rfl, hT, rfl, l, ys, rfl, .inl hL, fun n hn => ?_⟩
      have k1 : Keep H (upd H n (.lst ys)) := Keep.new hn
      have hT1 := k1.same.tup hT
      refine ⟨_, rfl, a, _, _, _, rfl, rfl, hT1, rfl, _, rfl, a, _, _, _, rfl, rfl, hT1, rfl, _, rfl, a, _, _, _, rfl, rfl, hT1, rfl, ?_⟩
      refine ⟨(by show 6 ≤ sizeLine; decide), fun t ht => ?_⟩
      have k2 := k1.trans (Keep.new (o := .tup [.str "rows", .str nm, .ref n, .str gap, .int lo, .int hi]) ht)
      exact q _ _ k2 ⟨t, n, rfl, k1.free ht, upd_same, hn, Keep.new ht _ _ upd_same⟩

abbrev s_Form___init__ : Stmt := inClass (top 10) 0
abbrev n_Form___init__ : List Str := ["self", "pieces", "names", "piece"]
theorem sc_Form___init__ : FnScope n_Form___init__ ["self", "pieces"] (defScope s_Form___init__) := ⟨rfl, rfl, rfl, by decide +kernel, rfl, by decide +kernel, by decide +kernel⟩

theorem fn_Form___init__ (B : Bl mg) (d_look_at_rows : Dn P w K mg base CX0 3 "look_at_rows" (sp_look_at_rows K))  (d_look_at_piece : Dn P w K mg base CX0 2 "look_at_piece" (sp_look_at_piece K))  (d_copied : Dn P w K mg base CX0 1 "copied" (sp_copied K))  {f : Addr} {fd : FuncData} (F : Fun K "__init__" "Form.__init__" s_Form___init__ f fd) : FnOk P w K mg base CX0 4 f fd ["self", "pieces"] (sp_Form___init__ K) := by
  refine F.ok sc_Form___init__ (fun vs H Q E h => ?_) (fun cdv A outer s H vs Q E hr h => ?_)
  · (obtain ⟨_, _, _, _, _, _, _, rfl, _⟩ := h; rfl)
  · have hu := hu_of hr
    have hu64 : _ := hr.units
    refine ⟨_, (pss_cons (ps_if (pt_not (pt_chain op_le op_le pe_int (pe_callB (callLen (K := K) rfl) rfl B.len PySem.boot_len (pa_cons (pv 1) pa_nil)) pe_int)) (pss_one ps_never) pss_nil)
      (pss_cons (ps_set (i := 2) sc_Form___init__.nd rfl (Or.inl rfl) (pe_lst pa_nil))
      (pss_cons (ps_for PassesOwn.never rfl (pi_list (pv 1)) (pg_name (i := 3) sc_Form___init__.nd rfl (Or.inl rfl))
      (pss_one (ps_if (pt_cmpR op_eq (pe_ix (ixT (K := K) rfl) (pv 3) pe_int (fun _ _ => rfl)) pe_str (nomark _)) (pss_one (ps_expr (cD d_look_at_rows hr (by decide) rfl (pa_cons (pv 3) (pa_cons (pv 2) pa_nil))))) (pss_one (ps_expr (cD d_look_at_piece hr (by decide) rfl (pa_cons (pv 3) (pa_cons (pv 2) pa_nil))))))))
      (pss_one (ps_fld (pv 0) (pe_lc (own := [("piece", 3)]) (g := gName 3) rfl sc_Form___init__.nd (pi_list (pv 1)) (blkOk_by (N := n_Form___init__) (sc := defScope s_Form___init__) (by decide +kernel)) (fun _ _ _ _ _ => pg_name (i := 3) sc_Form___init__.nd rfl (Or.inl rfl)) (fun _ _ _ _ _ => pts_nil) (fun _ _ _ _ _ => (cD d_copied hr (by decide) rfl (pa_cons (pv 3) pa_nil)))) rfl))))), ?_⟩
    obtain ⟨x, dx, C, h0, ys, ps, H0, rfl, nx, ndx, nex, rfl, cC, nP, hL, hP, ok, q⟩ := h
    have hxp := Paired.len hP
    have h1 := ok.l1
    have h6 := ok.l6
    have k0 : Keep H0 (upd (upd H0 dx (.own x)) x (.ins C dx [])) := fun b o e => by rw [upd_ne (ne_of_none e nx), upd_ne (ne_of_none e ndx)]; exact e
    have hX : (upd (upd H0 dx (.own x)) x (.ins C dx [])) x = some (.ins C dx []) := upd_same
    generalize upd (upd H0 dx (.own x)) x (.ins C dx []) = H at k0 hX hr
    refine ⟨_, rfl, h0, ys, rfl, .inl (k0.same.seq hL), _, _, rfl, rfl, _, rfl, iteDT (by omega) ⟨_, _, rfl, rfl, _, rfl, iteNT (decide_eq_true (by omega)) ?_⟩⟩
    refine ⟨(by show 0 ≤ sizeLine; decide), fun nl hnl => ?_⟩
    have gn : H0 nl = none := k0.free hnl
    have xnl : x ≠ nl := ne_of_none hX hnl
    have k1 : Keep H0 (upd H nl (.lst [])) := k0.trans (Keep.new hnl)
    refine ⟨_, rfl, h0, rfl, ⟨ys, k1.same.seq hL⟩, for_list (K := K) (a := h0) (xs := ys) (fun i σ H' => ∃ v, Keep H0 H' ∧ σ = [some (.ref x), some (.ref h0), some (.ref nl), v] ∧ H' x = some (.ins C dx []) ∧ H' nl = some (.lst ((nms (ps.take i)).map V.str)))
      ⟨none, k1, rfl, by rw [upd_ne xnl]; exact hX, upd_same⟩ (fun i σ H' _ ⟨_, k, _, _, _⟩ => k.same.seq hL) ?_ ?_⟩
    · rintro i y σ H' hyi ⟨v, k, rfl, hX', hN⟩
      obtain ⟨p, hp, hR⟩ := Paired.at hP hyi
      have okp := ok.ok _ (mem_at hp)
      have hlen : (nms (ps.take i)).length ≤ 100 := by
        have z1 := List.length_filterMap_le nmP (ps.take i)
        rw [List.length_take] at z1
        unfold nms; omega
      cases p with
      | p0 p =>
        obtain ⟨a, rfl, hT⟩ := hR
        have hT' := k.same.tup hT
        have hu : ∃ u, atI p.vs 0 = some u ∧ scal u (V.str "rows") = true ∧ u ≠ V.str "rows" := by
          cases p with
          | say t => exact ⟨_, rfl, rfl, say_rows⟩
          | ask nm sg lo hi => exact ⟨_, rfl, rfl, ask_rows⟩
        obtain ⟨u, hu1, hu2, hu3⟩ := hu
        refine ⟨_, rfl, a, _, _, _, rfl, rfl, hT', hu1, hu2, _, rfl, iteNe hu3 ?_⟩
        refine ⟨_, rfl, _, rfl, a, nl, p, nms (ps.take i), H0, rfl, k.same, gn, hT, hN, hlen, okp, (fun n hn => nm_new ok.nd hp hn), fun H2 z1 z2 => ?_⟩
        refine ⟨some (.ref a), fun b o e => ?_, rfl, ?_, ?_⟩
        · rw [z1 b (ne_of_none e gn)]; exact k _ _ e
        · rw [z1 x xnl]; exact hX'
        · rw [z2, nms_take ps hp]
          cases p <;> rfl
      | rows nm ips gap lo hi =>
        obtain ⟨a, l, items, rfl, hT, hLi, hPi⟩ := hR
        refine ⟨_, rfl, a, _, _, _, rfl, rfl, k.same.tup hT, rfl, rfl, _, rfl, iteEq ?_⟩
        refine ⟨_, rfl, _, rfl, a, nl, nm, ips, gap, lo, hi, nms (ps.take i), H0, rfl, k.same, gn, ⟨a, l, items, rfl, hT, hLi, hPi⟩, hN, hlen, okp, nm_new ok.nd hp rfl, fun H2 z1 z2 => ?_⟩
        refine ⟨some (.ref a), fun b o e => z1 b o (ne_of_none e gn) (k _ _ e), rfl, z1 x _ xnl hX', ?_⟩
        rw [z2, nms_take ps hp]
        rfl
    · rintro σ H' ⟨v, k, rfl, hX', hN⟩
      refine ⟨_, rfl, h0, rfl, ⟨ys, k.same.seq hL⟩, fun D hD => ?_⟩
      have xD : x ≠ D := ne_of_none hX' hD
      have kD := k.trans (Keep.new (o := .lst []) hD)
      have DH0 : H0 D = none := k.free hD
      refine lc_list (K := K) (a := h0) (xs := ys) (fun j H2 => ∃ zs, Keep H0 H2 ∧ H2 x = some (.ins C dx []) ∧ H2 D = some (.lst zs) ∧ zs.length = j ∧ (∀ (i : Nat) y z p, ys[i]? = some y → zs[i]? = some z → ps[i]? = some p → CopyE K H0 (hide H2 [D, x]) y z p))
        ⟨[], kD, by rw [upd_ne xD]; exact hX', upd_same, rfl, fun i y z p _ e _ => by simp at e⟩ (fun j H2 _ ⟨_, k2, _⟩ => k2.same.seq hL) ?_ ?_
      · rintro j y H2 hj ⟨zs, k2, hX2, hD2, hl2, hC⟩
        obtain ⟨p, hp, hR⟩ := Paired.at hP hj
        obtain ⟨items, hRi⟩ := hR.items
        refine ⟨rfl, ?_⟩
        unfold tYes
        dsimp only
        rw [if_pos rfl]
        have hj6 := at_lt hp
        refine ⟨_, rfl, y, items, p, rfl, hRi.mono k2.same, fun z H3 k3 c3 => ?_⟩
        have k23 := k2.trans k3
        refine ⟨zs, k3 _ _ hD2, small1000 (by omega), zs ++ [z], k23.mut DH0, by rw [upd_ne xD]; exact k3 _ _ hX2, upd_same, by simp [hl2], fun i y' z' p' e1 e2 e3 => ?_⟩
        rw [hide_upd (by simp)]
        by_cases hij : i < zs.length
        · rw [List.getElem?_append_left hij] at e2
          obtain ⟨its, r1, r2⟩ := hC i y' z' p' e1 e2 e3
          exact ⟨its, r1, r2.mono (hide_keep k3 _)⟩
        · have hij' : i = zs.length := by
            have := at_lt e2
            simp at this; omega
          subst hij'
          rw [List.getElem?_append_right (Nat.le_refl _)] at e2
          simp at e2
          subst e2
          rw [hl2] at e1 e3
          rw [hj] at e1; cases e1
          rw [hp] at e3; cases e3
          exact ⟨items, hRi, c3.hide k2 (fun a ha => by
            simp at ha
            rcases ha with rfl | rfl
            · rw [hD2]; simp
            · rw [hX2]; simp)⟩
      · rintro H2 ⟨zs, k2, hX2, hD2, hl2, hC⟩
        refine ⟨_, rfl, x, C, dx, [], rfl, hX2, cC, nP, (by show 0 < 1000; decide), ?_⟩
        refine q D zs _ (k2.mut nx) upd_same DH0 (by rw [upd_ne xD.symm]; exact hD2) hl2 fun i y z p e1 e2 e3 => ?_
        obtain ⟨its, r1, r2⟩ := hC i y z p e1 e2 e3
        refine ⟨its, r1, r2.mono ?_⟩
        rw [← hide_upd (H := H2) (l := [D, x]) (a := x) (o := .ins C dx (putF "pieces" (.ref D) [])) (by simp)]
        exact hide_same _ _

abbrev s_names_of : Stmt := top 12
abbrev n_names_of : List Str := ["form", "piece"]
theorem sc_names_of : FnScope n_names_of ["form"] (defScope s_names_of) := ⟨rfl, rfl, rfl, by decide +kernel, rfl, by decide +kernel, by decide +kernel⟩

theorem dn_names_of (D : Df K mg "names_of" s_names_of ["form"])  : Dn P w K mg base CX0 1 "names_of" (sp_names_of K) := by
  refine .of D fun f fd F => F.ok sc_names_of (fun vs H Q E h => ?_) (fun cdv A outer s H vs Q E hr h => ?_)
  · (obtain ⟨_, _, rfl, _⟩ := h; rfl)
  · have hu := hu_of hr
    have hu64 : _ := hr.units
    refine ⟨_, (pss_one (ps_ret (pe_lc (own := [("piece", 1)]) (g := gName 1) rfl sc_names_of.nd (pi_list (pe_fld (pv 0) rfl)) (blkOk_by (N := n_names_of) (sc := defScope s_names_of) (by decide +kernel)) (fun _ _ _ _ _ => pg_name (i := 1) sc_names_of.nd rfl (Or.inl rfl)) (fun _ _ _ _ _ => pts_one (pt_cmpR op_ne (pe_ix (ixT (K := K) rfl) (pv 1) pe_int (fun _ _ => rfl)) pe_str (nomark _))) (fun _ _ _ _ _ => (pe_ix (ixT (K := K) rfl) (pv 1) pe_int (fun _ _ => rfl)))))), ?_⟩
    obtain ⟨x, ps, rfl, hF, h6, q⟩ := h
    obtain ⟨C, dx, f, zs, cC, nP, hX, hL, hP⟩ := hF
    have hzp := Paired.len hP
    refine ⟨_, rfl, x, C, dx, _, .ref f, rfl, hX, cC, nP, (by rw [lookup_putF, if_pos rfl]), f, rfl, ⟨zs, hL⟩, fun D hD => ?_⟩
    refine lc_list (K := K) (a := f) (xs := zs) (fun j H2 => Keep H H2 ∧ H2 D = some (.lst ((nms (ps.take j)).map V.str)))
      ⟨Keep.new hD, upd_same⟩ (fun j H2 _ ⟨k2, _⟩ => k2.same.seq hL) ?_ ?_
    · rintro j y H2 hj ⟨k2, hD2⟩
      obtain ⟨p, hp, hR⟩ := Paired.at hP hj
      have hlen : ((nms (ps.take j)).map V.str).length ≤ 1000 := by
        have z1 := List.length_filterMap_le nmP (ps.take j)
        rw [List.length_take] at z1
        rw [List.length_map]
        unfold nms; omega
      have fin : ∀ nm, nmP p = some nm → upd H2 D (.lst ((nms (ps.take j)).map V.str ++ [V.str nm])) D = some (.lst ((nms (ps.take (j + 1))).map V.str)) := fun nm e => by
        rw [upd_same, nms_take ps hp, e]; simp
      cases p with
      | p0 p =>
        obtain ⟨a, rfl, hT⟩ := hR
        have hT' := k2.same.tup hT
        cases p with
        | say t =>
          refine ⟨rfl, _, rfl, a, _, _, _, rfl, rfl, hT', rfl, rfl, _, rfl, iteEqN ⟨k2, ?_⟩⟩
          rw [nms_take ps hp]
          show _ = some (HO.lst ((nms (ps.take j) ++ []).map V.str))
          rw [List.append_nil]; exact hD2
        | ask nm sg lo hi =>
          refine ⟨rfl, _, rfl, a, _, _, _, rfl, rfl, hT', rfl, rfl, _, rfl, iteNeN ask_say ?_⟩
          exact ⟨_, rfl, a, _, _, _, rfl, rfl, hT', rfl, _, hD2, small1000 hlen, k2.mut hD, fin nm rfl⟩
      | rows nm ips gap lo hi =>
        obtain ⟨a, l, items, rfl, hT, hLi, hPi⟩ := hR
        have hT' := k2.same.tup hT
        refine ⟨rfl, _, rfl, a, _, _, _, rfl, rfl, hT', rfl, rfl, _, rfl, iteNeN rows_say ?_⟩
        exact ⟨_, rfl, a, _, _, _, rfl, rfl, hT', rfl, _, hD2, small1000 hlen, k2.mut hD, fin nm rfl⟩
    · rintro H2 ⟨k2, hD2⟩
      rw [hzp, List.take_length] at hD2
      exact q D H2 k2 hD hD2

abbrev s_ask_value : Stmt := top 14
abbrev n_ask_value : List Str := ["piece", "values", "text", "sign"]
theorem sc_ask_value : FnScope n_ask_value ["piece", "values"] (defScope s_ask_value) := ⟨rfl, rfl, rfl, by decide +kernel, rfl, by decide +kernel, by decide +kernel⟩

theorem dn_ask_value (D : Df K mg "ask_value" s_ask_value ["piece", "values"]) (B : Bl mg) : Dn P w K mg base CX0 1 "ask_value" (sp_ask_value K) := by
  refine .of D fun f fd F => F.ok sc_ask_value (fun vs H Q E h => ?_) (fun cdv A outer s H vs Q E hr h => ?_)
  · (obtain ⟨_, _, _, _, _, _, _, _, rfl, _⟩ := h; rfl)
  · have hu := hu_of hr
    have hu64 : _ := hr.units
    refine ⟨_, (pss_cons (ps_if (pt_cmp (pc_dnotin hu (pe_ix (ixT (K := K) rfl) (pv 0) pe_int (fun _ _ => rfl)) (pv 1))) (pss_one ps_never) pss_nil)
      (pss_cons (ps_set (i := 2) sc_ask_value.nd rfl (Or.inl rfl) (pe_dget hu (pv 1) (pe_ix (ixT (K := K) rfl) (pv 0) pe_int (fun _ _ => rfl)) (fun _ _ => rfl)))
      (pss_cons (ps_if (pt_not (pt_chain op_le op_le (pe_ix (ixT (K := K) rfl) (pv 0) pe_int (fun _ _ => rfl)) (pe_callB call_len_str rfl B.len PySem.boot_len (pa_cons (pv 2) pa_nil)) (pe_ix (ixT (K := K) rfl) (pv 0) pe_int (fun _ _ => rfl)))) (pss_one ps_never) pss_nil)
      (pss_cons (ps_for PassesOwn.never rfl (pi_str (pv 2)) (pg_name (i := 3) sc_ask_value.nd rfl (Or.inl rfl))
      (pss_one (ps_if (pt_cmpR op_notIn_sign (pv 3) (pe_ix (ixT (K := K) rfl) (pv 0) pe_int (fun _ _ => rfl)) (by with_unfolding_all rfl)) (pss_one ps_never) pss_nil)))
      (pss_one (ps_ret (pv 2))))))), ?_⟩
    obtain ⟨a, d, nm, sg, lo, hi, kvs, s0, rfl, hT, hD, hv, ⟨f1, f2, f3⟩, h100, q⟩ := h
    refine ⟨_, rfl, a, _, _, _, rfl, rfl, hT, rfl, _, rfl, d, _, rfl, dget_s hD hv, _, rfl, iteNT rfl ?_⟩
    refine ⟨_, rfl, _, rfl, a, _, _, _, rfl, rfl, hT, rfl, d, _, rfl, dget_s hD hv, ?_⟩
    refine ⟨_, rfl, a, _, _, _, rfl, rfl, hT, rfl, _, rfl, s0, rfl, small_line (by omega), _, _, rfl, rfl, _, rfl, iteDT f1 ⟨_, rfl, a, _, _, _, rfl, rfl, hT, rfl, _, _, rfl, rfl, _, rfl, iteNT (decide_eq_true f2) ?_⟩⟩
    refine ⟨_, rfl, s0, rfl, for_text (x := s0) (fun i σ H' => ∃ v, H' = H ∧ σ = [some (.ref a), some (.ref d), some (.str s0), v]) ⟨none, rfl, rfl⟩ ?_ ?_⟩
    · rintro i c σ H' hc ⟨v, rfl, rfl⟩
      have hm : c ∈ sg.cps.toList := f3 c (by rw [← Array.getElem?_toList] at hc; exact List.mem_of_getElem? hc)
      refine ⟨_, rfl, _, rfl, a, _, _, _, rfl, rfl, hT, rfl, c, sg, rfl, rfl, _, rfl, ?_⟩
      refine iteNT (decide_eq_true hm) ?_
      exact ⟨_, rfl, rfl⟩
    · rintro σ H' ⟨v, rfl, rfl⟩
      exact ⟨_, rfl, q⟩

abbrev s_filled : Stmt := top 15
abbrev n_filled : List Str := ["pieces", "values", "text", "piece"]
theorem sc_filled : FnScope n_filled ["pieces", "values"] (defScope s_filled) := ⟨rfl, rfl, rfl, by decide +kernel, rfl, by decide +kernel, by decide +kernel⟩

theorem dn_filled0 (D : Df K mg "filled" s_filled ["pieces", "values"]) (d_ask_value : Dn P w K mg base CX0 1 "ask_value" (sp_ask_value K))  : Dn P w K mg base CX0 2 "filled" (sp_filled0 K) := by
  refine .of D fun f fd F => F.ok sc_filled (fun vs H Q E h => ?_) (fun cdv A outer s H vs Q E hr h => ?_)
  · (obtain ⟨_, _, _, _, _, _, rfl, _⟩ := h; rfl)
  · have hu := hu_of hr
    have hu64 : _ := hr.units
    refine ⟨_, (pss_cons (ps_set (i := 2) sc_filled.nd rfl (Or.inl rfl) pe_str)
      (pss_cons (ps_for PassesOwn.never rfl (pi_list (pv 0)) (pg_name (i := 3) sc_filled.nd rfl (Or.inl rfl))
      (pss_one (ps_if (pt_cmpR op_eq (pe_ix (ixT (K := K) rfl) (pv 3) pe_int (fun _ _ => rfl)) pe_str (nomark _)) (pss_one (ps_set (i := 2) sc_filled.nd rfl (Or.inl rfl) (pe_op op_add_str (pv 2) (pe_ix (ixT (K := K) rfl) (pv 3) pe_int (fun _ _ => rfl))))) (pss_one (ps_if (pt_cmpR op_eq (pe_ix (ixT (K := K) rfl) (pv 3) pe_int (fun _ _ => rfl)) pe_str (nomark _)) (pss_one (ps_set (i := 2) sc_filled.nd rfl (Or.inl rfl) (pe_op op_add_str (pv 2) (cD d_ask_value hr (by decide) rfl (pa_cons (pv 3) (pa_cons (pv 1) pa_nil)))))) (pss_one ps_never))))))
      (pss_one (ps_ret (pv 2))))), ?_⟩
    obtain ⟨l, xs, ps, d, kvs, f0, rfl, hL, hP, hD, hA, hlen, hok, hf, q⟩ := h
    have hxp := Paired.len hP
    refine ⟨_, rfl, l, rfl, ⟨xs, hL⟩, for_list (K := K) (a := l) (xs := xs) (fun i σ H' => ∃ v, H' = H ∧ σ = [some (.ref l), some (.ref d), some (.str (lineP f0 (ps.take i))), v]) ⟨none, rfl, rfl⟩ (fun i σ H' _ ⟨_, e, _⟩ => e ▸ hL) ?_ ?_⟩
    · rintro i x σ H' hxi ⟨v, rfl, rfl⟩
      obtain ⟨p, hp, hR⟩ := Paired.at hP hxi
      obtain ⟨ap, rfl, hT⟩ := hR
      have hle := lineP_len hok hf (i + 1)
      rw [lineP_snoc f0 hp, str_len_app] at hle
      have hi6 := at_lt hp
      cases p with
      | say t =>
        refine ⟨_, rfl, ap, _, _, _, rfl, rfl, hT, rfl, rfl, _, rfl, iteEq ?_⟩
        refine ⟨_, rfl, _, rfl, ap, _, _, _, rfl, rfl, hT, rfl, _, _, rfl, rfl, small_line ?_, some (.ref ap), rfl, ?_⟩
        · have : (fpiece f0 (.say t)).length = t.length := rfl
          omega
        · rw [lineP_snoc f0 hp]; rfl
      | ask nm sg lo hi2 =>
        refine ⟨_, rfl, ap, _, _, _, rfl, rfl, hT, rfl, rfl, _, rfl, iteNe ask_say ?_⟩
        refine ⟨_, rfl, ap, _, _, _, rfl, rfl, hT, rfl, rfl, _, rfl, iteEq ?_⟩
        obtain ⟨_, _, _, _, _, _, _, h4⟩ := hok _ (mem_at hp)
        refine ⟨_, rfl, _, rfl, _, rfl, ap, d, nm, sg, lo, hi2, kvs, _, rfl, hT, hD, hA _ _ _ _ (mem_at hp), hf _ _ _ _ (mem_at hp), (by omega), _, _, rfl, rfl, small_line ?_, some (.ref ap), rfl, ?_⟩
        · have : (fpiece f0 (.ask nm sg lo hi2)).length = (f0 nm).length := rfl
          omega
        · rw [lineP_snoc f0 hp]; rfl
    · rintro σ H' ⟨v, rfl, rfl⟩
      rw [hxp, List.take_length]
      exact ⟨_, rfl, q⟩

abbrev s_rows_filled : Stmt := top 16
abbrev n_rows_filled : List Str := ["piece", "values", "row"]
theorem sc_rows_filled : FnScope n_rows_filled ["piece", "values"] (defScope s_rows_filled) := ⟨rfl, rfl, rfl, by decide +kernel, rfl, by decide +kernel, by decide +kernel⟩

theorem dn_rows_filled (D : Df K mg "rows_filled" s_rows_filled ["piece", "values"]) (B : Bl mg) (d_filled : Dn P w K mg base CX0 2 "filled" (sp_filled0 K))  : Dn P w K mg base CX0 3 "rows_filled" (sp_rows_filled K) := by
  refine .of D fun f fd F => F.ok sc_rows_filled (fun vs H Q E h => ?_) (fun cdv A outer s H vs Q E hr h => ?_)
  · (obtain ⟨_, _, _, _, _, _, _, _, _, _, rfl, _⟩ := h; rfl)
  · have hu := hu_of hr
    have hu64 : _ := hr.units
    refine ⟨_, (pss_cons (ps_if (PW.pt (pw_or (pt_cmp (pc_dnotin hu (pe_ix (ixT (K := K) rfl) (pv 0) pe_int (fun _ _ => rfl)) (pv 1))) (pw_or1 (pt_not (pt_chain op_le op_le (pe_ix (ixT (K := K) rfl) (pv 0) pe_int (fun _ _ => rfl)) (pe_callB (callLen (K := K) rfl) rfl B.len PySem.boot_len (pa_cons (pe_dget hu (pv 1) (pe_ix (ixT (K := K) rfl) (pv 0) pe_int (fun _ _ => rfl)) (fun _ _ => rfl)) pa_nil)) (pe_ix (ixT (K := K) rfl) (pv 0) pe_int (fun _ _ => rfl))))))) (pss_one ps_never) pss_nil)
      (pss_one (ps_ret (pe_join (pe_ix (ixT (K := K) rfl) (pv 0) pe_int (fun _ _ => rfl)) (pe_lc (own := [("row", 2)]) (g := gName 2) rfl sc_rows_filled.nd (pi_list (pe_dget hu (pv 1) (pe_ix (ixT (K := K) rfl) (pv 0) pe_int (fun _ _ => rfl)) (fun _ _ => rfl))) (blkOk_by (N := n_rows_filled) (sc := defScope s_rows_filled) (by decide +kernel)) (fun _ _ _ _ _ => pg_name (i := 2) sc_rows_filled.nd rfl (Or.inl rfl)) (fun _ _ _ _ _ => pts_nil) (fun _ _ _ _ _ => (cD d_filled hr (by decide) rfl (pa_cons (pe_ix (ixT (K := K) rfl) (pv 0) pe_int (fun _ _ => rfl)) (pa_cons (pv 2) pa_nil))))))))), ?_⟩
    obtain ⟨a, d, nm, ips, gap, lo, hi, kvs, rv, rs, rfl, hR, hD, hv, hRv, ok, f1, f2, f3, q⟩ := h
    obtain ⟨ap, li, ys, e, hT, hLi, hPi⟩ := hR
    cases e
    obtain ⟨rl, rvs, rfl, hrl, hrp⟩ := hRv
    obtain ⟨_, i1, i3, iok, ind, g5, _, l0, lh, h3⟩ := ok
    have hrl2 := Paired.len hrp
    refine ⟨_, rfl, a, _, _, _, rfl, rfl, hT, rfl, _, rfl, d, _, rfl, dget_s hD hv, _, rfl, iteBF rfl ?_⟩
    refine ⟨_, rfl, a, _, _, _, rfl, rfl, hT, rfl, _, rfl, _, rfl, a, _, _, _, rfl, rfl, hT, rfl, d, _, rfl, dget_s hD hv, rl, rvs, rfl, .inl hrl, _, _, rfl, rfl, _, rfl, iteDT (by omega) ⟨_, rfl, a, _, _, _, rfl, rfl, hT, rfl, _, _, rfl, rfl, _, rfl, iteNT (decide_eq_true (by omega)) ?_⟩⟩
    refine ⟨_, rfl, a, _, _, _, rfl, rfl, hT, rfl, ⟨_, rfl⟩, _, rfl, _, rfl, a, _, _, _, rfl, rfl, hT, rfl, d, _, rfl, dget_s hD hv, rl, rfl, ⟨rvs, hrl⟩, fun D hDn => ?_⟩
    refine lc_list (K := K) (a := rl) (xs := rvs) (fun j H2 => Keep H H2 ∧ H2 D = some (.lst (((rs.take j).map fun r => lineP (rowf r) ips).map V.str)))
      ⟨Keep.new hDn, upd_same⟩ (fun j H2 _ ⟨k2, _⟩ => k2.same.seq hrl) ?_ ?_
    · rintro j y H2 hj ⟨k2, hD2⟩
      obtain ⟨r, hr, dr, rfl, hdr⟩ := Paired.at hrp hj
      refine ⟨rfl, ?_⟩
      unfold tYes
      dsimp only
      rw [if_pos rfl]
      obtain ⟨a1, a2⟩ := row_fits (f3 r (mem_at hr))
      have hjl := at_lt hr
      refine ⟨_, rfl, a, _, _, _, rfl, rfl, k2.same.tup hT, rfl, _, rfl, li, ys, ips, dr, _, rowf r, rfl, k2.same.seq hLi, Paired.monoP hPi fun _ _ z => z.mono k2.same, k2.same.rd (.inl hdr), a2, (by omega), iok, a1, _, hD2, small1000 ?_, k2.mut hDn, ?_⟩
      · rw [List.length_map, List.length_map, List.length_take]; omega
      · rw [upd_same, map_take_succ _ hr, List.map_append]; rfl
    · rintro H2 ⟨k2, hD2⟩
      rw [hrl2, List.take_length] at hD2
      obtain ⟨j1, j2⟩ := join_le (gap := gap) (rows_lines_le iok i3 f3) (by rw [List.length_map]; omega) g5
      exact ⟨gap, D, _, rfl, rfl, .inl (SqL.of hD2), Nat.le_trans j1 (by decide), q _ k2⟩

theorem dn_filled (D : Df K mg "filled" s_filled ["pieces", "values"]) (d_ask_value : Dn P w K mg base CX0 1 "ask_value" (sp_ask_value K))  (d_rows_filled : Dn P w K mg base CX0 3 "rows_filled" (sp_rows_filled K))  : Dn P w K mg base CX0 4 "filled" (sp_filled K) := by
  refine .of D fun f fd F => F.ok sc_filled (fun vs H Q E h => ?_) (fun cdv A outer s H vs Q E hr h => ?_)
  · (obtain ⟨_, _, _, _, _, rfl, _⟩ := h; rfl)
  · have hu := hu_of hr
    have hu64 : _ := hr.units
    refine ⟨_, (pss_cons (ps_set (i := 2) sc_filled.nd rfl (Or.inl rfl) pe_str)
      (pss_cons (ps_for PassesOwn.never rfl (pi_list (pv 0)) (pg_name (i := 3) sc_filled.nd rfl (Or.inl rfl))
      (pss_one (ps_if (pt_cmpR op_eq (pe_ix (ixT (K := K) rfl) (pv 3) pe_int (fun _ _ => rfl)) pe_str (nomark _)) (pss_one (ps_set (i := 2) sc_filled.nd rfl (Or.inl rfl) (pe_op op_add_str (pv 2) (pe_ix (ixT (K := K) rfl) (pv 3) pe_int (fun _ _ => rfl))))) (pss_one (ps_if (pt_cmpR op_eq (pe_ix (ixT (K := K) rfl) (pv 3) pe_int (fun _ _ => rfl)) pe_str (nomark _)) (pss_one (ps_set (i := 2) sc_filled.nd rfl (Or.inl rfl) (pe_op op_add_str (pv 2) (cD d_ask_value hr (by decide) rfl (pa_cons (pv 3) (pa_cons (pv 1) pa_nil)))))) (pss_one (ps_set (i := 2) sc_filled.nd rfl (Or.inl rfl) (pe_op op_add_str (pv 2) (cD d_rows_filled hr (by decide) rfl (pa_cons (pv 3) (pa_cons (pv 1) pa_nil)))))))))))
      (pss_one (ps_ret (pv 2))))), ?_⟩
    obtain ⟨l, xs, ps, v, vals, rfl, hL, hP, hV, hlen, hok, q⟩ := h
    have hxp := Paired.len hP
    obtain ⟨d, kvs, rfl, hD0, hK⟩ := id hV
    have hD : Rd H d (.dK kvs) := .inl hD0
    refine ⟨_, rfl, l, rfl, ⟨xs, hL⟩, for_list (K := K) (a := l) (xs := xs) (fun i σ H' => ∃ v1, Keep H H' ∧ σ = [some (.ref l), some (.ref d), some (.str (writtenP (fv vals) (gv vals) (ps.take i))), v1]) ⟨none, Keep.refl _, rfl⟩ (fun i σ H' _ ⟨_, k, _⟩ => k.same.seq hL) ?_ ?_⟩
    · rintro i x σ H' hxi ⟨v1, k, rfl⟩
      obtain ⟨p, hp, hR⟩ := Paired.at hP hxi
      have hle := writtenP_len hok (i + 1)
      rw [writtenP_snoc _ _ hp, str_len_app] at hle
      have hi6 := at_lt hp
      obtain ⟨hokp, hfp⟩ := hok _ (mem_at hp)
      cases p with
      | p0 p =>
        obtain ⟨ap, rfl, hT⟩ := hR
        have hT' := k.same.tup hT
        have hwl : (wpiece (fv vals) (gv vals) (.p0 p)).length = (fpiece (fv vals) p).length := rfl
        cases p with
        | say t =>
          refine ⟨_, rfl, ap, _, _, _, rfl, rfl, hT', rfl, rfl, _, rfl, iteEq ?_⟩
          refine ⟨_, rfl, _, rfl, ap, _, _, _, rfl, rfl, hT', rfl, _, _, rfl, rfl, small_line ?_, some (.ref ap), k, ?_⟩
          · have : (fpiece (fv vals) (.say t)).length = t.length := rfl
            omega
          · rw [writtenP_snoc _ _ hp]; rfl
        | ask nm sg lo hi =>
          refine ⟨_, rfl, ap, _, _, _, rfl, rfl, hT', rfl, rfl, _, rfl, iteNe ask_say ?_⟩
          refine ⟨_, rfl, ap, _, _, _, rfl, rfl, hT', rfl, rfl, _, rfl, iteEq ?_⟩
          obtain ⟨_, _, _, _, _, _, _, h4⟩ := hokp
          obtain ⟨a1, a2⟩ := look_fit hK hfp
          refine ⟨_, rfl, _, rfl, _, rfl, ap, d, nm, sg, lo, hi, kvs, _, rfl, hT', k.same.rd hD, a1 _ _ _ _ (List.mem_singleton.mpr rfl), a2 _ _ _ _ (List.mem_singleton.mpr rfl), (by omega), _, _, rfl, rfl, small_line ?_, some (.ref ap), k, ?_⟩
          · have : (fpiece (fv vals) (.ask nm sg lo hi)).length = (fv vals nm).length := rfl
            omega
          · rw [writtenP_snoc _ _ hp]; rfl
      | rows nm ips gap lo hi =>
        obtain ⟨ap, li, ys, rfl, hT, hLi, hPi⟩ := hR
        have hT' := k.same.tup hT
        obtain ⟨rs, e, f1, f2, f3⟩ := hfp
        obtain ⟨rv, ev, hRv⟩ := (val_RV hK nm).1 _ e
        refine ⟨_, rfl, ap, _, _, _, rfl, rfl, hT', rfl, rfl, _, rfl, iteNe rows_say ?_⟩
        refine ⟨_, rfl, ap, _, _, _, rfl, rfl, hT', rfl, rfl, _, rfl, iteNe rows_ask ?_⟩
        have hwl : (wpiece (fv vals) (gv vals) (.rows nm ips gap lo hi)).length = (Txt.join gap (rs.map fun r => lineP (rowf r) ips)).length := by
          show (Txt.join gap ((gv vals nm).map fun r => lineP r ips)).length = _
          rw [gv_rows e]
        refine ⟨_, rfl, _, rfl, _, rfl, ap, d, nm, ips, gap, lo, hi, kvs, rv, rs, rfl, RP.mono ⟨ap, li, ys, rfl, hT, hLi, hPi⟩ k.same, k.same.rd hD, ev, hRv.mono k.same, hokp, f1, f2, f3, fun H2 k2 => ?_⟩
        refine ⟨_, _, rfl, rfl, small_line ?_, some (.ref ap), k.trans k2, ?_⟩
        · omega
        · rw [writtenP_snoc _ _ hp]
          show _ = [some (V.ref l), some (V.ref d), some (V.str (writtenP (fv vals) (gv vals) (ps.take i) ++ Txt.join gap ((gv vals nm).map fun r => lineP r ips))), some (V.ref ap)]
          rw [gv_rows e]
          rfl
    · rintro σ H' ⟨v1, k, rfl⟩
      rw [hxp, List.take_length]
      exact ⟨_, rfl, q _ k⟩

abbrev s_fill : Stmt := top 17
abbrev n_fill : List Str := ["form", "values"]
theorem sc_fill : FnScope n_fill ["form", "values"] (defScope s_fill) := ⟨rfl, rfl, rfl, by decide +kernel, rfl, by decide +kernel, by decide +kernel⟩

theorem dn_fill (D : Df K mg "fill" s_fill ["form", "values"]) (d_filled : Dn P w K mg base CX0 4 "filled" (sp_filled K))  : Dn P w K mg base CX0 5 "fill" (sp_fill K) := by
  refine .of D fun f fd F => F.ok sc_fill (fun vs H Q E h => ?_) (fun cdv A outer s H vs Q E hr h => ?_)
  · (obtain ⟨_, _, _, _, rfl, _⟩ := h; rfl)
  · have hu := hu_of hr
    have hu64 : _ := hr.units
    refine ⟨_, (pss_one (ps_ret (cD d_filled hr (by decide) rfl (pa_cons (pe_fld (pv 0) rfl) (pa_cons (pv 1) pa_nil))))), ?_⟩
    obtain ⟨x, ps, v, vals, rfl, hF, hV, hlen, hok, q⟩ := h
    obtain ⟨C, dx, f0, zs, cC, nP, hX, hL, hP⟩ := hF
    exact ⟨_, rfl, x, C, dx, _, .ref f0, rfl, hX, cC, nP, (by rw [lookup_putF, if_pos rfl]), _, rfl, f0, zs, ps, v, vals, rfl, hL, hP, hV, hlen, hok, q⟩

abbrev s_law : Stmt := top 32
abbrev n_law : List Str := ["script", "pieces", "handed", "k", "inner", "form", "values", "ahead", "row", "due", "found", "piece"]
theorem sc_law : FnScope n_law ["script"] (defScope s_law) := ⟨rfl, rfl, rfl, by decide +kernel, rfl, by decide +kernel, by decide +kernel⟩

theorem fn_law (B : Bl mg) (d__law_pieces : Dn P w K mg base CX0 6 "_law_pieces" (sp__law_pieces K))  (m_Form : Mn P w K mg base CX0 4 "Form" C_Form_ (sp_Form___init__ K))  (d__law_values : Dn P w K mg base CX0 5 "_law_values" (sp__law_values K))  (d_fill : Dn P w K mg base CX0 5 "fill" (sp_fill K))  (d_names_of : Dn P w K mg base CX0 1 "names_of" (sp_names_of K))  (d__law_written : Dn P w K mg base CX0 2 "_law_written" (sp__law_written K)) (cF : CF K C_Form_) {f : Addr} {fd : FuncData} (F : Fun K "law" "law" s_law f fd) : FnOk P w K mg base CX0 8 f fd ["script"] (sp_law K) := by
  refine F.ok sc_law (fun vs H Q E h => ?_) (fun cdv A outer s H vs Q E hr h => ?_)
  · (obtain ⟨_, _, rfl, _⟩ := h; rfl)
  · have hu := hu_of hr
    have hu64 : _ := hr.units
    refine ⟨_, (pss_cons (ps_set (i := 1) sc_law.nd rfl (Or.inl rfl) (cD d__law_pieces hr (by decide) rfl (pa_cons (pv 0) (pa_cons pe_int (pa_cons pe_int pa_nil)))))
      (pss_cons (ps_set (i := 2) sc_law.nd rfl (Or.inl rfl) (pe_callTy (callList (K := K) rfl) rfl B.list (by decide +kernel) (pa_cons (pv 1) pa_nil)))
      (pss_cons (ps_for PassesOwn.never rfl (pi_range1 rfl B.range (pa_cons (pe_callB (callLen (K := K) rfl) rfl B.len PySem.boot_len (pa_cons (pv 2) pa_nil)) pa_nil)) (pg_name (i := 3) sc_law.nd rfl (Or.inl rfl))
      (pss_one (ps_if (pt_cmpR op_eq (pe_ix (ixT (K := K) rfl) (pe_ix (ixLs (K := K) rfl) (pv 2) (pv 3) (fun _ _ => rfl)) pe_int (fun _ _ => rfl)) pe_str (nomark _)) (pss_one (ps_asg (pe_op op_catA (pe_tup (pa_cons pe_str (pa_cons (pe_ix (ixT (K := K) rfl) (pe_ix (ixLs (K := K) rfl) (pv 2) (pv 3) (fun _ _ => rfl)) pe_int (fun _ _ => rfl)) (pa_cons (pe_callTy (callList (K := K) rfl) rfl B.list (by decide +kernel) (pa_cons (pe_ix (ixT (K := K) rfl) (pe_ix (ixLs (K := K) rfl) (pv 2) (pv 3) (fun _ _ => rfl)) pe_int (fun _ _ => rfl)) pa_nil)) pa_nil)))) (pe_slice (slT (K := K) rfl) (pe_ix (ixLs (K := K) rfl) (pv 2) (pv 3) (fun _ _ => rfl)) (po_some pe_int) po_none)) (pg_sub (pv 2) (pv 3) set_list))) pss_nil)))
      (pss_cons (ps_setLc (i := 4) (own := [("piece", 11)]) (g := gName 11) rfl sc_law.nd rfl rfl (sw_true rfl rfl rfl (by decide +kernel)) (pi_list (pv 2)) (blkOk_by (N := n_law) (sc := defScope s_law) (by decide +kernel)) (fun _ _ _ _ _ => pg_name (i := 11) sc_law.nd rfl (Or.inl rfl)) (fun _ _ _ _ _ => pts_one (pt_cmpR op_eq (pe_ix (ixT (K := K) rfl) (pv 11) pe_int (fun _ _ => rfl)) pe_str (nomark _))) (fun _ _ _ _ _ => (pe_ix (ixT (K := K) rfl) (pv 11) pe_int (fun _ _ => rfl))))
      (pss_cons (ps_set (i := 5) sc_law.nd rfl (Or.inl rfl) (cM m_Form hr (by decide) rfl (pa_cons (pv 2) pa_nil)))
      (pss_cons (ps_set (i := 6) sc_law.nd rfl (Or.inl rfl) (cD d__law_values hr (by decide) rfl (pa_cons (pv 0) (pa_cons pe_int (pa_cons (pv 1) pa_nil)))))
      (pss_cons (ps_set (i := 7) sc_law.nd rfl (Or.inl rfl) (cD d_fill hr (by decide) rfl (pa_cons (pv 5) (pa_cons (pv 6) pa_nil))))
      (pss_cons (ps_if (PW.pt (pw_or (pt_cmpR (op_neP (K := K) rfl hu64) (pv 2) (pv 1) (nomark _)) (pw_or (pt_not (pt_val (pe_callB call_isi rfl B.isinstance (by decide +kernel) (pa_cons (pe_fld (pv 5) rfl) (pa_cons (pe_bltn (v := .ty "list") rfl B.list (by decide +kernel) rfl) pa_nil))))) (pw_or1 (pt_cmpR (op_neP (K := K) rfl hu64) (pe_fld (pv 5) rfl) (pv 1) (nomark _)))))) (pss_one (ps_ret pe_bl)) pss_nil)
      (pss_cons (ps_expr (pe_bm PySem.F.plainAttrs_list PySem.F.slot_list_append PySem.F.type_list_append mt_append (pv 2) (pa_cons (pe_tup (pa_cons pe_str (pa_cons pe_str pa_nil))) pa_nil)))
      (pss_cons (ps_for PassesOwn.never rfl (pi_list (pv 4)) (pg_name (i := 8) sc_law.nd rfl (Or.inl rfl))
      (pss_one (ps_expr (pe_bm0 PySem.F.plainAttrs_list PySem.F.slot_list_clear PySem.F.type_list_clear mt_clear (pv 8)))))
      (pss_cons (ps_setLc (i := 9) (own := [("piece", 11)]) (g := gName 11) rfl sc_law.nd rfl rfl (sw_true rfl rfl rfl (by decide +kernel)) (pi_list (pv 1)) (blkOk_by (N := n_law) (sc := defScope s_law) (by decide +kernel)) (fun _ _ _ _ _ => pg_name (i := 11) sc_law.nd rfl (Or.inl rfl)) (fun _ _ _ _ _ => pts_one (pt_cmpR op_ne (pe_ix (ixT (K := K) rfl) (pv 11) pe_int (fun _ _ => rfl)) pe_str (nomark _))) (fun _ _ _ _ _ => (pe_ix (ixT (K := K) rfl) (pv 11) pe_int (fun _ _ => rfl))))
      (pss_cons (ps_set (i := 10) sc_law.nd rfl (Or.inl rfl) (cD d_names_of hr (by decide) rfl (pa_cons (pv 5) pa_nil)))
      (pss_cons (ps_if (PW.pt (pw_or (pt_not (pt_val (pe_callB call_isi rfl B.isinstance (by decide +kernel) (pa_cons (pv 10) (pa_cons (pe_bltn (v := .ty "list") rfl B.list (by decide +kernel) rfl) pa_nil))))) (pw_or (pt_cmpR (op_neP (K := K) rfl hu64) (pv 10) (pv 9) (nomark _)) (pw_or1 (pt_cmpR (op_neP (K := K) rfl hu64) (pe_fld (pv 5) rfl) (pv 1) (nomark _)))))) (pss_one (ps_ret pe_bl)) pss_nil)
      (pss_cons (ps_expr (pe_bm PySem.F.plainAttrs_list PySem.F.slot_list_append PySem.F.type_list_append mt_append (pv 10) (pa_cons pe_str pa_nil)))
      (pss_one (ps_ret (pe_and (pe_cmpR (op_eqP (K := K) rfl hu64) (cD d_names_of hr (by decide) rfl (pa_cons (pv 5) pa_nil)) (pv 9) (nomark _)) (pe_and (pe_cmpR op_eq (cD d_fill hr (by decide) rfl (pa_cons (pv 5) (pa_cons (pv 6) pa_nil))) (pv 7) (nomark _)) (pe_one (pe_cmpR op_eq (pv 7) (cD d__law_written hr (by decide) rfl (pa_cons (pv 1) (pa_cons (pv 6) pa_nil))) (nomark _))))))))))))))))))))), ?_⟩
    obtain ⟨a, ns, rfl, hS, q⟩ := h
    -- pieces
    refine ⟨_, rfl, a, ns, 6, 4, H, rfl, Same.refl _, hS, by decide, by decide, by decide, fun v G1 H1 W1 r1 => ?_⟩
    obtain ⟨l, xs, rfl, hL0, hP0⟩ := r1
    have ok : okF (piecesP ns 6 4) := pieces_ok ns (by decide) (by decide) (by decide) (by decide)
    have hfit := fun s => values_fit (ns := ns) (s := s) ok
    generalize hps : piecesP ns 6 4 = ps at hP0 ok hfit
    have hL : SqL K H1 l xs := W1.gh.seq hL0
    have hP : Paired (RP K H1) xs ps := Paired.monoP hP0 fun _ _ z => z.mono W1.gh
    have hS1 : SqL K H1 a (ns.map V.int) := W1.hh.same.seq hS
    have hxp := Paired.len hP
    have h6 := ok.l6
    clear hL0 hP0 W1
    -- handed = list(pieces)
    refine ⟨_, rfl, l, xs, rfl, .inl hL, fun hd hh => ?_⟩
    refine ⟨_, rfl, hd, xs, rfl, .inl (SqL.of upd_same), _, rfl, by omega, by omega, ?_⟩
    refine for_range (lo := 0) (n := (xs.length : Int).toNat) (fun i σ H' => ∃ v ys, Keep H1 H' ∧ σ = [some (.ref a), some (.ref l), some (.ref hd), v, none, none, none, none, none, none, none, none] ∧ H' hd = some (.lst ys) ∧ ys.length = xs.length ∧
        (∀ j, i ≤ j → ys[j]? = xs[j]?) ∧ (∀ (j : Nat) x y p, j < i → xs[j]? = some x → ys[j]? = some y → ps[j]? = some p → CopyE K H1 (hide H' [hd]) x y p))
      ⟨none, xs, Keep.new hh, rfl, upd_same, rfl, fun _ _ => rfl, fun j _ _ _ hj => absurd hj (Nat.not_lt_zero j)⟩ ?_ ?_
    · rintro i σ H' hin ⟨v, ys, k, rfl, hH, hyl, hge, hC⟩
      rw [Int.zero_add]
      have hi : i < xs.length := by omega
      obtain ⟨p, hp, hR⟩ := Paired.at hP (List.getElem?_eq_getElem hi)
      have hx : xs[i]? = some xs[i] := List.getElem?_eq_getElem hi
      have hy : ys[i]? = some xs[i] := (hge i (Nat.le_refl _)).trans hx
      obtain ⟨items, hRi⟩ := hR.items
      cases p with
      | p0 p =>
        obtain ⟨ap, e, hT⟩ := hR
        rw [e] at hy hx
        have hT' := k.same.tup hT
        have hu : ∃ u, atI p.vs 0 = some u ∧ scal u (V.str "rows") = true ∧ u ≠ V.str "rows" := by
          cases p with
          | say t => exact ⟨_, rfl, rfl, say_rows⟩
          | ask nm sg lo hi => exact ⟨_, rfl, rfl, ask_rows⟩
        obtain ⟨u, hu1, hu2, hu3⟩ := hu
        refine ⟨_, rfl, _, rfl, hd, _, _, _, rfl, rfl, SqL.of hH, atI_nat hy, ap, _, _, _, rfl, rfl, hT', hu1, hu2, _, rfl, iteNe hu3 ?_⟩
        refine ⟨some (.int i), ys, k, rfl, hH, hyl, fun j hj => hge j (by omega), fun j x y p' hj e1 e2 e3 => ?_⟩
        by_cases hij : j = i
        · subst hij
          rw [hx] at e1; rw [hy] at e2; rw [hp] at e3
          cases e1; cases e2; cases e3
          exact ⟨[], ⟨ap, rfl, hT⟩, rfl⟩
        · exact hC j x y p' (by omega) e1 e2 e3
      | rows nm ips gap lo hi2 =>
        obtain ⟨ap, li, e, hT, hLi, hPi⟩ := id hRi
        rw [e] at hy hx
        have hT' := k.same.tup hT
        refine ⟨_, rfl, _, rfl, hd, _, _, _, rfl, rfl, SqL.of hH, atI_nat hy, ap, _, _, _, rfl, rfl, hT', rfl, rfl, _, rfl, iteEq ?_⟩
        -- the new piece
        refine ⟨_, rfl, _, rfl, hd, _, _, _, rfl, rfl, SqL.of hH, atI_nat hy, ap, _, _, _, rfl, rfl, hT', rfl, _, rfl, _, rfl, hd, _, _, _, rfl, rfl, SqL.of hH, atI_nat hy, ap, _, _, _, rfl, rfl, hT', rfl, li, items, rfl, .inl (k.same.seq hLi), fun m hm => ?_⟩
        refine ⟨(by show 3 ≤ sizeLine; decide), fun t3 ht3 => ?_⟩
        have k1 : Keep H' (upd H' m (.lst items)) := Keep.new hm
        have k2 := k1.trans (Keep.new (o := .tup [V.str "rows", V.str nm, V.ref m]) ht3)
        have g3 : (upd (upd H' m (.lst items)) t3 (.tup [V.str "rows", V.str nm, V.ref m])) t3 = some (.tup [V.str "rows", V.str nm, V.ref m]) := upd_same
        have gm : (upd (upd H' m (.lst items)) t3 (.tup [V.str "rows", V.str nm, V.ref m])) m = some (.lst items) := Keep.new ht3 _ _ upd_same
        generalize upd (upd H' m (.lst items)) t3 (.tup [V.str "rows", V.str nm, V.ref m]) = H2 at k2 g3 gm
        have hH2 := k2 _ _ hH
        refine ⟨_, rfl, _, rfl, hd, _, _, _, rfl, rfl, SqL.of hH2, atI_nat hy, ⟨3, rfl, ap, _, rfl, (k.trans k2).same.tup hT, (fun z => absurd z.1 (show ¬ HT.sIx 6 0 (some 3) = 0 by decide)), fun _ t2 ht2 => ?_⟩⟩
        have k3 := k2.trans (Keep.new (o := .tup [V.str gap, V.int lo, V.int hi2]) ht2)
        have g2 : (upd H2 t2 (.tup [V.str gap, V.int lo, V.int hi2])) t2 = some (.tup [V.str gap, V.int lo, V.int hi2]) := upd_same
        have g3' : (upd H2 t2 (.tup [V.str gap, V.int lo, V.int hi2])) t3 = some (.tup [V.str "rows", V.str nm, V.ref m]) := Keep.new ht2 _ _ g3
        have gm' : (upd H2 t2 (.tup [V.str gap, V.int lo, V.int hi2])) m = some (.lst items) := Keep.new ht2 _ _ gm
        show rCatA K (.ref t3) (.ref t2) (upd H2 t2 (.tup [V.str gap, V.int lo, V.int hi2])) _
        generalize upd H2 t2 (.tup [V.str gap, V.int lo, V.int hi2]) = H3 at k3 g2 g3' gm'
        refine ⟨t3, t2, _, _, rfl, rfl, SqT.of g3', SqT.of g2, (by show 6 ≤ sizeLine; decide), (fun z => by cases z), (fun _ z => by cases z), fun _ _ t ht => ?_⟩
        have k4 := k3.trans (Keep.new (o := .tup ([V.str "rows", V.str nm, V.ref m] ++ [V.str gap, V.int lo, V.int hi2])) ht)
        have hH4 := k4 _ _ hH
        have ilt : i < ys.length := by omega
        refine ⟨_, rfl, _, rfl, hd, ys, _, i, rfl, rfl, hH4, ?_, ?_⟩
        · show (if (0 : Int) ≤ (i : Int) then if (i : Int) < (ys.length : Int) then some (i : Int).toNat else none else _) = some i
          rw [if_pos (by omega), if_pos (by omega)]; rfl
        have nhd : H1 hd = none := hh
        refine ⟨some (.int i), ys.set i (.ref t), (k.trans k4).mut nhd, rfl, upd_same, by rw [List.length_set]; exact hyl, fun j hj => ?_, fun j x y p' hj e1 e2 e3 => ?_⟩
        · rw [List.getElem?_set_ne (by omega)]; exact hge j (by omega)
        · rw [hide_upd (by simp)]
          by_cases hij : j = i
          · subst hij
            rw [List.getElem?_set_self ilt] at e2
            rw [hx] at e1; rw [hp] at e3
            cases e1; cases e2; cases e3
            have ne1 : t ∉ [hd] := by
              simp only [List.mem_singleton]
              exact (ne_of_none (k3 _ _ hH) ht).symm
            have hm' : H' hd ≠ none := by rw [hH]; simp
            have ne2 : m ∉ [hd] := by
              simp only [List.mem_singleton]
              exact (ne_of_none hH hm).symm
            refine ⟨items, ⟨ap, li, rfl, hT, hLi, hPi⟩, t, m, rfl, (k.trans k3).free ht, ?_, k.free hm, ?_⟩
            · rw [hide_out ne1]; exact upd_same
            · rw [hide_out ne2]; exact Keep.new ht _ _ gm'
          · rw [List.getElem?_set_ne (Ne.symm hij)] at e2
            obtain ⟨its, c1, c2⟩ := hC j x y p' (by omega) e1 e2 e3
            exact ⟨its, c1, c2.mono (hide_keep k4 _)⟩
    rintro σ H2 ⟨v, ys, k, rfl, hH, hyl, _, hC0⟩
    have hC : ∀ (j : Nat) x y p, xs[j]? = some x → ys[j]? = some y → ps[j]? = some p → CopyE K H1 (hide H2 [hd]) x y p := fun j x y p e1 e2 e3 => hC0 j x y p (by have := at_lt e1; omega) e1 e2 e3
    clear hC0
    have k12 : Keep H1 (hide H2 [hd]) := hide_of k.same fun b hb => by simp at hb; subst hb; exact hh
    have hPy : Paired (RP K (hide H2 [hd])) ys ps := Paired.of_at (by omega) fun j y p e1 e2 => by
      have hj : j < xs.length := by have := at_lt e1; omega
      exact (hC j _ y p (List.getElem?_eq_getElem hj) e1 e2).rp k12
    -- inner = [..]
    refine ⟨_, rfl, hd, rfl, ⟨ys, SqL.of hH⟩, fun D hD => ?_⟩
    have Dhd : hd ≠ D := ne_of_none hH hD
    refine lc_list (K := K) (a := hd) (xs := ys) (fun j H3 => ∃ ms : List Addr, Keep H2 H3 ∧ H3 D = some (.lst (ms.map V.ref)) ∧ ms.length ≤ j ∧ ∀ m ∈ ms, H1 m = none ∧ m ≠ hd ∧ ∃ items, H2 m = some (.lst items))
      ⟨[], Keep.new hD, upd_same, Nat.le_refl _, fun m hm => by cases hm⟩ (fun j H3 _ ⟨_, k3, _⟩ => SqL.of (k3 _ _ hH)) ?_ ?_
    · rintro j y H3 hj ⟨ms, k3, hD3, hml, hms⟩
      obtain ⟨p, hp, hR⟩ := Paired.at hPy hj
      have hjx : j < xs.length := by have := at_lt hj; omega
      have cE := hC j _ y p (List.getElem?_eq_getElem hjx) hj hp
      have kk : Same (hide H2 [hd]) H3 := (hide_same _ _).trans k3.same
      cases p with
      | p0 p =>
        obtain ⟨ap, rfl, hT⟩ := hR
        have hu : ∃ u, atI p.vs 0 = some u ∧ scal u (V.str "rows") = true ∧ u ≠ V.str "rows" := by
          cases p with
          | say t => exact ⟨_, rfl, rfl, say_rows⟩
          | ask nm sg lo hi => exact ⟨_, rfl, rfl, ask_rows⟩
        obtain ⟨u, hu1, hu2, hu3⟩ := hu
        refine ⟨rfl, _, rfl, ap, _, _, _, rfl, rfl, kk.tup hT, hu1, hu2, _, rfl, iteNe hu3 ?_⟩
        exact ⟨ms, k3, hD3, by omega, hms⟩
      | rows nm ips gap lo hi =>
        obtain ⟨its, c1, t, n, rfl, c2, c3, c4, c5⟩ := cE
        have hT : SqT K H3 t [.str "rows", .str nm, .ref n, .str gap, .int lo, .int hi] := SqT.of (kk _ _ c3)
        refine ⟨rfl, _, rfl, t, _, _, _, rfl, rfl, hT, rfl, rfl, _, rfl, iteEq ?_⟩
        have nhd : n ≠ hd := fun e => by rw [e, hide_in (by simp)] at c5; cases c5
        refine ⟨_, rfl, t, _, _, _, rfl, rfl, hT, rfl, _, hD3, small1000 (by rw [List.length_map]; omega), ms ++ [n], k3.mut hD, by rw [upd_same, List.map_append]; rfl, by simp; omega, fun m hm => ?_⟩
        rcases List.mem_append.mp hm with hm | hm
        · exact hms m hm
        · simp at hm; subst hm
          exact ⟨c4, nhd, its, hide_same _ _ _ _ c5⟩
    rintro H3 ⟨ms, k3, hD3, hml, hms⟩
    -- form = Form(handed)
    refine ⟨_, rfl, fun x dx nx ndx nex => ?_⟩
    have kk : Same (hide H2 [hd]) H3 := (hide_same _ _).trans k3.same
    refine ⟨x, dx, _, hd, ys, ps, H3, rfl, nx, ndx, nex, rfl, cF.1, cF.2, SqL.of (k3 _ _ hH), Paired.monoP hPy fun _ _ z => z.mono kk, ok, fun f0 zs H4 k4 hX4 nf hf4 hzl hCz => ⟨rfl, ?_⟩⟩
    -- what stays
    have hmut3 : ∀ b ∈ hd :: ms, ∃ its, H3 b = some (.lst its) := fun b hb => by
      rcases List.mem_cons.mp hb with rfl | hb
      · exact ⟨_, k3 _ _ hH⟩
      · obtain ⟨_, _, its, e⟩ := hms b hb; exact ⟨its, k3 _ _ e⟩
    have hmut1 : ∀ b ∈ hd :: ms, H1 b = none := fun b hb => by
      rcases List.mem_cons.mp hb with rfl | hb
      · exact hh
      · exact (hms b hb).1
    have new4 : ∀ b, H3 b = none → b ∉ hd :: ms := fun b e hb => by
      obtain ⟨its, e2⟩ := hmut3 b hb
      rw [e] at e2; cases e2
    have k14 : Same H1 (hide H4 (hd :: ms)) := hide_of ((k.trans k3).trans k4).same hmut1
    have k34 : ∀ (v : V) (p : P0), R0 K H3 v p → R0 K (hide H4 (hd :: ms)) v p := fun v p r => (r.hide hmut3).mono (hide_keep k4 _)
    have hG4 : Same (hide H4 (hd :: ms)) H4 := hide_same _ _
    have hmutG : ∀ b ∈ hd :: ms, hide H4 (hd :: ms) b = none := fun b hb => hide_in hb
    have hmut4 : ∀ b ∈ hd :: ms, ∃ its, H4 b = some (.lst its) := fun b hb => by obtain ⟨its, e⟩ := hmut3 b hb; exact ⟨its, k4 _ _ e⟩
    have hF : FormAt K (hide H4 (hd :: ms)) x ps := by
      refine ⟨_, dx, f0, zs, cF.1, cF.2, by rw [hide_out (new4 x nx)]; exact hX4, SqL.of (by rw [hide_out (new4 f0 nf)]; exact hf4), Paired.of_at (by omega) fun j z p e1 e2 => ?_⟩
      have hj : j < xs.length := by have := at_lt e1; omega
      have hjy : j < ys.length := by omega
      obtain ⟨its, c1, c2⟩ := hCz j _ z p (List.getElem?_eq_getElem hjy) e1 e2
      have cE := hC j _ _ p (List.getElem?_eq_getElem hj) (List.getElem?_eq_getElem hjy) e2
      cases p with
      | p0 p =>
        have e : z = ys[j] := c2
        rw [e]
        exact k34 _ _ c1
      | rows nm ips gap lo hi =>
        obtain ⟨_, _, _, _, _, c6⟩ := c1
        obtain ⟨t, n, rfl, d1, d2, d3, d4⟩ := c2
        exact ⟨t, n, its, rfl, SqT.of (by rw [hide_out (new4 t d1)]; exact d2), SqL.of (by rw [hide_out (new4 n d3)]; exact d4), Paired.monoP c6 fun _ _ z => k34 _ _ z⟩
    have DG : hide H4 (hd :: ms) D = some (.lst (ms.map V.ref)) := by
      have : D ∉ hd :: ms := fun hb => by
        rcases List.mem_cons.mp hb with e | hb
        · exact Dhd e.symm
        · obtain ⟨_, _, its, e⟩ := hms D hb
          rw [hD] at e; cases e
      rw [hide_out this]; exact k4 _ _ hD3
    have hLG : SqL K (hide H4 (hd :: ms)) l xs := k14.seq hL
    have hPG : Paired (RP K (hide H4 (hd :: ms))) xs ps := Paired.monoP hP fun _ _ z => z.mono k14
    have hSG : SqL K (hide H4 (hd :: ms)) a (ns.map V.int) := k14.seq hS1
    have hHy : H4 hd = some (.lst ys) := k4 _ _ (k3 _ _ hH)
    have hPy4 : Paired (RP K H4) ys ps := Paired.monoP hPy fun _ _ z => z.mono (kk.keep k4)
    generalize hide H4 (hd :: ms) = G4 at k14 k34 hG4 hmutG hF DG hLG hPG hSG
    clear hC hCz k34 k14 kk hPy hmut3 hmut1 new4
    -- values, ahead
    refine ⟨_, rfl, _, rfl, a, ns, 300, l, xs, ps, G4, rfl, hG4, hSG, hLG, hPG, ok, fun vv G5 H5 W5 hV => ?_⟩
    have F5 := hF.mono W5.gg
    refine ⟨_, rfl, _, rfl, x, ps, vv, _, rfl, F5.mono W5.gh, hV.mono W5.gh, h6, hfit 300, fun H6 k6 => ?_⟩
    have G6 : Same G5 H6 := W5.gh.keep k6
    have k46 : Keep H4 H6 := W5.hh.trans k6
    obtain ⟨C, dx', f1, zs1, cC, nP, hX, hLf, hPf⟩ := id F5
    have fT : ∀ H', Same G5 H' → TyX K H' (.ref f1) (.type "list") := fun H' s => by
      rcases s.seq hLf with (z | ⟨o, z⟩) | ⟨o, _, _, z1, z2, _⟩
      · exact .base (.lst z)
      · exact .base (.frz z)
      · exact .kList z1 z2
    have fF : ∀ H', Same G5 H' → Dp K H' (.ref f1) (formD ps) := fun H' s => formD_dp (s.seq hLf) (Paired.monoP hPf fun _ _ z => z.mono s)
    have fL : ∀ H', Same G5 H' → Dp K H' (.ref l) (formD ps) := fun H' s => formD_dp (s.seq (W5.gg.seq hLG)) (Paired.monoP hPG fun _ _ z => (z.mono W5.gg).mono s)
    have hnF : (!PyData.eqv (formD ps) (formD ps)) = false := by rw [formD_refl]; rfl
    -- the first test
    refine ⟨_, rfl, _, rfl, formD ps, formD ps, formD_dp (SqL.of (k46 _ _ hHy)) (Paired.monoP hPy4 fun _ _ z => z.mono k46.same), fL _ G6, formD_plain ps, formD_plain ps, formD_depth ps, _, rfl, iteBF hnF ?_⟩
    refine ⟨_, rfl, x, C, dx', _, .ref f1, rfl, G6 _ _ hX, cC, nP, (by rw [lookup_putF, if_pos rfl]), ⟨_, _, _, _, true, rfl, .ty "list", fT _ G6, kit_ty (by decide +kernel), _, rfl, iteF ?_⟩⟩
    refine ⟨_, rfl, x, C, dx', _, .ref f1, rfl, G6 _ _ hX, cC, nP, (by rw [lookup_putF, if_pos rfl]), _, rfl, formD ps, formD ps, fF _ G6, fL _ G6, formD_plain ps, formD_plain ps, formD_depth ps, _, rfl, iteBF hnF ?_⟩
    -- handed.append
    refine ⟨_, rfl, .inl ⟨rfl, _, SqL.of (k46 _ _ hHy)⟩, (by show 2 ≤ sizeLine; decide), fun p hp => ?_⟩
    have k7 := Keep.new (o := .tup [V.str "say", V.str "more"]) hp
    refine ⟨hd, ys, _, rfl, rfl, k7 _ _ (k46 _ _ hHy), small1000 (by omega), ?_⟩
    have nw5 : ∀ b ∈ hd :: ms, G5 b = none := fun b hb => by
      obtain ⟨its, e⟩ := hmut4 b hb
      exact W5.nw b _ e (hmutG b hb)
    have G7 := (G6.keep k7).mut (o := .lst (ys ++ [.ref p])) (nw5 hd (by simp))
    have ms7 : ∀ m ∈ ms, ∃ its, (upd (upd H6 p (.tup [V.str "say", V.str "more"])) hd (.lst (ys ++ [.ref p]))) m = some (.lst its) := fun m hm => by
      obtain ⟨its, e⟩ := hmut4 m (List.mem_cons_of_mem _ hm)
      have nm : m ≠ hd := (hms m hm).2.1
      exact ⟨its, by rw [upd_ne nm]; exact k7 _ _ (k46 _ _ e)⟩
    generalize upd (upd H6 p (.tup [V.str "say", V.str "more"])) hd (.lst (ys ++ [.ref p])) = H7 at G7 ms7
    have DG5 : SqL K G5 D (ms.map V.ref) := SqL.of (W5.gg _ _ DG)
    -- row.clear()
    refine ⟨_, rfl, D, rfl, ⟨_, G7.seq DG5⟩, for_list (K := K) (a := D) (xs := ms.map V.ref) (fun i σ H' => ∃ v8, Same G5 H' ∧ σ = [some (.ref a), some (.ref l), some (.ref hd), v, some (.ref D), some (.ref x), some vv, some (.str (writtenP (fv (valuesP ns 300 ps)) (gv (valuesP ns 300 ps)) ps)), v8, none, none, none] ∧ ∀ m ∈ ms, ∃ its, H' m = some (.lst its))
      ⟨none, G7, rfl, ms7⟩ (fun i σ H' _ ⟨_, s, _, _⟩ => s.seq DG5) ?_ ?_⟩
    · rintro i y σ H' hyi ⟨v8, s, rfl, hm8⟩
      rw [List.getElem?_map] at hyi
      obtain ⟨m, hm, rfl⟩ := Option.map_eq_some_iff.mp hyi
      have hmm := mem_at hm
      obtain ⟨its, e⟩ := hm8 m hmm
      refine ⟨_, rfl, .inl ⟨rfl, _, SqL.of e⟩, m, its, rfl, rfl, e, some (.ref m), s.mut (nw5 m (List.mem_cons_of_mem _ hmm)), rfl, fun m' hm' => ?_⟩
      by_cases hmm' : m' = m
      · subst hmm'; exact ⟨[], upd_same⟩
      · rw [upd_ne hmm']; exact hm8 m' hm'
    rintro σ H8 ⟨v8, G8, rfl, _⟩
    -- due
    refine ⟨_, rfl, l, rfl, ⟨xs, G8.seq (W5.gg.seq hLG)⟩, fun D2 hD2 => ?_⟩
    refine lc_list (K := K) (a := l) (xs := xs) (fun j H9 => Keep H8 H9 ∧ H9 D2 = some (.lst ((nms (ps.take j)).map V.str)))
      ⟨Keep.new hD2, upd_same⟩ (fun j H9 _ ⟨k9, _⟩ => (G8.keep k9).seq (W5.gg.seq hLG)) ?_ ?_
    · rintro j y H9 hj ⟨k9, hD9⟩
      obtain ⟨p, hp, hR⟩ := Paired.at hPG hj
      have hR9 := (hR.mono W5.gg).mono (G8.keep k9)
      have hlen : ((nms (ps.take j)).map V.str).length ≤ 1000 := by
        have z1 := List.length_filterMap_le nmP (ps.take j)
        rw [List.length_take] at z1
        rw [List.length_map]
        unfold nms; omega
      have fin : ∀ nm, nmP p = some nm → upd H9 D2 (.lst ((nms (ps.take j)).map V.str ++ [V.str nm])) D2 = some (.lst ((nms (ps.take (j + 1))).map V.str)) := fun nm e => by
        rw [upd_same, nms_take ps hp, e]; simp
      cases p with
      | p0 p =>
        obtain ⟨ap, rfl, hT⟩ := hR9
        cases p with
        | say t =>
          refine ⟨rfl, _, rfl, ap, _, _, _, rfl, rfl, hT, rfl, rfl, _, rfl, iteEqN ⟨k9, ?_⟩⟩
          rw [nms_take ps hp]
          show _ = some (HO.lst ((nms (ps.take j) ++ []).map V.str))
          rw [List.append_nil]; exact hD9
        | ask nm sg lo hi =>
          refine ⟨rfl, _, rfl, ap, _, _, _, rfl, rfl, hT, rfl, rfl, _, rfl, iteNeN ask_say ?_⟩
          exact ⟨_, rfl, ap, _, _, _, rfl, rfl, hT, rfl, _, hD9, small1000 hlen, k9.mut hD2, fin nm rfl⟩
      | rows nm ips gap lo hi =>
        obtain ⟨ap, li, items, rfl, hT, hLi, hPi⟩ := hR9
        refine ⟨rfl, _, rfl, ap, _, _, _, rfl, rfl, hT, rfl, rfl, _, rfl, iteNeN rows_say ?_⟩
        exact ⟨_, rfl, ap, _, _, _, rfl, rfl, hT, rfl, _, hD9, small1000 hlen, k9.mut hD2, fin nm rfl⟩
    rintro H9 ⟨k9, hD9⟩
    rw [hxp, List.take_length] at hD9
    have G9 := G8.keep k9
    -- found
    refine ⟨_, rfl, x, ps, rfl, F5.mono G9, h6, fun fo H10 k10 nfo hfo => ?_⟩
    have G10 := G9.keep k10
    have hD10 := k10 _ _ hD9
    have hnS : (!PyData.eqv (strsD (nms ps)) (strsD (nms ps))) = false := by rw [strsD_refl]; rfl
    refine ⟨_, rfl, ⟨_, _, _, _, true, rfl, .ty "list", .base (.lst hfo), kit_ty (by decide +kernel), _, rfl, iteF ?_⟩⟩
    refine ⟨_, rfl, _, rfl, strsD (nms ps), strsD (nms ps), strsD_dp (SqL.of hfo), strsD_dp (SqL.of hD10), strsD_plain _, strsD_plain _, strsD_depth _, _, rfl, iteBF hnS ?_⟩
    refine ⟨_, rfl, x, C, dx', _, .ref f1, rfl, G10 _ _ hX, cC, nP, (by rw [lookup_putF, if_pos rfl]), _, rfl, formD ps, formD ps, fF _ G10, fL _ G10, formD_plain ps, formD_plain ps, formD_depth ps, _, rfl, iteBF hnF ?_⟩
    -- found.append
    have nl6 : (nms ps).length ≤ 6 := by have := List.length_filterMap_le nmP ps; unfold nms; omega
    refine ⟨_, rfl, .inl ⟨rfl, _, SqL.of hfo⟩, fo, _, _, rfl, rfl, hfo, small1000 (by rw [List.length_map]; omega), ?_⟩
    have gfo : G5 fo = none := Same.free G9 nfo
    have G11 := G10.mut (o := .lst ((nms ps).map V.str ++ [V.str "none"])) gfo
    have D2fo : D2 ≠ fo := ne_of_none hD9 nfo
    have hD11 : (upd H10 fo (.lst ((nms ps).map V.str ++ [V.str "none"]))) D2 = some (.lst ((nms ps).map V.str)) := by rw [upd_ne D2fo]; exact hD10
    generalize upd H10 fo (.lst ((nms ps).map V.str ++ [V.str "none"])) = H11 at G11 hD11
    -- the answer
    refine ⟨_, rfl, x, ps, rfl, F5.mono G11, h6, fun f2 H12 k12' nf2 hf2 => ?_⟩
    have G12 := G11.keep k12'
    refine ⟨_, rfl, strsD (nms ps), strsD (nms ps), strsD_dp (SqL.of hf2), strsD_dp (SqL.of (k12' _ _ hD11)), strsD_plain _, strsD_plain _, strsD_depth _, _, rfl, iteBT (strsD_refl _) ?_⟩
    refine ⟨_, rfl, _, rfl, x, ps, vv, _, rfl, F5.mono G12, hV.mono G12, h6, hfit 300, fun H13 k13 => ?_⟩
    have G13 := G12.keep k13
    refine ⟨_, rfl, rfl, _, rfl, iteBT (decide_eq_true rfl) ?_⟩
    refine ⟨_, rfl, _, rfl, _, rfl, l, xs, ps, vv, _, rfl, G13.seq (W5.gg.seq hLG), Paired.monoP hPG fun _ _ z => (z.mono W5.gg).mono G13, hV.mono G13, h6, hfit 300, fun H14 k14 => ⟨rfl, ?_⟩⟩
    rw [decide_eq_true rfl]
    exact q _

end
end Lf
namespace Lf
open PySem L2
theorem all_mk {l : PySem.W.OpenLaw} {w : World} {K : PySem.W.Frag} {mg : Str → Option Value} {fa : Addr}
    (D__law_cell_at : Df K mg "_law_cell_at" s__law_cell_at ["script", "k"])
    (D__law_draw : Df K mg "_law_draw" s__law_draw ["script", "k"])
    (D__law_signs : Df K mg "_law_signs" s__law_signs ["cell"])
    (D__law_say : Df K mg "_law_say" s__law_say ["cell"])
    (D__law_ask : Df K mg "_law_ask" s__law_ask ["script", "k", "name", "most"])
    (D__law_inner : Df K mg "_law_inner" s__law_inner ["script", "k", "many", "most"])
    (D__law_piece : Df K mg "_law_piece" s__law_piece ["script", "k", "name", "most"])
    (D__law_pieces : Df K mg "_law_pieces" s__law_pieces ["script", "many", "most"])
    (D__law_word : Df K mg "_law_word" s__law_word ["script", "k", "piece"])
    (D__law_row : Df K mg "_law_row" s__law_row ["script", "k", "pieces"])
    (D__law_values : Df K mg "_law_values" s__law_values ["script", "start", "pieces"])
    (D__law_line : Df K mg "_law_line" s__law_line ["pieces", "values"])
    (D__law_written : Df K mg "_law_written" s__law_written ["pieces", "values"])
    (D_ask_text : Df K mg "ask_text" s_ask_text ["text", "least", "most"])
    (D_ask_count : Df K mg "ask_count" s_ask_count ["least", "most", "bound"])
    (D_look_at_piece : Df K mg "look_at_piece" s_look_at_piece ["piece", "names"])
    (D_look_at_rows : Df K mg "look_at_rows" s_look_at_rows ["piece", "names"])
    (D_copied : Df K mg "copied" s_copied ["piece"])
    (D_names_of : Df K mg "names_of" s_names_of ["form"])
    (D_ask_value : Df K mg "ask_value" s_ask_value ["piece", "values"])
    (D_filled : Df K mg "filled" s_filled ["pieces", "values"])
    (D_rows_filled : Df K mg "rows_filled" s_rows_filled ["piece", "values"])
    (D_fill : Df K mg "fill" s_fill ["form", "values"])
    (B : Bl mg)
    (g_SIGNS : G_SIGNS mg)
    (cmF0 : ∃ C, Cm K mg "Form" "Form.__init__" s_Form___init__ ["self", "pieces"] C ∧ L2.NoAttr K C "pieces")
    (FL0 : ∃ fd : FuncData, Fun K "law" "law" s_law fa fd ∧ ∀ (s : Shared) (v : Value), BindsTo s fd ⟨[v], []⟩ [("script", v)])
    : ∃ fd : FuncData, (∀ (s : Shared) (v : Value), BindsTo s fd ⟨[v], []⟩ [("script", v)]) ∧ ∀ base : Heap, K.In base → base.Ns mainGlobals mg → FnOk l.prog w K mg base CX0 8 fa fd ["script"] (sp_law K) := by
  obtain ⟨CF_, cmF, nPF⟩ := cmF0
  obtain ⟨fd, FL, bL⟩ := FL0
  refine ⟨fd, bL, fun base _ _ => ?_⟩
  have n__law_cell_at := dn__law_cell_at (P := l.prog) (w := w) (base := base) D__law_cell_at B
  have n__law_draw := dn__law_draw (P := l.prog) (w := w) (base := base) D__law_draw n__law_cell_at
  have n__law_signs := dn__law_signs (P := l.prog) (w := w) (base := base) D__law_signs 
  have n__law_say := dn__law_say (P := l.prog) (w := w) (base := base) D__law_say 
  have n__law_ask := dn__law_ask (P := l.prog) (w := w) (base := base) D__law_ask n__law_draw n__law_signs
  have n__law_inner := dn__law_inner (P := l.prog) (w := w) (base := base) D__law_inner B n__law_draw n__law_say n__law_ask
  have n__law_piece := dn__law_piece (P := l.prog) (w := w) (base := base) D__law_piece n__law_draw n__law_say n__law_ask n__law_inner
  have n__law_pieces := dn__law_pieces (P := l.prog) (w := w) (base := base) D__law_pieces B n__law_draw n__law_piece
  have n__law_word := dn__law_word (P := l.prog) (w := w) (base := base) D__law_word B n__law_draw
  have n__law_row := dn__law_row (P := l.prog) (w := w) (base := base) D__law_row B n__law_word
  have n__law_values := dn__law_values (P := l.prog) (w := w) (base := base) D__law_values B n__law_word n__law_draw n__law_row
  have n__law_line := dn__law_line (P := l.prog) (w := w) (base := base) D__law_line 
  have n__law_written := dn__law_written (P := l.prog) (w := w) (base := base) D__law_written n__law_line
  have n_ask_text := dn_ask_text (P := l.prog) (w := w) (base := base) D_ask_text B g_SIGNS
  have n_ask_count := dn_ask_count (P := l.prog) (w := w) (base := base) D_ask_count 
  have n_look_at_piece := dn_look_at_piece (P := l.prog) (w := w) (base := base) D_look_at_piece B n_ask_text n_ask_count
  have n_look_at_rows := dn_look_at_rows (P := l.prog) (w := w) (base := base) D_look_at_rows B n_look_at_piece n_ask_text n_ask_count
  have n_copied := dn_copied (P := l.prog) (w := w) (base := base) D_copied B
  have m_Form := cmF.mn (P := l.prog) (w := w) (base := base) fun f fd F => fn_Form___init__ B n_look_at_rows n_look_at_piece n_copied F
  have n_names_of := dn_names_of (P := l.prog) (w := w) (base := base) D_names_of 
  have n_ask_value := dn_ask_value (P := l.prog) (w := w) (base := base) D_ask_value B
  have n_filled0 := dn_filled0 (P := l.prog) (w := w) (base := base) D_filled n_ask_value
  have n_rows_filled := dn_rows_filled (P := l.prog) (w := w) (base := base) D_rows_filled B n_filled0
  have n_filled := dn_filled (P := l.prog) (w := w) (base := base) D_filled n_ask_value n_rows_filled
  have n_fill := dn_fill (P := l.prog) (w := w) (base := base) D_fill n_filled
  exact fn_law B n__law_pieces m_Form n__law_values n_fill n_names_of n__law_written ⟨cmF.cl, nPF⟩ FL
end Lf
open PySem PySem.W PyProof.Rows
set_option maxRecDepth 100000 in
set_option maxHeartbeats 0 in
theorem PySem.Challenge.cw_letterform_k01_forms_holds : PySem.Challenge.rw_letterform_k01_forms.Holds := by
  w_on; o_law; k_head; (case hw => w_witness2)
  k_fill
  refine L2.walk_of (l := PySem.Challenge.rw_letterform_k01_forms) (n := 63) (k := 8) (x := "script") (CX := fun _ => L2.CX0) (sp := fun w => Lf.sp_law _) rfl (by decide) rfl ⟨rfl, by decide, by decide⟩ (fun w h Y => PySem.W.kIn_of Y) ?F (fun _ _ a ns _ _ hS => ⟨a, ns, rfl, hS, fun _ => rfl⟩) (fun _ _ _ _ _ z => z)
  case F =>
    intro w mg fa h KX G hmg
    refine' Lf.all_mk ?D__law_cell_at ?D__law_draw ?D__law_signs ?D__law_say ?D__law_ask ?D__law_inner ?D__law_piece ?D__law_pieces ?D__law_word ?D__law_row ?D__law_values ?D__law_line ?D__law_written ?D_ask_text ?D_ask_count ?D_look_at_piece ?D_look_at_rows ?D_copied ?D_names_of ?D_ask_value ?D_filled ?D_rows_filled ?D_fill ?B ?g_SIGNS ?cmF0 ?FL0
    (case D__law_cell_at => (refine' Lf.df_mk KX G ?a ?l ?c ?k (fun _ _ _ _ _ _ us hl => match us, hl with | [_, _], _ => rfl); (case a => k_is); (case l => k_is); (case c => k_is); (case k => k_is)))
    (case D__law_draw => (refine' Lf.df_mk KX G ?a ?l ?c ?k (fun _ _ _ _ _ _ us hl => match us, hl with | [_, _], _ => rfl); (case a => k_is); (case l => k_is); (case c => k_is); (case k => k_is)))
    (case D__law_signs => (refine' Lf.df_mk KX G ?a ?l ?c ?k (fun _ _ _ _ _ _ us hl => match us, hl with | [_], _ => rfl); (case a => k_is); (case l => k_is); (case c => k_is); (case k => k_is)))
    (case D__law_say => (refine' Lf.df_mk KX G ?a ?l ?c ?k (fun _ _ _ _ _ _ us hl => match us, hl with | [_], _ => rfl); (case a => k_is); (case l => k_is); (case c => k_is); (case k => k_is)))
    (case D__law_ask => (refine' Lf.df_mk KX G ?a ?l ?c ?k (fun _ _ _ _ _ _ us hl => match us, hl with | [_, _, _, _], _ => rfl); (case a => k_is); (case l => k_is); (case c => k_is); (case k => k_is)))
    (case D__law_inner => (refine' Lf.df_mk KX G ?a ?l ?c ?k (fun _ _ _ _ _ _ us hl => match us, hl with | [_, _, _, _], _ => rfl); (case a => k_is); (case l => k_is); (case c => k_is); (case k => k_is)))
    (case D__law_piece => (refine' Lf.df_mk KX G ?a ?l ?c ?k (fun _ _ _ _ _ _ us hl => match us, hl with | [_, _, _, _], _ => rfl); (case a => k_is); (case l => k_is); (case c => k_is); (case k => k_is)))
    (case D__law_pieces => (refine' Lf.df_mk KX G ?a ?l ?c ?k (fun _ _ _ _ _ _ us hl => match us, hl with | [_, _, _], _ => rfl); (case a => k_is); (case l => k_is); (case c => k_is); (case k => k_is)))
    (case D__law_word => (refine' Lf.df_mk KX G ?a ?l ?c ?k (fun _ _ _ _ _ _ us hl => match us, hl with | [_, _, _], _ => rfl); (case a => k_is); (case l => k_is); (case c => k_is); (case k => k_is)))
    (case D__law_row => (refine' Lf.df_mk KX G ?a ?l ?c ?k (fun _ _ _ _ _ _ us hl => match us, hl with | [_, _, _], _ => rfl); (case a => k_is); (case l => k_is); (case c => k_is); (case k => k_is)))
    (case D__law_values => (refine' Lf.df_mk KX G ?a ?l ?c ?k (fun _ _ _ _ _ _ us hl => match us, hl with | [_, _, _], _ => rfl); (case a => k_is); (case l => k_is); (case c => k_is); (case k => k_is)))
    (case D__law_line => (refine' Lf.df_mk KX G ?a ?l ?c ?k (fun _ _ _ _ _ _ us hl => match us, hl with | [_, _], _ => rfl); (case a => k_is); (case l => k_is); (case c => k_is); (case k => k_is)))
    (case D__law_written => (refine' Lf.df_mk KX G ?a ?l ?c ?k (fun _ _ _ _ _ _ us hl => match us, hl with | [_, _], _ => rfl); (case a => k_is); (case l => k_is); (case c => k_is); (case k => k_is)))
    (case D_ask_text => (refine' Lf.df_mk KX G ?a ?l ?c ?k (fun _ _ _ _ _ _ us hl => match us, hl with | [_, _, _], _ => rfl); (case a => k_is); (case l => k_is); (case c => k_is); (case k => k_is)))
    (case D_ask_count => (refine' Lf.df_mk KX G ?a ?l ?c ?k (fun _ _ _ _ _ _ us hl => match us, hl with | [_, _, _], _ => rfl); (case a => k_is); (case l => k_is); (case c => k_is); (case k => k_is)))
    (case D_look_at_piece => (refine' Lf.df_mk KX G ?a ?l ?c ?k (fun _ _ _ _ _ _ us hl => match us, hl with | [_, _], _ => rfl); (case a => k_is); (case l => k_is); (case c => k_is); (case k => k_is)))
    (case D_look_at_rows => (refine' Lf.df_mk KX G ?a ?l ?c ?k (fun _ _ _ _ _ _ us hl => match us, hl with | [_, _], _ => rfl); (case a => k_is); (case l => k_is); (case c => k_is); (case k => k_is)))
    (case D_copied => (refine' Lf.df_mk KX G ?a ?l ?c ?k (fun _ _ _ _ _ _ us hl => match us, hl with | [_], _ => rfl); (case a => k_is); (case l => k_is); (case c => k_is); (case k => k_is)))
    (case D_names_of => (refine' Lf.df_mk KX G ?a ?l ?c ?k (fun _ _ _ _ _ _ us hl => match us, hl with | [_], _ => rfl); (case a => k_is); (case l => k_is); (case c => k_is); (case k => k_is)))
    (case D_ask_value => (refine' Lf.df_mk KX G ?a ?l ?c ?k (fun _ _ _ _ _ _ us hl => match us, hl with | [_, _], _ => rfl); (case a => k_is); (case l => k_is); (case c => k_is); (case k => k_is)))
    (case D_filled => (refine' Lf.df_mk KX G ?a ?l ?c ?k (fun _ _ _ _ _ _ us hl => match us, hl with | [_, _], _ => rfl); (case a => k_is); (case l => k_is); (case c => k_is); (case k => k_is)))
    (case D_rows_filled => (refine' Lf.df_mk KX G ?a ?l ?c ?k (fun _ _ _ _ _ _ us hl => match us, hl with | [_, _], _ => rfl); (case a => k_is); (case l => k_is); (case c => k_is); (case k => k_is)))
    (case D_fill => (refine' Lf.df_mk KX G ?a ?l ?c ?k (fun _ _ _ _ _ _ us hl => match us, hl with | [_, _], _ => rfl); (case a => k_is); (case l => k_is); (case c => k_is); (case k => k_is)))
    (case B => (refine' ⟨PySem.W.mg_none_of KX G ?z0, PySem.W.mg_none_of KX G ?z1, PySem.W.mg_none_of KX G ?z2, PySem.W.mg_none_of KX G ?z3, PySem.W.mg_none_of KX G ?z4, PySem.W.mg_none_of KX G ?z5, PySem.W.mg_none_of KX G ?z6, PySem.W.mg_none_of KX G ?z7, PySem.W.mg_none_of KX G ?z8, PySem.W.mg_none_of KX G ?z9, PySem.W.mg_none_of KX G ?z10, PySem.W.mg_none_of KX G ?z11, PySem.W.mg_none_of KX G ?z12⟩; (case z0 => k_is); (case z1 => k_is); (case z2 => k_is); (case z3 => k_is); (case z4 => k_is); (case z5 => k_is); (case z6 => k_is); (case z7 => k_is); (case z8 => k_is); (case z9 => k_is); (case z10 => k_is); (case z11 => k_is); (case z12 => k_is)))
    (case g_SIGNS => (refine' Lf.signs_mk KX G ?z ?e; (case z => k_is); (case e => exact ⟨_, rfl⟩)))
    (case cmF0 => (refine' Lf.cm_mk KX G ?aC ?a ?i ?l ?c ?k ?pg ?hd ?po ?sa ?mk ?kc (fun _ _ _ _ _ _ us hl => match us, hl with | [_, _], _ => rfl) ?q1; (case aC => k_is); (case a => k_is); (case i => k_is); (case l => k_is); (case c => k_is); (case k => k_is); (case pg => k_is); (case hd => k_is); (case po => k_is); (case sa => k_is); (case mk => k_is); (case kc => k_is); (case q1 => k_is)))
    (case FL0 => (refine' Lf.law_mk KX G hmg ?a ?l ?c ?k (fun _ _ _ _ _ _ _ _ => .of_eq rfl); (case a => k_is); (case l => k_is); (case c => k_is); (case k => k_is)))

