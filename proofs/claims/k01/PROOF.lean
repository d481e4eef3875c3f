import PyProof.Rows.All
import Wide.All
import OpenK.AllK
import Wide.FinOn
import HandS.ForMost
import HandS.ForExc
import HandS.Conv
import HandS.IsInst
import HandS.Wide
import HandS.Flow
import HandS.ExcInit
import HandS.ExcField
import HandS.ExcIs
import HandS.TryMany
import HandS.Steps
import HandS.More
import PySem.Challenge.RW_kinhearth_k01_rows_that_are_turnings
set_option Elab.async false
set_option linter.all false
set_option maxRecDepth 100000
set_option maxHeartbeats 4000000
/-! B0: words over HandS that all the laws here share -/
namespace Kin
open PySem PySem.Spec PyProof.Rows L2

/-! ### heaps: facts carried over new objects and stores -/
theorem upd_new {H : Hp} {p a : Addr} {o u : HO} (np : H p = none) (h : H a = some u) : upd H p o a = some u := by
  rw [upd_ne (ne_of_none h np)]
  exact h
theorem upd_old {H : Hp} {p a : Addr} {o u : HO} (ne : a ≠ p) (h : H a = some u) : upd H p o a = some u := by
  rw [upd_ne ne]
  exact h
theorem sameAt {H H' : Hp} (s : Same H H') {a : Addr} {o : HO} (h : H a = some o) : H' a = some o := s a o h
theorem same_new {H0 H : Hp} {p : Addr} {o : HO} (s : Same H0 H) (f : H0 p = none) : Same H0 (upd H p o) := fun b x e => by
  rw [upd_ne (ne_of_none e f)]
  exact s b x e
theorem same_seqT {K : PySem.W.Frag} {H H' : Hp} {a : Addr} {xs : List V} (e : Same H H') (h : SqT K H a xs) : SqT K H' a xs := by
  rcases h with (h | ⟨o, h⟩) | h
  · exact .inl (.inl (e _ _ h))
  · exact .inl (.inr ⟨o, e _ _ h⟩)
  · exact .inr h
/-- a list or a tuple -/
def Sq (K : PySem.W.Frag) (H : Hp) (a : Addr) (xs : List V) : Prop := SqL K H a xs ∨ SqT K H a xs
theorem same_sq {K : PySem.W.Frag} {H H' : Hp} {a : Addr} {xs : List V} (e : Same H H') (h : Sq K H a xs) : Sq K H' a xs := by
  rcases h with h | h
  · exact .inl (e.seq h)
  · exact .inr (same_seqT e h)
theorem sqL_old {K : PySem.W.Frag} {H : Hp} {p a : Addr} {o : HO} {xs : List V} (ne : a ≠ p) (h : SqL K H a xs) : SqL K (upd H p o) a xs := by
  rcases h with (h | ⟨q, h⟩) | h
  · exact .inl (.inl (upd_old ne h))
  · exact .inl (.inr ⟨q, upd_old ne h⟩)
  · exact .inr h
theorem sqT_old {K : PySem.W.Frag} {H : Hp} {p a : Addr} {o : HO} {xs : List V} (ne : a ≠ p) (h : SqT K H a xs) : SqT K (upd H p o) a xs := by
  rcases h with (h | ⟨q, h⟩) | h
  · exact .inl (.inl (upd_old ne h))
  · exact .inl (.inr ⟨q, upd_old ne h⟩)
  · exact .inr h
theorem free_ne {H : Hp} {a b : Addr} {o : HO} (h : H a = some o) (n : H b = none) : b ≠ a := fun e => by
  rw [e, h] at n
  cases n
theorem lst_sz {xs : List V} {n : Nat} (h : xs.length ≤ n) (hn : n ≤ 100000) : xs.length ≤ sizeLine := Nat.le_trans h (Nat.le_trans hn (by decide))
theorem sz_le {n : Nat} (h : n ≤ 100000) : n ≤ sizeLine := Nat.le_trans h (by decide)
theorem sz_lt {n : Nat} (h : n < 100000) : n < sizeLine := Nat.lt_of_lt_of_le h (by decide)

/-- the ways of a statement joined: what holds behind it -/
theorem seq_cut {t u : TS} {D : Ends} {σ : L2.St} {H : Hp} (R : L2.St → Hp → Prop) (h1 : ∀ N : L2.St → Hp → Prop, (∀ σ' H', R σ' H' → N σ' H') → t { D with nx := N } σ H) (h2 : ∀ σ' H', R σ' H' → u D σ' H') : tSeq t u D σ H := h1 (u D) h2

/-- an if without else whose test is false -/
theorem ifno {A : Prop} {D : Ends} {σ : L2.St} {H : Hp} (h : D.nx σ H) : if false = true then A else tNext D σ H := iteF h

/-! ### a def that can be called by its name -/
def Cal (P : Program) (w : World) (K : PySem.W.Frag) (mg : Str → Option Value) (base : Heap) (CX : CXT) (k : Nat) (x : Str) (ps : List Str) (sp : Sp) : Prop :=
  ∃ (f : Addr) (fd : FuncData), mg x = some (.ref f) ∧ PySem.W.keepIn K (.ref f) = true ∧ Binds K fd ps [] ∧ FnOk P w K mg base CX k f fd ps sp
section
variable {X : Cx} {CX : CXT} {k j : Nat} {x : Str} {ps : List Str} {sp : Sp} {E : XK} {p pos : Pos} {e : Expr} {es : List Expr} {t : TA}
theorem pe_c (c : Cal X.prog X.w X.K X.mg X.base CX k x ps sp) (hr : Room j X.A) (hj : k ≤ j) (hg : Gl X x) (hx : Passes CX X E) (ha : PA X (e :: es) t)
    (hdb : (x == ("__debug__" : Str)) = false := by decide) (he : starEach (e :: es) X.env = (false, eval e X.env) :: starEach es X.env := by rfl) (hpl : (backTo pos (starEach es X.env)).any (·.1) = false := by rfl) :
    PE X (.Call (.Name x p) (e :: es) [] pos) (tCall sp [] E t) := by
  obtain ⟨f, fd, hm, hk, hb, F⟩ := c
  exact pe_call F (hr.mono hj) hg hm hk hb .nil hx ha hdb he hpl
theorem pe_c0 (c : Cal X.prog X.w X.K X.mg X.base CX k x ps sp) (hr : Room j X.A) (hj : k ≤ j) (hg : Gl X x) (hx : Passes CX X E)
    (hdb : (x == ("__debug__" : Str)) = false := by decide) : PE X (.Call (.Name x p) [] [] pos) (tCall sp [] E tNil) := by
  obtain ⟨f, fd, hm, hk, hb, F⟩ := c
  exact pe_call0 F (hr.mono hj) hg hm hk hb .nil hx hdb
end

/-! ### rules whose reading speaks of the written part, for use within a comprehension -/
section
variable {X : Cx}
theorem ix_listK (K : PySem.W.Frag) (h : X.K = K := by rfl) : IxR X (rIxL K) := by subst h; exact ix_list
theorem ix_tupK (K : PySem.W.Frag) (h : X.K = K := by rfl) : IxR X (rIxT K) := by subst h; exact ix_tup
theorem sl_listK (K : PySem.W.Frag) (h : X.K = K := by rfl) : SlR X (rSlL K) := by subst h; exact sl_list
theorem op_in_seqK (K : PySem.W.Frag) (h : X.K = K := by rfl) : OpR X (compareOp .In) (rIn K false) := by subst h; exact op_in_seq
theorem op_notIn_seqK (K : PySem.W.Frag) (h : X.K = K := by rfl) : OpR X (compareOp .NotIn) (rIn K true) := by subst h; exact op_notIn_seq
theorem op_eqDK (K : PySem.W.Frag) (hu : X.A.units + 64 < cLine) (h : X.K = K := by rfl) : OpR X (compareOp .Eq) (rEqD K) := by subst h; exact op_eqD hu
theorem op_neDK (K : PySem.W.Frag) (hu : X.A.units + 64 < cLine) (h : X.K = K := by rfl) : OpR X (compareOp .NotEq) (rNeD K) := by subst h; exact op_neD hu
theorem call_len_seqK (K : PySem.W.Frag) (h : X.K = K := by rfl) : CallR X (.builtin "len") (fun xs H Q => ∃ p ys, xs = [.ref p] ∧ (SqL K H p ys ∨ SqT K H p ys) ∧ Q (.int ys.length) H) := by subst h; exact call_len_seq
theorem call_tuple_ofK (K : PySem.W.Frag) (h : X.K = K := by rfl) : CallR X (.type "tuple") (fun xs H Q => ∃ p ys, xs = [.ref p] ∧ ((SqL K H p ys ∧ ∀ l, H l = none → Q (.ref l) (upd H l (.tup ys))) ∨ (SqT K H p ys ∧ Q (.ref p) H))) := by subst h; exact call_tuple_of
theorem call_list_ofK (K : PySem.W.Frag) (h : X.K = K := by rfl) : CallR X (.type "list") (fun xs H Q => ∃ p ys, xs = [.ref p] ∧ (SqL K H p ys ∨ SqT K H p ys) ∧ ∀ l, H l = none → Q (.ref l) (upd H l (.lst ys))) := by subst h; exact call_list_of
theorem pe_fldK (K : PySem.W.Frag) {e : Expr} {f : Str} {ta : TE} {pos : Pos} (he : PE X e ta) (hb : attributeBase e f X.env (eval e X.env) = eval e X.env) (h : X.K = K := by rfl) : PE X (.Attribute e f pos) (tFld K ta f) := by subst h; exact pe_fld he hb
theorem pe_bmK (K : PySem.W.Frag) {o e : Expr} {es : List Expr} {to : TE} {t : TA} {name : Str} {apos cpos : Pos} {T id : String} {r : V → List V → Hp → VK → Prop} (pa : PlainAttrs T) (slot : Slot T name id) (hty : typeOf (.builtin id) = pure (.type "method_descriptor")) (hm : MtR X id r) (ho : PE X o to) (ha : PA X (e :: es) t)
    (h : X.K = K := by rfl) (hbase : attributeBase o name X.env (eval o X.env) = eval o X.env := by rfl)
    (hfew : ((backTo cpos (starEach (e :: es) X.env)).all (fun x => !x.1) && (backToKw cpos (keywordEach [] X.env)).all (fun x => x.1.isSome)
      && decide ((e :: es).length + ([] : List Keyword).length + (if ([] : List Keyword).isEmpty then 0 else 1) < 30)) = true := by rfl)
    (hline : (apos.endLine == cpos.line) = true := by rfl) (hs : starEach (e :: es) X.env = (false, eval e X.env) :: starEach es X.env := by rfl) (hplain : (backTo cpos (starEach es X.env)).any (·.1) = false := by rfl) :
    PE X (.Call (.Attribute o name apos) (e :: es) [] cpos) (tBM K T r to t) := by subst h; exact pe_bm pa slot hty hm ho ha hbase hfew hline hs hplain
end

/-! ### a def as the top has left it -/
structure Dn (K : PySem.W.Frag) (mg : Str → Option Value) (x : Str) (st : Stmt) (ps : List Str) (f : Addr) (fd : FuncData) : Prop where
  F : Fun K x x st f fd
  b : Binds K fd ps []
  g : mg x = some (.ref f)
theorem Dn.cal {P : Program} {w : World} {K : PySem.W.Frag} {mg : Str → Option Value} {base : Heap} {CX : CXT} {k : Nat} {x : Str} {st : Stmt} {ps : List Str} {sp : Sp} {f : Addr} {fd : FuncData} (D : Dn K mg x st ps f fd) (F : FnOk P w K mg base CX k f fd ps sp) :
    Cal P w K mg base CX k x ps sp := ⟨f, fd, D.g, D.F.kp, D.b, F⟩
/-- .. by what the written part says -/
def DefIn (K : PySem.W.Frag) (x : Str) (st : Stmt) : Prop := ∃ (f : Addr) (oc : Value) (od : Option Addr) (kV doc pm : Value) (an : Option Addr) (cdv ct : Value) (osl : Array (Option Value)),
  PySem.W.nsIn K mainGlobals x = some (some (.ref f)) ∧ K.lookup f = some ⟨oc, od, .func (PySem.W.fnOf x x (defArgs st) (defBody st) (defScope st) .none kV doc pm an cdv ct), osl⟩ ∧ PySem.W.codeIn K cdv x = true ∧ PySem.W.keepIn K (.ref f) = true
theorem defIn_mk {K : PySem.W.Frag} {x : Str} {st : Stmt} {f : Addr} {oc : Value} {od : Option Addr} {kV doc pm : Value} {an : Option Addr} {cdv ct : Value} {osl : Array (Option Value)} (a : PySem.W.nsIn K mainGlobals x = some (some (.ref f)))
    (l : K.lookup f = some ⟨oc, od, .func (PySem.W.fnOf x x (defArgs st) (defBody st) (defScope st) .none kV doc pm an cdv ct), osl⟩) (c : PySem.W.codeIn K cdv x = true) (k : PySem.W.keepIn K (.ref f) = true) : DefIn K x st := ⟨f, oc, od, kV, doc, pm, an, cdv, ct, osl, a, l, c, k⟩
theorem dn_of {K : PySem.W.Frag} {h : Heap} {mg : Str → Option Value} (X : K.In h) (G : h.Ns mainGlobals mg) {x : Str} {st : Stmt} {ps : List Str} (d : DefIn K x st)
    (hb : ∀ (kV doc pm : Value) (an : Option Addr) (cdv ct : Value) (us : List Value), us.length = ps.length → bindArgs (PySem.W.fnOf x x (defArgs st) (defBody st) (defScope st) .none kV doc pm an cdv ct) ⟨us, []⟩ = pure (ps.zip us)) :
    ∃ f fd, Dn K mg x st ps f fd := by
  obtain ⟨f, oc, od, kV, doc, pm, an, cdv, ct, osl, a, l, c, k⟩ := d
  have F := fun_mk (st := st) l c k
  exact ⟨f, _, F, F.binds hb, PySem.W.mg_of X G a⟩

/-! ### the built-ins that no module's name hides -/
structure Blt (mg : Str → Option Value) : Prop where
  len : mg "len" = none
  range : mg "range" = none
  ty_list : mg "list" = none
  ty_tuple : mg "tuple" = none
  ty_int : mg "int" = none
  ty_bool : mg "bool" = none
  ty_str : mg "str" = none
  ty_dict : mg "dict" = none
  ty_ValueError : mg "ValueError" = none
  sorted : mg "sorted" = none
  isinstance : mg "isinstance" = none
  abs : mg "abs" = none
  all : mg "all" = none
  any : mg "any" = none
  sum : mg "sum" = none
  min : mg "min" = none
  max : mg "max" = none
  enumerate : mg "enumerate" = none
theorem blt_of {K : PySem.W.Frag} {h : Heap} {mg : Str → Option Value} (X : K.In h) (G : h.Ns mainGlobals mg)
    (h1 : PySem.W.nsIn K mainGlobals "len" = some none) (h2 : PySem.W.nsIn K mainGlobals "range" = some none) (h3 : PySem.W.nsIn K mainGlobals "list" = some none) (h4 : PySem.W.nsIn K mainGlobals "tuple" = some none)
    (h5 : PySem.W.nsIn K mainGlobals "int" = some none) (h6 : PySem.W.nsIn K mainGlobals "bool" = some none) (h7 : PySem.W.nsIn K mainGlobals "str" = some none) (h8 : PySem.W.nsIn K mainGlobals "dict" = some none)
    (h9 : PySem.W.nsIn K mainGlobals "ValueError" = some none) (h10 : PySem.W.nsIn K mainGlobals "sorted" = some none) (h11 : PySem.W.nsIn K mainGlobals "isinstance" = some none) (h12 : PySem.W.nsIn K mainGlobals "abs" = some none)
    (h13 : PySem.W.nsIn K mainGlobals "all" = some none) (h14 : PySem.W.nsIn K mainGlobals "any" = some none) (h15 : PySem.W.nsIn K mainGlobals "sum" = some none) (h16 : PySem.W.nsIn K mainGlobals "min" = some none)
    (h17 : PySem.W.nsIn K mainGlobals "max" = some none) (h18 : PySem.W.nsIn K mainGlobals "enumerate" = some none) : Blt mg :=
  ⟨PySem.W.mg_none_of X G h1, PySem.W.mg_none_of X G h2, PySem.W.mg_none_of X G h3, PySem.W.mg_none_of X G h4, PySem.W.mg_none_of X G h5, PySem.W.mg_none_of X G h6, PySem.W.mg_none_of X G h7, PySem.W.mg_none_of X G h8, PySem.W.mg_none_of X G h9,
    PySem.W.mg_none_of X G h10, PySem.W.mg_none_of X G h11, PySem.W.mg_none_of X G h12, PySem.W.mg_none_of X G h13, PySem.W.mg_none_of X G h14, PySem.W.mg_none_of X G h15, PySem.W.mg_none_of X G h16, PySem.W.mg_none_of X G h17, PySem.W.mg_none_of X G h18⟩
end Kin

set_option Elab.async false
set_option linter.all false
set_option maxRecDepth 100000
set_option maxHeartbeats 4000000
/-! M0: turnings, as plain lists -/
namespace Kin
open PySem L2

def rgI (n : Nat) : List Int := (List.range n).map fun i : Nat => (i : Int)
theorem rgI_len (n : Nat) : (rgI n).length = n := by simp [rgI]
theorem rgI_get {n i : Nat} (h : i < n) : (rgI n)[i]? = some (i : Int) := by
  simp [rgI, h]
theorem mem_rgI {n : Nat} {x : Int} : x ∈ rgI n ↔ 0 ≤ x ∧ x < n := by
  unfold rgI
  rw [List.mem_map]
  constructor
  · rintro ⟨a, ha, rfl⟩
    have := List.mem_range.mp ha
    omega
  · rintro ⟨h0, h1⟩
    exact ⟨x.toNat, List.mem_range.mpr (by omega), by omega⟩
theorem rgI_sorted (n : Nat) : (rgI n).Pairwise (· ≤ ·) := by
  unfold rgI
  rw [List.pairwise_map]
  exact List.pairwise_lt_range.imp (fun h => by omega)
theorem rgI_nodup (n : Nat) : (rgI n).Nodup := by
  unfold rgI List.Nodup
  rw [List.pairwise_map]
  exact List.pairwise_lt_range.imp (fun h => by omega)

/-- a turning -/
structure Turn (ns : List Int) : Prop where
  nd : ns.Nodup
  lo : ∀ x ∈ ns, 0 ≤ x ∧ x < (ns.length : Int)

theorem perm_of_sub {l m : List Int} (hn : l.Nodup) (hs : ∀ x ∈ l, x ∈ m) (hl : m.length ≤ l.length) : l.Perm m := by
  induction l generalizing m with
  | nil =>
    have : m = [] := List.eq_nil_of_length_eq_zero (by simpa using hl)
    subst this
    exact List.Perm.refl _
  | cons x r ih =>
    have hx : x ∈ m := hs x List.mem_cons_self
    obtain ⟨h1, h2⟩ := List.nodup_cons.mp hn
    have hp : m.Perm (x :: m.erase x) := List.perm_cons_erase hx
    refine List.Perm.trans (List.Perm.cons x (ih (m := m.erase x) h2 (fun y hy => ?_) ?_)) hp.symm
    · have hne : y ≠ x := fun e => h1 (e ▸ hy)
      exact (List.mem_erase_of_ne hne).mpr (hs y (List.mem_cons_of_mem _ hy))
    · have := hp.length_eq
      simp only [List.length_cons] at this hl
      omega
theorem Turn.perm {ns : List Int} (t : Turn ns) : ns.Perm (rgI ns.length) :=
  perm_of_sub t.nd (fun x hx => mem_rgI.mpr (t.lo x hx)) (by rw [rgI_len]; exact Nat.le_refl _)
theorem turn_of_perm {ns : List Int} {n : Nat} (h : ns.Perm (rgI n)) : Turn ns := by
  have hl : ns.length = n := by rw [h.length_eq, rgI_len]
  refine ⟨h.symm.nodup (rgI_nodup n), fun x hx => ?_⟩
  rw [hl]
  exact mem_rgI.mp (h.mem_iff.mp hx)
theorem turn_iff {ns : List Int} : Turn ns ↔ ns.Perm (rgI ns.length) := ⟨Turn.perm, turn_of_perm⟩

def okAt (n : Nat) : List Int → List Int → Bool
  | _, [] => true
  | seen, x :: r => if x < 0 ∨ (n : Int) ≤ x ∨ x ∈ seen then false else okAt n (seen ++ [x]) r
def isTurn (ns : List Int) : Bool := okAt ns.length [] ns
theorem okAt_iff {n : Nat} : ∀ (r seen : List Int), okAt n seen r = true ↔ (∀ x ∈ r, 0 ≤ x ∧ x < (n : Int) ∧ ¬ x ∈ seen) ∧ r.Nodup
  | [], seen => by simp [okAt]
  | x :: r, seen => by
    unfold okAt
    by_cases h : x < 0 ∨ (n : Int) ≤ x ∨ x ∈ seen
    · rw [if_pos h]
      refine ⟨fun z => (nomatch z), fun z => ?_⟩
      have := z.1 x List.mem_cons_self
      rcases h with h | h | h
      · omega
      · omega
      · exact absurd h this.2.2
    · rw [if_neg h, okAt_iff r (seen ++ [x])]
      constructor
      · rintro ⟨h1, h2⟩
        refine ⟨fun y hy => ?_, List.nodup_cons.mpr ⟨fun hx => (h1 x hx).2.2 (by simp), h2⟩⟩
        rcases List.mem_cons.mp hy with rfl | hy
        · exact ⟨by omega, by omega, fun z => h (.inr (.inr z))⟩
        · have := h1 y hy
          exact ⟨this.1, this.2.1, fun z => this.2.2 (by simp [z])⟩
      · rintro ⟨h1, h2⟩
        obtain ⟨h3, h4⟩ := List.nodup_cons.mp h2
        refine ⟨fun y hy => ?_, h4⟩
        have := h1 y (List.mem_cons_of_mem _ hy)
        refine ⟨this.1, this.2.1, fun z => ?_⟩
        rcases List.mem_append.mp z with z | z
        · exact this.2.2 z
        · have e : y = x := by simpa using z
          exact h3 (e ▸ hy)
theorem isTurn_iff {ns : List Int} : isTurn ns = true ↔ Turn ns := by
  unfold isTurn
  rw [okAt_iff]
  constructor
  · rintro ⟨h1, h2⟩
    exact ⟨h2, fun x hx => ⟨(h1 x hx).1, (h1 x hx).2.1⟩⟩
  · rintro ⟨h1, h2⟩
    exact ⟨fun x hx => ⟨(h2 x hx).1, (h2 x hx).2, by simp⟩, h1⟩
/-- a sorted row is the rising one just where it is a turning -/
theorem sorted_full {ns ns' : List Int} (hp : ns'.Perm ns) (hs : ns'.Pairwise (· ≤ ·)) : decide (ns' = rgI ns.length) = isTurn ns := by
  by_cases h : Turn ns
  · rw [isTurn_iff.mpr h]
    exact decide_eq_true (PySem.W.ksm_same (hp.trans h.perm) hs (rgI_sorted _))
  · have h1 : isTurn ns = false := by
      cases e : isTurn ns with
      | false => rfl
      | true => exact absurd (isTurn_iff.mp e) h
    rw [h1]
    refine decide_eq_false fun e => h ?_
    exact turn_of_perm (e ▸ hp.symm)

/-! ### what a law draws -/
def cell (ns : List Int) (k : Nat) : Int := ns.getD k 0
def seed (c : Int) : Int :=
  if (if c < 0 then -c else c) < 10 ^ 18 then
    (((c * 48271 + 11) % 2147483647) * ((c * 48271 + 11) % 2147483647) + 40692 * ((c * 48271 + 11) % 2147483647) + c) % 2147483399
      + 2147483399 * (((((c * 48271 + 11) % 2147483647) * ((c * 48271 + 11) % 2147483647) + 40692 * ((c * 48271 + 11) % 2147483647) + c) % 2147483399 * 16807 + (c * 48271 + 11) % 2147483647) % 1000000007 + 1000000007 * ((c * 48271 + 11) % 2147483647))
  else (if c < 0 then -c else c) - 10 ^ 18
def drawn : Int → List Int → List Int
  | _, [] => []
  | s, p :: r => s % p :: drawn (s / p) r
def draws (c : Int) (ps : List Int) : List Int := drawn (seed c) ps
theorem drawn_len : ∀ (s : Int) (ps : List Int), (drawn s ps).length = ps.length
  | _, [] => rfl
  | s, p :: r => by simp [drawn, drawn_len (s / p) r]
theorem draws_len (c : Int) (ps : List Int) : (draws c ps).length = ps.length := drawn_len _ _
theorem drawn_get : ∀ (s : Int) (ps : List Int) (i : Nat) (p : Int), ps[i]? = some p → 0 < p → ∃ d, (drawn s ps)[i]? = some d ∧ 0 ≤ d ∧ d < p
  | _, [], i, p, h, _ => by simp at h
  | s, q :: r, 0, p, h, hp => by
    have e : q = p := Option.some.inj h
    subst e
    exact ⟨s % q, rfl, Int.emod_nonneg _ (by omega), Int.emod_lt_of_pos _ hp⟩
  | s, q :: r, i + 1, p, h, hp => drawn_get (s / q) r i p h hp
theorem draws_get {c : Int} {ps : List Int} {i : Nat} {p : Int} (h : ps[i]? = some p) (hp : 0 < p) : ∃ d, (draws c ps)[i]? = some d ∧ 0 ≤ d ∧ d < p := drawn_get _ _ _ _ h hp
/-- what is left of the number behind i draws -/
def rest (s : Int) : List Int → Int
  | [] => s
  | p :: r => rest (s / p) r
theorem rest_snoc : ∀ (s : Int) (ps : List Int) (p : Int), rest s (ps ++ [p]) = rest s ps / p
  | _, [], _ => rfl
  | s, q :: r, p => rest_snoc (s / q) r p
theorem drawn_snoc : ∀ (s : Int) (ps : List Int) (p : Int), drawn s (ps ++ [p]) = drawn s ps ++ [rest s ps % p]
  | _, [], _ => rfl
  | s, q :: r, p => by
    show s % q :: drawn (s / q) (r ++ [p]) = s % q :: (drawn (s / q) r ++ [rest (s / q) r % p])
    rw [drawn_snoc]

/-- the turning of a number: one of the free ones by each rest -/
def picks : Nat → List Int → Int → List Int
  | 0, _, _ => []
  | n + 1, free, code => free.getD (code % ((n : Int) + 1)).toNat 0 :: picks n (free.eraseIdx (code % ((n : Int) + 1)).toNat) (code / ((n : Int) + 1))
def turnOf (code : Int) (n : Nat) : List Int := picks n (rgI n) code
theorem perm_erase : ∀ (l : List Int) (i : Nat) (h : i < l.length), l.Perm (l[i] :: l.eraseIdx i)
  | x :: r, 0, _ => List.Perm.refl _
  | x :: r, i + 1, h => by
    have h' : i < r.length := by simpa using h
    have ih := perm_erase r i h'
    show (x :: r).Perm (r[i] :: x :: r.eraseIdx i)
    exact (List.Perm.cons x ih).trans (List.Perm.swap _ _ _)
theorem picks_perm : ∀ (n : Nat) (free : List Int) (code : Int), free.length = n → (picks n free code).Perm free
  | 0, free, code, h => by
    have : free = [] := List.eq_nil_of_length_eq_zero h
    subst this
    exact List.Perm.refl _
  | n + 1, free, code, h => by
    have h0 : 0 ≤ code % ((n : Int) + 1) := Int.emod_nonneg _ (by omega)
    have h1 : code % ((n : Int) + 1) < (n : Int) + 1 := Int.emod_lt_of_pos _ (by omega)
    have hi : (code % ((n : Int) + 1)).toNat < free.length := by omega
    have hl : (free.eraseIdx (code % ((n : Int) + 1)).toNat).length = n := by
      rw [List.length_eraseIdx_of_lt hi]
      omega
    unfold picks
    rw [List.getD_eq_getElem?_getD, List.getElem?_eq_getElem hi]
    exact (List.Perm.cons _ (picks_perm n _ _ hl)).trans (perm_erase free _ hi).symm
theorem turnOf_perm (code : Int) (n : Nat) : (turnOf code n).Perm (rgI n) := picks_perm n _ code (rgI_len n)
theorem turnOf_len (code : Int) (n : Nat) : (turnOf code n).length = n := by rw [(turnOf_perm code n).length_eq, rgI_len]
theorem turnOf_turn (code : Int) (n : Nat) : Turn (turnOf code n) := turn_of_perm (turnOf_perm code n)

/-! ### data -/
theorem eqvAll_ints : ∀ ns ms : List Int, PyData.eqvAll (ns.map PyData.int) (ms.map PyData.int) = decide (ns = ms)
  | [], [] => by simp [PyData.eqvAll]
  | [], y :: ys => by simp [PyData.eqvAll]
  | x :: xs, [] => by simp [PyData.eqvAll]
  | x :: xs, y :: ys => by
    show PyData.eqvAll (PyData.int x :: xs.map PyData.int) (PyData.int y :: ys.map PyData.int) = _
    rw [PyData.eqvAll, eqvAll_ints xs ys, PyData.eqv]
    by_cases h : x = y <;> by_cases h2 : xs = ys <;> simp [h, h2]
theorem eqv_listI (ns ms : List Int) : PyData.eqv (.list (ns.map PyData.int)) (.list (ms.map PyData.int)) = decide (ns = ms) := by
  rw [PyData.eqv, eqvAll_ints]
theorem eqv_tupI (ns ms : List Int) : PyData.eqv (.tuple (ns.map PyData.int)) (.tuple (ms.map PyData.int)) = decide (ns = ms) := by
  rw [PyData.eqv, eqvAll_ints]
end Kin

set_option Elab.async false
set_option linter.all false
set_option maxRecDepth 100000
set_option maxHeartbeats 4000000
/-! B1: lists of numbers as values and as data -/
namespace Kin
open PySem PySem.Spec PyProof.Rows L2
theorem rgV_int (n : Nat) : rgV 0 (n : Int) = (rgI n).map V.int := by
  unfold rgV rgI
  rw [List.map_map, show ((n : Int) - 0).toNat = n by omega]
  refine List.map_congr_left fun i _ => ?_
  show V.int (0 + (i : Int)) = V.int (i : Int)
  rw [Int.zero_add]
theorem rg_ok {n : Nat} (h : n ≤ 1000) : RgOk 0 (n : Int) := RgOk.of_le (by omega) (by omega) (by omega) (by omega)
theorem int_at {ns : List Int} {i : Nat} {y : V} (h : (ns.map V.int)[i]? = some y) : ∃ z, ns[i]? = some z ∧ y = V.int z := by
  rw [List.getElem?_map] at h
  cases e : ns[i]? with
  | none => rw [e] at h; cases h
  | some z => rw [e] at h; exact ⟨z, rfl, (Option.some.inj h).symm⟩
theorem at_int {ns : List Int} {i : Int} {z : Int} (h0 : 0 ≤ i) (h : ns[i.toNat]? = some z) : atI (ns.map V.int) i = some (V.int z) := by
  have e : i = ((i.toNat : Nat) : Int) := by omega
  rw [e]
  refine atI_nat ?_
  rw [List.getElem?_map, h]
  rfl
theorem at_V {xs : List V} {i : Int} {z : V} (h0 : 0 ≤ i) (h : xs[i.toNat]? = some z) : atI xs i = some z := by
  have e : i = ((i.toNat : Nat) : Int) := by omega
  rw [e]
  exact atI_nat h
theorem ixN_in {n : Nat} {i : Int} (h0 : 0 ≤ i) (h1 : i < n) : ixN n i = some i.toNat := by
  unfold ixN
  rw [if_pos h0, if_pos h1]
theorem seqIx_in {n : Nat} {i : Int} (h0 : 0 ≤ i) (h1 : i < n) : seqIndex? i n = some i.toNat := (ixN_seq (ixN_in h0 h1)).1
theorem getD_some {ns : List Int} {i : Nat} (h : i < ns.length) : ns[i]? = some (ns.getD i 0) := by
  rw [List.getD_eq_getElem?_getD, List.getElem?_eq_getElem h]
  rfl
theorem set_ints (ns : List Int) (j : Nat) (z : Int) : (ns.map V.int).set j (V.int z) = (ns.set j z).map V.int := by rw [List.map_set]
theorem erase_ints (ns : List Int) (j : Nat) : (ns.map V.int).eraseIdx j = (ns.eraseIdx j).map V.int := by
  induction ns generalizing j with
  | nil => rfl
  | cons x r ih =>
    cases j with
    | zero => rfl
    | succ j =>
      show V.int x :: (r.map V.int).eraseIdx j = V.int x :: (r.eraseIdx j).map V.int
      rw [ih]
theorem snoc_ints (ns : List Int) (z : Int) : ns.map V.int ++ [V.int z] = (ns ++ [z]).map V.int := by rw [List.map_append]; rfl

/-! ### as data -/
theorem dpAll_ints {K : PySem.W.Frag} {H : Hp} : ∀ ns : List Int, DpAll K H (ns.map V.int) (ns.map PyData.int)
  | [] => .nil
  | x :: r => .cons (.int x) (dpAll_ints r)
theorem dp_listI {K : PySem.W.Frag} {H : Hp} {a : Addr} {ns : List Int} (h : SqL K H a (ns.map V.int)) : Dp K H (.ref a) (.list (ns.map PyData.int)) := .lst h (dpAll_ints ns)
theorem dp_tupI {K : PySem.W.Frag} {H : Hp} {a : Addr} {ns : List Int} (h : SqT K H a (ns.map V.int)) : Dp K H (.ref a) (.tuple (ns.map PyData.int)) := .tup h (dpAll_ints ns)
theorem canLayAll_ints : ∀ ns : List Int, PyData.canLayAll0 (ns.map PyData.int) = true
  | [] => by simp [PyData.canLayAll0]
  | x :: r => by
    show PyData.canLayAll0 (PyData.int x :: r.map PyData.int) = true
    rw [PyData.canLayAll0, canLayAll_ints r, PyData.canLay0]
    rfl
theorem depthAll_ints : ∀ ns : List Int, PyData.depthAll (ns.map PyData.int) = 0
  | [] => by simp [PyData.depthAll]
  | x :: r => by
    show PyData.depthAll (PyData.int x :: r.map PyData.int) = 0
    rw [PyData.depthAll, depthAll_ints r, PyData.depth]
    rfl
theorem shaped_listI (ns : List Int) : SeqAt.shaped (.list (ns.map PyData.int)) = true := by
  unfold SeqAt.shaped
  rw [PyData.canLay0, canLayAll_ints, PyData.depth, depthAll_ints]
  rfl
theorem shaped_tupI (ns : List Int) : SeqAt.shaped (.tuple (ns.map PyData.int)) = true := by
  unfold SeqAt.shaped
  rw [PyData.canLay0, canLayAll_ints, PyData.depth, depthAll_ints]
  rfl
end Kin

set_option Elab.async false
set_option linter.all false
set_option maxRecDepth 100000
set_option maxHeartbeats 4000000
namespace Kin
open PySem PySem.Spec PyProof.Rows L2
def topS (i : Nat) : Stmt := PySem.Challenge.pw_kinhearth_k01_rows_that_are_turnings.main.body.getD i (.Pass ⟨0, 0, 0, 0⟩)
abbrev s_is_turn : Stmt := topS 1
abbrev s_is_turn_N : List Str := ["row", "seen", "one"]
abbrev p_is_turn : List Str := ["row"]
theorem sc_is_turn : FnScope s_is_turn_N p_is_turn (defScope s_is_turn) := ⟨rfl, rfl, rfl, by decide +kernel, rfl, by decide +kernel, by decide +kernel⟩
abbrev s_l_cell : Stmt := topS 3
abbrev s_l_cell_N : List Str := ["_law_script", "_law_k"]
abbrev p_l_cell : List Str := ["_law_script", "_law_k"]
theorem sc_l_cell : FnScope s_l_cell_N p_l_cell (defScope s_l_cell) := ⟨rfl, rfl, rfl, by decide +kernel, rfl, by decide +kernel, by decide +kernel⟩
abbrev s_l_draws : Stmt := topS 4
abbrev s_l_draws_N : List Str := ["_law_cell_here", "_law_parts", "_law_one", "_law_two", "_law_six", "_law_found", "_law_part"]
abbrev p_l_draws : List Str := ["_law_cell_here", "_law_parts"]
theorem sc_l_draws : FnScope s_l_draws_N p_l_draws (defScope s_l_draws) := ⟨rfl, rfl, rfl, by decide +kernel, rfl, by decide +kernel, by decide +kernel⟩
abbrev s_l_turn : Stmt := topS 5
abbrev s_l_turn_N : List Str := ["_law_code", "_law_size", "_law_free", "_law_found", "_law_k"]
abbrev p_l_turn : List Str := ["_law_code", "_law_size"]
theorem sc_l_turn : FnScope s_l_turn_N p_l_turn (defScope s_l_turn) := ⟨rfl, rfl, rfl, by decide +kernel, rfl, by decide +kernel, by decide +kernel⟩
abbrev s_l_spoilt : Stmt := topS 6
abbrev s_l_spoilt_N : List Str := ["_law_row", "_law_way", "_law_at", "_law_cell_here"]
abbrev p_l_spoilt : List Str := ["_law_row", "_law_way", "_law_at", "_law_cell_here"]
theorem sc_l_spoilt : FnScope s_l_spoilt_N p_l_spoilt (defScope s_l_spoilt) := ⟨rfl, rfl, rfl, by decide +kernel, rfl, by decide +kernel, by decide +kernel⟩
abbrev s_l_full : Stmt := topS 7
abbrev s_l_full_N : List Str := ["_law_row"]
abbrev p_l_full : List Str := ["_law_row"]
theorem sc_l_full : FnScope s_l_full_N p_l_full (defScope s_l_full) := ⟨rfl, rfl, rfl, by decide +kernel, rfl, by decide +kernel, by decide +kernel⟩
abbrev s_l_asked : Stmt := topS 8
abbrev s_l_asked_N : List Str := ["_law_row", "_law_as_tuple", "_law_found", "_law_kept"]
abbrev p_l_asked : List Str := ["_law_row", "_law_as_tuple"]
theorem sc_l_asked : FnScope s_l_asked_N p_l_asked (defScope s_l_asked) := ⟨rfl, rfl, rfl, by decide +kernel, rfl, by decide +kernel, by decide +kernel⟩
abbrev s_law : Stmt := topS 9
abbrev s_law_N : List Str := ["_law_script", "_law_drawn", "_law_row", "_law_size", "_law_long", "_law_at"]
abbrev p_law : List Str := ["_law_script"]
theorem sc_law : FnScope s_law_N p_law (defScope s_law) := ⟨rfl, rfl, rfl, by decide +kernel, rfl, by decide +kernel, by decide +kernel⟩
/-! facts about the heap, carried by search -/
local macro_rules | `(tactic| walk_at "hp") => `(tactic| first | assumption | exact upd_same | (refine upd_new (by assumption) ?_; walk_at "hp") | (refine upd_old (by first | assumption | (apply Ne.symm; assumption)) ?_; walk_at "hp") | (refine sameAt (by assumption) ?_; walk_at "hp"))
local macro_rules | `(tactic| walk_at "fr") => `(tactic| first | assumption | (refine Same.free ?_ (by assumption); walk_at "sm"))
local macro_rules | `(tactic| walk_at "sm") => `(tactic| first | assumption | exact Same.refl _ | (refine same_new ?_ ?_; (walk_at "sm"); (walk_at "fr")) | (refine Same.trans ?_ (by assumption); walk_at "sm") | (refine Same.trans (by assumption) ?_; walk_at "sm"))
local macro_rules | `(tactic| walk_at "sq") => `(tactic| first | assumption | (refine SqL.of ?_; walk_at "hp") | (refine SqT.of ?_; walk_at "hp") | (refine Same.seq ?_ (by assumption); walk_at "sm") | (refine same_seqT ?_ (by assumption); walk_at "sm") | (refine same_sq ?_ (by assumption); walk_at "sm") | (refine sqL_old (by first | assumption | (apply Ne.symm; assumption)) ?_; walk_at "sq") | (refine sqT_old (by first | assumption | (apply Ne.symm; assumption)) ?_; walk_at "sq"))

section
variable {P : Program} {w : World} {K : PySem.W.Frag} {mg : Str → Option Value} {base : Heap}


/-! ### _law_cell -/
def sp_cell (K : PySem.W.Frag) : Sp := fun vs H Q _ => ∃ (a : Addr) (ns : List Int) (k : Nat), vs = [.ref a, .int (k : Int)] ∧ SqL K H a (ns.map V.int) ∧ Q (.int (cell ns k)) H
theorem ok_l_cell {f : Addr} {fd : FuncData} (D : Dn K mg "_law_cell" s_l_cell p_l_cell f fd) (b : Blt mg) : Cal P w K mg base CX0 1 "_law_cell" p_l_cell (sp_cell K) := by
  refine D.cal (D.F.ok sc_l_cell (fun vs H Q E h => ?_) (fun cdv A outer s H vs Q E hr h => ?_))
  · obtain ⟨a, ns, k, rfl, _⟩ := h
    rfl
  · obtain ⟨a, ns, k, rfl, hS, q⟩ := h
    refine ⟨_, (pss_cons (ps_if (pt_cmpR op_lt (pv 1) (pe_callB call_len_seq (by rfl) b.len PySem.boot_len (pa_cons (pv 0) pa_nil)) (nomark _)) (pss_one (ps_ret (pe_ix ix_list (pv 0) (pv 1) (fun _ _ => rfl)))) pss_nil)
      (pss_one (ps_ret pe_int))), ?_⟩
    refine ⟨_, rfl, _, rfl, a, _, rfl, .inl hS, _, _, rfl, rfl, _, rfl, ite2 (fun e => ?_) (fun e => ?_)⟩
    · have e1 := of_decide_eq_true e
      rw [List.length_map] at e1
      have hk : k < ns.length := by omega
      refine ⟨_, rfl, _, rfl, a, _, _, .int (ns[k]), rfl, rfl, hS, atI_nat (by rw [List.getElem?_map, List.getElem?_eq_getElem hk]; rfl), ?_⟩
      have ec : cell ns k = ns[k] := by
        unfold cell
        rw [List.getD_eq_getElem?_getD, List.getElem?_eq_getElem hk]
        rfl
      rw [ec] at q
      exact q
    · have e1 : ¬ ((k : Int) < ((ns.map V.int).length : Int)) := fun z => e (decide_eq_true z)
      rw [List.length_map] at e1
      have ec : cell ns k = 0 := by
        unfold cell
        rw [List.getD_eq_getElem?_getD, List.getElem?_eq_none (by omega)]
        rfl
      rw [ec] at q
      exact q


/-! ### _law_draws -/
def sp_draws (K : PySem.W.Frag) : Sp := fun vs H Q _ => ∃ (c : Int) (a : Addr) (ps : List Int), vs = [.int c, .ref a] ∧ SqL K H a (ps.map V.int) ∧ ps.length ≤ 1000 ∧ (∀ p ∈ ps, 0 < p ∧ p < 2 ^ 60) ∧
  ∀ p H', H p = none → Same H H' → H' p = some (.lst ((draws c ps).map V.int)) → Q (.ref p) H'
theorem ok_l_draws {f : Addr} {fd : FuncData} (D : Dn K mg "_law_draws" s_l_draws p_l_draws f fd) (b : Blt mg) : Cal P w K mg base CX0 1 "_law_draws" p_l_draws (sp_draws K) := by
  refine D.cal (D.F.ok sc_l_draws (fun vs H Q E h => ?_) (fun cdv A outer s H vs Q E hr h => ?_))
  · obtain ⟨c, a, ps, rfl, _⟩ := h
    rfl
  · obtain ⟨c, a, ps, rfl, hS, hlen, hps, q⟩ := h
    refine ⟨_, (pss_cons (ps_if (pt_cmpR op_lt (pe_callB call_abs (by rfl) b.abs (by decide +kernel) (pa_cons (pv 0) pa_nil)) (pe_op op_pow pe_int pe_int) (nomark _)) (pss_cons (ps_set (i := 2) sc_l_draws.nd rfl (Or.inl rfl) (pe_op op_mod (pe_op op_add (pe_op op_mulW (pv 0) pe_int) pe_int) pe_int))
      (pss_cons (ps_set (i := 3) sc_l_draws.nd rfl (Or.inl rfl) (pe_op op_mod (pe_op op_add (pe_op op_add (pe_op op_mulW (pv 2) (pv 2)) (pe_op op_mulW pe_int (pv 2))) (pv 0)) pe_int))
      (pss_cons (ps_set (i := 4) sc_l_draws.nd rfl (Or.inl rfl) (pe_op op_mod (pe_op op_add (pe_op op_mulW (pv 3) pe_int) (pv 2)) pe_int))
      (pss_one (ps_set (i := 0) sc_l_draws.nd rfl (Or.inl rfl) (pe_op op_add (pv 3) (pe_op op_mulW pe_int (pe_op op_add (pv 4) (pe_op op_mulW pe_int (pv 2)))))))))) (pss_one (ps_set (i := 0) sc_l_draws.nd rfl (Or.inl rfl) (pe_op op_sub (pe_callB call_abs (by rfl) b.abs (by decide +kernel) (pa_cons (pv 0) pa_nil)) (pe_op op_pow pe_int pe_int)))))
      (pss_cons (ps_set (i := 5) sc_l_draws.nd rfl (Or.inl rfl) (pe_lst pa_nil))
      (pss_cons (ps_for PassesOwn.never rfl (pi_list (pv 1)) (pg_name (i := 6) sc_l_draws.nd rfl (Or.inl rfl)) (pss_cons (ps_expr (pe_bm PySem.F.plainAttrs_list PySem.F.slot_list_append PySem.F.type_list_append mt_append (pv 5) (pa_cons (pe_op op_mod (pv 0) (pv 6)) pa_nil)))
      (pss_one (ps_set (i := 0) sc_l_draws.nd rfl (Or.inl rfl) (pe_op op_fdivW (pv 0) (pv 6))))))
      (pss_one (ps_ret (pv 5)))))), ?_⟩
    have wide : ∀ {i j : Int}, i.natAbs < 2 ^ 200 → j.natAbs < 2 ^ 200 → CMulW i j := fun h1 h2 => wide_mul h1 h2 (by decide) (by decide) (by decide)
    have small : ∀ {i : Int}, -(2 ^ 64) < i → i < 2 ^ 64 → i.natAbs < 2 ^ 200 := fun {i} h1 h2 => Nat.lt_of_lt_of_le (show i.natAbs < 2 ^ 64 by omega) (by decide)
    -- what follows the if, from any number
    have go : ∀ (y2 y3 y4 : Option V) (cc : Int), cc = seed c → (tSeq (tAsg (tLst tNil) (gName 5)) (tSeq (tFor (iList K (tVar 1)) (gName 6) (tSeq
        (tDrop (tBM K "list" rAppend (tVar 5) (tCons (tOp (rI (fun _ j => 0 < j) fun i j => .int (i % j)) (tVar 0) (tVar 6)) tNil)))
        (tAsg (tOp (rI CDivW fun i j => .int (i / j)) (tVar 0) (tVar 6)) (gName 0)))) (tRet (tVar 5))))
        { nx := fun _ H' => Q .non H', rt := Q } [some (.int cc), some (.ref a), y2, y3, y4, none, none] H := by
      rintro y2 y3 y4 cc rfl
      refine ⟨Nat.zero_le _, fun o no => ?_⟩
      have s1 : Same H (upd H o (.lst [])) := same_new (Same.refl H) no
      refine ⟨_, rfl, a, rfl, ⟨_, s1.seq hS⟩, for_list (K := K) (a := a) (xs := ps.map V.int) (fun i σ H2 => ∃ y6 : Option V, σ = [some (.int (rest (seed c) (ps.take i))), some (.ref a), y2, y3, y4, some (.ref o), y6] ∧ Same H H2 ∧ H2 o = some (.lst ((drawn (seed c) (ps.take i)).map V.int)))
        ⟨none, rfl, s1, upd_same⟩ (fun i σ H2 _ ⟨_, _, s2, _⟩ => s2.seq hS) ?_ ?_⟩
      · rintro i y σ H2 hi ⟨y6, rfl, s2, eo⟩
        obtain ⟨z, hz, rfl⟩ : ∃ z, ps[i]? = some z ∧ y = V.int z := by
          rw [List.getElem?_map] at hi
          cases e : ps[i]? with
          | none => rw [e] at hi; cases hi
          | some z => rw [e] at hi; exact ⟨z, rfl, (Option.some.inj hi).symm⟩
        have hp := hps z (List.mem_of_getElem? hz)
        have et : ps.take (i + 1) = ps.take i ++ [z] := by rw [List.take_add_one, hz]; rfl
        refine ⟨_, rfl, .inl ⟨rfl, _, SqL.of eo⟩, _, rfl, _, rfl, _, _, rfl, rfl, hp.1, o, _, _, rfl, rfl, eo, ?_, ?_⟩
        · refine sz_lt ?_
          rw [List.length_map, drawn_len, List.length_take]
          omega
        · refine ⟨_, rfl, _, rfl, _, _, rfl, rfl, wide_div hp.1 (b := 60) (by omega) (by decide) (by decide), ?_⟩
          refine ⟨some (.int z), ?_, fun b x e => ?_, ?_⟩
          · rw [et, rest_snoc]
            rfl
          · rw [upd_ne (ne_of_none e no)]
            exact s2 b x e
          · rw [upd_same, et, drawn_snoc, List.map_append]
            rfl
      · rintro σ H2 ⟨y6, rfl, s2, eo⟩
        rw [List.length_map, List.take_length] at eo
        exact ⟨_, rfl, q o H2 no s2 eo⟩
    refine ⟨_, rfl, c, rfl, _, _, rfl, rfl, ⟨by decide, by decide, by decide⟩, _, _, rfl, rfl, _, rfl, ite2 (fun e => ?_) (fun e => ?_)⟩
    · have e1 := of_decide_eq_true e
      have hc1 : (if c < 0 then -c else c) < 10 ^ 18 := e1
      have hc : -(10 ^ 18) < c ∧ c < 10 ^ 18 := by
        split at hc1 <;> omega
      have n1 : 0 ≤ (c * 48271 + 11) % 2147483647 := Int.emod_nonneg _ (by decide)
      have m1 : (c * 48271 + 11) % 2147483647 < 2147483647 := Int.emod_lt_of_pos _ (by decide)
      have n2 : 0 ≤ (((c * 48271 + 11) % 2147483647) * ((c * 48271 + 11) % 2147483647) + 40692 * ((c * 48271 + 11) % 2147483647) + c) % 2147483399 := Int.emod_nonneg _ (by decide)
      have m2 : (((c * 48271 + 11) % 2147483647) * ((c * 48271 + 11) % 2147483647) + 40692 * ((c * 48271 + 11) % 2147483647) + c) % 2147483399 < 2147483399 := Int.emod_lt_of_pos _ (by decide)
      have n3 : 0 ≤ ((((c * 48271 + 11) % 2147483647) * ((c * 48271 + 11) % 2147483647) + 40692 * ((c * 48271 + 11) % 2147483647) + c) % 2147483399 * 16807 + (c * 48271 + 11) % 2147483647) % 1000000007 := Int.emod_nonneg _ (by decide)
      have m3 : ((((c * 48271 + 11) % 2147483647) * ((c * 48271 + 11) % 2147483647) + 40692 * ((c * 48271 + 11) % 2147483647) + c) % 2147483399 * 16807 + (c * 48271 + 11) % 2147483647) % 1000000007 < 1000000007 := Int.emod_lt_of_pos _ (by decide)
      refine ⟨_, rfl, _, _, rfl, rfl, wide (small (by omega) (by omega)) (small (by decide) (by decide)), _, _, rfl, rfl, _, _, rfl, rfl, (by show (0 : Int) < 2147483647; decide), ?_⟩
      refine ⟨_, rfl, _, rfl, _, _, rfl, rfl, wide (small (by omega) (by omega)) (small (by omega) (by omega)), _, rfl, _, _, rfl, rfl, wide (small (by decide) (by decide)) (small (by omega) (by omega)), _, _, rfl, rfl, _, rfl, _, _, rfl, rfl, _, _, rfl, rfl, (by show (0 : Int) < 2147483399; decide), ?_⟩
      refine ⟨_, rfl, _, _, rfl, rfl, wide (small (by omega) (by omega)) (small (by decide) (by decide)), _, rfl, _, _, rfl, rfl, _, _, rfl, rfl, (by show (0 : Int) < 1000000007; decide), ?_⟩
      refine ⟨_, rfl, _, rfl, _, rfl, _, _, rfl, rfl, wide (small (by decide) (by decide)) (small (by omega) (by omega)), _, _, rfl, rfl, _, _, rfl, rfl, wide (small (by decide) (by decide)) (small (by omega) (by omega)), _, _, rfl, rfl, ?_⟩
      refine go _ _ _ _ ?_
      unfold seed
      rw [if_pos hc1]
    · have e1 : ¬ (if c < 0 then -c else c) < 10 ^ 18 := fun z => e (decide_eq_true z)
      refine ⟨_, rfl, c, rfl, _, _, rfl, rfl, ⟨by decide, by decide, by decide⟩, _, _, rfl, rfl, ?_⟩
      refine go _ _ _ _ ?_
      unfold seed
      rw [if_neg e1]
      rfl


/-! ### _law_turn -/
def sp_turn : Sp := fun vs H Q _ => ∃ (c : Int) (n : Nat), vs = [.int c, .int (n : Int)] ∧ n ≤ 1000 ∧
  ∀ p H', H p = none → Same H H' → H' p = some (.tup ((turnOf c n).map V.int)) → Q (.ref p) H'
theorem ok_l_turn {f : Addr} {fd : FuncData} (D : Dn K mg "_law_turn" s_l_turn p_l_turn f fd) (b : Blt mg) : Cal P w K mg base CX0 1 "_law_turn" p_l_turn sp_turn := by
  refine D.cal (D.F.ok sc_l_turn (fun vs H Q E h => ?_) (fun cdv A outer s H vs Q E hr h => ?_))
  · obtain ⟨c, n, rfl, _⟩ := h
    rfl
  · obtain ⟨c, n, rfl, hn, q⟩ := h
    refine ⟨_, (pss_cons (ps_set (i := 2) sc_l_turn.nd rfl (Or.inl rfl) (pe_listRg rfl (by rfl) b.ty_list (prg_1 (by rfl) b.range (pv 1))))
      (pss_cons (ps_set (i := 3) sc_l_turn.nd rfl (Or.inl rfl) (pe_lst pa_nil))
      (pss_cons (ps_for PassesOwn.never rfl (pi_range1 (by rfl) b.range (pa_cons (pv 1) pa_nil)) (pg_name (i := 4) sc_l_turn.nd rfl (Or.inl rfl)) (pss_cons (ps_expr (pe_bm PySem.F.plainAttrs_list PySem.F.slot_list_append PySem.F.type_list_append mt_append (pv 3) (pa_cons (pe_bm PySem.F.plainAttrs_list PySem.F.slot_list_pop PySem.F.type_list_pop mt_popAt (pv 2) (pa_cons (pe_op op_mod (pv 0) (pe_op op_sub (pv 1) (pv 4))) pa_nil)) pa_nil)))
      (pss_one (ps_set (i := 0) sc_l_turn.nd rfl (Or.inl rfl) (pe_op op_fdivW (pv 0) (pe_op op_sub (pv 1) (pv 4)))))))
      (pss_one (ps_ret (pe_callTy call_tuple_of (by rfl) b.ty_tuple (by decide +kernel) (pa_cons (pv 3) pa_nil))))))), ?_⟩
    refine ⟨_, rfl, _, rfl, rg_ok hn, fun l nl => ?_⟩
    rw [rgV_int]
    refine ⟨Nat.zero_le _, fun o no => ?_⟩
    have nlo : l ≠ o := ne_of_none upd_same no
    have no0 : H o = none := by walk_at "fr"
    refine ⟨_, rfl, _, rfl, by omega, by omega, for_range (lo := 0) (n := n) (fun i σ H2 => ∃ (y4 : Option V) (free acc : List Int) (cc : Int), σ = [some (.int cc), some (.int (n : Int)), some (.ref l), some (.ref o), y4] ∧ Same H H2 ∧ H2 l = some (.lst (free.map V.int)) ∧ H2 o = some (.lst (acc.map V.int)) ∧
        free.length + i = n ∧ acc.length = i ∧ acc ++ picks free.length free cc = turnOf c n)
      ⟨none, rgI n, [], c, rfl, by walk_at "sm", by walk_at "hp", upd_same, by rw [rgI_len]; omega, rfl, by rw [rgI_len]; rfl⟩ ?_ ?_⟩
    · rintro i σ H2 hi ⟨y4, free, acc, cc, rfl, s2, el, eo, hf, ha, hp⟩
      obtain ⟨m, hm⟩ : ∃ m, free.length = m + 1 := ⟨n - i - 1, by omega⟩
      have ed : (n : Int) - (0 + (i : Int)) = (m : Int) + 1 := by omega
      have h0 : 0 ≤ cc % ((m : Int) + 1) := Int.emod_nonneg _ (by omega)
      have h1 : cc % ((m : Int) + 1) < (m : Int) + 1 := Int.emod_lt_of_pos _ (by omega)
      have hk : (cc % ((m : Int) + 1)).toNat < free.length := by omega
      refine ⟨_, rfl, .inl ⟨rfl, _, SqL.of eo⟩, _, rfl, .inl ⟨rfl, _, SqL.of el⟩, _, rfl, _, rfl, _, rfl, _, _, rfl, rfl, _, _, rfl, rfl, ?_, l, _, cc % ((m : Int) + 1), (cc % ((m : Int) + 1)).toNat, .int (free.getD (cc % ((m : Int) + 1)).toNat 0), rfl, ?_, el, ?_, ?_, ?_, ?_, ?_⟩
      · show (0 : Int) < (n : Int) - (0 + (i : Int))
        omega
      · show [V.int (cc % ((n : Int) - (0 + (i : Int))))] = _
        rw [ed]
      · omega
      · omega
      · rw [List.length_map]
        exact seqIx_in h0 (by omega)
      · rw [List.getElem?_map, getD_some hk]
        rfl
      · refine ⟨o, _, _, rfl, rfl, upd_old nlo.symm eo, ?_, ?_⟩
        · refine sz_lt ?_
          rw [List.length_map]
          omega
        · refine ⟨_, rfl, _, rfl, _, rfl, _, _, rfl, rfl, _, _, rfl, rfl, ?_, ?_⟩
          · show CDivW cc ((n : Int) - (0 + (i : Int)))
            exact wide_div (by omega) (b := 60) (by omega) (by decide) (by decide)
          · refine ⟨some (.int (0 + (i : Int))), free.eraseIdx (cc % ((m : Int) + 1)).toNat, acc ++ [free.getD (cc % ((m : Int) + 1)).toNat 0], cc / ((m : Int) + 1), ?_, ?_, ?_, ?_, ?_, ?_, ?_⟩
            · rw [← ed]
              rfl
            · refine same_new (same_new s2 nl) no0
            · rw [upd_ne nlo, upd_same, erase_ints]
            · rw [upd_same, snoc_ints]
            · rw [List.length_eraseIdx_of_lt hk]
              omega
            · rw [List.length_append, ha]
              rfl
            · rw [List.length_eraseIdx_of_lt hk, ← hp, hm, List.append_assoc]
              rfl
    · rintro σ H2 ⟨y4, free, acc, cc, rfl, s2, el, eo, hf, ha, hp⟩
      have e0 : free.length = 0 := by omega
      have ep : acc = turnOf c n := by
        rw [← hp, e0]
        show acc = acc ++ []
        rw [List.append_nil]
      subst ep
      refine ⟨_, rfl, o, _, rfl, .inl ⟨SqL.of eo, fun t nt => ?_⟩⟩
      exact q t _ (s2.free nt) (same_new s2 (s2.free nt)) upd_same


/-! ### is_turn -/
def sp_is_turn (K : PySem.W.Frag) : Sp := fun vs H Q _ => ∃ (a : Addr) (ns : List Int), vs = [.ref a] ∧ Sq K H a (ns.map V.int) ∧ ns.length ≤ 1000 ∧ ∀ H', Same H H' → Q (.bl (isTurn ns)) H'
theorem seen_some {kvs : List (Key × V)} {l : List Int} {x : Int} (h : kvs.map (·.1) = l.map Sum.inl) : (valV kvs (Sum.inl x)).isSome = decide (x ∈ l) := by
  rw [← valV_any]
  have e : (kvs.any fun kv => decide (kv.1 = (Sum.inl x : Key))) = ((kvs.map (·.1)).any fun k => decide (k = (Sum.inl x : Key))) := by rw [List.any_map]; rfl
  rw [e, h, List.any_map]
  by_cases hx : x ∈ l
  · rw [decide_eq_true hx]
    exact List.any_eq_true.mpr ⟨x, hx, by simp⟩
  · rw [decide_eq_false hx]
    refine Bool.eq_false_iff.mpr fun z => hx ?_
    obtain ⟨y, hy, e⟩ := List.any_eq_true.mp z
    have e2 : (Sum.inl y : Key) = Sum.inl x := of_decide_eq_true e
    have e3 : y = x := Sum.inl.inj e2
    exact e3 ▸ hy
theorem ok_is_turn {f : Addr} {fd : FuncData} (D : Dn K mg "is_turn" s_is_turn p_is_turn f fd) (b : Blt mg) : Cal P w K mg base CX0 1 "is_turn" p_is_turn (sp_is_turn K) := by
  refine D.cal (D.F.ok sc_is_turn (fun vs H Q E h => ?_) (fun cdv A outer s H vs Q E hr h => ?_))
  · obtain ⟨a, ns, rfl, _⟩ := h
    rfl
  · obtain ⟨a, ns, rfl, hS, hlen, q⟩ := h
    -- one turn and the end, whatever is walked
    have key : ∀ (d : Addr), H d = none → ∀ (i : Nat) (x : V) (σ : L2.St) (H2 : Hp) (N bk : L2.St → Hp → Prop), (ns.map V.int)[i]? = some x →
        (∃ (y2 : Option V) (kvs : List (Key × V)), σ = [some (.ref a), some (.ref d), y2] ∧ Same H H2 ∧ H2 d = some (.dK kvs) ∧ kvs.map (·.1) = (ns.take i).map Sum.inl ∧ okAt ns.length (ns.take i) (ns.drop i) = isTurn ns) →
        (∀ σ' H', (∃ (y2 : Option V) (kvs : List (Key × V)), σ' = [some (.ref a), some (.ref d), y2] ∧ Same H H' ∧ H' d = some (.dK kvs) ∧ kvs.map (·.1) = (ns.take (i + 1)).map Sum.inl ∧ okAt ns.length (ns.take (i + 1)) (ns.drop (i + 1)) = isTurn ns) → N σ' H') →
        (tSeq (tIfS (tOr (tTest (tOp (rI0 fun i j => .bl (decide (i < j))) (tVar 2) (tC (.int 0)))) (tOr (tTest (tOp (rI0 fun i j => .bl (decide (j ≤ i))) (tVar 2) (tCB (fun xs H Q => ∃ p ys, xs = [.ref p] ∧ (SqL K H p ys ∨ SqT K H p ys) ∧ Q (.int ys.length) H) (tCons (tVar 0) tNil)))) (tB (tDIn (tVar 2) (tVar 1))))) (tRet (tC (.bl false))) tNext)
          (sDPut (tVar 1) (tVar 2) (tC (.bl true)))) { nx := N, ct := N, rt := Q, bk := bk } (σ.set 2 (some x)) H2 := by
      intro d nd i x σ H2 N bk hi ⟨y2, kvs, e, s2, ed, hk, ho⟩ hN
      subst e
      obtain ⟨z, hz, rfl⟩ := int_at hi
      have hlt : i < ns.length := (List.getElem?_eq_some_iff.mp hz).1
      have hdrop : ns.drop i = z :: ns.drop (i + 1) := by
        rw [List.drop_eq_getElem_cons hlt]
        have : ns[i] = z := (List.getElem?_eq_some_iff.mp hz).2
        rw [this]
      have htake : ns.take (i + 1) = ns.take i ++ [z] := by rw [List.take_add_one, hz]; rfl
      have hS2 : Sq K H2 a (ns.map V.int) := same_sq s2 hS
      rw [hdrop] at ho
      have ho' := ho
      unfold okAt at ho'
      have bad : (z < 0 ∨ (ns.length : Int) ≤ z ∨ z ∈ ns.take i) → Q (.bl false) H2 := fun hb => by
        rw [if_pos hb] at ho'
        rw [ho']
        exact q H2 s2
      refine ⟨_, rfl, _, _, rfl, rfl, _, rfl, ite2 (fun e => ?_) (fun e => ?_)⟩
      · exact bad (.inl (of_decide_eq_true e))
      · have e0 : ¬ z < 0 := fun q => e (decide_eq_true q)
        refine ⟨_, rfl, _, rfl, a, _, rfl, hS2, _, _, rfl, rfl, _, rfl, ite2 (fun e => ?_) (fun e => ?_)⟩
        · have e1 := of_decide_eq_true e
          rw [List.length_map] at e1
          exact bad (.inr (.inl e1))
        · have e1 : ¬ (ns.length : Int) ≤ z := fun q => e (decide_eq_true (by rw [List.length_map]; exact q))
          refine ⟨_, rfl, _, rfl, d, _, rfl, DGet.k (k := Sum.inl z) ed, _, rfl, ?_⟩
          show if (valV kvs (Sum.inl z)).isSome = true then _ else _
          rw [seen_some hk]
          refine ite2 (fun e => ?_) (fun e => ?_)
          · exact bad (.inr (.inr (of_decide_eq_true e)))
          · have e2 : ¬ z ∈ ns.take i := fun q => e (decide_eq_true q)
            have hn : valV kvs (Sum.inl z) = none := by
              have := seen_some (x := z) hk
              rw [decide_eq_false e2] at this
              exact Option.isNone_iff_eq_none.mp (by simpa using this)
            have hkl : kvs.length = i := by
              have := congrArg List.length hk
              simpa [Nat.min_eq_left (Nat.le_of_lt hlt)] using this
            refine ⟨_, rfl, _, rfl, d, _, rfl, DPut.k (k := Sum.inl z) ed (sz_lt (by omega)), hN _ _ ⟨some (.int z), putK kvs (Sum.inl z) (.bl true), rfl, ?_, upd_same, ?_, ?_⟩⟩
            · exact same_new s2 nd
            · rw [putK_new _ hn, List.map_append, hk, htake, List.map_append]
              rfl
            · rw [htake]
              have hneg : ¬ (z < 0 ∨ (ns.length : Int) ≤ z ∨ z ∈ ns.take i) := fun z' => by
                rcases z' with z' | z' | z'
                · exact e0 z'
                · exact e1 z'
                · exact e2 z'
              rw [if_neg hneg] at ho'
              exact ho'
    have stop : ∀ (d : Addr) (σ : L2.St) (H2 : Hp), (∃ (y2 : Option V) (kvs : List (Key × V)), σ = [some (.ref a), some (.ref d), y2] ∧ Same H H2 ∧ H2 d = some (.dK kvs) ∧ kvs.map (·.1) = (ns.take (ns.map V.int).length).map Sum.inl ∧ okAt ns.length (ns.take (ns.map V.int).length) (ns.drop (ns.map V.int).length) = isTurn ns) → Q (.bl true) H2 := by
      rintro d σ H2 ⟨y2, kvs, rfl, s2, ed, hk, ho⟩
      rw [List.length_map, List.drop_length] at ho
      rw [show (true : Bool) = isTurn ns from ho]
      exact q H2 s2
    rcases hS with hL | hT
    · refine ⟨_, (pss_cons (ps_set (i := 1) sc_is_turn.nd rfl (Or.inl rfl) pe_dnewK)
      (pss_cons (ps_for PassesOwn.never rfl (pi_list (pv 0)) (pg_name (i := 2) sc_is_turn.nd rfl (Or.inl rfl)) (pss_cons (ps_if (PW.pt (pw_or (pt_cmpR op_lt (pv 2) pe_int (nomark _)) (pw_or (pt_cmpR op_ge (pv 2) (pe_callB call_len_seq (by rfl) b.len PySem.boot_len (pa_cons (pv 0) pa_nil)) (nomark _)) (pw_or1 (pt_cmp (pc_din (hu_of hr) (pv 2) (pv 1))))))) (pss_one (ps_ret pe_bl)) pss_nil)
      (pss_one (ps_dput (hu_of hr) (pv 1) (pv 2) pe_bl rfl))))
      (pss_one (ps_ret pe_bl)))), ?_⟩
      intro d nd
      refine ⟨_, rfl, a, rfl, ⟨_, (same_new (Same.refl H) nd).seq hL⟩, for_list (K := K) (a := a) (xs := ns.map V.int) (fun i σ H2 => ∃ (y2 : Option V) (kvs : List (Key × V)), σ = [some (.ref a), some (.ref d), y2] ∧ Same H H2 ∧ H2 d = some (.dK kvs) ∧ kvs.map (·.1) = (ns.take i).map Sum.inl ∧ okAt ns.length (ns.take i) (ns.drop i) = isTurn ns)
        ⟨none, [], rfl, same_new (Same.refl H) nd, upd_same, rfl, rfl⟩ (fun i σ H2 _ ⟨_, _, _, s2, _⟩ => s2.seq hL) (fun i x σ H2 hi hI => key d nd i x σ H2 _ _ hi hI fun _ _ z => z) (fun σ H2 hI => stop d σ H2 hI)⟩
    · refine ⟨_, (pss_cons (ps_set (i := 1) sc_is_turn.nd rfl (Or.inl rfl) pe_dnewK)
      (pss_cons (ps_for PassesOwn.never rfl (pi_tup (pv 0)) (pg_name (i := 2) sc_is_turn.nd rfl (Or.inl rfl)) (pss_cons (ps_if (PW.pt (pw_or (pt_cmpR op_lt (pv 2) pe_int (nomark _)) (pw_or (pt_cmpR op_ge (pv 2) (pe_callB call_len_seq (by rfl) b.len PySem.boot_len (pa_cons (pv 0) pa_nil)) (nomark _)) (pw_or1 (pt_cmp (pc_din (hu_of hr) (pv 2) (pv 1))))))) (pss_one (ps_ret pe_bl)) pss_nil)
      (pss_one (ps_dput (hu_of hr) (pv 1) (pv 2) pe_bl rfl))))
      (pss_one (ps_ret pe_bl)))), ?_⟩
      intro d nd
      refine ⟨_, rfl, a, rfl, ⟨_, same_seqT (same_new (Same.refl H) nd) hT⟩, for_tup (K := K) (a := a) (xs := ns.map V.int) (fun i σ H2 => ∃ (y2 : Option V) (kvs : List (Key × V)), σ = [some (.ref a), some (.ref d), y2] ∧ Same H H2 ∧ H2 d = some (.dK kvs) ∧ kvs.map (·.1) = (ns.take i).map Sum.inl ∧ okAt ns.length (ns.take i) (ns.drop i) = isTurn ns)
        ⟨none, [], rfl, same_new (Same.refl H) nd, upd_same, rfl, rfl⟩ (fun i σ H2 _ ⟨_, _, _, s2, _⟩ => same_seqT s2 hT) (fun i x σ H2 hi hI => key d nd i x σ H2 _ _ hi hI fun _ _ z => z) (fun σ H2 hI => stop d σ H2 hI)⟩


/-! ### _law_spoilt: some row, at most one longer, at the same place -/
def sp_spoilt : Sp := fun vs H Q _ => ∃ (a : Addr) (ns : List Int) (way at' c : Int), vs = [.ref a, .int way, .int at', .int c] ∧ H a = some (.lst (ns.map V.int)) ∧ ns.length ≤ 1000 ∧
  ∀ (ms : List Int) (H' : Hp), ms.length ≤ ns.length + 1 → H' a = some (.lst (ms.map V.int)) → (∀ b o, H b = some o → b ≠ a → H' b = some o) → Q (.ref a) H'
theorem ok_l_spoilt {f : Addr} {fd : FuncData} (D : Dn K mg "_law_spoilt" s_l_spoilt p_l_spoilt f fd) (b : Blt mg) : Cal P w K mg base CX0 1 "_law_spoilt" p_l_spoilt sp_spoilt := by
  refine D.cal (D.F.ok sc_l_spoilt (fun vs H Q E h => ?_) (fun cdv A outer s H vs Q E hr h => ?_))
  · obtain ⟨a, ns, way, at', c, rfl, _⟩ := h
    rfl
  · obtain ⟨a, ns, way, at', c, rfl, ha, hlen, q⟩ := h
    refine ⟨_, (pss_cons (ps_if (PW.pt (pw_and (pt_cmpR (op_neD hr.units) (pv 0) (pe_lst pa_nil) (nomark _)) (pw_and1 (pt_cmpR op_eq (pv 1) pe_int (nomark _))))) (pss_one (ps_asg (pe_ix ix_list (pv 0) (pe_op op_mod (pv 3) (pe_callB call_len_seq (by rfl) b.len PySem.boot_len (pa_cons (pv 0) pa_nil))) (fun _ _ => rfl)) (pg_sub (pv 0) (pe_op op_mod (pv 2) (pe_callB call_len_seq (by rfl) b.len PySem.boot_len (pa_cons (pv 0) pa_nil))) set_list))) pss_nil)
      (pss_cons (ps_if (PW.pt (pw_and (pt_cmpR (op_neD hr.units) (pv 0) (pe_lst pa_nil) (nomark _)) (pw_and1 (pt_cmpR op_eq (pv 1) pe_int (nomark _))))) (pss_one (ps_asg (pe_un un_neg pe_int) (pg_sub (pv 0) (pe_op op_mod (pv 2) (pe_callB call_len_seq (by rfl) b.len PySem.boot_len (pa_cons (pv 0) pa_nil))) set_list))) pss_nil)
      (pss_cons (ps_if (PW.pt (pw_and (pt_cmpR (op_neD hr.units) (pv 0) (pe_lst pa_nil) (nomark _)) (pw_and1 (pt_cmpR op_eq (pv 1) pe_int (nomark _))))) (pss_one (ps_asg (pe_callB call_len_seq (by rfl) b.len PySem.boot_len (pa_cons (pv 0) pa_nil)) (pg_sub (pv 0) (pe_op op_mod (pv 2) (pe_callB call_len_seq (by rfl) b.len PySem.boot_len (pa_cons (pv 0) pa_nil))) set_list))) pss_nil)
      (pss_cons (ps_if (PW.pt (pw_and (pt_cmpR (op_neD hr.units) (pv 0) (pe_lst pa_nil) (nomark _)) (pw_and1 (pt_cmpR op_eq (pv 1) pe_int (nomark _))))) (pss_one (ps_asg (pe_op op_mod (pv 3) (pe_op op_pow pe_int pe_int)) (pg_sub (pv 0) (pe_op op_mod (pv 2) (pe_callB call_len_seq (by rfl) b.len PySem.boot_len (pa_cons (pv 0) pa_nil))) set_list))) pss_nil)
      (pss_cons (ps_if (pt_cmpR op_eq (pv 1) pe_int (nomark _)) (pss_one (ps_expr (pe_bm PySem.F.plainAttrs_list PySem.F.slot_list_append PySem.F.type_list_append mt_append (pv 0) (pa_cons (pe_op op_mod (pv 3) (pe_op op_add (pe_callB call_len_seq (by rfl) b.len PySem.boot_len (pa_cons (pv 0) pa_nil)) pe_int)) pa_nil)))) pss_nil)
      (pss_cons (ps_if (PW.pt (pw_and (pt_cmpR (op_neD hr.units) (pv 0) (pe_lst pa_nil) (nomark _)) (pw_and1 (pt_cmpR op_eq (pv 1) pe_int (nomark _))))) (pss_one (ps_expr (pe_bm PySem.F.plainAttrs_list PySem.F.slot_list_pop PySem.F.type_list_pop mt_popAt (pv 0) (pa_cons (pe_op op_mod (pv 2) (pe_callB call_len_seq (by rfl) b.len PySem.boot_len (pa_cons (pv 0) pa_nil))) pa_nil)))) pss_nil)
      (pss_one (ps_ret (pv 0))))))))), ?_⟩
    have tst : ∀ (z : Int) (H2 : Hp) (ms : List Int) (Q' : Bool → Hp → Prop), H2 a = some (.lst (ms.map V.int)) → (∀ H3, Same H2 H3 → 0 < ms.length → Q' true H3) → (∀ H3, Same H2 H3 → Q' false H3) →
        (tAnd (tTest (tOp (rNeD K) (tVar 0) (tLst tNil))) (tTest (tOp rEq (tVar 1) (tC (.int z))))) [some (.ref a), some (.int way), some (.int at'), some (.int c)] H2 Q' := by
      intro z H2 ms Q' h2 hy hn
      refine ⟨_, rfl, Nat.zero_le _, fun p np => ?_⟩
      have sm : Same H2 (upd H2 p (.lst [])) := same_new (Same.refl _) np
      have ee : PyData.eqv (.list (ms.map PyData.int)) (.list (([] : List Int).map PyData.int)) = decide (ms = []) := eqv_listI ms []
      refine ⟨.list (ms.map PyData.int), .list (([] : List Int).map PyData.int), dp_listI (SqL.of (sm _ _ h2)), dp_listI (SqL.of upd_same), shaped_listI _, shaped_listI [], _, rfl, ?_⟩
      rw [ee]
      cases ms with
      | nil => exact iteF (hn _ sm)
      | cons x r =>
        refine iteT ⟨_, rfl, rfl, _, rfl, ?_⟩
        cases hd : decide (V.int way = V.int z) with
        | true => exact hy _ sm (Nat.succ_pos _)
        | false => exact hn _ sm
    have up : ∀ (H2 : Hp) (o1 : HO), (∀ b o, H b = some o → b ≠ a → H2 b = some o) → ∀ b o, H b = some o → b ≠ a → (upd H2 a o1) b = some o := fun H2 o1 k2 b o e n => by
      rw [upd_ne n]
      exact k2 b o e n
    have md : ∀ (x : Int) (n : Nat), 0 < n → 0 ≤ x % (n : Int) ∧ x % (n : Int) < (n : Int) := fun x n hn => ⟨Int.emod_nonneg _ (by omega), Int.emod_lt_of_pos _ (by omega)⟩
    -- 1
    refine seq_cut (fun σ2 H2 => σ2 = [some (.ref a), some (.int way), some (.int at'), some (.int c)] ∧ ∃ ms : List Int, ms.length ≤ ns.length + 0 ∧ H2 a = some (.lst (ms.map V.int)) ∧ (∀ b o, H b = some o → b ≠ a → H2 b = some o)) (fun N hN => ?_) ?_
    · have ⟨ms, hms, e2, k2⟩ : ∃ ms : List Int, ms.length ≤ ns.length + 0 ∧ H a = some (.lst (ms.map V.int)) ∧ (∀ b o, H b = some o → b ≠ a → H b = some o) := ⟨ns, Nat.le_refl _, ha, fun b o e _ => e⟩
      have H2e : H = H := rfl
      refine tst _ _ ms _ e2 (fun H3 s3 h0 => iteT ?_) (fun H3 s3 => iteF (hN _ _ ⟨rfl, ms, by omega, s3 _ _ e2, fun b o e n => s3 _ _ (k2 b o e n)⟩))
      have e3 := s3 _ _ e2
      have m1 := md c ms.length h0
      have m2 := md at' ms.length h0
      refine ⟨_, rfl, _, rfl, _, rfl, a, _, rfl, .inl (SqL.of e3), _, _, rfl, rfl, ?_, a, _, _, .int (ms.getD (c % (ms.length : Int)).toNat 0), rfl, rfl, SqL.of e3, ?_, _, rfl, _, rfl, _, rfl, a, _, rfl, .inl (SqL.of e3), _, _, rfl, rfl, ?_, a, _, _, (at' % (ms.length : Int)).toNat, rfl, rfl, e3, ?_, ?_⟩
      · show (0 : Int) < ((ms.map V.int).length : Int)
        rw [List.length_map]
        omega
      · show atI (ms.map V.int) (c % ((ms.map V.int).length : Int)) = _
        rw [List.length_map]
        exact at_int m1.1 (getD_some (by omega))
      · show (0 : Int) < ((ms.map V.int).length : Int)
        rw [List.length_map]
        omega
      · show ixN (ms.map V.int).length (at' % ((ms.map V.int).length : Int)) = _
        rw [List.length_map]
        exact ixN_in m2.1 m2.2
      · refine hN _ _ ⟨rfl, _, ?_, by rw [upd_same, set_ints], up H3 _ fun b o e n => s3 _ _ (k2 b o e n)⟩
        rw [List.length_set]
        exact hms
    rintro σ2 H11 ⟨rfl, ms, hms, e2, k2⟩
    -- 2
    refine seq_cut (fun σ2 H2 => σ2 = [some (.ref a), some (.int way), some (.int at'), some (.int c)] ∧ ∃ ms : List Int, ms.length ≤ ns.length + 0 ∧ H2 a = some (.lst (ms.map V.int)) ∧ (∀ b o, H b = some o → b ≠ a → H2 b = some o)) (fun N hN => ?_) ?_
    · refine tst _ _ ms _ e2 (fun H3 s3 h0 => iteT ?_) (fun H3 s3 => iteF (hN _ _ ⟨rfl, ms, by omega, s3 _ _ e2, fun b o e n => s3 _ _ (k2 b o e n)⟩))
      have e3 := s3 _ _ e2
      have m2 := md at' ms.length h0
      refine ⟨_, rfl, _, rfl, _, rfl, _, rfl, a, _, rfl, .inl (SqL.of e3), _, _, rfl, rfl, ?_, a, _, _, (at' % (ms.length : Int)).toNat, rfl, rfl, e3, ?_, ?_⟩
      · show (0 : Int) < ((ms.map V.int).length : Int)
        rw [List.length_map]
        omega
      · show ixN (ms.map V.int).length (at' % ((ms.map V.int).length : Int)) = _
        rw [List.length_map]
        exact ixN_in m2.1 m2.2
      · refine hN _ _ ⟨rfl, _, ?_, by rw [upd_same, set_ints], up H3 _ fun b o e n => s3 _ _ (k2 b o e n)⟩
        rw [List.length_set]
        exact hms
    rintro σ2 H12 ⟨rfl, ms, hms, e2, k2⟩
    -- 3
    refine seq_cut (fun σ2 H2 => σ2 = [some (.ref a), some (.int way), some (.int at'), some (.int c)] ∧ ∃ ms : List Int, ms.length ≤ ns.length + 0 ∧ H2 a = some (.lst (ms.map V.int)) ∧ (∀ b o, H b = some o → b ≠ a → H2 b = some o)) (fun N hN => ?_) ?_
    · refine tst _ _ ms _ e2 (fun H3 s3 h0 => iteT ?_) (fun H3 s3 => iteF (hN _ _ ⟨rfl, ms, by omega, s3 _ _ e2, fun b o e n => s3 _ _ (k2 b o e n)⟩))
      have e3 := s3 _ _ e2
      have m2 := md at' ms.length h0
      refine ⟨_, rfl, a, _, rfl, .inl (SqL.of e3), _, rfl, _, rfl, _, rfl, a, _, rfl, .inl (SqL.of e3), _, _, rfl, rfl, ?_, a, _, _, (at' % (ms.length : Int)).toNat, rfl, rfl, e3, ?_, ?_⟩
      · show (0 : Int) < ((ms.map V.int).length : Int)
        rw [List.length_map]
        omega
      · show ixN (ms.map V.int).length (at' % ((ms.map V.int).length : Int)) = _
        rw [List.length_map]
        exact ixN_in m2.1 m2.2
      · refine hN _ _ ⟨rfl, _, ?_, by rw [upd_same, set_ints], up H3 _ fun b o e n => s3 _ _ (k2 b o e n)⟩
        rw [List.length_set]
        exact hms
    rintro σ2 H13 ⟨rfl, ms, hms, e2, k2⟩
    -- 4
    refine seq_cut (fun σ2 H2 => σ2 = [some (.ref a), some (.int way), some (.int at'), some (.int c)] ∧ ∃ ms : List Int, ms.length ≤ ns.length + 0 ∧ H2 a = some (.lst (ms.map V.int)) ∧ (∀ b o, H b = some o → b ≠ a → H2 b = some o)) (fun N hN => ?_) ?_
    · refine tst _ _ ms _ e2 (fun H3 s3 h0 => iteT ?_) (fun H3 s3 => iteF (hN _ _ ⟨rfl, ms, by omega, s3 _ _ e2, fun b o e n => s3 _ _ (k2 b o e n)⟩))
      have e3 := s3 _ _ e2
      have m2 := md at' ms.length h0
      refine ⟨_, rfl, _, _, rfl, rfl, ⟨by decide, by decide, by decide⟩, _, _, rfl, rfl, ?_, _, rfl, _, rfl, _, rfl, a, _, rfl, .inl (SqL.of e3), _, _, rfl, rfl, ?_, a, _, _, (at' % (ms.length : Int)).toNat, rfl, rfl, e3, ?_, ?_⟩
      · show (0 : Int) < 10 ^ (50 : Int).toNat
        decide
      · show (0 : Int) < ((ms.map V.int).length : Int)
        rw [List.length_map]
        omega
      · show ixN (ms.map V.int).length (at' % ((ms.map V.int).length : Int)) = _
        rw [List.length_map]
        exact ixN_in m2.1 m2.2
      · refine hN _ _ ⟨rfl, _, ?_, by rw [upd_same, set_ints], up H3 _ fun b o e n => s3 _ _ (k2 b o e n)⟩
        rw [List.length_set]
        exact hms
    rintro σ2 H14 ⟨rfl, ms, hms, e2, k2⟩
    -- 5
    refine seq_cut (fun σ2 H2 => σ2 = [some (.ref a), some (.int way), some (.int at'), some (.int c)] ∧ ∃ ms : List Int, ms.length ≤ ns.length + 1 ∧ H2 a = some (.lst (ms.map V.int)) ∧ (∀ b o, H b = some o → b ≠ a → H2 b = some o)) (fun N hN => ?_) ?_
    · refine ⟨_, rfl, rfl, _, rfl, ite2 (fun _ => ?_) (fun _ => hN _ _ ⟨rfl, ms, by omega, e2, k2⟩)⟩
      refine ⟨_, rfl, .inl ⟨rfl, _, SqL.of e2⟩, _, rfl, _, rfl, a, _, rfl, .inl (SqL.of e2), _, _, rfl, rfl, _, _, rfl, rfl, ?_, a, _, _, rfl, rfl, e2, ?_, ?_⟩
      · show (0 : Int) < ((ms.map V.int).length : Int) + 2
        omega
      · refine sz_lt ?_
        rw [List.length_map]
        omega
      · refine hN _ _ ⟨rfl, ms ++ [_], ?_, by rw [upd_same, snoc_ints], up _ _ k2⟩
        rw [List.length_append]
        show ms.length + 1 ≤ ns.length + 1
        omega
    rintro σ2 H15 ⟨rfl, ms, hms, e2, k2⟩
    -- 6
    refine seq_cut (fun σ2 H2 => σ2 = [some (.ref a), some (.int way), some (.int at'), some (.int c)] ∧ ∃ ms : List Int, ms.length ≤ ns.length + 1 ∧ H2 a = some (.lst (ms.map V.int)) ∧ (∀ b o, H b = some o → b ≠ a → H2 b = some o)) (fun N hN => ?_) ?_
    · refine tst _ _ ms _ e2 (fun H3 s3 h0 => iteT ?_) (fun H3 s3 => iteF (hN _ _ ⟨rfl, ms, by omega, s3 _ _ e2, fun b o e n => s3 _ _ (k2 b o e n)⟩))
      have e3 := s3 _ _ e2
      have m2 := md at' ms.length h0
      refine ⟨_, rfl, .inl ⟨rfl, _, SqL.of e3⟩, _, rfl, _, rfl, a, _, rfl, .inl (SqL.of e3), _, _, rfl, rfl, ?_, a, _, at' % (ms.length : Int), (at' % (ms.length : Int)).toNat, .int (ms.getD (at' % (ms.length : Int)).toNat 0), rfl, ?_, e3, ?_, ?_, ?_, ?_, ?_⟩
      · show (0 : Int) < ((ms.map V.int).length : Int)
        rw [List.length_map]
        omega
      · show [V.int (at' % ((ms.map V.int).length : Int))] = _
        rw [List.length_map]
      · omega
      · omega
      · rw [List.length_map]
        exact seqIx_in m2.1 m2.2
      · rw [List.getElem?_map, getD_some (by omega)]
        rfl
      · refine hN _ _ ⟨rfl, _, ?_, by rw [upd_same, erase_ints], up H3 _ fun b o e n => s3 _ _ (k2 b o e n)⟩
        have := List.length_eraseIdx_le ms (at' % (ms.length : Int)).toNat
        omega
    rintro σ2 H16 ⟨rfl, ms, hms, e2, k2⟩
    exact ⟨_, rfl, q ms _ hms e2 k2⟩


/-! ### _law_full -/
def sp_full (K : PySem.W.Frag) : Sp := fun vs H Q _ => ∃ (a : Addr) (ns : List Int), vs = [.ref a] ∧ SqL K H a (ns.map V.int) ∧ ns.length < 64 ∧ ∀ H', Same H H' → Q (.bl (isTurn ns)) H'
theorem ok_l_full {f : Addr} {fd : FuncData} (D : Dn K mg "_law_full" s_l_full p_l_full f fd) (b : Blt mg) : Cal P w K mg base CX0 1 "_law_full" p_l_full (sp_full K) := by
  refine D.cal (D.F.ok sc_l_full (fun vs H Q E h => ?_) (fun cdv A outer s H vs Q E hr h => ?_))
  · obtain ⟨a, ns, rfl, _⟩ := h
    rfl
  · obtain ⟨a, ns, rfl, hS, hlen, q⟩ := h
    refine ⟨_, (pss_one (ps_ret (pe_cmpR (op_eqD hr.units) (pe_callB cr_sorted (by rfl) b.sorted (by decide +kernel) (pa_cons (pv 0) pa_nil)) (pe_listRg rfl (by rfl) b.ty_list (prg_1 (by rfl) b.range (pe_callB call_len_seq (by rfl) b.len PySem.boot_len (pa_cons (pv 0) pa_nil)))) (nomark _)))), ?_⟩
    refine ⟨_, rfl, a, ns, rfl, hS, hlen, fun ns' p hp hs np => ?_⟩
    have s1 : Same H (upd H p (.lst (ns'.map V.int))) := same_new (Same.refl _) np
    refine ⟨_, rfl, a, _, rfl, .inl (s1.seq hS), _, rfl, ?_, fun l nl => ?_⟩
    · show RgOk 0 ((ns.map V.int).length : Int)
      rw [List.length_map]
      exact rg_ok (by omega)
    · rw [show rgV 0 ((ns.map V.int).length : Int) = (rgI ns.length).map V.int by rw [List.length_map, rgV_int]]
      refine ⟨_, _, dp_listI (SqL.of (by walk_at "hp")), dp_listI (SqL.of upd_same), shaped_listI _, shaped_listI _, ?_⟩
      rw [eqv_listI, sorted_full hp hs]
      exact q _ (same_new s1 (s1.free nl))


/-! ### _law_asked -/
def sp_asked (K : PySem.W.Frag) : Sp := fun vs H Q _ => ∃ (a : Addr) (ns : List Int) (t : Bool), vs = [.ref a, .bl t] ∧ SqL K H a (ns.map V.int) ∧ ns.length < 64 ∧ ∀ H', Same H H' → Q (.bl true) H'
theorem ok_l_asked {f : Addr} {fd : FuncData} (D : Dn K mg "_law_asked" s_l_asked p_l_asked f fd) (b : Blt mg) (c_is_turn : Cal P w K mg base CX0 1 "is_turn" p_is_turn (sp_is_turn K)) (c_l_full : Cal P w K mg base CX0 1 "_law_full" p_l_full (sp_full K)) :
    Cal P w K mg base CX0 2 "_law_asked" p_l_asked (sp_asked K) := by
  refine D.cal (D.F.ok sc_l_asked (fun vs H Q E h => ?_) (fun cdv A outer s H vs Q E hr h => ?_))
  · obtain ⟨a, ns, t, rfl, _⟩ := h
    rfl
  · obtain ⟨a, ns, t, rfl, hS, hlen, q⟩ := h
    refine ⟨_, (pss_cons (ps_if (pt_val (pv 1)) (pss_cons (ps_set (i := 2) sc_l_asked.nd rfl (Or.inl rfl) (pe_c c_is_turn hr (by decide) (by rfl) pass0 (pa_cons (pe_callTy call_tuple_of (by rfl) b.ty_tuple (by decide +kernel) (pa_cons (pv 0) pa_nil)) pa_nil)))
      (pss_one (ps_ret (pe_and (pe_callB call_isi (by rfl) b.isinstance (by decide +kernel) (pa_cons (pv 2) (pa_cons (pe_bltn (v := .ty "bool") (by rfl) b.ty_bool (by decide +kernel) rfl) pa_nil))) (pe_one (pe_cmpR op_eq (pv 2) (pe_c c_l_full hr (by decide) (by rfl) pass0 (pa_cons (pv 0) pa_nil)) (nomark _))))))) pss_nil)
      (pss_cons (ps_set (i := 3) sc_l_asked.nd rfl (Or.inl rfl) (pe_callTy call_list_of (by rfl) b.ty_list (by decide +kernel) (pa_cons (pv 0) pa_nil)))
      (pss_cons (ps_set (i := 2) sc_l_asked.nd rfl (Or.inl rfl) (pe_c c_is_turn hr (by decide) (by rfl) pass0 (pa_cons (pv 0) pa_nil)))
      (pss_one (ps_ret (pe_and (pe_callB call_isi (by rfl) b.isinstance (by decide +kernel) (pa_cons (pv 2) (pa_cons (pe_bltn (v := .ty "bool") (by rfl) b.ty_bool (by decide +kernel) rfl) pa_nil))) (pe_and (pe_cmpR op_eq (pv 2) (pe_c c_l_full hr (by decide) (by rfl) pass0 (pa_cons (pv 3) pa_nil)) (nomark _)) (pe_one (pe_cmpR (op_eqD hr.units) (pv 0) (pv 3) (nomark _)))))))))), ?_⟩
    refine ⟨_, rfl, _, rfl, ite2 (fun e => ?_) (fun e => ?_)⟩
    · refine ⟨_, rfl, a, _, rfl, .inl ⟨hS, fun p np => ?_⟩⟩
      have s1 : Same H (upd H p (.tup (ns.map V.int))) := same_new (Same.refl _) np
      refine ⟨p, ns, rfl, .inr (SqT.of upd_same), by omega, fun H1 s2 => ?_⟩
      refine ⟨_, rfl, _, _, _, _, true, rfl, .ty "bool", .base (.bl _), kit_ty (by decide +kernel), true, rfl, iteT ?_⟩
      refine ⟨_, rfl, _, rfl, a, ns, rfl, s2.seq (s1.seq hS), hlen, fun H2 s3 => ⟨rfl, ?_⟩⟩
      rw [decide_eq_true rfl]
      exact q _ ((s1.trans s2).trans s3)
    · refine ⟨_, rfl, a, _, rfl, .inl hS, fun p np => ?_⟩
      have s1 : Same H (upd H p (.lst (ns.map V.int))) := same_new (Same.refl _) np
      refine ⟨_, rfl, a, ns, rfl, .inl (s1.seq hS), by omega, fun H1 s2 => ?_⟩
      have hp1 : H1 p = some (.lst (ns.map V.int)) := s2 _ _ upd_same
      refine ⟨_, rfl, _, _, _, _, true, rfl, .ty "bool", .base (.bl _), kit_ty (by decide +kernel), true, rfl, iteT ?_⟩
      refine ⟨_, rfl, _, rfl, p, ns, rfl, SqL.of hp1, hlen, fun H2 s3 => ⟨rfl, ?_⟩⟩
      have s4 : Same H H2 := (s1.trans s2).trans s3
      rw [decide_eq_true rfl]
      refine ⟨true, rfl, iteT ⟨_, rfl, _, rfl, _, _, dp_listI (s4.seq hS), dp_listI (SqL.of (s3 _ _ hp1)), shaped_listI _, shaped_listI _, ?_⟩⟩
      rw [eqv_listI, decide_eq_true rfl]
      exact q _ s4


/-! ### the law -/
def spLaw (K : PySem.W.Frag) : Sp := fun vs H Q _ => ∃ (a : Addr) (ns : List Int), vs = [.ref a] ∧ SqL K H a (ns.map V.int) ∧ ns.length ≤ 63 ∧ ∀ H', Q (.bl true) H'
theorem cut63 (ns : List Int) : cutV (ns.map V.int) none (some 63) = (ns.take 63).map V.int := by
  unfold cutV
  rw [HT.sIx_none, show HT.sIx (ns.map V.int).length (ns.map V.int).length (some 63) = min 63 (ns.map V.int).length from HT.sIx_nat _ _ 63]
  rw [List.drop_zero, List.map_take, Nat.sub_zero, List.take_eq_take_iff]
  omega
theorem ok_law {f : Addr} {fd : FuncData} (D : Dn K mg "law" s_law p_law f fd) (b : Blt mg) (c_l_cell : Cal P w K mg base CX0 1 "_law_cell" p_l_cell (sp_cell K)) (c_l_draws : Cal P w K mg base CX0 1 "_law_draws" p_l_draws (sp_draws K)) (c_l_turn : Cal P w K mg base CX0 1 "_law_turn" p_l_turn sp_turn)
    (c_l_spoilt : Cal P w K mg base CX0 1 "_law_spoilt" p_l_spoilt sp_spoilt) (c_l_asked : Cal P w K mg base CX0 2 "_law_asked" p_l_asked (sp_asked K)) :
    FnOk P w K mg base CX0 3 f fd p_law (spLaw K) := by
  refine D.F.ok sc_law (fun vs H Q E h => ?_) (fun cdv A outer s H vs Q E hr h => ?_)
  · obtain ⟨a, ns, rfl, _⟩ := h
    rfl
  · obtain ⟨a, ns, rfl, hS, hlen, q⟩ := h
    refine ⟨_, (pss_cons (ps_set (i := 0) sc_law.nd rfl (Or.inl rfl) (pe_slice sl_list (pv 0) po_none (po_some pe_int)))
      (pss_cons (ps_set (i := 1) sc_law.nd rfl (Or.inr rfl) (pe_c c_l_draws hr (by decide) (by rfl) pass0 (pa_cons (pe_c c_l_cell hr (by decide) (by rfl) pass0 (pa_cons (pv 0) (pa_cons pe_int pa_nil))) (pa_cons (pe_lst (pa_cons pe_int (pa_cons pe_int (pa_cons pe_int (pa_cons pe_int (pa_cons pe_int pa_nil)))))) pa_nil))))
      (pss_cons (ps_set (i := 2) sc_law.nd rfl (Or.inl rfl) (pe_c c_l_spoilt hr (by decide) (by rfl) pass0 (pa_cons (pe_callTy call_list_of (by rfl) b.ty_list (by decide +kernel) (pa_cons (pe_c c_l_turn hr (by decide) (by rfl) pass0 (pa_cons (pe_ix ix_list (pv 1) pe_int (fun _ _ => rfl)) (pa_cons (pe_ix ix_list (pv 1) pe_int (fun _ _ => rfl)) pa_nil))) pa_nil)) (pa_cons (pe_ix ix_list (pv 1) pe_int (fun _ _ => rfl)) (pa_cons (pe_ix ix_list (pv 1) pe_int (fun _ _ => rfl)) (pa_cons (pe_c c_l_cell hr (by decide) (by rfl) pass0 (pa_cons (pv 0) (pa_cons pe_int pa_nil))) pa_nil))))))
      (pss_cons (ps_if (pt_not (pt_val (pe_c c_l_asked hr (by decide) (by rfl) pass0 (pa_cons (pv 2) (pa_cons (pe_cmpR op_eq (pe_ix ix_list (pv 1) pe_int (fun _ _ => rfl)) pe_int (nomark _)) pa_nil))))) (pss_one (ps_ret pe_bl)) pss_nil)
      (pss_cons (ps_set (i := 3) sc_law.nd rfl (Or.inr rfl) (pe_op op_mod (pe_c c_l_cell hr (by decide) (by rfl) pass0 (pa_cons (pv 0) (pa_cons pe_int pa_nil))) pe_int))
      (pss_cons (ps_setLc (i := 4) (own := [("_law_at", 5)]) (g := gName 5) rfl sc_law.nd rfl rfl (sw_true rfl rfl rfl (by decide +kernel)) (pi_range1 (by rfl) b.range (pa_cons (pv 3) pa_nil)) (blkOk_by (N := s_law_N) (sc := defScope s_law) (by decide +kernel)) (fun _ _ _ _ _ => (pg_name (i := 5) sc_law.nd rfl (Or.inl rfl))) (fun _ _ _ _ _ => pts_nil) (fun _ _ _ _ _ => (pe_op op_mod (pe_op op_add (pv 5) (pe_ix (ix_listK K) (pv 1) pe_int (fun _ _ => rfl))) (pv 3))))
      (pss_cons (ps_if (pt_not (pt_val (pe_c c_l_asked hr (by decide) (by rfl) pass0 (pa_cons (pe_callTy call_list_of (by rfl) b.ty_list (by decide +kernel) (pa_cons (pv 4) pa_nil)) (pa_cons (pe_cmpR op_eq (pe_ix ix_list (pv 1) pe_int (fun _ _ => rfl)) pe_int (nomark _)) pa_nil))))) (pss_one (ps_ret pe_bl)) pss_nil)
      (pss_cons (ps_if (PW.pt (pw_and (pt_cmpR op_gt (pv 3) pe_int (nomark _)) (pw_and1 (pt_cmpR op_gt (pe_ix ix_list (pv 1) pe_int (fun _ _ => rfl)) pe_int (nomark _))))) (pss_one (ps_asg (pe_ix ix_list (pv 4) (pe_op op_mod (pe_c c_l_cell hr (by decide) (by rfl) pass0 (pa_cons (pv 0) (pa_cons pe_int pa_nil))) (pv 3)) (fun _ _ => rfl)) (pg_sub (pv 4) (pe_op op_mod (pe_ix ix_list (pv 1) pe_int (fun _ _ => rfl)) (pv 3)) set_list))) pss_nil)
      (pss_cons (ps_if (pt_not (pt_val (pe_c c_l_asked hr (by decide) (by rfl) pass0 (pa_cons (pe_callTy call_list_of (by rfl) b.ty_list (by decide +kernel) (pa_cons (pv 4) pa_nil)) (pa_cons (pe_cmpR op_eq (pe_ix ix_list (pv 1) pe_int (fun _ _ => rfl)) pe_int (nomark _)) pa_nil))))) (pss_one (ps_ret pe_bl)) pss_nil)
      (pss_cons (ps_if (pt_cmpR op_lt (pv 3) pe_int (nomark _)) (pss_one (ps_set (i := 4) sc_law.nd rfl (Or.inl rfl) (pe_c c_l_spoilt hr (by decide) (by rfl) pass0 (pa_cons (pv 4) (pa_cons (pe_op op_add pe_int (pe_op op_mod (pe_ix ix_list (pv 1) pe_int (fun _ _ => rfl)) pe_int)) (pa_cons (pe_op op_add (pe_ix ix_list (pv 1) pe_int (fun _ _ => rfl)) (pe_ix ix_list (pv 1) pe_int (fun _ _ => rfl))) (pa_cons (pe_c c_l_cell hr (by decide) (by rfl) pass0 (pa_cons (pv 0) (pa_cons pe_int pa_nil))) pa_nil))))))) pss_nil)
      (pss_one (ps_ret (pe_c c_l_asked hr (by decide) (by rfl) pass0 (pa_cons (pv 4) (pa_cons (pe_cmpR op_eq (pe_ix ix_list (pv 1) pe_int (fun _ _ => rfl)) pe_int (nomark _)) pa_nil))))))))))))))), ?_⟩
    -- script = script[:63]
    refine ⟨_, rfl, 63, rfl, a, _, rfl, hS, fun sc nsc => ?_⟩
    rw [cut63]
    generalize hms : ns.take 63 = ms
    have hsc : (upd H sc (.lst (ms.map V.int))) sc = some (.lst (ms.map V.int)) := upd_same
    generalize upd H sc (.lst (ms.map V.int)) = H0 at hsc
    -- drawn
    refine ⟨_, rfl, sc, ms, 0, rfl, SqL.of hsc, ?_⟩
    refine ⟨by decide, fun pp npp => ?_⟩
    refine ⟨_, pp, [10, 362880, 7, 11, 2], rfl, SqL.of upd_same, by decide, by decide, fun d H1 nd s1 hd => ?_⟩
    obtain ⟨d0, g0, l0, u0⟩ := draws_get (c := cell ms 0) (ps := [10, 362880, 7, 11, 2]) (i := 0) rfl (by decide)
    obtain ⟨d1, g1, l1, u1⟩ := draws_get (c := cell ms 0) (ps := [10, 362880, 7, 11, 2]) (i := 1) rfl (by decide)
    obtain ⟨d2, g2, l2, u2⟩ := draws_get (c := cell ms 0) (ps := [10, 362880, 7, 11, 2]) (i := 2) rfl (by decide)
    obtain ⟨d3, g3, l3, u3⟩ := draws_get (c := cell ms 0) (ps := [10, 362880, 7, 11, 2]) (i := 3) rfl (by decide)
    obtain ⟨d4, g4, l4, u4⟩ := draws_get (c := cell ms 0) (ps := [10, 362880, 7, 11, 2]) (i := 4) rfl (by decide)
    generalize draws (cell ms 0) [10, 362880, 7, 11, 2] = ds at *
    have hsc1 : H1 sc = some (.lst (ms.map V.int)) := s1 _ _ (upd_new npp hsc)
    have at0 : atI (ds.map V.int) 0 = some (.int d0) := at_int (by decide) g0
    have at1 : atI (ds.map V.int) 1 = some (.int d1) := at_int (by decide) g1
    have at2 : atI (ds.map V.int) 2 = some (.int d2) := at_int (by decide) g2
    have at3 : atI (ds.map V.int) 3 = some (.int d3) := at_int (by decide) g3
    have at4 : atI (ds.map V.int) 4 = some (.int d4) := at_int (by decide) g4
    -- row
    refine ⟨_, rfl, d, _, _, _, rfl, rfl, SqL.of hd, at1, _, rfl, d, _, _, _, rfl, rfl, SqL.of hd, at0, d1, d0.toNat, ?_, by omega, fun t H2 nt s2 ht => ?_⟩
    · rw [show ((d0.toNat : Nat) : Int) = d0 by omega]
      rfl
    refine ⟨t, _, rfl, .inr (SqT.of ht), fun r nr => ?_⟩
    have hd2 : (upd H2 r (.lst ((turnOf d1 d0.toNat).map V.int))) d = some (.lst (ds.map V.int)) := upd_new nr (s2 _ _ hd)
    have hsc2 : (upd H2 r (.lst ((turnOf d1 d0.toNat).map V.int))) sc = some (.lst (ms.map V.int)) := upd_new nr (s2 _ _ hsc1)
    have hr2 : (upd H2 r (.lst ((turnOf d1 d0.toNat).map V.int))) r = some (.lst ((turnOf d1 d0.toNat).map V.int)) := upd_same
    have ndr : d ≠ r := ne_of_none (s2 _ _ hd) nr
    have nsr : sc ≠ r := ne_of_none (s2 _ _ hsc1) nr
    generalize upd H2 r (.lst ((turnOf d1 d0.toNat).map V.int)) = H3 at *
    refine ⟨_, rfl, d, _, _, _, rfl, rfl, SqL.of hd2, at2, _, rfl, d, _, _, _, rfl, rfl, SqL.of hd2, at3, _, rfl, sc, ms, 1, rfl, SqL.of hsc2, ?_⟩
    refine ⟨r, _, d2, d3, _, rfl, hr2, by rw [turnOf_len]; omega, fun rs H4 hrs e4 k4 => ?_⟩
    rw [turnOf_len] at hrs
    have hd4 : H4 d = some (.lst (ds.map V.int)) := k4 _ _ hd2 ndr
    have hsc4 : H4 sc = some (.lst (ms.map V.int)) := k4 _ _ hsc2 nsr
    -- if not asked(row, drawn[4] == 1)
    refine ⟨_, rfl, _, rfl, d, _, _, _, rfl, rfl, SqL.of hd4, at4, rfl, r, rs, _, rfl, SqL.of e4, by omega, fun H5 s5 => ?_⟩
    refine ⟨true, rfl, ifno ?_⟩
    have hd5 := s5 _ _ hd4
    have hsc5 := s5 _ _ hsc4
    -- size
    refine ⟨_, rfl, sc, ms, 2, rfl, SqL.of hsc5, _, _, rfl, rfl, (by show (0 : Int) < 61; decide), ?_⟩
    obtain ⟨n, hn, hn1⟩ : ∃ n : Nat, cell ms 2 % 61 = (n : Int) ∧ n < 61 := by
      have h0 : 0 ≤ cell ms 2 % 61 := Int.emod_nonneg _ (by decide)
      have h1 : cell ms 2 % 61 < 61 := Int.emod_lt_of_pos _ (by decide)
      exact ⟨(cell ms 2 % 61).toNat, by omega, by omega⟩
    dsimp only
    rw [hn]
    -- long = [..]
    refine ⟨_, rfl, (n : Int), rfl, by omega, by omega, fun L nL => lc_range (lo := 0) (n := n) (fun i Hx => ∃ xs : List Int, xs.length = i ∧ Hx L = some (.lst (xs.map V.int)) ∧ Same H5 Hx) ⟨[], rfl, upd_same, same_new (Same.refl _) nL⟩ ?_ ?_⟩
    · rintro i Hx hi ⟨xs, hxs, eL, sx⟩
      refine ⟨rfl, ⟨_, rfl, _, rfl, d, _, _, _, rfl, rfl, SqL.of (sx _ _ hd5), at3, _, _, rfl, rfl, _, rfl, _, _, rfl, rfl, ?_, _, eL, ?_, ?_⟩⟩
      · show (0 : Int) < (n : Int)
        omega
      · refine sz_lt ?_
        rw [List.length_map]
        omega
      · refine ⟨xs ++ [_], by rw [List.length_append, hxs]; rfl, by rw [upd_same, snoc_ints], same_new sx nL⟩
    rintro H6 ⟨xs, hxs, eL, s6⟩
    have hd6 := s6 _ _ hd5
    have hsc6 := s6 _ _ hsc5
    have ndL : d ≠ L := ne_of_none hd5 nL
    have nsL : sc ≠ L := ne_of_none hsc5 nL
    -- asked(list(long), drawn[4] == 0)
    refine ⟨_, rfl, L, _, rfl, .inl (SqL.of eL), fun c1 nc1 => ?_⟩
    refine ⟨_, rfl, d, _, _, _, rfl, rfl, SqL.of (upd_new nc1 hd6), at4, rfl, c1, xs, _, rfl, SqL.of upd_same, by omega, fun H7 s7 => ⟨true, rfl, ifno ?_⟩⟩
    have eL7 := s7 _ _ (upd_new (o := .lst (xs.map V.int)) nc1 eL)
    have hd7 := s7 _ _ (upd_new (o := .lst (xs.map V.int)) nc1 hd6)
    have hsc7 := s7 _ _ (upd_new (o := .lst (xs.map V.int)) nc1 hsc6)
    -- if size > 1 and drawn[2] > 2: ..
    dsimp only
    refine seq_cut (fun σ' H' => σ' = [some (.ref sc), some (.ref d), some (.ref r), some (.int (n : Int)), some (.ref L), none] ∧ ∃ ys : List Int, ys.length = n ∧ H' L = some (.lst (ys.map V.int)) ∧ H' d = some (.lst (ds.map V.int)) ∧ H' sc = some (.lst (ms.map V.int))) (fun N hN => ?_) ?_
    · refine ⟨_, rfl, _, _, rfl, rfl, _, rfl, ite2 (fun e1 => ?_) (fun _ => iteF (hN _ _ ⟨rfl, xs, hxs, eL7, hd7, hsc7⟩))⟩
      have hn2 : (1 : Int) < (n : Int) := of_decide_eq_true e1
      refine ⟨_, rfl, d, _, _, _, rfl, rfl, SqL.of hd7, at2, _, _, rfl, rfl, _, rfl, ite2 (fun _ => ?_) (fun _ => hN _ _ ⟨rfl, xs, hxs, eL7, hd7, hsc7⟩)⟩
      have a0 : 0 ≤ cell ms 3 % (n : Int) := Int.emod_nonneg _ (by omega)
      have a1 : cell ms 3 % (n : Int) < (n : Int) := Int.emod_lt_of_pos _ (by omega)
      have b0 : 0 ≤ d1 % (n : Int) := Int.emod_nonneg _ (by omega)
      have b1 : d1 % (n : Int) < (n : Int) := Int.emod_lt_of_pos _ (by omega)
      refine ⟨_, rfl, _, rfl, sc, ms, 3, rfl, SqL.of hsc7, _, rfl, _, _, rfl, rfl, ?_, L, _, _, .int (xs.getD (cell ms 3 % (n : Int)).toNat 0), rfl, rfl, SqL.of eL7, at_int a0 (getD_some (by omega)), _, rfl, _, rfl, d, _, _, _, rfl, rfl, SqL.of hd7, at1, _, rfl, _, _, rfl, rfl, ?_, L, _, _, (d1 % (n : Int)).toNat, rfl, rfl, eL7, ?_, ?_⟩
      · show (0 : Int) < (n : Int)
        omega
      · show (0 : Int) < (n : Int)
        omega
      · rw [List.length_map, hxs]
        exact ixN_in b0 b1
      · exact hN _ _ ⟨rfl, xs.set (d1 % (n : Int)).toNat (xs.getD (cell ms 3 % (n : Int)).toNat 0), by rw [List.length_set]; exact hxs, by rw [upd_same, set_ints], upd_old ndL hd7, upd_old nsL hsc7⟩
    rintro σ8 H8 ⟨rfl, ys, hys, eL8, hd8, hsc8⟩
    -- asked(list(long), drawn[4] == 1)
    refine ⟨_, rfl, L, _, rfl, .inl (SqL.of eL8), fun c2 nc2 => ?_⟩
    refine ⟨_, rfl, d, _, _, _, rfl, rfl, SqL.of (upd_new nc2 hd8), at4, rfl, c2, ys, _, rfl, SqL.of upd_same, by omega, fun H9 s9 => ⟨true, rfl, ifno ?_⟩⟩
    have eL9 := s9 _ _ (upd_new (o := .lst (ys.map V.int)) nc2 eL8)
    have hd9 := s9 _ _ (upd_new (o := .lst (ys.map V.int)) nc2 hd8)
    have hsc9 := s9 _ _ (upd_new (o := .lst (ys.map V.int)) nc2 hsc8)
    -- if size < 60: ..
    dsimp only
    refine seq_cut (fun σ' H' => σ' = [some (.ref sc), some (.ref d), some (.ref r), some (.int (n : Int)), some (.ref L), none] ∧ ∃ zs : List Int, zs.length < 64 ∧ H' L = some (.lst (zs.map V.int)) ∧ H' d = some (.lst (ds.map V.int))) (fun N hN => ?_) ?_
    · refine ⟨_, rfl, _, _, rfl, rfl, _, rfl, ite2 (fun e1 => ?_) (fun _ => hN _ _ ⟨rfl, ys, by omega, eL9, hd9⟩)⟩
      refine ⟨_, rfl, _, rfl, d, _, _, _, rfl, rfl, SqL.of hd9, at2, _, _, rfl, rfl, (by show (0 : Int) < 6; decide), _, _, rfl, rfl, _, rfl, d, _, _, _, rfl, rfl, SqL.of hd9, at1, _, rfl, d, _, _, _, rfl, rfl, SqL.of hd9, at3, _, _, rfl, rfl, _, rfl, sc, ms, 3, rfl, SqL.of hsc9, ?_⟩
      refine ⟨L, ys, _, _, _, rfl, eL9, by omega, fun zs H10 hzs e10 k10 => ?_⟩
      exact hN _ _ ⟨rfl, zs, by omega, e10, k10 _ _ hd9 ndL⟩
    rintro σ11 H11 ⟨rfl, zs, hzs, eL11, hd11⟩
    refine ⟨_, rfl, _, rfl, d, _, _, _, rfl, rfl, SqL.of hd11, at4, rfl, L, zs, _, rfl, SqL.of eL11, hzs, fun H12 s12 => q H12⟩

end

/-! ### what the top has left -/
theorem all_mk {l : PySem.W.OpenLaw} {w : World} {K : PySem.W.Frag} {h : Heap} {mg : Str → Option Value} {fa : Addr} (X : K.In h) (G : h.Ns mainGlobals mg) (hfa : mg "law" = some (.ref fa))
    (d_l_cell : DefIn K "_law_cell" s_l_cell)
    (d_l_draws : DefIn K "_law_draws" s_l_draws)
    (d_l_turn : DefIn K "_law_turn" s_l_turn)
    (d_is_turn : DefIn K "is_turn" s_is_turn)
    (d_l_spoilt : DefIn K "_law_spoilt" s_l_spoilt)
    (d_l_full : DefIn K "_law_full" s_l_full)
    (d_l_asked : DefIn K "_law_asked" s_l_asked)
    (d_law : DefIn K "law" s_law)
    (z0 : PySem.W.nsIn K mainGlobals "len" = some none) (z1 : PySem.W.nsIn K mainGlobals "range" = some none) (z2 : PySem.W.nsIn K mainGlobals "list" = some none) (z3 : PySem.W.nsIn K mainGlobals "tuple" = some none) (z4 : PySem.W.nsIn K mainGlobals "int" = some none) (z5 : PySem.W.nsIn K mainGlobals "bool" = some none) (z6 : PySem.W.nsIn K mainGlobals "str" = some none) (z7 : PySem.W.nsIn K mainGlobals "dict" = some none) (z8 : PySem.W.nsIn K mainGlobals "ValueError" = some none) (z9 : PySem.W.nsIn K mainGlobals "sorted" = some none) (z10 : PySem.W.nsIn K mainGlobals "isinstance" = some none) (z11 : PySem.W.nsIn K mainGlobals "abs" = some none) (z12 : PySem.W.nsIn K mainGlobals "all" = some none) (z13 : PySem.W.nsIn K mainGlobals "any" = some none) (z14 : PySem.W.nsIn K mainGlobals "sum" = some none) (z15 : PySem.W.nsIn K mainGlobals "min" = some none) (z16 : PySem.W.nsIn K mainGlobals "max" = some none) (z17 : PySem.W.nsIn K mainGlobals "enumerate" = some none) :
    ∃ fd : FuncData, (∀ (s : Shared) (v : Value), BindsTo s fd ⟨[v], []⟩ [("_law_script", v)]) ∧ ∀ base : Heap, K.In base → base.Ns mainGlobals mg → FnOk l.prog w K mg base CX0 3 fa fd p_law (spLaw K) := by
  have b : Blt mg := blt_of X G z0 z1 z2 z3 z4 z5 z6 z7 z8 z9 z10 z11 z12 z13 z14 z15 z16 z17
  obtain ⟨f_l_cell, fd_l_cell, D_l_cell⟩ := dn_of X G (ps := p_l_cell) d_l_cell (fun _ _ _ _ _ _ us hl => match us, hl with | [_, _], _ => rfl)
  obtain ⟨f_l_draws, fd_l_draws, D_l_draws⟩ := dn_of X G (ps := p_l_draws) d_l_draws (fun _ _ _ _ _ _ us hl => match us, hl with | [_, _], _ => rfl)
  obtain ⟨f_l_turn, fd_l_turn, D_l_turn⟩ := dn_of X G (ps := p_l_turn) d_l_turn (fun _ _ _ _ _ _ us hl => match us, hl with | [_, _], _ => rfl)
  obtain ⟨f_is_turn, fd_is_turn, D_is_turn⟩ := dn_of X G (ps := p_is_turn) d_is_turn (fun _ _ _ _ _ _ us hl => match us, hl with | [_], _ => rfl)
  obtain ⟨f_l_spoilt, fd_l_spoilt, D_l_spoilt⟩ := dn_of X G (ps := p_l_spoilt) d_l_spoilt (fun _ _ _ _ _ _ us hl => match us, hl with | [_, _, _, _], _ => rfl)
  obtain ⟨f_l_full, fd_l_full, D_l_full⟩ := dn_of X G (ps := p_l_full) d_l_full (fun _ _ _ _ _ _ us hl => match us, hl with | [_], _ => rfl)
  obtain ⟨f_l_asked, fd_l_asked, D_l_asked⟩ := dn_of X G (ps := p_l_asked) d_l_asked (fun _ _ _ _ _ _ us hl => match us, hl with | [_, _], _ => rfl)
  obtain ⟨f_law, fd_law, D_law⟩ := dn_of X G (ps := p_law) d_law (fun _ _ _ _ _ _ us hl => match us, hl with | [_], _ => rfl)
  have e := hfa.symm.trans D_law.g
  cases e
  refine ⟨fd_law, fun s v => ?_, fun base _ _ => ?_⟩
  · obtain ⟨_, _, _, _, _, _, _, _, _, rfl, _, _⟩ := D_law.F.ex
    exact .of_eq rfl
  · have c_l_cell := ok_l_cell (P := l.prog) (w := w) (base := base) D_l_cell b 
    have c_l_draws := ok_l_draws (P := l.prog) (w := w) (base := base) D_l_draws b 
    have c_l_turn := ok_l_turn (P := l.prog) (w := w) (base := base) D_l_turn b 
    have c_is_turn := ok_is_turn (P := l.prog) (w := w) (base := base) D_is_turn b 
    have c_l_spoilt := ok_l_spoilt (P := l.prog) (w := w) (base := base) D_l_spoilt b 
    have c_l_full := ok_l_full (P := l.prog) (w := w) (base := base) D_l_full b 
    have c_l_asked := ok_l_asked (P := l.prog) (w := w) (base := base) D_l_asked b c_is_turn c_l_full
    exact ok_law D_law b c_l_cell c_l_draws c_l_turn c_l_spoilt c_l_asked

end Kin

open PySem PySem.W PyProof.Rows
set_option maxRecDepth 100000 in
set_option maxHeartbeats 0 in
theorem PySem.Challenge.cw_kinhearth_k01_rows_that_are_turnings_holds : PySem.Challenge.rw_kinhearth_k01_rows_that_are_turnings.Holds := by
  w_on; o_law; k_head; (case hw => w_witness2)
  k_fill
  refine L2.walk_of (l := PySem.Challenge.rw_kinhearth_k01_rows_that_are_turnings) (n := 63) (k := 3) (x := "_law_script") (CX := fun _ => L2.CX0) (sp := fun w => Kin.spLaw _) rfl (by decide) rfl ⟨rfl, by decide, by decide⟩ (fun w h Y => PySem.W.kIn_of Y) ?F (fun _ _ a ns hl _ hS => ⟨a, ns, rfl, hS, hl, fun _ => rfl⟩) (fun _ _ _ _ _ h => h)
  case F =>
    intro w mg fa h KX G hmg
    refine' Kin.all_mk KX G hmg ?d_l_cell ?d_l_draws ?d_l_turn ?d_is_turn ?d_l_spoilt ?d_l_full ?d_l_asked ?d_law ?z0 ?z1 ?z2 ?z3 ?z4 ?z5 ?z6 ?z7 ?z8 ?z9 ?z10 ?z11 ?z12 ?z13 ?z14 ?z15 ?z16 ?z17
    (case d_l_cell => (refine' Kin.defIn_mk ?a ?l ?c ?k; (case a => k_is); (case l => k_is); (case c => k_is); (case k => k_is)))
    (case d_l_draws => (refine' Kin.defIn_mk ?a ?l ?c ?k; (case a => k_is); (case l => k_is); (case c => k_is); (case k => k_is)))
    (case d_l_turn => (refine' Kin.defIn_mk ?a ?l ?c ?k; (case a => k_is); (case l => k_is); (case c => k_is); (case k => k_is)))
    (case d_is_turn => (refine' Kin.defIn_mk ?a ?l ?c ?k; (case a => k_is); (case l => k_is); (case c => k_is); (case k => k_is)))
    (case d_l_spoilt => (refine' Kin.defIn_mk ?a ?l ?c ?k; (case a => k_is); (case l => k_is); (case c => k_is); (case k => k_is)))
    (case d_l_full => (refine' Kin.defIn_mk ?a ?l ?c ?k; (case a => k_is); (case l => k_is); (case c => k_is); (case k => k_is)))
    (case d_l_asked => (refine' Kin.defIn_mk ?a ?l ?c ?k; (case a => k_is); (case l => k_is); (case c => k_is); (case k => k_is)))
    (case d_law => (refine' Kin.defIn_mk ?a ?l ?c ?k; (case a => k_is); (case l => k_is); (case c => k_is); (case k => k_is)))
    (case z0 => k_is)
    (case z1 => k_is)
    (case z2 => k_is)
    (case z3 => k_is)
    (case z4 => k_is)
    (case z5 => k_is)
    (case z6 => k_is)
    (case z7 => k_is)
    (case z8 => k_is)
    (case z9 => k_is)
    (case z10 => k_is)
    (case z11 => k_is)
    (case z12 => k_is)
    (case z13 => k_is)
    (case z14 => k_is)
    (case z15 => k_is)
    (case z16 => k_is)
    (case z17 => k_is)
