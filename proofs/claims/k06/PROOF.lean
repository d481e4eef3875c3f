import PyProof.Rows.All
import Wide.All
import OpenK.AllK
import Wide.FinOn
import HandS.ForMost
import HandS.ForExc
import HandS.Conv
import HandS.IsInst
import HandS.Wide
import HandS.Flow
import HandS.ExcInit
import HandS.ExcField
import HandS.ExcIs
import HandS.TryMany
import HandS.Steps
import HandS.More
import KE.KExcIs
import HandS.ClsMeth
import HandS.Sort
import HandS.List
import PySem.Challenge.RW_kinhearth_k06_turnings_by_numbers
set_option Elab.async false
set_option linter.all false
set_option maxRecDepth 100000
set_option maxHeartbeats 4000000
/-! B0: words over HandS that all the laws here share -/
namespace Kin
open PySem PySem.Spec PyProof.Rows L2

/-! ### heaps: facts carried over new objects and stores -/
theorem upd_new {H : Hp} {p a : Addr} {o u : HO} (np : H p = none) (h : H a = some u) : upd H p o a = some u := by
  rw [upd_ne (ne_of_none h np)]
  exact h
theorem upd_old {H : Hp} {p a : Addr} {o u : HO} (ne : a ≠ p) (h : H a = some u) : upd H p o a = some u := by
  rw [upd_ne ne]
  exact h
theorem sameAt {H H' : Hp} (s : Same H H') {a : Addr} {o : HO} (h : H a = some o) : H' a = some o := s a o h
theorem same_new {H0 H : Hp} {p : Addr} {o : HO} (s : Same H0 H) (f : H0 p = none) : Same H0 (upd H p o) := fun b x e => by
  rw [upd_ne (ne_of_none e f)]
  exact s b x e
theorem same_seqT {K : PySem.W.Frag} {H H' : Hp} {a : Addr} {xs : List V} (e : Same H H') (h : SqT K H a xs) : SqT K H' a xs := by
  rcases h with (h | ⟨o, h⟩) | h
  · exact .inl (.inl (e _ _ h))
  · exact .inl (.inr ⟨o, e _ _ h⟩)
  · exact .inr h
/-- a list or a tuple -/
def Sq (K : PySem.W.Frag) (H : Hp) (a : Addr) (xs : List V) : Prop := SqL K H a xs ∨ SqT K H a xs
theorem same_sq {K : PySem.W.Frag} {H H' : Hp} {a : Addr} {xs : List V} (e : Same H H') (h : Sq K H a xs) : Sq K H' a xs := by
  rcases h with h | h
  · exact .inl (e.seq h)
  · exact .inr (same_seqT e h)
theorem sqL_old {K : PySem.W.Frag} {H : Hp} {p a : Addr} {o : HO} {xs : List V} (ne : a ≠ p) (h : SqL K H a xs) : SqL K (upd H p o) a xs := by
  rcases h with (h | ⟨q, h⟩) | h
  · exact .inl (.inl (upd_old ne h))
  · exact .inl (.inr ⟨q, upd_old ne h⟩)
  · exact .inr h
theorem sqT_old {K : PySem.W.Frag} {H : Hp} {p a : Addr} {o : HO} {xs : List V} (ne : a ≠ p) (h : SqT K H a xs) : SqT K (upd H p o) a xs := by
  rcases h with (h | ⟨q, h⟩) | h
  · exact .inl (.inl (upd_old ne h))
  · exact .inl (.inr ⟨q, upd_old ne h⟩)
  · exact .inr h
theorem free_ne {H : Hp} {a b : Addr} {o : HO} (h : H a = some o) (n : H b = none) : b ≠ a := fun e => by
  rw [e, h] at n
  cases n
theorem lst_sz {xs : List V} {n : Nat} (h : xs.length ≤ n) (hn : n ≤ 100000) : xs.length ≤ sizeLine := Nat.le_trans h (Nat.le_trans hn (by decide))
theorem sz_le {n : Nat} (h : n ≤ 100000) : n ≤ sizeLine := Nat.le_trans h (by decide)
theorem sz_lt {n : Nat} (h : n < 100000) : n < sizeLine := Nat.lt_of_lt_of_le h (by decide)

/-- the ways of a statement joined: what holds behind it -/
theorem seq_cut {t u : TS} {D : Ends} {σ : L2.St} {H : Hp} (R : L2.St → Hp → Prop) (h1 : ∀ N : L2.St → Hp → Prop, (∀ σ' H', R σ' H' → N σ' H') → t { D with nx := N } σ H) (h2 : ∀ σ' H', R σ' H' → u D σ' H') : tSeq t u D σ H := h1 (u D) h2

/-- an if without else whose test is false -/
theorem ifno {A : Prop} {D : Ends} {σ : L2.St} {H : Hp} (h : D.nx σ H) : if false = true then A else tNext D σ H := iteF h

/-! ### a def that can be called by its name -/
def Cal (P : Program) (w : World) (K : PySem.W.Frag) (mg : Str → Option Value) (base : Heap) (CX : CXT) (k : Nat) (x : Str) (ps : List Str) (sp : Sp) : Prop :=
  ∃ (f : Addr) (fd : FuncData), mg x = some (.ref f) ∧ PySem.W.keepIn K (.ref f) = true ∧ Binds K fd ps [] ∧ FnOk P w K mg base CX k f fd ps sp
section
variable {X : Cx} {CX : CXT} {k j : Nat} {x : Str} {ps : List Str} {sp : Sp} {E : XK} {p pos : Pos} {e : Expr} {es : List Expr} {t : TA}
theorem pe_c (c : Cal X.prog X.w X.K X.mg X.base CX k x ps sp) (hr : Room j X.A) (hj : k ≤ j) (hg : Gl X x) (hx : Passes CX X E) (ha : PA X (e :: es) t)
    (hdb : (x == ("__debug__" : Str)) = false := by decide) (he : starEach (e :: es) X.env = (false, eval e X.env) :: starEach es X.env := by rfl) (hpl : (backTo pos (starEach es X.env)).any (·.1) = false := by rfl) :
    PE X (.Call (.Name x p) (e :: es) [] pos) (tCall sp [] E t) := by
  obtain ⟨f, fd, hm, hk, hb, F⟩ := c
  exact pe_call F (hr.mono hj) hg hm hk hb .nil hx ha hdb he hpl
theorem pe_c0 (c : Cal X.prog X.w X.K X.mg X.base CX k x ps sp) (hr : Room j X.A) (hj : k ≤ j) (hg : Gl X x) (hx : Passes CX X E)
    (hdb : (x == ("__debug__" : Str)) = false := by decide) : PE X (.Call (.Name x p) [] [] pos) (tCall sp [] E tNil) := by
  obtain ⟨f, fd, hm, hk, hb, F⟩ := c
  exact pe_call0 F (hr.mono hj) hg hm hk hb .nil hx hdb
end

/-! ### rules whose reading speaks of the written part, for use within a comprehension -/
section
variable {X : Cx}
theorem ix_listK (K : PySem.W.Frag) (h : X.K = K := by rfl) : IxR X (rIxL K) := by subst h; exact ix_list
theorem ix_tupK (K : PySem.W.Frag) (h : X.K = K := by rfl) : IxR X (rIxT K) := by subst h; exact ix_tup
theorem sl_listK (K : PySem.W.Frag) (h : X.K = K := by rfl) : SlR X (rSlL K) := by subst h; exact sl_list
theorem op_in_seqK (K : PySem.W.Frag) (h : X.K = K := by rfl) : OpR X (compareOp .In) (rIn K false) := by subst h; exact op_in_seq
theorem op_notIn_seqK (K : PySem.W.Frag) (h : X.K = K := by rfl) : OpR X (compareOp .NotIn) (rIn K true) := by subst h; exact op_notIn_seq
theorem op_eqDK (K : PySem.W.Frag) (hu : X.A.units + 64 < cLine) (h : X.K = K := by rfl) : OpR X (compareOp .Eq) (rEqD K) := by subst h; exact op_eqD hu
theorem op_neDK (K : PySem.W.Frag) (hu : X.A.units + 64 < cLine) (h : X.K = K := by rfl) : OpR X (compareOp .NotEq) (rNeD K) := by subst h; exact op_neD hu
theorem call_len_seqK (K : PySem.W.Frag) (h : X.K = K := by rfl) : CallR X (.builtin "len") (fun xs H Q => ∃ p ys, xs = [.ref p] ∧ (SqL K H p ys ∨ SqT K H p ys) ∧ Q (.int ys.length) H) := by subst h; exact call_len_seq
theorem call_tuple_ofK (K : PySem.W.Frag) (h : X.K = K := by rfl) : CallR X (.type "tuple") (fun xs H Q => ∃ p ys, xs = [.ref p] ∧ ((SqL K H p ys ∧ ∀ l, H l = none → Q (.ref l) (upd H l (.tup ys))) ∨ (SqT K H p ys ∧ Q (.ref p) H))) := by subst h; exact call_tuple_of
theorem call_list_ofK (K : PySem.W.Frag) (h : X.K = K := by rfl) : CallR X (.type "list") (fun xs H Q => ∃ p ys, xs = [.ref p] ∧ (SqL K H p ys ∨ SqT K H p ys) ∧ ∀ l, H l = none → Q (.ref l) (upd H l (.lst ys))) := by subst h; exact call_list_of
theorem pe_fldK (K : PySem.W.Frag) {e : Expr} {f : Str} {ta : TE} {pos : Pos} (he : PE X e ta) (hb : attributeBase e f X.env (eval e X.env) = eval e X.env) (h : X.K = K := by rfl) : PE X (.Attribute e f pos) (tFld K ta f) := by subst h; exact pe_fld he hb
theorem pe_bmK (K : PySem.W.Frag) {o e : Expr} {es : List Expr} {to : TE} {t : TA} {name : Str} {apos cpos : Pos} {T id : String} {r : V → List V → Hp → VK → Prop} (pa : PlainAttrs T) (slot : Slot T name id) (hty : typeOf (.builtin id) = pure (.type "method_descriptor")) (hm : MtR X id r) (ho : PE X o to) (ha : PA X (e :: es) t)
    (h : X.K = K := by rfl) (hbase : attributeBase o name X.env (eval o X.env) = eval o X.env := by rfl)
    (hfew : ((backTo cpos (starEach (e :: es) X.env)).all (fun x => !x.1) && (backToKw cpos (keywordEach [] X.env)).all (fun x => x.1.isSome)
      && decide ((e :: es).length + ([] : List Keyword).length + (if ([] : List Keyword).isEmpty then 0 else 1) < 30)) = true := by rfl)
    (hline : (apos.endLine == cpos.line) = true := by rfl) (hs : starEach (e :: es) X.env = (false, eval e X.env) :: starEach es X.env := by rfl) (hplain : (backTo cpos (starEach es X.env)).any (·.1) = false := by rfl) :
    PE X (.Call (.Attribute o name apos) (e :: es) [] cpos) (tBM K T r to t) := by subst h; exact pe_bm pa slot hty hm ho ha hbase hfew hline hs hplain
end

/-! ### a def as the top has left it -/
structure Dn (K : PySem.W.Frag) (mg : Str → Option Value) (x : Str) (st : Stmt) (ps : List Str) (f : Addr) (fd : FuncData) : Prop where
  F : Fun K x x st f fd
  b : Binds K fd ps []
  g : mg x = some (.ref f)
theorem Dn.cal {P : Program} {w : World} {K : PySem.W.Frag} {mg : Str → Option Value} {base : Heap} {CX : CXT} {k : Nat} {x : Str} {st : Stmt} {ps : List Str} {sp : Sp} {f : Addr} {fd : FuncData} (D : Dn K mg x st ps f fd) (F : FnOk P w K mg base CX k f fd ps sp) :
    Cal P w K mg base CX k x ps sp := ⟨f, fd, D.g, D.F.kp, D.b, F⟩
/-- .. by what the written part says -/
def DefIn (K : PySem.W.Frag) (x : Str) (st : Stmt) : Prop := ∃ (f : Addr) (oc : Value) (od : Option Addr) (kV doc pm : Value) (an : Option Addr) (cdv ct : Value) (osl : Array (Option Value)),
  PySem.W.nsIn K mainGlobals x = some (some (.ref f)) ∧ K.lookup f = some ⟨oc, od, .func (PySem.W.fnOf x x (defArgs st) (defBody st) (defScope st) .none kV doc pm an cdv ct), osl⟩ ∧ PySem.W.codeIn K cdv x = true ∧ PySem.W.keepIn K (.ref f) = true
theorem defIn_mk {K : PySem.W.Frag} {x : Str} {st : Stmt} {f : Addr} {oc : Value} {od : Option Addr} {kV doc pm : Value} {an : Option Addr} {cdv ct : Value} {osl : Array (Option Value)} (a : PySem.W.nsIn K mainGlobals x = some (some (.ref f)))
    (l : K.lookup f = some ⟨oc, od, .func (PySem.W.fnOf x x (defArgs st) (defBody st) (defScope st) .none kV doc pm an cdv ct), osl⟩) (c : PySem.W.codeIn K cdv x = true) (k : PySem.W.keepIn K (.ref f) = true) : DefIn K x st := ⟨f, oc, od, kV, doc, pm, an, cdv, ct, osl, a, l, c, k⟩
theorem dn_of {K : PySem.W.Frag} {h : Heap} {mg : Str → Option Value} (X : K.In h) (G : h.Ns mainGlobals mg) {x : Str} {st : Stmt} {ps : List Str} (d : DefIn K x st)
    (hb : ∀ (kV doc pm : Value) (an : Option Addr) (cdv ct : Value) (us : List Value), us.length = ps.length → bindArgs (PySem.W.fnOf x x (defArgs st) (defBody st) (defScope st) .none kV doc pm an cdv ct) ⟨us, []⟩ = pure (ps.zip us)) :
    ∃ f fd, Dn K mg x st ps f fd := by
  obtain ⟨f, oc, od, kV, doc, pm, an, cdv, ct, osl, a, l, c, k⟩ := d
  have F := fun_mk (st := st) l c k
  exact ⟨f, _, F, F.binds hb, PySem.W.mg_of X G a⟩

/-! ### the built-ins that no module's name hides -/
structure Blt (mg : Str → Option Value) : Prop where
  len : mg "len" = none
  range : mg "range" = none
  ty_list : mg "list" = none
  ty_tuple : mg "tuple" = none
  ty_int : mg "int" = none
  ty_bool : mg "bool" = none
  ty_str : mg "str" = none
  ty_dict : mg "dict" = none
  ty_ValueError : mg "ValueError" = none
  sorted : mg "sorted" = none
  isinstance : mg "isinstance" = none
  abs : mg "abs" = none
  all : mg "all" = none
  any : mg "any" = none
  sum : mg "sum" = none
  min : mg "min" = none
  max : mg "max" = none
  enumerate : mg "enumerate" = none
theorem blt_of {K : PySem.W.Frag} {h : Heap} {mg : Str → Option Value} (X : K.In h) (G : h.Ns mainGlobals mg)
    (h1 : PySem.W.nsIn K mainGlobals "len" = some none) (h2 : PySem.W.nsIn K mainGlobals "range" = some none) (h3 : PySem.W.nsIn K mainGlobals "list" = some none) (h4 : PySem.W.nsIn K mainGlobals "tuple" = some none)
    (h5 : PySem.W.nsIn K mainGlobals "int" = some none) (h6 : PySem.W.nsIn K mainGlobals "bool" = some none) (h7 : PySem.W.nsIn K mainGlobals "str" = some none) (h8 : PySem.W.nsIn K mainGlobals "dict" = some none)
    (h9 : PySem.W.nsIn K mainGlobals "ValueError" = some none) (h10 : PySem.W.nsIn K mainGlobals "sorted" = some none) (h11 : PySem.W.nsIn K mainGlobals "isinstance" = some none) (h12 : PySem.W.nsIn K mainGlobals "abs" = some none)
    (h13 : PySem.W.nsIn K mainGlobals "all" = some none) (h14 : PySem.W.nsIn K mainGlobals "any" = some none) (h15 : PySem.W.nsIn K mainGlobals "sum" = some none) (h16 : PySem.W.nsIn K mainGlobals "min" = some none)
    (h17 : PySem.W.nsIn K mainGlobals "max" = some none) (h18 : PySem.W.nsIn K mainGlobals "enumerate" = some none) : Blt mg :=
  ⟨PySem.W.mg_none_of X G h1, PySem.W.mg_none_of X G h2, PySem.W.mg_none_of X G h3, PySem.W.mg_none_of X G h4, PySem.W.mg_none_of X G h5, PySem.W.mg_none_of X G h6, PySem.W.mg_none_of X G h7, PySem.W.mg_none_of X G h8, PySem.W.mg_none_of X G h9,
    PySem.W.mg_none_of X G h10, PySem.W.mg_none_of X G h11, PySem.W.mg_none_of X G h12, PySem.W.mg_none_of X G h13, PySem.W.mg_none_of X G h14, PySem.W.mg_none_of X G h15, PySem.W.mg_none_of X G h16, PySem.W.mg_none_of X G h17, PySem.W.mg_none_of X G h18⟩
end Kin

set_option Elab.async false
set_option linter.all false
set_option maxRecDepth 100000
set_option maxHeartbeats 4000000
/-! M0: turnings, as plain lists -/
namespace Kin
open PySem L2

def rgI (n : Nat) : List Int := (List.range n).map fun i : Nat => (i : Int)
theorem rgI_len (n : Nat) : (rgI n).length = n := by simp [rgI]
theorem rgI_get {n i : Nat} (h : i < n) : (rgI n)[i]? = some (i : Int) := by
  simp [rgI, h]
theorem mem_rgI {n : Nat} {x : Int} : x ∈ rgI n ↔ 0 ≤ x ∧ x < n := by
  unfold rgI
  rw [List.mem_map]
  constructor
  · rintro ⟨a, ha, rfl⟩
    have := List.mem_range.mp ha
    omega
  · rintro ⟨h0, h1⟩
    exact ⟨x.toNat, List.mem_range.mpr (by omega), by omega⟩
theorem rgI_sorted (n : Nat) : (rgI n).Pairwise (· ≤ ·) := by
  unfold rgI
  rw [List.pairwise_map]
  exact List.pairwise_lt_range.imp (fun h => by omega)
theorem rgI_nodup (n : Nat) : (rgI n).Nodup := by
  unfold rgI List.Nodup
  rw [List.pairwise_map]
  exact List.pairwise_lt_range.imp (fun h => by omega)

/-- a turning -/
structure Turn (ns : List Int) : Prop where
  nd : ns.Nodup
  lo : ∀ x ∈ ns, 0 ≤ x ∧ x < (ns.length : Int)

theorem perm_of_sub {l m : List Int} (hn : l.Nodup) (hs : ∀ x ∈ l, x ∈ m) (hl : m.length ≤ l.length) : l.Perm m := by
  induction l generalizing m with
  | nil =>
    have : m = [] := List.eq_nil_of_length_eq_zero (by simpa using hl)
    subst this
    exact List.Perm.refl _
  | cons x r ih =>
    have hx : x ∈ m := hs x List.mem_cons_self
    obtain ⟨h1, h2⟩ := List.nodup_cons.mp hn
    have hp : m.Perm (x :: m.erase x) := List.perm_cons_erase hx
    refine List.Perm.trans (List.Perm.cons x (ih (m := m.erase x) h2 (fun y hy => ?_) ?_)) hp.symm
    · have hne : y ≠ x := fun e => h1 (e ▸ hy)
      exact (List.mem_erase_of_ne hne).mpr (hs y (List.mem_cons_of_mem _ hy))
    · have := hp.length_eq
      simp only [List.length_cons] at this hl
      omega
theorem Turn.perm {ns : List Int} (t : Turn ns) : ns.Perm (rgI ns.length) :=
  perm_of_sub t.nd (fun x hx => mem_rgI.mpr (t.lo x hx)) (by rw [rgI_len]; exact Nat.le_refl _)
theorem turn_of_perm {ns : List Int} {n : Nat} (h : ns.Perm (rgI n)) : Turn ns := by
  have hl : ns.length = n := by rw [h.length_eq, rgI_len]
  refine ⟨h.symm.nodup (rgI_nodup n), fun x hx => ?_⟩
  rw [hl]
  exact mem_rgI.mp (h.mem_iff.mp hx)
theorem turn_iff {ns : List Int} : Turn ns ↔ ns.Perm (rgI ns.length) := ⟨Turn.perm, turn_of_perm⟩

def okAt (n : Nat) : List Int → List Int → Bool
  | _, [] => true
  | seen, x :: r => if x < 0 ∨ (n : Int) ≤ x ∨ x ∈ seen then false else okAt n (seen ++ [x]) r
def isTurn (ns : List Int) : Bool := okAt ns.length [] ns
theorem okAt_iff {n : Nat} : ∀ (r seen : List Int), okAt n seen r = true ↔ (∀ x ∈ r, 0 ≤ x ∧ x < (n : Int) ∧ ¬ x ∈ seen) ∧ r.Nodup
  | [], seen => by simp [okAt]
  | x :: r, seen => by
    unfold okAt
    by_cases h : x < 0 ∨ (n : Int) ≤ x ∨ x ∈ seen
    · rw [if_pos h]
      refine ⟨fun z => (nomatch z), fun z => ?_⟩
      have := z.1 x List.mem_cons_self
      rcases h with h | h | h
      · omega
      · omega
      · exact absurd h this.2.2
    · rw [if_neg h, okAt_iff r (seen ++ [x])]
      constructor
      · rintro ⟨h1, h2⟩
        refine ⟨fun y hy => ?_, List.nodup_cons.mpr ⟨fun hx => (h1 x hx).2.2 (by simp), h2⟩⟩
        rcases List.mem_cons.mp hy with rfl | hy
        · exact ⟨by omega, by omega, fun z => h (.inr (.inr z))⟩
        · have := h1 y hy
          exact ⟨this.1, this.2.1, fun z => this.2.2 (by simp [z])⟩
      · rintro ⟨h1, h2⟩
        obtain ⟨h3, h4⟩ := List.nodup_cons.mp h2
        refine ⟨fun y hy => ?_, h4⟩
        have := h1 y (List.mem_cons_of_mem _ hy)
        refine ⟨this.1, this.2.1, fun z => ?_⟩
        rcases List.mem_append.mp z with z | z
        · exact this.2.2 z
        · have e : y = x := by simpa using z
          exact h3 (e ▸ hy)
theorem isTurn_iff {ns : List Int} : isTurn ns = true ↔ Turn ns := by
  unfold isTurn
  rw [okAt_iff]
  constructor
  · rintro ⟨h1, h2⟩
    exact ⟨h2, fun x hx => ⟨(h1 x hx).1, (h1 x hx).2.1⟩⟩
  · rintro ⟨h1, h2⟩
    exact ⟨fun x hx => ⟨(h2 x hx).1, (h2 x hx).2, by simp⟩, h1⟩
/-- a sorted row is the rising one just where it is a turning -/
theorem sorted_full {ns ns' : List Int} (hp : ns'.Perm ns) (hs : ns'.Pairwise (· ≤ ·)) : decide (ns' = rgI ns.length) = isTurn ns := by
  by_cases h : Turn ns
  · rw [isTurn_iff.mpr h]
    exact decide_eq_true (PySem.W.ksm_same (hp.trans h.perm) hs (rgI_sorted _))
  · have h1 : isTurn ns = false := by
      cases e : isTurn ns with
      | false => rfl
      | true => exact absurd (isTurn_iff.mp e) h
    rw [h1]
    refine decide_eq_false fun e => h ?_
    exact turn_of_perm (e ▸ hp.symm)

/-! ### what a law draws -/
def cell (ns : List Int) (k : Nat) : Int := ns.getD k 0
def seed (c : Int) : Int :=
  if (if c < 0 then -c else c) < 10 ^ 18 then
    (((c * 48271 + 11) % 2147483647) * ((c * 48271 + 11) % 2147483647) + 40692 * ((c * 48271 + 11) % 2147483647) + c) % 2147483399
      + 2147483399 * (((((c * 48271 + 11) % 2147483647) * ((c * 48271 + 11) % 2147483647) + 40692 * ((c * 48271 + 11) % 2147483647) + c) % 2147483399 * 16807 + (c * 48271 + 11) % 2147483647) % 1000000007 + 1000000007 * ((c * 48271 + 11) % 2147483647))
  else (if c < 0 then -c else c) - 10 ^ 18
def drawn : Int → List Int → List Int
  | _, [] => []
  | s, p :: r => s % p :: drawn (s / p) r
def draws (c : Int) (ps : List Int) : List Int := drawn (seed c) ps
theorem drawn_len : ∀ (s : Int) (ps : List Int), (drawn s ps).length = ps.length
  | _, [] => rfl
  | s, p :: r => by simp [drawn, drawn_len (s / p) r]
theorem draws_len (c : Int) (ps : List Int) : (draws c ps).length = ps.length := drawn_len _ _
theorem drawn_get : ∀ (s : Int) (ps : List Int) (i : Nat) (p : Int), ps[i]? = some p → 0 < p → ∃ d, (drawn s ps)[i]? = some d ∧ 0 ≤ d ∧ d < p
  | _, [], i, p, h, _ => by simp at h
  | s, q :: r, 0, p, h, hp => by
    have e : q = p := Option.some.inj h
    subst e
    exact ⟨s % q, rfl, Int.emod_nonneg _ (by omega), Int.emod_lt_of_pos _ hp⟩
  | s, q :: r, i + 1, p, h, hp => drawn_get (s / q) r i p h hp
theorem draws_get {c : Int} {ps : List Int} {i : Nat} {p : Int} (h : ps[i]? = some p) (hp : 0 < p) : ∃ d, (draws c ps)[i]? = some d ∧ 0 ≤ d ∧ d < p := drawn_get _ _ _ _ h hp
/-- what is left of the number behind i draws -/
def rest (s : Int) : List Int → Int
  | [] => s
  | p :: r => rest (s / p) r
theorem rest_snoc : ∀ (s : Int) (ps : List Int) (p : Int), rest s (ps ++ [p]) = rest s ps / p
  | _, [], _ => rfl
  | s, q :: r, p => rest_snoc (s / q) r p
theorem drawn_snoc : ∀ (s : Int) (ps : List Int) (p : Int), drawn s (ps ++ [p]) = drawn s ps ++ [rest s ps % p]
  | _, [], _ => rfl
  | s, q :: r, p => by
    show s % q :: drawn (s / q) (r ++ [p]) = s % q :: (drawn (s / q) r ++ [rest (s / q) r % p])
    rw [drawn_snoc]

/-- the turning of a number: one of the free ones by each rest -/
def picks : Nat → List Int → Int → List Int
  | 0, _, _ => []
  | n + 1, free, code => free.getD (code % ((n : Int) + 1)).toNat 0 :: picks n (free.eraseIdx (code % ((n : Int) + 1)).toNat) (code / ((n : Int) + 1))
def turnOf (code : Int) (n : Nat) : List Int := picks n (rgI n) code
theorem perm_erase : ∀ (l : List Int) (i : Nat) (h : i < l.length), l.Perm (l[i] :: l.eraseIdx i)
  | x :: r, 0, _ => List.Perm.refl _
  | x :: r, i + 1, h => by
    have h' : i < r.length := by simpa using h
    have ih := perm_erase r i h'
    show (x :: r).Perm (r[i] :: x :: r.eraseIdx i)
    exact (List.Perm.cons x ih).trans (List.Perm.swap _ _ _)
theorem picks_perm : ∀ (n : Nat) (free : List Int) (code : Int), free.length = n → (picks n free code).Perm free
  | 0, free, code, h => by
    have : free = [] := List.eq_nil_of_length_eq_zero h
    subst this
    exact List.Perm.refl _
  | n + 1, free, code, h => by
    have h0 : 0 ≤ code % ((n : Int) + 1) := Int.emod_nonneg _ (by omega)
    have h1 : code % ((n : Int) + 1) < (n : Int) + 1 := Int.emod_lt_of_pos _ (by omega)
    have hi : (code % ((n : Int) + 1)).toNat < free.length := by omega
    have hl : (free.eraseIdx (code % ((n : Int) + 1)).toNat).length = n := by
      rw [List.length_eraseIdx_of_lt hi]
      omega
    unfold picks
    rw [List.getD_eq_getElem?_getD, List.getElem?_eq_getElem hi]
    exact (List.Perm.cons _ (picks_perm n _ _ hl)).trans (perm_erase free _ hi).symm
theorem turnOf_perm (code : Int) (n : Nat) : (turnOf code n).Perm (rgI n) := picks_perm n _ code (rgI_len n)
theorem turnOf_len (code : Int) (n : Nat) : (turnOf code n).length = n := by rw [(turnOf_perm code n).length_eq, rgI_len]
theorem turnOf_turn (code : Int) (n : Nat) : Turn (turnOf code n) := turn_of_perm (turnOf_perm code n)

/-! ### data -/
theorem eqvAll_ints : ∀ ns ms : List Int, PyData.eqvAll (ns.map PyData.int) (ms.map PyData.int) = decide (ns = ms)
  | [], [] => by simp [PyData.eqvAll]
  | [], y :: ys => by simp [PyData.eqvAll]
  | x :: xs, [] => by simp [PyData.eqvAll]
  | x :: xs, y :: ys => by
    show PyData.eqvAll (PyData.int x :: xs.map PyData.int) (PyData.int y :: ys.map PyData.int) = _
    rw [PyData.eqvAll, eqvAll_ints xs ys, PyData.eqv]
    by_cases h : x = y <;> by_cases h2 : xs = ys <;> simp [h, h2]
theorem eqv_listI (ns ms : List Int) : PyData.eqv (.list (ns.map PyData.int)) (.list (ms.map PyData.int)) = decide (ns = ms) := by
  rw [PyData.eqv, eqvAll_ints]
theorem eqv_tupI (ns ms : List Int) : PyData.eqv (.tuple (ns.map PyData.int)) (.tuple (ms.map PyData.int)) = decide (ns = ms) := by
  rw [PyData.eqv, eqvAll_ints]
end Kin

set_option Elab.async false
set_option linter.all false
set_option maxRecDepth 100000
set_option maxHeartbeats 4000000
/-! B1: lists of numbers as values and as data -/
namespace Kin
open PySem PySem.Spec PyProof.Rows L2
theorem rgV_int (n : Nat) : rgV 0 (n : Int) = (rgI n).map V.int := by
  unfold rgV rgI
  rw [List.map_map, show ((n : Int) - 0).toNat = n by omega]
  refine List.map_congr_left fun i _ => ?_
  show V.int (0 + (i : Int)) = V.int (i : Int)
  rw [Int.zero_add]
theorem rg_ok {n : Nat} (h : n ≤ 1000) : RgOk 0 (n : Int) := RgOk.of_le (by omega) (by omega) (by omega) (by omega)
theorem int_at {ns : List Int} {i : Nat} {y : V} (h : (ns.map V.int)[i]? = some y) : ∃ z, ns[i]? = some z ∧ y = V.int z := by
  rw [List.getElem?_map] at h
  cases e : ns[i]? with
  | none => rw [e] at h; cases h
  | some z => rw [e] at h; exact ⟨z, rfl, (Option.some.inj h).symm⟩
theorem at_int {ns : List Int} {i : Int} {z : Int} (h0 : 0 ≤ i) (h : ns[i.toNat]? = some z) : atI (ns.map V.int) i = some (V.int z) := by
  have e : i = ((i.toNat : Nat) : Int) := by omega
  rw [e]
  refine atI_nat ?_
  rw [List.getElem?_map, h]
  rfl
theorem at_V {xs : List V} {i : Int} {z : V} (h0 : 0 ≤ i) (h : xs[i.toNat]? = some z) : atI xs i = some z := by
  have e : i = ((i.toNat : Nat) : Int) := by omega
  rw [e]
  exact atI_nat h
theorem ixN_in {n : Nat} {i : Int} (h0 : 0 ≤ i) (h1 : i < n) : ixN n i = some i.toNat := by
  unfold ixN
  rw [if_pos h0, if_pos h1]
theorem seqIx_in {n : Nat} {i : Int} (h0 : 0 ≤ i) (h1 : i < n) : seqIndex? i n = some i.toNat := (ixN_seq (ixN_in h0 h1)).1
theorem getD_some {ns : List Int} {i : Nat} (h : i < ns.length) : ns[i]? = some (ns.getD i 0) := by
  rw [List.getD_eq_getElem?_getD, List.getElem?_eq_getElem h]
  rfl
theorem set_ints (ns : List Int) (j : Nat) (z : Int) : (ns.map V.int).set j (V.int z) = (ns.set j z).map V.int := by rw [List.map_set]
theorem erase_ints (ns : List Int) (j : Nat) : (ns.map V.int).eraseIdx j = (ns.eraseIdx j).map V.int := by
  induction ns generalizing j with
  | nil => rfl
  | cons x r ih =>
    cases j with
    | zero => rfl
    | succ j =>
      show V.int x :: (r.map V.int).eraseIdx j = V.int x :: (r.eraseIdx j).map V.int
      rw [ih]
theorem snoc_ints (ns : List Int) (z : Int) : ns.map V.int ++ [V.int z] = (ns ++ [z]).map V.int := by rw [List.map_append]; rfl

theorem cut63 (ns : List Int) : cutV (ns.map V.int) none (some 63) = (ns.take 63).map V.int := by
  unfold cutV
  rw [HT.sIx_none, show HT.sIx (ns.map V.int).length (ns.map V.int).length (some 63) = min 63 (ns.map V.int).length from HT.sIx_nat _ _ 63]
  rw [List.drop_zero, List.map_take, Nat.sub_zero, List.take_eq_take_iff]
  omega

/-! ### as data -/
theorem dpAll_ints {K : PySem.W.Frag} {H : Hp} : ∀ ns : List Int, DpAll K H (ns.map V.int) (ns.map PyData.int)
  | [] => .nil
  | x :: r => .cons (.int x) (dpAll_ints r)
theorem dp_listI {K : PySem.W.Frag} {H : Hp} {a : Addr} {ns : List Int} (h : SqL K H a (ns.map V.int)) : Dp K H (.ref a) (.list (ns.map PyData.int)) := .lst h (dpAll_ints ns)
theorem dp_tupI {K : PySem.W.Frag} {H : Hp} {a : Addr} {ns : List Int} (h : SqT K H a (ns.map V.int)) : Dp K H (.ref a) (.tuple (ns.map PyData.int)) := .tup h (dpAll_ints ns)
theorem canLayAll_ints : ∀ ns : List Int, PyData.canLayAll0 (ns.map PyData.int) = true
  | [] => by simp [PyData.canLayAll0]
  | x :: r => by
    show PyData.canLayAll0 (PyData.int x :: r.map PyData.int) = true
    rw [PyData.canLayAll0, canLayAll_ints r, PyData.canLay0]
    rfl
theorem depthAll_ints : ∀ ns : List Int, PyData.depthAll (ns.map PyData.int) = 0
  | [] => by simp [PyData.depthAll]
  | x :: r => by
    show PyData.depthAll (PyData.int x :: r.map PyData.int) = 0
    rw [PyData.depthAll, depthAll_ints r, PyData.depth]
    rfl
theorem shaped_listI (ns : List Int) : SeqAt.shaped (.list (ns.map PyData.int)) = true := by
  unfold SeqAt.shaped
  rw [PyData.canLay0, canLayAll_ints, PyData.depth, depthAll_ints]
  rfl
theorem shaped_tupI (ns : List Int) : SeqAt.shaped (.tuple (ns.map PyData.int)) = true := by
  unfold SeqAt.shaped
  rw [PyData.canLay0, canLayAll_ints, PyData.depth, depthAll_ints]
  rfl
end Kin

set_option Elab.async false
set_option linter.all false
set_option maxRecDepth 100000
set_option maxHeartbeats 4000000
/-! B2: sorted of a tuple; a def called through its class; errors whose __init__ calls the base's -/
namespace Kin
open PySem PySem.Spec PyProof.Rows L2

/-! ### sorted(t), t a tuple of numbers -/
section
variable {prog : Program} {w : World} {A : Around} {E : Value → Shared → Prop} {s : Shared}
theorem gather_tup {l : Addr} {vs : List Value} {Q : List Value → Shared → Prop} (hl : IsTup s.heap l vs.toArray) (hsz : vs.length ≤ sizeLine)
    (h : Q vs { s with heap := (s.heap.push (seqObj "list" #[] 0)).update s.heap.objs.size (Obj.mapSeq (· ++ vs.toArray)) }) :
    wpAny (model prog w) A (collect (.ref l)) Q E s := by
  obtain ⟨o, ho, hc, n, hd⟩ := id hl
  have ho2 : (s.heap.push (seqObj "list" #[] 0)).get? l = some o := Heap.get?_push_of_some _ ho
  unfold collect
  refine wpAny_bind (wpAny_runValue (codeAny_builtin entry_proto_collect' ?_))
  show wpAny _ _ (do again (.builtin "list.__iadd__" ⟨[← newList [], .ref l], []⟩)) _ _ s
  refine wpAny_bind (wpAny_newList (wpAny_pure ⟨Code.quiet_builtin _ (by decide +kernel), codeAny_builtin entry_list_iadd' ?_⟩))
  show wpAny _ _ (Builtin.List.listExtendWith (.ref s.heap.objs.size) (.ref l) (.ref s.heap.objs.size)) _ _ { s with heap := s.heap.push (seqObj "list" #[] 0) }
  unfold Builtin.List.listExtendWith
  refine wpAny_bind (wpAny_typeOf (T := "tuple") ⟨o, ho2, hc⟩ ?_)
  have tt : (Value.type "tuple" == Value.type "tuple") = true := by rfl
  rw [if_pos (by rw [tt]; simp)]
  refine wpAny_bind (listItems_at ho2 hd (wpAny_bind (listItems_at (xs := #[]) (n := 0) (Heap.get?_push_size _ rfl) rfl ?_)))
  rw [if_neg (by simp)]
  refine wpAny_bind (listUpdate_at (xs := #[]) (n := 0) (Heap.get?_push_size _ rfl) rfl ?_ (Nat.zero_le _) (by show (#[] ++ vs.toArray).size ≤ sizeLine + 1; simp only [Array.size_append, List.size_toArray, List.length_nil]; omega))
  refine wpAny_pure ?_
  show wpAny (model prog w) A (do
      let o ← load s.heap.objs.size
      match o.data with
      | .seq xs _ => pure xs.toList
      | _ => unsupported "internal:collect") Q E { s with heap := (s.heap.push (seqObj "list" #[] 0)).update s.heap.objs.size (Obj.mapSeq (· ++ vs.toArray)) }
  refine wpAny_bind (wpAny_load (get?_update_seq (Heap.get?_push_size _ rfl) _) ?_)
  show wpAny _ _ (pure ((#[] : Array Value) ++ vs.toArray).toList) Q E _
  rw [show ((#[] : Array Value) ++ vs.toArray).toList = vs by simp]
  exact wpAny_pure h
theorem sorted_tup {l : Addr} {vs : List Value} {ns : List Int} {Q : Value → Shared → Prop} (hl : IsTup s.heap l vs.toArray) (hI : IntsAre vs ns) (h64 : vs.length < 64)
    (h : ∀ (out : Array Value) (ns' : List Int), IntsAre out.toList ns' → ns'.Perm ns → ns'.Pairwise (· ≤ ·) → Q (.ref (s.heap.objs.size + 1)) { s with heap := sortedAll s.heap vs out }) :
    wpAny (model prog w) A (call (.builtin "sorted") [.ref l]) Q E s := by
  refine Calls.call_function_entry kind_sorted plain_sorted entry_sorted (args_sorted1 _) ?_
  unfold Builtin.«sorted»
  refine wpAny_bind (m := checkCount "sorted" 1 1 _) (wpAny_pure (wpAny_bind (gather_tup hl (by rw [sizeLine_eq]; omega) (wpAny_bind (wpAny_newList ?_)))))
  have hz : ((s.heap.push (seqObj "list" #[] 0)).update s.heap.objs.size (Obj.mapSeq (· ++ vs.toArray))).objs.size = s.heap.objs.size + 1 := by
    rw [Heap.size_update, size_push']
  have hL : (((s.heap.push (seqObj "list" #[] 0)).update s.heap.objs.size (Obj.mapSeq (· ++ vs.toArray))).push (seqObj "list" vs.toArray 0)).get? (s.heap.objs.size + 1) = some (seqObj "list" vs.toArray 0) := by
    rw [← hz]; exact Heap.get?_push_size _ rfl
  show wpAny _ _ _ _ _ { s with heap := ((s.heap.push (seqObj "list" #[] 0)).update s.heap.objs.size (Obj.mapSeq (· ++ vs.toArray))).push (seqObj "list" vs.toArray 0) }
  rw [hz]
  refine wpAny_bind (wpAny_holding (wpAny_call_entry slot_list_sort ⟨_, hL, rfl⟩ entry_list_sort (list_sort_tree hL hI h64 fun out ns' a1 a2 a3 => ⟨_, rfl, ?_⟩) (args_list_sort _)))
  exact wpAny_pure ⟨_, rfl, h out ns' a1 a2 a3⟩
end
def rSortedTup (K : PySem.W.Frag) : List V → Hp → VK → Prop := fun vs H Q => ∃ (a : Addr) (ns : List Int), vs = [V.ref a] ∧ SqT K H a (ns.map V.int) ∧ ns.length < 64 ∧
  ∀ (ns' : List Int) (p : Addr), ns'.Perm ns → ns'.Pairwise (· ≤ ·) → H p = none → Q (.ref p) (upd H p (.lst (ns'.map V.int)))
theorem cr_sortedTup {X : Cx} : CallR X (.builtin "sorted") (rSortedTup X.K) := by
  intro pins s σ H vs us Q I r h
  obtain ⟨a, ns, rfl, hs, h64, q⟩ := h
  obtain ⟨its, rv, hl, _⟩ := I.tuple hs
  rw [Vals.ref1 r]
  have hi := rv.ints
  refine sorted_tup hl hi (by rw [hi.length]; exact h64) fun out ns' h1 h2 h3 => ?_
  obtain ⟨ep, he'⟩ := PyProof.Rows.sortedAll_at s.heap its out
  have hlen : (ns'.map V.int).length ≤ sizeLine := by rw [List.length_map, h2.length_eq]; exact small64 h64
  exact ⟨.ref _, upd H (s.heap.objs.size + 1) (.lst (ns'.map V.int)), I.laid (t' := s.toks) (fun _ _ => PyProof.Rows.sortedAll_old) (Nat.le_succ _) ⟨hlen, out.toList, ep, vals_of_ints h1, he'⟩, rfl, q ns' _ h2 h3 (I.hok.fresh (Nat.le_succ _))⟩
theorem cr_sortedTupK {X : Cx} (K : PySem.W.Frag) (h : X.K = K := by rfl) : CallR X (.builtin "sorted") (rSortedTup K) := by subst h; exact cr_sortedTup

/-! ### C.m(e, ..), C a class of the text, m a def of it -/
def tCfn (C : Addr) (sp : Sp) (E : XK) (ta : TE) (t : TA) : TE := fun σ H Q => ta σ H fun x H1 => x = .ref C ∧ t σ H1 fun vs H2 => sp vs H2 Q E
theorem pe_cfn {X : Cx} {CX : CXT} {k j : Nat} {C f : Addr} {fd : FuncData} {ps : List Str} {mc : Value} {sp : Sp} {E : XK} {o e : Expr} {es : List Expr} {m : Str} {pos apos : Pos} {ta : TE} {t : TA} {pl : Sem Bool} (he : PE X o ta) (r : ClX.CRead X.K C mc)
    (hv : PySem.W.findCls X.K (.ref C) mc m = some (.val (.ref f))) (hk : PySem.W.keepIn X.K (.ref f) = true) (F : FnOk X.prog X.w X.K X.mg X.base CX k f fd ps sp) (hr : Room j X.A) (hj : k ≤ j) (hb : Binds X.K fd ps []) (hx : Passes CX X E) (ha : PA X (e :: es) t)
    (hst : starEach (e :: es) X.env = (false, eval e X.env) :: starEach es X.env := by rfl) (hpl : (backTo pos (starEach es X.env)).any (·.1) = false := by rfl)
    (ht : eval (.Call (.Attribute o m apos) (e :: es) [] pos) X.env = (do
      let ov ← eval o X.env
      standAt apos.atName
      let (f, first) ← holding [ov] (getMethod ov m pl)
      callWith pos f first (backTo pos (starEach (e :: es) X.env)) (backToKw pos (keywordEach [] X.env))) := by rfl) :
    PE X (.Call (.Attribute o m apos) (e :: es) [] pos) (tCfn C sp E ta t) := by
  refine ⟨fun pins s σ H Q I h => ?_⟩
  refine PySem.W.methodCall_KW (pl := pl) (thn (he.run pins s σ H _ I h) fun u s1 ⟨x, H1, I1, rx, ex, q⟩ => ?_) ht
  subst ex
  obtain rfl : u = Value.ref C := rx
  refine PySem.W.method_cls I1.kIn r.ga (ClX.getcval_ok (v := V.ref f) (u := Value.ref f) I1 r ⟨hv, rfl⟩ fun s2 I2 => ?_)
  refine PySem.W.callWith_K (first := []) (h₀ := X.base) I.ok.mod.kin hk (thn (ha.run pos pins s2 σ H1 _ I2 q) fun us s3 ⟨vs, H2, I3, rv, q2⟩ => ⟨I3.kIn, ?_⟩) hst hpl
  have q3 : sp (vs ++ []) H2 Q E := by rw [List.append_nil]; exact q2
  exact run_fn (us := us) (vs := vs) F (hr.mono hj) hb .nil hx I3 rv q3

/-! ### error classes over KinError -/
/-- what the written part says of such a class -/
structure KinC (K : PySem.W.Frag) (C : Addr) : Prop where
  ox : OexC K C
  xf : XfC K C
  cl : PySem.W.findIn K (.ref C) "__class__" = some (some (.builtin "object.__class__"))
  gt : PySem.W.specialIn K (.builtin "object.__class__") "__get__" = some (some (.builtin "getset_descriptor.__get__"))
  tk : PySem.W.takesIn K (.builtin "object.__class__") = some true
  mr : PySem.W.mroIn K C (.type "object") = some true
  nw : PySem.W.findIn K (.ref C) "word" = some none
/-- __init__(self, ..) of the base: it sets the word alone -/
def spKin (K : PySem.W.Frag) : Sp := fun vs H Q _ => ∃ (a C : Addr) (y : V), vs = [.ref a, y] ∧ KinC K C ∧ H a = some (exo a C none) ∧
  ∀ dx, H dx = none → dx ≠ a → Q .non (upd (upd H dx (exd dx [("word", y)])) a (exo a C (some dx)))
/-- __init__(self) of a class that only says its word -/
def spIni (K : PySem.W.Frag) (z : Str) : Sp := fun vs H Q _ => ∃ (a C : Addr), vs = [.ref a] ∧ KinC K C ∧ H a = some (exo a C none) ∧
  ∀ dx, H dx = none → dx ≠ a → Q .non (upd (upd H dx (exd dx [("word", .str z)])) a (exo a C (some dx)))
/-- such a class by its name: it can be made and raised -/
def Rsb (P : Program) (w : World) (K : PySem.W.Frag) (mg : Str → Option Value) (base : Heap) (k : Nat) (x : Str) (C : Addr) (z : Str) : Prop :=
  mg x = some (.ref C) ∧ KinC K C ∧ ∃ (fI : Addr) (fd : FuncData), PySem.W.findIn K (.ref C) "__init__" = some (some (.ref fI)) ∧ PySem.W.typeIn K (.ref fI) = some (.type "function") ∧ Binds K fd ["self"] [] ∧ FnOk P w K mg base CX0 k fI fd ["self"] (spIni K z)
section
variable {X : Cx} {p pos pos2 : Pos}
theorem pmk_oex0 {CX : CXT} {x : Str} {C fI : Addr} {k : Nat} {fd : FuncData} {ps : List Str} {sp : Sp} (T : OexC X.K C) (iC : PySem.W.findIn X.K (.ref C) "__init__" = some (some (.ref fI))) (tI : PySem.W.typeIn X.K (.ref fI) = some (.type "function"))
    (F1 : FnOk X.prog X.w X.K X.mg X.base CX k fI fd ps sp) (hr : Room (k + 1) X.A) (hb : Binds X.K fd ps []) (hx : Passes CX X (fun _ _ _ => False)) (hg : Gl X x) (hm : X.mg x = some (.ref C))
    (hdb : (x == ("__debug__" : Str)) = false := by decide) :
    PMk X (.Call (.Name x p) [] [] pos) (tMkO C sp [] tNil) := by
  intro pins s σ H Q I h
  obtain ⟨nm, q, N, bs, bm, sn, sub, ab, col, dd, k0, k1, k2, k3, k5, hC, hbm⟩ := T.cls
  obtain ⟨_, q1⟩ := (show ([] : List V).length ≤ 1000 ∧ _ from h)
  refine wpAny_Call_Name_kw (ld_glob I hg hm ?_ hdb)
  refine PySem.W.callWith_K0 I.kIn T.kC ?_
  show wpAny _ _ (call (.ref C) []) _ _ _
  obtain ⟨hp, g, dr, tk, os⟩ := s
  have hsz : hp.objs.size ≤ hp.objs.size + 1 := Nat.le_succ _
  have hq := q1 (hp.objs.size + 1) (I.hok.fresh hsz)
  have kk : ∀ b o, hp.get? b = some o → ((hp.push (PySem.W.kdv_tup [])).push (PySem.HandSPX.excO C hp.objs.size)).get? b = some o := fun b o e => Heap.get?_push_of_some _ (Heap.get?_push_of_some _ e)
  have hget : ((hp.push (PySem.W.kdv_tup [])).push (PySem.HandSPX.excO C hp.objs.size)).get? (hp.objs.size + 1) = some (PySem.HandSPX.excO C hp.objs.size) := by heap_get
  have I2 : Inv X pins σ (upd H (hp.objs.size + 1) (exo (hp.objs.size + 1) C none)) ⟨(hp.push (PySem.W.kdv_tup [])).push (PySem.HandSPX.excO C hp.objs.size), g, dr, tk, os⟩ :=
    I.laid (t' := tk) (a := hp.objs.size + 1) (o := exo (hp.objs.size + 1) C none) (h' := (hp.push (PySem.W.kdv_tup [])).push (PySem.HandSPX.excO C hp.objs.size)) kk hsz (exo_ok hget)
  have r2 : Vals [V.ref (hp.objs.size + 1)] [Value.ref (hp.objs.size + 1)] := .cons rfl .nil
  have hl : ([Value.ref (hp.objs.size + 1)] ++ []).length = ps.length := by
    have e := F1.len _ _ _ _ hq
    exact e
  refine wpAny_call (PySem.HandSPX.call_own F.excBase_ValueError (fun Y => PySem.HandSPX.refsVE_contains Y bm hbm) (I.kIn _ _ hC) (PySem.W.looks_findIn I.kIn iC) (fun self => PySem.W.bind_fn I.kIn self tI) (Nat.zero_le _)
    (codeAny_mono (F1.run _ X.stack _ _ ⟨[Value.ref (hp.objs.size + 1)], []⟩ [Value.ref (hp.objs.size + 1)] _ _ (fun _ _ _ => False) (hr.make C [] []) (I2.env0.make C [] []) (hb _ [Value.ref (hp.objs.size + 1)] I2.kIn hl) r2 hq) fun r s' hq' => ?_))
  cases r with
  | error er => exact hx pins σ _ _ er s' I2 hq'
  | ok fl =>
    cases fl with
    | ret u =>
      obtain ⟨v, H2, os2, bare2, un2, hok2, rv, ev, d, fs, ea, ed, hd1, q2⟩ := hq'
      subst ev
      obtain ⟨h2, g2, d2, t2, os'⟩ := s'
      exact ⟨rv, mk_end (raises_own T.exC T.tyC) I hsz kk un2 hok2 os2 bare2 ea ed hd1 q2⟩
    | next => exact False.elim hq'
    | brk => exact False.elim hq'
    | cont => exact False.elim hq'
/-- what __init__ leaves, once the error is let go -/
theorem upd_gone {H : Hp} {a dx : Addr} {o1 o2 o3 : HO} {o0 : HO} (na : H a = none) (nd : dx ≠ a) : upd (del (upd (upd (upd H a o0) dx o1) a o2) a) dx o3 = upd H dx o3 := by
  funext b
  by_cases hb : b = dx
  · rw [hb, upd_same, upd_same]
  · rw [upd_ne hb, upd_ne hb]
    by_cases ha : b = a
    · rw [ha, del_same, na]
    · rw [del_ne ha, upd_ne ha, upd_ne hb, upd_ne ha]
/-- raise X() -/
def tRsb (C : Addr) (z : Str) (W : WX) : TS := fun _ σ H => ∀ d, H d = none → W (.ref C) (some d) σ (upd H d (.xd [("word", .str z)]))
theorem ps_rsb {k j : Nat} {x : Str} {C : Addr} {z : Str} {W : WX} (R : Rsb X.prog X.w X.K X.mg X.base k x C z) (hr : Room j X.A) (hj : k + 1 ≤ j) (hc : X.calm = true) (tk : Takes X W) (hg : Gl X x) (hdb : (x == ("__debug__" : Str)) = false := by decide) :
    PS X (.Raise (some (.Call (.Name x p) [] [] pos)) none pos2) (tRsb C z W) := by
  obtain ⟨hm, T, fI, fd, iC, tI, hb, F⟩ := R
  have P := ps_raise (pos := pos2) hc tk (pmk_oex0 (p := p) (pos := pos) T.ox iC tI F (hr.mono hj) hb pass0 hg hm hdb)
  refine ⟨fun pins s σ H D I h => P.run pins s σ H D I ?_⟩
  refine ⟨Nat.zero_le _, fun a na => ⟨a, C, rfl, T, upd_same, fun dx nd ne => ⟨rfl, dx, _, upd_same, upd_old ne upd_same, ?_, ?_⟩⟩⟩
  · rw [upd_ne ne] at nd
    exact nd
  · have nd2 : H dx = none := by
      rw [upd_ne ne] at nd
      exact nd
    have e := upd_gone (o1 := exd dx [(("word" : Str), V.str z)]) (o2 := exo a C (some dx)) (o3 := .xd [(("word" : Str), V.str z)]) (o0 := exo a C none) na ne
    show W _ _ _ (upd (del (upd (upd (upd H a (exo a C none)) dx (exd dx [(("word" : Str), V.str z)])) a (exo a C (some dx))) a) dx (.xd [(("word" : Str), V.str z)]))
    rw [e]
    exact h dx nd2
end

/-! ### in an except suite: e.f, isinstance(e, C), e the error of any of these classes -/
section
variable {X : Cx} {a : Addr} {oe : Obj} {cls : Value} {d : Option Addr} {pn : List (Addr × Obj)}
def tEf (K : PySem.W.Frag) (a : Addr) (cls : Value) (d : Option Addr) (f : Str) (te : TE) : TE := fun σ H Q => te σ H fun x H1 => ∃ (C dd : Addr) (fs : List (Str × V)) (v : V), x = .ref a ∧ cls = .ref C ∧ XfC K C ∧ PySem.W.findIn K (.ref C) f = some none ∧ d = some dd ∧ H1 dd = some (.xd fs) ∧ fs.lookup f = some v ∧ Q v H1
theorem pe_ef (K : PySem.W.Frag) {e : Expr} {te : TE} {pos : Pos} {n : Str} (hz : Zc cls d oe) (hf : ∃ vs, oe.data = .fields vs) (he : PE (X.suite a ((a, oe) :: pn)) e te) (hK : X.K = K := by rfl) (hb : attributeBase e n X.env (eval e X.env) = eval e X.env := by rfl) :
    PE (X.suite a ((a, oe) :: pn)) (.Attribute e n pos) (tEf K a cls d n te) := by
  subst hK
  refine ⟨fun pins s σ H Q I h => ?_⟩
  refine attr_of hb (thn (he.run pins s σ H _ I h) fun u s1 hh => ?_)
  obtain ⟨x, H1, I1, rx, C, dd, fs, v, ex, ec, T, hno, ed, ea, l, q⟩ := hh
  subst ex ec ed
  obtain rfl : u = Value.ref a := rx
  obtain ⟨ha, _⟩ := I1.pin (a, oe) (List.mem_append_left _ List.mem_cons_self)
  obtain ⟨vs, hd⟩ := hf
  have hx : ObjOk X.prog X.w H1 s1.heap dd (.xd fs) := I1.hok dd _ ea
  obtain ⟨mA, hns, hr⟩ := hx
  obtain ⟨od, ho, hl⟩ := lookIn_ns hns
  obtain ⟨u, hu, ru⟩ := RelO.some_of (v := v) (o := mA n) (by rw [← l]; exact hr n)
  have J : PySem.W.InstAt s1.heap a oe C (some od) := ⟨ha, hz.1, by unfold PySem.W.notCls; rw [hd] <;> rfl, by rw [hz.2]; exact ho⟩
  exact HandSPX.exc_get I1.kIn J T.ga T.gg T.exC (PySem.W.findObj_own T.hdC hno rfl (by rw [hl, hu])) (handed_of ru) ⟨v, H1, I1.tok _, ru, q⟩
def rEis (K : PySem.W.Frag) (a : Addr) (cls : Value) (d : Option Addr) : List V → Hp → VK → Prop := fun xs H Q => ∃ (D dd : Addr) (fs : List (Str × V)) (c : V) (cv : Value) (b : Bool), xs = [.ref a, c] ∧ cls = .ref D ∧ KinC K D ∧ d = some dd ∧ H dd = some (.xd fs) ∧
  ClsV c cv ∧ PySem.W.kitOne K (.ref D) cv = some b ∧ Q (.bl b) H
theorem call_eis (K : PySem.W.Frag) (hz : Zc cls d oe) (hf : ∃ vs, oe.data = .fields vs) (hK : X.K = K := by rfl) : CallR (X.suite a ((a, oe) :: pn)) (.builtin "isinstance") (rEis K a cls d) := by
  subst hK
  intro pins s σ H xs us Q I r h
  obtain ⟨D, dd, fs, c, cv, b, rfl, ec, T, ed, ea, hcv, e, q⟩ := h
  subst ec ed
  obtain ⟨u1, u2, rfl, r1, r2⟩ := vals2 r
  obtain rfl : u1 = Value.ref a := r1
  have ecv := hcv.eq r2
  subst ecv
  obtain ⟨hget, _⟩ := I.pin (a, oe) (List.mem_append_left _ List.mem_cons_self)
  obtain ⟨vs, hv⟩ := hf
  have hx : ObjOk X.prog X.w H s.heap dd (.xd fs) := I.hok dd _ ea
  obtain ⟨mA, hns, hr⟩ := hx
  obtain ⟨od, ho, hl⟩ := lookIn_ns hns
  have J : PySem.W.InstAt s.heap a oe D (some od) := ⟨hget, hz.1, by unfold PySem.W.notCls; rw [hv] <;> rfl, by rw [hz.2]; exact ho⟩
  have hcl : (PySem.W.clsIn X.K D).isSome = true := by
    obtain ⟨cd, hc, _⟩ := PySem.W.any_some T.xf.hdC
    rw [hc]
    rfl
  exact PySem.W.kia_one (PySem.W.kitx_exc (ox := oe) (od := some od) hcl T.xf.ga T.xf.gg T.xf.exC T.cl T.gt T.tk T.mr) I.kIn J e (fun z => nomatch z) fun tk => ⟨.bl b, H, I.kept (t' := tk) fun _ _ z => z, rfl, q⟩
end

/-! ### calls whose errors are wished for at the caller's slots; errors that go on to the caller -/
section
variable {X : Cx} {CX : CXT} {k j : Nat} {x : Str} {ps : List Str} {sp : Sp} {E : L2.St → XK} {p pos : Pos} {e : Expr} {es : List Expr} {t : TA}
theorem pe_cS (c : Cal X.prog X.w X.K X.mg X.base CX k x ps sp) (hr : Room j X.A) (hj : k ≤ j) (hg : Gl X x) (hx : ∀ σ, PassesAt CX X σ (E σ)) (ha : PA X (e :: es) t)
    (hdb : (x == ("__debug__" : Str)) = false := by decide) (he : starEach (e :: es) X.env = (false, eval e X.env) :: starEach es X.env := by rfl) (hpl : (backTo pos (starEach es X.env)).any (·.1) = false := by rfl) :
    PE X (.Call (.Name x p) (e :: es) [] pos) (tCallS sp E t) := by
  obtain ⟨f, fd, hm, hk, hb, F⟩ := c
  exact pe_callS F (hr.mono hj) hg hm hk hb hx ha hdb he hpl
end
end Kin

set_option Elab.async false
set_option linter.all false
set_option maxRecDepth 100000
set_option maxHeartbeats 4000000
/-! B3: two values that are alike as data; a def that is never called; data's kinds -/
namespace Kin
open PySem PySem.Spec PyProof.Rows L2
theorem ix_seqK {X : Cx} (K : PySem.W.Frag) (h : X.K = K := by rfl) : IxR X (rIx K) := by subst h; exact ix_seq
/-- alike: no more than n lists or tuples within one another -/
inductive Alike (K : PySem.W.Frag) (H : Hp) : Nat → V → V → Prop
  | non {n : Nat} : Alike K H n .non .non
  | bl {n : Nat} (b : Bool) : Alike K H n (.bl b) (.bl b)
  | int {n : Nat} (i : Int) : Alike K H n (.int i) (.int i)
  | str {n : Nat} (z : Str) : Alike K H n (.str z) (.str z)
  | lst {n : Nat} {a b : Addr} {xs ys : List V} (ha : SqL K H a xs) (hb : SqL K H b ys) (hl : xs.length = ys.length) (hz : xs.length ≤ 1000)
      (h : ∀ (i : Nat) (x y : V), xs[i]? = some x → ys[i]? = some y → Alike K H n x y) : Alike K H (n + 1) (.ref a) (.ref b)
  | tup {n : Nat} {a b : Addr} {xs ys : List V} (ha : SqT K H a xs) (hb : SqT K H b ys) (hl : xs.length = ys.length) (hz : xs.length ≤ 1000)
      (h : ∀ (i : Nat) (x y : V), xs[i]? = some x → ys[i]? = some y → Alike K H n x y) : Alike K H (n + 1) (.ref a) (.ref b)
theorem Alike.same {K : PySem.W.Frag} {H H' : Hp} (s : Same H H') {n : Nat} {x y : V} (h : Alike K H n x y) : Alike K H' n x y := by
  induction h with
  | non => exact .non
  | bl b => exact .bl b
  | int i => exact .int i
  | str z => exact .str z
  | lst ha hb hl hz _ ih => exact .lst (s.seq ha) (s.seq hb) hl hz ih
  | tup ha hb hl hz _ ih => exact .tup (same_seqT s ha) (same_seqT s hb) hl hz ih
theorem alike_ints {K : PySem.W.Frag} {H : Hp} {n : Nat} {ns : List Int} : ∀ (i : Nat) (x y : V), (ns.map V.int)[i]? = some x → (ns.map V.int)[i]? = some y → Alike K H n x y := fun i x y h1 h2 => by
  obtain ⟨z, hz, rfl⟩ := int_at h1
  rw [h1] at h2
  cases h2
  exact .int z
theorem alike_tupI {K : PySem.W.Frag} {H : Hp} {n : Nat} {a b : Addr} {ns : List Int} (ha : SqT K H a (ns.map V.int)) (hb : SqT K H b (ns.map V.int)) (hz : ns.length ≤ 1000) : Alike K H (n + 1) (.ref a) (.ref b) :=
  .tup ha hb rfl (by rw [List.length_map]; exact hz) alike_ints
theorem alike_lstI {K : PySem.W.Frag} {H : Hp} {n : Nat} {a b : Addr} {ns : List Int} (ha : SqL K H a (ns.map V.int)) (hb : SqL K H b (ns.map V.int)) (hz : ns.length ≤ 1000) : Alike K H (n + 1) (.ref a) (.ref b) :=
  .lst ha hb rfl (by rw [List.length_map]; exact hz) alike_ints
theorem alike_1 {K : PySem.W.Frag} {H : Hp} {n : Nat} {x y : V} (h : Alike K H n x y) : ∀ (i : Nat) (u v : V), [x][i]? = some u → [y][i]? = some v → Alike K H n u v := fun i u v h1 h2 => by
  match i, h1, h2 with
  | 0, h1, h2 => cases h1; cases h2; exact h
  | i + 1, h1, _ => simp at h1
theorem alike_more {K : PySem.W.Frag} {H : Hp} {n : Nat} {x y : V} {xs ys : List V} (h : Alike K H n x y) (hr : ∀ (i : Nat) (u v : V), xs[i]? = some u → ys[i]? = some v → Alike K H n u v) :
    ∀ (i : Nat) (u v : V), (x :: xs)[i]? = some u → (y :: ys)[i]? = some v → Alike K H n u v := fun i u v h1 h2 => by
  match i, h1, h2 with
  | 0, h1, h2 => cases h1; cases h2; exact h
  | i + 1, h1, h2 => exact hr i u v h1 h2
theorem alike_0 {K : PySem.W.Frag} {H : Hp} {n : Nat} : ∀ (i : Nat) (u v : V), ([] : List V)[i]? = some u → ([] : List V)[i]? = some v → Alike K H n u v := fun i u v h1 _ => by simp at h1
theorem tyL {K : PySem.W.Frag} {H : Hp} {a : Addr} {xs : List V} (h : SqL K H a xs) : TyX K H (.ref a) (.type "list") := by
  rcases h with (h | ⟨o, h⟩) | ⟨o, _, _, h, c, _⟩
  · exact .base (.lst h)
  · exact .base (.frz h)
  · exact .kList h c
theorem tyT {K : PySem.W.Frag} {H : Hp} {a : Addr} {xs : List V} (h : SqT K H a xs) : TyX K H (.ref a) (.type "tuple") := by
  rcases h with (h | ⟨o, h⟩) | ⟨o, _, _, h, c, _⟩
  · exact .base (.tup h)
  · exact .fTuple h
  · exact .kTuple h c
/-- a def of which nothing is promised -/
theorem fn_never {P : Program} {w : World} {K : PySem.W.Frag} {mg : Str → Option Value} {base : Heap} {CX : CXT} {f : Addr} {fd : FuncData} {ps : List Str} : FnOk P w K mg base CX 0 f fd ps (fun _ _ _ _ => False) :=
  ⟨fun _ _ _ _ h => h.elim, fun _ _ _ _ _ _ _ _ _ _ _ _ _ h => h.elim⟩
end Kin

set_option Elab.async false
set_option linter.all false
set_option maxRecDepth 100000
set_option maxHeartbeats 4000000
/-! B4: the error classes as the top has left them -/
namespace Kin
open PySem PySem.Spec PyProof.Rows L2
/-- KinError, at C0: its __init__ can be called through the class -/
def KinBase (P : Program) (w : World) (K : PySem.W.Frag) (mg : Str → Option Value) (base : Heap) (C0 : Addr) : Prop :=
  ∃ (f0 : Addr) (fd0 : FuncData) (mc : Value), mg "KinError" = some (.ref C0) ∧ ClX.CRead K C0 mc ∧ PySem.W.findCls K (.ref C0) mc "__init__" = some (.val (.ref f0)) ∧ PySem.W.keepIn K (.ref f0) = true ∧ Binds K fd0 ["self", "word"] [] ∧
    FnOk P w K mg base CX0 1 f0 fd0 ["self", "word"] (spKin K)
/-- .. by what the written part says -/
def BaseIn (K : PySem.W.Frag) (st : Stmt) (C0 : Addr) : Prop := (PySem.W.subIn K (.ref C0) (.type "BaseException") = some true ∧ PySem.W.hasDictIn K C0 = true ∧ PySem.W.typeIn K (.ref C0) = some (.type "type")) ∧ ∃ (f0 : Addr) (oc : Value) (od : Option Addr) (kV doc pm : Value) (an : Option Addr) (cdv ct : Value) (osl : Array (Option Value)),
  PySem.W.nsIn K mainGlobals "KinError" = some (some (.ref C0)) ∧ PySem.W.readsIn K C0 (.type "type") = true ∧ PySem.W.specialIn K (.ref C0) "__getattribute__" = some (some (.builtin "type.__getattribute__")) ∧ PySem.W.findCls K (.ref C0) (.type "type") "__init__" = some (.val (.ref f0)) ∧
  K.lookup f0 = some ⟨oc, od, .func (PySem.W.fnOf "__init__" "KinError.__init__" (defArgs st) (defBody st) (defScope st) .none kV doc pm an cdv ct), osl⟩ ∧ PySem.W.codeIn K cdv "KinError.__init__" = true ∧ PySem.W.keepIn K (.ref f0) = true
theorem baseIn_mk {K : PySem.W.Frag} {st : Stmt} {C0 f0 : Addr} {oc : Value} {od : Option Addr} {kV doc pm : Value} {an : Option Addr} {cdv ct : Value} {osl : Array (Option Value)} (a : PySem.W.nsIn K mainGlobals "KinError" = some (some (.ref C0)))
    (s1 : PySem.W.subIn K (.ref C0) (.type "BaseException") = some true) (s2 : PySem.W.hasDictIn K C0 = true) (s3 : PySem.W.typeIn K (.ref C0) = some (.type "type")) (r : PySem.W.readsIn K C0 (.type "type") = true) (g : PySem.W.specialIn K (.ref C0) "__getattribute__" = some (some (.builtin "type.__getattribute__"))) (v : PySem.W.findCls K (.ref C0) (.type "type") "__init__" = some (.val (.ref f0)))
    (l : K.lookup f0 = some ⟨oc, od, .func (PySem.W.fnOf "__init__" "KinError.__init__" (defArgs st) (defBody st) (defScope st) .none kV doc pm an cdv ct), osl⟩) (c : PySem.W.codeIn K cdv "KinError.__init__" = true) (k : PySem.W.keepIn K (.ref f0) = true) : BaseIn K st C0 :=
  ⟨⟨s1, s2, s3⟩, f0, oc, od, kV, doc, pm, an, cdv, ct, osl, a, r, g, v, l, c, k⟩
/-- an error class x, at C, by what the written part says -/
def ErrIn (K : PySem.W.Frag) (x q : Str) (st : Stmt) (C : Addr) : Prop := KinC K C ∧ PySem.W.nsIn K mainGlobals x = some (some (.ref C)) ∧ ∃ (fI : Addr) (oc : Value) (od : Option Addr) (kV doc pm : Value) (an : Option Addr) (cdv ct : Value) (osl : Array (Option Value)),
  PySem.W.findIn K (.ref C) "__init__" = some (some (.ref fI)) ∧ PySem.W.typeIn K (.ref fI) = some (.type "function") ∧ K.lookup fI = some ⟨oc, od, .func (PySem.W.fnOf "__init__" q (defArgs st) (defBody st) (defScope st) .none kV doc pm an cdv ct), osl⟩ ∧
  PySem.W.codeIn K cdv q = true ∧ PySem.W.keepIn K (.ref fI) = true
theorem errIn_mk {K : PySem.W.Frag} {x q : Str} {st : Stmt} {C fI : Addr} {nm qq : Str} {N : Addr} {bs bm : List Value} {sn : List Str} {sub : List Value} {ab : Bool} {col : Option Bool} {dd : Option Addr} {m0 m1 m2 m3 m5 : Option Value} {oc : Value} {od : Option Addr} {kV doc pm : Value} {an : Option Addr} {cdv ct : Value} {osl : Array (Option Value)}
    (a : PySem.W.nsIn K mainGlobals x = some (some (.ref C))) (xl : K.lookup C = some (excClassObj nm qq C N bs bm true sn sub ab col dd m0 m1 m2 m3 m5 "ValueError.__new__")) (rv : PySem.HandSPX.refsVE bm = true)
    (sa : PySem.W.findIn K (.ref C) "__setattr__" = some (some (.builtin "object.__setattr__"))) (ga : PySem.W.findIn K (.ref C) "__getattribute__" = some (some (.builtin "BaseException.__getattribute__"))) (gg : PySem.W.findIn K (.ref C) "__getattr__" = some none)
    (ex : PySem.W.subIn K (.ref C) (.type "BaseException") = some true) (ty : PySem.W.typeIn K (.ref C) = some (.type "type")) (kc : PySem.W.keepIn K (.ref C) = true) (hd : PySem.W.hasDictIn K C = true)
    (cl : PySem.W.findIn K (.ref C) "__class__" = some (some (.builtin "object.__class__"))) (gt : PySem.W.specialIn K (.builtin "object.__class__") "__get__" = some (some (.builtin "getset_descriptor.__get__"))) (tk : PySem.W.takesIn K (.builtin "object.__class__") = some true)
    (mr : PySem.W.mroIn K C (.type "object") = some true) (nw : PySem.W.findIn K (.ref C) "word" = some none) (iC : PySem.W.findIn K (.ref C) "__init__" = some (some (.ref fI))) (tI : PySem.W.typeIn K (.ref fI) = some (.type "function"))
    (l : K.lookup fI = some ⟨oc, od, .func (PySem.W.fnOf "__init__" q (defArgs st) (defBody st) (defScope st) .none kV doc pm an cdv ct), osl⟩) (c : PySem.W.codeIn K cdv q = true) (k : PySem.W.keepIn K (.ref fI) = true) : ErrIn K x q st C :=
  ⟨⟨⟨⟨nm, qq, N, bs, bm, sn, sub, ab, col, dd, m0, m1, m2, m3, m5, xl, rv⟩, sa, ex, ty, kc⟩, ⟨ga, gg, ex, hd⟩, cl, gt, tk, mr, nw⟩, a, fI, oc, od, kV, doc, pm, an, cdv, ct, osl, iC, tI, l, c, k⟩
/-- an except clause KinError catches an error of the class at C -/
def Under (K : PySem.W.Frag) (C C0 : Addr) : Prop := PySem.W.exmOne K (.ref C) (.ref C0) = some true
theorem under_of {K : PySem.W.Frag} {st : Stmt} {C C0 : Addr} (d : BaseIn K st C0) (h : PySem.W.subIn K (.ref C) (.ref C0) = some true) : Under K C C0 := PySem.W.exm_ref d.1.1 d.1.2.1 d.1.2.2 h
/-- isinstance of an error -/
theorem kit_self (K : PySem.W.Frag) (C : Addr) : PySem.W.kitOne K (.ref C) (.ref C) = some true := by
  unfold PySem.W.kitOne
  rw [if_pos (by simp)]
theorem kit_ve {K : PySem.W.Frag} {C : Addr} (h : PySem.W.subIn K (.ref C) (.type "ValueError") = some true) : PySem.W.kitOne K (.ref C) (.type "ValueError") = some true := by
  unfold PySem.W.kitOne
  rw [if_neg (by simp)]
  show (if PySem.W.kitMeta "ValueError" = true then PySem.W.subIn K (.ref C) (.type "ValueError") else none) = some true
  rw [if_pos (by decide +kernel), h]
theorem kit_sub {K : PySem.W.Frag} {C D : Addr} {b : Bool} (T : KinC K D) (h : PySem.W.subIn K (.ref C) (.ref D) = some b) (hne : C ≠ D) : PySem.W.kitOne K (.ref C) (.ref D) = some b := by
  unfold PySem.W.kitOne
  rw [if_neg (by simp only [beq_iff_eq, Value.ref.injEq]; exact hne)]
  obtain ⟨cd, hc, _⟩ := PySem.W.any_some T.xf.hdC
  show (if ((PySem.W.clsIn K D).isSome && PySem.W.typeIn K (.ref D) == some (.type "type")) = true then PySem.W.subIn K (.ref C) (.ref D) else none) = some b
  rw [if_pos (by rw [hc, T.ox.tyC]; rfl), h]
section
variable {P : Program} {w : World} {K : PySem.W.Frag} {mg : Str → Option Value} {base : Heap}
/-- self.word = word -/
theorem kin_init {st : Stmt} {f : Addr} {fd : FuncData} {p1 p2 p3 p4 : Pos} (F : Fun K "__init__" "KinError.__init__" st f fd) (S : FnScope ["self", "word"] ["self", "word"] (defScope st))
    (hb : defBody st = [.Assign [.Attribute (.Name "self" p1) "word" p2] (.Name "word" p3) p4]) (hv1 : Vis (defScope st) "self") (hv2 : Vis (defScope st) "word")
    (hs : ∀ (X : Cx), X.env.scope = defScope st → swapsWith (.Name "word" p3) (some (.Attribute (.Name "self" p1) "word" p2)) p4.line X.env = pure false) : FnOk P w K mg base CX0 1 f fd ["self", "word"] (spKin K) := by
  refine F.ok S (fun vs H Q E h => ?_) (fun cdv A outer s H vs Q E hr h => ?_)
  · obtain ⟨a, C, y, rfl, _⟩ := h
    rfl
  · obtain ⟨a, C, y, rfl, T, ha, q⟩ := h
    rw [hb]
    refine ⟨_, pss_one (ps_ost (pe_var (i := 0) rfl hv1) (pe_var (i := 1) rfl hv2) (hs _ rfl)), ?_⟩
    exact ⟨_, rfl, _, rfl, a, C, rfl, T.ox, T.nw, .inl ⟨ha, fun dx nd ne => q dx nd ne⟩⟩
end
end Kin

set_option Elab.async false
set_option linter.all false
set_option maxRecDepth 100000
set_option maxHeartbeats 4000000
/-! M1: one turning behind another -/
namespace Kin
open PySem L2
def after (ns ms : List Int) : List Int := ns.map fun z => ms.getD z.toNat 0
theorem after_snoc (ns ms : List Int) (z : Option Int) : after (ns ++ z.toList) ms = after ns ms ++ (after z.toList ms) := by unfold after; rw [List.map_append]
theorem after_len (ns ms : List Int) : (after ns ms).length = ns.length := by unfold after; rw [List.length_map]
theorem map_getD_range (ms : List Int) : (rgI ms.length).map (fun z => ms.getD z.toNat 0) = ms := by
  refine List.ext_getElem? fun i => ?_
  rw [List.getElem?_map]
  by_cases h : i < ms.length
  · rw [rgI_get h, Option.map_some, Int.toNat_natCast, List.getElem?_eq_getElem h, List.getD_eq_getElem?_getD, List.getElem?_eq_getElem h]
    rfl
  · rw [List.getElem?_eq_none (by rw [rgI_len]; omega), List.getElem?_eq_none (by omega)]
    rfl
/-- all stay, then a turning -/
theorem after_still_l (ms : List Int) : after (rgI ms.length) ms = ms := map_getD_range ms
/-- a turning, then all stay -/
theorem after_still_r {ns : List Int} (t : Turn ns) : after ns (rgI ns.length) = ns := by
  unfold after
  refine (List.map_congr_left fun z hz => ?_).trans (List.map_id ns)
  have := t.lo z hz
  rw [List.getD_eq_getElem?_getD, rgI_get (by omega)]
  show ((z.toNat : Nat) : Int) = z
  omega
theorem after_turn {ns ms : List Int} (tn : Turn ns) (tm : Turn ms) (hl : ns.length = ms.length) : Turn (after ns ms) := by
  have h1 : (after ns ms).Perm ((rgI ns.length).map fun z => ms.getD z.toNat 0) := tn.perm.map _
  rw [hl, map_getD_range] at h1
  exact turn_of_perm (h1.trans tm.perm)
end Kin

set_option Elab.async false
set_option linter.all false
set_option maxRecDepth 100000
set_option maxHeartbeats 4000000
/-! M2: the turning back -/
namespace Kin
open PySem L2
def ixOf : List Int → Int → Nat
  | [], _ => 0
  | x :: r, z => if x = z then 0 else ixOf r z + 1
theorem ixOf_get : ∀ {ns : List Int} {z : Int}, z ∈ ns → ns[ixOf ns z]? = some z
  | [], _, h => by cases h
  | x :: r, z, h => by
    unfold ixOf
    by_cases e : x = z
    · rw [if_pos e, ← e]
      rfl
    · rw [if_neg e]
      have : z ∈ r := by
        rcases List.mem_cons.mp h with q | q
        · exact absurd q.symm e
        · exact q
      exact ixOf_get this
theorem ixOf_first : ∀ {ns : List Int} {z : Int} (m : Nat), m < ixOf ns z → ns[m]? ≠ some z
  | [], _, m, h => by simp
  | x :: r, z, m, h => by
    unfold ixOf at h
    by_cases e : x = z
    · rw [if_pos e] at h
      omega
    · rw [if_neg e] at h
      match m with
      | 0 => exact fun q => e (Option.some.inj q)
      | m + 1 => exact ixOf_first (ns := r) m (by omega)
theorem ixOf_lt {ns : List Int} {z : Int} (h : z ∈ ns) : ixOf ns z < ns.length := (List.getElem?_eq_some_iff.mp (ixOf_get h)).1
theorem ixOf_of {ns : List Int} (hn : ns.Nodup) {z : Int} {j : Nat} (h : ns[j]? = some z) : ixOf ns z = j := nd_ix hn (ixOf_get (List.mem_of_getElem? h)) h
def inv (ns : List Int) : List Int := (rgI ns.length).map fun z => (ixOf ns z : Int)
theorem inv_len (ns : List Int) : (inv ns).length = ns.length := by unfold inv; rw [List.length_map, rgI_len]
theorem inv_at {ns : List Int} {i : Nat} (h : i < ns.length) : (inv ns)[i]? = some ((ixOf ns (i : Int) : Nat) : Int) := by
  unfold inv
  rw [List.getElem?_map, rgI_get h]
  rfl
theorem Turn.mem {ns : List Int} (t : Turn ns) {z : Int} (h0 : 0 ≤ z) (h1 : z < (ns.length : Int)) : z ∈ ns := t.perm.mem_iff.mpr (mem_rgI.mpr ⟨h0, h1⟩)
theorem Turn.inv_of {ns : List Int} (t : Turn ns) {j : Nat} {z : Int} (h : ns[j]? = some z) : (inv ns)[z.toNat]? = some (j : Int) := by
  have hz := t.lo z (List.mem_of_getElem? h)
  rw [inv_at (by omega), show ((z.toNat : Nat) : Int) = z by omega, ixOf_of t.nd h]
theorem inv_turn {ns : List Int} (t : Turn ns) : Turn (inv ns) := by
  refine ⟨?_, fun x hx => ?_⟩
  · unfold inv List.Nodup
    rw [List.pairwise_map]
    refine List.Pairwise.imp_of_mem (R := fun a b => a ≠ b) (fun {x y} hx hy hne e => hne ?_) (rgI_nodup ns.length)
    obtain ⟨x0, x1⟩ := mem_rgI.mp hx
    obtain ⟨y0, y1⟩ := mem_rgI.mp hy
    have e2 : ixOf ns x = ixOf ns y := by omega
    have h1 := ixOf_get (t.mem x0 x1)
    rw [e2, ixOf_get (t.mem y0 y1)] at h1
    exact (Option.some.inj h1).symm
  · rw [inv_len]
    unfold inv at hx
    obtain ⟨z, hz, rfl⟩ := List.mem_map.mp hx
    obtain ⟨z0, z1⟩ := mem_rgI.mp hz
    have := ixOf_lt (t.mem z0 z1)
    omega
theorem inv_inv {ns : List Int} (t : Turn ns) : inv (inv ns) = ns := by
  refine List.ext_getElem? fun i => ?_
  by_cases h : i < ns.length
  · rw [inv_at (by rw [inv_len]; exact h)]
    obtain ⟨z, hz⟩ : ∃ z, ns[i]? = some z := ⟨ns[i], List.getElem?_eq_getElem h⟩
    have hz2 := t.lo z (List.mem_of_getElem? hz)
    rw [ixOf_of (inv_turn t).nd (t.inv_of hz), hz, show ((z.toNat : Nat) : Int) = z by omega]
  · rw [List.getElem?_eq_none (by rw [inv_len, inv_len]; omega), List.getElem?_eq_none (by omega)]
theorem getD_of {ns : List Int} {i : Nat} {z : Int} (h : ns[i]? = some z) : ns.getD i 0 = z := by
  rw [List.getD_eq_getElem?_getD, h]
  rfl
/-- a turning and then back -/
theorem after_inv {ns : List Int} (t : Turn ns) : after ns (inv ns) = rgI ns.length := by
  refine List.ext_getElem? fun i => ?_
  unfold after
  rw [List.getElem?_map]
  by_cases h : i < ns.length
  · obtain ⟨z, hz⟩ : ∃ z, ns[i]? = some z := ⟨ns[i], List.getElem?_eq_getElem h⟩
    rw [hz, Option.map_some, rgI_get h, getD_of (t.inv_of hz)]
  · rw [List.getElem?_eq_none (by omega), List.getElem?_eq_none (by rw [rgI_len]; omega)]
    rfl
theorem inv_after {ns : List Int} (t : Turn ns) : after (inv ns) ns = rgI ns.length := by
  have h := after_inv (inv_turn t)
  rw [inv_inv t, inv_len] at h
  exact h
/-- what a loop that stores each place at its number comes to -/
theorem inv_built {ns fs : List Int} (t : Turn ns) (hl : fs.length = ns.length) (h : ∀ (j : Nat) (z : Int), ns[j]? = some z → fs[z.toNat]? = some (j : Int)) : fs = inv ns := by
  refine List.ext_getElem? fun i => ?_
  by_cases hi : i < ns.length
  · have hm := t.mem (z := (i : Int)) (by omega) (by omega)
    rw [inv_at hi]
    exact h _ _ (ixOf_get hm)
  · rw [List.getElem?_eq_none (by omega), List.getElem?_eq_none (by rw [inv_len]; omega)]
end Kin

set_option Elab.async false
set_option linter.all false
set_option maxRecDepth 100000
set_option maxHeartbeats 4000000
/-! B8: and, or of values, joined -/
namespace Kin
open PySem PySem.Spec PyProof.Rows L2
theorem andK {tb : TE} {σ : L2.St} {H : Hp} {Q : VK} {c1 c2 : Bool} (h : ∀ Q' : VK, Q' (.bl c2) H → tb σ H Q') (q : Q (.bl (c1 && c2)) H) : ∃ c, V.bl c1 = .bl c ∧ if c = true then tb σ H Q else Q (.bl false) H := by
  cases c1
  · exact ⟨_, rfl, iteF q⟩
  · exact ⟨_, rfl, iteT (h Q q)⟩
theorem orK {tb : TE} {σ : L2.St} {H : Hp} {Q : VK} {c1 c2 : Bool} (h : ∀ Q' : VK, Q' (.bl c2) H → tb σ H Q') (q : Q (.bl (c1 || c2)) H) : ∃ c, V.bl c1 = .bl c ∧ if c = true then Q (.bl true) H else tb σ H Q := by
  cases c1
  · exact ⟨_, rfl, iteF (h Q q)⟩
  · exact ⟨_, rfl, iteT q⟩
section
variable {X : Cx}
theorem cr_range1 : CallR X (.type "range") (fun vs H Q => ∃ j, vs = [V.int j] ∧ ∀ p, H p = none → Q (.ref p) (upd H p (.rng 0 j))) := by
  intro pins s σ H vs us Q I r h
  obtain ⟨j, rfl, q⟩ := h
  obtain ⟨u1, rfl, rj⟩ := vals1 r
  obtain ⟨u, rfl⟩ := rj
  refine call_range_1 ⟨.ref s.heap.objs.size, upd H s.heap.objs.size (.rng 0 j), I.laid (t' := s.toks + 2) (fun b o e => Heap.get?_push_of_some _ e) (Nat.le_refl _) ?_, rfl, q _ (I.hok.fresh (Nat.le_refl _))⟩
  exact ⟨_, _, _, Heap.get?_push_size _ rfl⟩
theorem op_notIn_rng : OpR X (compareOp .NotIn) (fun x y H Q => ∃ i a lo hi, x = V.int i ∧ y = V.ref a ∧ H a = some (.rng lo hi) ∧ Q (.bl (!decide (lo ≤ i ∧ i < hi))) H) := by
  intro pins s σ H x y v u Q I rx ry h
  obtain ⟨i, a, lo, hi, rfl, rfl, ha, q⟩ := h
  obtain ⟨k, rfl⟩ := rx
  obtain rfl : u = Value.ref a := ry
  obtain ⟨t1, t2, t3, ho⟩ := I.hok a _ ha
  show wpAny _ _ (do return Value.bool (!(← contains (Value.ref a) (Value.int i k)))) _ _ s
  refine wpAny_bind (wpAny_contains_slot (T := "range") ⟨_, ho, rfl⟩ F.slot_range_contains (call_meets F.slot_range_contains ⟨_, ho, rfl⟩ F.entry_range_contains (F.args_range_contains_2 _ _) (q_contains a lo hi i t1 t2 t3 k)
    ⟨ho, wpAny_truthy_bool (wpAny_pure ⟨.bl _, H, I, rfl, ?_⟩)⟩))
  rw [place1]
  exact q
end
end Kin

set_option Elab.async false
set_option linter.all false
set_option maxRecDepth 100000
set_option maxHeartbeats 4000000
/-! M8: rounds of a turning -/
namespace Kin
open PySem L2
def app (t : List Int) (x : Int) : Int := t.getD x.toNat 0
def it (t : List Int) : Nat → Int → Int
  | 0, x => x
  | k + 1, x => app t (it t k x)
theorem app_at {t : List Int} {x : Int} (h0 : 0 ≤ x) (h1 : x < (t.length : Int)) : t[x.toNat]? = some (app t x) := by
  unfold app
  rw [List.getD_eq_getElem?_getD, List.getElem?_eq_getElem (by omega)]
  rfl
theorem Turn.app {t : List Int} (h : Turn t) {x : Int} (hx : x ∈ rgI t.length) : Kin.app t x ∈ rgI t.length := by
  obtain ⟨h0, h1⟩ := mem_rgI.mp hx
  exact mem_rgI.mpr (h.lo _ (List.mem_of_getElem? (app_at h0 h1)))
theorem Turn.app_inj {t : List Int} (h : Turn t) {x y : Int} (hx : x ∈ rgI t.length) (hy : y ∈ rgI t.length) (e : Kin.app t x = Kin.app t y) : x = y := by
  obtain ⟨x0, x1⟩ := mem_rgI.mp hx
  obtain ⟨y0, y1⟩ := mem_rgI.mp hy
  have := nd_ix h.nd (app_at x0 x1) (by rw [e]; exact app_at y0 y1)
  omega
theorem Turn.it {t : List Int} (h : Turn t) {x : Int} (hx : x ∈ rgI t.length) : ∀ k, Kin.it t k x ∈ rgI t.length
  | 0 => hx
  | k + 1 => h.app (h.it hx k)
theorem Turn.it_inj {t : List Int} (h : Turn t) {x y : Int} (hx : x ∈ rgI t.length) (hy : y ∈ rgI t.length) : ∀ k, Kin.it t k x = Kin.it t k y → x = y
  | 0, e => e
  | k + 1, e => h.it_inj hx hy k (h.app_inj (h.it hx k) (h.it hy k) e)
theorem it_add (t : List Int) (x : Int) (j : Nat) : ∀ i, it t (i + j) x = it t i (it t j x)
  | 0 => by rw [Nat.zero_add]; rfl
  | i + 1 => by
    rw [show i + 1 + j = (i + j) + 1 by omega]
    show app t (it t (i + j) x) = app t (it t i (it t j x))
    rw [it_add t x j i]
theorem nodup_sub_len {l m : List Int} (hn : l.Nodup) (hs : ∀ x ∈ l, x ∈ m) : l.length ≤ m.length := by
  induction l generalizing m with
  | nil => exact Nat.zero_le _
  | cons x r ih =>
    have hx : x ∈ m := hs x List.mem_cons_self
    obtain ⟨h1, h2⟩ := List.nodup_cons.mp hn
    have hp : m.Perm (x :: m.erase x) := List.perm_cons_erase hx
    have := ih (m := m.erase x) h2 (fun y hy => by
      have hne : y ≠ x := fun e => h1 (e ▸ hy)
      exact (List.mem_erase_of_ne hne).mpr (hs y (List.mem_cons_of_mem _ hy)))
    have hl := hp.length_eq
    simp only [List.length_cons] at hl ⊢
    omega
theorem Turn.back {t : List Int} (h : Turn t) {x : Int} (hx : x ∈ rgI t.length) : ∃ m, 1 ≤ m ∧ m ≤ t.length ∧ Kin.it t m x = x := by
  by_cases hn : ((List.range (t.length + 1)).map fun k => Kin.it t k x).Nodup
  · have := nodup_sub_len (m := rgI t.length) hn (fun y hy => by
      obtain ⟨k, _, rfl⟩ := List.mem_map.mp hy
      exact h.it hx k)
    rw [List.length_map, List.length_range, rgI_len] at this
    omega
  · have : ∃ i j, i < j ∧ j ≤ t.length ∧ Kin.it t i x = Kin.it t j x := by
      refine Classical.byContradiction fun hno => hn ?_
      unfold List.Nodup
      rw [List.pairwise_map]
      refine List.Pairwise.imp_of_mem (R := fun a b => a < b) (fun {a b} ha hb hab e => hno ⟨a, b, hab, ?_, e⟩) List.pairwise_lt_range
      have := List.mem_range.mp hb
      omega
    obtain ⟨i, j, hij, hj, e⟩ := this
    refine ⟨j - i, by omega, by omega, ?_⟩
    have e2 : Kin.it t j x = Kin.it t i (Kin.it t (j - i) x) := by
      rw [← it_add, show i + (j - i) = j by omega]
    rw [e2] at e
    exact (h.it_inj hx (h.it hx _) i e).symm
def perF (t : List Int) (x : Int) : Nat → Nat → Nat
  | 0, k => k
  | f + 1, k => if it t k x = x then k else perF t x f (k + 1)
theorem perF_spec {t : List Int} {x : Int} : ∀ (f k m : Nat), k ≤ m → m < k + f → it t m x = x → k ≤ perF t x f k ∧ it t (perF t x f k) x = x ∧ perF t x f k ≤ m ∧ ∀ j, k ≤ j → j < perF t x f k → it t j x ≠ x
  | 0, k, m, h1, h2, _ => by omega
  | f + 1, k, m, h1, h2, e => by
    rw [perF]
    by_cases hk : it t k x = x
    · rw [if_pos hk]
      exact ⟨Nat.le_refl _, hk, h1, fun j a b => by omega⟩
    · rw [if_neg hk]
      have hne : k ≠ m := fun z => hk (by rw [z]; exact e)
      obtain ⟨a, b, c, d⟩ := perF_spec f (k + 1) m (by omega) (by omega) e
      refine ⟨by omega, b, c, fun j h3 h4 => ?_⟩
      by_cases hj : j = k
      · rw [hj]; exact hk
      · exact d j (by omega) h4
def per (t : List Int) (x : Int) : Nat := perF t x t.length 1
structure PerS (t : List Int) (x : Int) : Prop where
  p1 : 1 ≤ per t x
  pe : it t (per t x) x = x
  pn : per t x ≤ t.length
  pm : ∀ j, 1 ≤ j → j < per t x → it t j x ≠ x
theorem Turn.per {t : List Int} (h : Turn t) {x : Int} (hx : x ∈ rgI t.length) : PerS t x := by
  obtain ⟨m, m1, m2, me⟩ := h.back hx
  obtain ⟨a, b, c, d⟩ := perF_spec t.length 1 m m1 (by omega) me
  exact ⟨a, b, Nat.le_trans c m2, d⟩
def ring (t : List Int) (a : Int) : List Int := (List.range (per t a)).map fun i => it t i a
theorem ring_len (t : List Int) (a : Int) : (ring t a).length = per t a := by unfold ring; rw [List.length_map, List.length_range]
theorem ring_at {t : List Int} {a : Int} {i : Nat} (h : i < per t a) : (ring t a)[i]? = some (it t i a) := by
  unfold ring
  rw [List.getElem?_map, List.getElem?_range h]
  rfl
theorem it_mul {t : List Int} {a : Int} {p : Nat} (h : it t p a = a) : ∀ q, it t (q * p) a = a
  | 0 => by rw [Nat.zero_mul]; rfl
  | q + 1 => by rw [Nat.add_mul, Nat.one_mul, it_add, h, it_mul h q]
theorem it_mod {t : List Int} {a : Int} {p : Nat} (h : it t p a = a) (k : Nat) : it t k a = it t (k % p) a := by
  conv => lhs; rw [← Nat.mod_add_div k p, Nat.mul_comm p, it_add, it_mul h]
theorem mem_ring {t : List Int} (h : Turn t) {a y : Int} (ha : a ∈ rgI t.length) : y ∈ ring t a ↔ ∃ k, y = it t k a := by
  have P := h.per ha
  constructor
  · intro hy
    unfold ring at hy
    obtain ⟨k, _, rfl⟩ := List.mem_map.mp hy
    exact ⟨k, rfl⟩
  · rintro ⟨k, rfl⟩
    rw [it_mod P.pe k]
    unfold ring
    exact List.mem_map.mpr ⟨k % per t a, List.mem_range.mpr (Nat.mod_lt _ P.p1), rfl⟩
theorem ring_sub {t : List Int} (h : Turn t) {a y : Int} (ha : a ∈ rgI t.length) (hy : y ∈ ring t a) : y ∈ rgI t.length := by
  obtain ⟨k, rfl⟩ := (mem_ring h ha).mp hy
  exact h.it ha k
theorem ring_self {t : List Int} (h : Turn t) {a : Int} (ha : a ∈ rgI t.length) : a ∈ ring t a := (mem_ring h ha).mpr ⟨0, rfl⟩
theorem ring_trans {t : List Int} (h : Turn t) {a y z : Int} (ha : a ∈ rgI t.length) (hy : y ∈ ring t a) (hz : z ∈ ring t y) : z ∈ ring t a := by
  obtain ⟨j, rfl⟩ := (mem_ring h (ring_sub h ha hy)).mp hz
  obtain ⟨i, rfl⟩ := (mem_ring h ha).mp hy
  exact (mem_ring h ha).mpr ⟨j + i, by rw [it_add]⟩
theorem ring_symm {t : List Int} (h : Turn t) {a y : Int} (ha : a ∈ rgI t.length) (hy : y ∈ ring t a) : a ∈ ring t y := by
  have P := h.per ha
  unfold ring at hy
  obtain ⟨i, hi, rfl⟩ := List.mem_map.mp hy
  have hi2 := List.mem_range.mp hi
  refine (mem_ring h (h.it ha i)).mpr ⟨per t a - i, ?_⟩
  rw [← it_add, show per t a - i + i = per t a by omega]
  exact P.pe.symm
theorem it_ne {t : List Int} (h : Turn t) {a : Int} (ha : a ∈ rgI t.length) {i j : Nat} (hij : i < j) (hj : j < per t a) : it t i a ≠ it t j a := fun e => by
  have P := h.per ha
  have e2 : it t j a = it t i (it t (j - i) a) := by rw [← it_add, show i + (j - i) = j by omega]
  rw [e2] at e
  exact P.pm (j - i) (by omega) (by omega) (h.it_inj ha (h.it ha _) i e).symm
theorem ring_nodup {t : List Int} (h : Turn t) {a : Int} (ha : a ∈ rgI t.length) : (ring t a).Nodup := by
  unfold ring List.Nodup
  rw [List.pairwise_map]
  refine List.Pairwise.imp_of_mem (R := fun x y => x < y) (fun {x y} hx hy hxy => it_ne h ha hxy ?_) List.pairwise_lt_range
  exact List.mem_range.mp hy
/-- the least of its round -/
def isMin (t : List Int) (a : Int) : Bool := (ring t a).all fun x => decide (a ≤ x)
theorem isMin_iff {t : List Int} {a : Int} : isMin t a = true ↔ ∀ x ∈ ring t a, a ≤ x := by
  unfold isMin
  rw [List.all_eq_true]
  exact ⟨fun h x hx => of_decide_eq_true (h x hx), fun h x hx => decide_eq_true (h x hx)⟩
theorem list_min : ∀ {l : List Int}, l ≠ [] → ∃ b ∈ l, ∀ x ∈ l, b ≤ x
  | [], h => absurd rfl h
  | [a], _ => ⟨a, List.mem_singleton.mpr rfl, fun x hx => by rw [List.mem_singleton.mp hx]; exact Int.le_refl _⟩
  | a :: b :: r, _ => by
    obtain ⟨m, hm, hl⟩ := list_min (l := b :: r) (by simp)
    by_cases h : a ≤ m
    · exact ⟨a, List.mem_cons_self, fun x hx => by
        rcases List.mem_cons.mp hx with e | e
        · rw [e]; exact Int.le_refl _
        · exact Int.le_trans h (hl x e)⟩
    · exact ⟨m, List.mem_cons_of_mem _ hm, fun x hx => by
        rcases List.mem_cons.mp hx with e | e
        · rw [e]; omega
        · exact hl x e⟩
theorem ring_min {t : List Int} (h : Turn t) {a : Int} (ha : a ∈ rgI t.length) : ∃ b, b ∈ ring t a ∧ isMin t b = true ∧ ∀ x ∈ ring t a, b ≤ x := by
  obtain ⟨b, hb, hl⟩ := list_min (l := ring t a) (List.ne_nil_of_mem (ring_self h ha))
  exact ⟨b, hb, isMin_iff.mpr fun x hx => hl x (ring_trans h ha hb hx), hl⟩
/-- who is seen behind all below a -/
def seenB (t : List Int) (i : Nat) (x : Int) : Prop := ∃ b ∈ rgI i, isMin t b = true ∧ x ∈ ring t b
theorem seen_iff {t : List Int} (h : Turn t) {i : Nat} (hi : i < t.length) : seenB t i (i : Int) ↔ ¬ isMin t (i : Int) = true := by
  have hin : (i : Int) ∈ rgI t.length := mem_rgI.mpr ⟨by omega, by omega⟩
  constructor
  · rintro ⟨b, hb, hm, hx⟩ hmi
    obtain ⟨b0, b1⟩ := mem_rgI.mp hb
    have hbn : b ∈ rgI t.length := mem_rgI.mpr ⟨b0, by omega⟩
    have := isMin_iff.mp hmi b (ring_symm h hbn hx)
    omega
  · intro hno
    obtain ⟨b, hb, hm, hl⟩ := ring_min h hin
    have hbn := ring_sub h hin hb
    obtain ⟨b0, b1⟩ := mem_rgI.mp hbn
    have hbi : b ≤ (i : Int) := hl _ (ring_self h hin)
    have hne : b ≠ (i : Int) := fun e => hno (by rw [← e]; exact hm)
    exact ⟨b, mem_rgI.mpr ⟨b0, by omega⟩, hm, ring_symm h hin hb⟩
def roundsTo (t : List Int) (i : Nat) : List (List Int) := ((rgI i).filter (isMin t)).map (ring t)
def rounds (t : List Int) : List (List Int) := roundsTo t t.length
theorem mins_same {t : List Int} (h : Turn t) {a b x : Int} (ha : a ∈ rgI t.length) (hb : b ∈ rgI t.length) (ma : isMin t a = true) (mb : isMin t b = true) (xa : x ∈ ring t a) (xb : x ∈ ring t b) : a = b := by
  have h1 : b ∈ ring t a := ring_trans h ha xa (ring_symm h hb xb)
  have h2 := isMin_iff.mp ma b h1
  have h3 := isMin_iff.mp mb a (ring_symm h ha h1)
  omega
theorem rounds_perm {t : List Int} (h : Turn t) : (rounds t).flatten.Perm (rgI t.length) := by
  have hmem : ∀ x, x ∈ (rounds t).flatten ↔ x ∈ rgI t.length := by
    intro x
    unfold rounds roundsTo
    rw [List.mem_flatten]
    constructor
    · rintro ⟨l, hl, hx⟩
      obtain ⟨a, ha, rfl⟩ := List.mem_map.mp hl
      exact ring_sub h (List.mem_filter.mp ha).1 hx
    · intro hx
      obtain ⟨b, hb, hm, hl⟩ := ring_min h hx
      exact ⟨ring t b, List.mem_map.mpr ⟨b, List.mem_filter.mpr ⟨ring_sub h hx hb, hm⟩, rfl⟩, ring_symm h hx hb⟩
  have hnd : (rounds t).flatten.Nodup := by
    unfold List.Nodup
    rw [List.pairwise_flatten]
    unfold rounds roundsTo
    constructor
    · intro l hl
      obtain ⟨a, ha, rfl⟩ := List.mem_map.mp hl
      exact ring_nodup h (List.mem_filter.mp ha).1
    · rw [List.pairwise_map]
      refine List.Pairwise.imp_of_mem (R := fun a b => a ≠ b) (fun {a b} ha hb hne x hx y hy e => hne ?_) ((rgI_nodup t.length).filter _)
      subst e
      obtain ⟨a1, a2⟩ := List.mem_filter.mp ha
      obtain ⟨b1, b2⟩ := List.mem_filter.mp hb
      exact mins_same h a1 b1 a2 b2 hx hy
  refine perm_of_sub hnd (fun x hx => (hmem x).mp hx) ?_
  exact nodup_sub_len (rgI_nodup _) fun x hx => (hmem x).mpr hx
/-- two sorted rows of the same numbers -/
theorem sorted_uniq : ∀ {a b : List Int}, a.Perm b → a.Pairwise (· ≤ ·) → b.Pairwise (· ≤ ·) → a = b
  | [], b, h, _, _ => (List.nil_perm.mp h).symm
  | x :: r, [], h, _, _ => by cases (List.perm_nil.mp h)
  | x :: r, y :: q, h, ha, hb => by
    obtain ⟨a1, a2⟩ := List.pairwise_cons.mp ha
    obtain ⟨b1, b2⟩ := List.pairwise_cons.mp hb
    have hx : x ∈ y :: q := h.mem_iff.mp List.mem_cons_self
    have hy : y ∈ x :: r := h.mem_iff.mpr List.mem_cons_self
    have e : x = y := by
      rcases List.mem_cons.mp hx with e | e
      · exact e
      · rcases List.mem_cons.mp hy with e2 | e2
        · exact e2.symm
        · have := b1 x e
          have := a1 y e2
          omega
    subst e
    rw [sorted_uniq ((List.perm_cons x).mp h) a2 b2]
theorem filter_sorted (n : Nat) (p : Int → Bool) : ((rgI n).filter p).Pairwise (· ≤ ·) := (rgI_sorted n).filter _
end Kin

set_option Elab.async false
set_option linter.all false
set_option maxRecDepth 100000
set_option maxHeartbeats 4000000
/-! B11: lists of lists on the heap -/
namespace Kin
open PySem PySem.Spec PyProof.Rows L2
/-- at l: a list of lists of numbers, at the addresses as -/
structure RingsAt (H : Hp) (l : Addr) (as : List Addr) (rs : List (List Int)) : Prop where
  top : H l = some (.lst (as.map V.ref))
  len : as.length = rs.length
  each : ∀ (i : Nat) (a : Addr) (r : List Int), as[i]? = some a → rs[i]? = some r → H a = some (.lst (r.map V.int))
theorem RingsAt.same {H H' : Hp} {l : Addr} {as : List Addr} {rs : List (List Int)} (s : Same H H') (h : RingsAt H l as rs) : RingsAt H' l as rs :=
  ⟨s _ _ h.top, h.len, fun i a r h1 h2 => s _ _ (h.each i a r h1 h2)⟩
theorem RingsAt.old {H : Hp} {l p : Addr} {o : HO} {as : List Addr} {rs : List (List Int)} (h : RingsAt H l as rs) (h1 : p ≠ l) (h2 : ∀ a ∈ as, a ≠ p) : RingsAt (upd H p o) l as rs :=
  ⟨upd_old h1.symm h.top, h.len, fun i a r e1 e2 => upd_old (h2 a (List.mem_of_getElem? e1)) (h.each i a r e1 e2)⟩
theorem RingsAt.snoc {H : Hp} {l q : Addr} {as : List Addr} {rs : List (List Int)} {r : List Int} (h : RingsAt H l as rs) (hq : H q = some (.lst (r.map V.int))) (h1 : ∀ a ∈ as, a ≠ l) (h2 : q ≠ l) : RingsAt (upd H l (.lst (as.map V.ref ++ [.ref q]))) l (as ++ [q]) (rs ++ [r]) := by
  refine ⟨by rw [upd_same, List.map_append]; rfl, by rw [List.length_append, List.length_append, h.len]; rfl, fun i a x e1 e2 => ?_⟩
  by_cases hi : i < as.length
  · rw [List.getElem?_append_left hi] at e1
    rw [List.getElem?_append_left (by rw [← h.len]; exact hi)] at e2
    exact upd_old (h1 a (List.mem_of_getElem? e1)) (h.each i a x e1 e2)
  · rw [List.getElem?_append_right (by omega)] at e1
    rw [List.getElem?_append_right (by rw [← h.len]; omega), ← h.len] at e2
    have h0 : i - as.length = 0 := by
      cases h3 : i - as.length with
      | zero => rfl
      | succ k =>
        rw [h3] at e1
        simp at e1
    rw [h0] at e1 e2
    cases e1
    cases e2
    exact upd_old h2 hq
theorem RingsAt.mem {H : Hp} {l : Addr} {as : List Addr} {rs : List (List Int)} (h : RingsAt H l as rs) {a : Addr} (ha : a ∈ as) : ∃ r ∈ rs, H a = some (.lst (r.map V.int)) := by
  obtain ⟨i, hi⟩ := List.getElem?_of_mem ha
  have hl : i < rs.length := by rw [← h.len]; exact (List.getElem?_eq_some_iff.mp hi).1
  exact ⟨rs[i], List.getElem_mem hl, h.each i a _ hi (List.getElem?_eq_getElem hl)⟩
theorem RingsAt.ne_none {H : Hp} {l : Addr} {as : List Addr} {rs : List (List Int)} (h : RingsAt H l as rs) {p : Addr} (hp : H p = none) : ∀ a ∈ as, a ≠ p := fun a ha => by
  obtain ⟨r, _, hr⟩ := h.mem ha
  exact ne_of_none hr hp
theorem flat_ints (ns : List Int) : (ns.map V.int).all flatV = true := by
  rw [List.all_map]
  exact List.all_eq_true.mpr fun x _ => rfl
theorem in_ints (z : Int) (ns : List Int) : inV (.int z) (ns.map V.int) = decide (z ∈ ns) := by
  unfold inV
  rw [List.any_map]
  by_cases h : z ∈ ns
  · rw [decide_eq_true h, List.any_eq_true]
    exact ⟨z, h, by simp [eqV]⟩
  · rw [decide_eq_false h, List.any_eq_false]
    intro x hx e
    refine h ?_
    have : x = z := by simpa [eqV] using e
    rw [← this]
    exact hx
theorem put_some (kvs : List (Key × V)) (x z : Int) (v : V) : (valV (putK kvs (.inl x) v) (.inl z)).isSome = true ↔ (z = x ∨ (valV kvs (.inl z)).isSome = true) := by
  rw [valV_put]
  by_cases h : z = x
  · rw [if_pos (by rw [h])]
    exact ⟨fun _ => .inl h, fun _ => rfl⟩
  · rw [if_neg (fun e => h (Sum.inl.inj e))]
    exact ⟨fun e => .inr e, fun e => e.elim (fun e => absurd e h) id⟩
end Kin

set_option Elab.async false
set_option linter.all false
set_option maxRecDepth 100000
set_option maxHeartbeats 4000000
/-! M10: turnings by numbers -/
namespace Kin
open PySem L2
def fac : Nat → Nat
  | 0 => 1
  | n + 1 => fac n * (n + 1)
theorem fac_pos : ∀ n, 0 < fac n
  | 0 => Nat.one_pos
  | n + 1 => Nat.mul_pos (fac_pos n) (Nat.succ_pos n)
/-- the number of a row -/
def numL : List Int → Nat
  | [] => 0
  | x :: r => (r.filter fun y => decide (y < x)).length * fac r.length + numL r
/-- strictly rising -/
abbrev Up (F : List Int) : Prop := F.Pairwise (· < ·)
theorem up_filter : ∀ {F : List Int} {q : Nat} {x : Int}, Up F → F[q]? = some x → (F.filter fun y => decide (y < x)).length = q
  | [], q, x, _, h => by simp at h
  | a :: r, 0, x, h, e => by
    cases e
    obtain ⟨h1, _⟩ := List.pairwise_cons.mp h
    rw [List.filter_cons, if_neg (by simp), List.filter_eq_nil_iff.mpr fun y hy => by
      have := h1 y hy
      simp
      omega]
    rfl
  | a :: r, q + 1, x, h, e => by
    obtain ⟨h1, h2⟩ := List.pairwise_cons.mp h
    have hx : x ∈ r := List.mem_of_getElem? e
    have := h1 x hx
    rw [List.filter_cons, if_pos (decide_eq_true this), List.length_cons, up_filter h2 e]
theorem up_erase : ∀ {F : List Int} (q : Nat), Up F → Up (F.eraseIdx q) := fun q h => h.sublist (List.eraseIdx_sublist _ _)
theorem up_nodup {F : List Int} (h : Up F) : F.Nodup := h.imp fun h => by omega
theorem erase_perm : ∀ {F : List Int} {q : Nat} {x : Int}, F[q]? = some x → F.Perm (x :: F.eraseIdx q)
  | [], q, x, h => by simp at h
  | a :: r, 0, x, h => by
    cases h
    exact List.Perm.refl _
  | a :: r, q + 1, x, h => by
    show (a :: r).Perm (x :: a :: r.eraseIdx q)
    exact ((erase_perm (F := r) (q := q) h).cons a).trans (List.Perm.swap x a _)
/-- the head's place among the free ones, and what is left -/
theorem head_split {F r : List Int} {x : Int} (h : Up F) (p : (x :: r).Perm F) : ∃ q, F[q]? = some x ∧ q < F.length ∧ (r.filter fun y => decide (y < x)).length = q ∧ r.Perm (F.eraseIdx q) := by
  have hx : x ∈ F := p.mem_iff.mp List.mem_cons_self
  obtain ⟨q, hq⟩ := List.getElem?_of_mem hx
  refine ⟨q, hq, (List.getElem?_eq_some_iff.mp hq).1, ?_, ?_⟩
  · rw [← up_filter h hq, ← (p.filter (fun y => decide (y < x))).length_eq, List.filter_cons, if_neg (by simp)]
  · exact (List.perm_cons x).mp (p.trans (erase_perm hq))
theorem numL_lt : ∀ {l F : List Int}, Up F → l.Perm F → numL l < fac F.length
  | [], F, _, p => by
    rw [List.nil_perm.mp p]
    exact Nat.one_pos
  | x :: r, F, h, p => by
    obtain ⟨q, hq, hl, hc, hr⟩ := head_split h p
    have ih := numL_lt (up_erase q h) hr
    have hlen : F.length = r.length + 1 := by rw [← p.length_eq]; rfl
    have he : (F.eraseIdx q).length = r.length := hr.length_eq.symm
    rw [he] at ih
    rw [numL, hc, hlen, fac]
    have h1 : q * fac r.length + fac r.length ≤ fac r.length * (r.length + 1) := by
      rw [← Nat.succ_mul, Nat.mul_comm]
      exact Nat.mul_le_mul_left _ (by omega)
    omega
/-- the row of a number, from the free ones -/
def unL : Nat → List Int → Nat → List Int
  | 0, _, _ => []
  | n + 1, F, k => F.getD (k / fac n) 0 :: unL n (F.eraseIdx (k / fac n)) (k % fac n)
theorem unL_numL : ∀ {l F : List Int}, Up F → l.Perm F → unL l.length F (numL l) = l
  | [], F, _, _ => rfl
  | x :: r, F, h, p => by
    obtain ⟨q, hq, hl, hc, hr⟩ := head_split h p
    have hlt := numL_lt (up_erase q h) hr
    rw [hr.length_eq.symm] at hlt
    have hp := fac_pos r.length
    have e1 : numL (x :: r) / fac r.length = q := by
      rw [numL, hc, Nat.mul_comm, Nat.mul_add_div hp, Nat.div_eq_of_lt hlt]
      rfl
    have e2 : numL (x :: r) % fac r.length = numL r := by
      rw [numL, hc, Nat.mul_comm, Nat.mul_add_mod, Nat.mod_eq_of_lt hlt]
    show unL (r.length + 1) F (numL (x :: r)) = x :: r
    rw [unL, e1, e2, unL_numL (up_erase q h) hr, getD_of hq]
theorem unL_perm : ∀ {n k : Nat} {F : List Int}, Up F → F.length = n → k < fac n → (unL n F k).Perm F ∧ numL (unL n F k) = k
  | 0, k, F, _, hl, hk => by
    have : F = [] := List.eq_nil_of_length_eq_zero hl
    subst this
    have : k = 0 := by unfold fac at hk; omega
    subst this
    exact ⟨List.Perm.refl _, rfl⟩
  | n + 1, k, F, h, hl, hk => by
    have hp := fac_pos n
    have hq : k / fac n < n + 1 := by
      rw [Nat.div_lt_iff_lt_mul hp, Nat.mul_comm]
      exact hk
    have hx : F[k / fac n]? = some (F.getD (k / fac n) 0) := by
      rw [List.getD_eq_getElem?_getD, List.getElem?_eq_getElem (by omega)]
      rfl
    have hle : (F.eraseIdx (k / fac n)).length = n := by
      rw [List.length_eraseIdx_of_lt (by omega)]
      omega
    obtain ⟨ih1, ih2⟩ := unL_perm (k := k % fac n) (up_erase (k / fac n) h) hle (Nat.mod_lt _ hp)
    rw [unL]
    have hperm := (ih1.cons (F.getD (k / fac n) 0)).trans (erase_perm hx).symm
    refine ⟨hperm, ?_⟩
    rw [numL, ih2]
    have hc : ((unL n (F.eraseIdx (k / fac n)) (k % fac n)).filter fun y => decide (y < F.getD (k / fac n) 0)).length = k / fac n := by
      obtain ⟨q, hq2, _, hc, _⟩ := head_split h hperm
      rw [hc]
      exact nd_ix (up_nodup h) hq2 hx
    rw [hc, ih1.length_eq, hle, Nat.mul_comm]
    exact Nat.div_add_mod k (fac n)
theorem numL_order : ∀ {l m F : List Int}, Up F → l.Perm F → m.Perm F → (decide (numL l < numL m) = HT.lexLt l m) ∧ (numL l = numL m → l = m)
  | [], m, F, _, p, p2 => by
    have e : F = [] := List.nil_perm.mp p
    subst e
    have e2 : m = [] := List.perm_nil.mp p2
    subst e2
    exact ⟨rfl, fun _ => rfl⟩
  | x :: r, [], F, _, p, p2 => by
    have e : F = [] := List.nil_perm.mp p2
    subst e
    cases List.perm_nil.mp p
  | x :: r, y :: s, F, h, p, p2 => by
    obtain ⟨q, hq, hl, hc, hr⟩ := head_split h p
    obtain ⟨q2, hq2, hl2, hc2, hr2⟩ := head_split h p2
    have hls : s.length = r.length := by
      have h1 := p.length_eq
      have h2 := p2.length_eq
      simp only [List.length_cons] at h1 h2
      omega
    have hlt := numL_lt (up_erase q h) hr
    have hlt2 := numL_lt (up_erase q2 h) hr2
    rw [hr.length_eq.symm] at hlt
    rw [hr2.length_eq.symm, hls] at hlt2
    rw [HT.lexLt_cons, numL, numL, hc, hc2, hls]
    by_cases e : x = y
    · subst e
      have eq : q2 = q := nd_ix (up_nodup h) hq2 hq
      subst eq
      obtain ⟨ih1, ih2⟩ := numL_order (up_erase q2 h) hr hr2
      rw [if_pos rfl, ← ih1]
      refine ⟨decide_eq_decide.mpr (by omega), fun z => ?_⟩
      rw [ih2 (by omega)]
    · rw [if_neg e]
      have key : ∀ {a b : Nat} {u v : Int}, F[a]? = some u → F[b]? = some v → a < b → u < v := fun {a b u v} ha hb hab => by
        obtain ⟨a1, a2⟩ := List.getElem?_eq_some_iff.mp ha
        obtain ⟨b1, b2⟩ := List.getElem?_eq_some_iff.mp hb
        rw [← a2, ← b2]
        exact List.pairwise_iff_getElem.mp h a b a1 b1 hab
      have step : ∀ {a b c d f : Nat}, a < b → c < f → a * f + c < b * f + d := fun {a b c d f} hab hc => by
        have : (a + 1) * f ≤ b * f := Nat.mul_le_mul_right f hab
        rw [Nat.succ_mul] at this
        omega
      rcases Nat.lt_trichotomy q q2 with hh | hh | hh
      · have h1 := key hq hq2 hh
        have h2 := step (d := numL s) hh hlt
        exact ⟨by rw [decide_eq_true h2, decide_eq_true h1], fun z => by omega⟩
      · subst hh
        rw [hq] at hq2
        exact absurd (Option.some.inj hq2) e
      · have h1 := key hq2 hq hh
        have h2 := step (d := numL r) hh hlt2
        exact ⟨by rw [decide_eq_false (by omega), decide_eq_false (by omega)], fun z => by omega⟩
theorem up_rgI (n : Nat) : Up (rgI n) := by
  unfold rgI Up
  rw [List.pairwise_map]
  exact List.pairwise_lt_range.imp fun h => by omega
end Kin
namespace Kin
theorem fac_le {i : Nat} (h : i ≤ 8) : fac i ≤ 40320 := by
  have : i = 0 ∨ i = 1 ∨ i = 2 ∨ i = 3 ∨ i = 4 ∨ i = 5 ∨ i = 6 ∨ i = 7 ∨ i = 8 := by omega
  rcases this with h | h | h | h | h | h | h | h | h <;> subst h <;> decide
end Kin

set_option Elab.async false
set_option linter.all false
set_option maxRecDepth 100000
set_option maxHeartbeats 4000000
namespace Kin
open PySem PySem.Spec PyProof.Rows L2
def topS (i : Nat) : Stmt := PySem.Challenge.pw_kinhearth_k06_turnings_by_numbers.main.body.getD i (.Pass ⟨0, 0, 0, 0⟩)
abbrev s_KinError_init : Stmt := inClass (topS 1) 0
abbrev s_KinError_init_N : List Str := ["self", "word"]
abbrev p_KinError_init : List Str := ["self", "word"]
theorem sc_KinError_init : FnScope s_KinError_init_N p_KinError_init (defScope s_KinError_init) := ⟨rfl, rfl, rfl, by decide +kernel, rfl, by decide +kernel, by decide +kernel⟩
abbrev s_BadTurn_init : Stmt := inClass (topS 2) 0
abbrev s_BadTurn_init_N : List Str := ["self"]
abbrev p_BadTurn_init : List Str := ["self"]
theorem sc_BadTurn_init : FnScope s_BadTurn_init_N p_BadTurn_init (defScope s_BadTurn_init) := ⟨rfl, rfl, rfl, by decide +kernel, rfl, by decide +kernel, by decide +kernel⟩
abbrev s_ways : Stmt := topS 4
abbrev s_ways_N : List Str := ["size", "found", "one"]
abbrev p_ways : List Str := ["size"]
theorem sc_ways : FnScope s_ways_N p_ways (defScope s_ways) := ⟨rfl, rfl, rfl, by decide +kernel, rfl, by decide +kernel, by decide +kernel⟩
abbrev s_number_of : Stmt := topS 5
abbrev s_number_of_N : List Str := ["turn", "found", "at", "less", "one"]
abbrev p_number_of : List Str := ["turn"]
theorem sc_number_of : FnScope s_number_of_N p_number_of (defScope s_number_of) := ⟨rfl, rfl, rfl, by decide +kernel, rfl, by decide +kernel, by decide +kernel⟩
abbrev s_numbered : Stmt := topS 6
abbrev s_numbered_N : List Str := ["size", "number", "free", "found", "at", "share"]
abbrev p_numbered : List Str := ["size", "number"]
theorem sc_numbered : FnScope s_numbered_N p_numbered (defScope s_numbered) := ⟨rfl, rfl, rfl, by decide +kernel, rfl, by decide +kernel, by decide +kernel⟩
abbrev s_l_cell : Stmt := topS 8
abbrev s_l_cell_N : List Str := ["_law_script", "_law_k"]
abbrev p_l_cell : List Str := ["_law_script", "_law_k"]
theorem sc_l_cell : FnScope s_l_cell_N p_l_cell (defScope s_l_cell) := ⟨rfl, rfl, rfl, by decide +kernel, rfl, by decide +kernel, by decide +kernel⟩
abbrev s_l_draws : Stmt := topS 9
abbrev s_l_draws_N : List Str := ["_law_cell_here", "_law_parts", "_law_one", "_law_two", "_law_six", "_law_found", "_law_part"]
abbrev p_l_draws : List Str := ["_law_cell_here", "_law_parts"]
theorem sc_l_draws : FnScope s_l_draws_N p_l_draws (defScope s_l_draws) := ⟨rfl, rfl, rfl, by decide +kernel, rfl, by decide +kernel, by decide +kernel⟩
abbrev s_l_turn : Stmt := topS 10
abbrev s_l_turn_N : List Str := ["_law_code", "_law_size", "_law_free", "_law_found", "_law_k"]
abbrev p_l_turn : List Str := ["_law_code", "_law_size"]
theorem sc_l_turn : FnScope s_l_turn_N p_l_turn (defScope s_l_turn) := ⟨rfl, rfl, rfl, by decide +kernel, rfl, by decide +kernel, by decide +kernel⟩
abbrev s_l_same : Stmt := topS 11
abbrev s_l_same_N : List Str := ["_law_found", "_law_due", "_law_k"]
abbrev p_l_same : List Str := ["_law_found", "_law_due"]
theorem sc_l_same : FnScope s_l_same_N p_l_same (defScope s_l_same) := ⟨rfl, rfl, rfl, by decide +kernel, rfl, by decide +kernel, by decide +kernel⟩
abbrev s_l_asked : Stmt := topS 12
abbrev s_l_asked_N : List Str := ["_law_size", "_law_number", "e"]
abbrev p_l_asked : List Str := ["_law_size", "_law_number"]
theorem sc_l_asked : FnScope s_l_asked_N p_l_asked (defScope s_l_asked) := ⟨rfl, rfl, rfl, by decide +kernel, rfl, by decide +kernel, by decide +kernel⟩
abbrev s_law : Stmt := topS 13
abbrev s_law_N : List Str := ["_law_script", "_law_drawn", "_law_size", "_law_one", "_law_other", "_law_here", "_law_there", "_law_count", "_law_k", "_law_number", "_law_found"]
abbrev p_law : List Str := ["_law_script"]
theorem sc_law : FnScope s_law_N p_law (defScope s_law) := ⟨rfl, rfl, rfl, by decide +kernel, rfl, by decide +kernel, by decide +kernel⟩
/-! facts about the heap, carried by search -/
local macro_rules | `(tactic| walk_at "hp") => `(tactic| first | assumption | exact upd_same | (refine upd_new (by assumption) ?_; walk_at "hp") | (refine upd_old (by first | assumption | (apply Ne.symm; assumption)) ?_; walk_at "hp") | (refine sameAt (by assumption) ?_; walk_at "hp"))
local macro_rules | `(tactic| walk_at "fr") => `(tactic| first | assumption | (refine Same.free ?_ (by assumption); walk_at "sm"))
local macro_rules | `(tactic| walk_at "sm") => `(tactic| first | assumption | exact Same.refl _ | (refine same_new ?_ ?_; (walk_at "sm"); (walk_at "fr")) | (refine Same.trans ?_ (by assumption); walk_at "sm") | (refine Same.trans (by assumption) ?_; walk_at "sm"))
local macro_rules | `(tactic| walk_at "sq") => `(tactic| first | assumption | (refine SqL.of ?_; walk_at "hp") | (refine SqT.of ?_; walk_at "hp") | (refine Same.seq ?_ (by assumption); walk_at "sm") | (refine same_seqT ?_ (by assumption); walk_at "sm") | (refine same_sq ?_ (by assumption); walk_at "sm") | (refine sqL_old (by first | assumption | (apply Ne.symm; assumption)) ?_; walk_at "sq") | (refine sqT_old (by first | assumption | (apply Ne.symm; assumption)) ?_; walk_at "sq"))
local macro_rules | `(tactic| walk_at "nx") => `(tactic| try dsimp only [gName, tNext])

section
variable {P : Program} {w : World} {K : PySem.W.Frag} {mg : Str → Option Value} {base : Heap}


/-! ### _law_cell -/
def sp_cell (K : PySem.W.Frag) : Sp := fun vs H Q _ => ∃ (a : Addr) (ns : List Int) (k : Nat), vs = [.ref a, .int (k : Int)] ∧ SqL K H a (ns.map V.int) ∧ Q (.int (cell ns k)) H
theorem ok_l_cell {f : Addr} {fd : FuncData} (D : Dn K mg "_law_cell" s_l_cell p_l_cell f fd) (b : Blt mg) : Cal P w K mg base CX0 1 "_law_cell" p_l_cell (sp_cell K) := by
  refine D.cal (D.F.ok sc_l_cell (fun vs H Q E h => ?_) (fun cdv A outer s H vs Q E hr h => ?_))
  · obtain ⟨a, ns, k, rfl, _⟩ := h
    rfl
  · obtain ⟨a, ns, k, rfl, hS, q⟩ := h
    refine ⟨_, (pss_cons (ps_if (pt_cmpR op_lt (pv 1) (pe_callB call_len_seq (by rfl) b.len PySem.boot_len (pa_cons (pv 0) pa_nil)) (nomark _)) (pss_one (ps_ret (pe_ix ix_list (pv 0) (pv 1) (fun _ _ => rfl)))) pss_nil)
      (pss_one (ps_ret pe_int))), ?_⟩
    refine ⟨_, rfl, _, rfl, a, _, rfl, .inl hS, _, _, rfl, rfl, _, rfl, ite2 (fun e => ?_) (fun e => ?_)⟩
    · have e1 := of_decide_eq_true e
      rw [List.length_map] at e1
      have hk : k < ns.length := by omega
      refine ⟨_, rfl, _, rfl, a, _, _, .int (ns[k]), rfl, rfl, hS, atI_nat (by rw [List.getElem?_map, List.getElem?_eq_getElem hk]; rfl), ?_⟩
      have ec : cell ns k = ns[k] := by
        unfold cell
        rw [List.getD_eq_getElem?_getD, List.getElem?_eq_getElem hk]
        rfl
      rw [ec] at q
      exact q
    · have e1 : ¬ ((k : Int) < ((ns.map V.int).length : Int)) := fun z => e (decide_eq_true z)
      rw [List.length_map] at e1
      have ec : cell ns k = 0 := by
        unfold cell
        rw [List.getD_eq_getElem?_getD, List.getElem?_eq_none (by omega)]
        rfl
      rw [ec] at q
      exact q


/-! ### _law_draws -/
def sp_draws (K : PySem.W.Frag) : Sp := fun vs H Q _ => ∃ (c : Int) (a : Addr) (ps : List Int), vs = [.int c, .ref a] ∧ SqL K H a (ps.map V.int) ∧ ps.length ≤ 1000 ∧ (∀ p ∈ ps, 0 < p ∧ p < 2 ^ 60) ∧
  ∀ p H', H p = none → Same H H' → H' p = some (.lst ((draws c ps).map V.int)) → Q (.ref p) H'
theorem ok_l_draws {f : Addr} {fd : FuncData} (D : Dn K mg "_law_draws" s_l_draws p_l_draws f fd) (b : Blt mg) : Cal P w K mg base CX0 1 "_law_draws" p_l_draws (sp_draws K) := by
  refine D.cal (D.F.ok sc_l_draws (fun vs H Q E h => ?_) (fun cdv A outer s H vs Q E hr h => ?_))
  · obtain ⟨c, a, ps, rfl, _⟩ := h
    rfl
  · obtain ⟨c, a, ps, rfl, hS, hlen, hps, q⟩ := h
    refine ⟨_, (pss_cons (ps_if (pt_cmpR op_lt (pe_callB call_abs (by rfl) b.abs (by decide +kernel) (pa_cons (pv 0) pa_nil)) (pe_op op_pow pe_int pe_int) (nomark _)) (pss_cons (ps_set (i := 2) sc_l_draws.nd rfl (Or.inl rfl) (pe_op op_mod (pe_op op_add (pe_op op_mulW (pv 0) pe_int) pe_int) pe_int))
      (pss_cons (ps_set (i := 3) sc_l_draws.nd rfl (Or.inl rfl) (pe_op op_mod (pe_op op_add (pe_op op_add (pe_op op_mulW (pv 2) (pv 2)) (pe_op op_mulW pe_int (pv 2))) (pv 0)) pe_int))
      (pss_cons (ps_set (i := 4) sc_l_draws.nd rfl (Or.inl rfl) (pe_op op_mod (pe_op op_add (pe_op op_mulW (pv 3) pe_int) (pv 2)) pe_int))
      (pss_one (ps_set (i := 0) sc_l_draws.nd rfl (Or.inl rfl) (pe_op op_add (pv 3) (pe_op op_mulW pe_int (pe_op op_add (pv 4) (pe_op op_mulW pe_int (pv 2)))))))))) (pss_one (ps_set (i := 0) sc_l_draws.nd rfl (Or.inl rfl) (pe_op op_sub (pe_callB call_abs (by rfl) b.abs (by decide +kernel) (pa_cons (pv 0) pa_nil)) (pe_op op_pow pe_int pe_int)))))
      (pss_cons (ps_set (i := 5) sc_l_draws.nd rfl (Or.inl rfl) (pe_lst pa_nil))
      (pss_cons (ps_for PassesOwn.never rfl (pi_list (pv 1)) (pg_name (i := 6) sc_l_draws.nd rfl (Or.inl rfl)) (pss_cons (ps_expr (pe_bm PySem.F.plainAttrs_list PySem.F.slot_list_append PySem.F.type_list_append mt_append (pv 5) (pa_cons (pe_op op_mod (pv 0) (pv 6)) pa_nil)))
      (pss_one (ps_set (i := 0) sc_l_draws.nd rfl (Or.inl rfl) (pe_op op_fdivW (pv 0) (pv 6))))))
      (pss_one (ps_ret (pv 5)))))), ?_⟩
    have wide : ∀ {i j : Int}, i.natAbs < 2 ^ 200 → j.natAbs < 2 ^ 200 → CMulW i j := fun h1 h2 => wide_mul h1 h2 (by decide) (by decide) (by decide)
    have small : ∀ {i : Int}, -(2 ^ 64) < i → i < 2 ^ 64 → i.natAbs < 2 ^ 200 := fun {i} h1 h2 => Nat.lt_of_lt_of_le (show i.natAbs < 2 ^ 64 by omega) (by decide)
    -- what follows the if, from any number
    have go : ∀ (y2 y3 y4 : Option V) (cc : Int), cc = seed c → (tSeq (tAsg (tLst tNil) (gName 5)) (tSeq (tFor (iList K (tVar 1)) (gName 6) (tSeq
        (tDrop (tBM K "list" rAppend (tVar 5) (tCons (tOp (rI (fun _ j => 0 < j) fun i j => .int (i % j)) (tVar 0) (tVar 6)) tNil)))
        (tAsg (tOp (rI CDivW fun i j => .int (i / j)) (tVar 0) (tVar 6)) (gName 0)))) (tRet (tVar 5))))
        { nx := fun _ H' => Q .non H', rt := Q } [some (.int cc), some (.ref a), y2, y3, y4, none, none] H := by
      rintro y2 y3 y4 cc rfl
      refine ⟨Nat.zero_le _, fun o no => ?_⟩
      have s1 : Same H (upd H o (.lst [])) := same_new (Same.refl H) no
      refine ⟨_, rfl, a, rfl, ⟨_, s1.seq hS⟩, for_list (K := K) (a := a) (xs := ps.map V.int) (fun i σ H2 => ∃ y6 : Option V, σ = [some (.int (rest (seed c) (ps.take i))), some (.ref a), y2, y3, y4, some (.ref o), y6] ∧ Same H H2 ∧ H2 o = some (.lst ((drawn (seed c) (ps.take i)).map V.int)))
        ⟨none, rfl, s1, upd_same⟩ (fun i σ H2 _ ⟨_, _, s2, _⟩ => s2.seq hS) ?_ ?_⟩
      · rintro i y σ H2 hi ⟨y6, rfl, s2, eo⟩
        obtain ⟨z, hz, rfl⟩ : ∃ z, ps[i]? = some z ∧ y = V.int z := by
          rw [List.getElem?_map] at hi
          cases e : ps[i]? with
          | none => rw [e] at hi; cases hi
          | some z => rw [e] at hi; exact ⟨z, rfl, (Option.some.inj hi).symm⟩
        have hp := hps z (List.mem_of_getElem? hz)
        have et : ps.take (i + 1) = ps.take i ++ [z] := by rw [List.take_add_one, hz]; rfl
        refine ⟨_, rfl, .inl ⟨rfl, _, SqL.of eo⟩, _, rfl, _, rfl, _, _, rfl, rfl, hp.1, o, _, _, rfl, rfl, eo, ?_, ?_⟩
        · refine sz_lt ?_
          rw [List.length_map, drawn_len, List.length_take]
          omega
        · refine ⟨_, rfl, _, rfl, _, _, rfl, rfl, wide_div hp.1 (b := 60) (by omega) (by decide) (by decide), ?_⟩
          refine ⟨some (.int z), ?_, fun b x e => ?_, ?_⟩
          · rw [et, rest_snoc]
            rfl
          · rw [upd_ne (ne_of_none e no)]
            exact s2 b x e
          · rw [upd_same, et, drawn_snoc, List.map_append]
            rfl
      · rintro σ H2 ⟨y6, rfl, s2, eo⟩
        rw [List.length_map, List.take_length] at eo
        exact ⟨_, rfl, q o H2 no s2 eo⟩
    refine ⟨_, rfl, c, rfl, _, _, rfl, rfl, ⟨by decide, by decide, by decide⟩, _, _, rfl, rfl, _, rfl, ite2 (fun e => ?_) (fun e => ?_)⟩
    · have e1 := of_decide_eq_true e
      have hc1 : (if c < 0 then -c else c) < 10 ^ 18 := e1
      have hc : -(10 ^ 18) < c ∧ c < 10 ^ 18 := by
        split at hc1 <;> omega
      have n1 : 0 ≤ (c * 48271 + 11) % 2147483647 := Int.emod_nonneg _ (by decide)
      have m1 : (c * 48271 + 11) % 2147483647 < 2147483647 := Int.emod_lt_of_pos _ (by decide)
      have n2 : 0 ≤ (((c * 48271 + 11) % 2147483647) * ((c * 48271 + 11) % 2147483647) + 40692 * ((c * 48271 + 11) % 2147483647) + c) % 2147483399 := Int.emod_nonneg _ (by decide)
      have m2 : (((c * 48271 + 11) % 2147483647) * ((c * 48271 + 11) % 2147483647) + 40692 * ((c * 48271 + 11) % 2147483647) + c) % 2147483399 < 2147483399 := Int.emod_lt_of_pos _ (by decide)
      have n3 : 0 ≤ ((((c * 48271 + 11) % 2147483647) * ((c * 48271 + 11) % 2147483647) + 40692 * ((c * 48271 + 11) % 2147483647) + c) % 2147483399 * 16807 + (c * 48271 + 11) % 2147483647) % 1000000007 := Int.emod_nonneg _ (by decide)
      have m3 : ((((c * 48271 + 11) % 2147483647) * ((c * 48271 + 11) % 2147483647) + 40692 * ((c * 48271 + 11) % 2147483647) + c) % 2147483399 * 16807 + (c * 48271 + 11) % 2147483647) % 1000000007 < 1000000007 := Int.emod_lt_of_pos _ (by decide)
      refine ⟨_, rfl, _, _, rfl, rfl, wide (small (by omega) (by omega)) (small (by decide) (by decide)), _, _, rfl, rfl, _, _, rfl, rfl, (by show (0 : Int) < 2147483647; decide), ?_⟩
      refine ⟨_, rfl, _, rfl, _, _, rfl, rfl, wide (small (by omega) (by omega)) (small (by omega) (by omega)), _, rfl, _, _, rfl, rfl, wide (small (by decide) (by decide)) (small (by omega) (by omega)), _, _, rfl, rfl, _, rfl, _, _, rfl, rfl, _, _, rfl, rfl, (by show (0 : Int) < 2147483399; decide), ?_⟩
      refine ⟨_, rfl, _, _, rfl, rfl, wide (small (by omega) (by omega)) (small (by decide) (by decide)), _, rfl, _, _, rfl, rfl, _, _, rfl, rfl, (by show (0 : Int) < 1000000007; decide), ?_⟩
      refine ⟨_, rfl, _, rfl, _, rfl, _, _, rfl, rfl, wide (small (by decide) (by decide)) (small (by omega) (by omega)), _, _, rfl, rfl, _, _, rfl, rfl, wide (small (by decide) (by decide)) (small (by omega) (by omega)), _, _, rfl, rfl, ?_⟩
      refine go _ _ _ _ ?_
      unfold seed
      rw [if_pos hc1]
    · have e1 : ¬ (if c < 0 then -c else c) < 10 ^ 18 := fun z => e (decide_eq_true z)
      refine ⟨_, rfl, c, rfl, _, _, rfl, rfl, ⟨by decide, by decide, by decide⟩, _, _, rfl, rfl, ?_⟩
      refine go _ _ _ _ ?_
      unfold seed
      rw [if_neg e1]
      rfl


/-! ### _law_turn -/
def sp_turn : Sp := fun vs H Q _ => ∃ (c : Int) (n : Nat), vs = [.int c, .int (n : Int)] ∧ n ≤ 1000 ∧
  ∀ p H', H p = none → Same H H' → H' p = some (.tup ((turnOf c n).map V.int)) → Q (.ref p) H'
theorem ok_l_turn {f : Addr} {fd : FuncData} (D : Dn K mg "_law_turn" s_l_turn p_l_turn f fd) (b : Blt mg) : Cal P w K mg base CX0 1 "_law_turn" p_l_turn sp_turn := by
  refine D.cal (D.F.ok sc_l_turn (fun vs H Q E h => ?_) (fun cdv A outer s H vs Q E hr h => ?_))
  · obtain ⟨c, n, rfl, _⟩ := h
    rfl
  · obtain ⟨c, n, rfl, hn, q⟩ := h
    refine ⟨_, (pss_cons (ps_set (i := 2) sc_l_turn.nd rfl (Or.inl rfl) (pe_listRg rfl (by rfl) b.ty_list (prg_1 (by rfl) b.range (pv 1))))
      (pss_cons (ps_set (i := 3) sc_l_turn.nd rfl (Or.inl rfl) (pe_lst pa_nil))
      (pss_cons (ps_for PassesOwn.never rfl (pi_range1 (by rfl) b.range (pa_cons (pv 1) pa_nil)) (pg_name (i := 4) sc_l_turn.nd rfl (Or.inl rfl)) (pss_cons (ps_expr (pe_bm PySem.F.plainAttrs_list PySem.F.slot_list_append PySem.F.type_list_append mt_append (pv 3) (pa_cons (pe_bm PySem.F.plainAttrs_list PySem.F.slot_list_pop PySem.F.type_list_pop mt_popAt (pv 2) (pa_cons (pe_op op_mod (pv 0) (pe_op op_sub (pv 1) (pv 4))) pa_nil)) pa_nil)))
      (pss_one (ps_set (i := 0) sc_l_turn.nd rfl (Or.inl rfl) (pe_op op_fdivW (pv 0) (pe_op op_sub (pv 1) (pv 4)))))))
      (pss_one (ps_ret (pe_callTy call_tuple_of (by rfl) b.ty_tuple (by decide +kernel) (pa_cons (pv 3) pa_nil))))))), ?_⟩
    refine ⟨_, rfl, _, rfl, rg_ok hn, fun l nl => ?_⟩
    rw [rgV_int]
    refine ⟨Nat.zero_le _, fun o no => ?_⟩
    have nlo : l ≠ o := ne_of_none upd_same no
    have no0 : H o = none := by walk_at "fr"
    refine ⟨_, rfl, _, rfl, by omega, by omega, for_range (lo := 0) (n := n) (fun i σ H2 => ∃ (y4 : Option V) (free acc : List Int) (cc : Int), σ = [some (.int cc), some (.int (n : Int)), some (.ref l), some (.ref o), y4] ∧ Same H H2 ∧ H2 l = some (.lst (free.map V.int)) ∧ H2 o = some (.lst (acc.map V.int)) ∧
        free.length + i = n ∧ acc.length = i ∧ acc ++ picks free.length free cc = turnOf c n)
      ⟨none, rgI n, [], c, rfl, by walk_at "sm", by walk_at "hp", upd_same, by rw [rgI_len]; omega, rfl, by rw [rgI_len]; rfl⟩ ?_ ?_⟩
    · rintro i σ H2 hi ⟨y4, free, acc, cc, rfl, s2, el, eo, hf, ha, hp⟩
      obtain ⟨m, hm⟩ : ∃ m, free.length = m + 1 := ⟨n - i - 1, by omega⟩
      have ed : (n : Int) - (0 + (i : Int)) = (m : Int) + 1 := by omega
      have h0 : 0 ≤ cc % ((m : Int) + 1) := Int.emod_nonneg _ (by omega)
      have h1 : cc % ((m : Int) + 1) < (m : Int) + 1 := Int.emod_lt_of_pos _ (by omega)
      have hk : (cc % ((m : Int) + 1)).toNat < free.length := by omega
      refine ⟨_, rfl, .inl ⟨rfl, _, SqL.of eo⟩, _, rfl, .inl ⟨rfl, _, SqL.of el⟩, _, rfl, _, rfl, _, rfl, _, _, rfl, rfl, _, _, rfl, rfl, ?_, l, _, cc % ((m : Int) + 1), (cc % ((m : Int) + 1)).toNat, .int (free.getD (cc % ((m : Int) + 1)).toNat 0), rfl, ?_, el, ?_, ?_, ?_, ?_, ?_⟩
      · show (0 : Int) < (n : Int) - (0 + (i : Int))
        omega
      · show [V.int (cc % ((n : Int) - (0 + (i : Int))))] = _
        rw [ed]
      · omega
      · omega
      · rw [List.length_map]
        exact seqIx_in h0 (by omega)
      · rw [List.getElem?_map, getD_some hk]
        rfl
      · refine ⟨o, _, _, rfl, rfl, upd_old nlo.symm eo, ?_, ?_⟩
        · refine sz_lt ?_
          rw [List.length_map]
          omega
        · refine ⟨_, rfl, _, rfl, _, rfl, _, _, rfl, rfl, _, _, rfl, rfl, ?_, ?_⟩
          · show CDivW cc ((n : Int) - (0 + (i : Int)))
            exact wide_div (by omega) (b := 60) (by omega) (by decide) (by decide)
          · refine ⟨some (.int (0 + (i : Int))), free.eraseIdx (cc % ((m : Int) + 1)).toNat, acc ++ [free.getD (cc % ((m : Int) + 1)).toNat 0], cc / ((m : Int) + 1), ?_, ?_, ?_, ?_, ?_, ?_, ?_⟩
            · rw [← ed]
              rfl
            · refine same_new (same_new s2 nl) no0
            · rw [upd_ne nlo, upd_same, erase_ints]
            · rw [upd_same, snoc_ints]
            · rw [List.length_eraseIdx_of_lt hk]
              omega
            · rw [List.length_append, ha]
              rfl
            · rw [List.length_eraseIdx_of_lt hk, ← hp, hm, List.append_assoc]
              rfl
    · rintro σ H2 ⟨y4, free, acc, cc, rfl, s2, el, eo, hf, ha, hp⟩
      have e0 : free.length = 0 := by omega
      have ep : acc = turnOf c n := by
        rw [← hp, e0]
        show acc = acc ++ []
        rw [List.append_nil]
      subst ep
      refine ⟨_, rfl, o, _, rfl, .inl ⟨SqL.of eo, fun t nt => ?_⟩⟩
      exact q t _ (s2.free nt) (same_new s2 (s2.free nt)) upd_same


/-! ### _law_same, of alike things -/
def sp_same (K : PySem.W.Frag) : Nat → Sp
  | 0 => fun _ _ _ _ => False
  | n + 1 => fun vs H Q _ => ∃ x y, vs = [x, y] ∧ Alike K H n x y ∧ ∀ H', Same H H' → Q (.bl true) H'
theorem ok_l_same {f : Addr} {fd : FuncData} (D : Dn K mg "_law_same" s_l_same p_l_same f fd) (b : Blt mg) : ∀ n : Nat, Cal P w K mg base CX0 n "_law_same" p_l_same (sp_same K n) := by
  intro n
  induction n with
  | zero => exact D.cal fn_never
  | succ n ih =>
  have c := ih
  refine D.cal (D.F.ok sc_l_same (fun vs H Q E h => ?_) (fun cdv A outer s H vs Q E hr h => ?_))
  · obtain ⟨x, y, rfl, _⟩ := h
    rfl
  · obtain ⟨x, y, rfl, hA, q⟩ := h
    have hle : n ≤ n := Nat.le_refl n
    refine ⟨_, (pss_cons (ps_if (pt_cmpR op_isN (pv 1) pe_non (nomark _)) (pss_one (ps_ret (pe_cmpR op_isN (pv 0) pe_non (nomark _)))) pss_nil)
      (pss_cons (ps_if (pt_val (pe_callB call_isi (by rfl) b.isinstance (by decide +kernel) (pa_cons (pv 1) (pa_cons (pe_bltn (v := .ty "bool") (by rfl) b.ty_bool (by decide +kernel) rfl) pa_nil)))) (pss_one (ps_ret (pe_and (pe_callB call_isi (by rfl) b.isinstance (by decide +kernel) (pa_cons (pv 0) (pa_cons (pe_bltn (v := .ty "bool") (by rfl) b.ty_bool (by decide +kernel) rfl) pa_nil))) (pe_one (pe_cmpR op_eq (pv 0) (pv 1) (nomark _)))))) pss_nil)
      (pss_cons (ps_if (pt_val (pe_callB call_isi (by rfl) b.isinstance (by decide +kernel) (pa_cons (pv 1) (pa_cons (pe_bltn (v := .ty "int") (by rfl) b.ty_int (by decide +kernel) rfl) pa_nil)))) (pss_one (ps_ret (pe_and (pe_callB call_isi (by rfl) b.isinstance (by decide +kernel) (pa_cons (pv 0) (pa_cons (pe_bltn (v := .ty "int") (by rfl) b.ty_int (by decide +kernel) rfl) pa_nil))) (pe_and (pe_not (pe_callB call_isi (by rfl) b.isinstance (by decide +kernel) (pa_cons (pv 0) (pa_cons (pe_bltn (v := .ty "bool") (by rfl) b.ty_bool (by decide +kernel) rfl) pa_nil)))) (pe_one (pe_cmpR op_eq (pv 0) (pv 1) (nomark _))))))) pss_nil)
      (pss_cons (ps_if (pt_val (pe_callB call_isi (by rfl) b.isinstance (by decide +kernel) (pa_cons (pv 1) (pa_cons (pe_bltn (v := .ty "str") (by rfl) b.ty_str (by decide +kernel) rfl) pa_nil)))) (pss_one (ps_ret (pe_and (pe_callB call_isi (by rfl) b.isinstance (by decide +kernel) (pa_cons (pv 0) (pa_cons (pe_bltn (v := .ty "str") (by rfl) b.ty_str (by decide +kernel) rfl) pa_nil))) (pe_one (pe_cmpR op_eq (pv 0) (pv 1) (nomark _)))))) pss_nil)
      (pss_cons (ps_if (PW.pt (pw_or (pt_cmpR op_ne (pe_callB call_isi (by rfl) b.isinstance (by decide +kernel) (pa_cons (pv 1) (pa_cons (pe_bltn (v := .ty "list") (by rfl) b.ty_list (by decide +kernel) rfl) pa_nil))) (pe_callB call_isi (by rfl) b.isinstance (by decide +kernel) (pa_cons (pv 0) (pa_cons (pe_bltn (v := .ty "list") (by rfl) b.ty_list (by decide +kernel) rfl) pa_nil))) (nomark _)) (pw_or1 (pt_cmpR op_ne (pe_callB call_isi (by rfl) b.isinstance (by decide +kernel) (pa_cons (pv 1) (pa_cons (pe_bltn (v := .ty "tuple") (by rfl) b.ty_tuple (by decide +kernel) rfl) pa_nil))) (pe_callB call_isi (by rfl) b.isinstance (by decide +kernel) (pa_cons (pv 0) (pa_cons (pe_bltn (v := .ty "tuple") (by rfl) b.ty_tuple (by decide +kernel) rfl) pa_nil))) (nomark _))))) (pss_one (ps_ret pe_bl)) pss_nil)
      (pss_cons (ps_if (pt_cmpR op_ne (pe_callB call_len_seq (by rfl) b.len PySem.boot_len (pa_cons (pv 0) pa_nil)) (pe_callB call_len_seq (by rfl) b.len PySem.boot_len (pa_cons (pv 1) pa_nil)) (nomark _)) (pss_one (ps_ret pe_bl)) pss_nil)
      (pss_one (ps_ret (pe_callB (cr_all rfl) (by rfl) b.all (by decide +kernel) (pa_cons (pe_lc (own := [("_law_k", 2)]) (g := gName 2) (by rfl) sc_l_same.nd (pi_range1 (by rfl) b.range (pa_cons (pe_callB call_len_seq (by rfl) b.len PySem.boot_len (pa_cons (pv 1) pa_nil)) pa_nil)) (blkOk_by (N := s_l_same_N) (sc := defScope s_l_same) (by decide +kernel)) (fun _ _ _ _ _ => (pg_name (i := 2) sc_l_same.nd rfl (Or.inl rfl))) (fun _ _ _ _ _ => pts_nil) (fun _ _ _ _ _ => (pe_c c hr (by omega) (by rfl) pass0 (pa_cons (pe_ix (ix_seqK K) (pv 0) (pv 2) (fun _ _ => rfl)) (pa_cons (pe_ix (ix_seqK K) (pv 1) (pv 2) (fun _ _ => rfl)) pa_nil))))) pa_nil)))))))))), ?_⟩
    cases hA with
    | non =>
      refine ⟨_, rfl, rfl, _, rfl, iteT ⟨_, rfl, rfl, ?_⟩⟩
      exact q H (Same.refl H)
    | bl z =>
      refine ⟨_, rfl, rfl, _, rfl, ifno ?_⟩
      refine ⟨_, rfl, _, _, _, _, true, rfl, .ty "bool", .base (.bl _), kit_ty (by decide +kernel), _, rfl, iteT ?_⟩
      refine ⟨_, rfl, _, _, _, _, true, rfl, .ty "bool", .base (.bl _), kit_ty (by decide +kernel), _, rfl, iteT ⟨_, rfl, _, rfl, rfl, ?_⟩⟩
      rw [decide_eq_true rfl]
      exact q H (Same.refl H)
    | int z =>
      refine ⟨_, rfl, rfl, _, rfl, ifno ?_⟩
      refine ⟨_, rfl, _, _, _, _, false, rfl, .ty "bool", .base (.int _), kit_ty (by decide +kernel), _, rfl, ifno ?_⟩
      refine ⟨_, rfl, _, _, _, _, true, rfl, .ty "int", .base (.int _), kit_ty (by decide +kernel), _, rfl, iteT ?_⟩
      refine ⟨_, rfl, _, _, _, _, true, rfl, .ty "int", .base (.int _), kit_ty (by decide +kernel), _, rfl, iteT ?_⟩
      refine ⟨_, rfl, _, _, _, _, false, rfl, .ty "bool", .base (.int _), kit_ty (by decide +kernel), _, rfl, _, rfl, iteT ⟨_, rfl, _, rfl, rfl, ?_⟩⟩
      rw [decide_eq_true rfl]
      exact q H (Same.refl H)
    | str z =>
      refine ⟨_, rfl, rfl, _, rfl, ifno ?_⟩
      refine ⟨_, rfl, _, _, _, _, false, rfl, .ty "bool", .base (.str _), kit_ty (by decide +kernel), _, rfl, ifno ?_⟩
      refine ⟨_, rfl, _, _, _, _, false, rfl, .ty "int", .base (.str _), kit_ty (by decide +kernel), _, rfl, ifno ?_⟩
      refine ⟨_, rfl, _, _, _, _, true, rfl, .ty "str", .base (.str _), kit_ty (by decide +kernel), _, rfl, iteT ?_⟩
      refine ⟨_, rfl, _, _, _, _, true, rfl, .ty "str", .base (.str _), kit_ty (by decide +kernel), _, rfl, iteT ⟨_, rfl, _, rfl, rfl, ?_⟩⟩
      rw [decide_eq_true rfl]
      exact q H (Same.refl H)
    | @lst m a a' xs ys ha hb hl hz hh =>
      refine ⟨_, rfl, rfl, _, rfl, ifno ?_⟩
      refine ⟨_, rfl, _, _, _, _, false, rfl, .ty "bool", tyL hb, kit_ty (by decide +kernel), _, rfl, ifno ?_⟩
      refine ⟨_, rfl, _, _, _, _, false, rfl, .ty "int", tyL hb, kit_ty (by decide +kernel), _, rfl, ifno ?_⟩
      refine ⟨_, rfl, _, _, _, _, false, rfl, .ty "str", tyL hb, kit_ty (by decide +kernel), _, rfl, ifno ?_⟩
      refine ⟨_, rfl, _, _, _, _, true, rfl, .ty "list", tyL hb, kit_ty (by decide +kernel), _, rfl, _, _, _, _, true, rfl, .ty "list", tyL ha, kit_ty (by decide +kernel), rfl, _, rfl, iteF ?_⟩
      refine ⟨_, rfl, _, _, _, _, false, rfl, .ty "tuple", tyL hb, kit_ty (by decide +kernel), _, rfl, _, _, _, _, false, rfl, .ty "tuple", tyL ha, kit_ty (by decide +kernel), rfl, _, rfl, ifno ?_⟩
      refine ⟨_, rfl, a, _, rfl, .inl ha, _, rfl, a', _, rfl, .inl hb, rfl, _, rfl, ?_⟩
      rw [decide_eq_true (congrArg (fun k : Nat => V.int (k : Int)) hl)]
      refine ifno ⟨_, rfl, a', _, rfl, .inl hb, (ys.length : Int), rfl, by omega, by omega, fun L nL => lc_range (lo := 0) (n := ys.length) (fun i Hx => Same H Hx ∧ Hx L = some (.lst ((List.replicate i true).map V.bl))) ⟨same_new (Same.refl H) nL, upd_same⟩ ?_ ?_⟩
      · rintro i Hx hi ⟨sx, eL⟩
        obtain ⟨u, hu⟩ : ∃ u, xs[i]? = some u := ⟨xs[i]'(by omega), List.getElem?_eq_getElem (by omega)⟩
        obtain ⟨v, hv⟩ : ∃ v, ys[i]? = some v := ⟨ys[i], List.getElem?_eq_getElem hi⟩
        have e0 : (0 : Int) + (i : Int) = (i : Int) := Int.zero_add _
        refine ⟨rfl, ⟨_, rfl, _, rfl, .inl ⟨a, _, _, u, rfl, rfl, sx.seq ha, by rw [e0]; exact atI_nat hu, _, rfl, _, rfl, .inl ⟨a', _, _, v, rfl, rfl, sx.seq hb, by rw [e0]; exact atI_nat hv, u, v, rfl, (hh i u v hu hv).same sx, fun H2 s2 => ⟨_, s2 _ _ eL, ?_, ?_, ?_⟩⟩⟩⟩⟩
        · refine sz_lt ?_
          rw [List.length_map, List.length_replicate]
          omega
        · exact same_new (sx.trans s2) nL
        · rw [upd_same, List.replicate_succ', List.map_append]
          rfl
      · rintro Hx ⟨sx, eL⟩
        refine ⟨L, _, rfl, SqL.of eL, ?_⟩
        rw [show (List.replicate ys.length true).all id = true by simp]
        exact q Hx sx
    | @tup m a a' xs ys ha hb hl hz hh =>
      refine ⟨_, rfl, rfl, _, rfl, ifno ?_⟩
      refine ⟨_, rfl, _, _, _, _, false, rfl, .ty "bool", tyT hb, kit_ty (by decide +kernel), _, rfl, ifno ?_⟩
      refine ⟨_, rfl, _, _, _, _, false, rfl, .ty "int", tyT hb, kit_ty (by decide +kernel), _, rfl, ifno ?_⟩
      refine ⟨_, rfl, _, _, _, _, false, rfl, .ty "str", tyT hb, kit_ty (by decide +kernel), _, rfl, ifno ?_⟩
      refine ⟨_, rfl, _, _, _, _, false, rfl, .ty "list", tyT hb, kit_ty (by decide +kernel), _, rfl, _, _, _, _, false, rfl, .ty "list", tyT ha, kit_ty (by decide +kernel), rfl, _, rfl, iteF ?_⟩
      refine ⟨_, rfl, _, _, _, _, true, rfl, .ty "tuple", tyT hb, kit_ty (by decide +kernel), _, rfl, _, _, _, _, true, rfl, .ty "tuple", tyT ha, kit_ty (by decide +kernel), rfl, _, rfl, ifno ?_⟩
      refine ⟨_, rfl, a, _, rfl, .inr ha, _, rfl, a', _, rfl, .inr hb, rfl, _, rfl, ?_⟩
      rw [decide_eq_true (congrArg (fun k : Nat => V.int (k : Int)) hl)]
      refine ifno ⟨_, rfl, a', _, rfl, .inr hb, (ys.length : Int), rfl, by omega, by omega, fun L nL => lc_range (lo := 0) (n := ys.length) (fun i Hx => Same H Hx ∧ Hx L = some (.lst ((List.replicate i true).map V.bl))) ⟨same_new (Same.refl H) nL, upd_same⟩ ?_ ?_⟩
      · rintro i Hx hi ⟨sx, eL⟩
        obtain ⟨u, hu⟩ : ∃ u, xs[i]? = some u := ⟨xs[i]'(by omega), List.getElem?_eq_getElem (by omega)⟩
        obtain ⟨v, hv⟩ : ∃ v, ys[i]? = some v := ⟨ys[i], List.getElem?_eq_getElem hi⟩
        have e0 : (0 : Int) + (i : Int) = (i : Int) := Int.zero_add _
        refine ⟨rfl, ⟨_, rfl, _, rfl, .inr (.inl ⟨a, _, _, u, rfl, rfl, same_seqT sx ha, by rw [e0]; exact atI_nat hu, _, rfl, _, rfl, .inr (.inl ⟨a', _, _, v, rfl, rfl, same_seqT sx hb, by rw [e0]; exact atI_nat hv, u, v, rfl, (hh i u v hu hv).same sx, fun H2 s2 => ⟨_, s2 _ _ eL, ?_, ?_, ?_⟩⟩)⟩)⟩⟩
        · refine sz_lt ?_
          rw [List.length_map, List.length_replicate]
          omega
        · exact same_new (sx.trans s2) nL
        · rw [upd_same, List.replicate_succ', List.map_append]
          rfl
      · rintro Hx ⟨sx, eL⟩
        refine ⟨L, _, rfl, SqL.of eL, ?_⟩
        rw [show (List.replicate ys.length true).all id = true by simp]
        exact q Hx sx


/-! ### the errors -/
theorem ok_KinError_init {f : Addr} {fd : FuncData} (F : Fun K "__init__" "KinError.__init__" s_KinError_init f fd) : FnOk P w K mg base CX0 1 f fd ["self", "word"] (spKin K) := by
  refine F.ok sc_KinError_init (fun vs H Q E h => ?_) (fun cdv A outer s H vs Q E hr h => ?_)
  · obtain ⟨a, C, y, rfl, _⟩ := h
    rfl
  · obtain ⟨a, C, y, rfl, T, ha, q⟩ := h
    refine ⟨_, (pss_one (ps_ost (pv 0) (pv 1))), ?_⟩
    exact ⟨_, rfl, _, rfl, a, C, rfl, T.ox, T.nw, .inl ⟨ha, fun dx nd ne => q dx nd ne⟩⟩
theorem kinBase_of {h : Heap} {C0 : Addr} (X : K.In h) (G : h.Ns mainGlobals mg) (d : BaseIn K s_KinError_init C0) : KinBase P w K mg base C0 := by
  obtain ⟨_, f0, oc, od, kV, doc, pm, an, cdv, ct, osl, a, r, g, v, l, c, k⟩ := d
  have F := fun_mk (st := s_KinError_init) l c k
  exact ⟨f0, _, _, PySem.W.mg_of X G a, ⟨r, g⟩, v, k, F.binds (ps := ["self", "word"]) (fun _ _ _ _ _ _ us hl => match us, hl with | [_, _], _ => rfl), ok_KinError_init F⟩


theorem ok_BadTurn_init {f C0 : Addr} {fd : FuncData} (F : Fun K "__init__" "BadTurn.__init__" s_BadTurn_init f fd) (B : KinBase P w K mg base C0) : FnOk P w K mg base CX0 2 f fd ["self"] (spIni K "no turning") := by
  obtain ⟨f0, fd0, mc, g0, r0, v0, k0, b0, F0⟩ := B
  refine F.ok sc_BadTurn_init (fun vs H Q E h => ?_) (fun cdv A outer s H vs Q E hr h => ?_)
  · obtain ⟨a, C, rfl, _⟩ := h
    rfl
  · obtain ⟨a, C, rfl, T, ha, q⟩ := h
    refine ⟨_, (pss_one (ps_expr (pe_cfn (pe_glob (v := .ref C0) (by rfl) g0 rfl) r0 v0 k0 F0 hr (by omega) b0 pass0 (pa_cons (pv 0) (pa_cons pe_str pa_nil))))), ?_⟩
    exact ⟨rfl, _, rfl, a, C, _, rfl, T, ha, fun dx nd ne => q dx nd ne⟩
theorem rsb_BadTurn {h : Heap} {C0 C : Addr} (X : K.In h) (G : h.Ns mainGlobals mg) (B : KinBase P w K mg base C0) (d : ErrIn K "BadTurn" "BadTurn.__init__" s_BadTurn_init C) : Rsb P w K mg base 2 "BadTurn" C "no turning" := by
  obtain ⟨T, a, fI, oc, od, kV, doc, pm, an, cdv, ct, osl, iC, tI, l, c, k⟩ := d
  have F := fun_mk (st := s_BadTurn_init) l c k
  exact ⟨PySem.W.mg_of X G a, T, fI, _, iC, tI, F.binds (ps := ["self"]) (fun _ _ _ _ _ _ us hl => match us, hl with | [_], _ => rfl), ok_BadTurn_init F B⟩


/-! ### ways -/
def sp_ways : Sp := fun vs H Q _ => ∃ n : Nat, vs = [.int (n : Int)] ∧ n ≤ 8 ∧ Q (.int (fac n : Int)) H
theorem ok_ways {f : Addr} {fd : FuncData} (D : Dn K mg "ways" s_ways p_ways f fd) (b : Blt mg) : Cal P w K mg base CX0 1 "ways" p_ways sp_ways := by
  refine D.cal (D.F.ok sc_ways (fun vs H Q E h => ?_) (fun cdv A outer s H vs Q E hr h => ?_))
  · obtain ⟨n, rfl, _⟩ := h
    rfl
  · obtain ⟨n, rfl, hn, q⟩ := h
    refine ⟨_, (pss_cons (ps_set (i := 1) sc_ways.nd rfl (Or.inl rfl) pe_int)
      (pss_cons (ps_for PassesOwn.never rfl (pi_range1 (by rfl) b.range (pa_cons (pv 0) pa_nil)) (pg_name (i := 2) sc_ways.nd rfl (Or.inl rfl)) (pss_one (ps_set (i := 1) sc_ways.nd rfl (Or.inl rfl) (pe_op op_mulW (pv 1) (pe_op op_add (pv 2) pe_int)))))
      (pss_one (ps_ret (pv 1))))), ?_⟩
    refine ⟨_, rfl, (n : Int), rfl, by omega, by omega, for_range (lo := 0) (n := n) (fun i σ' H' => H = H' ∧ ∃ y2 : Option V, σ' = [some (.int (n : Int)), some (.int (fac i : Int)), y2]) ⟨rfl, none, rfl⟩ ?_ ?_⟩
    · rintro i σ' H' hi ⟨rfl, y2, rfl⟩
      have hf := fac_le (i := i) (by omega)
      refine ⟨_, rfl, _, rfl, _, _, rfl, rfl, _, _, rfl, rfl, ?_, ?_⟩
      · show CMulW (fac i : Int) (0 + (i : Int) + 1)
        exact wide_mul (a := 60) (b := 60) (by omega) (by omega) (by decide) (by decide) (by decide)
      · refine ⟨rfl, some (.int (0 + (i : Int))), ?_⟩
        show [some (V.int (n : Int)), some (V.int ((fac i : Int) * (0 + (i : Int) + 1))), some (V.int (0 + (i : Int)))] = _
        rw [show (fac i : Int) * (0 + (i : Int) + 1) = (fac (i + 1) : Int) by rw [Int.zero_add, fac]; push_cast; rfl]
    · rintro σ' H' ⟨rfl, y2, rfl⟩
      exact ⟨_, rfl, q⟩


/-! ### number_of -/
def sp_number_of (K : PySem.W.Frag) : Sp := fun vs H Q _ => ∃ (a : Addr) (ts : List Int), vs = [.ref a] ∧ SqT K H a (ts.map V.int) ∧ ts.length ≤ 8 ∧ ∀ H', Same H H' → Q (.int (numL ts : Int)) H'
theorem cutT (ns : List Int) (k : Nat) (h : k ≤ ns.length) : cutV (ns.map V.int) (some (k : Int)) none = (ns.drop k).map V.int := by
  unfold cutV
  rw [HT.sIx_none, HT.sIx_nat, List.length_map, Nat.min_eq_left h, List.take_of_length_le (by rw [List.length_drop, List.length_map]; exact Nat.le_refl _), List.map_drop]
theorem ok_number_of {f : Addr} {fd : FuncData} (D : Dn K mg "number_of" s_number_of p_number_of f fd) (b : Blt mg) (c_ways : Cal P w K mg base CX0 1 "ways" p_ways sp_ways) : Cal P w K mg base CX0 2 "number_of" p_number_of (sp_number_of K) := by
  refine D.cal (D.F.ok sc_number_of (fun vs H Q E h => ?_) (fun cdv A outer s H vs Q E hr h => ?_))
  · obtain ⟨a, ts, rfl, _⟩ := h
    rfl
  · obtain ⟨a, ts, rfl, ha, hn, q⟩ := h
    refine ⟨_, (pss_cons (ps_set (i := 1) sc_number_of.nd rfl (Or.inl rfl) pe_int)
      (pss_cons (ps_for PassesOwn.never rfl (pi_range1 (by rfl) b.range (pa_cons (pe_callB call_len_seq (by rfl) b.len PySem.boot_len (pa_cons (pv 0) pa_nil)) pa_nil)) (pg_name (i := 2) sc_number_of.nd rfl (Or.inr rfl)) (pss_cons (ps_set (i := 3) sc_number_of.nd rfl (Or.inl rfl) (pe_callB call_len_seq (by rfl) b.len PySem.boot_len (pa_cons (pe_lc (own := [("one", 4)]) (g := gName 4) (by rfl) sc_number_of.nd (pi_tup (pe_slice sl_tup (pv 0) (po_some (pe_op op_add (pv 2) pe_int)) po_none)) (blkOk_by (N := s_number_of_N) (sc := defScope s_number_of) (by decide +kernel)) (fun _ _ _ _ _ => (pg_name (i := 4) sc_number_of.nd rfl (Or.inl rfl))) (fun _ _ _ _ _ => (pts_one (pt_cmpR op_lt (pv 4) (pe_ix (ix_tupK K) (pv 0) (pv 2) (fun _ _ => rfl)) (nomark _)))) (fun _ _ _ _ _ => (pv 4))) pa_nil)))
      (pss_one (ps_set (i := 1) sc_number_of.nd rfl (Or.inl rfl) (pe_op op_add (pv 1) (pe_op op_mulW (pv 3) (pe_c c_ways hr (by omega) (by rfl) pass0 (pa_cons (pe_op op_sub (pe_op op_sub (pe_callB call_len_seq (by rfl) b.len PySem.boot_len (pa_cons (pv 0) pa_nil)) pe_int) (pv 2)) pa_nil))))))))
      (pss_one (ps_ret (pv 1))))), ?_⟩
    have el : ((ts.map V.int).length : Int) = (ts.length : Int) := by rw [List.length_map]
    refine ⟨_, rfl, a, _, rfl, .inr ha, (ts.length : Int), (by rw [el]), by omega, by omega, for_range (lo := 0) (n := ts.length) (fun i σ' H' => ∃ (k : Nat) (y2 y3 : Option V), Same H H' ∧ k + numL (ts.drop i) = numL ts ∧ k ≤ 400000 * i ∧ σ' = [some (.ref a), some (.int (k : Int)), y2, y3, none])
      ⟨0, none, none, Same.refl _, by rw [Nat.zero_add, List.drop_zero], Nat.zero_le _, rfl⟩ ?_ ?_⟩
    · rintro i σ' H1 hi ⟨k, y2, y3, s1, hk, lk, rfl⟩
      rw [Int.zero_add]
      obtain ⟨x, hx⟩ : ∃ x, ts[i]? = some x := ⟨ts[i], List.getElem?_eq_getElem hi⟩
      have hdr : ts.drop i = x :: ts.drop (i + 1) := by
        obtain ⟨h1, h2⟩ := List.getElem?_eq_some_iff.mp hx
        rw [List.drop_eq_getElem_cons h1, h2]
      have lr : (ts.drop (i + 1)).length = ts.length - 1 - i := by rw [List.length_drop]; omega
      rw [hdr, numL] at hk
      have hat : atI (ts.map V.int) (i : Int) = some (.int x) := at_int (by omega) (by rw [Int.toNat_natCast]; exact hx)
      -- less
      refine ⟨_, rfl, _, rfl, _, _, rfl, rfl, _, rfl, a, _, rfl, same_seqT s1 ha, ?_, fun sl nsl => ?_⟩
      · show ¬ (HT.sIx (ts.map V.int).length 0 (some ((i : Int) + 1)) = 0 ∧ _)
        rw [show ((i : Int) + 1) = ((i + 1 : Nat) : Int) by omega, HT.sIx_nat, List.length_map]
        omega
      rw [show cutV (ts.map V.int) (some ((fun i j => i + j) (i : Int) 1)) none = (ts.drop (i + 1)).map V.int from cutT ts (i + 1) (by omega)]
      have s2 : Same H (upd H1 sl (.tup ((ts.drop (i + 1)).map V.int))) := same_new s1 (s1.free nsl)
      have hsl : (upd H1 sl (.tup ((ts.drop (i + 1)).map V.int))) sl = some (.tup ((ts.drop (i + 1)).map V.int)) := upd_same
      generalize upd H1 sl (.tup ((ts.drop (i + 1)).map V.int)) = H2 at *
      generalize ts.drop (i + 1) = r at *
      refine ⟨sl, rfl, ⟨_, SqT.of hsl⟩, fun L nL => lc_tup (K := K) (a := sl) (xs := r.map V.int) (fun j Hx => Same H2 Hx ∧ Hx L = some (.lst (((r.take j).filter fun y => decide (y < x)).map V.int))) ⟨same_new (Same.refl _) nL, upd_same⟩ (fun j Hx _ ⟨sx, _⟩ => SqT.of (sx _ _ hsl)) ?_ ?_⟩
      · rintro j v Hx hj ⟨sx, eL⟩
        obtain ⟨y, hy, rfl⟩ := int_at hj
        have hj2 : j < r.length := (List.getElem?_eq_some_iff.mp hy).1
        refine ⟨rfl, ⟨_, rfl, _, rfl, _, rfl, a, _, _, .int x, rfl, rfl, same_seqT (s2.trans sx) ha, hat, _, _, rfl, rfl, _, rfl, ite2 (fun e => ?_) (fun e => ?_)⟩⟩
        · have e2 : y < x := of_decide_eq_true e
          refine ⟨_, rfl, _, eL, ?_, same_new sx nL, ?_⟩
          · refine sz_lt ?_
            rw [List.length_map]
            have := List.length_filter_le (fun y => decide (y < x)) (r.take j)
            rw [List.length_take] at this
            omega
          · rw [upd_same, List.take_add_one, hy, List.filter_append, List.map_append]
            show _ = some (HO.lst (_ ++ (([y].filter fun y => decide (y < x)).map V.int)))
            rw [List.filter_cons, if_pos (decide_eq_true e2), List.filter_nil]
            rfl
        · have e2 : ¬ y < x := fun z => e (decide_eq_true z)
          refine ⟨sx, ?_⟩
          rw [List.take_add_one, hy, List.filter_append]
          show _ = some (HO.lst ((_ ++ ([y].filter fun y => decide (y < x))).map V.int))
          rw [List.filter_cons, if_neg (fun z => e2 (of_decide_eq_true z)), List.filter_nil, List.append_nil]
          exact eL
      · rintro H3 ⟨s3, hL⟩
        rw [List.length_map, List.take_length] at hL
        have s13 := s2.trans s3
        have hc := List.length_filter_le (fun y => decide (y < x)) r
        have ew : ((ts.length : Int) - 1 - (i : Int)) = ((ts.length - 1 - i : Nat) : Int) := by omega
        refine ⟨L, _, rfl, .inl (SqL.of hL), ?_⟩
        refine ⟨_, rfl, _, rfl, _, rfl, a, _, rfl, .inr (same_seqT s13 ha), _, _, rfl, rfl, _, rfl, _, _, rfl, rfl, ts.length - 1 - i, (by show [V.int (((ts.map V.int).length : Int) - 1 - (i : Int))] = _; rw [el, ew]), by omega, ?_⟩
        have hf := fac_le (i := ts.length - 1 - i) (by omega)
        rw [List.length_map]
        generalize hll : (r.filter fun y => decide (y < x)).length = c at *
        have hb : c * fac (ts.length - 1 - i) ≤ 8 * 40320 := Nat.mul_le_mul (by omega) hf
        refine ⟨_, _, rfl, rfl, ?_, _, _, rfl, rfl, ?_⟩
        · show CMulW (c : Int) (fac (ts.length - 1 - i) : Int)
          exact wide_mul (a := 60) (b := 60) (by omega) (by omega) (by decide) (by decide) (by decide)
        · refine ⟨k + c * fac (ts.length - 1 - i), some (.int (i : Int)), some (.int (c : Int)), s13, by rw [← lr, Nat.add_assoc]; exact hk, by omega, ?_⟩
          show [some (V.ref a), some (V.int ((k : Int) + (c : Int) * (fac (ts.length - 1 - i) : Int))), some (V.int (i : Int)), some (V.int (c : Int)), none] = _
          push_cast
          rfl
    · rintro σ' H1 ⟨k, y2, y3, s1, hk, lk, rfl⟩
      rw [List.drop_length, numL, Nat.add_zero] at hk
      rw [← hk] at q
      exact ⟨_, rfl, q H1 s1⟩


/-! ### numbered -/
def sp_numbered (K : PySem.W.Frag) (CT : Addr) : Sp := fun vs H Q E => ∃ (n : Nat) (k : Int), vs = [.int (n : Int), .int k] ∧ n ≤ 8 ∧
  (0 ≤ k → k < (fac n : Int) → ∀ p H', H p = none → Same H H' → SqT K H' p ((unL n (rgI n) k.toNat).map V.int) → Q (.ref p) H') ∧
  (¬ (0 ≤ k ∧ k < (fac n : Int)) → ∀ d H', H d = none → Same H H' → H' d = some (.xd [("word", .str "no turning")]) → E (.ref CT) (some d) H')
theorem ok_numbered {f CT : Addr} {fd : FuncData} (D : Dn K mg "numbered" s_numbered p_numbered f fd) (b : Blt mg) (RT : Rsb P w K mg base 2 "BadTurn" CT "no turning") (c_ways : Cal P w K mg base CX0 1 "ways" p_ways sp_ways) : Cal P w K mg base (L2.CX P w) 4 "numbered" p_numbered (sp_numbered K CT) := by
  refine D.cal (D.F.okX sc_numbered (fun vs H Q E h => ?_) (fun cdv A outer s H vs Q E hr h => ?_))
  · obtain ⟨n, k, rfl, _⟩ := h
    rfl
  · obtain ⟨n, k, rfl, hn, q, e⟩ := h
    refine ⟨_, (pss_cons (ps_if (PW.pt (pw_or (pt_cmpR op_lt (pv 1) pe_int (nomark _)) (pw_or1 (pt_cmpR op_ge (pv 1) (pe_c c_ways hr (by omega) (by rfl) pass0 (pa_cons (pv 0) pa_nil)) (nomark _))))) (pss_one (ps_rsb RT hr (by omega) rfl (takes_of rfl rfl rfl rfl) (by rfl))) pss_nil)
      (pss_cons (ps_set (i := 2) sc_numbered.nd rfl (Or.inl rfl) (pe_listRg rfl (by rfl) b.ty_list (prg_1 (by rfl) b.range (pv 0))))
      (pss_cons (ps_set (i := 3) sc_numbered.nd rfl (Or.inl rfl) (pe_lst pa_nil))
      (pss_cons (ps_for (passes_of rfl) rfl (pi_range1 (by rfl) b.range (pa_cons (pv 0) pa_nil)) (pg_name (i := 4) sc_numbered.nd rfl (Or.inl rfl)) (pss_cons (ps_set (i := 5) sc_numbered.nd rfl (Or.inl rfl) (pe_c c_ways hr (by omega) (by rfl) pass0 (pa_cons (pe_op op_sub (pe_op op_sub (pv 0) pe_int) (pv 4)) pa_nil)))
      (pss_cons (ps_expr (pe_bm PySem.F.plainAttrs_list PySem.F.slot_list_append PySem.F.type_list_append mt_append (pv 3) (pa_cons (pe_bm PySem.F.plainAttrs_list PySem.F.slot_list_pop PySem.F.type_list_pop mt_popAt (pv 2) (pa_cons (pe_op op_fdivW (pv 1) (pv 5)) pa_nil)) pa_nil)))
      (pss_one (ps_set (i := 1) sc_numbered.nd rfl (Or.inl rfl) (pe_op op_mod (pv 1) (pv 5)))))))
      (pss_one (ps_ret (pe_callTy call_tuple_of (by rfl) b.ty_tuple (by decide +kernel) (pa_cons (pv 3) pa_nil)))))))), ?_⟩
    refine ⟨_, rfl, _, _, rfl, rfl, _, rfl, ite2 (fun e1 => ?_) (fun e1 => ?_)⟩
    · have e2 : k < 0 := of_decide_eq_true e1
      exact iteT fun d nd => e (fun z => by omega) d _ nd (same_new (Same.refl _) nd) upd_same
    have e2 : ¬ k < 0 := fun z => e1 (decide_eq_true z)
    refine ⟨_, rfl, _, rfl, n, rfl, hn, _, _, rfl, rfl, _, rfl, ite2 (fun e3 => ?_) (fun e3 => ?_)⟩
    · have e4 : k ≥ (fac n : Int) := of_decide_eq_true e3
      exact fun d nd => e (fun z => by omega) d _ nd (same_new (Same.refl _) nd) upd_same
    have e4 : ¬ k ≥ (fac n : Int) := fun z => e3 (decide_eq_true z)
    obtain ⟨m, rfl⟩ : ∃ m : Nat, k = (m : Int) := ⟨k.toNat, by omega⟩
    have hm : m < fac n := by omega
    -- free, found
    refine ⟨_, rfl, _, rfl, rg_ok (by omega), fun l nl => ?_⟩
    rw [rgV_int]
    refine ⟨Nat.zero_le _, fun o no => ?_⟩
    have s1 : Same H (upd H l (.lst ((rgI n).map V.int))) := same_new (Same.refl _) nl
    have no0 := s1.free no
    have nlo : l ≠ o := ne_of_none upd_same no
    refine ⟨_, rfl, (n : Int), rfl, by omega, by omega, for_range (lo := 0) (n := n) (fun i σ' H' => ∃ (y4 y5 : Option V) (F acc : List Int) (k : Nat), σ' = [some (.int (n : Int)), some (.int (k : Int)), some (.ref l), some (.ref o), y4, y5] ∧ Same H H' ∧ H' l = some (.lst (F.map V.int)) ∧ H' o = some (.lst (acc.map V.int)) ∧ F.length = n - i ∧ acc.length = i ∧ k < fac (n - i) ∧ acc ++ unL (n - i) F k = unL n (rgI n) m)
      ⟨none, none, rgI n, [], m, rfl, same_new s1 no0, upd_old nlo upd_same, upd_same, rgI_len n, rfl, hm, rfl⟩ ?_ ?_⟩
    · rintro i σ' H2 hi ⟨y4, y5, F, acc, k, rfl, s2, el, eo, hF, ha, hk, hu⟩
      rw [Int.zero_add]
      obtain ⟨j, hj⟩ : ∃ j, n - i = j + 1 := ⟨n - i - 1, by omega⟩
      rw [hj] at hF hk hu
      have hj2 : n - (i + 1) = j := by omega
      have hp := fac_pos j
      have hfl := fac_le (i := j) (by omega)
      have hq : k / fac j < j + 1 := by
        rw [Nat.div_lt_iff_lt_mul hp, Nat.mul_comm]
        exact hk
      have hq0 : (0 : Int) ≤ ((k / fac j : Nat) : Int) := Int.natCast_nonneg _
      have hq1 : ((k / fac j : Nat) : Int) < ((j + 1 : Nat) : Int) := Int.ofNat_lt.mpr hq
      -- share
      refine ⟨_, rfl, _, _, rfl, rfl, _, rfl, _, _, rfl, rfl, j, (by show [V.int ((n : Int) - 1 - (i : Int))] = _; rw [show (n : Int) - 1 - (i : Int) = (j : Int) by omega]), by omega, ?_⟩
      -- found.append(free.pop(number // share))
      refine ⟨_, rfl, .inl ⟨rfl, _, SqL.of eo⟩, _, rfl, .inl ⟨rfl, _, SqL.of el⟩, _, rfl, _, rfl, _, _, rfl, rfl, wide_div (b := 60) (by omega) (by omega) (by decide) (by decide), l, _, ((k / fac j : Nat) : Int), k / fac j, .int (F.getD (k / fac j) 0), rfl, ?_, el, ?_, ?_, ?_, ?_, ?_⟩
      · show [V.int ((k : Int) / (fac j : Int))] = _
        push_cast
        rfl
      · exact Int.le_trans (by decide) hq0
      · exact Int.lt_of_lt_of_le hq1 (by omega)
      · rw [List.length_map, hF]
        have e : ((k / fac j : Nat) : Int).toNat = k / fac j := Int.toNat_natCast _
        have := seqIx_in (n := j + 1) hq0 hq1
        rw [e] at this
        exact this
      · rw [List.getElem?_map, getD_some (by omega)]
        rfl
      · refine ⟨o, _, _, rfl, rfl, upd_old nlo.symm eo, ?_, ?_⟩
        · refine sz_lt ?_
          rw [List.length_map]
          omega
        · refine ⟨_, rfl, _, rfl, _, _, rfl, rfl, (by show (0 : Int) < (fac j : Int); omega), ?_⟩
          refine ⟨some (.int (i : Int)), some (.int (fac j : Int)), F.eraseIdx (k / fac j), acc ++ [F.getD (k / fac j) 0], k % fac j, ?_, same_new (same_new s2 nl) no0, ?_, ?_, ?_, ?_, ?_, ?_⟩
          · show [some (V.int (n : Int)), some (V.int ((k : Int) % (fac j : Int))), some (V.ref l), some (V.ref o), some (V.int (i : Int)), some (V.int (fac j : Int))] = _
            rw [show (k : Int) % (fac j : Int) = ((k % fac j : Nat) : Int) by push_cast; rfl]
          · rw [upd_ne nlo, upd_same, erase_ints]
          · rw [upd_same, snoc_ints]
          · rw [List.length_eraseIdx_of_lt (by omega)]
            omega
          · rw [List.length_append, ha]
            rfl
          · rw [hj2]
            exact Nat.mod_lt _ hp
          · rw [hj2, ← hu, unL, List.append_assoc]
            rfl
    · rintro σ' H2 ⟨y4, y5, F, acc, k, rfl, s2, el, eo, hF, ha, hk, hu⟩
      rw [Nat.sub_self, unL, List.append_nil] at hu
      rw [← show unL n (rgI n) ((m : Int)).toNat = acc by rw [Int.toNat_natCast]; exact hu.symm] at eo
      refine ⟨_, rfl, o, _, rfl, .inl ⟨SqL.of eo, fun t nt => ?_⟩⟩
      exact q (by omega) (by omega) t _ (s2.free nt) (same_new s2 (s2.free nt)) (SqT.of upd_same)


/-! ### _law_asked -/
def sp_asked (K : PySem.W.Frag) : Sp := fun vs H Q _ => ∃ (n : Nat) (k : Int), vs = [.int (n : Int), .int k] ∧ n ≤ 8 ∧
  (0 ≤ k → k < (fac n : Int) → ∀ p t H', Same H H' → SqT K H' t ((unL n (rgI n) k.toNat).map V.int) → H' p = some (.tup [.str "told", .ref t]) → Q (.ref p) H') ∧
  (¬ (0 ≤ k ∧ k < (fac n : Int)) → ∀ p H', Same H H' → H' p = some (.tup [.str "refused", .str "no turning", .bl true]) → Q (.ref p) H')
theorem ok_l_asked {f C C0 : Addr} {fd : FuncData} (D : Dn K mg "_law_asked" s_l_asked p_l_asked f fd) (b : Blt mg) (g0 : mg "KinError" = some (.ref C0)) (gC : mg "BadTurn" = some (.ref C)) (T : KinC K C) (U : Under K C C0)
    (c_numbered : Cal P w K mg base (L2.CX P w) 4 "numbered" p_numbered (sp_numbered K C)) :
    Cal P w K mg base CX0 5 "_law_asked" p_l_asked (sp_asked K) := by
  refine D.cal (D.F.ok sc_l_asked (fun vs H Q E h => ?_) (fun cdv A outer s H vs Q E hr h => ?_))
  · obtain ⟨n, k, rfl, _⟩ := h
    rfl
  · obtain ⟨n, k, rfl, hn, q, e⟩ := h
    refine ⟨_, (pss_one (ps_try_as (i := 2) (by rfl) (by rfl) sc_l_asked.nd rfl rfl ⟨rfl, by decide, Or.inl g0⟩ takes0 (fun W pn xe tk _ => (pss_one (ps_ret (pe_tup (pa_cons pe_str (pa_cons (pe_cS c_numbered hr (by omega) (by rfl) (fun σ => passAt tk σ) (pa_cons (pv 0) (pa_cons (pv 1) pa_nil))) pa_nil)))))) (fun a oe cls d pn hz hf => (pss_one (ps_ret (pe_tup (pa_cons pe_str (pa_cons (pe_ef K hz hf (pv 2)) (pa_cons (pe_callB (call_eis K hz hf) (by rfl) b.isinstance (by decide +kernel) (pa_cons (pv 2) (pa_cons (pe_glob (v := .ref C) (by rfl) gC rfl) pa_nil))) pa_nil))))))))), ?_⟩
    refine ⟨_, rfl, _, rfl, n, k, rfl, hn, fun k0 k1 t H1 nt s1 ht => ?_, fun hno d H1 nd s1 hd => ?_⟩
    · refine ⟨(by show 2 ≤ sizeLine; decide), fun p np => ?_⟩
      have sp := same_new (o := .tup [.str "told", .ref t]) (Same.refl H1) np
      exact q k0 k1 p t _ (s1.trans sp) (same_seqT sp ht) upd_same
    · refine ⟨true, U, fun _ x nx => ?_, fun z => nomatch z⟩
      refine ⟨_, rfl, C, d, _, _, rfl, rfl, T.xf, T.nw, rfl, hd, rfl, ?_⟩
      refine ⟨_, rfl, C, d, _, _, _, true, rfl, rfl, T, rfl, hd, .own C, kit_self K C, ?_⟩
      exact ⟨by decide, fun p np => e hno p _ (same_new s1 (s1.free np)) upd_same⟩


/-! ### the law -/
def spLaw (K : PySem.W.Frag) : Sp := fun vs H Q _ => ∃ (a : Addr) (ns : List Int), vs = [.ref a] ∧ SqL K H a (ns.map V.int) ∧ ns.length ≤ 63 ∧ ∀ H', Q (.bl true) H'
theorem ok_law {f : Addr} {fd : FuncData} (D : Dn K mg "law" s_law p_law f fd) (b : Blt mg) (c_l_cell : Cal P w K mg base CX0 1 "_law_cell" p_l_cell (sp_cell K)) (c_l_draws : Cal P w K mg base CX0 1 "_law_draws" p_l_draws (sp_draws K)) (c_l_turn : Cal P w K mg base CX0 1 "_law_turn" p_l_turn sp_turn)
    (c_l_same : ∀ n, Cal P w K mg base CX0 n "_law_same" p_l_same (sp_same K n)) (c_number_of : Cal P w K mg base CX0 2 "number_of" p_number_of (sp_number_of K)) (c_l_asked : Cal P w K mg base CX0 5 "_law_asked" p_l_asked (sp_asked K)) :
    FnOk P w K mg base CX0 6 f fd p_law (spLaw K) := by
  refine D.F.ok sc_law (fun vs H Q E h => ?_) (fun cdv A outer s H vs Q E hr h => ?_)
  · obtain ⟨a, ns, rfl, _⟩ := h
    rfl
  · obtain ⟨a, ns, rfl, hS, hlen, q⟩ := h
    refine ⟨_, (pss_cons (ps_set (i := 0) sc_law.nd rfl (Or.inl rfl) (pe_slice sl_list (pv 0) po_none (po_some pe_int)))
      (pss_cons (ps_set (i := 1) sc_law.nd rfl (Or.inl rfl) (pe_c c_l_draws hr (by omega) (by rfl) pass0 (pa_cons (pe_c c_l_cell hr (by omega) (by rfl) pass0 (pa_cons (pv 0) (pa_cons pe_int pa_nil))) (pa_cons (pe_lst (pa_cons pe_int (pa_cons pe_int (pa_cons pe_int (pa_cons pe_int pa_nil))))) pa_nil))))
      (pss_cons (ps_set (i := 2) sc_law.nd rfl (Or.inl rfl) (pe_ix ix_list (pv 1) pe_int (fun _ _ => rfl)))
      (pss_cons (ps_set (i := 3) sc_law.nd rfl (Or.inl rfl) (pe_c c_l_turn hr (by omega) (by rfl) pass0 (pa_cons (pe_ix ix_list (pv 1) pe_int (fun _ _ => rfl)) (pa_cons (pv 2) pa_nil))))
      (pss_cons (ps_set (i := 4) sc_law.nd rfl (Or.inl rfl) (pe_c c_l_turn hr (by omega) (by rfl) pass0 (pa_cons (pe_ix ix_list (pv 1) pe_int (fun _ _ => rfl)) (pa_cons (pv 2) pa_nil))))
      (pss_cons (ps_set (i := 5) sc_law.nd rfl (Or.inl rfl) (pe_c c_number_of hr (by omega) (by rfl) pass0 (pa_cons (pv 3) pa_nil)))
      (pss_cons (ps_set (i := 6) sc_law.nd rfl (Or.inl rfl) (pe_c c_number_of hr (by omega) (by rfl) pass0 (pa_cons (pv 4) pa_nil)))
      (pss_cons (ps_set (i := 7) sc_law.nd rfl (Or.inl rfl) pe_int)
      (pss_cons (ps_for PassesOwn.never rfl (pi_range1 (by rfl) b.range (pa_cons (pv 2) pa_nil)) (pg_name (i := 8) sc_law.nd rfl (Or.inl rfl)) (pss_one (ps_set (i := 7) sc_law.nd rfl (Or.inl rfl) (pe_op op_mulW (pv 7) (pe_op op_add (pv 8) pe_int)))))
      (pss_cons (ps_for PassesOwn.never rfl (pi_tup (pe_tup (pa_cons (pv 5) (pa_cons (pv 6) pa_nil)))) (pg_name (i := 9) sc_law.nd rfl (Or.inl rfl)) (pss_one (ps_if (PW.pt (pw_or (pt_not (pt_val (pe_callB call_isi (by rfl) b.isinstance (by decide +kernel) (pa_cons (pv 9) (pa_cons (pe_bltn (v := .ty "int") (by rfl) b.ty_int (by decide +kernel) rfl) pa_nil))))) (pw_or (pt_val (pe_callB call_isi (by rfl) b.isinstance (by decide +kernel) (pa_cons (pv 9) (pa_cons (pe_bltn (v := .ty "bool") (by rfl) b.ty_bool (by decide +kernel) rfl) pa_nil)))) (pw_or (pt_cmpR op_lt (pv 9) pe_int (nomark _)) (pw_or1 (pt_cmpR op_ge (pv 9) (pv 7) (nomark _))))))) (pss_one (ps_ret pe_bl)) pss_nil)))
      (pss_cons (ps_if (PW.pt (pw_or (pt_cmpR op_ne (pe_cmpR op_lt (pv 5) (pv 6) (nomark _)) (pe_cmpR (op_ltT hr.units0) (pv 3) (pv 4) (nomark _)) (nomark _)) (pw_or1 (pt_cmpR op_ne (pe_cmpR op_eq (pv 5) (pv 6) (nomark _)) (pe_cmpR (op_eqD hr.units) (pv 3) (pv 4) (nomark _)) (nomark _))))) (pss_one (ps_ret pe_bl)) pss_nil)
      (pss_cons (ps_if (pt_not (pt_val (pe_c (c_l_same 3) hr (by omega) (by rfl) pass0 (pa_cons (pe_c c_l_asked hr (by omega) (by rfl) pass0 (pa_cons (pv 2) (pa_cons (pv 5) pa_nil))) (pa_cons (pe_tup (pa_cons pe_str (pa_cons (pv 3) pa_nil))) pa_nil))))) (pss_one (ps_ret pe_bl)) pss_nil)
      (pss_cons (ps_set (i := 9) sc_law.nd rfl (Or.inl rfl) (pe_op op_sub (pe_op op_mod (pe_c c_l_cell hr (by omega) (by rfl) pass0 (pa_cons (pv 0) (pa_cons pe_int pa_nil))) (pe_op op_mulW pe_int (pv 7))) (pv 7)))
      (pss_cons (ps_if (pt_cmpR op_lt (pe_ix ix_list (pv 1) pe_int (fun _ _ => rfl)) pe_int (nomark _)) (pss_one (ps_set (i := 9) sc_law.nd rfl (Or.inl rfl) (pe_ix ix_list (pe_lst (pa_cons (pe_un un_neg pe_int) (pa_cons pe_int (pa_cons (pe_op op_sub (pv 7) pe_int) (pa_cons (pv 7) pa_nil))))) (pe_ix ix_list (pv 1) pe_int (fun _ _ => rfl)) (fun _ _ => rfl)))) pss_nil)
      (pss_cons (ps_if (PW.pt (pw_or (pt_cmpR op_lt (pv 9) pe_int (nomark _)) (pw_or1 (pt_cmpR op_ge (pv 9) (pv 7) (nomark _))))) (pss_one (ps_ret (pe_c (c_l_same 3) hr (by omega) (by rfl) pass0 (pa_cons (pe_c c_l_asked hr (by omega) (by rfl) pass0 (pa_cons (pv 2) (pa_cons (pv 9) pa_nil))) (pa_cons (pe_tup (pa_cons pe_str (pa_cons pe_str (pa_cons pe_bl pa_nil)))) pa_nil))))) pss_nil)
      (pss_cons (ps_set (i := 10) sc_law.nd rfl (Or.inl rfl) (pe_c c_l_asked hr (by omega) (by rfl) pass0 (pa_cons (pv 2) (pa_cons (pv 9) pa_nil))))
      (pss_cons (ps_if (PW.pt (pw_or (pt_cmpR op_ne (pe_ix ix_tup (pv 10) pe_int (fun _ _ => rfl)) pe_str (nomark _)) (pw_or (pt_not (pt_val (pe_callB call_isi (by rfl) b.isinstance (by decide +kernel) (pa_cons (pe_ix ix_tup (pv 10) pe_int (fun _ _ => rfl)) (pa_cons (pe_bltn (v := .ty "tuple") (by rfl) b.ty_tuple (by decide +kernel) rfl) pa_nil))))) (pw_or1 (pt_cmpR (op_neD hr.units) (pe_callB cr_sortedTup (by rfl) b.sorted (by decide +kernel) (pa_cons (pe_ix ix_tup (pv 10) pe_int (fun _ _ => rfl)) pa_nil)) (pe_listRg rfl (by rfl) b.ty_list (prg_1 (by rfl) b.range (pv 2))) (nomark _)))))) (pss_one (ps_ret pe_bl)) pss_nil)
      (pss_one (ps_ret (pe_c (c_l_same 3) hr (by omega) (by rfl) pass0 (pa_cons (pe_c c_number_of hr (by omega) (by rfl) pass0 (pa_cons (pe_ix ix_tup (pv 10) pe_int (fun _ _ => rfl)) pa_nil)) (pa_cons (pv 9) pa_nil)))))))))))))))))))))), ?_⟩
    refine ⟨_, rfl, 63, rfl, a, _, rfl, hS, fun sc nsc => ?_⟩
    rw [cut63]
    generalize hms : ns.take 63 = cs
    have hsc : (upd H sc (.lst (cs.map V.int))) sc = some (.lst (cs.map V.int)) := upd_same
    generalize upd H sc (.lst (cs.map V.int)) = H0 at hsc
    refine ⟨_, rfl, sc, cs, 0, rfl, SqL.of hsc, ?_⟩
    refine ⟨by decide, fun pp npp => ?_⟩
    have s0 : Same H0 (upd H0 pp (.lst (([9, 40320, 40320, 6] : List Int).map V.int))) := same_new (Same.refl _) npp
    refine ⟨_, pp, [9, 40320, 40320, 6], rfl, SqL.of upd_same, by decide, by decide, fun d H1 nd s1 hd => ?_⟩
    have hsc1 := s1 _ _ (s0 _ _ hsc)
    obtain ⟨ds0, dsg0, dsl0, dsu0⟩ := draws_get (c := cell cs 0) (ps := [9, 40320, 40320, 6]) (i := 0) (p := 9) rfl (by decide)
    obtain ⟨ds1, dsg1, dsl1, dsu1⟩ := draws_get (c := cell cs 0) (ps := [9, 40320, 40320, 6]) (i := 1) (p := 40320) rfl (by decide)
    obtain ⟨ds2, dsg2, dsl2, dsu2⟩ := draws_get (c := cell cs 0) (ps := [9, 40320, 40320, 6]) (i := 2) (p := 40320) rfl (by decide)
    obtain ⟨ds3, dsg3, dsl3, dsu3⟩ := draws_get (c := cell cs 0) (ps := [9, 40320, 40320, 6]) (i := 3) (p := 6) rfl (by decide)
    generalize draws (cell cs 0) [9, 40320, 40320, 6] = ds at *
    have dsa0 : atI (ds.map V.int) 0 = some (.int ds0) := at_int (by decide) dsg0
    have dsa1 : atI (ds.map V.int) 1 = some (.int ds1) := at_int (by decide) dsg1
    have dsa2 : atI (ds.map V.int) 2 = some (.int ds2) := at_int (by decide) dsg2
    have dsa3 : atI (ds.map V.int) 3 = some (.int ds3) := at_int (by decide) dsg3
    clear s1 nd npp nsc hS hsc s0
    obtain ⟨n, rfl, hn⟩ : ∃ n : Nat, ds0 = (n : Int) ∧ n ≤ 8 := ⟨ds0.toNat, by omega, by omega⟩
    -- size, one, other
    refine ⟨_, rfl, d, _, _, _, rfl, rfl, SqL.of hd, dsa0, ?_⟩
    refine ⟨_, rfl, d, _, _, _, rfl, rfl, SqL.of hd, dsa1, _, rfl, ds1, n, rfl, by omega, fun tu H2 ntu s2 htu => ?_⟩
    have hd2 := s2 _ _ hd
    refine ⟨_, rfl, d, _, _, _, rfl, rfl, SqL.of hd2, dsa2, _, rfl, ds2, n, rfl, by omega, fun tv H3 ntv s3 htv => ?_⟩
    have pu : (turnOf ds1 n).Perm (rgI n) := by have := (turnOf_turn ds1 n).perm; rw [turnOf_len] at this; exact this
    have pv : (turnOf ds2 n).Perm (rgI n) := by have := (turnOf_turn ds2 n).perm; rw [turnOf_len] at this; exact this
    have hU : SqT K H3 tu ((turnOf ds1 n).map V.int) := SqT.of (s3 _ _ htu)
    have hV : SqT K H3 tv ((turnOf ds2 n).map V.int) := SqT.of htv
    have lu := turnOf_len ds1 n
    have lv := turnOf_len ds2 n
    generalize turnOf ds1 n = us at *
    generalize turnOf ds2 n = vs at *
    have hd3 := s3 _ _ hd2
    have hsc3 := s3 _ _ (s2 _ _ hsc1)
    clear htu htv ntu ntv s2 s3 hd hd2 hsc1
    have upn := up_rgI n
    have nu := numL_lt upn pu
    have nv := numL_lt upn pv
    rw [rgI_len] at nu nv
    have hfac := fac_le hn
    have hfp := fac_pos n
    obtain ⟨ord1, ord2⟩ := numL_order upn pu pv
    -- here, there
    refine ⟨_, rfl, tu, us, rfl, hU, by omega, fun H4 s4 => ?_⟩
    refine ⟨_, rfl, tv, vs, rfl, same_seqT s4 hV, by omega, fun H5 s5 => ?_⟩
    have s35 := s4.trans s5
    have hU5 := same_seqT s35 hU
    have hV5 := same_seqT s35 hV
    have hd5 := s35 _ _ hd3
    have hsc5 := s35 _ _ hsc3
    clear hU hV hd3 hsc3 s4 s5 s35
    -- count
    refine ⟨_, rfl, (n : Int), rfl, by omega, by omega, for_range (lo := 0) (n := n) (fun i σ' H' => H5 = H' ∧ ∃ y8 : Option V, σ' = [some (.ref sc), some (.ref d), some (.int (n : Int)), some (.ref tu), some (.ref tv), some (.int (numL us : Int)), some (.int (numL vs : Int)), some (.int (fac i : Int)), y8, none, none]) ⟨rfl, none, rfl⟩ ?_ ?_⟩
    · rintro i σ' H' hi ⟨rfl, y8, rfl⟩
      have hf := fac_le (i := i) (by omega)
      refine ⟨_, rfl, _, rfl, _, _, rfl, rfl, _, _, rfl, rfl, ?_, ?_⟩
      · show CMulW (fac i : Int) (0 + (i : Int) + 1)
        exact wide_mul (a := 60) (b := 60) (by omega) (by omega) (by decide) (by decide) (by decide)
      · refine ⟨rfl, some (.int (0 + (i : Int))), ?_⟩
        show [some (.ref sc), some (.ref d), some (.int (n : Int)), some (.ref tu), some (.ref tv), some (.int (numL us : Int)), some (.int (numL vs : Int)), some (V.int ((fac i : Int) * (0 + (i : Int) + 1))), some (V.int (0 + (i : Int))), none, none] = _
        rw [show (fac i : Int) * (0 + (i : Int) + 1) = (fac (i + 1) : Int) by rw [Int.zero_add, fac]; push_cast; rfl]
    rintro σ5 _ ⟨rfl, y8, rfl⟩
    -- for number in (here, there)
    refine ⟨_, rfl, _, rfl, (by show 2 ≤ sizeLine; decide), fun tp ntp => ?_⟩
    have s6 : Same H5 (upd H5 tp (.tup [V.int (numL us : Int), V.int (numL vs : Int)])) := same_new (Same.refl _) ntp
    have htp : (upd H5 tp (.tup [V.int (numL us : Int), V.int (numL vs : Int)])) tp = some (.tup [V.int (numL us : Int), V.int (numL vs : Int)]) := upd_same
    generalize upd H5 tp (.tup [V.int (numL us : Int), V.int (numL vs : Int)]) = H6 at *
    refine ⟨tp, rfl, ⟨_, SqT.of htp⟩, for_tup (K := K) (a := tp) (xs := [V.int (numL us : Int), V.int (numL vs : Int)]) (fun i σ' H' => H6 = H' ∧ ∃ y9 : Option V, σ' = [some (.ref sc), some (.ref d), some (.int (n : Int)), some (.ref tu), some (.ref tv), some (.int (numL us : Int)), some (.int (numL vs : Int)), some (.int (fac n : Int)), y8, y9, none])
      ⟨rfl, none, rfl⟩ (fun i σ' H' _ ⟨e, _⟩ => by rw [← e]; exact SqT.of htp) ?_ ?_⟩
    · rintro i v σ' H' hi ⟨rfl, y9, rfl⟩
      obtain ⟨k, rfl, hk⟩ : ∃ k : Nat, v = .int (k : Int) ∧ k < fac n := by
        have hm := List.mem_of_getElem? hi
        simp only [List.mem_cons, List.not_mem_nil, or_false] at hm
        rcases hm with h | h
        · exact ⟨_, h, nu⟩
        · exact ⟨_, h, nv⟩
      refine ⟨_, rfl, _, _, _, _, true, rfl, .ty "int", .base (.int _), kit_ty (by decide +kernel), _, rfl, iteF ?_⟩
      refine ⟨_, rfl, _, _, _, _, false, rfl, .ty "bool", .base (.int _), kit_ty (by decide +kernel), _, rfl, iteF ?_⟩
      refine ⟨_, rfl, _, _, rfl, rfl, _, rfl, ?_⟩
      rw [decide_eq_false (show ¬ (k : Int) < 0 by omega)]
      refine iteF ⟨_, rfl, _, rfl, _, _, rfl, rfl, _, rfl, ?_⟩
      rw [decide_eq_false (show ¬ (k : Int) ≥ (fac n : Int) by omega)]
      exact ifno ⟨rfl, _, rfl⟩
    rintro σ6 _ ⟨rfl, y9, rfl⟩
    have hU6 := same_seqT s6 hU5
    have hV6 := same_seqT s6 hV5
    have hd6 := s6 _ _ hd5
    have hsc6 := s6 _ _ hsc5
    clear hU5 hV5 hd5 hsc5 s6 htp ntp
    -- the orders
    refine ⟨_, rfl, _, rfl, _, _, rfl, rfl, _, rfl, _, rfl, tu, tv, us, vs, rfl, rfl, hU6, hV6, rfl, _, rfl, ?_⟩
    rw [show decide (V.bl (decide ((numL us : Int) < (numL vs : Int))) = V.bl (HT.lexLt us vs)) = true from decide_eq_true (by rw [← ord1]; exact congrArg V.bl (decide_eq_decide.mpr (by omega)))]
    refine iteF ⟨_, rfl, _, rfl, rfl, _, rfl, _, rfl, _, _, dp_tupI hU6, dp_tupI hV6, shaped_tupI _, shaped_tupI _, rfl, _, rfl, ?_⟩
    rw [eqv_tupI, show decide (V.bl (decide (V.int (numL us : Int) = V.int (numL vs : Int))) = V.bl (decide (us = vs))) = true from decide_eq_true (congrArg V.bl (decide_eq_decide.mpr ⟨fun z => ord2 (by have := V.int.inj z; omega), fun z => by rw [z]⟩))]
    refine ifno ?_
    -- asked of the first
    refine ⟨_, rfl, _, rfl, n, _, rfl, hn, fun _ _ p t H7 s7 ht hp => ?_, fun z => absurd ⟨by omega, by omega⟩ z⟩
    have eu : unL n (rgI n) ((numL us : Int)).toNat = us := by
      rw [Int.toNat_natCast]
      have := unL_numL upn pu
      rw [lu] at this
      exact this
    rw [eu] at ht
    have hU7 := same_seqT s7 hU6
    refine ⟨_, rfl, (by show 2 ≤ sizeLine; decide), fun du ndu => ?_⟩
    have s8 : Same H7 (upd H7 du (.tup [.str "told", .ref tu])) := same_new (Same.refl _) ndu
    refine ⟨_, _, rfl, .tup (SqT.of (s8 _ _ hp)) (SqT.of upd_same) rfl (by show 2 ≤ 1000; decide) (alike_more (.str _) (alike_1 (alike_tupI (same_seqT s8 ht) (same_seqT s8 hU7) (by omega)))), fun H9 s9 => ⟨_, rfl, ifno ?_⟩⟩
    have s69 := s7.trans (s8.trans s9)
    have hd9 := s69 _ _ hd6
    have hsc9 := s69 _ _ hsc6
    clear hp ht s7 s8 s9 hU6 hV6 hU7 hd6 hsc6 s69 ndu
    -- number
    refine ⟨_, rfl, sc, cs, 1, rfl, SqL.of hsc9, _, rfl, _, _, rfl, rfl, ?_, _, _, rfl, rfl, ?_, _, rfl, _, _, rfl, rfl, ?_⟩
    · show CMulW 3 (fac n : Int)
      exact wide_mul (a := 60) (b := 60) (by decide) (by omega) (by decide) (by decide) (by decide)
    · show (0 : Int) < 3 * (fac n : Int)
      omega
    dsimp only
    generalize cell cs 1 % (3 * (fac n : Int)) - (fac n : Int) = m0
    walk_at "nx"
    refine seq_cut (fun σ' H' => Same H9 H' ∧ ∃ m : Int, σ' = [some (.ref sc), some (.ref d), some (.int (n : Int)), some (.ref tu), some (.ref tv), some (.int (numL us : Int)), some (.int (numL vs : Int)), some (.int (fac n : Int)), y8, some (.int m), none]) (fun N hN => ?_) ?_
    · refine ⟨_, rfl, d, _, _, _, rfl, rfl, SqL.of hd9, dsa3, _, _, rfl, rfl, _, rfl, ite2 (fun e => ?_) (fun e => hN _ _ ⟨Same.refl _, m0, rfl⟩)⟩
      have e2 : ds3 < 4 := of_decide_eq_true e
      refine ⟨_, rfl, _, rfl, _, _, rfl, rfl, _, rfl, (by show 4 ≤ sizeLine; decide), fun l nl => ?_⟩
      have s5 : Same H9 (upd H9 l (.lst [V.int (-1), V.int 0, V.int ((fac n : Int) - 1), V.int (fac n : Int)])) := same_new (Same.refl _) nl
      obtain ⟨v, hv⟩ : ∃ v : Int, atI [V.int (-1), V.int 0, V.int ((fac n : Int) - 1), V.int (fac n : Int)] ds3 = some (.int v) := by
        have : ds3 = 0 ∨ ds3 = 1 ∨ ds3 = 2 ∨ ds3 = 3 := by omega
        rcases this with h | h | h | h <;> subst h
        · exact ⟨_, at_V (by decide) rfl⟩
        · exact ⟨_, at_V (by decide) rfl⟩
        · exact ⟨_, at_V (by decide) rfl⟩
        · exact ⟨_, at_V (by decide) rfl⟩
      exact ⟨_, rfl, d, _, _, _, rfl, rfl, SqL.of (s5 _ _ hd9), dsa3, l, _, _, _, rfl, rfl, SqL.of upd_same, hv, hN _ _ ⟨s5, v, rfl⟩⟩
    rintro σ7 H10 ⟨s10, m, rfl⟩
    have bad : ∀ (D : Ends), D.rt = Q → ¬ (0 ≤ m ∧ m < (fac n : Int)) →
        (tRet (tCall (sp_same K 3) [] E0 (tCons (tCall (sp_asked K) [] E0 (tCons (tVar 2) (tCons (tVar 9) tNil))) (tCons (tTup (tCons (tC (.str "refused")) (tCons (tC (.str "no turning")) (tCons (tC (.bl true)) tNil)))) tNil)))) D [some (.ref sc), some (.ref d), some (.int (n : Int)), some (.ref tu), some (.ref tv), some (.int (numL us : Int)), some (.int (numL vs : Int)), some (.int (fac n : Int)), y8, some (.int m), none] H10 := by
      intro D hD hno
      refine ⟨_, rfl, _, rfl, n, m, rfl, hn, fun h0 h1 => absurd ⟨h0, h1⟩ hno, fun _ p H8 s9 hp => ⟨by decide, fun du ndu => ?_⟩⟩
      have s10 : Same H8 (upd H8 du (.tup [.str "refused", .str "no turning", .bl true])) := same_new (Same.refl _) ndu
      refine ⟨_, _, rfl, .tup (SqT.of (s10 _ _ hp)) (SqT.of upd_same) rfl (by decide) (alike_more (.str _) (alike_more (.str _) (alike_1 (.bl _)))), fun H9 s11 => ?_⟩
      rw [hD]
      exact q _
    refine ⟨_, rfl, _, _, rfl, rfl, _, rfl, ite2 (fun e => ?_) (fun e => ?_)⟩
    · have e2 : m < 0 := of_decide_eq_true e
      exact iteT (bad _ rfl fun z => by omega)
    have e2 : ¬ m < 0 := fun z => e (decide_eq_true z)
    refine ⟨_, rfl, _, rfl, _, _, rfl, rfl, _, rfl, ite2 (fun e3 => ?_) (fun e3 => ?_)⟩
    · have e4 : m ≥ (fac n : Int) := of_decide_eq_true e3
      exact bad _ rfl fun z => by omega
    have e4 : ¬ m ≥ (fac n : Int) := fun z => e3 (decide_eq_true z)
    obtain ⟨pp1, pp2⟩ := unL_perm (n := n) (k := m.toNat) upn (rgI_len n) (by omega)
    -- found
    refine ⟨_, rfl, _, rfl, n, m, rfl, hn, fun _ _ p t H11 s11 ht hp => ?_, fun z => absurd ⟨by omega, by omega⟩ z⟩
    have lun : (unL n (rgI n) m.toNat).length = n := by rw [pp1.length_eq, rgI_len]
    have tun : Turn (unL n (rgI n) m.toNat) := turn_of_perm pp1
    generalize unL n (rgI n) m.toNat = ks at *
    refine ⟨_, rfl, p, _, _, .str "told", rfl, rfl, SqT.of hp, rfl, rfl, _, rfl, iteF ?_⟩
    refine ⟨_, rfl, p, _, _, .ref t, rfl, rfl, SqT.of hp, rfl, _, _, _, _, true, rfl, .ty "tuple", tyT ht, kit_ty (by decide +kernel), _, rfl, iteF ?_⟩
    refine ⟨_, rfl, p, _, _, .ref t, rfl, rfl, SqT.of hp, rfl, t, ks, rfl, ht, by omega, fun ks' p2 hp2 hs2 np2 => ?_⟩
    have s12 : Same H11 (upd H11 p2 (.lst (ks'.map V.int))) := same_new (Same.refl _) np2
    refine ⟨_, rfl, _, rfl, rg_ok (by omega), fun l nl => ?_⟩
    rw [rgV_int]
    refine ⟨_, _, dp_listI (SqL.of (by walk_at "hp")), dp_listI (SqL.of upd_same), shaped_listI _, shaped_listI _, _, rfl, ?_⟩
    rw [eqv_listI, show rgI n = rgI ks.length by rw [lun], sorted_full hp2 hs2, isTurn_iff.mpr tun]
    refine ifno ?_
    have s13 := same_new (o := .lst ((rgI ks.length).map V.int)) s12 (s12.free nl)
    have hp13 := s13 _ _ hp
    have ht13 := same_seqT s13 ht
    generalize upd (upd H11 p2 (.lst (ks'.map V.int))) l (.lst ((rgI ks.length).map V.int)) = H13 at *
    refine ⟨_, rfl, p, _, _, .ref t, rfl, rfl, SqT.of hp13, rfl, t, ks, rfl, ht13, by omega, fun H14 s14 => ?_⟩
    rw [pp2, show ((m.toNat : Nat) : Int) = m by omega]
    exact ⟨_, rfl, _, _, rfl, .int _, fun H15 s15 => q _⟩

end

/-! ### what the top has left -/
theorem all_mk {l : PySem.W.OpenLaw} {w : World} {K : PySem.W.Frag} {h : Heap} {mg : Str → Option Value} {fa : Addr} {C0 C_BadTurn : Addr} (X : K.In h) (G : h.Ns mainGlobals mg)
    (e0 : BaseIn K s_KinError_init C0)
    (e_BadTurn : ErrIn K "BadTurn" "BadTurn.__init__" s_BadTurn_init C_BadTurn)
    (s_BadTurn : PySem.W.subIn K (.ref C_BadTurn) (.ref C0) = some true)
    (d_l_cell : DefIn K "_law_cell" s_l_cell)
    (d_l_draws : DefIn K "_law_draws" s_l_draws)
    (d_l_turn : DefIn K "_law_turn" s_l_turn)
    (d_l_same : DefIn K "_law_same" s_l_same)
    (d_ways : DefIn K "ways" s_ways)
    (d_number_of : DefIn K "number_of" s_number_of)
    (d_numbered : DefIn K "numbered" s_numbered)
    (d_l_asked : DefIn K "_law_asked" s_l_asked)
    (d_law : DefIn K "law" s_law)
    (z0 : PySem.W.nsIn K mainGlobals "len" = some none) (z1 : PySem.W.nsIn K mainGlobals "range" = some none) (z2 : PySem.W.nsIn K mainGlobals "list" = some none) (z3 : PySem.W.nsIn K mainGlobals "tuple" = some none) (z4 : PySem.W.nsIn K mainGlobals "int" = some none) (z5 : PySem.W.nsIn K mainGlobals "bool" = some none) (z6 : PySem.W.nsIn K mainGlobals "str" = some none) (z7 : PySem.W.nsIn K mainGlobals "dict" = some none) (z8 : PySem.W.nsIn K mainGlobals "ValueError" = some none) (z9 : PySem.W.nsIn K mainGlobals "sorted" = some none) (z10 : PySem.W.nsIn K mainGlobals "isinstance" = some none) (z11 : PySem.W.nsIn K mainGlobals "abs" = some none) (z12 : PySem.W.nsIn K mainGlobals "all" = some none) (z13 : PySem.W.nsIn K mainGlobals "any" = some none) (z14 : PySem.W.nsIn K mainGlobals "sum" = some none) (z15 : PySem.W.nsIn K mainGlobals "min" = some none) (z16 : PySem.W.nsIn K mainGlobals "max" = some none) (z17 : PySem.W.nsIn K mainGlobals "enumerate" = some none) : mg "law" = some (.ref fa) →
    ∃ fd : FuncData, (∀ (s : Shared) (v : Value), BindsTo s fd ⟨[v], []⟩ [("_law_script", v)]) ∧ ∀ base : Heap, K.In base → base.Ns mainGlobals mg → FnOk l.prog w K mg base CX0 6 fa fd p_law (spLaw K) := by
  intro hfa
  have b : Blt mg := blt_of X G z0 z1 z2 z3 z4 z5 z6 z7 z8 z9 z10 z11 z12 z13 z14 z15 z16 z17
  obtain ⟨f_l_cell, fd_l_cell, D_l_cell⟩ := dn_of X G (ps := p_l_cell) d_l_cell (fun _ _ _ _ _ _ us hl => match us, hl with | [_, _], _ => rfl)
  obtain ⟨f_l_draws, fd_l_draws, D_l_draws⟩ := dn_of X G (ps := p_l_draws) d_l_draws (fun _ _ _ _ _ _ us hl => match us, hl with | [_, _], _ => rfl)
  obtain ⟨f_l_turn, fd_l_turn, D_l_turn⟩ := dn_of X G (ps := p_l_turn) d_l_turn (fun _ _ _ _ _ _ us hl => match us, hl with | [_, _], _ => rfl)
  obtain ⟨f_l_same, fd_l_same, D_l_same⟩ := dn_of X G (ps := p_l_same) d_l_same (fun _ _ _ _ _ _ us hl => match us, hl with | [_, _], _ => rfl)
  obtain ⟨f_ways, fd_ways, D_ways⟩ := dn_of X G (ps := p_ways) d_ways (fun _ _ _ _ _ _ us hl => match us, hl with | [_], _ => rfl)
  obtain ⟨f_number_of, fd_number_of, D_number_of⟩ := dn_of X G (ps := p_number_of) d_number_of (fun _ _ _ _ _ _ us hl => match us, hl with | [_], _ => rfl)
  obtain ⟨f_numbered, fd_numbered, D_numbered⟩ := dn_of X G (ps := p_numbered) d_numbered (fun _ _ _ _ _ _ us hl => match us, hl with | [_, _], _ => rfl)
  obtain ⟨f_l_asked, fd_l_asked, D_l_asked⟩ := dn_of X G (ps := p_l_asked) d_l_asked (fun _ _ _ _ _ _ us hl => match us, hl with | [_, _], _ => rfl)
  obtain ⟨f_law, fd_law, D_law⟩ := dn_of X G (ps := p_law) d_law (fun _ _ _ _ _ _ us hl => match us, hl with | [_], _ => rfl)
  have e := hfa.symm.trans D_law.g
  cases e
  refine ⟨fd_law, fun s v => ?_, fun base _ _ => ?_⟩
  · obtain ⟨_, _, _, _, _, _, _, _, _, rfl, _, _⟩ := D_law.F.ex
    exact .of_eq rfl
  · have B0 : KinBase l.prog w K mg base C0 := kinBase_of X G e0
    have g_KinError : mg "KinError" = some (.ref C0) := by obtain ⟨_, _, _, g, _⟩ := B0; exact g
    have r_BadTurn := rsb_BadTurn (P := l.prog) (w := w) (base := base) X G B0 e_BadTurn
    have g_BadTurn : mg "BadTurn" = some (.ref C_BadTurn) := r_BadTurn.1
    have u_BadTurn : Under K C_BadTurn C0 := under_of e0 s_BadTurn
    have k_BadTurn : KinC K C_BadTurn := r_BadTurn.2.1
    have c_l_cell := ok_l_cell (P := l.prog) (w := w) (base := base) D_l_cell b 
    have c_l_draws := ok_l_draws (P := l.prog) (w := w) (base := base) D_l_draws b 
    have c_l_turn := ok_l_turn (P := l.prog) (w := w) (base := base) D_l_turn b 
    have c_l_same := ok_l_same (P := l.prog) (w := w) (base := base) D_l_same b 
    have c_ways := ok_ways (P := l.prog) (w := w) (base := base) D_ways b 
    have c_number_of := ok_number_of (P := l.prog) (w := w) (base := base) D_number_of b c_ways
    have c_numbered := ok_numbered (P := l.prog) (w := w) (base := base) D_numbered b r_BadTurn c_ways
    have c_l_asked := ok_l_asked (P := l.prog) (w := w) (base := base) D_l_asked b g_KinError g_BadTurn k_BadTurn u_BadTurn c_numbered
    exact ok_law D_law b c_l_cell c_l_draws c_l_turn c_l_same c_number_of c_l_asked

end Kin

open PySem PySem.W PyProof.Rows
set_option maxRecDepth 100000 in
set_option maxHeartbeats 0 in
theorem PySem.Challenge.cw_kinhearth_k06_turnings_by_numbers_holds : PySem.Challenge.rw_kinhearth_k06_turnings_by_numbers.Holds := by
  w_on; o_law; k_head; (case hw => w_witness2)
  k_fill
  refine L2.walk_of (l := PySem.Challenge.rw_kinhearth_k06_turnings_by_numbers) (n := 63) (k := 6) (x := "_law_script") (CX := fun _ => L2.CX0) (sp := fun w => Kin.spLaw _) rfl (by decide) rfl ⟨rfl, by decide, by decide⟩ (fun w h Y => PySem.W.kIn_of Y) ?F (fun _ _ a ns hl _ hS => ⟨a, ns, rfl, hS, hl, fun _ => rfl⟩) (fun _ _ _ _ _ h => h)
  case F =>
    intro w mg fa h KX G
    refine' Kin.all_mk KX G ?e0 ?e_BadTurn ?s_BadTurn ?d_l_cell ?d_l_draws ?d_l_turn ?d_l_same ?d_ways ?d_number_of ?d_numbered ?d_l_asked ?d_law ?z0 ?z1 ?z2 ?z3 ?z4 ?z5 ?z6 ?z7 ?z8 ?z9 ?z10 ?z11 ?z12 ?z13 ?z14 ?z15 ?z16 ?z17
    (case e0 => (refine' Kin.baseIn_mk ?b_a ?b_s1 ?b_s2 ?b_s3 ?b_r ?b_g ?b_v ?b_l ?b_c ?b_k; (case b_a => k_is); (case b_s1 => k_is); (case b_s2 => k_is); (case b_s3 => k_is); (case b_r => k_is); (case b_g => k_is); (case b_v => k_is); (case b_l => k_is); (case b_c => k_is); (case b_k => k_is)))
    (case e_BadTurn => (refine' Kin.errIn_mk ?r_a ?r_xl ?r_rv ?r_sa ?r_ga ?r_gg ?r_ex ?r_ty ?r_kc ?r_hd ?r_cl ?r_gt ?r_tk ?r_mr ?r_nw ?r_iC ?r_tI ?r_l ?r_c ?r_k; (case r_a => k_is); (case r_xl => k_is); (case r_rv => rfl); (case r_sa => k_is); (case r_ga => k_is); (case r_gg => k_is); (case r_ex => k_is); (case r_ty => k_is); (case r_kc => k_is); (case r_hd => k_is); (case r_cl => k_is); (case r_gt => k_is); (case r_tk => k_is); (case r_mr => k_is); (case r_nw => k_is); (case r_iC => k_is); (case r_tI => k_is); (case r_l => k_is); (case r_c => k_is); (case r_k => k_is)))
    (case s_BadTurn => k_is)
    (case d_l_cell => (refine' Kin.defIn_mk ?a ?l ?c ?k; (case a => k_is); (case l => k_is); (case c => k_is); (case k => k_is)))
    (case d_l_draws => (refine' Kin.defIn_mk ?a ?l ?c ?k; (case a => k_is); (case l => k_is); (case c => k_is); (case k => k_is)))
    (case d_l_turn => (refine' Kin.defIn_mk ?a ?l ?c ?k; (case a => k_is); (case l => k_is); (case c => k_is); (case k => k_is)))
    (case d_l_same => (refine' Kin.defIn_mk ?a ?l ?c ?k; (case a => k_is); (case l => k_is); (case c => k_is); (case k => k_is)))
    (case d_ways => (refine' Kin.defIn_mk ?a ?l ?c ?k; (case a => k_is); (case l => k_is); (case c => k_is); (case k => k_is)))
    (case d_number_of => (refine' Kin.defIn_mk ?a ?l ?c ?k; (case a => k_is); (case l => k_is); (case c => k_is); (case k => k_is)))
    (case d_numbered => (refine' Kin.defIn_mk ?a ?l ?c ?k; (case a => k_is); (case l => k_is); (case c => k_is); (case k => k_is)))
    (case d_l_asked => (refine' Kin.defIn_mk ?a ?l ?c ?k; (case a => k_is); (case l => k_is); (case c => k_is); (case k => k_is)))
    (case d_law => (refine' Kin.defIn_mk ?a ?l ?c ?k; (case a => k_is); (case l => k_is); (case c => k_is); (case k => k_is)))
    (case z0 => k_is)
    (case z1 => k_is)
    (case z2 => k_is)
    (case z3 => k_is)
    (case z4 => k_is)
    (case z5 => k_is)
    (case z6 => k_is)
    (case z7 => k_is)
    (case z8 => k_is)
    (case z9 => k_is)
    (case z10 => k_is)
    (case z11 => k_is)
    (case z12 => k_is)
    (case z13 => k_is)
    (case z14 => k_is)
    (case z15 => k_is)
    (case z16 => k_is)
    (case z17 => k_is)
