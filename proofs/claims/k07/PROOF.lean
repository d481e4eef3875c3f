import PyProof.Rows.All
import Wide.All
import OpenK.AllK
import Wide.FinOn
import HandS.ForMost
import HandS.ForExc
import HandS.Conv
import HandS.IsInst
import HandS.Wide
import HandS.Flow
import HandS.ExcInit
import HandS.ExcField
import HandS.ExcIs
import HandS.TryMany
import HandS.Steps
import HandS.More
import KE.KExcIs
import HandS.ClsMeth
import KE.GoesMore
import KE.GoesEnum
import PyProof.Draws
import HandS.Strs
import HandS.Sort
import HandS.ExcOwn
import PySem.Challenge.RW_kinhearth_k07_lands_let_by
set_option Elab.async false
set_option linter.all false
set_option maxRecDepth 100000
set_option maxHeartbeats 4000000
/-! B0: words over HandS that all the laws here share -/
namespace Kin
open PySem PySem.Spec PyProof.Rows L2

/-! ### heaps: facts carried over new objects and stores -/
theorem upd_new {H : Hp} {p a : Addr} {o u : HO} (np : H p = none) (h : H a = some u) : upd H p o a = some u := by
  rw [upd_ne (ne_of_none h np)]
  exact h
theorem upd_old {H : Hp} {p a : Addr} {o u : HO} (ne : a ≠ p) (h : H a = some u) : upd H p o a = some u := by
  rw [upd_ne ne]
  exact h
theorem sameAt {H H' : Hp} (s : Same H H') {a : Addr} {o : HO} (h : H a = some o) : H' a = some o := s a o h
theorem same_new {H0 H : Hp} {p : Addr} {o : HO} (s : Same H0 H) (f : H0 p = none) : Same H0 (upd H p o) := fun b x e => by
  rw [upd_ne (ne_of_none e f)]
  exact s b x e
theorem same_seqT {K : PySem.W.Frag} {H H' : Hp} {a : Addr} {xs : List V} (e : Same H H') (h : SqT K H a xs) : SqT K H' a xs := by
  rcases h with (h | ⟨o, h⟩) | h
  · exact .inl (.inl (e _ _ h))
  · exact .inl (.inr ⟨o, e _ _ h⟩)
  · exact .inr h
/-- a list or a tuple -/
def Sq (K : PySem.W.Frag) (H : Hp) (a : Addr) (xs : List V) : Prop := SqL K H a xs ∨ SqT K H a xs
theorem same_sq {K : PySem.W.Frag} {H H' : Hp} {a : Addr} {xs : List V} (e : Same H H') (h : Sq K H a xs) : Sq K H' a xs := by
  rcases h with h | h
  · exact .inl (e.seq h)
  · exact .inr (same_seqT e h)
theorem sqL_old {K : PySem.W.Frag} {H : Hp} {p a : Addr} {o : HO} {xs : List V} (ne : a ≠ p) (h : SqL K H a xs) : SqL K (upd H p o) a xs := by
  rcases h with (h | ⟨q, h⟩) | h
  · exact .inl (.inl (upd_old ne h))
  · exact .inl (.inr ⟨q, upd_old ne h⟩)
  · exact .inr h
theorem sqT_old {K : PySem.W.Frag} {H : Hp} {p a : Addr} {o : HO} {xs : List V} (ne : a ≠ p) (h : SqT K H a xs) : SqT K (upd H p o) a xs := by
  rcases h with (h | ⟨q, h⟩) | h
  · exact .inl (.inl (upd_old ne h))
  · exact .inl (.inr ⟨q, upd_old ne h⟩)
  · exact .inr h
theorem free_ne {H : Hp} {a b : Addr} {o : HO} (h : H a = some o) (n : H b = none) : b ≠ a := fun e => by
  rw [e, h] at n
  cases n
theorem lst_sz {xs : List V} {n : Nat} (h : xs.length ≤ n) (hn : n ≤ 100000) : xs.length ≤ sizeLine := Nat.le_trans h (Nat.le_trans hn (by decide))
theorem sz_le {n : Nat} (h : n ≤ 100000) : n ≤ sizeLine := Nat.le_trans h (by decide)
theorem sz_lt {n : Nat} (h : n < 100000) : n < sizeLine := Nat.lt_of_lt_of_le h (by decide)

/-- the ways of a statement joined: what holds behind it -/
theorem seq_cut {t u : TS} {D : Ends} {σ : L2.St} {H : Hp} (R : L2.St → Hp → Prop) (h1 : ∀ N : L2.St → Hp → Prop, (∀ σ' H', R σ' H' → N σ' H') → t { D with nx := N } σ H) (h2 : ∀ σ' H', R σ' H' → u D σ' H') : tSeq t u D σ H := h1 (u D) h2

/-- an if without else whose test is false -/
theorem ifno {A : Prop} {D : Ends} {σ : L2.St} {H : Hp} (h : D.nx σ H) : if false = true then A else tNext D σ H := iteF h

/-! ### a def that can be called by its name -/
def Cal (P : Program) (w : World) (K : PySem.W.Frag) (mg : Str → Option Value) (base : Heap) (CX : CXT) (k : Nat) (x : Str) (ps : List Str) (sp : Sp) : Prop :=
  ∃ (f : Addr) (fd : FuncData), mg x = some (.ref f) ∧ PySem.W.keepIn K (.ref f) = true ∧ Binds K fd ps [] ∧ FnOk P w K mg base CX k f fd ps sp
section
variable {X : Cx} {CX : CXT} {k j : Nat} {x : Str} {ps : List Str} {sp : Sp} {E : XK} {p pos : Pos} {e : Expr} {es : List Expr} {t : TA}
theorem pe_c (c : Cal X.prog X.w X.K X.mg X.base CX k x ps sp) (hr : Room j X.A) (hj : k ≤ j) (hg : Gl X x) (hx : Passes CX X E) (ha : PA X (e :: es) t)
    (hdb : (x == ("__debug__" : Str)) = false := by decide) (he : starEach (e :: es) X.env = (false, eval e X.env) :: starEach es X.env := by rfl) (hpl : (backTo pos (starEach es X.env)).any (·.1) = false := by rfl) :
    PE X (.Call (.Name x p) (e :: es) [] pos) (tCall sp [] E t) := by
  obtain ⟨f, fd, hm, hk, hb, F⟩ := c
  exact pe_call F (hr.mono hj) hg hm hk hb .nil hx ha hdb he hpl
theorem pe_c0 (c : Cal X.prog X.w X.K X.mg X.base CX k x ps sp) (hr : Room j X.A) (hj : k ≤ j) (hg : Gl X x) (hx : Passes CX X E)
    (hdb : (x == ("__debug__" : Str)) = false := by decide) : PE X (.Call (.Name x p) [] [] pos) (tCall sp [] E tNil) := by
  obtain ⟨f, fd, hm, hk, hb, F⟩ := c
  exact pe_call0 F (hr.mono hj) hg hm hk hb .nil hx hdb
end

/-! ### rules whose reading speaks of the written part, for use within a comprehension -/
section
variable {X : Cx}
theorem ix_listK (K : PySem.W.Frag) (h : X.K = K := by rfl) : IxR X (rIxL K) := by subst h; exact ix_list
theorem ix_tupK (K : PySem.W.Frag) (h : X.K = K := by rfl) : IxR X (rIxT K) := by subst h; exact ix_tup
theorem sl_listK (K : PySem.W.Frag) (h : X.K = K := by rfl) : SlR X (rSlL K) := by subst h; exact sl_list
theorem op_in_seqK (K : PySem.W.Frag) (h : X.K = K := by rfl) : OpR X (compareOp .In) (rIn K false) := by subst h; exact op_in_seq
theorem op_notIn_seqK (K : PySem.W.Frag) (h : X.K = K := by rfl) : OpR X (compareOp .NotIn) (rIn K true) := by subst h; exact op_notIn_seq
theorem op_eqDK (K : PySem.W.Frag) (hu : X.A.units + 64 < cLine) (h : X.K = K := by rfl) : OpR X (compareOp .Eq) (rEqD K) := by subst h; exact op_eqD hu
theorem op_neDK (K : PySem.W.Frag) (hu : X.A.units + 64 < cLine) (h : X.K = K := by rfl) : OpR X (compareOp .NotEq) (rNeD K) := by subst h; exact op_neD hu
theorem call_len_seqK (K : PySem.W.Frag) (h : X.K = K := by rfl) : CallR X (.builtin "len") (fun xs H Q => ∃ p ys, xs = [.ref p] ∧ (SqL K H p ys ∨ SqT K H p ys) ∧ Q (.int ys.length) H) := by subst h; exact call_len_seq
theorem call_tuple_ofK (K : PySem.W.Frag) (h : X.K = K := by rfl) : CallR X (.type "tuple") (fun xs H Q => ∃ p ys, xs = [.ref p] ∧ ((SqL K H p ys ∧ ∀ l, H l = none → Q (.ref l) (upd H l (.tup ys))) ∨ (SqT K H p ys ∧ Q (.ref p) H))) := by subst h; exact call_tuple_of
theorem call_list_ofK (K : PySem.W.Frag) (h : X.K = K := by rfl) : CallR X (.type "list") (fun xs H Q => ∃ p ys, xs = [.ref p] ∧ (SqL K H p ys ∨ SqT K H p ys) ∧ ∀ l, H l = none → Q (.ref l) (upd H l (.lst ys))) := by subst h; exact call_list_of
theorem pe_fldK (K : PySem.W.Frag) {e : Expr} {f : Str} {ta : TE} {pos : Pos} (he : PE X e ta) (hb : attributeBase e f X.env (eval e X.env) = eval e X.env) (h : X.K = K := by rfl) : PE X (.Attribute e f pos) (tFld K ta f) := by subst h; exact pe_fld he hb
theorem pe_bmK (K : PySem.W.Frag) {o e : Expr} {es : List Expr} {to : TE} {t : TA} {name : Str} {apos cpos : Pos} {T id : String} {r : V → List V → Hp → VK → Prop} (pa : PlainAttrs T) (slot : Slot T name id) (hty : typeOf (.builtin id) = pure (.type "method_descriptor")) (hm : MtR X id r) (ho : PE X o to) (ha : PA X (e :: es) t)
    (h : X.K = K := by rfl) (hbase : attributeBase o name X.env (eval o X.env) = eval o X.env := by rfl)
    (hfew : ((backTo cpos (starEach (e :: es) X.env)).all (fun x => !x.1) && (backToKw cpos (keywordEach [] X.env)).all (fun x => x.1.isSome)
      && decide ((e :: es).length + ([] : List Keyword).length + (if ([] : List Keyword).isEmpty then 0 else 1) < 30)) = true := by rfl)
    (hline : (apos.endLine == cpos.line) = true := by rfl) (hs : starEach (e :: es) X.env = (false, eval e X.env) :: starEach es X.env := by rfl) (hplain : (backTo cpos (starEach es X.env)).any (·.1) = false := by rfl) :
    PE X (.Call (.Attribute o name apos) (e :: es) [] cpos) (tBM K T r to t) := by subst h; exact pe_bm pa slot hty hm ho ha hbase hfew hline hs hplain
end

/-! ### a def as the top has left it -/
structure Dn (K : PySem.W.Frag) (mg : Str → Option Value) (x : Str) (st : Stmt) (ps : List Str) (f : Addr) (fd : FuncData) : Prop where
  F : Fun K x x st f fd
  b : Binds K fd ps []
  g : mg x = some (.ref f)
theorem Dn.cal {P : Program} {w : World} {K : PySem.W.Frag} {mg : Str → Option Value} {base : Heap} {CX : CXT} {k : Nat} {x : Str} {st : Stmt} {ps : List Str} {sp : Sp} {f : Addr} {fd : FuncData} (D : Dn K mg x st ps f fd) (F : FnOk P w K mg base CX k f fd ps sp) :
    Cal P w K mg base CX k x ps sp := ⟨f, fd, D.g, D.F.kp, D.b, F⟩
/-- .. by what the written part says -/
def DefIn (K : PySem.W.Frag) (x : Str) (st : Stmt) : Prop := ∃ (f : Addr) (oc : Value) (od : Option Addr) (kV doc pm : Value) (an : Option Addr) (cdv ct : Value) (osl : Array (Option Value)),
  PySem.W.nsIn K mainGlobals x = some (some (.ref f)) ∧ K.lookup f = some ⟨oc, od, .func (PySem.W.fnOf x x (defArgs st) (defBody st) (defScope st) .none kV doc pm an cdv ct), osl⟩ ∧ PySem.W.codeIn K cdv x = true ∧ PySem.W.keepIn K (.ref f) = true
theorem defIn_mk {K : PySem.W.Frag} {x : Str} {st : Stmt} {f : Addr} {oc : Value} {od : Option Addr} {kV doc pm : Value} {an : Option Addr} {cdv ct : Value} {osl : Array (Option Value)} (a : PySem.W.nsIn K mainGlobals x = some (some (.ref f)))
    (l : K.lookup f = some ⟨oc, od, .func (PySem.W.fnOf x x (defArgs st) (defBody st) (defScope st) .none kV doc pm an cdv ct), osl⟩) (c : PySem.W.codeIn K cdv x = true) (k : PySem.W.keepIn K (.ref f) = true) : DefIn K x st := ⟨f, oc, od, kV, doc, pm, an, cdv, ct, osl, a, l, c, k⟩
theorem dn_of {K : PySem.W.Frag} {h : Heap} {mg : Str → Option Value} (X : K.In h) (G : h.Ns mainGlobals mg) {x : Str} {st : Stmt} {ps : List Str} (d : DefIn K x st)
    (hb : ∀ (kV doc pm : Value) (an : Option Addr) (cdv ct : Value) (us : List Value), us.length = ps.length → bindArgs (PySem.W.fnOf x x (defArgs st) (defBody st) (defScope st) .none kV doc pm an cdv ct) ⟨us, []⟩ = pure (ps.zip us)) :
    ∃ f fd, Dn K mg x st ps f fd := by
  obtain ⟨f, oc, od, kV, doc, pm, an, cdv, ct, osl, a, l, c, k⟩ := d
  have F := fun_mk (st := st) l c k
  exact ⟨f, _, F, F.binds hb, PySem.W.mg_of X G a⟩

/-! ### the built-ins that no module's name hides -/
structure Blt (mg : Str → Option Value) : Prop where
  len : mg "len" = none
  range : mg "range" = none
  ty_list : mg "list" = none
  ty_tuple : mg "tuple" = none
  ty_int : mg "int" = none
  ty_bool : mg "bool" = none
  ty_str : mg "str" = none
  ty_dict : mg "dict" = none
  ty_ValueError : mg "ValueError" = none
  sorted : mg "sorted" = none
  isinstance : mg "isinstance" = none
  abs : mg "abs" = none
  all : mg "all" = none
  any : mg "any" = none
  sum : mg "sum" = none
  min : mg "min" = none
  max : mg "max" = none
  enumerate : mg "enumerate" = none
theorem blt_of {K : PySem.W.Frag} {h : Heap} {mg : Str → Option Value} (X : K.In h) (G : h.Ns mainGlobals mg)
    (h1 : PySem.W.nsIn K mainGlobals "len" = some none) (h2 : PySem.W.nsIn K mainGlobals "range" = some none) (h3 : PySem.W.nsIn K mainGlobals "list" = some none) (h4 : PySem.W.nsIn K mainGlobals "tuple" = some none)
    (h5 : PySem.W.nsIn K mainGlobals "int" = some none) (h6 : PySem.W.nsIn K mainGlobals "bool" = some none) (h7 : PySem.W.nsIn K mainGlobals "str" = some none) (h8 : PySem.W.nsIn K mainGlobals "dict" = some none)
    (h9 : PySem.W.nsIn K mainGlobals "ValueError" = some none) (h10 : PySem.W.nsIn K mainGlobals "sorted" = some none) (h11 : PySem.W.nsIn K mainGlobals "isinstance" = some none) (h12 : PySem.W.nsIn K mainGlobals "abs" = some none)
    (h13 : PySem.W.nsIn K mainGlobals "all" = some none) (h14 : PySem.W.nsIn K mainGlobals "any" = some none) (h15 : PySem.W.nsIn K mainGlobals "sum" = some none) (h16 : PySem.W.nsIn K mainGlobals "min" = some none)
    (h17 : PySem.W.nsIn K mainGlobals "max" = some none) (h18 : PySem.W.nsIn K mainGlobals "enumerate" = some none) : Blt mg :=
  ⟨PySem.W.mg_none_of X G h1, PySem.W.mg_none_of X G h2, PySem.W.mg_none_of X G h3, PySem.W.mg_none_of X G h4, PySem.W.mg_none_of X G h5, PySem.W.mg_none_of X G h6, PySem.W.mg_none_of X G h7, PySem.W.mg_none_of X G h8, PySem.W.mg_none_of X G h9,
    PySem.W.mg_none_of X G h10, PySem.W.mg_none_of X G h11, PySem.W.mg_none_of X G h12, PySem.W.mg_none_of X G h13, PySem.W.mg_none_of X G h14, PySem.W.mg_none_of X G h15, PySem.W.mg_none_of X G h16, PySem.W.mg_none_of X G h17, PySem.W.mg_none_of X G h18⟩
end Kin

set_option Elab.async false
set_option linter.all false
set_option maxRecDepth 100000
set_option maxHeartbeats 4000000
/-! M0: turnings, as plain lists -/
namespace Kin
open PySem L2

def rgI (n : Nat) : List Int := (List.range n).map fun i : Nat => (i : Int)
theorem rgI_len (n : Nat) : (rgI n).length = n := by simp [rgI]
theorem rgI_get {n i : Nat} (h : i < n) : (rgI n)[i]? = some (i : Int) := by
  simp [rgI, h]
theorem mem_rgI {n : Nat} {x : Int} : x ∈ rgI n ↔ 0 ≤ x ∧ x < n := by
  unfold rgI
  rw [List.mem_map]
  constructor
  · rintro ⟨a, ha, rfl⟩
    have := List.mem_range.mp ha
    omega
  · rintro ⟨h0, h1⟩
    exact ⟨x.toNat, List.mem_range.mpr (by omega), by omega⟩
theorem rgI_sorted (n : Nat) : (rgI n).Pairwise (· ≤ ·) := by
  unfold rgI
  rw [List.pairwise_map]
  exact List.pairwise_lt_range.imp (fun h => by omega)
theorem rgI_nodup (n : Nat) : (rgI n).Nodup := by
  unfold rgI List.Nodup
  rw [List.pairwise_map]
  exact List.pairwise_lt_range.imp (fun h => by omega)

/-- a turning -/
structure Turn (ns : List Int) : Prop where
  nd : ns.Nodup
  lo : ∀ x ∈ ns, 0 ≤ x ∧ x < (ns.length : Int)

theorem perm_of_sub {l m : List Int} (hn : l.Nodup) (hs : ∀ x ∈ l, x ∈ m) (hl : m.length ≤ l.length) : l.Perm m := by
  induction l generalizing m with
  | nil =>
    have : m = [] := List.eq_nil_of_length_eq_zero (by simpa using hl)
    subst this
    exact List.Perm.refl _
  | cons x r ih =>
    have hx : x ∈ m := hs x List.mem_cons_self
    obtain ⟨h1, h2⟩ := List.nodup_cons.mp hn
    have hp : m.Perm (x :: m.erase x) := List.perm_cons_erase hx
    refine List.Perm.trans (List.Perm.cons x (ih (m := m.erase x) h2 (fun y hy => ?_) ?_)) hp.symm
    · have hne : y ≠ x := fun e => h1 (e ▸ hy)
      exact (List.mem_erase_of_ne hne).mpr (hs y (List.mem_cons_of_mem _ hy))
    · have := hp.length_eq
      simp only [List.length_cons] at this hl
      omega
theorem Turn.perm {ns : List Int} (t : Turn ns) : ns.Perm (rgI ns.length) :=
  perm_of_sub t.nd (fun x hx => mem_rgI.mpr (t.lo x hx)) (by rw [rgI_len]; exact Nat.le_refl _)
theorem turn_of_perm {ns : List Int} {n : Nat} (h : ns.Perm (rgI n)) : Turn ns := by
  have hl : ns.length = n := by rw [h.length_eq, rgI_len]
  refine ⟨h.symm.nodup (rgI_nodup n), fun x hx => ?_⟩
  rw [hl]
  exact mem_rgI.mp (h.mem_iff.mp hx)
theorem turn_iff {ns : List Int} : Turn ns ↔ ns.Perm (rgI ns.length) := ⟨Turn.perm, turn_of_perm⟩

def okAt (n : Nat) : List Int → List Int → Bool
  | _, [] => true
  | seen, x :: r => if x < 0 ∨ (n : Int) ≤ x ∨ x ∈ seen then false else okAt n (seen ++ [x]) r
def isTurn (ns : List Int) : Bool := okAt ns.length [] ns
theorem okAt_iff {n : Nat} : ∀ (r seen : List Int), okAt n seen r = true ↔ (∀ x ∈ r, 0 ≤ x ∧ x < (n : Int) ∧ ¬ x ∈ seen) ∧ r.Nodup
  | [], seen => by simp [okAt]
  | x :: r, seen => by
    unfold okAt
    by_cases h : x < 0 ∨ (n : Int) ≤ x ∨ x ∈ seen
    · rw [if_pos h]
      refine ⟨fun z => (nomatch z), fun z => ?_⟩
      have := z.1 x List.mem_cons_self
      rcases h with h | h | h
      · omega
      · omega
      · exact absurd h this.2.2
    · rw [if_neg h, okAt_iff r (seen ++ [x])]
      constructor
      · rintro ⟨h1, h2⟩
        refine ⟨fun y hy => ?_, List.nodup_cons.mpr ⟨fun hx => (h1 x hx).2.2 (by simp), h2⟩⟩
        rcases List.mem_cons.mp hy with rfl | hy
        · exact ⟨by omega, by omega, fun z => h (.inr (.inr z))⟩
        · have := h1 y hy
          exact ⟨this.1, this.2.1, fun z => this.2.2 (by simp [z])⟩
      · rintro ⟨h1, h2⟩
        obtain ⟨h3, h4⟩ := List.nodup_cons.mp h2
        refine ⟨fun y hy => ?_, h4⟩
        have := h1 y (List.mem_cons_of_mem _ hy)
        refine ⟨this.1, this.2.1, fun z => ?_⟩
        rcases List.mem_append.mp z with z | z
        · exact this.2.2 z
        · have e : y = x := by simpa using z
          exact h3 (e ▸ hy)
theorem isTurn_iff {ns : List Int} : isTurn ns = true ↔ Turn ns := by
  unfold isTurn
  rw [okAt_iff]
  constructor
  · rintro ⟨h1, h2⟩
    exact ⟨h2, fun x hx => ⟨(h1 x hx).1, (h1 x hx).2.1⟩⟩
  · rintro ⟨h1, h2⟩
    exact ⟨fun x hx => ⟨(h2 x hx).1, (h2 x hx).2, by simp⟩, h1⟩
/-- a sorted row is the rising one just where it is a turning -/
theorem sorted_full {ns ns' : List Int} (hp : ns'.Perm ns) (hs : ns'.Pairwise (· ≤ ·)) : decide (ns' = rgI ns.length) = isTurn ns := by
  by_cases h : Turn ns
  · rw [isTurn_iff.mpr h]
    exact decide_eq_true (PySem.W.ksm_same (hp.trans h.perm) hs (rgI_sorted _))
  · have h1 : isTurn ns = false := by
      cases e : isTurn ns with
      | false => rfl
      | true => exact absurd (isTurn_iff.mp e) h
    rw [h1]
    refine decide_eq_false fun e => h ?_
    exact turn_of_perm (e ▸ hp.symm)

/-! ### what a law draws -/
def cell (ns : List Int) (k : Nat) : Int := ns.getD k 0
def seed (c : Int) : Int :=
  if (if c < 0 then -c else c) < 10 ^ 18 then
    (((c * 48271 + 11) % 2147483647) * ((c * 48271 + 11) % 2147483647) + 40692 * ((c * 48271 + 11) % 2147483647) + c) % 2147483399
      + 2147483399 * (((((c * 48271 + 11) % 2147483647) * ((c * 48271 + 11) % 2147483647) + 40692 * ((c * 48271 + 11) % 2147483647) + c) % 2147483399 * 16807 + (c * 48271 + 11) % 2147483647) % 1000000007 + 1000000007 * ((c * 48271 + 11) % 2147483647))
  else (if c < 0 then -c else c) - 10 ^ 18
def drawn : Int → List Int → List Int
  | _, [] => []
  | s, p :: r => s % p :: drawn (s / p) r
def draws (c : Int) (ps : List Int) : List Int := drawn (seed c) ps
theorem drawn_len : ∀ (s : Int) (ps : List Int), (drawn s ps).length = ps.length
  | _, [] => rfl
  | s, p :: r => by simp [drawn, drawn_len (s / p) r]
theorem draws_len (c : Int) (ps : List Int) : (draws c ps).length = ps.length := drawn_len _ _
theorem drawn_get : ∀ (s : Int) (ps : List Int) (i : Nat) (p : Int), ps[i]? = some p → 0 < p → ∃ d, (drawn s ps)[i]? = some d ∧ 0 ≤ d ∧ d < p
  | _, [], i, p, h, _ => by simp at h
  | s, q :: r, 0, p, h, hp => by
    have e : q = p := Option.some.inj h
    subst e
    exact ⟨s % q, rfl, Int.emod_nonneg _ (by omega), Int.emod_lt_of_pos _ hp⟩
  | s, q :: r, i + 1, p, h, hp => drawn_get (s / q) r i p h hp
theorem draws_get {c : Int} {ps : List Int} {i : Nat} {p : Int} (h : ps[i]? = some p) (hp : 0 < p) : ∃ d, (draws c ps)[i]? = some d ∧ 0 ≤ d ∧ d < p := drawn_get _ _ _ _ h hp
/-- what is left of the number behind i draws -/
def rest (s : Int) : List Int → Int
  | [] => s
  | p :: r => rest (s / p) r
theorem rest_snoc : ∀ (s : Int) (ps : List Int) (p : Int), rest s (ps ++ [p]) = rest s ps / p
  | _, [], _ => rfl
  | s, q :: r, p => rest_snoc (s / q) r p
theorem drawn_snoc : ∀ (s : Int) (ps : List Int) (p : Int), drawn s (ps ++ [p]) = drawn s ps ++ [rest s ps % p]
  | _, [], _ => rfl
  | s, q :: r, p => by
    show s % q :: drawn (s / q) (r ++ [p]) = s % q :: (drawn (s / q) r ++ [rest (s / q) r % p])
    rw [drawn_snoc]

/-- the turning of a number: one of the free ones by each rest -/
def picks : Nat → List Int → Int → List Int
  | 0, _, _ => []
  | n + 1, free, code => free.getD (code % ((n : Int) + 1)).toNat 0 :: picks n (free.eraseIdx (code % ((n : Int) + 1)).toNat) (code / ((n : Int) + 1))
def turnOf (code : Int) (n : Nat) : List Int := picks n (rgI n) code
theorem perm_erase : ∀ (l : List Int) (i : Nat) (h : i < l.length), l.Perm (l[i] :: l.eraseIdx i)
  | x :: r, 0, _ => List.Perm.refl _
  | x :: r, i + 1, h => by
    have h' : i < r.length := by simpa using h
    have ih := perm_erase r i h'
    show (x :: r).Perm (r[i] :: x :: r.eraseIdx i)
    exact (List.Perm.cons x ih).trans (List.Perm.swap _ _ _)
theorem picks_perm : ∀ (n : Nat) (free : List Int) (code : Int), free.length = n → (picks n free code).Perm free
  | 0, free, code, h => by
    have : free = [] := List.eq_nil_of_length_eq_zero h
    subst this
    exact List.Perm.refl _
  | n + 1, free, code, h => by
    have h0 : 0 ≤ code % ((n : Int) + 1) := Int.emod_nonneg _ (by omega)
    have h1 : code % ((n : Int) + 1) < (n : Int) + 1 := Int.emod_lt_of_pos _ (by omega)
    have hi : (code % ((n : Int) + 1)).toNat < free.length := by omega
    have hl : (free.eraseIdx (code % ((n : Int) + 1)).toNat).length = n := by
      rw [List.length_eraseIdx_of_lt hi]
      omega
    unfold picks
    rw [List.getD_eq_getElem?_getD, List.getElem?_eq_getElem hi]
    exact (List.Perm.cons _ (picks_perm n _ _ hl)).trans (perm_erase free _ hi).symm
theorem turnOf_perm (code : Int) (n : Nat) : (turnOf code n).Perm (rgI n) := picks_perm n _ code (rgI_len n)
theorem turnOf_len (code : Int) (n : Nat) : (turnOf code n).length = n := by rw [(turnOf_perm code n).length_eq, rgI_len]
theorem turnOf_turn (code : Int) (n : Nat) : Turn (turnOf code n) := turn_of_perm (turnOf_perm code n)

/-! ### data -/
theorem eqvAll_ints : ∀ ns ms : List Int, PyData.eqvAll (ns.map PyData.int) (ms.map PyData.int) = decide (ns = ms)
  | [], [] => by simp [PyData.eqvAll]
  | [], y :: ys => by simp [PyData.eqvAll]
  | x :: xs, [] => by simp [PyData.eqvAll]
  | x :: xs, y :: ys => by
    show PyData.eqvAll (PyData.int x :: xs.map PyData.int) (PyData.int y :: ys.map PyData.int) = _
    rw [PyData.eqvAll, eqvAll_ints xs ys, PyData.eqv]
    by_cases h : x = y <;> by_cases h2 : xs = ys <;> simp [h, h2]
theorem eqv_listI (ns ms : List Int) : PyData.eqv (.list (ns.map PyData.int)) (.list (ms.map PyData.int)) = decide (ns = ms) := by
  rw [PyData.eqv, eqvAll_ints]
theorem eqv_tupI (ns ms : List Int) : PyData.eqv (.tuple (ns.map PyData.int)) (.tuple (ms.map PyData.int)) = decide (ns = ms) := by
  rw [PyData.eqv, eqvAll_ints]
end Kin

set_option Elab.async false
set_option linter.all false
set_option maxRecDepth 100000
set_option maxHeartbeats 4000000
/-! B1: lists of numbers as values and as data -/
namespace Kin
open PySem PySem.Spec PyProof.Rows L2
theorem rgV_int (n : Nat) : rgV 0 (n : Int) = (rgI n).map V.int := by
  unfold rgV rgI
  rw [List.map_map, show ((n : Int) - 0).toNat = n by omega]
  refine List.map_congr_left fun i _ => ?_
  show V.int (0 + (i : Int)) = V.int (i : Int)
  rw [Int.zero_add]
theorem rg_ok {n : Nat} (h : n ≤ 1000) : RgOk 0 (n : Int) := RgOk.of_le (by omega) (by omega) (by omega) (by omega)
theorem int_at {ns : List Int} {i : Nat} {y : V} (h : (ns.map V.int)[i]? = some y) : ∃ z, ns[i]? = some z ∧ y = V.int z := by
  rw [List.getElem?_map] at h
  cases e : ns[i]? with
  | none => rw [e] at h; cases h
  | some z => rw [e] at h; exact ⟨z, rfl, (Option.some.inj h).symm⟩
theorem at_int {ns : List Int} {i : Int} {z : Int} (h0 : 0 ≤ i) (h : ns[i.toNat]? = some z) : atI (ns.map V.int) i = some (V.int z) := by
  have e : i = ((i.toNat : Nat) : Int) := by omega
  rw [e]
  refine atI_nat ?_
  rw [List.getElem?_map, h]
  rfl
theorem at_V {xs : List V} {i : Int} {z : V} (h0 : 0 ≤ i) (h : xs[i.toNat]? = some z) : atI xs i = some z := by
  have e : i = ((i.toNat : Nat) : Int) := by omega
  rw [e]
  exact atI_nat h
theorem ixN_in {n : Nat} {i : Int} (h0 : 0 ≤ i) (h1 : i < n) : ixN n i = some i.toNat := by
  unfold ixN
  rw [if_pos h0, if_pos h1]
theorem seqIx_in {n : Nat} {i : Int} (h0 : 0 ≤ i) (h1 : i < n) : seqIndex? i n = some i.toNat := (ixN_seq (ixN_in h0 h1)).1
theorem getD_some {ns : List Int} {i : Nat} (h : i < ns.length) : ns[i]? = some (ns.getD i 0) := by
  rw [List.getD_eq_getElem?_getD, List.getElem?_eq_getElem h]
  rfl
theorem set_ints (ns : List Int) (j : Nat) (z : Int) : (ns.map V.int).set j (V.int z) = (ns.set j z).map V.int := by rw [List.map_set]
theorem erase_ints (ns : List Int) (j : Nat) : (ns.map V.int).eraseIdx j = (ns.eraseIdx j).map V.int := by
  induction ns generalizing j with
  | nil => rfl
  | cons x r ih =>
    cases j with
    | zero => rfl
    | succ j =>
      show V.int x :: (r.map V.int).eraseIdx j = V.int x :: (r.eraseIdx j).map V.int
      rw [ih]
theorem snoc_ints (ns : List Int) (z : Int) : ns.map V.int ++ [V.int z] = (ns ++ [z]).map V.int := by rw [List.map_append]; rfl

theorem cut63 (ns : List Int) : cutV (ns.map V.int) none (some 63) = (ns.take 63).map V.int := by
  unfold cutV
  rw [HT.sIx_none, show HT.sIx (ns.map V.int).length (ns.map V.int).length (some 63) = min 63 (ns.map V.int).length from HT.sIx_nat _ _ 63]
  rw [List.drop_zero, List.map_take, Nat.sub_zero, List.take_eq_take_iff]
  omega

/-! ### as data -/
theorem dpAll_ints {K : PySem.W.Frag} {H : Hp} : ∀ ns : List Int, DpAll K H (ns.map V.int) (ns.map PyData.int)
  | [] => .nil
  | x :: r => .cons (.int x) (dpAll_ints r)
theorem dp_listI {K : PySem.W.Frag} {H : Hp} {a : Addr} {ns : List Int} (h : SqL K H a (ns.map V.int)) : Dp K H (.ref a) (.list (ns.map PyData.int)) := .lst h (dpAll_ints ns)
theorem dp_tupI {K : PySem.W.Frag} {H : Hp} {a : Addr} {ns : List Int} (h : SqT K H a (ns.map V.int)) : Dp K H (.ref a) (.tuple (ns.map PyData.int)) := .tup h (dpAll_ints ns)
theorem canLayAll_ints : ∀ ns : List Int, PyData.canLayAll0 (ns.map PyData.int) = true
  | [] => by simp [PyData.canLayAll0]
  | x :: r => by
    show PyData.canLayAll0 (PyData.int x :: r.map PyData.int) = true
    rw [PyData.canLayAll0, canLayAll_ints r, PyData.canLay0]
    rfl
theorem depthAll_ints : ∀ ns : List Int, PyData.depthAll (ns.map PyData.int) = 0
  | [] => by simp [PyData.depthAll]
  | x :: r => by
    show PyData.depthAll (PyData.int x :: r.map PyData.int) = 0
    rw [PyData.depthAll, depthAll_ints r, PyData.depth]
    rfl
theorem shaped_listI (ns : List Int) : SeqAt.shaped (.list (ns.map PyData.int)) = true := by
  unfold SeqAt.shaped
  rw [PyData.canLay0, canLayAll_ints, PyData.depth, depthAll_ints]
  rfl
theorem shaped_tupI (ns : List Int) : SeqAt.shaped (.tuple (ns.map PyData.int)) = true := by
  unfold SeqAt.shaped
  rw [PyData.canLay0, canLayAll_ints, PyData.depth, depthAll_ints]
  rfl
end Kin

set_option Elab.async false
set_option linter.all false
set_option maxRecDepth 100000
set_option maxHeartbeats 4000000
/-! B2: sorted of a tuple; a def called through its class; errors whose __init__ calls the base's -/
namespace Kin
open PySem PySem.Spec PyProof.Rows L2

/-! ### sorted(t), t a tuple of numbers -/
section
variable {prog : Program} {w : World} {A : Around} {E : Value → Shared → Prop} {s : Shared}
theorem gather_tup {l : Addr} {vs : List Value} {Q : List Value → Shared → Prop} (hl : IsTup s.heap l vs.toArray) (hsz : vs.length ≤ sizeLine)
    (h : Q vs { s with heap := (s.heap.push (seqObj "list" #[] 0)).update s.heap.objs.size (Obj.mapSeq (· ++ vs.toArray)) }) :
    wpAny (model prog w) A (collect (.ref l)) Q E s := by
  obtain ⟨o, ho, hc, n, hd⟩ := id hl
  have ho2 : (s.heap.push (seqObj "list" #[] 0)).get? l = some o := Heap.get?_push_of_some _ ho
  unfold collect
  refine wpAny_bind (wpAny_runValue (codeAny_builtin entry_proto_collect' ?_))
  show wpAny _ _ (do again (.builtin "list.__iadd__" ⟨[← newList [], .ref l], []⟩)) _ _ s
  refine wpAny_bind (wpAny_newList (wpAny_pure ⟨Code.quiet_builtin _ (by decide +kernel), codeAny_builtin entry_list_iadd' ?_⟩))
  show wpAny _ _ (Builtin.List.listExtendWith (.ref s.heap.objs.size) (.ref l) (.ref s.heap.objs.size)) _ _ { s with heap := s.heap.push (seqObj "list" #[] 0) }
  unfold Builtin.List.listExtendWith
  refine wpAny_bind (wpAny_typeOf (T := "tuple") ⟨o, ho2, hc⟩ ?_)
  have tt : (Value.type "tuple" == Value.type "tuple") = true := by rfl
  rw [if_pos (by rw [tt]; simp)]
  refine wpAny_bind (listItems_at ho2 hd (wpAny_bind (listItems_at (xs := #[]) (n := 0) (Heap.get?_push_size _ rfl) rfl ?_)))
  rw [if_neg (by simp)]
  refine wpAny_bind (listUpdate_at (xs := #[]) (n := 0) (Heap.get?_push_size _ rfl) rfl ?_ (Nat.zero_le _) (by show (#[] ++ vs.toArray).size ≤ sizeLine + 1; simp only [Array.size_append, List.size_toArray, List.length_nil]; omega))
  refine wpAny_pure ?_
  show wpAny (model prog w) A (do
      let o ← load s.heap.objs.size
      match o.data with
      | .seq xs _ => pure xs.toList
      | _ => unsupported "internal:collect") Q E { s with heap := (s.heap.push (seqObj "list" #[] 0)).update s.heap.objs.size (Obj.mapSeq (· ++ vs.toArray)) }
  refine wpAny_bind (wpAny_load (get?_update_seq (Heap.get?_push_size _ rfl) _) ?_)
  show wpAny _ _ (pure ((#[] : Array Value) ++ vs.toArray).toList) Q E _
  rw [show ((#[] : Array Value) ++ vs.toArray).toList = vs by simp]
  exact wpAny_pure h
theorem sorted_tup {l : Addr} {vs : List Value} {ns : List Int} {Q : Value → Shared → Prop} (hl : IsTup s.heap l vs.toArray) (hI : IntsAre vs ns) (h64 : vs.length < 64)
    (h : ∀ (out : Array Value) (ns' : List Int), IntsAre out.toList ns' → ns'.Perm ns → ns'.Pairwise (· ≤ ·) → Q (.ref (s.heap.objs.size + 1)) { s with heap := sortedAll s.heap vs out }) :
    wpAny (model prog w) A (call (.builtin "sorted") [.ref l]) Q E s := by
  refine Calls.call_function_entry kind_sorted plain_sorted entry_sorted (args_sorted1 _) ?_
  unfold Builtin.«sorted»
  refine wpAny_bind (m := checkCount "sorted" 1 1 _) (wpAny_pure (wpAny_bind (gather_tup hl (by rw [sizeLine_eq]; omega) (wpAny_bind (wpAny_newList ?_)))))
  have hz : ((s.heap.push (seqObj "list" #[] 0)).update s.heap.objs.size (Obj.mapSeq (· ++ vs.toArray))).objs.size = s.heap.objs.size + 1 := by
    rw [Heap.size_update, size_push']
  have hL : (((s.heap.push (seqObj "list" #[] 0)).update s.heap.objs.size (Obj.mapSeq (· ++ vs.toArray))).push (seqObj "list" vs.toArray 0)).get? (s.heap.objs.size + 1) = some (seqObj "list" vs.toArray 0) := by
    rw [← hz]; exact Heap.get?_push_size _ rfl
  show wpAny _ _ _ _ _ { s with heap := ((s.heap.push (seqObj "list" #[] 0)).update s.heap.objs.size (Obj.mapSeq (· ++ vs.toArray))).push (seqObj "list" vs.toArray 0) }
  rw [hz]
  refine wpAny_bind (wpAny_holding (wpAny_call_entry slot_list_sort ⟨_, hL, rfl⟩ entry_list_sort (list_sort_tree hL hI h64 fun out ns' a1 a2 a3 => ⟨_, rfl, ?_⟩) (args_list_sort _)))
  exact wpAny_pure ⟨_, rfl, h out ns' a1 a2 a3⟩
end
def rSortedTup (K : PySem.W.Frag) : List V → Hp → VK → Prop := fun vs H Q => ∃ (a : Addr) (ns : List Int), vs = [V.ref a] ∧ SqT K H a (ns.map V.int) ∧ ns.length < 64 ∧
  ∀ (ns' : List Int) (p : Addr), ns'.Perm ns → ns'.Pairwise (· ≤ ·) → H p = none → Q (.ref p) (upd H p (.lst (ns'.map V.int)))
theorem cr_sortedTup {X : Cx} : CallR X (.builtin "sorted") (rSortedTup X.K) := by
  intro pins s σ H vs us Q I r h
  obtain ⟨a, ns, rfl, hs, h64, q⟩ := h
  obtain ⟨its, rv, hl, _⟩ := I.tuple hs
  rw [Vals.ref1 r]
  have hi := rv.ints
  refine sorted_tup hl hi (by rw [hi.length]; exact h64) fun out ns' h1 h2 h3 => ?_
  obtain ⟨ep, he'⟩ := PyProof.Rows.sortedAll_at s.heap its out
  have hlen : (ns'.map V.int).length ≤ sizeLine := by rw [List.length_map, h2.length_eq]; exact small64 h64
  exact ⟨.ref _, upd H (s.heap.objs.size + 1) (.lst (ns'.map V.int)), I.laid (t' := s.toks) (fun _ _ => PyProof.Rows.sortedAll_old) (Nat.le_succ _) ⟨hlen, out.toList, ep, vals_of_ints h1, he'⟩, rfl, q ns' _ h2 h3 (I.hok.fresh (Nat.le_succ _))⟩
theorem cr_sortedTupK {X : Cx} (K : PySem.W.Frag) (h : X.K = K := by rfl) : CallR X (.builtin "sorted") (rSortedTup K) := by subst h; exact cr_sortedTup

/-! ### C.m(e, ..), C a class of the text, m a def of it -/
def tCfn (C : Addr) (sp : Sp) (E : XK) (ta : TE) (t : TA) : TE := fun σ H Q => ta σ H fun x H1 => x = .ref C ∧ t σ H1 fun vs H2 => sp vs H2 Q E
theorem pe_cfn {X : Cx} {CX : CXT} {k j : Nat} {C f : Addr} {fd : FuncData} {ps : List Str} {mc : Value} {sp : Sp} {E : XK} {o e : Expr} {es : List Expr} {m : Str} {pos apos : Pos} {ta : TE} {t : TA} {pl : Sem Bool} (he : PE X o ta) (r : ClX.CRead X.K C mc)
    (hv : PySem.W.findCls X.K (.ref C) mc m = some (.val (.ref f))) (hk : PySem.W.keepIn X.K (.ref f) = true) (F : FnOk X.prog X.w X.K X.mg X.base CX k f fd ps sp) (hr : Room j X.A) (hj : k ≤ j) (hb : Binds X.K fd ps []) (hx : Passes CX X E) (ha : PA X (e :: es) t)
    (hst : starEach (e :: es) X.env = (false, eval e X.env) :: starEach es X.env := by rfl) (hpl : (backTo pos (starEach es X.env)).any (·.1) = false := by rfl)
    (ht : eval (.Call (.Attribute o m apos) (e :: es) [] pos) X.env = (do
      let ov ← eval o X.env
      standAt apos.atName
      let (f, first) ← holding [ov] (getMethod ov m pl)
      callWith pos f first (backTo pos (starEach (e :: es) X.env)) (backToKw pos (keywordEach [] X.env))) := by rfl) :
    PE X (.Call (.Attribute o m apos) (e :: es) [] pos) (tCfn C sp E ta t) := by
  refine ⟨fun pins s σ H Q I h => ?_⟩
  refine PySem.W.methodCall_KW (pl := pl) (thn (he.run pins s σ H _ I h) fun u s1 ⟨x, H1, I1, rx, ex, q⟩ => ?_) ht
  subst ex
  obtain rfl : u = Value.ref C := rx
  refine PySem.W.method_cls I1.kIn r.ga (ClX.getcval_ok (v := V.ref f) (u := Value.ref f) I1 r ⟨hv, rfl⟩ fun s2 I2 => ?_)
  refine PySem.W.callWith_K (first := []) (h₀ := X.base) I.ok.mod.kin hk (thn (ha.run pos pins s2 σ H1 _ I2 q) fun us s3 ⟨vs, H2, I3, rv, q2⟩ => ⟨I3.kIn, ?_⟩) hst hpl
  have q3 : sp (vs ++ []) H2 Q E := by rw [List.append_nil]; exact q2
  exact run_fn (us := us) (vs := vs) F (hr.mono hj) hb .nil hx I3 rv q3

/-! ### error classes over KinError -/
/-- what the written part says of such a class -/
structure KinC (K : PySem.W.Frag) (C : Addr) : Prop where
  ox : OexC K C
  xf : XfC K C
  cl : PySem.W.findIn K (.ref C) "__class__" = some (some (.builtin "object.__class__"))
  gt : PySem.W.specialIn K (.builtin "object.__class__") "__get__" = some (some (.builtin "getset_descriptor.__get__"))
  tk : PySem.W.takesIn K (.builtin "object.__class__") = some true
  mr : PySem.W.mroIn K C (.type "object") = some true
  nw : PySem.W.findIn K (.ref C) "word" = some none
/-- __init__(self, ..) of the base: it sets the word alone -/
def spKin (K : PySem.W.Frag) : Sp := fun vs H Q _ => ∃ (a C : Addr) (y : V), vs = [.ref a, y] ∧ KinC K C ∧ H a = some (exo a C none) ∧
  ∀ dx, H dx = none → dx ≠ a → Q .non (upd (upd H dx (exd dx [("word", y)])) a (exo a C (some dx)))
/-- __init__(self) of a class that only says its word -/
def spIni (K : PySem.W.Frag) (z : Str) : Sp := fun vs H Q _ => ∃ (a C : Addr), vs = [.ref a] ∧ KinC K C ∧ H a = some (exo a C none) ∧
  ∀ dx, H dx = none → dx ≠ a → Q .non (upd (upd H dx (exd dx [("word", .str z)])) a (exo a C (some dx)))
/-- such a class by its name: it can be made and raised -/
def Rsb (P : Program) (w : World) (K : PySem.W.Frag) (mg : Str → Option Value) (base : Heap) (k : Nat) (x : Str) (C : Addr) (z : Str) : Prop :=
  mg x = some (.ref C) ∧ KinC K C ∧ ∃ (fI : Addr) (fd : FuncData), PySem.W.findIn K (.ref C) "__init__" = some (some (.ref fI)) ∧ PySem.W.typeIn K (.ref fI) = some (.type "function") ∧ Binds K fd ["self"] [] ∧ FnOk P w K mg base CX0 k fI fd ["self"] (spIni K z)
section
variable {X : Cx} {p pos pos2 : Pos}
theorem pmk_oex0 {CX : CXT} {x : Str} {C fI : Addr} {k : Nat} {fd : FuncData} {ps : List Str} {sp : Sp} (T : OexC X.K C) (iC : PySem.W.findIn X.K (.ref C) "__init__" = some (some (.ref fI))) (tI : PySem.W.typeIn X.K (.ref fI) = some (.type "function"))
    (F1 : FnOk X.prog X.w X.K X.mg X.base CX k fI fd ps sp) (hr : Room (k + 1) X.A) (hb : Binds X.K fd ps []) (hx : Passes CX X (fun _ _ _ => False)) (hg : Gl X x) (hm : X.mg x = some (.ref C))
    (hdb : (x == ("__debug__" : Str)) = false := by decide) :
    PMk X (.Call (.Name x p) [] [] pos) (tMkO C sp [] tNil) := by
  intro pins s σ H Q I h
  obtain ⟨nm, q, N, bs, bm, sn, sub, ab, col, dd, k0, k1, k2, k3, k5, hC, hbm⟩ := T.cls
  obtain ⟨_, q1⟩ := (show ([] : List V).length ≤ 1000 ∧ _ from h)
  refine wpAny_Call_Name_kw (ld_glob I hg hm ?_ hdb)
  refine PySem.W.callWith_K0 I.kIn T.kC ?_
  show wpAny _ _ (call (.ref C) []) _ _ _
  obtain ⟨hp, g, dr, tk, os⟩ := s
  have hsz : hp.objs.size ≤ hp.objs.size + 1 := Nat.le_succ _
  have hq := q1 (hp.objs.size + 1) (I.hok.fresh hsz)
  have kk : ∀ b o, hp.get? b = some o → ((hp.push (PySem.W.kdv_tup [])).push (PySem.HandSPX.excO C hp.objs.size)).get? b = some o := fun b o e => Heap.get?_push_of_some _ (Heap.get?_push_of_some _ e)
  have hget : ((hp.push (PySem.W.kdv_tup [])).push (PySem.HandSPX.excO C hp.objs.size)).get? (hp.objs.size + 1) = some (PySem.HandSPX.excO C hp.objs.size) := by heap_get
  have I2 : Inv X pins σ (upd H (hp.objs.size + 1) (exo (hp.objs.size + 1) C none)) ⟨(hp.push (PySem.W.kdv_tup [])).push (PySem.HandSPX.excO C hp.objs.size), g, dr, tk, os⟩ :=
    I.laid (t' := tk) (a := hp.objs.size + 1) (o := exo (hp.objs.size + 1) C none) (h' := (hp.push (PySem.W.kdv_tup [])).push (PySem.HandSPX.excO C hp.objs.size)) kk hsz (exo_ok hget)
  have r2 : Vals [V.ref (hp.objs.size + 1)] [Value.ref (hp.objs.size + 1)] := .cons rfl .nil
  have hl : ([Value.ref (hp.objs.size + 1)] ++ []).length = ps.length := by
    have e := F1.len _ _ _ _ hq
    exact e
  refine wpAny_call (PySem.HandSPX.call_own F.excBase_ValueError (fun Y => PySem.HandSPX.refsVE_contains Y bm hbm) (I.kIn _ _ hC) (PySem.W.looks_findIn I.kIn iC) (fun self => PySem.W.bind_fn I.kIn self tI) (Nat.zero_le _)
    (codeAny_mono (F1.run _ X.stack _ _ ⟨[Value.ref (hp.objs.size + 1)], []⟩ [Value.ref (hp.objs.size + 1)] _ _ (fun _ _ _ => False) (hr.make C [] []) (I2.env0.make C [] []) (hb _ [Value.ref (hp.objs.size + 1)] I2.kIn hl) r2 hq) fun r s' hq' => ?_))
  cases r with
  | error er => exact hx pins σ _ _ er s' I2 hq'
  | ok fl =>
    cases fl with
    | ret u =>
      obtain ⟨v, H2, os2, bare2, un2, hok2, rv, ev, d, fs, ea, ed, hd1, q2⟩ := hq'
      subst ev
      obtain ⟨h2, g2, d2, t2, os'⟩ := s'
      exact ⟨rv, mk_end (raises_own T.exC T.tyC) I hsz kk un2 hok2 os2 bare2 ea ed hd1 q2⟩
    | next => exact False.elim hq'
    | brk => exact False.elim hq'
    | cont => exact False.elim hq'
/-- what __init__ leaves, once the error is let go -/
theorem upd_gone {H : Hp} {a dx : Addr} {o1 o2 o3 : HO} {o0 : HO} (na : H a = none) (nd : dx ≠ a) : upd (del (upd (upd (upd H a o0) dx o1) a o2) a) dx o3 = upd H dx o3 := by
  funext b
  by_cases hb : b = dx
  · rw [hb, upd_same, upd_same]
  · rw [upd_ne hb, upd_ne hb]
    by_cases ha : b = a
    · rw [ha, del_same, na]
    · rw [del_ne ha, upd_ne ha, upd_ne hb, upd_ne ha]
/-- raise X() -/
def tRsb (C : Addr) (z : Str) (W : WX) : TS := fun _ σ H => ∀ d, H d = none → W (.ref C) (some d) σ (upd H d (.xd [("word", .str z)]))
theorem ps_rsb {k j : Nat} {x : Str} {C : Addr} {z : Str} {W : WX} (R : Rsb X.prog X.w X.K X.mg X.base k x C z) (hr : Room j X.A) (hj : k + 1 ≤ j) (hc : X.calm = true) (tk : Takes X W) (hg : Gl X x) (hdb : (x == ("__debug__" : Str)) = false := by decide) :
    PS X (.Raise (some (.Call (.Name x p) [] [] pos)) none pos2) (tRsb C z W) := by
  obtain ⟨hm, T, fI, fd, iC, tI, hb, F⟩ := R
  have P := ps_raise (pos := pos2) hc tk (pmk_oex0 (p := p) (pos := pos) T.ox iC tI F (hr.mono hj) hb pass0 hg hm hdb)
  refine ⟨fun pins s σ H D I h => P.run pins s σ H D I ?_⟩
  refine ⟨Nat.zero_le _, fun a na => ⟨a, C, rfl, T, upd_same, fun dx nd ne => ⟨rfl, dx, _, upd_same, upd_old ne upd_same, ?_, ?_⟩⟩⟩
  · rw [upd_ne ne] at nd
    exact nd
  · have nd2 : H dx = none := by
      rw [upd_ne ne] at nd
      exact nd
    have e := upd_gone (o1 := exd dx [(("word" : Str), V.str z)]) (o2 := exo a C (some dx)) (o3 := .xd [(("word" : Str), V.str z)]) (o0 := exo a C none) na ne
    show W _ _ _ (upd (del (upd (upd (upd H a (exo a C none)) dx (exd dx [(("word" : Str), V.str z)])) a (exo a C (some dx))) a) dx (.xd [(("word" : Str), V.str z)]))
    rw [e]
    exact h dx nd2
end

/-! ### in an except suite: e.f, isinstance(e, C), e the error of any of these classes -/
section
variable {X : Cx} {a : Addr} {oe : Obj} {cls : Value} {d : Option Addr} {pn : List (Addr × Obj)}
def tEf (K : PySem.W.Frag) (a : Addr) (cls : Value) (d : Option Addr) (f : Str) (te : TE) : TE := fun σ H Q => te σ H fun x H1 => ∃ (C dd : Addr) (fs : List (Str × V)) (v : V), x = .ref a ∧ cls = .ref C ∧ XfC K C ∧ PySem.W.findIn K (.ref C) f = some none ∧ d = some dd ∧ H1 dd = some (.xd fs) ∧ fs.lookup f = some v ∧ Q v H1
theorem pe_ef (K : PySem.W.Frag) {e : Expr} {te : TE} {pos : Pos} {n : Str} (hz : Zc cls d oe) (hf : ∃ vs, oe.data = .fields vs) (he : PE (X.suite a ((a, oe) :: pn)) e te) (hK : X.K = K := by rfl) (hb : attributeBase e n X.env (eval e X.env) = eval e X.env := by rfl) :
    PE (X.suite a ((a, oe) :: pn)) (.Attribute e n pos) (tEf K a cls d n te) := by
  subst hK
  refine ⟨fun pins s σ H Q I h => ?_⟩
  refine attr_of hb (thn (he.run pins s σ H _ I h) fun u s1 hh => ?_)
  obtain ⟨x, H1, I1, rx, C, dd, fs, v, ex, ec, T, hno, ed, ea, l, q⟩ := hh
  subst ex ec ed
  obtain rfl : u = Value.ref a := rx
  obtain ⟨ha, _⟩ := I1.pin (a, oe) (List.mem_append_left _ List.mem_cons_self)
  obtain ⟨vs, hd⟩ := hf
  have hx : ObjOk X.prog X.w H1 s1.heap dd (.xd fs) := I1.hok dd _ ea
  obtain ⟨mA, hns, hr⟩ := hx
  obtain ⟨od, ho, hl⟩ := lookIn_ns hns
  obtain ⟨u, hu, ru⟩ := RelO.some_of (v := v) (o := mA n) (by rw [← l]; exact hr n)
  have J : PySem.W.InstAt s1.heap a oe C (some od) := ⟨ha, hz.1, by unfold PySem.W.notCls; rw [hd] <;> rfl, by rw [hz.2]; exact ho⟩
  exact HandSPX.exc_get I1.kIn J T.ga T.gg T.exC (PySem.W.findObj_own T.hdC hno rfl (by rw [hl, hu])) (handed_of ru) ⟨v, H1, I1.tok _, ru, q⟩
def rEis (K : PySem.W.Frag) (a : Addr) (cls : Value) (d : Option Addr) : List V → Hp → VK → Prop := fun xs H Q => ∃ (D dd : Addr) (fs : List (Str × V)) (c : V) (cv : Value) (b : Bool), xs = [.ref a, c] ∧ cls = .ref D ∧ KinC K D ∧ d = some dd ∧ H dd = some (.xd fs) ∧
  ClsV c cv ∧ PySem.W.kitOne K (.ref D) cv = some b ∧ Q (.bl b) H
theorem call_eis (K : PySem.W.Frag) (hz : Zc cls d oe) (hf : ∃ vs, oe.data = .fields vs) (hK : X.K = K := by rfl) : CallR (X.suite a ((a, oe) :: pn)) (.builtin "isinstance") (rEis K a cls d) := by
  subst hK
  intro pins s σ H xs us Q I r h
  obtain ⟨D, dd, fs, c, cv, b, rfl, ec, T, ed, ea, hcv, e, q⟩ := h
  subst ec ed
  obtain ⟨u1, u2, rfl, r1, r2⟩ := vals2 r
  obtain rfl : u1 = Value.ref a := r1
  have ecv := hcv.eq r2
  subst ecv
  obtain ⟨hget, _⟩ := I.pin (a, oe) (List.mem_append_left _ List.mem_cons_self)
  obtain ⟨vs, hv⟩ := hf
  have hx : ObjOk X.prog X.w H s.heap dd (.xd fs) := I.hok dd _ ea
  obtain ⟨mA, hns, hr⟩ := hx
  obtain ⟨od, ho, hl⟩ := lookIn_ns hns
  have J : PySem.W.InstAt s.heap a oe D (some od) := ⟨hget, hz.1, by unfold PySem.W.notCls; rw [hv] <;> rfl, by rw [hz.2]; exact ho⟩
  have hcl : (PySem.W.clsIn X.K D).isSome = true := by
    obtain ⟨cd, hc, _⟩ := PySem.W.any_some T.xf.hdC
    rw [hc]
    rfl
  exact PySem.W.kia_one (PySem.W.kitx_exc (ox := oe) (od := some od) hcl T.xf.ga T.xf.gg T.xf.exC T.cl T.gt T.tk T.mr) I.kIn J e (fun z => nomatch z) fun tk => ⟨.bl b, H, I.kept (t' := tk) fun _ _ z => z, rfl, q⟩
end

/-! ### calls whose errors are wished for at the caller's slots; errors that go on to the caller -/
section
variable {X : Cx} {CX : CXT} {k j : Nat} {x : Str} {ps : List Str} {sp : Sp} {E : L2.St → XK} {p pos : Pos} {e : Expr} {es : List Expr} {t : TA}
theorem pe_cS (c : Cal X.prog X.w X.K X.mg X.base CX k x ps sp) (hr : Room j X.A) (hj : k ≤ j) (hg : Gl X x) (hx : ∀ σ, PassesAt CX X σ (E σ)) (ha : PA X (e :: es) t)
    (hdb : (x == ("__debug__" : Str)) = false := by decide) (he : starEach (e :: es) X.env = (false, eval e X.env) :: starEach es X.env := by rfl) (hpl : (backTo pos (starEach es X.env)).any (·.1) = false := by rfl) :
    PE X (.Call (.Name x p) (e :: es) [] pos) (tCallS sp E t) := by
  obtain ⟨f, fd, hm, hk, hb, F⟩ := c
  exact pe_callS F (hr.mono hj) hg hm hk hb hx ha hdb he hpl
end
end Kin

set_option Elab.async false
set_option linter.all false
set_option maxRecDepth 100000
set_option maxHeartbeats 4000000
/-! B3: two values that are alike as data; a def that is never called; data's kinds -/
namespace Kin
open PySem PySem.Spec PyProof.Rows L2
theorem ix_seqK {X : Cx} (K : PySem.W.Frag) (h : X.K = K := by rfl) : IxR X (rIx K) := by subst h; exact ix_seq
/-- alike: no more than n lists or tuples within one another -/
inductive Alike (K : PySem.W.Frag) (H : Hp) : Nat → V → V → Prop
  | non {n : Nat} : Alike K H n .non .non
  | bl {n : Nat} (b : Bool) : Alike K H n (.bl b) (.bl b)
  | int {n : Nat} (i : Int) : Alike K H n (.int i) (.int i)
  | str {n : Nat} (z : Str) : Alike K H n (.str z) (.str z)
  | lst {n : Nat} {a b : Addr} {xs ys : List V} (ha : SqL K H a xs) (hb : SqL K H b ys) (hl : xs.length = ys.length) (hz : xs.length ≤ 1000)
      (h : ∀ (i : Nat) (x y : V), xs[i]? = some x → ys[i]? = some y → Alike K H n x y) : Alike K H (n + 1) (.ref a) (.ref b)
  | tup {n : Nat} {a b : Addr} {xs ys : List V} (ha : SqT K H a xs) (hb : SqT K H b ys) (hl : xs.length = ys.length) (hz : xs.length ≤ 1000)
      (h : ∀ (i : Nat) (x y : V), xs[i]? = some x → ys[i]? = some y → Alike K H n x y) : Alike K H (n + 1) (.ref a) (.ref b)
theorem Alike.same {K : PySem.W.Frag} {H H' : Hp} (s : Same H H') {n : Nat} {x y : V} (h : Alike K H n x y) : Alike K H' n x y := by
  induction h with
  | non => exact .non
  | bl b => exact .bl b
  | int i => exact .int i
  | str z => exact .str z
  | lst ha hb hl hz _ ih => exact .lst (s.seq ha) (s.seq hb) hl hz ih
  | tup ha hb hl hz _ ih => exact .tup (same_seqT s ha) (same_seqT s hb) hl hz ih
theorem alike_ints {K : PySem.W.Frag} {H : Hp} {n : Nat} {ns : List Int} : ∀ (i : Nat) (x y : V), (ns.map V.int)[i]? = some x → (ns.map V.int)[i]? = some y → Alike K H n x y := fun i x y h1 h2 => by
  obtain ⟨z, hz, rfl⟩ := int_at h1
  rw [h1] at h2
  cases h2
  exact .int z
theorem alike_tupI {K : PySem.W.Frag} {H : Hp} {n : Nat} {a b : Addr} {ns : List Int} (ha : SqT K H a (ns.map V.int)) (hb : SqT K H b (ns.map V.int)) (hz : ns.length ≤ 1000) : Alike K H (n + 1) (.ref a) (.ref b) :=
  .tup ha hb rfl (by rw [List.length_map]; exact hz) alike_ints
theorem alike_lstI {K : PySem.W.Frag} {H : Hp} {n : Nat} {a b : Addr} {ns : List Int} (ha : SqL K H a (ns.map V.int)) (hb : SqL K H b (ns.map V.int)) (hz : ns.length ≤ 1000) : Alike K H (n + 1) (.ref a) (.ref b) :=
  .lst ha hb rfl (by rw [List.length_map]; exact hz) alike_ints
theorem alike_1 {K : PySem.W.Frag} {H : Hp} {n : Nat} {x y : V} (h : Alike K H n x y) : ∀ (i : Nat) (u v : V), [x][i]? = some u → [y][i]? = some v → Alike K H n u v := fun i u v h1 h2 => by
  match i, h1, h2 with
  | 0, h1, h2 => cases h1; cases h2; exact h
  | i + 1, h1, _ => simp at h1
theorem alike_more {K : PySem.W.Frag} {H : Hp} {n : Nat} {x y : V} {xs ys : List V} (h : Alike K H n x y) (hr : ∀ (i : Nat) (u v : V), xs[i]? = some u → ys[i]? = some v → Alike K H n u v) :
    ∀ (i : Nat) (u v : V), (x :: xs)[i]? = some u → (y :: ys)[i]? = some v → Alike K H n u v := fun i u v h1 h2 => by
  match i, h1, h2 with
  | 0, h1, h2 => cases h1; cases h2; exact h
  | i + 1, h1, h2 => exact hr i u v h1 h2
theorem alike_0 {K : PySem.W.Frag} {H : Hp} {n : Nat} : ∀ (i : Nat) (u v : V), ([] : List V)[i]? = some u → ([] : List V)[i]? = some v → Alike K H n u v := fun i u v h1 _ => by simp at h1
theorem tyL {K : PySem.W.Frag} {H : Hp} {a : Addr} {xs : List V} (h : SqL K H a xs) : TyX K H (.ref a) (.type "list") := by
  rcases h with (h | ⟨o, h⟩) | ⟨o, _, _, h, c, _⟩
  · exact .base (.lst h)
  · exact .base (.frz h)
  · exact .kList h c
theorem tyT {K : PySem.W.Frag} {H : Hp} {a : Addr} {xs : List V} (h : SqT K H a xs) : TyX K H (.ref a) (.type "tuple") := by
  rcases h with (h | ⟨o, h⟩) | ⟨o, _, _, h, c, _⟩
  · exact .base (.tup h)
  · exact .fTuple h
  · exact .kTuple h c
/-- a def of which nothing is promised -/
theorem fn_never {P : Program} {w : World} {K : PySem.W.Frag} {mg : Str → Option Value} {base : Heap} {CX : CXT} {f : Addr} {fd : FuncData} {ps : List Str} : FnOk P w K mg base CX 0 f fd ps (fun _ _ _ _ => False) :=
  ⟨fun _ _ _ _ h => h.elim, fun _ _ _ _ _ _ _ _ _ _ _ _ _ h => h.elim⟩
end Kin

set_option Elab.async false
set_option linter.all false
set_option maxRecDepth 100000
set_option maxHeartbeats 4000000
/-! B4: the error classes as the top has left them -/
namespace Kin
open PySem PySem.Spec PyProof.Rows L2
/-- KinError, at C0: its __init__ can be called through the class -/
def KinBase (P : Program) (w : World) (K : PySem.W.Frag) (mg : Str → Option Value) (base : Heap) (C0 : Addr) : Prop :=
  ∃ (f0 : Addr) (fd0 : FuncData) (mc : Value), mg "KinError" = some (.ref C0) ∧ ClX.CRead K C0 mc ∧ PySem.W.findCls K (.ref C0) mc "__init__" = some (.val (.ref f0)) ∧ PySem.W.keepIn K (.ref f0) = true ∧ Binds K fd0 ["self", "word"] [] ∧
    FnOk P w K mg base CX0 1 f0 fd0 ["self", "word"] (spKin K)
/-- .. by what the written part says -/
def BaseIn (K : PySem.W.Frag) (st : Stmt) (C0 : Addr) : Prop := (PySem.W.subIn K (.ref C0) (.type "BaseException") = some true ∧ PySem.W.hasDictIn K C0 = true ∧ PySem.W.typeIn K (.ref C0) = some (.type "type")) ∧ ∃ (f0 : Addr) (oc : Value) (od : Option Addr) (kV doc pm : Value) (an : Option Addr) (cdv ct : Value) (osl : Array (Option Value)),
  PySem.W.nsIn K mainGlobals "KinError" = some (some (.ref C0)) ∧ PySem.W.readsIn K C0 (.type "type") = true ∧ PySem.W.specialIn K (.ref C0) "__getattribute__" = some (some (.builtin "type.__getattribute__")) ∧ PySem.W.findCls K (.ref C0) (.type "type") "__init__" = some (.val (.ref f0)) ∧
  K.lookup f0 = some ⟨oc, od, .func (PySem.W.fnOf "__init__" "KinError.__init__" (defArgs st) (defBody st) (defScope st) .none kV doc pm an cdv ct), osl⟩ ∧ PySem.W.codeIn K cdv "KinError.__init__" = true ∧ PySem.W.keepIn K (.ref f0) = true
theorem baseIn_mk {K : PySem.W.Frag} {st : Stmt} {C0 f0 : Addr} {oc : Value} {od : Option Addr} {kV doc pm : Value} {an : Option Addr} {cdv ct : Value} {osl : Array (Option Value)} (a : PySem.W.nsIn K mainGlobals "KinError" = some (some (.ref C0)))
    (s1 : PySem.W.subIn K (.ref C0) (.type "BaseException") = some true) (s2 : PySem.W.hasDictIn K C0 = true) (s3 : PySem.W.typeIn K (.ref C0) = some (.type "type")) (r : PySem.W.readsIn K C0 (.type "type") = true) (g : PySem.W.specialIn K (.ref C0) "__getattribute__" = some (some (.builtin "type.__getattribute__"))) (v : PySem.W.findCls K (.ref C0) (.type "type") "__init__" = some (.val (.ref f0)))
    (l : K.lookup f0 = some ⟨oc, od, .func (PySem.W.fnOf "__init__" "KinError.__init__" (defArgs st) (defBody st) (defScope st) .none kV doc pm an cdv ct), osl⟩) (c : PySem.W.codeIn K cdv "KinError.__init__" = true) (k : PySem.W.keepIn K (.ref f0) = true) : BaseIn K st C0 :=
  ⟨⟨s1, s2, s3⟩, f0, oc, od, kV, doc, pm, an, cdv, ct, osl, a, r, g, v, l, c, k⟩
/-- an error class x, at C, by what the written part says -/
def ErrIn (K : PySem.W.Frag) (x q : Str) (st : Stmt) (C : Addr) : Prop := KinC K C ∧ PySem.W.nsIn K mainGlobals x = some (some (.ref C)) ∧ ∃ (fI : Addr) (oc : Value) (od : Option Addr) (kV doc pm : Value) (an : Option Addr) (cdv ct : Value) (osl : Array (Option Value)),
  PySem.W.findIn K (.ref C) "__init__" = some (some (.ref fI)) ∧ PySem.W.typeIn K (.ref fI) = some (.type "function") ∧ K.lookup fI = some ⟨oc, od, .func (PySem.W.fnOf "__init__" q (defArgs st) (defBody st) (defScope st) .none kV doc pm an cdv ct), osl⟩ ∧
  PySem.W.codeIn K cdv q = true ∧ PySem.W.keepIn K (.ref fI) = true
theorem errIn_mk {K : PySem.W.Frag} {x q : Str} {st : Stmt} {C fI : Addr} {nm qq : Str} {N : Addr} {bs bm : List Value} {sn : List Str} {sub : List Value} {ab : Bool} {col : Option Bool} {dd : Option Addr} {m0 m1 m2 m3 m5 : Option Value} {oc : Value} {od : Option Addr} {kV doc pm : Value} {an : Option Addr} {cdv ct : Value} {osl : Array (Option Value)}
    (a : PySem.W.nsIn K mainGlobals x = some (some (.ref C))) (xl : K.lookup C = some (excClassObj nm qq C N bs bm true sn sub ab col dd m0 m1 m2 m3 m5 "ValueError.__new__")) (rv : PySem.HandSPX.refsVE bm = true)
    (sa : PySem.W.findIn K (.ref C) "__setattr__" = some (some (.builtin "object.__setattr__"))) (ga : PySem.W.findIn K (.ref C) "__getattribute__" = some (some (.builtin "BaseException.__getattribute__"))) (gg : PySem.W.findIn K (.ref C) "__getattr__" = some none)
    (ex : PySem.W.subIn K (.ref C) (.type "BaseException") = some true) (ty : PySem.W.typeIn K (.ref C) = some (.type "type")) (kc : PySem.W.keepIn K (.ref C) = true) (hd : PySem.W.hasDictIn K C = true)
    (cl : PySem.W.findIn K (.ref C) "__class__" = some (some (.builtin "object.__class__"))) (gt : PySem.W.specialIn K (.builtin "object.__class__") "__get__" = some (some (.builtin "getset_descriptor.__get__"))) (tk : PySem.W.takesIn K (.builtin "object.__class__") = some true)
    (mr : PySem.W.mroIn K C (.type "object") = some true) (nw : PySem.W.findIn K (.ref C) "word" = some none) (iC : PySem.W.findIn K (.ref C) "__init__" = some (some (.ref fI))) (tI : PySem.W.typeIn K (.ref fI) = some (.type "function"))
    (l : K.lookup fI = some ⟨oc, od, .func (PySem.W.fnOf "__init__" q (defArgs st) (defBody st) (defScope st) .none kV doc pm an cdv ct), osl⟩) (c : PySem.W.codeIn K cdv q = true) (k : PySem.W.keepIn K (.ref fI) = true) : ErrIn K x q st C :=
  ⟨⟨⟨⟨nm, qq, N, bs, bm, sn, sub, ab, col, dd, m0, m1, m2, m3, m5, xl, rv⟩, sa, ex, ty, kc⟩, ⟨ga, gg, ex, hd⟩, cl, gt, tk, mr, nw⟩, a, fI, oc, od, kV, doc, pm, an, cdv, ct, osl, iC, tI, l, c, k⟩
/-- an except clause KinError catches an error of the class at C -/
def Under (K : PySem.W.Frag) (C C0 : Addr) : Prop := PySem.W.exmOne K (.ref C) (.ref C0) = some true
theorem under_of {K : PySem.W.Frag} {st : Stmt} {C C0 : Addr} (d : BaseIn K st C0) (h : PySem.W.subIn K (.ref C) (.ref C0) = some true) : Under K C C0 := PySem.W.exm_ref d.1.1 d.1.2.1 d.1.2.2 h
/-- isinstance of an error -/
theorem kit_self (K : PySem.W.Frag) (C : Addr) : PySem.W.kitOne K (.ref C) (.ref C) = some true := by
  unfold PySem.W.kitOne
  rw [if_pos (by simp)]
theorem kit_ve {K : PySem.W.Frag} {C : Addr} (h : PySem.W.subIn K (.ref C) (.type "ValueError") = some true) : PySem.W.kitOne K (.ref C) (.type "ValueError") = some true := by
  unfold PySem.W.kitOne
  rw [if_neg (by simp)]
  show (if PySem.W.kitMeta "ValueError" = true then PySem.W.subIn K (.ref C) (.type "ValueError") else none) = some true
  rw [if_pos (by decide +kernel), h]
theorem kit_sub {K : PySem.W.Frag} {C D : Addr} {b : Bool} (T : KinC K D) (h : PySem.W.subIn K (.ref C) (.ref D) = some b) (hne : C ≠ D) : PySem.W.kitOne K (.ref C) (.ref D) = some b := by
  unfold PySem.W.kitOne
  rw [if_neg (by simp only [beq_iff_eq, Value.ref.injEq]; exact hne)]
  obtain ⟨cd, hc, _⟩ := PySem.W.any_some T.xf.hdC
  show (if ((PySem.W.clsIn K D).isSome && PySem.W.typeIn K (.ref D) == some (.type "type")) = true then PySem.W.subIn K (.ref C) (.ref D) else none) = some b
  rw [if_pos (by rw [hc, T.ox.tyC]; rfl), h]
section
variable {P : Program} {w : World} {K : PySem.W.Frag} {mg : Str → Option Value} {base : Heap}
/-- self.word = word -/
theorem kin_init {st : Stmt} {f : Addr} {fd : FuncData} {p1 p2 p3 p4 : Pos} (F : Fun K "__init__" "KinError.__init__" st f fd) (S : FnScope ["self", "word"] ["self", "word"] (defScope st))
    (hb : defBody st = [.Assign [.Attribute (.Name "self" p1) "word" p2] (.Name "word" p3) p4]) (hv1 : Vis (defScope st) "self") (hv2 : Vis (defScope st) "word")
    (hs : ∀ (X : Cx), X.env.scope = defScope st → swapsWith (.Name "word" p3) (some (.Attribute (.Name "self" p1) "word" p2)) p4.line X.env = pure false) : FnOk P w K mg base CX0 1 f fd ["self", "word"] (spKin K) := by
  refine F.ok S (fun vs H Q E h => ?_) (fun cdv A outer s H vs Q E hr h => ?_)
  · obtain ⟨a, C, y, rfl, _⟩ := h
    rfl
  · obtain ⟨a, C, y, rfl, T, ha, q⟩ := h
    rw [hb]
    refine ⟨_, pss_one (ps_ost (pe_var (i := 0) rfl hv1) (pe_var (i := 1) rfl hv2) (hs _ rfl)), ?_⟩
    exact ⟨_, rfl, _, rfl, a, C, rfl, T.ox, T.nw, .inl ⟨ha, fun dx nd ne => q dx nd ne⟩⟩
end
end Kin

set_option Elab.async false
set_option linter.all false
set_option maxRecDepth 100000
set_option maxHeartbeats 4000000
/-! M1: one turning behind another -/
namespace Kin
open PySem L2
def after (ns ms : List Int) : List Int := ns.map fun z => ms.getD z.toNat 0
theorem after_snoc (ns ms : List Int) (z : Option Int) : after (ns ++ z.toList) ms = after ns ms ++ (after z.toList ms) := by unfold after; rw [List.map_append]
theorem after_len (ns ms : List Int) : (after ns ms).length = ns.length := by unfold after; rw [List.length_map]
theorem map_getD_range (ms : List Int) : (rgI ms.length).map (fun z => ms.getD z.toNat 0) = ms := by
  refine List.ext_getElem? fun i => ?_
  rw [List.getElem?_map]
  by_cases h : i < ms.length
  · rw [rgI_get h, Option.map_some, Int.toNat_natCast, List.getElem?_eq_getElem h, List.getD_eq_getElem?_getD, List.getElem?_eq_getElem h]
    rfl
  · rw [List.getElem?_eq_none (by rw [rgI_len]; omega), List.getElem?_eq_none (by omega)]
    rfl
/-- all stay, then a turning -/
theorem after_still_l (ms : List Int) : after (rgI ms.length) ms = ms := map_getD_range ms
/-- a turning, then all stay -/
theorem after_still_r {ns : List Int} (t : Turn ns) : after ns (rgI ns.length) = ns := by
  unfold after
  refine (List.map_congr_left fun z hz => ?_).trans (List.map_id ns)
  have := t.lo z hz
  rw [List.getD_eq_getElem?_getD, rgI_get (by omega)]
  show ((z.toNat : Nat) : Int) = z
  omega
theorem after_turn {ns ms : List Int} (tn : Turn ns) (tm : Turn ms) (hl : ns.length = ms.length) : Turn (after ns ms) := by
  have h1 : (after ns ms).Perm ((rgI ns.length).map fun z => ms.getD z.toNat 0) := tn.perm.map _
  rw [hl, map_getD_range] at h1
  exact turn_of_perm (h1.trans tm.perm)
end Kin

set_option Elab.async false
set_option linter.all false
set_option maxRecDepth 100000
set_option maxHeartbeats 4000000
/-! M2: the turning back -/
namespace Kin
open PySem L2
def ixOf : List Int → Int → Nat
  | [], _ => 0
  | x :: r, z => if x = z then 0 else ixOf r z + 1
theorem ixOf_get : ∀ {ns : List Int} {z : Int}, z ∈ ns → ns[ixOf ns z]? = some z
  | [], _, h => by cases h
  | x :: r, z, h => by
    unfold ixOf
    by_cases e : x = z
    · rw [if_pos e, ← e]
      rfl
    · rw [if_neg e]
      have : z ∈ r := by
        rcases List.mem_cons.mp h with q | q
        · exact absurd q.symm e
        · exact q
      exact ixOf_get this
theorem ixOf_first : ∀ {ns : List Int} {z : Int} (m : Nat), m < ixOf ns z → ns[m]? ≠ some z
  | [], _, m, h => by simp
  | x :: r, z, m, h => by
    unfold ixOf at h
    by_cases e : x = z
    · rw [if_pos e] at h
      omega
    · rw [if_neg e] at h
      match m with
      | 0 => exact fun q => e (Option.some.inj q)
      | m + 1 => exact ixOf_first (ns := r) m (by omega)
theorem ixOf_lt {ns : List Int} {z : Int} (h : z ∈ ns) : ixOf ns z < ns.length := (List.getElem?_eq_some_iff.mp (ixOf_get h)).1
theorem ixOf_of {ns : List Int} (hn : ns.Nodup) {z : Int} {j : Nat} (h : ns[j]? = some z) : ixOf ns z = j := nd_ix hn (ixOf_get (List.mem_of_getElem? h)) h
def inv (ns : List Int) : List Int := (rgI ns.length).map fun z => (ixOf ns z : Int)
theorem inv_len (ns : List Int) : (inv ns).length = ns.length := by unfold inv; rw [List.length_map, rgI_len]
theorem inv_at {ns : List Int} {i : Nat} (h : i < ns.length) : (inv ns)[i]? = some ((ixOf ns (i : Int) : Nat) : Int) := by
  unfold inv
  rw [List.getElem?_map, rgI_get h]
  rfl
theorem Turn.mem {ns : List Int} (t : Turn ns) {z : Int} (h0 : 0 ≤ z) (h1 : z < (ns.length : Int)) : z ∈ ns := t.perm.mem_iff.mpr (mem_rgI.mpr ⟨h0, h1⟩)
theorem Turn.inv_of {ns : List Int} (t : Turn ns) {j : Nat} {z : Int} (h : ns[j]? = some z) : (inv ns)[z.toNat]? = some (j : Int) := by
  have hz := t.lo z (List.mem_of_getElem? h)
  rw [inv_at (by omega), show ((z.toNat : Nat) : Int) = z by omega, ixOf_of t.nd h]
theorem inv_turn {ns : List Int} (t : Turn ns) : Turn (inv ns) := by
  refine ⟨?_, fun x hx => ?_⟩
  · unfold inv List.Nodup
    rw [List.pairwise_map]
    refine List.Pairwise.imp_of_mem (R := fun a b => a ≠ b) (fun {x y} hx hy hne e => hne ?_) (rgI_nodup ns.length)
    obtain ⟨x0, x1⟩ := mem_rgI.mp hx
    obtain ⟨y0, y1⟩ := mem_rgI.mp hy
    have e2 : ixOf ns x = ixOf ns y := by omega
    have h1 := ixOf_get (t.mem x0 x1)
    rw [e2, ixOf_get (t.mem y0 y1)] at h1
    exact (Option.some.inj h1).symm
  · rw [inv_len]
    unfold inv at hx
    obtain ⟨z, hz, rfl⟩ := List.mem_map.mp hx
    obtain ⟨z0, z1⟩ := mem_rgI.mp hz
    have := ixOf_lt (t.mem z0 z1)
    omega
theorem inv_inv {ns : List Int} (t : Turn ns) : inv (inv ns) = ns := by
  refine List.ext_getElem? fun i => ?_
  by_cases h : i < ns.length
  · rw [inv_at (by rw [inv_len]; exact h)]
    obtain ⟨z, hz⟩ : ∃ z, ns[i]? = some z := ⟨ns[i], List.getElem?_eq_getElem h⟩
    have hz2 := t.lo z (List.mem_of_getElem? hz)
    rw [ixOf_of (inv_turn t).nd (t.inv_of hz), hz, show ((z.toNat : Nat) : Int) = z by omega]
  · rw [List.getElem?_eq_none (by rw [inv_len, inv_len]; omega), List.getElem?_eq_none (by omega)]
theorem getD_of {ns : List Int} {i : Nat} {z : Int} (h : ns[i]? = some z) : ns.getD i 0 = z := by
  rw [List.getD_eq_getElem?_getD, h]
  rfl
/-- a turning and then back -/
theorem after_inv {ns : List Int} (t : Turn ns) : after ns (inv ns) = rgI ns.length := by
  refine List.ext_getElem? fun i => ?_
  unfold after
  rw [List.getElem?_map]
  by_cases h : i < ns.length
  · obtain ⟨z, hz⟩ : ∃ z, ns[i]? = some z := ⟨ns[i], List.getElem?_eq_getElem h⟩
    rw [hz, Option.map_some, rgI_get h, getD_of (t.inv_of hz)]
  · rw [List.getElem?_eq_none (by omega), List.getElem?_eq_none (by rw [rgI_len]; omega)]
    rfl
theorem inv_after {ns : List Int} (t : Turn ns) : after (inv ns) ns = rgI ns.length := by
  have h := after_inv (inv_turn t)
  rw [inv_inv t, inv_len] at h
  exact h
/-- what a loop that stores each place at its number comes to -/
theorem inv_built {ns fs : List Int} (t : Turn ns) (hl : fs.length = ns.length) (h : ∀ (j : Nat) (z : Int), ns[j]? = some z → fs[z.toNat]? = some (j : Int)) : fs = inv ns := by
  refine List.ext_getElem? fun i => ?_
  by_cases hi : i < ns.length
  · have hm := t.mem (z := (i : Int)) (by omega) (by omega)
    rw [inv_at hi]
    exact h _ _ (ixOf_get hm)
  · rw [List.getElem?_eq_none (by omega), List.getElem?_eq_none (by rw [inv_len]; omega)]
end Kin

set_option Elab.async false
set_option linter.all false
set_option maxRecDepth 100000
set_option maxHeartbeats 4000000
/-! B5: enumerate of a tuple; tuple.index of numbers -/
namespace Kin
open PySem PySem.Spec PyProof.Rows L2

/-! ### enumerate(t) -/
section
variable {prog : Program} {w : World} {A : Around} {E : Value → Shared → Prop} {s : Shared}
set_option maxHeartbeats 1000000 in
theorem enum_new1 {v : Value} {o : Obj} {H : Heap → Prop} (B : Begins v o H) :
    Meets (Builtin.«enumerate.__new__» ⟨[.type "enumerate", v], []⟩) (fun _ R s => H s.heap ∧
      R (.ok (.ret (.ref (s.heap.push o).objs.size))) { s with heap := (s.heap.push o).push { cls := .type "enumerate", data := .fields #[.none, .bool false, .ref s.heap.objs.size, rawInt 0, .none, .none] } }) :=
  .of_wp fun prog w A R s h => by
    obtain ⟨hp, g, d, tk, os⟩ := s; obtain ⟨h1, h⟩ := h
    have hsub := sub_enumerate
    have q1 : ∀ {A' : Around} {E : Value → Shared → Prop} {Q : Value → Shared → Prop}, Q (.ref hp.objs.size) ⟨hp.push o, g, d, tk, os⟩ → wpAny (model prog w) A' (pyIter v) Q E ⟨hp, g, d, tk, os⟩ :=
      fun q => B.iter prog w _ _ ⟨hp, g, d, tk, os⟩ _ h1 q
    wp_walk using q1
    refine wpAny_stack_any fun st => wpAny_pure ?_
    split
    · rename_i c _ _ _ _ _
      cases (c == Value.type "enumerate")
      · wp_walk using q1
        exact ⟨_, rfl, h⟩
      · wp_walk using q1
        exact ⟨_, rfl, h⟩
    · wp_walk using q1
      exact ⟨_, rfl, h⟩
theorem enum_tup {t : Addr} {items : Array Value} {Q : Value → Shared → Prop} (h1 : s.heap.IsTuple t items)
    (h : ∀ h', IsEnum h' (s.heap.objs.size + 1) s.heap.objs.size 0 .none → h'.IsTupleIter s.heap.objs.size t 0 → h'.objs.size = s.heap.objs.size + 2 →
      (∀ b o, s.heap.get? b = some o → h'.get? b = some o) → Q (.ref (s.heap.objs.size + 1)) { s with heap := h' }) :
    wpAny (model prog w) A (call (.type "enumerate") [.ref t]) Q E s := by
  have B := begins_tuple t items
  refine callType_new F.called_enumerate (by decide) (F.typeCall_enumerate_1 _) (F.newCall_enumerate_1 _) (fun obj => F.args_object_init_2 obj _) F.entry_enumerate_new (enum_new1 B) ⟨h1, ?_⟩
  have hz : (s.heap.push ({ cls := .type "tuple_iterator", data := .fields #[.ref t, .int 0 0] } : Obj)).objs.size = s.heap.objs.size + 1 := Heap.size_push ..
  show _ ∧ _
  rw [hz]
  have he : IsEnum ((s.heap.push ({ cls := .type "tuple_iterator", data := .fields #[.ref t, .int 0 0] } : Obj)).push
      { cls := .type "enumerate", data := .fields #[.none, .bool false, .ref s.heap.objs.size, rawInt 0, .none, .none] }) (s.heap.objs.size + 1) s.heap.objs.size 0 .none := by
    have := Heap.get?_push_size (s.heap.push ({ cls := .type "tuple_iterator", data := .fields #[.ref t, .int 0 0] } : Obj)) (o := { cls := .type "enumerate", data := .fields #[.none, .bool false, .ref s.heap.objs.size, rawInt 0, .none, .none] }) rfl
    rw [hz] at this; exact this
  exact ⟨⟨_, he, rfl⟩, h _ he ⟨_, Heap.get?_push_of_some _ (Heap.get?_push_size _ rfl), rfl, rfl⟩ (by rw [Heap.size_push, hz]) fun b o x => Heap.get?_push_of_some _ (Heap.get?_push_of_some _ x)⟩
theorem enum_end_tup {e it t : Addr} {i : Nat} {k : Int} {items : Array Value} {old : Value} {Q : Option Value → Shared → Prop} (hh : A.handled = none) (he : IsEnum s.heap e it k old) (hit : s.heap.IsTupleIter it t i) (ht : s.heap.IsTuple t items) (hx : items[i]? = none)
    (hQ : ∀ h', Heap.ExtBut it s.heap h' → Q none { s with heap := h' }) : wpAny (model prog w) A (pyNext (.ref e)) Q E s := by
  have hT : s.TypeIs (.ref e) "enumerate" := ⟨_, he, rfl⟩
  unfold pyNext
  refine wpAny_bind (wpAny_attempt (wpAny_callSpecial?_slot (name := Str.ofString "__next__") hT F.slot_enumerate_next (wpAny_call_entry F.slot_enumerate_next hT F.entry_enumerate_next ?_ (F.args_enumerate_next_1 _))))
  show wpAny _ _ (field (.ref e) 2 >>= _) _ _ _
  refine wpAny_bind (wpAny_field he rfl (x := .ref it) rfl (wpAny_bind (wpAny_nextOf_tuple_end hh hit ht hx fun h' x he' hx' => ?_)))
  obtain ⟨o, ho, hc⟩ := hx'
  exact wpAny_bind (wpAny_isInstance (T := "StopIteration") (b := true) ⟨o, ho, hc⟩ isSubtype_stop (wpAny_pure (hQ _ he')))
end
/-- the tuple at a, each item in a new pair -/
def IteT (K : PySem.W.Frag) (a : Addr) : It :=
  ⟨fun i H => ∃ (xs : List V) (x : V), SqT K H a xs ∧ xs[i]? = some x, fun i H v H' => ∃ T x, v = .ref T ∧ H T = none ∧ H' = upd H T (.tup [.int (i : Nat), x]) ∧ ∀ xs, SqT K H a xs → xs[i]? = some x, fun i H => ∃ xs : List V, SqT K H a xs ∧ xs.length ≤ i⟩
theorem turn_enumT {P : Program} {w : World} {K : PySem.W.Frag} {elts : List Expr} {kk : Nat} {tpos : Pos} (a e it : Addr) :
    L2.Turn P w K (.Tuple elts kk tpos) (IteT K a) [e, it] e (fun i h => (∃ old, IsEnum h e it ((i : Nat) : Int) old) ∧ h.IsTupleIter it a i ∧ e ≠ it ∧ a ≠ it ∧ a ≠ e) where
  mem := by simp
  obj := fun i h st b hb => by
    obtain ⟨⟨old, he⟩, ⟨o, ho, hc, hd⟩, _⟩ := st
    have e' : b = e ∨ b = it := by simpa using hb
    rcases e' with z | z
    · rw [z]; exact ⟨_, he, fun v q => nomatch q⟩
    · rw [z]; exact ⟨o, ho, fun v q => by rw [hd] at q; cases q⟩
  keep := fun i h h' st k => let ⟨⟨old, he⟩, hi, hne⟩ := st; ⟨⟨old, k e (by simp) _ he⟩, hi.at fun o q => k it (by simp) o q, hne⟩
  item := by
    intro X hP hw hK hc i pins s σ H E I hf st hg
    subst hP hw hK
    obtain ⟨⟨old, he⟩, hit, hne, hai, hae⟩ := st
    obtain ⟨xs, x, hq, hx⟩ := hg
    obtain ⟨its, rv, p, hz⟩ := I.tuple hq
    obtain ⟨u, hu, ru⟩ := rv.get hx
    have hel : e < s.heap.objs.size := Heap.lt_size he
    have hil : it < s.heap.objs.size := by obtain ⟨_, q, _⟩ := hit; exact Heap.lt_size q
    have hi : i < its.toArray.size := by
      have := (List.getElem?_eq_some_iff.mp hu).1
      simpa using this
    have D := Draws.tuple (prog := X.prog) (w := X.w) (A := X.A.in1) (I.ok.hd hc) it a hai its.toArray
    refine wpAny_pyNext_enum_itemD D he ⟨hit, p⟩ hi hne (by simp [hne, Ne.symm hae]) fun x' h' tk hP ho hst' hT hsz hk => ?_
    have ex : x' = u := by
      have q1 : its.toArray[i]? = some u := by simpa using hu
      exact Option.some.inj (hP.symm.trans q1)
    subst ex
    refine ⟨_, rfl, wpAny_letOwnedTupleGo_enum (s := { s with heap := h', toks := tk + 1 }) ho fun h'' he' sb => ?_⟩
    have hT2 : h''.get? s.heap.objs.size = some { cls := .type "tuple", data := .seq #[.int i tk, x'] } := (sb.2 _ (Nat.ne_of_gt hel)).trans hT
    have new : ObjOk X.prog X.w (upd H s.heap.objs.size (.tup [.int (i : Nat), x])) h'' s.heap.objs.size (.tup [.int (i : Nat), x]) :=
      ⟨by show 2 ≤ sizeLine; decide, [.int i tk, x'], .cons ⟨_, rfl⟩ (.cons ru .nil), ⟨_, hT2, rfl, _, rfl⟩⟩
    have I1 : Inv X pins σ (upd H s.heap.objs.size (.tup [.int (i : Nat), x])) { s with heap := h'', toks := tk + 1 } :=
      I.turnedNew (ch := [e, it]) (fun b ob hb q => (sb.2 b (fun z => hb (by simp [z]))).trans (hk b ob (fun z => hb (by simp [z])) (fun z => hb (by simp [z])) q)) hf (Nat.le_refl _) new
    refine ⟨.ref s.heap.objs.size, _, I1, rfl, ⟨_, x, rfl, I.hok.fresh (Nat.le_refl _), rfl, fun ys hy => by rw [I.tuple_inj hy hq]; exact hx⟩, ⟨⟨x', ?_⟩, hst'.1.at fun o q => (sb.2 it (Ne.symm hne)).trans q, hne, hai, hae⟩, fun b hb => ?_⟩
    · have e1 : ((i + 1 : Nat) : Int) = (i : Int) + 1 := by omega
      rw [e1]; exact he'
    · have hb' : b < s.heap.objs.size := by
        have e' : b = e ∨ b = it := by simpa using hb
        rcases e' with z | z
        · rw [z]; exact hel
        · rw [z]; exact hil
      rw [upd_ne (Nat.ne_of_lt hb')]
      exact (hf b hb).1
  done := by
    intro X hP hw hK hc i pins s σ H E I hf st hg
    subst hP hw hK
    obtain ⟨⟨old, he⟩, hit, hne, hai, hae⟩ := st
    obtain ⟨xs, hq, hx⟩ := hg
    obtain ⟨its, rv, p, hz⟩ := I.tuple hq
    obtain ⟨f0, f1, f2, f3, f4, f5⟩ := hf it (by simp)
    have hl := rv.length
    exact enum_end_tup (I.ok.hd hc) he hit p (by simp; omega) fun h' eb => ⟨rfl, I.turned (t' := s.toks) (fun b o hb q => eb b o hb q) f0 f1 f3 f4 f5⟩
  self := fun A i s Q E st h => let ⟨⟨_, he⟩, _⟩ := st; wpAny_pyIter_enum he h
def iEnumT (K : PySem.W.Frag) (ta : TA) : TI := fun σ H R => ta σ H fun vs H1 => ∃ a xs, vs = [.ref a] ∧ SqT K H1 a xs ∧ R (IteT K a) H1
theorem pi_enumT {X : Cx} {e : Expr} {ta : TA} {p pos tpos : Pos} {elts : List Expr} {kk : Nat} (hg : Gl X "enumerate") (hm : X.mg "enumerate" = none) (ha : PA X [e] ta) (hs : starEach [e] X.env = [(false, eval e X.env)] := by rfl) :
    PI X (.Tuple elts kk tpos) (.Call (.Name "enumerate" p) [e] [] pos) (iEnumT X.K ta) := by
  refine ⟨fun pins s σ H R I h => ?_⟩
  refine Call_ (ld_blt I hg hm boot_enumerate (PyProof.Rows.callWith_type1 (thn (ha.run pos pins s σ H _ I h) fun us s1 ⟨vs, H1, I1, r1, q1⟩ => ?_) hs rfl))
  obtain ⟨a, xs, ex, hq, q⟩ := q1
  subst ex
  cases r1 with
  | cons r rr =>
    cases rr
    cases r
    obtain ⟨its, rv, p', hz⟩ := I1.tuple hq
    have hla : a < s1.heap.objs.size := by obtain ⟨_, z, _⟩ := p'; exact Heap.lt_size z
    refine enum_tup p' fun h' he hit hsz hk => wpAny_pyIter_enum he ?_
    have I2 : Inv X pins σ H1 { s1 with heap := h' } := I1.kept (t' := s1.toks) hk
    refine ⟨s1.heap.objs.size + 1, [s1.heap.objs.size + 1, s1.heap.objs.size], _, _, H1, rfl, I2, turn_enumT a (s1.heap.objs.size + 1) s1.heap.objs.size, ⟨⟨.none, he⟩, hit, Nat.succ_ne_self _, Nat.ne_of_lt hla, Nat.ne_of_lt (Nat.lt_succ_of_lt hla)⟩, fun b hb => ?_, q⟩
    have e' : b = s1.heap.objs.size + 1 ∨ b = s1.heap.objs.size := by simpa using hb
    have hle : s1.heap.objs.size ≤ b := by
      rcases e' with z | z
      · rw [z]; exact Nat.le_add_right _ _
      · rw [z]; exact Nat.le_refl _
    exact I1.fpOk hle (I1.hok.fresh hle)
/-- the loop's reading -/
theorem for_enumT {K : PySem.W.Frag} {a : Addr} {xs : List V} {g : TG} {tb : TS} {D : Ends} {σ : L2.St} {H : Hp} (Pv : Nat → L2.St → Hp → Prop) (h0 : Pv 0 σ H) (hl : ∀ i σ H, i ≤ xs.length → Pv i σ H → SqT K H a xs)
    (hs : ∀ i x T σ H, xs[i]? = some x → H T = none → Pv i σ H → g (.ref T) σ (upd H T (.tup [.int (i : Nat), x])) fun σ2 H2 => tb { D with nx := Pv (i + 1), ct := Pv (i + 1), bk := D.nx } σ2 H2) (hd : ∀ σ H, Pv xs.length σ H → D.nx σ H) :
    ∃ W : Nat → Nat → L2.St → Hp → Prop, (∃ m, W 0 m σ H) ∧ ∀ i m σ H, W i m σ H →
      ((IteT K a).stop i H ∧ D.nx σ H) ∨ ((IteT K a).go i H ∧ ∃ N : L2.St → Hp → Prop, (∀ σ' H', N σ' H' → ∃ m', m' < m ∧ W (i + 1) m' σ' H') ∧ ∀ x H', (IteT K a).yld i H x H' → g x σ H' fun σ2 H2 => tb { D with nx := N, ct := N, bk := D.nx } σ2 H2) := by
  refine ⟨fun i m σ H => m = xs.length - i ∧ i ≤ xs.length ∧ Pv i σ H, ⟨xs.length, by simp, Nat.zero_le _, h0⟩, ?_⟩
  rintro i m σ H ⟨rfl, hi, p⟩
  have q := hl i σ H hi p
  by_cases hlt : i < xs.length
  · refine .inr ⟨⟨xs, xs[i], q, by simp [hlt]⟩, Pv (i + 1), fun σ' H' p' => ⟨xs.length - (i + 1), by omega, rfl, hlt, p'⟩, fun v H' y => ?_⟩
    obtain ⟨T, x, rfl, nT, rfl, y⟩ := y
    exact hs i x T σ H (y xs q) nT p
  · have e : i = xs.length := by omega
    subst e
    exact .inl ⟨⟨xs, q, Nat.le_refl _⟩, hd σ H p⟩
/-- .. of a list -/
theorem for_enumL {K : PySem.W.Frag} {a : Addr} {xs : List V} {g : TG} {tb : TS} {D : Ends} {σ : L2.St} {H : Hp} (Pv : Nat → L2.St → Hp → Prop) (h0 : Pv 0 σ H) (hl : ∀ i σ H, i ≤ xs.length → Pv i σ H → SqL K H a xs)
    (hs : ∀ i x T σ H, xs[i]? = some x → H T = none → Pv i σ H → g (.ref T) σ (upd H T (.tup [.int (i : Nat), x])) fun σ2 H2 => tb { D with nx := Pv (i + 1), ct := Pv (i + 1), bk := D.nx } σ2 H2) (hd : ∀ σ H, Pv xs.length σ H → D.nx σ H) :
    ∃ W : Nat → Nat → L2.St → Hp → Prop, (∃ m, W 0 m σ H) ∧ ∀ i m σ H, W i m σ H →
      ((Ite K a).stop i H ∧ D.nx σ H) ∨ ((Ite K a).go i H ∧ ∃ N : L2.St → Hp → Prop, (∀ σ' H', N σ' H' → ∃ m', m' < m ∧ W (i + 1) m' σ' H') ∧ ∀ x H', (Ite K a).yld i H x H' → g x σ H' fun σ2 H2 => tb { D with nx := N, ct := N, bk := D.nx } σ2 H2) := by
  refine ⟨fun i m σ H => m = xs.length - i ∧ i ≤ xs.length ∧ Pv i σ H, ⟨xs.length, by simp, Nat.zero_le _, h0⟩, ?_⟩
  rintro i m σ H ⟨rfl, hi, p⟩
  have q := hl i σ H hi p
  by_cases hlt : i < xs.length
  · refine .inr ⟨⟨xs, xs[i], q, by simp [hlt]⟩, Pv (i + 1), fun σ' H' p' => ⟨xs.length - (i + 1), by omega, rfl, hlt, p'⟩, fun v H' y => ?_⟩
    obtain ⟨T, x, rfl, nT, rfl, y⟩ := y
    exact hs i x T σ H (y xs q) nT p
  · have e : i = xs.length := by omega
    subst e
    exact .inl ⟨⟨xs, q, Nat.le_refl _⟩, hd σ H p⟩

/-! ### t.index(n) -/
def rTix (K : PySem.W.Frag) : V → List V → Hp → VK → Prop := fun x xs H Q => ∃ (p : Addr) (ns : List Int) (z : Int) (j : Nat), x = .ref p ∧ xs = [.int z] ∧ SqT K H p (ns.map V.int) ∧ ns[j]? = some z ∧ (∀ m, m < j → ns[m]? ≠ some z) ∧ Q (.int (j : Nat)) H
theorem mt_tupIndexI {X : Cx} : MtR X "tuple.index" (rTix X.K) := by
  intro pins s σ H x xs v us Q I rx rs h
  obtain ⟨p, ys, z, j, rfl, rfl, hq, hy, hno, q⟩ := h
  cases rx
  obtain ⟨u, rfl, t, rfl⟩ := vals1 rs
  obtain ⟨its, r, pl, hz⟩ := I.tuple hq
  obtain ⟨⟨cls, dd, dt, sl⟩, ho, hc, n, hd⟩ := pl
  simp only at hc hd
  subst hc
  subst hd
  have hl : its.toArray.size = ys.length := by rw [List.size_toArray, ← r.length, List.length_map]
  have hj : j < its.toArray.size := by rw [hl]; exact (List.getElem?_eq_some_iff.mp hy).1
  have at' : ∀ (m : Nat) (hm : m < its.toArray.size), ∃ y t', ys[m]? = some y ∧ its.toArray[m] = Value.int y t' := fun m hm => by
    have hm' : m < ys.length := by rw [← hl]; exact hm
    obtain ⟨w, hw, t', hw'⟩ := r.get (i := m) (x := .int ys[m]) (by simp [hm'])
    refine ⟨ys[m], t', List.getElem?_eq_getElem hm', ?_⟩
    have e := (List.getElem?_eq_some_iff.mp hw).2
    rw [← hw', ← e]
    simp
  have fl : (ys.map V.int).all flatV = true := by
    rw [List.all_map]
    exact List.all_eq_true.mpr fun _ _ => rfl
  refine call_meets PySem.F.slot_tuple_index ⟨_, ho, rfl⟩ PySem.F.entry_tuple_index (PySem.F.args_tuple_index_2 _ _) (TI.tuple_indexAt p its.toArray n dd sl (.int z t) (eqU (.int z)) j hj ?_ ?_)
    ⟨ho, fun w hw => mem_eqAt (x := .int z) ⟨t, rfl⟩ rfl r fl w (by simpa using hw), ⟨.int (j : Nat), H, I.tok _, ⟨_, rfl⟩, q⟩⟩
  · obtain ⟨y, t', h1, h2⟩ := at' j hj
    rw [hy] at h1
    cases h1
    rw [h2]
    show (z == z) = true
    exact beq_self_eq_true z
  · intro m hm hmj
    obtain ⟨y, t', h1, h2⟩ := at' m hm
    rw [h2]
    show (y == z) = false
    exact beq_eq_false_iff_ne.mpr fun e => hno m hmj (e ▸ h1)
theorem mt_tupIndexIK {X : Cx} (K : PySem.W.Frag) (h : X.K = K := by rfl) : MtR X "tuple.index" (rTix K) := by subst h; exact mt_tupIndexI
end Kin

set_option Elab.async false
set_option linter.all false
set_option maxRecDepth 100000
set_option maxHeartbeats 4000000
/-! B6: tuples that are known to have no dict: their methods -/
namespace Kin
open PySem PySem.Spec PyProof.Rows L2
def Tp (H : Hp) (p : Addr) (xs : List V) : Prop := ∃ o : Obj, H p = some (.frz o (.tup xs)) ∧ o.dict = none
theorem Tp.sq {K : PySem.W.Frag} {H : Hp} {p : Addr} {xs : List V} (h : Tp H p xs) : SqT K H p xs := by
  obtain ⟨o, e, _⟩ := h
  exact .inl (.inr ⟨o, e⟩)
theorem Tp.same {H H' : Hp} {p : Addr} {xs : List V} (s : Same H H') (h : Tp H p xs) : Tp H' p xs := by
  obtain ⟨o, e, d⟩ := h
  exact ⟨o, s _ _ e, d⟩
theorem Tp.new {H : Hp} {p r : Addr} {xs : List V} {u : HO} (n : H r = none) (h : Tp H p xs) : Tp (upd H r u) p xs := by
  obtain ⟨o, e, d⟩ := h
  exact ⟨o, upd_new n e, d⟩
theorem Tp.old {H : Hp} {p r : Addr} {xs : List V} {u : HO} (n : p ≠ r) (h : Tp H p xs) : Tp (upd H r u) p xs := by
  obtain ⟨o, e, d⟩ := h
  exact ⟨o, upd_old n e, d⟩
theorem Tp.ne {H : Hp} {p r : Addr} {xs : List V} (h : Tp H p xs) (n : H r = none) : p ≠ r := by
  obtain ⟨o, e, d⟩ := h
  exact ne_of_none e n
theorem Tp.ne_of {H : Hp} {p r : Addr} {xs : List V} {u : HO} (h : Tp H p xs) (n : H r = some u) (hu : ∀ o v, u ≠ .frz o v) : p ≠ r := by
  obtain ⟨o, e, d⟩ := h
  rintro rfl
  rw [e] at n
  exact hu _ _ (Option.some.inj n).symm
section
variable {X : Cx}
/-- tuple(l), l a list -/
def rTupF (K : PySem.W.Frag) : List V → Hp → VK → Prop := fun xs H Q => ∃ p ys, xs = [.ref p] ∧ SqL K H p ys ∧ ∀ l H', H l = none → Same H H' → Tp H' l ys → Q (.ref l) H'
theorem call_tupF : CallR X (.type "tuple") (rTupF X.K) := by
  intro pins s σ H xs us Q I r h
  obtain ⟨p, ys, rfl, hq, q⟩ := h
  obtain ⟨u, rfl, rx⟩ := vals1 r
  cases rx
  obtain ⟨its, r', pl, hz⟩ := I.list hq
  have hlen := r'.length
  refine call_tuple_list pl.isList (fun h' kp => ?_) (by simp only [List.size_toArray] <;> omega)
  have I1 : Inv X pins σ H { s with heap := h' } := I.kept (t' := s.toks) kp
  have I2 : Inv X pins σ (upd H h'.objs.size (.frz { cls := .type "tuple", data := .seq its.toArray } (.tup ys))) { s with heap := h'.push { cls := .type "tuple", data := .seq its.toArray } } :=
    I1.laid (t' := s.toks) (fun b o e => Heap.get?_push_of_some _ e) (Nat.le_refl _) (show ObjOk X.prog X.w _ _ _ (.frz _ (.tup ys)) from ⟨Heap.get?_push_size _ rfl, hz, its, r', IsTup.new _ _⟩)
  have nf : H h'.objs.size = none := I1.hok.fresh (Nat.le_refl _)
  exact ⟨.ref h'.objs.size, _, I2, rfl, q _ _ nf (same_new (Same.refl H) nf) ⟨_, upd_same, rfl⟩⟩
theorem call_tupFK (K : PySem.W.Frag) (h : X.K = K := by rfl) : CallR X (.type "tuple") (rTupF K) := by subst h; exact call_tupF
/-- t.m(e, ..) -/
def tTM (r : V → List V → Hp → VK → Prop) (to : TE) (t : TA) : TE := fun σ H Q => to σ H fun x H1 => (∃ p xs, x = .ref p ∧ Tp H1 p xs) ∧ t σ H1 fun xs H2 => r x xs H2 Q
variable {o e : Expr} {es : List Expr} {to : TE} {t : TA} {name : Str} {apos cpos : Pos} {id : String} {r : V → List V → Hp → VK → Prop}
theorem pe_tm (pa : PlainAttrs "tuple") (slot : Slot "tuple" name id) (hty : typeOf (.builtin id) = pure (.type "method_descriptor")) (hm : MtR X id r) (ho : PE X o to) (ha : PA X (e :: es) t)
    (hbase : attributeBase o name X.env (eval o X.env) = eval o X.env := by rfl)
    (hfew : ((backTo cpos (starEach (e :: es) X.env)).all (fun x => !x.1) && (backToKw cpos (keywordEach [] X.env)).all (fun x => x.1.isSome)
      && decide ((e :: es).length + ([] : List Keyword).length + (if ([] : List Keyword).isEmpty then 0 else 1) < 30)) = true := by rfl)
    (hline : (apos.endLine == cpos.line) = true := by rfl) (hs : starEach (e :: es) X.env = (false, eval e X.env) :: starEach es X.env := by rfl) (hplain : (backTo cpos (starEach es X.env)).any (·.1) = false := by rfl) :
    PE X (.Call (.Attribute o name apos) (e :: es) [] cpos) (tTM r to t) := by
  refine ⟨fun pins s σ H Q I h => ?_⟩
  refine wpAny_Call_method_late hbase hfew hline rfl (thn (ho.run pins s σ H _ I h) fun v s1 ⟨x, H1, I1, r1, ⟨p, xs, ex, ob, eb, hdb⟩, q1⟩ => ?_)
  subst ex
  obtain rfl : v = Value.ref p := r1
  have hx : ObjOk X.prog X.w H1 s1.heap p (.frz ob (.tup xs)) := I1.hok p _ eb
  obtain ⟨hget, _, its, rv, oo, hoo, hcls, _⟩ := hx
  have eo : oo = ob := Option.some.inj (hoo.symm.trans hget)
  subst eo
  refine ⟨"tuple", id, pa, slot, hty, ⟨oo, hget, hcls⟩, fun a ea => ?_, ?_⟩
  · cases ea
    exact ⟨oo, hget, hdb⟩
  have hA := ha.run cpos pins s1 σ H1 _ I1 q1
  rw [hs] at hA ⊢
  refine Calls.callWith_builtin (by show (false || (backTo cpos (starEach es X.env)).any (·.1)) = false; rw [hplain] <;> rfl) (Calls.evalArgs_plain ?_)
  exact thn hA fun us s2 ⟨vs, H2, I2, r2, q2⟩ => hm pins s2 σ H2 (.ref p) vs (.ref p) us Q I2 rfl r2 q2
end
end Kin

set_option Elab.async false
set_option linter.all false
set_option maxRecDepth 100000
set_option maxHeartbeats 4000000
/-! B7: an error with a field more; classes that are made -/
namespace Kin
open PySem PySem.Spec PyProof.Rows L2
/-- __init__(self, x): the base's with a word, then one field more -/
def spIniF (K : PySem.W.Frag) (fl z : Str) : Sp := fun vs H Q _ => ∃ (a C : Addr) (v : V), vs = [.ref a, v] ∧ KinC K C ∧ PySem.W.findIn K (.ref C) fl = some none ∧ H a = some (exo a C none) ∧
  ∀ dx, H dx = none → dx ≠ a → Q .non (upd (upd (upd H dx (exd dx [("word", .str z)])) a (exo a C (some dx))) dx (exd dx [(fl, v), ("word", .str z)]))
def RsbF (P : Program) (w : World) (K : PySem.W.Frag) (mg : Str → Option Value) (base : Heap) (k : Nat) (x : Str) (C : Addr) (p fl z : Str) : Prop :=
  mg x = some (.ref C) ∧ KinC K C ∧ PySem.W.findIn K (.ref C) fl = some none ∧ ∃ (fI : Addr) (fd : FuncData), PySem.W.findIn K (.ref C) "__init__" = some (some (.ref fI)) ∧ PySem.W.typeIn K (.ref fI) = some (.type "function") ∧ Binds K fd ["self", p] [] ∧ FnOk P w K mg base CX0 k fI fd ["self", p] (spIniF K fl z)
section
variable {X : Cx} {p pos pos2 : Pos} {e : Expr} {ta : TA}
theorem upd_gone2 {H : Hp} {a dx : Addr} {o0 o1 o2 o3 o4 : HO} (na : H a = none) (nd : dx ≠ a) : upd (del (upd (upd (upd (upd H a o0) dx o1) a o2) dx o3) a) dx o4 = upd H dx o4 := by
  funext b
  by_cases hb : b = dx
  · rw [hb, upd_same, upd_same]
  · rw [upd_ne hb, upd_ne hb]
    by_cases ha : b = a
    · rw [ha, del_same, na]
    · rw [del_ne ha, upd_ne hb, upd_ne ha, upd_ne hb, upd_ne ha]
theorem ps_rsbF {k j : Nat} {x : Str} {C : Addr} {pn fl z : Str} {W : WX} (R : RsbF X.prog X.w X.K X.mg X.base k x C pn fl z) (hr : Room j X.A) (hj : k + 1 ≤ j) (hc : X.calm = true) (tk : Takes X W) (hg : Gl X x) (ha : PA X [e] ta) (K : PySem.W.Frag) (hK : X.K = K := by rfl) (hdb : (x == ("__debug__" : Str)) = false := by decide)
    (he : starEach [e] X.env = (false, eval e X.env) :: starEach [] X.env := by rfl) (hpl : (backTo pos (starEach [] X.env)).any (·.1) = false := by rfl) :
    PS X (.Raise (some (.Call (.Name x p) [e] [] pos)) none pos2) (fun _ σ H => tMkO C (spIniF K fl z) [] ta σ H fun cls d H' => W cls d σ H') := by
  subst hK
  obtain ⟨hm, T, hfl, fI, fd, iC, tI, hb, F⟩ := R
  exact ps_raise (pos := pos2) hc tk (pmk_oex (p := p) (pos := pos) T.ox iC tI F (hr.mono hj) hb .nil pass0 hg hm ha hdb he hpl)
/-- what that reading asks, once its argument is known -/
theorem mkF {K : PySem.W.Frag} {C : Addr} {fl z : Str} {H : Hp} {v : V} {Q : XK} (T : KinC K C) (hfl : PySem.W.findIn K (.ref C) fl = some none) (h : ∀ d, H d = none → Q (.ref C) (some d) (upd H d (.xd [(fl, v), ("word", .str z)]))) :
    [v].length ≤ 1000 ∧ ∀ a, H a = none → spIniF K fl z (.ref a :: ([v] ++ [])) (upd H a (exo a C none)) (fun u H2 => u = .non ∧ ∃ (d : Addr) (fs : List (Str × V)), H2 a = some (exo a C (some d)) ∧ H2 d = some (exd d fs) ∧ H d = none ∧ Q (.ref C) (some d) (upd (del H2 a) d (.xd fs))) (fun _ _ _ => False) := by
  refine ⟨by show 1 ≤ 1000; decide, fun a na => ⟨a, C, v, rfl, T, hfl, upd_same, fun dx nd ne => ?_⟩⟩
  have nd2 : H dx = none := by
    rw [upd_ne ne] at nd
    exact nd
  refine ⟨rfl, dx, [(fl, v), ("word", .str z)], ?_, upd_same, nd2, ?_⟩
  · rw [upd_ne ne.symm, upd_same]
  · rw [upd_gone2 na ne]
    exact h dx nd2
end
/-! ### an instance's fields are stored: the rest stands -/
theorem sqT_ins {K : PySem.W.Frag} {H : Hp} {x y C dx : Addr} {fs : List (Str × V)} {xs : List V} {o : HO} (hx : H x = some (.ins C dx fs)) (h : SqT K H y xs) : SqT K (upd H x o) y xs := by
  rcases h with (h | ⟨q, h⟩) | h
  · exact .inl (.inl (upd_old (ne_of h hx (by intro z; cases z)) h))
  · exact .inl (.inr ⟨q, upd_old (ne_of h hx (by intro z; cases z)) h⟩)
  · exact .inr h
theorem sqL_ins {K : PySem.W.Frag} {H : Hp} {x y C dx : Addr} {fs : List (Str × V)} {xs : List V} {o : HO} (hx : H x = some (.ins C dx fs)) (h : SqL K H y xs) : SqL K (upd H x o) y xs := by
  rcases h with (h | ⟨q, h⟩) | h
  · exact .inl (.inl (upd_old (ne_of h hx (by intro z; cases z)) h))
  · exact .inl (.inr ⟨q, upd_old (ne_of h hx (by intro z; cases z)) h⟩)
  · exact .inr h
def landF (n : Int) (a b c : Addr) : List (Str × V) := [("size", .int n), ("mother", .ref a), ("father", .ref b), ("wife", .ref c)]
theorem landF_put (n : Int) (a b c : Addr) : putF "wife" (.ref c) (putF "father" (.ref b) (putF "mother" (.ref a) (putF "size" (.int n) []))) = landF n a b c := by rfl
theorem landF_size (n : Int) (a b c : Addr) : (landF n a b c).lookup ("size" : Str) = some (.int n) := by rfl
theorem landF_mother (n : Int) (a b c : Addr) : (landF n a b c).lookup ("mother" : Str) = some (.ref a) := by rfl
theorem landF_father (n : Int) (a b c : Addr) : (landF n a b c).lookup ("father" : Str) = some (.ref b) := by rfl
theorem landF_wife (n : Int) (a b c : Addr) : (landF n a b c).lookup ("wife" : Str) = some (.ref c) := by rfl
theorem landF_step (n : Int) (a b c : Addr) : (landF n a b c).lookup ("step" : Str) = none := by rfl

/-! ### a class that is made by its name -/
def Mak (P : Program) (w : World) (K : PySem.W.Frag) (mg : Str → Option Value) (base : Heap) (CX : CXT) (k : Nat) (x : Str) (C : Addr) (ps : List Str) (sp : Sp) : Prop :=
  mg x = some (.ref C) ∧ ∃ (f : Addr) (fd : FuncData), Mk K C f ∧ Binds K fd ps [] ∧ FnOk P w K mg base CX k f fd ps sp
theorem pe_mk {X : Cx} {CX : CXT} {k j : Nat} {x : Str} {C : Addr} {ps : List Str} {sp : Sp} {E : XK} {p pos : Pos} {e : Expr} {es : List Expr} {t : TA} (M : Mak X.prog X.w X.K X.mg X.base CX k x C ps sp) (hr : Room j X.A) (hj : k + 1 ≤ j) (hg : Gl X x) (hx : Passes CX X E) (ha : PA X (e :: es) t)
    (hdb : (x == ("__debug__" : Str)) = false := by decide) (he : starEach (e :: es) X.env = (false, eval e X.env) :: starEach es X.env := by rfl) (hpl : (backTo pos (starEach es X.env)).any (·.1) = false := by rfl) :
    PE X (.Call (.Name x p) (e :: es) [] pos) (tMake C sp [] E t) := by
  obtain ⟨hm, f, fd, M, hb, F⟩ := M
  exact pe_make M F (hr.mono hj) hg hm hb .nil hx ha hdb he hpl
/-- .. by what the written part says: the class x at C, its def m (qual q) st -/
def ClsIn (K : PySem.W.Frag) (x : Str) (C : Addr) : Prop := PySem.W.nsIn K mainGlobals x = some (some (.ref C)) ∧ Cls K C ∧ PySem.W.makesIn K C = true ∧ PySem.W.keepIn K (.ref C) = true
theorem clsIn_mk {K : PySem.W.Frag} {x : Str} {C : Addr} (a : PySem.W.nsIn K mainGlobals x = some (some (.ref C))) (pg : PySem.W.plainGet K C Str.empty = true) (hd : PySem.W.hasDictIn K C = true) (po : PySem.W.plainOver K C = true)
    (sa : PySem.W.findIn K (.ref C) "__setattr__" = some (some (.builtin "object.__setattr__"))) (mk : PySem.W.makesIn K C = true) (kc : PySem.W.keepIn K (.ref C) = true) : ClsIn K x C := ⟨a, ⟨pg, hd, po, sa⟩, mk, kc⟩
def MetIn (K : PySem.W.Frag) (C : Addr) (m q : Str) (st : Stmt) : Prop := ∃ (f : Addr) (oc : Value) (od : Option Addr) (kV doc pm : Value) (an : Option Addr) (cdv ct : Value) (osl : Array (Option Value)),
  PySem.W.findIn K (.ref C) m = some (some (.ref f)) ∧ PySem.W.isFn K (.ref f) = true ∧ K.lookup f = some ⟨oc, od, .func (PySem.W.fnOf m q (defArgs st) (defBody st) (defScope st) .none kV doc pm an cdv ct), osl⟩ ∧ PySem.W.codeIn K cdv q = true ∧ PySem.W.keepIn K (.ref f) = true
theorem metIn_mk {K : PySem.W.Frag} {C : Addr} {m q : Str} {st : Stmt} {f : Addr} {oc : Value} {od : Option Addr} {kV doc pm : Value} {an : Option Addr} {cdv ct : Value} {osl : Array (Option Value)} (a : PySem.W.findIn K (.ref C) m = some (some (.ref f))) (i : PySem.W.isFn K (.ref f) = true)
    (l : K.lookup f = some ⟨oc, od, .func (PySem.W.fnOf m q (defArgs st) (defBody st) (defScope st) .none kV doc pm an cdv ct), osl⟩) (c : PySem.W.codeIn K cdv q = true) (k : PySem.W.keepIn K (.ref f) = true) : MetIn K C m q st := ⟨f, oc, od, kV, doc, pm, an, cdv, ct, osl, a, i, l, c, k⟩
/-- a def of a class -/
structure Dm (K : PySem.W.Frag) (C : Addr) (m q : Str) (st : Stmt) (ps : List Str) (f : Addr) (fd : FuncData) : Prop where
  F : Fun K m q st f fd
  b : Binds K fd ps []
  h : Meth K C m f
theorem dm_of {K : PySem.W.Frag} {C : Addr} {m q : Str} {st : Stmt} {ps : List Str} (d : MetIn K C m q st)
    (hb : ∀ (kV doc pm : Value) (an : Option Addr) (cdv ct : Value) (us : List Value), us.length = ps.length → bindArgs (PySem.W.fnOf m q (defArgs st) (defBody st) (defScope st) .none kV doc pm an cdv ct) ⟨us, []⟩ = pure (ps.zip us)) :
    ∃ f fd, Dm K C m q st ps f fd := by
  obtain ⟨f, oc, od, kV, doc, pm, an, cdv, ct, osl, a, i, l, c, k⟩ := d
  have F := fun_mk (st := st) l c k
  exact ⟨f, _, F, F.binds hb, ⟨a, i, k⟩⟩
theorem mak_of {P : Program} {w : World} {K : PySem.W.Frag} {mg : Str → Option Value} {base : Heap} {h : Heap} (X : K.In h) (G : h.Ns mainGlobals mg) {CX : CXT} {k : Nat} {x q : Str} {C : Addr} {st : Stmt} {ps : List Str} {sp : Sp} {f : Addr} {fd : FuncData} (c : ClsIn K x C) (D : Dm K C "__init__" q st ps f fd) (F : FnOk P w K mg base CX k f fd ps sp) :
    Mak P w K mg base CX k x C ps sp := ⟨PySem.W.mg_of X G c.1, f, fd, ⟨c.2.2.1, D.h.at_, D.h.fn, c.2.2.2⟩, D.b, F⟩
/-- o.m(..) of an instance of the class at C -/
def Met (P : Program) (w : World) (K : PySem.W.Frag) (mg : Str → Option Value) (base : Heap) (CX : CXT) (k : Nat) (C : Addr) (m : Str) (ps : List Str) (sp : Sp) : Prop :=
  Cls K C ∧ ∃ (f : Addr) (fd : FuncData), Meth K C m f ∧ Binds K fd ps [] ∧ FnOk P w K mg base CX k f fd ps sp
theorem Dm.met {P : Program} {w : World} {K : PySem.W.Frag} {mg : Str → Option Value} {base : Heap} {CX : CXT} {k : Nat} {C : Addr} {m q : Str} {st : Stmt} {ps : List Str} {sp : Sp} {f : Addr} {fd : FuncData} (D : Dm K C m q st ps f fd) (c : Cls K C) (F : FnOk P w K mg base CX k f fd ps sp) : Met P w K mg base CX k C m ps sp := ⟨c, f, fd, D.h, D.b, F⟩
section
variable {X : Cx} {CX : CXT} {k j : Nat} {C : Addr} {m : Str} {ps : List Str} {sp : Sp} {E : XK} {pos apos : Pos} {o e : Expr} {es : List Expr} {ta : TE} {t : TA} {pl : Sem Bool}
theorem pe_m (M : Met X.prog X.w X.K X.mg X.base CX k C m ps sp) (hr : Room j X.A) (hj : k ≤ j) (hx : Passes CX X E) (he : PE X o ta) (ha : PA X (e :: es) t)
    (hst : starEach (e :: es) X.env = (false, eval e X.env) :: starEach es X.env := by rfl) (hpl : (backTo pos (starEach es X.env)).any (·.1) = false := by rfl)
    (ht : eval (.Call (.Attribute o m apos) (e :: es) [] pos) X.env = (do
      let ov ← eval o X.env
      standAt apos.atName
      let (f, first) ← holding [ov] (getMethod ov m pl)
      callWith pos f first (backTo pos (starEach (e :: es) X.env)) (backToKw pos (keywordEach [] X.env))) := by rfl) :
    PE X (.Call (.Attribute o m apos) (e :: es) [] pos) (tMeth C m sp [] E ta t) := by
  obtain ⟨c, f, fd, hm, hb, F⟩ := M
  exact pe_meth he c hm F (hr.mono hj) hb .nil hx ha hst hpl ht
theorem pe_m0 (M : Met X.prog X.w X.K X.mg X.base CX k C m ps sp) (hr : Room j X.A) (hj : k ≤ j) (hx : Passes CX X E) (he : PE X o ta)
    (ht : eval (.Call (.Attribute o m apos) [] [] pos) X.env = (do
      let ov ← eval o X.env
      standAt apos.atName
      let (f, first) ← holding [ov] (getMethod ov m pl)
      callWith pos f first (backTo pos (starEach [] X.env)) (backToKw pos (keywordEach [] X.env))) := by rfl) :
    PE X (.Call (.Attribute o m apos) [] [] pos) (tMeth C m sp [] E ta tNil) := by
  obtain ⟨c, f, fd, hm, hb, F⟩ := M
  exact pe_meth0 he c hm F (hr.mono hj) hb .nil hx ht
end
end Kin

set_option Elab.async false
set_option linter.all false
set_option maxRecDepth 100000
set_option maxHeartbeats 4000000
/-! M3: rows that a law draws; cousins -/
namespace Kin
open PySem L2
theorem rgI_succ (n : Nat) : rgI (n + 1) = rgI n ++ [(n : Int)] := by
  unfold rgI
  rw [List.range_succ, List.map_append]
  rfl
def rowOf (c : Int) (n : Nat) : List Int := if (draws c [3, 40320]).getD 0 0 = 2 then (rgI n).map fun z => (z + (draws c [3, 40320]).getD 1 0) % (n : Int) else turnOf ((draws c [3, 40320]).getD 1 0) n
theorem rowOf_len (c : Int) (n : Nat) : (rowOf c n).length = n := by
  unfold rowOf
  split
  · rw [List.length_map, rgI_len]
  · exact turnOf_len _ _
theorem rot_turn (n : Nat) (hn : 0 < n) (d : Int) : Turn ((rgI n).map fun z => (z + d) % (n : Int)) := by
  refine ⟨?_, fun x hx => ?_⟩
  · unfold List.Nodup
    rw [List.pairwise_map]
    refine List.Pairwise.imp_of_mem (R := fun a b => a ≠ b) (fun {x y} hx hy hne e => hne ?_) (rgI_nodup n)
    obtain ⟨x0, x1⟩ := mem_rgI.mp hx
    obtain ⟨y0, y1⟩ := mem_rgI.mp hy
    have h2 := Int.emod_emod_of_dvd (x - y) (Int.dvd_refl (n : Int))
    have h3 : (x - y) % (n : Int) = 0 := by
      have : (x + d - (y + d)) % (n : Int) = 0 := by rw [Int.sub_emod, e, Int.sub_self]; rfl
      rw [show x + d - (y + d) = x - y by omega] at this
      exact this
    obtain ⟨k, hk⟩ := Int.dvd_of_emod_eq_zero h3
    have hk0 : k = 0 := by
      rcases Int.lt_trichotomy k 0 with h | h | h
      · have : (n : Int) * k ≤ (n : Int) * (-1) := Int.mul_le_mul_of_nonneg_left (by omega) (by omega)
        omega
      · exact h
      · have : (n : Int) * 1 ≤ (n : Int) * k := Int.mul_le_mul_of_nonneg_left (by omega) (by omega)
        omega
    rw [hk0, Int.mul_zero] at hk
    omega
  · rw [List.length_map, rgI_len]
    obtain ⟨z, _, rfl⟩ := List.mem_map.mp hx
    exact ⟨Int.emod_nonneg _ (by omega), Int.emod_lt_of_pos _ (by omega)⟩
theorem rowOf_turn (c : Int) {n : Nat} (hn : 0 < n) : Turn (rowOf c n) := by
  unfold rowOf
  split
  · exact rot_turn n hn _
  · exact turnOf_turn _ _
/-- the men whose one woman by ms has fs of her as ws of him -/
def cous (ms fs ws : List Int) (i : Int) : Bool := decide (fs.getD (ixOf ms i) 0 = ws.getD i.toNat 0)
theorem inv_after_at {ms fs : List Int} {i : Nat} (h : i < ms.length) : (after (inv ms) fs)[i]? = some (fs.getD (ixOf ms (i : Int)) 0) := by
  unfold after
  rw [List.getElem?_map, inv_at h]
  rfl
/-- the rows that make a land of two -/
structure Good2 (ms ws : List Int) : Prop where
  tm : Turn ms
  tw : Turn ws
  lw : ws.length = ms.length
  lo : 2 ≤ ms.length
  hi : ms.length ≤ 8
end Kin

set_option Elab.async false
set_option linter.all false
set_option maxRecDepth 100000
set_option maxHeartbeats 4000000
/-! B8: and, or of values, joined -/
namespace Kin
open PySem PySem.Spec PyProof.Rows L2
theorem andK {tb : TE} {σ : L2.St} {H : Hp} {Q : VK} {c1 c2 : Bool} (h : ∀ Q' : VK, Q' (.bl c2) H → tb σ H Q') (q : Q (.bl (c1 && c2)) H) : ∃ c, V.bl c1 = .bl c ∧ if c = true then tb σ H Q else Q (.bl false) H := by
  cases c1
  · exact ⟨_, rfl, iteF q⟩
  · exact ⟨_, rfl, iteT (h Q q)⟩
theorem orK {tb : TE} {σ : L2.St} {H : Hp} {Q : VK} {c1 c2 : Bool} (h : ∀ Q' : VK, Q' (.bl c2) H → tb σ H Q') (q : Q (.bl (c1 || c2)) H) : ∃ c, V.bl c1 = .bl c ∧ if c = true then Q (.bl true) H else tb σ H Q := by
  cases c1
  · exact ⟨_, rfl, iteF (h Q q)⟩
  · exact ⟨_, rfl, iteT q⟩
section
variable {X : Cx}
theorem cr_range1 : CallR X (.type "range") (fun vs H Q => ∃ j, vs = [V.int j] ∧ ∀ p, H p = none → Q (.ref p) (upd H p (.rng 0 j))) := by
  intro pins s σ H vs us Q I r h
  obtain ⟨j, rfl, q⟩ := h
  obtain ⟨u1, rfl, rj⟩ := vals1 r
  obtain ⟨u, rfl⟩ := rj
  refine call_range_1 ⟨.ref s.heap.objs.size, upd H s.heap.objs.size (.rng 0 j), I.laid (t' := s.toks + 2) (fun b o e => Heap.get?_push_of_some _ e) (Nat.le_refl _) ?_, rfl, q _ (I.hok.fresh (Nat.le_refl _))⟩
  exact ⟨_, _, _, Heap.get?_push_size _ rfl⟩
theorem op_notIn_rng : OpR X (compareOp .NotIn) (fun x y H Q => ∃ i a lo hi, x = V.int i ∧ y = V.ref a ∧ H a = some (.rng lo hi) ∧ Q (.bl (!decide (lo ≤ i ∧ i < hi))) H) := by
  intro pins s σ H x y v u Q I rx ry h
  obtain ⟨i, a, lo, hi, rfl, rfl, ha, q⟩ := h
  obtain ⟨k, rfl⟩ := rx
  obtain rfl : u = Value.ref a := ry
  obtain ⟨t1, t2, t3, ho⟩ := I.hok a _ ha
  show wpAny _ _ (do return Value.bool (!(← contains (Value.ref a) (Value.int i k)))) _ _ s
  refine wpAny_bind (wpAny_contains_slot (T := "range") ⟨_, ho, rfl⟩ F.slot_range_contains (call_meets F.slot_range_contains ⟨_, ho, rfl⟩ F.entry_range_contains (F.args_range_contains_2 _ _) (q_contains a lo hi i t1 t2 t3 k)
    ⟨ho, wpAny_truthy_bool (wpAny_pure ⟨.bl _, H, I, rfl, ?_⟩)⟩))
  rw [place1]
  exact q
end
end Kin

set_option Elab.async false
set_option linter.all false
set_option maxRecDepth 100000
set_option maxHeartbeats 4000000
/-! B12: several clauses «except x as n»; a class made within a try -/
namespace Kin
open PySem PySem.Spec PyProof.Rows L2

/-! ### X(e, ..) whose errors are wished for at the caller's slots -/
section
variable {X : Cx} {CX : CXT} {k j : Nat} {x : Str} {C : Addr} {ps : List Str} {sp : Sp} {E : L2.St → XK} {p pos : Pos} {e : Expr} {es : List Expr} {t : TA}
def tMakeS (C : Addr) (sp : Sp) (E : L2.St → XK) (t : TA) : TE := fun σ H Q => t σ H fun vs H1 => ∀ x dx, H1 x = none → H1 dx = none → dx ≠ x → sp (.ref x :: vs) (upd (upd H1 dx (.own x)) x (.ins C dx [])) (fun v H2 => v = .non ∧ Q (.ref x) H2) (E σ)
theorem pe_mkS (M : Mak X.prog X.w X.K X.mg X.base CX k x C ps sp) (hr : Room j X.A) (hj : k + 1 ≤ j) (hg : Gl X x) (hx : ∀ σ, PassesAt CX X σ (E σ)) (ha : PA X (e :: es) t)
    (hdb : (x == ("__debug__" : Str)) = false := by decide) (he : starEach (e :: es) X.env = (false, eval e X.env) :: starEach es X.env := by rfl) (hpl : (backTo pos (starEach es X.env)).any (·.1) = false := by rfl) :
    PE X (.Call (.Name x p) (e :: es) [] pos) (tMakeS C sp E t) := by
  obtain ⟨hm, f, fd, M, hb, F⟩ := M
  refine ⟨fun pins s σ H Q I h => wpAny_Call_Name_kw (ld_glob I hg hm ?_ hdb)⟩
  refine PySem.W.callWith_K (h₀ := X.base) I.ok.mod.kin M.kp (thn (ha.run pos pins s σ H _ I h) fun us s1 ⟨vs, H1, I1, rv, q1⟩ => ⟨I1.kIn, ?_⟩) he hpl
  have q2 := q1 (s1.heap.objs.size + 1) s1.heap.objs.size (I1.hok.fresh (Nat.le_succ _)) (I1.hok.fresh (Nat.le_refl _)) (Nat.ne_of_lt (Nat.lt_succ_self _))
  have I3 := Inv.made (C := C) I1
  have rr : Vals (V.ref (s1.heap.objs.size + 1) :: vs) (Value.ref (s1.heap.objs.size + 1) :: us) := .cons rfl rv
  have hlen : (Value.ref (s1.heap.objs.size + 1) :: us ++ []).length = ps.length := by
    have z := rr.length
    rw [F.len _ _ _ _ q2] at z
    rw [List.append_nil]
    exact z.symm
  have bb := hb _ (Value.ref (s1.heap.objs.size + 1) :: us) I3.kIn hlen
  rw [List.append_nil] at bb
  refine wpAny_call (make_map (f := f) I1.kIn M.makes M.init (beq_iff_eq.mp M.fn) (codeAny_mono (F.run _ X.stack _ _ ⟨Value.ref (s1.heap.objs.size + 1) :: us, []⟩ _ _ _ (E σ) (hr.mono hj |>.make C us []) (I3.env0.make C us []) bb rr q2) fun r s' hq => ?_))
  cases r with
  | error er => exact hx σ pins _ _ er s' I3 hq
  | ok fl =>
    cases fl with
    | ret u =>
      obtain ⟨v, H', I4, ru, ev, q4⟩ := I3.after hq
      subst ev
      exact ⟨ru, V.ref (s1.heap.objs.size + 1), H', I4, rfl, q4⟩
    | next => exact False.elim hq
    | brk => exact False.elim hq
    | cont => exact False.elim hq
end

theorem sqT_updL {K : PySem.W.Frag} {H : Hp} {l y : Addr} {zs xs : List V} {o : HO} (hl : H l = some (.lst zs)) (h : SqT K H y xs) : SqT K (upd H l o) y xs := by
  rcases h with (h | ⟨q, h⟩) | h
  · exact .inl (.inl (upd_old (ne_of h hl (by intro z; cases z)) h))
  · exact .inl (.inr ⟨q, upd_old (ne_of h hl (by intro z; cases z)) h⟩)
  · exact .inr h

/-! ### try: .. except x as n: .. except y as n: .. -/
inductive AsOk (X : Cx) : List ExceptHandler → List (Value × Nat × (Addr → Value → Option Addr → TS)) → Prop
  | nil : AsOk X [] []
  | cons {x n : Str} {c : Value} {i : Nat} {ts : Addr → Value → Option Addr → TS} {s0 : Stmt} {su : List Stmt} {np pq : Pos} {hs : List ExceptHandler} {l : List (Value × Nat × (Addr → Value → Option Addr → TS))} (hi : X.N[i]? = some n) (hk : X.env.kindOf n = some .local) (hc : Names X x c)
      (hsu : ∀ (a : Addr) (oe : Obj) (cls : Value) (d : Option Addr) (pn : List (Addr × Obj)), Zc cls d oe → (∃ vs, oe.data = .fields vs) → PSs (X.suite a ((a, oe) :: pn)) (s0 :: su) (ts a cls d)) (r : AsOk X hs l) :
      AsOk X (.ExceptHandler (some (.Name x np)) (some n) (s0 :: su) pq :: hs) ((c, i, ts) :: l)
def wAses (K : PySem.W.Frag) (Wo : WX) (D : Ends) : List (Value × Nat × (Addr → Value → Option Addr → TS)) → WX
  | [] => Wo
  | (c, i, ts) :: r => wAs K c i ts (wAses K Wo D r) D
theorem ps_try_ases {X : Cx} {body : List Stmt} {h1 : ExceptHandler} {hds : List ExceptHandler} {l : List (Value × Nat × (Addr → Value → Option Addr → TS))} {pos : Pos} {tb : WX → TS} {Wo : WX} (hs : X.stack = X.env :: X.outer) (hf : X.env.frame = some X.env.locals) (hN : X.N.Nodup) (tk : Takes X Wo)
    (hb : ∀ (W : WX) (pn : List (Addr × Obj)) (xe : Value → Shared → Prop), Takes (X.tr pn xe) W → PassesOwn (model X.prog X.w) X.A X.env xe → PSs (X.tr pn xe) body (tb W)) (hh : AsOk X (h1 :: hds) l) :
    PS X (.Try body (h1 :: hds) [] [] pos) (fun D σ H => tb (wAses X.K Wo D l) D σ H) := by
  refine ⟨fun pins s σ H D I h => ?_⟩
  have ok := I.ok
  have frm : X.A.frames = some (X.env :: X.outer) := by rw [ok.frames, hs]
  refine wpAny_Try_except (wpAny_mono ((hb (wAses X.K Wo D l) (X.pn ++ pins) (fun e z1 => wpAny (model X.prog X.w) X.A (noteFrame e X.env) (fun _ z2 => wpAny (model X.prog X.w) X.A (setFlight e none) (fun _ z3 => wpAny (model X.prog X.w) X.A (handleBy e X.env (h1 :: hds)) (SP X pins D) X.xe z3) X.xe z2) X.xe z1) (fun u s' xx => ?_) PassesOwn.looking).run [] s σ H D (I.toTry _) h) (fun f s1 hsp => ?_) (fun e s1 he => he))
  · obtain ⟨a, B, sI, pins', σ', H', cls, d, rfl, J', nb, up, sky, na, os, ag, w⟩ := xx
    have J : Inv X pins σ' H' sI := J'.ofTry ok
    have sk2 : Sky B (X.env :: X.outer) a (Zc cls d) X.env.locals s'.heap := by rw [← hs]; exact sky
    show wpAny (model X.prog X.w) X.A (noteFrame (.ref a) X.env) _ _ _
    refine Sky.land Zc.steady frm hf sk2 fun g3 fy3 up3 => ?_
    have J3 : Inv X pins σ' H' { s' with heap := g3 } := J.landed nb fy3.1 (up.trans up3) os ag
    obtain ⟨oe3, vs3, he3, hz3, hd3⟩ := fy3.there
    have out : ∀ {g : Heap} {o : Obj} {vs : Array Value}, g.FunFrames B (X.env :: X.outer) → g.get? a = some o → o.data = .fields vs → a ∉ frs (X.env :: X.outer) := fun {g o vs} ff e dd hm => by
      obtain ⟨_, o2, e2, hn⟩ := ff.mem hm
      rw [e] at e2
      cases e2
      exact hn _ dd
    have nfr := out fy3.2.2.1 he3 hd3
    have nL : a ≠ X.env.locals := fun z => nfr (List.mem_filterMap.mpr ⟨X.env, List.mem_cons_self, by rw [hf, z]⟩)
    have nF : a ∉ X.fs := fun hm => by
      obtain ⟨e, he, q⟩ := List.mem_filterMap.mp hm
      exact nfr (List.mem_filterMap.mpr ⟨e, List.mem_cons_of_mem _ he, q⟩)
    have S3 := J3.suite he3 hd3 na nL nF
    have go : ∀ {hs' : List ExceptHandler} {l' : List (Value × Nat × (Addr → Value → Option Addr → TS))}, AsOk X hs' l' → wAses X.K Wo D l' cls d σ' H' →
        wpAny (model X.prog X.w) X.A (handleBy (.ref a) X.env hs') (SP X pins D) X.xe { s' with heap := g3 } := by
      intro hs' l' hk
      induction hk with
      | nil =>
        intro w
        refine wpAny_handleBy_nil ?_
        obtain ⟨k1, k2, k3, oe, vs, T, oT, ts', he, hz, hd, g1, hr⟩ := id fy3
        unfold PySem.passOn
        refine wpAny_bind (wpAny_field he hd g1 ?_)
        rw [if_neg (show ¬ ((Value.ref T == Value.none) = true) from by simp)]
        have fin : wpAny (model X.prog X.w) X.A (setFlight (.ref a) X.env.frame) (fun _ s4 => wpAny (model X.prog X.w) X.A (throw (.ref a) : Sem Flow) (SP X pins D) X.xe s4) X.xe { s' with heap := g3 } := by
          rw [hf]
          exact HandSPX.setFlight_upZ fy3 fun h4 hh4 up4 => wpAny_throw (tk _ _ ⟨a, B, sI, pins, σ', H', cls, d, rfl, J, nb, (up.trans up3).trans up4, .inr (.inr (by rw [hs]; exact hh4)), na, os, ag, w⟩)
        first
          | exact wpAny_bind (wpAny_pure (wpAny_bind fin))
          | exact wpAny_bind fin
      | @cons x n c i ts s0 su np pq hs2 l2 hi hkn hc hsu r ih =>
        intro w
        obtain ⟨bb, hbb, hyes, hno⟩ := w
        refine wpAny_handleBy_cons (codeAny_handlers_test ?_) (by intro q; cases q)
        have LM := PySem.W.exm_one (M := model X.prog X.w) (J3.kIn) (fun A Q E s k q => wpAny_typeOf_ref (k _ _ he3) (by rw [hz3.1]; exact q)) hbb
        have test : ∀ {Q : Value → Shared → Prop} {E : Value → Shared → Prop}, Q c { s' with heap := g3 } → wpAny (model X.prog X.w) (X.A.mark (some (.ref a))) (eval (.Name x np) X.env) Q E { s' with heap := g3 } := fun {Q E} q => by
          obtain ⟨hg, hdbg, hm | ⟨hm, hv, hnn⟩⟩ := hc
          · exact ld_glob (X := X.suite a ((a, oe3) :: (X.pn ++ pins))) S3 hg hm q hdbg
          · exact ld_blt (X := X.suite a ((a, oe3) :: (X.pn ++ pins))) S3 hg hm hv q hnn hdbg
        refine test (LM.here ?_)
        cases bb with
        | false => exact ih (hno rfl)
        | true =>
          refine codeAny_handlers_suite_as (HandSPX.lands_againZ fy3 fun h4 fl4 up4 => ?_)
          have J4 : Inv X pins σ' H' { s' with heap := h4 } := J.landed nb fl4.1 ((up.trans up3).trans up4) os ag
          obtain ⟨oe4, vs4, he4, hz4, hd4⟩ := fl4.there
          refine store_ok (X := X.suite a ((a, oe4) :: (X.pn ++ pins))) (v := .ref a) (J4.suite he4 hd4 na nL nF) hN hi (.inl hkn) rfl (fun s5 S5 => ?_) (.inr hkn)
          refine wpAny_mono ((hsu a oe4 cls d (X.pn ++ pins) hz4 ⟨_, hd4⟩).run [] s5 _ H' _ S5 (hyes rfl a na)) (fun f s6 hsp => ?_) (fun _ _ z => False.elim z)
          have endd : ∀ {σ6 : L2.St} {H6 : Hp} {Q : Shared → Prop}, Inv (X.suite a ((a, oe4) :: (X.pn ++ pins))) [] σ6 H6 s6 → (∀ s7, Inv X pins (σ6.set i none) H6 s7 → Q s7) →
              wpAny (model X.prog X.w) X.A (do bindName X.env n .none; unbindBehindTheSuite X.env n pq) (fun _ s7 => Q s7) X.xe s6 := fun {σ6 H6 Q} S6 hq => gone_ok (S6.unsuite ok) hN hi hkn hq
          cases f with
          | next => obtain ⟨σ6, H6, S6, q6⟩ := hsp; exact endd S6 fun s7 J7 => ⟨_, _, J7, q6⟩
          | brk => obtain ⟨σ6, H6, S6, q6⟩ := hsp; exact endd S6 fun s7 J7 => ⟨_, _, J7, q6⟩
          | cont => obtain ⟨σ6, H6, S6, q6⟩ := hsp; exact endd S6 fun s7 J7 => ⟨_, _, J7, q6⟩
          | ret u => obtain ⟨v6, σ6, H6, S6, r6, q6⟩ := hsp; exact endd S6 fun s7 J7 => ⟨_, _, _, J7, r6, q6⟩
    exact go hh w
  · cases f with
    | next => obtain ⟨σ2, H2, K2, q⟩ := hsp; exact wpAny_execs_nil ⟨σ2, H2, K2.ofTry ok, q⟩
    | brk => obtain ⟨σ2, H2, K2, q⟩ := hsp; exact ⟨σ2, H2, K2.ofTry ok, q⟩
    | cont => obtain ⟨σ2, H2, K2, q⟩ := hsp; exact ⟨σ2, H2, K2.ofTry ok, q⟩
    | ret u => obtain ⟨v, σ2, H2, K2, r, q⟩ := hsp; exact ⟨v, σ2, H2, K2.ofTry ok, r, q⟩
end Kin

set_option Elab.async false
set_option linter.all false
set_option maxRecDepth 100000
set_option maxHeartbeats 4000000
namespace Kin
open PySem PySem.Spec PyProof.Rows L2
def topS (i : Nat) : Stmt := PySem.Challenge.pw_kinhearth_k07_lands_let_by.main.body.getD i (.Pass ⟨0, 0, 0, 0⟩)
abbrev s__wall : Stmt := topS 0
abbrev s__wall_N : List Str := ["k"]
abbrev p__wall : List Str := ["k"]
theorem sc__wall : FnScope s__wall_N p__wall (defScope s__wall) := ⟨rfl, rfl, rfl, by decide +kernel, rfl, by decide +kernel, by decide +kernel⟩
abbrev s_KinError_init : Stmt := inClass (topS 2) 0
abbrev s_KinError_init_N : List Str := ["self", "word"]
abbrev p_KinError_init : List Str := ["self", "word"]
theorem sc_KinError_init : FnScope s_KinError_init_N p_KinError_init (defScope s_KinError_init) := ⟨rfl, rfl, rfl, by decide +kernel, rfl, by decide +kernel, by decide +kernel⟩
abbrev s_BadLand_init : Stmt := inClass (topS 3) 0
abbrev s_BadLand_init_N : List Str := ["self"]
abbrev p_BadLand_init : List Str := ["self"]
theorem sc_BadLand_init : FnScope s_BadLand_init_N p_BadLand_init (defScope s_BadLand_init) := ⟨rfl, rfl, rfl, by decide +kernel, rfl, by decide +kernel, by decide +kernel⟩
abbrev s_Unequal_init : Stmt := inClass (topS 4) 0
abbrev s_Unequal_init_N : List Str := ["self", "section"]
abbrev p_Unequal_init : List Str := ["self", "section"]
theorem sc_Unequal_init : FnScope s_Unequal_init_N p_Unequal_init (defScope s_Unequal_init) := ⟨rfl, rfl, rfl, by decide +kernel, rfl, by decide +kernel, by decide +kernel⟩
abbrev s_is_turn : Stmt := topS 6
abbrev s_is_turn_N : List Str := ["row", "seen", "one"]
abbrev p_is_turn : List Str := ["row"]
theorem sc_is_turn : FnScope s_is_turn_N p_is_turn (defScope s_is_turn) := ⟨rfl, rfl, rfl, by decide +kernel, rfl, by decide +kernel, by decide +kernel⟩
abbrev s_Land_init : Stmt := inClass (topS 10) 0
abbrev s_Land_init_N : List Str := ["self", "mother", "father", "wife", "turn", "at"]
abbrev p_Land_init : List Str := ["self", "mother", "father", "wife"]
theorem sc_Land_init : FnScope s_Land_init_N p_Land_init (defScope s_Land_init) := ⟨rfl, rfl, rfl, by decide +kernel, rfl, by decide +kernel, by decide +kernel⟩
abbrev s_Land_step : Stmt := inClass (topS 10) 1
abbrev s_Land_step_N : List Str := ["self", "letter"]
abbrev p_Land_step : List Str := ["self", "letter"]
theorem sc_Land_step : FnScope s_Land_step_N p_Land_step (defScope s_Land_step) := ⟨rfl, rfl, rfl, by decide +kernel, rfl, by decide +kernel, by decide +kernel⟩
abbrev s_l_cell : Stmt := topS 12
abbrev s_l_cell_N : List Str := ["_law_script", "_law_k"]
abbrev p_l_cell : List Str := ["_law_script", "_law_k"]
theorem sc_l_cell : FnScope s_l_cell_N p_l_cell (defScope s_l_cell) := ⟨rfl, rfl, rfl, by decide +kernel, rfl, by decide +kernel, by decide +kernel⟩
abbrev s_l_draws : Stmt := topS 13
abbrev s_l_draws_N : List Str := ["_law_cell_here", "_law_parts", "_law_one", "_law_two", "_law_six", "_law_found", "_law_part"]
abbrev p_l_draws : List Str := ["_law_cell_here", "_law_parts"]
theorem sc_l_draws : FnScope s_l_draws_N p_l_draws (defScope s_l_draws) := ⟨rfl, rfl, rfl, by decide +kernel, rfl, by decide +kernel, by decide +kernel⟩
abbrev s_l_turn : Stmt := topS 14
abbrev s_l_turn_N : List Str := ["_law_code", "_law_size_here", "_law_free", "_law_found", "_law_k"]
abbrev p_l_turn : List Str := ["_law_code", "_law_size_here"]
theorem sc_l_turn : FnScope s_l_turn_N p_l_turn (defScope s_l_turn) := ⟨rfl, rfl, rfl, by decide +kernel, rfl, by decide +kernel, by decide +kernel⟩
abbrev s_l_after : Stmt := topS 15
abbrev s_l_after_N : List Str := ["_law_first", "_law_then", "_law_one"]
abbrev p_l_after : List Str := ["_law_first", "_law_then"]
theorem sc_l_after : FnScope s_l_after_N p_l_after (defScope s_l_after) := ⟨rfl, rfl, rfl, by decide +kernel, rfl, by decide +kernel, by decide +kernel⟩
abbrev s_l_same : Stmt := topS 16
abbrev s_l_same_N : List Str := ["_law_found", "_law_due", "_law_k"]
abbrev p_l_same : List Str := ["_law_found", "_law_due"]
theorem sc_l_same : FnScope s_l_same_N p_l_same (defScope s_l_same) := ⟨rfl, rfl, rfl, by decide +kernel, rfl, by decide +kernel, by decide +kernel⟩
abbrev s_l_asked : Stmt := topS 17
abbrev s_l_asked_N : List Str := ["_law_rows", "_law_land", "e"]
abbrev p_l_asked : List Str := ["_law_rows"]
theorem sc_l_asked : FnScope s_l_asked_N p_l_asked (defScope s_l_asked) := ⟨rfl, rfl, rfl, by decide +kernel, rfl, by decide +kernel, by decide +kernel⟩
abbrev s_l_size : Stmt := topS 18
abbrev s_l_size_N : List Str := ["_law_cell_here", "_law_size_here"]
abbrev p_l_size : List Str := ["_law_cell_here"]
theorem sc_l_size : FnScope s_l_size_N p_l_size (defScope s_l_size) := ⟨rfl, rfl, rfl, by decide +kernel, rfl, by decide +kernel, by decide +kernel⟩
abbrev s_law : Stmt := topS 19
abbrev s_law_N : List Str := ["_law_script", "_law_size_here", "_law_drawn", "_law_mother", "_law_wife", "_law_rows", "_law_row", "_law_one", "_law_good", "_law_turn_here", "_law_unlike", "_law_at"]
abbrev p_law : List Str := ["_law_script"]
theorem sc_law : FnScope s_law_N p_law (defScope s_law) := ⟨rfl, rfl, rfl, by decide +kernel, rfl, by decide +kernel, by decide +kernel⟩
/-! facts about the heap, carried by search -/
local macro_rules | `(tactic| walk_at "hp") => `(tactic| first | assumption | exact upd_same | (refine upd_new (by assumption) ?_; walk_at "hp") | (refine upd_old (by first | assumption | (apply Ne.symm; assumption)) ?_; walk_at "hp") | (refine sameAt (by assumption) ?_; walk_at "hp"))
local macro_rules | `(tactic| walk_at "fr") => `(tactic| first | assumption | (refine Same.free ?_ (by assumption); walk_at "sm"))
local macro_rules | `(tactic| walk_at "sm") => `(tactic| first | assumption | exact Same.refl _ | (refine same_new ?_ ?_; (walk_at "sm"); (walk_at "fr")) | (refine Same.trans ?_ (by assumption); walk_at "sm") | (refine Same.trans (by assumption) ?_; walk_at "sm"))
local macro_rules | `(tactic| walk_at "sq") => `(tactic| first | assumption | (refine SqL.of ?_; walk_at "hp") | (refine SqT.of ?_; walk_at "hp") | (refine Same.seq ?_ (by assumption); walk_at "sm") | (refine same_seqT ?_ (by assumption); walk_at "sm") | (refine same_sq ?_ (by assumption); walk_at "sm") | (refine sqL_old (by first | assumption | (apply Ne.symm; assumption)) ?_; walk_at "sq") | (refine sqT_old (by first | assumption | (apply Ne.symm; assumption)) ?_; walk_at "sq"))
local macro_rules | `(tactic| walk_at "nx") => `(tactic| try dsimp only [gName, tNext])

section
variable {P : Program} {w : World} {K : PySem.W.Frag} {mg : Str → Option Value} {base : Heap}


/-! ### _law_cell -/
def sp_cell (K : PySem.W.Frag) : Sp := fun vs H Q _ => ∃ (a : Addr) (ns : List Int) (k : Nat), vs = [.ref a, .int (k : Int)] ∧ SqL K H a (ns.map V.int) ∧ Q (.int (cell ns k)) H
theorem ok_l_cell {f : Addr} {fd : FuncData} (D : Dn K mg "_law_cell" s_l_cell p_l_cell f fd) (b : Blt mg) : Cal P w K mg base CX0 1 "_law_cell" p_l_cell (sp_cell K) := by
  refine D.cal (D.F.ok sc_l_cell (fun vs H Q E h => ?_) (fun cdv A outer s H vs Q E hr h => ?_))
  · obtain ⟨a, ns, k, rfl, _⟩ := h
    rfl
  · obtain ⟨a, ns, k, rfl, hS, q⟩ := h
    refine ⟨_, (pss_cons (ps_if (pt_cmpR op_lt (pv 1) (pe_callB call_len_seq (by rfl) b.len PySem.boot_len (pa_cons (pv 0) pa_nil)) (nomark _)) (pss_one (ps_ret (pe_ix ix_list (pv 0) (pv 1) (fun _ _ => rfl)))) pss_nil)
      (pss_one (ps_ret pe_int))), ?_⟩
    refine ⟨_, rfl, _, rfl, a, _, rfl, .inl hS, _, _, rfl, rfl, _, rfl, ite2 (fun e => ?_) (fun e => ?_)⟩
    · have e1 := of_decide_eq_true e
      rw [List.length_map] at e1
      have hk : k < ns.length := by omega
      refine ⟨_, rfl, _, rfl, a, _, _, .int (ns[k]), rfl, rfl, hS, atI_nat (by rw [List.getElem?_map, List.getElem?_eq_getElem hk]; rfl), ?_⟩
      have ec : cell ns k = ns[k] := by
        unfold cell
        rw [List.getD_eq_getElem?_getD, List.getElem?_eq_getElem hk]
        rfl
      rw [ec] at q
      exact q
    · have e1 : ¬ ((k : Int) < ((ns.map V.int).length : Int)) := fun z => e (decide_eq_true z)
      rw [List.length_map] at e1
      have ec : cell ns k = 0 := by
        unfold cell
        rw [List.getD_eq_getElem?_getD, List.getElem?_eq_none (by omega)]
        rfl
      rw [ec] at q
      exact q


/-! ### _law_draws -/
def sp_draws (K : PySem.W.Frag) : Sp := fun vs H Q _ => ∃ (c : Int) (a : Addr) (ps : List Int), vs = [.int c, .ref a] ∧ SqL K H a (ps.map V.int) ∧ ps.length ≤ 1000 ∧ (∀ p ∈ ps, 0 < p ∧ p < 2 ^ 60) ∧
  ∀ p H', H p = none → Same H H' → H' p = some (.lst ((draws c ps).map V.int)) → Q (.ref p) H'
theorem ok_l_draws {f : Addr} {fd : FuncData} (D : Dn K mg "_law_draws" s_l_draws p_l_draws f fd) (b : Blt mg) : Cal P w K mg base CX0 1 "_law_draws" p_l_draws (sp_draws K) := by
  refine D.cal (D.F.ok sc_l_draws (fun vs H Q E h => ?_) (fun cdv A outer s H vs Q E hr h => ?_))
  · obtain ⟨c, a, ps, rfl, _⟩ := h
    rfl
  · obtain ⟨c, a, ps, rfl, hS, hlen, hps, q⟩ := h
    refine ⟨_, (pss_cons (ps_if (pt_cmpR op_lt (pe_callB call_abs (by rfl) b.abs (by decide +kernel) (pa_cons (pv 0) pa_nil)) (pe_op op_pow pe_int pe_int) (nomark _)) (pss_cons (ps_set (i := 2) sc_l_draws.nd rfl (Or.inl rfl) (pe_op op_mod (pe_op op_add (pe_op op_mulW (pv 0) pe_int) pe_int) pe_int))
      (pss_cons (ps_set (i := 3) sc_l_draws.nd rfl (Or.inl rfl) (pe_op op_mod (pe_op op_add (pe_op op_add (pe_op op_mulW (pv 2) (pv 2)) (pe_op op_mulW pe_int (pv 2))) (pv 0)) pe_int))
      (pss_cons (ps_set (i := 4) sc_l_draws.nd rfl (Or.inl rfl) (pe_op op_mod (pe_op op_add (pe_op op_mulW (pv 3) pe_int) (pv 2)) pe_int))
      (pss_one (ps_set (i := 0) sc_l_draws.nd rfl (Or.inl rfl) (pe_op op_add (pv 3) (pe_op op_mulW pe_int (pe_op op_add (pv 4) (pe_op op_mulW pe_int (pv 2)))))))))) (pss_one (ps_set (i := 0) sc_l_draws.nd rfl (Or.inl rfl) (pe_op op_sub (pe_callB call_abs (by rfl) b.abs (by decide +kernel) (pa_cons (pv 0) pa_nil)) (pe_op op_pow pe_int pe_int)))))
      (pss_cons (ps_set (i := 5) sc_l_draws.nd rfl (Or.inl rfl) (pe_lst pa_nil))
      (pss_cons (ps_for PassesOwn.never rfl (pi_list (pv 1)) (pg_name (i := 6) sc_l_draws.nd rfl (Or.inl rfl)) (pss_cons (ps_expr (pe_bm PySem.F.plainAttrs_list PySem.F.slot_list_append PySem.F.type_list_append mt_append (pv 5) (pa_cons (pe_op op_mod (pv 0) (pv 6)) pa_nil)))
      (pss_one (ps_set (i := 0) sc_l_draws.nd rfl (Or.inl rfl) (pe_op op_fdivW (pv 0) (pv 6))))))
      (pss_one (ps_ret (pv 5)))))), ?_⟩
    have wide : ∀ {i j : Int}, i.natAbs < 2 ^ 200 → j.natAbs < 2 ^ 200 → CMulW i j := fun h1 h2 => wide_mul h1 h2 (by decide) (by decide) (by decide)
    have small : ∀ {i : Int}, -(2 ^ 64) < i → i < 2 ^ 64 → i.natAbs < 2 ^ 200 := fun {i} h1 h2 => Nat.lt_of_lt_of_le (show i.natAbs < 2 ^ 64 by omega) (by decide)
    -- what follows the if, from any number
    have go : ∀ (y2 y3 y4 : Option V) (cc : Int), cc = seed c → (tSeq (tAsg (tLst tNil) (gName 5)) (tSeq (tFor (iList K (tVar 1)) (gName 6) (tSeq
        (tDrop (tBM K "list" rAppend (tVar 5) (tCons (tOp (rI (fun _ j => 0 < j) fun i j => .int (i % j)) (tVar 0) (tVar 6)) tNil)))
        (tAsg (tOp (rI CDivW fun i j => .int (i / j)) (tVar 0) (tVar 6)) (gName 0)))) (tRet (tVar 5))))
        { nx := fun _ H' => Q .non H', rt := Q } [some (.int cc), some (.ref a), y2, y3, y4, none, none] H := by
      rintro y2 y3 y4 cc rfl
      refine ⟨Nat.zero_le _, fun o no => ?_⟩
      have s1 : Same H (upd H o (.lst [])) := same_new (Same.refl H) no
      refine ⟨_, rfl, a, rfl, ⟨_, s1.seq hS⟩, for_list (K := K) (a := a) (xs := ps.map V.int) (fun i σ H2 => ∃ y6 : Option V, σ = [some (.int (rest (seed c) (ps.take i))), some (.ref a), y2, y3, y4, some (.ref o), y6] ∧ Same H H2 ∧ H2 o = some (.lst ((drawn (seed c) (ps.take i)).map V.int)))
        ⟨none, rfl, s1, upd_same⟩ (fun i σ H2 _ ⟨_, _, s2, _⟩ => s2.seq hS) ?_ ?_⟩
      · rintro i y σ H2 hi ⟨y6, rfl, s2, eo⟩
        obtain ⟨z, hz, rfl⟩ : ∃ z, ps[i]? = some z ∧ y = V.int z := by
          rw [List.getElem?_map] at hi
          cases e : ps[i]? with
          | none => rw [e] at hi; cases hi
          | some z => rw [e] at hi; exact ⟨z, rfl, (Option.some.inj hi).symm⟩
        have hp := hps z (List.mem_of_getElem? hz)
        have et : ps.take (i + 1) = ps.take i ++ [z] := by rw [List.take_add_one, hz]; rfl
        refine ⟨_, rfl, .inl ⟨rfl, _, SqL.of eo⟩, _, rfl, _, rfl, _, _, rfl, rfl, hp.1, o, _, _, rfl, rfl, eo, ?_, ?_⟩
        · refine sz_lt ?_
          rw [List.length_map, drawn_len, List.length_take]
          omega
        · refine ⟨_, rfl, _, rfl, _, _, rfl, rfl, wide_div hp.1 (b := 60) (by omega) (by decide) (by decide), ?_⟩
          refine ⟨some (.int z), ?_, fun b x e => ?_, ?_⟩
          · rw [et, rest_snoc]
            rfl
          · rw [upd_ne (ne_of_none e no)]
            exact s2 b x e
          · rw [upd_same, et, drawn_snoc, List.map_append]
            rfl
      · rintro σ H2 ⟨y6, rfl, s2, eo⟩
        rw [List.length_map, List.take_length] at eo
        exact ⟨_, rfl, q o H2 no s2 eo⟩
    refine ⟨_, rfl, c, rfl, _, _, rfl, rfl, ⟨by decide, by decide, by decide⟩, _, _, rfl, rfl, _, rfl, ite2 (fun e => ?_) (fun e => ?_)⟩
    · have e1 := of_decide_eq_true e
      have hc1 : (if c < 0 then -c else c) < 10 ^ 18 := e1
      have hc : -(10 ^ 18) < c ∧ c < 10 ^ 18 := by
        split at hc1 <;> omega
      have n1 : 0 ≤ (c * 48271 + 11) % 2147483647 := Int.emod_nonneg _ (by decide)
      have m1 : (c * 48271 + 11) % 2147483647 < 2147483647 := Int.emod_lt_of_pos _ (by decide)
      have n2 : 0 ≤ (((c * 48271 + 11) % 2147483647) * ((c * 48271 + 11) % 2147483647) + 40692 * ((c * 48271 + 11) % 2147483647) + c) % 2147483399 := Int.emod_nonneg _ (by decide)
      have m2 : (((c * 48271 + 11) % 2147483647) * ((c * 48271 + 11) % 2147483647) + 40692 * ((c * 48271 + 11) % 2147483647) + c) % 2147483399 < 2147483399 := Int.emod_lt_of_pos _ (by decide)
      have n3 : 0 ≤ ((((c * 48271 + 11) % 2147483647) * ((c * 48271 + 11) % 2147483647) + 40692 * ((c * 48271 + 11) % 2147483647) + c) % 2147483399 * 16807 + (c * 48271 + 11) % 2147483647) % 1000000007 := Int.emod_nonneg _ (by decide)
      have m3 : ((((c * 48271 + 11) % 2147483647) * ((c * 48271 + 11) % 2147483647) + 40692 * ((c * 48271 + 11) % 2147483647) + c) % 2147483399 * 16807 + (c * 48271 + 11) % 2147483647) % 1000000007 < 1000000007 := Int.emod_lt_of_pos _ (by decide)
      refine ⟨_, rfl, _, _, rfl, rfl, wide (small (by omega) (by omega)) (small (by decide) (by decide)), _, _, rfl, rfl, _, _, rfl, rfl, (by show (0 : Int) < 2147483647; decide), ?_⟩
      refine ⟨_, rfl, _, rfl, _, _, rfl, rfl, wide (small (by omega) (by omega)) (small (by omega) (by omega)), _, rfl, _, _, rfl, rfl, wide (small (by decide) (by decide)) (small (by omega) (by omega)), _, _, rfl, rfl, _, rfl, _, _, rfl, rfl, _, _, rfl, rfl, (by show (0 : Int) < 2147483399; decide), ?_⟩
      refine ⟨_, rfl, _, _, rfl, rfl, wide (small (by omega) (by omega)) (small (by decide) (by decide)), _, rfl, _, _, rfl, rfl, _, _, rfl, rfl, (by show (0 : Int) < 1000000007; decide), ?_⟩
      refine ⟨_, rfl, _, rfl, _, rfl, _, _, rfl, rfl, wide (small (by decide) (by decide)) (small (by omega) (by omega)), _, _, rfl, rfl, _, _, rfl, rfl, wide (small (by decide) (by decide)) (small (by omega) (by omega)), _, _, rfl, rfl, ?_⟩
      refine go _ _ _ _ ?_
      unfold seed
      rw [if_pos hc1]
    · have e1 : ¬ (if c < 0 then -c else c) < 10 ^ 18 := fun z => e (decide_eq_true z)
      refine ⟨_, rfl, c, rfl, _, _, rfl, rfl, ⟨by decide, by decide, by decide⟩, _, _, rfl, rfl, ?_⟩
      refine go _ _ _ _ ?_
      unfold seed
      rw [if_neg e1]
      rfl


/-! ### _law_turn -/
def sp_turn : Sp := fun vs H Q _ => ∃ (c : Int) (n : Nat), vs = [.int c, .int (n : Int)] ∧ n ≤ 1000 ∧
  ∀ p H', H p = none → Same H H' → H' p = some (.tup ((turnOf c n).map V.int)) → Q (.ref p) H'
theorem ok_l_turn {f : Addr} {fd : FuncData} (D : Dn K mg "_law_turn" s_l_turn p_l_turn f fd) (b : Blt mg) : Cal P w K mg base CX0 1 "_law_turn" p_l_turn sp_turn := by
  refine D.cal (D.F.ok sc_l_turn (fun vs H Q E h => ?_) (fun cdv A outer s H vs Q E hr h => ?_))
  · obtain ⟨c, n, rfl, _⟩ := h
    rfl
  · obtain ⟨c, n, rfl, hn, q⟩ := h
    refine ⟨_, (pss_cons (ps_set (i := 2) sc_l_turn.nd rfl (Or.inl rfl) (pe_listRg rfl (by rfl) b.ty_list (prg_1 (by rfl) b.range (pv 1))))
      (pss_cons (ps_set (i := 3) sc_l_turn.nd rfl (Or.inl rfl) (pe_lst pa_nil))
      (pss_cons (ps_for PassesOwn.never rfl (pi_range1 (by rfl) b.range (pa_cons (pv 1) pa_nil)) (pg_name (i := 4) sc_l_turn.nd rfl (Or.inl rfl)) (pss_cons (ps_expr (pe_bm PySem.F.plainAttrs_list PySem.F.slot_list_append PySem.F.type_list_append mt_append (pv 3) (pa_cons (pe_bm PySem.F.plainAttrs_list PySem.F.slot_list_pop PySem.F.type_list_pop mt_popAt (pv 2) (pa_cons (pe_op op_mod (pv 0) (pe_op op_sub (pv 1) (pv 4))) pa_nil)) pa_nil)))
      (pss_one (ps_set (i := 0) sc_l_turn.nd rfl (Or.inl rfl) (pe_op op_fdivW (pv 0) (pe_op op_sub (pv 1) (pv 4)))))))
      (pss_one (ps_ret (pe_callTy call_tuple_of (by rfl) b.ty_tuple (by decide +kernel) (pa_cons (pv 3) pa_nil))))))), ?_⟩
    refine ⟨_, rfl, _, rfl, rg_ok hn, fun l nl => ?_⟩
    rw [rgV_int]
    refine ⟨Nat.zero_le _, fun o no => ?_⟩
    have nlo : l ≠ o := ne_of_none upd_same no
    have no0 : H o = none := by walk_at "fr"
    refine ⟨_, rfl, _, rfl, by omega, by omega, for_range (lo := 0) (n := n) (fun i σ H2 => ∃ (y4 : Option V) (free acc : List Int) (cc : Int), σ = [some (.int cc), some (.int (n : Int)), some (.ref l), some (.ref o), y4] ∧ Same H H2 ∧ H2 l = some (.lst (free.map V.int)) ∧ H2 o = some (.lst (acc.map V.int)) ∧
        free.length + i = n ∧ acc.length = i ∧ acc ++ picks free.length free cc = turnOf c n)
      ⟨none, rgI n, [], c, rfl, by walk_at "sm", by walk_at "hp", upd_same, by rw [rgI_len]; omega, rfl, by rw [rgI_len]; rfl⟩ ?_ ?_⟩
    · rintro i σ H2 hi ⟨y4, free, acc, cc, rfl, s2, el, eo, hf, ha, hp⟩
      obtain ⟨m, hm⟩ : ∃ m, free.length = m + 1 := ⟨n - i - 1, by omega⟩
      have ed : (n : Int) - (0 + (i : Int)) = (m : Int) + 1 := by omega
      have h0 : 0 ≤ cc % ((m : Int) + 1) := Int.emod_nonneg _ (by omega)
      have h1 : cc % ((m : Int) + 1) < (m : Int) + 1 := Int.emod_lt_of_pos _ (by omega)
      have hk : (cc % ((m : Int) + 1)).toNat < free.length := by omega
      refine ⟨_, rfl, .inl ⟨rfl, _, SqL.of eo⟩, _, rfl, .inl ⟨rfl, _, SqL.of el⟩, _, rfl, _, rfl, _, rfl, _, _, rfl, rfl, _, _, rfl, rfl, ?_, l, _, cc % ((m : Int) + 1), (cc % ((m : Int) + 1)).toNat, .int (free.getD (cc % ((m : Int) + 1)).toNat 0), rfl, ?_, el, ?_, ?_, ?_, ?_, ?_⟩
      · show (0 : Int) < (n : Int) - (0 + (i : Int))
        omega
      · show [V.int (cc % ((n : Int) - (0 + (i : Int))))] = _
        rw [ed]
      · omega
      · omega
      · rw [List.length_map]
        exact seqIx_in h0 (by omega)
      · rw [List.getElem?_map, getD_some hk]
        rfl
      · refine ⟨o, _, _, rfl, rfl, upd_old nlo.symm eo, ?_, ?_⟩
        · refine sz_lt ?_
          rw [List.length_map]
          omega
        · refine ⟨_, rfl, _, rfl, _, rfl, _, _, rfl, rfl, _, _, rfl, rfl, ?_, ?_⟩
          · show CDivW cc ((n : Int) - (0 + (i : Int)))
            exact wide_div (by omega) (b := 60) (by omega) (by decide) (by decide)
          · refine ⟨some (.int (0 + (i : Int))), free.eraseIdx (cc % ((m : Int) + 1)).toNat, acc ++ [free.getD (cc % ((m : Int) + 1)).toNat 0], cc / ((m : Int) + 1), ?_, ?_, ?_, ?_, ?_, ?_, ?_⟩
            · rw [← ed]
              rfl
            · refine same_new (same_new s2 nl) no0
            · rw [upd_ne nlo, upd_same, erase_ints]
            · rw [upd_same, snoc_ints]
            · rw [List.length_eraseIdx_of_lt hk]
              omega
            · rw [List.length_append, ha]
              rfl
            · rw [List.length_eraseIdx_of_lt hk, ← hp, hm, List.append_assoc]
              rfl
    · rintro σ H2 ⟨y4, free, acc, cc, rfl, s2, el, eo, hf, ha, hp⟩
      have e0 : free.length = 0 := by omega
      have ep : acc = turnOf c n := by
        rw [← hp, e0]
        show acc = acc ++ []
        rw [List.append_nil]
      subst ep
      refine ⟨_, rfl, o, _, rfl, .inl ⟨SqL.of eo, fun t nt => ?_⟩⟩
      exact q t _ (s2.free nt) (same_new s2 (s2.free nt)) upd_same


/-! ### _law_after -/
def sp_l_after (K : PySem.W.Frag) : Sp := fun vs H Q _ => ∃ (a a' : Addr) (ns ms : List Int), vs = [.ref a, .ref a'] ∧ SqT K H a (ns.map V.int) ∧ SqT K H a' (ms.map V.int) ∧ ns.length ≤ 1000 ∧ (∀ x ∈ ns, 0 ≤ x ∧ x < (ms.length : Int)) ∧
  ∀ p H', H p = none → Same H H' → Tp H' p ((after ns ms).map V.int) → Q (.ref p) H'
theorem ok_l_after {f : Addr} {fd : FuncData} (D : Dn K mg "_law_after" s_l_after p_l_after f fd) (b : Blt mg) : Cal P w K mg base CX0 1 "_law_after" p_l_after (sp_l_after K) := by
  refine D.cal (D.F.ok sc_l_after (fun vs H Q E h => ?_) (fun cdv A outer s H vs Q E hr h => ?_))
  · obtain ⟨a, a', ns, ms, rfl, _⟩ := h
    rfl
  · obtain ⟨a, a', ns, ms, rfl, ha, hb, hn, hm, q⟩ := h
    refine ⟨_, (pss_one (ps_ret (pe_callTy call_tupF (by rfl) b.ty_tuple (by decide +kernel) (pa_cons (pe_lc (own := [("_law_one", 2)]) (g := gName 2) (by rfl) sc_l_after.nd (pi_tup (pv 0)) (blkOk_by (N := s_l_after_N) (sc := defScope s_l_after) (by decide +kernel)) (fun _ _ _ _ _ => (pg_name (i := 2) sc_l_after.nd rfl (Or.inl rfl))) (fun _ _ _ _ _ => pts_nil) (fun _ _ _ _ _ => (pe_ix (ix_tupK K) (pv 1) (pv 2) (fun _ _ => rfl)))) pa_nil)))), ?_⟩
    refine ⟨_, rfl, a, rfl, ⟨_, ha⟩, fun L nL => lc_tup (K := K) (a := a) (xs := ns.map V.int) (fun i Hx => Same H Hx ∧ Hx L = some (.lst ((after (ns.take i) ms).map V.int))) ⟨same_new (Same.refl H) nL, upd_same⟩ (fun i Hx _ hI => same_seqT hI.1 ha) ?_ ?_⟩
    · rintro i x Hx hi ⟨sx, eL⟩
      obtain ⟨z, hz, rfl⟩ := int_at hi
      have hz2 := hm z (List.mem_of_getElem? hz)
      have hi2 : i < ns.length := (List.getElem?_eq_some_iff.mp hz).1
      refine ⟨rfl, ⟨_, rfl, _, rfl, a', _, _, .int (ms.getD z.toNat 0), rfl, rfl, same_seqT sx hb, at_int hz2.1 (getD_some (by omega)), _, eL, ?_, same_new sx nL, ?_⟩⟩
      · refine sz_lt ?_
        rw [List.length_map]
        unfold after
        rw [List.length_map, List.length_take]
        omega
      · rw [upd_same, List.take_add_one, hz, after_snoc]
        show some (HO.lst ((after (ns.take i) ms).map V.int ++ [V.int (ms.getD z.toNat 0)])) = _
        rw [snoc_ints]
        rfl
    · rintro Hx ⟨sx, eL⟩
      rw [List.length_map, List.take_length] at eL
      exact ⟨L, _, rfl, SqL.of eL, fun p H' np s' hp => q p H' (sx.free np) (sx.trans s') hp⟩


/-! ### is_turn -/
def sp_is_turn (K : PySem.W.Frag) : Sp := fun vs H Q _ => ∃ (a : Addr) (ns : List Int), vs = [.ref a] ∧ Sq K H a (ns.map V.int) ∧ ns.length ≤ 1000 ∧ ∀ H', Same H H' → Q (.bl (isTurn ns)) H'
theorem seen_some {kvs : List (Key × V)} {l : List Int} {x : Int} (h : kvs.map (·.1) = l.map Sum.inl) : (valV kvs (Sum.inl x)).isSome = decide (x ∈ l) := by
  rw [← valV_any]
  have e : (kvs.any fun kv => decide (kv.1 = (Sum.inl x : Key))) = ((kvs.map (·.1)).any fun k => decide (k = (Sum.inl x : Key))) := by rw [List.any_map]; rfl
  rw [e, h, List.any_map]
  by_cases hx : x ∈ l
  · rw [decide_eq_true hx]
    exact List.any_eq_true.mpr ⟨x, hx, by simp⟩
  · rw [decide_eq_false hx]
    refine Bool.eq_false_iff.mpr fun z => hx ?_
    obtain ⟨y, hy, e⟩ := List.any_eq_true.mp z
    have e2 : (Sum.inl y : Key) = Sum.inl x := of_decide_eq_true e
    have e3 : y = x := Sum.inl.inj e2
    exact e3 ▸ hy
theorem ok_is_turn {f : Addr} {fd : FuncData} (D : Dn K mg "is_turn" s_is_turn p_is_turn f fd) (b : Blt mg) : Cal P w K mg base CX0 1 "is_turn" p_is_turn (sp_is_turn K) := by
  refine D.cal (D.F.ok sc_is_turn (fun vs H Q E h => ?_) (fun cdv A outer s H vs Q E hr h => ?_))
  · obtain ⟨a, ns, rfl, _⟩ := h
    rfl
  · obtain ⟨a, ns, rfl, hS, hlen, q⟩ := h
    -- one turn and the end, whatever is walked
    have key : ∀ (d : Addr), H d = none → ∀ (i : Nat) (x : V) (σ : L2.St) (H2 : Hp) (N bk : L2.St → Hp → Prop), (ns.map V.int)[i]? = some x →
        (∃ (y2 : Option V) (kvs : List (Key × V)), σ = [some (.ref a), some (.ref d), y2] ∧ Same H H2 ∧ H2 d = some (.dK kvs) ∧ kvs.map (·.1) = (ns.take i).map Sum.inl ∧ okAt ns.length (ns.take i) (ns.drop i) = isTurn ns) →
        (∀ σ' H', (∃ (y2 : Option V) (kvs : List (Key × V)), σ' = [some (.ref a), some (.ref d), y2] ∧ Same H H' ∧ H' d = some (.dK kvs) ∧ kvs.map (·.1) = (ns.take (i + 1)).map Sum.inl ∧ okAt ns.length (ns.take (i + 1)) (ns.drop (i + 1)) = isTurn ns) → N σ' H') →
        (tSeq (tIfS (tOr (tTest (tOp (rI0 fun i j => .bl (decide (i < j))) (tVar 2) (tC (.int 0)))) (tOr (tTest (tOp (rI0 fun i j => .bl (decide (j ≤ i))) (tVar 2) (tCB (fun xs H Q => ∃ p ys, xs = [.ref p] ∧ (SqL K H p ys ∨ SqT K H p ys) ∧ Q (.int ys.length) H) (tCons (tVar 0) tNil)))) (tB (tDIn (tVar 2) (tVar 1))))) (tRet (tC (.bl false))) tNext)
          (sDPut (tVar 1) (tVar 2) (tC (.bl true)))) { nx := N, ct := N, rt := Q, bk := bk } (σ.set 2 (some x)) H2 := by
      intro d nd i x σ H2 N bk hi ⟨y2, kvs, e, s2, ed, hk, ho⟩ hN
      subst e
      obtain ⟨z, hz, rfl⟩ := int_at hi
      have hlt : i < ns.length := (List.getElem?_eq_some_iff.mp hz).1
      have hdrop : ns.drop i = z :: ns.drop (i + 1) := by
        rw [List.drop_eq_getElem_cons hlt]
        have : ns[i] = z := (List.getElem?_eq_some_iff.mp hz).2
        rw [this]
      have htake : ns.take (i + 1) = ns.take i ++ [z] := by rw [List.take_add_one, hz]; rfl
      have hS2 : Sq K H2 a (ns.map V.int) := same_sq s2 hS
      rw [hdrop] at ho
      have ho' := ho
      unfold okAt at ho'
      have bad : (z < 0 ∨ (ns.length : Int) ≤ z ∨ z ∈ ns.take i) → Q (.bl false) H2 := fun hb => by
        rw [if_pos hb] at ho'
        rw [ho']
        exact q H2 s2
      refine ⟨_, rfl, _, _, rfl, rfl, _, rfl, ite2 (fun e => ?_) (fun e => ?_)⟩
      · exact bad (.inl (of_decide_eq_true e))
      · have e0 : ¬ z < 0 := fun q => e (decide_eq_true q)
        refine ⟨_, rfl, _, rfl, a, _, rfl, hS2, _, _, rfl, rfl, _, rfl, ite2 (fun e => ?_) (fun e => ?_)⟩
        · have e1 := of_decide_eq_true e
          rw [List.length_map] at e1
          exact bad (.inr (.inl e1))
        · have e1 : ¬ (ns.length : Int) ≤ z := fun q => e (decide_eq_true (by rw [List.length_map]; exact q))
          refine ⟨_, rfl, _, rfl, d, _, rfl, DGet.k (k := Sum.inl z) ed, _, rfl, ?_⟩
          show if (valV kvs (Sum.inl z)).isSome = true then _ else _
          rw [seen_some hk]
          refine ite2 (fun e => ?_) (fun e => ?_)
          · exact bad (.inr (.inr (of_decide_eq_true e)))
          · have e2 : ¬ z ∈ ns.take i := fun q => e (decide_eq_true q)
            have hn : valV kvs (Sum.inl z) = none := by
              have := seen_some (x := z) hk
              rw [decide_eq_false e2] at this
              exact Option.isNone_iff_eq_none.mp (by simpa using this)
            have hkl : kvs.length = i := by
              have := congrArg List.length hk
              simpa [Nat.min_eq_left (Nat.le_of_lt hlt)] using this
            refine ⟨_, rfl, _, rfl, d, _, rfl, DPut.k (k := Sum.inl z) ed (sz_lt (by omega)), hN _ _ ⟨some (.int z), putK kvs (Sum.inl z) (.bl true), rfl, ?_, upd_same, ?_, ?_⟩⟩
            · exact same_new s2 nd
            · rw [putK_new _ hn, List.map_append, hk, htake, List.map_append]
              rfl
            · rw [htake]
              have hneg : ¬ (z < 0 ∨ (ns.length : Int) ≤ z ∨ z ∈ ns.take i) := fun z' => by
                rcases z' with z' | z' | z'
                · exact e0 z'
                · exact e1 z'
                · exact e2 z'
              rw [if_neg hneg] at ho'
              exact ho'
    have stop : ∀ (d : Addr) (σ : L2.St) (H2 : Hp), (∃ (y2 : Option V) (kvs : List (Key × V)), σ = [some (.ref a), some (.ref d), y2] ∧ Same H H2 ∧ H2 d = some (.dK kvs) ∧ kvs.map (·.1) = (ns.take (ns.map V.int).length).map Sum.inl ∧ okAt ns.length (ns.take (ns.map V.int).length) (ns.drop (ns.map V.int).length) = isTurn ns) → Q (.bl true) H2 := by
      rintro d σ H2 ⟨y2, kvs, rfl, s2, ed, hk, ho⟩
      rw [List.length_map, List.drop_length] at ho
      rw [show (true : Bool) = isTurn ns from ho]
      exact q H2 s2
    rcases hS with hL | hT
    · refine ⟨_, (pss_cons (ps_set (i := 1) sc_is_turn.nd rfl (Or.inl rfl) pe_dnewK)
      (pss_cons (ps_for PassesOwn.never rfl (pi_list (pv 0)) (pg_name (i := 2) sc_is_turn.nd rfl (Or.inl rfl)) (pss_cons (ps_if (PW.pt (pw_or (pt_cmpR op_lt (pv 2) pe_int (nomark _)) (pw_or (pt_cmpR op_ge (pv 2) (pe_callB call_len_seq (by rfl) b.len PySem.boot_len (pa_cons (pv 0) pa_nil)) (nomark _)) (pw_or1 (pt_cmp (pc_din (hu_of hr) (pv 2) (pv 1))))))) (pss_one (ps_ret pe_bl)) pss_nil)
      (pss_one (ps_dput (hu_of hr) (pv 1) (pv 2) pe_bl rfl))))
      (pss_one (ps_ret pe_bl)))), ?_⟩
      intro d nd
      refine ⟨_, rfl, a, rfl, ⟨_, (same_new (Same.refl H) nd).seq hL⟩, for_list (K := K) (a := a) (xs := ns.map V.int) (fun i σ H2 => ∃ (y2 : Option V) (kvs : List (Key × V)), σ = [some (.ref a), some (.ref d), y2] ∧ Same H H2 ∧ H2 d = some (.dK kvs) ∧ kvs.map (·.1) = (ns.take i).map Sum.inl ∧ okAt ns.length (ns.take i) (ns.drop i) = isTurn ns)
        ⟨none, [], rfl, same_new (Same.refl H) nd, upd_same, rfl, rfl⟩ (fun i σ H2 _ ⟨_, _, _, s2, _⟩ => s2.seq hL) (fun i x σ H2 hi hI => key d nd i x σ H2 _ _ hi hI fun _ _ z => z) (fun σ H2 hI => stop d σ H2 hI)⟩
    · refine ⟨_, (pss_cons (ps_set (i := 1) sc_is_turn.nd rfl (Or.inl rfl) pe_dnewK)
      (pss_cons (ps_for PassesOwn.never rfl (pi_tup (pv 0)) (pg_name (i := 2) sc_is_turn.nd rfl (Or.inl rfl)) (pss_cons (ps_if (PW.pt (pw_or (pt_cmpR op_lt (pv 2) pe_int (nomark _)) (pw_or (pt_cmpR op_ge (pv 2) (pe_callB call_len_seq (by rfl) b.len PySem.boot_len (pa_cons (pv 0) pa_nil)) (nomark _)) (pw_or1 (pt_cmp (pc_din (hu_of hr) (pv 2) (pv 1))))))) (pss_one (ps_ret pe_bl)) pss_nil)
      (pss_one (ps_dput (hu_of hr) (pv 1) (pv 2) pe_bl rfl))))
      (pss_one (ps_ret pe_bl)))), ?_⟩
      intro d nd
      refine ⟨_, rfl, a, rfl, ⟨_, same_seqT (same_new (Same.refl H) nd) hT⟩, for_tup (K := K) (a := a) (xs := ns.map V.int) (fun i σ H2 => ∃ (y2 : Option V) (kvs : List (Key × V)), σ = [some (.ref a), some (.ref d), y2] ∧ Same H H2 ∧ H2 d = some (.dK kvs) ∧ kvs.map (·.1) = (ns.take i).map Sum.inl ∧ okAt ns.length (ns.take i) (ns.drop i) = isTurn ns)
        ⟨none, [], rfl, same_new (Same.refl H) nd, upd_same, rfl, rfl⟩ (fun i σ H2 _ ⟨_, _, _, s2, _⟩ => same_seqT s2 hT) (fun i x σ H2 hi hI => key d nd i x σ H2 _ _ hi hI fun _ _ z => z) (fun σ H2 hI => stop d σ H2 hI)⟩


/-! ### _law_same, of alike things -/
def sp_same (K : PySem.W.Frag) : Nat → Sp
  | 0 => fun _ _ _ _ => False
  | n + 1 => fun vs H Q _ => ∃ x y, vs = [x, y] ∧ Alike K H n x y ∧ ∀ H', Same H H' → Q (.bl true) H'
theorem ok_l_same {f : Addr} {fd : FuncData} (D : Dn K mg "_law_same" s_l_same p_l_same f fd) (b : Blt mg) : ∀ n : Nat, Cal P w K mg base CX0 n "_law_same" p_l_same (sp_same K n) := by
  intro n
  induction n with
  | zero => exact D.cal fn_never
  | succ n ih =>
  have c := ih
  refine D.cal (D.F.ok sc_l_same (fun vs H Q E h => ?_) (fun cdv A outer s H vs Q E hr h => ?_))
  · obtain ⟨x, y, rfl, _⟩ := h
    rfl
  · obtain ⟨x, y, rfl, hA, q⟩ := h
    have hle : n ≤ n := Nat.le_refl n
    refine ⟨_, (pss_cons (ps_if (pt_cmpR op_isN (pv 1) pe_non (nomark _)) (pss_one (ps_ret (pe_cmpR op_isN (pv 0) pe_non (nomark _)))) pss_nil)
      (pss_cons (ps_if (pt_val (pe_callB call_isi (by rfl) b.isinstance (by decide +kernel) (pa_cons (pv 1) (pa_cons (pe_bltn (v := .ty "bool") (by rfl) b.ty_bool (by decide +kernel) rfl) pa_nil)))) (pss_one (ps_ret (pe_and (pe_callB call_isi (by rfl) b.isinstance (by decide +kernel) (pa_cons (pv 0) (pa_cons (pe_bltn (v := .ty "bool") (by rfl) b.ty_bool (by decide +kernel) rfl) pa_nil))) (pe_one (pe_cmpR op_eq (pv 0) (pv 1) (nomark _)))))) pss_nil)
      (pss_cons (ps_if (pt_val (pe_callB call_isi (by rfl) b.isinstance (by decide +kernel) (pa_cons (pv 1) (pa_cons (pe_bltn (v := .ty "int") (by rfl) b.ty_int (by decide +kernel) rfl) pa_nil)))) (pss_one (ps_ret (pe_and (pe_callB call_isi (by rfl) b.isinstance (by decide +kernel) (pa_cons (pv 0) (pa_cons (pe_bltn (v := .ty "int") (by rfl) b.ty_int (by decide +kernel) rfl) pa_nil))) (pe_and (pe_not (pe_callB call_isi (by rfl) b.isinstance (by decide +kernel) (pa_cons (pv 0) (pa_cons (pe_bltn (v := .ty "bool") (by rfl) b.ty_bool (by decide +kernel) rfl) pa_nil)))) (pe_one (pe_cmpR op_eq (pv 0) (pv 1) (nomark _))))))) pss_nil)
      (pss_cons (ps_if (pt_val (pe_callB call_isi (by rfl) b.isinstance (by decide +kernel) (pa_cons (pv 1) (pa_cons (pe_bltn (v := .ty "str") (by rfl) b.ty_str (by decide +kernel) rfl) pa_nil)))) (pss_one (ps_ret (pe_and (pe_callB call_isi (by rfl) b.isinstance (by decide +kernel) (pa_cons (pv 0) (pa_cons (pe_bltn (v := .ty "str") (by rfl) b.ty_str (by decide +kernel) rfl) pa_nil))) (pe_one (pe_cmpR op_eq (pv 0) (pv 1) (nomark _)))))) pss_nil)
      (pss_cons (ps_if (PW.pt (pw_or (pt_cmpR op_ne (pe_callB call_isi (by rfl) b.isinstance (by decide +kernel) (pa_cons (pv 1) (pa_cons (pe_bltn (v := .ty "list") (by rfl) b.ty_list (by decide +kernel) rfl) pa_nil))) (pe_callB call_isi (by rfl) b.isinstance (by decide +kernel) (pa_cons (pv 0) (pa_cons (pe_bltn (v := .ty "list") (by rfl) b.ty_list (by decide +kernel) rfl) pa_nil))) (nomark _)) (pw_or1 (pt_cmpR op_ne (pe_callB call_isi (by rfl) b.isinstance (by decide +kernel) (pa_cons (pv 1) (pa_cons (pe_bltn (v := .ty "tuple") (by rfl) b.ty_tuple (by decide +kernel) rfl) pa_nil))) (pe_callB call_isi (by rfl) b.isinstance (by decide +kernel) (pa_cons (pv 0) (pa_cons (pe_bltn (v := .ty "tuple") (by rfl) b.ty_tuple (by decide +kernel) rfl) pa_nil))) (nomark _))))) (pss_one (ps_ret pe_bl)) pss_nil)
      (pss_cons (ps_if (pt_cmpR op_ne (pe_callB call_len_seq (by rfl) b.len PySem.boot_len (pa_cons (pv 0) pa_nil)) (pe_callB call_len_seq (by rfl) b.len PySem.boot_len (pa_cons (pv 1) pa_nil)) (nomark _)) (pss_one (ps_ret pe_bl)) pss_nil)
      (pss_one (ps_ret (pe_callB (cr_all rfl) (by rfl) b.all (by decide +kernel) (pa_cons (pe_lc (own := [("_law_k", 2)]) (g := gName 2) (by rfl) sc_l_same.nd (pi_range1 (by rfl) b.range (pa_cons (pe_callB call_len_seq (by rfl) b.len PySem.boot_len (pa_cons (pv 1) pa_nil)) pa_nil)) (blkOk_by (N := s_l_same_N) (sc := defScope s_l_same) (by decide +kernel)) (fun _ _ _ _ _ => (pg_name (i := 2) sc_l_same.nd rfl (Or.inl rfl))) (fun _ _ _ _ _ => pts_nil) (fun _ _ _ _ _ => (pe_c c hr (by omega) (by rfl) pass0 (pa_cons (pe_ix (ix_seqK K) (pv 0) (pv 2) (fun _ _ => rfl)) (pa_cons (pe_ix (ix_seqK K) (pv 1) (pv 2) (fun _ _ => rfl)) pa_nil))))) pa_nil)))))))))), ?_⟩
    cases hA with
    | non =>
      refine ⟨_, rfl, rfl, _, rfl, iteT ⟨_, rfl, rfl, ?_⟩⟩
      exact q H (Same.refl H)
    | bl z =>
      refine ⟨_, rfl, rfl, _, rfl, ifno ?_⟩
      refine ⟨_, rfl, _, _, _, _, true, rfl, .ty "bool", .base (.bl _), kit_ty (by decide +kernel), _, rfl, iteT ?_⟩
      refine ⟨_, rfl, _, _, _, _, true, rfl, .ty "bool", .base (.bl _), kit_ty (by decide +kernel), _, rfl, iteT ⟨_, rfl, _, rfl, rfl, ?_⟩⟩
      rw [decide_eq_true rfl]
      exact q H (Same.refl H)
    | int z =>
      refine ⟨_, rfl, rfl, _, rfl, ifno ?_⟩
      refine ⟨_, rfl, _, _, _, _, false, rfl, .ty "bool", .base (.int _), kit_ty (by decide +kernel), _, rfl, ifno ?_⟩
      refine ⟨_, rfl, _, _, _, _, true, rfl, .ty "int", .base (.int _), kit_ty (by decide +kernel), _, rfl, iteT ?_⟩
      refine ⟨_, rfl, _, _, _, _, true, rfl, .ty "int", .base (.int _), kit_ty (by decide +kernel), _, rfl, iteT ?_⟩
      refine ⟨_, rfl, _, _, _, _, false, rfl, .ty "bool", .base (.int _), kit_ty (by decide +kernel), _, rfl, _, rfl, iteT ⟨_, rfl, _, rfl, rfl, ?_⟩⟩
      rw [decide_eq_true rfl]
      exact q H (Same.refl H)
    | str z =>
      refine ⟨_, rfl, rfl, _, rfl, ifno ?_⟩
      refine ⟨_, rfl, _, _, _, _, false, rfl, .ty "bool", .base (.str _), kit_ty (by decide +kernel), _, rfl, ifno ?_⟩
      refine ⟨_, rfl, _, _, _, _, false, rfl, .ty "int", .base (.str _), kit_ty (by decide +kernel), _, rfl, ifno ?_⟩
      refine ⟨_, rfl, _, _, _, _, true, rfl, .ty "str", .base (.str _), kit_ty (by decide +kernel), _, rfl, iteT ?_⟩
      refine ⟨_, rfl, _, _, _, _, true, rfl, .ty "str", .base (.str _), kit_ty (by decide +kernel), _, rfl, iteT ⟨_, rfl, _, rfl, rfl, ?_⟩⟩
      rw [decide_eq_true rfl]
      exact q H (Same.refl H)
    | @lst m a a' xs ys ha hb hl hz hh =>
      refine ⟨_, rfl, rfl, _, rfl, ifno ?_⟩
      refine ⟨_, rfl, _, _, _, _, false, rfl, .ty "bool", tyL hb, kit_ty (by decide +kernel), _, rfl, ifno ?_⟩
      refine ⟨_, rfl, _, _, _, _, false, rfl, .ty "int", tyL hb, kit_ty (by decide +kernel), _, rfl, ifno ?_⟩
      refine ⟨_, rfl, _, _, _, _, false, rfl, .ty "str", tyL hb, kit_ty (by decide +kernel), _, rfl, ifno ?_⟩
      refine ⟨_, rfl, _, _, _, _, true, rfl, .ty "list", tyL hb, kit_ty (by decide +kernel), _, rfl, _, _, _, _, true, rfl, .ty "list", tyL ha, kit_ty (by decide +kernel), rfl, _, rfl, iteF ?_⟩
      refine ⟨_, rfl, _, _, _, _, false, rfl, .ty "tuple", tyL hb, kit_ty (by decide +kernel), _, rfl, _, _, _, _, false, rfl, .ty "tuple", tyL ha, kit_ty (by decide +kernel), rfl, _, rfl, ifno ?_⟩
      refine ⟨_, rfl, a, _, rfl, .inl ha, _, rfl, a', _, rfl, .inl hb, rfl, _, rfl, ?_⟩
      rw [decide_eq_true (congrArg (fun k : Nat => V.int (k : Int)) hl)]
      refine ifno ⟨_, rfl, a', _, rfl, .inl hb, (ys.length : Int), rfl, by omega, by omega, fun L nL => lc_range (lo := 0) (n := ys.length) (fun i Hx => Same H Hx ∧ Hx L = some (.lst ((List.replicate i true).map V.bl))) ⟨same_new (Same.refl H) nL, upd_same⟩ ?_ ?_⟩
      · rintro i Hx hi ⟨sx, eL⟩
        obtain ⟨u, hu⟩ : ∃ u, xs[i]? = some u := ⟨xs[i]'(by omega), List.getElem?_eq_getElem (by omega)⟩
        obtain ⟨v, hv⟩ : ∃ v, ys[i]? = some v := ⟨ys[i], List.getElem?_eq_getElem hi⟩
        have e0 : (0 : Int) + (i : Int) = (i : Int) := Int.zero_add _
        refine ⟨rfl, ⟨_, rfl, _, rfl, .inl ⟨a, _, _, u, rfl, rfl, sx.seq ha, by rw [e0]; exact atI_nat hu, _, rfl, _, rfl, .inl ⟨a', _, _, v, rfl, rfl, sx.seq hb, by rw [e0]; exact atI_nat hv, u, v, rfl, (hh i u v hu hv).same sx, fun H2 s2 => ⟨_, s2 _ _ eL, ?_, ?_, ?_⟩⟩⟩⟩⟩
        · refine sz_lt ?_
          rw [List.length_map, List.length_replicate]
          omega
        · exact same_new (sx.trans s2) nL
        · rw [upd_same, List.replicate_succ', List.map_append]
          rfl
      · rintro Hx ⟨sx, eL⟩
        refine ⟨L, _, rfl, SqL.of eL, ?_⟩
        rw [show (List.replicate ys.length true).all id = true by simp]
        exact q Hx sx
    | @tup m a a' xs ys ha hb hl hz hh =>
      refine ⟨_, rfl, rfl, _, rfl, ifno ?_⟩
      refine ⟨_, rfl, _, _, _, _, false, rfl, .ty "bool", tyT hb, kit_ty (by decide +kernel), _, rfl, ifno ?_⟩
      refine ⟨_, rfl, _, _, _, _, false, rfl, .ty "int", tyT hb, kit_ty (by decide +kernel), _, rfl, ifno ?_⟩
      refine ⟨_, rfl, _, _, _, _, false, rfl, .ty "str", tyT hb, kit_ty (by decide +kernel), _, rfl, ifno ?_⟩
      refine ⟨_, rfl, _, _, _, _, false, rfl, .ty "list", tyT hb, kit_ty (by decide +kernel), _, rfl, _, _, _, _, false, rfl, .ty "list", tyT ha, kit_ty (by decide +kernel), rfl, _, rfl, iteF ?_⟩
      refine ⟨_, rfl, _, _, _, _, true, rfl, .ty "tuple", tyT hb, kit_ty (by decide +kernel), _, rfl, _, _, _, _, true, rfl, .ty "tuple", tyT ha, kit_ty (by decide +kernel), rfl, _, rfl, ifno ?_⟩
      refine ⟨_, rfl, a, _, rfl, .inr ha, _, rfl, a', _, rfl, .inr hb, rfl, _, rfl, ?_⟩
      rw [decide_eq_true (congrArg (fun k : Nat => V.int (k : Int)) hl)]
      refine ifno ⟨_, rfl, a', _, rfl, .inr hb, (ys.length : Int), rfl, by omega, by omega, fun L nL => lc_range (lo := 0) (n := ys.length) (fun i Hx => Same H Hx ∧ Hx L = some (.lst ((List.replicate i true).map V.bl))) ⟨same_new (Same.refl H) nL, upd_same⟩ ?_ ?_⟩
      · rintro i Hx hi ⟨sx, eL⟩
        obtain ⟨u, hu⟩ : ∃ u, xs[i]? = some u := ⟨xs[i]'(by omega), List.getElem?_eq_getElem (by omega)⟩
        obtain ⟨v, hv⟩ : ∃ v, ys[i]? = some v := ⟨ys[i], List.getElem?_eq_getElem hi⟩
        have e0 : (0 : Int) + (i : Int) = (i : Int) := Int.zero_add _
        refine ⟨rfl, ⟨_, rfl, _, rfl, .inr (.inl ⟨a, _, _, u, rfl, rfl, same_seqT sx ha, by rw [e0]; exact atI_nat hu, _, rfl, _, rfl, .inr (.inl ⟨a', _, _, v, rfl, rfl, same_seqT sx hb, by rw [e0]; exact atI_nat hv, u, v, rfl, (hh i u v hu hv).same sx, fun H2 s2 => ⟨_, s2 _ _ eL, ?_, ?_, ?_⟩⟩)⟩)⟩⟩
        · refine sz_lt ?_
          rw [List.length_map, List.length_replicate]
          omega
        · exact same_new (sx.trans s2) nL
        · rw [upd_same, List.replicate_succ', List.map_append]
          rfl
      · rintro Hx ⟨sx, eL⟩
        refine ⟨L, _, rfl, SqL.of eL, ?_⟩
        rw [show (List.replicate ys.length true).all id = true by simp]
        exact q Hx sx


/-! ### the errors -/
theorem ok_KinError_init {f : Addr} {fd : FuncData} (F : Fun K "__init__" "KinError.__init__" s_KinError_init f fd) : FnOk P w K mg base CX0 1 f fd ["self", "word"] (spKin K) := by
  refine F.ok sc_KinError_init (fun vs H Q E h => ?_) (fun cdv A outer s H vs Q E hr h => ?_)
  · obtain ⟨a, C, y, rfl, _⟩ := h
    rfl
  · obtain ⟨a, C, y, rfl, T, ha, q⟩ := h
    refine ⟨_, (pss_one (ps_ost (pv 0) (pv 1))), ?_⟩
    exact ⟨_, rfl, _, rfl, a, C, rfl, T.ox, T.nw, .inl ⟨ha, fun dx nd ne => q dx nd ne⟩⟩
theorem kinBase_of {h : Heap} {C0 : Addr} (X : K.In h) (G : h.Ns mainGlobals mg) (d : BaseIn K s_KinError_init C0) : KinBase P w K mg base C0 := by
  obtain ⟨_, f0, oc, od, kV, doc, pm, an, cdv, ct, osl, a, r, g, v, l, c, k⟩ := d
  have F := fun_mk (st := s_KinError_init) l c k
  exact ⟨f0, _, _, PySem.W.mg_of X G a, ⟨r, g⟩, v, k, F.binds (ps := ["self", "word"]) (fun _ _ _ _ _ _ us hl => match us, hl with | [_, _], _ => rfl), ok_KinError_init F⟩


theorem ok_BadLand_init {f C0 : Addr} {fd : FuncData} (F : Fun K "__init__" "BadLand.__init__" s_BadLand_init f fd) (B : KinBase P w K mg base C0) : FnOk P w K mg base CX0 2 f fd ["self"] (spIni K "no land") := by
  obtain ⟨f0, fd0, mc, g0, r0, v0, k0, b0, F0⟩ := B
  refine F.ok sc_BadLand_init (fun vs H Q E h => ?_) (fun cdv A outer s H vs Q E hr h => ?_)
  · obtain ⟨a, C, rfl, _⟩ := h
    rfl
  · obtain ⟨a, C, rfl, T, ha, q⟩ := h
    refine ⟨_, (pss_one (ps_expr (pe_cfn (pe_glob (v := .ref C0) (by rfl) g0 rfl) r0 v0 k0 F0 hr (by omega) b0 pass0 (pa_cons (pv 0) (pa_cons pe_str pa_nil))))), ?_⟩
    exact ⟨rfl, _, rfl, a, C, _, rfl, T, ha, fun dx nd ne => q dx nd ne⟩
theorem rsb_BadLand {h : Heap} {C0 C : Addr} (X : K.In h) (G : h.Ns mainGlobals mg) (B : KinBase P w K mg base C0) (d : ErrIn K "BadLand" "BadLand.__init__" s_BadLand_init C) : Rsb P w K mg base 2 "BadLand" C "no land" := by
  obtain ⟨T, a, fI, oc, od, kV, doc, pm, an, cdv, ct, osl, iC, tI, l, c, k⟩ := d
  have F := fun_mk (st := s_BadLand_init) l c k
  exact ⟨PySem.W.mg_of X G a, T, fI, _, iC, tI, F.binds (ps := ["self"]) (fun _ _ _ _ _ _ us hl => match us, hl with | [_], _ => rfl), ok_BadLand_init F B⟩


theorem ok_Unequal_init {f C0 : Addr} {fd : FuncData} (F : Fun K "__init__" "Unequal.__init__" s_Unequal_init f fd) (B : KinBase P w K mg base C0) : FnOk P w K mg base CX0 2 f fd ["self", "section"] (spIniF K "section" "unequal parents") := by
  obtain ⟨f0, fd0, mc, g0, r0, v0, k0, b0, F0⟩ := B
  refine F.ok sc_Unequal_init (fun vs H Q E h => ?_) (fun cdv A outer s H vs Q E hr h => ?_)
  · obtain ⟨a, C, v, rfl, _⟩ := h
    rfl
  · obtain ⟨a, C, v, rfl, T, hfl, ha, q⟩ := h
    refine ⟨_, (pss_cons (ps_expr (pe_cfn (pe_glob (v := .ref C0) (by rfl) g0 rfl) r0 v0 k0 F0 hr (by omega) b0 pass0 (pa_cons (pv 0) (pa_cons pe_str pa_nil)))) (pss_one (ps_ost (pv 0) (pv 1)))), ?_⟩
    refine ⟨rfl, _, rfl, a, C, _, rfl, T, ha, fun dx nd ne => ?_⟩
    exact ⟨_, rfl, _, rfl, a, C, rfl, T.ox, hfl, .inr ⟨dx, _, upd_same, upd_old ne upd_same, by show 1 ≤ 900; decide, q dx nd ne⟩⟩
theorem rsb_Unequal {h : Heap} {C0 C : Addr} (X : K.In h) (G : h.Ns mainGlobals mg) (B : KinBase P w K mg base C0) (d : ErrIn K "Unequal" "Unequal.__init__" s_Unequal_init C) (hfl : PySem.W.findIn K (.ref C) "section" = some none) : RsbF P w K mg base 2 "Unequal" C "section" "section" "unequal parents" := by
  obtain ⟨T, a, fI, oc, od, kV, doc, pm, an, cdv, ct, osl, iC, tI, l, c, k⟩ := d
  have F := fun_mk (st := s_Unequal_init) l c k
  exact ⟨PySem.W.mg_of X G a, T, hfl, fI, _, iC, tI, F.binds (ps := ["self", "section"]) (fun _ _ _ _ _ _ us hl => match us, hl with | [_, _], _ => rfl), ok_Unequal_init F B⟩


/-! ### Land(mother, father, wife) -/
/-- rows that make a land but for the children -/
structure Rows3 (ms fs ws : List Int) : Prop where
  tm : Turn ms
  tf : Turn fs
  tw : Turn ws
  lf : fs.length = ms.length
  lw : ws.length = ms.length
  lo : 2 ≤ ms.length
  hi : ms.length ≤ 8
/-- the land's class as the text has it -/
structure LandC (K : PySem.W.Frag) (CL : Addr) : Prop where
  cl : Cls K CL
  ns : NoAttr K CL "size"
  nm : NoAttr K CL "mother"
  nf : NoAttr K CL "father"
  nw : NoAttr K CL "wife"
def sp_Land (K : PySem.W.Frag) (CL CB CU : Addr) : Sp := fun vs H Q E => ∃ (x dx a b c : Addr) (ms fs ws : List Int), vs = [.ref x, .ref a, .ref b, .ref c] ∧ H x = some (.ins CL dx []) ∧
  SqT K H a (ms.map V.int) ∧ SqT K H b (fs.map V.int) ∧ SqT K H c (ws.map V.int) ∧ ms.length ≤ 1000 ∧ fs.length ≤ 1000 ∧ ws.length ≤ 1000 ∧
  (¬ Rows3 ms fs ws → ∀ d H', H d = none → Same H H' → H' d = some (.xd [("word", .str "no land")]) → E (.ref CB) (some d) H') ∧
  (Rows3 ms fs ws → ∀ at' : Nat, at' < ws.length → (∀ j, j < at' → (after ws ms)[j]? = fs[j]?) → (after ws ms)[at']? ≠ fs[at']? → ∀ d H', H d = none → Same H H' → H' d = some (.xd [("section", .int (at' : Int)), ("word", .str "unequal parents")]) → E (.ref CU) (some d) H') ∧
  (Rows3 ms fs ws → fs = after ws ms → ∀ H', H' x = some (.ins CL dx (landF (ms.length : Int) a b c)) → (∀ y o, H y = some o → y ≠ x → H' y = some o) → Q .non H')
theorem ok_Land_init {f CL CB CU : Addr} {fd : FuncData} {tF tM : Tok} (D : Dm K CL "__init__" "Land.__init__" s_Land_init p_Land_init f fd) (b : Blt mg) (L : LandC K CL) (RB : Rsb P w K mg base 2 "BadLand" CB "no land") (RU : RsbF P w K mg base 2 "Unequal" CU "section" "section" "unequal parents")
    (gF : mg "FEWEST" = some (.int 2 tF)) (gM : mg "MOST" = some (.int 8 tM)) (c_is_turn : Cal P w K mg base CX0 1 "is_turn" p_is_turn (sp_is_turn K)) : FnOk P w K mg base (L2.CX P w) 4 f fd p_Land_init (sp_Land K CL CB CU) := by
  refine D.F.okX sc_Land_init (fun vs H Q E h => ?_) (fun cdv A outer s H vs Q E hr h => ?_)
  · obtain ⟨x, dx, a, b, c, ms, fs, ws, rfl, _⟩ := h
    rfl
  · obtain ⟨x, dx, a, a', c, ms, fs, ws, rfl, hx, ha, ha', hc, hm, hf, hw, eB, eU, q⟩ := h
    refine ⟨_, (pss_cons (ps_for (passes_of rfl) rfl (pi_tup (pe_tup (pa_cons (pv 1) (pa_cons (pv 2) (pa_cons (pv 3) pa_nil))))) (pg_name (i := 4) sc_Land_init.nd rfl (Or.inl rfl)) (pss_one (ps_if (PW.pt (pw_or (pt_not (pt_val (pe_c c_is_turn hr (by omega) (by rfl) pass0 (pa_cons (pv 4) pa_nil)))) (pw_or1 (pt_cmpR op_ne (pe_callB call_len_seq (by rfl) b.len PySem.boot_len (pa_cons (pv 4) pa_nil)) (pe_callB call_len_seq (by rfl) b.len PySem.boot_len (pa_cons (pv 1) pa_nil)) (nomark _))))) (pss_one (ps_rsb RB hr (by omega) rfl (takes_of rfl rfl rfl rfl) (by rfl))) pss_nil)))
      (pss_cons (ps_if (PW.pt (pw_or (pt_cmpR op_lt (pe_callB call_len_seq (by rfl) b.len PySem.boot_len (pa_cons (pv 1) pa_nil)) (pe_glob (v := .int 2) (by rfl) gF ⟨_, rfl⟩) (nomark _)) (pw_or1 (pt_cmpR op_gt (pe_callB call_len_seq (by rfl) b.len PySem.boot_len (pa_cons (pv 1) pa_nil)) (pe_glob (v := .int 8) (by rfl) gM ⟨_, rfl⟩) (nomark _))))) (pss_one (ps_rsb RB hr (by omega) rfl (takes_of rfl rfl rfl rfl) (by rfl))) pss_nil)
      (pss_cons (ps_for (passes_of rfl) rfl (pi_range1 (by rfl) b.range (pa_cons (pe_callB call_len_seq (by rfl) b.len PySem.boot_len (pa_cons (pv 3) pa_nil)) pa_nil)) (pg_name (i := 5) sc_Land_init.nd rfl (Or.inl rfl)) (pss_one (ps_if (pt_cmpR op_ne (pe_ix ix_tup (pv 1) (pe_ix ix_tup (pv 3) (pv 5) (fun _ _ => rfl)) (fun _ _ => rfl)) (pe_ix ix_tup (pv 2) (pv 5) (fun _ _ => rfl)) (nomark _)) (pss_one (ps_rsbF RU hr (by omega) rfl (takes_of rfl rfl rfl rfl) (by rfl) (pa_cons (pv 5) pa_nil) K)) pss_nil)))
      (pss_cons (ps_fld (pv 0) (pe_callB call_len_seq (by rfl) b.len PySem.boot_len (pa_cons (pv 1) pa_nil)) rfl)
      (pss_cons (ps_fld (pv 0) (pe_callTy call_tuple_of (by rfl) b.ty_tuple (by decide +kernel) (pa_cons (pv 1) pa_nil)) rfl)
      (pss_cons (ps_fld (pv 0) (pe_callTy call_tuple_of (by rfl) b.ty_tuple (by decide +kernel) (pa_cons (pv 2) pa_nil)) rfl)
      (pss_one (ps_fld (pv 0) (pe_callTy call_tuple_of (by rfl) b.ty_tuple (by decide +kernel) (pa_cons (pv 3) pa_nil)) rfl)))))))), ?_⟩
    have bad : ∀ H', Same H H' → ¬ Rows3 ms fs ws → ∀ d, H' d = none → E (.ref CB) (some d) (upd H' d (.xd [("word", .str "no land")])) := fun H' s1 hno d nd => eB hno d _ (s1.free nd) (same_new s1 (s1.free nd)) upd_same
    -- for turn in (mother, father, wife)
    refine ⟨_, rfl, _, rfl, _, rfl, (by show 3 ≤ sizeLine; decide), fun tp ntp => ?_⟩
    have sT : Same H (upd H tp (.tup [.ref a, .ref a', .ref c])) := same_new (Same.refl _) ntp
    refine ⟨tp, rfl, ⟨_, SqT.of upd_same⟩, for_tup (K := K) (a := tp) (xs := [.ref a, .ref a', .ref c]) (fun i σ' H' => ∃ y4 : Option V, Same (upd H tp (.tup [.ref a, .ref a', .ref c])) H' ∧ σ' = [some (.ref x), some (.ref a), some (.ref a'), some (.ref c), y4, none] ∧
        (1 ≤ i → Turn ms) ∧ (2 ≤ i → Turn fs ∧ fs.length = ms.length) ∧ (3 ≤ i → Turn ws ∧ ws.length = ms.length))
      ⟨none, Same.refl _, rfl, fun h => by omega, fun h => by omega, fun h => by omega⟩ (fun i σ' H' _ ⟨_, s', _⟩ => SqT.of (s' _ _ upd_same)) ?_ ?_⟩
    · have key : ∀ (r : Addr) (ks : List Int) (H8 : Hp) (N bk : L2.St → Hp → Prop) (rt : VK), ks.length ≤ 1000 → Same H H8 → SqT K H r (ks.map V.int) → (Rows3 ms fs ws → Turn ks ∧ ks.length = ms.length) →
          (Turn ks → ks.length = ms.length → ∀ H9, Same H8 H9 → N [some (.ref x), some (.ref a), some (.ref a'), some (.ref c), some (.ref r), none] H9) →
          (tIfS (tOr (tNot (tB (tCall (sp_is_turn K) [] E0 (tCons (tVar 4) tNil)))) (tTest (tOp rNe (tCB (fun xs H Q => ∃ p ys, xs = [.ref p] ∧ (SqL K H p ys ∨ SqT K H p ys) ∧ Q (.int ys.length) H) (tCons (tVar 4) tNil)) (tCB (fun xs H Q => ∃ p ys, xs = [.ref p] ∧ (SqL K H p ys ∨ SqT K H p ys) ∧ Q (.int ys.length) H) (tCons (tVar 1) tNil))))) (tRsb CB "no land" fun cls d σ H => E cls d H) tNext)
            { nx := N, rt := rt, bk := bk, ct := N } [some (.ref x), some (.ref a), some (.ref a'), some (.ref c), some (.ref r), none] H8 := by
        intro r ks H8 N bk rt hk s8 hr8 hgood hN
        refine ⟨_, rfl, r, ks, rfl, .inr (same_seqT s8 hr8), hk, fun H9 s9 => ⟨_, rfl, ?_⟩⟩
        cases h1 : isTurn ks with
        | false =>
          refine iteT (bad H9 (s8.trans s9) fun z => ?_)
          rw [isTurn_iff.mpr (hgood z).1] at h1
          cases h1
        | true =>
          have s10 := s8.trans s9
          refine iteF ⟨_, rfl, r, _, rfl, .inr (same_seqT s10 hr8), _, rfl, a, _, rfl, .inr (same_seqT s10 ha), rfl, _, rfl, ?_⟩
          by_cases hl : ks.length = ms.length
          · rw [decide_eq_true (show V.int (((ks.map V.int).length : Nat) : Int) = V.int (((ms.map V.int).length : Nat) : Int) by rw [List.length_map, List.length_map, hl])]
            exact iteF (hN (isTurn_iff.mp h1) hl H9 s9)
          · rw [decide_eq_false (show ¬ V.int (((ks.map V.int).length : Nat) : Int) = V.int (((ms.map V.int).length : Nat) : Int) from fun z => hl (by
              have z2 := V.int.inj z
              rw [List.length_map, List.length_map] at z2
              omega))]
            exact iteT (bad H9 s10 fun z => hl (hgood z).2)
      rintro i y σ8 H8 hi ⟨y4, s8, rfl, p1, p2, p3⟩
      match i, hi with
      | 0, hi =>
        have ex : y = .ref a := (Option.some.inj hi).symm
        subst ex
        exact key a ms H8 _ _ _ hm (sT.trans s8) ha (fun z => ⟨z.tm, rfl⟩) (fun t l H9 s9 => ⟨_, s8.trans s9, rfl, fun _ => t, fun h => by omega, fun h => by omega⟩)
      | 1, hi =>
        have ex : y = .ref a' := (Option.some.inj hi).symm
        subst ex
        exact key a' fs H8 _ _ _ hf (sT.trans s8) ha' (fun z => ⟨z.tf, z.lf⟩) (fun t l H9 s9 => ⟨_, s8.trans s9, rfl, fun _ => p1 (by omega), fun _ => ⟨t, l⟩, fun h => by omega⟩)
      | 2, hi =>
        have ex : y = .ref c := (Option.some.inj hi).symm
        subst ex
        exact key c ws H8 _ _ _ hw (sT.trans s8) hc (fun z => ⟨z.tw, z.lw⟩) (fun t l H9 s9 => ⟨_, s8.trans s9, rfl, fun _ => p1 (by omega), fun _ => p2 (by omega), fun _ => ⟨t, l⟩⟩)
      | i + 3, hi => simp at hi
    rintro σ1 H1 ⟨y4, s1, rfl, p1, p2, p3⟩
    have tm := p1 (by show 1 ≤ 3; decide)
    obtain ⟨tf, lf⟩ := p2 (by show 2 ≤ 3; decide)
    obtain ⟨tw, lw⟩ := p3 (by show 3 ≤ 3; decide)
    have s2 : Same H H1 := sT.trans s1
    have el : (((ms.map V.int).length : Nat) : Int) = (ms.length : Int) := by rw [List.length_map]
    -- if len(mother) < FEWEST or len(mother) > MOST
    refine ⟨_, rfl, a, _, rfl, .inr (same_seqT s2 ha), _, _, rfl, rfl, _, rfl, ite2 (fun e => ?_) (fun e => ?_)⟩
    · have e1 := of_decide_eq_true e
      rw [el] at e1
      exact iteT (bad H1 s2 fun z => by have := z.lo; omega)
    have l2 : 2 ≤ ms.length := by
      have e1 : ¬ (((ms.map V.int).length : Nat) : Int) < 2 := fun z => e (decide_eq_true z)
      rw [el] at e1
      omega
    refine ⟨_, rfl, a, _, rfl, .inr (same_seqT s2 ha), _, _, rfl, rfl, _, rfl, ite2 (fun e => ?_) (fun e => ?_)⟩
    · have e1 := of_decide_eq_true e
      rw [el] at e1
      exact bad H1 s2 fun z => by have := z.hi; omega
    have l8 : ms.length ≤ 8 := by
      have e1 : ¬ (8 : Int) < (((ms.map V.int).length : Nat) : Int) := fun z => e (decide_eq_true z)
      rw [el] at e1
      omega
    have R3 : Rows3 ms fs ws := ⟨tm, tf, tw, lf, lw, l2, l8⟩
    -- for at in range(len(wife))
    have elw : (((ws.map V.int).length : Nat) : Int) = (ws.length : Int) := by rw [List.length_map]
    refine ⟨_, rfl, c, _, rfl, .inr (same_seqT s2 hc), (ws.length : Int), (by rw [elw]), by omega, by omega, for_range (lo := 0) (n := ws.length) (fun i σ' H' => ∃ y5 : Option V, H' = H1 ∧ σ' = [some (.ref x), some (.ref a), some (.ref a'), some (.ref c), y4, y5] ∧ ∀ j, j < i → (after ws ms)[j]? = fs[j]?)
      ⟨none, rfl, rfl, fun j h => by omega⟩ ?_ ?_⟩
    · rintro i σ' H' hi ⟨y5, rfl, rfl, hj⟩
      have e0 : (0 : Int) + (i : Int) = (i : Int) := Int.zero_add _
      obtain ⟨z, hz⟩ : ∃ z, ws[i]? = some z := ⟨ws[i], List.getElem?_eq_getElem hi⟩
      have hz2 := tw.lo z (List.mem_of_getElem? hz)
      obtain ⟨u, hu⟩ : ∃ u, fs[i]? = some u := ⟨fs[i]'(by omega), List.getElem?_eq_getElem (by omega)⟩
      have haf : (after ws ms)[i]? = some (ms.getD z.toNat 0) := by
        unfold after
        rw [List.getElem?_map, hz]
        rfl
      refine ⟨_, rfl, _, rfl, _, rfl, c, _, _, .int z, rfl, rfl, same_seqT s2 hc, (by rw [e0]; exact at_int (by omega) hz), a, _, _, .int (ms.getD z.toNat 0), rfl, rfl, same_seqT s2 ha, at_int hz2.1 (getD_some (by omega)), _, rfl, _, rfl, a', _, _, .int u, rfl, rfl, same_seqT s2 ha', (by rw [e0]; exact at_int (by omega) hu), rfl, _, rfl, ?_⟩
      by_cases he : ms.getD z.toNat 0 = u
      · rw [decide_eq_true (congrArg V.int he)]
        refine iteF ⟨_, rfl, rfl, fun j hji => ?_⟩
        by_cases e : j = i
        · rw [e, haf, hu, he]
        · exact hj j (by omega)
      · rw [decide_eq_false (fun z => he (V.int.inj z))]
        refine iteT ⟨_, rfl, mkF RU.2.1 RU.2.2.1 fun d nd => ?_⟩
        rw [e0]
        exact eU R3 i hi hj (by rw [haf, hu]; exact fun z => he (Option.some.inj z)) d _ (s2.free nd) (same_new s2 (s2.free nd)) upd_same
    rintro σ2 H2 ⟨y5, rfl, rfl, hj⟩
    have hfs : fs = after ws ms := by
      refine List.ext_getElem? fun i => ?_
      by_cases h : i < ws.length
      · exact (hj i h).symm
      · rw [List.getElem?_eq_none (by omega), List.getElem?_eq_none (by rw [after_len]; omega)]
    have hx2 : H2 x = some (.ins CL dx []) := s2 _ _ hx
    -- the fields
    refine ⟨_, rfl, a, _, rfl, .inr (same_seqT s2 ha), _, rfl, x, CL, dx, _, rfl, hx2, L.cl, L.ns, (by show 0 < 1000; decide), ?_⟩
    have a3 := sqT_ins (o := .ins CL dx (putF "size" (.int (((ms.map V.int).length : Nat) : Int)) [])) hx2 (same_seqT s2 ha)
    have b3 := sqT_ins (o := .ins CL dx (putF "size" (.int (((ms.map V.int).length : Nat) : Int)) [])) hx2 (same_seqT s2 ha')
    have c3 := sqT_ins (o := .ins CL dx (putF "size" (.int (((ms.map V.int).length : Nat) : Int)) [])) hx2 (same_seqT s2 hc)
    refine ⟨_, rfl, a, _, rfl, .inr ⟨a3, _, rfl, x, CL, dx, _, rfl, upd_same, L.cl, L.nm, (by show 1 < 1000; decide), ?_⟩⟩
    refine ⟨_, rfl, a', _, rfl, .inr ⟨sqT_ins upd_same b3, _, rfl, x, CL, dx, _, rfl, upd_same, L.cl, L.nf, (by show 2 < 1000; decide), ?_⟩⟩
    refine ⟨_, rfl, c, _, rfl, .inr ⟨sqT_ins upd_same (sqT_ins upd_same c3), _, rfl, x, CL, dx, _, rfl, upd_same, L.cl, L.nw, (by show 3 < 1000; decide), ?_⟩⟩
    refine q R3 hfs _ ?_ fun y o e n => ?_
    · rw [upd_same, landF_put, el]
    · rw [upd_ne n, upd_ne n, upd_ne n, upd_ne n]
      exact s2 _ _ e


/-! ### _law_size -/
def sp_size : Sp := fun vs H Q _ => ∃ (c : Int), vs = [.int c] ∧ ∀ (n : Nat) H', n ≤ 8 → Same H H' → Q (.int (n : Int)) H'
theorem ok_l_size {f : Addr} {fd : FuncData} (D : Dn K mg "_law_size" s_l_size p_l_size f fd) (b : Blt mg) : Cal P w K mg base CX0 1 "_law_size" p_l_size sp_size := by
  refine D.cal (D.F.ok sc_l_size (fun vs H Q E h => ?_) (fun cdv A outer s H vs Q E hr h => ?_))
  · obtain ⟨c, rfl, _⟩ := h
    rfl
  · obtain ⟨c, rfl, q⟩ := h
    refine ⟨_, (pss_cons (ps_set (i := 1) sc_l_size.nd rfl (Or.inl rfl) (pe_op op_add pe_int (pe_op op_mod (pv 0) pe_int)))
      (pss_cons (ps_if (pt_cmpR op_eq (pe_op op_mod (pe_op op_fdivW (pv 0) pe_int) pe_int) pe_int (nomark _)) (pss_one (ps_set (i := 1) sc_l_size.nd rfl (Or.inl rfl) (pe_ix ix_list (pe_lst (pa_cons pe_int (pa_cons pe_int (pa_cons pe_int (pa_cons pe_int pa_nil))))) (pe_op op_mod (pe_op op_fdivW (pv 0) pe_int) pe_int) (fun _ _ => rfl)))) pss_nil)
      (pss_one (ps_ret (pv 1))))), ?_⟩
    have h7 : 0 ≤ c % 7 := Int.emod_nonneg _ (by decide)
    have h7' : c % 7 < 7 := Int.emod_lt_of_pos _ (by decide)
    refine ⟨_, rfl, _, _, rfl, rfl, (by show (0 : Int) < 7; decide), _, _, rfl, rfl, ?_⟩
    dsimp only
    walk_at "nx"
    refine seq_cut (fun σ' H' => Same H H' ∧ ∃ n : Nat, n ≤ 8 ∧ σ' = [some (.int c), some (.int (n : Int))]) (fun N hN => ?_) ?_
    · refine ⟨_, rfl, _, _, rfl, rfl, wide_div (b := 60) (by decide) (by decide) (by decide) (by decide), _, _, rfl, rfl, (by show (0 : Int) < 4; decide), rfl, _, rfl, ite2 (fun e => ?_) (fun e => hN _ _ ⟨Same.refl _, (2 + c % 7).toNat, by omega, ?_⟩)⟩
      · refine ⟨(by show 4 ≤ sizeLine; decide), fun l nl => ?_⟩
        have hk : 0 ≤ c / 28 % 4 := Int.emod_nonneg _ (by decide)
        have hk' : c / 28 % 4 < 4 := Int.emod_lt_of_pos _ (by decide)
        obtain ⟨v, hv, hv8⟩ : ∃ v : Nat, atI [V.int 1, V.int 0, V.int 8, V.int 1] (c / 28 % 4) = some (.int (v : Int)) ∧ v ≤ 8 := by
          generalize c / 28 % 4 = k at *
          have : k = 0 ∨ k = 1 ∨ k = 2 ∨ k = 3 := by omega
          rcases this with h | h | h | h <;> subst h
          · exact ⟨1, at_V (by decide) rfl, by decide⟩
          · exact ⟨0, at_V (by decide) rfl, by decide⟩
          · exact ⟨8, at_V (by decide) rfl, by decide⟩
          · exact ⟨1, at_V (by decide) rfl, by decide⟩
        exact ⟨_, rfl, _, _, rfl, rfl, wide_div (b := 60) (by decide) (by decide) (by decide) (by decide), _, _, rfl, rfl, (by show (0 : Int) < 4; decide), l, _, _, _, rfl, rfl, SqL.of upd_same, hv, hN _ _ ⟨same_new (Same.refl _) nl, v, hv8, rfl⟩⟩
      · rw [show (((2 + c % 7).toNat : Nat) : Int) = 2 + c % 7 by omega]
        rfl
    · rintro σ' H' ⟨s1, n, hn, rfl⟩
      exact ⟨_, rfl, q n H' hn s1⟩


/-! ### _law_asked -/
def sp_asked (K : PySem.W.Frag) : Sp := fun vs H Q _ => ∃ (a r0 r1 r2 : Addr) (ms fs ws : List Int), vs = [.ref a] ∧ SqL K H a [.ref r0, .ref r1, .ref r2] ∧ SqT K H r0 (ms.map V.int) ∧ SqT K H r1 (fs.map V.int) ∧ SqT K H r2 (ws.map V.int) ∧ ms.length ≤ 1000 ∧ fs.length ≤ 1000 ∧ ws.length ≤ 1000 ∧
  (¬ Rows3 ms fs ws → ∀ p H', Same H H' → H' p = some (.tup [.str "refused", .str "no land", .bl true]) → Q (.ref p) H') ∧
  (Rows3 ms fs ws → ∀ at' : Nat, at' < ws.length → (∀ j, j < at' → (after ws ms)[j]? = fs[j]?) → (after ws ms)[at']? ≠ fs[at']? → ∀ p H', Same H H' → H' p = some (.tup [.str "unequal", .int (at' : Int), .str "unequal parents", .bl false]) → Q (.ref p) H') ∧
  (Rows3 ms fs ws → fs = after ws ms → ∀ p mo fa wi H', Same H H' → SqT K H' mo (ms.map V.int) → SqT K H' fa (fs.map V.int) → SqT K H' wi (ws.map V.int) → H' p = some (.tup [.str "told", .int (ms.length : Int), .ref mo, .ref fa, .ref wi]) → Q (.ref p) H')
theorem ok_l_asked {f CB CU C0 CL : Addr} {fd : FuncData} (D : Dn K mg "_law_asked" s_l_asked p_l_asked f fd) (b : Blt mg) (g0 : mg "KinError" = some (.ref C0)) (gB : mg "BadLand" = some (.ref CB)) (gU : mg "Unequal" = some (.ref CU)) (TB : KinC K CB) (TU : KinC K CU) (UB : Under K CB C0) (L : LandC K CL)
    (hse : PySem.W.findIn K (.ref CU) "section" = some none) (sUU : PySem.W.subIn K (.ref CU) (.ref CU) = some true) (sBU : PySem.W.subIn K (.ref CB) (.ref CU) = some false) (sUB : PySem.W.subIn K (.ref CU) (.ref CB) = some false) (nUB : CU ≠ CB)
    (ML : Mak P w K mg base (L2.CX P w) 4 "Land" CL p_Land_init (sp_Land K CL CB CU)) :
    Cal P w K mg base CX0 6 "_law_asked" p_l_asked (sp_asked K) := by
  refine D.cal (D.F.ok sc_l_asked (fun vs H Q E h => ?_) (fun cdv A outer s H vs Q E hr h => ?_))
  · obtain ⟨a, r0, r1, r2, ms, fs, ws, rfl, _⟩ := h
    rfl
  · obtain ⟨a, r0, r1, r2, ms, fs, ws, rfl, hS, h0, h1, h2, lm, lf, lw, e1, e2, q⟩ := h
    refine ⟨_, (pss_one (ps_try_ases (by rfl) (by rfl) sc_l_asked.nd takes0 (fun W pn xe tk _ => (pss_cons (ps_set (i := 1) sc_l_asked.nd rfl (Or.inl rfl) (pe_mkS ML hr (by omega) (by rfl) (fun σ => passAt tk σ) (pa_cons (pe_ix (ix_listK K) (pv 0) pe_int (fun _ _ => rfl)) (pa_cons (pe_ix (ix_listK K) (pv 0) pe_int (fun _ _ => rfl)) (pa_cons (pe_ix (ix_listK K) (pv 0) pe_int (fun _ _ => rfl)) pa_nil)))))
      (pss_one (ps_ret (pe_tup (pa_cons pe_str (pa_cons (pe_fldK K (pv 1) rfl) (pa_cons (pe_fldK K (pv 1) rfl) (pa_cons (pe_fldK K (pv 1) rfl) (pa_cons (pe_fldK K (pv 1) rfl) pa_nil)))))))))) (AsOk.cons (i := 2) rfl rfl ⟨rfl, by decide, Or.inl gU⟩ (fun a oe cls d pn hz hf => (pss_one (ps_ret (pe_tup (pa_cons pe_str (pa_cons (pe_ef K hz hf (pv 2)) (pa_cons (pe_ef K hz hf (pv 2)) (pa_cons (pe_callB (call_eis K hz hf) (by rfl) b.isinstance (by decide +kernel) (pa_cons (pv 2) (pa_cons (pe_glob (v := .ref CB) (by rfl) gB rfl) pa_nil))) pa_nil)))))))) (AsOk.cons (i := 2) rfl rfl ⟨rfl, by decide, Or.inl g0⟩ (fun a oe cls d pn hz hf => (pss_one (ps_ret (pe_tup (pa_cons pe_str (pa_cons (pe_ef K hz hf (pv 2)) (pa_cons (pe_callB (call_eis K hz hf) (by rfl) b.isinstance (by decide +kernel) (pa_cons (pv 2) (pa_cons (pe_glob (v := .ref CB) (by rfl) gB rfl) pa_nil))) pa_nil))))))) AsOk.nil)))), ?_⟩
    refine ⟨_, rfl, a, _, _, .ref r0, rfl, rfl, hS, rfl, _, rfl, a, _, _, .ref r1, rfl, rfl, hS, rfl, _, rfl, a, _, _, .ref r2, rfl, rfl, hS, rfl, fun x dx nx ndx ne => ?_⟩
    have s0 : Same H (upd (upd H dx (.own x)) x (.ins CL dx [])) := same_new (same_new (Same.refl _) ndx) nx
    refine ⟨x, dx, r0, r1, r2, ms, fs, ws, rfl, upd_same, same_seqT s0 h0, same_seqT s0 h1, same_seqT s0 h2, lm, lf, lw, fun hno d H1 nd s1 hd => ?_, fun R at' hat hlt hne d H1 nd s1 hd => ?_, fun R hf H1 hx hk => ⟨rfl, ?_⟩⟩
    · refine ⟨false, PySem.W.exm_ref TU.ox.exC TU.xf.hdC TU.ox.tyC sBU, (fun z => nomatch z), fun _ => ⟨true, UB, fun _ y ny => ?_, fun z => nomatch z⟩⟩
      refine ⟨_, rfl, CB, d, _, _, rfl, rfl, TB.xf, TB.nw, rfl, hd, rfl, ?_⟩
      refine ⟨_, rfl, CB, d, _, _, _, true, rfl, rfl, TB, rfl, hd, .own CB, kit_self K CB, ?_⟩
      have s2 := s0.trans s1
      exact ⟨by decide, fun p np => e1 hno p _ (same_new s2 (s2.free np)) upd_same⟩
    · refine ⟨true, PySem.W.exm_ref TU.ox.exC TU.xf.hdC TU.ox.tyC sUU, fun _ y ny => ?_, fun z => nomatch z⟩
      refine ⟨_, rfl, CU, d, _, _, rfl, rfl, TU.xf, hse, rfl, hd, rfl, _, rfl, CU, d, _, _, rfl, rfl, TU.xf, TU.nw, rfl, hd, rfl, ?_⟩
      refine ⟨_, rfl, CU, d, _, _, _, false, rfl, rfl, TU, rfl, hd, .own CB, kit_sub TB sUB nUB, ?_⟩
      have s2 := s0.trans s1
      exact ⟨(by show 4 ≤ sizeLine; decide), fun p np => e2 R at' hat hlt hne p _ (same_new s2 (s2.free np)) upd_same⟩
    · have s1 : Same H H1 := fun y o e => hk y o (s0 y o e) (ne_of_none e nx)
      refine ⟨_, rfl, x, CL, dx, _, _, rfl, hx, L.cl, L.ns, landF_size _ _ _ _, _, rfl, x, CL, dx, _, _, rfl, hx, L.cl, L.nm, landF_mother _ _ _ _, _, rfl, x, CL, dx, _, _, rfl, hx, L.cl, L.nf, landF_father _ _ _ _, _, rfl, x, CL, dx, _, _, rfl, hx, L.cl, L.nw, landF_wife _ _ _ _, (by show 5 ≤ sizeLine; decide), fun p np => ?_⟩
      have sp := same_new (o := .tup [.str "told", .int (ms.length : Int), .ref r0, .ref r1, .ref r2]) s1 (s1.free np)
      exact q R hf p r0 r1 r2 _ sp (same_seqT sp h0) (same_seqT sp h1) (same_seqT sp h2) upd_same


/-! ### the law -/
theorem first_of {p : Nat → Bool} {n a : Nat} {r : List Nat} (h : (List.range n).filter p = a :: r) : a < n ∧ p a = true ∧ ∀ j, j < a → p j = false := by
  have hm : a ∈ (List.range n).filter p := by rw [h]; exact List.mem_cons_self
  obtain ⟨h1, h2⟩ := List.mem_filter.mp hm
  refine ⟨List.mem_range.mp h1, h2, fun j hj => ?_⟩
  cases e : p j with
  | false => rfl
  | true =>
    have hj2 : j ∈ (List.range n).filter p := List.mem_filter.mpr ⟨List.mem_range.mpr (by have := List.mem_range.mp h1; omega), e⟩
    have hs : ((List.range n).filter p).Pairwise (· < ·) := List.pairwise_lt_range.filter _
    rw [h] at hj2 hs
    rcases List.mem_cons.mp hj2 with z | z
    · omega
    · have := (List.pairwise_cons.mp hs).1 j z
      omega
def spLaw (K : PySem.W.Frag) : Sp := fun vs H Q _ => ∃ (a : Addr) (ns : List Int), vs = [.ref a] ∧ SqL K H a (ns.map V.int) ∧ ns.length ≤ 63 ∧ ∀ H', Q (.bl true) H'
theorem ok_law {f : Addr} {fd : FuncData} (D : Dn K mg "law" s_law p_law f fd) (b : Blt mg) (c_l_cell : Cal P w K mg base CX0 1 "_law_cell" p_l_cell (sp_cell K)) (c_l_draws : Cal P w K mg base CX0 1 "_law_draws" p_l_draws (sp_draws K)) (c_l_turn : Cal P w K mg base CX0 1 "_law_turn" p_l_turn sp_turn) (c_l_after : Cal P w K mg base CX0 1 "_law_after" p_l_after (sp_l_after K))
    (c_l_same : ∀ n, Cal P w K mg base CX0 n "_law_same" p_l_same (sp_same K n)) (c_l_size : Cal P w K mg base CX0 1 "_law_size" p_l_size sp_size) (c_l_asked : Cal P w K mg base CX0 6 "_law_asked" p_l_asked (sp_asked K)) :
    FnOk P w K mg base CX0 7 f fd p_law (spLaw K) := by
  refine D.F.ok sc_law (fun vs H Q E h => ?_) (fun cdv A outer s H vs Q E hr h => ?_)
  · obtain ⟨a, ns, rfl, _⟩ := h
    rfl
  · obtain ⟨a, ns, rfl, hS, hlen, q⟩ := h
    refine ⟨_, (pss_cons (ps_set (i := 0) sc_law.nd rfl (Or.inl rfl) (pe_slice sl_list (pv 0) po_none (po_some pe_int)))
      (pss_cons (ps_set (i := 1) sc_law.nd rfl (Or.inl rfl) (pe_c c_l_size hr (by omega) (by rfl) pass0 (pa_cons (pe_c c_l_cell hr (by omega) (by rfl) pass0 (pa_cons (pv 0) (pa_cons pe_int pa_nil))) pa_nil)))
      (pss_cons (ps_set (i := 2) sc_law.nd rfl (Or.inl rfl) (pe_c c_l_draws hr (by omega) (by rfl) pass0 (pa_cons (pe_c c_l_cell hr (by omega) (by rfl) pass0 (pa_cons (pv 0) (pa_cons pe_int pa_nil))) (pa_cons (pe_lst (pa_cons pe_int (pa_cons pe_int (pa_cons pe_int (pa_cons pe_int (pa_cons pe_int (pa_cons pe_int (pa_cons pe_int pa_nil)))))))) pa_nil))))
      (pss_cons (ps_set (i := 3) sc_law.nd rfl (Or.inl rfl) (pe_c c_l_turn hr (by omega) (by rfl) pass0 (pa_cons (pe_ix ix_list (pv 2) pe_int (fun _ _ => rfl)) (pa_cons (pv 1) pa_nil))))
      (pss_cons (ps_set (i := 4) sc_law.nd rfl (Or.inl rfl) (pe_c c_l_turn hr (by omega) (by rfl) pass0 (pa_cons (pe_ix ix_list (pv 2) pe_int (fun _ _ => rfl)) (pa_cons (pv 1) pa_nil))))
      (pss_cons (ps_set (i := 5) sc_law.nd rfl (Or.inr rfl) (pe_lst (pa_cons (pv 3) (pa_cons (pe_c c_l_after hr (by omega) (by rfl) pass0 (pa_cons (pv 4) (pa_cons (pv 3) pa_nil))) (pa_cons (pv 4) pa_nil)))))
      (pss_cons (ps_set (i := 6) sc_law.nd rfl (Or.inl rfl) (pe_callTy call_list_of (by rfl) b.ty_list (by decide +kernel) (pa_cons (pe_ix ix_list (pv 5) (pe_ix ix_list (pv 2) pe_int (fun _ _ => rfl)) (fun _ _ => rfl)) pa_nil)))
      (pss_cons (ps_if (PW.pt (pw_and (pt_cmpR op_in_seq (pe_ix ix_list (pv 2) pe_int (fun _ _ => rfl)) (pe_tup (pa_cons pe_int (pa_cons pe_int pa_nil))) (by rfl)) (pw_and1 (pt_cmpR op_gt (pv 1) pe_int (nomark _))))) (pss_cons (ps_set (i := 7) sc_law.nd rfl (Or.inl rfl) (pe_ix ix_list (pv 6) (pe_op op_mod (pe_ix ix_list (pv 2) pe_int (fun _ _ => rfl)) (pv 1)) (fun _ _ => rfl)))
      (pss_cons (ps_asg (pe_ix ix_list (pv 6) (pe_op op_mod (pe_ix ix_list (pv 2) pe_int (fun _ _ => rfl)) (pv 1)) (fun _ _ => rfl)) (pg_sub (pv 6) (pe_op op_mod (pe_ix ix_list (pv 2) pe_int (fun _ _ => rfl)) (pv 1)) set_list))
      (pss_one (ps_asg (pv 7) (pg_sub (pv 6) (pe_op op_mod (pe_ix ix_list (pv 2) pe_int (fun _ _ => rfl)) (pv 1)) set_list))))) pss_nil)
      (pss_cons (ps_if (PW.pt (pw_and (pt_cmpR op_eq (pe_ix ix_list (pv 2) pe_int (fun _ _ => rfl)) pe_int (nomark _)) (pw_and1 (pt_cmpR op_gt (pv 1) pe_int (nomark _))))) (pss_one (ps_asg (pe_op op_sub (pe_ix ix_list (pv 2) pe_int (fun _ _ => rfl)) pe_int) (pg_sub (pv 6) (pe_op op_mod (pe_ix ix_list (pv 2) pe_int (fun _ _ => rfl)) (pv 1)) set_list))) pss_nil)
      (pss_cons (ps_if (PW.pt (pw_and (pt_cmpR op_eq (pe_ix ix_list (pv 2) pe_int (fun _ _ => rfl)) pe_int (nomark _)) (pw_and1 (pt_cmpR op_gt (pv 1) pe_int (nomark _))))) (pss_one (ps_expr (pe_bm PySem.F.plainAttrs_list PySem.F.slot_list_pop PySem.F.type_list_pop mt_popAt (pv 6) (pa_cons (pe_op op_mod (pe_ix ix_list (pv 2) pe_int (fun _ _ => rfl)) (pv 1)) pa_nil)))) pss_nil)
      (pss_cons (ps_if (pt_cmpR op_eq (pe_ix ix_list (pv 2) pe_int (fun _ _ => rfl)) pe_int (nomark _)) (pss_one (ps_expr (pe_bm PySem.F.plainAttrs_list PySem.F.slot_list_append PySem.F.type_list_append mt_append (pv 6) (pa_cons (pv 1) pa_nil)))) pss_nil)
      (pss_cons (ps_asg (pe_callTy call_tuple_of (by rfl) b.ty_tuple (by decide +kernel) (pa_cons (pv 6) pa_nil)) (pg_sub (pv 5) (pe_ix ix_list (pv 2) pe_int (fun _ _ => rfl)) set_list))
      (pss_cons (ps_set (i := 8) sc_law.nd rfl (Or.inl rfl) (pe_cmpR op_in_rng (pe_callB call_len_seq (by rfl) b.len PySem.boot_len (pa_cons (pe_ix ix_list (pv 5) pe_int (fun _ _ => rfl)) pa_nil)) (pe_callTy cr_range2 (by rfl) b.range (by decide +kernel) (pa_cons pe_int (pa_cons pe_int pa_nil))) (by rfl)))
      (pss_cons (ps_for PassesOwn.never rfl (pi_list (pv 5)) (pg_name (i := 9) sc_law.nd rfl (Or.inl rfl)) (pss_one (ps_if (PW.pt (pw_or (pt_cmpR op_ne (pe_callB call_len_seq (by rfl) b.len PySem.boot_len (pa_cons (pv 9) pa_nil)) (pe_callB call_len_seq (by rfl) b.len PySem.boot_len (pa_cons (pe_ix ix_list (pv 5) pe_int (fun _ _ => rfl)) pa_nil)) (nomark _)) (pw_or1 (pt_cmpR (op_neD hr.units) (pe_callB cr_sortedTup (by rfl) b.sorted (by decide +kernel) (pa_cons (pv 9) pa_nil)) (pe_listRg rfl (by rfl) b.ty_list (prg_1 (by rfl) b.range (pe_callB call_len_seq (by rfl) b.len PySem.boot_len (pa_cons (pv 9) pa_nil)))) (nomark _))))) (pss_one (ps_set (i := 8) sc_law.nd rfl (Or.inl rfl) pe_bl)) pss_nil)))
      (pss_cons (ps_if (pt_not (pt_val (pv 8))) (pss_one (ps_ret (pe_c (c_l_same 3) hr (by omega) (by rfl) pass0 (pa_cons (pe_c c_l_asked hr (by omega) (by rfl) pass0 (pa_cons (pv 5) pa_nil)) (pa_cons (pe_tup (pa_cons pe_str (pa_cons pe_str (pa_cons pe_bl pa_nil)))) pa_nil))))) pss_nil)
      (pss_cons (ps_setLc (i := 10) (own := [("_law_at", 11)]) (g := gName 11) rfl sc_law.nd rfl rfl (sw_true rfl rfl rfl (by decide +kernel)) (pi_range1 (by rfl) b.range (pa_cons (pe_callB call_len_seq (by rfl) b.len PySem.boot_len (pa_cons (pe_ix ix_list (pv 5) pe_int (fun _ _ => rfl)) pa_nil)) pa_nil)) (blkOk_by (N := s_law_N) (sc := defScope s_law) (by decide +kernel)) (fun _ _ _ _ _ => (pg_name (i := 11) sc_law.nd rfl (Or.inl rfl))) (fun _ _ _ _ _ => (pts_one (pt_cmpR op_ne (pe_ix (ix_tupK K) (pe_ix (ix_listK K) (pv 5) pe_int (fun _ _ => rfl)) (pe_ix (ix_tupK K) (pe_ix (ix_listK K) (pv 5) pe_int (fun _ _ => rfl)) (pv 11) (fun _ _ => rfl)) (fun _ _ => rfl)) (pe_ix (ix_tupK K) (pe_ix (ix_listK K) (pv 5) pe_int (fun _ _ => rfl)) (pv 11) (fun _ _ => rfl)) (nomark _)))) (fun _ _ _ _ _ => (pv 11)))
      (pss_cons (ps_if (pt_cmpR (op_neD hr.units) (pv 10) (pe_lst pa_nil) (nomark _)) (pss_one (ps_ret (pe_c (c_l_same 3) hr (by omega) (by rfl) pass0 (pa_cons (pe_c c_l_asked hr (by omega) (by rfl) pass0 (pa_cons (pv 5) pa_nil)) (pa_cons (pe_tup (pa_cons pe_str (pa_cons (pe_ix ix_list (pv 10) pe_int (fun _ _ => rfl)) (pa_cons pe_str (pa_cons pe_bl pa_nil))))) pa_nil))))) pss_nil)
      (pss_one (ps_ret (pe_c (c_l_same 3) hr (by omega) (by rfl) pass0 (pa_cons (pe_c c_l_asked hr (by omega) (by rfl) pass0 (pa_cons (pv 5) pa_nil)) (pa_cons (pe_tup (pa_cons pe_str (pa_cons (pe_callB call_len_seq (by rfl) b.len PySem.boot_len (pa_cons (pe_ix ix_list (pv 5) pe_int (fun _ _ => rfl)) pa_nil)) (pa_cons (pe_ix ix_list (pv 5) pe_int (fun _ _ => rfl)) (pa_cons (pe_ix ix_list (pv 5) pe_int (fun _ _ => rfl)) (pa_cons (pe_ix ix_list (pv 5) pe_int (fun _ _ => rfl)) pa_nil)))))) pa_nil)))))))))))))))))))))), ?_⟩
    refine ⟨_, rfl, 63, rfl, a, _, rfl, hS, fun sc nsc => ?_⟩
    rw [cut63]
    generalize hms : ns.take 63 = cs
    have hsc : (upd H sc (.lst (cs.map V.int))) sc = some (.lst (cs.map V.int)) := upd_same
    generalize upd H sc (.lst (cs.map V.int)) = H0 at hsc
    refine ⟨_, rfl, sc, cs, 0, rfl, SqL.of hsc, _, rfl, fun n H0' hn s0' => ?_⟩
    have hsc' := s0' _ _ hsc
    refine ⟨_, rfl, sc, cs, 1, rfl, SqL.of hsc', ?_⟩
    refine ⟨by decide, fun pp npp => ?_⟩
    have s0 : Same H0' (upd H0' pp (.lst (([40320, 40320, 7, 8, 8, 3, 11] : List Int).map V.int))) := same_new (Same.refl _) npp
    refine ⟨_, pp, [40320, 40320, 7, 8, 8, 3, 11], rfl, SqL.of upd_same, by decide, by decide, fun d H1 nd s1 hd => ?_⟩
    obtain ⟨ds0, dsg0, dsl0, dsu0⟩ := draws_get (c := cell cs 1) (ps := [40320, 40320, 7, 8, 8, 3, 11]) (i := 0) (p := 40320) rfl (by decide)
    obtain ⟨ds1, dsg1, dsl1, dsu1⟩ := draws_get (c := cell cs 1) (ps := [40320, 40320, 7, 8, 8, 3, 11]) (i := 1) (p := 40320) rfl (by decide)
    obtain ⟨ds2, dsg2, dsl2, dsu2⟩ := draws_get (c := cell cs 1) (ps := [40320, 40320, 7, 8, 8, 3, 11]) (i := 2) (p := 7) rfl (by decide)
    obtain ⟨ds3, dsg3, dsl3, dsu3⟩ := draws_get (c := cell cs 1) (ps := [40320, 40320, 7, 8, 8, 3, 11]) (i := 3) (p := 8) rfl (by decide)
    obtain ⟨ds4, dsg4, dsl4, dsu4⟩ := draws_get (c := cell cs 1) (ps := [40320, 40320, 7, 8, 8, 3, 11]) (i := 4) (p := 8) rfl (by decide)
    obtain ⟨ds5, dsg5, dsl5, dsu5⟩ := draws_get (c := cell cs 1) (ps := [40320, 40320, 7, 8, 8, 3, 11]) (i := 5) (p := 3) rfl (by decide)
    obtain ⟨ds6, dsg6, dsl6, dsu6⟩ := draws_get (c := cell cs 1) (ps := [40320, 40320, 7, 8, 8, 3, 11]) (i := 6) (p := 11) rfl (by decide)
    generalize draws (cell cs 1) [40320, 40320, 7, 8, 8, 3, 11] = ds at *
    have dsa0 : atI (ds.map V.int) 0 = some (.int ds0) := at_int (by decide) dsg0
    have dsa1 : atI (ds.map V.int) 1 = some (.int ds1) := at_int (by decide) dsg1
    have dsa2 : atI (ds.map V.int) 2 = some (.int ds2) := at_int (by decide) dsg2
    have dsa3 : atI (ds.map V.int) 3 = some (.int ds3) := at_int (by decide) dsg3
    have dsa4 : atI (ds.map V.int) 4 = some (.int ds4) := at_int (by decide) dsg4
    have dsa5 : atI (ds.map V.int) 5 = some (.int ds5) := at_int (by decide) dsg5
    have dsa6 : atI (ds.map V.int) 6 = some (.int ds6) := at_int (by decide) dsg6
    clear s1 nd npp nsc hS hsc s0 hsc' s0'
    -- mother, wife
    refine ⟨_, rfl, d, _, _, _, rfl, rfl, SqL.of hd, dsa0, _, rfl, ds0, n, rfl, by omega, fun mo H2 nmo s2 hmo => ?_⟩
    have hd2 := s2 _ _ hd
    refine ⟨_, rfl, d, _, _, _, rfl, rfl, SqL.of hd2, dsa1, _, rfl, ds1, n, rfl, by omega, fun wi H3 nwi s3 hwi => ?_⟩
    have hM : SqT K H3 mo ((turnOf ds0 n).map V.int) := SqT.of (s3 _ _ hmo)
    have hW : SqT K H3 wi ((turnOf ds1 n).map V.int) := SqT.of hwi
    have hd3 := s3 _ _ hd2
    have lm := turnOf_len ds0 n
    have lw := turnOf_len ds1 n
    have tw := turnOf_turn ds1 n
    generalize turnOf ds0 n = ms at *
    generalize turnOf ds1 n = ws at *
    clear hmo hwi nmo nwi s2 s3 hd hd2
    -- rows
    refine ⟨_, rfl, _, rfl, _, rfl, wi, mo, ws, ms, rfl, hW, hM, by omega, (by rw [lm, ← lw]; exact tw.lo), fun fa H4 nfa s4 hfa => ?_⟩
    have lfa : (after ws ms).length = n := by rw [after_len]; exact lw
    generalize after ws ms = fs at *
    refine ⟨_, rfl, (by show 3 ≤ sizeLine; decide), fun rw nrw => ?_⟩
    have s5 : Same H4 (upd H4 rw (.lst [.ref mo, .ref fa, .ref wi])) := same_new (Same.refl _) nrw
    have s35 := s4.trans s5
    have hd5 := s35 _ _ hd3
    have hM5 := same_seqT s35 hM
    have hW5 := same_seqT s35 hW
    have hF5 : SqT K _ fa (fs.map V.int) := same_seqT s5 hfa.sq
    have hrw5 : (upd H4 rw (.lst [.ref mo, .ref fa, .ref wi])) rw = some (.lst [.ref mo, .ref fa, .ref wi]) := upd_same
    generalize upd H4 rw (.lst [.ref mo, .ref fa, .ref wi]) = H5 at *
    clear nrw nfa s4 hM hW hd3 s35 s5 hfa
    -- row
    obtain ⟨r, ks, hr5, lk, hrk⟩ : ∃ (r : Addr) (ks : List Int), atI [V.ref mo, V.ref fa, V.ref wi] ds5 = some (.ref r) ∧ ks.length = n ∧ SqT K H5 r (ks.map V.int) := by
      have : ds5 = 0 ∨ ds5 = 1 ∨ ds5 = 2 := by omega
      rcases this with h | h | h <;> subst h
      · exact ⟨mo, ms, at_V (by decide) rfl, lm, hM5⟩
      · exact ⟨fa, fs, at_V (by decide) rfl, lfa, hF5⟩
      · exact ⟨wi, ws, at_V (by decide) rfl, lw, hW5⟩
    refine ⟨_, rfl, _, rfl, d, _, _, _, rfl, rfl, SqL.of hd5, dsa5, rw, _, _, .ref r, rfl, rfl, SqL.of hrw5, hr5, r, _, rfl, .inr hrk, fun ro nro => ?_⟩
    have s6 : Same H5 (upd H5 ro (.lst (ks.map V.int))) := same_new (Same.refl _) nro
    have hro : (upd H5 ro (.lst (ks.map V.int))) ro = some (.lst (ks.map V.int)) := upd_same
    generalize upd H5 ro (.lst (ks.map V.int)) = H6 at *
    have e3 : 0 ≤ ds3 ∧ ds3 < 8 := ⟨dsl3, dsu3⟩
    have md : ∀ {z : Int}, 0 < (n : Int) → 0 ≤ z % (n : Int) ∧ z % (n : Int) < (n : Int) := fun h => ⟨Int.emod_nonneg _ (by omega), Int.emod_lt_of_pos _ h⟩
    -- two exchanged
    walk_at "nx"
    refine seq_cut (fun σ' H' => ∃ (y7 : Option V) (ks : List Int), Same H5 H' ∧ ks.length = n ∧ H' ro = some (.lst (ks.map V.int)) ∧ σ' = [some (.ref sc), some (.int (n : Int)), some (.ref d), some (.ref mo), some (.ref wi), some (.ref rw), some (.ref ro), y7, none, none, none, none]) (fun N hN => ?_) ?_
    · refine ⟨_, rfl, d, _, _, _, rfl, rfl, SqL.of (s6 _ _ hd5), dsa2, (by show 2 ≤ sizeLine; decide), fun tp ntp => ?_⟩
      have s7 : Same H6 (upd H6 tp (.tup [V.int 1, V.int 2])) := same_new (Same.refl _) ntp
      refine ⟨tp, _, rfl, .inr (SqT.of upd_same), rfl, rfl, _, rfl, ?_⟩
      have hro7 := s7 _ _ hro
      have s57 := s6.trans s7
      have hd7 := s57 _ _ hd5
      generalize upd H6 tp (.tup [V.int 1, V.int 2]) = H7 at *
      refine ite2 (fun e => ?_) (fun e => hN _ _ ⟨none, ks, s57, lk, hro7, rfl⟩)
      refine ⟨_, rfl, _, _, rfl, rfl, _, rfl, ite2 (fun e => ?_) (fun e => hN _ _ ⟨none, ks, s57, lk, hro7, rfl⟩)⟩
      have e0 : 0 < (n : Int) := of_decide_eq_true e
      have m3 := md (z := ds3) e0
      have m4 := md (z := ds4) e0
      have a3 : atI (ks.map V.int) (ds3 % (n : Int)) = some (.int (ks.getD (ds3 % (n : Int)).toNat 0)) := at_int m3.1 (getD_some (by omega))
      have a4 : atI (ks.map V.int) (ds4 % (n : Int)) = some (.int (ks.getD (ds4 % (n : Int)).toNat 0)) := at_int m4.1 (getD_some (by omega))
      refine ⟨_, rfl, _, rfl, d, _, _, _, rfl, rfl, SqL.of hd7, dsa3, _, rfl, _, _, rfl, rfl, e0, ro, _, _, _, rfl, rfl, SqL.of hro7, a3, ?_⟩
      refine ⟨_, rfl, _, rfl, d, _, _, _, rfl, rfl, SqL.of hd7, dsa4, _, rfl, _, _, rfl, rfl, e0, ro, _, _, _, rfl, rfl, SqL.of hro7, a4, ?_⟩
      refine ⟨_, rfl, _, rfl, d, _, _, _, rfl, rfl, SqL.of hd7, dsa3, _, rfl, _, _, rfl, rfl, e0, ro, _, _, _, rfl, rfl, hro7, ixN_in m3.1 (by rw [List.length_map]; omega), ?_⟩
      rw [set_ints]
      have s58 := same_new (o := .lst ((ks.set (ds3 % (n : Int)).toNat (ks.getD (ds4 % (n : Int)).toNat 0)).map V.int)) s57 nro
      refine ⟨_, rfl, _, rfl, _, rfl, d, _, _, _, rfl, rfl, SqL.of (s58 _ _ hd5), dsa4, _, rfl, _, _, rfl, rfl, e0, ro, _, _, _, rfl, rfl, upd_same, ixN_in m4.1 (by rw [List.length_map, List.length_set]; omega), ?_⟩
      rw [set_ints]
      exact hN _ _ ⟨_, _, same_new s58 nro, by rw [List.length_set, List.length_set]; exact lk, upd_same, rfl⟩
    clear s6 hro lk hrk hr5
    rintro σ7 H7 ⟨y7, ks, s7, lk, hro, rfl⟩
    -- one changed
    walk_at "nx"
    refine seq_cut (fun σ' H' => ∃ (ks : List Int), Same H5 H' ∧ ks.length = n ∧ H' ro = some (.lst (ks.map V.int)) ∧ σ' = [some (.ref sc), some (.int (n : Int)), some (.ref d), some (.ref mo), some (.ref wi), some (.ref rw), some (.ref ro), y7, none, none, none, none]) (fun N hN => ?_) ?_
    · refine ⟨_, rfl, d, _, _, _, rfl, rfl, SqL.of (s7 _ _ hd5), dsa2, rfl, _, rfl, ite2 (fun e => ?_) (fun e => hN _ _ ⟨ks, s7, lk, hro, rfl⟩)⟩
      refine ⟨_, rfl, _, _, rfl, rfl, _, rfl, ite2 (fun e => ?_) (fun e => hN _ _ ⟨ks, s7, lk, hro, rfl⟩)⟩
      have e0 : 0 < (n : Int) := of_decide_eq_true e
      have m3 := md (z := ds3) e0
      refine ⟨_, rfl, d, _, _, _, rfl, rfl, SqL.of (s7 _ _ hd5), dsa6, _, _, rfl, rfl, ?_⟩
      refine ⟨_, rfl, _, rfl, d, _, _, _, rfl, rfl, SqL.of (s7 _ _ hd5), dsa3, _, rfl, _, _, rfl, rfl, e0, ro, _, _, _, rfl, rfl, hro, ixN_in m3.1 (by rw [List.length_map]; omega), ?_⟩
      rw [set_ints]
      exact hN _ _ ⟨_, same_new s7 nro, by rw [List.length_set]; exact lk, upd_same, rfl⟩
    clear s7 hro lk
    rintro σ8 H8 ⟨ks, s8, lk, hro, rfl⟩
    -- one left out
    walk_at "nx"
    refine seq_cut (fun σ' H' => ∃ (ks : List Int), Same H5 H' ∧ ks.length ≤ n ∧ H' ro = some (.lst (ks.map V.int)) ∧ σ' = [some (.ref sc), some (.int (n : Int)), some (.ref d), some (.ref mo), some (.ref wi), some (.ref rw), some (.ref ro), y7, none, none, none, none]) (fun N hN => ?_) ?_
    · refine ⟨_, rfl, d, _, _, _, rfl, rfl, SqL.of (s8 _ _ hd5), dsa2, rfl, _, rfl, ite2 (fun e => ?_) (fun e => hN _ _ ⟨ks, s8, by omega, hro, rfl⟩)⟩
      refine ⟨_, rfl, _, _, rfl, rfl, _, rfl, ite2 (fun e => ?_) (fun e => hN _ _ ⟨ks, s8, by omega, hro, rfl⟩)⟩
      have e0 : 0 < (n : Int) := of_decide_eq_true e
      have m3 := md (z := ds3) e0
      refine ⟨_, rfl, .inl ⟨rfl, _, SqL.of hro⟩, _, rfl, d, _, _, _, rfl, rfl, SqL.of (s8 _ _ hd5), dsa3, _, rfl, _, _, rfl, rfl, e0, ro, _, ds3 % (n : Int), (ds3 % (n : Int)).toNat, .int (ks.getD (ds3 % (n : Int)).toNat 0), rfl, rfl, hro, by omega, by omega, ?_, ?_, ?_⟩
      · rw [List.length_map]
        exact seqIx_in m3.1 (by omega)
      · rw [List.getElem?_map, getD_some (by omega)]
        rfl
      · rw [erase_ints]
        exact hN _ _ ⟨_, same_new s8 nro, by rw [List.length_eraseIdx_of_lt (by omega)]; omega, upd_same, rfl⟩
    clear s8 hro lk
    rintro σ9 H9 ⟨ks, s9, lk, hro, rfl⟩
    -- another size
    walk_at "nx"
    refine seq_cut (fun σ' H' => ∃ (ks : List Int), Same H5 H' ∧ ks.length ≤ 9 ∧ H' ro = some (.lst (ks.map V.int)) ∧ σ' = [some (.ref sc), some (.int (n : Int)), some (.ref d), some (.ref mo), some (.ref wi), some (.ref rw), some (.ref ro), y7, none, none, none, none]) (fun N hN => ?_) ?_
    · refine ⟨_, rfl, d, _, _, _, rfl, rfl, SqL.of (s9 _ _ hd5), dsa2, rfl, _, rfl, ite2 (fun e => ?_) (fun e => hN _ _ ⟨ks, s9, by omega, hro, rfl⟩)⟩
      refine ⟨_, rfl, .inl ⟨rfl, _, SqL.of hro⟩, _, rfl, ro, _, _, rfl, rfl, hro, ?_, ?_⟩
      · refine sz_lt ?_
        rw [List.length_map]
        omega
      · rw [snoc_ints]
        exact hN _ _ ⟨_, same_new s9 nro, by rw [List.length_append]; show ks.length + 1 ≤ 9; omega, upd_same, rfl⟩
    clear s9 hro lk
    rintro σ10 H10 ⟨ks, s10, lk, hro, rfl⟩
    -- rows[..] = tuple(row)
    refine ⟨_, rfl, ro, _, rfl, .inl ⟨SqL.of hro, fun tt ntt => ?_⟩⟩
    have s11 : Same H5 (upd H10 tt (.tup (ks.map V.int))) := same_new s10 (s10.free ntt)
    have hrw11 := s11 _ _ hrw5
    have hd11 := s11 _ _ hd5
    have hM11 := same_seqT s11 hM5
    have hW11 := same_seqT s11 hW5
    have hF11 := same_seqT s11 hF5
    have htt : SqT K (upd H10 tt (.tup (ks.map V.int))) tt (ks.map V.int) := SqT.of upd_same
    generalize upd H10 tt (.tup (ks.map V.int)) = H11 at *
    refine ⟨_, rfl, _, rfl, d, _, _, _, rfl, rfl, SqL.of hd11, dsa5, rw, _, _, _, rfl, rfl, hrw11, ixN_in dsl5 (by show ds5 < ((3 : Nat) : Int); omega), ?_⟩
    have fin : ∃ (r0 r1 r2 : Addr) (ms fs ws : List Int), [V.ref mo, V.ref fa, V.ref wi].set ds5.toNat (.ref tt) = [.ref r0, .ref r1, .ref r2] ∧ SqT K H11 r0 (ms.map V.int) ∧ SqT K H11 r1 (fs.map V.int) ∧ SqT K H11 r2 (ws.map V.int) ∧ ms.length ≤ 9 ∧ fs.length ≤ 9 ∧ ws.length ≤ 9 := by
      have : ds5 = 0 ∨ ds5 = 1 ∨ ds5 = 2 := by omega
      rcases this with h | h | h <;> subst h
      · exact ⟨tt, fa, wi, ks, fs, ws, rfl, htt, hF11, hW11, by omega, by omega, by omega⟩
      · exact ⟨mo, tt, wi, ms, ks, ws, rfl, hM11, htt, hW11, by omega, by omega, by omega⟩
      · exact ⟨mo, fa, tt, ms, fs, ks, rfl, hM11, hF11, htt, by omega, by omega, by omega⟩
    clear hM11 hW11 hF11 htt hM5 hW5 hF5 lm lw tw lfa lk hd11 hro
    obtain ⟨r0, r1, r2, as, bs, zs, e, h0, h1, h2, la, lb, lz⟩ := fin
    rw [e]
    have g0 := sqT_updL (o := .lst [.ref r0, .ref r1, .ref r2]) hrw11 h0
    have g1 := sqT_updL (o := .lst [.ref r0, .ref r1, .ref r2]) hrw11 h1
    have g2 := sqT_updL (o := .lst [.ref r0, .ref r1, .ref r2]) hrw11 h2
    have hR : (upd H11 rw (.lst [.ref r0, .ref r1, .ref r2])) rw = some (.lst [.ref r0, .ref r1, .ref r2]) := upd_same
    generalize upd H11 rw (.lst [.ref r0, .ref r1, .ref r2]) = HA at *
    clear h0 h1 h2 e s11 s10 hd5 hrw5 nro ntt hrw11
    have hla : (((as.map V.int).length : Nat) : Int) = (as.length : Int) := by rw [List.length_map]
    -- good
    refine ⟨_, rfl, rw, _, _, .ref r0, rfl, rfl, SqL.of hR, rfl, r0, _, rfl, .inr g0, 2, 9, rfl, fun rg nrg => ?_⟩
    have sB : Same HA (upd HA rg (.rng 2 9)) := same_new (Same.refl _) nrg
    refine ⟨_, rg, 2, 9, rfl, rfl, upd_same, ?_⟩
    rw [hla]
    generalize upd HA rg (.rng 2 9) = HB at *
    refine ⟨_, rfl, rw, rfl, ⟨_, SqL.of (sB _ _ hR)⟩, for_list (K := K) (a := rw) (xs := [.ref r0, .ref r1, .ref r2]) (fun i σ' H' => ∃ (y9 : Option V) (g : Bool), Same HA H' ∧ σ' = [some (.ref sc), some (.int (n : Int)), some (.ref d), some (.ref mo), some (.ref wi), some (.ref rw), some (.ref ro), y7, some (.bl g), y9, none, none] ∧
        (g = true ↔ (2 ≤ as.length ∧ as.length ≤ 8) ∧ (1 ≤ i → Turn as) ∧ (2 ≤ i → Turn bs ∧ bs.length = as.length) ∧ (3 ≤ i → Turn zs ∧ zs.length = as.length)))
      ⟨none, _, sB, rfl, ?_⟩ (fun i σ' H' _ ⟨_, _, s', _⟩ => SqL.of (s' _ _ hR)) ?_ ?_⟩
    · rw [decide_eq_true_iff]
      exact ⟨fun h => ⟨⟨by omega, by omega⟩, fun h => by omega, fun h => by omega, fun h => by omega⟩, fun h => ⟨by omega, by omega⟩⟩
    · rintro i y σ8 H8 hi ⟨y9, g, s8, rfl, hg⟩
      obtain ⟨r, ks, rfl, hk, hr8, hG⟩ : ∃ (r : Addr) (ks : List Int), y = .ref r ∧ ks.length ≤ 9 ∧ SqT K HA r (ks.map V.int) ∧ ∀ g' : Bool, (g' = true ↔ g = true ∧ Turn ks ∧ ks.length = as.length) → (g' = true ↔ (2 ≤ as.length ∧ as.length ≤ 8) ∧ (1 ≤ i + 1 → Turn as) ∧ (2 ≤ i + 1 → Turn bs ∧ bs.length = as.length) ∧ (3 ≤ i + 1 → Turn zs ∧ zs.length = as.length)) := by
        match i, hi, hg with
        | 0, hi, hg => exact ⟨r0, as, (Option.some.inj hi).symm, la, g0, fun g' hg' => hg'.trans ⟨fun h => ⟨(hg.mp h.1).1, fun _ => h.2.1, fun h => by omega, fun h => by omega⟩, fun h => ⟨hg.mpr ⟨h.1, fun h => by omega, fun h => by omega, fun h => by omega⟩, h.2.1 (by omega), rfl⟩⟩⟩
        | 1, hi, hg => exact ⟨r1, bs, (Option.some.inj hi).symm, lb, g1, fun g' hg' => hg'.trans ⟨fun h => ⟨(hg.mp h.1).1, (fun _ => (hg.mp h.1).2.1 (by omega)), fun _ => h.2, fun h => by omega⟩, fun h => ⟨hg.mpr ⟨h.1, fun _ => h.2.1 (by omega), fun h => by omega, fun h => by omega⟩, h.2.2.1 (by omega)⟩⟩⟩
        | 2, hi, hg => exact ⟨r2, zs, (Option.some.inj hi).symm, lz, g2, fun g' hg' => hg'.trans ⟨fun h => ⟨(hg.mp h.1).1, (fun _ => (hg.mp h.1).2.1 (by omega)), (fun _ => (hg.mp h.1).2.2.1 (by omega)), fun _ => h.2⟩, fun h => ⟨hg.mpr ⟨h.1, fun _ => h.2.1 (by omega), fun _ => h.2.2.1 (by omega), fun h => by omega⟩, h.2.2.2 (by omega)⟩⟩⟩
        | i + 3, hi, _ => simp at hi
      refine ⟨_, rfl, r, _, rfl, .inr (same_seqT s8 hr8), _, rfl, rw, _, _, .ref r0, rfl, rfl, SqL.of (s8 _ _ hR), rfl, r0, _, rfl, .inr (same_seqT s8 g0), rfl, _, rfl, ?_⟩
      by_cases hl : ks.length = as.length
      · rw [decide_eq_true (show V.int (((ks.map V.int).length : Nat) : Int) = V.int (((as.map V.int).length : Nat) : Int) by rw [List.length_map, List.length_map, hl])]
        refine iteF ⟨_, rfl, r, ks, rfl, same_seqT s8 hr8, by omega, fun ks' p2 hp2 hs2 np2 => ?_⟩
        have s12 := same_new (o := .lst (ks'.map V.int)) s8 (s8.free np2)
        refine ⟨_, rfl, r, _, rfl, .inr (same_seqT s12 hr8), (ks.length : Int), (by rw [List.length_map]), rg_ok (by omega), fun l nl => ?_⟩
        rw [rgV_int]
        refine ⟨_, _, dp_listI (SqL.of (upd_new nl upd_same)), dp_listI (SqL.of upd_same), shaped_listI _, shaped_listI _, _, rfl, ?_⟩
        rw [eqv_listI, sorted_full hp2 hs2]
        have s13 := same_new (o := .lst ((rgI ks.length).map V.int)) s12 (s12.free nl)
        cases ht : isTurn ks with
        | true => exact ifno ⟨_, g, s13, rfl, hG g ⟨fun h => ⟨h, isTurn_iff.mp ht, hl⟩, fun h => h.1⟩⟩
        | false =>
          refine iteT ⟨_, false, s13, rfl, hG false ⟨fun h => (nomatch h), fun h => ?_⟩⟩
          rw [isTurn_iff.mpr h.2.1] at ht
          cases ht
      · rw [decide_eq_false (show ¬ V.int (((ks.map V.int).length : Nat) : Int) = V.int (((as.map V.int).length : Nat) : Int) from fun z => hl (by
          have z2 := V.int.inj z
          rw [List.length_map, List.length_map] at z2
          omega))]
        exact iteT (iteT ⟨_, false, s8, rfl, hG false ⟨fun h => (nomatch h), fun h => absurd h.2.2 hl⟩⟩)
    rintro σC HC ⟨y9, g, sC, rfl, hg⟩
    have hR3 : g = true ↔ Rows3 as bs zs := hg.trans ⟨fun h => ⟨h.2.1 (by show 1 ≤ 3; decide), (h.2.2.1 (by show 2 ≤ 3; decide)).1, (h.2.2.2 (by show 3 ≤ 3; decide)).1, (h.2.2.1 (by show 2 ≤ 3; decide)).2, (h.2.2.2 (by show 3 ≤ 3; decide)).2, h.1.1, h.1.2⟩,
      fun h => ⟨⟨h.lo, h.hi⟩, fun _ => h.tm, fun _ => ⟨h.tf, h.lf⟩, fun _ => ⟨h.tw, h.lw⟩⟩⟩
    have hRC := sC _ _ hR
    have k0 := same_seqT sC g0
    have k1 := same_seqT sC g1
    have k2 := same_seqT sC g2
    refine ⟨_, rfl, _, rfl, ?_⟩
    cases hgg : g with
    | false =>
      refine iteT ⟨_, rfl, rw, r0, r1, r2, as, bs, zs, rfl, SqL.of hRC, k0, k1, k2, by omega, by omega, by omega, fun _ p H8 s9 hp => ⟨by decide, fun du ndu => ?_⟩, fun R3 => absurd (hR3.mpr R3) (by rw [hgg]; decide), fun R3 => absurd (hR3.mpr R3) (by rw [hgg]; decide)⟩
      have s10 : Same H8 (upd H8 du (.tup [.str "refused", .str "no land", .bl true])) := same_new (Same.refl _) ndu
      exact ⟨_, _, rfl, .tup (SqT.of (s10 _ _ hp)) (SqT.of upd_same) rfl (by decide) (alike_more (.str _) (alike_more (.str _) (alike_1 (.bl _)))), fun H9 s11 => q _⟩
    | true =>
    have R3 := hR3.mp hgg
    have lbs := R3.lf
    have lzs := R3.lw
    refine ifno ?_
    -- unlike
    refine ⟨_, rfl, rw, _, _, .ref r2, rfl, rfl, SqL.of hRC, rfl, r2, _, rfl, .inr k2, (zs.length : Int), (by rw [List.length_map]), by omega, by omega, fun l nl => lc_range (lo := 0) (n := zs.length) (fun i Hx => Same HC Hx ∧ Hx l = some (.lst ((((List.range i).filter fun j => decide ((after zs as)[j]? ≠ bs[j]?)).map fun j : Nat => (j : Int)).map V.int))) ⟨same_new (Same.refl _) nl, upd_same⟩ ?_ ?_⟩
    · rintro i Hx hi ⟨sx, eL⟩
      have e0 : (0 : Int) + (i : Int) = (i : Int) := Int.zero_add _
      obtain ⟨z, hz⟩ : ∃ z, zs[i]? = some z := ⟨zs[i], List.getElem?_eq_getElem hi⟩
      have hz2 := R3.tw.lo z (List.mem_of_getElem? hz)
      obtain ⟨u, hu⟩ : ∃ u, bs[i]? = some u := ⟨bs[i]'(by omega), List.getElem?_eq_getElem (by omega)⟩
      have haf : (after zs as)[i]? = some (as.getD z.toNat 0) := by
        unfold after
        rw [List.getElem?_map, hz]
        rfl
      refine ⟨rfl, ⟨_, rfl, rw, _, _, .ref r0, rfl, rfl, SqL.of (sx _ _ hRC), rfl, _, rfl, rw, _, _, .ref r2, rfl, rfl, SqL.of (sx _ _ hRC), rfl, _, rfl, r2, _, _, .int z, rfl, rfl, same_seqT sx k2, (by rw [e0]; exact at_int (by omega) hz), r0, _, _, .int (as.getD z.toNat 0), rfl, rfl, same_seqT sx k0, at_int hz2.1 (getD_some (by omega)), _, rfl, rw, _, _, .ref r1, rfl, rfl, SqL.of (sx _ _ hRC), rfl, _, rfl, r1, _, _, .int u, rfl, rfl, same_seqT sx k1, (by rw [e0]; exact at_int (by omega) hu), rfl, _, rfl, ?_⟩⟩
      have hfl : ∀ b : Bool, decide ((after zs as)[i]? ≠ bs[i]?) = b → (List.range (i + 1)).filter (fun j => decide ((after zs as)[j]? ≠ bs[j]?)) = ((List.range i).filter fun j => decide ((after zs as)[j]? ≠ bs[j]?)) ++ (if b = true then [i] else []) := fun b hb => by
        rw [List.range_succ, List.filter_append, List.filter_cons, List.filter_nil, hb]
      by_cases he : as.getD z.toNat 0 = u
      · rw [decide_eq_true (congrArg V.int he)]
        refine iteF ⟨sx, ?_⟩
        rw [hfl false (decide_eq_false (by rw [haf, hu, he]; exact fun z => z rfl)), if_neg Bool.false_ne_true, List.append_nil]
        exact eL
      · rw [decide_eq_false (fun z => he (V.int.inj z))]
        refine iteT ⟨_, rfl, _, eL, ?_, same_new sx nl, ?_⟩
        · refine sz_lt ?_
          rw [List.length_map, List.length_map]
          have := List.length_filter_le (fun j => decide ((after zs as)[j]? ≠ bs[j]?)) (List.range i)
          rw [List.length_range] at this
          omega
        · rw [upd_same, hfl true (decide_eq_true (by rw [haf, hu]; exact fun z => he (Option.some.inj z))), if_pos rfl, List.map_append, List.map_append, e0]
          rfl
    rintro HD ⟨sD, hD⟩
    have hRD := sD _ _ hRC
    have d0 := same_seqT sD k0
    have d1 := same_seqT sD k1
    have d2 := same_seqT sD k2
    refine ⟨_, rfl, Nat.zero_le _, fun em nem => ?_⟩
    have sE : Same HD (upd HD em (.lst [])) := same_new (Same.refl _) nem
    refine ⟨_, _, dp_listI (SqL.of (sE _ _ hD)), dp_listI (ns := []) (SqL.of upd_same), shaped_listI _, shaped_listI _, _, rfl, ?_⟩
    have hRE := sE _ _ hRD
    have hE := sE _ _ hD
    have f0 := same_seqT sE d0
    have f1 := same_seqT sE d1
    have f2 := same_seqT sE d2
    generalize upd HD em (.lst []) = HE at *
    rw [eqv_listI]
    cases hfi : (List.range zs.length).filter (fun j => decide ((after zs as)[j]? ≠ bs[j]?)) with
    | nil =>
      refine ifno ?_
      have hfs : bs = after zs as := by
        refine List.ext_getElem? fun i => ?_
        by_cases h : i < zs.length
        · refine Classical.byContradiction fun hc => ?_
          have : i ∈ (List.range zs.length).filter (fun j => decide ((after zs as)[j]? ≠ bs[j]?)) := List.mem_filter.mpr ⟨List.mem_range.mpr h, decide_eq_true fun z => hc z.symm⟩
          rw [hfi] at this
          cases this
        · rw [List.getElem?_eq_none (by omega), List.getElem?_eq_none (by rw [after_len]; omega)]
      refine ⟨_, rfl, rw, r0, r1, r2, as, bs, zs, rfl, SqL.of hRE, f0, f1, f2, by omega, by omega, by omega, fun hno => absurd R3 hno, fun _ at' hat hlt hne => absurd (by rw [hfs]) hne, fun _ _ p mo' fa' wi' H8 s9 hm8 hf8 hw8 hp => ?_⟩
      have f0' := same_seqT s9 f0
      have f1' := same_seqT s9 f1
      have f2' := same_seqT s9 f2
      have hR8 := s9 _ _ hRE
      refine ⟨_, rfl, rw, _, _, .ref r0, rfl, rfl, SqL.of hR8, rfl, r0, _, rfl, .inr f0', _, rfl, rw, _, _, .ref r0, rfl, rfl, SqL.of hR8, rfl, _, rfl, rw, _, _, .ref r1, rfl, rfl, SqL.of hR8, rfl, _, rfl, rw, _, _, .ref r2, rfl, rfl, SqL.of hR8, rfl, (by show 5 ≤ sizeLine; decide), fun du ndu => ?_⟩
      rw [hla]
      have s10 : Same H8 (upd H8 du (.tup [.str "told", .int (as.length : Int), .ref r0, .ref r1, .ref r2])) := same_new (Same.refl _) ndu
      exact ⟨_, _, rfl, .tup (SqT.of (s10 _ _ hp)) (SqT.of upd_same) rfl (by show 5 ≤ 1000; decide) (alike_more (.str _) (alike_more (.int _) (alike_more (alike_tupI (same_seqT s10 hm8) (same_seqT s10 f0') (by omega)) (alike_more (alike_tupI (same_seqT s10 hf8) (same_seqT s10 f1') (by omega)) (alike_1 (alike_tupI (same_seqT s10 hw8) (same_seqT s10 f2') (by omega))))))), fun H9 s11 => q _⟩
    | cons a0 rr =>
      rw [hfi] at hE
      obtain ⟨o1, o2, o3⟩ := first_of hfi
      have o2' : (after zs as)[a0]? ≠ bs[a0]? := of_decide_eq_true o2
      refine iteT ⟨_, rfl, rw, r0, r1, r2, as, bs, zs, rfl, SqL.of hRE, f0, f1, f2, by omega, by omega, by omega, fun hno => absurd R3 hno, fun _ at' hat hlt hne p H8 s9 hp => ?_, fun _ hf => absurd (by rw [hf]) o2'⟩
      have ea : at' = a0 := by
        rcases Nat.lt_trichotomy at' a0 with h | h | h
        · exact absurd (of_decide_eq_false (o3 at' h)) (fun z => z hne)
        · exact h
        · exact absurd (hlt a0 h) o2'
      subst ea
      refine ⟨_, rfl, l, _, _, .int (at' : Int), rfl, rfl, SqL.of (s9 _ _ hE), at_V (by decide) rfl, (by show 4 ≤ sizeLine; decide), fun du ndu => ?_⟩
      have s10 : Same H8 (upd H8 du (.tup [.str "unequal", .int (at' : Int), .str "unequal parents", .bl false])) := same_new (Same.refl _) ndu
      exact ⟨_, _, rfl, .tup (SqT.of (s10 _ _ hp)) (SqT.of upd_same) rfl (by show 4 ≤ 1000; decide) (alike_more (.str _) (alike_more (.int _) (alike_more (.str _) (alike_1 (.bl _))))), fun H9 s11 => q _⟩

end

/-! ### what the top has left -/
theorem all_mk {l : PySem.W.OpenLaw} {w : World} {K : PySem.W.Frag} {h : Heap} {mg : Str → Option Value} {fa : Addr} {C0 C_BadLand C_Unequal : Addr} {t_FEWEST t_MOST : Tok} {CL : Addr} (X : K.In h) (G : h.Ns mainGlobals mg)
    (e0 : BaseIn K s_KinError_init C0)
    (e_BadLand : ErrIn K "BadLand" "BadLand.__init__" s_BadLand_init C_BadLand)
    (s_BadLand : PySem.W.subIn K (.ref C_BadLand) (.ref C0) = some true)
    (e_Unequal : ErrIn K "Unequal" "Unequal.__init__" s_Unequal_init C_Unequal)
    (s_Unequal : PySem.W.subIn K (.ref C_Unequal) (.ref C0) = some true)
    (sUU : PySem.W.subIn K (.ref C_Unequal) (.ref C_Unequal) = some true)
    (sBU : PySem.W.subIn K (.ref C_BadLand) (.ref C_Unequal) = some false)
    (sUB : PySem.W.subIn K (.ref C_Unequal) (.ref C_BadLand) = some false)
    (nUB : C_Unequal ≠ C_BadLand)
    (fl_Unequal : PySem.W.findIn K (.ref C_Unequal) "section" = some none)
    (k_FEWEST : PySem.W.nsIn K mainGlobals "FEWEST" = some (some (.int 2 t_FEWEST)))
    (k_MOST : PySem.W.nsIn K mainGlobals "MOST" = some (some (.int 8 t_MOST)))
    (cl_Land : ClsIn K "Land" CL)
    (na_Land_size : PySem.W.findIn K (.ref CL) "size" = some none)
    (na_Land_mother : PySem.W.findIn K (.ref CL) "mother" = some none)
    (na_Land_father : PySem.W.findIn K (.ref CL) "father" = some none)
    (na_Land_wife : PySem.W.findIn K (.ref CL) "wife" = some none)
    (d_Land_init : MetIn K CL "__init__" "Land.__init__" s_Land_init)
    (d_l_cell : DefIn K "_law_cell" s_l_cell)
    (d_l_draws : DefIn K "_law_draws" s_l_draws)
    (d_l_turn : DefIn K "_law_turn" s_l_turn)
    (d_l_after : DefIn K "_law_after" s_l_after)
    (d_is_turn : DefIn K "is_turn" s_is_turn)
    (d_l_same : DefIn K "_law_same" s_l_same)
    (d_l_size : DefIn K "_law_size" s_l_size)
    (d_l_asked : DefIn K "_law_asked" s_l_asked)
    (d_law : DefIn K "law" s_law)
    (z0 : PySem.W.nsIn K mainGlobals "len" = some none) (z1 : PySem.W.nsIn K mainGlobals "range" = some none) (z2 : PySem.W.nsIn K mainGlobals "list" = some none) (z3 : PySem.W.nsIn K mainGlobals "tuple" = some none) (z4 : PySem.W.nsIn K mainGlobals "int" = some none) (z5 : PySem.W.nsIn K mainGlobals "bool" = some none) (z6 : PySem.W.nsIn K mainGlobals "str" = some none) (z7 : PySem.W.nsIn K mainGlobals "dict" = some none) (z8 : PySem.W.nsIn K mainGlobals "ValueError" = some none) (z9 : PySem.W.nsIn K mainGlobals "sorted" = some none) (z10 : PySem.W.nsIn K mainGlobals "isinstance" = some none) (z11 : PySem.W.nsIn K mainGlobals "abs" = some none) (z12 : PySem.W.nsIn K mainGlobals "all" = some none) (z13 : PySem.W.nsIn K mainGlobals "any" = some none) (z14 : PySem.W.nsIn K mainGlobals "sum" = some none) (z15 : PySem.W.nsIn K mainGlobals "min" = some none) (z16 : PySem.W.nsIn K mainGlobals "max" = some none) (z17 : PySem.W.nsIn K mainGlobals "enumerate" = some none) : mg "law" = some (.ref fa) →
    ∃ fd : FuncData, (∀ (s : Shared) (v : Value), BindsTo s fd ⟨[v], []⟩ [("_law_script", v)]) ∧ ∀ base : Heap, K.In base → base.Ns mainGlobals mg → FnOk l.prog w K mg base CX0 7 fa fd p_law (spLaw K) := by
  intro hfa
  have b : Blt mg := blt_of X G z0 z1 z2 z3 z4 z5 z6 z7 z8 z9 z10 z11 z12 z13 z14 z15 z16 z17
  have g_FEWEST : mg "FEWEST" = some (.int 2 t_FEWEST) := PySem.W.mg_of X G k_FEWEST
  have g_MOST : mg "MOST" = some (.int 8 t_MOST) := PySem.W.mg_of X G k_MOST
  obtain ⟨f_Land_init, fd_Land_init, D_Land_init⟩ := dm_of (ps := p_Land_init) d_Land_init (fun _ _ _ _ _ _ us hl => match us, hl with | [_, _, _, _], _ => rfl)
  obtain ⟨f_l_cell, fd_l_cell, D_l_cell⟩ := dn_of X G (ps := p_l_cell) d_l_cell (fun _ _ _ _ _ _ us hl => match us, hl with | [_, _], _ => rfl)
  obtain ⟨f_l_draws, fd_l_draws, D_l_draws⟩ := dn_of X G (ps := p_l_draws) d_l_draws (fun _ _ _ _ _ _ us hl => match us, hl with | [_, _], _ => rfl)
  obtain ⟨f_l_turn, fd_l_turn, D_l_turn⟩ := dn_of X G (ps := p_l_turn) d_l_turn (fun _ _ _ _ _ _ us hl => match us, hl with | [_, _], _ => rfl)
  obtain ⟨f_l_after, fd_l_after, D_l_after⟩ := dn_of X G (ps := p_l_after) d_l_after (fun _ _ _ _ _ _ us hl => match us, hl with | [_, _], _ => rfl)
  obtain ⟨f_is_turn, fd_is_turn, D_is_turn⟩ := dn_of X G (ps := p_is_turn) d_is_turn (fun _ _ _ _ _ _ us hl => match us, hl with | [_], _ => rfl)
  obtain ⟨f_l_same, fd_l_same, D_l_same⟩ := dn_of X G (ps := p_l_same) d_l_same (fun _ _ _ _ _ _ us hl => match us, hl with | [_, _], _ => rfl)
  obtain ⟨f_l_size, fd_l_size, D_l_size⟩ := dn_of X G (ps := p_l_size) d_l_size (fun _ _ _ _ _ _ us hl => match us, hl with | [_], _ => rfl)
  obtain ⟨f_l_asked, fd_l_asked, D_l_asked⟩ := dn_of X G (ps := p_l_asked) d_l_asked (fun _ _ _ _ _ _ us hl => match us, hl with | [_], _ => rfl)
  obtain ⟨f_law, fd_law, D_law⟩ := dn_of X G (ps := p_law) d_law (fun _ _ _ _ _ _ us hl => match us, hl with | [_], _ => rfl)
  have e := hfa.symm.trans D_law.g
  cases e
  refine ⟨fd_law, fun s v => ?_, fun base _ _ => ?_⟩
  · obtain ⟨_, _, _, _, _, _, _, _, _, rfl, _, _⟩ := D_law.F.ex
    exact .of_eq rfl
  · have B0 : KinBase l.prog w K mg base C0 := kinBase_of X G e0
    have g_KinError : mg "KinError" = some (.ref C0) := by obtain ⟨_, _, _, g, _⟩ := B0; exact g
    have r_BadLand := rsb_BadLand (P := l.prog) (w := w) (base := base) X G B0 e_BadLand
    have g_BadLand : mg "BadLand" = some (.ref C_BadLand) := r_BadLand.1
    have u_BadLand : Under K C_BadLand C0 := under_of e0 s_BadLand
    have k_BadLand : KinC K C_BadLand := r_BadLand.2.1
    have r_Unequal := rsb_Unequal (P := l.prog) (w := w) (base := base) X G B0 e_Unequal fl_Unequal
    have g_Unequal : mg "Unequal" = some (.ref C_Unequal) := r_Unequal.1
    have u_Unequal : Under K C_Unequal C0 := under_of e0 s_Unequal
    have k_Unequal : KinC K C_Unequal := r_Unequal.2.1
    have c_l_cell := ok_l_cell (P := l.prog) (w := w) (base := base) D_l_cell b 
    have c_l_draws := ok_l_draws (P := l.prog) (w := w) (base := base) D_l_draws b 
    have c_l_turn := ok_l_turn (P := l.prog) (w := w) (base := base) D_l_turn b 
    have c_l_after := ok_l_after (P := l.prog) (w := w) (base := base) D_l_after b 
    have c_is_turn := ok_is_turn (P := l.prog) (w := w) (base := base) D_is_turn b 
    have c_l_same := ok_l_same (P := l.prog) (w := w) (base := base) D_l_same b 
    have L : LandC K CL := ⟨cl_Land.2.1, na_Land_size, na_Land_mother, na_Land_father, na_Land_wife⟩
    have ML := mak_of (P := l.prog) (w := w) (base := base) X G cl_Land D_Land_init (ok_Land_init D_Land_init b L r_BadLand r_Unequal g_FEWEST g_MOST c_is_turn)
    have c_l_size := ok_l_size (P := l.prog) (w := w) (base := base) D_l_size b 
    have c_l_asked := ok_l_asked (P := l.prog) (w := w) (base := base) D_l_asked b g_KinError g_BadLand g_Unequal k_BadLand k_Unequal u_BadLand L fl_Unequal sUU sBU sUB nUB ML
    exact ok_law D_law b c_l_cell c_l_draws c_l_turn c_l_after c_l_same c_l_size c_l_asked

end Kin

open PySem PySem.W PyProof.Rows
set_option maxRecDepth 100000 in
set_option maxHeartbeats 0 in
theorem PySem.Challenge.cw_kinhearth_k07_lands_let_by_holds : PySem.Challenge.rw_kinhearth_k07_lands_let_by.Holds := by
  w_on; o_law; k_head; (case hw => w_witness2)
  k_fill
  refine L2.walk_of (l := PySem.Challenge.rw_kinhearth_k07_lands_let_by) (n := 63) (k := 7) (x := "_law_script") (CX := fun _ => L2.CX0) (sp := fun w => Kin.spLaw _) rfl (by decide) rfl ⟨rfl, by decide, by decide⟩ (fun w h Y => PySem.W.kIn_of Y) ?F (fun _ _ a ns hl _ hS => ⟨a, ns, rfl, hS, hl, fun _ => rfl⟩) (fun _ _ _ _ _ h => h)
  case F =>
    intro w mg fa h KX G
    refine' Kin.all_mk KX G ?e0 ?e_BadLand ?s_BadLand ?e_Unequal ?s_Unequal ?sUU ?sBU ?sUB ?nUB ?fl_Unequal ?k_FEWEST ?k_MOST ?cl_Land ?na_Land_size ?na_Land_mother ?na_Land_father ?na_Land_wife ?d_Land_init ?d_l_cell ?d_l_draws ?d_l_turn ?d_l_after ?d_is_turn ?d_l_same ?d_l_size ?d_l_asked ?d_law ?z0 ?z1 ?z2 ?z3 ?z4 ?z5 ?z6 ?z7 ?z8 ?z9 ?z10 ?z11 ?z12 ?z13 ?z14 ?z15 ?z16 ?z17
    (case e0 => (refine' Kin.baseIn_mk ?b_a ?b_s1 ?b_s2 ?b_s3 ?b_r ?b_g ?b_v ?b_l ?b_c ?b_k; (case b_a => k_is); (case b_s1 => k_is); (case b_s2 => k_is); (case b_s3 => k_is); (case b_r => k_is); (case b_g => k_is); (case b_v => k_is); (case b_l => k_is); (case b_c => k_is); (case b_k => k_is)))
    (case e_BadLand => (refine' Kin.errIn_mk ?r_a ?r_xl ?r_rv ?r_sa ?r_ga ?r_gg ?r_ex ?r_ty ?r_kc ?r_hd ?r_cl ?r_gt ?r_tk ?r_mr ?r_nw ?r_iC ?r_tI ?r_l ?r_c ?r_k; (case r_a => k_is); (case r_xl => k_is); (case r_rv => rfl); (case r_sa => k_is); (case r_ga => k_is); (case r_gg => k_is); (case r_ex => k_is); (case r_ty => k_is); (case r_kc => k_is); (case r_hd => k_is); (case r_cl => k_is); (case r_gt => k_is); (case r_tk => k_is); (case r_mr => k_is); (case r_nw => k_is); (case r_iC => k_is); (case r_tI => k_is); (case r_l => k_is); (case r_c => k_is); (case r_k => k_is)))
    (case s_BadLand => k_is)
    (case e_Unequal => (refine' Kin.errIn_mk ?r_a ?r_xl ?r_rv ?r_sa ?r_ga ?r_gg ?r_ex ?r_ty ?r_kc ?r_hd ?r_cl ?r_gt ?r_tk ?r_mr ?r_nw ?r_iC ?r_tI ?r_l ?r_c ?r_k; (case r_a => k_is); (case r_xl => k_is); (case r_rv => rfl); (case r_sa => k_is); (case r_ga => k_is); (case r_gg => k_is); (case r_ex => k_is); (case r_ty => k_is); (case r_kc => k_is); (case r_hd => k_is); (case r_cl => k_is); (case r_gt => k_is); (case r_tk => k_is); (case r_mr => k_is); (case r_nw => k_is); (case r_iC => k_is); (case r_tI => k_is); (case r_l => k_is); (case r_c => k_is); (case r_k => k_is)))
    (case s_Unequal => k_is)
    (case sUU => first | k_is | (decide))
    (case sBU => first | k_is | (decide))
    (case sUB => first | k_is | (decide))
    (case nUB => first | k_is | (decide))
    (case fl_Unequal => k_is)
    (case k_FEWEST => k_is)
    (case k_MOST => k_is)
    (case cl_Land => (refine' Kin.clsIn_mk ?x_a ?x_pg ?x_hd ?x_po ?x_sa ?x_mk ?x_kc; (case x_a => k_is); (case x_pg => k_is); (case x_hd => k_is); (case x_po => k_is); (case x_sa => k_is); (case x_mk => k_is); (case x_kc => k_is)))
    (case na_Land_size => k_is)
    (case na_Land_mother => k_is)
    (case na_Land_father => k_is)
    (case na_Land_wife => k_is)
    (case d_Land_init => (refine' Kin.metIn_mk ?y_a ?y_i ?y_l ?y_c ?y_k; (case y_a => k_is); (case y_i => k_is); (case y_l => k_is); (case y_c => k_is); (case y_k => k_is)))
    (case d_l_cell => (refine' Kin.defIn_mk ?a ?l ?c ?k; (case a => k_is); (case l => k_is); (case c => k_is); (case k => k_is)))
    (case d_l_draws => (refine' Kin.defIn_mk ?a ?l ?c ?k; (case a => k_is); (case l => k_is); (case c => k_is); (case k => k_is)))
    (case d_l_turn => (refine' Kin.defIn_mk ?a ?l ?c ?k; (case a => k_is); (case l => k_is); (case c => k_is); (case k => k_is)))
    (case d_l_after => (refine' Kin.defIn_mk ?a ?l ?c ?k; (case a => k_is); (case l => k_is); (case c => k_is); (case k => k_is)))
    (case d_is_turn => (refine' Kin.defIn_mk ?a ?l ?c ?k; (case a => k_is); (case l => k_is); (case c => k_is); (case k => k_is)))
    (case d_l_same => (refine' Kin.defIn_mk ?a ?l ?c ?k; (case a => k_is); (case l => k_is); (case c => k_is); (case k => k_is)))
    (case d_l_size => (refine' Kin.defIn_mk ?a ?l ?c ?k; (case a => k_is); (case l => k_is); (case c => k_is); (case k => k_is)))
    (case d_l_asked => (refine' Kin.defIn_mk ?a ?l ?c ?k; (case a => k_is); (case l => k_is); (case c => k_is); (case k => k_is)))
    (case d_law => (refine' Kin.defIn_mk ?a ?l ?c ?k; (case a => k_is); (case l => k_is); (case c => k_is); (case k => k_is)))
    (case z0 => k_is)
    (case z1 => k_is)
    (case z2 => k_is)
    (case z3 => k_is)
    (case z4 => k_is)
    (case z5 => k_is)
    (case z6 => k_is)
    (case z7 => k_is)
    (case z8 => k_is)
    (case z9 => k_is)
    (case z10 => k_is)
    (case z11 => k_is)
    (case z12 => k_is)
    (case z13 => k_is)
    (case z14 => k_is)
    (case z15 => k_is)
    (case z16 => k_is)
    (case z17 => k_is)
