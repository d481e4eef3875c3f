import PyProof.Rows.All
import Wide.All
import OpenK.AllK
import Wide.FinOn
import HandS.ForMost
import HandS.ForExc
import HandS.Conv
import HandS.IsInst
import HandS.Wide
import HandS.Flow
import HandS.ExcInit
import HandS.ExcField
import HandS.ExcIs
import HandS.TryMany
import HandS.Steps
import HandS.More
import KE.KExcIs
import HandS.ClsMeth
import PySem.Challenge.RW_kinhearth_k02_one_behind_another
set_option Elab.async false
set_option linter.all false
set_option maxRecDepth 100000
set_option maxHeartbeats 4000000
/-! B0: words over HandS that all the laws here share -/
namespace Kin
open PySem PySem.Spec PyProof.Rows L2

/-! ### heaps: facts carried over new objects and stores -/
theorem upd_new {H : Hp} {p a : Addr} {o u : HO} (np : H p = none) (h : H a = some u) : upd H p o a = some u := by
  rw [upd_ne (ne_of_none h np)]
  exact h
theorem upd_old {H : Hp} {p a : Addr} {o u : HO} (ne : a ≠ p) (h : H a = some u) : upd H p o a = some u := by
  rw [upd_ne ne]
  exact h
theorem sameAt {H H' : Hp} (s : Same H H') {a : Addr} {o : HO} (h : H a = some o) : H' a = some o := s a o h
theorem same_new {H0 H : Hp} {p : Addr} {o : HO} (s : Same H0 H) (f : H0 p = none) : Same H0 (upd H p o) := fun b x e => by
  rw [upd_ne (ne_of_none e f)]
  exact s b x e
theorem same_seqT {K : PySem.W.Frag} {H H' : Hp} {a : Addr} {xs : List V} (e : Same H H') (h : SqT K H a xs) : SqT K H' a xs := by
  rcases h with (h | ⟨o, h⟩) | h
  · exact .inl (.inl (e _ _ h))
  · exact .inl (.inr ⟨o, e _ _ h⟩)
  · exact .inr h
/-- a list or a tuple -/
def Sq (K : PySem.W.Frag) (H : Hp) (a : Addr) (xs : List V) : Prop := SqL K H a xs ∨ SqT K H a xs
theorem same_sq {K : PySem.W.Frag} {H H' : Hp} {a : Addr} {xs : List V} (e : Same H H') (h : Sq K H a xs) : Sq K H' a xs := by
  rcases h with h | h
  · exact .inl (e.seq h)
  · exact .inr (same_seqT e h)
theorem sqL_old {K : PySem.W.Frag} {H : Hp} {p a : Addr} {o : HO} {xs : List V} (ne : a ≠ p) (h : SqL K H a xs) : SqL K (upd H p o) a xs := by
  rcases h with (h | ⟨q, h⟩) | h
  · exact .inl (.inl (upd_old ne h))
  · exact .inl (.inr ⟨q, upd_old ne h⟩)
  · exact .inr h
theorem sqT_old {K : PySem.W.Frag} {H : Hp} {p a : Addr} {o : HO} {xs : List V} (ne : a ≠ p) (h : SqT K H a xs) : SqT K (upd H p o) a xs := by
  rcases h with (h | ⟨q, h⟩) | h
  · exact .inl (.inl (upd_old ne h))
  · exact .inl (.inr ⟨q, upd_old ne h⟩)
  · exact .inr h
theorem free_ne {H : Hp} {a b : Addr} {o : HO} (h : H a = some o) (n : H b = none) : b ≠ a := fun e => by
  rw [e, h] at n
  cases n
theorem lst_sz {xs : List V} {n : Nat} (h : xs.length ≤ n) (hn : n ≤ 100000) : xs.length ≤ sizeLine := Nat.le_trans h (Nat.le_trans hn (by decide))
theorem sz_le {n : Nat} (h : n ≤ 100000) : n ≤ sizeLine := Nat.le_trans h (by decide)
theorem sz_lt {n : Nat} (h : n < 100000) : n < sizeLine := Nat.lt_of_lt_of_le h (by decide)

/-- the ways of a statement joined: what holds behind it -/
theorem seq_cut {t u : TS} {D : Ends} {σ : L2.St} {H : Hp} (R : L2.St → Hp → Prop) (h1 : ∀ N : L2.St → Hp → Prop, (∀ σ' H', R σ' H' → N σ' H') → t { D with nx := N } σ H) (h2 : ∀ σ' H', R σ' H' → u D σ' H') : tSeq t u D σ H := h1 (u D) h2

/-- an if without else whose test is false -/
theorem ifno {A : Prop} {D : Ends} {σ : L2.St} {H : Hp} (h : D.nx σ H) : if false = true then A else tNext D σ H := iteF h

/-! ### a def that can be called by its name -/
def Cal (P : Program) (w : World) (K : PySem.W.Frag) (mg : Str → Option Value) (base : Heap) (CX : CXT) (k : Nat) (x : Str) (ps : List Str) (sp : Sp) : Prop :=
  ∃ (f : Addr) (fd : FuncData), mg x = some (.ref f) ∧ PySem.W.keepIn K (.ref f) = true ∧ Binds K fd ps [] ∧ FnOk P w K mg base CX k f fd ps sp
section
variable {X : Cx} {CX : CXT} {k j : Nat} {x : Str} {ps : List Str} {sp : Sp} {E : XK} {p pos : Pos} {e : Expr} {es : List Expr} {t : TA}
theorem pe_c (c : Cal X.prog X.w X.K X.mg X.base CX k x ps sp) (hr : Room j X.A) (hj : k ≤ j) (hg : Gl X x) (hx : Passes CX X E) (ha : PA X (e :: es) t)
    (hdb : (x == ("__debug__" : Str)) = false := by decide) (he : starEach (e :: es) X.env = (false, eval e X.env) :: starEach es X.env := by rfl) (hpl : (backTo pos (starEach es X.env)).any (·.1) = false := by rfl) :
    PE X (.Call (.Name x p) (e :: es) [] pos) (tCall sp [] E t) := by
  obtain ⟨f, fd, hm, hk, hb, F⟩ := c
  exact pe_call F (hr.mono hj) hg hm hk hb .nil hx ha hdb he hpl
theorem pe_c0 (c : Cal X.prog X.w X.K X.mg X.base CX k x ps sp) (hr : Room j X.A) (hj : k ≤ j) (hg : Gl X x) (hx : Passes CX X E)
    (hdb : (x == ("__debug__" : Str)) = false := by decide) : PE X (.Call (.Name x p) [] [] pos) (tCall sp [] E tNil) := by
  obtain ⟨f, fd, hm, hk, hb, F⟩ := c
  exact pe_call0 F (hr.mono hj) hg hm hk hb .nil hx hdb
end

/-! ### rules whose reading speaks of the written part, for use within a comprehension -/
section
variable {X : Cx}
theorem ix_listK (K : PySem.W.Frag) (h : X.K = K := by rfl) : IxR X (rIxL K) := by subst h; exact ix_list
theorem ix_tupK (K : PySem.W.Frag) (h : X.K = K := by rfl) : IxR X (rIxT K) := by subst h; exact ix_tup
theorem sl_listK (K : PySem.W.Frag) (h : X.K = K := by rfl) : SlR X (rSlL K) := by subst h; exact sl_list
theorem op_in_seqK (K : PySem.W.Frag) (h : X.K = K := by rfl) : OpR X (compareOp .In) (rIn K false) := by subst h; exact op_in_seq
theorem op_notIn_seqK (K : PySem.W.Frag) (h : X.K = K := by rfl) : OpR X (compareOp .NotIn) (rIn K true) := by subst h; exact op_notIn_seq
theorem op_eqDK (K : PySem.W.Frag) (hu : X.A.units + 64 < cLine) (h : X.K = K := by rfl) : OpR X (compareOp .Eq) (rEqD K) := by subst h; exact op_eqD hu
theorem op_neDK (K : PySem.W.Frag) (hu : X.A.units + 64 < cLine) (h : X.K = K := by rfl) : OpR X (compareOp .NotEq) (rNeD K) := by subst h; exact op_neD hu
theorem call_len_seqK (K : PySem.W.Frag) (h : X.K = K := by rfl) : CallR X (.builtin "len") (fun xs H Q => ∃ p ys, xs = [.ref p] ∧ (SqL K H p ys ∨ SqT K H p ys) ∧ Q (.int ys.length) H) := by subst h; exact call_len_seq
theorem call_tuple_ofK (K : PySem.W.Frag) (h : X.K = K := by rfl) : CallR X (.type "tuple") (fun xs H Q => ∃ p ys, xs = [.ref p] ∧ ((SqL K H p ys ∧ ∀ l, H l = none → Q (.ref l) (upd H l (.tup ys))) ∨ (SqT K H p ys ∧ Q (.ref p) H))) := by subst h; exact call_tuple_of
theorem call_list_ofK (K : PySem.W.Frag) (h : X.K = K := by rfl) : CallR X (.type "list") (fun xs H Q => ∃ p ys, xs = [.ref p] ∧ (SqL K H p ys ∨ SqT K H p ys) ∧ ∀ l, H l = none → Q (.ref l) (upd H l (.lst ys))) := by subst h; exact call_list_of
theorem pe_fldK (K : PySem.W.Frag) {e : Expr} {f : Str} {ta : TE} {pos : Pos} (he : PE X e ta) (hb : attributeBase e f X.env (eval e X.env) = eval e X.env) (h : X.K = K := by rfl) : PE X (.Attribute e f pos) (tFld K ta f) := by subst h; exact pe_fld he hb
theorem pe_bmK (K : PySem.W.Frag) {o e : Expr} {es : List Expr} {to : TE} {t : TA} {name : Str} {apos cpos : Pos} {T id : String} {r : V → List V → Hp → VK → Prop} (pa : PlainAttrs T) (slot : Slot T name id) (hty : typeOf (.builtin id) = pure (.type "method_descriptor")) (hm : MtR X id r) (ho : PE X o to) (ha : PA X (e :: es) t)
    (h : X.K = K := by rfl) (hbase : attributeBase o name X.env (eval o X.env) = eval o X.env := by rfl)
    (hfew : ((backTo cpos (starEach (e :: es) X.env)).all (fun x => !x.1) && (backToKw cpos (keywordEach [] X.env)).all (fun x => x.1.isSome)
      && decide ((e :: es).length + ([] : List Keyword).length + (if ([] : List Keyword).isEmpty then 0 else 1) < 30)) = true := by rfl)
    (hline : (apos.endLine == cpos.line) = true := by rfl) (hs : starEach (e :: es) X.env = (false, eval e X.env) :: starEach es X.env := by rfl) (hplain : (backTo cpos (starEach es X.env)).any (·.1) = false := by rfl) :
    PE X (.Call (.Attribute o name apos) (e :: es) [] cpos) (tBM K T r to t) := by subst h; exact pe_bm pa slot hty hm ho ha hbase hfew hline hs hplain
end

/-! ### a def as the top has left it -/
structure Dn (K : PySem.W.Frag) (mg : Str → Option Value) (x : Str) (st : Stmt) (ps : List Str) (f : Addr) (fd : FuncData) : Prop where
  F : Fun K x x st f fd
  b : Binds K fd ps []
  g : mg x = some (.ref f)
theorem Dn.cal {P : Program} {w : World} {K : PySem.W.Frag} {mg : Str → Option Value} {base : Heap} {CX : CXT} {k : Nat} {x : Str} {st : Stmt} {ps : List Str} {sp : Sp} {f : Addr} {fd : FuncData} (D : Dn K mg x st ps f fd) (F : FnOk P w K mg base CX k f fd ps sp) :
    Cal P w K mg base CX k x ps sp := ⟨f, fd, D.g, D.F.kp, D.b, F⟩
/-- .. by what the written part says -/
def DefIn (K : PySem.W.Frag) (x : Str) (st : Stmt) : Prop := ∃ (f : Addr) (oc : Value) (od : Option Addr) (kV doc pm : Value) (an : Option Addr) (cdv ct : Value) (osl : Array (Option Value)),
  PySem.W.nsIn K mainGlobals x = some (some (.ref f)) ∧ K.lookup f = some ⟨oc, od, .func (PySem.W.fnOf x x (defArgs st) (defBody st) (defScope st) .none kV doc pm an cdv ct), osl⟩ ∧ PySem.W.codeIn K cdv x = true ∧ PySem.W.keepIn K (.ref f) = true
theorem defIn_mk {K : PySem.W.Frag} {x : Str} {st : Stmt} {f : Addr} {oc : Value} {od : Option Addr} {kV doc pm : Value} {an : Option Addr} {cdv ct : Value} {osl : Array (Option Value)} (a : PySem.W.nsIn K mainGlobals x = some (some (.ref f)))
    (l : K.lookup f = some ⟨oc, od, .func (PySem.W.fnOf x x (defArgs st) (defBody st) (defScope st) .none kV doc pm an cdv ct), osl⟩) (c : PySem.W.codeIn K cdv x = true) (k : PySem.W.keepIn K (.ref f) = true) : DefIn K x st := ⟨f, oc, od, kV, doc, pm, an, cdv, ct, osl, a, l, c, k⟩
theorem dn_of {K : PySem.W.Frag} {h : Heap} {mg : Str → Option Value} (X : K.In h) (G : h.Ns mainGlobals mg) {x : Str} {st : Stmt} {ps : List Str} (d : DefIn K x st)
    (hb : ∀ (kV doc pm : Value) (an : Option Addr) (cdv ct : Value) (us : List Value), us.length = ps.length → bindArgs (PySem.W.fnOf x x (defArgs st) (defBody st) (defScope st) .none kV doc pm an cdv ct) ⟨us, []⟩ = pure (ps.zip us)) :
    ∃ f fd, Dn K mg x st ps f fd := by
  obtain ⟨f, oc, od, kV, doc, pm, an, cdv, ct, osl, a, l, c, k⟩ := d
  have F := fun_mk (st := st) l c k
  exact ⟨f, _, F, F.binds hb, PySem.W.mg_of X G a⟩

/-! ### the built-ins that no module's name hides -/
structure Blt (mg : Str → Option Value) : Prop where
  len : mg "len" = none
  range : mg "range" = none
  ty_list : mg "list" = none
  ty_tuple : mg "tuple" = none
  ty_int : mg "int" = none
  ty_bool : mg "bool" = none
  ty_str : mg "str" = none
  ty_dict : mg "dict" = none
  ty_ValueError : mg "ValueError" = none
  sorted : mg "sorted" = none
  isinstance : mg "isinstance" = none
  abs : mg "abs" = none
  all : mg "all" = none
  any : mg "any" = none
  sum : mg "sum" = none
  min : mg "min" = none
  max : mg "max" = none
  enumerate : mg "enumerate" = none
theorem blt_of {K : PySem.W.Frag} {h : Heap} {mg : Str → Option Value} (X : K.In h) (G : h.Ns mainGlobals mg)
    (h1 : PySem.W.nsIn K mainGlobals "len" = some none) (h2 : PySem.W.nsIn K mainGlobals "range" = some none) (h3 : PySem.W.nsIn K mainGlobals "list" = some none) (h4 : PySem.W.nsIn K mainGlobals "tuple" = some none)
    (h5 : PySem.W.nsIn K mainGlobals "int" = some none) (h6 : PySem.W.nsIn K mainGlobals "bool" = some none) (h7 : PySem.W.nsIn K mainGlobals "str" = some none) (h8 : PySem.W.nsIn K mainGlobals "dict" = some none)
    (h9 : PySem.W.nsIn K mainGlobals "ValueError" = some none) (h10 : PySem.W.nsIn K mainGlobals "sorted" = some none) (h11 : PySem.W.nsIn K mainGlobals "isinstance" = some none) (h12 : PySem.W.nsIn K mainGlobals "abs" = some none)
    (h13 : PySem.W.nsIn K mainGlobals "all" = some none) (h14 : PySem.W.nsIn K mainGlobals "any" = some none) (h15 : PySem.W.nsIn K mainGlobals "sum" = some none) (h16 : PySem.W.nsIn K mainGlobals "min" = some none)
    (h17 : PySem.W.nsIn K mainGlobals "max" = some none) (h18 : PySem.W.nsIn K mainGlobals "enumerate" = some none) : Blt mg :=
  ⟨PySem.W.mg_none_of X G h1, PySem.W.mg_none_of X G h2, PySem.W.mg_none_of X G h3, PySem.W.mg_none_of X G h4, PySem.W.mg_none_of X G h5, PySem.W.mg_none_of X G h6, PySem.W.mg_none_of X G h7, PySem.W.mg_none_of X G h8, PySem.W.mg_none_of X G h9,
    PySem.W.mg_none_of X G h10, PySem.W.mg_none_of X G h11, PySem.W.mg_none_of X G h12, PySem.W.mg_none_of X G h13, PySem.W.mg_none_of X G h14, PySem.W.mg_none_of X G h15, PySem.W.mg_none_of X G h16, PySem.W.mg_none_of X G h17, PySem.W.mg_none_of X G h18⟩
end Kin

set_option Elab.async false
set_option linter.all false
set_option maxRecDepth 100000
set_option maxHeartbeats 4000000
/-! M0: turnings, as plain lists -/
namespace Kin
open PySem L2

def rgI (n : Nat) : List Int := (List.range n).map fun i : Nat => (i : Int)
theorem rgI_len (n : Nat) : (rgI n).length = n := by simp [rgI]
theorem rgI_get {n i : Nat} (h : i < n) : (rgI n)[i]? = some (i : Int) := by
  simp [rgI, h]
theorem mem_rgI {n : Nat} {x : Int} : x ∈ rgI n ↔ 0 ≤ x ∧ x < n := by
  unfold rgI
  rw [List.mem_map]
  constructor
  · rintro ⟨a, ha, rfl⟩
    have := List.mem_range.mp ha
    omega
  · rintro ⟨h0, h1⟩
    exact ⟨x.toNat, List.mem_range.mpr (by omega), by omega⟩
theorem rgI_sorted (n : Nat) : (rgI n).Pairwise (· ≤ ·) := by
  unfold rgI
  rw [List.pairwise_map]
  exact List.pairwise_lt_range.imp (fun h => by omega)
theorem rgI_nodup (n : Nat) : (rgI n).Nodup := by
  unfold rgI List.Nodup
  rw [List.pairwise_map]
  exact List.pairwise_lt_range.imp (fun h => by omega)

/-- a turning -/
structure Turn (ns : List Int) : Prop where
  nd : ns.Nodup
  lo : ∀ x ∈ ns, 0 ≤ x ∧ x < (ns.length : Int)

theorem perm_of_sub {l m : List Int} (hn : l.Nodup) (hs : ∀ x ∈ l, x ∈ m) (hl : m.length ≤ l.length) : l.Perm m := by
  induction l generalizing m with
  | nil =>
    have : m = [] := List.eq_nil_of_length_eq_zero (by simpa using hl)
    subst this
    exact List.Perm.refl _
  | cons x r ih =>
    have hx : x ∈ m := hs x List.mem_cons_self
    obtain ⟨h1, h2⟩ := List.nodup_cons.mp hn
    have hp : m.Perm (x :: m.erase x) := List.perm_cons_erase hx
    refine List.Perm.trans (List.Perm.cons x (ih (m := m.erase x) h2 (fun y hy => ?_) ?_)) hp.symm
    · have hne : y ≠ x := fun e => h1 (e ▸ hy)
      exact (List.mem_erase_of_ne hne).mpr (hs y (List.mem_cons_of_mem _ hy))
    · have := hp.length_eq
      simp only [List.length_cons] at this hl
      omega
theorem Turn.perm {ns : List Int} (t : Turn ns) : ns.Perm (rgI ns.length) :=
  perm_of_sub t.nd (fun x hx => mem_rgI.mpr (t.lo x hx)) (by rw [rgI_len]; exact Nat.le_refl _)
theorem turn_of_perm {ns : List Int} {n : Nat} (h : ns.Perm (rgI n)) : Turn ns := by
  have hl : ns.length = n := by rw [h.length_eq, rgI_len]
  refine ⟨h.symm.nodup (rgI_nodup n), fun x hx => ?_⟩
  rw [hl]
  exact mem_rgI.mp (h.mem_iff.mp hx)
theorem turn_iff {ns : List Int} : Turn ns ↔ ns.Perm (rgI ns.length) := ⟨Turn.perm, turn_of_perm⟩

def okAt (n : Nat) : List Int → List Int → Bool
  | _, [] => true
  | seen, x :: r => if x < 0 ∨ (n : Int) ≤ x ∨ x ∈ seen then false else okAt n (seen ++ [x]) r
def isTurn (ns : List Int) : Bool := okAt ns.length [] ns
theorem okAt_iff {n : Nat} : ∀ (r seen : List Int), okAt n seen r = true ↔ (∀ x ∈ r, 0 ≤ x ∧ x < (n : Int) ∧ ¬ x ∈ seen) ∧ r.Nodup
  | [], seen => by simp [okAt]
  | x :: r, seen => by
    unfold okAt
    by_cases h : x < 0 ∨ (n : Int) ≤ x ∨ x ∈ seen
    · rw [if_pos h]
      refine ⟨fun z => (nomatch z), fun z => ?_⟩
      have := z.1 x List.mem_cons_self
      rcases h with h | h | h
      · omega
      · omega
      · exact absurd h this.2.2
    · rw [if_neg h, okAt_iff r (seen ++ [x])]
      constructor
      · rintro ⟨h1, h2⟩
        refine ⟨fun y hy => ?_, List.nodup_cons.mpr ⟨fun hx => (h1 x hx).2.2 (by simp), h2⟩⟩
        rcases List.mem_cons.mp hy with rfl | hy
        · exact ⟨by omega, by omega, fun z => h (.inr (.inr z))⟩
        · have := h1 y hy
          exact ⟨this.1, this.2.1, fun z => this.2.2 (by simp [z])⟩
      · rintro ⟨h1, h2⟩
        obtain ⟨h3, h4⟩ := List.nodup_cons.mp h2
        refine ⟨fun y hy => ?_, h4⟩
        have := h1 y (List.mem_cons_of_mem _ hy)
        refine ⟨this.1, this.2.1, fun z => ?_⟩
        rcases List.mem_append.mp z with z | z
        · exact this.2.2 z
        · have e : y = x := by simpa using z
          exact h3 (e ▸ hy)
theorem isTurn_iff {ns : List Int} : isTurn ns = true ↔ Turn ns := by
  unfold isTurn
  rw [okAt_iff]
  constructor
  · rintro ⟨h1, h2⟩
    exact ⟨h2, fun x hx => ⟨(h1 x hx).1, (h1 x hx).2.1⟩⟩
  · rintro ⟨h1, h2⟩
    exact ⟨fun x hx => ⟨(h2 x hx).1, (h2 x hx).2, by simp⟩, h1⟩
/-- a sorted row is the rising one just where it is a turning -/
theorem sorted_full {ns ns' : List Int} (hp : ns'.Perm ns) (hs : ns'.Pairwise (· ≤ ·)) : decide (ns' = rgI ns.length) = isTurn ns := by
  by_cases h : Turn ns
  · rw [isTurn_iff.mpr h]
    exact decide_eq_true (PySem.W.ksm_same (hp.trans h.perm) hs (rgI_sorted _))
  · have h1 : isTurn ns = false := by
      cases e : isTurn ns with
      | false => rfl
      | true => exact absurd (isTurn_iff.mp e) h
    rw [h1]
    refine decide_eq_false fun e => h ?_
    exact turn_of_perm (e ▸ hp.symm)

/-! ### what a law draws -/
def cell (ns : List Int) (k : Nat) : Int := ns.getD k 0
def seed (c : Int) : Int :=
  if (if c < 0 then -c else c) < 10 ^ 18 then
    (((c * 48271 + 11) % 2147483647) * ((c * 48271 + 11) % 2147483647) + 40692 * ((c * 48271 + 11) % 2147483647) + c) % 2147483399
      + 2147483399 * (((((c * 48271 + 11) % 2147483647) * ((c * 48271 + 11) % 2147483647) + 40692 * ((c * 48271 + 11) % 2147483647) + c) % 2147483399 * 16807 + (c * 48271 + 11) % 2147483647) % 1000000007 + 1000000007 * ((c * 48271 + 11) % 2147483647))
  else (if c < 0 then -c else c) - 10 ^ 18
def drawn : Int → List Int → List Int
  | _, [] => []
  | s, p :: r => s % p :: drawn (s / p) r
def draws (c : Int) (ps : List Int) : List Int := drawn (seed c) ps
theorem drawn_len : ∀ (s : Int) (ps : List Int), (drawn s ps).length = ps.length
  | _, [] => rfl
  | s, p :: r => by simp [drawn, drawn_len (s / p) r]
theorem draws_len (c : Int) (ps : List Int) : (draws c ps).length = ps.length := drawn_len _ _
theorem drawn_get : ∀ (s : Int) (ps : List Int) (i : Nat) (p : Int), ps[i]? = some p → 0 < p → ∃ d, (drawn s ps)[i]? = some d ∧ 0 ≤ d ∧ d < p
  | _, [], i, p, h, _ => by simp at h
  | s, q :: r, 0, p, h, hp => by
    have e : q = p := Option.some.inj h
    subst e
    exact ⟨s % q, rfl, Int.emod_nonneg _ (by omega), Int.emod_lt_of_pos _ hp⟩
  | s, q :: r, i + 1, p, h, hp => drawn_get (s / q) r i p h hp
theorem draws_get {c : Int} {ps : List Int} {i : Nat} {p : Int} (h : ps[i]? = some p) (hp : 0 < p) : ∃ d, (draws c ps)[i]? = some d ∧ 0 ≤ d ∧ d < p := drawn_get _ _ _ _ h hp
/-- what is left of the number behind i draws -/
def rest (s : Int) : List Int → Int
  | [] => s
  | p :: r => rest (s / p) r
theorem rest_snoc : ∀ (s : Int) (ps : List Int) (p : Int), rest s (ps ++ [p]) = rest s ps / p
  | _, [], _ => rfl
  | s, q :: r, p => rest_snoc (s / q) r p
theorem drawn_snoc : ∀ (s : Int) (ps : List Int) (p : Int), drawn s (ps ++ [p]) = drawn s ps ++ [rest s ps % p]
  | _, [], _ => rfl
  | s, q :: r, p => by
    show s % q :: drawn (s / q) (r ++ [p]) = s % q :: (drawn (s / q) r ++ [rest (s / q) r % p])
    rw [drawn_snoc]

/-- the turning of a number: one of the free ones by each rest -/
def picks : Nat → List Int → Int → List Int
  | 0, _, _ => []
  | n + 1, free, code => free.getD (code % ((n : Int) + 1)).toNat 0 :: picks n (free.eraseIdx (code % ((n : Int) + 1)).toNat) (code / ((n : Int) + 1))
def turnOf (code : Int) (n : Nat) : List Int := picks n (rgI n) code
theorem perm_erase : ∀ (l : List Int) (i : Nat) (h : i < l.length), l.Perm (l[i] :: l.eraseIdx i)
  | x :: r, 0, _ => List.Perm.refl _
  | x :: r, i + 1, h => by
    have h' : i < r.length := by simpa using h
    have ih := perm_erase r i h'
    show (x :: r).Perm (r[i] :: x :: r.eraseIdx i)
    exact (List.Perm.cons x ih).trans (List.Perm.swap _ _ _)
theorem picks_perm : ∀ (n : Nat) (free : List Int) (code : Int), free.length = n → (picks n free code).Perm free
  | 0, free, code, h => by
    have : free = [] := List.eq_nil_of_length_eq_zero h
    subst this
    exact List.Perm.refl _
  | n + 1, free, code, h => by
    have h0 : 0 ≤ code % ((n : Int) + 1) := Int.emod_nonneg _ (by omega)
    have h1 : code % ((n : Int) + 1) < (n : Int) + 1 := Int.emod_lt_of_pos _ (by omega)
    have hi : (code % ((n : Int) + 1)).toNat < free.length := by omega
    have hl : (free.eraseIdx (code % ((n : Int) + 1)).toNat).length = n := by
      rw [List.length_eraseIdx_of_lt hi]
      omega
    unfold picks
    rw [List.getD_eq_getElem?_getD, List.getElem?_eq_getElem hi]
    exact (List.Perm.cons _ (picks_perm n _ _ hl)).trans (perm_erase free _ hi).symm
theorem turnOf_perm (code : Int) (n : Nat) : (turnOf code n).Perm (rgI n) := picks_perm n _ code (rgI_len n)
theorem turnOf_len (code : Int) (n : Nat) : (turnOf code n).length = n := by rw [(turnOf_perm code n).length_eq, rgI_len]
theorem turnOf_turn (code : Int) (n : Nat) : Turn (turnOf code n) := turn_of_perm (turnOf_perm code n)

/-! ### data -/
theorem eqvAll_ints : ∀ ns ms : List Int, PyData.eqvAll (ns.map PyData.int) (ms.map PyData.int) = decide (ns = ms)
  | [], [] => by simp [PyData.eqvAll]
  | [], y :: ys => by simp [PyData.eqvAll]
  | x :: xs, [] => by simp [PyData.eqvAll]
  | x :: xs, y :: ys => by
    show PyData.eqvAll (PyData.int x :: xs.map PyData.int) (PyData.int y :: ys.map PyData.int) = _
    rw [PyData.eqvAll, eqvAll_ints xs ys, PyData.eqv]
    by_cases h : x = y <;> by_cases h2 : xs = ys <;> simp [h, h2]
theorem eqv_listI (ns ms : List Int) : PyData.eqv (.list (ns.map PyData.int)) (.list (ms.map PyData.int)) = decide (ns = ms) := by
  rw [PyData.eqv, eqvAll_ints]
theorem eqv_tupI (ns ms : List Int) : PyData.eqv (.tuple (ns.map PyData.int)) (.tuple (ms.map PyData.int)) = decide (ns = ms) := by
  rw [PyData.eqv, eqvAll_ints]
end Kin

set_option Elab.async false
set_option linter.all false
set_option maxRecDepth 100000
set_option maxHeartbeats 4000000
/-! B1: lists of numbers as values and as data -/
namespace Kin
open PySem PySem.Spec PyProof.Rows L2
theorem rgV_int (n : Nat) : rgV 0 (n : Int) = (rgI n).map V.int := by
  unfold rgV rgI
  rw [List.map_map, show ((n : Int) - 0).toNat = n by omega]
  refine List.map_congr_left fun i _ => ?_
  show V.int (0 + (i : Int)) = V.int (i : Int)
  rw [Int.zero_add]
theorem rg_ok {n : Nat} (h : n ≤ 1000) : RgOk 0 (n : Int) := RgOk.of_le (by omega) (by omega) (by omega) (by omega)
theorem int_at {ns : List Int} {i : Nat} {y : V} (h : (ns.map V.int)[i]? = some y) : ∃ z, ns[i]? = some z ∧ y = V.int z := by
  rw [List.getElem?_map] at h
  cases e : ns[i]? with
  | none => rw [e] at h; cases h
  | some z => rw [e] at h; exact ⟨z, rfl, (Option.some.inj h).symm⟩
theorem at_int {ns : List Int} {i : Int} {z : Int} (h0 : 0 ≤ i) (h : ns[i.toNat]? = some z) : atI (ns.map V.int) i = some (V.int z) := by
  have e : i = ((i.toNat : Nat) : Int) := by omega
  rw [e]
  refine atI_nat ?_
  rw [List.getElem?_map, h]
  rfl
theorem at_V {xs : List V} {i : Int} {z : V} (h0 : 0 ≤ i) (h : xs[i.toNat]? = some z) : atI xs i = some z := by
  have e : i = ((i.toNat : Nat) : Int) := by omega
  rw [e]
  exact atI_nat h
theorem ixN_in {n : Nat} {i : Int} (h0 : 0 ≤ i) (h1 : i < n) : ixN n i = some i.toNat := by
  unfold ixN
  rw [if_pos h0, if_pos h1]
theorem seqIx_in {n : Nat} {i : Int} (h0 : 0 ≤ i) (h1 : i < n) : seqIndex? i n = some i.toNat := (ixN_seq (ixN_in h0 h1)).1
theorem getD_some {ns : List Int} {i : Nat} (h : i < ns.length) : ns[i]? = some (ns.getD i 0) := by
  rw [List.getD_eq_getElem?_getD, List.getElem?_eq_getElem h]
  rfl
theorem set_ints (ns : List Int) (j : Nat) (z : Int) : (ns.map V.int).set j (V.int z) = (ns.set j z).map V.int := by rw [List.map_set]
theorem erase_ints (ns : List Int) (j : Nat) : (ns.map V.int).eraseIdx j = (ns.eraseIdx j).map V.int := by
  induction ns generalizing j with
  | nil => rfl
  | cons x r ih =>
    cases j with
    | zero => rfl
    | succ j =>
      show V.int x :: (r.map V.int).eraseIdx j = V.int x :: (r.eraseIdx j).map V.int
      rw [ih]
theorem snoc_ints (ns : List Int) (z : Int) : ns.map V.int ++ [V.int z] = (ns ++ [z]).map V.int := by rw [List.map_append]; rfl

theorem cut63 (ns : List Int) : cutV (ns.map V.int) none (some 63) = (ns.take 63).map V.int := by
  unfold cutV
  rw [HT.sIx_none, show HT.sIx (ns.map V.int).length (ns.map V.int).length (some 63) = min 63 (ns.map V.int).length from HT.sIx_nat _ _ 63]
  rw [List.drop_zero, List.map_take, Nat.sub_zero, List.take_eq_take_iff]
  omega

/-! ### as data -/
theorem dpAll_ints {K : PySem.W.Frag} {H : Hp} : ∀ ns : List Int, DpAll K H (ns.map V.int) (ns.map PyData.int)
  | [] => .nil
  | x :: r => .cons (.int x) (dpAll_ints r)
theorem dp_listI {K : PySem.W.Frag} {H : Hp} {a : Addr} {ns : List Int} (h : SqL K H a (ns.map V.int)) : Dp K H (.ref a) (.list (ns.map PyData.int)) := .lst h (dpAll_ints ns)
theorem dp_tupI {K : PySem.W.Frag} {H : Hp} {a : Addr} {ns : List Int} (h : SqT K H a (ns.map V.int)) : Dp K H (.ref a) (.tuple (ns.map PyData.int)) := .tup h (dpAll_ints ns)
theorem canLayAll_ints : ∀ ns : List Int, PyData.canLayAll0 (ns.map PyData.int) = true
  | [] => by simp [PyData.canLayAll0]
  | x :: r => by
    show PyData.canLayAll0 (PyData.int x :: r.map PyData.int) = true
    rw [PyData.canLayAll0, canLayAll_ints r, PyData.canLay0]
    rfl
theorem depthAll_ints : ∀ ns : List Int, PyData.depthAll (ns.map PyData.int) = 0
  | [] => by simp [PyData.depthAll]
  | x :: r => by
    show PyData.depthAll (PyData.int x :: r.map PyData.int) = 0
    rw [PyData.depthAll, depthAll_ints r, PyData.depth]
    rfl
theorem shaped_listI (ns : List Int) : SeqAt.shaped (.list (ns.map PyData.int)) = true := by
  unfold SeqAt.shaped
  rw [PyData.canLay0, canLayAll_ints, PyData.depth, depthAll_ints]
  rfl
theorem shaped_tupI (ns : List Int) : SeqAt.shaped (.tuple (ns.map PyData.int)) = true := by
  unfold SeqAt.shaped
  rw [PyData.canLay0, canLayAll_ints, PyData.depth, depthAll_ints]
  rfl
end Kin

set_option Elab.async false
set_option linter.all false
set_option maxRecDepth 100000
set_option maxHeartbeats 4000000
/-! B2: sorted of a tuple; a def called through its class; errors whose __init__ calls the base's -/
namespace Kin
open PySem PySem.Spec PyProof.Rows L2

/-! ### sorted(t), t a tuple of numbers -/
section
variable {prog : Program} {w : World} {A : Around} {E : Value → Shared → Prop} {s : Shared}
theorem gather_tup {l : Addr} {vs : List Value} {Q : List Value → Shared → Prop} (hl : IsTup s.heap l vs.toArray) (hsz : vs.length ≤ sizeLine)
    (h : Q vs { s with heap := (s.heap.push (seqObj "list" #[] 0)).update s.heap.objs.size (Obj.mapSeq (· ++ vs.toArray)) }) :
    wpAny (model prog w) A (collect (.ref l)) Q E s := by
  obtain ⟨o, ho, hc, n, hd⟩ := id hl
  have ho2 : (s.heap.push (seqObj "list" #[] 0)).get? l = some o := Heap.get?_push_of_some _ ho
  unfold collect
  refine wpAny_bind (wpAny_runValue (codeAny_builtin entry_proto_collect' ?_))
  show wpAny _ _ (do again (.builtin "list.__iadd__" ⟨[← newList [], .ref l], []⟩)) _ _ s
  refine wpAny_bind (wpAny_newList (wpAny_pure ⟨Code.quiet_builtin _ (by decide +kernel), codeAny_builtin entry_list_iadd' ?_⟩))
  show wpAny _ _ (Builtin.List.listExtendWith (.ref s.heap.objs.size) (.ref l) (.ref s.heap.objs.size)) _ _ { s with heap := s.heap.push (seqObj "list" #[] 0) }
  unfold Builtin.List.listExtendWith
  refine wpAny_bind (wpAny_typeOf (T := "tuple") ⟨o, ho2, hc⟩ ?_)
  have tt : (Value.type "tuple" == Value.type "tuple") = true := by rfl
  rw [if_pos (by rw [tt]; simp)]
  refine wpAny_bind (listItems_at ho2 hd (wpAny_bind (listItems_at (xs := #[]) (n := 0) (Heap.get?_push_size _ rfl) rfl ?_)))
  rw [if_neg (by simp)]
  refine wpAny_bind (listUpdate_at (xs := #[]) (n := 0) (Heap.get?_push_size _ rfl) rfl ?_ (Nat.zero_le _) (by show (#[] ++ vs.toArray).size ≤ sizeLine + 1; simp only [Array.size_append, List.size_toArray, List.length_nil]; omega))
  refine wpAny_pure ?_
  show wpAny (model prog w) A (do
      let o ← load s.heap.objs.size
      match o.data with
      | .seq xs _ => pure xs.toList
      | _ => unsupported "internal:collect") Q E { s with heap := (s.heap.push (seqObj "list" #[] 0)).update s.heap.objs.size (Obj.mapSeq (· ++ vs.toArray)) }
  refine wpAny_bind (wpAny_load (get?_update_seq (Heap.get?_push_size _ rfl) _) ?_)
  show wpAny _ _ (pure ((#[] : Array Value) ++ vs.toArray).toList) Q E _
  rw [show ((#[] : Array Value) ++ vs.toArray).toList = vs by simp]
  exact wpAny_pure h
theorem sorted_tup {l : Addr} {vs : List Value} {ns : List Int} {Q : Value → Shared → Prop} (hl : IsTup s.heap l vs.toArray) (hI : IntsAre vs ns) (h64 : vs.length < 64)
    (h : ∀ (out : Array Value) (ns' : List Int), IntsAre out.toList ns' → ns'.Perm ns → ns'.Pairwise (· ≤ ·) → Q (.ref (s.heap.objs.size + 1)) { s with heap := sortedAll s.heap vs out }) :
    wpAny (model prog w) A (call (.builtin "sorted") [.ref l]) Q E s := by
  refine Calls.call_function_entry kind_sorted plain_sorted entry_sorted (args_sorted1 _) ?_
  unfold Builtin.«sorted»
  refine wpAny_bind (m := checkCount "sorted" 1 1 _) (wpAny_pure (wpAny_bind (gather_tup hl (by rw [sizeLine_eq]; omega) (wpAny_bind (wpAny_newList ?_)))))
  have hz : ((s.heap.push (seqObj "list" #[] 0)).update s.heap.objs.size (Obj.mapSeq (· ++ vs.toArray))).objs.size = s.heap.objs.size + 1 := by
    rw [Heap.size_update, size_push']
  have hL : (((s.heap.push (seqObj "list" #[] 0)).update s.heap.objs.size (Obj.mapSeq (· ++ vs.toArray))).push (seqObj "list" vs.toArray 0)).get? (s.heap.objs.size + 1) = some (seqObj "list" vs.toArray 0) := by
    rw [← hz]; exact Heap.get?_push_size _ rfl
  show wpAny _ _ _ _ _ { s with heap := ((s.heap.push (seqObj "list" #[] 0)).update s.heap.objs.size (Obj.mapSeq (· ++ vs.toArray))).push (seqObj "list" vs.toArray 0) }
  rw [hz]
  refine wpAny_bind (wpAny_holding (wpAny_call_entry slot_list_sort ⟨_, hL, rfl⟩ entry_list_sort (list_sort_tree hL hI h64 fun out ns' a1 a2 a3 => ⟨_, rfl, ?_⟩) (args_list_sort _)))
  exact wpAny_pure ⟨_, rfl, h out ns' a1 a2 a3⟩
end
def rSortedTup (K : PySem.W.Frag) : List V → Hp → VK → Prop := fun vs H Q => ∃ (a : Addr) (ns : List Int), vs = [V.ref a] ∧ SqT K H a (ns.map V.int) ∧ ns.length < 64 ∧
  ∀ (ns' : List Int) (p : Addr), ns'.Perm ns → ns'.Pairwise (· ≤ ·) → H p = none → Q (.ref p) (upd H p (.lst (ns'.map V.int)))
theorem cr_sortedTup {X : Cx} : CallR X (.builtin "sorted") (rSortedTup X.K) := by
  intro pins s σ H vs us Q I r h
  obtain ⟨a, ns, rfl, hs, h64, q⟩ := h
  obtain ⟨its, rv, hl, _⟩ := I.tuple hs
  rw [Vals.ref1 r]
  have hi := rv.ints
  refine sorted_tup hl hi (by rw [hi.length]; exact h64) fun out ns' h1 h2 h3 => ?_
  obtain ⟨ep, he'⟩ := PyProof.Rows.sortedAll_at s.heap its out
  have hlen : (ns'.map V.int).length ≤ sizeLine := by rw [List.length_map, h2.length_eq]; exact small64 h64
  exact ⟨.ref _, upd H (s.heap.objs.size + 1) (.lst (ns'.map V.int)), I.laid (t' := s.toks) (fun _ _ => PyProof.Rows.sortedAll_old) (Nat.le_succ _) ⟨hlen, out.toList, ep, vals_of_ints h1, he'⟩, rfl, q ns' _ h2 h3 (I.hok.fresh (Nat.le_succ _))⟩
theorem cr_sortedTupK {X : Cx} (K : PySem.W.Frag) (h : X.K = K := by rfl) : CallR X (.builtin "sorted") (rSortedTup K) := by subst h; exact cr_sortedTup

/-! ### C.m(e, ..), C a class of the text, m a def of it -/
def tCfn (C : Addr) (sp : Sp) (E : XK) (ta : TE) (t : TA) : TE := fun σ H Q => ta σ H fun x H1 => x = .ref C ∧ t σ H1 fun vs H2 => sp vs H2 Q E
theorem pe_cfn {X : Cx} {CX : CXT} {k j : Nat} {C f : Addr} {fd : FuncData} {ps : List Str} {mc : Value} {sp : Sp} {E : XK} {o e : Expr} {es : List Expr} {m : Str} {pos apos : Pos} {ta : TE} {t : TA} {pl : Sem Bool} (he : PE X o ta) (r : ClX.CRead X.K C mc)
    (hv : PySem.W.findCls X.K (.ref C) mc m = some (.val (.ref f))) (hk : PySem.W.keepIn X.K (.ref f) = true) (F : FnOk X.prog X.w X.K X.mg X.base CX k f fd ps sp) (hr : Room j X.A) (hj : k ≤ j) (hb : Binds X.K fd ps []) (hx : Passes CX X E) (ha : PA X (e :: es) t)
    (hst : starEach (e :: es) X.env = (false, eval e X.env) :: starEach es X.env := by rfl) (hpl : (backTo pos (starEach es X.env)).any (·.1) = false := by rfl)
    (ht : eval (.Call (.Attribute o m apos) (e :: es) [] pos) X.env = (do
      let ov ← eval o X.env
      standAt apos.atName
      let (f, first) ← holding [ov] (getMethod ov m pl)
      callWith pos f first (backTo pos (starEach (e :: es) X.env)) (backToKw pos (keywordEach [] X.env))) := by rfl) :
    PE X (.Call (.Attribute o m apos) (e :: es) [] pos) (tCfn C sp E ta t) := by
  refine ⟨fun pins s σ H Q I h => ?_⟩
  refine PySem.W.methodCall_KW (pl := pl) (thn (he.run pins s σ H _ I h) fun u s1 ⟨x, H1, I1, rx, ex, q⟩ => ?_) ht
  subst ex
  obtain rfl : u = Value.ref C := rx
  refine PySem.W.method_cls I1.kIn r.ga (ClX.getcval_ok (v := V.ref f) (u := Value.ref f) I1 r ⟨hv, rfl⟩ fun s2 I2 => ?_)
  refine PySem.W.callWith_K (first := []) (h₀ := X.base) I.ok.mod.kin hk (thn (ha.run pos pins s2 σ H1 _ I2 q) fun us s3 ⟨vs, H2, I3, rv, q2⟩ => ⟨I3.kIn, ?_⟩) hst hpl
  have q3 : sp (vs ++ []) H2 Q E := by rw [List.append_nil]; exact q2
  exact run_fn (us := us) (vs := vs) F (hr.mono hj) hb .nil hx I3 rv q3

/-! ### error classes over KinError -/
/-- what the written part says of such a class -/
structure KinC (K : PySem.W.Frag) (C : Addr) : Prop where
  ox : OexC K C
  xf : XfC K C
  cl : PySem.W.findIn K (.ref C) "__class__" = some (some (.builtin "object.__class__"))
  gt : PySem.W.specialIn K (.builtin "object.__class__") "__get__" = some (some (.builtin "getset_descriptor.__get__"))
  tk : PySem.W.takesIn K (.builtin "object.__class__") = some true
  mr : PySem.W.mroIn K C (.type "object") = some true
  nw : PySem.W.findIn K (.ref C) "word" = some none
/-- __init__(self, ..) of the base: it sets the word alone -/
def spKin (K : PySem.W.Frag) : Sp := fun vs H Q _ => ∃ (a C : Addr) (y : V), vs = [.ref a, y] ∧ KinC K C ∧ H a = some (exo a C none) ∧
  ∀ dx, H dx = none → dx ≠ a → Q .non (upd (upd H dx (exd dx [("word", y)])) a (exo a C (some dx)))
/-- __init__(self) of a class that only says its word -/
def spIni (K : PySem.W.Frag) (z : Str) : Sp := fun vs H Q _ => ∃ (a C : Addr), vs = [.ref a] ∧ KinC K C ∧ H a = some (exo a C none) ∧
  ∀ dx, H dx = none → dx ≠ a → Q .non (upd (upd H dx (exd dx [("word", .str z)])) a (exo a C (some dx)))
/-- such a class by its name: it can be made and raised -/
def Rsb (P : Program) (w : World) (K : PySem.W.Frag) (mg : Str → Option Value) (base : Heap) (k : Nat) (x : Str) (C : Addr) (z : Str) : Prop :=
  mg x = some (.ref C) ∧ KinC K C ∧ ∃ (fI : Addr) (fd : FuncData), PySem.W.findIn K (.ref C) "__init__" = some (some (.ref fI)) ∧ PySem.W.typeIn K (.ref fI) = some (.type "function") ∧ Binds K fd ["self"] [] ∧ FnOk P w K mg base CX0 k fI fd ["self"] (spIni K z)
section
variable {X : Cx} {p pos pos2 : Pos}
theorem pmk_oex0 {CX : CXT} {x : Str} {C fI : Addr} {k : Nat} {fd : FuncData} {ps : List Str} {sp : Sp} (T : OexC X.K C) (iC : PySem.W.findIn X.K (.ref C) "__init__" = some (some (.ref fI))) (tI : PySem.W.typeIn X.K (.ref fI) = some (.type "function"))
    (F1 : FnOk X.prog X.w X.K X.mg X.base CX k fI fd ps sp) (hr : Room (k + 1) X.A) (hb : Binds X.K fd ps []) (hx : Passes CX X (fun _ _ _ => False)) (hg : Gl X x) (hm : X.mg x = some (.ref C))
    (hdb : (x == ("__debug__" : Str)) = false := by decide) :
    PMk X (.Call (.Name x p) [] [] pos) (tMkO C sp [] tNil) := by
  intro pins s σ H Q I h
  obtain ⟨nm, q, N, bs, bm, sn, sub, ab, col, dd, k0, k1, k2, k3, k5, hC, hbm⟩ := T.cls
  obtain ⟨_, q1⟩ := (show ([] : List V).length ≤ 1000 ∧ _ from h)
  refine wpAny_Call_Name_kw (ld_glob I hg hm ?_ hdb)
  refine PySem.W.callWith_K0 I.kIn T.kC ?_
  show wpAny _ _ (call (.ref C) []) _ _ _
  obtain ⟨hp, g, dr, tk, os⟩ := s
  have hsz : hp.objs.size ≤ hp.objs.size + 1 := Nat.le_succ _
  have hq := q1 (hp.objs.size + 1) (I.hok.fresh hsz)
  have kk : ∀ b o, hp.get? b = some o → ((hp.push (PySem.W.kdv_tup [])).push (PySem.HandSPX.excO C hp.objs.size)).get? b = some o := fun b o e => Heap.get?_push_of_some _ (Heap.get?_push_of_some _ e)
  have hget : ((hp.push (PySem.W.kdv_tup [])).push (PySem.HandSPX.excO C hp.objs.size)).get? (hp.objs.size + 1) = some (PySem.HandSPX.excO C hp.objs.size) := by heap_get
  have I2 : Inv X pins σ (upd H (hp.objs.size + 1) (exo (hp.objs.size + 1) C none)) ⟨(hp.push (PySem.W.kdv_tup [])).push (PySem.HandSPX.excO C hp.objs.size), g, dr, tk, os⟩ :=
    I.laid (t' := tk) (a := hp.objs.size + 1) (o := exo (hp.objs.size + 1) C none) (h' := (hp.push (PySem.W.kdv_tup [])).push (PySem.HandSPX.excO C hp.objs.size)) kk hsz (exo_ok hget)
  have r2 : Vals [V.ref (hp.objs.size + 1)] [Value.ref (hp.objs.size + 1)] := .cons rfl .nil
  have hl : ([Value.ref (hp.objs.size + 1)] ++ []).length = ps.length := by
    have e := F1.len _ _ _ _ hq
    exact e
  refine wpAny_call (PySem.HandSPX.call_own F.excBase_ValueError (fun Y => PySem.HandSPX.refsVE_contains Y bm hbm) (I.kIn _ _ hC) (PySem.W.looks_findIn I.kIn iC) (fun self => PySem.W.bind_fn I.kIn self tI) (Nat.zero_le _)
    (codeAny_mono (F1.run _ X.stack _ _ ⟨[Value.ref (hp.objs.size + 1)], []⟩ [Value.ref (hp.objs.size + 1)] _ _ (fun _ _ _ => False) (hr.make C [] []) (I2.env0.make C [] []) (hb _ [Value.ref (hp.objs.size + 1)] I2.kIn hl) r2 hq) fun r s' hq' => ?_))
  cases r with
  | error er => exact hx pins σ _ _ er s' I2 hq'
  | ok fl =>
    cases fl with
    | ret u =>
      obtain ⟨v, H2, os2, bare2, un2, hok2, rv, ev, d, fs, ea, ed, hd1, q2⟩ := hq'
      subst ev
      obtain ⟨h2, g2, d2, t2, os'⟩ := s'
      exact ⟨rv, mk_end (raises_own T.exC T.tyC) I hsz kk un2 hok2 os2 bare2 ea ed hd1 q2⟩
    | next => exact False.elim hq'
    | brk => exact False.elim hq'
    | cont => exact False.elim hq'
/-- what __init__ leaves, once the error is let go -/
theorem upd_gone {H : Hp} {a dx : Addr} {o1 o2 o3 : HO} {o0 : HO} (na : H a = none) (nd : dx ≠ a) : upd (del (upd (upd (upd H a o0) dx o1) a o2) a) dx o3 = upd H dx o3 := by
  funext b
  by_cases hb : b = dx
  · rw [hb, upd_same, upd_same]
  · rw [upd_ne hb, upd_ne hb]
    by_cases ha : b = a
    · rw [ha, del_same, na]
    · rw [del_ne ha, upd_ne ha, upd_ne hb, upd_ne ha]
/-- raise X() -/
def tRsb (C : Addr) (z : Str) (W : WX) : TS := fun _ σ H => ∀ d, H d = none → W (.ref C) (some d) σ (upd H d (.xd [("word", .str z)]))
theorem ps_rsb {k j : Nat} {x : Str} {C : Addr} {z : Str} {W : WX} (R : Rsb X.prog X.w X.K X.mg X.base k x C z) (hr : Room j X.A) (hj : k + 1 ≤ j) (hc : X.calm = true) (tk : Takes X W) (hg : Gl X x) (hdb : (x == ("__debug__" : Str)) = false := by decide) :
    PS X (.Raise (some (.Call (.Name x p) [] [] pos)) none pos2) (tRsb C z W) := by
  obtain ⟨hm, T, fI, fd, iC, tI, hb, F⟩ := R
  have P := ps_raise (pos := pos2) hc tk (pmk_oex0 (p := p) (pos := pos) T.ox iC tI F (hr.mono hj) hb pass0 hg hm hdb)
  refine ⟨fun pins s σ H D I h => P.run pins s σ H D I ?_⟩
  refine ⟨Nat.zero_le _, fun a na => ⟨a, C, rfl, T, upd_same, fun dx nd ne => ⟨rfl, dx, _, upd_same, upd_old ne upd_same, ?_, ?_⟩⟩⟩
  · rw [upd_ne ne] at nd
    exact nd
  · have nd2 : H dx = none := by
      rw [upd_ne ne] at nd
      exact nd
    have e := upd_gone (o1 := exd dx [(("word" : Str), V.str z)]) (o2 := exo a C (some dx)) (o3 := .xd [(("word" : Str), V.str z)]) (o0 := exo a C none) na ne
    show W _ _ _ (upd (del (upd (upd (upd H a (exo a C none)) dx (exd dx [(("word" : Str), V.str z)])) a (exo a C (some dx))) a) dx (.xd [(("word" : Str), V.str z)]))
    rw [e]
    exact h dx nd2
end

/-! ### in an except suite: e.f, isinstance(e, C), e the error of any of these classes -/
section
variable {X : Cx} {a : Addr} {oe : Obj} {cls : Value} {d : Option Addr} {pn : List (Addr × Obj)}
def tEf (K : PySem.W.Frag) (a : Addr) (cls : Value) (d : Option Addr) (f : Str) (te : TE) : TE := fun σ H Q => te σ H fun x H1 => ∃ (C dd : Addr) (fs : List (Str × V)) (v : V), x = .ref a ∧ cls = .ref C ∧ XfC K C ∧ PySem.W.findIn K (.ref C) f = some none ∧ d = some dd ∧ H1 dd = some (.xd fs) ∧ fs.lookup f = some v ∧ Q v H1
theorem pe_ef (K : PySem.W.Frag) {e : Expr} {te : TE} {pos : Pos} {n : Str} (hz : Zc cls d oe) (hf : ∃ vs, oe.data = .fields vs) (he : PE (X.suite a ((a, oe) :: pn)) e te) (hK : X.K = K := by rfl) (hb : attributeBase e n X.env (eval e X.env) = eval e X.env := by rfl) :
    PE (X.suite a ((a, oe) :: pn)) (.Attribute e n pos) (tEf K a cls d n te) := by
  subst hK
  refine ⟨fun pins s σ H Q I h => ?_⟩
  refine attr_of hb (thn (he.run pins s σ H _ I h) fun u s1 hh => ?_)
  obtain ⟨x, H1, I1, rx, C, dd, fs, v, ex, ec, T, hno, ed, ea, l, q⟩ := hh
  subst ex ec ed
  obtain rfl : u = Value.ref a := rx
  obtain ⟨ha, _⟩ := I1.pin (a, oe) (List.mem_append_left _ List.mem_cons_self)
  obtain ⟨vs, hd⟩ := hf
  have hx : ObjOk X.prog X.w H1 s1.heap dd (.xd fs) := I1.hok dd _ ea
  obtain ⟨mA, hns, hr⟩ := hx
  obtain ⟨od, ho, hl⟩ := lookIn_ns hns
  obtain ⟨u, hu, ru⟩ := RelO.some_of (v := v) (o := mA n) (by rw [← l]; exact hr n)
  have J : PySem.W.InstAt s1.heap a oe C (some od) := ⟨ha, hz.1, by unfold PySem.W.notCls; rw [hd] <;> rfl, by rw [hz.2]; exact ho⟩
  exact HandSPX.exc_get I1.kIn J T.ga T.gg T.exC (PySem.W.findObj_own T.hdC hno rfl (by rw [hl, hu])) (handed_of ru) ⟨v, H1, I1.tok _, ru, q⟩
def rEis (K : PySem.W.Frag) (a : Addr) (cls : Value) (d : Option Addr) : List V → Hp → VK → Prop := fun xs H Q => ∃ (D dd : Addr) (fs : List (Str × V)) (c : V) (cv : Value) (b : Bool), xs = [.ref a, c] ∧ cls = .ref D ∧ KinC K D ∧ d = some dd ∧ H dd = some (.xd fs) ∧
  ClsV c cv ∧ PySem.W.kitOne K (.ref D) cv = some b ∧ Q (.bl b) H
theorem call_eis (K : PySem.W.Frag) (hz : Zc cls d oe) (hf : ∃ vs, oe.data = .fields vs) (hK : X.K = K := by rfl) : CallR (X.suite a ((a, oe) :: pn)) (.builtin "isinstance") (rEis K a cls d) := by
  subst hK
  intro pins s σ H xs us Q I r h
  obtain ⟨D, dd, fs, c, cv, b, rfl, ec, T, ed, ea, hcv, e, q⟩ := h
  subst ec ed
  obtain ⟨u1, u2, rfl, r1, r2⟩ := vals2 r
  obtain rfl : u1 = Value.ref a := r1
  have ecv := hcv.eq r2
  subst ecv
  obtain ⟨hget, _⟩ := I.pin (a, oe) (List.mem_append_left _ List.mem_cons_self)
  obtain ⟨vs, hv⟩ := hf
  have hx : ObjOk X.prog X.w H s.heap dd (.xd fs) := I.hok dd _ ea
  obtain ⟨mA, hns, hr⟩ := hx
  obtain ⟨od, ho, hl⟩ := lookIn_ns hns
  have J : PySem.W.InstAt s.heap a oe D (some od) := ⟨hget, hz.1, by unfold PySem.W.notCls; rw [hv] <;> rfl, by rw [hz.2]; exact ho⟩
  have hcl : (PySem.W.clsIn X.K D).isSome = true := by
    obtain ⟨cd, hc, _⟩ := PySem.W.any_some T.xf.hdC
    rw [hc]
    rfl
  exact PySem.W.kia_one (PySem.W.kitx_exc (ox := oe) (od := some od) hcl T.xf.ga T.xf.gg T.xf.exC T.cl T.gt T.tk T.mr) I.kIn J e (fun z => nomatch z) fun tk => ⟨.bl b, H, I.kept (t' := tk) fun _ _ z => z, rfl, q⟩
end

/-! ### calls whose errors are wished for at the caller's slots; errors that go on to the caller -/
section
variable {X : Cx} {CX : CXT} {k j : Nat} {x : Str} {ps : List Str} {sp : Sp} {E : L2.St → XK} {p pos : Pos} {e : Expr} {es : List Expr} {t : TA}
theorem pe_cS (c : Cal X.prog X.w X.K X.mg X.base CX k x ps sp) (hr : Room j X.A) (hj : k ≤ j) (hg : Gl X x) (hx : ∀ σ, PassesAt CX X σ (E σ)) (ha : PA X (e :: es) t)
    (hdb : (x == ("__debug__" : Str)) = false := by decide) (he : starEach (e :: es) X.env = (false, eval e X.env) :: starEach es X.env := by rfl) (hpl : (backTo pos (starEach es X.env)).any (·.1) = false := by rfl) :
    PE X (.Call (.Name x p) (e :: es) [] pos) (tCallS sp E t) := by
  obtain ⟨f, fd, hm, hk, hb, F⟩ := c
  exact pe_callS F (hr.mono hj) hg hm hk hb hx ha hdb he hpl
end
end Kin

set_option Elab.async false
set_option linter.all false
set_option maxRecDepth 100000
set_option maxHeartbeats 4000000
/-! B3: two values that are alike as data; a def that is never called; data's kinds -/
namespace Kin
open PySem PySem.Spec PyProof.Rows L2
theorem ix_seqK {X : Cx} (K : PySem.W.Frag) (h : X.K = K := by rfl) : IxR X (rIx K) := by subst h; exact ix_seq
/-- alike: no more than n lists or tuples within one another -/
inductive Alike (K : PySem.W.Frag) (H : Hp) : Nat → V → V → Prop
  | non {n : Nat} : Alike K H n .non .non
  | bl {n : Nat} (b : Bool) : Alike K H n (.bl b) (.bl b)
  | int {n : Nat} (i : Int) : Alike K H n (.int i) (.int i)
  | str {n : Nat} (z : Str) : Alike K H n (.str z) (.str z)
  | lst {n : Nat} {a b : Addr} {xs ys : List V} (ha : SqL K H a xs) (hb : SqL K H b ys) (hl : xs.length = ys.length) (hz : xs.length ≤ 1000)
      (h : ∀ (i : Nat) (x y : V), xs[i]? = some x → ys[i]? = some y → Alike K H n x y) : Alike K H (n + 1) (.ref a) (.ref b)
  | tup {n : Nat} {a b : Addr} {xs ys : List V} (ha : SqT K H a xs) (hb : SqT K H b ys) (hl : xs.length = ys.length) (hz : xs.length ≤ 1000)
      (h : ∀ (i : Nat) (x y : V), xs[i]? = some x → ys[i]? = some y → Alike K H n x y) : Alike K H (n + 1) (.ref a) (.ref b)
theorem Alike.same {K : PySem.W.Frag} {H H' : Hp} (s : Same H H') {n : Nat} {x y : V} (h : Alike K H n x y) : Alike K H' n x y := by
  induction h with
  | non => exact .non
  | bl b => exact .bl b
  | int i => exact .int i
  | str z => exact .str z
  | lst ha hb hl hz _ ih => exact .lst (s.seq ha) (s.seq hb) hl hz ih
  | tup ha hb hl hz _ ih => exact .tup (same_seqT s ha) (same_seqT s hb) hl hz ih
theorem alike_ints {K : PySem.W.Frag} {H : Hp} {n : Nat} {ns : List Int} : ∀ (i : Nat) (x y : V), (ns.map V.int)[i]? = some x → (ns.map V.int)[i]? = some y → Alike K H n x y := fun i x y h1 h2 => by
  obtain ⟨z, hz, rfl⟩ := int_at h1
  rw [h1] at h2
  cases h2
  exact .int z
theorem alike_tupI {K : PySem.W.Frag} {H : Hp} {n : Nat} {a b : Addr} {ns : List Int} (ha : SqT K H a (ns.map V.int)) (hb : SqT K H b (ns.map V.int)) (hz : ns.length ≤ 1000) : Alike K H (n + 1) (.ref a) (.ref b) :=
  .tup ha hb rfl (by rw [List.length_map]; exact hz) alike_ints
theorem alike_lstI {K : PySem.W.Frag} {H : Hp} {n : Nat} {a b : Addr} {ns : List Int} (ha : SqL K H a (ns.map V.int)) (hb : SqL K H b (ns.map V.int)) (hz : ns.length ≤ 1000) : Alike K H (n + 1) (.ref a) (.ref b) :=
  .lst ha hb rfl (by rw [List.length_map]; exact hz) alike_ints
theorem alike_1 {K : PySem.W.Frag} {H : Hp} {n : Nat} {x y : V} (h : Alike K H n x y) : ∀ (i : Nat) (u v : V), [x][i]? = some u → [y][i]? = some v → Alike K H n u v := fun i u v h1 h2 => by
  match i, h1, h2 with
  | 0, h1, h2 => cases h1; cases h2; exact h
  | i + 1, h1, _ => simp at h1
theorem alike_more {K : PySem.W.Frag} {H : Hp} {n : Nat} {x y : V} {xs ys : List V} (h : Alike K H n x y) (hr : ∀ (i : Nat) (u v : V), xs[i]? = some u → ys[i]? = some v → Alike K H n u v) :
    ∀ (i : Nat) (u v : V), (x :: xs)[i]? = some u → (y :: ys)[i]? = some v → Alike K H n u v := fun i u v h1 h2 => by
  match i, h1, h2 with
  | 0, h1, h2 => cases h1; cases h2; exact h
  | i + 1, h1, h2 => exact hr i u v h1 h2
theorem alike_0 {K : PySem.W.Frag} {H : Hp} {n : Nat} : ∀ (i : Nat) (u v : V), ([] : List V)[i]? = some u → ([] : List V)[i]? = some v → Alike K H n u v := fun i u v h1 _ => by simp at h1
theorem tyL {K : PySem.W.Frag} {H : Hp} {a : Addr} {xs : List V} (h : SqL K H a xs) : TyX K H (.ref a) (.type "list") := by
  rcases h with (h | ⟨o, h⟩) | ⟨o, _, _, h, c, _⟩
  · exact .base (.lst h)
  · exact .base (.frz h)
  · exact .kList h c
theorem tyT {K : PySem.W.Frag} {H : Hp} {a : Addr} {xs : List V} (h : SqT K H a xs) : TyX K H (.ref a) (.type "tuple") := by
  rcases h with (h | ⟨o, h⟩) | ⟨o, _, _, h, c, _⟩
  · exact .base (.tup h)
  · exact .fTuple h
  · exact .kTuple h c
/-- a def of which nothing is promised -/
theorem fn_never {P : Program} {w : World} {K : PySem.W.Frag} {mg : Str → Option Value} {base : Heap} {CX : CXT} {f : Addr} {fd : FuncData} {ps : List Str} : FnOk P w K mg base CX 0 f fd ps (fun _ _ _ _ => False) :=
  ⟨fun _ _ _ _ h => h.elim, fun _ _ _ _ _ _ _ _ _ _ _ _ _ h => h.elim⟩
end Kin

set_option Elab.async false
set_option linter.all false
set_option maxRecDepth 100000
set_option maxHeartbeats 4000000
/-! B4: the error classes as the top has left them -/
namespace Kin
open PySem PySem.Spec PyProof.Rows L2
/-- KinError, at C0: its __init__ can be called through the class -/
def KinBase (P : Program) (w : World) (K : PySem.W.Frag) (mg : Str → Option Value) (base : Heap) (C0 : Addr) : Prop :=
  ∃ (f0 : Addr) (fd0 : FuncData) (mc : Value), mg "KinError" = some (.ref C0) ∧ ClX.CRead K C0 mc ∧ PySem.W.findCls K (.ref C0) mc "__init__" = some (.val (.ref f0)) ∧ PySem.W.keepIn K (.ref f0) = true ∧ Binds K fd0 ["self", "word"] [] ∧
    FnOk P w K mg base CX0 1 f0 fd0 ["self", "word"] (spKin K)
/-- .. by what the written part says -/
def BaseIn (K : PySem.W.Frag) (st : Stmt) (C0 : Addr) : Prop := (PySem.W.subIn K (.ref C0) (.type "BaseException") = some true ∧ PySem.W.hasDictIn K C0 = true ∧ PySem.W.typeIn K (.ref C0) = some (.type "type")) ∧ ∃ (f0 : Addr) (oc : Value) (od : Option Addr) (kV doc pm : Value) (an : Option Addr) (cdv ct : Value) (osl : Array (Option Value)),
  PySem.W.nsIn K mainGlobals "KinError" = some (some (.ref C0)) ∧ PySem.W.readsIn K C0 (.type "type") = true ∧ PySem.W.specialIn K (.ref C0) "__getattribute__" = some (some (.builtin "type.__getattribute__")) ∧ PySem.W.findCls K (.ref C0) (.type "type") "__init__" = some (.val (.ref f0)) ∧
  K.lookup f0 = some ⟨oc, od, .func (PySem.W.fnOf "__init__" "KinError.__init__" (defArgs st) (defBody st) (defScope st) .none kV doc pm an cdv ct), osl⟩ ∧ PySem.W.codeIn K cdv "KinError.__init__" = true ∧ PySem.W.keepIn K (.ref f0) = true
theorem baseIn_mk {K : PySem.W.Frag} {st : Stmt} {C0 f0 : Addr} {oc : Value} {od : Option Addr} {kV doc pm : Value} {an : Option Addr} {cdv ct : Value} {osl : Array (Option Value)} (a : PySem.W.nsIn K mainGlobals "KinError" = some (some (.ref C0)))
    (s1 : PySem.W.subIn K (.ref C0) (.type "BaseException") = some true) (s2 : PySem.W.hasDictIn K C0 = true) (s3 : PySem.W.typeIn K (.ref C0) = some (.type "type")) (r : PySem.W.readsIn K C0 (.type "type") = true) (g : PySem.W.specialIn K (.ref C0) "__getattribute__" = some (some (.builtin "type.__getattribute__"))) (v : PySem.W.findCls K (.ref C0) (.type "type") "__init__" = some (.val (.ref f0)))
    (l : K.lookup f0 = some ⟨oc, od, .func (PySem.W.fnOf "__init__" "KinError.__init__" (defArgs st) (defBody st) (defScope st) .none kV doc pm an cdv ct), osl⟩) (c : PySem.W.codeIn K cdv "KinError.__init__" = true) (k : PySem.W.keepIn K (.ref f0) = true) : BaseIn K st C0 :=
  ⟨⟨s1, s2, s3⟩, f0, oc, od, kV, doc, pm, an, cdv, ct, osl, a, r, g, v, l, c, k⟩
/-- an error class x, at C, by what the written part says -/
def ErrIn (K : PySem.W.Frag) (x q : Str) (st : Stmt) (C : Addr) : Prop := KinC K C ∧ PySem.W.nsIn K mainGlobals x = some (some (.ref C)) ∧ ∃ (fI : Addr) (oc : Value) (od : Option Addr) (kV doc pm : Value) (an : Option Addr) (cdv ct : Value) (osl : Array (Option Value)),
  PySem.W.findIn K (.ref C) "__init__" = some (some (.ref fI)) ∧ PySem.W.typeIn K (.ref fI) = some (.type "function") ∧ K.lookup fI = some ⟨oc, od, .func (PySem.W.fnOf "__init__" q (defArgs st) (defBody st) (defScope st) .none kV doc pm an cdv ct), osl⟩ ∧
  PySem.W.codeIn K cdv q = true ∧ PySem.W.keepIn K (.ref fI) = true
theorem errIn_mk {K : PySem.W.Frag} {x q : Str} {st : Stmt} {C fI : Addr} {nm qq : Str} {N : Addr} {bs bm : List Value} {sn : List Str} {sub : List Value} {ab : Bool} {col : Option Bool} {dd : Option Addr} {m0 m1 m2 m3 m5 : Option Value} {oc : Value} {od : Option Addr} {kV doc pm : Value} {an : Option Addr} {cdv ct : Value} {osl : Array (Option Value)}
    (a : PySem.W.nsIn K mainGlobals x = some (some (.ref C))) (xl : K.lookup C = some (excClassObj nm qq C N bs bm true sn sub ab col dd m0 m1 m2 m3 m5 "ValueError.__new__")) (rv : PySem.HandSPX.refsVE bm = true)
    (sa : PySem.W.findIn K (.ref C) "__setattr__" = some (some (.builtin "object.__setattr__"))) (ga : PySem.W.findIn K (.ref C) "__getattribute__" = some (some (.builtin "BaseException.__getattribute__"))) (gg : PySem.W.findIn K (.ref C) "__getattr__" = some none)
    (ex : PySem.W.subIn K (.ref C) (.type "BaseException") = some true) (ty : PySem.W.typeIn K (.ref C) = some (.type "type")) (kc : PySem.W.keepIn K (.ref C) = true) (hd : PySem.W.hasDictIn K C = true)
    (cl : PySem.W.findIn K (.ref C) "__class__" = some (some (.builtin "object.__class__"))) (gt : PySem.W.specialIn K (.builtin "object.__class__") "__get__" = some (some (.builtin "getset_descriptor.__get__"))) (tk : PySem.W.takesIn K (.builtin "object.__class__") = some true)
    (mr : PySem.W.mroIn K C (.type "object") = some true) (nw : PySem.W.findIn K (.ref C) "word" = some none) (iC : PySem.W.findIn K (.ref C) "__init__" = some (some (.ref fI))) (tI : PySem.W.typeIn K (.ref fI) = some (.type "function"))
    (l : K.lookup fI = some ⟨oc, od, .func (PySem.W.fnOf "__init__" q (defArgs st) (defBody st) (defScope st) .none kV doc pm an cdv ct), osl⟩) (c : PySem.W.codeIn K cdv q = true) (k : PySem.W.keepIn K (.ref fI) = true) : ErrIn K x q st C :=
  ⟨⟨⟨⟨nm, qq, N, bs, bm, sn, sub, ab, col, dd, m0, m1, m2, m3, m5, xl, rv⟩, sa, ex, ty, kc⟩, ⟨ga, gg, ex, hd⟩, cl, gt, tk, mr, nw⟩, a, fI, oc, od, kV, doc, pm, an, cdv, ct, osl, iC, tI, l, c, k⟩
/-- an except clause KinError catches an error of the class at C -/
def Under (K : PySem.W.Frag) (C C0 : Addr) : Prop := PySem.W.exmOne K (.ref C) (.ref C0) = some true
theorem under_of {K : PySem.W.Frag} {st : Stmt} {C C0 : Addr} (d : BaseIn K st C0) (h : PySem.W.subIn K (.ref C) (.ref C0) = some true) : Under K C C0 := PySem.W.exm_ref d.1.1 d.1.2.1 d.1.2.2 h
/-- isinstance of an error -/
theorem kit_self (K : PySem.W.Frag) (C : Addr) : PySem.W.kitOne K (.ref C) (.ref C) = some true := by
  unfold PySem.W.kitOne
  rw [if_pos (by simp)]
theorem kit_ve {K : PySem.W.Frag} {C : Addr} (h : PySem.W.subIn K (.ref C) (.type "ValueError") = some true) : PySem.W.kitOne K (.ref C) (.type "ValueError") = some true := by
  unfold PySem.W.kitOne
  rw [if_neg (by simp)]
  show (if PySem.W.kitMeta "ValueError" = true then PySem.W.subIn K (.ref C) (.type "ValueError") else none) = some true
  rw [if_pos (by decide +kernel), h]
theorem kit_sub {K : PySem.W.Frag} {C D : Addr} {b : Bool} (T : KinC K D) (h : PySem.W.subIn K (.ref C) (.ref D) = some b) (hne : C ≠ D) : PySem.W.kitOne K (.ref C) (.ref D) = some b := by
  unfold PySem.W.kitOne
  rw [if_neg (by simp only [beq_iff_eq, Value.ref.injEq]; exact hne)]
  obtain ⟨cd, hc, _⟩ := PySem.W.any_some T.xf.hdC
  show (if ((PySem.W.clsIn K D).isSome && PySem.W.typeIn K (.ref D) == some (.type "type")) = true then PySem.W.subIn K (.ref C) (.ref D) else none) = some b
  rw [if_pos (by rw [hc, T.ox.tyC]; rfl), h]
section
variable {P : Program} {w : World} {K : PySem.W.Frag} {mg : Str → Option Value} {base : Heap}
/-- self.word = word -/
theorem kin_init {st : Stmt} {f : Addr} {fd : FuncData} {p1 p2 p3 p4 : Pos} (F : Fun K "__init__" "KinError.__init__" st f fd) (S : FnScope ["self", "word"] ["self", "word"] (defScope st))
    (hb : defBody st = [.Assign [.Attribute (.Name "self" p1) "word" p2] (.Name "word" p3) p4]) (hv1 : Vis (defScope st) "self") (hv2 : Vis (defScope st) "word")
    (hs : ∀ (X : Cx), X.env.scope = defScope st → swapsWith (.Name "word" p3) (some (.Attribute (.Name "self" p1) "word" p2)) p4.line X.env = pure false) : FnOk P w K mg base CX0 1 f fd ["self", "word"] (spKin K) := by
  refine F.ok S (fun vs H Q E h => ?_) (fun cdv A outer s H vs Q E hr h => ?_)
  · obtain ⟨a, C, y, rfl, _⟩ := h
    rfl
  · obtain ⟨a, C, y, rfl, T, ha, q⟩ := h
    rw [hb]
    refine ⟨_, pss_one (ps_ost (pe_var (i := 0) rfl hv1) (pe_var (i := 1) rfl hv2) (hs _ rfl)), ?_⟩
    exact ⟨_, rfl, _, rfl, a, C, rfl, T.ox, T.nw, .inl ⟨ha, fun dx nd ne => q dx nd ne⟩⟩
end
end Kin

set_option Elab.async false
set_option linter.all false
set_option maxRecDepth 100000
set_option maxHeartbeats 4000000
/-! M1: one turning behind another -/
namespace Kin
open PySem L2
def after (ns ms : List Int) : List Int := ns.map fun z => ms.getD z.toNat 0
theorem after_snoc (ns ms : List Int) (z : Option Int) : after (ns ++ z.toList) ms = after ns ms ++ (after z.toList ms) := by unfold after; rw [List.map_append]
theorem after_len (ns ms : List Int) : (after ns ms).length = ns.length := by unfold after; rw [List.length_map]
theorem map_getD_range (ms : List Int) : (rgI ms.length).map (fun z => ms.getD z.toNat 0) = ms := by
  refine List.ext_getElem? fun i => ?_
  rw [List.getElem?_map]
  by_cases h : i < ms.length
  · rw [rgI_get h, Option.map_some, Int.toNat_natCast, List.getElem?_eq_getElem h, List.getD_eq_getElem?_getD, List.getElem?_eq_getElem h]
    rfl
  · rw [List.getElem?_eq_none (by rw [rgI_len]; omega), List.getElem?_eq_none (by omega)]
    rfl
/-- all stay, then a turning -/
theorem after_still_l (ms : List Int) : after (rgI ms.length) ms = ms := map_getD_range ms
/-- a turning, then all stay -/
theorem after_still_r {ns : List Int} (t : Turn ns) : after ns (rgI ns.length) = ns := by
  unfold after
  refine (List.map_congr_left fun z hz => ?_).trans (List.map_id ns)
  have := t.lo z hz
  rw [List.getD_eq_getElem?_getD, rgI_get (by omega)]
  show ((z.toNat : Nat) : Int) = z
  omega
theorem after_turn {ns ms : List Int} (tn : Turn ns) (tm : Turn ms) (hl : ns.length = ms.length) : Turn (after ns ms) := by
  have h1 : (after ns ms).Perm ((rgI ns.length).map fun z => ms.getD z.toNat 0) := tn.perm.map _
  rw [hl, map_getD_range] at h1
  exact turn_of_perm (h1.trans tm.perm)
end Kin

set_option Elab.async false
set_option linter.all false
set_option maxRecDepth 100000
set_option maxHeartbeats 4000000
namespace Kin
open PySem PySem.Spec PyProof.Rows L2
def topS (i : Nat) : Stmt := PySem.Challenge.pw_kinhearth_k02_one_behind_another.main.body.getD i (.Pass ⟨0, 0, 0, 0⟩)
abbrev s_KinError_init : Stmt := inClass (topS 1) 0
abbrev s_KinError_init_N : List Str := ["self", "word"]
abbrev p_KinError_init : List Str := ["self", "word"]
theorem sc_KinError_init : FnScope s_KinError_init_N p_KinError_init (defScope s_KinError_init) := ⟨rfl, rfl, rfl, by decide +kernel, rfl, by decide +kernel, by decide +kernel⟩
abbrev s_BadTurn_init : Stmt := inClass (topS 2) 0
abbrev s_BadTurn_init_N : List Str := ["self"]
abbrev p_BadTurn_init : List Str := ["self"]
theorem sc_BadTurn_init : FnScope s_BadTurn_init_N p_BadTurn_init (defScope s_BadTurn_init) := ⟨rfl, rfl, rfl, by decide +kernel, rfl, by decide +kernel, by decide +kernel⟩
abbrev s_is_turn : Stmt := topS 4
abbrev s_is_turn_N : List Str := ["row", "seen", "one"]
abbrev p_is_turn : List Str := ["row"]
theorem sc_is_turn : FnScope s_is_turn_N p_is_turn (defScope s_is_turn) := ⟨rfl, rfl, rfl, by decide +kernel, rfl, by decide +kernel, by decide +kernel⟩
abbrev s_still : Stmt := topS 5
abbrev s_still_N : List Str := ["size"]
abbrev p_still : List Str := ["size"]
theorem sc_still : FnScope s_still_N p_still (defScope s_still) := ⟨rfl, rfl, rfl, by decide +kernel, rfl, by decide +kernel, by decide +kernel⟩
abbrev s_led : Stmt := topS 6
abbrev s_led_N : List Str := ["first", "then", "one"]
abbrev p_led : List Str := ["first", "then"]
theorem sc_led : FnScope s_led_N p_led (defScope s_led) := ⟨rfl, rfl, rfl, by decide +kernel, rfl, by decide +kernel, by decide +kernel⟩
abbrev s_behind : Stmt := topS 7
abbrev s_behind_N : List Str := ["first", "then"]
abbrev p_behind : List Str := ["first", "then"]
theorem sc_behind : FnScope s_behind_N p_behind (defScope s_behind) := ⟨rfl, rfl, rfl, by decide +kernel, rfl, by decide +kernel, by decide +kernel⟩
abbrev s_l_cell : Stmt := topS 9
abbrev s_l_cell_N : List Str := ["_law_script", "_law_k"]
abbrev p_l_cell : List Str := ["_law_script", "_law_k"]
theorem sc_l_cell : FnScope s_l_cell_N p_l_cell (defScope s_l_cell) := ⟨rfl, rfl, rfl, by decide +kernel, rfl, by decide +kernel, by decide +kernel⟩
abbrev s_l_draws : Stmt := topS 10
abbrev s_l_draws_N : List Str := ["_law_cell_here", "_law_parts", "_law_one", "_law_two", "_law_six", "_law_found", "_law_part"]
abbrev p_l_draws : List Str := ["_law_cell_here", "_law_parts"]
theorem sc_l_draws : FnScope s_l_draws_N p_l_draws (defScope s_l_draws) := ⟨rfl, rfl, rfl, by decide +kernel, rfl, by decide +kernel, by decide +kernel⟩
abbrev s_l_turn : Stmt := topS 11
abbrev s_l_turn_N : List Str := ["_law_code", "_law_size", "_law_free", "_law_found", "_law_k"]
abbrev p_l_turn : List Str := ["_law_code", "_law_size"]
theorem sc_l_turn : FnScope s_l_turn_N p_l_turn (defScope s_l_turn) := ⟨rfl, rfl, rfl, by decide +kernel, rfl, by decide +kernel, by decide +kernel⟩
abbrev s_l_same : Stmt := topS 12
abbrev s_l_same_N : List Str := ["_law_found", "_law_due", "_law_k"]
abbrev p_l_same : List Str := ["_law_found", "_law_due"]
theorem sc_l_same : FnScope s_l_same_N p_l_same (defScope s_l_same) := ⟨rfl, rfl, rfl, by decide +kernel, rfl, by decide +kernel, by decide +kernel⟩
abbrev s_l_asked : Stmt := topS 13
abbrev s_l_asked_N : List Str := ["_law_first", "_law_then", "e"]
abbrev p_l_asked : List Str := ["_law_first", "_law_then"]
theorem sc_l_asked : FnScope s_l_asked_N p_l_asked (defScope s_l_asked) := ⟨rfl, rfl, rfl, by decide +kernel, rfl, by decide +kernel, by decide +kernel⟩
abbrev s_law : Stmt := topS 14
abbrev s_law_N : List Str := ["_law_script", "_law_drawn", "_law_again", "_law_size", "_law_other", "_law_first", "_law_then", "_law_spoilt", "_law_good", "_law_row", "_law_due", "_law_plain", "_law_alone", "_law_one"]
abbrev p_law : List Str := ["_law_script"]
theorem sc_law : FnScope s_law_N p_law (defScope s_law) := ⟨rfl, rfl, rfl, by decide +kernel, rfl, by decide +kernel, by decide +kernel⟩
/-! facts about the heap, carried by search -/
local macro_rules | `(tactic| walk_at "hp") => `(tactic| first | assumption | exact upd_same | (refine upd_new (by assumption) ?_; walk_at "hp") | (refine upd_old (by first | assumption | (apply Ne.symm; assumption)) ?_; walk_at "hp") | (refine sameAt (by assumption) ?_; walk_at "hp"))
local macro_rules | `(tactic| walk_at "fr") => `(tactic| first | assumption | (refine Same.free ?_ (by assumption); walk_at "sm"))
local macro_rules | `(tactic| walk_at "sm") => `(tactic| first | assumption | exact Same.refl _ | (refine same_new ?_ ?_; (walk_at "sm"); (walk_at "fr")) | (refine Same.trans ?_ (by assumption); walk_at "sm") | (refine Same.trans (by assumption) ?_; walk_at "sm"))
local macro_rules | `(tactic| walk_at "sq") => `(tactic| first | assumption | (refine SqL.of ?_; walk_at "hp") | (refine SqT.of ?_; walk_at "hp") | (refine Same.seq ?_ (by assumption); walk_at "sm") | (refine same_seqT ?_ (by assumption); walk_at "sm") | (refine same_sq ?_ (by assumption); walk_at "sm") | (refine sqL_old (by first | assumption | (apply Ne.symm; assumption)) ?_; walk_at "sq") | (refine sqT_old (by first | assumption | (apply Ne.symm; assumption)) ?_; walk_at "sq"))
local macro_rules | `(tactic| walk_at "nx") => `(tactic| try dsimp only [gName, tNext])

section
variable {P : Program} {w : World} {K : PySem.W.Frag} {mg : Str → Option Value} {base : Heap}


/-! ### _law_cell -/
def sp_cell (K : PySem.W.Frag) : Sp := fun vs H Q _ => ∃ (a : Addr) (ns : List Int) (k : Nat), vs = [.ref a, .int (k : Int)] ∧ SqL K H a (ns.map V.int) ∧ Q (.int (cell ns k)) H
theorem ok_l_cell {f : Addr} {fd : FuncData} (D : Dn K mg "_law_cell" s_l_cell p_l_cell f fd) (b : Blt mg) : Cal P w K mg base CX0 1 "_law_cell" p_l_cell (sp_cell K) := by
  refine D.cal (D.F.ok sc_l_cell (fun vs H Q E h => ?_) (fun cdv A outer s H vs Q E hr h => ?_))
  · obtain ⟨a, ns, k, rfl, _⟩ := h
    rfl
  · obtain ⟨a, ns, k, rfl, hS, q⟩ := h
    refine ⟨_, (pss_cons (ps_if (pt_cmpR op_lt (pv 1) (pe_callB call_len_seq (by rfl) b.len PySem.boot_len (pa_cons (pv 0) pa_nil)) (nomark _)) (pss_one (ps_ret (pe_ix ix_list (pv 0) (pv 1) (fun _ _ => rfl)))) pss_nil)
      (pss_one (ps_ret pe_int))), ?_⟩
    refine ⟨_, rfl, _, rfl, a, _, rfl, .inl hS, _, _, rfl, rfl, _, rfl, ite2 (fun e => ?_) (fun e => ?_)⟩
    · have e1 := of_decide_eq_true e
      rw [List.length_map] at e1
      have hk : k < ns.length := by omega
      refine ⟨_, rfl, _, rfl, a, _, _, .int (ns[k]), rfl, rfl, hS, atI_nat (by rw [List.getElem?_map, List.getElem?_eq_getElem hk]; rfl), ?_⟩
      have ec : cell ns k = ns[k] := by
        unfold cell
        rw [List.getD_eq_getElem?_getD, List.getElem?_eq_getElem hk]
        rfl
      rw [ec] at q
      exact q
    · have e1 : ¬ ((k : Int) < ((ns.map V.int).length : Int)) := fun z => e (decide_eq_true z)
      rw [List.length_map] at e1
      have ec : cell ns k = 0 := by
        unfold cell
        rw [List.getD_eq_getElem?_getD, List.getElem?_eq_none (by omega)]
        rfl
      rw [ec] at q
      exact q


/-! ### _law_draws -/
def sp_draws (K : PySem.W.Frag) : Sp := fun vs H Q _ => ∃ (c : Int) (a : Addr) (ps : List Int), vs = [.int c, .ref a] ∧ SqL K H a (ps.map V.int) ∧ ps.length ≤ 1000 ∧ (∀ p ∈ ps, 0 < p ∧ p < 2 ^ 60) ∧
  ∀ p H', H p = none → Same H H' → H' p = some (.lst ((draws c ps).map V.int)) → Q (.ref p) H'
theorem ok_l_draws {f : Addr} {fd : FuncData} (D : Dn K mg "_law_draws" s_l_draws p_l_draws f fd) (b : Blt mg) : Cal P w K mg base CX0 1 "_law_draws" p_l_draws (sp_draws K) := by
  refine D.cal (D.F.ok sc_l_draws (fun vs H Q E h => ?_) (fun cdv A outer s H vs Q E hr h => ?_))
  · obtain ⟨c, a, ps, rfl, _⟩ := h
    rfl
  · obtain ⟨c, a, ps, rfl, hS, hlen, hps, q⟩ := h
    refine ⟨_, (pss_cons (ps_if (pt_cmpR op_lt (pe_callB call_abs (by rfl) b.abs (by decide +kernel) (pa_cons (pv 0) pa_nil)) (pe_op op_pow pe_int pe_int) (nomark _)) (pss_cons (ps_set (i := 2) sc_l_draws.nd rfl (Or.inl rfl) (pe_op op_mod (pe_op op_add (pe_op op_mulW (pv 0) pe_int) pe_int) pe_int))
      (pss_cons (ps_set (i := 3) sc_l_draws.nd rfl (Or.inl rfl) (pe_op op_mod (pe_op op_add (pe_op op_add (pe_op op_mulW (pv 2) (pv 2)) (pe_op op_mulW pe_int (pv 2))) (pv 0)) pe_int))
      (pss_cons (ps_set (i := 4) sc_l_draws.nd rfl (Or.inl rfl) (pe_op op_mod (pe_op op_add (pe_op op_mulW (pv 3) pe_int) (pv 2)) pe_int))
      (pss_one (ps_set (i := 0) sc_l_draws.nd rfl (Or.inl rfl) (pe_op op_add (pv 3) (pe_op op_mulW pe_int (pe_op op_add (pv 4) (pe_op op_mulW pe_int (pv 2)))))))))) (pss_one (ps_set (i := 0) sc_l_draws.nd rfl (Or.inl rfl) (pe_op op_sub (pe_callB call_abs (by rfl) b.abs (by decide +kernel) (pa_cons (pv 0) pa_nil)) (pe_op op_pow pe_int pe_int)))))
      (pss_cons (ps_set (i := 5) sc_l_draws.nd rfl (Or.inl rfl) (pe_lst pa_nil))
      (pss_cons (ps_for PassesOwn.never rfl (pi_list (pv 1)) (pg_name (i := 6) sc_l_draws.nd rfl (Or.inl rfl)) (pss_cons (ps_expr (pe_bm PySem.F.plainAttrs_list PySem.F.slot_list_append PySem.F.type_list_append mt_append (pv 5) (pa_cons (pe_op op_mod (pv 0) (pv 6)) pa_nil)))
      (pss_one (ps_set (i := 0) sc_l_draws.nd rfl (Or.inl rfl) (pe_op op_fdivW (pv 0) (pv 6))))))
      (pss_one (ps_ret (pv 5)))))), ?_⟩
    have wide : ∀ {i j : Int}, i.natAbs < 2 ^ 200 → j.natAbs < 2 ^ 200 → CMulW i j := fun h1 h2 => wide_mul h1 h2 (by decide) (by decide) (by decide)
    have small : ∀ {i : Int}, -(2 ^ 64) < i → i < 2 ^ 64 → i.natAbs < 2 ^ 200 := fun {i} h1 h2 => Nat.lt_of_lt_of_le (show i.natAbs < 2 ^ 64 by omega) (by decide)
    -- what follows the if, from any number
    have go : ∀ (y2 y3 y4 : Option V) (cc : Int), cc = seed c → (tSeq (tAsg (tLst tNil) (gName 5)) (tSeq (tFor (iList K (tVar 1)) (gName 6) (tSeq
        (tDrop (tBM K "list" rAppend (tVar 5) (tCons (tOp (rI (fun _ j => 0 < j) fun i j => .int (i % j)) (tVar 0) (tVar 6)) tNil)))
        (tAsg (tOp (rI CDivW fun i j => .int (i / j)) (tVar 0) (tVar 6)) (gName 0)))) (tRet (tVar 5))))
        { nx := fun _ H' => Q .non H', rt := Q } [some (.int cc), some (.ref a), y2, y3, y4, none, none] H := by
      rintro y2 y3 y4 cc rfl
      refine ⟨Nat.zero_le _, fun o no => ?_⟩
      have s1 : Same H (upd H o (.lst [])) := same_new (Same.refl H) no
      refine ⟨_, rfl, a, rfl, ⟨_, s1.seq hS⟩, for_list (K := K) (a := a) (xs := ps.map V.int) (fun i σ H2 => ∃ y6 : Option V, σ = [some (.int (rest (seed c) (ps.take i))), some (.ref a), y2, y3, y4, some (.ref o), y6] ∧ Same H H2 ∧ H2 o = some (.lst ((drawn (seed c) (ps.take i)).map V.int)))
        ⟨none, rfl, s1, upd_same⟩ (fun i σ H2 _ ⟨_, _, s2, _⟩ => s2.seq hS) ?_ ?_⟩
      · rintro i y σ H2 hi ⟨y6, rfl, s2, eo⟩
        obtain ⟨z, hz, rfl⟩ : ∃ z, ps[i]? = some z ∧ y = V.int z := by
          rw [List.getElem?_map] at hi
          cases e : ps[i]? with
          | none => rw [e] at hi; cases hi
          | some z => rw [e] at hi; exact ⟨z, rfl, (Option.some.inj hi).symm⟩
        have hp := hps z (List.mem_of_getElem? hz)
        have et : ps.take (i + 1) = ps.take i ++ [z] := by rw [List.take_add_one, hz]; rfl
        refine ⟨_, rfl, .inl ⟨rfl, _, SqL.of eo⟩, _, rfl, _, rfl, _, _, rfl, rfl, hp.1, o, _, _, rfl, rfl, eo, ?_, ?_⟩
        · refine sz_lt ?_
          rw [List.length_map, drawn_len, List.length_take]
          omega
        · refine ⟨_, rfl, _, rfl, _, _, rfl, rfl, wide_div hp.1 (b := 60) (by omega) (by decide) (by decide), ?_⟩
          refine ⟨some (.int z), ?_, fun b x e => ?_, ?_⟩
          · rw [et, rest_snoc]
            rfl
          · rw [upd_ne (ne_of_none e no)]
            exact s2 b x e
          · rw [upd_same, et, drawn_snoc, List.map_append]
            rfl
      · rintro σ H2 ⟨y6, rfl, s2, eo⟩
        rw [List.length_map, List.take_length] at eo
        exact ⟨_, rfl, q o H2 no s2 eo⟩
    refine ⟨_, rfl, c, rfl, _, _, rfl, rfl, ⟨by decide, by decide, by decide⟩, _, _, rfl, rfl, _, rfl, ite2 (fun e => ?_) (fun e => ?_)⟩
    · have e1 := of_decide_eq_true e
      have hc1 : (if c < 0 then -c else c) < 10 ^ 18 := e1
      have hc : -(10 ^ 18) < c ∧ c < 10 ^ 18 := by
        split at hc1 <;> omega
      have n1 : 0 ≤ (c * 48271 + 11) % 2147483647 := Int.emod_nonneg _ (by decide)
      have m1 : (c * 48271 + 11) % 2147483647 < 2147483647 := Int.emod_lt_of_pos _ (by decide)
      have n2 : 0 ≤ (((c * 48271 + 11) % 2147483647) * ((c * 48271 + 11) % 2147483647) + 40692 * ((c * 48271 + 11) % 2147483647) + c) % 2147483399 := Int.emod_nonneg _ (by decide)
      have m2 : (((c * 48271 + 11) % 2147483647) * ((c * 48271 + 11) % 2147483647) + 40692 * ((c * 48271 + 11) % 2147483647) + c) % 2147483399 < 2147483399 := Int.emod_lt_of_pos _ (by decide)
      have n3 : 0 ≤ ((((c * 48271 + 11) % 2147483647) * ((c * 48271 + 11) % 2147483647) + 40692 * ((c * 48271 + 11) % 2147483647) + c) % 2147483399 * 16807 + (c * 48271 + 11) % 2147483647) % 1000000007 := Int.emod_nonneg _ (by decide)
      have m3 : ((((c * 48271 + 11) % 2147483647) * ((c * 48271 + 11) % 2147483647) + 40692 * ((c * 48271 + 11) % 2147483647) + c) % 2147483399 * 16807 + (c * 48271 + 11) % 2147483647) % 1000000007 < 1000000007 := Int.emod_lt_of_pos _ (by decide)
      refine ⟨_, rfl, _, _, rfl, rfl, wide (small (by omega) (by omega)) (small (by decide) (by decide)), _, _, rfl, rfl, _, _, rfl, rfl, (by show (0 : Int) < 2147483647; decide), ?_⟩
      refine ⟨_, rfl, _, rfl, _, _, rfl, rfl, wide (small (by omega) (by omega)) (small (by omega) (by omega)), _, rfl, _, _, rfl, rfl, wide (small (by decide) (by decide)) (small (by omega) (by omega)), _, _, rfl, rfl, _, rfl, _, _, rfl, rfl, _, _, rfl, rfl, (by show (0 : Int) < 2147483399; decide), ?_⟩
      refine ⟨_, rfl, _, _, rfl, rfl, wide (small (by omega) (by omega)) (small (by decide) (by decide)), _, rfl, _, _, rfl, rfl, _, _, rfl, rfl, (by show (0 : Int) < 1000000007; decide), ?_⟩
      refine ⟨_, rfl, _, rfl, _, rfl, _, _, rfl, rfl, wide (small (by decide) (by decide)) (small (by omega) (by omega)), _, _, rfl, rfl, _, _, rfl, rfl, wide (small (by decide) (by decide)) (small (by omega) (by omega)), _, _, rfl, rfl, ?_⟩
      refine go _ _ _ _ ?_
      unfold seed
      rw [if_pos hc1]
    · have e1 : ¬ (if c < 0 then -c else c) < 10 ^ 18 := fun z => e (decide_eq_true z)
      refine ⟨_, rfl, c, rfl, _, _, rfl, rfl, ⟨by decide, by decide, by decide⟩, _, _, rfl, rfl, ?_⟩
      refine go _ _ _ _ ?_
      unfold seed
      rw [if_neg e1]
      rfl


/-! ### _law_turn -/
def sp_turn : Sp := fun vs H Q _ => ∃ (c : Int) (n : Nat), vs = [.int c, .int (n : Int)] ∧ n ≤ 1000 ∧
  ∀ p H', H p = none → Same H H' → H' p = some (.tup ((turnOf c n).map V.int)) → Q (.ref p) H'
theorem ok_l_turn {f : Addr} {fd : FuncData} (D : Dn K mg "_law_turn" s_l_turn p_l_turn f fd) (b : Blt mg) : Cal P w K mg base CX0 1 "_law_turn" p_l_turn sp_turn := by
  refine D.cal (D.F.ok sc_l_turn (fun vs H Q E h => ?_) (fun cdv A outer s H vs Q E hr h => ?_))
  · obtain ⟨c, n, rfl, _⟩ := h
    rfl
  · obtain ⟨c, n, rfl, hn, q⟩ := h
    refine ⟨_, (pss_cons (ps_set (i := 2) sc_l_turn.nd rfl (Or.inl rfl) (pe_listRg rfl (by rfl) b.ty_list (prg_1 (by rfl) b.range (pv 1))))
      (pss_cons (ps_set (i := 3) sc_l_turn.nd rfl (Or.inl rfl) (pe_lst pa_nil))
      (pss_cons (ps_for PassesOwn.never rfl (pi_range1 (by rfl) b.range (pa_cons (pv 1) pa_nil)) (pg_name (i := 4) sc_l_turn.nd rfl (Or.inl rfl)) (pss_cons (ps_expr (pe_bm PySem.F.plainAttrs_list PySem.F.slot_list_append PySem.F.type_list_append mt_append (pv 3) (pa_cons (pe_bm PySem.F.plainAttrs_list PySem.F.slot_list_pop PySem.F.type_list_pop mt_popAt (pv 2) (pa_cons (pe_op op_mod (pv 0) (pe_op op_sub (pv 1) (pv 4))) pa_nil)) pa_nil)))
      (pss_one (ps_set (i := 0) sc_l_turn.nd rfl (Or.inl rfl) (pe_op op_fdivW (pv 0) (pe_op op_sub (pv 1) (pv 4)))))))
      (pss_one (ps_ret (pe_callTy call_tuple_of (by rfl) b.ty_tuple (by decide +kernel) (pa_cons (pv 3) pa_nil))))))), ?_⟩
    refine ⟨_, rfl, _, rfl, rg_ok hn, fun l nl => ?_⟩
    rw [rgV_int]
    refine ⟨Nat.zero_le _, fun o no => ?_⟩
    have nlo : l ≠ o := ne_of_none upd_same no
    have no0 : H o = none := by walk_at "fr"
    refine ⟨_, rfl, _, rfl, by omega, by omega, for_range (lo := 0) (n := n) (fun i σ H2 => ∃ (y4 : Option V) (free acc : List Int) (cc : Int), σ = [some (.int cc), some (.int (n : Int)), some (.ref l), some (.ref o), y4] ∧ Same H H2 ∧ H2 l = some (.lst (free.map V.int)) ∧ H2 o = some (.lst (acc.map V.int)) ∧
        free.length + i = n ∧ acc.length = i ∧ acc ++ picks free.length free cc = turnOf c n)
      ⟨none, rgI n, [], c, rfl, by walk_at "sm", by walk_at "hp", upd_same, by rw [rgI_len]; omega, rfl, by rw [rgI_len]; rfl⟩ ?_ ?_⟩
    · rintro i σ H2 hi ⟨y4, free, acc, cc, rfl, s2, el, eo, hf, ha, hp⟩
      obtain ⟨m, hm⟩ : ∃ m, free.length = m + 1 := ⟨n - i - 1, by omega⟩
      have ed : (n : Int) - (0 + (i : Int)) = (m : Int) + 1 := by omega
      have h0 : 0 ≤ cc % ((m : Int) + 1) := Int.emod_nonneg _ (by omega)
      have h1 : cc % ((m : Int) + 1) < (m : Int) + 1 := Int.emod_lt_of_pos _ (by omega)
      have hk : (cc % ((m : Int) + 1)).toNat < free.length := by omega
      refine ⟨_, rfl, .inl ⟨rfl, _, SqL.of eo⟩, _, rfl, .inl ⟨rfl, _, SqL.of el⟩, _, rfl, _, rfl, _, rfl, _, _, rfl, rfl, _, _, rfl, rfl, ?_, l, _, cc % ((m : Int) + 1), (cc % ((m : Int) + 1)).toNat, .int (free.getD (cc % ((m : Int) + 1)).toNat 0), rfl, ?_, el, ?_, ?_, ?_, ?_, ?_⟩
      · show (0 : Int) < (n : Int) - (0 + (i : Int))
        omega
      · show [V.int (cc % ((n : Int) - (0 + (i : Int))))] = _
        rw [ed]
      · omega
      · omega
      · rw [List.length_map]
        exact seqIx_in h0 (by omega)
      · rw [List.getElem?_map, getD_some hk]
        rfl
      · refine ⟨o, _, _, rfl, rfl, upd_old nlo.symm eo, ?_, ?_⟩
        · refine sz_lt ?_
          rw [List.length_map]
          omega
        · refine ⟨_, rfl, _, rfl, _, rfl, _, _, rfl, rfl, _, _, rfl, rfl, ?_, ?_⟩
          · show CDivW cc ((n : Int) - (0 + (i : Int)))
            exact wide_div (by omega) (b := 60) (by omega) (by decide) (by decide)
          · refine ⟨some (.int (0 + (i : Int))), free.eraseIdx (cc % ((m : Int) + 1)).toNat, acc ++ [free.getD (cc % ((m : Int) + 1)).toNat 0], cc / ((m : Int) + 1), ?_, ?_, ?_, ?_, ?_, ?_, ?_⟩
            · rw [← ed]
              rfl
            · refine same_new (same_new s2 nl) no0
            · rw [upd_ne nlo, upd_same, erase_ints]
            · rw [upd_same, snoc_ints]
            · rw [List.length_eraseIdx_of_lt hk]
              omega
            · rw [List.length_append, ha]
              rfl
            · rw [List.length_eraseIdx_of_lt hk, ← hp, hm, List.append_assoc]
              rfl
    · rintro σ H2 ⟨y4, free, acc, cc, rfl, s2, el, eo, hf, ha, hp⟩
      have e0 : free.length = 0 := by omega
      have ep : acc = turnOf c n := by
        rw [← hp, e0]
        show acc = acc ++ []
        rw [List.append_nil]
      subst ep
      refine ⟨_, rfl, o, _, rfl, .inl ⟨SqL.of eo, fun t nt => ?_⟩⟩
      exact q t _ (s2.free nt) (same_new s2 (s2.free nt)) upd_same


/-! ### is_turn -/
def sp_is_turn (K : PySem.W.Frag) : Sp := fun vs H Q _ => ∃ (a : Addr) (ns : List Int), vs = [.ref a] ∧ Sq K H a (ns.map V.int) ∧ ns.length ≤ 1000 ∧ ∀ H', Same H H' → Q (.bl (isTurn ns)) H'
theorem seen_some {kvs : List (Key × V)} {l : List Int} {x : Int} (h : kvs.map (·.1) = l.map Sum.inl) : (valV kvs (Sum.inl x)).isSome = decide (x ∈ l) := by
  rw [← valV_any]
  have e : (kvs.any fun kv => decide (kv.1 = (Sum.inl x : Key))) = ((kvs.map (·.1)).any fun k => decide (k = (Sum.inl x : Key))) := by rw [List.any_map]; rfl
  rw [e, h, List.any_map]
  by_cases hx : x ∈ l
  · rw [decide_eq_true hx]
    exact List.any_eq_true.mpr ⟨x, hx, by simp⟩
  · rw [decide_eq_false hx]
    refine Bool.eq_false_iff.mpr fun z => hx ?_
    obtain ⟨y, hy, e⟩ := List.any_eq_true.mp z
    have e2 : (Sum.inl y : Key) = Sum.inl x := of_decide_eq_true e
    have e3 : y = x := Sum.inl.inj e2
    exact e3 ▸ hy
theorem ok_is_turn {f : Addr} {fd : FuncData} (D : Dn K mg "is_turn" s_is_turn p_is_turn f fd) (b : Blt mg) : Cal P w K mg base CX0 1 "is_turn" p_is_turn (sp_is_turn K) := by
  refine D.cal (D.F.ok sc_is_turn (fun vs H Q E h => ?_) (fun cdv A outer s H vs Q E hr h => ?_))
  · obtain ⟨a, ns, rfl, _⟩ := h
    rfl
  · obtain ⟨a, ns, rfl, hS, hlen, q⟩ := h
    -- one turn and the end, whatever is walked
    have key : ∀ (d : Addr), H d = none → ∀ (i : Nat) (x : V) (σ : L2.St) (H2 : Hp) (N bk : L2.St → Hp → Prop), (ns.map V.int)[i]? = some x →
        (∃ (y2 : Option V) (kvs : List (Key × V)), σ = [some (.ref a), some (.ref d), y2] ∧ Same H H2 ∧ H2 d = some (.dK kvs) ∧ kvs.map (·.1) = (ns.take i).map Sum.inl ∧ okAt ns.length (ns.take i) (ns.drop i) = isTurn ns) →
        (∀ σ' H', (∃ (y2 : Option V) (kvs : List (Key × V)), σ' = [some (.ref a), some (.ref d), y2] ∧ Same H H' ∧ H' d = some (.dK kvs) ∧ kvs.map (·.1) = (ns.take (i + 1)).map Sum.inl ∧ okAt ns.length (ns.take (i + 1)) (ns.drop (i + 1)) = isTurn ns) → N σ' H') →
        (tSeq (tIfS (tOr (tTest (tOp (rI0 fun i j => .bl (decide (i < j))) (tVar 2) (tC (.int 0)))) (tOr (tTest (tOp (rI0 fun i j => .bl (decide (j ≤ i))) (tVar 2) (tCB (fun xs H Q => ∃ p ys, xs = [.ref p] ∧ (SqL K H p ys ∨ SqT K H p ys) ∧ Q (.int ys.length) H) (tCons (tVar 0) tNil)))) (tB (tDIn (tVar 2) (tVar 1))))) (tRet (tC (.bl false))) tNext)
          (sDPut (tVar 1) (tVar 2) (tC (.bl true)))) { nx := N, ct := N, rt := Q, bk := bk } (σ.set 2 (some x)) H2 := by
      intro d nd i x σ H2 N bk hi ⟨y2, kvs, e, s2, ed, hk, ho⟩ hN
      subst e
      obtain ⟨z, hz, rfl⟩ := int_at hi
      have hlt : i < ns.length := (List.getElem?_eq_some_iff.mp hz).1
      have hdrop : ns.drop i = z :: ns.drop (i + 1) := by
        rw [List.drop_eq_getElem_cons hlt]
        have : ns[i] = z := (List.getElem?_eq_some_iff.mp hz).2
        rw [this]
      have htake : ns.take (i + 1) = ns.take i ++ [z] := by rw [List.take_add_one, hz]; rfl
      have hS2 : Sq K H2 a (ns.map V.int) := same_sq s2 hS
      rw [hdrop] at ho
      have ho' := ho
      unfold okAt at ho'
      have bad : (z < 0 ∨ (ns.length : Int) ≤ z ∨ z ∈ ns.take i) → Q (.bl false) H2 := fun hb => by
        rw [if_pos hb] at ho'
        rw [ho']
        exact q H2 s2
      refine ⟨_, rfl, _, _, rfl, rfl, _, rfl, ite2 (fun e => ?_) (fun e => ?_)⟩
      · exact bad (.inl (of_decide_eq_true e))
      · have e0 : ¬ z < 0 := fun q => e (decide_eq_true q)
        refine ⟨_, rfl, _, rfl, a, _, rfl, hS2, _, _, rfl, rfl, _, rfl, ite2 (fun e => ?_) (fun e => ?_)⟩
        · have e1 := of_decide_eq_true e
          rw [List.length_map] at e1
          exact bad (.inr (.inl e1))
        · have e1 : ¬ (ns.length : Int) ≤ z := fun q => e (decide_eq_true (by rw [List.length_map]; exact q))
          refine ⟨_, rfl, _, rfl, d, _, rfl, DGet.k (k := Sum.inl z) ed, _, rfl, ?_⟩
          show if (valV kvs (Sum.inl z)).isSome = true then _ else _
          rw [seen_some hk]
          refine ite2 (fun e => ?_) (fun e => ?_)
          · exact bad (.inr (.inr (of_decide_eq_true e)))
          · have e2 : ¬ z ∈ ns.take i := fun q => e (decide_eq_true q)
            have hn : valV kvs (Sum.inl z) = none := by
              have := seen_some (x := z) hk
              rw [decide_eq_false e2] at this
              exact Option.isNone_iff_eq_none.mp (by simpa using this)
            have hkl : kvs.length = i := by
              have := congrArg List.length hk
              simpa [Nat.min_eq_left (Nat.le_of_lt hlt)] using this
            refine ⟨_, rfl, _, rfl, d, _, rfl, DPut.k (k := Sum.inl z) ed (sz_lt (by omega)), hN _ _ ⟨some (.int z), putK kvs (Sum.inl z) (.bl true), rfl, ?_, upd_same, ?_, ?_⟩⟩
            · exact same_new s2 nd
            · rw [putK_new _ hn, List.map_append, hk, htake, List.map_append]
              rfl
            · rw [htake]
              have hneg : ¬ (z < 0 ∨ (ns.length : Int) ≤ z ∨ z ∈ ns.take i) := fun z' => by
                rcases z' with z' | z' | z'
                · exact e0 z'
                · exact e1 z'
                · exact e2 z'
              rw [if_neg hneg] at ho'
              exact ho'
    have stop : ∀ (d : Addr) (σ : L2.St) (H2 : Hp), (∃ (y2 : Option V) (kvs : List (Key × V)), σ = [some (.ref a), some (.ref d), y2] ∧ Same H H2 ∧ H2 d = some (.dK kvs) ∧ kvs.map (·.1) = (ns.take (ns.map V.int).length).map Sum.inl ∧ okAt ns.length (ns.take (ns.map V.int).length) (ns.drop (ns.map V.int).length) = isTurn ns) → Q (.bl true) H2 := by
      rintro d σ H2 ⟨y2, kvs, rfl, s2, ed, hk, ho⟩
      rw [List.length_map, List.drop_length] at ho
      rw [show (true : Bool) = isTurn ns from ho]
      exact q H2 s2
    rcases hS with hL | hT
    · refine ⟨_, (pss_cons (ps_set (i := 1) sc_is_turn.nd rfl (Or.inl rfl) pe_dnewK)
      (pss_cons (ps_for PassesOwn.never rfl (pi_list (pv 0)) (pg_name (i := 2) sc_is_turn.nd rfl (Or.inl rfl)) (pss_cons (ps_if (PW.pt (pw_or (pt_cmpR op_lt (pv 2) pe_int (nomark _)) (pw_or (pt_cmpR op_ge (pv 2) (pe_callB call_len_seq (by rfl) b.len PySem.boot_len (pa_cons (pv 0) pa_nil)) (nomark _)) (pw_or1 (pt_cmp (pc_din (hu_of hr) (pv 2) (pv 1))))))) (pss_one (ps_ret pe_bl)) pss_nil)
      (pss_one (ps_dput (hu_of hr) (pv 1) (pv 2) pe_bl rfl))))
      (pss_one (ps_ret pe_bl)))), ?_⟩
      intro d nd
      refine ⟨_, rfl, a, rfl, ⟨_, (same_new (Same.refl H) nd).seq hL⟩, for_list (K := K) (a := a) (xs := ns.map V.int) (fun i σ H2 => ∃ (y2 : Option V) (kvs : List (Key × V)), σ = [some (.ref a), some (.ref d), y2] ∧ Same H H2 ∧ H2 d = some (.dK kvs) ∧ kvs.map (·.1) = (ns.take i).map Sum.inl ∧ okAt ns.length (ns.take i) (ns.drop i) = isTurn ns)
        ⟨none, [], rfl, same_new (Same.refl H) nd, upd_same, rfl, rfl⟩ (fun i σ H2 _ ⟨_, _, _, s2, _⟩ => s2.seq hL) (fun i x σ H2 hi hI => key d nd i x σ H2 _ _ hi hI fun _ _ z => z) (fun σ H2 hI => stop d σ H2 hI)⟩
    · refine ⟨_, (pss_cons (ps_set (i := 1) sc_is_turn.nd rfl (Or.inl rfl) pe_dnewK)
      (pss_cons (ps_for PassesOwn.never rfl (pi_tup (pv 0)) (pg_name (i := 2) sc_is_turn.nd rfl (Or.inl rfl)) (pss_cons (ps_if (PW.pt (pw_or (pt_cmpR op_lt (pv 2) pe_int (nomark _)) (pw_or (pt_cmpR op_ge (pv 2) (pe_callB call_len_seq (by rfl) b.len PySem.boot_len (pa_cons (pv 0) pa_nil)) (nomark _)) (pw_or1 (pt_cmp (pc_din (hu_of hr) (pv 2) (pv 1))))))) (pss_one (ps_ret pe_bl)) pss_nil)
      (pss_one (ps_dput (hu_of hr) (pv 1) (pv 2) pe_bl rfl))))
      (pss_one (ps_ret pe_bl)))), ?_⟩
      intro d nd
      refine ⟨_, rfl, a, rfl, ⟨_, same_seqT (same_new (Same.refl H) nd) hT⟩, for_tup (K := K) (a := a) (xs := ns.map V.int) (fun i σ H2 => ∃ (y2 : Option V) (kvs : List (Key × V)), σ = [some (.ref a), some (.ref d), y2] ∧ Same H H2 ∧ H2 d = some (.dK kvs) ∧ kvs.map (·.1) = (ns.take i).map Sum.inl ∧ okAt ns.length (ns.take i) (ns.drop i) = isTurn ns)
        ⟨none, [], rfl, same_new (Same.refl H) nd, upd_same, rfl, rfl⟩ (fun i σ H2 _ ⟨_, _, _, s2, _⟩ => same_seqT s2 hT) (fun i x σ H2 hi hI => key d nd i x σ H2 _ _ hi hI fun _ _ z => z) (fun σ H2 hI => stop d σ H2 hI)⟩


/-! ### _law_same, of alike things -/
def sp_same (K : PySem.W.Frag) : Nat → Sp
  | 0 => fun _ _ _ _ => False
  | n + 1 => fun vs H Q _ => ∃ x y, vs = [x, y] ∧ Alike K H n x y ∧ ∀ H', Same H H' → Q (.bl true) H'
theorem ok_l_same {f : Addr} {fd : FuncData} (D : Dn K mg "_law_same" s_l_same p_l_same f fd) (b : Blt mg) : ∀ n : Nat, Cal P w K mg base CX0 n "_law_same" p_l_same (sp_same K n) := by
  intro n
  induction n with
  | zero => exact D.cal fn_never
  | succ n ih =>
  have c := ih
  refine D.cal (D.F.ok sc_l_same (fun vs H Q E h => ?_) (fun cdv A outer s H vs Q E hr h => ?_))
  · obtain ⟨x, y, rfl, _⟩ := h
    rfl
  · obtain ⟨x, y, rfl, hA, q⟩ := h
    have hle : n ≤ n := Nat.le_refl n
    refine ⟨_, (pss_cons (ps_if (pt_cmpR op_isN (pv 1) pe_non (nomark _)) (pss_one (ps_ret (pe_cmpR op_isN (pv 0) pe_non (nomark _)))) pss_nil)
      (pss_cons (ps_if (pt_val (pe_callB call_isi (by rfl) b.isinstance (by decide +kernel) (pa_cons (pv 1) (pa_cons (pe_bltn (v := .ty "bool") (by rfl) b.ty_bool (by decide +kernel) rfl) pa_nil)))) (pss_one (ps_ret (pe_and (pe_callB call_isi (by rfl) b.isinstance (by decide +kernel) (pa_cons (pv 0) (pa_cons (pe_bltn (v := .ty "bool") (by rfl) b.ty_bool (by decide +kernel) rfl) pa_nil))) (pe_one (pe_cmpR op_eq (pv 0) (pv 1) (nomark _)))))) pss_nil)
      (pss_cons (ps_if (pt_val (pe_callB call_isi (by rfl) b.isinstance (by decide +kernel) (pa_cons (pv 1) (pa_cons (pe_bltn (v := .ty "int") (by rfl) b.ty_int (by decide +kernel) rfl) pa_nil)))) (pss_one (ps_ret (pe_and (pe_callB call_isi (by rfl) b.isinstance (by decide +kernel) (pa_cons (pv 0) (pa_cons (pe_bltn (v := .ty "int") (by rfl) b.ty_int (by decide +kernel) rfl) pa_nil))) (pe_and (pe_not (pe_callB call_isi (by rfl) b.isinstance (by decide +kernel) (pa_cons (pv 0) (pa_cons (pe_bltn (v := .ty "bool") (by rfl) b.ty_bool (by decide +kernel) rfl) pa_nil)))) (pe_one (pe_cmpR op_eq (pv 0) (pv 1) (nomark _))))))) pss_nil)
      (pss_cons (ps_if (pt_val (pe_callB call_isi (by rfl) b.isinstance (by decide +kernel) (pa_cons (pv 1) (pa_cons (pe_bltn (v := .ty "str") (by rfl) b.ty_str (by decide +kernel) rfl) pa_nil)))) (pss_one (ps_ret (pe_and (pe_callB call_isi (by rfl) b.isinstance (by decide +kernel) (pa_cons (pv 0) (pa_cons (pe_bltn (v := .ty "str") (by rfl) b.ty_str (by decide +kernel) rfl) pa_nil))) (pe_one (pe_cmpR op_eq (pv 0) (pv 1) (nomark _)))))) pss_nil)
      (pss_cons (ps_if (PW.pt (pw_or (pt_cmpR op_ne (pe_callB call_isi (by rfl) b.isinstance (by decide +kernel) (pa_cons (pv 1) (pa_cons (pe_bltn (v := .ty "list") (by rfl) b.ty_list (by decide +kernel) rfl) pa_nil))) (pe_callB call_isi (by rfl) b.isinstance (by decide +kernel) (pa_cons (pv 0) (pa_cons (pe_bltn (v := .ty "list") (by rfl) b.ty_list (by decide +kernel) rfl) pa_nil))) (nomark _)) (pw_or1 (pt_cmpR op_ne (pe_callB call_isi (by rfl) b.isinstance (by decide +kernel) (pa_cons (pv 1) (pa_cons (pe_bltn (v := .ty "tuple") (by rfl) b.ty_tuple (by decide +kernel) rfl) pa_nil))) (pe_callB call_isi (by rfl) b.isinstance (by decide +kernel) (pa_cons (pv 0) (pa_cons (pe_bltn (v := .ty "tuple") (by rfl) b.ty_tuple (by decide +kernel) rfl) pa_nil))) (nomark _))))) (pss_one (ps_ret pe_bl)) pss_nil)
      (pss_cons (ps_if (pt_cmpR op_ne (pe_callB call_len_seq (by rfl) b.len PySem.boot_len (pa_cons (pv 0) pa_nil)) (pe_callB call_len_seq (by rfl) b.len PySem.boot_len (pa_cons (pv 1) pa_nil)) (nomark _)) (pss_one (ps_ret pe_bl)) pss_nil)
      (pss_one (ps_ret (pe_callB (cr_all rfl) (by rfl) b.all (by decide +kernel) (pa_cons (pe_lc (own := [("_law_k", 2)]) (g := gName 2) (by rfl) sc_l_same.nd (pi_range1 (by rfl) b.range (pa_cons (pe_callB call_len_seq (by rfl) b.len PySem.boot_len (pa_cons (pv 1) pa_nil)) pa_nil)) (blkOk_by (N := s_l_same_N) (sc := defScope s_l_same) (by decide +kernel)) (fun _ _ _ _ _ => (pg_name (i := 2) sc_l_same.nd rfl (Or.inl rfl))) (fun _ _ _ _ _ => pts_nil) (fun _ _ _ _ _ => (pe_c c hr (by omega) (by rfl) pass0 (pa_cons (pe_ix (ix_seqK K) (pv 0) (pv 2) (fun _ _ => rfl)) (pa_cons (pe_ix (ix_seqK K) (pv 1) (pv 2) (fun _ _ => rfl)) pa_nil))))) pa_nil)))))))))), ?_⟩
    cases hA with
    | non =>
      refine ⟨_, rfl, rfl, _, rfl, iteT ⟨_, rfl, rfl, ?_⟩⟩
      exact q H (Same.refl H)
    | bl z =>
      refine ⟨_, rfl, rfl, _, rfl, ifno ?_⟩
      refine ⟨_, rfl, _, _, _, _, true, rfl, .ty "bool", .base (.bl _), kit_ty (by decide +kernel), _, rfl, iteT ?_⟩
      refine ⟨_, rfl, _, _, _, _, true, rfl, .ty "bool", .base (.bl _), kit_ty (by decide +kernel), _, rfl, iteT ⟨_, rfl, _, rfl, rfl, ?_⟩⟩
      rw [decide_eq_true rfl]
      exact q H (Same.refl H)
    | int z =>
      refine ⟨_, rfl, rfl, _, rfl, ifno ?_⟩
      refine ⟨_, rfl, _, _, _, _, false, rfl, .ty "bool", .base (.int _), kit_ty (by decide +kernel), _, rfl, ifno ?_⟩
      refine ⟨_, rfl, _, _, _, _, true, rfl, .ty "int", .base (.int _), kit_ty (by decide +kernel), _, rfl, iteT ?_⟩
      refine ⟨_, rfl, _, _, _, _, true, rfl, .ty "int", .base (.int _), kit_ty (by decide +kernel), _, rfl, iteT ?_⟩
      refine ⟨_, rfl, _, _, _, _, false, rfl, .ty "bool", .base (.int _), kit_ty (by decide +kernel), _, rfl, _, rfl, iteT ⟨_, rfl, _, rfl, rfl, ?_⟩⟩
      rw [decide_eq_true rfl]
      exact q H (Same.refl H)
    | str z =>
      refine ⟨_, rfl, rfl, _, rfl, ifno ?_⟩
      refine ⟨_, rfl, _, _, _, _, false, rfl, .ty "bool", .base (.str _), kit_ty (by decide +kernel), _, rfl, ifno ?_⟩
      refine ⟨_, rfl, _, _, _, _, false, rfl, .ty "int", .base (.str _), kit_ty (by decide +kernel), _, rfl, ifno ?_⟩
      refine ⟨_, rfl, _, _, _, _, true, rfl, .ty "str", .base (.str _), kit_ty (by decide +kernel), _, rfl, iteT ?_⟩
      refine ⟨_, rfl, _, _, _, _, true, rfl, .ty "str", .base (.str _), kit_ty (by decide +kernel), _, rfl, iteT ⟨_, rfl, _, rfl, rfl, ?_⟩⟩
      rw [decide_eq_true rfl]
      exact q H (Same.refl H)
    | @lst m a a' xs ys ha hb hl hz hh =>
      refine ⟨_, rfl, rfl, _, rfl, ifno ?_⟩
      refine ⟨_, rfl, _, _, _, _, false, rfl, .ty "bool", tyL hb, kit_ty (by decide +kernel), _, rfl, ifno ?_⟩
      refine ⟨_, rfl, _, _, _, _, false, rfl, .ty "int", tyL hb, kit_ty (by decide +kernel), _, rfl, ifno ?_⟩
      refine ⟨_, rfl, _, _, _, _, false, rfl, .ty "str", tyL hb, kit_ty (by decide +kernel), _, rfl, ifno ?_⟩
      refine ⟨_, rfl, _, _, _, _, true, rfl, .ty "list", tyL hb, kit_ty (by decide +kernel), _, rfl, _, _, _, _, true, rfl, .ty "list", tyL ha, kit_ty (by decide +kernel), rfl, _, rfl, iteF ?_⟩
      refine ⟨_, rfl, _, _, _, _, false, rfl, .ty "tuple", tyL hb, kit_ty (by decide +kernel), _, rfl, _, _, _, _, false, rfl, .ty "tuple", tyL ha, kit_ty (by decide +kernel), rfl, _, rfl, ifno ?_⟩
      refine ⟨_, rfl, a, _, rfl, .inl ha, _, rfl, a', _, rfl, .inl hb, rfl, _, rfl, ?_⟩
      rw [decide_eq_true (congrArg (fun k : Nat => V.int (k : Int)) hl)]
      refine ifno ⟨_, rfl, a', _, rfl, .inl hb, (ys.length : Int), rfl, by omega, by omega, fun L nL => lc_range (lo := 0) (n := ys.length) (fun i Hx => Same H Hx ∧ Hx L = some (.lst ((List.replicate i true).map V.bl))) ⟨same_new (Same.refl H) nL, upd_same⟩ ?_ ?_⟩
      · rintro i Hx hi ⟨sx, eL⟩
        obtain ⟨u, hu⟩ : ∃ u, xs[i]? = some u := ⟨xs[i]'(by omega), List.getElem?_eq_getElem (by omega)⟩
        obtain ⟨v, hv⟩ : ∃ v, ys[i]? = some v := ⟨ys[i], List.getElem?_eq_getElem hi⟩
        have e0 : (0 : Int) + (i : Int) = (i : Int) := Int.zero_add _
        refine ⟨rfl, ⟨_, rfl, _, rfl, .inl ⟨a, _, _, u, rfl, rfl, sx.seq ha, by rw [e0]; exact atI_nat hu, _, rfl, _, rfl, .inl ⟨a', _, _, v, rfl, rfl, sx.seq hb, by rw [e0]; exact atI_nat hv, u, v, rfl, (hh i u v hu hv).same sx, fun H2 s2 => ⟨_, s2 _ _ eL, ?_, ?_, ?_⟩⟩⟩⟩⟩
        · refine sz_lt ?_
          rw [List.length_map, List.length_replicate]
          omega
        · exact same_new (sx.trans s2) nL
        · rw [upd_same, List.replicate_succ', List.map_append]
          rfl
      · rintro Hx ⟨sx, eL⟩
        refine ⟨L, _, rfl, SqL.of eL, ?_⟩
        rw [show (List.replicate ys.length true).all id = true by simp]
        exact q Hx sx
    | @tup m a a' xs ys ha hb hl hz hh =>
      refine ⟨_, rfl, rfl, _, rfl, ifno ?_⟩
      refine ⟨_, rfl, _, _, _, _, false, rfl, .ty "bool", tyT hb, kit_ty (by decide +kernel), _, rfl, ifno ?_⟩
      refine ⟨_, rfl, _, _, _, _, false, rfl, .ty "int", tyT hb, kit_ty (by decide +kernel), _, rfl, ifno ?_⟩
      refine ⟨_, rfl, _, _, _, _, false, rfl, .ty "str", tyT hb, kit_ty (by decide +kernel), _, rfl, ifno ?_⟩
      refine ⟨_, rfl, _, _, _, _, false, rfl, .ty "list", tyT hb, kit_ty (by decide +kernel), _, rfl, _, _, _, _, false, rfl, .ty "list", tyT ha, kit_ty (by decide +kernel), rfl, _, rfl, iteF ?_⟩
      refine ⟨_, rfl, _, _, _, _, true, rfl, .ty "tuple", tyT hb, kit_ty (by decide +kernel), _, rfl, _, _, _, _, true, rfl, .ty "tuple", tyT ha, kit_ty (by decide +kernel), rfl, _, rfl, ifno ?_⟩
      refine ⟨_, rfl, a, _, rfl, .inr ha, _, rfl, a', _, rfl, .inr hb, rfl, _, rfl, ?_⟩
      rw [decide_eq_true (congrArg (fun k : Nat => V.int (k : Int)) hl)]
      refine ifno ⟨_, rfl, a', _, rfl, .inr hb, (ys.length : Int), rfl, by omega, by omega, fun L nL => lc_range (lo := 0) (n := ys.length) (fun i Hx => Same H Hx ∧ Hx L = some (.lst ((List.replicate i true).map V.bl))) ⟨same_new (Same.refl H) nL, upd_same⟩ ?_ ?_⟩
      · rintro i Hx hi ⟨sx, eL⟩
        obtain ⟨u, hu⟩ : ∃ u, xs[i]? = some u := ⟨xs[i]'(by omega), List.getElem?_eq_getElem (by omega)⟩
        obtain ⟨v, hv⟩ : ∃ v, ys[i]? = some v := ⟨ys[i], List.getElem?_eq_getElem hi⟩
        have e0 : (0 : Int) + (i : Int) = (i : Int) := Int.zero_add _
        refine ⟨rfl, ⟨_, rfl, _, rfl, .inr (.inl ⟨a, _, _, u, rfl, rfl, same_seqT sx ha, by rw [e0]; exact atI_nat hu, _, rfl, _, rfl, .inr (.inl ⟨a', _, _, v, rfl, rfl, same_seqT sx hb, by rw [e0]; exact atI_nat hv, u, v, rfl, (hh i u v hu hv).same sx, fun H2 s2 => ⟨_, s2 _ _ eL, ?_, ?_, ?_⟩⟩)⟩)⟩⟩
        · refine sz_lt ?_
          rw [List.length_map, List.length_replicate]
          omega
        · exact same_new (sx.trans s2) nL
        · rw [upd_same, List.replicate_succ', List.map_append]
          rfl
      · rintro Hx ⟨sx, eL⟩
        refine ⟨L, _, rfl, SqL.of eL, ?_⟩
        rw [show (List.replicate ys.length true).all id = true by simp]
        exact q Hx sx


/-! ### the errors -/
theorem ok_KinError_init {f : Addr} {fd : FuncData} (F : Fun K "__init__" "KinError.__init__" s_KinError_init f fd) : FnOk P w K mg base CX0 1 f fd ["self", "word"] (spKin K) := by
  refine F.ok sc_KinError_init (fun vs H Q E h => ?_) (fun cdv A outer s H vs Q E hr h => ?_)
  · obtain ⟨a, C, y, rfl, _⟩ := h
    rfl
  · obtain ⟨a, C, y, rfl, T, ha, q⟩ := h
    refine ⟨_, (pss_one (ps_ost (pv 0) (pv 1))), ?_⟩
    exact ⟨_, rfl, _, rfl, a, C, rfl, T.ox, T.nw, .inl ⟨ha, fun dx nd ne => q dx nd ne⟩⟩
theorem kinBase_of {h : Heap} {C0 : Addr} (X : K.In h) (G : h.Ns mainGlobals mg) (d : BaseIn K s_KinError_init C0) : KinBase P w K mg base C0 := by
  obtain ⟨_, f0, oc, od, kV, doc, pm, an, cdv, ct, osl, a, r, g, v, l, c, k⟩ := d
  have F := fun_mk (st := s_KinError_init) l c k
  exact ⟨f0, _, _, PySem.W.mg_of X G a, ⟨r, g⟩, v, k, F.binds (ps := ["self", "word"]) (fun _ _ _ _ _ _ us hl => match us, hl with | [_, _], _ => rfl), ok_KinError_init F⟩


theorem ok_BadTurn_init {f C0 : Addr} {fd : FuncData} (F : Fun K "__init__" "BadTurn.__init__" s_BadTurn_init f fd) (B : KinBase P w K mg base C0) : FnOk P w K mg base CX0 2 f fd ["self"] (spIni K "no turning") := by
  obtain ⟨f0, fd0, mc, g0, r0, v0, k0, b0, F0⟩ := B
  refine F.ok sc_BadTurn_init (fun vs H Q E h => ?_) (fun cdv A outer s H vs Q E hr h => ?_)
  · obtain ⟨a, C, rfl, _⟩ := h
    rfl
  · obtain ⟨a, C, rfl, T, ha, q⟩ := h
    refine ⟨_, (pss_one (ps_expr (pe_cfn (pe_glob (v := .ref C0) (by rfl) g0 rfl) r0 v0 k0 F0 hr (by omega) b0 pass0 (pa_cons (pv 0) (pa_cons pe_str pa_nil))))), ?_⟩
    exact ⟨rfl, _, rfl, a, C, _, rfl, T, ha, fun dx nd ne => q dx nd ne⟩
theorem rsb_BadTurn {h : Heap} {C0 C : Addr} (X : K.In h) (G : h.Ns mainGlobals mg) (B : KinBase P w K mg base C0) (d : ErrIn K "BadTurn" "BadTurn.__init__" s_BadTurn_init C) : Rsb P w K mg base 2 "BadTurn" C "no turning" := by
  obtain ⟨T, a, fI, oc, od, kV, doc, pm, an, cdv, ct, osl, iC, tI, l, c, k⟩ := d
  have F := fun_mk (st := s_BadTurn_init) l c k
  exact ⟨PySem.W.mg_of X G a, T, fI, _, iC, tI, F.binds (ps := ["self"]) (fun _ _ _ _ _ _ us hl => match us, hl with | [_], _ => rfl), ok_BadTurn_init F B⟩


/-! ### still -/
def sp_still : Sp := fun vs H Q _ => ∃ n : Nat, vs = [.int (n : Int)] ∧ n ≤ 1000 ∧ ∀ p H', H p = none → Same H H' → H' p = some (.tup ((rgI n).map V.int)) → Q (.ref p) H'
theorem ok_still {f : Addr} {fd : FuncData} (D : Dn K mg "still" s_still p_still f fd) (b : Blt mg) : Cal P w K mg base CX0 1 "still" p_still sp_still := by
  refine D.cal (D.F.ok sc_still (fun vs H Q E h => ?_) (fun cdv A outer s H vs Q E hr h => ?_))
  · obtain ⟨n, rfl, _⟩ := h
    rfl
  · obtain ⟨n, rfl, hn, q⟩ := h
    refine ⟨_, (pss_one (ps_ret (pe_tupRg rfl (by rfl) b.ty_tuple (prg_1 (by rfl) b.range (pv 0))))), ?_⟩
    refine ⟨_, rfl, _, rfl, rg_ok hn, fun p np => ?_⟩
    rw [rgV_int]
    exact q p _ np (same_new (Same.refl H) np) upd_same


/-! ### led -/
def sp_led (K : PySem.W.Frag) : Sp := fun vs H Q _ => ∃ (a a' : Addr) (ns ms : List Int), vs = [.ref a, .ref a'] ∧ SqT K H a (ns.map V.int) ∧ SqT K H a' (ms.map V.int) ∧ ns.length ≤ 1000 ∧ (∀ x ∈ ns, 0 ≤ x ∧ x < (ms.length : Int)) ∧
  ∀ p H', H p = none → Same H H' → H' p = some (.tup ((after ns ms).map V.int)) → Q (.ref p) H'
theorem ok_led {f : Addr} {fd : FuncData} (D : Dn K mg "led" s_led p_led f fd) (b : Blt mg) : Cal P w K mg base CX0 1 "led" p_led (sp_led K) := by
  refine D.cal (D.F.ok sc_led (fun vs H Q E h => ?_) (fun cdv A outer s H vs Q E hr h => ?_))
  · obtain ⟨a, a', ns, ms, rfl, _⟩ := h
    rfl
  · obtain ⟨a, a', ns, ms, rfl, ha, hb, hn, hm, q⟩ := h
    refine ⟨_, (pss_one (ps_ret (pe_callTy call_tuple_of (by rfl) b.ty_tuple (by decide +kernel) (pa_cons (pe_lc (own := [("one", 2)]) (g := gName 2) (by rfl) sc_led.nd (pi_tup (pv 0)) (blkOk_by (N := s_led_N) (sc := defScope s_led) (by decide +kernel)) (fun _ _ _ _ _ => (pg_name (i := 2) sc_led.nd rfl (Or.inl rfl))) (fun _ _ _ _ _ => pts_nil) (fun _ _ _ _ _ => (pe_ix (ix_tupK K) (pv 1) (pv 2) (fun _ _ => rfl)))) pa_nil)))), ?_⟩
    refine ⟨_, rfl, a, rfl, ⟨_, ha⟩, fun L nL => lc_tup (K := K) (a := a) (xs := ns.map V.int) (fun i Hx => Same H Hx ∧ Hx L = some (.lst ((after (ns.take i) ms).map V.int))) ⟨same_new (Same.refl H) nL, upd_same⟩ (fun i Hx _ hI => same_seqT hI.1 ha) ?_ ?_⟩
    · rintro i x Hx hi ⟨sx, eL⟩
      obtain ⟨z, hz, rfl⟩ := int_at hi
      have hz2 := hm z (List.mem_of_getElem? hz)
      have hi2 : i < ns.length := (List.getElem?_eq_some_iff.mp hz).1
      refine ⟨rfl, ⟨_, rfl, _, rfl, a', _, _, .int (ms.getD z.toNat 0), rfl, rfl, same_seqT sx hb, at_int hz2.1 (getD_some (by omega)), _, eL, ?_, same_new sx nL, ?_⟩⟩
      · refine sz_lt ?_
        rw [List.length_map]
        unfold after
        rw [List.length_map, List.length_take]
        omega
      · rw [upd_same, List.take_add_one, hz, after_snoc]
        show some (HO.lst ((after (ns.take i) ms).map V.int ++ [V.int (ms.getD z.toNat 0)])) = _
        rw [snoc_ints]
        rfl
    · rintro Hx ⟨sx, eL⟩
      rw [List.length_map, List.take_length] at eL
      refine ⟨L, _, rfl, .inl ⟨SqL.of eL, fun p np => ?_⟩⟩
      exact q p _ (sx.free np) (same_new sx (sx.free np)) upd_same


/-! ### behind -/
def sp_behind (K : PySem.W.Frag) (C : Addr) : Sp := fun vs H Q E => ∃ (a a' : Addr) (ns ms : List Int), vs = [.ref a, .ref a'] ∧ SqT K H a (ns.map V.int) ∧ SqT K H a' (ms.map V.int) ∧ ns.length ≤ 1000 ∧ ms.length ≤ 1000 ∧
  (Turn ns → Turn ms → ns.length = ms.length → ∀ p H', H p = none → Same H H' → H' p = some (.tup ((after ns ms).map V.int)) → Q (.ref p) H') ∧
  (¬ (Turn ns ∧ Turn ms ∧ ns.length = ms.length) → ∀ d H', H d = none → Same H H' → H' d = some (.xd [("word", .str "no turning")]) → E (.ref C) (some d) H')
theorem ok_behind {f C : Addr} {fd : FuncData} (D : Dn K mg "behind" s_behind p_behind f fd) (b : Blt mg) (R : Rsb P w K mg base 2 "BadTurn" C "no turning") (c_is_turn : Cal P w K mg base CX0 1 "is_turn" p_is_turn (sp_is_turn K)) (c_led : Cal P w K mg base CX0 1 "led" p_led (sp_led K)) :
    Cal P w K mg base (L2.CX P w) 4 "behind" p_behind (sp_behind K C) := by
  refine D.cal (D.F.okX sc_behind (fun vs H Q E h => ?_) (fun cdv A outer s H vs Q E hr h => ?_))
  · obtain ⟨a, a', ns, ms, rfl, _⟩ := h
    rfl
  · obtain ⟨a, a', ns, ms, rfl, ha, hb, hn, hm, q, e⟩ := h
    refine ⟨_, (pss_cons (ps_if (PW.pt (pw_or (pt_not (pt_val (pe_c c_is_turn hr (by omega) (by rfl) pass0 (pa_cons (pv 0) pa_nil)))) (pw_or (pt_not (pt_val (pe_c c_is_turn hr (by omega) (by rfl) pass0 (pa_cons (pv 1) pa_nil)))) (pw_or1 (pt_cmpR op_ne (pe_callB call_len_seq (by rfl) b.len PySem.boot_len (pa_cons (pv 0) pa_nil)) (pe_callB call_len_seq (by rfl) b.len PySem.boot_len (pa_cons (pv 1) pa_nil)) (nomark _)))))) (pss_one (ps_rsb R hr (by omega) rfl (takes_of rfl rfl rfl rfl) (by rfl))) pss_nil)
      (pss_one (ps_ret (pe_c c_led hr (by omega) (by rfl) pass0 (pa_cons (pv 0) (pa_cons (pv 1) pa_nil)))))), ?_⟩
    have bad : ∀ H', Same H H' → ¬ (Turn ns ∧ Turn ms ∧ ns.length = ms.length) → ∀ d, H' d = none → E (.ref C) (some d) (upd H' d (.xd [("word", .str "no turning")])) := fun H' s1 hno d nd => e hno d _ (s1.free nd) (same_new s1 (s1.free nd)) upd_same
    refine ⟨_, rfl, a, ns, rfl, .inr ha, hn, fun H1 s1 => ⟨_, rfl, ?_⟩⟩
    cases h1 : isTurn ns with
    | false =>
      refine iteT (bad H1 s1 fun z => ?_)
      rw [isTurn_iff.mpr z.1] at h1
      cases h1
    | true =>
      refine iteF ⟨_, rfl, a', ms, rfl, .inr (same_seqT s1 hb), hm, fun H2 s2 => ⟨_, rfl, ?_⟩⟩
      cases h2 : isTurn ms with
      | false =>
        refine iteT (bad H2 (s1.trans s2) fun z => ?_)
        rw [isTurn_iff.mpr z.2.1] at h2
        cases h2
      | true =>
        have s3 : Same H H2 := s1.trans s2
        refine iteF ⟨_, rfl, a, _, rfl, .inr (same_seqT s3 ha), _, rfl, a', _, rfl, .inr (same_seqT s3 hb), rfl, _, rfl, ?_⟩
        by_cases hl : ns.length = ms.length
        · rw [decide_eq_true (show V.int (((ns.map V.int).length : Nat) : Int) = V.int (((ms.map V.int).length : Nat) : Int) by rw [List.length_map, List.length_map, hl])]
          refine ifno ⟨_, rfl, _, rfl, a, a', ns, ms, rfl, same_seqT s3 ha, same_seqT s3 hb, hn, ?_, fun p H' np s4 hp => ?_⟩
          · rw [← hl]
            exact (isTurn_iff.mp h1).lo
          · exact q (isTurn_iff.mp h1) (isTurn_iff.mp h2) hl p H' (s3.free np) (s3.trans s4) hp
        · rw [decide_eq_false (show ¬ V.int (((ns.map V.int).length : Nat) : Int) = V.int (((ms.map V.int).length : Nat) : Int) from fun z => hl (by
            have z2 := V.int.inj z
            rw [List.length_map, List.length_map] at z2
            omega))]
          exact iteT (bad H2 s3 fun z => hl z.2.2)


/-! ### _law_asked -/
def sp_asked (K : PySem.W.Frag) : Sp := fun vs H Q _ => ∃ (a a' : Addr) (ns ms : List Int), vs = [.ref a, .ref a'] ∧ SqT K H a (ns.map V.int) ∧ SqT K H a' (ms.map V.int) ∧ ns.length ≤ 1000 ∧ ms.length ≤ 1000 ∧
  (Turn ns → Turn ms → ns.length = ms.length → ∀ p t H', Same H H' → H' t = some (.tup ((after ns ms).map V.int)) → H' p = some (.tup [.str "told", .ref t]) → Q (.ref p) H') ∧
  (¬ (Turn ns ∧ Turn ms ∧ ns.length = ms.length) → ∀ p H', Same H H' → H' p = some (.tup [.str "refused", .str "no turning", .bl true, .bl true]) → Q (.ref p) H')
theorem ok_l_asked {f C C0 : Addr} {fd : FuncData} (D : Dn K mg "_law_asked" s_l_asked p_l_asked f fd) (b : Blt mg) (g0 : mg "KinError" = some (.ref C0)) (gC : mg "BadTurn" = some (.ref C)) (T : KinC K C) (U : Under K C C0)
    (i1 : PySem.W.kitOne K (.ref C) (.ref C) = some true) (i2 : PySem.W.kitOne K (.ref C) (.type "ValueError") = some true) (c_behind : Cal P w K mg base (L2.CX P w) 4 "behind" p_behind (sp_behind K C)) :
    Cal P w K mg base CX0 5 "_law_asked" p_l_asked (sp_asked K) := by
  refine D.cal (D.F.ok sc_l_asked (fun vs H Q E h => ?_) (fun cdv A outer s H vs Q E hr h => ?_))
  · obtain ⟨a, a', ns, ms, rfl, _⟩ := h
    rfl
  · obtain ⟨a, a', ns, ms, rfl, ha, hb, hn, hm, q, e⟩ := h
    refine ⟨_, (pss_one (ps_try_as (i := 2) (by rfl) (by rfl) sc_l_asked.nd rfl rfl ⟨rfl, by decide, Or.inl g0⟩ takes0 (fun W pn xe tk _ => (pss_one (ps_ret (pe_tup (pa_cons pe_str (pa_cons (pe_cS c_behind hr (by omega) (by rfl) (fun σ => passAt tk σ) (pa_cons (pv 0) (pa_cons (pv 1) pa_nil))) pa_nil)))))) (fun a oe cls d pn hz hf => (pss_one (ps_ret (pe_tup (pa_cons pe_str (pa_cons (pe_ef K hz hf (pv 2)) (pa_cons (pe_callB (call_eis K hz hf) (by rfl) b.isinstance (by decide +kernel) (pa_cons (pv 2) (pa_cons (pe_glob (v := .ref C) (by rfl) gC rfl) pa_nil))) (pa_cons (pe_callB (call_eis K hz hf) (by rfl) b.isinstance (by decide +kernel) (pa_cons (pv 2) (pa_cons (pe_bltn (v := .ty "ValueError") (by rfl) b.ty_ValueError (by decide +kernel) rfl) pa_nil))) pa_nil)))))))))), ?_⟩
    refine ⟨_, rfl, _, rfl, a, a', ns, ms, rfl, ha, hb, hn, hm, fun t1 t2 t3 t H1 nt s1 ht => ?_, fun hno d H1 nd s1 hd => ?_⟩
    · refine ⟨(by show 2 ≤ sizeLine; decide), fun p np => ?_⟩
      exact q t1 t2 t3 p t _ (same_new s1 (s1.free np)) (upd_new np ht) upd_same
    · refine ⟨true, U, fun _ x nx => ?_, fun z => nomatch z⟩
      refine ⟨_, rfl, C, d, _, _, rfl, rfl, T.xf, T.nw, rfl, hd, rfl, ?_⟩
      refine ⟨_, rfl, C, d, _, _, _, true, rfl, rfl, T, rfl, hd, .own C, i1, ?_⟩
      refine ⟨_, rfl, C, d, _, _, _, true, rfl, rfl, T, rfl, hd, .ty "ValueError", i2, ?_⟩
      refine ⟨by decide, fun p np => ?_⟩
      exact e hno p _ (same_new s1 (s1.free np)) upd_same


/-! ### the law -/
def spLaw (K : PySem.W.Frag) : Sp := fun vs H Q _ => ∃ (a : Addr) (ns : List Int), vs = [.ref a] ∧ SqL K H a (ns.map V.int) ∧ ns.length ≤ 63 ∧ ∀ H', Q (.bl true) H'
theorem ok_law {f C : Addr} {fd : FuncData} (D : Dn K mg "law" s_law p_law f fd) (b : Blt mg) (c_l_cell : Cal P w K mg base CX0 1 "_law_cell" p_l_cell (sp_cell K)) (c_l_draws : Cal P w K mg base CX0 1 "_law_draws" p_l_draws (sp_draws K)) (c_l_turn : Cal P w K mg base CX0 1 "_law_turn" p_l_turn sp_turn)
    (c_l_same : ∀ n, Cal P w K mg base CX0 n "_law_same" p_l_same (sp_same K n)) (c_l_asked : Cal P w K mg base CX0 5 "_law_asked" p_l_asked (sp_asked K)) (c_still : Cal P w K mg base CX0 1 "still" p_still sp_still) (c_behind : Cal P w K mg base (L2.CX P w) 4 "behind" p_behind (sp_behind K C)) :
    FnOk P w K mg base CX0 6 f fd p_law (spLaw K) := by
  refine D.F.ok sc_law (fun vs H Q E h => ?_) (fun cdv A outer s H vs Q E hr h => ?_)
  · obtain ⟨a, ns, rfl, _⟩ := h
    rfl
  · obtain ⟨a, ns, rfl, hS, hlen, q⟩ := h
    refine ⟨_, (pss_cons (ps_set (i := 0) sc_law.nd rfl (Or.inl rfl) (pe_slice sl_list (pv 0) po_none (po_some pe_int)))
      (pss_cons (ps_set (i := 1) sc_law.nd rfl (Or.inl rfl) (pe_c c_l_draws hr (by omega) (by rfl) pass0 (pa_cons (pe_c c_l_cell hr (by omega) (by rfl) pass0 (pa_cons (pv 0) (pa_cons pe_int pa_nil))) (pa_cons (pe_lst (pa_cons pe_int (pa_cons pe_int (pa_cons pe_int (pa_cons pe_int pa_nil))))) pa_nil))))
      (pss_cons (ps_set (i := 2) sc_law.nd rfl (Or.inl rfl) (pe_c c_l_draws hr (by omega) (by rfl) pass0 (pa_cons (pe_c c_l_cell hr (by omega) (by rfl) pass0 (pa_cons (pv 0) (pa_cons pe_int pa_nil))) (pa_cons (pe_lst (pa_cons pe_int (pa_cons pe_int (pa_cons pe_int (pa_cons pe_int (pa_cons pe_int pa_nil)))))) pa_nil))))
      (pss_cons (ps_set (i := 3) sc_law.nd rfl (Or.inl rfl) (pe_ix ix_list (pv 1) pe_int (fun _ _ => rfl)))
      (pss_cons (ps_set (i := 4) sc_law.nd rfl (Or.inl rfl) (pv 3))
      (pss_cons (ps_if (pt_cmpR op_eq (pe_ix ix_list (pv 1) pe_int (fun _ _ => rfl)) pe_int (nomark _)) (pss_one (ps_set (i := 4) sc_law.nd rfl (Or.inl rfl) (pe_ix ix_list (pv 2) pe_int (fun _ _ => rfl)))) pss_nil)
      (pss_cons (ps_set (i := 5) sc_law.nd rfl (Or.inl rfl) (pe_c c_l_turn hr (by omega) (by rfl) pass0 (pa_cons (pe_ix ix_list (pv 1) pe_int (fun _ _ => rfl)) (pa_cons (pv 3) pa_nil))))
      (pss_cons (ps_set (i := 6) sc_law.nd rfl (Or.inr rfl) (pe_c c_l_turn hr (by omega) (by rfl) pass0 (pa_cons (pe_ix ix_list (pv 2) pe_int (fun _ _ => rfl)) (pa_cons (pv 4) pa_nil))))
      (pss_cons (ps_if (PW.pt (pw_and (pt_cmpR op_eq (pe_ix ix_list (pv 1) pe_int (fun _ _ => rfl)) pe_int (nomark _)) (pw_and1 (pt_cmpR op_gt (pv 3) pe_int (nomark _))))) (pss_cons (ps_set (i := 7) sc_law.nd rfl (Or.inl rfl) (pe_callTy call_list_of (by rfl) b.ty_list (by decide +kernel) (pa_cons (pv 5) pa_nil)))
      (pss_cons (ps_asg (pe_op op_sub (pe_ix ix_list (pv 2) pe_int (fun _ _ => rfl)) (pe_op op_mod (pe_ix ix_list (pv 2) pe_int (fun _ _ => rfl)) pe_int)) (pg_sub (pv 7) (pe_op op_mod (pe_ix ix_list (pv 1) pe_int (fun _ _ => rfl)) (pv 3)) set_list))
      (pss_one (ps_if (pt_cmpR op_eq (pe_ix ix_list (pv 2) pe_int (fun _ _ => rfl)) pe_int (nomark _)) (pss_one (ps_set (i := 5) sc_law.nd rfl (Or.inl rfl) (pe_callTy call_tuple_of (by rfl) b.ty_tuple (by decide +kernel) (pa_cons (pv 7) pa_nil)))) (pss_one (ps_set (i := 6) sc_law.nd rfl (Or.inr rfl) (pe_callTy call_tuple_of (by rfl) b.ty_tuple (by decide +kernel) (pa_cons (pv 7) pa_nil)))))))) pss_nil)
      (pss_cons (ps_set (i := 8) sc_law.nd rfl (Or.inl rfl) (pe_cmpR op_eq (pe_callB call_len_seq (by rfl) b.len PySem.boot_len (pa_cons (pv 5) pa_nil)) (pe_callB call_len_seq (by rfl) b.len PySem.boot_len (pa_cons (pv 6) pa_nil)) (nomark _)))
      (pss_cons (ps_for PassesOwn.never rfl (pi_tup (pe_tup (pa_cons (pv 5) (pa_cons (pv 6) pa_nil)))) (pg_name (i := 9) sc_law.nd rfl (Or.inl rfl)) (pss_one (ps_if (pt_cmpR (op_neD hr.units) (pe_callB cr_sortedTup (by rfl) b.sorted (by decide +kernel) (pa_cons (pv 9) pa_nil)) (pe_listRg rfl (by rfl) b.ty_list (prg_1 (by rfl) b.range (pe_callB call_len_seq (by rfl) b.len PySem.boot_len (pa_cons (pv 9) pa_nil)))) (nomark _)) (pss_one (ps_set (i := 8) sc_law.nd rfl (Or.inl rfl) pe_bl)) pss_nil)))
      (pss_cons (ps_set (i := 10) sc_law.nd rfl (Or.inl rfl) (pe_tup (pa_cons pe_str (pa_cons pe_str (pa_cons pe_bl (pa_cons pe_bl pa_nil))))))
      (pss_cons (ps_if (pt_val (pv 8)) (pss_one (ps_set (i := 10) sc_law.nd rfl (Or.inl rfl) (pe_tup (pa_cons pe_str (pa_cons (pe_callTy call_tuple_of (by rfl) b.ty_tuple (by decide +kernel) (pa_cons (pe_lc (own := [("_law_one", 13)]) (g := gName 13) (by rfl) sc_law.nd (pi_tup (pv 5)) (blkOk_by (N := s_law_N) (sc := defScope s_law) (by decide +kernel)) (fun _ _ _ _ _ => (pg_name (i := 13) sc_law.nd rfl (Or.inl rfl))) (fun _ _ _ _ _ => pts_nil) (fun _ _ _ _ _ => (pe_ix (ix_tupK K) (pv 6) (pv 13) (fun _ _ => rfl)))) pa_nil)) pa_nil))))) pss_nil)
      (pss_cons (ps_if (pt_not (pt_val (pe_c (c_l_same 3) hr (by omega) (by rfl) pass0 (pa_cons (pe_c c_l_asked hr (by omega) (by rfl) pass0 (pa_cons (pv 5) (pa_cons (pv 6) pa_nil))) (pa_cons (pv 10) pa_nil))))) (pss_one (ps_ret pe_bl)) pss_nil)
      (pss_cons (ps_set (i := 11) sc_law.nd rfl (Or.inl rfl) (pe_c c_l_turn hr (by omega) (by rfl) pass0 (pa_cons (pe_ix ix_list (pv 1) pe_int (fun _ _ => rfl)) (pa_cons (pv 3) pa_nil))))
      (pss_cons (ps_set (i := 12) sc_law.nd rfl (Or.inl rfl) (pe_c c_still hr (by omega) (by rfl) pass0 (pa_cons (pv 3) pa_nil)))
      (pss_cons (ps_if (pt_not (pt_val (pe_c (c_l_same 3) hr (by omega) (by rfl) pass0 (pa_cons (pv 12) (pa_cons (pe_tupRg rfl (by rfl) b.ty_tuple (prg_1 (by rfl) b.range (pv 3))) pa_nil))))) (pss_one (ps_ret pe_bl)) pss_nil)
      (pss_one (ps_ret (pe_and (pe_c (c_l_same 3) hr (by omega) (by rfl) pass0 (pa_cons (pe_c c_behind hr (by omega) (by rfl) passL (pa_cons (pv 12) (pa_cons (pv 11) pa_nil))) (pa_cons (pv 11) pa_nil))) (pe_one (pe_c (c_l_same 3) hr (by omega) (by rfl) pass0 (pa_cons (pe_c c_behind hr (by omega) (by rfl) passL (pa_cons (pv 11) (pa_cons (pv 12) pa_nil))) (pa_cons (pv 11) pa_nil)))))))))))))))))))))))), ?_⟩
    -- script = script[:63]
    refine ⟨_, rfl, 63, rfl, a, _, rfl, hS, fun sc nsc => ?_⟩
    rw [cut63]
    generalize hms : ns.take 63 = ms
    have hsc : (upd H sc (.lst (ms.map V.int))) sc = some (.lst (ms.map V.int)) := upd_same
    generalize upd H sc (.lst (ms.map V.int)) = H0 at hsc
    -- drawn
    refine ⟨_, rfl, sc, ms, 0, rfl, SqL.of hsc, ?_⟩
    refine ⟨by decide, fun pp npp => ?_⟩
    refine ⟨_, pp, [9, 40320, 5, 8], rfl, SqL.of upd_same, by decide, by decide, fun d H1 nd s1 hd => ?_⟩
    obtain ⟨ds0, dsg0, dsl0, dsu0⟩ := draws_get (c := cell ms 0) (ps := [9, 40320, 5, 8]) (i := 0) (p := 9) rfl (by decide)
    obtain ⟨ds1, dsg1, dsl1, dsu1⟩ := draws_get (c := cell ms 0) (ps := [9, 40320, 5, 8]) (i := 1) (p := 40320) rfl (by decide)
    obtain ⟨ds2, dsg2, dsl2, dsu2⟩ := draws_get (c := cell ms 0) (ps := [9, 40320, 5, 8]) (i := 2) (p := 5) rfl (by decide)
    obtain ⟨ds3, dsg3, dsl3, dsu3⟩ := draws_get (c := cell ms 0) (ps := [9, 40320, 5, 8]) (i := 3) (p := 8) rfl (by decide)
    generalize draws (cell ms 0) [9, 40320, 5, 8] = ds at *
    have dsa0 : atI (ds.map V.int) 0 = some (.int ds0) := at_int (by decide) dsg0
    have dsa1 : atI (ds.map V.int) 1 = some (.int ds1) := at_int (by decide) dsg1
    have dsa2 : atI (ds.map V.int) 2 = some (.int ds2) := at_int (by decide) dsg2
    have dsa3 : atI (ds.map V.int) 3 = some (.int ds3) := at_int (by decide) dsg3
    have hsc1 : H1 sc = some (.lst (ms.map V.int)) := s1 _ _ (upd_new npp hsc)
    -- again
    refine ⟨_, rfl, sc, ms, 1, rfl, SqL.of hsc1, ?_⟩
    refine ⟨by decide, fun pp npp => ?_⟩
    refine ⟨_, pp, [9, 40320, 9, 8, 2], rfl, SqL.of upd_same, by decide, by decide, fun e H2 ne s2 he => ?_⟩
    obtain ⟨es0, esg0, esl0, esu0⟩ := draws_get (c := cell ms 1) (ps := [9, 40320, 9, 8, 2]) (i := 0) (p := 9) rfl (by decide)
    obtain ⟨es1, esg1, esl1, esu1⟩ := draws_get (c := cell ms 1) (ps := [9, 40320, 9, 8, 2]) (i := 1) (p := 40320) rfl (by decide)
    obtain ⟨es2, esg2, esl2, esu2⟩ := draws_get (c := cell ms 1) (ps := [9, 40320, 9, 8, 2]) (i := 2) (p := 9) rfl (by decide)
    obtain ⟨es3, esg3, esl3, esu3⟩ := draws_get (c := cell ms 1) (ps := [9, 40320, 9, 8, 2]) (i := 3) (p := 8) rfl (by decide)
    obtain ⟨es4, esg4, esl4, esu4⟩ := draws_get (c := cell ms 1) (ps := [9, 40320, 9, 8, 2]) (i := 4) (p := 2) rfl (by decide)
    generalize draws (cell ms 1) [9, 40320, 9, 8, 2] = es at *
    have esa0 : atI (es.map V.int) 0 = some (.int es0) := at_int (by decide) esg0
    have esa1 : atI (es.map V.int) 1 = some (.int es1) := at_int (by decide) esg1
    have esa2 : atI (es.map V.int) 2 = some (.int es2) := at_int (by decide) esg2
    have esa3 : atI (es.map V.int) 3 = some (.int es3) := at_int (by decide) esg3
    have esa4 : atI (es.map V.int) 4 = some (.int es4) := at_int (by decide) esg4
    have hd2 : H2 d = some (.lst (ds.map V.int)) := s2 _ _ (upd_new npp hd)
    -- size, other
    refine ⟨_, rfl, d, _, _, _, rfl, rfl, SqL.of hd2, dsa0, ?_⟩
    obtain ⟨n, rfl, hn⟩ : ∃ n : Nat, ds0 = (n : Int) ∧ n ≤ 8 := ⟨ds0.toNat, by omega, by omega⟩
    refine ⟨_, rfl, ?_⟩
    walk_at "nx"
    refine seq_cut (fun σ' H' => ∃ m : Nat, m ≤ 8 ∧ H' = H2 ∧ σ' = [some (.ref sc), some (.ref d), some (.ref e), some (.int (n : Int)), some (.int (m : Int)), none, none, none, none, none, none, none, none, none]) (fun N hN => ?_) ?_
    · refine ⟨_, rfl, d, _, _, _, rfl, rfl, SqL.of hd2, dsa2, rfl, _, rfl, ite2 (fun _ => ?_) (fun _ => hN _ _ ⟨n, hn, rfl, rfl⟩)⟩
      refine ⟨_, rfl, e, _, _, _, rfl, rfl, SqL.of he, esa0, hN _ _ ⟨es0.toNat, by omega, rfl, ?_⟩⟩
      rw [show ((es0.toNat : Nat) : Int) = es0 by omega]
      rfl
    rintro σ3 H3 ⟨m, hm, rfl, rfl⟩
    -- first, then
    refine ⟨_, rfl, d, _, _, _, rfl, rfl, SqL.of hd2, dsa1, _, rfl, ds1, n, rfl, by omega, fun fi H4 nfi s4 hfi => ?_⟩
    have he4 : H4 e = some (.lst (es.map V.int)) := s4 _ _ he
    have hd4 : H4 d = some (.lst (ds.map V.int)) := s4 _ _ hd2
    refine ⟨_, rfl, e, _, _, _, rfl, rfl, SqL.of he4, esa1, _, rfl, es1, m, rfl, by omega, fun th H5 nth s5 hth => ?_⟩
    have he5 : H5 e = some (.lst (es.map V.int)) := s5 _ _ he4
    have hd5 : H5 d = some (.lst (ds.map V.int)) := s5 _ _ hd4
    have hfi5 : H5 fi = some (.tup ((turnOf ds1 n).map V.int)) := s5 _ _ hfi
    -- spoilt
    walk_at "nx"
    refine seq_cut (fun σ' H' => ∃ (fi th : Addr) (xs ys : List Int) (y7 : Option V), xs.length ≤ 8 ∧ ys.length ≤ 8 ∧ H' fi = some (.tup (xs.map V.int)) ∧ H' th = some (.tup (ys.map V.int)) ∧ H' d = some (.lst (ds.map V.int)) ∧
        σ' = [some (.ref sc), some (.ref d), some (.ref e), some (.int (n : Int)), some (.int (m : Int)), some (.ref fi), some (.ref th), y7, none, none, none, none, none, none]) (fun N hN => ?_) ?_
    · have no : N [some (.ref sc), some (.ref d), some (.ref e), some (.int (n : Int)), some (.int (m : Int)), some (.ref fi), some (.ref th), none, none, none, none, none, none, none] H5 :=
        hN _ _ ⟨fi, th, _, _, none, by rw [turnOf_len]; exact hn, by rw [turnOf_len]; exact hm, hfi5, hth, hd5, rfl⟩
      refine ⟨_, rfl, d, _, _, _, rfl, rfl, SqL.of hd5, dsa2, rfl, _, rfl, ite2 (fun _ => ?_) (fun _ => iteF no)⟩
      refine ⟨_, rfl, _, _, rfl, rfl, _, rfl, ite2 (fun e0 => ?_) (fun _ => no)⟩
      have hn0 : (0 : Int) < (n : Int) := of_decide_eq_true e0
      refine ⟨_, rfl, fi, _, rfl, .inr (SqT.of hfi5), fun l nl => ?_⟩
      have hl : (upd H5 l (.lst ((turnOf ds1 n).map V.int))) l = some (.lst ((turnOf ds1 n).map V.int)) := upd_same
      have he6 : (upd H5 l (.lst ((turnOf ds1 n).map V.int))) e = some (.lst (es.map V.int)) := upd_new nl he5
      have hd6 : (upd H5 l (.lst ((turnOf ds1 n).map V.int))) d = some (.lst (ds.map V.int)) := upd_new nl hd5
      have hf6 : (upd H5 l (.lst ((turnOf ds1 n).map V.int))) fi = some (.tup ((turnOf ds1 n).map V.int)) := upd_new nl hfi5
      have ht6 : (upd H5 l (.lst ((turnOf ds1 n).map V.int))) th = some (.tup ((turnOf es1 m).map V.int)) := upd_new nl hth
      have nel : e ≠ l := ne_of_none he5 nl
      have ndl : d ≠ l := ne_of_none hd5 nl
      have nfl : fi ≠ l := ne_of_none hfi5 nl
      have ntl : th ≠ l := ne_of_none hth nl
      generalize upd H5 l (.lst ((turnOf ds1 n).map V.int)) = H6 at *
      have b0 : 0 ≤ ds3 % (n : Int) := Int.emod_nonneg _ (by omega)
      have b1 : ds3 % (n : Int) < (n : Int) := Int.emod_lt_of_pos _ (by omega)
      refine ⟨_, rfl, e, _, _, _, rfl, rfl, SqL.of he6, esa2, _, rfl, e, _, _, _, rfl, rfl, SqL.of he6, esa3, _, _, rfl, rfl, (by show (0 : Int) < 3; decide), _, _, rfl, rfl, _, rfl, _, rfl, d, _, _, _, rfl, rfl, SqL.of hd6, dsa3, _, rfl, _, _, rfl, rfl, ?_, l, _, _, (ds3 % (n : Int)).toNat, rfl, rfl, hl, ?_, ?_⟩
      · show (0 : Int) < (n : Int)
        omega
      · rw [List.length_map, turnOf_len]
        exact ixN_in b0 b1
      rw [show ((turnOf ds1 n).map V.int).set (ds3 % (n : Int)).toNat ((fun i j => V.int (i - j)) es2 (es3 % 3)) = ((turnOf ds1 n).set (ds3 % (n : Int)).toNat (es2 - es3 % 3)).map V.int from set_ints _ _ _]
      generalize hxs : (turnOf ds1 n).set (ds3 % (n : Int)).toNat (es2 - es3 % 3) = xs
      have hxl : xs.length ≤ 8 := by rw [← hxs, List.length_set, turnOf_len]; exact hn
      refine ⟨_, rfl, e, _, _, _, rfl, rfl, SqL.of (upd_old nel he6), esa4, rfl, _, rfl, ite2 (fun _ => ?_) (fun _ => ?_)⟩
      · refine ⟨_, rfl, l, _, rfl, .inl ⟨SqL.of upd_same, fun t nt => ?_⟩⟩
        exact hN _ _ ⟨t, th, xs, _, some (.ref l), hxl, by rw [turnOf_len]; exact hm, upd_same, upd_new nt (upd_old ntl ht6), upd_new nt (upd_old ndl hd6), rfl⟩
      · refine ⟨_, rfl, l, _, rfl, .inl ⟨SqL.of upd_same, fun t nt => ?_⟩⟩
        exact hN _ _ ⟨fi, t, _, xs, some (.ref l), by rw [turnOf_len]; exact hn, hxl, upd_new nt (upd_old nfl hf6), upd_same, upd_new nt (upd_old ndl hd6), rfl⟩
    clear hfi5 hd5 he5 hth s5 nth hfi hd4 he4 s4 nfi
    rintro σ7 H7 ⟨fi, th, xs, ys, y7, hxl, hyl, hfi, hth, hd7, rfl⟩
    -- good
    refine ⟨_, rfl, fi, _, rfl, .inr (SqT.of hfi), _, rfl, th, _, rfl, .inr (SqT.of hth), rfl, ?_⟩
    rw [show decide (V.int (((xs.map V.int).length : Nat) : Int) = V.int (((ys.map V.int).length : Nat) : Int)) = decide (xs.length = ys.length) by
      rw [List.length_map, List.length_map]
      by_cases hh : xs.length = ys.length
      · rw [decide_eq_true hh, hh]
        exact decide_eq_true rfl
      · rw [decide_eq_false hh]
        exact decide_eq_false fun z => hh (by have := V.int.inj z; omega)]
    refine ⟨_, rfl, _, rfl, (by show 2 ≤ sizeLine; decide), fun tp ntp => ?_⟩
    have sT : Same H7 (upd H7 tp (.tup [.ref fi, .ref th])) := same_new (Same.refl _) ntp
    refine ⟨tp, rfl, ⟨_, SqT.of upd_same⟩, for_tup (K := K) (a := tp) (xs := [.ref fi, .ref th]) (fun i σ' H' => ∃ y9 : Option V, Same (upd H7 tp (.tup [.ref fi, .ref th])) H' ∧
        σ' = [some (.ref sc), some (.ref d), some (.ref e), some (.int (n : Int)), some (.int (m : Int)), some (.ref fi), some (.ref th), y7, some (.bl (decide (xs.length = ys.length) && (decide (i < 1) || isTurn xs) && (decide (i < 2) || isTurn ys))), y9, none, none, none, none])
      ⟨none, Same.refl _, by simp⟩ (fun i σ' H' _ ⟨_, s', _⟩ => SqT.of (s' _ _ upd_same)) ?_ ?_⟩
    · -- one row
      have key : ∀ (r : Addr) (ks : List Int) (g g' : Bool) (H8 : Hp) (N bk : L2.St → Hp → Prop) (rt : VK), ks.length ≤ 8 → H8 r = some (.tup (ks.map V.int)) → g' = (g && isTurn ks) →
          (∀ H9, Same H8 H9 → N [some (.ref sc), some (.ref d), some (.ref e), some (.int (n : Int)), some (.int (m : Int)), some (.ref fi), some (.ref th), y7, some (.bl g'), some (.ref r), none, none, none, none] H9) →
          (tIfS (tTest (tOp (rNeD K) (tCB (rSortedTup K) (tCons (tVar 9) tNil)) (tLstRg (tRg1 (tCB (fun xs H Q => ∃ p ys, xs = [.ref p] ∧ (SqL K H p ys ∨ SqT K H p ys) ∧ Q (.int ys.length) H) (tCons (tVar 9) tNil)))))) (tAsg (tC (.bl false)) (gName 8)) tNext)
            { nx := N, rt := rt, bk := bk, ct := N } [some (.ref sc), some (.ref d), some (.ref e), some (.int (n : Int)), some (.int (m : Int)), some (.ref fi), some (.ref th), y7, some (.bl g), some (.ref r), none, none, none, none] H8 := by
        intro r ks g g' H8 N bk rt hk hr8 hg hN
        refine ⟨_, rfl, r, ks, rfl, SqT.of hr8, by omega, fun ks' p hp hs np => ?_⟩
        have s9 : Same H8 (upd H8 p (.lst (ks'.map V.int))) := same_new (Same.refl _) np
        refine ⟨_, rfl, r, _, rfl, .inr (SqT.of (s9 _ _ hr8)), _, rfl, ?_, fun l nl => ?_⟩
        · show RgOk 0 ((ks.map V.int).length : Int)
          rw [List.length_map]
          exact rg_ok (by omega)
        · rw [show rgV 0 ((ks.map V.int).length : Int) = (rgI ks.length).map V.int by rw [List.length_map, rgV_int]]
          refine ⟨_, _, dp_listI (SqL.of (by walk_at "hp")), dp_listI (SqL.of upd_same), shaped_listI _, shaped_listI _, _, rfl, ?_⟩
          rw [eqv_listI, sorted_full hp hs]
          have s10 := same_new (o := .lst ((rgI ks.length).map V.int)) s9 (s9.free nl)
          cases ht : isTurn ks with
          | true =>
            rw [ht, Bool.and_true] at hg
            subst hg
            exact iteF (hN _ s10)
          | false =>
            rw [ht, Bool.and_false] at hg
            subst hg
            exact iteT (hN _ s10)
      rintro i x σ8 H8 hi ⟨y9, s8, rfl⟩
      match i, hi with
      | 0, hi =>
        have ex : x = .ref fi := (Option.some.inj hi).symm
        subst ex
        refine key fi xs _ _ H8 _ _ _ hxl (s8 _ _ (sT _ _ hfi)) ?_ (fun H9 s9 => ⟨_, s8.trans s9, rfl⟩)
        cases isTurn xs <;> cases isTurn ys <;> cases decide (xs.length = ys.length) <;> rfl
      | 1, hi =>
        have ex : x = .ref th := (Option.some.inj hi).symm
        subst ex
        refine key th ys _ _ H8 _ _ _ hyl (s8 _ _ (sT _ _ hth)) ?_ (fun H9 s9 => ⟨_, s8.trans s9, rfl⟩)
        cases isTurn xs <;> cases isTurn ys <;> cases decide (xs.length = ys.length) <;> rfl
      | i + 2, hi => simp at hi
    rintro σ9 H9 ⟨y9, s9, rfl⟩
    have sA : Same H7 H9 := sT.trans s9
    have hfi9 := sA _ _ hfi
    have hth9 := sA _ _ hth
    have hd9 := sA _ _ hd7
    generalize hgood : (decide (xs.length = ys.length) && (decide ([V.ref fi, V.ref th].length < 1) || isTurn xs) && (decide ([V.ref fi, V.ref th].length < 2) || isTurn ys)) = good
    have good_iff : good = true ↔ (Turn xs ∧ Turn ys ∧ xs.length = ys.length) := by
      rw [← hgood, ← isTurn_iff, ← isTurn_iff]
      show (decide (xs.length = ys.length) && (false || isTurn xs) && (false || isTurn ys)) = true ↔ _
      rw [Bool.false_or, Bool.false_or, Bool.and_eq_true, Bool.and_eq_true, decide_eq_true_eq]
      constructor
      · rintro ⟨⟨h1, h2⟩, h3⟩
        exact ⟨h2, h3, h1⟩
      · rintro ⟨h1, h2, h3⟩
        exact ⟨⟨h3, h1⟩, h2⟩
    clear hgood
    -- due
    refine ⟨(by show 4 ≤ sizeLine; decide), fun du ndu => ?_⟩
    have hfi10 := upd_new (o := .tup [.str "refused", .str "no turning", .bl true, .bl true]) ndu hfi9
    have hth10 := upd_new (o := .tup [.str "refused", .str "no turning", .bl true, .bl true]) ndu hth9
    have hd10 := upd_new (o := .tup [.str "refused", .str "no turning", .bl true, .bl true]) ndu hd9
    have hdu10 : (upd H9 du (.tup [.str "refused", .str "no turning", .bl true, .bl true])) du = some (.tup [.str "refused", .str "no turning", .bl true, .bl true]) := upd_same
    generalize upd H9 du (.tup [.str "refused", .str "no turning", .bl true, .bl true]) = H10 at *
    walk_at "nx"
    refine seq_cut (fun σ' H' => ∃ du : Addr, H' fi = some (.tup (xs.map V.int)) ∧ H' th = some (.tup (ys.map V.int)) ∧ H' d = some (.lst (ds.map V.int)) ∧
        (good = false → H' du = some (.tup [.str "refused", .str "no turning", .bl true, .bl true])) ∧ (good = true → ∃ t, H' t = some (.tup ((after xs ys).map V.int)) ∧ H' du = some (.tup [.str "told", .ref t])) ∧
        σ' = [some (.ref sc), some (.ref d), some (.ref e), some (.int (n : Int)), some (.int (m : Int)), some (.ref fi), some (.ref th), y7, some (.bl good), y9, some (.ref du), none, none, none]) (fun N hN => ?_) ?_
    · refine ⟨_, rfl, _, rfl, ?_⟩
      cases hg : good with
      | false => exact iteF (hN _ _ ⟨du, hfi10, hth10, hd10, fun _ => hdu10, fun z => (by rw [hg] at z; cases z), by rw [hg]; rfl⟩)
      | true =>
        obtain ⟨tx, ty, hxy⟩ := good_iff.mp hg
        refine iteT ⟨_, rfl, fi, rfl, ⟨_, SqT.of hfi10⟩, fun L nL => lc_tup (K := K) (a := fi) (xs := xs.map V.int) (fun i Hx => Same H10 Hx ∧ Hx L = some (.lst ((after (xs.take i) ys).map V.int))) ⟨same_new (Same.refl _) nL, upd_same⟩ (fun i Hx _ hI => SqT.of (hI.1 _ _ hfi10)) ?_ ?_⟩
        · rintro i x Hx hi ⟨sx, eL⟩
          obtain ⟨z, hz, rfl⟩ := int_at hi
          have hz2 := tx.lo z (List.mem_of_getElem? hz)
          refine ⟨rfl, ⟨_, rfl, _, rfl, th, _, _, .int (ys.getD z.toNat 0), rfl, rfl, SqT.of (sx _ _ hth10), at_int hz2.1 (getD_some (by omega)), _, eL, ?_, same_new sx nL, ?_⟩⟩
          · refine sz_lt ?_
            rw [List.length_map, after_len, List.length_take]
            omega
          · rw [upd_same, List.take_add_one, hz, after_snoc]
            show some (HO.lst ((after (xs.take i) ys).map V.int ++ [V.int (ys.getD z.toNat 0)])) = _
            rw [snoc_ints]
            rfl
        · rintro Hx ⟨sx, eL⟩
          rw [List.length_map, List.take_length] at eL
          refine ⟨L, _, rfl, .inl ⟨SqL.of eL, fun t nt => ⟨(by show 2 ≤ sizeLine; decide), fun du2 ndu2 => ?_⟩⟩⟩
          have s11 : Same H10 (upd Hx t (.tup ((after xs ys).map V.int))) := same_new sx (sx.free nt)
          have s12 := same_new (o := .tup [.str "told", .ref t]) s11 (s11.free ndu2)
          exact hN _ _ ⟨du2, s12 _ _ hfi10, s12 _ _ hth10, s12 _ _ hd10, fun z => (by rw [hg] at z; cases z), fun _ => ⟨t, upd_new ndu2 upd_same, upd_same⟩, by rw [hg]; rfl⟩
    rintro σ13 H13 ⟨du, hfi13, hth13, hd13, hbad, hgood, rfl⟩
    -- same(asked(first, then), due)
    walk_at "nx"
    refine seq_cut (fun σ' H' => H' d = some (.lst (ds.map V.int)) ∧ σ' = [some (.ref sc), some (.ref d), some (.ref e), some (.int (n : Int)), some (.int (m : Int)), some (.ref fi), some (.ref th), y7, some (.bl good), y9, some (.ref du), none, none, none]) (fun N hN => ?_) ?_
    · refine ⟨_, rfl, _, rfl, fi, th, xs, ys, rfl, SqT.of hfi13, SqT.of hth13, by omega, by omega, fun t1 t2 t3 p t H14 s14 ht hp => ?_, fun hno p H14 s14 hp => ?_⟩
      · obtain ⟨t', ht', hdu⟩ := hgood (good_iff.mpr ⟨t1, t2, t3⟩)
        refine ⟨_, rfl, _, _, rfl, ?_, fun H15 s15 => ⟨true, rfl, ifno (hN _ _ ⟨s15 _ _ (s14 _ _ hd13), rfl⟩)⟩⟩
        exact .tup (SqT.of hp) (SqT.of (s14 _ _ hdu)) rfl (by show 2 ≤ 1000; decide) (alike_more (.str _) (alike_1 (alike_tupI (SqT.of ht) (SqT.of (s14 _ _ ht')) (by rw [after_len]; omega))))
      · have hg : good = false := by
          cases h : good with
          | false => rfl
          | true => exact absurd (good_iff.mp h) hno
        refine ⟨_, rfl, _, _, rfl, ?_, fun H15 s15 => ⟨true, rfl, ifno (hN _ _ ⟨s15 _ _ (s14 _ _ hd13), rfl⟩)⟩⟩
        exact .tup (SqT.of hp) (SqT.of (s14 _ _ (hbad hg))) rfl (by decide) (alike_more (.str _) (alike_more (.str _) (alike_more (.bl _) (alike_1 (.bl _)))))
    rintro σ16 H16 ⟨hd16, rfl⟩
    -- plain, alone
    refine ⟨_, rfl, d, _, _, _, rfl, rfl, SqL.of hd16, dsa1, _, rfl, ds1, n, rfl, by omega, fun pl H17 npl s17 hpl => ?_⟩
    refine ⟨_, rfl, n, rfl, by omega, fun al H18 nal s18 hal => ?_⟩
    have hpl18 := s18 _ _ hpl
    -- same(alone, tuple(range(size)))
    refine ⟨_, rfl, _, rfl, _, rfl, rg_ok (by omega), fun r nr => ?_⟩
    rw [rgV_int]
    have s19 : Same H18 (upd H18 r (.tup ((rgI n).map V.int))) := same_new (Same.refl _) nr
    refine ⟨_, _, rfl, alike_tupI (SqT.of (s19 _ _ hal)) (SqT.of upd_same) (by rw [rgI_len]; omega), fun H19 s20 => ⟨true, rfl, ifno ?_⟩⟩
    have hal19 := s20 _ _ (s19 _ _ hal)
    have hpl19 := s20 _ _ (s19 _ _ hpl18)
    have tA : Turn (rgI n) := turn_of_perm (List.Perm.refl _)
    have tP : Turn (turnOf ds1 n) := turnOf_turn _ _
    have lP : (turnOf ds1 n).length = n := turnOf_len _ _
    have lA : (rgI n).length = n := rgI_len n
    refine ⟨_, rfl, _, rfl, al, pl, rgI n, turnOf ds1 n, rfl, SqT.of hal19, SqT.of hpl19, by omega, by omega, fun _ _ _ t H20 nt s21 ht => ?_, fun hno => absurd ⟨tA, tP, by omega⟩ hno⟩
    rw [show after (rgI n) (turnOf ds1 n) = turnOf ds1 n by
      have := after_still_l (turnOf ds1 n)
      rw [lP] at this
      exact this] at ht
    refine ⟨_, rfl, _, _, rfl, alike_tupI (SqT.of ht) (SqT.of (s21 _ _ hpl19)) (by omega), fun H21 s22 => ⟨true, rfl, iteT ?_⟩⟩
    have hal21 := s22 _ _ (s21 _ _ hal19)
    have hpl21 := s22 _ _ (s21 _ _ hpl19)
    refine ⟨_, rfl, _, rfl, pl, al, turnOf ds1 n, rgI n, rfl, SqT.of hpl21, SqT.of hal21, by omega, by omega, fun _ _ _ t H22 nt s23 ht => ?_, fun hno => absurd ⟨tP, tA, by omega⟩ hno⟩
    rw [show after (turnOf ds1 n) (rgI n) = turnOf ds1 n by
      have := after_still_r tP
      rw [lP] at this
      exact this] at ht
    exact ⟨_, rfl, _, _, rfl, alike_tupI (SqT.of ht) (SqT.of (s23 _ _ hpl21)) (by omega), fun H23 s24 => q _⟩

end

/-! ### what the top has left -/
theorem all_mk {l : PySem.W.OpenLaw} {w : World} {K : PySem.W.Frag} {h : Heap} {mg : Str → Option Value} {fa : Addr} {C0 C_BadTurn : Addr} (X : K.In h) (G : h.Ns mainGlobals mg)
    (e0 : BaseIn K s_KinError_init C0)
    (e_BadTurn : ErrIn K "BadTurn" "BadTurn.__init__" s_BadTurn_init C_BadTurn)
    (s_BadTurn : PySem.W.subIn K (.ref C_BadTurn) (.ref C0) = some true)
    (i2 : PySem.W.subIn K (.ref C_BadTurn) (.type "ValueError") = some true)
    (d_l_cell : DefIn K "_law_cell" s_l_cell)
    (d_l_draws : DefIn K "_law_draws" s_l_draws)
    (d_l_turn : DefIn K "_law_turn" s_l_turn)
    (d_is_turn : DefIn K "is_turn" s_is_turn)
    (d_l_same : DefIn K "_law_same" s_l_same)
    (d_still : DefIn K "still" s_still)
    (d_led : DefIn K "led" s_led)
    (d_behind : DefIn K "behind" s_behind)
    (d_l_asked : DefIn K "_law_asked" s_l_asked)
    (d_law : DefIn K "law" s_law)
    (z0 : PySem.W.nsIn K mainGlobals "len" = some none) (z1 : PySem.W.nsIn K mainGlobals "range" = some none) (z2 : PySem.W.nsIn K mainGlobals "list" = some none) (z3 : PySem.W.nsIn K mainGlobals "tuple" = some none) (z4 : PySem.W.nsIn K mainGlobals "int" = some none) (z5 : PySem.W.nsIn K mainGlobals "bool" = some none) (z6 : PySem.W.nsIn K mainGlobals "str" = some none) (z7 : PySem.W.nsIn K mainGlobals "dict" = some none) (z8 : PySem.W.nsIn K mainGlobals "ValueError" = some none) (z9 : PySem.W.nsIn K mainGlobals "sorted" = some none) (z10 : PySem.W.nsIn K mainGlobals "isinstance" = some none) (z11 : PySem.W.nsIn K mainGlobals "abs" = some none) (z12 : PySem.W.nsIn K mainGlobals "all" = some none) (z13 : PySem.W.nsIn K mainGlobals "any" = some none) (z14 : PySem.W.nsIn K mainGlobals "sum" = some none) (z15 : PySem.W.nsIn K mainGlobals "min" = some none) (z16 : PySem.W.nsIn K mainGlobals "max" = some none) (z17 : PySem.W.nsIn K mainGlobals "enumerate" = some none) : mg "law" = some (.ref fa) →
    ∃ fd : FuncData, (∀ (s : Shared) (v : Value), BindsTo s fd ⟨[v], []⟩ [("_law_script", v)]) ∧ ∀ base : Heap, K.In base → base.Ns mainGlobals mg → FnOk l.prog w K mg base CX0 6 fa fd p_law (spLaw K) := by
  intro hfa
  have b : Blt mg := blt_of X G z0 z1 z2 z3 z4 z5 z6 z7 z8 z9 z10 z11 z12 z13 z14 z15 z16 z17
  obtain ⟨f_l_cell, fd_l_cell, D_l_cell⟩ := dn_of X G (ps := p_l_cell) d_l_cell (fun _ _ _ _ _ _ us hl => match us, hl with | [_, _], _ => rfl)
  obtain ⟨f_l_draws, fd_l_draws, D_l_draws⟩ := dn_of X G (ps := p_l_draws) d_l_draws (fun _ _ _ _ _ _ us hl => match us, hl with | [_, _], _ => rfl)
  obtain ⟨f_l_turn, fd_l_turn, D_l_turn⟩ := dn_of X G (ps := p_l_turn) d_l_turn (fun _ _ _ _ _ _ us hl => match us, hl with | [_, _], _ => rfl)
  obtain ⟨f_is_turn, fd_is_turn, D_is_turn⟩ := dn_of X G (ps := p_is_turn) d_is_turn (fun _ _ _ _ _ _ us hl => match us, hl with | [_], _ => rfl)
  obtain ⟨f_l_same, fd_l_same, D_l_same⟩ := dn_of X G (ps := p_l_same) d_l_same (fun _ _ _ _ _ _ us hl => match us, hl with | [_, _], _ => rfl)
  obtain ⟨f_still, fd_still, D_still⟩ := dn_of X G (ps := p_still) d_still (fun _ _ _ _ _ _ us hl => match us, hl with | [_], _ => rfl)
  obtain ⟨f_led, fd_led, D_led⟩ := dn_of X G (ps := p_led) d_led (fun _ _ _ _ _ _ us hl => match us, hl with | [_, _], _ => rfl)
  obtain ⟨f_behind, fd_behind, D_behind⟩ := dn_of X G (ps := p_behind) d_behind (fun _ _ _ _ _ _ us hl => match us, hl with | [_, _], _ => rfl)
  obtain ⟨f_l_asked, fd_l_asked, D_l_asked⟩ := dn_of X G (ps := p_l_asked) d_l_asked (fun _ _ _ _ _ _ us hl => match us, hl with | [_, _], _ => rfl)
  obtain ⟨f_law, fd_law, D_law⟩ := dn_of X G (ps := p_law) d_law (fun _ _ _ _ _ _ us hl => match us, hl with | [_], _ => rfl)
  have e := hfa.symm.trans D_law.g
  cases e
  refine ⟨fd_law, fun s v => ?_, fun base _ _ => ?_⟩
  · obtain ⟨_, _, _, _, _, _, _, _, _, rfl, _, _⟩ := D_law.F.ex
    exact .of_eq rfl
  · have B0 : KinBase l.prog w K mg base C0 := kinBase_of X G e0
    have g_KinError : mg "KinError" = some (.ref C0) := by obtain ⟨_, _, _, g, _⟩ := B0; exact g
    have r_BadTurn := rsb_BadTurn (P := l.prog) (w := w) (base := base) X G B0 e_BadTurn
    have g_BadTurn : mg "BadTurn" = some (.ref C_BadTurn) := r_BadTurn.1
    have u_BadTurn : Under K C_BadTurn C0 := under_of e0 s_BadTurn
    have k_BadTurn : KinC K C_BadTurn := r_BadTurn.2.1
    have c_l_cell := ok_l_cell (P := l.prog) (w := w) (base := base) D_l_cell b 
    have c_l_draws := ok_l_draws (P := l.prog) (w := w) (base := base) D_l_draws b 
    have c_l_turn := ok_l_turn (P := l.prog) (w := w) (base := base) D_l_turn b 
    have c_is_turn := ok_is_turn (P := l.prog) (w := w) (base := base) D_is_turn b 
    have c_l_same := ok_l_same (P := l.prog) (w := w) (base := base) D_l_same b 
    have c_still := ok_still (P := l.prog) (w := w) (base := base) D_still b 
    have c_led := ok_led (P := l.prog) (w := w) (base := base) D_led b 
    have c_behind := ok_behind (P := l.prog) (w := w) (base := base) D_behind b r_BadTurn c_is_turn c_led
    have c_l_asked := ok_l_asked (P := l.prog) (w := w) (base := base) D_l_asked b g_KinError g_BadTurn k_BadTurn u_BadTurn (kit_self K C_BadTurn) (kit_ve i2) c_behind
    exact ok_law D_law b c_l_cell c_l_draws c_l_turn c_l_same c_l_asked c_still c_behind

end Kin

open PySem PySem.W PyProof.Rows
set_option maxRecDepth 100000 in
set_option maxHeartbeats 0 in
theorem PySem.Challenge.cw_kinhearth_k02_one_behind_another_holds : PySem.Challenge.rw_kinhearth_k02_one_behind_another.Holds := by
  w_on; o_law; k_head; (case hw => w_witness2)
  k_fill
  refine L2.walk_of (l := PySem.Challenge.rw_kinhearth_k02_one_behind_another) (n := 63) (k := 6) (x := "_law_script") (CX := fun _ => L2.CX0) (sp := fun w => Kin.spLaw _) rfl (by decide) rfl ⟨rfl, by decide, by decide⟩ (fun w h Y => PySem.W.kIn_of Y) ?F (fun _ _ a ns hl _ hS => ⟨a, ns, rfl, hS, hl, fun _ => rfl⟩) (fun _ _ _ _ _ h => h)
  case F =>
    intro w mg fa h KX G
    refine' Kin.all_mk KX G ?e0 ?e_BadTurn ?s_BadTurn ?i2 ?d_l_cell ?d_l_draws ?d_l_turn ?d_is_turn ?d_l_same ?d_still ?d_led ?d_behind ?d_l_asked ?d_law ?z0 ?z1 ?z2 ?z3 ?z4 ?z5 ?z6 ?z7 ?z8 ?z9 ?z10 ?z11 ?z12 ?z13 ?z14 ?z15 ?z16 ?z17
    (case e0 => (refine' Kin.baseIn_mk ?b_a ?b_s1 ?b_s2 ?b_s3 ?b_r ?b_g ?b_v ?b_l ?b_c ?b_k; (case b_a => k_is); (case b_s1 => k_is); (case b_s2 => k_is); (case b_s3 => k_is); (case b_r => k_is); (case b_g => k_is); (case b_v => k_is); (case b_l => k_is); (case b_c => k_is); (case b_k => k_is)))
    (case e_BadTurn => (refine' Kin.errIn_mk ?r_a ?r_xl ?r_rv ?r_sa ?r_ga ?r_gg ?r_ex ?r_ty ?r_kc ?r_hd ?r_cl ?r_gt ?r_tk ?r_mr ?r_nw ?r_iC ?r_tI ?r_l ?r_c ?r_k; (case r_a => k_is); (case r_xl => k_is); (case r_rv => rfl); (case r_sa => k_is); (case r_ga => k_is); (case r_gg => k_is); (case r_ex => k_is); (case r_ty => k_is); (case r_kc => k_is); (case r_hd => k_is); (case r_cl => k_is); (case r_gt => k_is); (case r_tk => k_is); (case r_mr => k_is); (case r_nw => k_is); (case r_iC => k_is); (case r_tI => k_is); (case r_l => k_is); (case r_c => k_is); (case r_k => k_is)))
    (case s_BadTurn => k_is)
    (case i2 => first | k_is | (decide))
    (case d_l_cell => (refine' Kin.defIn_mk ?a ?l ?c ?k; (case a => k_is); (case l => k_is); (case c => k_is); (case k => k_is)))
    (case d_l_draws => (refine' Kin.defIn_mk ?a ?l ?c ?k; (case a => k_is); (case l => k_is); (case c => k_is); (case k => k_is)))
    (case d_l_turn => (refine' Kin.defIn_mk ?a ?l ?c ?k; (case a => k_is); (case l => k_is); (case c => k_is); (case k => k_is)))
    (case d_is_turn => (refine' Kin.defIn_mk ?a ?l ?c ?k; (case a => k_is); (case l => k_is); (case c => k_is); (case k => k_is)))
    (case d_l_same => (refine' Kin.defIn_mk ?a ?l ?c ?k; (case a => k_is); (case l => k_is); (case c => k_is); (case k => k_is)))
    (case d_still => (refine' Kin.defIn_mk ?a ?l ?c ?k; (case a => k_is); (case l => k_is); (case c => k_is); (case k => k_is)))
    (case d_led => (refine' Kin.defIn_mk ?a ?l ?c ?k; (case a => k_is); (case l => k_is); (case c => k_is); (case k => k_is)))
    (case d_behind => (refine' Kin.defIn_mk ?a ?l ?c ?k; (case a => k_is); (case l => k_is); (case c => k_is); (case k => k_is)))
    (case d_l_asked => (refine' Kin.defIn_mk ?a ?l ?c ?k; (case a => k_is); (case l => k_is); (case c => k_is); (case k => k_is)))
    (case d_law => (refine' Kin.defIn_mk ?a ?l ?c ?k; (case a => k_is); (case l => k_is); (case c => k_is); (case k => k_is)))
    (case z0 => k_is)
    (case z1 => k_is)
    (case z2 => k_is)
    (case z3 => k_is)
    (case z4 => k_is)
    (case z5 => k_is)
    (case z6 => k_is)
    (case z7 => k_is)
    (case z8 => k_is)
    (case z9 => k_is)
    (case z10 => k_is)
    (case z11 => k_is)
    (case z12 => k_is)
    (case z13 => k_is)
    (case z14 => k_is)
    (case z15 => k_is)
    (case z16 => k_is)
    (case z17 => k_is)
