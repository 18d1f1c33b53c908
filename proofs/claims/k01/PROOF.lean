import PyProof.Rows.All
import Wide.All
import OpenK.AllK
import Wide.FinOn
import HandS.ForSpec
import HandS.Evl
import HandS.Wide
import HandS.IsInst
import HandS.Defaults
import HandS.TupAny
import HandS.TupMul
import HandS.HeadHook4
import HandS.HeadEnd
import HandS.Head2
import PySem.Challenge.RW_wirestream_k01_offsets
set_option Elab.async false
set_option linter.all false
set_option maxRecDepth 100000
set_option maxHeartbeats 4000000
/-! Heaps in parts: a list of things owned, each in a part of the heap of its own. -/
namespace Wr
open PySem L2

def Sub (H1 H : Hp) : Prop := ∀ a o, H1 a = some o → H a = some o
theorem Sub.refl (H : Hp) : Sub H H := fun _ _ h => h
theorem Sub.trans {A B C : Hp} (h : Sub A B) (k : Sub B C) : Sub A C := fun a o e => k a o (h a o e)
theorem Sub.none {A B : Hp} (h : Sub A B) {a : Addr} (e : B a = Option.none) : A a = Option.none := by
  cases q : A a with
  | none => rfl
  | some o => rw [h a o q] at e; cases e
def Dis (H1 H2 : Hp) : Prop := ∀ a, H1 a = none ∨ H2 a = none

structure Ck where
  ok : Hp → Prop
  up : ∀ H H', Sub H H' → ok H → ok H'

def Own : List Ck → Hp → Prop
  | [], _ => True
  | c :: cs, H => ∃ H1 H2, Sub H1 H ∧ Sub H2 H ∧ Dis H1 H2 ∧ c.ok H1 ∧ Own cs H2

theorem own_up {cs : List Ck} {H H' : Hp} (s : Sub H H') (o : Own cs H) : Own cs H' := by
  cases cs with
  | nil => exact trivial
  | cons c cs =>
    obtain ⟨H1, H2, a, b, d, e, f⟩ := o
    exact ⟨H1, H2, a.trans s, b.trans s, d, e, f⟩

theorem own_tail {c : Ck} {cs : List Ck} {H : Hp} (o : Own (c :: cs) H) : Own cs H := by
  obtain ⟨H1, H2, a, b, d, e, f⟩ := o
  exact own_up b f
theorem own_head {c : Ck} {cs : List Ck} {H : Hp} (o : Own (c :: cs) H) : c.ok H := by
  obtain ⟨H1, H2, a, b, d, e, f⟩ := o
  exact c.up _ _ a e
theorem own_swap {c d : Ck} {cs : List Ck} {H : Hp} (o : Own (c :: d :: cs) H) : Own (d :: c :: cs) H := by
  obtain ⟨H1, H2, s1, s2, d12, e, H3, H4, s3, s4, d34, e2, f⟩ := o
  let U : Hp := fun a => match H1 a with
    | some o => some o
    | none => H4 a
  have u1 : Sub H1 U := fun a o h => by simp only [U, h]
  have u4 : Sub H4 U := fun a o h => by
    rcases d12 a with q | q
    · simp only [U, q, h]
    · rw [s4 a o h] at q; cases q
  refine ⟨H3, U, s3.trans s2, fun a o h => ?_, fun a => ?_, e2, H1, H4, u1, u4, fun a => ?_, e, f⟩
  · cases q : H1 a with
    | some o' =>
      simp only [U, q] at h
      exact s1 a o (q.trans h)
    | none =>
      simp only [U, q] at h
      exact s2 a o (s4 a o h)
  · rcases d34 a with q | q
    · exact .inl q
    · cases q1 : H1 a with
      | some o' =>
        rcases d12 a with q2 | q2
        · rw [q1] at q2; cases q2
        · exact .inl (s3.none q2)
      | none => exact .inr (by simp only [U, q1, q])
  · rcases d12 a with q | q
    · exact .inl q
    · exact .inr (s4.none q)
theorem own_mid {c : Ck} {as : List Ck} : ∀ {bs : List Ck} {H : Hp}, Own (c :: (bs ++ as)) H → Own (bs ++ c :: as) H
  | [], _, o => o
  | b :: bs, H, o => by
    obtain ⟨H1, H2, s1, s2, d, e, f⟩ := own_swap o
    exact ⟨H1, H2, s1, s2, d, e, own_mid f⟩
theorem own_tl {c : Ck} {cs ds : List Ck} (h : ∀ H, Own cs H → Own ds H) {H : Hp} (o : Own (c :: cs) H) : Own (c :: ds) H := by
  obtain ⟨H1, H2, s1, s2, d, e, f⟩ := o
  exact ⟨H1, H2, s1, s2, d, e, h _ f⟩
theorem own_hd {c d : Ck} {cs : List Ck} (h : ∀ H, c.ok H → d.ok H) {H : Hp} (o : Own (c :: cs) H) : Own (d :: cs) H := by
  obtain ⟨H1, H2, s1, s2, d, e, f⟩ := o
  exact ⟨H1, H2, s1, s2, d, h _ e, f⟩

/-- one out of a list -/
inductive Pick {α : Type} : α → List α → List α → Prop
  | here {a : α} {l : List α} : Pick a (a :: l) l
  | there {a b : α} {l r : List α} : Pick a l r → Pick a (b :: l) (b :: r)
theorem own_pick {c : Ck} {cs rs : List Ck} (p : Pick c cs rs) : ∀ {H : Hp}, Own cs H → Own (c :: rs) H := by
  induction p with
  | here => exact fun o => o
  | there _ ih => exact fun o => own_swap (own_tl (fun _ => ih) o)
theorem own_back {c : Ck} {cs rs : List Ck} (p : Pick c cs rs) : ∀ {H : Hp}, Own (c :: rs) H → Own cs H := by
  induction p with
  | here => exact fun o => o
  | there _ ih => exact fun o => own_tl (fun _ => ih) (own_swap o)
/-- one in the place of another -/
inductive Put {α : Type} : α → α → List α → List α → Prop
  | here {a b : α} {l : List α} : Put a b (a :: l) (b :: l)
  | there {a b c : α} {l r : List α} : Put a b l r → Put a b (c :: l) (c :: r)
theorem Put.two {α : Type} {a b : α} {l r : List α} (p : Put a b l r) : ∃ m, Pick a l m ∧ Pick b r m := by
  induction p with
  | here => exact ⟨_, .here, .here⟩
  | there _ ih =>
    obtain ⟨m, h1, h2⟩ := ih
    exact ⟨_, .there h1, .there h2⟩

/-! ### kinds of things -/
@[irreducible] def pt (a : Addr) (o : HO) : Ck := ⟨fun H => H a = some o, fun _ _ s h => s _ _ h⟩
theorem pt_ok {a : Addr} {o : HO} {H : Hp} : (pt a o).ok H ↔ H a = some o := by unfold pt; exact Iff.rfl
theorem rd_up {H H' : Hp} (s : Sub H H') {a : Addr} {u : HO} (h : Rd H a u) : Rd H' a u := by
  rcases h with h | ⟨o, h⟩
  · exact .inl (s _ _ h)
  · exact .inr ⟨o, s _ _ h⟩
theorem sql_up {K : PySem.W.Frag} {H H' : Hp} (s : Sub H H') {a : Addr} {xs : List V} (h : SqL K H a xs) : SqL K H' a xs := by
  rcases h with h | h
  · exact .inl (rd_up s h)
  · exact .inr h
theorem sqt_up {K : PySem.W.Frag} {H H' : Hp} (s : Sub H H') {a : Addr} {xs : List V} (h : SqT K H a xs) : SqT K H' a xs := by
  rcases h with h | h
  · exact .inl (rd_up s h)
  · exact .inr h
/-- a list, a tuple that is read -/
@[irreducible] def sq (K : PySem.W.Frag) (a : Addr) (xs : List V) : Ck := ⟨fun H => SqL K H a xs, fun _ _ s h => sql_up s h⟩
@[irreducible] def tq (K : PySem.W.Frag) (a : Addr) (xs : List V) : Ck := ⟨fun H => SqT K H a xs, fun _ _ s h => sqt_up s h⟩
theorem sq_ok {K : PySem.W.Frag} {a : Addr} {xs : List V} {H : Hp} : (sq K a xs).ok H ↔ SqL K H a xs := by unfold sq; exact Iff.rfl
theorem tq_ok {K : PySem.W.Frag} {a : Addr} {xs : List V} {H : Hp} : (tq K a xs).ok H ↔ SqT K H a xs := by unfold tq; exact Iff.rfl
/-- several as one; one that there is -/
@[irreducible] def sep (cs : List Ck) : Ck := ⟨Own cs, fun _ _ s h => own_up s h⟩
theorem sep_ok {cs : List Ck} {H : Hp} : (sep cs).ok H ↔ Own cs H := by unfold sep; exact Iff.rfl
@[irreducible] def exk {α : Type} (f : α → Ck) : Ck := ⟨fun H => ∃ x, (f x).ok H, fun _ _ s ⟨x, h⟩ => ⟨x, (f x).up _ _ s h⟩⟩
theorem exk_ok {α : Type} {f : α → Ck} {H : Hp} : (exk f).ok H ↔ ∃ x, (f x).ok H := by unfold exk; exact Iff.rfl
@[irreducible] def pur (p : Prop) : Ck := ⟨fun _ => p, fun _ _ _ h => h⟩
theorem pur_ok {p : Prop} {H : Hp} : (pur p).ok H ↔ p := by unfold pur; exact Iff.rfl

def emp : Hp := fun _ => none
theorem emp_sub (H : Hp) : Sub emp H := fun _ _ h => by cases h
theorem emp_dis (H : Hp) : Dis emp H := fun _ => .inl rfl

theorem own_sep {as : List Ck} : ∀ {cs : List Ck} {H : Hp}, Own (sep as :: cs) H ↔ Own (as ++ cs) H := by
  induction as with
  | nil =>
    intro cs H
    exact ⟨fun o => own_tail o, fun o => ⟨emp, H, emp_sub H, Sub.refl H, emp_dis H, sep_ok.mpr trivial, o⟩⟩
  | cons a as ih =>
    intro cs H
    constructor
    · rintro ⟨H1, H2, s1, s2, d, e, f⟩
      obtain ⟨H3, H4, s3, s4, d34, e3, f4⟩ := sep_ok.mp e
      have o : Own (sep as :: a :: cs) H := by
        refine ⟨H4, fun x => match H3 x with | some o => some o | none => H2 x, s4.trans s1, fun x o h => ?_, fun x => ?_, sep_ok.mpr f4, H3, H2, fun x o h => by simp only [h], fun x o h => ?_, fun x => ?_, e3, f⟩
        · cases q : H3 x with
          | some o' => simp only [q] at h; exact s1 x o (s3 x o (q.trans h))
          | none => simp only [q] at h; exact s2 x o h
        · cases q : H4 x with
          | none => exact .inl rfl
          | some o' =>
            refine .inr ?_
            rcases d34 x with z | z
            · simp only [z]
              rcases d x with z2 | z2
              · rw [s4 x o' q] at z2; cases z2
              · exact z2
            · rw [q] at z; cases z
        · cases q : H3 x with
          | none => simp only [q]; exact h
          | some o' =>
            rcases d x with z | z
            · rw [s3 x o' q] at z; cases z
            · rw [h] at z; cases z
        · rcases d x with z | z
          · exact .inl (s3.none z)
          · exact .inr z
      exact own_tl (fun _ q => ih.mp q) (own_swap o)
    · intro o
      have o2 : Own (a :: sep as :: cs) H := own_tl (fun _ q => ih.mpr q) o
      obtain ⟨H1, H2, s1, s2, d, e, H3, H4, s3, s4, d34, e3, f4⟩ := o2
      refine ⟨fun x => match H1 x with | some o => some o | none => H3 x, H4, fun x o h => ?_, s4.trans s2, fun x => ?_, sep_ok.mpr ⟨H1, H3, fun x o h => by simp only [h], fun x o h => ?_, fun x => ?_, e, sep_ok.mp e3⟩, f4⟩
      · cases q : H1 x with
        | some o' => simp only [q] at h; exact s1 x o (q.trans h)
        | none => simp only [q] at h; exact s2 x o (s3 x o h)
      · cases q : H4 x with
        | none => exact .inr rfl
        | some o' =>
          refine .inl ?_
          rcases d x with z | z
          · simp only [z]
            rcases d34 x with z2 | z2
            · exact z2
            · rw [q] at z2; cases z2
          · rw [s4 x o' q] at z; cases z
      · cases q : H1 x with
        | none => simp only [q]; exact h
        | some o' =>
          rcases d x with z | z
          · rw [q] at z; cases z
          · rw [s3 x o h] at z; cases z
      · rcases d x with z | z
        · exact .inl z
        · exact .inr (s3.none z)
theorem own_ex {α : Type} {f : α → Ck} {cs : List Ck} {H : Hp} : Own (exk f :: cs) H ↔ ∃ x, Own (f x :: cs) H := by
  constructor
  · rintro ⟨H1, H2, s1, s2, d, e, g⟩
    obtain ⟨x, e⟩ := exk_ok.mp e
    exact ⟨x, H1, H2, s1, s2, d, e, g⟩
  · rintro ⟨x, H1, H2, s1, s2, d, e, g⟩
    exact ⟨H1, H2, s1, s2, d, exk_ok.mpr ⟨x, e⟩, g⟩
theorem own_pur {p : Prop} {cs : List Ck} {H : Hp} : Own (pur p :: cs) H ↔ p ∧ Own cs H := by
  constructor
  · intro o
    exact ⟨pur_ok.mp (own_head o), own_tail o⟩
  · rintro ⟨h, o⟩
    exact ⟨emp, H, emp_sub H, Sub.refl H, emp_dis H, pur_ok.mpr h, o⟩
theorem own_one {c : Ck} {H : Hp} (h : c.ok H) : Own [c] H := ⟨H, emp, Sub.refl H, emp_sub H, fun _ => .inr rfl, h, trivial⟩

/-! ### reading, storing, making -/
theorem own_at {a : Addr} {o : HO} {cs rs : List Ck} {H : Hp} (h : Own cs H) (p : Pick (pt a o) cs rs) : H a = some o := pt_ok.mp (own_head (own_pick p h))
theorem own_upd {a : Addr} {o u : HO} {cs : List Ck} {H : Hp} (h : Own (pt a o :: cs) H) : Own (pt a u :: cs) (upd H a u) := by
  obtain ⟨H1, H2, s1, s2, d, e, f⟩ := h
  have n2 : H2 a = none := by
    rcases d a with q | q
    · rw [pt_ok.mp e] at q; cases q
    · exact q
  refine ⟨upd H1 a u, H2, fun b x q => ?_, fun b x q => ?_, fun b => ?_, pt_ok.mpr upd_same, f⟩
  · by_cases hb : b = a
    · subst hb; rw [upd_same] at q ⊢; exact q
    · rw [upd_ne hb] at q ⊢; exact s1 b x q
  · have hb : b ≠ a := fun z => by rw [z, n2] at q; cases q
    rw [upd_ne hb]; exact s2 b x q
  · by_cases hb : b = a
    · subst hb; exact .inr n2
    · rw [upd_ne hb]; exact d b
theorem own_put {a : Addr} {o u : HO} {cs ds : List Ck} {H : Hp} (h : Own cs H) (p : Put (pt a o) (pt a u) cs ds) : Own ds (upd H a u) := by
  obtain ⟨m, h1, h2⟩ := p.two
  exact own_back h2 (own_upd (own_pick h1 h))
theorem own_new {a : Addr} {u : HO} {cs : List Ck} {H : Hp} (h : Own cs H) (n : H a = none) : Own (pt a u :: cs) (upd H a u) := by
  refine ⟨fun b => if b = a then some u else none, H, fun b x q => ?_, fun b x q => ?_, fun b => ?_, pt_ok.mpr (by simp), h⟩
  · by_cases hb : b = a
    · subst hb; rw [upd_same]; simpa using q
    · simp [hb] at q
  · have hb : b ≠ a := fun z => by rw [z, n] at q; cases q
    rw [upd_ne hb]; exact q
  · by_cases hb : b = a
    · subst hb; exact .inr n
    · simp [hb]
theorem own_sql {K : PySem.W.Frag} {a : Addr} {xs : List V} {cs rs : List Ck} {H : Hp} (h : Own cs H) (p : Pick (sq K a xs) cs rs) : SqL K H a xs := sq_ok.mp (own_head (own_pick p h))
theorem own_sqt {K : PySem.W.Frag} {a : Addr} {xs : List V} {cs rs : List Ck} {H : Hp} (h : Own cs H) (p : Pick (tq K a xs) cs rs) : SqT K H a xs := tq_ok.mp (own_head (own_pick p h))
theorem own_sql_pt {K : PySem.W.Frag} {a : Addr} {xs : List V} {cs rs : List Ck} {H : Hp} (h : Own cs H) (p : Pick (pt a (.lst xs)) cs rs) : SqL K H a xs := .inl (.inl (own_at h p))
theorem own_sqt_pt {K : PySem.W.Frag} {a : Addr} {xs : List V} {cs rs : List Ck} {H : Hp} (h : Own cs H) (p : Pick (pt a (.tup xs)) cs rs) : SqT K H a xs := .inl (.inl (own_at h p))
theorem own_to_sq {K : PySem.W.Frag} {a : Addr} {xs : List V} {cs : List Ck} {H : Hp} (h : Own (pt a (.lst xs) :: cs) H) : Own (sq K a xs :: cs) H := own_hd (fun _ q => sq_ok.mpr (.inl (.inl (pt_ok.mp q)))) h
theorem own_to_tq {K : PySem.W.Frag} {a : Addr} {xs : List V} {cs : List Ck} {H : Hp} (h : Own (pt a (.tup xs) :: cs) H) : Own (tq K a xs :: cs) H := own_hd (fun _ q => tq_ok.mpr (.inl (.inl (pt_ok.mp q)))) h
end Wr

/-! Defs as data; what expressions come to. -/
namespace Wr
open PySem PySem.Spec PyProof.Rows L2 Evl

/-! ### a def that stands at a name of the module -/
structure Df (P : Program) (w : World) (K : PySem.W.Frag) (mg : Str → Option Value) (base : Heap) (CX : CXT) (k : Nat) (x : Str) (ps : List Str) (sp : Sp) : Prop where
  ex : ∃ (f : Addr) (fd : FuncData), FnOk P w K mg base CX k f fd ps sp ∧ mg x = some (.ref f) ∧ PySem.W.keepIn K (.ref f) = true ∧ Binds K fd ps []

theorem pe_df {X : Cx} {k : Nat} {x : Str} {ps : List Str} {sp : Sp} {e : Expr} {es : List Expr} {t : TA} {p pos : Pos} (D : Df X.prog X.w X.K X.mg X.base CX0 k x ps sp) (hr : Room k X.A) (ha : PA X (e :: es) t)
    (hg : Gl X x := by rfl) (hdb : (x == ("__debug__" : Str)) = false := by decide) (he : starEach (e :: es) X.env = (false, eval e X.env) :: starEach es X.env := by rfl) (hpl : (backTo pos (starEach es X.env)).any (·.1) = false := by rfl) :
    PE X (.Call (.Name x p) (e :: es) [] pos) (tCall sp [] (fun _ _ _ => False) t) := by
  obtain ⟨f, fd, G, hm, kp, b⟩ := D.ex
  exact pe_call G hr hg hm kp b .nil pass0 ha hdb he hpl

/-! ### what the top has left -/
structure Tx (fa : List He.Fa) (fn : List He.DefD) (ex : PySem.W.Frag → Bool) (w : World) (K : PySem.W.Frag) (mg : Str → Option Value) : Prop where
  hp : ∃ h : Heap, K.In h ∧ h.Ns mainGlobals mg
  says : He.SaysD fa fn K
  more : ex K = true
section
variable {fa : List He.Fa} {fn : List He.DefD} {ex : PySem.W.Frag → Bool} {w : World} {K : PySem.W.Frag} {mg : Str → Option Value}
theorem Tx.int (T : Tx fa fn ex w K mg) (i : Nat) {x : Str} {n : Int} (h : fa[i]? = some (.int x n) := by rfl) : ∃ t, mg x = some (.int n t) := by
  obtain ⟨h1, X, G⟩ := T.hp
  exact He.int_ok X G (T.says.fact i h)
theorem Tx.str (T : Tx fa fn ex w K mg) (i : Nat) {x z : Str} (h : fa[i]? = some (.str x z) := by rfl) : ∃ t, mg x = some (.str z t) := by
  obtain ⟨h1, X, G⟩ := T.hp
  exact He.str_ok X G (T.says.fact i h)
theorem Tx.free (T : Tx fa fn ex w K mg) (i : Nat) {x : Str} (h : fa[i]? = some (.free x) := by rfl) : mg x = none := by
  obtain ⟨h1, X, G⟩ := T.hp
  exact He.free_ok X G (T.says.fact i h)
theorem Tx.glo (T : Tx fa fn ex w K mg) (i : Nat) {x : Str} (h : fa[i]? = some (.glo x) := by rfl) : mg x = some (.ref (He.ga K x)) := by
  obtain ⟨h1, X, G⟩ := T.hp
  exact He.glo_ok X G (T.says.fact i h)
end
/-- a global int, a global text -/
theorem pe_gi {X : Cx} {x : Str} {p : Pos} {n : Int} (hm : ∃ t, X.mg x = some (.int n t)) (hg : Gl X x := by rfl) (hd : (x == ("__debug__" : Str)) = false := by decide) : PE X (.Name x p) (tC (.int n)) := by
  obtain ⟨t, e⟩ := hm
  exact pe_glob hg e ⟨t, rfl⟩ (hd := hd)
theorem pe_gs {X : Cx} {x : Str} {p : Pos} {z : Str} (hm : ∃ t, X.mg x = some (.str z t)) (hg : Gl X x := by rfl) (hd : (x == ("__debug__" : Str)) = false := by decide) : PE X (.Name x p) (tC (.str z)) := by
  obtain ⟨t, e⟩ := hm
  exact pe_glob hg e ⟨t, rfl⟩ (hd := hd)

section
variable {P : Program} {w : World} {K : PySem.W.Frag} {mg : Str → Option Value} {base : Heap} {fa : List He.Fa} {fn : List He.DefD} {ex : PySem.W.Frag → Bool}
/-- a def of the text: its number among fn, and the number of its name among fa -/
theorem df_mk {x : Str} {N ps : List Str} {k : Nat} {sp : Sp} {ar : Arguments} {bo : List Stmt} {sc : Scope} (T : Tx fa fn ex w K mg) (i j : Nat) (hi : fn[i]? = some ⟨(x, none), x, x, ar, bo, sc, [], []⟩) (hj : fa[j]? = some (.glo x)) (S : FnScope N ps sc)
    (hb : ∀ (kV doc pm : Value) (an : Option Addr) (cdv ct : Value) (us : List Value), us.length = ps.length → bindArgs (PySem.W.fnOf x x ar bo sc .none kV doc pm an cdv ct) ⟨us, []⟩ = pure (ps.zip us))
    (len : ∀ vs H Q E, sp vs H Q E → vs.length = ps.length)
    (hbody : ∀ (f : Addr) (cdv : Value) (A : Around) (outer : List Env) (s : Shared) (H : Hp) (vs : List V) (Q : VK) (E : XK), Room k (A.deeper (envOfC x sc s.heap.objs.size f cdv)) → sp vs H Q E →
      ∃ t, PSs (cxOf CX0 P w K mg base N x sc f cdv A outer s H E).nox bo t ∧ t { nx := fun _ H' => Q .non H', rt := Q } (start N vs) H) : Df P w K mg base CX0 (k + 1) x ps sp := by
  obtain ⟨fd, F⟩ := T.says.def_ i hi
  have h1 := T.glo j hj
  refine ⟨He.ga K x, fd, ?_, h1, F.kp, F.bindsN hb⟩
  refine F.ok S len fun cdv A outer s H vs Q E hr h => ?_
  obtain ⟨t, q, r⟩ := hbody _ cdv A outer s H vs Q E hr h
  exact ⟨t, q.nox, r⟩
end

/-! ### promises of defs that change nothing -/
def SpO (pre : List V → Hp → V → Prop) : Sp := fun vs H Q _ => ∃ v, pre vs H v ∧ ∀ H', Ex H H' → Q v H'
def SpLi (pre : List V → Hp → List Int → Prop) : Sp := fun vs H Q _ => ∃ xs, pre vs H xs ∧ ∀ p H', H p = none → Ex H H' → H' p = some (.lst (xs.map V.int)) → Q (.ref p) H'
theorem spv {pre : List V → Hp → V → Prop} {vs : List V} {H : Hp} {v : V} (h : ∀ H1, Ex H H1 → pre vs H1 v) : SpV (SpO pre) vs H v := fun H1 e Q q E => ⟨v, h H1 e, fun H2 e2 => q H2 e2⟩
theorem spl {pre : List V → Hp → List Int → Prop} {vs : List V} {H : Hp} {xs : List Int} (h : ∀ H1, Ex H H1 → pre vs H1 xs) : SpL (SpLi pre) vs H (xs.map V.int) := fun H1 e Q q E => ⟨xs, h H1 e, fun p H2 n e2 hp => q p H2 n e2 hp⟩

/-! ### values -/
section
variable {K : PySem.W.Frag} {σ : L2.St} {H H' : Hp} {ta tb tc te tx : TE} {t u : TT} {x y z v : V} {r : R2} {i j k : Int}
theorem ev_i0 {g : Int → Int → V} (ha : Ev ta σ H (.int i)) (hb : Ev tb σ H (.int j)) : Ev (tOp (rI0 g) ta tb) σ H (g i j) := ev_op ha hb rv_I0
theorem ev_iC {C : Int → Int → Prop} {g : Int → Int → V} (hc : C i j) (ha : Ev ta σ H (.int i)) (hb : Ev tb σ H (.int j)) : Ev (tOp (rI C g) ta tb) σ H (g i j) := ev_op ha hb (rv_I hc)
theorem dec_V {i j : Int} : decide (V.int i = V.int j) = decide (i = j) := by
  by_cases h : i = j
  · subst h; simp
  · rw [decide_eq_false h, decide_eq_false (fun e => h (V.int.inj e))]
theorem dec_S {i j : Str} : decide (V.str i = V.str j) = decide (i = j) := by
  by_cases h : i = j
  · subst h; simp
  · rw [decide_eq_false h, decide_eq_false (fun e => h (V.str.inj e))]
theorem dec_B {i j : Bool} : decide (V.bl i = V.bl j) = decide (i = j) := by cases i <;> cases j <;> rfl
theorem ev_eqI (ha : Ev ta σ H (.int i)) (hb : Ev tb σ H (.int j)) : Ev (tOp rEq ta tb) σ H (.bl (decide (i = j))) := dec_V ▸ ev_op ha hb (rv_eq rfl)
theorem ev_neI (ha : Ev ta σ H (.int i)) (hb : Ev tb σ H (.int j)) : Ev (tOp rNe ta tb) σ H (.bl (!decide (i = j))) := dec_V ▸ ev_op ha hb (rv_ne rfl)
theorem ev_eqS {i j : Str} (ha : Ev ta σ H (.str i)) (hb : Ev tb σ H (.str j)) : Ev (tOp rEq ta tb) σ H (.bl (decide (i = j))) := dec_S ▸ ev_op ha hb (rv_eq rfl)
theorem ev_neS {i j : Str} (ha : Ev ta σ H (.str i)) (hb : Ev tb σ H (.str j)) : Ev (tOp rNe ta tb) σ H (.bl (!decide (i = j))) := dec_S ▸ ev_op ha hb (rv_ne rfl)
theorem ev_eqB {i j : Bool} (ha : Ev ta σ H (.bl i)) (hb : Ev tb σ H (.bl j)) : Ev (tOp rEq ta tb) σ H (.bl (decide (i = j))) := dec_B ▸ ev_op ha hb (rv_eq rfl)
theorem ev_neB {i j : Bool} (ha : Ev ta σ H (.bl i)) (hb : Ev tb σ H (.bl j)) : Ev (tOp rNe ta tb) σ H (.bl (!decide (i = j))) := dec_B ▸ ev_op ha hb (rv_ne rfl)
theorem ev_neg (ha : Ev ta σ H (.int i)) : Ev (tUn (rU fun i => .int (-i)) ta) σ H (.int (-i)) := ev_un ha ru_neg
theorem ev_ch {f g : Int → Int → Bool} (ha : Ev ta σ H (.int i)) (hb : Ev tb σ H (.int j)) (hc : Ev tc σ H (.int k)) : Ev (tChain (rI0 fun i j => .bl (f i j)) (rI0 fun i j => .bl (g i j)) ta tb tc) σ H (.bl (f i j && g j k)) := fun H1 e Q q =>
  ha H1 e _ fun H2 e2 => hb H2 (e.trans e2) _ fun H3 e3 => by
    refine ⟨i, j, rfl, rfl, f i j, rfl, ?_⟩
    cases h : f i j with
    | true =>
      rw [if_pos rfl]
      refine hc H3 ((e.trans e2).trans e3) _ fun H4 e4 => ⟨j, k, rfl, rfl, ?_⟩
      have q2 := q H4 ((e2.trans e3).trans e4)
      rw [h, Bool.true_and] at q2
      exact q2
    | false =>
      rw [if_neg Bool.false_ne_true]
      have q2 := q H3 (e2.trans e3)
      rw [h, Bool.false_and] at q2
      exact q2
/-- the truth of a list, a tuple, an int, a bool, a text -/
theorem et_truL {a : Addr} {xs : List V} (ha : Ev ta σ H (.ref a)) (h : SqL K H a xs) : EvT (fun σ H Q => ta σ H fun x H' => ∃ k, TruV K x H' k ∧ Q k H') σ H (!xs.isEmpty) := fun H1 e Q q =>
  ha H1 e _ fun H2 e2 => ⟨_, .inl ⟨xs, ex_l (e.trans e2) h, rfl⟩, q H2 e2⟩
theorem et_truT {a : Addr} {xs : List V} (ha : Ev ta σ H (.ref a)) (h : SqT K H a xs) : EvT (fun σ H Q => ta σ H fun x H' => ∃ k, TruV K x H' k ∧ Q k H') σ H (!xs.isEmpty) := fun H1 e Q q =>
  ha H1 e _ fun H2 e2 => ⟨_, .inr (.inl ⟨xs, ex_t (e.trans e2) h, rfl⟩), q H2 e2⟩
theorem et_truB {b : Bool} (ha : Ev ta σ H (.bl b)) : EvT (fun σ H Q => ta σ H fun x H' => ∃ k, TruV K x H' k ∧ Q k H') σ H b := fun H1 e Q q =>
  ha H1 e _ fun H2 e2 => ⟨_, rfl, q H2 e2⟩
theorem et_truS {z : Str} (ha : Ev ta σ H (.str z)) (hz : z.length ≤ 100000) : EvT (fun σ H Q => ta σ H fun x H' => ∃ k, TruV K x H' k ∧ Q k H') σ H ((z.length : Int) != 0) := fun H1 e Q q =>
  ha H1 e _ fun H2 e2 => ⟨_, ⟨sz_of hz, rfl⟩, q H2 e2⟩
/-- isinstance(x, T) -/
theorem ev_isi {c : V} {t u : Value} {b : Bool} (ha : Ev ta σ H x) (hb : Ev tb σ H c) (hc : ClsV c u) (ty : ∀ H1, Ex H H1 → TyX K H1 x t) (hk : PySem.W.kitOne K t u = some b) : Ev (tCB (rIsi K) (tCons ta (tCons tb tNil))) σ H (.bl b) := fun H1 e Q q =>
  ha H1 e _ fun H2 e2 => hb H2 (e.trans e2) _ fun H3 e3 => ⟨x, c, t, u, b, rfl, hc, ty H3 ((e.trans e2).trans e3), hk, q H3 (e2.trans e3)⟩
/-- len -/
theorem ev_lenL {p : Addr} {xs : List V} (h : SqL K H p xs) (ha : Ev ta σ H (.ref p)) : Ev (tCB (fun xs H Q => ∃ p ys, xs = [.ref p] ∧ (SqL K H p ys ∨ SqT K H p ys) ∧ Q (.int ys.length) H) (tCons ta tNil)) σ H (.int (xs.length : Int)) := fun H1 e Q q =>
  ha H1 e _ fun H2 e2 => ⟨p, xs, rfl, Or.inl (ex_l (e.trans e2) h), q H2 e2⟩
theorem ev_lenT {p : Addr} {xs : List V} (h : SqT K H p xs) (ha : Ev ta σ H (.ref p)) : Ev (tCB (fun xs H Q => ∃ p ys, xs = [.ref p] ∧ (SqL K H p ys ∨ SqT K H p ys) ∧ Q (.int ys.length) H) (tCons ta tNil)) σ H (.int (xs.length : Int)) := fun H1 e Q q =>
  ha H1 e _ fun H2 e2 => ⟨p, xs, rfl, Or.inr (ex_t (e.trans e2) h), q H2 e2⟩
theorem ev_ixL {p : Addr} {xs : List V} (h : SqL K H p xs) (ha : Ev ta σ H (.ref p)) (hb : Ev tb σ H (.int i)) (hx : atI xs i = some v) : Ev (tOp (rIxL K) ta tb) σ H v := ev_op ha hb (rv_ixL h hx)
theorem ev_ixT {p : Addr} {xs : List V} (h : SqT K H p xs) (ha : Ev ta σ H (.ref p)) (hb : Ev tb σ H (.int i)) (hx : atI xs i = some v) : Ev (tOp (rIxT K) ta tb) σ H v := ev_op ha hb (rv_ixT h hx)
end
theorem atI_int {ns : List Int} {i : Int} (h0 : 0 ≤ i) (h1 : i < ns.length) : atI (ns.map V.int) i = some (V.int (ns.getD i.toNat 0)) := by
  unfold atI ixN
  rw [if_pos h0, if_pos (by rw [List.length_map]; exact h1)]
  show (ns.map V.int)[i.toNat]? = _
  have h2 : i.toNat < ns.length := by omega
  rw [List.getElem?_map, List.getElem?_eq_getElem h2, List.getD_eq_getElem?_getD, List.getElem?_eq_getElem h2]
  rfl
theorem at_is {α : Type} {xs : List α} {i : Int} {v w : α} (h : atI xs i = some v) (e : v = w) : atI xs i = some w := e ▸ h
theorem ret_is {Q : VK} {H : Hp} {v w : V} (h : Q v H) (e : v = w) : Q w H := e ▸ h
end Wr

namespace Wr
open PySem PySem.Spec PyProof.Rows L2 Evl
section
variable {K : PySem.W.Frag} {σ : L2.St} {H H' : Hp} {ta tb tc te tx : TE} {t u : TT} {x y z v : V} {r : R2} {i j k : Int} {D : Ends} {tz tu tw : TS}
theorem emp_int {ns : List Int} : (ns.map V.int).isEmpty = ns.isEmpty := by cases ns <;> rfl
theorem len_int {ns : List Int} : (((ns.map V.int).length : Nat) : Int) = (ns.length : Int) := by rw [List.length_map]
theorem et_truLi {a : Addr} {ns : List Int} (h : SqL K H a (ns.map V.int)) (ha : Ev ta σ H (.ref a)) : EvT (fun σ H Q => ta σ H fun x H' => ∃ k, TruV K x H' k ∧ Q k H') σ H (!ns.isEmpty) := et_is (et_truL ha h) (by rw [emp_int])
theorem ev_lenLi {p : Addr} {ns : List Int} (h : SqL K H p (ns.map V.int)) (ha : Ev ta σ H (.ref p)) : Ev (tCB (fun xs H Q => ∃ p ys, xs = [.ref p] ∧ (SqL K H p ys ∨ SqT K H p ys) ∧ Q (.int ys.length) H) (tCons ta tNil)) σ H (.int (ns.length : Int)) := ev_is (ev_lenL h ha) (by rw [len_int])
theorem ev_ixLi {p : Addr} {ns : List Int} (h : SqL K H p (ns.map V.int)) (ha : Ev ta σ H (.ref p)) (hb : Ev tb σ H (.int i)) (hx : 0 ≤ i ∧ i < ns.length) : Ev (tOp (rIxL K) ta tb) σ H (.int (ns.getD i.toNat 0)) := ev_ixL h ha hb (atI_int hx.1 hx.2)
theorem ev_ife {b : Bool} {x y : V} (h : EvT t σ H b) (h1 : b = true → Ev ta σ H x) (h2 : b = false → Ev tb σ H y) : Ev (tIf t ta tb) σ H (if b = true then x else y) := by
  refine ev_if h (fun e => ?_) (fun e => ?_)
  · rw [if_pos e]; exact h1 e
  · rw [e, if_neg Bool.false_ne_true]; exact h2 e
/-- if t: x = e, x an int: only what is said of it -/
theorem q_ifI {i : Nat} {b : Bool} (P : Int → Prop) (h : EvT t σ H b) (h1 : b = true → ∃ n, Ev te σ H (.int n) ∧ P n) (h2 : b = false → ∃ n, σ[i]? = some (some (.int n)) ∧ P n)
    (k : ∀ n H1, Ex H H1 → P n → tz D (σ.set i (some (.int n))) H1) : tSeq (tIfS t (tAsg te (gName i)) tNext) tz D σ H := by
  refine q_if h (fun e H1 e1 => ?_) (fun e H1 e1 => ?_)
  · obtain ⟨n, hv, p⟩ := h1 e
    exact s_asg (D := { D with nx := tz D }) (hv.mono e1) fun H2 e2 => k n H2 (e1.trans e2) p
  · obtain ⟨n, hv, p⟩ := h2 e
    have e2 : σ.set i (some (.int n)) = σ := by
      refine List.ext_getElem? fun m => ?_
      by_cases hm : i = m
      · subst hm
        rw [List.getElem?_set_self (List.getElem?_eq_some_iff.mp hv).1, hv]
      · rw [List.getElem?_set_ne hm]
    have z := k n H1 e1 p
    rw [e2] at z
    exact z
/-- if t: return False, where t is false -/
theorem q_no {b : Bool} (h : EvT t σ H b) (hb : b = false) (k : ∀ H1, Ex H H1 → tz D σ H1) : tSeq (tIfS t tu tNext) tz D σ H := q_when h (fun e => by rw [hb] at e; cases e) fun _ H1 e1 => k H1 e1
theorem ea_nilI : EvA tNil σ H (([] : List Int).map V.int) := ea_nil
theorem ea_consI {tr : TA} {ns : List Int} (h : Ev ta σ H (.int i)) (hr : EvA tr σ H (ns.map V.int)) : EvA (tCons ta tr) σ H ((i :: ns).map V.int) := ea_cons h hr
theorem el_dispI {tr : TA} {ns : List Int} (h : EvA tr σ H (ns.map V.int)) (hl : ns.length ≤ 100000) : EvL (tLst tr) σ H (ns.map V.int) := el_lst h (by rw [List.length_map]; exact hl)
/-- an item of a new list -/
theorem ev_ixNi {ns : List Int} (ha : EvL ta σ H (ns.map V.int)) (hb : Ev tb σ H (.int i)) (hx : 0 ≤ i ∧ i < ns.length) : Ev (tOp (rIxL K) ta tb) σ H (.int (ns.getD i.toNat 0)) :=
  ev_opL1 ha (fun H1 e => hb.mono e) fun p H1 hp e => rv_ixL (sq_of hp) (atI_int hx.1 hx.2)
end
section
variable {P : Program} {w : World} {K : PySem.W.Frag} {mg : Str → Option Value} {fa : List He.Fa} {fn : List He.DefD} {ex : PySem.W.Frag → Bool}
/-- the law's own def -/
theorem law_mk {x p : Str} {f : Addr} {N : List Str} {k : Nat} {sp : Sp} {ar : Arguments} {bo : List Stmt} {sc : Scope} (T : Tx fa fn ex w K mg) (i j : Nat) (hi : fn[i]? = some ⟨(x, none), x, x, ar, bo, sc, [], []⟩) (hj : fa[j]? = some (.glo x)) (S : FnScope N [p] sc)
    (hb : ∀ (kV doc pm : Value) (an : Option Addr) (cdv ct : Value) (us : List Value), us.length = [p].length → bindArgs (PySem.W.fnOf x x ar bo sc .none kV doc pm an cdv ct) ⟨us, []⟩ = pure ([p].zip us))
    (hfa : mg x = some (.ref f)) (len : ∀ vs H Q E, sp vs H Q E → vs.length = [p].length)
    (hbody : ∀ (base : Heap) (f : Addr) (cdv : Value) (A : Around) (outer : List Env) (s : Shared) (H : Hp) (vs : List V) (Q : VK) (E : XK), Room k (A.deeper (envOfC x sc s.heap.objs.size f cdv)) → sp vs H Q E →
      ∃ t, PSs (cxOf CX0 P w K mg base N x sc f cdv A outer s H E).nox bo t ∧ t { nx := fun _ H' => Q .non H', rt := Q } (start N vs) H) :
    ∃ fd : FuncData, (∀ (s : Shared) (v : Value), BindsTo s fd ⟨[v], []⟩ [(p, v)]) ∧ ∀ base : Heap, K.In base → base.Ns mainGlobals mg → FnOk P w K mg base CX0 (k + 1) f fd [p] sp := by
  obtain ⟨fd, F⟩ := T.says.def_ i hi
  have h1 := T.glo j hj
  have e : f = He.ga K x := Value.ref.inj (Option.some.inj (hfa.symm.trans h1))
  subst e
  have b := FunD.bindsA (ps := [p]) F hb
  refine ⟨fd, fun s v => b s [v] rfl, fun base _ _ => ?_⟩
  refine F.ok S len fun cdv A outer s H vs Q E hr h => ?_
  obtain ⟨t, q, r⟩ := hbody base _ cdv A outer s H vs Q E hr h
  exact ⟨t, q.nox, r⟩
end
end Wr

namespace M
def plus (a b : Int) : Int := (a + b) % 4294967296
def offset (a b : Int) : Int := let far := (a - b) % 4294967296; if decide (2147483648 ≤ far) = true then far - 4294967296 else far
def past (a b : Int) : Bool := decide (0 < offset a b)
def cell (ns : List Int) (k : Int) : Int := if (!ns.isEmpty) = true then ns.getD (k % ns.length).toNat 0 else 0
def mix (ns : List Int) (k : Int) : Int :=
  let n1 := (cell ns k + 104729 * (k + 1)) % 4294967291
  let n2 := n1 * 48271 % 4294967279
  (n2 / 64 * 69621 + n2) % 4294967231
theorem mix_lo (ns : List Int) (k : Int) : 0 ≤ mix ns k := Int.emod_nonneg _ (by decide)
theorem cell_pos {ns : List Int} (h : (!ns.isEmpty) = true) : (0 : Int) < (ns.length : Int) := by
  cases ns with
  | nil => cases h
  | cons a l => simp only [List.length_cons]; omega
theorem cell_ix {ns : List Int} {k : Int} (h : (!ns.isEmpty) = true) : 0 ≤ k % (ns.length : Int) ∧ k % (ns.length : Int) < (ns.length : Int) := by
  have := cell_pos h
  exact ⟨Int.emod_nonneg _ (by omega), Int.emod_lt_of_pos _ this⟩
theorem due_plus (a b : Int) : a + b - (a + b) / 4294967296 * 4294967296 = plus a b := by unfold plus; omega
theorem far_ok {b s : Int} (h0 : 0 ≤ b) (h1 : b < 4294967296) : (!true || (!(decide (-2147483648 ≤ offset (plus b s) b) && decide (offset (plus b s) b ≤ 2147483647)) || !decide ((b + offset (plus b s) b - plus b s) % 4294967296 = 0))) = false := by
  have e1 : -2147483648 ≤ offset (plus b s) b := by unfold offset plus; simp only; split <;> simp at * <;> omega
  have e2 : offset (plus b s) b ≤ 2147483647 := by unfold offset plus; simp only; split <;> simp at * <;> omega
  have e3 : (b + offset (plus b s) b - plus b s) % 4294967296 = 0 := by unfold offset plus; simp only; split <;> simp at * <;> omega
  simp [e1, e2, e3]
theorem mix_hi (ns : List Int) (k : Int) : mix ns k < 4294967231 := Int.emod_lt_of_pos _ (by decide)
end M
namespace Pr
open PySem PySem.Spec PyProof.Rows L2 Evl Wr
def top (i : Nat) : Stmt := PySem.Challenge.pw_wirestream_k01_offsets.main.body.getD i (.Pass ⟨0, 0, 0, 0⟩)

abbrev s_plus : Stmt := top 3
abbrev s_offset : Stmt := top 4
abbrev s_past : Stmt := top 5
abbrev s_cell : Stmt := top 7
abbrev s_mix : Stmt := top 8
abbrev s_whole : Stmt := top 9
abbrev s_law : Stmt := top 11
def fa : List He.Fa := [.int "ROUND" 4294967296,
  .glo "plus",
  .int "HALF" 2147483648,
  .glo "offset",
  .glo "past",
  .free "len",
  .glo "_law_cell",
  .glo "_law_mix",
  .free "int",
  .free "isinstance",
  .free "bool",
  .glo "_law_whole",
  .glo "law"]
def fn : List He.DefD := [⟨("plus", none), "plus", "plus", defArgs s_plus, defBody s_plus, defScope s_plus, [], []⟩,
  ⟨("offset", none), "offset", "offset", defArgs s_offset, defBody s_offset, defScope s_offset, [], []⟩,
  ⟨("past", none), "past", "past", defArgs s_past, defBody s_past, defScope s_past, [], []⟩,
  ⟨("_law_cell", none), "_law_cell", "_law_cell", defArgs s_cell, defBody s_cell, defScope s_cell, [], []⟩,
  ⟨("_law_mix", none), "_law_mix", "_law_mix", defArgs s_mix, defBody s_mix, defScope s_mix, [], []⟩,
  ⟨("_law_whole", none), "_law_whole", "_law_whole", defArgs s_whole, defBody s_whole, defScope s_whole, [], []⟩,
  ⟨("law", none), "law", "law", defArgs s_law, defBody s_law, defScope s_law, [], []⟩]
def ex : PySem.W.Frag → Bool := fun _ => true
section
variable {P : Program} {w : World} {K : PySem.W.Frag} {mg : Str → Option Value} {base : Heap}
theorem sc_plus : FnScope ["number", "step"] ["number", "step"] (defScope s_plus) := ⟨rfl, rfl, rfl, by decide +kernel, rfl, by decide +kernel, by decide +kernel⟩
def p_plus : List V → Hp → V → Prop := fun vs H v => ∃ a b, vs = [.int a, .int b] ∧ v = .int (M.plus a b)
theorem spv_plus {H : Hp} {a b : Int}  : SpV (SpO (p_plus)) [.int a, .int b] H (.int (M.plus a b)) := spv fun H1 e => ⟨a, b, rfl, rfl⟩
theorem d_plus (T : Tx fa fn ex w K mg) : Df P w K mg base CX0 1 "plus" ["number", "step"] (SpO (p_plus)) := by
  refine df_mk T 0 1 rfl rfl sc_plus (fun kV doc pm an cdv ct us hl => match us, hl with | [_, _], _ => rfl) (fun vs H Q E h => ?_) (fun f cdv A outer s H vs Q E hr h => ?_)
  · obtain ⟨v, ⟨a, b, rfl, rfl⟩, _⟩ := h
    rfl
  · obtain ⟨v, ⟨a, b, rfl, rfl⟩, k⟩ := h
    have ex := Ex.refl H
    refine ⟨_, PSs.nox (pss_one (ps_ret (pe_op op_mod (pe_op op_add (pv 0) (pv 1)) (pe_gi (T.int 0))))), ?_⟩
    refine s_ret (Ev.mono ex (ev_iC (by decide) (ev_i0 (ev_var (i := 0) rfl) (ev_var (i := 1) rfl)) ev_c)) (fun H1 e1 => ?_)
    have ex := ex.trans e1
    exact ret_is (k _ ex) (by simp only [M.plus, ↓reduceIte, Bool.false_eq_true, if_false, if_true] <;> rfl)
theorem sc_offset : FnScope ["number", "base", "far"] ["number", "base"] (defScope s_offset) := ⟨rfl, rfl, rfl, by decide +kernel, rfl, by decide +kernel, by decide +kernel⟩
def p_offset : List V → Hp → V → Prop := fun vs H v => ∃ a b, vs = [.int a, .int b] ∧ v = .int (M.offset a b)
theorem spv_offset {H : Hp} {a b : Int}  : SpV (SpO (p_offset)) [.int a, .int b] H (.int (M.offset a b)) := spv fun H1 e => ⟨a, b, rfl, rfl⟩
theorem d_offset (T : Tx fa fn ex w K mg) : Df P w K mg base CX0 1 "offset" ["number", "base"] (SpO (p_offset)) := by
  refine df_mk T 1 3 rfl rfl sc_offset (fun kV doc pm an cdv ct us hl => match us, hl with | [_, _], _ => rfl) (fun vs H Q E h => ?_) (fun f cdv A outer s H vs Q E hr h => ?_)
  · obtain ⟨v, ⟨a, b, rfl, rfl⟩, _⟩ := h
    rfl
  · obtain ⟨v, ⟨a, b, rfl, rfl⟩, k⟩ := h
    have ex := Ex.refl H
    refine ⟨_, PSs.nox (pss_cons (ps_set (i := 2) sc_offset.nd rfl (Or.inl rfl) (pe_op op_mod (pe_op op_sub (pv 0) (pv 1)) (pe_gi (T.int 0))))
      (pss_cons (ps_if (pt_cmpR op_ge (pv 2) (pe_gi (T.int 2)) (nomark _)) (pss_one (ps_ret (pe_op op_sub (pv 2) (pe_gi (T.int 0))))) pss_nil)
      (pss_one (ps_ret (pv 2))))), ?_⟩
    refine q_asg (i := 2) (Ev.mono ex (ev_iC (by decide) (ev_i0 (ev_var (i := 0) rfl) (ev_var (i := 1) rfl)) ev_c)) (fun H1 e1 => ?_)
    have ex := ex.trans e1
    refine q_when (EvT.mono ex (et_test (ev_i0 (ev_var (i := 2) rfl) ev_c))) (fun h1 H1 e1 => ?_) (fun h1 H1 e1 => ?_)
    · have ex := ex.trans e1
      refine s_ret (Ev.mono ex (ev_i0 (ev_var (i := 2) rfl) ev_c)) (fun H1 e1 => ?_)
      have ex := ex.trans e1
      exact ret_is (k _ ex) (by simp only [M.offset, h1, ↓reduceIte, Bool.false_eq_true, if_false, if_true] <;> rfl)
    · have ex := ex.trans e1
      refine s_ret (Ev.mono ex (ev_var (i := 2) rfl)) (fun H1 e1 => ?_)
      have ex := ex.trans e1
      exact ret_is (k _ ex) (by simp only [M.offset, h1, ↓reduceIte, Bool.false_eq_true, if_false, if_true] <;> rfl)
theorem sc_past : FnScope ["number", "base"] ["number", "base"] (defScope s_past) := ⟨rfl, rfl, rfl, by decide +kernel, rfl, by decide +kernel, by decide +kernel⟩
def p_past : List V → Hp → V → Prop := fun vs H v => ∃ a b, vs = [.int a, .int b] ∧ v = .bl (M.past a b)
theorem spv_past {H : Hp} {a b : Int}  : SpV (SpO (p_past)) [.int a, .int b] H (.bl (M.past a b)) := spv fun H1 e => ⟨a, b, rfl, rfl⟩
theorem d_past (T : Tx fa fn ex w K mg) : Df P w K mg base CX0 2 "past" ["number", "base"] (SpO (p_past)) := by
  refine df_mk T 2 4 rfl rfl sc_past (fun kV doc pm an cdv ct us hl => match us, hl with | [_, _], _ => rfl) (fun vs H Q E h => ?_) (fun f cdv A outer s H vs Q E hr h => ?_)
  · obtain ⟨v, ⟨a, b, rfl, rfl⟩, _⟩ := h
    rfl
  · obtain ⟨v, ⟨a, b, rfl, rfl⟩, k⟩ := h
    have ex := Ex.refl H
    refine ⟨_, PSs.nox (pss_one (ps_ret (pe_cmpR op_gt (pe_df (d_offset T) (hr.mono (by decide)) (pa_cons (pv 0) (pa_cons (pv 1) pa_nil))) pe_int (nomark _)))), ?_⟩
    refine s_ret (Ev.mono ex (ev_i0 (ev_call (ea_cons (ev_var (i := 0) rfl) (ea_cons (ev_var (i := 1) rfl) ea_nil)) (spv_offset )) ev_c)) (fun H1 e1 => ?_)
    have ex := ex.trans e1
    exact ret_is (k _ ex) (by simp only [M.past, ↓reduceIte, Bool.false_eq_true, if_false, if_true] <;> rfl)
theorem sc_cell : FnScope ["_law_script", "_law_k"] ["_law_script", "_law_k"] (defScope s_cell) := ⟨rfl, rfl, rfl, by decide +kernel, rfl, by decide +kernel, by decide +kernel⟩
def p_cell (K : PySem.W.Frag) : List V → Hp → V → Prop := fun vs H v => ∃ a ns k, vs = [.ref a, .int k] ∧ SqL K H a (ns.map V.int) ∧ v = .int (M.cell ns k)
theorem spv_cell {K : PySem.W.Frag} {H : Hp} {a : Addr} {ns : List Int} {k : Int} (hS : SqL K H a (ns.map V.int)) : SpV (SpO (p_cell K)) [.ref a, .int k] H (.int (M.cell ns k)) := spv fun H1 e => ⟨a, ns, k, rfl, ex_l e hS, rfl⟩
theorem d_cell (T : Tx fa fn ex w K mg) : Df P w K mg base CX0 1 "_law_cell" ["_law_script", "_law_k"] (SpO (p_cell K)) := by
  refine df_mk T 3 6 rfl rfl sc_cell (fun kV doc pm an cdv ct us hl => match us, hl with | [_, _], _ => rfl) (fun vs H Q E h => ?_) (fun f cdv A outer s H vs Q E hr h => ?_)
  · obtain ⟨v, ⟨a, ns, kk, rfl, hS, rfl⟩, _⟩ := h
    rfl
  · obtain ⟨v, ⟨a, ns, kk, rfl, hS, rfl⟩, k⟩ := h
    have ex := Ex.refl H
    refine ⟨_, PSs.nox (pss_cons (ps_if (pt_truth (pv 0) (fun _ => rfl)) (pss_one (ps_ret (pe_ix ix_list (pv 0) (pe_op op_mod (pv 1) (pe_callB call_len_seq (by rfl) (T.free 5) PySem.boot_len (pa_cons (pv 0) pa_nil))) (fun _ _ => rfl)))) pss_nil)
      (pss_one (ps_ret pe_int))), ?_⟩
    refine q_when (EvT.mono ex (et_truLi hS (ev_var (i := 0) rfl))) (fun h1 H1 e1 => ?_) (fun h1 H1 e1 => ?_)
    · have ex := ex.trans e1
      refine s_ret (Ev.mono ex (ev_ixLi hS (ev_var (i := 0) rfl) (ev_iC (M.cell_pos h1) (ev_var (i := 1) rfl) (ev_lenLi hS (ev_var (i := 0) rfl))) (M.cell_ix h1))) (fun H1 e1 => ?_)
      have ex := ex.trans e1
      exact ret_is (k _ ex) (by simp only [M.cell, h1, ↓reduceIte, Bool.false_eq_true, if_false, if_true] <;> rfl)
    · have ex := ex.trans e1
      refine s_ret (Ev.mono ex ev_c) (fun H1 e1 => ?_)
      have ex := ex.trans e1
      exact ret_is (k _ ex) (by simp only [M.cell, h1, ↓reduceIte, Bool.false_eq_true, if_false, if_true] <;> rfl)
theorem sc_mix : FnScope ["_law_script", "_law_k", "_law_number"] ["_law_script", "_law_k"] (defScope s_mix) := ⟨rfl, rfl, rfl, by decide +kernel, rfl, by decide +kernel, by decide +kernel⟩
def p_mix (K : PySem.W.Frag) : List V → Hp → V → Prop := fun vs H v => ∃ a ns k, vs = [.ref a, .int k] ∧ SqL K H a (ns.map V.int) ∧ v = .int (M.mix ns k)
theorem spv_mix {K : PySem.W.Frag} {H : Hp} {a : Addr} {ns : List Int} {k : Int} (hS : SqL K H a (ns.map V.int)) : SpV (SpO (p_mix K)) [.ref a, .int k] H (.int (M.mix ns k)) := spv fun H1 e => ⟨a, ns, k, rfl, ex_l e hS, rfl⟩
theorem d_mix (T : Tx fa fn ex w K mg) : Df P w K mg base CX0 2 "_law_mix" ["_law_script", "_law_k"] (SpO (p_mix K)) := by
  refine df_mk T 4 7 rfl rfl sc_mix (fun kV doc pm an cdv ct us hl => match us, hl with | [_, _], _ => rfl) (fun vs H Q E h => ?_) (fun f cdv A outer s H vs Q E hr h => ?_)
  · obtain ⟨v, ⟨a, ns, kk, rfl, hS, rfl⟩, _⟩ := h
    rfl
  · obtain ⟨v, ⟨a, ns, kk, rfl, hS, rfl⟩, k⟩ := h
    have ex := Ex.refl H
    refine ⟨_, PSs.nox (pss_cons (ps_set (i := 2) sc_mix.nd rfl (Or.inl rfl) (pe_op op_mod (pe_op op_add (pe_df (d_cell T) (hr.mono (by decide)) (pa_cons (pv 0) (pa_cons (pv 1) pa_nil))) (pe_op op_mul pe_int (pe_op op_add (pv 1) pe_int))) pe_int))
      (pss_cons (ps_set (i := 2) sc_mix.nd rfl (Or.inl rfl) (pe_op op_mod (pe_op op_mul (pv 2) pe_int) pe_int))
      (pss_one (ps_ret (pe_op op_mod (pe_op op_add (pe_op op_mul (pe_op op_fdivW (pv 2) pe_int) pe_int) (pv 2)) pe_int))))), ?_⟩
    refine q_asg (i := 2) (Ev.mono ex (ev_iC (by decide +kernel) (ev_i0 (ev_call (ea_cons (ev_var (i := 0) rfl) (ea_cons (ev_var (i := 1) rfl) ea_nil)) (spv_cell hS)) (ev_iC (.inl ⟨by decide, by decide⟩) ev_c (ev_i0 (ev_var (i := 1) rfl) ev_c))) ev_c)) (fun H1 e1 => ?_)
    have ex := ex.trans e1
    refine q_asg (i := 2) (Ev.mono ex (ev_iC (by decide +kernel) (ev_iC (.inr ⟨by decide, by decide⟩) (ev_var (i := 2) rfl) ev_c) ev_c)) (fun H1 e1 => ?_)
    have ex := ex.trans e1
    refine s_ret (Ev.mono ex (ev_iC (by decide +kernel) (ev_i0 (ev_iC (.inr ⟨by decide, by decide⟩) (ev_iC ⟨by decide, by decide⟩ (ev_var (i := 2) rfl) ev_c) ev_c) (ev_var (i := 2) rfl)) ev_c)) (fun H1 e1 => ?_)
    have ex := ex.trans e1
    exact ret_is (k _ ex) (by simp only [M.mix, ↓reduceIte, Bool.false_eq_true, if_false, if_true] <;> rfl)
theorem sc_whole : FnScope ["_law_found"] ["_law_found"] (defScope s_whole) := ⟨rfl, rfl, rfl, by decide +kernel, rfl, by decide +kernel, by decide +kernel⟩
def p_whole : List V → Hp → V → Prop := fun vs H v => ∃ n, vs = [.int n] ∧ v = .bl true
theorem spv_whole {H : Hp} {n : Int}  : SpV (SpO (p_whole)) [.int n] H (.bl true) := spv fun H1 e => ⟨n, rfl, rfl⟩
theorem d_whole (T : Tx fa fn ex w K mg) : Df P w K mg base CX0 1 "_law_whole" ["_law_found"] (SpO (p_whole)) := by
  refine df_mk T 5 11 rfl rfl sc_whole (fun kV doc pm an cdv ct us hl => match us, hl with | [_], _ => rfl) (fun vs H Q E h => ?_) (fun f cdv A outer s H vs Q E hr h => ?_)
  · obtain ⟨v, ⟨n, rfl, rfl⟩, _⟩ := h
    rfl
  · obtain ⟨v, ⟨n, rfl, rfl⟩, k⟩ := h
    have ex := Ex.refl H
    refine ⟨_, PSs.nox (pss_one (ps_ret (pe_and (pe_callB call_isi (by rfl) (T.free 9) (by decide +kernel) (pa_cons (pv 0) (pa_cons (pe_bltn (v := .ty "int") (by rfl) (T.free 8) (by decide +kernel) rfl) pa_nil))) (pe_one (pe_not (pe_callB call_isi (by rfl) (T.free 9) (by decide +kernel) (pa_cons (pv 0) (pa_cons (pe_bltn (v := .ty "bool") (by rfl) (T.free 10) (by decide +kernel) rfl) pa_nil)))))))), ?_⟩
    refine s_ret (Ev.mono ex (ev_andV (ev_isi (b := true) (ev_var (i := 0) rfl) ev_c (.ty _) (fun _ _ => .base (.int _)) (kit_ty (by decide +kernel))) (fun hc => (ev_notV (ev_isi (b := false) (ev_var (i := 0) rfl) ev_c (.ty _) (fun _ _ => .base (.int _)) (kit_ty (by decide +kernel))))))) (fun H1 e1 => ?_)
    have ex := ex.trans e1
    exact ret_is (k _ ex) rfl
theorem sc_law : FnScope ["_law_script", "_law_base", "_law_step", "_law_found", "_law_due", "_law_far", "_law_answer"] ["_law_script"] (defScope s_law) := ⟨rfl, rfl, rfl, by decide +kernel, rfl, by decide +kernel, by decide +kernel⟩
def spLaw (K : PySem.W.Frag) : Sp := fun vs H Q _ => ∃ (a : Addr) (ns : List Int), vs = [.ref a] ∧ SqL K H a (ns.map V.int) ∧ ns.length ≤ 63 ∧ ∀ H', Q (.bl true) H'
theorem law_ok {f : Addr} (T : Tx fa fn ex w K mg) (hfa : mg ("law" : Str) = some (.ref f)) : ∃ fd : FuncData, (∀ (s : Shared) (v : Value), BindsTo s fd ⟨[v], []⟩ [("_law_script", v)]) ∧ ∀ base : Heap, K.In base → base.Ns mainGlobals mg → FnOk P w K mg base CX0 4 f fd ["_law_script"] (spLaw K) := by
  refine law_mk T 6 12 rfl rfl sc_law (fun kV doc pm an cdv ct us hl => match us, hl with | [_], _ => rfl) hfa (fun vs H Q E h => ?_) (fun base f cdv A outer s H vs Q E hr h => ?_)
  · obtain ⟨a, ns, rfl, _⟩ := h
    rfl
  · obtain ⟨a, ns, rfl, hS, hlen, k⟩ := h
    have ex := Ex.refl H
    refine ⟨_, PSs.nox (pss_cons (ps_set (i := 1) sc_law.nd rfl (Or.inl rfl) (pe_df (d_mix T) (hr.mono (by decide)) (pa_cons (pv 0) (pa_cons pe_int pa_nil))))
      (pss_cons (ps_if (pt_cmpR op_eq (pe_op op_mod (pe_df (d_mix T) (hr.mono (by decide)) (pa_cons (pv 0) (pa_cons pe_int pa_nil))) pe_int) pe_int (nomark _)) (pss_one (ps_set (i := 1) sc_law.nd rfl (Or.inl rfl) (pe_op op_mod (pe_op op_sub pe_int (pe_op op_mod (pv 1) pe_int)) pe_int))) pss_nil)
      (pss_cons (ps_set (i := 2) sc_law.nd rfl (Or.inl rfl) (pe_op op_sub (pe_op op_mod (pe_df (d_cell T) (hr.mono (by decide)) (pa_cons (pv 0) (pa_cons pe_int pa_nil))) (pe_op op_pow pe_int pe_int)) (pe_op op_pow pe_int pe_int)))
      (pss_cons (ps_if (pt_cmpR op_gt (pe_op op_mod (pe_df (d_mix T) (hr.mono (by decide)) (pa_cons (pv 0) (pa_cons pe_int pa_nil))) pe_int) pe_int (nomark _)) (pss_one (ps_set (i := 2) sc_law.nd rfl (Or.inl rfl) (pe_ix ix_list (pe_lst (pa_cons pe_int (pa_cons pe_int (pa_cons (pe_un un_neg pe_int) (pa_cons pe_int (pa_cons (pe_un un_neg pe_int) (pa_cons pe_int (pa_cons pe_int pa_nil)))))))) (pe_op op_mod (pe_df (d_mix T) (hr.mono (by decide)) (pa_cons (pv 0) (pa_cons pe_int pa_nil))) pe_int) (fun _ _ => rfl)))) pss_nil)
      (pss_cons (ps_set (i := 3) sc_law.nd rfl (Or.inl rfl) (pe_df (d_plus T) (hr.mono (by decide)) (pa_cons (pv 1) (pa_cons (pv 2) pa_nil))))
      (pss_cons (ps_set (i := 4) sc_law.nd rfl (Or.inl rfl) (pe_op op_add (pv 1) (pv 2)))
      (pss_cons (ps_set (i := 4) sc_law.nd rfl (Or.inl rfl) (pe_op op_sub (pv 4) (pe_op op_mul (pe_op op_fdivW (pv 4) pe_int) pe_int)))
      (pss_cons (ps_if (PW.pt (pw_or (pt_not (pt_val (pe_df (d_whole T) (hr.mono (by decide)) (pa_cons (pv 3) pa_nil)))) (pw_or1 (pt_cmpR op_ne (pv 3) (pv 4) (nomark _))))) (pss_one (ps_ret pe_bl)) pss_nil)
      (pss_cons (ps_set (i := 5) sc_law.nd rfl (Or.inl rfl) (pe_df (d_offset T) (hr.mono (by decide)) (pa_cons (pv 3) (pa_cons (pv 1) pa_nil))))
      (pss_cons (ps_if (PW.pt (pw_or (pt_not (pt_val (pe_df (d_whole T) (hr.mono (by decide)) (pa_cons (pv 5) pa_nil)))) (pw_or (pt_not (pt_chain op_le op_le (pe_un un_neg pe_int) (pv 5) pe_int)) (pw_or1 (pt_cmpR op_ne (pe_op op_mod (pe_op op_sub (pe_op op_add (pv 1) (pv 5)) (pv 3)) pe_int) pe_int (nomark _)))))) (pss_one (ps_ret pe_bl)) pss_nil)
      (pss_cons (ps_set (i := 6) sc_law.nd rfl (Or.inl rfl) (pe_df (d_past T) (hr.mono (by decide)) (pa_cons (pv 3) (pa_cons (pv 1) pa_nil))))
      (pss_one (ps_ret (pe_and (pe_callB call_isi (by rfl) (T.free 9) (by decide +kernel) (pa_cons (pv 6) (pa_cons (pe_bltn (v := .ty "bool") (by rfl) (T.free 10) (by decide +kernel) rfl) pa_nil))) (pe_one (pe_cmpR op_eq (pv 6) (pe_cmpR op_gt (pv 5) pe_int (nomark _)) (nomark _))))))))))))))))), ?_⟩
    refine q_asg (i := 1) (Ev.mono ex (ev_call (ea_cons (ev_var (i := 0) rfl) (ea_cons ev_c ea_nil)) (spv_mix hS))) (fun H1 e1 => ?_)
    have ex := ex.trans e1
    refine q_ifI (i := 1) (fun b => 0 ≤ b ∧ b < 4294967296) (EvT.mono ex (et_test (ev_eqI (ev_iC (by decide +kernel) (ev_call (ea_cons (ev_var (i := 0) rfl) (ea_cons ev_c ea_nil)) (spv_mix hS)) ev_c) ev_c))) (fun hc => ⟨_, Ev.mono ex (ev_iC (by decide +kernel) (ev_i0 ev_c (ev_iC (by decide +kernel) (ev_var (i := 1) rfl) ev_c)) ev_c), (by omega)⟩) (fun hc => ⟨_, rfl, (by have := M.mix_lo ns 0; have := M.mix_hi ns 0; omega)⟩) (fun base H1 e1 hb => ?_)
    have ex := ex.trans e1
    refine q_asg (i := 2) (Ev.mono ex (ev_i0 (ev_iC (by decide +kernel) (ev_call (ea_cons (ev_var (i := 0) rfl) (ea_cons ev_c ea_nil)) (spv_cell hS)) (ev_iC ⟨by decide, by decide, by decide⟩ ev_c ev_c)) (ev_iC ⟨by decide, by decide, by decide⟩ ev_c ev_c))) (fun H1 e1 => ?_)
    have ex := ex.trans e1
    refine q_ifI (i := 2) (fun _ => True) (EvT.mono ex (et_test (ev_i0 (ev_iC (by decide +kernel) (ev_call (ea_cons (ev_var (i := 0) rfl) (ea_cons ev_c ea_nil)) (spv_mix hS)) ev_c) ev_c))) (fun hc => ⟨_, Ev.mono ex (ev_ixNi (el_dispI (ea_consI ev_c (ea_consI ev_c (ea_consI (ev_neg ev_c) (ea_consI ev_c (ea_consI (ev_neg ev_c) (ea_consI ev_c (ea_consI ev_c ea_nilI))))))) (by decide)) (ev_iC (by decide +kernel) (ev_call (ea_cons (ev_var (i := 0) rfl) (ea_cons ev_c ea_nil)) (spv_mix hS)) ev_c) (by have := M.mix_lo ns 4; simp only [List.length]; omega)), trivial⟩) (fun hc => ⟨_, rfl, trivial⟩) (fun step H1 e1 hs => ?_)
    have ex := ex.trans e1
    refine q_asg (i := 3) (Ev.mono ex (ev_call (ea_cons (ev_var (i := 1) rfl) (ea_cons (ev_var (i := 2) rfl) ea_nil)) (spv_plus ))) (fun H1 e1 => ?_)
    have ex := ex.trans e1
    refine q_asg (i := 4) (Ev.mono ex (ev_i0 (ev_var (i := 1) rfl) (ev_var (i := 2) rfl))) (fun H1 e1 => ?_)
    have ex := ex.trans e1
    refine q_asg (i := 4) (Ev.mono ex (ev_i0 (ev_var (i := 4) rfl) (ev_iC (.inr ⟨by decide, by decide⟩) (ev_iC ⟨by decide, by decide⟩ (ev_var (i := 4) rfl) ev_c) ev_c))) (fun H1 e1 => ?_)
    have ex := ex.trans e1
    refine q_no (EvT.mono ex (et_or (et_not (et_B (ev_call (ea_cons (ev_var (i := 3) rfl) ea_nil) (spv_whole )))) (fun hc => (et_test (ev_neI (ev_var (i := 3) rfl) (ev_var (i := 4) rfl)))))) (by rw [M.due_plus]; simp) (fun H1 e1 => ?_)
    have ex := ex.trans e1
    refine q_asg (i := 5) (Ev.mono ex (ev_call (ea_cons (ev_var (i := 3) rfl) (ea_cons (ev_var (i := 1) rfl) ea_nil)) (spv_offset ))) (fun H1 e1 => ?_)
    have ex := ex.trans e1
    refine q_no (EvT.mono ex (et_or (et_not (et_B (ev_call (ea_cons (ev_var (i := 5) rfl) ea_nil) (spv_whole )))) (fun hc => (et_or (et_not (et_test (ev_ch (ev_neg ev_c) (ev_var (i := 5) rfl) ev_c))) (fun hc => (et_test (ev_neI (ev_iC (by decide +kernel) (ev_i0 (ev_i0 (ev_var (i := 1) rfl) (ev_var (i := 5) rfl)) (ev_var (i := 3) rfl)) ev_c) ev_c))))))) (M.far_ok hb.1 hb.2) (fun H1 e1 => ?_)
    have ex := ex.trans e1
    refine q_asg (i := 6) (Ev.mono ex (ev_call (ea_cons (ev_var (i := 3) rfl) (ea_cons (ev_var (i := 1) rfl) ea_nil)) (spv_past ))) (fun H1 e1 => ?_)
    have ex := ex.trans e1
    refine s_ret (Ev.mono ex (ev_andV (ev_isi (b := true) (ev_var (i := 6) rfl) ev_c (.ty _) (fun _ _ => .base (.bl _)) (kit_ty (by decide +kernel))) (fun hc => (ev_eqB (ev_var (i := 6) rfl) (ev_i0 (ev_var (i := 5) rfl) ev_c))))) (fun H1 e1 => ?_)
    exact ret_is (k _) (by simp [M.past])
end
abbrev R : PySem.W.OpenRow := PySem.W.OpenLaw.row PySem.Challenge.rw_wirestream_k01_offsets
abbrev hk : PySem.W.Hook := He.hookX 6 fa fn [] [] ex
def ob (s : PySem.W.SharedT) : He.AlX := He.obsX 6 fa fn [] [] ex (HandSHeadRun.getT s)
theorem ob_eq (s : PySem.W.SharedT) : ob s = hk.obs s.abs := He.obsX_eq (HandSHeadRun.getT_eq s)
theorem run (w : World) : HandSHeadRun.RunEq R (PySem.W.view R.prog [11]) hk ob 1500 ["__name__", "ROUND", "HALF", "plus", "offset", "past", "_law_cell", "_law_mix", "_law_whole", "_law_wholes"] w := by
  intro os
  kernel_rfl
end Pr
open PySem PySem.W PySem.Calls PyProof.Rows
theorem PySem.Challenge.cw_wirestream_k01_offsets_holds : PySem.Challenge.rw_wirestream_k01_offsets.Holds := by
  w_on; o_law
  refine HandSHeadRun.head_any (r := OpenLaw.row PySem.Challenge.rw_wirestream_k01_offsets) (q := view (OpenLaw.row PySem.Challenge.rw_wirestream_k01_offsets).prog [11]) (H := Pr.hk) (ob := Pr.ob) (M := 1500) (loose := ["__name__", "ROUND", "HALF", "plus", "offset", "past", "_law_cell", "_law_mix", "_law_whole", "_law_wholes"]) (d := HandSHeadRun.topDef (OpenLaw.row PySem.Challenge.rw_wirestream_k01_offsets).prog 11) (kwd := []) Pr.ob_eq
    (by kernel_rfl) (fun s => by kernel_rfl) Pr.run (by kernel_rfl) (by kernel_rfl) (by kernel_rfl) (by rfl) (by first | assumption | decide +kernel) (by decide +kernel) ⟨rfl, rfl, rfl, rfl, rfl, by decide +kernel⟩ ?hw ?hc
  case hw => w_witness2
  case hc =>
    refine L2.walk_ofE (l := PySem.Challenge.rw_wirestream_k01_offsets) (n := 63) (k := 4) (x := "_law_script") (CX := L2.CX0) rfl (by decide) (by kernel_rfl) ⟨rfl, by decide, by decide⟩ ?F (fun _ _ _ _ z => z)
    intro w mg fa h Y G hmg0
    obtain ⟨K, KX, c⟩ := Y
    have hmg : mg ("law" : PySem.Str) = some (.ref fa) := by
      have e : (HandSHeadRun.topDef (OpenLaw.row PySem.Challenge.rw_wirestream_k01_offsets).prog 11).name = ("law" : PySem.Str) := by kernel_rfl
      rw [← e]
      exact hmg0
    obtain ⟨fd, hb, hF⟩ := Pr.law_ok (P := (PySem.Challenge.rw_wirestream_k01_offsets).prog) (w := w) (T := ⟨⟨h, KX, G⟩, c.t.d, c.more⟩) hmg
    exact ⟨K, fd, Pr.spLaw K, KX, hb, fun H a ns hl _ hS => ⟨a, ns, rfl, hS, hl, fun _ => rfl⟩, hF⟩
#print axioms PySem.Challenge.cw_wirestream_k01_offsets_holds
