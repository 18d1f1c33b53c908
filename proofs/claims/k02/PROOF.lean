import PyProof.Rows.All
import Wide.All
import OpenK.AllK
import Wide.FinOn
import HandS.ForSpec
import HandS.Evl
import HandS.Wide
import HandS.IsInst
import HandS.Defaults
import HandS.TupAny
import HandS.TupMul
import HandS.HeadHook4
import HandS.HeadEnd
import HandS.Head2
import HandS.Iter
import HandS.Conv
import PyProof.AutoSeq1
import PySem.Challenge.RW_wirestream_k02_sums
set_option Elab.async false
set_option linter.all false
set_option maxRecDepth 100000
set_option maxHeartbeats 4000000
/-! Heaps in parts: a list of things owned, each in a part of the heap of its own. -/
namespace Wr
open PySem L2

def Sub (H1 H : Hp) : Prop := ∀ a o, H1 a = some o → H a = some o
theorem Sub.refl (H : Hp) : Sub H H := fun _ _ h => h
theorem Sub.trans {A B C : Hp} (h : Sub A B) (k : Sub B C) : Sub A C := fun a o e => k a o (h a o e)
theorem Sub.none {A B : Hp} (h : Sub A B) {a : Addr} (e : B a = Option.none) : A a = Option.none := by
  cases q : A a with
  | none => rfl
  | some o => rw [h a o q] at e; cases e
def Dis (H1 H2 : Hp) : Prop := ∀ a, H1 a = none ∨ H2 a = none

structure Ck where
  ok : Hp → Prop
  up : ∀ H H', Sub H H' → ok H → ok H'

def Own : List Ck → Hp → Prop
  | [], _ => True
  | c :: cs, H => ∃ H1 H2, Sub H1 H ∧ Sub H2 H ∧ Dis H1 H2 ∧ c.ok H1 ∧ Own cs H2

theorem own_up {cs : List Ck} {H H' : Hp} (s : Sub H H') (o : Own cs H) : Own cs H' := by
  cases cs with
  | nil => exact trivial
  | cons c cs =>
    obtain ⟨H1, H2, a, b, d, e, f⟩ := o
    exact ⟨H1, H2, a.trans s, b.trans s, d, e, f⟩

theorem own_tail {c : Ck} {cs : List Ck} {H : Hp} (o : Own (c :: cs) H) : Own cs H := by
  obtain ⟨H1, H2, a, b, d, e, f⟩ := o
  exact own_up b f
theorem own_head {c : Ck} {cs : List Ck} {H : Hp} (o : Own (c :: cs) H) : c.ok H := by
  obtain ⟨H1, H2, a, b, d, e, f⟩ := o
  exact c.up _ _ a e
theorem own_swap {c d : Ck} {cs : List Ck} {H : Hp} (o : Own (c :: d :: cs) H) : Own (d :: c :: cs) H := by
  obtain ⟨H1, H2, s1, s2, d12, e, H3, H4, s3, s4, d34, e2, f⟩ := o
  let U : Hp := fun a => match H1 a with
    | some o => some o
    | none => H4 a
  have u1 : Sub H1 U := fun a o h => by simp only [U, h]
  have u4 : Sub H4 U := fun a o h => by
    rcases d12 a with q | q
    · simp only [U, q, h]
    · rw [s4 a o h] at q; cases q
  refine ⟨H3, U, s3.trans s2, fun a o h => ?_, fun a => ?_, e2, H1, H4, u1, u4, fun a => ?_, e, f⟩
  · cases q : H1 a with
    | some o' =>
      simp only [U, q] at h
      exact s1 a o (q.trans h)
    | none =>
      simp only [U, q] at h
      exact s2 a o (s4 a o h)
  · rcases d34 a with q | q
    · exact .inl q
    · cases q1 : H1 a with
      | some o' =>
        rcases d12 a with q2 | q2
        · rw [q1] at q2; cases q2
        · exact .inl (s3.none q2)
      | none => exact .inr (by simp only [U, q1, q])
  · rcases d12 a with q | q
    · exact .inl q
    · exact .inr (s4.none q)
theorem own_mid {c : Ck} {as : List Ck} : ∀ {bs : List Ck} {H : Hp}, Own (c :: (bs ++ as)) H → Own (bs ++ c :: as) H
  | [], _, o => o
  | b :: bs, H, o => by
    obtain ⟨H1, H2, s1, s2, d, e, f⟩ := own_swap o
    exact ⟨H1, H2, s1, s2, d, e, own_mid f⟩
theorem own_tl {c : Ck} {cs ds : List Ck} (h : ∀ H, Own cs H → Own ds H) {H : Hp} (o : Own (c :: cs) H) : Own (c :: ds) H := by
  obtain ⟨H1, H2, s1, s2, d, e, f⟩ := o
  exact ⟨H1, H2, s1, s2, d, e, h _ f⟩
theorem own_hd {c d : Ck} {cs : List Ck} (h : ∀ H, c.ok H → d.ok H) {H : Hp} (o : Own (c :: cs) H) : Own (d :: cs) H := by
  obtain ⟨H1, H2, s1, s2, d, e, f⟩ := o
  exact ⟨H1, H2, s1, s2, d, h _ e, f⟩

/-- one out of a list -/
inductive Pick {α : Type} : α → List α → List α → Prop
  | here {a : α} {l : List α} : Pick a (a :: l) l
  | there {a b : α} {l r : List α} : Pick a l r → Pick a (b :: l) (b :: r)
theorem own_pick {c : Ck} {cs rs : List Ck} (p : Pick c cs rs) : ∀ {H : Hp}, Own cs H → Own (c :: rs) H := by
  induction p with
  | here => exact fun o => o
  | there _ ih => exact fun o => own_swap (own_tl (fun _ => ih) o)
theorem own_back {c : Ck} {cs rs : List Ck} (p : Pick c cs rs) : ∀ {H : Hp}, Own (c :: rs) H → Own cs H := by
  induction p with
  | here => exact fun o => o
  | there _ ih => exact fun o => own_tl (fun _ => ih) (own_swap o)
/-- one in the place of another -/
inductive Put {α : Type} : α → α → List α → List α → Prop
  | here {a b : α} {l : List α} : Put a b (a :: l) (b :: l)
  | there {a b c : α} {l r : List α} : Put a b l r → Put a b (c :: l) (c :: r)
theorem Put.two {α : Type} {a b : α} {l r : List α} (p : Put a b l r) : ∃ m, Pick a l m ∧ Pick b r m := by
  induction p with
  | here => exact ⟨_, .here, .here⟩
  | there _ ih =>
    obtain ⟨m, h1, h2⟩ := ih
    exact ⟨_, .there h1, .there h2⟩

/-! ### kinds of things -/
@[irreducible] def pt (a : Addr) (o : HO) : Ck := ⟨fun H => H a = some o, fun _ _ s h => s _ _ h⟩
theorem pt_ok {a : Addr} {o : HO} {H : Hp} : (pt a o).ok H ↔ H a = some o := by unfold pt; exact Iff.rfl
theorem rd_up {H H' : Hp} (s : Sub H H') {a : Addr} {u : HO} (h : Rd H a u) : Rd H' a u := by
  rcases h with h | ⟨o, h⟩
  · exact .inl (s _ _ h)
  · exact .inr ⟨o, s _ _ h⟩
theorem sql_up {K : PySem.W.Frag} {H H' : Hp} (s : Sub H H') {a : Addr} {xs : List V} (h : SqL K H a xs) : SqL K H' a xs := by
  rcases h with h | h
  · exact .inl (rd_up s h)
  · exact .inr h
theorem sqt_up {K : PySem.W.Frag} {H H' : Hp} (s : Sub H H') {a : Addr} {xs : List V} (h : SqT K H a xs) : SqT K H' a xs := by
  rcases h with h | h
  · exact .inl (rd_up s h)
  · exact .inr h
/-- a list, a tuple that is read -/
@[irreducible] def sq (K : PySem.W.Frag) (a : Addr) (xs : List V) : Ck := ⟨fun H => SqL K H a xs, fun _ _ s h => sql_up s h⟩
@[irreducible] def tq (K : PySem.W.Frag) (a : Addr) (xs : List V) : Ck := ⟨fun H => SqT K H a xs, fun _ _ s h => sqt_up s h⟩
theorem sq_ok {K : PySem.W.Frag} {a : Addr} {xs : List V} {H : Hp} : (sq K a xs).ok H ↔ SqL K H a xs := by unfold sq; exact Iff.rfl
theorem tq_ok {K : PySem.W.Frag} {a : Addr} {xs : List V} {H : Hp} : (tq K a xs).ok H ↔ SqT K H a xs := by unfold tq; exact Iff.rfl
/-- several as one; one that there is -/
@[irreducible] def sep (cs : List Ck) : Ck := ⟨Own cs, fun _ _ s h => own_up s h⟩
theorem sep_ok {cs : List Ck} {H : Hp} : (sep cs).ok H ↔ Own cs H := by unfold sep; exact Iff.rfl
@[irreducible] def exk {α : Type} (f : α → Ck) : Ck := ⟨fun H => ∃ x, (f x).ok H, fun _ _ s ⟨x, h⟩ => ⟨x, (f x).up _ _ s h⟩⟩
theorem exk_ok {α : Type} {f : α → Ck} {H : Hp} : (exk f).ok H ↔ ∃ x, (f x).ok H := by unfold exk; exact Iff.rfl
@[irreducible] def pur (p : Prop) : Ck := ⟨fun _ => p, fun _ _ _ h => h⟩
theorem pur_ok {p : Prop} {H : Hp} : (pur p).ok H ↔ p := by unfold pur; exact Iff.rfl

def emp : Hp := fun _ => none
theorem emp_sub (H : Hp) : Sub emp H := fun _ _ h => by cases h
theorem emp_dis (H : Hp) : Dis emp H := fun _ => .inl rfl

theorem own_sep {as : List Ck} : ∀ {cs : List Ck} {H : Hp}, Own (sep as :: cs) H ↔ Own (as ++ cs) H := by
  induction as with
  | nil =>
    intro cs H
    exact ⟨fun o => own_tail o, fun o => ⟨emp, H, emp_sub H, Sub.refl H, emp_dis H, sep_ok.mpr trivial, o⟩⟩
  | cons a as ih =>
    intro cs H
    constructor
    · rintro ⟨H1, H2, s1, s2, d, e, f⟩
      obtain ⟨H3, H4, s3, s4, d34, e3, f4⟩ := sep_ok.mp e
      have o : Own (sep as :: a :: cs) H := by
        refine ⟨H4, fun x => match H3 x with | some o => some o | none => H2 x, s4.trans s1, fun x o h => ?_, fun x => ?_, sep_ok.mpr f4, H3, H2, fun x o h => by simp only [h], fun x o h => ?_, fun x => ?_, e3, f⟩
        · cases q : H3 x with
          | some o' => simp only [q] at h; exact s1 x o (s3 x o (q.trans h))
          | none => simp only [q] at h; exact s2 x o h
        · cases q : H4 x with
          | none => exact .inl rfl
          | some o' =>
            refine .inr ?_
            rcases d34 x with z | z
            · simp only [z]
              rcases d x with z2 | z2
              · rw [s4 x o' q] at z2; cases z2
              · exact z2
            · rw [q] at z; cases z
        · cases q : H3 x with
          | none => simp only [q]; exact h
          | some o' =>
            rcases d x with z | z
            · rw [s3 x o' q] at z; cases z
            · rw [h] at z; cases z
        · rcases d x with z | z
          · exact .inl (s3.none z)
          · exact .inr z
      exact own_tl (fun _ q => ih.mp q) (own_swap o)
    · intro o
      have o2 : Own (a :: sep as :: cs) H := own_tl (fun _ q => ih.mpr q) o
      obtain ⟨H1, H2, s1, s2, d, e, H3, H4, s3, s4, d34, e3, f4⟩ := o2
      refine ⟨fun x => match H1 x with | some o => some o | none => H3 x, H4, fun x o h => ?_, s4.trans s2, fun x => ?_, sep_ok.mpr ⟨H1, H3, fun x o h => by simp only [h], fun x o h => ?_, fun x => ?_, e, sep_ok.mp e3⟩, f4⟩
      · cases q : H1 x with
        | some o' => simp only [q] at h; exact s1 x o (q.trans h)
        | none => simp only [q] at h; exact s2 x o (s3 x o h)
      · cases q : H4 x with
        | none => exact .inr rfl
        | some o' =>
          refine .inl ?_
          rcases d x with z | z
          · simp only [z]
            rcases d34 x with z2 | z2
            · exact z2
            · rw [q] at z2; cases z2
          · rw [s4 x o' q] at z; cases z
      · cases q : H1 x with
        | none => simp only [q]; exact h
        | some o' =>
          rcases d x with z | z
          · rw [q] at z; cases z
          · rw [s3 x o h] at z; cases z
      · rcases d x with z | z
        · exact .inl z
        · exact .inr (s3.none z)
theorem own_ex {α : Type} {f : α → Ck} {cs : List Ck} {H : Hp} : Own (exk f :: cs) H ↔ ∃ x, Own (f x :: cs) H := by
  constructor
  · rintro ⟨H1, H2, s1, s2, d, e, g⟩
    obtain ⟨x, e⟩ := exk_ok.mp e
    exact ⟨x, H1, H2, s1, s2, d, e, g⟩
  · rintro ⟨x, H1, H2, s1, s2, d, e, g⟩
    exact ⟨H1, H2, s1, s2, d, exk_ok.mpr ⟨x, e⟩, g⟩
theorem own_pur {p : Prop} {cs : List Ck} {H : Hp} : Own (pur p :: cs) H ↔ p ∧ Own cs H := by
  constructor
  · intro o
    exact ⟨pur_ok.mp (own_head o), own_tail o⟩
  · rintro ⟨h, o⟩
    exact ⟨emp, H, emp_sub H, Sub.refl H, emp_dis H, pur_ok.mpr h, o⟩
theorem own_one {c : Ck} {H : Hp} (h : c.ok H) : Own [c] H := ⟨H, emp, Sub.refl H, emp_sub H, fun _ => .inr rfl, h, trivial⟩

/-! ### reading, storing, making -/
theorem own_at {a : Addr} {o : HO} {cs rs : List Ck} {H : Hp} (h : Own cs H) (p : Pick (pt a o) cs rs) : H a = some o := pt_ok.mp (own_head (own_pick p h))
theorem own_upd {a : Addr} {o u : HO} {cs : List Ck} {H : Hp} (h : Own (pt a o :: cs) H) : Own (pt a u :: cs) (upd H a u) := by
  obtain ⟨H1, H2, s1, s2, d, e, f⟩ := h
  have n2 : H2 a = none := by
    rcases d a with q | q
    · rw [pt_ok.mp e] at q; cases q
    · exact q
  refine ⟨upd H1 a u, H2, fun b x q => ?_, fun b x q => ?_, fun b => ?_, pt_ok.mpr upd_same, f⟩
  · by_cases hb : b = a
    · subst hb; rw [upd_same] at q ⊢; exact q
    · rw [upd_ne hb] at q ⊢; exact s1 b x q
  · have hb : b ≠ a := fun z => by rw [z, n2] at q; cases q
    rw [upd_ne hb]; exact s2 b x q
  · by_cases hb : b = a
    · subst hb; exact .inr n2
    · rw [upd_ne hb]; exact d b
theorem own_put {a : Addr} {o u : HO} {cs ds : List Ck} {H : Hp} (h : Own cs H) (p : Put (pt a o) (pt a u) cs ds) : Own ds (upd H a u) := by
  obtain ⟨m, h1, h2⟩ := p.two
  exact own_back h2 (own_upd (own_pick h1 h))
theorem own_new {a : Addr} {u : HO} {cs : List Ck} {H : Hp} (h : Own cs H) (n : H a = none) : Own (pt a u :: cs) (upd H a u) := by
  refine ⟨fun b => if b = a then some u else none, H, fun b x q => ?_, fun b x q => ?_, fun b => ?_, pt_ok.mpr (by simp), h⟩
  · by_cases hb : b = a
    · subst hb; rw [upd_same]; simpa using q
    · simp [hb] at q
  · have hb : b ≠ a := fun z => by rw [z, n] at q; cases q
    rw [upd_ne hb]; exact q
  · by_cases hb : b = a
    · subst hb; exact .inr n
    · simp [hb]
theorem own_sql {K : PySem.W.Frag} {a : Addr} {xs : List V} {cs rs : List Ck} {H : Hp} (h : Own cs H) (p : Pick (sq K a xs) cs rs) : SqL K H a xs := sq_ok.mp (own_head (own_pick p h))
theorem own_sqt {K : PySem.W.Frag} {a : Addr} {xs : List V} {cs rs : List Ck} {H : Hp} (h : Own cs H) (p : Pick (tq K a xs) cs rs) : SqT K H a xs := tq_ok.mp (own_head (own_pick p h))
theorem own_sql_pt {K : PySem.W.Frag} {a : Addr} {xs : List V} {cs rs : List Ck} {H : Hp} (h : Own cs H) (p : Pick (pt a (.lst xs)) cs rs) : SqL K H a xs := .inl (.inl (own_at h p))
theorem own_sqt_pt {K : PySem.W.Frag} {a : Addr} {xs : List V} {cs rs : List Ck} {H : Hp} (h : Own cs H) (p : Pick (pt a (.tup xs)) cs rs) : SqT K H a xs := .inl (.inl (own_at h p))
theorem own_to_sq {K : PySem.W.Frag} {a : Addr} {xs : List V} {cs : List Ck} {H : Hp} (h : Own (pt a (.lst xs) :: cs) H) : Own (sq K a xs :: cs) H := own_hd (fun _ q => sq_ok.mpr (.inl (.inl (pt_ok.mp q)))) h
theorem own_to_tq {K : PySem.W.Frag} {a : Addr} {xs : List V} {cs : List Ck} {H : Hp} (h : Own (pt a (.tup xs) :: cs) H) : Own (tq K a xs :: cs) H := own_hd (fun _ q => tq_ok.mpr (.inl (.inl (pt_ok.mp q)))) h
end Wr

/-! Defs as data; what expressions come to. -/
namespace Wr
open PySem PySem.Spec PyProof.Rows L2 Evl

/-! ### a def that stands at a name of the module -/
structure Df (P : Program) (w : World) (K : PySem.W.Frag) (mg : Str → Option Value) (base : Heap) (CX : CXT) (k : Nat) (x : Str) (ps : List Str) (sp : Sp) : Prop where
  ex : ∃ (f : Addr) (fd : FuncData), FnOk P w K mg base CX k f fd ps sp ∧ mg x = some (.ref f) ∧ PySem.W.keepIn K (.ref f) = true ∧ Binds K fd ps []

theorem pe_df {X : Cx} {k : Nat} {x : Str} {ps : List Str} {sp : Sp} {e : Expr} {es : List Expr} {t : TA} {p pos : Pos} (D : Df X.prog X.w X.K X.mg X.base CX0 k x ps sp) (hr : Room k X.A) (ha : PA X (e :: es) t)
    (hg : Gl X x := by rfl) (hdb : (x == ("__debug__" : Str)) = false := by decide) (he : starEach (e :: es) X.env = (false, eval e X.env) :: starEach es X.env := by rfl) (hpl : (backTo pos (starEach es X.env)).any (·.1) = false := by rfl) :
    PE X (.Call (.Name x p) (e :: es) [] pos) (tCall sp [] (fun _ _ _ => False) t) := by
  obtain ⟨f, fd, G, hm, kp, b⟩ := D.ex
  exact pe_call G hr hg hm kp b .nil pass0 ha hdb he hpl

/-! ### what the top has left -/
structure Tx (fa : List He.Fa) (fn : List He.DefD) (ex : PySem.W.Frag → Bool) (w : World) (K : PySem.W.Frag) (mg : Str → Option Value) : Prop where
  hp : ∃ h : Heap, K.In h ∧ h.Ns mainGlobals mg
  says : He.SaysD fa fn K
  more : ex K = true
section
variable {fa : List He.Fa} {fn : List He.DefD} {ex : PySem.W.Frag → Bool} {w : World} {K : PySem.W.Frag} {mg : Str → Option Value}
theorem Tx.int (T : Tx fa fn ex w K mg) (i : Nat) {x : Str} {n : Int} (h : fa[i]? = some (.int x n) := by rfl) : ∃ t, mg x = some (.int n t) := by
  obtain ⟨h1, X, G⟩ := T.hp
  exact He.int_ok X G (T.says.fact i h)
theorem Tx.str (T : Tx fa fn ex w K mg) (i : Nat) {x z : Str} (h : fa[i]? = some (.str x z) := by rfl) : ∃ t, mg x = some (.str z t) := by
  obtain ⟨h1, X, G⟩ := T.hp
  exact He.str_ok X G (T.says.fact i h)
theorem Tx.free (T : Tx fa fn ex w K mg) (i : Nat) {x : Str} (h : fa[i]? = some (.free x) := by rfl) : mg x = none := by
  obtain ⟨h1, X, G⟩ := T.hp
  exact He.free_ok X G (T.says.fact i h)
theorem Tx.glo (T : Tx fa fn ex w K mg) (i : Nat) {x : Str} (h : fa[i]? = some (.glo x) := by rfl) : mg x = some (.ref (He.ga K x)) := by
  obtain ⟨h1, X, G⟩ := T.hp
  exact He.glo_ok X G (T.says.fact i h)
end
/-- a global int, a global text -/
theorem pe_gi {X : Cx} {x : Str} {p : Pos} {n : Int} (hm : ∃ t, X.mg x = some (.int n t)) (hg : Gl X x := by rfl) (hd : (x == ("__debug__" : Str)) = false := by decide) : PE X (.Name x p) (tC (.int n)) := by
  obtain ⟨t, e⟩ := hm
  exact pe_glob hg e ⟨t, rfl⟩ (hd := hd)
theorem pe_gs {X : Cx} {x : Str} {p : Pos} {z : Str} (hm : ∃ t, X.mg x = some (.str z t)) (hg : Gl X x := by rfl) (hd : (x == ("__debug__" : Str)) = false := by decide) : PE X (.Name x p) (tC (.str z)) := by
  obtain ⟨t, e⟩ := hm
  exact pe_glob hg e ⟨t, rfl⟩ (hd := hd)

section
variable {P : Program} {w : World} {K : PySem.W.Frag} {mg : Str → Option Value} {base : Heap} {fa : List He.Fa} {fn : List He.DefD} {ex : PySem.W.Frag → Bool}
/-- a def of the text: its number among fn, and the number of its name among fa -/
theorem df_mk {x : Str} {N ps : List Str} {k : Nat} {sp : Sp} {ar : Arguments} {bo : List Stmt} {sc : Scope} (T : Tx fa fn ex w K mg) (i j : Nat) (hi : fn[i]? = some ⟨(x, none), x, x, ar, bo, sc, [], []⟩) (hj : fa[j]? = some (.glo x)) (S : FnScope N ps sc)
    (hb : ∀ (kV doc pm : Value) (an : Option Addr) (cdv ct : Value) (us : List Value), us.length = ps.length → bindArgs (PySem.W.fnOf x x ar bo sc .none kV doc pm an cdv ct) ⟨us, []⟩ = pure (ps.zip us))
    (len : ∀ vs H Q E, sp vs H Q E → vs.length = ps.length)
    (hbody : ∀ (f : Addr) (cdv : Value) (A : Around) (outer : List Env) (s : Shared) (H : Hp) (vs : List V) (Q : VK) (E : XK), Room k (A.deeper (envOfC x sc s.heap.objs.size f cdv)) → sp vs H Q E →
      ∃ t, PSs (cxOf CX0 P w K mg base N x sc f cdv A outer s H E).nox bo t ∧ t { nx := fun _ H' => Q .non H', rt := Q } (start N vs) H) : Df P w K mg base CX0 (k + 1) x ps sp := by
  obtain ⟨fd, F⟩ := T.says.def_ i hi
  have h1 := T.glo j hj
  refine ⟨He.ga K x, fd, ?_, h1, F.kp, F.bindsN hb⟩
  refine F.ok S len fun cdv A outer s H vs Q E hr h => ?_
  obtain ⟨t, q, r⟩ := hbody _ cdv A outer s H vs Q E hr h
  exact ⟨t, q.nox, r⟩
end

/-! ### promises of defs that change nothing -/
def SpO (pre : List V → Hp → V → Prop) : Sp := fun vs H Q _ => ∃ v, pre vs H v ∧ ∀ H', Ex H H' → Q v H'
def SpLi (pre : List V → Hp → List Int → Prop) : Sp := fun vs H Q _ => ∃ xs, pre vs H xs ∧ ∀ p H', H p = none → Ex H H' → H' p = some (.lst (xs.map V.int)) → Q (.ref p) H'
theorem spv {pre : List V → Hp → V → Prop} {vs : List V} {H : Hp} {v : V} (h : ∀ H1, Ex H H1 → pre vs H1 v) : SpV (SpO pre) vs H v := fun H1 e Q q E => ⟨v, h H1 e, fun H2 e2 => q H2 e2⟩
theorem spl {pre : List V → Hp → List Int → Prop} {vs : List V} {H : Hp} {xs : List Int} (h : ∀ H1, Ex H H1 → pre vs H1 xs) : SpL (SpLi pre) vs H (xs.map V.int) := fun H1 e Q q E => ⟨xs, h H1 e, fun p H2 n e2 hp => q p H2 n e2 hp⟩

/-! ### values -/
section
variable {K : PySem.W.Frag} {σ : L2.St} {H H' : Hp} {ta tb tc te tx : TE} {t u : TT} {x y z v : V} {r : R2} {i j k : Int}
theorem ev_i0 {g : Int → Int → V} (ha : Ev ta σ H (.int i)) (hb : Ev tb σ H (.int j)) : Ev (tOp (rI0 g) ta tb) σ H (g i j) := ev_op ha hb rv_I0
theorem ev_iC {C : Int → Int → Prop} {g : Int → Int → V} (hc : C i j) (ha : Ev ta σ H (.int i)) (hb : Ev tb σ H (.int j)) : Ev (tOp (rI C g) ta tb) σ H (g i j) := ev_op ha hb (rv_I hc)
theorem dec_V {i j : Int} : decide (V.int i = V.int j) = decide (i = j) := by
  by_cases h : i = j
  · subst h; simp
  · rw [decide_eq_false h, decide_eq_false (fun e => h (V.int.inj e))]
theorem dec_S {i j : Str} : decide (V.str i = V.str j) = decide (i = j) := by
  by_cases h : i = j
  · subst h; simp
  · rw [decide_eq_false h, decide_eq_false (fun e => h (V.str.inj e))]
theorem dec_B {i j : Bool} : decide (V.bl i = V.bl j) = decide (i = j) := by cases i <;> cases j <;> rfl
theorem ev_eqI (ha : Ev ta σ H (.int i)) (hb : Ev tb σ H (.int j)) : Ev (tOp rEq ta tb) σ H (.bl (decide (i = j))) := dec_V ▸ ev_op ha hb (rv_eq rfl)
theorem ev_neI (ha : Ev ta σ H (.int i)) (hb : Ev tb σ H (.int j)) : Ev (tOp rNe ta tb) σ H (.bl (!decide (i = j))) := dec_V ▸ ev_op ha hb (rv_ne rfl)
theorem ev_eqS {i j : Str} (ha : Ev ta σ H (.str i)) (hb : Ev tb σ H (.str j)) : Ev (tOp rEq ta tb) σ H (.bl (decide (i = j))) := dec_S ▸ ev_op ha hb (rv_eq rfl)
theorem ev_neS {i j : Str} (ha : Ev ta σ H (.str i)) (hb : Ev tb σ H (.str j)) : Ev (tOp rNe ta tb) σ H (.bl (!decide (i = j))) := dec_S ▸ ev_op ha hb (rv_ne rfl)
theorem ev_eqB {i j : Bool} (ha : Ev ta σ H (.bl i)) (hb : Ev tb σ H (.bl j)) : Ev (tOp rEq ta tb) σ H (.bl (decide (i = j))) := dec_B ▸ ev_op ha hb (rv_eq rfl)
theorem ev_neB {i j : Bool} (ha : Ev ta σ H (.bl i)) (hb : Ev tb σ H (.bl j)) : Ev (tOp rNe ta tb) σ H (.bl (!decide (i = j))) := dec_B ▸ ev_op ha hb (rv_ne rfl)
theorem ev_neg (ha : Ev ta σ H (.int i)) : Ev (tUn (rU fun i => .int (-i)) ta) σ H (.int (-i)) := ev_un ha ru_neg
theorem ev_ch {f g : Int → Int → Bool} (ha : Ev ta σ H (.int i)) (hb : Ev tb σ H (.int j)) (hc : Ev tc σ H (.int k)) : Ev (tChain (rI0 fun i j => .bl (f i j)) (rI0 fun i j => .bl (g i j)) ta tb tc) σ H (.bl (f i j && g j k)) := fun H1 e Q q =>
  ha H1 e _ fun H2 e2 => hb H2 (e.trans e2) _ fun H3 e3 => by
    refine ⟨i, j, rfl, rfl, f i j, rfl, ?_⟩
    cases h : f i j with
    | true =>
      rw [if_pos rfl]
      refine hc H3 ((e.trans e2).trans e3) _ fun H4 e4 => ⟨j, k, rfl, rfl, ?_⟩
      have q2 := q H4 ((e2.trans e3).trans e4)
      rw [h, Bool.true_and] at q2
      exact q2
    | false =>
      rw [if_neg Bool.false_ne_true]
      have q2 := q H3 (e2.trans e3)
      rw [h, Bool.false_and] at q2
      exact q2
/-- the truth of a list, a tuple, an int, a bool, a text -/
theorem et_truL {a : Addr} {xs : List V} (ha : Ev ta σ H (.ref a)) (h : SqL K H a xs) : EvT (fun σ H Q => ta σ H fun x H' => ∃ k, TruV K x H' k ∧ Q k H') σ H (!xs.isEmpty) := fun H1 e Q q =>
  ha H1 e _ fun H2 e2 => ⟨_, .inl ⟨xs, ex_l (e.trans e2) h, rfl⟩, q H2 e2⟩
theorem et_truT {a : Addr} {xs : List V} (ha : Ev ta σ H (.ref a)) (h : SqT K H a xs) : EvT (fun σ H Q => ta σ H fun x H' => ∃ k, TruV K x H' k ∧ Q k H') σ H (!xs.isEmpty) := fun H1 e Q q =>
  ha H1 e _ fun H2 e2 => ⟨_, .inr (.inl ⟨xs, ex_t (e.trans e2) h, rfl⟩), q H2 e2⟩
theorem et_truB {b : Bool} (ha : Ev ta σ H (.bl b)) : EvT (fun σ H Q => ta σ H fun x H' => ∃ k, TruV K x H' k ∧ Q k H') σ H b := fun H1 e Q q =>
  ha H1 e _ fun H2 e2 => ⟨_, rfl, q H2 e2⟩
theorem et_truS {z : Str} (ha : Ev ta σ H (.str z)) (hz : z.length ≤ 100000) : EvT (fun σ H Q => ta σ H fun x H' => ∃ k, TruV K x H' k ∧ Q k H') σ H ((z.length : Int) != 0) := fun H1 e Q q =>
  ha H1 e _ fun H2 e2 => ⟨_, ⟨sz_of hz, rfl⟩, q H2 e2⟩
/-- isinstance(x, T) -/
theorem ev_isi {c : V} {t u : Value} {b : Bool} (ha : Ev ta σ H x) (hb : Ev tb σ H c) (hc : ClsV c u) (ty : ∀ H1, Ex H H1 → TyX K H1 x t) (hk : PySem.W.kitOne K t u = some b) : Ev (tCB (rIsi K) (tCons ta (tCons tb tNil))) σ H (.bl b) := fun H1 e Q q =>
  ha H1 e _ fun H2 e2 => hb H2 (e.trans e2) _ fun H3 e3 => ⟨x, c, t, u, b, rfl, hc, ty H3 ((e.trans e2).trans e3), hk, q H3 (e2.trans e3)⟩
/-- len -/
theorem ev_lenL {p : Addr} {xs : List V} (h : SqL K H p xs) (ha : Ev ta σ H (.ref p)) : Ev (tCB (fun xs H Q => ∃ p ys, xs = [.ref p] ∧ (SqL K H p ys ∨ SqT K H p ys) ∧ Q (.int ys.length) H) (tCons ta tNil)) σ H (.int (xs.length : Int)) := fun H1 e Q q =>
  ha H1 e _ fun H2 e2 => ⟨p, xs, rfl, Or.inl (ex_l (e.trans e2) h), q H2 e2⟩
theorem ev_lenT {p : Addr} {xs : List V} (h : SqT K H p xs) (ha : Ev ta σ H (.ref p)) : Ev (tCB (fun xs H Q => ∃ p ys, xs = [.ref p] ∧ (SqL K H p ys ∨ SqT K H p ys) ∧ Q (.int ys.length) H) (tCons ta tNil)) σ H (.int (xs.length : Int)) := fun H1 e Q q =>
  ha H1 e _ fun H2 e2 => ⟨p, xs, rfl, Or.inr (ex_t (e.trans e2) h), q H2 e2⟩
theorem ev_ixL {p : Addr} {xs : List V} (h : SqL K H p xs) (ha : Ev ta σ H (.ref p)) (hb : Ev tb σ H (.int i)) (hx : atI xs i = some v) : Ev (tOp (rIxL K) ta tb) σ H v := ev_op ha hb (rv_ixL h hx)
theorem ev_ixT {p : Addr} {xs : List V} (h : SqT K H p xs) (ha : Ev ta σ H (.ref p)) (hb : Ev tb σ H (.int i)) (hx : atI xs i = some v) : Ev (tOp (rIxT K) ta tb) σ H v := ev_op ha hb (rv_ixT h hx)
end
theorem atI_int {ns : List Int} {i : Int} (h0 : 0 ≤ i) (h1 : i < ns.length) : atI (ns.map V.int) i = some (V.int (ns.getD i.toNat 0)) := by
  unfold atI ixN
  rw [if_pos h0, if_pos (by rw [List.length_map]; exact h1)]
  show (ns.map V.int)[i.toNat]? = _
  have h2 : i.toNat < ns.length := by omega
  rw [List.getElem?_map, List.getElem?_eq_getElem h2, List.getD_eq_getElem?_getD, List.getElem?_eq_getElem h2]
  rfl
theorem at_is {α : Type} {xs : List α} {i : Int} {v w : α} (h : atI xs i = some v) (e : v = w) : atI xs i = some w := e ▸ h
theorem ret_is {Q : VK} {H : Hp} {v w : V} (h : Q v H) (e : v = w) : Q w H := e ▸ h
end Wr

namespace Wr
open PySem PySem.Spec PyProof.Rows L2 Evl
section
variable {K : PySem.W.Frag} {σ : L2.St} {H H' : Hp} {ta tb tc te tx : TE} {t u : TT} {x y z v : V} {r : R2} {i j k : Int} {D : Ends} {tz tu tw : TS}
theorem emp_int {ns : List Int} : (ns.map V.int).isEmpty = ns.isEmpty := by cases ns <;> rfl
theorem len_int {ns : List Int} : (((ns.map V.int).length : Nat) : Int) = (ns.length : Int) := by rw [List.length_map]
theorem et_truLi {a : Addr} {ns : List Int} (h : SqL K H a (ns.map V.int)) (ha : Ev ta σ H (.ref a)) : EvT (fun σ H Q => ta σ H fun x H' => ∃ k, TruV K x H' k ∧ Q k H') σ H (!ns.isEmpty) := et_is (et_truL ha h) (by rw [emp_int])
theorem ev_lenLi {p : Addr} {ns : List Int} (h : SqL K H p (ns.map V.int)) (ha : Ev ta σ H (.ref p)) : Ev (tCB (fun xs H Q => ∃ p ys, xs = [.ref p] ∧ (SqL K H p ys ∨ SqT K H p ys) ∧ Q (.int ys.length) H) (tCons ta tNil)) σ H (.int (ns.length : Int)) := ev_is (ev_lenL h ha) (by rw [len_int])
theorem ev_ixLi {p : Addr} {ns : List Int} (h : SqL K H p (ns.map V.int)) (ha : Ev ta σ H (.ref p)) (hb : Ev tb σ H (.int i)) (hx : 0 ≤ i ∧ i < ns.length) : Ev (tOp (rIxL K) ta tb) σ H (.int (ns.getD i.toNat 0)) := ev_ixL h ha hb (atI_int hx.1 hx.2)
theorem ev_ife {b : Bool} {x y : V} (h : EvT t σ H b) (h1 : b = true → Ev ta σ H x) (h2 : b = false → Ev tb σ H y) : Ev (tIf t ta tb) σ H (if b = true then x else y) := by
  refine ev_if h (fun e => ?_) (fun e => ?_)
  · rw [if_pos e]; exact h1 e
  · rw [e, if_neg Bool.false_ne_true]; exact h2 e
/-- if t: x = e, x an int: only what is said of it -/
theorem q_ifI {i : Nat} {b : Bool} (P : Int → Prop) (h : EvT t σ H b) (h1 : b = true → ∃ n, Ev te σ H (.int n) ∧ P n) (h2 : b = false → ∃ n, σ[i]? = some (some (.int n)) ∧ P n)
    (k : ∀ n H1, Ex H H1 → P n → tz D (σ.set i (some (.int n))) H1) : tSeq (tIfS t (tAsg te (gName i)) tNext) tz D σ H := by
  refine q_if h (fun e H1 e1 => ?_) (fun e H1 e1 => ?_)
  · obtain ⟨n, hv, p⟩ := h1 e
    exact s_asg (D := { D with nx := tz D }) (hv.mono e1) fun H2 e2 => k n H2 (e1.trans e2) p
  · obtain ⟨n, hv, p⟩ := h2 e
    have e2 : σ.set i (some (.int n)) = σ := by
      refine List.ext_getElem? fun m => ?_
      by_cases hm : i = m
      · subst hm
        rw [List.getElem?_set_self (List.getElem?_eq_some_iff.mp hv).1, hv]
      · rw [List.getElem?_set_ne hm]
    have z := k n H1 e1 p
    rw [e2] at z
    exact z
/-- if t: return False, where t is false -/
theorem q_no {b : Bool} (h : EvT t σ H b) (hb : b = false) (k : ∀ H1, Ex H H1 → tz D σ H1) : tSeq (tIfS t tu tNext) tz D σ H := q_when h (fun e => by rw [hb] at e; cases e) fun _ H1 e1 => k H1 e1
theorem ea_nilI : EvA tNil σ H (([] : List Int).map V.int) := ea_nil
theorem ea_consI {tr : TA} {ns : List Int} (h : Ev ta σ H (.int i)) (hr : EvA tr σ H (ns.map V.int)) : EvA (tCons ta tr) σ H ((i :: ns).map V.int) := ea_cons h hr
theorem el_dispI {tr : TA} {ns : List Int} (h : EvA tr σ H (ns.map V.int)) (hl : ns.length ≤ 100000) : EvL (tLst tr) σ H (ns.map V.int) := el_lst h (by rw [List.length_map]; exact hl)
/-- an item of a new list -/
theorem ev_ixNi {ns : List Int} (ha : EvL ta σ H (ns.map V.int)) (hb : Ev tb σ H (.int i)) (hx : 0 ≤ i ∧ i < ns.length) : Ev (tOp (rIxL K) ta tb) σ H (.int (ns.getD i.toNat 0)) :=
  ev_opL1 ha (fun H1 e => hb.mono e) fun p H1 hp e => rv_ixL (sq_of hp) (atI_int hx.1 hx.2)
end
section
variable {P : Program} {w : World} {K : PySem.W.Frag} {mg : Str → Option Value} {fa : List He.Fa} {fn : List He.DefD} {ex : PySem.W.Frag → Bool}
/-- the law's own def -/
theorem law_mk {x p : Str} {f : Addr} {N : List Str} {k : Nat} {sp : Sp} {ar : Arguments} {bo : List Stmt} {sc : Scope} (T : Tx fa fn ex w K mg) (i j : Nat) (hi : fn[i]? = some ⟨(x, none), x, x, ar, bo, sc, [], []⟩) (hj : fa[j]? = some (.glo x)) (S : FnScope N [p] sc)
    (hb : ∀ (kV doc pm : Value) (an : Option Addr) (cdv ct : Value) (us : List Value), us.length = [p].length → bindArgs (PySem.W.fnOf x x ar bo sc .none kV doc pm an cdv ct) ⟨us, []⟩ = pure ([p].zip us))
    (hfa : mg x = some (.ref f)) (len : ∀ vs H Q E, sp vs H Q E → vs.length = [p].length)
    (hbody : ∀ (base : Heap) (f : Addr) (cdv : Value) (A : Around) (outer : List Env) (s : Shared) (H : Hp) (vs : List V) (Q : VK) (E : XK), Room k (A.deeper (envOfC x sc s.heap.objs.size f cdv)) → sp vs H Q E →
      ∃ t, PSs (cxOf CX0 P w K mg base N x sc f cdv A outer s H E).nox bo t ∧ t { nx := fun _ H' => Q .non H', rt := Q } (start N vs) H) :
    ∃ fd : FuncData, (∀ (s : Shared) (v : Value), BindsTo s fd ⟨[v], []⟩ [(p, v)]) ∧ ∀ base : Heap, K.In base → base.Ns mainGlobals mg → FnOk P w K mg base CX0 (k + 1) f fd [p] sp := by
  obtain ⟨fd, F⟩ := T.says.def_ i hi
  have h1 := T.glo j hj
  have e : f = He.ga K x := Value.ref.inj (Option.some.inj (hfa.symm.trans h1))
  subst e
  have b := FunD.bindsA (ps := [p]) F hb
  refine ⟨fd, fun s v => b s [v] rfl, fun base _ _ => ?_⟩
  refine F.ok S len fun cdv A outer s H vs Q E hr h => ?_
  obtain ⟨t, q, r⟩ := hbody base _ cdv A outer s H vs Q E hr h
  exact ⟨t, q.nox, r⟩
end
end Wr

/-! The program's defs as plain functions. -/
namespace M
def b2i (b : Bool) : Int := if b = true then 1 else 0
/-! ### rounds.py -/
def plus (a b : Int) : Int := (a + b) % 4294967296
def offset (a b : Int) : Int := let far := (a - b) % 4294967296; if decide (2147483648 ≤ far) = true then far - 4294967296 else far
def past (a b : Int) : Bool := decide (0 < offset a b)
/-! ### the laws' draws -/
def cell (ns : List Int) (k : Int) : Int := if (!ns.isEmpty) = true then ns.getD (k % ns.length).toNat 0 else 0
def mix (ns : List Int) (k : Int) : Int :=
  let n1 := (cell ns k + 104729 * (k + 1)) % 4294967291
  let n2 := n1 * 48271 % 4294967279
  (n2 / 64 * 69621 + n2) % 4294967231
theorem mix_lo (ns : List Int) (k : Int) : 0 ≤ mix ns k := Int.emod_nonneg _ (by decide)
theorem mix_hi (ns : List Int) (k : Int) : mix ns k < 4294967231 := Int.emod_lt_of_pos _ (by decide)
theorem cell_pos {ns : List Int} (h : (!ns.isEmpty) = true) : (0 : Int) < (ns.length : Int) := by
  cases ns with
  | nil => cases h
  | cons a l => simp only [List.length_cons]; omega
theorem cell_ix {ns : List Int} {k : Int} (h : (!ns.isEmpty) = true) : 0 ≤ k % (ns.length : Int) ∧ k % (ns.length : Int) < (ns.length : Int) := by
  have := cell_pos h
  exact ⟨Int.emod_nonneg _ (by omega), Int.emod_lt_of_pos _ this⟩
/-! ### sums.py -/
def wsum : List Int → Int
  | [] => 0
  | [a] => 256 * a
  | a :: b :: r => 256 * a + b + wsum r
def fold (t : Int) : Int := if t ≤ 65535 then t else (t - 1) % 65535 + 1
def folded (row : List Int) : Int := fold (wsum row)
def sum_of (row : List Int) : Int := 65535 - folded row
def two (n : Int) : List Int := [n / 256, n % 256]
def four (n : Int) : List Int := two (n / 65536) ++ two (n % 65536)
def number_of (row : List Int) : Int := row.foldl (fun f b => f * 256 + b) 0
/-! ### segments.py -/
structure Seg where
  src : Int
  goal : Int
  num : Int
  ans : Int
  flags : Int
  win : Int
  most : Int
  data : List Int
deriving DecidableEq
def has (s : Seg) (f : Int) : Bool := decide (s.flags / f % 2 = 1)
def length (s : Seg) : Int := (s.data.length : Int) + b2i (has s 2) + b2i (has s 1)
def head (s : Seg) : List Int :=
  two s.src ++ two s.goal ++ four s.num ++ four s.ans ++ [(5 + b2i (decide (0 < s.most))) * 16, s.flags] ++ (two s.win ++ [0, 0, 0, 0]) ++ (if decide (0 < s.most) = true then [2, 4] ++ two s.most else [])
def put (s : Seg) : List Int := let row := head s ++ s.data; row.take 16 ++ two (sum_of row) ++ row.drop 18
/-! ### piles.py -/
structure PileS where
  held : List Int
  come : Int
  early : List (Int × Int)
  last : Option Int
deriving DecidableEq
def Pile0 : PileS := ⟨[], 0, [], none⟩
def room (p : PileS) : Int := 64 - (p.held.length : Int)
/-! ### ends.py -/
inductive St where
  | closed | listen | synSent | synCome | opn | waitOne | waitTwo | closeWait | closing | lastAck | timeWait
deriving DecidableEq
def St.txt : St → String
  | .closed => "closed" | .listen => "listen" | .synSent => "syn sent" | .synCome => "syn come" | .opn => "open" | .waitOne => "wait one"
  | .waitTwo => "wait two" | .closeWait => "close wait" | .closing => "closing" | .lastAck => "last ack" | .timeWait => "time wait"
inductive Er where
  | none | refused | reset | time
deriving DecidableEq
def Er.txt : Er → String
  | .none => "" | .refused => "refused" | .reset => "reset" | .time => "time"
structure EndS where
  ours : Int
  theirs : Int
  first : Int
  state : St
  una : Int
  nxt : Int
  synced : Bool
  rcv : Int
  wnd : Int
  told : Int
  told_by : Int
  most : Int
  out : List Int
  pile : PileS
  fin : Bool
  fin_gone : Bool
  reset : Option Seg
  owes_syn : Bool
  owes_answer : Bool
  since : Int
  wait : Int
  tries : Int
  probing : Bool
  error : Er
deriving DecidableEq
def opened (ours theirs first : Int) (active : Bool) : EndS :=
  { ours := ours, theirs := theirs, first := first, state := if active = true then .synSent else .listen, una := first, nxt := first, synced := false, rcv := 0, wnd := 0, told := 0, told_by := 0, most := 12,
    out := [], pile := Pile0, fin := false, fin_gone := false, reset := none, owes_syn := false, owes_answer := false, since := 0, wait := 1000, tries := 0, probing := false, error := .none }
/-- a slice xs[lo:hi] -/
def sl (xs : List Int) (lo hi : Option Int) : List Int := (xs.drop (HT.sIx xs.length 0 lo)).take (HT.sIx xs.length xs.length hi - HT.sIx xs.length 0 lo)
def outstanding (e : EndS) : Int := offset e.nxt e.una
def mx (a b : Int) : Int := if b > a then b else a
def mn (a b : Int) : Int := if b < a then b else a
def unsent (e : EndS) : Int := if (!e.synced) = true then (e.out.length : Int) else mx 0 ((e.out.length : Int) - outstanding e)
def start (e : EndS) (now : Int) : EndS := { e with since := now, wait := 1000, tries := 0 }
def shut (e : EndS) (why : Er) : EndS := { e with state := .closed, error := why }
/-! ### sending.py -/
def made (e : EndS) (num flags : Int) (data : List Int) : List Int := put ⟨e.ours, e.theirs, num, e.rcv, flags + 16, room e.pile, 0, data⟩
def syn_made (e : EndS) : List Int :=
  if decide (e.state = .synCome) = true then put ⟨e.ours, e.theirs, e.first, e.rcv, 2 + 16, 64, 16, []⟩ else put ⟨e.ours, e.theirs, e.first, 0, 2, 64, 16, []⟩
def again (e : EndS) (now : Int) : EndS × List Int :=
  if decide (e.tries = 6) = true then (shut e .time, []) else
    let e := { e with tries := e.tries + 1, wait := mn (2 * e.wait) 16000, since := now }
    if (!e.synced) = true then (let e := { e with owes_syn := false }; (e, syn_made e)) else
      let many := (e.out.length : Int) - unsent e
      if decide (0 < many) = true then (e, made e e.una 0 (sl e.out none (some (mn (mn many e.most) 16)))) else (e, made e e.una 1 [])
def syn_goes (e : EndS) (now : Int) : EndS × List Int :=
  let e := if decide (e.nxt = e.first) = true then start e now else e
  let e := { e with nxt := plus e.first 1, owes_syn := false }
  (e, syn_made e)
def gone (e : EndS) (now many : Int) : EndS :=
  let e := if decide (outstanding e = 0) = true then start e now else e
  { e with nxt := plus e.nxt many, probing := false, owes_answer := false }
def data_goes (e : EndS) (now many : Int) : EndS × List Int :=
  let at_ := (e.out.length : Int) - unsent e
  let data := sl e.out (some at_) (some (at_ + many))
  let flags := if decide (at_ + many = (e.out.length : Int)) = true then 8 else 0
  let e' := gone e now many
  (e', made e' e.nxt flags data)
def fin_goes (e : EndS) (now : Int) : EndS × List Int :=
  let e' := gone { e with fin_gone := true } now 1
  (e', made e' e.nxt 1 [])
def giving (s : St) : Bool := decide (s = .opn) || decide (s = .waitOne) || decide (s = .closeWait) || decide (s = .closing) || decide (s = .lastAck)
def ending (s : St) : Bool := decide (s = .waitOne) || decide (s = .closing) || decide (s = .lastAck)
def has_more (e : EndS) : Bool := if (giving e.state && decide (0 < unsent e)) = true then true else (ending e.state && !e.fin_gone)
def probe (e : EndS) (now : Int) : EndS × List Int :=
  if (decide (0 < outstanding e) || (decide (0 < e.wnd) || !has_more e)) = true then ({ e with probing := false }, []) else
    if (!e.probing) = true then (start { e with probing := true } now, []) else
      if decide (now - e.since < e.wait) = true then (e, []) else
        let r := if decide (0 < unsent e) = true then data_goes e now 1 else fin_goes e now
        ({ r.1 with wait := e.wait, tries := e.tries, owes_answer := e.owes_answer, since := now }, r.2)
def answer_goes (e : EndS) : EndS × List Int :=
  if (!e.owes_answer || ((decide (e.state = .synSent) || decide (e.state = .closed)) || (decide (e.state = .synCome) && decide (e.nxt = e.first)))) = true then (e, []) else
    ({ e with owes_answer := false }, made { e with owes_answer := false } e.nxt 0 [])
def new_goes (e : EndS) (now : Int) : EndS × List Int :=
  let space := e.wnd - outstanding e
  if (giving e.state && decide (0 < unsent e)) = true then
    let many := mn (mn (mn e.most 16) (unsent e)) (mx 0 space)
    if decide (0 < many) = true then data_goes e now many else (e, [])
  else if (ending e.state && (!e.fin_gone && decide (0 < space))) = true then fin_goes e now else (e, [])
def send (e : EndS) (now : Int) : EndS × List Int :=
  match e.reset with
  | some s => ({ e with reset := none }, put s)
  | none =>
    let e := if (decide (e.state = .timeWait) && decide (120000 ≤ now - e.since)) = true then shut e e.error else e
    if (decide (e.state = .closed) || decide (e.state = .listen)) = true then (e, []) else
      if (decide (0 < outstanding e) && decide (e.wait ≤ now - e.since)) = true then again e now else
        if (decide (e.state = .synSent) || decide (e.state = .synCome)) = true then
          (if (decide (e.nxt = e.first) || e.owes_syn) = true then syn_goes e now else answer_goes e)
        else
          let r1 := new_goes e now
          let r2 := if (!(!r1.2.isEmpty)) = true then probe r1.1 now else r1
          if (!(!r2.2.isEmpty)) = true then answer_goes r2.1 else r2
end M

/-! Ends, piles and segments as they stand in a heap. -/
namespace Wr
open PySem PySem.Spec PyProof.Rows L2 Evl
abbrev cE (K : PySem.W.Frag) : Addr := He.ga K "End"
abbrev cP (K : PySem.W.Frag) : Addr := He.ga K "Pile"
def eflds (e : M.EndS) (ol pp : Addr) (rv : V) : List (Str × V) :=
  [("ours", .int e.ours),
   ("theirs", .int e.theirs),
   ("first", .int e.first),
   ("state", .str (Str.ofString e.state.txt)),
   ("una", .int e.una),
   ("nxt", .int e.nxt),
   ("synced", .bl e.synced),
   ("rcv", .int e.rcv),
   ("wnd", .int e.wnd),
   ("told", .int e.told),
   ("told_by", .int e.told_by),
   ("most", .int e.most),
   ("out", .ref ol),
   ("pile", .ref pp),
   ("fin", .bl e.fin),
   ("fin_gone", .bl e.fin_gone),
   ("reset", rv),
   ("owes_syn", .bl e.owes_syn),
   ("owes_answer", .bl e.owes_answer),
   ("since", .int e.since),
   ("wait", .int e.wait),
   ("tries", .int e.tries),
   ("probing", .bl e.probing),
   ("error", .str (Str.ofString e.error.txt))]
def pflds (q : M.PileS) (hl el : Addr) : List (Str × V) := [("held", .ref hl), ("come", .int q.come), ("early", .ref el), ("last", match q.last with | none => .non | some n => .int n)]
def kvE (l : List (Int × Int)) : List (Key × V) := l.map fun p => (Sum.inl p.1, V.int p.2)
def segVs (s : M.Seg) (d : Addr) : List V := [.int s.src, .int s.goal, .int s.num, .int s.ans, .int s.flags, .int s.win, .int s.most, .ref d]
/-- a segment: a tuple of ints and a tuple of bytes -/
def segA (K : PySem.W.Frag) (a : Addr) (s : M.Seg) : Ck := exk fun d => sep [tq K a (segVs s d), tq K d (s.data.map V.int)]
def pileA (K : PySem.W.Frag) (p : Addr) (q : M.PileS) : Ck := exk fun dx => exk fun hl => exk fun el => sep [pt p (.ins (cP K) dx (pflds q hl el)), pt hl (.lst (q.held.map V.int)), pt el (.dK (kvE q.early))]
def rstA (K : PySem.W.Frag) (rv : V) (r : Option M.Seg) : Ck := match r with
  | none => pur (rv = .non)
  | some s => exk fun a => sep [pur (rv = .ref a), segA K a s]
/-- an end, its pile and reset apart -/
def endB (K : PySem.W.Frag) (p : Addr) (e : M.EndS) (pp ol : Addr) (rv : V) : Ck := exk fun dx => sep [pt p (.ins (cE K) dx (eflds e ol pp rv)), pt ol (.lst (e.out.map V.int)), rstA K rv e.reset]
def endA (K : PySem.W.Frag) (p : Addr) (e : M.EndS) : Ck := exk fun pp => exk fun ol => exk fun rv => sep [endB K p e pp ol rv, pileA K pp e.pile]
/-- what the classes' walks ask -/
structure EndF (K : PySem.W.Frag) : Prop where
  cl : Cls K (cE K)
  cp : Cls K (cP K)
  na : ∀ f ∈ (["ours", "theirs", "first", "state", "una", "nxt", "synced", "rcv", "wnd", "told", "told_by", "most", "out", "pile", "fin", "fin_gone", "reset", "owes_syn", "owes_answer", "since", "wait", "tries", "probing", "error"] : List Str), NoAttr K (cE K) f
  np : ∀ f ∈ (["held", "come", "early", "last"] : List Str), NoAttr K (cP K) f
section
variable {K : PySem.W.Frag} {σ : L2.St} {H : Hp} {ta tv te : TE} {p : Addr} {e : M.EndS} {cs : List Ck} {D : Ends} {tz : TS}
theorem end_ins {pp ol : Addr} {rv : V} (h : Own (endB K p e pp ol rv :: cs) H) : ∃ dx, Own (pt p (.ins (cE K) dx (eflds e ol pp rv)) :: pt ol (.lst (e.out.map V.int)) :: rstA K rv e.reset :: cs) H := by
  obtain ⟨dx, h⟩ := own_ex.mp h
  exact ⟨dx, own_sep.mp h⟩
theorem end_fold {pp ol dx : Addr} {rv : V} (h : Own (pt p (.ins (cE K) dx (eflds e ol pp rv)) :: pt ol (.lst (e.out.map V.int)) :: rstA K rv e.reset :: cs) H) : Own (endB K p e pp ol rv :: cs) H :=
  own_ex.mpr ⟨dx, own_sep.mpr h⟩
theorem end_open (h : Own (endA K p e :: cs) H) : ∃ pp ol rv, Own (endB K p e pp ol rv :: pileA K pp e.pile :: cs) H := by
  obtain ⟨pp, h⟩ := own_ex.mp h
  obtain ⟨ol, h⟩ := own_ex.mp h
  obtain ⟨rv, h⟩ := own_ex.mp h
  exact ⟨pp, ol, rv, own_sep.mp h⟩
theorem end_close {pp ol : Addr} {rv : V} (h : Own (endB K p e pp ol rv :: pileA K pp e.pile :: cs) H) : Own (endA K p e :: cs) H :=
  own_ex.mpr ⟨pp, own_ex.mpr ⟨ol, own_ex.mpr ⟨rv, own_sep.mpr h⟩⟩⟩
/-- what is read of an end in a heap -/
abbrev EndOk (K : PySem.W.Frag) (p : Addr) (e : M.EndS) (H : Hp) : Prop := (endA K p e).ok H
abbrev SegOk (K : PySem.W.Frag) (a : Addr) (s : M.Seg) (H : Hp) : Prop := (segA K a s).ok H
theorem endOk_own (h : EndOk K p e H) : Own [endA K p e] H := own_one h
theorem endOk_ins (h : EndOk K p e H) : ∃ dx ol pp rv, H p = some (.ins (cE K) dx (eflds e ol pp rv)) ∧ H ol = some (.lst (e.out.map V.int)) ∧ (rstA K rv e.reset).ok H ∧ (pileA K pp e.pile).ok H := by
  obtain ⟨pp, ol, rv, o⟩ := end_open (own_one h)
  obtain ⟨dx, o⟩ := end_ins o
  exact ⟨dx, ol, pp, rv, pt_ok.mp (own_head o), pt_ok.mp (own_head (own_tail o)), own_head (own_tail (own_tail o)), own_head (own_tail (own_tail (own_tail o)))⟩
theorem ex_sub {H H' : Hp} (x : Ex H H') : Sub H H' := x
theorem ck_ex {c : Ck} {H H' : Hp} (x : Ex H H') (h : c.ok H) : c.ok H' := c.up _ _ x h
theorem elk_ours {ol pp : Addr} {rv : V} : (eflds e ol pp rv).lookup ("ours" : Str) = some (.int e.ours) := by kernel_rfl
theorem elk_theirs {ol pp : Addr} {rv : V} : (eflds e ol pp rv).lookup ("theirs" : Str) = some (.int e.theirs) := by kernel_rfl
theorem elk_first {ol pp : Addr} {rv : V} : (eflds e ol pp rv).lookup ("first" : Str) = some (.int e.first) := by kernel_rfl
theorem elk_state {ol pp : Addr} {rv : V} : (eflds e ol pp rv).lookup ("state" : Str) = some (.str (Str.ofString e.state.txt)) := by kernel_rfl
theorem elk_una {ol pp : Addr} {rv : V} : (eflds e ol pp rv).lookup ("una" : Str) = some (.int e.una) := by kernel_rfl
theorem elk_nxt {ol pp : Addr} {rv : V} : (eflds e ol pp rv).lookup ("nxt" : Str) = some (.int e.nxt) := by kernel_rfl
theorem elk_synced {ol pp : Addr} {rv : V} : (eflds e ol pp rv).lookup ("synced" : Str) = some (.bl e.synced) := by kernel_rfl
theorem elk_rcv {ol pp : Addr} {rv : V} : (eflds e ol pp rv).lookup ("rcv" : Str) = some (.int e.rcv) := by kernel_rfl
theorem elk_wnd {ol pp : Addr} {rv : V} : (eflds e ol pp rv).lookup ("wnd" : Str) = some (.int e.wnd) := by kernel_rfl
theorem elk_told {ol pp : Addr} {rv : V} : (eflds e ol pp rv).lookup ("told" : Str) = some (.int e.told) := by kernel_rfl
theorem elk_told_by {ol pp : Addr} {rv : V} : (eflds e ol pp rv).lookup ("told_by" : Str) = some (.int e.told_by) := by kernel_rfl
theorem elk_most {ol pp : Addr} {rv : V} : (eflds e ol pp rv).lookup ("most" : Str) = some (.int e.most) := by kernel_rfl
theorem elk_out {ol pp : Addr} {rv : V} : (eflds e ol pp rv).lookup ("out" : Str) = some (.ref ol) := by kernel_rfl
theorem elk_pile {ol pp : Addr} {rv : V} : (eflds e ol pp rv).lookup ("pile" : Str) = some (.ref pp) := by kernel_rfl
theorem elk_fin {ol pp : Addr} {rv : V} : (eflds e ol pp rv).lookup ("fin" : Str) = some (.bl e.fin) := by kernel_rfl
theorem elk_fin_gone {ol pp : Addr} {rv : V} : (eflds e ol pp rv).lookup ("fin_gone" : Str) = some (.bl e.fin_gone) := by kernel_rfl
theorem elk_reset {ol pp : Addr} {rv : V} : (eflds e ol pp rv).lookup ("reset" : Str) = some (rv) := by kernel_rfl
theorem elk_owes_syn {ol pp : Addr} {rv : V} : (eflds e ol pp rv).lookup ("owes_syn" : Str) = some (.bl e.owes_syn) := by kernel_rfl
theorem elk_owes_answer {ol pp : Addr} {rv : V} : (eflds e ol pp rv).lookup ("owes_answer" : Str) = some (.bl e.owes_answer) := by kernel_rfl
theorem elk_since {ol pp : Addr} {rv : V} : (eflds e ol pp rv).lookup ("since" : Str) = some (.int e.since) := by kernel_rfl
theorem elk_wait {ol pp : Addr} {rv : V} : (eflds e ol pp rv).lookup ("wait" : Str) = some (.int e.wait) := by kernel_rfl
theorem elk_tries {ol pp : Addr} {rv : V} : (eflds e ol pp rv).lookup ("tries" : Str) = some (.int e.tries) := by kernel_rfl
theorem elk_probing {ol pp : Addr} {rv : V} : (eflds e ol pp rv).lookup ("probing" : Str) = some (.bl e.probing) := by kernel_rfl
theorem elk_error {ol pp : Addr} {rv : V} : (eflds e ol pp rv).lookup ("error" : Str) = some (.str (Str.ofString e.error.txt)) := by kernel_rfl
theorem ev_E_ours (F : EndF K) (h : EndOk K p e H) (ha : Ev ta σ H (.ref p)) : Ev (tFld K ta "ours") σ H (.int e.ours) := fun H1 x Q q => ha H1 x _ fun H2 x2 => by
  obtain ⟨dx, ol, pp, rv, h1, _⟩ := endOk_ins (ck_ex (x.trans x2) h)
  exact ⟨p, _, dx, _, _, rfl, h1, F.cl, F.na _ (by decide), elk_ours, q H2 x2⟩
theorem ev_E_theirs (F : EndF K) (h : EndOk K p e H) (ha : Ev ta σ H (.ref p)) : Ev (tFld K ta "theirs") σ H (.int e.theirs) := fun H1 x Q q => ha H1 x _ fun H2 x2 => by
  obtain ⟨dx, ol, pp, rv, h1, _⟩ := endOk_ins (ck_ex (x.trans x2) h)
  exact ⟨p, _, dx, _, _, rfl, h1, F.cl, F.na _ (by decide), elk_theirs, q H2 x2⟩
theorem ev_E_first (F : EndF K) (h : EndOk K p e H) (ha : Ev ta σ H (.ref p)) : Ev (tFld K ta "first") σ H (.int e.first) := fun H1 x Q q => ha H1 x _ fun H2 x2 => by
  obtain ⟨dx, ol, pp, rv, h1, _⟩ := endOk_ins (ck_ex (x.trans x2) h)
  exact ⟨p, _, dx, _, _, rfl, h1, F.cl, F.na _ (by decide), elk_first, q H2 x2⟩
theorem ev_E_state (F : EndF K) (h : EndOk K p e H) (ha : Ev ta σ H (.ref p)) : Ev (tFld K ta "state") σ H (.str (Str.ofString e.state.txt)) := fun H1 x Q q => ha H1 x _ fun H2 x2 => by
  obtain ⟨dx, ol, pp, rv, h1, _⟩ := endOk_ins (ck_ex (x.trans x2) h)
  exact ⟨p, _, dx, _, _, rfl, h1, F.cl, F.na _ (by decide), elk_state, q H2 x2⟩
theorem ev_E_una (F : EndF K) (h : EndOk K p e H) (ha : Ev ta σ H (.ref p)) : Ev (tFld K ta "una") σ H (.int e.una) := fun H1 x Q q => ha H1 x _ fun H2 x2 => by
  obtain ⟨dx, ol, pp, rv, h1, _⟩ := endOk_ins (ck_ex (x.trans x2) h)
  exact ⟨p, _, dx, _, _, rfl, h1, F.cl, F.na _ (by decide), elk_una, q H2 x2⟩
theorem ev_E_nxt (F : EndF K) (h : EndOk K p e H) (ha : Ev ta σ H (.ref p)) : Ev (tFld K ta "nxt") σ H (.int e.nxt) := fun H1 x Q q => ha H1 x _ fun H2 x2 => by
  obtain ⟨dx, ol, pp, rv, h1, _⟩ := endOk_ins (ck_ex (x.trans x2) h)
  exact ⟨p, _, dx, _, _, rfl, h1, F.cl, F.na _ (by decide), elk_nxt, q H2 x2⟩
theorem ev_E_synced (F : EndF K) (h : EndOk K p e H) (ha : Ev ta σ H (.ref p)) : Ev (tFld K ta "synced") σ H (.bl e.synced) := fun H1 x Q q => ha H1 x _ fun H2 x2 => by
  obtain ⟨dx, ol, pp, rv, h1, _⟩ := endOk_ins (ck_ex (x.trans x2) h)
  exact ⟨p, _, dx, _, _, rfl, h1, F.cl, F.na _ (by decide), elk_synced, q H2 x2⟩
theorem ev_E_rcv (F : EndF K) (h : EndOk K p e H) (ha : Ev ta σ H (.ref p)) : Ev (tFld K ta "rcv") σ H (.int e.rcv) := fun H1 x Q q => ha H1 x _ fun H2 x2 => by
  obtain ⟨dx, ol, pp, rv, h1, _⟩ := endOk_ins (ck_ex (x.trans x2) h)
  exact ⟨p, _, dx, _, _, rfl, h1, F.cl, F.na _ (by decide), elk_rcv, q H2 x2⟩
theorem ev_E_wnd (F : EndF K) (h : EndOk K p e H) (ha : Ev ta σ H (.ref p)) : Ev (tFld K ta "wnd") σ H (.int e.wnd) := fun H1 x Q q => ha H1 x _ fun H2 x2 => by
  obtain ⟨dx, ol, pp, rv, h1, _⟩ := endOk_ins (ck_ex (x.trans x2) h)
  exact ⟨p, _, dx, _, _, rfl, h1, F.cl, F.na _ (by decide), elk_wnd, q H2 x2⟩
theorem ev_E_told (F : EndF K) (h : EndOk K p e H) (ha : Ev ta σ H (.ref p)) : Ev (tFld K ta "told") σ H (.int e.told) := fun H1 x Q q => ha H1 x _ fun H2 x2 => by
  obtain ⟨dx, ol, pp, rv, h1, _⟩ := endOk_ins (ck_ex (x.trans x2) h)
  exact ⟨p, _, dx, _, _, rfl, h1, F.cl, F.na _ (by decide), elk_told, q H2 x2⟩
theorem ev_E_told_by (F : EndF K) (h : EndOk K p e H) (ha : Ev ta σ H (.ref p)) : Ev (tFld K ta "told_by") σ H (.int e.told_by) := fun H1 x Q q => ha H1 x _ fun H2 x2 => by
  obtain ⟨dx, ol, pp, rv, h1, _⟩ := endOk_ins (ck_ex (x.trans x2) h)
  exact ⟨p, _, dx, _, _, rfl, h1, F.cl, F.na _ (by decide), elk_told_by, q H2 x2⟩
theorem ev_E_most (F : EndF K) (h : EndOk K p e H) (ha : Ev ta σ H (.ref p)) : Ev (tFld K ta "most") σ H (.int e.most) := fun H1 x Q q => ha H1 x _ fun H2 x2 => by
  obtain ⟨dx, ol, pp, rv, h1, _⟩ := endOk_ins (ck_ex (x.trans x2) h)
  exact ⟨p, _, dx, _, _, rfl, h1, F.cl, F.na _ (by decide), elk_most, q H2 x2⟩
theorem ev_E_out (F : EndF K) (h : EndOk K p e H) (ha : Ev ta σ H (.ref p)) : ∃ ol, H ol = some (.lst (e.out.map V.int)) ∧ Ev (tFld K ta "out") σ H (.ref ol) := by
  obtain ⟨dx, ol, pp, rv, h1, h2, _⟩ := endOk_ins h
  refine ⟨ol, h2, fun H1 x Q q => ha H1 x _ fun H2 x2 => ?_⟩
  exact ⟨p, _, dx, _, _, rfl, (x.trans x2) _ _ h1, F.cl, F.na _ (by decide), elk_out, q H2 x2⟩
theorem ev_E_fin (F : EndF K) (h : EndOk K p e H) (ha : Ev ta σ H (.ref p)) : Ev (tFld K ta "fin") σ H (.bl e.fin) := fun H1 x Q q => ha H1 x _ fun H2 x2 => by
  obtain ⟨dx, ol, pp, rv, h1, _⟩ := endOk_ins (ck_ex (x.trans x2) h)
  exact ⟨p, _, dx, _, _, rfl, h1, F.cl, F.na _ (by decide), elk_fin, q H2 x2⟩
theorem ev_E_fin_gone (F : EndF K) (h : EndOk K p e H) (ha : Ev ta σ H (.ref p)) : Ev (tFld K ta "fin_gone") σ H (.bl e.fin_gone) := fun H1 x Q q => ha H1 x _ fun H2 x2 => by
  obtain ⟨dx, ol, pp, rv, h1, _⟩ := endOk_ins (ck_ex (x.trans x2) h)
  exact ⟨p, _, dx, _, _, rfl, h1, F.cl, F.na _ (by decide), elk_fin_gone, q H2 x2⟩
theorem ev_E_owes_syn (F : EndF K) (h : EndOk K p e H) (ha : Ev ta σ H (.ref p)) : Ev (tFld K ta "owes_syn") σ H (.bl e.owes_syn) := fun H1 x Q q => ha H1 x _ fun H2 x2 => by
  obtain ⟨dx, ol, pp, rv, h1, _⟩ := endOk_ins (ck_ex (x.trans x2) h)
  exact ⟨p, _, dx, _, _, rfl, h1, F.cl, F.na _ (by decide), elk_owes_syn, q H2 x2⟩
theorem ev_E_owes_answer (F : EndF K) (h : EndOk K p e H) (ha : Ev ta σ H (.ref p)) : Ev (tFld K ta "owes_answer") σ H (.bl e.owes_answer) := fun H1 x Q q => ha H1 x _ fun H2 x2 => by
  obtain ⟨dx, ol, pp, rv, h1, _⟩ := endOk_ins (ck_ex (x.trans x2) h)
  exact ⟨p, _, dx, _, _, rfl, h1, F.cl, F.na _ (by decide), elk_owes_answer, q H2 x2⟩
theorem ev_E_since (F : EndF K) (h : EndOk K p e H) (ha : Ev ta σ H (.ref p)) : Ev (tFld K ta "since") σ H (.int e.since) := fun H1 x Q q => ha H1 x _ fun H2 x2 => by
  obtain ⟨dx, ol, pp, rv, h1, _⟩ := endOk_ins (ck_ex (x.trans x2) h)
  exact ⟨p, _, dx, _, _, rfl, h1, F.cl, F.na _ (by decide), elk_since, q H2 x2⟩
theorem ev_E_wait (F : EndF K) (h : EndOk K p e H) (ha : Ev ta σ H (.ref p)) : Ev (tFld K ta "wait") σ H (.int e.wait) := fun H1 x Q q => ha H1 x _ fun H2 x2 => by
  obtain ⟨dx, ol, pp, rv, h1, _⟩ := endOk_ins (ck_ex (x.trans x2) h)
  exact ⟨p, _, dx, _, _, rfl, h1, F.cl, F.na _ (by decide), elk_wait, q H2 x2⟩
theorem ev_E_tries (F : EndF K) (h : EndOk K p e H) (ha : Ev ta σ H (.ref p)) : Ev (tFld K ta "tries") σ H (.int e.tries) := fun H1 x Q q => ha H1 x _ fun H2 x2 => by
  obtain ⟨dx, ol, pp, rv, h1, _⟩ := endOk_ins (ck_ex (x.trans x2) h)
  exact ⟨p, _, dx, _, _, rfl, h1, F.cl, F.na _ (by decide), elk_tries, q H2 x2⟩
theorem ev_E_probing (F : EndF K) (h : EndOk K p e H) (ha : Ev ta σ H (.ref p)) : Ev (tFld K ta "probing") σ H (.bl e.probing) := fun H1 x Q q => ha H1 x _ fun H2 x2 => by
  obtain ⟨dx, ol, pp, rv, h1, _⟩ := endOk_ins (ck_ex (x.trans x2) h)
  exact ⟨p, _, dx, _, _, rfl, h1, F.cl, F.na _ (by decide), elk_probing, q H2 x2⟩
theorem ev_E_error (F : EndF K) (h : EndOk K p e H) (ha : Ev ta σ H (.ref p)) : Ev (tFld K ta "error") σ H (.str (Str.ofString e.error.txt)) := fun H1 x Q q => ha H1 x _ fun H2 x2 => by
  obtain ⟨dx, ol, pp, rv, h1, _⟩ := endOk_ins (ck_ex (x.trans x2) h)
  exact ⟨p, _, dx, _, _, rfl, h1, F.cl, F.na _ (by decide), elk_error, q H2 x2⟩
theorem epu_ours {ol pp : Addr} {rv : V} {n : Int} : putF ("ours" : Str) (.int n) (eflds e ol pp rv) = eflds { e with ours := n } ol pp rv := by kernel_rfl
theorem epu_theirs {ol pp : Addr} {rv : V} {n : Int} : putF ("theirs" : Str) (.int n) (eflds e ol pp rv) = eflds { e with theirs := n } ol pp rv := by kernel_rfl
theorem epu_first {ol pp : Addr} {rv : V} {n : Int} : putF ("first" : Str) (.int n) (eflds e ol pp rv) = eflds { e with first := n } ol pp rv := by kernel_rfl
theorem epu_state {ol pp : Addr} {rv : V} {n : M.St} : putF ("state" : Str) (.str (Str.ofString (M.St.txt n))) (eflds e ol pp rv) = eflds { e with state := n } ol pp rv := by kernel_rfl
theorem epu_una {ol pp : Addr} {rv : V} {n : Int} : putF ("una" : Str) (.int n) (eflds e ol pp rv) = eflds { e with una := n } ol pp rv := by kernel_rfl
theorem epu_nxt {ol pp : Addr} {rv : V} {n : Int} : putF ("nxt" : Str) (.int n) (eflds e ol pp rv) = eflds { e with nxt := n } ol pp rv := by kernel_rfl
theorem epu_synced {ol pp : Addr} {rv : V} {n : Bool} : putF ("synced" : Str) (.bl n) (eflds e ol pp rv) = eflds { e with synced := n } ol pp rv := by kernel_rfl
theorem epu_rcv {ol pp : Addr} {rv : V} {n : Int} : putF ("rcv" : Str) (.int n) (eflds e ol pp rv) = eflds { e with rcv := n } ol pp rv := by kernel_rfl
theorem epu_wnd {ol pp : Addr} {rv : V} {n : Int} : putF ("wnd" : Str) (.int n) (eflds e ol pp rv) = eflds { e with wnd := n } ol pp rv := by kernel_rfl
theorem epu_told {ol pp : Addr} {rv : V} {n : Int} : putF ("told" : Str) (.int n) (eflds e ol pp rv) = eflds { e with told := n } ol pp rv := by kernel_rfl
theorem epu_told_by {ol pp : Addr} {rv : V} {n : Int} : putF ("told_by" : Str) (.int n) (eflds e ol pp rv) = eflds { e with told_by := n } ol pp rv := by kernel_rfl
theorem epu_most {ol pp : Addr} {rv : V} {n : Int} : putF ("most" : Str) (.int n) (eflds e ol pp rv) = eflds { e with most := n } ol pp rv := by kernel_rfl
theorem epu_fin {ol pp : Addr} {rv : V} {n : Bool} : putF ("fin" : Str) (.bl n) (eflds e ol pp rv) = eflds { e with fin := n } ol pp rv := by kernel_rfl
theorem epu_fin_gone {ol pp : Addr} {rv : V} {n : Bool} : putF ("fin_gone" : Str) (.bl n) (eflds e ol pp rv) = eflds { e with fin_gone := n } ol pp rv := by kernel_rfl
theorem epu_owes_syn {ol pp : Addr} {rv : V} {n : Bool} : putF ("owes_syn" : Str) (.bl n) (eflds e ol pp rv) = eflds { e with owes_syn := n } ol pp rv := by kernel_rfl
theorem epu_owes_answer {ol pp : Addr} {rv : V} {n : Bool} : putF ("owes_answer" : Str) (.bl n) (eflds e ol pp rv) = eflds { e with owes_answer := n } ol pp rv := by kernel_rfl
theorem epu_since {ol pp : Addr} {rv : V} {n : Int} : putF ("since" : Str) (.int n) (eflds e ol pp rv) = eflds { e with since := n } ol pp rv := by kernel_rfl
theorem epu_wait {ol pp : Addr} {rv : V} {n : Int} : putF ("wait" : Str) (.int n) (eflds e ol pp rv) = eflds { e with wait := n } ol pp rv := by kernel_rfl
theorem epu_tries {ol pp : Addr} {rv : V} {n : Int} : putF ("tries" : Str) (.int n) (eflds e ol pp rv) = eflds { e with tries := n } ol pp rv := by kernel_rfl
theorem epu_probing {ol pp : Addr} {rv : V} {n : Bool} : putF ("probing" : Str) (.bl n) (eflds e ol pp rv) = eflds { e with probing := n } ol pp rv := by kernel_rfl
theorem epu_error {ol pp : Addr} {rv : V} {n : M.Er} : putF ("error" : Str) (.str (Str.ofString (M.Er.txt n))) (eflds e ol pp rv) = eflds { e with error := n } ol pp rv := by kernel_rfl
theorem own_set {e' : M.EndS} {f : Str} {v : V} (o : Own (endA K p e :: cs) H) (hp : ∀ ol pp rv, putF f v (eflds e ol pp rv) = eflds e' ol pp rv) (h1 : e'.out = e.out) (h2 : e'.pile = e.pile) (h3 : e'.reset = e.reset) :
    ∃ dx ol pp rv, H p = some (.ins (cE K) dx (eflds e ol pp rv)) ∧ Own (endA K p e' :: cs) (upd H p (.ins (cE K) dx (putF f v (eflds e ol pp rv)))) := by
  obtain ⟨pp, ol, rv, o⟩ := end_open o
  obtain ⟨dx, o⟩ := end_ins o
  refine ⟨dx, ol, pp, rv, pt_ok.mp (own_head o), ?_⟩
  have o2 := own_upd (u := .ins (cE K) dx (putF f v (eflds e ol pp rv))) o
  rw [hp] at o2 ⊢
  rw [← h1, ← h3, ← h2] at o2
  exact end_close (end_fold o2)
theorem s_set {e' : M.EndS} {f : Str} {v : V} (F : EndF K) (o : Own (endA K p e :: cs) H) (hp : ∀ ol pp rv, putF f v (eflds e ol pp rv) = eflds e' ol pp rv) (h1 : e'.out = e.out) (h2 : e'.pile = e.pile) (h3 : e'.reset = e.reset) (hf : NoAttr K (cE K) f)
    (hv : Ev tv σ H v) (ha : Ev ta σ H (.ref p)) (k : ∀ H', Own (endA K p e' :: cs) H' → D.nx σ H') : sFld K ta tv f D σ H := by
  refine hv H (Ex.refl H) _ fun H1 x1 => ha H1 x1 _ fun H2 x2 => ?_
  have o2 := own_up (x1.trans x2) o
  obtain ⟨dx, ol, pp, rv, h, o3⟩ := own_set (v := v) o2 hp h1 h2 h3
  refine ⟨p, _, dx, _, rfl, h, F.cl, hf, ?_, k _ o3⟩
  show 24 < 1000
  decide
theorem s_set_ours {n : Int} (F : EndF K) (o : Own (endA K p e :: cs) H) (hv : Ev tv σ H (.int n)) (ha : Ev ta σ H (.ref p)) (k : ∀ H', Own (endA K p { e with ours := n } :: cs) H' → D.nx σ H') : sFld K ta tv "ours" D σ H :=
  s_set (e' := { e with ours := n }) F o (fun ol pp rv => epu_ours) rfl rfl rfl (F.na _ (by decide)) hv ha k
theorem q_set_ours {n : Int} (F : EndF K) (o : Own (endA K p e :: cs) H) (hv : Ev tv σ H (.int n)) (ha : Ev ta σ H (.ref p)) (k : ∀ H', Own (endA K p { e with ours := n } :: cs) H' → tz D σ H') : tSeq (sFld K ta tv "ours") tz D σ H :=
  s_set (e' := { e with ours := n }) (D := { D with nx := tz D }) F o (fun ol pp rv => epu_ours) rfl rfl rfl (F.na _ (by decide)) hv ha k
theorem s_set_theirs {n : Int} (F : EndF K) (o : Own (endA K p e :: cs) H) (hv : Ev tv σ H (.int n)) (ha : Ev ta σ H (.ref p)) (k : ∀ H', Own (endA K p { e with theirs := n } :: cs) H' → D.nx σ H') : sFld K ta tv "theirs" D σ H :=
  s_set (e' := { e with theirs := n }) F o (fun ol pp rv => epu_theirs) rfl rfl rfl (F.na _ (by decide)) hv ha k
theorem q_set_theirs {n : Int} (F : EndF K) (o : Own (endA K p e :: cs) H) (hv : Ev tv σ H (.int n)) (ha : Ev ta σ H (.ref p)) (k : ∀ H', Own (endA K p { e with theirs := n } :: cs) H' → tz D σ H') : tSeq (sFld K ta tv "theirs") tz D σ H :=
  s_set (e' := { e with theirs := n }) (D := { D with nx := tz D }) F o (fun ol pp rv => epu_theirs) rfl rfl rfl (F.na _ (by decide)) hv ha k
theorem s_set_first {n : Int} (F : EndF K) (o : Own (endA K p e :: cs) H) (hv : Ev tv σ H (.int n)) (ha : Ev ta σ H (.ref p)) (k : ∀ H', Own (endA K p { e with first := n } :: cs) H' → D.nx σ H') : sFld K ta tv "first" D σ H :=
  s_set (e' := { e with first := n }) F o (fun ol pp rv => epu_first) rfl rfl rfl (F.na _ (by decide)) hv ha k
theorem q_set_first {n : Int} (F : EndF K) (o : Own (endA K p e :: cs) H) (hv : Ev tv σ H (.int n)) (ha : Ev ta σ H (.ref p)) (k : ∀ H', Own (endA K p { e with first := n } :: cs) H' → tz D σ H') : tSeq (sFld K ta tv "first") tz D σ H :=
  s_set (e' := { e with first := n }) (D := { D with nx := tz D }) F o (fun ol pp rv => epu_first) rfl rfl rfl (F.na _ (by decide)) hv ha k
theorem s_set_state {n : M.St} (F : EndF K) (o : Own (endA K p e :: cs) H) (hv : Ev tv σ H (.str (Str.ofString (M.St.txt n)))) (ha : Ev ta σ H (.ref p)) (k : ∀ H', Own (endA K p { e with state := n } :: cs) H' → D.nx σ H') : sFld K ta tv "state" D σ H :=
  s_set (e' := { e with state := n }) F o (fun ol pp rv => epu_state) rfl rfl rfl (F.na _ (by decide)) hv ha k
theorem q_set_state {n : M.St} (F : EndF K) (o : Own (endA K p e :: cs) H) (hv : Ev tv σ H (.str (Str.ofString (M.St.txt n)))) (ha : Ev ta σ H (.ref p)) (k : ∀ H', Own (endA K p { e with state := n } :: cs) H' → tz D σ H') : tSeq (sFld K ta tv "state") tz D σ H :=
  s_set (e' := { e with state := n }) (D := { D with nx := tz D }) F o (fun ol pp rv => epu_state) rfl rfl rfl (F.na _ (by decide)) hv ha k
theorem s_set_una {n : Int} (F : EndF K) (o : Own (endA K p e :: cs) H) (hv : Ev tv σ H (.int n)) (ha : Ev ta σ H (.ref p)) (k : ∀ H', Own (endA K p { e with una := n } :: cs) H' → D.nx σ H') : sFld K ta tv "una" D σ H :=
  s_set (e' := { e with una := n }) F o (fun ol pp rv => epu_una) rfl rfl rfl (F.na _ (by decide)) hv ha k
theorem q_set_una {n : Int} (F : EndF K) (o : Own (endA K p e :: cs) H) (hv : Ev tv σ H (.int n)) (ha : Ev ta σ H (.ref p)) (k : ∀ H', Own (endA K p { e with una := n } :: cs) H' → tz D σ H') : tSeq (sFld K ta tv "una") tz D σ H :=
  s_set (e' := { e with una := n }) (D := { D with nx := tz D }) F o (fun ol pp rv => epu_una) rfl rfl rfl (F.na _ (by decide)) hv ha k
theorem s_set_nxt {n : Int} (F : EndF K) (o : Own (endA K p e :: cs) H) (hv : Ev tv σ H (.int n)) (ha : Ev ta σ H (.ref p)) (k : ∀ H', Own (endA K p { e with nxt := n } :: cs) H' → D.nx σ H') : sFld K ta tv "nxt" D σ H :=
  s_set (e' := { e with nxt := n }) F o (fun ol pp rv => epu_nxt) rfl rfl rfl (F.na _ (by decide)) hv ha k
theorem q_set_nxt {n : Int} (F : EndF K) (o : Own (endA K p e :: cs) H) (hv : Ev tv σ H (.int n)) (ha : Ev ta σ H (.ref p)) (k : ∀ H', Own (endA K p { e with nxt := n } :: cs) H' → tz D σ H') : tSeq (sFld K ta tv "nxt") tz D σ H :=
  s_set (e' := { e with nxt := n }) (D := { D with nx := tz D }) F o (fun ol pp rv => epu_nxt) rfl rfl rfl (F.na _ (by decide)) hv ha k
theorem s_set_synced {n : Bool} (F : EndF K) (o : Own (endA K p e :: cs) H) (hv : Ev tv σ H (.bl n)) (ha : Ev ta σ H (.ref p)) (k : ∀ H', Own (endA K p { e with synced := n } :: cs) H' → D.nx σ H') : sFld K ta tv "synced" D σ H :=
  s_set (e' := { e with synced := n }) F o (fun ol pp rv => epu_synced) rfl rfl rfl (F.na _ (by decide)) hv ha k
theorem q_set_synced {n : Bool} (F : EndF K) (o : Own (endA K p e :: cs) H) (hv : Ev tv σ H (.bl n)) (ha : Ev ta σ H (.ref p)) (k : ∀ H', Own (endA K p { e with synced := n } :: cs) H' → tz D σ H') : tSeq (sFld K ta tv "synced") tz D σ H :=
  s_set (e' := { e with synced := n }) (D := { D with nx := tz D }) F o (fun ol pp rv => epu_synced) rfl rfl rfl (F.na _ (by decide)) hv ha k
theorem s_set_rcv {n : Int} (F : EndF K) (o : Own (endA K p e :: cs) H) (hv : Ev tv σ H (.int n)) (ha : Ev ta σ H (.ref p)) (k : ∀ H', Own (endA K p { e with rcv := n } :: cs) H' → D.nx σ H') : sFld K ta tv "rcv" D σ H :=
  s_set (e' := { e with rcv := n }) F o (fun ol pp rv => epu_rcv) rfl rfl rfl (F.na _ (by decide)) hv ha k
theorem q_set_rcv {n : Int} (F : EndF K) (o : Own (endA K p e :: cs) H) (hv : Ev tv σ H (.int n)) (ha : Ev ta σ H (.ref p)) (k : ∀ H', Own (endA K p { e with rcv := n } :: cs) H' → tz D σ H') : tSeq (sFld K ta tv "rcv") tz D σ H :=
  s_set (e' := { e with rcv := n }) (D := { D with nx := tz D }) F o (fun ol pp rv => epu_rcv) rfl rfl rfl (F.na _ (by decide)) hv ha k
theorem s_set_wnd {n : Int} (F : EndF K) (o : Own (endA K p e :: cs) H) (hv : Ev tv σ H (.int n)) (ha : Ev ta σ H (.ref p)) (k : ∀ H', Own (endA K p { e with wnd := n } :: cs) H' → D.nx σ H') : sFld K ta tv "wnd" D σ H :=
  s_set (e' := { e with wnd := n }) F o (fun ol pp rv => epu_wnd) rfl rfl rfl (F.na _ (by decide)) hv ha k
theorem q_set_wnd {n : Int} (F : EndF K) (o : Own (endA K p e :: cs) H) (hv : Ev tv σ H (.int n)) (ha : Ev ta σ H (.ref p)) (k : ∀ H', Own (endA K p { e with wnd := n } :: cs) H' → tz D σ H') : tSeq (sFld K ta tv "wnd") tz D σ H :=
  s_set (e' := { e with wnd := n }) (D := { D with nx := tz D }) F o (fun ol pp rv => epu_wnd) rfl rfl rfl (F.na _ (by decide)) hv ha k
theorem s_set_told {n : Int} (F : EndF K) (o : Own (endA K p e :: cs) H) (hv : Ev tv σ H (.int n)) (ha : Ev ta σ H (.ref p)) (k : ∀ H', Own (endA K p { e with told := n } :: cs) H' → D.nx σ H') : sFld K ta tv "told" D σ H :=
  s_set (e' := { e with told := n }) F o (fun ol pp rv => epu_told) rfl rfl rfl (F.na _ (by decide)) hv ha k
theorem q_set_told {n : Int} (F : EndF K) (o : Own (endA K p e :: cs) H) (hv : Ev tv σ H (.int n)) (ha : Ev ta σ H (.ref p)) (k : ∀ H', Own (endA K p { e with told := n } :: cs) H' → tz D σ H') : tSeq (sFld K ta tv "told") tz D σ H :=
  s_set (e' := { e with told := n }) (D := { D with nx := tz D }) F o (fun ol pp rv => epu_told) rfl rfl rfl (F.na _ (by decide)) hv ha k
theorem s_set_told_by {n : Int} (F : EndF K) (o : Own (endA K p e :: cs) H) (hv : Ev tv σ H (.int n)) (ha : Ev ta σ H (.ref p)) (k : ∀ H', Own (endA K p { e with told_by := n } :: cs) H' → D.nx σ H') : sFld K ta tv "told_by" D σ H :=
  s_set (e' := { e with told_by := n }) F o (fun ol pp rv => epu_told_by) rfl rfl rfl (F.na _ (by decide)) hv ha k
theorem q_set_told_by {n : Int} (F : EndF K) (o : Own (endA K p e :: cs) H) (hv : Ev tv σ H (.int n)) (ha : Ev ta σ H (.ref p)) (k : ∀ H', Own (endA K p { e with told_by := n } :: cs) H' → tz D σ H') : tSeq (sFld K ta tv "told_by") tz D σ H :=
  s_set (e' := { e with told_by := n }) (D := { D with nx := tz D }) F o (fun ol pp rv => epu_told_by) rfl rfl rfl (F.na _ (by decide)) hv ha k
theorem s_set_most {n : Int} (F : EndF K) (o : Own (endA K p e :: cs) H) (hv : Ev tv σ H (.int n)) (ha : Ev ta σ H (.ref p)) (k : ∀ H', Own (endA K p { e with most := n } :: cs) H' → D.nx σ H') : sFld K ta tv "most" D σ H :=
  s_set (e' := { e with most := n }) F o (fun ol pp rv => epu_most) rfl rfl rfl (F.na _ (by decide)) hv ha k
theorem q_set_most {n : Int} (F : EndF K) (o : Own (endA K p e :: cs) H) (hv : Ev tv σ H (.int n)) (ha : Ev ta σ H (.ref p)) (k : ∀ H', Own (endA K p { e with most := n } :: cs) H' → tz D σ H') : tSeq (sFld K ta tv "most") tz D σ H :=
  s_set (e' := { e with most := n }) (D := { D with nx := tz D }) F o (fun ol pp rv => epu_most) rfl rfl rfl (F.na _ (by decide)) hv ha k
theorem s_set_fin {n : Bool} (F : EndF K) (o : Own (endA K p e :: cs) H) (hv : Ev tv σ H (.bl n)) (ha : Ev ta σ H (.ref p)) (k : ∀ H', Own (endA K p { e with fin := n } :: cs) H' → D.nx σ H') : sFld K ta tv "fin" D σ H :=
  s_set (e' := { e with fin := n }) F o (fun ol pp rv => epu_fin) rfl rfl rfl (F.na _ (by decide)) hv ha k
theorem q_set_fin {n : Bool} (F : EndF K) (o : Own (endA K p e :: cs) H) (hv : Ev tv σ H (.bl n)) (ha : Ev ta σ H (.ref p)) (k : ∀ H', Own (endA K p { e with fin := n } :: cs) H' → tz D σ H') : tSeq (sFld K ta tv "fin") tz D σ H :=
  s_set (e' := { e with fin := n }) (D := { D with nx := tz D }) F o (fun ol pp rv => epu_fin) rfl rfl rfl (F.na _ (by decide)) hv ha k
theorem s_set_fin_gone {n : Bool} (F : EndF K) (o : Own (endA K p e :: cs) H) (hv : Ev tv σ H (.bl n)) (ha : Ev ta σ H (.ref p)) (k : ∀ H', Own (endA K p { e with fin_gone := n } :: cs) H' → D.nx σ H') : sFld K ta tv "fin_gone" D σ H :=
  s_set (e' := { e with fin_gone := n }) F o (fun ol pp rv => epu_fin_gone) rfl rfl rfl (F.na _ (by decide)) hv ha k
theorem q_set_fin_gone {n : Bool} (F : EndF K) (o : Own (endA K p e :: cs) H) (hv : Ev tv σ H (.bl n)) (ha : Ev ta σ H (.ref p)) (k : ∀ H', Own (endA K p { e with fin_gone := n } :: cs) H' → tz D σ H') : tSeq (sFld K ta tv "fin_gone") tz D σ H :=
  s_set (e' := { e with fin_gone := n }) (D := { D with nx := tz D }) F o (fun ol pp rv => epu_fin_gone) rfl rfl rfl (F.na _ (by decide)) hv ha k
theorem s_set_owes_syn {n : Bool} (F : EndF K) (o : Own (endA K p e :: cs) H) (hv : Ev tv σ H (.bl n)) (ha : Ev ta σ H (.ref p)) (k : ∀ H', Own (endA K p { e with owes_syn := n } :: cs) H' → D.nx σ H') : sFld K ta tv "owes_syn" D σ H :=
  s_set (e' := { e with owes_syn := n }) F o (fun ol pp rv => epu_owes_syn) rfl rfl rfl (F.na _ (by decide)) hv ha k
theorem q_set_owes_syn {n : Bool} (F : EndF K) (o : Own (endA K p e :: cs) H) (hv : Ev tv σ H (.bl n)) (ha : Ev ta σ H (.ref p)) (k : ∀ H', Own (endA K p { e with owes_syn := n } :: cs) H' → tz D σ H') : tSeq (sFld K ta tv "owes_syn") tz D σ H :=
  s_set (e' := { e with owes_syn := n }) (D := { D with nx := tz D }) F o (fun ol pp rv => epu_owes_syn) rfl rfl rfl (F.na _ (by decide)) hv ha k
theorem s_set_owes_answer {n : Bool} (F : EndF K) (o : Own (endA K p e :: cs) H) (hv : Ev tv σ H (.bl n)) (ha : Ev ta σ H (.ref p)) (k : ∀ H', Own (endA K p { e with owes_answer := n } :: cs) H' → D.nx σ H') : sFld K ta tv "owes_answer" D σ H :=
  s_set (e' := { e with owes_answer := n }) F o (fun ol pp rv => epu_owes_answer) rfl rfl rfl (F.na _ (by decide)) hv ha k
theorem q_set_owes_answer {n : Bool} (F : EndF K) (o : Own (endA K p e :: cs) H) (hv : Ev tv σ H (.bl n)) (ha : Ev ta σ H (.ref p)) (k : ∀ H', Own (endA K p { e with owes_answer := n } :: cs) H' → tz D σ H') : tSeq (sFld K ta tv "owes_answer") tz D σ H :=
  s_set (e' := { e with owes_answer := n }) (D := { D with nx := tz D }) F o (fun ol pp rv => epu_owes_answer) rfl rfl rfl (F.na _ (by decide)) hv ha k
theorem s_set_since {n : Int} (F : EndF K) (o : Own (endA K p e :: cs) H) (hv : Ev tv σ H (.int n)) (ha : Ev ta σ H (.ref p)) (k : ∀ H', Own (endA K p { e with since := n } :: cs) H' → D.nx σ H') : sFld K ta tv "since" D σ H :=
  s_set (e' := { e with since := n }) F o (fun ol pp rv => epu_since) rfl rfl rfl (F.na _ (by decide)) hv ha k
theorem q_set_since {n : Int} (F : EndF K) (o : Own (endA K p e :: cs) H) (hv : Ev tv σ H (.int n)) (ha : Ev ta σ H (.ref p)) (k : ∀ H', Own (endA K p { e with since := n } :: cs) H' → tz D σ H') : tSeq (sFld K ta tv "since") tz D σ H :=
  s_set (e' := { e with since := n }) (D := { D with nx := tz D }) F o (fun ol pp rv => epu_since) rfl rfl rfl (F.na _ (by decide)) hv ha k
theorem s_set_wait {n : Int} (F : EndF K) (o : Own (endA K p e :: cs) H) (hv : Ev tv σ H (.int n)) (ha : Ev ta σ H (.ref p)) (k : ∀ H', Own (endA K p { e with wait := n } :: cs) H' → D.nx σ H') : sFld K ta tv "wait" D σ H :=
  s_set (e' := { e with wait := n }) F o (fun ol pp rv => epu_wait) rfl rfl rfl (F.na _ (by decide)) hv ha k
theorem q_set_wait {n : Int} (F : EndF K) (o : Own (endA K p e :: cs) H) (hv : Ev tv σ H (.int n)) (ha : Ev ta σ H (.ref p)) (k : ∀ H', Own (endA K p { e with wait := n } :: cs) H' → tz D σ H') : tSeq (sFld K ta tv "wait") tz D σ H :=
  s_set (e' := { e with wait := n }) (D := { D with nx := tz D }) F o (fun ol pp rv => epu_wait) rfl rfl rfl (F.na _ (by decide)) hv ha k
theorem s_set_tries {n : Int} (F : EndF K) (o : Own (endA K p e :: cs) H) (hv : Ev tv σ H (.int n)) (ha : Ev ta σ H (.ref p)) (k : ∀ H', Own (endA K p { e with tries := n } :: cs) H' → D.nx σ H') : sFld K ta tv "tries" D σ H :=
  s_set (e' := { e with tries := n }) F o (fun ol pp rv => epu_tries) rfl rfl rfl (F.na _ (by decide)) hv ha k
theorem q_set_tries {n : Int} (F : EndF K) (o : Own (endA K p e :: cs) H) (hv : Ev tv σ H (.int n)) (ha : Ev ta σ H (.ref p)) (k : ∀ H', Own (endA K p { e with tries := n } :: cs) H' → tz D σ H') : tSeq (sFld K ta tv "tries") tz D σ H :=
  s_set (e' := { e with tries := n }) (D := { D with nx := tz D }) F o (fun ol pp rv => epu_tries) rfl rfl rfl (F.na _ (by decide)) hv ha k
theorem s_set_probing {n : Bool} (F : EndF K) (o : Own (endA K p e :: cs) H) (hv : Ev tv σ H (.bl n)) (ha : Ev ta σ H (.ref p)) (k : ∀ H', Own (endA K p { e with probing := n } :: cs) H' → D.nx σ H') : sFld K ta tv "probing" D σ H :=
  s_set (e' := { e with probing := n }) F o (fun ol pp rv => epu_probing) rfl rfl rfl (F.na _ (by decide)) hv ha k
theorem q_set_probing {n : Bool} (F : EndF K) (o : Own (endA K p e :: cs) H) (hv : Ev tv σ H (.bl n)) (ha : Ev ta σ H (.ref p)) (k : ∀ H', Own (endA K p { e with probing := n } :: cs) H' → tz D σ H') : tSeq (sFld K ta tv "probing") tz D σ H :=
  s_set (e' := { e with probing := n }) (D := { D with nx := tz D }) F o (fun ol pp rv => epu_probing) rfl rfl rfl (F.na _ (by decide)) hv ha k
theorem s_set_error {n : M.Er} (F : EndF K) (o : Own (endA K p e :: cs) H) (hv : Ev tv σ H (.str (Str.ofString (M.Er.txt n)))) (ha : Ev ta σ H (.ref p)) (k : ∀ H', Own (endA K p { e with error := n } :: cs) H' → D.nx σ H') : sFld K ta tv "error" D σ H :=
  s_set (e' := { e with error := n }) F o (fun ol pp rv => epu_error) rfl rfl rfl (F.na _ (by decide)) hv ha k
theorem q_set_error {n : M.Er} (F : EndF K) (o : Own (endA K p e :: cs) H) (hv : Ev tv σ H (.str (Str.ofString (M.Er.txt n)))) (ha : Ev ta σ H (.ref p)) (k : ∀ H', Own (endA K p { e with error := n } :: cs) H' → tz D σ H') : tSeq (sFld K ta tv "error") tz D σ H :=
  s_set (e' := { e with error := n }) (D := { D with nx := tz D }) F o (fun ol pp rv => epu_error) rfl rfl rfl (F.na _ (by decide)) hv ha k
end
end Wr

namespace Wr
open PySem PySem.Spec PyProof.Rows L2 Evl
theorem sz {n : Nat} (h : Nat.ble n 100000 = true) : n ≤ 100000 := Nat.le_of_ble_eq_true h
/-- a global that is an object -/
theorem pe_gr {X : Cx} {x : Str} {p : Pos} {a : Addr} (hm : X.mg x = some (.ref a)) (hg : Gl X x := by rfl) (hd : (x == ("__debug__" : Str)) = false := by decide) : PE X (.Name x p) (tC (.ref a)) := pe_glob hg hm rfl (hd := hd)
section
variable {K : PySem.W.Frag} {σ : L2.St} {H H' : Hp} {ta tb tc te tx : TE} {t u : TT} {x y z v : V} {r : R2} {i j k : Int} {D : Ends} {tz tu tw : TS}
theorem el_catI {xs ys : List Int} (ha : EvL ta σ H (xs.map V.int)) (hb : EvL tb σ H (ys.map V.int)) (hz : xs.length + ys.length ≤ 100000) : EvL (tOp rCat ta tb) σ H ((xs ++ ys).map V.int) := fun H1 e Q k =>
  ha H1 e _ fun p H2 n1 e2 hp => hb H2 (e.trans e2) _ fun q H3 n2 e3 hq =>
    ⟨p, q, _, _, rfl, rfl, e3 p _ hp, hq, by rw [List.length_map, List.length_map]; exact sz_of hz, fun w hw => by
      rw [← List.map_append]
      exact k w _ (fresh_back (e2.trans e3) hw) ((e2.trans e3).trans (Ex.new hw)) upd_same⟩
/-- the left a list that stands -/
theorem el_catS {xs ys : List Int} {p : Addr} (hp : H p = some (.lst (xs.map V.int))) (ha : Ev ta σ H (.ref p)) (hb : EvL tb σ H (ys.map V.int)) (hz : xs.length + ys.length ≤ 100000) : EvL (tOp rCat ta tb) σ H ((xs ++ ys).map V.int) := fun H1 e Q k =>
  ha H1 e _ fun H2 e2 => hb H2 (e.trans e2) _ fun q H3 n2 e3 hq =>
    ⟨p, q, _, _, rfl, rfl, ((e.trans e2).trans e3) p _ hp, hq, by rw [List.length_map, List.length_map]; exact sz_of hz, fun w hw => by
      rw [← List.map_append]
      exact k w _ (fresh_back (e2.trans e3) hw) ((e2.trans e3).trans (Ex.new hw)) upd_same⟩
theorem cutV_int {xs : List Int} {lo hi : Option Int} : cutV (xs.map V.int) lo hi = (M.sl xs lo hi).map V.int := by
  unfold cutV M.sl
  rw [List.length_map, List.map_take, List.map_drop]
theorem el_slI {xs : List Int} {a : Addr} {tl th : TO} {lo hi : Option Int} (hs : SqL K H a (xs.map V.int)) (h : Ev te σ H (.ref a)) (h1 : EvO tl σ H lo) (h2 : EvO th σ H hi) : EvL (tSl (rSlL K) te tl th) σ H ((M.sl xs lo hi).map V.int) := by
  rw [← cutV_int]
  exact el_sl h h1 h2 hs
/-- xs.extend(new) -/
theorem s_extI {l : Addr} {xs ys : List Int} (hl : H l = some (.lst (xs.map V.int))) (ha : Ev ta σ H (.ref l)) (h : EvL te σ H (ys.map V.int)) (hz : xs.length + ys.length ≤ 100000)
    (k : ∀ H', H' l = some (.lst ((xs ++ ys).map V.int)) → (∀ H0, Ex H0 H → H0 l = none → Ex H0 H') → D.nx σ H') : tDrop (tBM K "list" rExtend ta (tCons te tNil)) D σ H :=
  ha H (Ex.refl H) _ fun H1 e1 => ⟨.inl ⟨rfl, _, sq_of (e1 l _ hl)⟩, h H1 e1 _ fun q H2 n e2 hq =>
    ⟨l, q, _, _, rfl, rfl, (e1.trans e2) l _ hl, hq, by rw [List.length_map, List.length_map]; exact sz_of hz, by
      rw [← List.map_append]
      exact k _ upd_same fun H0 x n0 => Ex.mut ((x.trans e1).trans e2) n0⟩⟩
theorem q_extI {l : Addr} {xs ys : List Int} (hl : H l = some (.lst (xs.map V.int))) (ha : Ev ta σ H (.ref l)) (h : EvL te σ H (ys.map V.int)) (hz : xs.length + ys.length ≤ 100000)
    (k : ∀ H', H' l = some (.lst ((xs ++ ys).map V.int)) → (∀ H0, Ex H0 H → H0 l = none → Ex H0 H') → tz D σ H') : tSeq (tDrop (tBM K "list" rExtend ta (tCons te tNil))) tz D σ H := s_extI (D := { D with nx := tz D }) hl ha h hz k
end
theorem extend_tupG (l : Addr) (items : Array Value) (n : Nat) (b : Addr) (od : Option Addr) (sl : Array (Option Value)) (items2 : Array Value) (n2 : Nat) (hs0 : ¬(!items.isEmpty && Builtin.List.listTooLong (items.size + items2.size)) = true) (hs1 : items.size ≤ sizeLine) (hs2 : items.size + items2.size ≤ sizeLine + 1) :
    Meets (Builtin.«list.extend» ⟨[.ref l, .ref b], []⟩) (fun _ R s => s.heap.get? l = some { cls := .type "list", dict := none, data := .seq items n, slots := #[] } ∧ s.heap.get? b = some { cls := .type "tuple", dict := od, data := .seq items2 n2, slots := sl } ∧ R (.ok (.ret Value.none)) { s with heap := s.heap.update l (Obj.mapSeq fun x => x ++ items2), toks := s.toks }) :=
  .of_wp fun prog w A R s h => by
    obtain ⟨hp, g, d, tk, os⟩ := s; obtain ⟨hl, hb, h⟩ := h; have f1 := AutoSeq1.idx_int; have f2 := AutoSeq1.sub_tuple_tuple; have f3 := AutoSeq1.sub_list_list; have f4 := AutoSeq1.sub_tuple_list; have f5 := AutoSeq1.sub_list_tuple;
    have hz' : (items ++ items2).size ≤ sizeLine + 1 := by rw [Array.size_append]; exact hs2
    wp_walk using (wpAny_updateSeq hl rfl (hz := hs1) (_hz' := hz')), wpAny_loadPart' hl, wpAny_loadPart' hb; exact ⟨_, rfl, h⟩
/-- xs.extend(a tuple) -/
def rExtendT (K : PySem.W.Frag) : V → List V → Hp → VK → Prop := fun x vs H Q => ∃ l b xs zs, x = .ref l ∧ vs = [.ref b] ∧ H l = some (.lst xs) ∧ SqT K H b zs ∧ xs.length + zs.length ≤ sizeLine ∧ Q .non (upd H l (.lst (xs ++ zs)))
theorem mt_extendT {X : Cx} : MtM X "list.extend" (rExtendT X.K) := by
  intro pins s σ H x vs v us Q I rx rv h
  obtain ⟨l, b, xs, zs, rfl, rfl, hH, hB, hz, q⟩ := h
  cases rx
  obtain ⟨u, rfl, ru⟩ := rv.one
  cases ru
  obtain ⟨z, its, n, r, hl, e⟩ := I.lstM hH
  obtain ⟨its2, r2, ⟨o2, e2, c2, n2, d2⟩, z2⟩ := I.tuple hB
  obtain ⟨oc2, od2, dt2, sl2⟩ := o2
  simp only at c2 d2
  subst c2 d2
  have l2 := r2.length
  have hsz : its.toArray.size + its2.toArray.size ≤ sizeLine := by rw [List.size_toArray, List.size_toArray]; omega
  have hlong : ¬ (!its.toArray.isEmpty && Builtin.List.listTooLong (its.toArray.size + its2.toArray.size)) = true := by
    rw [notLongL hsz, Bool.and_false]
    exact Bool.false_ne_true
  refine call_meets F.slot_list_extend ⟨_, e, rfl⟩ F.entry_list_extend (F.args_list_extend_2 _ _)
    (extend_tupG l its.toArray n b od2 sl2 its2.toArray n2 hlong (by rw [List.size_toArray]; omega) (by omega)) ⟨e, e2, ?_⟩
  refine ⟨.non, _, I.lset (its' := its ++ its2) hH e (by simp) (r.append r2) ?_, rfl, q⟩
  rw [List.length_append]
  omega
section
variable {K : PySem.W.Frag} {σ : L2.St} {H H' : Hp} {ta tb tc te tx : TE} {t u : TT} {x y z v : V} {r : R2} {i j k : Int} {D : Ends} {tz tu tw : TS}
theorem q_extT {l b : Addr} {xs ys : List Int} (hl : H l = some (.lst (xs.map V.int))) (ha : Ev ta σ H (.ref l)) (hb : SqT K H b (ys.map V.int)) (h : Ev te σ H (.ref b)) (hz : xs.length + ys.length ≤ 100000)
    (k : ∀ H', H' l = some (.lst ((xs ++ ys).map V.int)) → (∀ H0, Ex H0 H → H0 l = none → Ex H0 H') → tz D σ H') : tSeq (tDrop (tBM K "list" (rExtendT K) ta (tCons te tNil))) tz D σ H :=
  ha H (Ex.refl H) _ fun H1 e1 => ⟨.inl ⟨rfl, _, sq_of (e1 l _ hl)⟩, h H1 e1 _ fun H2 e2 =>
    ⟨l, b, _, _, rfl, rfl, (e1.trans e2) l _ hl, ex_t (e1.trans e2) hb, by rw [List.length_map, List.length_map]; exact sz_of hz, by
      rw [← List.map_append]
      exact k _ upd_same fun H0 x n0 => Ex.mut ((x.trans e1).trans e2) n0⟩⟩
/-- int(x < y) -/
theorem ev_intB {b : Bool} (ha : Ev ta σ H (.bl b)) : Ev (tCB (fun xs H Q => (∃ i, xs = [.int i] ∧ Q (.int i) H) ∨ ∃ k, xs = [.bl k] ∧ Q (.int (if k then 1 else 0)) H) (tCons ta tNil)) σ H (.int (M.b2i b)) := fun H1 e Q q =>
  ha H1 e _ fun H2 e2 => .inr ⟨b, rfl, q H2 e2⟩
/-- for k in range(a, b, c) -/
theorem s_forRC {ta : TA} {jj : Nat} {lo hi c : Int} {n : Nat} (h : EvA ta σ H [.int lo, .int hi, .int c]) (hn : RgC lo hi c n) (Pv : Nat → L2.St → Hp → Prop) (h0 : ∀ H1, Ex H H1 → Pv 0 σ H1)
    (hs : ∀ (i : Nat) σ' H', i < n → Pv i σ' H' → tu { D with nx := Pv (i + 1), ct := Pv (i + 1), bk := D.nx } (σ'.set jj (some (.int (lo + (i : Int) * c)))) H') (hd : ∀ σ' H', Pv n σ' H' → D.nx σ' H') : tFor (iRng3 ta) (gName jj) tu D σ H :=
  h H (Ex.refl H) _ fun H1 e => ⟨lo, hi, c, n, rfl, hn, for_rangeC (lo := lo) (c := c) (n := n) Pv (h0 H1 e) (fun i σ' H' hi p => hs i σ' H' hi p) hd⟩
theorem q_forRC {ta : TA} {jj : Nat} {lo hi c : Int} {n : Nat} (h : EvA ta σ H [.int lo, .int hi, .int c]) (hn : RgC lo hi c n) (Pv : Nat → L2.St → Hp → Prop) (h0 : ∀ H1, Ex H H1 → Pv 0 σ H1)
    (hs : ∀ (i : Nat) σ' H', i < n → Pv i σ' H' → tu { D with nx := Pv (i + 1), ct := Pv (i + 1), bk := tz D } (σ'.set jj (some (.int (lo + (i : Int) * c)))) H') (hd : ∀ σ' H', Pv n σ' H' → tz D σ' H') : tSeq (tFor (iRng3 ta) (gName jj) tu) tz D σ H :=
  s_forRC (D := { D with nx := tz D }) h hn Pv h0 hs hd
end
end Wr

/-! What the sums and segments of the program promise. -/
namespace M
theorem wsum_take {row : List Int} {i : Nat} (h : 2 * i + 1 < row.length) : wsum (row.take (2 * (i + 1))) = wsum (row.take (2 * i)) + 256 * row.getD (2 * i) 0 + row.getD (2 * i + 1) 0 := by
  induction i generalizing row with
  | zero =>
    match row, h with
    | a :: b :: r, _ => simp [wsum]
    | [a], h => simp at h
    | [], h => simp at h
  | succ i ih =>
    match row, h with
    | a :: b :: r, h =>
      have h2 : 2 * i + 1 < r.length := by simp only [List.length_cons] at h; omega
      have e := ih h2
      have e1 : 2 * (i + 1 + 1) = 2 * (i + 1) + 2 := by omega
      have e2 : 2 * (i + 1) = 2 * i + 2 := by omega
      rw [e1]
      simp only [List.take_succ_cons, wsum]
      rw [e, e2]
      simp only [List.take_succ_cons, wsum, List.getD_cons_succ]
      omega
    | [a], h => simp only [List.length_cons, List.length_nil] at h; omega
    | [], h => simp only [List.length_nil] at h; omega
theorem wsum_last {row : List Int} {i : Nat} (h : row.length = 2 * i + 1) : wsum (row.take (2 * (i + 1))) = wsum (row.take (2 * i)) + 256 * row.getD (2 * i) 0 := by
  induction i generalizing row with
  | zero =>
    match row, h with
    | [a], _ => simp [wsum]
    | a :: b :: r, h => simp at h
    | [], h => simp at h
  | succ i ih =>
    match row, h with
    | a :: b :: r, h =>
      have h2 : r.length = 2 * i + 1 := by simp only [List.length_cons] at h; omega
      have e := ih h2
      have e1 : 2 * (i + 1 + 1) = 2 * (i + 1) + 2 := by omega
      have e2 : 2 * (i + 1) = 2 * i + 2 := by omega
      rw [e1]
      simp only [List.take_succ_cons, wsum]
      rw [e, e2]
      simp only [List.take_succ_cons, wsum, List.getD_cons_succ]
      omega
    | [a], h => simp only [List.length_cons, List.length_nil] at h; omega
    | [], h => simp only [List.length_nil] at h; omega
theorem fold_step {t : Int} (h : 65535 < t) : fold (t % 65536 + t / 65536) = fold t ∧ t % 65536 + t / 65536 < t ∧ 0 ≤ t % 65536 + t / 65536 := by
  refine ⟨?_, by omega, by omega⟩
  unfold fold
  have h1 : ¬ t ≤ 65535 := by omega
  rw [if_neg h1]
  split
  · omega
  · omega
theorem fold_end {t : Int} (h : t ≤ 65535) : fold t = t := by unfold fold; rw [if_pos h]
theorem number_of_take {row : List Int} {i : Nat} {n : Int} (h : row[i]? = some n) : number_of (row.take (i + 1)) = number_of (row.take i) * 256 + n := by
  unfold number_of
  rw [List.take_succ, h]
  simp
end M
namespace Wr
open PySem PySem.Spec PyProof.Rows L2 Evl
theorem rgc2 {n : Nat} (h : n ≤ 100000) : RgC 0 (n : Int) 2 ((n + 1) / 2) := by
  have e : Builtin.Range.rangeSize 0 (n : Int) 2 = (((n + 1) / 2 : Nat) : Int) := by
    unfold Builtin.Range.rangeSize
    simp only [show (2 : Int) > 0 by decide, if_true]
    split <;> omega
  refine ⟨by decide, by decide, ?_, e⟩
  have f : ∀ i : Int, -1000000 ≤ i → i ≤ 1000000 → Builtin.Range.rangeFitsLong i = true := fun i h1 h2 => by
    unfold Builtin.Range.rangeFitsLong
    rw [Bool.and_eq_true]
    exact ⟨decide_eq_true (by omega), decide_eq_true (by omega)⟩
  unfold Builtin.Range.small
  rw [e, f 0 (by omega) (by omega), f n (by omega) (by omega), f 2 (by omega) (by omega), f _ (by omega) (by omega), if_pos (by decide), f _ (by omega) (by omega), Bool.or_true]
  rfl
section
variable {K : PySem.W.Frag} {H : Hp}
def p_plus : List V → Hp → V → Prop := fun vs H v => ∃ a b, vs = [.int a, .int b] ∧ v = .int (M.plus a b)
theorem spv_plus {a b : Int} : SpV (SpO p_plus) [.int a, .int b] H (.int (M.plus a b)) := spv fun _ _ => ⟨a, b, rfl, rfl⟩
def p_offset : List V → Hp → V → Prop := fun vs H v => ∃ a b, vs = [.int a, .int b] ∧ v = .int (M.offset a b)
theorem spv_offset {a b : Int} : SpV (SpO p_offset) [.int a, .int b] H (.int (M.offset a b)) := spv fun _ _ => ⟨a, b, rfl, rfl⟩
def p_past : List V → Hp → V → Prop := fun vs H v => ∃ a b, vs = [.int a, .int b] ∧ v = .bl (M.past a b)
theorem spv_past {a b : Int} : SpV (SpO p_past) [.int a, .int b] H (.bl (M.past a b)) := spv fun _ _ => ⟨a, b, rfl, rfl⟩
def p_cell (K : PySem.W.Frag) : List V → Hp → V → Prop := fun vs H v => ∃ a ns k, vs = [.ref a, .int k] ∧ SqL K H a (ns.map V.int) ∧ v = .int (M.cell ns k)
theorem spv_cell {a : Addr} {ns : List Int} {k : Int} (hS : SqL K H a (ns.map V.int)) : SpV (SpO (p_cell K)) [.ref a, .int k] H (.int (M.cell ns k)) := spv fun _ e => ⟨a, ns, k, rfl, ex_l e hS, rfl⟩
def p_mix (K : PySem.W.Frag) : List V → Hp → V → Prop := fun vs H v => ∃ a ns k, vs = [.ref a, .int k] ∧ SqL K H a (ns.map V.int) ∧ v = .int (M.mix ns k)
theorem spv_mix {a : Addr} {ns : List Int} {k : Int} (hS : SqL K H a (ns.map V.int)) : SpV (SpO (p_mix K)) [.ref a, .int k] H (.int (M.mix ns k)) := spv fun _ e => ⟨a, ns, k, rfl, ex_l e hS, rfl⟩
def p_whole : List V → Hp → V → Prop := fun vs H v => ∃ n, vs = [.int n] ∧ v = .bl true
theorem spv_whole {n : Int} : SpV (SpO p_whole) [.int n] H (.bl true) := spv fun _ _ => ⟨n, rfl, rfl⟩
def p_folded (K : PySem.W.Frag) : List V → Hp → V → Prop := fun vs H v => ∃ a ns, vs = [.ref a] ∧ SqL K H a (ns.map V.int) ∧ ns.length ≤ 100000 ∧ v = .int (M.folded ns)
theorem spv_folded {a : Addr} {ns : List Int} (hS : SqL K H a (ns.map V.int)) (hz : ns.length ≤ 100000) : SpV (SpO (p_folded K)) [.ref a] H (.int (M.folded ns)) := spv fun _ e => ⟨a, ns, rfl, ex_l e hS, hz, rfl⟩
def p_sum_of (K : PySem.W.Frag) : List V → Hp → V → Prop := fun vs H v => ∃ a ns, vs = [.ref a] ∧ SqL K H a (ns.map V.int) ∧ ns.length ≤ 100000 ∧ v = .int (M.sum_of ns)
theorem spv_sum_of {a : Addr} {ns : List Int} (hS : SqL K H a (ns.map V.int)) (hz : ns.length ≤ 100000) : SpV (SpO (p_sum_of K)) [.ref a] H (.int (M.sum_of ns)) := spv fun _ e => ⟨a, ns, rfl, ex_l e hS, hz, rfl⟩
def p_two : List V → Hp → List Int → Prop := fun vs H xs => ∃ n, vs = [.int n] ∧ xs = M.two n
theorem spl_two {n : Int} : SpL (SpLi p_two) [.int n] H ((M.two n).map V.int) := spl fun _ _ => ⟨n, rfl, rfl⟩
def p_four : List V → Hp → List Int → Prop := fun vs H xs => ∃ n, vs = [.int n] ∧ xs = M.four n
theorem spl_four {n : Int} : SpL (SpLi p_four) [.int n] H ((M.four n).map V.int) := spl fun _ _ => ⟨n, rfl, rfl⟩
def p_number_of (K : PySem.W.Frag) : List V → Hp → V → Prop := fun vs H v => ∃ a ns, vs = [.ref a] ∧ SqL K H a (ns.map V.int) ∧ v = .int (M.number_of ns)
theorem spv_number_of {a : Addr} {ns : List Int} (hS : SqL K H a (ns.map V.int)) : SpV (SpO (p_number_of K)) [.ref a] H (.int (M.number_of ns)) := spv fun _ e => ⟨a, ns, rfl, ex_l e hS, rfl⟩
def p_has (K : PySem.W.Frag) : List V → Hp → V → Prop := fun vs H v => ∃ a s f, vs = [.ref a, .int f] ∧ SegOk K a s H ∧ (0 < f ∧ f ≤ 1000) ∧ v = .bl (M.has s f)
theorem spv_has {a : Addr} {s : M.Seg} {f : Int} (hS : SegOk K a s H) (hf : 0 < f ∧ f ≤ 1000) : SpV (SpO (p_has K)) [.ref a, .int f] H (.bl (M.has s f)) := spv fun _ e => ⟨a, s, f, rfl, ck_ex e hS, hf, rfl⟩
def p_length (K : PySem.W.Frag) : List V → Hp → V → Prop := fun vs H v => ∃ a s, vs = [.ref a] ∧ SegOk K a s H ∧ v = .int (M.length s)
theorem spv_length {a : Addr} {s : M.Seg} (hS : SegOk K a s H) : SpV (SpO (p_length K)) [.ref a] H (.int (M.length s)) := spv fun _ e => ⟨a, s, rfl, ck_ex e hS, rfl⟩
def p_put (K : PySem.W.Frag) : List V → Hp → List Int → Prop := fun vs H xs => ∃ a s, vs = [.ref a] ∧ SegOk K a s H ∧ s.data.length ≤ 1000 ∧ xs = M.put s
theorem spl_put {a : Addr} {s : M.Seg} (hS : SegOk K a s H) (hd : s.data.length ≤ 1000) : SpL (SpLi (p_put K)) [.ref a] H ((M.put s).map V.int) := spl fun _ e => ⟨a, s, rfl, ck_ex e hS, hd, rfl⟩
/-- a segment's parts -/
theorem seg_at {a : Addr} {s : M.Seg} (h : SegOk K a s H) : ∃ d, SqT K H a (segVs s d) ∧ SqT K H d (s.data.map V.int) := by
  obtain ⟨d, o⟩ := exk_ok.mp h
  have o2 := sep_ok.mp o
  exact ⟨d, own_sqt o2 .here, own_sqt o2 (.there .here)⟩
end
end Wr

namespace Wr
open PySem PySem.Spec PyProof.Rows L2 Evl
section
variable {K : PySem.W.Frag} {σ : L2.St} {H H' : Hp} {ta tb tc te tx : TE} {t u : TT} {x y z v : V} {r : R2} {i j k : Int} {D : Ends} {tz tu tw : TS}
theorem et_yes : EvT tYes σ H true := fun H1 _ _ q => q H1 (Ex.refl H1)
theorem given_all (n : Nat) (v : Nat → V) : Evl.given n (fun _ => true) v = (List.range n).map v := by
  unfold Evl.given
  rw [List.filter_eq_self.mpr (fun _ _ => rfl)]
/-- [e for k in range(n)], ints -/
theorem el_lcRI {ta : TA} {jj : Nat} {vs : List Nat} {n : Int} (g : Nat → Int) (h : EvA ta σ H [.int n]) (hn : 0 ≤ n ∧ n ≤ 40000) (hw : ∀ x, wipe ((wipe σ vs).set jj (some x)) vs = wipe σ vs)
    (he : ∀ (i : Nat) H1, Ex H H1 → (i : Int) < n → Ev te ((wipe σ vs).set jj (some (.int (i : Int)))) H1 (.int (g i))) : EvL (tLc (iRng1 ta) (gName jj) tYes te vs) σ H (((List.range n.toNat).map g).map V.int) := by
  have e := el_lcR1 (te := te) (fun _ => true) (fun i => V.int (g i)) h hn hw (fun _ _ _ _ => et_yes) (fun i H1 e hi _ => he i H1 e hi)
  rw [given_all] at e
  rw [List.map_map]
  exact e
theorem getD_map {ns : List Int} {i : Nat} {x : V} (h : (ns.map V.int)[i]? = some x) : ns[i]? = some (ns.getD i 0) ∧ x = .int (ns.getD i 0) := by
  rw [List.getElem?_map] at h
  cases q : ns[i]? with
  | none => rw [q] at h; cases h
  | some n =>
    rw [q] at h
    have e : ns.getD i 0 = n := by rw [List.getD_eq_getElem?_getD, q]; rfl
    exact ⟨by rw [e], by rw [e]; exact (Option.some.inj h).symm⟩
theorem range_getD (ns : List Int) (g : Int → Int) : (List.range ns.length).map (fun i => g (ns.getD i 0)) = ns.map g := by
  refine List.ext_getElem? fun i => ?_
  rw [List.getElem?_map, List.getElem?_map]
  by_cases h : i < ns.length
  · rw [List.getElem?_range h, List.getElem?_eq_getElem h]
    simp [List.getD_eq_getElem?_getD, List.getElem?_eq_getElem h]
  · rw [List.getElem?_eq_none (by rw [List.length_range]; omega), List.getElem?_eq_none (by omega)]
    rfl
/-- [e for x in xs], ints -/
theorem el_lcLI {a : Addr} {ns : List Int} {tl : TE} {jj : Nat} {vs : List Nat} (g : Int → Int) (hx : SqL K H a (ns.map V.int)) (h : Ev tl σ H (.ref a)) (hz : ns.length ≤ 40000) (hw : ∀ x, wipe ((wipe σ vs).set jj (some x)) vs = wipe σ vs)
    (he : ∀ (n : Int) H1, n ∈ ns → Ex H H1 → Ev te ((wipe σ vs).set jj (some (.int n))) H1 (.int (g n))) : EvL (tLc (iList K tl) (gName jj) tYes te vs) σ H ((ns.map g).map V.int) := by
  have e := el_lcL (te := te) (fun _ => true) (fun i => V.int (g (ns.getD i 0))) h hx (by rw [List.length_map]; exact hz) hw (fun _ _ _ _ _ => et_yes) (fun i x H1 e hi _ => by
    obtain ⟨h1, rfl⟩ := getD_map hi
    exact he _ H1 (List.mem_of_getElem? h1) e)
  rw [given_all, List.length_map] at e
  rw [← range_getD ns g, List.map_map]
  exact e
theorem rep_int {xs : List Int} {n : Nat} : (List.replicate n (xs.map V.int)).flatten = ((List.replicate n xs).flatten).map V.int := by
  induction n with
  | zero => rfl
  | succ n ih => rw [List.replicate_succ, List.replicate_succ, List.flatten_cons, List.flatten_cons, ih, List.map_append]
/-- if t: x = new list: only what is said of it -/
theorem q_ifL {ii : Nat} {b : Bool} (P : List Int → Prop) (h : EvT t σ H b) (h1 : b = true → ∃ xs, EvL te σ H (xs.map V.int) ∧ P xs) (h2 : b = false → ∃ (a : Addr) (xs : List Int), σ[ii]? = some (some (.ref a)) ∧ H a = some (.lst (xs.map V.int)) ∧ P xs)
    (k : ∀ (a : Addr) (xs : List Int) H1, Ex H H1 → H1 a = some (.lst (xs.map V.int)) → P xs → tz D (σ.set ii (some (.ref a))) H1) : tSeq (tIfS t (tAsg te (gName ii)) tNext) tz D σ H := by
  refine q_if h (fun e H1 e1 => ?_) (fun e H1 e1 => ?_)
  · obtain ⟨xs, hv, p⟩ := h1 e
    exact s_asgL (D := { D with nx := tz D }) (hv.mono e1) fun a H2 _ e2 ha => k a xs H2 (e1.trans e2) ha p
  · obtain ⟨a, xs, hv, ha, p⟩ := h2 e
    have e2 : σ.set ii (some (.ref a)) = σ := by
      refine List.ext_getElem? fun m => ?_
      by_cases hm : ii = m
      · subst hm
        rw [List.getElem?_set_self (List.getElem?_eq_some_iff.mp hv).1, hv]
      · rw [List.getElem?_set_ne hm]
    have z := k a xs H1 e1 (e1 _ _ ha) p
    rw [e2] at z
    exact z
/-- [0] * n -/
theorem el_rep0 {a : Addr} {ns : List Int} (h : SqL K H a (ns.map V.int)) (ha : Ev ta σ H (.ref a)) (hz : ns.length ≤ 40000) :
    EvL (tOp rRep (tLst (tCons (tC (.int 0)) tNil)) (tCB (fun xs H Q => ∃ p ys, xs = [.ref p] ∧ (SqL K H p ys ∨ SqT K H p ys) ∧ Q (.int ys.length) H) (tCons ta tNil))) σ H ((List.replicate ns.length (0 : Int)).map V.int) := fun H1 e Q q => by
  refine (el_dispI (ea_consI ev_c ea_nilI) (by decide) : EvL (tLst (tCons (tC (.int 0)) tNil)) σ H (([0] : List Int).map V.int)) H1 e _ fun p H2 n2 e2 h2 => ?_
  refine (ev_lenLi h ha) H2 (e.trans e2) _ fun H3 e3 => ?_
  refine ⟨p, (ns.length : Int), _, rfl, rfl, e3 _ _ h2, by omega, by omega, ?_, fun w hw => ?_⟩
  · rw [Int.toNat_natCast, List.length_map]; show 1 * ns.length ≤ sizeLine; exact sz_of (by omega)
  · have e4 : (List.replicate (ns.length : Int).toNat (([0] : List Int).map V.int)).flatten = (List.replicate ns.length (0 : Int)).map V.int := by
      rw [Int.toNat_natCast, rep_int]
      congr 1
      induction ns.length with
      | zero => rfl
      | succ n ih => rw [List.replicate_succ, List.flatten_cons, ih, List.replicate_succ]; rfl
    rw [e4]
    exact q w _ (fresh_back (e2.trans e3) hw) ((e2.trans e3).trans (Ex.new hw)) upd_same
/-- a call with a new list -/
theorem ev_callL {sp : Sp} {E : XK} {xs : List Int} (h : EvL ta σ H (xs.map V.int)) (hs : ∀ p H1, H1 p = some (.lst (xs.map V.int)) → SpV sp [.ref p] H1 z) : Ev (tCall sp [] E (tCons ta tNil)) σ H z := fun H1 e Q q =>
  h H1 e _ fun p H2 n e2 hp => hs p H2 hp H2 (Ex.refl H2) Q (fun H3 e3 => q H3 (e2.trans e3)) E
end
end Wr
namespace M
theorem sm2 (i : Int) : -(2 ^ 64) < ([256, 1] : List Int).getD i.toNat 0 ∧ ([256, 1] : List Int).getD i.toNat 0 < 2 ^ 64 := by
  match i.toNat with
  | 0 => exact ⟨by decide, by decide⟩
  | 1 => exact ⟨by decide, by decide⟩
  | n + 2 => exact ⟨by show -(2 ^ 64) < (0 : Int); decide, by show (0 : Int) < 2 ^ 64; decide⟩
def Byt (r : List Int) : Prop := r.length ≤ 63 ∧ ∀ x ∈ r, 0 ≤ x ∧ x ≤ 255
def lsum (row : List Int) : Nat → Int
  | 0 => 0
  | i + 1 => lsum row i + row.getD i 0 * ([256, 1] : List Int).getD ((i : Int) % 2).toNat 0
theorem lsum_two (row : List Int) : ∀ i : Nat, 2 * i ≤ row.length → lsum row (2 * i) = wsum (row.take (2 * i)) := by
  intro i
  induction i with
  | zero => intro _; simp [lsum, wsum]
  | succ i ih =>
    intro h
    rw [wsum_take (by omega), ← ih (by omega)]
    have e1 : ((2 * i : Nat) : Int) % 2 = 0 := by omega
    have e2 : ((2 * i + 1 : Nat) : Int) % 2 = 1 := by omega
    show lsum row (2 * i) + row.getD (2 * i) 0 * ([256, 1] : List Int).getD (((2 * i : Nat) : Int) % 2).toNat 0 + row.getD (2 * i + 1) 0 * ([256, 1] : List Int).getD (((2 * i + 1 : Nat) : Int) % 2).toNat 0 = _
    rw [e1, e2]
    show lsum row (2 * i) + row.getD (2 * i) 0 * 256 + row.getD (2 * i + 1) 0 * 1 = _
    omega
theorem lsum_all (row : List Int) : lsum row row.length = wsum row := by
  by_cases h : row.length % 2 = 0
  · have e : row.length = 2 * (row.length / 2) := by omega
    have := lsum_two row (row.length / 2) (by omega)
    rw [← e, List.take_of_length_le (Nat.le_refl _)] at this
    exact this
  · have e : row.length = 2 * (row.length / 2) + 1 := by omega
    have h1 := lsum_two row (row.length / 2) (by omega)
    have h2 := wsum_last (row := row) (i := row.length / 2) e
    rw [List.take_of_length_le (by omega)] at h2
    rw [e, h2, ← h1]
    have e1 : ((2 * (row.length / 2) : Nat) : Int) % 2 = 0 := by omega
    show lsum row (2 * (row.length / 2)) + row.getD (2 * (row.length / 2)) 0 * ([256, 1] : List Int).getD (((2 * (row.length / 2) : Nat) : Int) % 2).toNat 0 = _
    rw [e1]
    show lsum row (2 * (row.length / 2)) + row.getD (2 * (row.length / 2)) 0 * 256 = _
    omega
theorem wsum_nn : ∀ {row : List Int}, (∀ x ∈ row, 0 ≤ x ∧ x ≤ 255) → 0 ≤ wsum row
  | [], _ => by simp [wsum]
  | [a], h => by have := h a (by simp); simp only [wsum]; omega
  | a :: b :: r, h => by
    have h1 := h a (by simp)
    have h2 := h b (by simp)
    have h3 := wsum_nn (row := r) (fun x hx => h x (by simp [hx]))
    simp only [wsum]; omega
theorem wsum_app : ∀ {row : List Int} (x y : List Int), row.length % 2 = 0 → wsum (row ++ x) = wsum row + wsum x
  | [], x, y, _ => by simp [wsum]
  | [a], x, y, h => by simp at h
  | a :: b :: r, x, y, h => by
    have := wsum_app (row := r) x y (by simp only [List.length_cons] at h; omega)
    simp only [List.cons_append, wsum, this]; omega
theorem wsum_pad : ∀ {row : List Int}, row.length % 2 = 1 → wsum (row ++ [0]) = wsum row
  | [], h => by simp at h
  | [a], h => by simp [wsum]
  | a :: b :: r, h => by
    have := wsum_pad (row := r) (by simp only [List.length_cons] at h; omega)
    simp only [List.cons_append, wsum, this]
theorem fold_range {t : Int} (h : 0 ≤ t) : 0 ≤ fold t ∧ fold t ≤ 65535 ∧ (fold t - t) % 65535 = 0 ∧ (fold t = 0 ↔ t = 0) := by
  unfold fold
  split
  · refine ⟨h, by omega, by omega, by omega⟩
  · refine ⟨by omega, by omega, by omega, by omega⟩
theorem fold_whole {t : Int} (h : 0 ≤ t) : fold (t + (65535 - fold t)) = 65535 := by
  obtain ⟨h1, h2, h3, h4⟩ := fold_range h
  have h5 : 0 ≤ t + (65535 - fold t) := by omega
  obtain ⟨g1, g2, g3, g4⟩ := fold_range h5
  have : fold (t + (65535 - fold t)) ≠ 0 := by
    intro e
    have := g4.mp e
    omega
  omega
end M


namespace Pr
open PySem PySem.Spec PyProof.Rows L2 Evl Wr
def top (i : Nat) : Stmt := PySem.Challenge.pw_wirestream_k02_sums.main.body.getD i (.Pass ⟨0, 0, 0, 0⟩)

abbrev s_folded : Stmt := top 1
abbrev s_sum_of : Stmt := top 2
abbrev s_cell : Stmt := top 4
abbrev s_mix : Stmt := top 5
abbrev s_whole : Stmt := top 6
abbrev s_law : Stmt := top 8
def fa : List He.Fa := [.free "range",
  .free "len",
  .glo "folded",
  .glo "sum_of",
  .glo "_law_cell",
  .glo "_law_mix",
  .free "int",
  .free "isinstance",
  .free "bool",
  .glo "_law_whole",
  .glo "law"]
def fn : List He.DefD := [⟨("folded", none), "folded", "folded", defArgs s_folded, defBody s_folded, defScope s_folded, [], []⟩,
  ⟨("sum_of", none), "sum_of", "sum_of", defArgs s_sum_of, defBody s_sum_of, defScope s_sum_of, [], []⟩,
  ⟨("_law_cell", none), "_law_cell", "_law_cell", defArgs s_cell, defBody s_cell, defScope s_cell, [], []⟩,
  ⟨("_law_mix", none), "_law_mix", "_law_mix", defArgs s_mix, defBody s_mix, defScope s_mix, [], []⟩,
  ⟨("_law_whole", none), "_law_whole", "_law_whole", defArgs s_whole, defBody s_whole, defScope s_whole, [], []⟩,
  ⟨("law", none), "law", "law", defArgs s_law, defBody s_law, defScope s_law, [], []⟩]
def ex : PySem.W.Frag → Bool := fun _ => true
section
variable {P : Program} {w : World} {K : PySem.W.Frag} {mg : Str → Option Value} {base : Heap}
theorem sc_folded : FnScope ["row", "total", "k"] ["row"] (defScope s_folded) := ⟨rfl, rfl, rfl, by decide +kernel, rfl, by decide +kernel, by decide +kernel⟩
theorem d_folded (T : Tx fa fn ex w K mg) : Df P w K mg base CX0 1 "folded" ["row"] (SpO (p_folded K)) := by
  refine df_mk T 0 2 rfl rfl sc_folded (fun kV doc pm an cdv ct us hl => match us, hl with | [_], _ => rfl) (fun vs H Q E h => ?_) (fun f cdv A outer s H vs Q E hr h => ?_)
  · obtain ⟨v, ⟨a, ns, rfl, hS, hz, rfl⟩, k⟩ := h
    rfl
  · obtain ⟨v, ⟨a, ns, rfl, hS, hz, rfl⟩, k⟩ := h
    refine ⟨_, PSs.nox (pss_cons (ps_set (i := 1) sc_folded.nd rfl (Or.inl rfl) pe_int)
      (pss_cons (ps_for PassesOwn.never rfl (pi_range3 rfl (T.free 0) (pa_cons pe_int (pa_cons (pe_callB call_len_seq (by rfl) (T.free 1) PySem.boot_len (pa_cons (pv 0) pa_nil)) (pa_cons pe_int pa_nil)))) (pg_name (i := 2) sc_folded.nd rfl (Or.inl rfl)) (pss_cons (ps_set (i := 1) sc_folded.nd rfl (Or.inl rfl) (pe_op op_add (pv 1) (pe_op op_mul pe_int (pe_ix ix_list (pv 0) (pv 2) (fun _ _ => rfl)))))
      (pss_one (ps_if (pt_cmpR op_lt (pe_op op_add (pv 2) pe_int) (pe_callB call_len_seq (by rfl) (T.free 1) PySem.boot_len (pa_cons (pv 0) pa_nil)) (nomark _)) (pss_one (ps_set (i := 1) sc_folded.nd rfl (Or.inl rfl) (pe_op op_add (pv 1) (pe_ix ix_list (pv 0) (pe_op op_add (pv 2) pe_int) (fun _ _ => rfl))))) pss_nil))))
      (pss_cons (ps_while PassesOwn.never (pt_cmpR op_gt (pv 1) pe_int (nomark _)) (pss_one (ps_set (i := 1) sc_folded.nd rfl (Or.inl rfl) (pe_op op_add (pe_op op_mod (pv 1) pe_int) (pe_op op_fdivW (pv 1) pe_int)))))
      (pss_one (ps_ret (pv 1)))))), ?_⟩
    refine q_asg (i := 1) ev_c (fun H1 e1 => ?_)
    refine q_forRC (jj := 2) (ea_cons ev_c (ea_cons (ev_lenLi (ex_l e1 hS) (ev_var rfl)) (ea_cons ev_c ea_nil))) (rgc2 hz) (fun i σ' H' => ∃ kv, σ' = [some (.ref a), some (.int (M.wsum (ns.take (2 * i)))), kv] ∧ Ex H H') (fun H2 e2 => ⟨none, rfl, e1.trans e2⟩) ?_ ?_
    · rintro i σ' H' hi ⟨kv, rfl, ex⟩
      have hi2 : 2 * i < ns.length := by omega
      have t1 : ((0 : Int) + (i : Int) * 2).toNat = 2 * i := by omega
      have t2 : ((0 : Int) + (i : Int) * 2 + 1).toNat = 2 * i + 1 := by omega
      refine q_asg (i := 1) (ev_i0 (ev_var rfl) (ev_iC (.inl ⟨by decide, by decide⟩) ev_c (ev_ixLi (ex_l ex hS) (ev_var rfl) (ev_var rfl) ⟨by omega, by omega⟩))) (fun H3 e3 => ?_)
      have ex3 := ex.trans e3
      refine s_when (et_test (ev_i0 (ev_i0 (ev_var rfl) ev_c) (ev_lenLi (ex_l ex3 hS) (ev_var rfl)))) (fun h1 H4 e4 => ?_) (fun h1 H4 e4 => ?_)
      · have h2 := of_decide_eq_true h1
        refine s_asg (i := 1) (ev_i0 (ev_var rfl) (ev_ixLi (ex_l (ex3.trans e4) hS) (ev_var rfl) (ev_i0 (ev_var rfl) ev_c) ⟨by omega, by omega⟩)) (fun H5 e5 => ?_)
        refine ⟨some (.int ((0 : Int) + (i : Int) * 2)), ?_, (ex3.trans e4).trans e5⟩
        rw [M.wsum_take (by omega), ← t2, ← t1]
        rfl
      · have h2 := of_decide_eq_false h1
        refine ⟨some (.int ((0 : Int) + (i : Int) * 2)), ?_, ex3.trans e4⟩
        rw [M.wsum_last (by omega), ← t1]
        rfl
    · rintro σ' H' ⟨kv, rfl, ex⟩
      have ew : M.fold (M.wsum (ns.take (2 * ((ns.length + 1) / 2)))) = M.folded ns := by
        rw [List.take_of_length_le (by omega)]
        rfl
      refine q_while (fun m σ' H' => ∃ t : Int, m = t.toNat ∧ σ' = [some (.ref a), some (.int t), kv] ∧ Ex H H' ∧ M.fold t = M.folded ns) _ ⟨_, rfl, rfl, ex, ew⟩ ?_
      rintro m σ2 H2 ⟨t, rfl, rfl, ex2, ht⟩
      refine ⟨_, et_test (ev_i0 (ev_var rfl) ev_c), fun h H3 e3 => ⟨fun σ' H' => ∃ t2 : Int, t2.toNat < t.toNat ∧ σ' = [some (.ref a), some (.int t2), kv] ∧ Ex H H' ∧ M.fold t2 = M.folded ns, ?_, ?_⟩, fun h H3 e3 => ?_⟩
      · rintro σ3 H4 ⟨t2, hlt, rfl, ex4, ht2⟩
        exact ⟨_, hlt, _, rfl, rfl, ex4, ht2⟩
      · have h2 : 65535 < t := of_decide_eq_true h
        obtain ⟨f1, f2, f3⟩ := M.fold_step h2
        refine s_asg (i := 1) (ev_i0 (ev_iC (by decide) (ev_var rfl) ev_c) (ev_iC ⟨by decide, by decide⟩ (ev_var rfl) ev_c)) (fun H5 e5 => ?_)
        exact ⟨_, by omega, rfl, (ex2.trans e3).trans e5, f1.trans ht⟩
      · have h2 : ¬ 65535 < t := of_decide_eq_false h
        exact s_ret (ev_var rfl) (fun H5 e5 => ret_is (k _ ((ex2.trans e3).trans e5)) (by rw [← ht, M.fold_end (by omega)]))
theorem sc_sum_of : FnScope ["row"] ["row"] (defScope s_sum_of) := ⟨rfl, rfl, rfl, by decide +kernel, rfl, by decide +kernel, by decide +kernel⟩
theorem d_sum_of (T : Tx fa fn ex w K mg) : Df P w K mg base CX0 2 "sum_of" ["row"] (SpO (p_sum_of K)) := by
  refine df_mk T 1 3 rfl rfl sc_sum_of (fun kV doc pm an cdv ct us hl => match us, hl with | [_], _ => rfl) (fun vs H Q E h => ?_) (fun f cdv A outer s H vs Q E hr h => ?_)
  · obtain ⟨v, ⟨a, ns, rfl, hS, hz, rfl⟩, k⟩ := h
    rfl
  · obtain ⟨v, ⟨a, ns, rfl, hS, hz, rfl⟩, k⟩ := h
    refine ⟨_, PSs.nox (pss_one (ps_ret (pe_op op_sub pe_int (pe_df (d_folded T) (hr.mono (by decide)) (pa_cons (pv 0) pa_nil))))), ?_⟩
    exact s_ret (ev_i0 ev_c (ev_call (ea_cons (ev_var rfl) ea_nil) (spv_folded hS hz))) k
theorem sc_cell : FnScope ["_law_script", "_law_k"] ["_law_script", "_law_k"] (defScope s_cell) := ⟨rfl, rfl, rfl, by decide +kernel, rfl, by decide +kernel, by decide +kernel⟩
theorem d_cell (T : Tx fa fn ex w K mg) : Df P w K mg base CX0 1 "_law_cell" ["_law_script", "_law_k"] (SpO (p_cell K)) := by
  refine df_mk T 2 4 rfl rfl sc_cell (fun kV doc pm an cdv ct us hl => match us, hl with | [_, _], _ => rfl) (fun vs H Q E h => ?_) (fun f cdv A outer s H vs Q E hr h => ?_)
  · obtain ⟨v, ⟨a, ns, kk, rfl, hS, rfl⟩, k⟩ := h
    rfl
  · obtain ⟨v, ⟨a, ns, kk, rfl, hS, rfl⟩, k⟩ := h
    refine ⟨_, PSs.nox (pss_cons (ps_if (pt_truth (pv 0) (fun _ => rfl)) (pss_one (ps_ret (pe_ix ix_list (pv 0) (pe_op op_mod (pv 1) (pe_callB call_len_seq (by rfl) (T.free 1) PySem.boot_len (pa_cons (pv 0) pa_nil))) (fun _ _ => rfl)))) pss_nil)
      (pss_one (ps_ret pe_int))), ?_⟩
    refine q_when (et_truLi hS (ev_var rfl)) (fun h1 H1 e1 => ?_) (fun h1 H1 e1 => ?_)
    · exact s_ret (Ev.mono e1 (ev_ixLi hS (ev_var rfl) (ev_iC (M.cell_pos h1) (ev_var rfl) (ev_lenLi hS (ev_var rfl))) (M.cell_ix h1))) (fun H2 e2 => ret_is (k _ (e1.trans e2)) (by simp only [M.cell, h1, if_true]))
    · exact s_ret ev_c (fun H2 e2 => ret_is (k _ (e1.trans e2)) (by simp only [M.cell, h1, Bool.false_eq_true, if_false]))
theorem sc_mix : FnScope ["_law_script", "_law_k", "_law_number"] ["_law_script", "_law_k"] (defScope s_mix) := ⟨rfl, rfl, rfl, by decide +kernel, rfl, by decide +kernel, by decide +kernel⟩
theorem d_mix (T : Tx fa fn ex w K mg) : Df P w K mg base CX0 2 "_law_mix" ["_law_script", "_law_k"] (SpO (p_mix K)) := by
  refine df_mk T 3 5 rfl rfl sc_mix (fun kV doc pm an cdv ct us hl => match us, hl with | [_, _], _ => rfl) (fun vs H Q E h => ?_) (fun f cdv A outer s H vs Q E hr h => ?_)
  · obtain ⟨v, ⟨a, ns, kk, rfl, hS, rfl⟩, k⟩ := h
    rfl
  · obtain ⟨v, ⟨a, ns, kk, rfl, hS, rfl⟩, k⟩ := h
    refine ⟨_, PSs.nox (pss_cons (ps_set (i := 2) sc_mix.nd rfl (Or.inl rfl) (pe_op op_mod (pe_op op_add (pe_df (d_cell T) (hr.mono (by decide)) (pa_cons (pv 0) (pa_cons (pv 1) pa_nil))) (pe_op op_mul pe_int (pe_op op_add (pv 1) pe_int))) pe_int))
      (pss_cons (ps_set (i := 2) sc_mix.nd rfl (Or.inl rfl) (pe_op op_mod (pe_op op_mul (pv 2) pe_int) pe_int))
      (pss_one (ps_ret (pe_op op_mod (pe_op op_add (pe_op op_mul (pe_op op_fdivW (pv 2) pe_int) pe_int) (pv 2)) pe_int))))), ?_⟩
    refine q_asg (i := 2) (ev_iC (by decide) (ev_i0 (ev_call (ea_cons (ev_var rfl) (ea_cons (ev_var rfl) ea_nil)) (spv_cell hS)) (ev_iC (.inl ⟨by decide, by decide⟩) ev_c (ev_i0 (ev_var rfl) ev_c))) ev_c) (fun H1 e1 => ?_)
    refine q_asg (i := 2) (ev_iC (by decide) (ev_iC (.inr ⟨by decide, by decide⟩) (ev_var rfl) ev_c) ev_c) (fun H2 e2 => ?_)
    exact s_ret (ev_iC (by decide) (ev_i0 (ev_iC (.inr ⟨by decide, by decide⟩) (ev_iC ⟨by decide, by decide⟩ (ev_var rfl) ev_c) ev_c) (ev_var rfl)) ev_c) (fun H3 e3 => k _ ((e1.trans e2).trans e3))
theorem sc_whole : FnScope ["_law_found"] ["_law_found"] (defScope s_whole) := ⟨rfl, rfl, rfl, by decide +kernel, rfl, by decide +kernel, by decide +kernel⟩
theorem d_whole (T : Tx fa fn ex w K mg) : Df P w K mg base CX0 1 "_law_whole" ["_law_found"] (SpO p_whole) := by
  refine df_mk T 4 9 rfl rfl sc_whole (fun kV doc pm an cdv ct us hl => match us, hl with | [_], _ => rfl) (fun vs H Q E h => ?_) (fun f cdv A outer s H vs Q E hr h => ?_)
  · obtain ⟨v, ⟨n, rfl, rfl⟩, k⟩ := h
    rfl
  · obtain ⟨v, ⟨n, rfl, rfl⟩, k⟩ := h
    refine ⟨_, PSs.nox (pss_one (ps_ret (pe_and (pe_callB call_isi (by rfl) (T.free 7) (by decide +kernel) (pa_cons (pv 0) (pa_cons (pe_bltn (v := .ty "int") (by rfl) (T.free 6) (by decide +kernel) rfl) pa_nil))) (pe_one (pe_not (pe_callB call_isi (by rfl) (T.free 7) (by decide +kernel) (pa_cons (pv 0) (pa_cons (pe_bltn (v := .ty "bool") (by rfl) (T.free 8) (by decide +kernel) rfl) pa_nil)))))))), ?_⟩
    exact s_ret (ev_andV (ev_isi (b := true) (ev_var rfl) ev_c (.ty _) (fun _ _ => .base (.int _)) (kit_ty (by decide +kernel))) (fun _ => ev_notV (ev_isi (b := false) (ev_var rfl) ev_c (.ty _) (fun _ _ => .base (.int _)) (kit_ty (by decide +kernel))))) k
theorem sc_law : FnScope ["_law_script", "_law_row", "_law_total", "_law_k", "_law_found", "_law_rest", "_law_byte"] ["_law_script"] (defScope s_law) := ⟨rfl, rfl, rfl, by decide +kernel, rfl, by decide +kernel, by decide +kernel⟩
def spLaw (K : PySem.W.Frag) : Sp := fun vs H Q _ => ∃ (a : Addr) (ns : List Int), vs = [.ref a] ∧ SqL K H a (ns.map V.int) ∧ ns.length ≤ 63 ∧ ∀ H', Q (.bl true) H'
theorem law_ok {f : Addr} (T : Tx fa fn ex w K mg) (hfa : mg ("law" : Str) = some (.ref f)) : ∃ fd : FuncData, (∀ (s : Shared) (v : Value), BindsTo s fd ⟨[v], []⟩ [("_law_script", v)]) ∧ ∀ base : Heap, K.In base → base.Ns mainGlobals mg → FnOk P w K mg base CX0 3 f fd ["_law_script"] (spLaw K) := by
  refine law_mk T 5 10 rfl rfl sc_law (fun kV doc pm an cdv ct us hl => match us, hl with | [_], _ => rfl) hfa (fun vs H Q E h => ?_) (fun base f cdv A outer s H vs Q E hr h => ?_)
  · obtain ⟨a, ns, rfl, _⟩ := h
    rfl
  · obtain ⟨a, ns, rfl, hS, hlen, k⟩ := h
    refine ⟨_, PSs.nox (pss_cons (ps_setLc (i := 1) (own := [("_law_k", 3)]) (g := gName 3) rfl sc_law.nd rfl rfl (sw_true rfl rfl rfl (by decide +kernel)) (pi_range1 rfl (T.free 0) (pa_cons (pe_op op_mod (pe_callB call_len_seq (by rfl) (T.free 1) PySem.boot_len (pa_cons (pv 0) pa_nil)) pe_int) pa_nil)) (blkOk_by (own := [("_law_k", 3)]) (N := ["_law_script", "_law_row", "_law_total", "_law_k", "_law_found", "_law_rest", "_law_byte"]) (sc := defScope s_law) (by decide +kernel)) (fun _ _ _ _ _ => pg_name (i := 3) sc_law.nd rfl (Or.inl rfl)) (fun _ _ _ _ _ => pts_nil) (fun _ _ _ _ _ => (pe_op op_mod (pe_op op_fdivW (pe_df (d_mix T) (hr.mono (by decide)) (pa_cons (pv 0) (pa_cons (pv 3) pa_nil))) pe_int) pe_int)))
      (pss_cons (ps_if (pt_cmpR op_eq (pe_op op_mod (pe_df (d_mix T) (hr.mono (by decide)) (pa_cons (pv 0) (pa_cons pe_int pa_nil))) pe_int) pe_int (nomark _)) (pss_one (ps_setLc (i := 1) (own := [("_law_byte", 6)]) (g := gName 6) rfl sc_law.nd rfl rfl (sw_true rfl rfl rfl (by decide +kernel)) (pi_list (pv 1)) (blkOk_by (own := [("_law_byte", 6)]) (N := ["_law_script", "_law_row", "_law_total", "_law_k", "_law_found", "_law_rest", "_law_byte"]) (sc := defScope s_law) (by decide +kernel)) (fun _ _ _ _ _ => pg_name (i := 6) sc_law.nd rfl (Or.inl rfl)) (fun _ _ _ _ _ => pts_nil) (fun _ _ _ _ _ => (pe_op op_sub pe_int (pe_op op_mod (pv 6) pe_int))))) pss_nil)
      (pss_cons (ps_if (pt_cmpR op_eq (pe_op op_mod (pe_df (d_mix T) (hr.mono (by decide)) (pa_cons (pv 0) (pa_cons pe_int pa_nil))) pe_int) pe_int (nomark _)) (pss_one (ps_set (i := 1) sc_law.nd rfl (Or.inl rfl) (pe_op op_rep (pe_lst (pa_cons pe_int pa_nil)) (pe_callB call_len_seq (by rfl) (T.free 1) PySem.boot_len (pa_cons (pv 1) pa_nil))))) pss_nil)
      (pss_cons (ps_set (i := 2) sc_law.nd rfl (Or.inl rfl) pe_int)
      (pss_cons (ps_for PassesOwn.never rfl (pi_range1 rfl (T.free 0) (pa_cons (pe_callB call_len_seq (by rfl) (T.free 1) PySem.boot_len (pa_cons (pv 1) pa_nil)) pa_nil)) (pg_name (i := 3) sc_law.nd rfl (Or.inl rfl)) (pss_one (ps_set (i := 2) sc_law.nd rfl (Or.inl rfl) (pe_op op_add (pv 2) (pe_op op_mul (pe_ix ix_list (pv 1) (pv 3) (fun _ _ => rfl)) (pe_ix ix_list (pe_lst (pa_cons pe_int (pa_cons pe_int pa_nil))) (pe_op op_mod (pv 3) pe_int) (fun _ _ => rfl)))))))
      (pss_cons (ps_set (i := 4) sc_law.nd rfl (Or.inl rfl) (pe_df (d_folded T) (hr.mono (by decide)) (pa_cons (pv 1) pa_nil)))
      (pss_cons (ps_if (PW.pt (pw_or (pt_not (pt_val (pe_df (d_whole T) (hr.mono (by decide)) (pa_cons (pv 4) pa_nil)))) (pw_or (pt_not (pt_chain op_le op_le pe_int (pv 4) pe_int)) (pw_or1 (pt_cmpR op_ne (pe_op op_mod (pe_op op_sub (pv 4) (pv 2)) pe_int) pe_int (nomark _)))))) (pss_one (ps_ret pe_bl)) pss_nil)
      (pss_cons (ps_if (pt_cmpR op_ne (pe_cmpR op_eq (pv 4) pe_int (nomark _)) (pe_cmpR op_eq (pv 2) pe_int (nomark _)) (nomark _)) (pss_one (ps_ret pe_bl)) pss_nil)
      (pss_cons (ps_set (i := 5) sc_law.nd rfl (Or.inl rfl) (pe_df (d_sum_of T) (hr.mono (by decide)) (pa_cons (pv 1) pa_nil)))
      (pss_cons (ps_if (PW.pt (pw_or (pt_not (pt_val (pe_df (d_whole T) (hr.mono (by decide)) (pa_cons (pv 5) pa_nil)))) (pw_or1 (pt_cmpR op_ne (pv 5) (pe_op op_sub pe_int (pv 4)) (nomark _))))) (pss_one (ps_ret pe_bl)) pss_nil)
      (pss_cons (ps_if (pt_cmpR op_eq (pe_op op_mod (pe_callB call_len_seq (by rfl) (T.free 1) PySem.boot_len (pa_cons (pv 1) pa_nil)) pe_int) pe_int (nomark _)) (pss_one (ps_set (i := 1) sc_law.nd rfl (Or.inl rfl) (pe_op op_cat (pv 1) (pe_lst (pa_cons pe_int pa_nil))))) pss_nil)
      (pss_one (ps_ret (pe_cmpR op_eq (pe_df (d_folded T) (hr.mono (by decide)) (pa_cons (pe_op op_cat (pv 1) (pe_lst (pa_cons (pe_op op_fdivW (pv 5) pe_int) (pa_cons (pe_op op_mod (pv 5) pe_int) pa_nil)))) pa_nil)) pe_int (nomark _))))))))))))))), ?_⟩
    have mx : ∀ kk : Int, Ev (tVar 0) [some (.ref a)] H (.ref a) := fun _ => ev_var rfl
    have hl : (0 : Int) ≤ (ns.length : Int) % 64 ∧ (ns.length : Int) % 64 ≤ 63 := by omega
    -- row = [mix // 5 % 256 ..]
    refine q_asgL (i := 1) (el_lcRI (fun i : Nat => M.mix ns (i : Int) / 5 % 256) (ea_cons (ev_iC (by decide) (ev_lenLi hS (ev_var rfl)) ev_c) ea_nil) ⟨by omega, by omega⟩ (fun _ => rfl) (fun i H1 e1 hi => ev_iC (by decide) (ev_iC ⟨by decide, by decide⟩ (ev_call (ea_cons (ev_var rfl) (ea_cons (ev_var rfl) ea_nil)) (spv_mix (ex_l e1 hS))) ev_c) ev_c)) (fun p1 H1 n1 e1 h1 => ?_)
    have P1 : M.Byt ((List.range ((ns.length : Int) % 64).toNat).map fun i : Nat => M.mix ns (i : Int) / 5 % 256) := by
      refine ⟨by rw [List.length_map, List.length_range]; omega, fun x hx => ?_⟩
      obtain ⟨i, _, rfl⟩ := List.mem_map.mp hx
      omega
    -- if mix % 3 == 0: row = [255 - byte % 2 ..]
    refine q_ifL (ii := 1) M.Byt (et_test (ev_eqI (ev_iC (by decide) (ev_call (ea_cons (ev_var rfl) (ea_cons ev_c ea_nil)) (spv_mix (ex_l e1 hS))) ev_c) ev_c)) (fun _ => ⟨_, el_lcLI (fun x => 255 - x % 2) (sq_of h1) (ev_var rfl) (by have := P1.1; omega) (fun _ => rfl) (fun n H2 _ e2 => ev_i0 ev_c (ev_iC (by decide) (ev_var rfl) ev_c)), ?_⟩) (fun _ => ⟨p1, _, rfl, h1, P1⟩) (fun p2 r2 H2 e2 h2 P2 => ?_)
    · refine ⟨by rw [List.length_map]; exact P1.1, fun x hx => ?_⟩
      obtain ⟨i, _, rfl⟩ := List.mem_map.mp hx
      omega
    have ex2 := e1.trans e2
    -- if mix % 3 == 1: row = [0] * len(row)
    refine q_ifL (ii := 1) M.Byt (et_test (ev_eqI (ev_iC (by decide) (ev_call (ea_cons (ev_var rfl) (ea_cons ev_c ea_nil)) (spv_mix (ex_l ex2 hS))) ev_c) ev_c)) (fun _ => ⟨List.replicate r2.length 0, el_rep0 (sq_of h2) (ev_var rfl) (by have := P2.1; omega), ?_⟩) (fun _ => ⟨p2, r2, rfl, h2, P2⟩) (fun p3 row H3 e3 h3 P3 => ?_)
    · refine ⟨by rw [List.length_replicate]; exact P2.1, fun x hx => ?_⟩
      have := List.eq_of_mem_replicate hx
      omega
    have ex3 := ex2.trans e3
    have hz : row.length ≤ 63 := P3.1
    have hw := M.wsum_nn P3.2
    -- total = 0; for k in range(len(row)): ..
    refine q_asg (i := 2) ev_c (fun H4 e4 => ?_)
    refine q_forR1 (j := 3) (ea_cons (ev_lenLi (sq_of (e4 _ _ h3)) (ev_var rfl)) ea_nil) ⟨by omega, by omega⟩ (fun i σ' H' => ∃ kv, σ' = [some (.ref a), some (.ref p3), some (.int (M.lsum row i)), kv, none, none, none] ∧ Ex H3 H') (fun H5 e5 => ⟨none, rfl, e4.trans e5⟩) ?_ ?_
    · rintro i σ' H' hi ⟨kv, rfl, ex⟩
      have hk : (0 : Int) ≤ (i : Int) % 2 ∧ (i : Int) % 2 < 2 := by omega
      refine s_asg (i := 2) (ev_i0 (ev_var rfl) (ev_iC (.inr (M.sm2 _)) (ev_ixLi (sq_of (ex _ _ h3)) (ev_var rfl) (ev_var rfl) ⟨by omega, by omega⟩) (ev_ixNi (el_dispI (ea_consI ev_c (ea_consI ev_c ea_nilI)) (by decide)) (ev_iC (by decide) (ev_var rfl) ev_c) ⟨by omega, by show _ < (2 : Int); omega⟩))) (fun H5 e5 => ?_)
      exact ⟨some (.int (i : Int)), rfl, ex.trans e5⟩
    rintro σ' H5 ⟨kv, rfl, ex5⟩
    have et : M.lsum row (Int.toNat (row.length : Int)) = M.wsum row := by rw [Int.toNat_natCast]; exact M.lsum_all row
    rw [et]
    obtain ⟨f1, f2, f3, f4⟩ := M.fold_range hw
    -- found = folded(row)
    refine q_asg (i := 4) (ev_call (ea_cons (ev_var rfl) ea_nil) (spv_folded (sq_of (ex5 _ _ h3)) (by omega))) (fun H6 e6 => ?_)
    have ex6 := ex5.trans e6
    refine q_no (et_or (et_not (et_B (ev_call (ea_cons (ev_var rfl) ea_nil) spv_whole))) (fun _ => et_or (et_not (et_test (ev_ch ev_c (ev_var rfl) ev_c))) (fun _ => et_test (ev_neI (ev_iC (by decide) (ev_i0 (ev_var rfl) (ev_var rfl)) ev_c) ev_c)))) ?_ (fun H7 e7 => ?_)
    · have g1 : 0 ≤ M.folded row := f1
      have g2 : M.folded row ≤ 65535 := f2
      have g3 : (M.folded row - M.wsum row) % 65535 = 0 := f3
      simp [g1, g2, g3]
    have ex7 := ex6.trans e7
    refine q_no (et_test (ev_neB (ev_eqI (ev_var rfl) ev_c) (ev_eqI (ev_var rfl) ev_c))) ?_ (fun H8 e8 => ?_)
    · have g4 : (M.folded row = 0 ↔ M.wsum row = 0) := f4
      simp [g4]
    have ex8 := ex7.trans e8
    refine q_asg (i := 5) (ev_call (ea_cons (ev_var rfl) ea_nil) (spv_sum_of (sq_of (ex8 _ _ h3)) (by omega))) (fun H9 e9 => ?_)
    have ex9 := ex8.trans e9
    refine q_no (et_or (et_not (et_B (ev_call (ea_cons (ev_var rfl) ea_nil) spv_whole))) (fun _ => et_test (ev_neI (ev_var rfl) (ev_i0 ev_c (ev_var rfl))))) ?_ (fun HA eA => ?_)
    · simp [M.sum_of]
    have exA := ex9.trans eA
    have h3A := exA _ _ h3
    -- if len(row) % 2 == 1: row = row + [0]
    refine q_ifL (ii := 1) (fun r => r.length ≤ 64 ∧ r.length % 2 = 0 ∧ M.wsum r = M.wsum row) (et_test (ev_eqI (ev_iC (by decide) (ev_lenLi (sq_of h3A) (ev_var rfl)) ev_c) ev_c)) (fun hc => ⟨row ++ [0], el_catS h3A (ev_var rfl) (el_dispI (ea_consI ev_c ea_nilI) (by decide)) (by simp only [List.length_cons, List.length_nil]; omega), ?_⟩) (fun hc => ⟨p3, row, rfl, h3A, ?_⟩) (fun p4 r4 HB eB h4 P4 => ?_)
    · have hc2 := of_decide_eq_true hc
      refine ⟨by rw [List.length_append]; simp only [List.length_cons, List.length_nil]; omega, by rw [List.length_append]; simp only [List.length_cons, List.length_nil]; omega, M.wsum_pad (by omega)⟩
    · have hc2 := of_decide_eq_false hc
      exact ⟨by omega, by omega, rfl⟩
    obtain ⟨q1, q2, q3⟩ := P4
    have hd : (M.sum_of row) / 256 * 256 + (M.sum_of row) % 256 = M.sum_of row := by omega
    have fin : M.folded (r4 ++ [M.sum_of row / 256, M.sum_of row % 256]) = 65535 := by
      unfold M.folded
      rw [M.wsum_app _ [] q2, q3]
      simp only [M.wsum]
      have e : 256 * (M.sum_of row / 256) + M.sum_of row % 256 + 0 = 65535 - M.fold (M.wsum row) := by unfold M.sum_of M.folded; omega
      rw [e]
      exact M.fold_whole hw
    refine s_ret (ev_eqI (ev_callL (el_catS h4 (ev_var rfl) (el_dispI (ea_consI (ev_iC ⟨by decide, by decide⟩ (ev_var rfl) ev_c) (ea_consI (ev_iC (by decide) (ev_var rfl) ev_c) ea_nilI)) (sz rfl)) (by simp only [List.length_cons, List.length_nil]; omega)) (fun p HH hp => spv_folded (sq_of hp) (by rw [List.length_append]; simp only [List.length_cons, List.length_nil]; omega))) ev_c) (fun HC eC => ret_is (k _) ?_)
    rw [fin]
    rfl
end
abbrev R : PySem.W.OpenRow := PySem.W.OpenLaw.row PySem.Challenge.rw_wirestream_k02_sums
abbrev hk : PySem.W.Hook := He.hookX 6 fa fn [] [] ex
def ob (s : PySem.W.SharedT) : He.AlX := He.obsX 6 fa fn [] [] ex (HandSHeadRun.getT s)
theorem ob_eq (s : PySem.W.SharedT) : ob s = hk.obs s.abs := He.obsX_eq (HandSHeadRun.getT_eq s)
def loose : List Str := (["__name__", "folded", "sum_of", "_law_cell", "_law_mix", "_law_whole", "_law_wholes"] : List Str)
theorem run (w : World) : HandSHeadRun.RunEq R (PySem.W.view R.prog [8]) hk ob 3000 loose w := by
  intro os
  kernel_rfl
end Pr
open PySem PySem.W PySem.Calls PyProof.Rows
theorem PySem.Challenge.cw_wirestream_k02_sums_holds : PySem.Challenge.rw_wirestream_k02_sums.Holds := by
  w_on; o_law
  refine HandSHeadRun.head_any (r := OpenLaw.row PySem.Challenge.rw_wirestream_k02_sums) (q := view (OpenLaw.row PySem.Challenge.rw_wirestream_k02_sums).prog [8]) (H := Pr.hk) (ob := Pr.ob) (M := 3000) (loose := Pr.loose) (d := HandSHeadRun.topDef (OpenLaw.row PySem.Challenge.rw_wirestream_k02_sums).prog 8) (kwd := []) Pr.ob_eq
    (by kernel_rfl) (fun s => by kernel_rfl) Pr.run (by kernel_rfl) (by kernel_rfl) (by kernel_rfl) (by rfl) (by first | assumption | decide +kernel) (by decide +kernel) ⟨rfl, rfl, rfl, rfl, rfl, by decide +kernel⟩ ?hw ?hc
  case hw => w_witness2
  case hc =>
    refine L2.walk_ofE (l := PySem.Challenge.rw_wirestream_k02_sums) (n := 63) (k := 3) (x := "_law_script") (CX := L2.CX0) rfl (by decide) (by kernel_rfl) ⟨rfl, by decide, by decide⟩ ?F (fun _ _ _ _ z => z)
    intro w mg fa h Y G hmg0
    obtain ⟨K, KX, c⟩ := Y
    have hmg : mg ("law" : PySem.Str) = some (.ref fa) := by
      have e : (HandSHeadRun.topDef (OpenLaw.row PySem.Challenge.rw_wirestream_k02_sums).prog 8).name = ("law" : PySem.Str) := by kernel_rfl
      rw [← e]
      exact hmg0
    obtain ⟨fd, hb, hF⟩ := Pr.law_ok (P := (PySem.Challenge.rw_wirestream_k02_sums).prog) (w := w) (T := ⟨⟨h, KX, G⟩, c.t.d, c.more⟩) hmg
    exact ⟨K, fd, Pr.spLaw K, KX, hb, fun H a ns hl _ hS => ⟨a, ns, rfl, hS, hl, fun _ => rfl⟩, hF⟩
#print axioms PySem.Challenge.cw_wirestream_k02_sums_holds
