import PyProof.Rows.All
import Wide.All
import OpenK.AllK
import Wide.FinOn
import HandS.ForMost
import HandS.Codes
import HandS.Flow
import HandS.TupAny
import HandS.TupMul
import HandS.Deep
import HandS.IsInst
import HandS.Wide
import HandS.Walk
import KE.GoesEnum
import HandS.More
import HandS.SortInts
import HandS.Text
import KE.KDictKeyed
import HandS.Conv
import HandS.ExcOwn
import HandS.WordsExc
import HandS.ExcIs
import HandS.ExcField
import HandS.HotCalls
import HandS.SetFor
import HandS.ExcInit
import HandS.Nested
import HandS.EndTab
import KE.KDflt
import PySem.Challenge.RW_blockcarrier_k10_fences_put_in
set_option Elab.async false
set_option linter.all false
set_option maxRecDepth 100000
set_option maxHeartbeats 4000000
/-! BC0: data that never changes (Im), what stays (Kp, Ex), steps of readings. -/
namespace BC
open PySem PySem.Spec PyProof.Rows L2

/-! ### heaps -/
/-- tuples stay -/
def Kp (H H' : Hp) : Prop := ∀ a xs, H a = some (.tup xs) → H' a = some (.tup xs)
/-- all stays -/
def Ex (H H' : Hp) : Prop := ∀ x u, H x = some u → H' x = some u
/-- all stays but what stands at F -/
def Fr (F : List Addr) (H H' : Hp) : Prop := ∀ a o, H a = some o → a ∉ F → H' a = some o
theorem Kp.refl (H : Hp) : Kp H H := fun _ _ h => h
theorem Kp.trans {H H1 H2 : Hp} (a : Kp H H1) (b : Kp H1 H2) : Kp H H2 := fun x o h => b x o (a x o h)
theorem Ex.refl (H : Hp) : Ex H H := fun _ _ z => z
theorem Ex.trans {H H1 H2 : Hp} (e : Ex H H1) (e' : Ex H1 H2) : Ex H H2 := fun x u z => e' x u (e x u z)
theorem Ex.kp {H H' : Hp} (e : Ex H H') : Kp H H' := fun a xs h => e a _ h
theorem Ex.new {H : Hp} {p : Addr} {o : HO} (h : H p = none) : Ex H (upd H p o) := fun x u z => by
  rw [upd_ne (ne_of_none z h)]
  exact z
theorem Ex.mut {H H' : Hp} {p : Addr} {o : HO} (h : H p = none) (e : Ex H H') : Ex H (upd H' p o) := fun a u ha => by
  rw [upd_ne (ne_of_none ha h)]
  exact e a u ha
theorem Ex.free {H H' : Hp} {p : Addr} (e : Ex H H') (h : H' p = none) : H p = none := by
  cases h1 : H p with
  | none => rfl
  | some o =>
    rw [e p o h1] at h
    cases h
theorem Kp.new {H H' : Hp} {p : Addr} {o : HO} (h : H' p = none) (e : Kp H H') : Kp H (upd H' p o) := e.trans (Ex.new h).kp
/-- not a tuple -/
def Nt : Option HO → Prop
  | some (.tup _) => False
  | _ => True
theorem Kp.mut {H H' : Hp} {p : Addr} {o : HO} (h : Nt (H' p)) (e : Kp H H') : Kp H (upd H' p o) := fun a xs ha => by
  have h1 := e a xs ha
  have : a ≠ p := fun z => by
    subst z
    rw [h1] at h
    exact h
  rw [upd_ne this]
  exact h1
theorem nt_of {H : Hp} {p : Addr} {o : HO} (h : H p = some o) (n : Nt (some o)) : Nt (H p) := by
  rw [h]
  exact n
theorem Fr.refl (F : List Addr) (H : Hp) : Fr F H H := fun _ _ h _ => h
theorem Fr.trans {F : List Addr} {H H1 H2 : Hp} (a : Fr F H H1) (b : Fr F H1 H2) : Fr F H H2 := fun x o h n => b x o (a x o h n) n
theorem Ex.fr {F : List Addr} {H H' : Hp} (e : Ex H H') : Fr F H H' := fun a o h _ => e a o h
theorem Fr.mut {F : List Addr} {H H' : Hp} {p : Addr} {o : HO} (h : p ∈ F) (e : Fr F H H') : Fr F H (upd H' p o) := fun a u ha n => by
  have : a ≠ p := fun z => n (z ▸ h)
  rw [upd_ne this]
  exact e a u ha n
theorem Fr.new {F : List Addr} {H H' : Hp} {p : Addr} {o : HO} (h : H' p = none) (e : Fr F H H') : Fr F H (upd H' p o) := e.trans (Ex.new h).fr
theorem Fr.mono {F G : List Addr} {H H' : Hp} (h : ∀ a ∈ F, a ∈ G) (e : Fr F H H') : Fr G H H' := fun a o ha n => e a o ha fun z => n (h a z)
/-- what was changed had not been there -/
theorem Fr.ex {F : List Addr} {H0 H H' : Hp} (e0 : Ex H0 H) (n : ∀ a ∈ F, H0 a = none) (e : Fr F H H') : Ex H0 H' := fun a o ha =>
  e a o (e0 a o ha) fun z => by
    rw [n a z] at ha
    cases ha

/-! ### data that never changes: none, bools, ints, texts, tuples -/
mutual
def Im (H : Hp) : PyData → V → Prop
  | .none, v => v = .non
  | .bool b, v => v = .bl b
  | .int i, v => v = .int i
  | .str s, v => v = .str s
  | .tuple ds, v => ∃ a xs, v = .ref a ∧ H a = some (.tup xs) ∧ ImL H ds xs
  | .list _, _ => False
  | .dict _, _ => False
def ImL (H : Hp) : List PyData → List V → Prop
  | [], xs => xs = []
  | d :: ds, xs => ∃ v vs, xs = v :: vs ∧ Im H d v ∧ ImL H ds vs
end
mutual
theorem Im.kp {H H' : Hp} (k : Kp H H') : ∀ (d : PyData) (v : V), Im H d v → Im H' d v
  | .none, _, h => by simpa only [Im] using h
  | .bool _, _, h => by simpa only [Im] using h
  | .int _, _, h => by simpa only [Im] using h
  | .str _, _, h => by simpa only [Im] using h
  | .tuple ds, v, h => by
    simp only [Im] at h ⊢
    obtain ⟨a, xs, rfl, h1, h2⟩ := h
    exact ⟨a, xs, rfl, k a xs h1, ImL.kp k ds xs h2⟩
  | .list _, _, h => by simp only [Im] at h
  | .dict _, _, h => by simp only [Im] at h
theorem ImL.kp {H H' : Hp} (k : Kp H H') : ∀ (ds : List PyData) (vs : List V), ImL H ds vs → ImL H' ds vs
  | [], _, h => by simpa only [ImL] using h
  | d :: ds, vs, h => by
    simp only [ImL] at h ⊢
    obtain ⟨x, xs, rfl, h1, h2⟩ := h
    exact ⟨x, xs, rfl, Im.kp k d x h1, ImL.kp k ds xs h2⟩
end
mutual
theorem Im.dp {K : PySem.W.Frag} {H : Hp} : ∀ (d : PyData) (v : V), Im H d v → Dp K H v d
  | .none, _, h => by simp only [Im] at h; subst h; exact .non
  | .bool _, _, h => by simp only [Im] at h; subst h; exact .bl _
  | .int _, _, h => by simp only [Im] at h; subst h; exact .int _
  | .str _, _, h => by simp only [Im] at h; subst h; exact .str _
  | .tuple ds, v, h => by
    simp only [Im] at h
    obtain ⟨a, xs, rfl, h1, h2⟩ := h
    exact .tup (SqT.of h1) (ImL.dp ds xs h2)
  | .list _, _, h => by simp only [Im] at h
  | .dict _, _, h => by simp only [Im] at h
theorem ImL.dp {K : PySem.W.Frag} {H : Hp} : ∀ (ds : List PyData) (vs : List V), ImL H ds vs → DpAll K H vs ds
  | [], _, h => by simp only [ImL] at h; subst h; exact .nil
  | d :: ds, vs, h => by
    simp only [ImL] at h
    obtain ⟨x, xs, rfl, h1, h2⟩ := h
    exact .cons (Im.dp d x h1) (ImL.dp ds xs h2)
end
section
variable {H H' : Hp} {v x : V} {vs xs : List V} {d e : PyData} {ds es : List PyData} {a : Addr} {K : PySem.W.Frag}
theorem Im.int_iff {i : Int} : Im H (.int i) v ↔ v = .int i := by simp only [Im]
theorem Im.str_iff {s : Str} : Im H (.str s) v ↔ v = .str s := by simp only [Im]
theorem Im.none_iff : Im H .none v ↔ v = .non := by simp only [Im]
theorem Im.bool_iff {b : Bool} : Im H (.bool b) v ↔ v = .bl b := by simp only [Im]
theorem im_int {i : Int} : Im H (.int i) (.int i) := by simp only [Im]
theorem im_str {s : Str} : Im H (.str s) (.str s) := by simp only [Im]
theorem im_non : Im H .none .non := by simp only [Im]
theorem im_bl {b : Bool} : Im H (.bool b) (.bl b) := by simp only [Im]
theorem im_tup (h1 : H a = some (.tup xs)) (h2 : ImL H ds xs) : Im H (.tuple ds) (.ref a) := by
  simp only [Im]
  exact ⟨a, xs, rfl, h1, h2⟩
theorem Im.tup (h : Im H (.tuple ds) v) : ∃ a xs, v = .ref a ∧ H a = some (.tup xs) ∧ ImL H ds xs := by
  simpa only [Im] using h
theorem iml_nil : ImL H [] [] := by simp only [ImL]
theorem iml_cons (h1 : Im H d v) (h2 : ImL H ds vs) : ImL H (d :: ds) (v :: vs) := by
  simp only [ImL]
  exact ⟨v, vs, rfl, h1, h2⟩
theorem ImL.cons_inv (h : ImL H (d :: ds) xs) : ∃ v vs, xs = v :: vs ∧ Im H d v ∧ ImL H ds vs := by simpa only [ImL] using h
theorem ImL.nil_inv (h : ImL H [] xs) : xs = [] := by simpa only [ImL] using h
theorem ImL.length : ∀ {ds : List PyData} {xs : List V}, ImL H ds xs → xs.length = ds.length
  | [], _, h => by rw [h.nil_inv]; rfl
  | d :: ds, _, h => by
    obtain ⟨v, vs, rfl, _, h2⟩ := h.cons_inv
    rw [List.length_cons, List.length_cons, h2.length]
theorem ImL.get : ∀ {ds : List PyData} {xs : List V} {i : Nat} {d : PyData}, ImL H ds xs → ds[i]? = some d → ∃ v, xs[i]? = some v ∧ Im H d v
  | [], _, _, _, _, e => by simp at e
  | d :: ds, _, 0, _, h, e => by
    obtain ⟨v, vs, rfl, h1, _⟩ := h.cons_inv
    simp at e
    subst e
    exact ⟨v, by simp, h1⟩
  | d :: ds, _, i + 1, _, h, e => by
    obtain ⟨v, vs, rfl, _, h2⟩ := h.cons_inv
    obtain ⟨v', g1, g2⟩ := h2.get (i := i) (by simpa using e)
    exact ⟨v', by simpa using g1, g2⟩
/-- the other way round -/
theorem ImL.get' : ∀ {ds : List PyData} {xs : List V} {i : Nat} {v : V}, ImL H ds xs → xs[i]? = some v → ∃ d, ds[i]? = some d ∧ Im H d v
  | [], _, _, _, h, e => by
    rw [h.nil_inv] at e
    simp at e
  | d :: ds, _, 0, _, h, e => by
    obtain ⟨v, vs, rfl, h1, _⟩ := h.cons_inv
    simp at e
    subst e
    exact ⟨d, by simp, h1⟩
  | d :: ds, _, i + 1, _, h, e => by
    obtain ⟨v, vs, rfl, _, h2⟩ := h.cons_inv
    obtain ⟨d', g1, g2⟩ := h2.get' (i := i) (by simpa using e)
    exact ⟨d', by simpa using g1, g2⟩
theorem ImL.append : ∀ {ds es : List PyData} {xs ys : List V}, ImL H ds xs → ImL H es ys → ImL H (ds ++ es) (xs ++ ys)
  | [], _, _, _, h, h' => by
    rw [h.nil_inv]
    exact h'
  | d :: ds, _, _, _, h, h' => by
    obtain ⟨v, vs, rfl, h1, h2⟩ := h.cons_inv
    exact iml_cons h1 (h2.append h')
theorem ImL.snoc (h : ImL H ds xs) (h1 : Im H d v) : ImL H (ds ++ [d]) (xs ++ [v]) := h.append (iml_cons h1 iml_nil)
theorem ImL.drop : ∀ {ds : List PyData} {xs : List V} (n : Nat), ImL H ds xs → ImL H (ds.drop n) (xs.drop n)
  | _, _, 0, h => h
  | [], _, _ + 1, h => by
    rw [h.nil_inv]
    exact iml_nil
  | d :: ds, _, n + 1, h => by
    obtain ⟨v, vs, rfl, h1, h2⟩ := h.cons_inv
    exact h2.drop n
theorem ImL.take : ∀ {ds : List PyData} {xs : List V} (n : Nat), ImL H ds xs → ImL H (ds.take n) (xs.take n)
  | _, _, 0, h => iml_nil
  | [], _, _ + 1, h => by
    rw [h.nil_inv]
    exact iml_nil
  | d :: ds, _, n + 1, h => by
    obtain ⟨v, vs, rfl, h1, h2⟩ := h.cons_inv
    exact iml_cons h1 (h2.take n)
theorem ImL.set : ∀ {ds : List PyData} {xs : List V} (n : Nat), ImL H ds xs → Im H d v → ImL H (ds.set n d) (xs.set n v)
  | [], _, _, h, _ => by
    rw [h.nil_inv]
    exact iml_nil
  | _ :: ds, _, 0, h, h' => by
    obtain ⟨v, vs, rfl, h1, h2⟩ := h.cons_inv
    exact iml_cons h' h2
  | _ :: ds, _, n + 1, h, h' => by
    obtain ⟨v, vs, rfl, h1, h2⟩ := h.cons_inv
    exact iml_cons h1 (h2.set n h')
theorem ImL.ints : ∀ {ns : List Int} {xs : List V}, ImL H (ns.map .int) xs ↔ xs = ns.map V.int
  | [], _ => ⟨fun h => h.nil_inv, fun h => by rw [h]; exact iml_nil⟩
  | n :: ns, xs => ⟨fun h => by
      obtain ⟨v, vs, rfl, h1, h2⟩ := h.cons_inv
      rw [Im.int_iff.mp h1, ImL.ints.mp h2]
      rfl, fun h => by rw [h]; exact iml_cons im_int (ImL.ints.mpr rfl)⟩
theorem lst_dp (h1 : H a = some (.lst xs)) (h2 : ImL H ds xs) : Dp K H (.ref a) (.list ds) := .lst (SqL.of h1) (h2.dp _ _)
theorem atI_iml {i : Int} (h : ImL H ds xs) (e : atI ds i = some d) : ∃ v, atI xs i = some v ∧ Im H d v := by
  unfold atI at e ⊢
  rw [h.length]
  cases q : ixN ds.length i with
  | none =>
    rw [q] at e
    cases e
  | some j =>
    rw [q] at e
    exact h.get e
end
end BC
/-! BC1: steps of readings. -/
namespace BC
open PySem PySem.Spec PyProof.Rows L2
open C8 (tCut pss_cut)

section
variable {K : PySem.W.Frag} {σ : L2.St} {H H0 H1 : Hp} {D : Ends} {Q : VK} {QT : Bool → Hp → Prop} {QA : List V → Hp → Prop} {t u : TS} {ta tb te tc : TE} {tA tB' : TT} {g : TG} {i j : Int} {n : Nat} {v x y : V} {vs : List V} {d e : PyData} {ds es : List PyData} {r : R2}
/-! statements -/
theorem st_seq (h : t { D with nx := u D } σ H) : tSeq t u D σ H := h
theorem st_cut (Mid : L2.St → Hp → Prop) (h : t { D with nx := Mid } σ H) (k : ∀ σ' H', Mid σ' H' → u D σ' H') : tCut t u D σ H := ⟨Mid, h, k⟩
theorem st_next (h : D.nx σ H) : tNext D σ H := h
theorem st_brk (h : D.bk σ H) : tBreak D σ H := h
theorem st_cont (h : D.ct σ H) : tCont D σ H := h
theorem st_asg (h : te σ H fun x H1 => g x σ H1 D.nx) : tAsg te g D σ H := h
theorem st_ret (h : te σ H D.rt) : tRet te D σ H := h
theorem st_retN (h : D.rt .non H) : tRetN D σ H := h
theorem st_drop (h : te σ H fun _ H1 => D.nx σ H1) : tDrop te D σ H := h
theorem st_ifS (h : tA σ H fun b H1 => if b = true then t D σ H1 else u D σ H1) : tIfS tA t u D σ H := h
theorem st_aug {m : Nat} {ti : TIp} (e : σ[m]? = some (some x)) (h : te σ H fun y H1 => ti x y H1 fun z H2 => D.nx (σ.set m (some z)) H2) : tAug m te ti D σ H := ⟨x, e, h⟩
theorem st_ip {f : Int → Int → Int} (h : Q (.int (f i j)) H) : ipI f (.int i) (.int j) H Q := ⟨i, j, rfl, rfl, h⟩
theorem st_name {m : Nat} {QS : L2.St → Hp → Prop} (h : QS (σ.set m (some v)) H) : gName m v σ H QS := h
theorem st_gnil {QS : L2.St → Hp → Prop} (h : QS σ H) : gNil [] σ H QS := ⟨rfl, h⟩
theorem st_gcons {vs : List V} {G : TG} {Gs : TGs} {QS : L2.St → Hp → Prop} (h : G v σ H fun σ' H' => Gs vs σ' H' QS) : gCons G Gs (v :: vs) σ H QS := ⟨v, vs, rfl, h⟩
/-! expressions -/
theorem st_var {m : Nat} (e : σ[m]? = some (some v)) (h : Q v H) : tVar m σ H Q := ⟨v, e, h⟩
theorem st_c (h : Q v H) : tC v σ H Q := h
theorem st_op (h : ta σ H fun x H1 => tb σ H1 fun y H2 => r x y H2 Q) : tOp r ta tb σ H Q := h
theorem st_un {f : V → Hp → VK → Prop} (h : ta σ H fun x H1 => f x H1 Q) : tUn f ta σ H Q := h
theorem st_if (h : tA σ H fun c H1 => if c = true then ta σ H1 Q else tb σ H1 Q) : tIf tA ta tb σ H Q := h
theorem st_andV (h : ta σ H fun x H1 => ∃ c, x = .bl c ∧ if c = true then tb σ H1 Q else Q (.bl false) H1) : tAndV ta tb σ H Q := h
theorem st_orV (h : ta σ H fun x H1 => ∃ c, x = .bl c ∧ if c = true then Q (.bl true) H1 else tb σ H1 Q) : tOrV ta tb σ H Q := h
theorem st_notV (h : ta σ H fun x H1 => ∃ c, x = .bl c ∧ Q (.bl (!c)) H1) : tNotV ta σ H Q := h
theorem st_test (h : te σ H fun x H1 => ∃ c, x = .bl c ∧ QT c H1) : tTest te σ H QT := h
theorem st_tB (h : te σ H fun x H1 => ∃ c, x = .bl c ∧ QT c H1) : tB te σ H QT := h
theorem st_and (h : tA σ H fun c H1 => if c = true then tB' σ H1 QT else QT false H1) : tAnd tA tB' σ H QT := h
theorem st_or (h : tA σ H fun c H1 => if c = true then QT true H1 else tB' σ H1 QT) : tOr tA tB' σ H QT := h
theorem st_not (h : tA σ H fun c H1 => QT (!c) H1) : tNot tA σ H QT := h
theorem st_yes (h : QT true H) : tYes σ H QT := h
theorem st_nil (h : QA [] H) : tNil σ H QA := h
theorem st_cons {tr : TA} (h : ta σ H fun x H1 => tr σ H1 fun xs H2 => QA (x :: xs) H2) : tCons ta tr σ H QA := h
theorem st_call {sp : Sp} {E : XK} {tr : TA} (h : tr σ H fun vs H1 => sp vs H1 Q E) : tCall sp [] E tr σ H Q := by
  show tr σ H fun vs H1 => sp (vs ++ []) H1 Q E
  simpa only [List.append_nil] using h
theorem sz_le {n : Nat} (h : n ≤ 100000) : n ≤ sizeLine := Nat.le_trans h (by decide)
theorem sz_lt {m : Nat} (h : m < 100000) : m < sizeLine := Nat.lt_of_lt_of_le h (by decide)
/-- a new tuple, a new list -/
def NewT (H : Hp) (xs : List V) (Q : VK) : Prop := xs.length ≤ sizeLine ∧ ∀ p, H p = none → Q (.ref p) (upd H p (.tup xs))
def NewL (H : Hp) (xs : List V) (Q : VK) : Prop := xs.length ≤ sizeLine ∧ ∀ p, H p = none → Q (.ref p) (upd H p (.lst xs))
theorem st_tup {tr : TA} (h : tr σ H fun xs H1 => NewT H1 xs Q) : tTup tr σ H Q := h
theorem st_lst {tr : TA} (h : tr σ H fun xs H1 => NewL H1 xs Q) : tLst tr σ H Q := h
theorem st_newT (h : vs.length ≤ 100000) (k : ∀ p H2, H p = none → Ex H H2 → H2 p = some (.tup vs) → Q (.ref p) H2) : NewT H vs Q :=
  ⟨sz_le h, fun p hp => k p _ hp (Ex.new hp) upd_same⟩
theorem st_newL (h : vs.length ≤ 100000) (k : ∀ p H2, H p = none → Ex H H2 → H2 p = some (.lst vs) → Q (.ref p) H2) : NewL H vs Q :=
  ⟨sz_le h, fun p hp => k p _ hp (Ex.new hp) upd_same⟩
theorem st_CB {f : List V → Hp → VK → Prop} {tr : TA} (h : tr σ H fun vs H1 => f vs H1 Q) : tCB f tr σ H Q := h
theorem st_bl {b : Bool} {F : Bool → Prop} (h : F b) : ∃ c, V.bl b = .bl c ∧ F c := ⟨b, rfl, h⟩
theorem st_T {A B : Prop} (h : A) : if true = true then A else B := iteT h
theorem st_F {A B : Prop} (h : B) : if false = true then A else B := iteF h
theorem st_D {p : Prop} [Decidable p] {A B : Prop} (h1 : p → A) (h2 : ¬ p → B) : if decide p = true then A else B := by
  by_cases h : p
  · rw [decide_eq_true h]; exact iteT (h1 h)
  · rw [decide_eq_false h]; exact iteF (h2 h)
theorem st_ND {p : Prop} [Decidable p] {A B : Prop} (h1 : ¬ p → A) (h2 : p → B) : if (!decide p) = true then A else B := by
  by_cases h : p
  · rw [decide_eq_true h]; exact iteF (h2 h)
  · rw [decide_eq_false h]; exact iteT (h1 h)
theorem st_B {b : Bool} {A B : Prop} (h1 : b = true → A) (h2 : b = false → B) : if b = true then A else B := by
  cases b with
  | true => exact iteT (h1 rfl)
  | false => exact iteF (h2 rfl)
theorem st_NB {b : Bool} {A B : Prop} (h1 : b = false → A) (h2 : b = true → B) : if (!b) = true then A else B := by
  cases b with
  | true => exact iteF (h2 rfl)
  | false => exact iteT (h1 rfl)
/-! operators -/
theorem st_I0 {f : Int → Int → V} (h : Q (f i j) H) : rI0 f (.int i) (.int j) H Q := ⟨i, j, rfl, rfl, h⟩
theorem st_I {C : Int → Int → Prop} {f : Int → Int → V} (c : C i j) (h : Q (f i j) H) : rI C f (.int i) (.int j) H Q := ⟨i, j, rfl, rfl, c, h⟩
theorem decV_int : decide (V.int i = V.int j) = decide (i = j) := decide_eq_decide.mpr ⟨V.int.inj, congrArg _⟩
theorem decV_str {a b : Str} : decide (V.str a = V.str b) = decide (a = b) := decide_eq_decide.mpr ⟨V.str.inj, congrArg _⟩
theorem decV_bl {a b : Bool} : decide (V.bl a = V.bl b) = decide (a = b) := decide_eq_decide.mpr ⟨V.bl.inj, congrArg _⟩
theorem st_eqI (h : Q (.bl (decide (i = j))) H) : rEq (.int i) (.int j) H Q := ⟨rfl, by rw [decV_int]; exact h⟩
theorem st_neI (h : Q (.bl (!decide (i = j))) H) : rNe (.int i) (.int j) H Q := ⟨rfl, by rw [decV_int]; exact h⟩
theorem st_eqS {a b : Str} (h : Q (.bl (decide (a = b))) H) : rEq (.str a) (.str b) H Q := ⟨rfl, by rw [decV_str]; exact h⟩
theorem st_neS {a b : Str} (h : Q (.bl (!decide (a = b))) H) : rNe (.str a) (.str b) H Q := ⟨rfl, by rw [decV_str]; exact h⟩
theorem st_eqB {a b : Bool} (h : Q (.bl (decide (a = b))) H) : rEq (.bl a) (.bl b) H Q := ⟨rfl, by rw [decV_bl]; exact h⟩
theorem st_neB {a b : Bool} (h : Q (.bl (!decide (a = b))) H) : rNe (.bl a) (.bl b) H Q := ⟨rfl, by rw [decV_bl]; exact h⟩
end
/-- is None, is not None, by names -/
def rIsN : R2 := fun x u H Q => u = .non ∧ Q (.bl (decide (x = .non))) H
def rNotN : R2 := fun x u H Q => u = .non ∧ Q (.bl (!decide (x = .non))) H
theorem o_isN {X : Cx} : OpR X (compareOp .Is) rIsN := op_isN
theorem o_notN {X : Cx} : OpR X (compareOp .IsNot) rNotN := op_notN
def rLenS (K : PySem.W.Frag) : List V → Hp → VK → Prop := fun us H Q => ∃ p zs, us = [.ref p] ∧ (SqL K H p zs ∨ SqT K H p zs) ∧ Q (.int zs.length) H
theorem c_len {X : Cx} : CallR X (.builtin "len") (rLenS X.K) := call_len_seq
def rInt1 : List V → Hp → VK → Prop := fun xs H Q => (∃ i, xs = [.int i] ∧ Q (.int i) H) ∨ ∃ k, xs = [.bl k] ∧ Q (.int (if k then 1 else 0)) H
theorem c_int {X : Cx} : CallR X (.type "int") rInt1 := call_int1
def rLenStr : List V → Hp → VK → Prop := fun xs H Q => ∃ z, xs = [.str z] ∧ z.length ≤ sizeLine ∧ Q (.int z.length) H
theorem c_lenStr {X : Cx} : CallR X (.builtin "len") rLenStr := call_len_str
def rStrI : List V → Hp → VK → Prop := fun xs H Q => ∃ i, xs = [.int i] ∧ i.natAbs.log2 < 1920 ∧ Q (.str (toString i)) H
theorem c_str {X : Cx} : CallR X (.type "str") rStrI := call_str_int
def rAddS : R2 := fun x y H Q => ∃ i j, x = .str i ∧ y = .str j ∧ i.length + j.length ≤ sizeLine ∧ Q (.str (i ++ j)) H
theorem o_addS {X : Cx} : OpR X (binaryOp .Add) rAddS := op_add_str
def rMin2 : List V → Hp → VK → Prop := fun xs H Q => ∃ i j, xs = [.int i, .int j] ∧ Q (.int (if j < i then j else i)) H
theorem c_min {X : Cx} (hc : X.calm = true) : CallR X (.builtin "min") rMin2 := call_min2 hc
def rListOf (K : PySem.W.Frag) : List V → Hp → VK → Prop := fun xs H Q => ∃ p ys, xs = [.ref p] ∧ (SqL K H p ys ∨ SqT K H p ys) ∧ ∀ l, H l = none → Q (.ref l) (upd H l (.lst ys))
theorem c_list {X : Cx} : CallR X (.type "list") (rListOf X.K) := call_list_of
def rTupOf (K : PySem.W.Frag) : List V → Hp → VK → Prop := fun xs H Q => ∃ p ys, xs = [.ref p] ∧ ((SqL K H p ys ∧ ∀ l, H l = none → Q (.ref l) (upd H l (.tup ys))) ∨ (SqT K H p ys ∧ Q (.ref p) H))
theorem c_tuple {X : Cx} : CallR X (.type "tuple") (rTupOf X.K) := call_tuple_of
section
variable {K : PySem.W.Frag} {σ : L2.St} {H H0 H1 : Hp} {D : Ends} {Q : VK} {i j : Int} {n : Nat} {v x y : V} {d e : PyData} {ds es : List PyData} {vs xs ys : List V} {a b l : Addr}
theorem st_isN (h : Q (.bl (decide (x = .non))) H) : rIsN x .non H Q := ⟨rfl, h⟩
theorem st_notN (h : Q (.bl (!decide (x = .non))) H) : rNotN x .non H Q := ⟨rfl, h⟩
theorem st_isN0 (h : Q (.bl true) H) : rIsN .non .non H Q := ⟨rfl, h⟩
theorem st_isNI (h : Q (.bl false) H) : rIsN (.int i) .non H Q := ⟨rfl, h⟩
theorem st_isNR (h : Q (.bl false) H) : rIsN (.ref a) .non H Q := ⟨rfl, h⟩
theorem st_notN0 (h : Q (.bl false) H) : rNotN .non .non H Q := ⟨rfl, h⟩
theorem st_notNI (h : Q (.bl true) H) : rNotN (.int i) .non H Q := ⟨rfl, h⟩
theorem st_notNR (h : Q (.bl true) H) : rNotN (.ref a) .non H Q := ⟨rfl, h⟩
theorem st_intB {b : Bool} (h : Q (.int (if b then 1 else 0)) H) : rInt1 [.bl b] H Q := .inr ⟨b, rfl, h⟩
theorem st_min (h : Q (.int (if j < i then j else i)) H) : rMin2 [.int i, .int j] H Q := ⟨i, j, rfl, h⟩
/-! data -/
theorem st_ixT (h : Im H0 (.tuple ds) x) (k : Kp H0 H) (e : atI ds i = some d) (q : ∀ v, Im H d v → Q v H) : rIxT K x (.int i) H Q := by
  obtain ⟨a, xs, rfl, h1, h2⟩ := (h.kp k).tup
  obtain ⟨v, e1, h3⟩ := atI_iml h2 e
  exact ⟨a, xs, i, v, rfl, rfl, SqT.of h1, e1, q v h3⟩
theorem st_ixT_int (h : Im H0 (.tuple ds) x) (k : Kp H0 H) (e : atI ds i = some (.int j)) (q : Q (.int j) H) : rIxT K x (.int i) H Q :=
  st_ixT h k e fun v hv => by rw [Im.int_iff.mp hv]; exact q
theorem st_ixT_str {s : Str} (h : Im H0 (.tuple ds) x) (k : Kp H0 H) (e : atI ds i = some (.str s)) (q : Q (.str s) H) : rIxT K x (.int i) H Q :=
  st_ixT h k e fun v hv => by rw [Im.str_iff.mp hv]; exact q
theorem st_ixL (h : H l = some (.lst xs)) (e : atI xs i = some v) (q : Q v H) : rIxL K (.ref l) (.int i) H Q := ⟨l, xs, i, v, rfl, rfl, SqL.of h, e, q⟩
theorem st_ixLI {ns : List Int} (h : H l = some (.lst (ns.map V.int))) (e : atI ns i = some j) (q : Q (.int j) H) : rIxL K (.ref l) (.int i) H Q := by
  refine st_ixL h ?_ q
  unfold atI at e ⊢
  rw [List.length_map]
  cases z : ixN ns.length i with
  | none =>
    rw [z] at e
    cases e
  | some m =>
    rw [z] at e
    show (ns.map V.int)[m]? = some (.int j)
    rw [List.getElem?_map]
    show (ns[m]?).map V.int = some (.int j)
    have e' : ns[m]? = some j := e
    rw [e']
    rfl
theorem st_lenT (h : Im H0 (.tuple ds) x) (k : Kp H0 H) (q : Q (.int ds.length) H) : rLenS K [x] H Q := by
  obtain ⟨a, xs, rfl, h1, h2⟩ := (h.kp k).tup
  exact ⟨a, xs, rfl, .inr (SqT.of h1), by rw [h2.length]; exact q⟩
theorem st_lenL (h : H l = some (.lst xs)) (q : Q (.int xs.length) H) : rLenS K [.ref l] H Q := ⟨l, xs, rfl, .inl (SqL.of h), q⟩
theorem st_gtup {Gs : TGs} {QS : L2.St → Hp → Prop} (h : Im H0 (.tuple ds) x) (k : Kp H0 H) (hn : ds.length = n) (q : ∀ xs, ImL H ds xs → Gs xs σ H QS) : gTup K n Gs x σ H QS := by
  obtain ⟨a, xs, rfl, h1, h2⟩ := (h.kp k).tup
  exact ⟨a, xs, rfl, SqT.of h1, h2.length.trans hn, q xs h2⟩
theorem st_gtup' {Gs : TGs} {QS : L2.St → Hp → Prop} (h : H a = some (.tup xs)) (hn : xs.length = n) (q : Gs xs σ H QS) : gTup K n Gs (.ref a) σ H QS := ⟨a, xs, rfl, SqT.of h, hn, q⟩
theorem st_listT (h : Im H0 (.tuple ds) x) (k : Kp H0 H) (q : ∀ l xs H2, H l = none → Ex H H2 → ImL H2 ds xs → H2 l = some (.lst xs) → Q (.ref l) H2) : rListOf K [x] H Q := by
  obtain ⟨a, xs, rfl, h1, h2⟩ := (h.kp k).tup
  exact ⟨a, xs, rfl, .inr (SqT.of h1), fun l hl => q l xs _ hl (Ex.new hl) (h2.kp (Ex.new hl).kp) upd_same⟩
theorem st_listL (h : H a = some (.lst xs)) (q : ∀ l H2, H l = none → Ex H H2 → H2 l = some (.lst xs) → Q (.ref l) H2) : rListOf K [.ref a] H Q := ⟨a, xs, rfl, .inl (SqL.of h), fun l hl => q l _ hl (Ex.new hl) upd_same⟩
theorem st_tupL (h : H a = some (.lst xs)) (q : ∀ l H2, H l = none → Ex H H2 → H2 l = some (.tup xs) → Q (.ref l) H2) : rTupOf K [.ref a] H Q := ⟨a, xs, rfl, .inl ⟨SqL.of h, fun l hl => q l _ hl (Ex.new hl) upd_same⟩⟩
theorem st_app {z : V} (h : H l = some (.lst xs)) (hz : xs.length < sizeLine) (q : ∀ H2, Fr [l] H H2 → Kp H H2 → H2 l = some (.lst (xs ++ [z])) → Q .non H2) : rAppend (.ref l) [z] H Q :=
  ⟨l, xs, z, rfl, rfl, h, hz, q _ (Fr.mut (List.mem_singleton.mpr rfl) (Fr.refl _ _)) (Kp.mut (nt_of h trivial) (Kp.refl _)) upd_same⟩
theorem st_bm {T : String} {f : V → List V → Hp → VK → Prop} {to : TE} {tr : TA} (h : to σ H fun x H1 => tyV K T x H1 ∧ tr σ H1 fun xs H2 => f x xs H2 Q) : tBM K T f to tr σ H Q := h
theorem st_bm0 {T : String} {f : V → List V → Hp → VK → Prop} {to : TE} (h : to σ H fun x H1 => tyV K T x H1 ∧ f x [] H1 Q) : tBM0 K T f to σ H Q := h
theorem tyL {A : Prop} (h : H l = some (.lst xs)) (q : A) : tyV K "list" (.ref l) H ∧ A := ⟨.inl ⟨rfl, _, SqL.of h⟩, q⟩
/-- for over a tuple -/
theorem st_forT {te : TE} {g : TG} {tb : TS} (Pv : Nat → L2.St → Hp → Prop)
    (h : te σ H fun x H1 => Im H1 (.tuple ds) x ∧ Pv 0 σ H1 ∧ ∀ m σ' H', Pv m σ' H' → Kp H1 H')
    (hs : ∀ m d v σ' H', ds[m]? = some d → Pv m σ' H' → Im H' d v → g v σ' H' fun σ2 H2 => tb { D with nx := Pv (m + 1), ct := Pv (m + 1), bk := D.nx } σ2 H2)
    (hd : ∀ σ' H', Pv ds.length σ' H' → D.nx σ' H')
    (mono : ∀ Q Q' : VK, (∀ x H1, Q x H1 → Q' x H1) → te σ H Q → te σ H Q') : tFor (iTup K te) g tb D σ H := by
  refine mono _ _ (fun x H1 ⟨hx, h0, hk⟩ => ?_) h
  obtain ⟨a, xs, rfl, h1, h2⟩ := hx.tup
  refine ⟨a, rfl, ⟨xs, SqT.of h1⟩, for_tup (K := K) (a := a) (xs := xs) Pv h0 (fun m σ' H' _ p => SqT.of (hk m σ' H' p a xs h1)) (fun m v σ' H' hv p => ?_) fun σ' H' p => hd σ' H' (h2.length ▸ p)⟩
  obtain ⟨d, e1, e2⟩ := h2.get' hv
  exact hs m d v σ' H' e1 p (e2.kp (hk m σ' H' p))
theorem st_forT0 {m0 : Nat} {g : TG} {tb : TS} (Pv : Nat → L2.St → Hp → Prop) (e : σ[m0]? = some (some x)) (h : Im H0 (.tuple ds) x) (k : Kp H0 H) (h0 : Pv 0 σ H) (hk : ∀ m σ' H', Pv m σ' H' → Kp H0 H')
    (hs : ∀ m d v σ' H', ds[m]? = some d → Pv m σ' H' → Im H' d v → g v σ' H' fun σ2 H2 => tb { D with nx := Pv (m + 1), ct := Pv (m + 1), bk := D.nx } σ2 H2)
    (hd : ∀ σ' H', Pv ds.length σ' H' → D.nx σ' H') : tFor (iTup K (tVar m0)) g tb D σ H := by
  obtain ⟨a, xs, rfl, h1, h2⟩ := h.tup
  refine ⟨_, e, a, rfl, ⟨xs, SqT.of (k a xs h1)⟩, for_tup (K := K) (a := a) (xs := xs) Pv h0 (fun m σ' H' _ p => SqT.of (hk m σ' H' p a xs h1)) (fun m v σ' H' hv p => ?_) fun σ' H' p => hd σ' H' (h2.length ▸ p)⟩
  obtain ⟨d, e1, e2⟩ := h2.get' hv
  exact hs m d v σ' H' e1 p (e2.kp (hk m σ' H' p))
/-- for over range -/
theorem st_forR {ta : TA} {g : TG} {tb : TS} {hi : Int} (Pv : Nat → L2.St → Hp → Prop) (h : ta σ H fun vs H1 => vs = [.int hi] ∧ (hi < 4611686018427387904 ∧ -4611686018427387904 ≤ hi) ∧ Pv 0 σ H1)
    (mono : ∀ Q Q' : List V → Hp → Prop, (∀ x H1, Q x H1 → Q' x H1) → ta σ H Q → ta σ H Q')
    (hs : ∀ (m : Nat) σ' H', (m : Int) < hi → Pv m σ' H' → g (.int (m : Int)) σ' H' fun σ2 H2 => tb { D with nx := Pv (m + 1), ct := Pv (m + 1), bk := D.nx } σ2 H2)
    (hd : ∀ σ' H', Pv hi.toNat σ' H' → D.nx σ' H') : tFor (iRng1 ta) g tb D σ H := by
  refine mono _ _ (fun vs H1 ⟨e, hb, p⟩ => ?_) h
  refine ⟨hi, e, by omega, by omega, for_range (lo := 0) (n := hi.toNat) Pv p (fun m σ' H' hm p => ?_) hd⟩
  have e0 : (0 : Int) + (m : Int) = (m : Int) := Int.zero_add _
  rw [e0]
  exact hs m σ' H' (by omega) p
end
/-! defs, methods, classes that keep their promises -/
/-- a def that may be called by its name -/
structure Cal (CX : CXT) (P : Program) (w : World) (K : PySem.W.Frag) (mg : Str → Option Value) (base : Heap) (k : Nat) (x : Str) (sp : Sp) : Prop where
  ex : ∃ (f : Addr) (fd : FuncData) (ps : List Str), FnOk P w K mg base CX k f fd ps sp ∧ mg x = some (.ref f) ∧ PySem.W.keepIn K (.ref f) = true ∧ Binds K fd ps []
/-- a method of a class, C its place -/
structure Met (CX : CXT) (P : Program) (w : World) (K : PySem.W.Frag) (mg : Str → Option Value) (base : Heap) (k : Nat) (C : Addr) (m : Str) (sp : Sp) : Prop where
  ex : ∃ (f : Addr) (fd : FuncData) (ps : List Str), Cls K C ∧ Meth K C m f ∧ FnOk P w K mg base CX k f fd ps sp ∧ Binds K fd ps []
/-- a class that may be called by its name -/
structure Mak (CX : CXT) (P : Program) (w : World) (K : PySem.W.Frag) (mg : Str → Option Value) (base : Heap) (k : Nat) (x : Str) (C : Addr) (sp : Sp) : Prop where
  ex : ∃ (f : Addr) (fd : FuncData) (ps : List Str), Mk K C f ∧ FnOk P w K mg base CX k f fd ps sp ∧ mg x = some (.ref C) ∧ Binds K fd ps []
section
variable {X : Cx} {k j : Nat} {C : Addr} {x m : Str} {sp : Sp} {p pos apos : Pos} {e o : Expr} {es : List Expr} {ta : TE} {t : TA}
theorem pe_c0 (c : Cal CX0 X.prog X.w X.K X.mg X.base k x sp) (hr : Room j X.A) (hk : k ≤ j) (hg : Gl X x) (hdb : (x == ("__debug__" : Str)) = false := by decide) :
    PE X (.Call (.Name x p) [] [] pos) (tCall sp [] E0 tNil) := by
  obtain ⟨f, fd, ps, F, hm, kp, b⟩ := c.ex
  exact pe_call0 F (hr.mono hk) hg hm kp b .nil pass0 hdb
theorem pe_c (c : Cal CX0 X.prog X.w X.K X.mg X.base k x sp) (hr : Room j X.A) (hk : k ≤ j) (hg : Gl X x) (ha : PA X (e :: es) t)
    (h1 : (x == ("__debug__" : Str)) = false := by decide) (h2 : starEach (e :: es) X.env = (false, eval e X.env) :: starEach es X.env := by rfl) (h3 : (backTo pos (starEach es X.env)).any (·.1) = false := by rfl) :
    PE X (.Call (.Name x p) (e :: es) [] pos) (tCall sp [] E0 t) := by
  obtain ⟨f, fd, ps, F, hm, kp, b⟩ := c.ex
  exact pe_call F (hr.mono hk) hg hm kp b .nil pass0 ha h1 h2 h3
theorem pe_mk (c : Mak CX0 X.prog X.w X.K X.mg X.base k x C sp) (hr : Room j X.A) (hk : k + 1 ≤ j) (hg : Gl X x) (ha : PA X (e :: es) t)
    (h1 : (x == ("__debug__" : Str)) = false := by decide) (h2 : starEach (e :: es) X.env = (false, eval e X.env) :: starEach es X.env := by rfl) (h3 : (backTo pos (starEach es X.env)).any (·.1) = false := by rfl) :
    PE X (.Call (.Name x p) (e :: es) [] pos) (tMake C sp [] E0 t) := by
  obtain ⟨f, fd, ps, M, F, hm, b⟩ := c.ex
  exact pe_make M F (hr.mono hk) hg hm b .nil pass0 ha h1 h2 h3
theorem pe_mt {pl : Sem Bool} (c : Met CX0 X.prog X.w X.K X.mg X.base k C m sp) (hr : Room j X.A) (hk : k ≤ j) (he : PE X o ta) (ha : PA X (e :: es) t)
    (h1 : starEach (e :: es) X.env = (false, eval e X.env) :: starEach es X.env := by rfl) (h2 : (backTo pos (starEach es X.env)).any (·.1) = false := by rfl)
    (h3 : eval (.Call (.Attribute o m apos) (e :: es) [] pos) X.env = (do
      let ov ← eval o X.env
      standAt apos.atName
      let (g, first) ← holding [ov] (getMethod ov m pl)
      callWith pos g first (backTo pos (starEach (e :: es) X.env)) (backToKw pos (keywordEach [] X.env))) := by rfl) :
    PE X (.Call (.Attribute o m apos) (e :: es) [] pos) (tMeth C m sp [] E0 ta t) := by
  obtain ⟨f, fd, ps, hc, hm, F, b⟩ := c.ex
  exact pe_meth (pl := pl) he hc hm F (hr.mono hk) b .nil pass0 ha h1 h2 h3
theorem pe_mt0 {pl : Sem Bool} (c : Met CX0 X.prog X.w X.K X.mg X.base k C m sp) (hr : Room j X.A) (hk : k ≤ j) (he : PE X o ta)
    (h3 : eval (.Call (.Attribute o m apos) [] [] pos) X.env = (do
      let ov ← eval o X.env
      standAt apos.atName
      let (g, first) ← holding [ov] (getMethod ov m pl)
      callWith pos g first (backTo pos (starEach [] X.env)) (backToKw pos (keywordEach [] X.env))) := by rfl) :
    PE X (.Call (.Attribute o m apos) [] [] pos) (tMeth C m sp [] E0 ta tNil) := by
  obtain ⟨f, fd, ps, hc, hm, F, b⟩ := c.ex
  exact pe_meth0 (pl := pl) he hc hm F (hr.mono hk) b .nil pass0 h3
theorem pe_gc {v : V} (g : Gl X x) (h : ∃ u, X.mg x = some u ∧ RelV v u) (hd : (x == ("__debug__" : Str)) = false := by decide) : PE X (.Name x pos) (tC v) := by
  obtain ⟨u, hm, r⟩ := h
  exact pe_glob g hm r hd
end
section
variable {P : Program} {w : World} {K : PySem.W.Frag} {mg : Str → Option Value} {base : Heap} {x qual m : Str} {st : Stmt} {f C : Addr} {fd : FuncData} {N ps : List Str} {k : Nat} {sp : Sp}
abbrev BindsOf (x qual : Str) (st : Stmt) (ps : List Str) : Prop := ∀ (kV doc pm : Value) (an : Option Addr) (cdv ct : Value) (us : List Value), us.length = ps.length → bindArgs (PySem.W.fnOf x qual (defArgs st) (defBody st) (defScope st) .none kV doc pm an cdv ct) ⟨us, []⟩ = pure (ps.zip us)
abbrev BodyOf (P : Program) (w : World) (K : PySem.W.Frag) (mg : Str → Option Value) (base : Heap) (qual : Str) (st : Stmt) (f : Addr) (N : List Str) (k : Nat) (sp : Sp) : Prop :=
  ∀ (cdv : Value) (A : Around) (outer : List Env) (s : Shared) (H : Hp) (vs : List V) (Q : VK) (E : XK), Room k (A.deeper (envOfC qual (defScope st) s.heap.objs.size f cdv)) → sp vs H Q E →
      ∃ t, PSs (cxOf CX0 P w K mg base N qual (defScope st) f cdv A outer s H E).nox (defBody st) t ∧ t { nx := fun _ H' => Q .non H', rt := Q } (start N vs) H
/-- a def of the module keeps its promise, by its body -/
theorem cal_of (F : Fun K x x st f fd) (hm : mg x = some (.ref f)) (b : BindsOf x x st ps) (S : FnScope N ps (defScope st)) (len : ∀ vs H Q E, sp vs H Q E → vs.length = ps.length)
    (body : BodyOf P w K mg base x st f N k sp) : Cal CX0 P w K mg base (k + 1) x sp :=
  ⟨f, fd, ps, F.ok S len body, hm, F.kp, F.binds b⟩
theorem met_of (c : Cls K C) (me : Meth K C m f) (F : Fun K m qual st f fd) (b : BindsOf m qual st ps) (S : FnScope N ps (defScope st)) (len : ∀ vs H Q E, sp vs H Q E → vs.length = ps.length)
    (body : BodyOf P w K mg base qual st f N k sp) : Met CX0 P w K mg base (k + 1) C m sp :=
  ⟨f, fd, ps, c, me, F.ok S len body, F.binds b⟩
theorem mak_of (M : Mk K C f) (hm : mg x = some (.ref C)) (F : Fun K "__init__" qual st f fd) (b : BindsOf "__init__" qual st ps) (S : FnScope N ps (defScope st)) (len : ∀ vs H Q E, sp vs H Q E → vs.length = ps.length)
    (body : BodyOf P w K mg base qual st f N k sp) : Mak CX0 P w K mg base (k + 1) x C sp :=
  ⟨f, fd, ps, M, F.ok S len body, hm, F.binds b⟩
end
/-- a module's constant -/
def HasC (mg : Str → Option Value) (x : Str) (v : V) : Prop := ∃ u, mg x = some u ∧ RelV v u
end BC
/-! BCEnum: enumerate(tuple). -/
namespace BC
open PySem PySem.Spec PyProof.Rows L2
open PySem.Sem (wp)
theorem meets_enumerate_new1 {v : Value} {o : Obj} {H : Heap → Prop} (B : Begins v o H) :
    Meets (Builtin.«enumerate.__new__» ⟨[.type "enumerate", v], []⟩) (fun _ R s => H s.heap ∧
      R (.ok (.ret (.ref (s.heap.push o).objs.size))) { s with heap := (s.heap.push o).push { cls := .type "enumerate", data := .fields #[.none, .bool false, .ref s.heap.objs.size, rawInt 0, .none, .none] } }) :=
  .of_wp fun prog w A R s h => by
    obtain ⟨hp0, g, d, tk0, os⟩ := s; obtain ⟨g1, h⟩ := h
    have hsub := sub_enumerate
    have beg : ∀ {A' : Around} {E : Value → Shared → Prop} {Q : Value → Shared → Prop}, Q (.ref hp0.objs.size) ⟨hp0.push o, g, d, tk0, os⟩ → wpAny (model prog w) A' (pyIter v) Q E ⟨hp0, g, d, tk0, os⟩ :=
      fun q => B.iter prog w _ _ ⟨hp0, g, d, tk0, os⟩ _ g1 q
    wp_walk using beg
    refine wpAny_stack_any (fun stk => wpAny_pure ?_)
    split
    · rename_i c _ _ _ _ _
      cases (c == (.type "enumerate" : Value))
      · wp_walk using beg
        exact ⟨_, rfl, h⟩
      · wp_walk using beg
        exact ⟨_, rfl, h⟩
    · wp_walk using beg
      exact ⟨_, rfl, h⟩
section
variable {prog : Program} {w : World} {A : Around} {s : Shared} {E : Value → Shared → Prop}
theorem call_enumerate_tuple {t : Addr} {items : Array Value} {Q : Value → Shared → Prop} (ht : s.heap.IsTuple t items)
    (h : ∀ h', IsEnum h' (s.heap.objs.size + 1) s.heap.objs.size 0 .none → h'.IsTupleIter s.heap.objs.size t 0 → h'.objs.size = s.heap.objs.size + 2 →
      (∀ b o, s.heap.get? b = some o → h'.get? b = some o) → Q (.ref (s.heap.objs.size + 1)) { s with heap := h' }) :
    wpAny (model prog w) A (call (.type "enumerate") [.ref t]) Q E s := by
  refine callType_new F.called_enumerate (by decide) (F.typeCall_enumerate_1 _) (F.newCall_enumerate_1 _) (fun obj => F.args_object_init_2 obj _) F.entry_enumerate_new
    (meets_enumerate_new1 (begins_tuple t items)) ⟨ht, ?_⟩
  have zE : (s.heap.push { cls := .type "tuple_iterator", data := .fields #[.ref t, .int 0 0] }).objs.size = s.heap.objs.size + 1 := Heap.size_push ..
  show _ ∧ _
  rw [zE]
  have hE : IsEnum ((s.heap.push { cls := .type "tuple_iterator", data := .fields #[.ref t, .int 0 0] }).push
      { cls := .type "enumerate", data := .fields #[.none, .bool false, .ref s.heap.objs.size, rawInt 0, .none, .none] }) (s.heap.objs.size + 1) s.heap.objs.size 0 .none := by
    have := Heap.get?_push_size (s.heap.push { cls := .type "tuple_iterator", data := .fields #[.ref t, .int 0 0] })
      (o := { cls := .type "enumerate", data := .fields #[.none, .bool false, .ref s.heap.objs.size, rawInt 0, .none, .none] }) rfl
    rw [zE] at this; exact this
  refine ⟨⟨_, hE, rfl⟩, h _ hE ⟨_, Heap.get?_push_of_some _ (Heap.get?_push_size _ rfl), rfl, rfl⟩ (by rw [Heap.size_push, zE]) fun b o x => Heap.get?_push_of_some _ (Heap.get?_push_of_some _ x)⟩
end
/-- the tuple at a, each item in a new pair -/
def ItT (K : PySem.W.Frag) (a : Addr) : It :=
  ⟨fun i H => ∃ (xs : List V) (x : V), SqT K H a xs ∧ xs[i]? = some x, fun i H v H' => ∃ T x, v = .ref T ∧ H T = none ∧ H' = upd H T (.tup [.int (i : Nat), x]) ∧ ∀ xs, SqT K H a xs → xs[i]? = some x, fun i H => ∃ xs : List V, SqT K H a xs ∧ xs.length = i⟩
theorem turn_enumT {P : Program} {w : World} {K : PySem.W.Frag} {elts : List Expr} {kk : Nat} {tpos : Pos} (a e it : Addr) :
    Turn P w K (.Tuple elts kk tpos) (ItT K a) [e, it] e (fun i h => (∃ o0, IsEnum h e it ((i : Nat) : Int) o0) ∧ h.IsTupleIter it a i ∧ e ≠ it ∧ a ≠ it ∧ a ≠ e) where
  mem := by simp
  obj := fun i h st b nb => by
    obtain ⟨⟨o0, hE⟩, ⟨o, ho, hc, hd⟩, _⟩ := st
    have e' : b = e ∨ b = it := by simpa using nb
    rcases e' with z | z
    · rw [z]; exact ⟨_, hE, fun v q => nomatch q⟩
    · rw [z]; exact ⟨o, ho, fun v q => by rw [hd] at q; cases q⟩
  keep := fun i h h' st k => let ⟨⟨o0, hE⟩, hi, hN⟩ := st; ⟨⟨o0, k e (by simp) _ hE⟩, hi.at fun o q => k it (by simp) o q, hN⟩
  item := by
    intro X gP gw gK hc i pn s σ H E I hfp st go0
    subst gP gw gK
    obtain ⟨⟨o0, hE⟩, hI, hN, hai, hae⟩ := st
    obtain ⟨xs, x, sq, at0⟩ := go0
    obtain ⟨us0, rV, p, zE⟩ := I.tuple sq
    obtain ⟨u, uAt, rU⟩ := rV.get at0
    have ltE : e < s.heap.objs.size := Heap.lt_size hE
    have ltI : it < s.heap.objs.size := by obtain ⟨_, q, _⟩ := hI; exact Heap.lt_size q
    have hlt : i < us0.toArray.size := by
      have := (List.getElem?_eq_some_iff.mp uAt).1
      simpa using this
    refine wpAny_pyNext_enum_itemD (Draws.tuple (A := X.A.in1) (I.ok.hd hc) it a hai us0.toArray) hE ⟨hI, show s.heap.IsTuple a us0.toArray from p⟩ hlt hN (by simp; exact ⟨hN, fun z => hae z.symm⟩) fun x' h' tk0 gP ho hst' newT sz0 kp0 => ?_
    obtain ⟨hI', hp0'⟩ := hst'
    have ex : x' = u := by
      have g1 : us0.toArray[i]? = some u := by simpa using uAt
      rw [g1] at gP
      exact (Option.some.inj gP).symm
    subst ex
    refine ⟨_, rfl, wpAny_letOwnedTupleGo_enum (s := { s with heap := h', toks := tk0 + 1 }) ho fun h'' hE' sB => ?_⟩
    have hT2 : h''.get? s.heap.objs.size = some { cls := .type "tuple", data := .seq #[.int i tk0, x'] } := (sB.2 _ (Nat.ne_of_gt ltE)).trans newT
    have new : ObjOk X.prog X.w (upd H s.heap.objs.size (.tup [.int (i : Nat), x])) h'' s.heap.objs.size (.tup [.int (i : Nat), x]) :=
      ⟨by show 2 ≤ sizeLine; decide, [.int i tk0, x'], .cons ⟨_, rfl⟩ (.cons rU .nil), ⟨_, hT2, rfl, _, rfl⟩⟩
    have J1 : Inv X pn σ (upd H s.heap.objs.size (.tup [.int (i : Nat), x])) { s with heap := h'', toks := tk0 + 1 } :=
      I.turnedNew (ch := [e, it]) (fun b ob nb q => (sB.2 b (fun z => nb (by simp [z]))).trans (kp0 b ob (fun z => nb (by simp [z])) (fun z => nb (by simp [z])) q)) hfp (Nat.le_refl _) new
    refine ⟨.ref s.heap.objs.size, _, J1, rfl, ⟨_, x, rfl, I.hok.fresh (Nat.le_refl _), rfl, fun ys hy => by rw [I.tuple_inj hy sq]; exact at0⟩, ⟨⟨x', ?_⟩, hI'.at fun o q => (sB.2 it (Ne.symm hN)).trans q, hN, hai, hae⟩, fun b nb => ?_⟩
    · have ee1 : ((i + 1 : Nat) : Int) = (i : Int) + 1 := by omega
      rw [ee1]; exact hE'
    · have nb' : b < s.heap.objs.size := by
        have e' : b = e ∨ b = it := by simpa using nb
        rcases e' with z | z
        · rw [z]; exact ltE
        · rw [z]; exact ltI
      rw [upd_ne (Nat.ne_of_lt nb')]
      exact (hfp b nb).1
  done := by
    intro X gP gw gK hc i pn s σ H E I hfp st go0
    subst gP gw gK
    obtain ⟨⟨o0, hE⟩, hI, hN, hai, hae⟩ := st
    obtain ⟨xs, sq, at0⟩ := go0
    obtain ⟨us0, rV, p, zE⟩ := I.tuple sq
    obtain ⟨c0, c1, c2, c3, c4, c5⟩ := hfp it (by simp)
    have hl := rV.length
    have leB : us0.toArray.size = i := by simp; omega
    subst leB
    exact wpAny_pyNext_enum_endD (Draws.tuple (A := X.A.in1) (I.ok.hd hc) it a hai us0.toArray) hE ⟨hI, show s.heap.IsTuple a us0.toArray from p⟩ fun h' ebt => ⟨rfl, I.turned (t' := s.toks) (fun b o nb q => ebt b o nb q) c0 c1 c3 c4 c5⟩
  self := fun A i s Q E st h => let ⟨⟨_, hE⟩, _⟩ := st; wpAny_pyIter_enum hE h
def iEnumT (K : PySem.W.Frag) (ta : TA) : TI := fun σ H R => ta σ H fun vs H1 => ∃ a xs, vs = [.ref a] ∧ SqT K H1 a xs ∧ R (ItT K a) H1
theorem pi_enumT {X : Cx} {e : Expr} {ta : TA} {p pos tpos : Pos} {elts : List Expr} {kk : Nat} (go0 : Gl X "enumerate") (hm : X.mg "enumerate" = none) (ha : PA X [e] ta) (hs : starEach [e] X.env = [(false, eval e X.env)] := by rfl) :
    PI X (.Tuple elts kk tpos) (.Call (.Name "enumerate" p) [e] [] pos) (iEnumT X.K ta) := by
  refine ⟨fun pn s σ H R I h => ?_⟩
  refine Call_ (ld_blt I go0 hm boot_enumerate (PyProof.Rows.callWith_type1 (thn (ha.run pos pn s σ H _ I h) fun us s1 ⟨vs, H1, J1, r1, beg⟩ => ?_) hs rfl))
  obtain ⟨a, xs, ex, sq, q⟩ := beg
  subst ex
  cases r1 with
  | cons r rr =>
    cases rr
    cases r
    obtain ⟨us0, rV, p', zE⟩ := J1.tuple sq
    have hal : a < s1.heap.objs.size := p'.lt
    refine call_enumerate_tuple (show s1.heap.IsTuple a us0.toArray from p') fun h' hE hI sz0 kp0 => wpAny_pyIter_enum hE ?_
    have J2 : Inv X pn σ H1 { s1 with heap := h' } := J1.kept (t' := s1.toks) kp0
    refine ⟨s1.heap.objs.size + 1, [s1.heap.objs.size + 1, s1.heap.objs.size], _, _, H1, rfl, J2, turn_enumT a (s1.heap.objs.size + 1) s1.heap.objs.size, ⟨⟨.none, hE⟩, hI, Nat.succ_ne_self _, Nat.ne_of_lt hal, Nat.ne_of_lt (Nat.lt_succ_of_lt hal)⟩, fun b nb => ?_, q⟩
    have e' : b = s1.heap.objs.size + 1 ∨ b = s1.heap.objs.size := by simpa using nb
    have leB : s1.heap.objs.size ≤ b := by
      rcases e' with z | z
      · rw [z]; exact Nat.le_add_right _ _
      · rw [z]; exact Nat.le_refl _
    exact J1.fpOk leB (J1.hok.fresh leB)
theorem walk_enumT {K : PySem.W.Frag} {a : Addr} {xs : List V} : Walk (ItT K a) xs.length (fun H => SqT K H a xs) (YPair (fun i => some (.int (i : Nat))) (fun i => xs[i]?)) := by
  refine ⟨fun i _ hi q => ⟨xs, xs[i], q, by simp [hi]⟩, fun _ q => ⟨xs, q, rfl⟩, fun i H v H' _ q y => ?_⟩
  obtain ⟨T, x, g1, h2, h3, h4⟩ := y
  exact ⟨T, .int (i : Nat), x, g1, h2, h3, rfl, h4 xs q⟩
/-- for i, x in enumerate(t): the pair is unpacked into two slots -/
theorem st_forET {K : PySem.W.Frag} {σ : L2.St} {H H0 : Hp} {D : Ends} {x : V} {ds : List PyData} {m0 m1 m2 : Nat} {tb : TS} (Pv : Nat → L2.St → Hp → Prop) (e : σ[m0]? = some (some x)) (h : Im H0 (.tuple ds) x) (k : Kp H0 H) (h0 : Pv 0 σ H) (kp0 : ∀ m σ' H', Pv m σ' H' → Kp H0 H')
    (hs : ∀ (m : Nat) d v σ' H' H'', ds[m]? = some d → Pv m σ' H' → Ex H' H'' → Im H'' d v → tb { D with nx := Pv (m + 1), ct := Pv (m + 1), bk := D.nx } ((σ'.set m1 (some (.int (m : Int)))).set m2 (some v)) H'')
    (hd : ∀ σ' H', Pv ds.length σ' H' → D.nx σ' H') : tFor (iEnumT K (tCons (tVar m0) tNil)) (gTup K 2 (gCons (gName m1) (gCons (gName m2) gNil))) tb D σ H := by
  obtain ⟨a, xs, rfl, g1, h2⟩ := h.tup
  refine ⟨_, e, a, xs, rfl, SqT.of (k a xs g1), for_it (walk_enumT (K := K) (a := a) (xs := xs)) Pv h0 (fun m σ' H' _ p => SqT.of (kp0 m σ' H' p a xs g1)) (fun m v σ' H' H'' hlt p y => ?_) fun σ' H' p => hd σ' H' (h2.length ▸ p)⟩
  obtain ⟨T, y1, y2, rfl, f, rfl, ee1, e2⟩ := y
  have ee1' : y1 = .int (m : Int) := (Option.some.inj ee1).symm
  subst ee1'
  obtain ⟨d, g1, g2⟩ := h2.get' e2
  refine ⟨T, [.int (m : Int), y2], rfl, SqT.of upd_same, rfl, _, [y2], rfl, y2, [], rfl, rfl, ?_⟩
  exact hs m d y2 σ' H' _ g1 p (Ex.new f) (g2.kp ((kp0 m σ' H' p).trans (Ex.new f).kp))
end BC
/-! BCData: boards as data, raw ones and good ones; more steps. -/
namespace BC
open PySem PySem.Spec PyProof.Rows L2
section
variable {K : PySem.W.Frag} {σ : L2.St} {H H0 H1 : Hp} {D : Ends} {Q : VK} {i j : Int} {n : Nat} {v x y : V} {d e : PyData} {ds es : List PyData} {vs xs ys : List V} {a b l p : Addr}
theorem st_fdiv {f : Int → Int → V} (c : 0 < j ∧ j < 1073741824) (h : Q (f i j) H) : rI CDiv f (.int i) (.int j) H Q := ⟨i, j, rfl, rfl, c, h⟩
theorem st_mod {f : Int → Int → V} (c : 0 < j) (h : Q (f i j) H) : rI (fun _ j => 0 < j) f (.int i) (.int j) H Q := ⟨i, j, rfl, rfl, c, h⟩
theorem st_mul {f : Int → Int → V} (c : (-(2 ^ 64) < i ∧ i < 2 ^ 64) ∨ (-(2 ^ 64) < j ∧ j < 2 ^ 64)) (h : Q (f i j) H) : rI CMul f (.int i) (.int j) H Q := ⟨i, j, rfl, rfl, c, h⟩
theorem st_in {neg : Bool} (h : H p = some (.tup xs)) (hx : flatV x = true) (hf : xs.all flatV = true) (q : Q (.bl (if neg then !inV x xs else inV x xs)) H) : rIn K neg x (.ref p) H Q := ⟨p, xs, rfl, .inr (SqT.of h), hx, hf, q⟩
theorem st_inL {neg : Bool} (h : H p = some (.lst xs)) (hx : flatV x = true) (hf : xs.all flatV = true) (q : Q (.bl (if neg then !inV x xs else inV x xs)) H) : rIn K neg x (.ref p) H Q := ⟨p, xs, rfl, .inl (SqL.of h), hx, hf, q⟩
theorem st_in2 {s s1 s2 : Str} (h : H p = some (.tup [.str s1, .str s2])) (q : Q (.bl (decide (s = s1 ∨ s = s2))) H) : rIn K false (.str s) (.ref p) H Q := by
  refine st_in h rfl rfl ?_
  have e : inV (.str s) [.str s1, .str s2] = decide (s = s1 ∨ s = s2) := by
    simp only [inV, List.any_cons, List.any_nil, eqV, Bool.or_false]
    rw [Bool.eq_iff_iff]
    simp only [Bool.or_eq_true, beq_iff_eq, decide_eq_true_eq]
    constructor
    · rintro (h | h)
      · exact .inl h.symm
      · exact .inr h.symm
    · rintro (h | h)
      · exact .inl h.symm
      · exact .inr h.symm
  show Q (.bl (inV (.str s) [.str s1, .str s2])) H
  rw [e]
  exact q
theorem Im.new (hp : H p = none) (h : Im H d v) {o : HO} : Im (upd H p o) d v := h.kp (Kp.new hp (Kp.refl H))
theorem ImL.new (hp : H p = none) (h : ImL H ds vs) {o : HO} : ImL (upd H p o) ds vs := h.kp (Kp.new hp (Kp.refl H))
theorem Im.ex (e : Ex H H1) (h : Im H d v) : Im H1 d v := h.kp e.kp
theorem ImL.ex (e : Ex H H1) (h : ImL H ds vs) : ImL H1 ds vs := h.kp e.kp
end

/-! ### raw boards -/
abbrev ROrd := Int × Int × Int × Option Int
abbrev RDeed := Str × List Int
structure RB where
  mem : List Int
  ords : List ROrd
  prog : List RDeed
def pyOpt : Option Int → PyData
  | none => .none
  | some i => .int i
abbrev pyOrd (o : ROrd) : PyData := .tuple [.int o.1, .int o.2.1, .int o.2.2.1, pyOpt o.2.2.2]
abbrev pyDeed (d : RDeed) : PyData := .tuple (.str d.1 :: d.2.map .int)
abbrev pyMem (m : List Int) : PyData := .tuple (m.map .int)
abbrev pyOrds (os : List ROrd) : PyData := .tuple (os.map pyOrd)
abbrev pyProg (p : List RDeed) : PyData := .tuple (p.map pyDeed)
abbrev pyB (b : RB) : PyData := .tuple [pyMem b.mem, pyOrds b.ords, pyProg b.prog]
/-- the value of an optional number -/
def vOpt : Option Int → V
  | none => .non
  | some i => .int i
theorem im_opt {H : Hp} {o : Option Int} {v : V} : Im H (pyOpt o) v ↔ v = vOpt o := by
  cases o with
  | none => exact Im.none_iff
  | some i => exact Im.int_iff
/-- an order, unpacked -/
theorem ord_inv {H : Hp} {o : ROrd} {xs : List V} (h : ImL H [.int o.1, .int o.2.1, .int o.2.2.1, pyOpt o.2.2.2] xs) : xs = [.int o.1, .int o.2.1, .int o.2.2.1, vOpt o.2.2.2] := by
  obtain ⟨v1, r1, rfl, h1, h⟩ := h.cons_inv
  obtain ⟨v2, r2, rfl, h2, h⟩ := h.cons_inv
  obtain ⟨v3, r3, rfl, h3, h⟩ := h.cons_inv
  obtain ⟨v4, r4, rfl, h4, h⟩ := h.cons_inv
  rw [h.nil_inv, Im.int_iff.mp h1, Im.int_iff.mp h2, Im.int_iff.mp h3, im_opt.mp h4]
theorem ints_at {ns : List Int} {i : Nat} {n : Int} (h : ns[i]? = some n) : (ns.map PyData.int)[i]? = some (.int n) := by
  rw [List.getElem?_map, h]
  rfl
theorem map_at {α β : Type} {f : α → β} {l : List α} {i : Nat} {x : α} (h : l[i]? = some x) : (l.map f)[i]? = some (f x) := by
  rw [List.getElem?_map, h]
  rfl
theorem map_at' {α β : Type} {f : α → β} {l : List α} {i : Nat} {y : β} (h : (l.map f)[i]? = some y) : ∃ x, l[i]? = some x ∧ y = f x := by
  rw [List.getElem?_map] at h
  cases e : l[i]? with
  | none =>
    rw [e] at h
    cases h
  | some x =>
    rw [e] at h
    exact ⟨x, rfl, (Option.some.inj h).symm⟩

/-! ### what check_board looks at -/
def digit (n : Int) : Bool := decide (0 ≤ n ∧ n ≤ 9)
/-- memory_fault -/
def memFault (m : List Int) : Option Nat :=
  if m.length % 4 ≠ 0 ∨ ¬ (1 ≤ m.length / 4 ∧ m.length / 4 ≤ 4) then some 0 else m.findIdx? fun n => !digit n
def ordOk (cells n i : Nat) (o : ROrd) : Bool :=
  decide (1 ≤ o.2.2.1 ∧ o.2.2.1 ≤ 8) && decide (0 ≤ o.1 ∧ o.1 ≤ cells - o.2.2.1) && decide (0 ≤ o.2.1 ∧ o.2.1 ≤ cells - o.2.2.1) &&
    match o.2.2.2 with
    | none => true
    | some l => decide ((i : Int) + 1 ≤ l ∧ l ≤ (n : Int) - 1)
def deedOk (cells n : Nat) (d : RDeed) : Bool :=
  if d.1 = "wait" then d.2.length == 0
  else if d.1 = "set" ∨ d.1 = "add" then
    match d.2 with
    | [x, y] => decide (0 ≤ x ∧ x ≤ (cells : Int) - 1) && decide (0 ≤ y ∧ y ≤ if d.1 = "set" then (9 : Int) else (cells : Int) - 1)
    | _ => false
  else
    match d.2 with
    | [x] => if d.1 = "say" then decide (0 ≤ x ∧ x ≤ (cells : Int) - 1) else if d.1 = "start" then decide (0 ≤ x ∧ x ≤ (n : Int) - 1) else decide (d.1 = "clean" ∨ d.1 = "drop") && decide (0 ≤ x ∧ x ≤ ((cells / 4 : Nat) : Int) - 1)
    | _ => false
def isStart (d : RDeed) : Bool := decide (d.1 = "start")
/-- a board that can be -/
structure RGood (b : RB) : Prop where
  mem : memFault b.mem = none
  ords : b.ords.length ≤ 4 ∧ ∀ i o, b.ords[i]? = some o → ordOk b.mem.length b.ords.length i o = true
  prog : b.prog.length ≤ 60 ∧ (∀ d ∈ b.prog, deedOk b.mem.length b.ords.length d = true) ∧ (b.prog.filter isStart).length ≤ 3
end BC
/-! BCTyped: good boards: orders, deeds, moves. -/
namespace BC
open PySem PySem.Spec PyProof.Rows L2
theorem ofS_inj {a b : String} : Str.ofString a = Str.ofString b ↔ a = b := by
  constructor
  · intro h
    have h1 : (Str.ofString a).cps.toList = (Str.ofString b).cps.toList := by rw [h]
    have h2 : a.toList.map Char.toNat = b.toList.map Char.toNat := by simpa [Str.ofString_eq_toList] using h1
    have h3 : a.toList = b.toList := (List.map_inj_right (f := Char.toNat) (fun x y hxy => Char.toNat_inj.mp hxy)).mp h2
    exact String.toList_inj.mp h3
  · intro h
    rw [h]
theorem ofS_beq {a b : String} : (Str.ofString a == Str.ofString b) = decide (a = b) := by
  rw [Bool.eq_iff_iff, beq_iff_eq, decide_eq_true_eq]
  exact ofS_inj
structure Ord where
  src : Nat
  dst : Nat
  many : Nat
  later : Option Nat
def oN : Option Nat → Option Int
  | none => none
  | some n => some (n : Int)
abbrev Ord.raw (o : Ord) : ROrd := ((o.src : Int), (o.dst : Int), (o.many : Int), oN o.later)
inductive Deed where
  | set (c n : Nat) | add (c o : Nat) | say (c : Nat) | start (k : Nat) | wait | clean (l : Nat) | drop (l : Nat)
  deriving DecidableEq
abbrev Deed.raw : Deed → RDeed
  | .set c n => ("set", [(c : Int), (n : Int)])
  | .add c o => ("add", [(c : Int), (o : Int)])
  | .say c => ("say", [(c : Int)])
  | .start k => ("start", [(k : Int)])
  | .wait => ("wait", [])
  | .clean l => ("clean", [(l : Int)])
  | .drop l => ("drop", [(l : Int)])
def Deed.isStart : Deed → Bool
  | .start _ => true
  | _ => false
structure Bd where
  mem : List Int
  ords : List Ord
  prog : List Deed
abbrev Bd.raw (b : Bd) : RB := ⟨b.mem, b.ords.map Ord.raw, b.prog.map Deed.raw⟩
structure OrdsOk (cells : Nat) (os : List Ord) : Prop where
  ok : ∀ i o, os[i]? = some o → 1 ≤ o.many ∧ o.many ≤ 8 ∧ o.src + o.many ≤ cells ∧ o.dst + o.many ≤ cells ∧ ∀ l, o.later = some l → i < l ∧ l < os.length
def Deed.Ok (cells n : Nat) : Deed → Prop
  | .set c k => c < cells ∧ k ≤ 9
  | .add c o => c < cells ∧ o < cells
  | .say c => c < cells
  | .start k => k < n
  | .wait => True
  | .clean l => l < cells / 4
  | .drop l => l < cells / 4
structure Good (b : Bd) : Prop where
  four : b.mem.length % 4 = 0
  lines : 1 ≤ b.mem.length / 4 ∧ b.mem.length / 4 ≤ 4
  digits : ∀ n ∈ b.mem, 0 ≤ n ∧ n ≤ 9
  ords : b.ords.length ≤ 4
  ordsOk : OrdsOk b.mem.length b.ords
  len : b.prog.length ≤ 60
  deeds : ∀ d ∈ b.prog, d.Ok b.mem.length b.ords.length
  starts : (b.prog.filter Deed.isStart).length ≤ 3
theorem deedOk_raw {cells n : Nat} : ∀ {d : Deed}, d.Ok cells n → deedOk cells n d.raw = true
  | .set c k, h => by
    have h1 : c < cells ∧ k ≤ 9 := h
    simp [deedOk, Deed.raw, ofS_inj]
    omega
  | .add c o, h => by
    have h1 : c < cells ∧ o < cells := h
    simp [deedOk, Deed.raw, ofS_inj]
    omega
  | .say c, h => by
    have h1 : c < cells := h
    simp [deedOk, Deed.raw, ofS_inj]
    omega
  | .start k, h => by
    have h1 : k < n := h
    simp [deedOk, Deed.raw, ofS_inj]
    omega
  | .wait, h => by simp [deedOk, Deed.raw, ofS_inj]
  | .clean l, h => by
    have h1 : l < cells / 4 := h
    simp [deedOk, Deed.raw, ofS_inj]
    omega
  | .drop l, h => by
    have h1 : l < cells / 4 := h
    simp [deedOk, Deed.raw, ofS_inj]
    omega
theorem isStart_raw : ∀ d : Deed, BC.isStart d.raw = d.isStart
  | .set _ _ => by simp [BC.isStart, Deed.raw, Deed.isStart, ofS_inj]
  | .add _ _ => by simp [BC.isStart, Deed.raw, Deed.isStart, ofS_inj]
  | .say _ => by simp [BC.isStart, Deed.raw, Deed.isStart, ofS_inj]
  | .start _ => by simp [BC.isStart, Deed.raw, Deed.isStart, ofS_inj]
  | .wait => by simp [BC.isStart, Deed.raw, Deed.isStart, ofS_inj]
  | .clean _ => by simp [BC.isStart, Deed.raw, Deed.isStart, ofS_inj]
  | .drop _ => by simp [BC.isStart, Deed.raw, Deed.isStart, ofS_inj]
theorem Good.raw {b : Bd} (g : Good b) : RGood b.raw where
  mem := by
    unfold memFault
    rw [if_neg (by
      have h1 := g.four
      have h2 := g.lines
      rintro (h | h)
      · exact h h1
      · exact h h2), List.findIdx?_eq_none_iff]
    intro n hn
    have := g.digits n hn
    simp [digit, this]
  ords := by
    refine ⟨by simpa using g.ords, fun i o ho => ?_⟩
    obtain ⟨o', h1, rfl⟩ := map_at' ho
    have h2 := g.ordsOk.ok i o' h1
    obtain ⟨a1, a2, a3, a4, a5⟩ := h2
    unfold ordOk
    simp only [List.length_map, Ord.raw, Bool.and_eq_true, decide_eq_true_eq]
    refine ⟨⟨⟨by omega, by omega⟩, by omega⟩, ?_⟩
    cases e : o'.later with
    | none => rfl
    | some l =>
      have := a5 l e
      simp only [oN, decide_eq_true_eq]
      omega
  prog := by
    refine ⟨by simpa using g.len, fun d hd => ?_, ?_⟩
    · obtain ⟨d', h1, rfl⟩ := List.mem_map.mp hd
      simp only [List.length_map]
      exact deedOk_raw (g.deeds d' h1)
    · have := g.starts
      simp only [List.filter_map, List.length_map]
      have e : (BC.isStart ∘ Deed.raw) = Deed.isStart := funext isStart_raw
      rw [e]
      exact this

/-! ### moves -/
structure Mv where
  src : Nat
  dst : Nat
  bell : Option Nat
  deriving DecidableEq
abbrev pyMv (m : Mv) : PyData := .tuple [.int (m.src : Int), .int (m.dst : Int), pyOpt (oN m.bell)]
def mvAt (o : Ord) (k s : Nat) : Mv := ⟨o.src + s, o.dst + s, if s + 1 = o.many then some k else none⟩
def movesOne (o : Ord) (k : Nat) : List Mv := (List.range o.many).map (mvAt o k)
def movesFrom (os : List Ord) : Nat → Nat → List Mv
  | 0, _ => []
  | n + 1, k => match os[k]? with
    | none => []
    | some o => movesOne o k ++ match o.later with
      | none => []
      | some l => movesFrom os n l
def movesOf (os : List Ord) (k : Nat) : List Mv := movesFrom os os.length k
def movesO (os : List Ord) : Option Nat → List Mv
  | none => []
  | some k => movesOf os k
theorem movesFrom_fuel {cells : Nat} {os : List Ord} (g : OrdsOk cells os) : ∀ (n m k : Nat), os.length ≤ n + k → os.length ≤ m + k → movesFrom os n k = movesFrom os m k
  | 0, 0, _, _, _ => rfl
  | 0, m + 1, k, h, _ => by
    have e : os[k]? = none := List.getElem?_eq_none (by omega)
    simp [movesFrom, e]
  | n + 1, 0, k, _, h => by
    have e : os[k]? = none := List.getElem?_eq_none (by omega)
    simp [movesFrom, e]
  | n + 1, m + 1, k, h1, h2 => by
    cases e : os[k]? with
    | none => simp [movesFrom, e]
    | some o =>
      simp only [movesFrom, e]
      cases e2 : o.later with
      | none => rfl
      | some l =>
        have := (g.ok k o e).2.2.2.2 l e2
        simp only
        rw [movesFrom_fuel g n m l (by omega) (by omega)]
theorem movesO_some {cells : Nat} {os : List Ord} (g : OrdsOk cells os) {k : Nat} {o : Ord} (h : os[k]? = some o) : movesO os (some k) = movesOne o k ++ movesO os o.later := by
  show movesFrom os os.length k = _
  have hk : k < os.length := (List.getElem?_eq_some_iff.mp h).1
  cases hn : os.length with
  | zero => omega
  | succ n =>
    simp only [movesFrom, h]
    cases e2 : o.later with
    | none => rfl
    | some l =>
      have := (g.ok k o h).2.2.2.2 l e2
      simp only [movesO, movesOf]
      rw [movesFrom_fuel g n os.length l (by omega) (by omega)]
theorem movesOne_len (o : Ord) (k : Nat) : (movesOne o k).length = o.many := by simp [movesOne]
theorem moves_in {cells : Nat} {os : List Ord} (g : OrdsOk cells os) : ∀ (n k : Nat) (m : Mv), m ∈ movesFrom os n k → m.src < cells ∧ m.dst < cells
  | 0, _, _, h => by simp [movesFrom] at h
  | n + 1, k, m, h => by
    cases e : os[k]? with
    | none => simp [movesFrom, e] at h
    | some o =>
      simp only [movesFrom, e] at h
      obtain ⟨a1, a2, a3, a4, a5⟩ := g.ok k o e
      rcases List.mem_append.mp h with h | h
      · simp only [movesOne, List.mem_map, List.mem_range] at h
        obtain ⟨s, hs, rfl⟩ := h
        simp only [mvAt]
        omega
      · cases e2 : o.later with
        | none => simp [e2] at h
        | some l =>
          simp only [e2] at h
          exact moves_in g n l m h
theorem moves_len {cells : Nat} {os : List Ord} (g : OrdsOk cells os) : ∀ (n k : Nat), (movesFrom os n k).length ≤ 8 * n
  | 0, _ => by simp [movesFrom]
  | n + 1, k => by
    cases e : os[k]? with
    | none => simp [movesFrom, e]
    | some o =>
      obtain ⟨a1, a2, a3, a4, a5⟩ := g.ok k o e
      simp only [movesFrom, e, List.length_append, movesOne_len]
      cases e2 : o.later with
      | none => simp only [List.length_nil]; omega
      | some l =>
        have := moves_len g n l
        simp only
        omega
end BC
/-! BCObj: steps about objects and dicts; the plain object. -/
namespace BC
open PySem PySem.Spec PyProof.Rows L2
theorem st_NT {A B : Prop} (h : B) : if (!true) = true then A else B := iteF h
theorem st_NF {A B : Prop} (h : A) : if (!false) = true then A else B := iteT h
theorem fr1 {H H2 : Hp} {a b : Addr} {o : HO} (f : Fr [a] H H2) (h : H b = some o) (n : b ≠ a) : H2 b = some o := f b o h (by simpa using n)
theorem ne_ins {H : Hp} {p l C dx : Addr} {fs : List (Str × V)} {xs : List V} (h1 : H p = some (.ins C dx fs)) (h2 : H l = some (.lst xs)) : p ≠ l := ne_of h1 h2 (by intro z; cases z)
def GetF (K : PySem.W.Frag) (f : Str) (x : V) (H : Hp) (Q : VK) : Prop := ∃ a C dx fs v, x = .ref a ∧ H a = some (.ins C dx fs) ∧ Cls K C ∧ NoAttr K C f ∧ fs.lookup f = some v ∧ Q v H
def SetF (K : PySem.W.Frag) (f : Str) (y x : V) (H : Hp) (R : Hp → Prop) : Prop := ∃ a C dx fs, x = .ref a ∧ H a = some (.ins C dx fs) ∧ Cls K C ∧ NoAttr K C f ∧ fs.length < 1000 ∧ R (upd H a (.ins C dx (putF f y fs)))
def CallM (C : Addr) (m : Str) (sp : Sp) (E : XK) (tr : TA) (x : V) (σ : L2.St) (H : Hp) (Q : VK) : Prop := ∃ a dx fs, x = .ref a ∧ H a = some (.ins C dx fs) ∧ fs.lookup m = none ∧ tr σ H fun vs H2 => sp (x :: vs) H2 Q E
def MakeC (C : Addr) (sp : Sp) (E : XK) (vs : List V) (H1 : Hp) (Q : VK) : Prop := ∀ x dx, H1 x = none → H1 dx = none → dx ≠ x → sp (.ref x :: vs) (upd (upd H1 dx (.own x)) x (.ins C dx [])) (fun v H2 => v = .non ∧ Q (.ref x) H2) E
section
variable {K : PySem.W.Frag} {σ : L2.St} {H H0 H1 : Hp} {D : Ends} {Q : VK} {t u : TS} {ta tb te tv : TE} {tr : TA} {i j : Int} {n : Nat} {v x y : V} {vs xs : List V} {a C dx l p : Addr} {f m : Str} {fs : List (Str × V)} {sp : Sp} {E : XK}
theorem st_fld (h : ta σ H fun x H1 => GetF K f x H1 Q) : tFld K ta f σ H Q := h
theorem st_getF (h : H a = some (.ins C dx fs)) (hc : Cls K C) (hn : NoAttr K C f) (e : fs.lookup f = some v) (q : Q v H) : GetF K f (.ref a) H Q := ⟨a, C, dx, fs, v, rfl, h, hc, hn, e, q⟩
theorem st_sfld (h : tv σ H fun y H1 => ta σ H1 fun x H2 => SetF K f y x H2 (D.nx σ)) : sFld K ta tv f D σ H := h
theorem st_setF {R : Hp → Prop} (h : H a = some (.ins C dx fs)) (hc : Cls K C) (hn : NoAttr K C f) (hl : fs.length < 1000) (q : ∀ H2, Fr [a] H H2 → Kp H H2 → H2 a = some (.ins C dx (putF f y fs)) → R H2) : SetF K f y (.ref a) H R :=
  ⟨a, C, dx, fs, rfl, h, hc, hn, hl, q _ (Fr.mut (List.mem_singleton.mpr rfl) (Fr.refl _ _)) (Kp.mut (nt_of h trivial) (Kp.refl _)) upd_same⟩
theorem st_meth (h : ta σ H fun x H1 => CallM C m sp E tr x σ H1 Q) : tMeth C m sp [] E ta tr σ H Q := by
  show ta σ H fun x H1 => ∃ a dx fs, x = .ref a ∧ H1 a = some (.ins C dx fs) ∧ fs.lookup m = none ∧ tr σ H1 fun vs H2 => sp (x :: (vs ++ [])) H2 Q E
  unfold CallM at h
  simpa only [List.append_nil] using h
theorem st_callM (h : H a = some (.ins C dx fs)) (e : fs.lookup m = none) (q : tr σ H fun vs H2 => sp (.ref a :: vs) H2 Q E) : CallM C m sp E tr (.ref a) σ H Q := ⟨a, dx, fs, rfl, h, e, q⟩
theorem st_make (h : tr σ H fun vs H1 => MakeC C sp E vs H1 Q) : tMake C sp [] E tr σ H Q := by
  show tr σ H fun vs H1 => ∀ x dx, H1 x = none → H1 dx = none → dx ≠ x → sp (.ref x :: (vs ++ [])) (upd (upd H1 dx (.own x)) x (.ins C dx [])) (fun v H2 => v = .non ∧ Q (.ref x) H2) E
  unfold MakeC at h
  simpa only [List.append_nil] using h
theorem st_makeC (k : ∀ x dx H2, H x = none → Ex H H2 → H2 x = some (.ins C dx []) → sp (.ref x :: vs) H2 (fun v H3 => v = .non ∧ Q (.ref x) H3) E) : MakeC C sp E vs H Q :=
  fun x dx nx nd ne => k x dx _ nx ((Ex.new nd).trans (Ex.new (by rw [upd_ne (Ne.symm ne)]; exact nx))) upd_same
/-- o.f += e -/
def AugF (K : PySem.W.Frag) (tv : TE) (rd : R2) (f : Str) (D : Ends) (x : V) (σ : L2.St) (H1 : Hp) : Prop := ∃ a C dx fs v, x = .ref a ∧ H1 a = some (.ins C dx fs) ∧ Cls K C ∧ NoAttr K C f ∧ fs.lookup f = some v ∧
  tv σ H1 fun u H2 => rd v u H2 fun r H3 => ∃ dy gs, H3 a = some (.ins C dy gs) ∧ gs.length < 1000 ∧ D.nx σ (upd H3 a (.ins C dy (putF f r gs)))
theorem st_fldaug {rd : R2} (h : ta σ H fun x H1 => AugF K tv rd f D x σ H1) : sFldAug K ta tv rd f D σ H := h
/-- .. of an int, by a constant -/
theorem st_augF (h : H a = some (.ins C dx fs)) (hc : Cls K C) (hn : NoAttr K C f) (e : fs.lookup f = some (.int i)) (hl : fs.length < 1000) (q : ∀ H2, Fr [a] H H2 → Kp H H2 → H2 a = some (.ins C dx (putF f (.int (i + j)) fs)) → D.nx σ H2) :
    AugF K (tC (.int j)) rAdd f D (.ref a) σ H :=
  ⟨a, C, dx, fs, _, rfl, h, hc, hn, e, i, j, rfl, rfl, dx, fs, h, hl, q _ (Fr.mut (List.mem_singleton.mpr rfl) (Fr.refl _ _)) (Kp.mut (nt_of h trivial) (Kp.refl _)) upd_same⟩
/-- xs[i] = e -/
def SetI (o i v : V) (H : Hp) (R : Hp → Prop) : Prop := rSetL o i v H R
theorem st_gsub {to ti : TE} {QS : L2.St → Hp → Prop} (h : to σ H fun o H1 => ti σ H1 fun i H2 => SetI o i v H2 (fun H3 => QS σ H3)) : gSub to ti rSetL v σ H QS := h
theorem ixN_nat {m k : Nat} (hk : k < m) : ixN m (k : Int) = some k := by
  unfold ixN
  rw [if_pos (by omega), if_pos (by omega), Int.toNat_natCast]
theorem st_setI {k : Nat} {R : Hp → Prop} (h : H l = some (.lst xs)) (hk : k < xs.length) (q : ∀ H2, Fr [l] H H2 → Kp H H2 → H2 l = some (.lst (xs.set k v)) → R H2) : SetI (.ref l) (.int (k : Int)) v H R :=
  ⟨l, xs, k, k, rfl, rfl, h, ixN_nat hk, q _ (Fr.mut (List.mem_singleton.mpr rfl) (Fr.refl _ _)) (Kp.mut (nt_of h trivial) (Kp.refl _)) upd_same⟩
/-! dicts -/
def DGetP (x y : V) (H2 : Hp) (Q : VK) : Prop := ∃ a v, x = .ref a ∧ DGet H2 a y (some v) ∧ Q v H2
theorem st_dget {td ty : TE} (h : td σ H fun x H1 => ty σ H1 fun y H2 => DGetP x y H2 Q) : tDGet td ty σ H Q := h
theorem st_dgetI {kvs : List (Key × V)} (h : H a = some (.dK kvs)) (e : valV kvs (Sum.inl i) = some v) (q : Q v H) : DGetP (.ref a) (.int i) H Q := ⟨a, v, rfl, by rw [← e]; exact DGet.k (k := Sum.inl i) h, q⟩
theorem st_dgetS {kvs : List (Key × V)} {s : Str} (h : H a = some (.dK kvs)) (e : valV kvs (Sum.inr s) = some v) (q : Q v H) : DGetP (.ref a) (.str s) H Q := ⟨a, v, rfl, by rw [← e]; exact DGet.k (k := Sum.inr s) h, q⟩
def DInP (y x : V) (H2 : Hp) (Q : VK) : Prop := ∃ a o, x = .ref a ∧ DGet H2 a y o ∧ Q (.bl o.isSome) H2
def DNotInP (y x : V) (H2 : Hp) (Q : VK) : Prop := ∃ a o, x = .ref a ∧ DGet H2 a y o ∧ Q (.bl (!o.isSome)) H2
theorem st_din {td ty : TE} (h : ty σ H fun y H1 => td σ H1 fun x H2 => DInP y x H2 Q) : tDIn ty td σ H Q := h
theorem st_dnotin {td ty : TE} (h : ty σ H fun y H1 => td σ H1 fun x H2 => DNotInP y x H2 Q) : tDNotIn ty td σ H Q := h
theorem st_dinI {kvs : List (Key × V)} (h : H a = some (.dK kvs)) (q : Q (.bl (valV kvs (Sum.inl i)).isSome) H) : DInP (.int i) (.ref a) H Q := ⟨a, _, rfl, DGet.k (k := Sum.inl i) h, q⟩
theorem st_dinS {kvs : List (Key × V)} {s : Str} (h : H a = some (.dK kvs)) (q : Q (.bl (valV kvs (Sum.inr s)).isSome) H) : DInP (.str s) (.ref a) H Q := ⟨a, _, rfl, DGet.k (k := Sum.inr s) h, q⟩
theorem st_dnotinI {kvs : List (Key × V)} (h : H a = some (.dK kvs)) (q : Q (.bl (!(valV kvs (Sum.inl i)).isSome)) H) : DNotInP (.int i) (.ref a) H Q := ⟨a, _, rfl, DGet.k (k := Sum.inl i) h, q⟩
def DPutP (v x y : V) (H3 : Hp) (R : Hp → Prop) : Prop := ∃ a H4, x = .ref a ∧ DPut H3 a y v H4 ∧ R H4
theorem st_dput {td ty tv : TE} (h : tv σ H fun v H1 => td σ H1 fun x H2 => ty σ H2 fun y H3 => DPutP v x y H3 (D.nx σ)) : sDPut td ty tv D σ H := h
theorem st_dputK {k : Key} {kvs : List (Key × V)} {R : Hp → Prop} (h : H a = some (.dK kvs)) (hy : y = kV k) (hl : kvs.length < 100000) (q : ∀ H2, Fr [a] H H2 → Kp H H2 → H2 a = some (.dK (putK kvs k v)) → R H2) : DPutP v (.ref a) y H R :=
  ⟨a, _, rfl, by rw [hy]; exact DPut.k h (sz_lt hl), q _ (Fr.mut (List.mem_singleton.mpr rfl) (Fr.refl _ _)) (Kp.mut (nt_of h trivial) (Kp.refl _)) upd_same⟩
theorem st_dnewK (q : ∀ d H2, H d = none → Ex H H2 → H2 d = some (.dK []) → Q (.ref d) H2) : tDNewK σ H Q := fun p hp => q p _ hp (Ex.new hp) upd_same
/-! deep == -/
theorem st_eqD {d e : PyData} (hx : Dp K H x d) (hy : Dp K H y e) (sd : SeqAt.shaped d = true) (se : SeqAt.shaped e = true) (q : Q (.bl (PyData.eqv d e)) H) : rEqD K x y H Q := ⟨d, e, hx, hy, sd, se, q⟩
theorem st_neD {d e : PyData} (hx : Dp K H x d) (hy : Dp K H y e) (sd : SeqAt.shaped d = true) (se : SeqAt.shaped e = true) (q : Q (.bl (!PyData.eqv d e)) H) : rNeD K x y H Q := ⟨d, e, hx, hy, sd, se, q⟩
end
/-! ### seen pairs -/
abbrev pySeen (s : Nat × Int) : PyData := .tuple [.int (s.1 : Int), .int s.2]
/-! ### the plain object -/
structure PS where
  mem : List Int
  reads : List (Nat × Int)
  fetches : List (Nat × Int)
  said : List Int
def plainF (ml rl fl sl : Addr) : List (Str × V) := [("memory", .ref ml), ("reads", .ref rl), ("fetches", .ref fl), ("said", .ref sl)]
theorem lk_plain_memory {a b c d : Addr} : (plainF a b c d).lookup ("memory" : Str) = some (.ref a) := by simp [plainF, List.lookup, ofS_beq]
theorem lk_plain_reads {a b c d : Addr} : (plainF a b c d).lookup ("reads" : Str) = some (.ref b) := by simp [plainF, List.lookup, ofS_beq]
theorem lk_plain_fetches {a b c d : Addr} : (plainF a b c d).lookup ("fetches" : Str) = some (.ref c) := by simp [plainF, List.lookup, ofS_beq]
theorem lk_plain_said {a b c d : Addr} : (plainF a b c d).lookup ("said" : Str) = some (.ref d) := by simp [plainF, List.lookup, ofS_beq]
theorem lk_plain_look {a b c d : Addr} : (plainF a b c d).lookup ("look" : Str) = none := by simp [plainF, List.lookup, ofS_beq]
theorem lk_plain_does {a b c d : Addr} : (plainF a b c d).lookup ("does" : Str) = none := by simp [plainF, List.lookup, ofS_beq]
structure PlainAt (C : Addr) (H : Hp) (p dx ml rl fl sl : Addr) (S : PS) : Prop where
  ob : H p = some (.ins C dx (plainF ml rl fl sl))
  me : H ml = some (.lst (S.mem.map V.int))
  re : ∃ xs, H rl = some (.lst xs) ∧ ImL H (S.reads.map pySeen) xs
  fe : ∃ xs, H fl = some (.lst xs) ∧ ImL H (S.fetches.map pySeen) xs
  sa : H sl = some (.lst (S.said.map V.int))
  nd : [ml, rl, fl, sl].Nodup
theorem PlainAt.ex {C : Addr} {H H' : Hp} {p dx ml rl fl sl : Addr} {S : PS} (e : Ex H H') (h : PlainAt C H p dx ml rl fl sl S) : PlainAt C H' p dx ml rl fl sl S := by
  obtain ⟨x1, a1, b1⟩ := h.re
  obtain ⟨x2, a2, b2⟩ := h.fe
  exact ⟨e _ _ h.ob, e _ _ h.me, ⟨x1, e _ _ a1, b1.ex e⟩, ⟨x2, e _ _ a2, b2.ex e⟩, e _ _ h.sa, h.nd⟩
/-- what Plain's methods do -/
def PS.set (S : PS) (c : Nat) (n : Int) : PS := { S with mem := S.mem.set c n }
def PS.look (S : PS) (c : Nat) : PS := { S with reads := S.reads ++ [(c, S.mem.getD c 0)] }
def PS.move (S : PS) (m : Mv) : PS := { S with fetches := S.fetches ++ [(m.src, S.mem.getD m.src 0)], mem := S.mem.set m.dst (S.mem.getD m.src 0) }
def PS.deed (os : List Ord) (S : PS) : Deed → PS
  | .set c n => S.set c (n : Int)
  | .add c o => ((S.look c).look o).set c ((S.mem.getD c 0 + S.mem.getD o 0) % 10)
  | .say c => { S.look c with said := S.said ++ [S.mem.getD c 0] }
  | .start k => (movesOf os k).foldl PS.move S
  | _ => S
def PS.init (m : List Int) : PS := ⟨m, [], [], []⟩
def plainOf (b : Bd) : PS := b.prog.foldl (PS.deed b.ords) (PS.init b.mem)
end BC
namespace BC
open PySem PySem.Spec PyProof.Rows L2
theorem st_sT {a : String} {A B : Prop} (h : A) : if decide (Str.ofString a = Str.ofString a) = true then A else B := by
  rw [decide_eq_true rfl]
  exact iteT h
theorem st_sF {a b : String} {A B : Prop} (ne : a ≠ b) (h : B) : if decide (Str.ofString a = Str.ofString b) = true then A else B := by
  rw [decide_eq_false fun z => ne (ofS_inj.mp z)]
  exact iteF h
theorem st_oT1 {a : String} {p A B : Prop} [Decidable p] (h : A) : if decide (Str.ofString a = Str.ofString a ∨ p) = true then A else B := by
  rw [decide_eq_true (.inl rfl)]
  exact iteT h
theorem st_oT2 {a : String} {p A B : Prop} [Decidable p] (h : A) : if decide (p ∨ Str.ofString a = Str.ofString a) = true then A else B := by
  rw [decide_eq_true (.inr rfl)]
  exact iteT h
theorem st_oF {a b c : String} {A B : Prop} (n1 : a ≠ b) (n2 : a ≠ c) (h : B) : if decide (Str.ofString a = Str.ofString b ∨ Str.ofString a = Str.ofString c) = true then A else B := by
  rw [decide_eq_false fun z => z.elim (fun z => n1 (ofS_inj.mp z)) fun z => n2 (ofS_inj.mp z)]
  exact iteF h
theorem st_intS {a : String} {H : Hp} {Q : VK} (h : Q (.int 1) H) : rInt1 [.bl (decide (Str.ofString a = Str.ofString a))] H Q := .inr ⟨_, rfl, by rw [decide_eq_true rfl]; exact h⟩
theorem st_intN {a b : String} {H : Hp} {Q : VK} (n : a ≠ b) (h : Q (.int 0) H) : rInt1 [.bl (decide (Str.ofString a = Str.ofString b))] H Q := .inr ⟨_, rfl, by rw [decide_eq_false fun z => n (ofS_inj.mp z)]; exact h⟩
theorem getD_at {ns : List Int} {c : Nat} (h : c < ns.length) : ns[c]? = some (ns.getD c 0) := by
  rw [List.getD_eq_getElem?_getD, List.getElem?_eq_getElem h]
  rfl
/-! walks -/
def WalkL (K : PySem.W.Frag) (g : TG) (tb : TS) (D : Ends) (σ : L2.St) (x : V) (H1 : Hp) : Prop := ∃ a, x = .ref a ∧ (∃ xs, SqL K H1 a xs) ∧ ∃ W : Nat → Nat → L2.St → Hp → Prop, (∃ m, W 0 m σ H1) ∧ ∀ i m σ H, W i m σ H →
  ((Itl K a).stop i H ∧ D.nx σ H) ∨ ((Itl K a).go i H ∧ ∃ N : L2.St → Hp → Prop, (∀ σ' H', N σ' H' → ∃ m', m' < m ∧ W (i + 1) m' σ' H') ∧ ∀ x H', (Itl K a).yld i H x H' → g x σ H' fun σ2 H2 => tb { D with nx := N, ct := N, bk := D.nx } σ2 H2)
def WalkT (K : PySem.W.Frag) (g : TG) (tb : TS) (D : Ends) (σ : L2.St) (x : V) (H1 : Hp) : Prop := ∃ a, x = .ref a ∧ (∃ xs, SqT K H1 a xs) ∧ ∃ W : Nat → Nat → L2.St → Hp → Prop, (∃ m, W 0 m σ H1) ∧ ∀ i m σ H, W i m σ H →
  ((Itt K a).stop i H ∧ D.nx σ H) ∨ ((Itt K a).go i H ∧ ∃ N : L2.St → Hp → Prop, (∀ σ' H', N σ' H' → ∃ m', m' < m ∧ W (i + 1) m' σ' H') ∧ ∀ x H', (Itt K a).yld i H x H' → g x σ H' fun σ2 H2 => tb { D with nx := N, ct := N, bk := D.nx } σ2 H2)
def WalkR (g : TG) (tb : TS) (D : Ends) (σ : L2.St) (vs : List V) (H1 : Hp) : Prop := ∃ j : Int, vs = [.int j] ∧ -(2 ^ 62) ≤ j ∧ j < 2 ^ 62 ∧ ∃ W : Nat → Nat → L2.St → Hp → Prop, (∃ m, W 0 m σ H1) ∧ ∀ i m σ H, W i m σ H →
  ((Itr 0 j.toNat).stop i H ∧ D.nx σ H) ∨ ((Itr 0 j.toNat).go i H ∧ ∃ N : L2.St → Hp → Prop, (∀ σ' H', N σ' H' → ∃ m', m' < m ∧ W (i + 1) m' σ' H') ∧ ∀ x H', (Itr 0 j.toNat).yld i H x H' → g x σ H' fun σ2 H2 => tb { D with nx := N, ct := N, bk := D.nx } σ2 H2)
section
variable {K : PySem.W.Frag} {σ : L2.St} {H H0 H1 : Hp} {D : Ends} {te : TE} {ta : TA} {g : TG} {tb : TS} {x : V} {l : Addr} {xs : List V} {ds : List PyData}
theorem st_wL (h : te σ H fun x H1 => WalkL K g tb D σ x H1) : tFor (iList K te) g tb D σ H := h
theorem st_wT (h : te σ H fun x H1 => WalkT K g tb D σ x H1) : tFor (iTup K te) g tb D σ H := h
theorem st_wR (h : ta σ H fun vs H1 => WalkR g tb D σ vs H1) : tFor (iRng1 ta) g tb D σ H := h
theorem st_walkL (h : H l = some (.lst xs)) (Pv : Nat → L2.St → Hp → Prop) (h0 : Pv 0 σ H) (hk : ∀ m σ' H', Pv m σ' H' → H' l = some (.lst xs))
    (hs : ∀ m v σ' H', xs[m]? = some v → Pv m σ' H' → g v σ' H' fun σ2 H2 => tb { D with nx := Pv (m + 1), ct := Pv (m + 1), bk := D.nx } σ2 H2) (hd : ∀ σ' H', Pv xs.length σ' H' → D.nx σ' H') : WalkL K g tb D σ (.ref l) H :=
  ⟨l, rfl, ⟨xs, SqL.of h⟩, for_list (K := K) (a := l) (xs := xs) Pv h0 (fun m σ' H' _ p => SqL.of (hk m σ' H' p)) hs hd⟩
theorem st_walkT (h : Im H0 (.tuple ds) x) (k : Kp H0 H) (Pv : Nat → L2.St → Hp → Prop) (h0 : Pv 0 σ H) (hk : ∀ m σ' H', Pv m σ' H' → Kp H0 H')
    (hs : ∀ m d v σ' H', ds[m]? = some d → Pv m σ' H' → Im H' d v → g v σ' H' fun σ2 H2 => tb { D with nx := Pv (m + 1), ct := Pv (m + 1), bk := D.nx } σ2 H2) (hd : ∀ σ' H', Pv ds.length σ' H' → D.nx σ' H') : WalkT K g tb D σ x H := by
  obtain ⟨a, xs, rfl, h1, h2⟩ := h.tup
  refine ⟨a, rfl, ⟨xs, SqT.of (k a xs h1)⟩, for_tup (K := K) (a := a) (xs := xs) Pv h0 (fun m σ' H' _ p => SqT.of (hk m σ' H' p a xs h1)) (fun m v σ' H' hv p => ?_) fun σ' H' p => hd σ' H' (h2.length ▸ p)⟩
  obtain ⟨d, e1, e2⟩ := h2.get' hv
  exact hs m d v σ' H' e1 p (e2.kp (hk m σ' H' p))
theorem st_walkR {n : Nat} (hn : n ≤ 1000000) (Pv : Nat → L2.St → Hp → Prop) (h0 : Pv 0 σ H)
    (hs : ∀ (m : Nat) σ' H', m < n → Pv m σ' H' → g (.int (m : Int)) σ' H' fun σ2 H2 => tb { D with nx := Pv (m + 1), ct := Pv (m + 1), bk := D.nx } σ2 H2) (hd : ∀ σ' H', Pv n σ' H' → D.nx σ' H') : WalkR g tb D σ [.int (n : Int)] H := by
  refine ⟨(n : Int), rfl, by omega, by omega, for_range (lo := 0) (n := ((n : Int)).toNat) Pv h0 (fun m σ' H' hm p => ?_) (by simpa using hd)⟩
  have e0 : (0 : Int) + (m : Int) = (m : Int) := Int.zero_add _
  rw [e0]
  exact hs m σ' H' (by omega) p
end
/-! ### the plain object's changes -/
section
variable {C p dx ml rl fl sl t : Addr} {H H2 : Hp} {S : PS} {xs : List V} {c : Nat} {n : Int}
theorem PlainAt.addRead (h : PlainAt C H p dx ml rl fl sl S) (hr : H rl = some (.lst xs)) (ir : ImL H (S.reads.map pySeen) xs) (f : Fr [rl] H H2) (k : Kp H H2) (h2 : H2 rl = some (.lst (xs ++ [.ref t]))) (ht : H2 t = some (.tup [.int (c : Int), .int n])) :
    PlainAt C H2 p dx ml rl fl sl { S with reads := S.reads ++ [(c, n)] } := by
  obtain ⟨ob, me, _, ⟨x2, a2, b2⟩, sa, nd⟩ := h
  have q := nd
  simp only [List.nodup_cons, List.mem_cons, List.not_mem_nil, or_false, not_or, List.mem_singleton] at q
  refine ⟨fr1 f ob (ne_ins ob hr), fr1 f me (fun z => q.1.1 z), ⟨_, h2, ?_⟩, ⟨x2, fr1 f a2 (fun z => q.2.1.1 z.symm), b2.kp k⟩, fr1 f sa (fun z => q.2.1.2 z.symm), nd⟩
  rw [List.map_append]
  exact (ir.kp k).append (iml_cons (im_tup ht (iml_cons im_int (iml_cons im_int iml_nil))) iml_nil)
theorem PlainAt.addFetch (h : PlainAt C H p dx ml rl fl sl S) (hr : H fl = some (.lst xs)) (ir : ImL H (S.fetches.map pySeen) xs) (f : Fr [fl] H H2) (k : Kp H H2) (h2 : H2 fl = some (.lst (xs ++ [.ref t]))) (ht : H2 t = some (.tup [.int (c : Int), .int n])) :
    PlainAt C H2 p dx ml rl fl sl { S with fetches := S.fetches ++ [(c, n)] } := by
  obtain ⟨ob, me, ⟨x2, a2, b2⟩, _, sa, nd⟩ := h
  have q := nd
  simp only [List.nodup_cons, List.mem_cons, List.not_mem_nil, or_false, not_or, List.mem_singleton] at q
  refine ⟨fr1 f ob (ne_ins ob hr), fr1 f me (fun z => q.1.2.1 z), ⟨x2, fr1 f a2 (fun z => q.2.1.1 z), b2.kp k⟩, ⟨_, h2, ?_⟩, fr1 f sa (fun z => q.2.2.1 z.symm), nd⟩
  rw [List.map_append]
  exact (ir.kp k).append (iml_cons (im_tup ht (iml_cons im_int (iml_cons im_int iml_nil))) iml_nil)
theorem PlainAt.addSaid (h : PlainAt C H p dx ml rl fl sl S) (f : Fr [sl] H H2) (k : Kp H H2) (h2 : H2 sl = some (.lst (S.said.map V.int ++ [.int n]))) :
    PlainAt C H2 p dx ml rl fl sl { S with said := S.said ++ [n] } := by
  obtain ⟨ob, me, ⟨x1, a1, b1⟩, ⟨x2, a2, b2⟩, sa, nd⟩ := h
  have q := nd
  simp only [List.nodup_cons, List.mem_cons, List.not_mem_nil, or_false, not_or, List.mem_singleton] at q
  refine ⟨fr1 f ob (ne_ins ob sa), fr1 f me (fun z => q.1.2.2 z), ⟨x1, fr1 f a1 (fun z => q.2.1.2 z), b1.kp k⟩, ⟨x2, fr1 f a2 (fun z => q.2.2.1 z), b2.kp k⟩, ?_, nd⟩
  rw [List.map_append]
  exact h2
theorem PlainAt.setMem (h : PlainAt C H p dx ml rl fl sl S) (f : Fr [ml] H H2) (k : Kp H H2) (h2 : H2 ml = some (.lst ((S.mem.map V.int).set c (.int n)))) :
    PlainAt C H2 p dx ml rl fl sl { S with mem := S.mem.set c n } := by
  obtain ⟨ob, me, ⟨x1, a1, b1⟩, ⟨x2, a2, b2⟩, sa, nd⟩ := h
  have q := nd
  simp only [List.nodup_cons, List.mem_cons, List.not_mem_nil, or_false, not_or, List.mem_singleton] at q
  refine ⟨fr1 f ob (ne_ins ob me), ?_, ⟨x1, fr1 f a1 (fun z => q.1.1 z.symm), b1.kp k⟩, ⟨x2, fr1 f a2 (fun z => q.1.2.1 z.symm), b2.kp k⟩, fr1 f sa (fun z => q.1.2.2 z.symm), nd⟩
  rw [h2, List.map_set]
end
theorem PS.mem_len (os : List Ord) (S : PS) : ∀ d : Deed, (PS.deed os S d).mem.length = S.mem.length
  | .set c n => by simp [PS.deed, PS.set]
  | .add c o => by simp [PS.deed, PS.set, PS.look]
  | .say c => by simp [PS.deed, PS.look]
  | .start k => by
    show ((movesOf os k).foldl PS.move S).mem.length = S.mem.length
    generalize movesOf os k = ms
    induction ms generalizing S with
    | nil => rfl
    | cons m ms ih =>
      rw [List.foldl_cons, ih]
      simp [PS.move]
  | .wait => rfl
  | .clean _ => rfl
  | .drop _ => rfl
/-- sizes -/
structure PS.Small (n : Nat) (S : PS) : Prop where
  r : S.reads.length ≤ 40 * n
  f : S.fetches.length ≤ 40 * n
  s : S.said.length ≤ 40 * n
theorem move_sizes (ms : List Mv) : ∀ S : PS, (ms.foldl PS.move S).reads = S.reads ∧ (ms.foldl PS.move S).said = S.said ∧ (ms.foldl PS.move S).fetches.length = S.fetches.length + ms.length ∧ (ms.foldl PS.move S).mem.length = S.mem.length := by
  induction ms with
  | nil => intro S; exact ⟨rfl, rfl, rfl, rfl⟩
  | cons m ms ih =>
    intro S
    obtain ⟨h1, h2, h3, h4⟩ := ih (S.move m)
    rw [List.foldl_cons]
    refine ⟨h1.trans rfl, h2.trans rfl, ?_, ?_⟩
    · rw [h3]
      simp [PS.move]
      omega
    · rw [h4]
      simp [PS.move]
theorem PS.small_step {cells : Nat} {os : List Ord} (g : OrdsOk cells os) (h4 : os.length ≤ 4) {n : Nat} {S : PS} (h : S.Small n) : ∀ d : Deed, (PS.deed os S d).Small (n + 1)
  | .set c k => ⟨by have := h.r; simp [PS.deed, PS.set]; omega, by have := h.f; simp [PS.deed, PS.set]; omega, by have := h.s; simp [PS.deed, PS.set]; omega⟩
  | .add c o => ⟨by have := h.r; simp [PS.deed, PS.set, PS.look]; omega, by have := h.f; simp [PS.deed, PS.set, PS.look]; omega, by have := h.s; simp [PS.deed, PS.set, PS.look]; omega⟩
  | .say c => ⟨by have := h.r; simp [PS.deed, PS.look]; omega, by have := h.f; simp [PS.deed, PS.look]; omega, by have := h.s; simp [PS.deed, PS.look]; omega⟩
  | .start k => by
    obtain ⟨h1, h2, h3, _⟩ := move_sizes (movesOf os k) S
    have hl : (movesOf os k).length ≤ 8 * os.length := moves_len g _ _
    have a := h.r
    have b := h.f
    have c := h.s
    refine ⟨?_, ?_, ?_⟩
    · show ((movesOf os k).foldl PS.move S).reads.length ≤ _
      rw [h1]; omega
    · show ((movesOf os k).foldl PS.move S).fetches.length ≤ _
      rw [h3]; omega
    · show ((movesOf os k).foldl PS.move S).said.length ≤ _
      rw [h2]; omega
  | .wait => ⟨by have := h.r; simp [PS.deed]; omega, by have := h.f; simp [PS.deed]; omega, by have := h.s; simp [PS.deed]; omega⟩
  | .clean _ => ⟨by have := h.r; simp [PS.deed]; omega, by have := h.f; simp [PS.deed]; omega, by have := h.s; simp [PS.deed]; omega⟩
  | .drop _ => ⟨by have := h.r; simp [PS.deed]; omega, by have := h.f; simp [PS.deed]; omega, by have := h.s; simp [PS.deed]; omega⟩
end BC

namespace BC
open PySem PySem.Spec PyProof.Rows L2
/-- the four lists -/
structure PlainL (H : Hp) (ml rl fl sl : Addr) (S : PS) : Prop where
  me : H ml = some (.lst (S.mem.map V.int))
  re : ∃ xs, H rl = some (.lst xs) ∧ ImL H (S.reads.map pySeen) xs
  fe : ∃ xs, H fl = some (.lst xs) ∧ ImL H (S.fetches.map pySeen) xs
  sa : H sl = some (.lst (S.said.map V.int))
  nd : [ml, rl, fl, sl].Nodup
theorem PlainAt.l {C : Addr} {H : Hp} {p dx ml rl fl sl : Addr} {S : PS} (h : PlainAt C H p dx ml rl fl sl S) : PlainL H ml rl fl sl S := ⟨h.me, h.re, h.fe, h.sa, h.nd⟩
theorem PlainL.ex {H H' : Hp} {ml rl fl sl : Addr} {S : PS} (e : Ex H H') (h : PlainL H ml rl fl sl S) : PlainL H' ml rl fl sl S := by
  obtain ⟨x1, a1, b1⟩ := h.re
  obtain ⟨x2, a2, b2⟩ := h.fe
  exact ⟨e _ _ h.me, ⟨x1, e _ _ a1, b1.ex e⟩, ⟨x2, e _ _ a2, b2.ex e⟩, e _ _ h.sa, h.nd⟩
section
variable {C p dx ml rl fl sl t : Addr} {H H2 : Hp} {S : PS} {xs : List V} {c : Nat} {n : Int}
theorem PlainL.addRead (h : PlainL H ml rl fl sl S) (hr : H rl = some (.lst xs)) (ir : ImL H (S.reads.map pySeen) xs) (f : Fr [rl] H H2) (k : Kp H H2) (h2 : H2 rl = some (.lst (xs ++ [.ref t]))) (ht : H2 t = some (.tup [.int (c : Int), .int n])) :
    PlainL H2 ml rl fl sl { S with reads := S.reads ++ [(c, n)] } := by
  obtain ⟨me, _, ⟨x2, a2, b2⟩, sa, nd⟩ := h
  have q := nd
  simp only [List.nodup_cons, List.mem_cons, List.not_mem_nil, or_false, not_or, List.mem_singleton] at q
  refine ⟨fr1 f me (fun z => q.1.1 z), ⟨_, h2, ?_⟩, ⟨x2, fr1 f a2 (fun z => q.2.1.1 z.symm), b2.kp k⟩, fr1 f sa (fun z => q.2.1.2 z.symm), nd⟩
  rw [List.map_append]
  exact (ir.kp k).append (iml_cons (im_tup ht (iml_cons im_int (iml_cons im_int iml_nil))) iml_nil)
theorem PlainL.addFetch (h : PlainL H ml rl fl sl S) (hr : H fl = some (.lst xs)) (ir : ImL H (S.fetches.map pySeen) xs) (f : Fr [fl] H H2) (k : Kp H H2) (h2 : H2 fl = some (.lst (xs ++ [.ref t]))) (ht : H2 t = some (.tup [.int (c : Int), .int n])) :
    PlainL H2 ml rl fl sl { S with fetches := S.fetches ++ [(c, n)] } := by
  obtain ⟨me, ⟨x2, a2, b2⟩, _, sa, nd⟩ := h
  have q := nd
  simp only [List.nodup_cons, List.mem_cons, List.not_mem_nil, or_false, not_or, List.mem_singleton] at q
  refine ⟨fr1 f me (fun z => q.1.2.1 z), ⟨x2, fr1 f a2 (fun z => q.2.1.1 z), b2.kp k⟩, ⟨_, h2, ?_⟩, fr1 f sa (fun z => q.2.2.1 z.symm), nd⟩
  rw [List.map_append]
  exact (ir.kp k).append (iml_cons (im_tup ht (iml_cons im_int (iml_cons im_int iml_nil))) iml_nil)
theorem PlainL.addSaid (h : PlainL H ml rl fl sl S) (f : Fr [sl] H H2) (k : Kp H H2) (h2 : H2 sl = some (.lst (S.said.map V.int ++ [.int n]))) :
    PlainL H2 ml rl fl sl { S with said := S.said ++ [n] } := by
  obtain ⟨me, ⟨x1, a1, b1⟩, ⟨x2, a2, b2⟩, sa, nd⟩ := h
  have q := nd
  simp only [List.nodup_cons, List.mem_cons, List.not_mem_nil, or_false, not_or, List.mem_singleton] at q
  refine ⟨fr1 f me (fun z => q.1.2.2 z), ⟨x1, fr1 f a1 (fun z => q.2.1.2 z), b1.kp k⟩, ⟨x2, fr1 f a2 (fun z => q.2.2.1 z), b2.kp k⟩, ?_, nd⟩
  rw [List.map_append]
  exact h2
theorem PlainL.setMem (h : PlainL H ml rl fl sl S) (f : Fr [ml] H H2) (k : Kp H H2) (h2 : H2 ml = some (.lst ((S.mem.map V.int).set c (.int n)))) :
    PlainL H2 ml rl fl sl { S with mem := S.mem.set c n } := by
  obtain ⟨me, ⟨x1, a1, b1⟩, ⟨x2, a2, b2⟩, sa, nd⟩ := h
  have q := nd
  simp only [List.nodup_cons, List.mem_cons, List.not_mem_nil, or_false, not_or, List.mem_singleton] at q
  refine ⟨?_, ⟨x1, fr1 f a1 (fun z => q.1.1 z.symm), b1.kp k⟩, ⟨x2, fr1 f a2 (fun z => q.1.2.1 z.symm), b2.kp k⟩, fr1 f sa (fun z => q.1.2.2 z.symm), nd⟩
  rw [h2, List.map_set]
end

theorem plain_small {cells : Nat} {os : List Ord} (g : OrdsOk cells os) (h4 : os.length ≤ 4) : ∀ (p : List Deed) (n : Nat) (S : PS), S.Small n → (p.foldl (PS.deed os) S).Small (n + p.length)
  | [], _, _, h => h
  | d :: p, n, S, h => by
    have := plain_small g h4 p (n + 1) _ (PS.small_step g h4 h d)
    rw [List.foldl_cons, List.length_cons, show n + (p.length + 1) = n + 1 + p.length by omega]
    exact this
theorem plainOf_small {b : Bd} (g : Good b) : (plainOf b).Small 60 := by
  have h := plain_small g.ordsOk g.ords b.prog 0 (PS.init b.mem) ⟨by simp [PS.init], by simp [PS.init], by simp [PS.init]⟩
  have hl := g.len
  exact ⟨Nat.le_trans h.r (by omega), Nat.le_trans h.f (by omega), Nat.le_trans h.s (by omega)⟩
theorem plain_mem_len (os : List Ord) : ∀ (p : List Deed) (S : PS), (p.foldl (PS.deed os) S).mem.length = S.mem.length
  | [], _ => rfl
  | d :: p, S => by
    rw [List.foldl_cons, plain_mem_len os p, PS.mem_len]
theorem im_ints {H : Hp} {t : Addr} {ns : List Int} (h : H t = some (.tup (ns.map V.int))) : Im H (pyMem ns) (.ref t) := im_tup h (ImL.ints.mpr rfl)
theorem putF_nil {f : Str} {v : V} : putF f v [] = [(f, v)] := rfl
end BC
/-! BCLc: comprehensions, shapes, isinstance, the box of draws. -/
namespace BC
open PySem PySem.Spec PyProof.Rows L2
/-! ### comprehensions -/
/-- the turns of a comprehension over what J gives -/
def LcT (J : It) (g : TG) (tt : TT) (te : TE) (own : List Nat) (σ : L2.St) (H0 : Hp) (Q : VK) : Prop :=
  ∀ D, H0 D = none → ∃ W : Nat → Nat → Hp → Prop, (∃ m, W 0 m (upd H0 D (.lst []))) ∧ ∀ i m Hi, W i m Hi →
    (J.stop i Hi ∧ Q (.ref D) Hi) ∨
    (J.go i Hi ∧ ∃ Nx : Hp → Prop, (∀ Hj, Nx Hj → ∃ k, k < m ∧ W (i + 1) k Hj) ∧ ∀ x Hj, J.yld i Hi x Hj →
      g x (wipe σ own) Hj fun σ2 H2 => wipe σ2 own = wipe σ own ∧ tt σ2 H2 fun b H3 =>
        if b = true then te σ2 H3 fun y H4 => ∃ acc, H4 D = some (.lst acc) ∧ acc.length < sizeLine ∧ Nx (upd H4 D (.lst (acc ++ [y])))
        else Nx H3)
def LcR (g : TG) (tt : TT) (te : TE) (vs : List Nat) (σ : L2.St) (us : List V) (H1 : Hp) (Q : VK) : Prop := ∃ j : Int, us = [.int j] ∧ -(2 ^ 62) ≤ j ∧ j < 2 ^ 62 ∧ LcT (Itr 0 j.toNat) g tt te vs σ H1 Q
def LcL (K : PySem.W.Frag) (g : TG) (tt : TT) (te : TE) (vs : List Nat) (σ : L2.St) (x : V) (H1 : Hp) (Q : VK) : Prop := ∃ a, x = .ref a ∧ (∃ xs, SqL K H1 a xs) ∧ LcT (Itl K a) g tt te vs σ H1 Q
def LcU (K : PySem.W.Frag) (g : TG) (tt : TT) (te : TE) (vs : List Nat) (σ : L2.St) (x : V) (H1 : Hp) (Q : VK) : Prop := ∃ a, x = .ref a ∧ (∃ xs, SqT K H1 a xs) ∧ LcT (Itt K a) g tt te vs σ H1 Q
section
variable {K : PySem.W.Frag} {σ : L2.St} {H H0 H1 : Hp} {Q : VK} {te tl : TE} {ta : TA} {g : TG} {tt : TT} {own : List Nat} {x : V} {l : Addr} {xs : List V} {ds : List PyData}
theorem st_lcR (h : ta σ H fun us H1 => LcR g tt te own σ us H1 Q) : tLc (iRng1 ta) g tt te own σ H Q := h
theorem st_lcL (h : tl σ H fun x H1 => LcL K g tt te own σ x H1 Q) : tLc (iList K tl) g tt te own σ H Q := h
theorem st_lcU (h : tl σ H fun x H1 => LcU K g tt te own σ x H1 Q) : tLc (iTup K tl) g tt te own σ H Q := h
/-- the new list at D gets y -/
def LcPut (D : Addr) (Nx : Hp → Prop) (y : V) (H4 : Hp) : Prop := ∃ acc, H4 D = some (.lst acc) ∧ acc.length < sizeLine ∧ Nx (upd H4 D (.lst (acc ++ [y])))
theorem st_lcPut {D : Addr} {Nx : Hp → Prop} {y : V} {acc : List V} (h : H D = some (.lst acc)) (hl : acc.length < 100000) (q : ∀ H5, Fr [D] H H5 → Kp H H5 → H5 D = some (.lst (acc ++ [y])) → Nx H5) : LcPut D Nx y H :=
  ⟨acc, h, sz_lt hl, q _ (Fr.mut (List.mem_singleton.mpr rfl) (Fr.refl _ _)) (Kp.mut (nt_of h trivial) (Kp.refl _)) upd_same⟩
/-- a turn of a comprehension: x is given; Nx is wanted behind it -/
abbrev LcTurn (g : TG) (tt : TT) (te : TE) (own : List Nat) (σ : L2.St) (D : Addr) (x : V) (H : Hp) (Nx : Hp → Prop) : Prop :=
  g x (wipe σ own) H fun σ2 H2 => wipe σ2 own = wipe σ own ∧ tt σ2 H2 fun b H3 => if b = true then te σ2 H3 fun y H4 => LcPut D Nx y H4 else Nx H3
theorem st_lcRange {n : Nat} (hn : n ≤ 1000000) (k : ∀ D H2, H1 D = none → Ex H1 H2 → H2 D = some (.lst []) → ∃ Pv : Nat → Hp → Prop, Pv 0 H2 ∧ (∀ (i : Nat) H, i < n → Pv i H → LcTurn g tt te own σ D (.int (i : Int)) H (Pv (i + 1))) ∧ ∀ H, Pv n H → Q (.ref D) H) :
    LcR g tt te own σ [.int (n : Int)] H1 Q := by
  refine ⟨(n : Int), rfl, by omega, by omega, fun D hD => ?_⟩
  obtain ⟨Pv, h0, hs, hd⟩ := k D _ hD (Ex.new hD) upd_same
  refine lc_range (lo := 0) (n := ((n : Int)).toNat) Pv h0 (fun i H hi p => ?_) (by simpa using hd)
  have e0 : (0 : Int) + (i : Int) = (i : Int) := Int.zero_add _
  rw [e0]
  exact hs i H (by omega) p
theorem st_lcList (h : SqL K H1 l xs) (k : ∀ D H2, H1 D = none → Ex H1 H2 → H2 D = some (.lst []) → ∃ Pv : Nat → Hp → Prop, Pv 0 H2 ∧ (∀ i H, Pv i H → SqL K H l xs) ∧ (∀ (i : Nat) v H, xs[i]? = some v → Pv i H → LcTurn g tt te own σ D v H (Pv (i + 1))) ∧ ∀ H, Pv xs.length H → Q (.ref D) H) :
    LcL K g tt te own σ (.ref l) H1 Q := by
  refine ⟨l, rfl, ⟨xs, h⟩, fun D hD => ?_⟩
  obtain ⟨Pv, h0, hk, hs, hd⟩ := k D _ hD (Ex.new hD) upd_same
  exact lc_list (K := K) (a := l) (xs := xs) Pv h0 (fun i H _ p => hk i H p) (fun i v H hv p => hs i v H hv p) hd
theorem st_lcTup (h : Im H0 (.tuple ds) x) (k0 : Kp H0 H1) (k : ∀ D H2, H1 D = none → Ex H1 H2 → H2 D = some (.lst []) → ∃ Pv : Nat → Hp → Prop, Pv 0 H2 ∧ (∀ i H, Pv i H → Kp H0 H) ∧ (∀ (i : Nat) d v H, ds[i]? = some d → Im H d v → Pv i H → LcTurn g tt te own σ D v H (Pv (i + 1))) ∧ ∀ H, Pv ds.length H → Q (.ref D) H) :
    LcU K g tt te own σ x H1 Q := by
  obtain ⟨a, xs, rfl, h1, h2⟩ := h.tup
  refine ⟨a, rfl, ⟨xs, SqT.of (k0 a xs h1)⟩, fun D hD => ?_⟩
  obtain ⟨Pv, p0, hk, hs, hd⟩ := k D _ hD (Ex.new hD) upd_same
  refine lc_tup (K := K) (a := a) (xs := xs) Pv p0 (fun i H _ p => SqT.of (hk i H p a xs h1)) (fun i v H hv p => ?_) (fun H p => hd H (h2.length ▸ p))
  obtain ⟨d, e1, e2⟩ := h2.get' hv
  exact hs i d v H e1 (e2.kp (hk i H p)) p
theorem ex_l {a : Addr} (e : Ex H H1) (h : SqL K H a xs) : SqL K H1 a xs := by
  rcases h with (h | ⟨o, h⟩) | h
  · exact Or.inl (.inl (e a _ h))
  · exact Or.inl (.inr ⟨o, e a _ h⟩)
  · exact Or.inr h
theorem st_walkLS {D : Ends} {tb : TS} (h : SqL K H l xs) (Pv : Nat → L2.St → Hp → Prop) (h0 : Pv 0 σ H) (hk : ∀ m σ' H', Pv m σ' H' → SqL K H' l xs)
    (hs : ∀ m v σ' H', xs[m]? = some v → Pv m σ' H' → g v σ' H' fun σ2 H2 => tb { D with nx := Pv (m + 1), ct := Pv (m + 1), bk := D.nx } σ2 H2) (hd : ∀ σ' H', Pv xs.length σ' H' → D.nx σ' H') : WalkL K g tb D σ (.ref l) H :=
  ⟨l, rfl, ⟨xs, h⟩, for_list (K := K) (a := l) (xs := xs) Pv h0 (fun m σ' H' _ p => hk m σ' H' p) hs hd⟩
theorem st_listS (h : SqL K H l xs) (q : ∀ a H2, H a = none → Ex H H2 → H2 a = some (.lst xs) → Q (.ref a) H2) : rListOf K [.ref l] H Q := ⟨l, xs, rfl, .inl h, fun a ha => q a _ ha (Ex.new ha) upd_same⟩
theorem st_lenS (h : SqL K H l xs) (q : Q (.int xs.length) H) : rLenS K [.ref l] H Q := ⟨l, xs, rfl, .inl h, q⟩
theorem st_fdivW {i j : Int} {f : Int → Int → V} (c : 0 < j ∧ j.natAbs.log2 < 9000) (h : Q (f i j) H) : rI CDivW f (.int i) (.int j) H Q := ⟨i, j, rfl, rfl, c, h⟩
theorem st_popAt0 {x : V} {r : List V} (h : H l = some (.lst (x :: r))) (q : ∀ H2, Fr [l] H H2 → Kp H H2 → H2 l = some (.lst r) → Q x H2) : rPopAt (.ref l) [.int 0] H Q := by
  refine ⟨l, x :: r, 0, 0, x, rfl, rfl, h, by decide, by decide, ?_, rfl, ?_⟩
  · rw [seqIndex_of (by omega) (by simp only [List.length_cons]; omega)]
    rfl
  · exact q _ (Fr.mut (List.mem_singleton.mpr rfl) (Fr.refl _ _)) (Kp.mut (nt_of h trivial) (Kp.refl _)) upd_same
end
section
variable {H : Hp} {Q : VK} {l : Addr} {xs : List V}
theorem st_clear (h : H l = some (.lst xs)) (q : ∀ H2, Fr [l] H H2 → Kp H H2 → H2 l = some (.lst []) → Q .non H2) : rClear (.ref l) [] H Q :=
  ⟨l, xs, rfl, rfl, h, q _ (Fr.mut (List.mem_singleton.mpr rfl) (Fr.refl _ _)) (Kp.mut (nt_of h trivial) (Kp.refl _)) upd_same⟩
end
theorem ix01 {b : Bool} {x y : V} : atI [x, y] (if b = true then 1 else 0) = some (if b = true then y else x) := by
  cases b with
  | true => exact atI_nat (j := 1) rfl
  | false => exact atI_nat (j := 0) rfl
/-! ### shapes -/
def Sh (n : Nat) (d : PyData) : Prop := d.canLay0 = true ∧ d.depth ≤ n
theorem Sh.shaped {n : Nat} {d : PyData} (h : Sh n d) (hn : n ≤ 64 := by decide) : SeqAt.shaped d = true := by
  unfold SeqAt.shaped
  rw [h.1, Bool.true_and, decide_eq_true_eq]
  exact Nat.le_trans h.2 hn
theorem sh_int {n : Nat} {i : Int} : Sh n (.int i) := ⟨rfl, Nat.zero_le _⟩
theorem sh_none {n : Nat} : Sh n .none := ⟨rfl, Nat.zero_le _⟩
theorem sh_bool {n : Nat} {b : Bool} : Sh n (.bool b) := ⟨rfl, Nat.zero_le _⟩
theorem sh_str {n : Nat} {s : Str} (h : PyData.strOk s = true) : Sh n (.str s) := ⟨h, Nat.zero_le _⟩
theorem sh_all {n : Nat} : ∀ {ds : List PyData}, (∀ d ∈ ds, Sh n d) → PyData.canLayAll0 ds = true ∧ PyData.depthAll ds ≤ n
  | [], _ => ⟨rfl, Nat.zero_le _⟩
  | d :: ds, h => by
    obtain ⟨h1, h2⟩ := h d List.mem_cons_self
    obtain ⟨h3, h4⟩ := sh_all (ds := ds) fun e he => h e (List.mem_cons_of_mem _ he)
    refine ⟨?_, ?_⟩
    · show (d.canLay0 && PyData.canLayAll0 ds) = true
      rw [h1, h3]
      rfl
    · show max d.depth (PyData.depthAll ds) ≤ n
      exact Nat.max_le.mpr ⟨h2, h4⟩
theorem sh_tup {n : Nat} {ds : List PyData} (h : ∀ d ∈ ds, Sh n d) : Sh (n + 1) (.tuple ds) := by
  obtain ⟨h1, h2⟩ := sh_all h
  exact ⟨h1, Nat.succ_le_succ h2⟩
theorem sh_lst {n : Nat} {ds : List PyData} (h : ∀ d ∈ ds, Sh n d) : Sh (n + 1) (.list ds) := by
  obtain ⟨h1, h2⟩ := sh_all h
  exact ⟨h1, Nat.succ_le_succ h2⟩
theorem sh_opt {n : Nat} {o : Option Int} : Sh n (pyOpt o) := by
  cases o with
  | none => exact sh_none
  | some i => exact sh_int
theorem sh_ints {n : Nat} {ns : List Int} : ∀ d ∈ ns.map PyData.int, Sh n d := fun d hd => by
  obtain ⟨i, _, rfl⟩ := List.mem_map.mp hd
  exact sh_int
/-- equal data -/
theorem eqv_same {n : Nat} {d : PyData} (h : Sh n d) : PyData.eqv d d = true := SeqAt.eqv_refl d h.1
/-! ### isinstance, items of any data -/
def tyN : PyData → String
  | .none => "NoneType"
  | .bool _ => "bool"
  | .int _ => "int"
  | .str _ => "str"
  | .list _ => "list"
  | .tuple _ => "tuple"
  | .dict _ => "dict"
section
variable {K : PySem.W.Frag} {H : Hp} {Q : VK} {v x : V} {d e : PyData} {ds : List PyData} {i : Int}
theorem Dp.ty (h : Dp K H v d) : TyX K H v (.type (tyN d)) := by
  cases h with
  | non => exact .base .non
  | bl b => exact .base (.bl b)
  | int i => exact .base (.int i)
  | str s => exact .base (.str s)
  | lst h _ =>
    rcases h with (h | ⟨o, h⟩) | ⟨o, its, n, h1, h2, _⟩
    · exact .base (.lst h)
    · exact .base (.frz h)
    · exact .kList h1 h2
  | tup h _ =>
    rcases h with (h | ⟨o, h⟩) | ⟨o, its, n, h1, h2, _⟩
    · exact .base (.tup h)
    · exact .fTuple h
    · exact .kTuple h1 h2
theorem st_isi {T : String} {b : Bool} (h : Dp K H x d) (e : kitB (tyN d) T = some b) (q : Q (.bl b) H) : rIsi K [x, .ty T] H Q := ⟨x, _, _, _, b, rfl, .ty T, Dp.ty h, kit_ty e, q⟩
theorem DpAll.length : ∀ {vs : List V} {ds : List PyData}, DpAll K H vs ds → vs.length = ds.length
  | _, _, .nil => rfl
  | _, _, .cons _ r => by rw [List.length_cons, List.length_cons, DpAll.length r]
theorem DpAll.get : ∀ {vs : List V} {ds : List PyData} {i : Nat} {d : PyData}, DpAll K H vs ds → ds[i]? = some d → ∃ v, vs[i]? = some v ∧ Dp K H v d
  | _, _, _, _, .nil, e => by simp at e
  | _, _, 0, _, .cons h _, e => by
    simp at e
    subst e
    exact ⟨_, by simp, h⟩
  | _, _, i + 1, _, .cons _ r, e => by
    obtain ⟨v, g1, g2⟩ := DpAll.get (i := i) r (by simpa using e)
    exact ⟨v, by simpa using g1, g2⟩
theorem Dp.lst_inv (h : Dp K H v (.list ds)) : ∃ a xs, v = .ref a ∧ SqL K H a xs ∧ DpAll K H xs ds := by
  cases h with
  | lst h1 h2 => exact ⟨_, _, rfl, h1, h2⟩
theorem Dp.tup_inv (h : Dp K H v (.tuple ds)) : ∃ a xs, v = .ref a ∧ SqT K H a xs ∧ DpAll K H xs ds := by
  cases h with
  | tup h1 h2 => exact ⟨_, _, rfl, h1, h2⟩
/-- a list or a tuple -/
def Seqs (d : PyData) (ds : List PyData) : Prop := d = .list ds ∨ d = .tuple ds
theorem st_ixD {j : Nat} (h : Dp K H x d) (s : Seqs d ds) (g : ds[j]? = some e) (q : ∀ v, Dp K H v e → Q v H) : rIx K x (.int (j : Int)) H Q := by
  rcases s with rfl | rfl
  · obtain ⟨a, xs, rfl, h1, h2⟩ := Dp.lst_inv h
    obtain ⟨v, g1, g2⟩ := DpAll.get h2 g
    exact .inl ⟨a, xs, j, v, rfl, rfl, h1, atI_nat g1, q v g2⟩
  · obtain ⟨a, xs, rfl, h1, h2⟩ := Dp.tup_inv h
    obtain ⟨v, g1, g2⟩ := DpAll.get h2 g
    exact .inr (.inl ⟨a, xs, j, v, rfl, rfl, h1, atI_nat g1, q v g2⟩)
theorem st_lenD (h : Dp K H x d) (s : Seqs d ds) (q : Q (.int (ds.length : Int)) H) : rLenS K [x] H Q := by
  rcases s with rfl | rfl
  · obtain ⟨a, xs, rfl, h1, h2⟩ := Dp.lst_inv h
    exact ⟨a, xs, rfl, .inl h1, by rw [DpAll.length h2]; exact q⟩
  · obtain ⟨a, xs, rfl, h1, h2⟩ := Dp.tup_inv h
    exact ⟨a, xs, rfl, .inr h1, by rw [DpAll.length h2]; exact q⟩
end
theorem kb_NoneType_bool : kitB "NoneType" "bool" = some false := by decide +kernel
theorem kb_NoneType_int : kitB "NoneType" "int" = some false := by decide +kernel
theorem kb_NoneType_str : kitB "NoneType" "str" = some false := by decide +kernel
theorem kb_NoneType_tuple : kitB "NoneType" "tuple" = some false := by decide +kernel
theorem kb_NoneType_list : kitB "NoneType" "list" = some false := by decide +kernel
theorem kb_bool_bool : kitB "bool" "bool" = some true := by decide +kernel
theorem kb_bool_int : kitB "bool" "int" = some true := by decide +kernel
theorem kb_bool_str : kitB "bool" "str" = some false := by decide +kernel
theorem kb_bool_tuple : kitB "bool" "tuple" = some false := by decide +kernel
theorem kb_bool_list : kitB "bool" "list" = some false := by decide +kernel
theorem kb_int_bool : kitB "int" "bool" = some false := by decide +kernel
theorem kb_int_int : kitB "int" "int" = some true := by decide +kernel
theorem kb_int_str : kitB "int" "str" = some false := by decide +kernel
theorem kb_int_tuple : kitB "int" "tuple" = some false := by decide +kernel
theorem kb_int_list : kitB "int" "list" = some false := by decide +kernel
theorem kb_str_bool : kitB "str" "bool" = some false := by decide +kernel
theorem kb_str_int : kitB "str" "int" = some false := by decide +kernel
theorem kb_str_str : kitB "str" "str" = some true := by decide +kernel
theorem kb_str_tuple : kitB "str" "tuple" = some false := by decide +kernel
theorem kb_str_list : kitB "str" "list" = some false := by decide +kernel
theorem kb_list_bool : kitB "list" "bool" = some false := by decide +kernel
theorem kb_list_int : kitB "list" "int" = some false := by decide +kernel
theorem kb_list_str : kitB "list" "str" = some false := by decide +kernel
theorem kb_list_tuple : kitB "list" "tuple" = some false := by decide +kernel
theorem kb_list_list : kitB "list" "list" = some true := by decide +kernel
theorem kb_tuple_bool : kitB "tuple" "bool" = some false := by decide +kernel
theorem kb_tuple_int : kitB "tuple" "int" = some false := by decide +kernel
theorem kb_tuple_str : kitB "tuple" "str" = some false := by decide +kernel
theorem kb_tuple_tuple : kitB "tuple" "tuple" = some true := by decide +kernel
theorem kb_tuple_list : kitB "tuple" "list" = some false := by decide +kernel
/-- what _law_alike goes through: lists and tuples of this depth -/
def Al : Nat → PyData → Prop
  | 0, d => d = .none ∨ (∃ b, d = .bool b) ∨ (∃ i, d = .int i) ∨ ∃ s, d = .str s ∧ PyData.strOk s = true
  | n + 1, d => (d = .none ∨ (∃ b, d = .bool b) ∨ (∃ i, d = .int i) ∨ ∃ s, d = .str s ∧ PyData.strOk s = true) ∨ ∃ ds, Seqs d ds ∧ ds.length ≤ 1000000 ∧ ∀ e ∈ ds, Al n e
theorem al_int {n : Nat} {i : Int} : Al n (.int i) := by cases n <;> simp [Al]
theorem al_none {n : Nat} : Al n .none := by cases n <;> simp [Al]
theorem al_bool {n : Nat} {b : Bool} : Al n (.bool b) := by cases n <;> simp [Al]
theorem al_str {n : Nat} {s : Str} (h : PyData.strOk s = true) : Al n (.str s) := by cases n <;> simp [Al, h]
theorem al_tup {n : Nat} {ds : List PyData} (hl : ds.length ≤ 1000000) (h : ∀ e ∈ ds, Al n e) : Al (n + 1) (.tuple ds) := .inr ⟨ds, .inr rfl, hl, h⟩
theorem al_lst {n : Nat} {ds : List PyData} (hl : ds.length ≤ 1000000) (h : ∀ e ∈ ds, Al n e) : Al (n + 1) (.list ds) := .inr ⟨ds, .inl rfl, hl, h⟩
theorem al_opt {n : Nat} {o : Option Int} : Al n (pyOpt o) := by
  cases o with
  | none => exact al_none
  | some i => exact al_int
theorem al_ints {n : Nat} {ns : List Int} : ∀ d ∈ ns.map PyData.int, Al n d := fun d hd => by
  obtain ⟨i, _, rfl⟩ := List.mem_map.mp hd
  exact al_int
theorem al_mono : ∀ {n m : Nat} {d : PyData}, n ≤ m → Al n d → Al m d
  | 0, 0, _, _, h => h
  | 0, m + 1, _, _, h => .inl h
  | n + 1, 0, _, hn, _ => absurd hn (by omega)
  | n + 1, m + 1, _, hn, h => by
    rcases h with h | ⟨ds, h1, h2, h3⟩
    · exact .inl h
    · exact .inr ⟨ds, h1, h2, fun e he => al_mono (by omega) (h3 e he)⟩
/-! ### the box of draws -/
/-- the box: its list of numbers stands at l -/
structure BoxAt (H : Hp) (b l : Addr) : Prop where
  box : ∃ st : Int, H b = some (.lst [.ref l, .int st]) ∧ 0 ≤ st ∧ st < 2147483647
  nums : ∃ ns : List Int, H l = some (.lst (ns.map V.int))
theorem BoxAt.ne {H : Hp} {b l : Addr} (h : BoxAt H b l) : b ≠ l := by
  obtain ⟨st, h1, _⟩ := h.box
  obtain ⟨ns, h2⟩ := h.nums
  refine ne_of h1 h2 fun z => ?_
  injection z with z
  cases ns with
  | nil => cases z
  | cons n ns => cases z
theorem BoxAt.keep {H H' : Hp} {b l : Addr} {F : List Addr} (h : BoxAt H b l) (f : Fr F H H') (h1 : b ∉ F) (h2 : l ∉ F) : BoxAt H' b l := by
  obtain ⟨st, a, r⟩ := h.box
  obtain ⟨ns, c⟩ := h.nums
  exact ⟨⟨st, f b _ a h1, r⟩, ⟨ns, f l _ c h2⟩⟩
theorem BoxAt.ex {H H' : Hp} {b l : Addr} (h : BoxAt H b l) (e : Ex H H') : BoxAt H' b l := h.keep (F := []) e.fr (by simp) (by simp)
/-- what a draw changes -/
def Dr (b l : Addr) (H H' : Hp) : Prop := Fr [b, l] H H' ∧ Kp H H' ∧ BoxAt H' b l
theorem Dr.trans {b l : Addr} {H H1 H2 : Hp} (a : Dr b l H H1) (c : Dr b l H1 H2) : Dr b l H H2 := ⟨a.1.trans c.1, a.2.1.trans c.2.1, c.2.2⟩
theorem Dr.ex {b l : Addr} {H H1 H2 : Hp} (a : Dr b l H H1) (e : Ex H1 H2) : Dr b l H H2 := ⟨a.1.trans e.fr, a.2.1.trans e.kp, a.2.2.ex e⟩
theorem Dr.put {b l D : Addr} {H H1 H2 : Hp} (h0 : BoxAt H b l) (a : Dr b l H H1) (nD : H D = none) (f : Fr [D] H1 H2) (k : Kp H1 H2) : Dr b l H H2 := by
  have hb : b ≠ D := fun z => by
    obtain ⟨st, h, _⟩ := h0.box
    rw [z, nD] at h
    cases h
  have hl : l ≠ D := fun z => by
    obtain ⟨ns, h⟩ := h0.nums
    rw [z, nD] at h
    cases h
  refine ⟨fun c o hc n => ?_, a.2.1.trans k, a.2.2.keep f (by simpa using hb) (by simpa using hl)⟩
  have : c ≠ D := fun z => by
    rw [z, nD] at hc
    cases hc
  exact f c o (a.1 c o hc n) (by simpa using this)
theorem Dr.start {b l : Addr} {H : Hp} (h : BoxAt H b l) : Dr b l H H := ⟨Fr.refl _ _, Kp.refl _, h⟩
end BC
/-! BCMS: the machine as plain data: what each of its methods does, and the law's own the same. -/
namespace BC
open PySem PySem.Spec PyProof.Rows L2
abbrev Row := Nat × Str × Nat × Int
abbrev pyRow (r : Row) : PyData := .tuple [.int (r.1 : Int), .str r.2.1, .int (r.2.2.1 : Int), .int r.2.2.2]
abbrev HE := Nat × List Int × Bool
def hget : List HE → Nat → Option (List Int × Bool)
  | [], _ => none
  | e :: r, l => if e.1 = l then some e.2 else hget r l
def hset (es : List HE) (l : Nat) (v : List Int × Bool) : List HE := es.map fun e => if e.1 = l then (l, v) else e
def hdel (es : List HE) (l : Nat) : List HE := es.filter fun e => decide (e.1 ≠ l)
structure MS where
  mem : List Int
  held : List HE
  left : List Mv
  at_ : Nat
  beats : Nat
  rows : List Row
  idle : Bool
  nr : Nat
  nf : Nat
namespace MS
def note (M : MS) (w : Str) (p : Nat) (n : Int) : MS := { M with rows := M.rows ++ [(M.beats, w, p, n)] }
def take (M : MS) (l : Nat) : MS := match hget M.held l with
  | some _ => M
  | none => ({ M with held := M.held ++ [(l, (M.mem.drop (4 * l)).take 4, false)] } : MS).note "take" l 0
def cells (M : MS) (l : Nat) : List Int := match hget M.held l with
  | some (c, _) => c
  | none => []
def val (M : MS) (c : Nat) : Int := ((M.take (c / 4)).cells (c / 4)).getD (c % 4) 0
def read (M : MS) (c : Nat) : MS := (M.take (c / 4)).note "read" c (M.val c)
def put (M : MS) (l : Nat) (v : List Int × Bool) : MS := { M with held := hset M.held l v }
def write (M : MS) (c : Nat) (n : Int) : MS := ((M.take (c / 4)).put (c / 4) (((M.take (c / 4)).cells (c / 4)).set (c % 4) n, true)).note "write" c n
def clean (M : MS) (l : Nat) : MS := match hget M.held l with
  | some (cs, true) => ({ M with mem := M.mem.take (4 * l) ++ cs ++ M.mem.drop (4 * l + 4), held := hset M.held l (cs, false) } : MS).note "clean" l 0
  | _ => M
def drop (M : MS) (l : Nat) : MS := match hget M.held l with
  | some _ => ({ M with held := hdel M.held l } : MS).note "drop" l 0
  | none => M
def isIdle (prog : List Deed) (M : MS) : Bool := decide (prog.length ≤ M.at_) || (decide (prog[M.at_]? = some .wait) && !M.left.isEmpty)
def deed (os : List Ord) (M : MS) : Deed → MS
  | .set c n => M.write c (n : Int)
  | .add c o => ((M.read c).read o).write c ((M.val c + (M.read c).val o) % 10)
  | .say c => (M.read c).note "say" c (M.val c)
  | .start k => ({ M with left := M.left ++ movesOf os k } : MS).note "start" k 0
  | .wait => M
  | .clean l => M.clean l
  | .drop l => M.drop l
def process (b : Bd) (M : MS) : MS := if M.isIdle b.prog = true then { M with idle := true } else match b.prog[M.at_]? with
  | some d => ({ M with idle := false, at_ := M.at_ + 1 } : MS).deed b.ords d
  | none => M
def bell (M : MS) : Option Nat → MS
  | none => M
  | some k => M.note "bell" k 0
def carry (M : MS) : MS := match M.left with
  | [] => M
  | m :: r => (({ (({ M with left := r } : MS).note "fetch" m.src (M.mem.getD m.src 0)) with mem := M.mem.set m.dst (M.mem.getD m.src 0) } : MS).note "put" m.dst (M.mem.getD m.src 0)).bell m.bell
def mayRest (M : MS) : Bool := !M.left.isEmpty && !M.idle
def over (b : Bd) (M : MS) : Bool := decide (b.prog.length ≤ M.at_) && M.left.isEmpty
def finish (M : MS) : MS := (List.range 4).foldl MS.clean M
def init (b : Bd) : MS := ⟨b.mem, [], [], 0, 0, [], false, 0, 0⟩
/-- whether it moves, and the pace that is left -/
def pick (M : MS) (pace : List Bool) : Bool × List Bool := if M.mayRest = true then (match pace with | [] => (true, []) | x :: r => (x, r)) else (true, pace)
def moved (M : MS) (mv : Bool) : MS := if mv = true then M.carry else M
def tick (M : MS) : MS := { M with beats := M.beats + 1 }
def beat (b : Bd) (M : MS) (pace : List Bool) : MS := ((M.process b).moved ((M.process b).pick pace).1).tick
def run (b : Bd) : Nat → MS → List Bool → MS
  | 0, M, _ => M
  | n + 1, M, pace => if M.over b = true then M else run b n (M.beat b pace) ((M.process b).pick pace).2
def fuel (b : Bd) (M : MS) : Nat := (b.prog.length - M.at_) * 33 + M.left.length
end MS
def goneOf (b : Bd) (pace : List Bool) : MS := (MS.run b 1980 (MS.init b) pace).finish

theorem nodup_bound : ∀ (n : Nat) (xs : List Nat), xs.Nodup → (∀ x ∈ xs, x < n) → xs.length ≤ n
  | 0, xs, _, h => by
    cases xs with
    | nil => exact Nat.le_refl _
    | cons x r => exact absurd (h x List.mem_cons_self) (Nat.not_lt_zero _)
  | n + 1, xs, nd, h => by
    by_cases hn : n ∈ xs
    · have h1 := nodup_bound n (xs.erase n) (nd.erase n) fun x hx => by
        have h2 := (nd.mem_erase_iff).mp hx
        have h3 := h x h2.2
        have h4 := h2.1
        omega
      rw [List.length_erase_of_mem hn] at h1
      omega
    · have h1 := nodup_bound n xs nd fun x hx => by
        have h3 := h x hx
        have h4 : x ≠ n := fun z => hn (z ▸ hx)
        omega
      omega
theorem splice_set {m cs : List Int} {a i : Nat} (h : a + cs.length ≤ m.length) (hi : i < cs.length) : (m.take a ++ cs.take i ++ m.drop (a + i)).set (a + i) (cs.getD i 0) = m.take a ++ cs.take (i + 1) ++ m.drop (a + (i + 1)) := by
  have l : (m.take a ++ cs.take i).length = a + i := by
    rw [List.length_append, List.length_take, List.length_take]
    omega
  have hm : a + i < m.length := by omega
  rw [List.set_append_right _ _ (Nat.le_of_eq l), l, Nat.sub_self, List.drop_eq_getElem_cons hm, List.set_cons_zero, List.take_add_one, List.getElem?_eq_getElem hi, List.getD_eq_getElem?_getD, List.getElem?_eq_getElem hi]
  show m.take a ++ cs.take i ++ cs[i] :: m.drop (a + i + 1) = m.take a ++ (cs.take i ++ [cs[i]]) ++ m.drop (a + i + 1)
  rw [List.append_assoc, List.append_assoc, List.append_assoc]
  rfl
/-! ### laws of the held lines -/
theorem hget_append {es : List HE} {l k : Nat} {v : List Int × Bool} (h : hget es l = none) : hget (es ++ [(l, v)]) k = if k = l then some v else hget es k := by
  induction es with
  | nil =>
    show (if l = k then some v else none) = _
    by_cases e : k = l
    · rw [if_pos e, if_pos e.symm]
    · rw [if_neg e, if_neg (fun z => e z.symm)]
      rfl
  | cons e r ih =>
    show (if e.1 = k then some e.2 else hget (r ++ [(l, v)]) k) = _
    have h' : (if e.1 = l then some e.2 else hget r l) = none := h
    by_cases e1 : e.1 = l
    · rw [if_pos e1] at h'
      cases h'
    · rw [if_neg e1] at h'
      rw [ih h']
      by_cases e2 : e.1 = k
      · rw [if_pos e2, if_neg (fun z => e1 (e2.trans z))]
        show _ = if e.1 = k then some e.2 else hget r k
        rw [if_pos e2]
      · rw [if_neg e2]
        show _ = if k = l then some v else if e.1 = k then some e.2 else hget r k
        rw [if_neg e2]
theorem hget_set {es : List HE} {l k : Nat} {v : List Int × Bool} : hget (hset es l v) k = if k = l then (hget es l).map fun _ => v else hget es k := by
  induction es with
  | nil => simp [hset, hget]
  | cons e r ih =>
    have ih' : hget (r.map fun e => if e.1 = l then (l, v) else e) k = if k = l then (hget r l).map fun _ => v else hget r k := ih
    show hget ((if e.1 = l then (l, v) else e) :: r.map fun e => if e.1 = l then (l, v) else e) k = _
    by_cases e1 : e.1 = l
    · rw [if_pos e1]
      show (if l = k then some v else _) = _
      by_cases e2 : k = l
      · rw [if_pos e2.symm, if_pos e2]
        simp [hget, e1]
      · rw [if_neg (fun z => e2 z.symm), if_neg e2, ih', if_neg e2]
        simp [hget, e1, Ne.symm e2]
    · rw [if_neg e1]
      show (if e.1 = k then some e.2 else _) = _
      rw [ih']
      by_cases e2 : k = l
      · rw [if_neg (fun z => e1 (z.trans e2)), if_pos e2, if_pos e2]
        simp [hget, e1]
      · rw [if_neg e2, if_neg e2]
        rfl
theorem hset_hset {es : List HE} {l : Nat} {v u : List Int × Bool} : hset (hset es l v) l u = hset es l u := by
  unfold hset
  rw [List.map_map]
  apply List.map_congr_left
  intro e _
  simp only [Function.comp]
  by_cases h : e.1 = l
  · rw [if_pos h, if_pos h]
    exact if_pos rfl
  · rw [if_neg h, if_neg h]
theorem hget_same {es : List HE} {l : Nat} {v u : List Int × Bool} (h : hget es l = some u) : hget (hset es l v) l = some v := by
  rw [hget_set, if_pos rfl, h]
  rfl
theorem hset_keys (es : List HE) (l : Nat) (v : List Int × Bool) : (hset es l v).map (·.1) = es.map (·.1) := by
  simp only [hset, List.map_map]
  apply List.map_congr_left
  intro e _
  simp only [Function.comp]
  split
  · rename_i h
    exact h.symm
  · rfl
theorem hget_mem {es : List HE} {l : Nat} : (hget es l).isSome = true ↔ l ∈ es.map (·.1) := by
  induction es with
  | nil => simp [hget]
  | cons e r ih =>
    show (if e.1 = l then some e.2 else hget r l).isSome = true ↔ _
    by_cases e1 : e.1 = l
    · simp [e1]
    · rw [if_neg e1, ih]
      simp only [List.map_cons, List.mem_cons]
      constructor
      · exact .inr
      · rintro (z | z)
        · exact absurd z.symm e1
        · exact z
/-- what holds of a machine all the while -/
structure MS.Ok (cells : Nat) (M : MS) : Prop where
  len : M.mem.length = cells
  nd : (M.held.map (·.1)).Nodup
  lines : ∀ e ∈ M.held, e.1 < cells / 4 ∧ e.2.1.length = 4
  left : ∀ m ∈ M.left, m.src < cells ∧ m.dst < cells
theorem hget_in {es : List HE} {l : Nat} {v : List Int × Bool} (h : hget es l = some v) : (l, v) ∈ es := by
  induction es with
  | nil => cases h
  | cons e r ih =>
    have h' : (if e.1 = l then some e.2 else hget r l) = some v := h
    by_cases e1 : e.1 = l
    · rw [if_pos e1] at h'
      cases h'
      rw [← e1]
      exact List.mem_cons_self
    · rw [if_neg e1] at h'
      exact List.mem_cons_of_mem _ (ih h')
theorem MS.Ok.cells4 {n : Nat} {M : MS} (h : M.Ok n) {l : Nat} {c : List Int} {t : Bool} (e : hget M.held l = some (c, t)) : c.length = 4 ∧ l < n / 4 := by
  have := h.lines _ (hget_in e)
  exact ⟨this.2, this.1⟩
theorem MS.Ok.heldLen {n : Nat} {M : MS} (h : M.Ok n) : M.held.length ≤ n / 4 := by
  have h1 := nodup_bound (n / 4) _ h.nd fun l hl => by
    obtain ⟨e, he, rfl⟩ := List.mem_map.mp hl
    exact (h.lines e he).1
  rwa [List.length_map] at h1
section
variable {n : Nat} {M : MS}
theorem MS.Ok.note (h : M.Ok n) (w : Str) (p : Nat) (k : Int) : (M.note w p k).Ok n := ⟨h.len, h.nd, h.lines, h.left⟩
theorem MS.Ok.take (h : M.Ok n) (h4 : n % 4 = 0) {l : Nat} (hl : l < n / 4) : (M.take l).Ok n := by
  unfold MS.take
  cases e : hget M.held l with
  | some v => exact h
  | none =>
    refine MS.Ok.note (M := { M with held := M.held ++ [(l, (M.mem.drop (4 * l)).take 4, false)] }) ⟨h.len, ?_, ?_, h.left⟩ _ _ _
    · simp only [List.map_append, List.map_cons, List.map_nil]
      rw [List.nodup_append]
      refine ⟨h.nd, by simp, ?_⟩
      intro a ha b hb
      simp only [List.mem_cons, List.not_mem_nil, or_false] at hb
      subst hb
      rintro rfl
      have := hget_mem.mpr ha
      rw [e] at this
      cases this
    · intro e' he'
      rcases List.mem_append.mp he' with he' | he'
      · exact h.lines e' he'
      · simp only [List.mem_cons, List.not_mem_nil, or_false] at he'
        subst he'
        refine ⟨hl, ?_⟩
        simp only [List.length_take, List.length_drop, h.len]
        omega
theorem MS.take_some (M : MS) (l : Nat) : ∃ v, hget (M.take l).held l = some v := by
  unfold MS.take
  cases e : hget M.held l with
  | some v => exact ⟨v, e⟩
  | none => exact ⟨_, (hget_append e).trans (if_pos rfl)⟩
theorem MS.Ok.put (h : M.Ok n) (l : Nat) (v : List Int × Bool) (hv : v.1.length = 4) : (M.put l v).Ok n := by
  refine ⟨h.len, ?_, ?_, h.left⟩
  · show ((hset M.held l v).map (·.1)).Nodup
    rw [hset_keys]
    exact h.nd
  · intro e he
    obtain ⟨e0, h0, rfl⟩ := List.mem_map.mp he
    have := h.lines e0 h0
    split
    · rename_i hh
      rw [← hh]
      exact ⟨this.1, hv⟩
    · exact this
theorem MS.Ok.cellsLen (h : M.Ok n) {l : Nat} {v : List Int × Bool} (e : hget M.held l = some v) : (M.cells l).length = 4 := by
  unfold MS.cells
  obtain ⟨c, t⟩ := v
  rw [e]
  exact (h.cells4 e).1
theorem MS.Ok.read (h : M.Ok n) (h4 : n % 4 = 0) {c : Nat} (hc : c < n) : (M.read c).Ok n := (h.take h4 (by omega)).note _ _ _
theorem MS.Ok.write (h : M.Ok n) (h4 : n % 4 = 0) {c : Nat} (hc : c < n) (k : Int) : (M.write c k).Ok n := by
  have h1 := h.take h4 (l := c / 4) (by omega)
  refine MS.Ok.note (h1.put _ _ ?_) _ _ _
  obtain ⟨v, e⟩ := MS.take_some M (c / 4)
  rw [List.length_set]
  exact h1.cellsLen e
theorem MS.Ok.clean (h : M.Ok n) (l : Nat) : (M.clean l).Ok n := by
  unfold MS.clean
  split
  · rename_i cs e
    obtain ⟨h1, h2⟩ := h.cells4 e
    refine MS.Ok.note (M := { M with mem := M.mem.take (4 * l) ++ cs ++ M.mem.drop (4 * l + 4), held := hset M.held l (cs, false) }) ⟨?_, ?_, ?_, h.left⟩ _ _ _
    · simp only [List.length_append, List.length_take, List.length_drop, h.len, h1]
      omega
    · show ((hset M.held l (cs, false)).map (·.1)).Nodup
      rw [hset_keys]
      exact h.nd
    · intro e he
      obtain ⟨e0, h0, rfl⟩ := List.mem_map.mp he
      have := h.lines e0 h0
      split
      · rename_i hh
        rw [← hh]
        exact ⟨this.1, h1⟩
      · exact this
  · exact h
theorem MS.Ok.drop (h : M.Ok n) (l : Nat) : (M.drop l).Ok n := by
  unfold MS.drop
  split
  · refine MS.Ok.note (M := { M with held := hdel M.held l }) ⟨h.len, ?_, ?_, h.left⟩ _ _ _
    · exact (List.Sublist.map _ List.filter_sublist).nodup h.nd
    · exact fun e he => h.lines e ((List.mem_filter.mp he).1)
  · exact h
theorem MS.Ok.left' (h : M.Ok n) {r : List Mv} (hr : ∀ m ∈ r, m.src < n ∧ m.dst < n) : ({ M with left := r } : MS).Ok n := ⟨h.len, h.nd, h.lines, hr⟩
theorem MS.Ok.deed {os : List Ord} (h : M.Ok n) (h4 : n % 4 = 0) (g : OrdsOk n os) {d : Deed} (hd : d.Ok n os.length) : (M.deed os d).Ok n := by
  cases d with
  | set c k => exact h.write h4 hd.1 _
  | add c o => exact ((h.read h4 hd.1).read h4 hd.2).write h4 hd.1 _
  | say c => exact (h.read h4 hd).note _ _ _
  | start k =>
    refine MS.Ok.note (h.left' ?_) _ _ _
    intro m hm
    rcases List.mem_append.mp hm with hm | hm
    · exact h.left m hm
    · exact moves_in g _ _ m hm
  | wait => exact h
  | clean l => exact h.clean l
  | drop l => exact h.drop l
theorem MS.Ok.process {b : Bd} (h : M.Ok b.mem.length) (g : Good b) : (M.process b).Ok b.mem.length := by
  unfold MS.process
  split
  · exact ⟨h.len, h.nd, h.lines, h.left⟩
  · split
    · rename_i d e
      exact MS.Ok.deed (M := { M with idle := false, at_ := M.at_ + 1 }) ⟨h.len, h.nd, h.lines, h.left⟩ g.four g.ordsOk (g.deeds d (List.mem_of_getElem? e))
    · exact h
theorem MS.Ok.bell (h : M.Ok n) (o : Option Nat) : (M.bell o).Ok n := by
  cases o with
  | none => exact h
  | some k => exact h.note _ _ _
theorem MS.Ok.carry (h : M.Ok n) : M.carry.Ok n := by
  unfold MS.carry
  split
  · exact h
  · rename_i m r e
    have hl : ∀ m' ∈ r, m'.src < n ∧ m'.dst < n := fun m' hm' => h.left m' (e ▸ List.mem_cons_of_mem _ hm')
    refine MS.Ok.bell (MS.Ok.note (M := { (({ M with left := r } : MS).note "fetch" m.src (M.mem.getD m.src 0)) with mem := M.mem.set m.dst (M.mem.getD m.src 0) }) ⟨?_, h.nd, h.lines, hl⟩ _ _ _) _
    show (M.mem.set m.dst (M.mem.getD m.src 0)).length = n
    rw [List.length_set]
    exact h.len
theorem MS.Ok.beat {b : Bd} (h : M.Ok b.mem.length) (g : Good b) (pace : List Bool) : (M.beat b pace).Ok b.mem.length := by
  have h1 := h.process g
  have h2 : ((M.process b).moved ((M.process b).pick pace).1).Ok b.mem.length := by
    unfold MS.moved
    split
    · exact h1.carry
    · exact h1
  exact ⟨h2.len, h2.nd, h2.lines, h2.left⟩
theorem MS.Ok.init {b : Bd} : (MS.init b).Ok b.mem.length := ⟨rfl, by simp [MS.init], by simp [MS.init], by simp [MS.init]⟩
end
end BC
/-! BCMach: a machine as an object. -/
namespace BC
open PySem PySem.Spec PyProof.Rows L2
def machF (ml : Addr) (vo vp : V) (hd ll : Addr) (at_ beats : Nat) (rl : Addr) (idle : Bool) (nr nf : Nat) : List (Str × V) :=
  [("memory", .ref ml), ("orders", vo), ("program", vp), ("held", .ref hd), ("left", .ref ll), ("at", .int (at_ : Int)), ("beats", .int (beats : Int)), ("rows", .ref rl), ("idle", .bl idle), ("many_reads", .int (nr : Int)), ("many_fetches", .int (nf : Int))]
section
variable {ml hd ll rl x : Addr} {vo vp v : V} {at_ beats nr nf k : Nat} {idle b : Bool}
theorem lk_M_memory : (machF ml vo vp hd ll at_ beats rl idle nr nf).lookup ("memory" : Str) = some (.ref ml) := by simp [machF, List.lookup, ofS_beq]
theorem lk_M_orders : (machF ml vo vp hd ll at_ beats rl idle nr nf).lookup ("orders" : Str) = some vo := by simp [machF, List.lookup, ofS_beq]
theorem lk_M_program : (machF ml vo vp hd ll at_ beats rl idle nr nf).lookup ("program" : Str) = some vp := by simp [machF, List.lookup, ofS_beq]
theorem lk_M_held : (machF ml vo vp hd ll at_ beats rl idle nr nf).lookup ("held" : Str) = some (.ref hd) := by simp [machF, List.lookup, ofS_beq]
theorem lk_M_left : (machF ml vo vp hd ll at_ beats rl idle nr nf).lookup ("left" : Str) = some (.ref ll) := by simp [machF, List.lookup, ofS_beq]
theorem lk_M_at : (machF ml vo vp hd ll at_ beats rl idle nr nf).lookup ("at" : Str) = some (.int (at_ : Int)) := by simp [machF, List.lookup, ofS_beq]
theorem lk_M_beats : (machF ml vo vp hd ll at_ beats rl idle nr nf).lookup ("beats" : Str) = some (.int (beats : Int)) := by simp [machF, List.lookup, ofS_beq]
theorem lk_M_rows : (machF ml vo vp hd ll at_ beats rl idle nr nf).lookup ("rows" : Str) = some (.ref rl) := by simp [machF, List.lookup, ofS_beq]
theorem lk_M_idle : (machF ml vo vp hd ll at_ beats rl idle nr nf).lookup ("idle" : Str) = some (.bl idle) := by simp [machF, List.lookup, ofS_beq]
theorem lk_M_many_reads : (machF ml vo vp hd ll at_ beats rl idle nr nf).lookup ("many_reads" : Str) = some (.int (nr : Int)) := by simp [machF, List.lookup, ofS_beq]
theorem lk_M_many_fetches : (machF ml vo vp hd ll at_ beats rl idle nr nf).lookup ("many_fetches" : Str) = some (.int (nf : Int)) := by simp [machF, List.lookup, ofS_beq]
theorem pt_M_at : putF "at" (.int (k : Int)) (machF ml vo vp hd ll at_ beats rl idle nr nf) = machF ml vo vp hd ll k beats rl idle nr nf := by simp [putF, machF, ofS_inj]
theorem pt_M_at' : putF "at" (.int ((at_ : Int) + 1)) (machF ml vo vp hd ll at_ beats rl idle nr nf) = machF ml vo vp hd ll (at_ + 1) beats rl idle nr nf := pt_M_at (k := at_ + 1)
theorem pt_M_beats : putF "beats" (.int (k : Int)) (machF ml vo vp hd ll at_ beats rl idle nr nf) = machF ml vo vp hd ll at_ k rl idle nr nf := by simp [putF, machF, ofS_inj]
theorem pt_M_beats' : putF "beats" (.int ((beats : Int) + 1)) (machF ml vo vp hd ll at_ beats rl idle nr nf) = machF ml vo vp hd ll at_ (beats + 1) rl idle nr nf := pt_M_beats (k := beats + 1)
theorem pt_M_reads : putF "many_reads" (.int (k : Int)) (machF ml vo vp hd ll at_ beats rl idle nr nf) = machF ml vo vp hd ll at_ beats rl idle k nf := by simp [putF, machF, ofS_inj]
theorem pt_M_reads' : putF "many_reads" (.int ((nr : Int) + 1)) (machF ml vo vp hd ll at_ beats rl idle nr nf) = machF ml vo vp hd ll at_ beats rl idle (nr + 1) nf := pt_M_reads (k := nr + 1)
theorem pt_M_fetches : putF "many_fetches" (.int (k : Int)) (machF ml vo vp hd ll at_ beats rl idle nr nf) = machF ml vo vp hd ll at_ beats rl idle nr k := by simp [putF, machF, ofS_inj]
theorem pt_M_fetches' : putF "many_fetches" (.int ((nf : Int) + 1)) (machF ml vo vp hd ll at_ beats rl idle nr nf) = machF ml vo vp hd ll at_ beats rl idle nr (nf + 1) := pt_M_fetches (k := nf + 1)
theorem pt_M_idle : putF "idle" (.bl b) (machF ml vo vp hd ll at_ beats rl idle nr nf) = machF ml vo vp hd ll at_ beats rl b nr nf := by simp [putF, machF, ofS_inj]
theorem pt_M_left : putF "left" (.ref x) (machF ml vo vp hd ll at_ beats rl idle nr nf) = machF ml vo vp hd x at_ beats rl idle nr nf := by simp [putF, machF, ofS_inj]
theorem pt_M_rows : putF "rows" (.ref x) (machF ml vo vp hd ll at_ beats rl idle nr nf) = machF ml vo vp hd ll at_ beats x idle nr nf := by simp [putF, machF, ofS_inj]
theorem len_M : (machF ml vo vp hd ll at_ beats rl idle nr nf).length < 1000 := by simp [machF]
theorem no_M_note : (machF ml vo vp hd ll at_ beats rl idle nr nf).lookup ("note" : Str) = none := by simp [machF, List.lookup, ofS_beq]
theorem no_M_take : (machF ml vo vp hd ll at_ beats rl idle nr nf).lookup ("take" : Str) = none := by simp [machF, List.lookup, ofS_beq]
theorem no_M_read : (machF ml vo vp hd ll at_ beats rl idle nr nf).lookup ("read" : Str) = none := by simp [machF, List.lookup, ofS_beq]
theorem no_M_write : (machF ml vo vp hd ll at_ beats rl idle nr nf).lookup ("write" : Str) = none := by simp [machF, List.lookup, ofS_beq]
theorem no_M_clean : (machF ml vo vp hd ll at_ beats rl idle nr nf).lookup ("clean" : Str) = none := by simp [machF, List.lookup, ofS_beq]
theorem no_M_drop : (machF ml vo vp hd ll at_ beats rl idle nr nf).lookup ("drop" : Str) = none := by simp [machF, List.lookup, ofS_beq]
theorem no_M_process : (machF ml vo vp hd ll at_ beats rl idle nr nf).lookup ("process" : Str) = none := by simp [machF, List.lookup, ofS_beq]
theorem no_M_may_rest : (machF ml vo vp hd ll at_ beats rl idle nr nf).lookup ("may_rest" : Str) = none := by simp [machF, List.lookup, ofS_beq]
theorem no_M_carry : (machF ml vo vp hd ll at_ beats rl idle nr nf).lookup ("carry" : Str) = none := by simp [machF, List.lookup, ofS_beq]
theorem no_M_is_over : (machF ml vo vp hd ll at_ beats rl idle nr nf).lookup ("is_over" : Str) = none := by simp [machF, List.lookup, ofS_beq]
theorem no_M_finish : (machF ml vo vp hd ll at_ beats rl idle nr nf).lookup ("finish" : Str) = none := by simp [machF, List.lookup, ofS_beq]
theorem no_M_copied : (machF ml vo vp hd ll at_ beats rl idle nr nf).lookup ("copied" : Str) = none := by simp [machF, List.lookup, ofS_beq]
theorem no_M_key : (machF ml vo vp hd ll at_ beats rl idle nr nf).lookup ("key" : Str) = none := by simp [machF, List.lookup, ofS_beq]
end
/-- what the dict of held lines holds -/
inductive HeldR (H : Hp) : List (Key × V) → List HE → List Addr → Prop
  | nil : HeldR H [] [] []
  | cons {l : Nat} {ns : List Int} {b : Bool} {t c : Addr} {kvs : List (Key × V)} {es : List HE} {cs : List Addr} (h1 : H t = some (.tup [.ref c, .bl b])) (h2 : H c = some (.lst (ns.map V.int))) (h3 : HeldR H kvs es cs) :
      HeldR H ((Sum.inl (l : Int), .ref t) :: kvs) ((l, ns, b) :: es) (c :: cs)
section
variable {H H2 : Hp} {kvs : List (Key × V)} {es : List HE} {cs : List Addr}
theorem key_inj {l k : Nat} : (Sum.inl (l : Int) : Key) = Sum.inl (k : Int) ↔ l = k := by
  constructor
  · intro h
    exact Int.ofNat.inj (Sum.inl.inj h)
  · intro h
    rw [h]
theorem HeldR.keep {G : List Addr} (h : HeldR H kvs es cs) (f : Fr G H H2) (k : Kp H H2) (n : ∀ c ∈ cs, c ∉ G) : HeldR H2 kvs es cs := by
  induction h with
  | nil => exact .nil
  | cons h1 h2 h3 ih => exact .cons (k _ _ h1) (f _ _ h2 (n _ List.mem_cons_self)) (ih fun c hc => n c (List.mem_cons_of_mem _ hc))
theorem HeldR.ex (h : HeldR H kvs es cs) (e : Ex H H2) : HeldR H2 kvs es cs := h.keep (G := []) e.fr e.kp fun _ _ => by simp
theorem HeldR.len (h : HeldR H kvs es cs) : kvs.length = es.length := by
  induction h with
  | nil => rfl
  | cons h1 h2 h3 ih => simp [ih]
theorem HeldR.keys (h : HeldR H kvs es cs) : kvs.map (·.1) = (es.map fun e => (e.1 : Int)).map Sum.inl := by
  induction h with
  | nil => rfl
  | cons h1 h2 h3 ih => simp [ih]
theorem HeldR.lost {l : Nat} (h : HeldR H kvs es cs) (e : hget es l = none) : valV kvs (Sum.inl (l : Int)) = none := by
  induction h with
  | nil => rfl
  | @cons l' ns b t c kvs es cs h1 h2 h3 ih =>
    have e' : (if l' = l then some (ns, b) else hget es l) = none := e
    by_cases q : l' = l
    · rw [if_pos q] at e'
      cases e'
    · rw [if_neg q] at e'
      rw [valV_neg (fun z => q (key_inj.mp z))]
      exact ih e'
theorem HeldR.get {l : Nat} {ns : List Int} {b : Bool} (h : HeldR H kvs es cs) (e : hget es l = some (ns, b)) : ∃ t c, valV kvs (Sum.inl (l : Int)) = some (.ref t) ∧ H t = some (.tup [.ref c, .bl b]) ∧ H c = some (.lst (ns.map V.int)) ∧ c ∈ cs := by
  induction h with
  | nil => cases e
  | @cons l' ns' b' t c kvs es cs h1 h2 h3 ih =>
    have e' : (if l' = l then some (ns', b') else hget es l) = some (ns, b) := e
    by_cases q : l' = l
    · rw [if_pos q] at e'
      cases e'
      exact ⟨t, c, valV_pos (key_inj.mpr q), h1, h2, List.mem_cons_self⟩
    · rw [if_neg q] at e'
      obtain ⟨t', c', g1, g2, g3, g4⟩ := ih e'
      exact ⟨t', c', by rw [valV_neg (fun z => q (key_inj.mp z))]; exact g1, g2, g3, List.mem_cons_of_mem _ g4⟩
theorem HeldR.add {l : Nat} {ns : List Int} {b : Bool} {t c : Addr} (h : HeldR H kvs es cs) (h1 : H t = some (.tup [.ref c, .bl b])) (h2 : H c = some (.lst (ns.map V.int))) : HeldR H (kvs ++ [(Sum.inl (l : Int), .ref t)]) (es ++ [(l, ns, b)]) (cs ++ [c]) := by
  induction h with
  | nil => exact .cons h1 h2 .nil
  | cons g1 g2 g3 ih => exact .cons g1 g2 ih
theorem HeldR.del {l : Nat} (h : HeldR H kvs es cs) : ∃ cs', HeldR H (dropK kvs (Sum.inl (l : Int))) (hdel es l) cs' ∧ cs'.Sublist cs := by
  induction h with
  | nil => exact ⟨[], .nil, .slnil⟩
  | @cons l' ns' b' t c kvs es cs h1 h2 h3 ih =>
    obtain ⟨cs', g1, g2⟩ := ih
    by_cases q : l' = l
    · refine ⟨cs', ?_, g2.cons _⟩
      have e1 : dropK ((Sum.inl (l' : Int), V.ref t) :: kvs) (Sum.inl (l : Int)) = dropK kvs (Sum.inl (l : Int)) := by simp [dropK, q]
      have e2 : hdel ((l', ns', b') :: es) l = hdel es l := by simp [hdel, q]
      rw [e1, e2]
      exact g1
    · refine ⟨c :: cs', ?_, g2.cons₂ _⟩
      have e1 : dropK ((Sum.inl (l' : Int), V.ref t) :: kvs) (Sum.inl (l : Int)) = (Sum.inl (l' : Int), V.ref t) :: dropK kvs (Sum.inl (l : Int)) := by
        have : (Sum.inl (l' : Int) : Key) ≠ Sum.inl (l : Int) := fun z => q (key_inj.mp z)
        simp only [dropK, List.filter_cons]
        rw [if_pos (decide_eq_true this)]
      have e2 : hdel ((l', ns', b') :: es) l = (l', ns', b') :: hdel es l := by simp [hdel, q]
      rw [e1, e2]
      exact .cons h1 h2 g1
/-- another list of cells in the same place -/
theorem HeldR.cell {l : Nat} {ns ms : List Int} {b : Bool} {t c : Addr} (h : HeldR H kvs es cs) (hk : (es.map (·.1)).Nodup) (hc : cs.Nodup) (e : hget es l = some (ns, b)) (ev : valV kvs (Sum.inl (l : Int)) = some (.ref t)) (ht : H t = some (.tup [.ref c, .bl b])) (f : Fr [c] H H2) (k : Kp H H2) (h2 : H2 c = some (.lst (ms.map V.int))) : HeldR H2 kvs (hset es l (ms, b)) cs := by
  induction h with
  | nil => cases e
  | @cons l' ns' b' t' c' kvs es cs g1 g2 g3 ih =>
    have e' : (if l' = l then some (ns', b') else hget es l) = some (ns, b) := e
    simp only [List.map_cons, List.nodup_cons] at hk hc
    by_cases q : l' = l
    · rw [if_pos q] at e'
      cases e'
      rw [valV_pos (key_inj.mpr q)] at ev
      cases ev
      rw [g1] at ht
      cases ht
      have e2 : hset ((l', ns, b) :: es) l (ms, b) = (l', ms, b) :: es := by
        show (if l' = l then (l, ms, b) else (l', ns, b)) :: hset es l (ms, b) = _
        rw [if_pos q, ← q]
        congr 1
        unfold hset
        rw [List.map_congr_left (g := id), List.map_id]
        intro a ha
        rw [if_neg]
        · rfl
        · intro z
          exact hk.1 (z ▸ List.mem_map_of_mem ha)
      rw [e2]
      refine .cons (k _ _ g1) h2 (g3.keep f k fun c hcs => ?_)
      intro z
      rw [List.mem_singleton.mp z] at hcs
      exact hc.1 hcs
    · rw [if_neg q] at e'
      rw [valV_neg (fun z => q (key_inj.mp z))] at ev
      have e2 : hset ((l', ns', b') :: es) l (ms, b) = (l', ns', b') :: hset es l (ms, b) := by
        show (if l' = l then (l, ms, b) else (l', ns', b')) :: hset es l (ms, b) = _
        rw [if_neg q]
      rw [e2]
      obtain ⟨t2, c2, z1, z2, z3, z4⟩ := g3.get e'
      rw [ev] at z1
      cases z1
      rw [ht] at z2
      cases z2
      exact .cons (k _ _ g1) (fr1 f g2 (fun z => hc.1 (z ▸ z4))) (ih hk.2 hc.2 e' ev)
/-- another mark -/
theorem HeldR.mark {l : Nat} {ns : List Int} {b b2 : Bool} {t c t2 : Addr} (h : HeldR H kvs es cs) (hk : (es.map (·.1)).Nodup) (e : hget es l = some (ns, b)) (ev : valV kvs (Sum.inl (l : Int)) = some (.ref t)) (ht : H t = some (.tup [.ref c, .bl b])) (ht2 : H t2 = some (.tup [.ref c, .bl b2])) : HeldR H (putK kvs (Sum.inl (l : Int)) (.ref t2)) (hset es l (ns, b2)) cs := by
  have ea : (kvs.any fun kv => decide (kv.1 = Sum.inl (l : Int))) = true := by
    rw [valV_any, ev]
    rfl
  unfold putK
  rw [if_pos ea]
  clear ea
  induction h with
  | nil => cases e
  | @cons l' ns' b' t' c' kvs es cs g1 g2 g3 ih =>
    have e' : (if l' = l then some (ns', b') else hget es l) = some (ns, b) := e
    simp only [List.map_cons, List.nodup_cons] at hk
    rw [List.map_cons]
    by_cases q : l' = l
    · rw [if_pos q] at e'
      cases e'
      rw [valV_pos (key_inj.mpr q)] at ev
      cases ev
      rw [g1] at ht
      cases ht
      rw [if_pos (key_inj.mpr q)]
      have e2 : hset ((l', ns, b) :: es) l (ns, b2) = (l', ns, b2) :: es := by
        show (if l' = l then (l, ns, b2) else (l', ns, b)) :: hset es l (ns, b2) = _
        rw [if_pos q, ← q]
        congr 1
        unfold hset
        rw [List.map_congr_left (g := id), List.map_id]
        intro a ha
        rw [if_neg]
        · rfl
        · intro z
          exact hk.1 (z ▸ List.mem_map_of_mem ha)
      rw [e2]
      have e3 : (kvs.map fun kv => if kv.1 = Sum.inl (l : Int) then (kv.1, V.ref t2) else kv) = kvs := by
        rw [List.map_congr_left (g := id), List.map_id]
        intro a ha
        rw [if_neg]
        · rfl
        · intro z
          have : a.1 ∈ kvs.map (·.1) := List.mem_map_of_mem ha
          rw [g3.keys, z] at this
          simp only [List.mem_map] at this
          obtain ⟨i, ⟨e0, he, rfl⟩, z2⟩ := this
          have z3 := key_inj.mp z2
          exact hk.1 (by rw [q, ← z3]; exact List.mem_map_of_mem he)
      rw [e3]
      exact .cons ht2 g2 g3
    · rw [if_neg q] at e'
      rw [valV_neg (fun z => q (key_inj.mp z))] at ev
      rw [if_neg (fun z => q (key_inj.mp z))]
      have e2 : hset ((l', ns', b') :: es) l (ns, b2) = (l', ns', b') :: hset es l (ns, b2) := by
        show (if l' = l then (l, ns, b2) else (l', ns', b')) :: hset es l (ns, b2) = _
        rw [if_neg q]
      rw [e2]
      exact .cons g1 g2 (ih hk.2 e' ev)
end
structure MA (C : Addr) (vo vp : V) (H : Hp) (p dx hd ml ll rl : Addr) (cs : List Addr) (M : MS) : Prop where
  ob : H p = some (.ins C dx (machF ml vo vp hd ll M.at_ M.beats rl M.idle M.nr M.nf))
  me : H ml = some (.lst (M.mem.map V.int))
  he : ∃ kvs, H hd = some (.dK kvs) ∧ HeldR H kvs M.held cs
  le : ∃ xs, H ll = some (.lst xs) ∧ ImL H (M.left.map pyMv) xs
  ro : ∃ xs, H rl = some (.lst xs) ∧ ImL H (M.rows.map pyRow) xs
  nd : (p :: hd :: ml :: ll :: rl :: cs).Nodup
section
variable {C : Addr} {vo vp : V} {H H2 : Hp} {p dx hd ml ll rl : Addr} {cs : List Addr} {M : MS}
theorem MA.ex (h : MA C vo vp H p dx hd ml ll rl cs M) (e : Ex H H2) : MA C vo vp H2 p dx hd ml ll rl cs M := by
  obtain ⟨ob, me, ⟨k, h1, h2⟩, ⟨x, l1, l2⟩, ⟨y, r1, r2⟩, nd⟩ := h
  exact ⟨e _ _ ob, e _ _ me, ⟨k, e _ _ h1, h2.ex e⟩, ⟨x, e _ _ l1, l2.ex e⟩, ⟨y, e _ _ r1, r2.ex e⟩, nd⟩
theorem MA.keep {G : List Addr} (h : MA C vo vp H p dx hd ml ll rl cs M) (f : Fr G H H2) (k : Kp H H2) (n : ∀ a ∈ p :: hd :: ml :: ll :: rl :: cs, a ∉ G) : MA C vo vp H2 p dx hd ml ll rl cs M := by
  obtain ⟨ob, me, ⟨kv, h1, h2⟩, ⟨x, l1, l2⟩, ⟨y, r1, r2⟩, nd⟩ := h
  exact ⟨f _ _ ob (n _ (by simp)), f _ _ me (n _ (by simp)), ⟨kv, f _ _ h1 (n _ (by simp)), h2.keep f k fun c hc => n c (by simp [hc])⟩, ⟨x, f _ _ l1 (n _ (by simp)), l2.kp k⟩, ⟨y, f _ _ r1 (n _ (by simp)), r2.kp k⟩, nd⟩
structure Nes (p hd ml ll rl : Addr) (cs : List Addr) : Prop where
  p1 : p ≠ hd
  p2 : p ≠ ml
  p3 : p ≠ ll
  p4 : p ≠ rl
  p5 : ∀ c ∈ cs, c ≠ p
  h1 : hd ≠ ml
  h2 : hd ≠ ll
  h3 : hd ≠ rl
  h4 : ∀ c ∈ cs, c ≠ hd
  m1 : ml ≠ ll
  m2 : ml ≠ rl
  m3 : ∀ c ∈ cs, c ≠ ml
  l1 : ll ≠ rl
  l2 : ∀ c ∈ cs, c ≠ ll
  r1 : ∀ c ∈ cs, c ≠ rl
  cs : cs.Nodup
theorem MA.nes (h : MA C vo vp H p dx hd ml ll rl cs M) : Nes p hd ml ll rl cs := by
  have q := h.nd
  simp only [List.nodup_cons, List.mem_cons, not_or] at q
  obtain ⟨⟨a1, a2, a3, a4, a5⟩, ⟨b1, b2, b3, b4⟩, ⟨c1, c2, c3⟩, ⟨d1, d2⟩, e1, g⟩ := q
  exact ⟨a1, a2, a3, a4, fun c hc z => a5 (z ▸ hc), b1, b2, b3, fun c hc z => b4 (z ▸ hc), c1, c2, fun c hc z => c3 (z ▸ hc), d1, fun c hc z => d2 (z ▸ hc), fun c hc z => e1 (z ▸ hc), g⟩
theorem not1 {a : Addr} {cs : List Addr} (h : ∀ c ∈ cs, c ≠ a) : ∀ c ∈ cs, c ∉ [a] := fun c hc z => h c hc (List.mem_singleton.mp z)
theorem MA.mutRows {rows : List Row} {ys : List V} (h : MA C vo vp H p dx hd ml ll rl cs M) (f : Fr [rl] H H2) (k : Kp H H2) (h2 : H2 rl = some (.lst ys)) (iy : ImL H2 (rows.map pyRow) ys) : MA C vo vp H2 p dx hd ml ll rl cs { M with rows := rows } := by
  have n := h.nes
  obtain ⟨ob, me, ⟨kv, h1, h2⟩, ⟨x, l1, l2⟩, ⟨y, r1, r2⟩, nd⟩ := h
  exact ⟨fr1 f ob n.p4, fr1 f me n.m2, ⟨kv, fr1 f h1 n.h3, h2.keep f k (not1 n.r1)⟩, ⟨x, fr1 f l1 n.l1, l2.kp k⟩, ⟨ys, by assumption, iy⟩, nd⟩
theorem MA.mutLeft {left : List Mv} {ys : List V} (h : MA C vo vp H p dx hd ml ll rl cs M) (f : Fr [ll] H H2) (k : Kp H H2) (h2 : H2 ll = some (.lst ys)) (iy : ImL H2 (left.map pyMv) ys) : MA C vo vp H2 p dx hd ml ll rl cs { M with left := left } := by
  have n := h.nes
  obtain ⟨ob, me, ⟨kv, h1, h2⟩, ⟨x, l1, l2⟩, ⟨y, r1, r2⟩, nd⟩ := h
  exact ⟨fr1 f ob n.p3, fr1 f me n.m1, ⟨kv, fr1 f h1 n.h2, h2.keep f k (not1 n.l2)⟩, ⟨ys, by assumption, iy⟩, ⟨y, fr1 f r1 (Ne.symm n.l1), r2.kp k⟩, nd⟩
theorem MA.mutMem {mem : List Int} (h : MA C vo vp H p dx hd ml ll rl cs M) (f : Fr [ml] H H2) (k : Kp H H2) (h2 : H2 ml = some (.lst (mem.map V.int))) : MA C vo vp H2 p dx hd ml ll rl cs { M with mem := mem } := by
  have n := h.nes
  obtain ⟨ob, me, ⟨kv, h1, h2⟩, ⟨x, l1, l2⟩, ⟨y, r1, r2⟩, nd⟩ := h
  exact ⟨fr1 f ob n.p2, by assumption, ⟨kv, fr1 f h1 n.h1, h2.keep f k (not1 n.m3)⟩, ⟨x, fr1 f l1 (Ne.symm n.m1), l2.kp k⟩, ⟨y, fr1 f r1 (Ne.symm n.m2), r2.kp k⟩, nd⟩
theorem MA.mutOb {at_ beats nr nf : Nat} {idle : Bool} (h : MA C vo vp H p dx hd ml ll rl cs M) (f : Fr [p] H H2) (k : Kp H H2) (h2 : H2 p = some (.ins C dx (machF ml vo vp hd ll at_ beats rl idle nr nf))) : MA C vo vp H2 p dx hd ml ll rl cs { M with at_ := at_, beats := beats, idle := idle, nr := nr, nf := nf } := by
  have n := h.nes
  obtain ⟨ob, me, ⟨kv, h1, h2⟩, ⟨x, l1, l2⟩, ⟨y, r1, r2⟩, nd⟩ := h
  exact ⟨by assumption, fr1 f me (Ne.symm n.p2), ⟨kv, fr1 f h1 (Ne.symm n.p1), h2.keep f k (not1 n.p5)⟩, ⟨x, fr1 f l1 (Ne.symm n.p3), l2.kp k⟩, ⟨y, fr1 f r1 (Ne.symm n.p4), r2.kp k⟩, nd⟩
/-- another list of moves -/
theorem MA.newLeft {left : List Mv} {ys : List V} {l2 : Addr} (h : MA C vo vp H p dx hd ml ll rl cs M) (nl : ∀ a ∈ p :: hd :: ml :: ll :: rl :: cs, l2 ≠ a) (f : Fr [p] H H2) (k : Kp H H2) (h2 : H2 p = some (.ins C dx (machF ml vo vp hd l2 M.at_ M.beats rl M.idle M.nr M.nf)))
    (hl : H2 l2 = some (.lst ys)) (iy : ImL H2 (left.map pyMv) ys) : MA C vo vp H2 p dx hd ml l2 rl cs { M with left := left } := by
  have n := h.nes
  obtain ⟨ob, me, ⟨kv, h1, h2⟩, ⟨x, l1, _⟩, ⟨y, r1, r2⟩, nd⟩ := h
  refine ⟨by assumption, fr1 f me (Ne.symm n.p2), ⟨kv, fr1 f h1 (Ne.symm n.p1), h2.keep f k (not1 n.p5)⟩, ⟨ys, hl, iy⟩, ⟨y, fr1 f r1 (Ne.symm n.p4), r2.kp k⟩, ?_⟩
  simp only [List.nodup_cons, List.mem_cons, not_or] at nd ⊢
  obtain ⟨⟨a1, a2, a3, a4, a5⟩, ⟨b1, b2, b3, b4⟩, ⟨c1, c2, c3⟩, ⟨d1, d2⟩, e1, g⟩ := nd
  exact ⟨⟨a1, a2, (nl p (by simp)).symm, a4, a5⟩, ⟨b1, (nl hd (by simp)).symm, b3, b4⟩, ⟨(nl ml (by simp)).symm, c2, c3⟩, ⟨nl rl (by simp), fun z => nl l2 (by simp [z]) rfl⟩, e1, g⟩
/-- another list of rows -/
theorem MA.newRows {rows : List Row} {ys : List V} {l2 : Addr} (h : MA C vo vp H p dx hd ml ll rl cs M) (nl : ∀ a ∈ p :: hd :: ml :: ll :: rl :: cs, l2 ≠ a) (f : Fr [p] H H2) (k : Kp H H2) (h2 : H2 p = some (.ins C dx (machF ml vo vp hd ll M.at_ M.beats l2 M.idle M.nr M.nf)))
    (hl : H2 l2 = some (.lst ys)) (iy : ImL H2 (rows.map pyRow) ys) : MA C vo vp H2 p dx hd ml ll l2 cs { M with rows := rows } := by
  have n := h.nes
  obtain ⟨ob, me, ⟨kv, h1, h2⟩, ⟨x, l1, l3⟩, ⟨y, r1, r2⟩, nd⟩ := h
  refine ⟨by assumption, fr1 f me (Ne.symm n.p2), ⟨kv, fr1 f h1 (Ne.symm n.p1), h2.keep f k (not1 n.p5)⟩, ⟨x, fr1 f l1 (Ne.symm n.p3), l3.kp k⟩, ⟨ys, hl, iy⟩, ?_⟩
  simp only [List.nodup_cons, List.mem_cons, not_or] at nd ⊢
  obtain ⟨⟨a1, a2, a3, a4, a5⟩, ⟨b1, b2, b3, b4⟩, ⟨c1, c2, c3⟩, ⟨d1, d2⟩, e1, g⟩ := nd
  exact ⟨⟨a1, a2, a3, (nl p (by simp)).symm, a5⟩, ⟨b1, b2, (nl hd (by simp)).symm, b4⟩, ⟨c1, (nl ml (by simp)).symm, c3⟩, ⟨(nl ll (by simp)).symm, d2⟩, fun z => nl l2 (by simp [z]) rfl, g⟩
theorem MA.mutHd {held : List HE} {kvs : List (Key × V)} {ds : List Addr} (h : MA C vo vp H p dx hd ml ll rl cs M) (f : Fr [hd] H H2) (k : Kp H H2) (h2 : H2 hd = some (.dK kvs)) (hr : HeldR H2 kvs held ds) (nd2 : (p :: hd :: ml :: ll :: rl :: ds).Nodup) : MA C vo vp H2 p dx hd ml ll rl ds { M with held := held } := by
  have n := h.nes
  obtain ⟨ob, me, _, ⟨x, l1, l2⟩, ⟨y, r1, r2⟩, nd⟩ := h
  exact ⟨fr1 f ob n.p1, fr1 f me (Ne.symm n.h1), ⟨kvs, by assumption, hr⟩, ⟨x, fr1 f l1 (Ne.symm n.h2), l2.kp k⟩, ⟨y, fr1 f r1 (Ne.symm n.h3), r2.kp k⟩, nd2⟩
theorem MA.mutCell {l : Nat} {ns ms : List Int} {b : Bool} {t c : Addr} {kvs : List (Key × V)} (h : MA C vo vp H p dx hd ml ll rl cs M) (hk : (M.held.map (·.1)).Nodup) (e : hget M.held l = some (ns, b)) (hh : H hd = some (.dK kvs)) (ev : valV kvs (Sum.inl (l : Int)) = some (.ref t)) (ht : H t = some (.tup [.ref c, .bl b]))
    (hc : c ∈ cs) (f : Fr [c] H H2) (k : Kp H H2) (h2 : H2 c = some (.lst (ms.map V.int))) : MA C vo vp H2 p dx hd ml ll rl cs (M.put l (ms, b)) := by
  have n := h.nes
  obtain ⟨ob, me, ⟨kv, h1, hr⟩, ⟨x, l1, l2⟩, ⟨y, r1, r2⟩, nd⟩ := h
  rw [h1] at hh
  cases hh
  exact ⟨fr1 f ob (n.p5 c hc).symm, fr1 f me (n.m3 c hc).symm, ⟨_, fr1 f h1 (n.h4 c hc).symm, hr.cell hk n.cs e ev ht f k h2⟩, ⟨x, fr1 f l1 (n.l2 c hc).symm, l2.kp k⟩, ⟨y, fr1 f r1 (n.r1 c hc).symm, r2.kp k⟩, nd⟩
end
theorem HeldR.there {H : Hp} {kvs : List (Key × V)} {es : List HE} {cs : List Addr} (h : HeldR H kvs es cs) : ∀ a ∈ cs, ∃ o, H a = some o := by
  induction h with
  | nil => exact fun a ha => by cases ha
  | cons g1 g2 g3 ih =>
    intro a ha
    rcases List.mem_cons.mp ha with z | z
    · exact ⟨_, z ▸ g2⟩
    · exact ih a z
theorem MA.there {C : Addr} {vo vp : V} {H : Hp} {p dx hd ml ll rl : Addr} {cs : List Addr} {M : MS} (h : MA C vo vp H p dx hd ml ll rl cs M) : ∀ a ∈ p :: hd :: ml :: ll :: rl :: cs, ∃ o, H a = some o := by
  obtain ⟨ob, me, ⟨k, h1, h2⟩, ⟨x, l1, l2⟩, ⟨y, r1, r2⟩, nd⟩ := h
  intro a ha
  simp only [List.mem_cons] at ha
  rcases ha with z | z | z | z | z | z
  · exact ⟨_, z ▸ ob⟩
  · exact ⟨_, z ▸ h1⟩
  · exact ⟨_, z ▸ me⟩
  · exact ⟨_, z ▸ l1⟩
  · exact ⟨_, z ▸ r1⟩
  · exact h2.there a z
theorem MA.free {C : Addr} {vo vp : V} {H : Hp} {p dx hd ml ll rl c : Addr} {cs : List Addr} {M : MS} (h : MA C vo vp H p dx hd ml ll rl cs M) (n : H c = none) : ∀ a ∈ p :: hd :: ml :: ll :: rl :: cs, a ≠ c := fun a ha z => by
  obtain ⟨o, e⟩ := h.there a ha
  rw [z, n] at e
  cases e
theorem nodup_snoc {p hd ml ll rl c : Addr} {cs : List Addr} (h : (p :: hd :: ml :: ll :: rl :: cs).Nodup) (n : ∀ a ∈ p :: hd :: ml :: ll :: rl :: cs, a ≠ c) : (p :: hd :: ml :: ll :: rl :: (cs ++ [c])).Nodup := by
  have e : p :: hd :: ml :: ll :: rl :: (cs ++ [c]) = (p :: hd :: ml :: ll :: rl :: cs) ++ [c] := rfl
  rw [e, List.nodup_append]
  exact ⟨h, by simp, fun a ha b hb => by rw [List.mem_singleton.mp hb]; exact n a ha⟩
/-- a machine, with all that it holds (F) -/
def Mac (C : Addr) (vo vp : V) (p : Addr) (F : List Addr) (H : Hp) (M : MS) : Prop := ∃ dx hd ml ll rl cs, F = p :: hd :: ml :: ll :: rl :: cs ∧ MA C vo vp H p dx hd ml ll rl cs M
/-- only what was in F, and what is new -/
structure Chg (F : List Addr) (H : Hp) (F2 : List Addr) (H2 : Hp) : Prop where
  fr : Fr F H H2
  kp : Kp H H2
  own : ∀ a ∈ F2, a ∈ F ∨ H a = none
theorem Chg.refl (F : List Addr) (H : Hp) : Chg F H F H := ⟨Fr.refl _ _, Kp.refl _, fun _ h => .inl h⟩
theorem Chg.trans {F F1 F2 : List Addr} {H H1 H2 : Hp} (a : Chg F H F1 H1) (b : Chg F1 H1 F2 H2) : Chg F H F2 H2 := by
  refine ⟨fun x o hx hn => ?_, a.kp.trans b.kp, fun x hx => ?_⟩
  · refine b.fr x o (a.fr x o hx hn) fun z => ?_
    rcases a.own x z with z | z
    · exact hn z
    · rw [hx] at z
      cases z
  · rcases b.own x hx with z | z
    · exact a.own x z
    · by_cases hF : x ∈ F
      · exact .inl hF
      · cases e : H x with
        | none => exact .inr rfl
        | some o =>
          rw [a.fr x o e hF] at z
          cases z
theorem Chg.grow {F F2 : List Addr} {a : Addr} {H H2 : Hp} (h : a ∈ F) (f : Fr [a] H H2) (k : Kp H H2) (n : ∀ a ∈ F2, a ∈ F ∨ H a = none) : Chg F H F2 H2 := ⟨f.mono (by simpa using h), k, n⟩
theorem Chg.ex {F : List Addr} {H H2 : Hp} (e : Ex H H2) : Chg F H F H2 := ⟨e.fr, e.kp, fun _ h => .inl h⟩
theorem Chg.mut {F : List Addr} {a : Addr} {H H2 : Hp} (h : a ∈ F) (f : Fr [a] H H2) (k : Kp H H2) : Chg F H F H2 := ⟨f.mono (by simpa using h), k, fun _ h => .inl h⟩
/-- what is new at first -/
theorem Chg.fresh {F : List Addr} {H H2 : Hp} (c : Chg [] H F H2) : Ex H H2 := fun a o h => c.fr a o h (by simp)
theorem Chg.into {F F2 : List Addr} {H H1 H2 : Hp} (e : Ex H H1) (n : ∀ a ∈ F, H a = none) (c : Chg F H1 F2 H2) : Chg [] H F2 H2 := by
  refine ⟨fun a o h _ => c.fr a o (e a o h) (fun z => by rw [n a z] at h; cases h), e.kp.trans c.kp, fun a h => .inr ?_⟩
  rcases c.own a h with z | z
  · exact n a z
  · exact e.free z
theorem Mac.ex {C : Addr} {vo vp : V} {p : Addr} {F : List Addr} {H H2 : Hp} {M : MS} (h : Mac C vo vp p F H M) (e : Ex H H2) : Mac C vo vp p F H2 M := by
  obtain ⟨dx, hd, ml, ll, rl, cs, h1, h2⟩ := h
  exact ⟨dx, hd, ml, ll, rl, cs, h1, h2.ex e⟩
end BC
/-! BCDict: d.update, pops, displays, slices, sums of lists. -/
namespace BC
open PySem PySem.Spec PyProof.Rows L2
section
variable {X : Cx} {pins : List (Addr × Obj)} {σ : L2.St} {H : Hp} {s : Shared} {a b : Addr} {A : Around} {E : Value → Shared → Prop} {kvs ls : List (Key × V)}
theorem d_update {Q : Value → Shared → Prop} (I : Inv X pins σ H s) (e : H a = some (.dK kvs)) (eb : Rd H b (.dK ls)) (hne : a ≠ b) (hz : kvs.length + ls.length ≤ 100000)
    (h : ∀ s', Inv X pins σ (upd H a (.dK (mergeK kvs ls))) s' → Q .none s') : wpAny (model X.prog X.w) A (call (.builtin "dict.update") [.ref a, .ref b]) Q E s := by
  obtain ⟨z, hd, vs, rel, dd⟩ := dk_of I.hok e
  obtain ⟨z2, hd2, rs, rel2, dd2⟩ := dk_rd I.hok eb
  refine call_meetsIn PySem.F.slot_dict_update dd.typeIs PySem.F.entry_dict_update (PySem.F.args_dict_update_2 _ _) (meets_dict_update (mixKind X.prog X.w) a b hne hd2)
    ⟨vs, rs, dd, dd2, by rw [← rel.length, ← rel2.length]; exact sz_le hz, fun h' dd' _ hs => h _ ?_⟩
  have he : ∃ q, h'.get? a = some q := let ⟨q, _, _, hq, _⟩ := dd'; ⟨q, hq⟩
  exact d_write (t' := s.toks) I (by rw [e]; exact True.intro) hs he (dk_new (Nat.le_trans (length_mergeK ls kvs) (sz_le hz)) hd (rel2.merge rel) dd')
end
/-- d.update(e) -/
def DUpdP (a : Addr) (y : V) (H2 : Hp) (Q : VK) : Prop := ∃ b kvs ls, y = .ref b ∧ a ≠ b ∧ H2 a = some (.dK kvs) ∧ Rd H2 b (.dK ls) ∧ kvs.length + ls.length ≤ 100000 ∧ Q .non (upd H2 a (.dK (mergeK kvs ls)))
def tDUpd (td ty : TE) : TE := fun σ H Q => td σ H fun x H1 => ∃ a, x = .ref a ∧ IsD H1 a ∧ ty σ H1 fun y H2 => DUpdP a y H2 Q
theorem pe_dupd {X : Cx} {o e : Expr} {apos cpos : Pos} {td ty : TE} (ho : PE X o td) (he : PE X e ty) (m : M1 X o "update" apos e cpos) : PE X (.Call (.Attribute o "update" apos) [e] [] cpos) (tDUpd td ty) := by
  refine ⟨fun pins s σ H Q I h => ?_⟩
  refine wpAny_Call_method m.base m.few m.line PySem.F.plainAttrs_dict PySem.F.slot_dict_update PySem.F.type_dict_update (thn (ho.run pins s σ H _ I h) fun u s1 ⟨x, H1, I1, rx, a, ex, d, q1⟩ => ?_)
  subst ex
  obtain rfl : u = Value.ref a := rx
  obtain ⟨t1, t2, _⟩ := isD_at I1 d
  refine ⟨t1, t2, ?_⟩
  rw [m.trees]
  refine Calls.callWith_builtin rfl (Calls.evalArgs_plain (Calls.spliced_cons (thn (he.run pins s1 σ H1 _ I1 q1) fun iv s2 ⟨y, H2, I2, ry, b, kvs, ls, ey, hne, ea, eb, hz, q2⟩ => Calls.spliced_nil ?_)))
  subst ey
  obtain rfl : iv = Value.ref b := ry
  exact d_update I2 ea eb hne hz fun s3 I3 => ⟨.non, _, I3, rfl, q2⟩
section
variable {K : PySem.W.Frag} {σ : L2.St} {H H0 H1 : Hp} {D : Ends} {Q : VK} {td ty te ta tb : TE} {v x y : V} {xs ys : List V} {a b l p : Addr} {kvs ls : List (Key × V)} {k : Key}
theorem st_dupd (h : td σ H fun x H1 => ∃ a, x = .ref a ∧ IsD H1 a ∧ ty σ H1 fun y H2 => DUpdP a y H2 Q) : tDUpd td ty σ H Q := h
theorem st_isD (h : H a = some (.dK kvs)) {A : Prop} {F : Addr → Prop} (q : F a) : ∃ c, V.ref a = .ref c ∧ IsD H c ∧ F c := ⟨a, rfl, .inl ⟨kvs, .inl h⟩, q⟩
theorem st_dupdP (ha : H a = some (.dK kvs)) (hb : H b = some (.dK ls)) (hne : a ≠ b) (hz : kvs.length + ls.length ≤ 100000) (q : ∀ H2, Fr [a] H H2 → Kp H H2 → H2 a = some (.dK (mergeK kvs ls)) → Q .non H2) : DUpdP a (.ref b) H Q :=
  ⟨b, kvs, ls, rfl, hne, ha, .inl hb, hz, q _ (Fr.mut (List.mem_singleton.mpr rfl) (Fr.refl _ _)) (Kp.mut (nt_of ha trivial) (Kp.refl _)) upd_same⟩
def DPopP (a : Addr) (y : V) (H2 : Hp) (Q : VK) : Prop := ∃ kvs k v, H2 a = some (.dK kvs) ∧ y = kV k ∧ valV kvs k = some v ∧ Q v (upd H2 a (.dK (dropK kvs k)))
theorem st_dpop (h : td σ H fun x H1 => ∃ a, x = .ref a ∧ IsD H1 a ∧ ty σ H1 fun y H2 => DPopP a y H2 Q) : tDPop1 td ty σ H Q := h
theorem st_dpopP (h : H a = some (.dK kvs)) (hy : y = kV k) (e : valV kvs k = some v) (q : ∀ H2, Fr [a] H H2 → Kp H H2 → H2 a = some (.dK (dropK kvs k)) → Q v H2) : DPopP a y H Q :=
  ⟨kvs, k, v, h, hy, e, q _ (Fr.mut (List.mem_singleton.mpr rfl) (Fr.refl _ _)) (Kp.mut (nt_of h trivial) (Kp.refl _)) upd_same⟩
/-! displays -/
def DispP (p : Addr) (Q : VK) (ps : List (V × V)) (H2 : Hp) : Prop := H2 p = some (.dK []) ∧ ∃ kvs : List (Key × V), ps = kvs.map (fun kv => (kV kv.1, kv.2)) ∧ kvs.length ≤ 15 ∧ Q (.ref p) (upd H2 p (.dK (mergeK [] kvs)))
theorem st_disp {trs : List (TE × TE)} (q : ∀ p H2, H p = none → Ex H H2 → H2 p = some (.dK []) → tPairs trs σ H2 (DispP p Q)) : tDisp trs σ H Q := fun p hp => q p _ hp (Ex.new hp) upd_same
theorem st_pcons {tk tv : TE} {r : List (TE × TE)} {QP : List (V × V) → Hp → Prop} (h : tk σ H fun x H1 => tv σ H1 fun y H2 => tPairs r σ H2 fun ps H3 => QP ((x, y) :: ps) H3) : tPairs ((tk, tv) :: r) σ H QP := h
theorem st_pnil {QP : List (V × V) → Hp → Prop} (h : QP [] H) : tPairs [] σ H QP := h
theorem st_dispP {ps : List (V × V)} (h : H p = some (.dK [])) (kvs : List (Key × V)) (e : ps = kvs.map fun kv => (kV kv.1, kv.2)) (hl : kvs.length ≤ 15) (q : ∀ H2, Fr [p] H H2 → Kp H H2 → H2 p = some (.dK (mergeK [] kvs)) → Q (.ref p) H2) : DispP p Q ps H :=
  ⟨h, kvs, e, hl, q _ (Fr.mut (List.mem_singleton.mpr rfl) (Fr.refl _ _)) (Kp.mut (nt_of h trivial) (Kp.refl _)) upd_same⟩
/-! slices -/
theorem st_sl {r : V → Option Int → Option Int → Hp → VK → Prop} {tl th : TO} (h : te σ H fun x H1 => tl σ H1 fun lo H2 => th σ H2 fun hi H3 => r x lo hi H3 Q) : L2.tSl r te tl th σ H Q := h
theorem st_npart {QO : Option Int → Hp → Prop} (h : QO none H) : tNoPart σ H QO := h
theorem st_part {QO : Option Int → Hp → Prop} (h : te σ H fun x H1 => ∃ i, x = .int i ∧ QO (some i) H1) : tPart te σ H QO := h
theorem st_pint {i : Int} {F : Int → Prop} (h : F i) : ∃ j, V.int i = .int j ∧ F j := ⟨i, rfl, h⟩
theorem st_slL {lo hi : Option Int} {zs : List V} (h : H l = some (.lst xs)) (e : cutV xs lo hi = zs) (q : ∀ p H2, H p = none → Ex H H2 → H2 p = some (.lst zs) → Q (.ref p) H2) : rSlL K (.ref l) lo hi H Q :=
  ⟨l, xs, rfl, SqL.of h, fun p hp => q p _ hp (Ex.new hp) (by rw [e]; exact upd_same)⟩
theorem cut_both {lo hi : Nat} (h : hi ≤ xs.length) (h2 : lo ≤ hi) : cutV xs (some (lo : Int)) (some (hi : Int)) = (xs.drop lo).take (hi - lo) := by
  unfold cutV
  rw [HT.sIx_nat, HT.sIx_nat, Nat.min_eq_left h, Nat.min_eq_left (Nat.le_trans h2 h)]
theorem cut_to {hi : Nat} (h : hi ≤ xs.length) : cutV xs none (some (hi : Int)) = xs.take hi := by
  unfold cutV
  rw [HT.sIx_nat, Nat.min_eq_left h]
  rfl
theorem cut_from {lo : Nat} (h : lo ≤ xs.length) : cutV xs (some (lo : Int)) none = xs.drop lo := by
  unfold cutV
  rw [HT.sIx_nat, Nat.min_eq_left h]
  show (xs.drop lo).take (xs.length - lo) = _
  rw [List.take_of_length_le (by rw [List.length_drop]; omega)]
theorem st_cat (ha : H a = some (.lst xs)) (hb : H b = some (.lst ys)) (hl : xs.length + ys.length ≤ 100000) (q : ∀ p H2, H p = none → Ex H H2 → H2 p = some (.lst (xs ++ ys)) → Q (.ref p) H2) : rCat (.ref a) (.ref b) H Q :=
  ⟨a, b, xs, ys, rfl, rfl, ha, hb, sz_le hl, fun p hp => q p _ hp (Ex.new hp) upd_same⟩
end
theorem u1 {k : Nat} {A : Around} (h : Room k A) : A.units + 1 < cLine := Nat.lt_of_le_of_lt (Nat.add_le_add_left (by decide) _) h.units
theorem cut_line {ns : List Int} {l : Nat} (h : 4 * l + 4 ≤ ns.length) : cutV (ns.map V.int) (some (4 * (l : Int))) (some (4 * (l : Int) + 4)) = ((ns.drop (4 * l)).take 4).map V.int := by
  have e1 : (4 * (l : Int)) = ((4 * l : Nat) : Int) := by omega
  have e2 : (4 * (l : Int) + 4) = ((4 * l + 4 : Nat) : Int) := by omega
  rw [e2, e1, cut_both (by rw [List.length_map]; exact h) (Nat.le_add_right _ _), Nat.add_sub_cancel_left, List.map_take, List.map_drop]
theorem div4 (c : Nat) : (c : Int) / 4 = ((c / 4 : Nat) : Int) := by omega
theorem mod4 (c : Nat) : (c : Int) % 4 = ((c % 4 : Nat) : Int) := by omega
/-! whether a list is empty -/
theorem eqv_lnil (ds : List PyData) : PyData.eqv (.list ds) (.list []) = ds.isEmpty := by
  cases ds <;> simp [PyData.eqv, PyData.eqvAll]
theorem sh_mv {n : Nat} {m : Mv} : Sh (n + 1) (pyMv m) := by
  refine sh_tup fun d hd => ?_
  simp only [List.mem_cons, List.not_mem_nil, or_false] at hd
  rcases hd with rfl | rfl | rfl
  · exact sh_int
  · exact sh_int
  · exact sh_opt
theorem sh_mvs {ms : List Mv} : SeqAt.shaped (.list (ms.map pyMv)) = true := (sh_lst (n := 1) fun d hd => by
  obtain ⟨m, _, rfl⟩ := List.mem_map.mp hd
  exact sh_mv).shaped
theorem sh_lnil : SeqAt.shaped (.list []) = true := (sh_lst (n := 0) (by simp)).shaped
section
variable {K : PySem.W.Frag} {H : Hp} {Q : VK} {a b : Addr} {xs : List V} {ms : List Mv}
theorem st_neMv (ha : H a = some (.lst xs)) (hi : ImL H (ms.map pyMv) xs) (hb : H b = some (.lst [])) (q : Q (.bl (!ms.isEmpty)) H) : rNeD K (.ref a) (.ref b) H Q := by
  refine st_neD (lst_dp ha hi) (lst_dp hb iml_nil) sh_mvs sh_lnil ?_
  rw [eqv_lnil, show (ms.map pyMv).isEmpty = ms.isEmpty by cases ms <;> rfl]
  exact q
theorem st_eqMv (ha : H a = some (.lst xs)) (hi : ImL H (ms.map pyMv) xs) (hb : H b = some (.lst [])) (q : Q (.bl ms.isEmpty) H) : rEqD K (.ref a) (.ref b) H Q := by
  refine st_eqD (lst_dp ha hi) (lst_dp hb iml_nil) sh_mvs sh_lnil ?_
  rw [eqv_lnil, show (ms.map pyMv).isEmpty = ms.isEmpty by cases ms <;> rfl]
  exact q
end
end BC
/-! BCGo: the run as data: how far it goes, what grows. -/
namespace BC
open PySem PySem.Spec PyProof.Rows L2
/-- only memory, lines and rows differ; rows by n at the most -/
structure Grew (n : Nat) (M M2 : MS) : Prop where
  at_ : M2.at_ = M.at_
  beats : M2.beats = M.beats
  left : M2.left = M.left
  idle : M2.idle = M.idle
  rows : M2.rows.length ≤ M.rows.length + n
section
variable {M : MS}
theorem Grew.refl (n : Nat) (M : MS) : Grew n M M := ⟨rfl, rfl, rfl, rfl, Nat.le_add_right _ _⟩
theorem Grew.trans {a b : Nat} {M M1 M2 : MS} (h : Grew a M M1) (g : Grew b M1 M2) : Grew (a + b) M M2 :=
  ⟨g.at_.trans h.at_, g.beats.trans h.beats, g.left.trans h.left, g.idle.trans h.idle, by have := h.rows; have := g.rows; omega⟩
theorem Grew.mono {a b : Nat} {M M1 : MS} (h : Grew a M M1) (l : a ≤ b) : Grew b M M1 := ⟨h.at_, h.beats, h.left, h.idle, Nat.le_trans h.rows (by omega)⟩
theorem grew_note (w : Str) (p : Nat) (k : Int) : Grew 1 M (M.note w p k) := ⟨rfl, rfl, rfl, rfl, by simp [MS.note]⟩
theorem grew_take (l : Nat) : Grew 1 M (M.take l) := by
  unfold MS.take
  split
  · exact Grew.refl _ _
  · exact ⟨rfl, rfl, rfl, rfl, by simp [MS.note]⟩
theorem grew_read (c : Nat) : Grew 2 M (M.read c) := (grew_take _).trans (grew_note _ _ _)
theorem grew_put (l : Nat) (v : List Int × Bool) : Grew 0 M (M.put l v) := ⟨rfl, rfl, rfl, rfl, Nat.le_refl _⟩
theorem grew_write (c : Nat) (v : Int) : Grew 2 M (M.write c v) := ((grew_take (c / 4)).trans (grew_put (c / 4) _)).trans (grew_note "write" c v)
theorem grew_clean (l : Nat) : Grew 1 M (M.clean l) := by
  unfold MS.clean
  split
  · exact ⟨rfl, rfl, rfl, rfl, by simp [MS.note]⟩
  · exact Grew.refl _ _
theorem grew_drop (l : Nat) : Grew 1 M (M.drop l) := by
  unfold MS.drop
  split
  · exact ⟨rfl, rfl, rfl, rfl, by simp [MS.note]⟩
  · exact Grew.refl _ _
theorem grew_bell (o : Option Nat) : Grew 1 M (M.bell o) := by
  cases o with
  | none => exact Grew.refl _ _
  | some k => exact grew_note _ _ _
/-- what a deed does to the counts -/
theorem deed_grew {cells : Nat} {os : List Ord} (g : OrdsOk cells os) (h4 : os.length ≤ 4) (d : Deed) : (M.deed os d).at_ = M.at_ ∧ (M.deed os d).beats = M.beats ∧ (M.deed os d).idle = M.idle ∧ (M.deed os d).left.length ≤ M.left.length + 32 ∧ (M.deed os d).rows.length ≤ M.rows.length + 6 := by
  have u : ∀ {M2 : MS}, Grew 6 M M2 → M2.at_ = M.at_ ∧ M2.beats = M.beats ∧ M2.idle = M.idle ∧ M2.left.length ≤ M.left.length + 32 ∧ M2.rows.length ≤ M.rows.length + 6 := fun h => ⟨h.at_, h.beats, h.idle, by rw [h.left]; omega, h.rows⟩
  cases d with
  | set c k => exact u ((grew_write c _).mono (by decide))
  | add c o => exact u (((grew_read c).trans (grew_read o)).trans (grew_write c _))
  | say c => exact u (((grew_read c).trans (grew_note "say" c _)).mono (by decide))
  | start k =>
    have hl := moves_len g (os.length - k) k
    refine ⟨rfl, rfl, rfl, ?_, ?_⟩
    · show (M.left ++ movesOf os k).length ≤ _
      rw [List.length_append]
      have : (movesOf os k).length ≤ 8 * os.length := moves_len g _ _
      omega
    · show (M.rows ++ [_]).length ≤ _
      rw [List.length_append, List.length_singleton]
      omega
  | wait => exact u (Grew.refl _ _)
  | clean l => exact u ((grew_clean l).mono (by decide))
  | drop l => exact u ((grew_drop l).mono (by decide))
theorem carry_grew : M.carry.at_ = M.at_ ∧ M.carry.beats = M.beats ∧ M.carry.idle = M.idle ∧ M.carry.left = M.left.tail ∧ M.carry.rows.length ≤ M.rows.length + 3 := by
  unfold MS.carry
  split
  · rename_i e
    rw [e]
    exact ⟨rfl, rfl, rfl, rfl, Nat.le_add_right _ _⟩
  · rename_i m r e
    have h := grew_bell (M := ({ (({ M with left := r } : MS).note "fetch" m.src (M.mem.getD m.src 0)) with mem := M.mem.set m.dst (M.mem.getD m.src 0) } : MS).note "put" m.dst (M.mem.getD m.src 0)) m.bell
    refine ⟨h.at_, h.beats, h.idle, ?_, Nat.le_trans h.rows ?_⟩
    · rw [h.left, e]
      rfl
    · simp [MS.note]
end
/-- what holds while it goes -/
structure Going (b : Bd) (M : MS) : Prop where
  ok : M.Ok b.mem.length
  far : M.beats + M.fuel b ≤ 1980
  rows : M.rows.length ≤ 9 * M.beats
  le : M.at_ ≤ b.prog.length
theorem Going.left {b : Bd} {M : MS} (h : Going b M) : M.left.length ≤ 1980 := by
  have := h.far
  unfold MS.fuel at this
  omega
theorem Going.rows' {b : Bd} {M : MS} (h : Going b M) : M.rows.length ≤ 18000 := by
  have := h.far
  have := h.rows
  omega
theorem Going.init {b : Bd} (g : Good b) : Going b (MS.init b) := by
  have := g.len
  refine ⟨MS.Ok.init, ?_, Nat.le_refl _, Nat.zero_le _⟩
  simp only [MS.init, MS.fuel, List.length_nil]
  omega
section
variable {b : Bd} {M : MS}
/-- the processor's part -/
theorem process_grew (g : Good b) : (M.process b).beats = M.beats ∧ (M.process b).rows.length ≤ M.rows.length + 6 ∧ (M.process b).left.length ≤ M.left.length + 32 ∧
    ((M.process b).idle = true → (M.process b).left = M.left ∧ (M.process b).at_ = M.at_) ∧ ((M.process b).idle = false → (M.process b).fuel b + 1 ≤ M.fuel b) ∧ (M.process b).idle = M.isIdle b.prog := by
  unfold MS.process
  by_cases hi : M.isIdle b.prog = true
  · rw [if_pos hi]
    exact ⟨rfl, Nat.le_add_right _ _, Nat.le_add_right _ _, fun _ => ⟨rfl, rfl⟩, fun z => (by cases z), hi.symm⟩
  · rw [if_neg hi]
    have hlt : M.at_ < b.prog.length := by
      unfold MS.isIdle at hi
      simp only [Bool.or_eq_true, decide_eq_true_eq, not_or] at hi
      omega
    have e : b.prog[M.at_]? = some b.prog[M.at_] := List.getElem?_eq_getElem hlt
    rw [e]
    obtain ⟨h1, h2, h3, h4, h5⟩ := deed_grew (M := { M with idle := false, at_ := M.at_ + 1 }) g.ordsOk g.ords b.prog[M.at_]
    refine ⟨h2, h5, h4, fun z => ?_, fun _ => ?_, ?_⟩
    · have z' : (MS.deed b.ords { M with idle := false, at_ := M.at_ + 1 } b.prog[M.at_]).idle = true := z
      rw [h3] at z'
      cases z'
    · show (b.prog.length - (MS.deed b.ords { M with idle := false, at_ := M.at_ + 1 } b.prog[M.at_]).at_) * 33 + _ + 1 ≤ (b.prog.length - M.at_) * 33 + M.left.length
      rw [h1]
      have h4' : (MS.deed b.ords { M with idle := false, at_ := M.at_ + 1 } b.prog[M.at_]).left.length ≤ M.left.length + 32 := h4
      show (b.prog.length - (M.at_ + 1)) * 33 + (MS.deed b.ords { M with idle := false, at_ := M.at_ + 1 } b.prog[M.at_]).left.length + 1 ≤ _
      omega
    · refine Eq.trans h3 ?_
      show false = _
      exact ((Bool.not_eq_true _).mp hi).symm
theorem beat_less (g : Good b) (ho : M.over b = false) (pace : List Bool) : (M.beat b pace).fuel b < M.fuel b := by
  obtain ⟨h1, h2, h3, h4, h5, h6⟩ := process_grew (M := M) g
  obtain ⟨c1, c2, c3, c4, c5⟩ := carry_grew (M := M.process b)
  unfold MS.beat MS.tick MS.moved
  by_cases hi : (M.process b).idle = true
  · have hp : ((M.process b).pick pace).1 = true := by
      unfold MS.pick MS.mayRest
      rw [hi]
      simp
    rw [hp]
    obtain ⟨e1, e2⟩ := h4 hi
    have hne : M.left ≠ [] := by
      intro z
      rw [hi] at h6
      unfold MS.isIdle at h6
      unfold MS.over at ho
      rw [z] at h6 ho
      simp at h6 ho
      omega
    show (b.prog.length - (M.process b).carry.at_) * 33 + (M.process b).carry.left.length < _
    rw [c1, c4, e2, e1]
    unfold MS.fuel
    cases hl : M.left with
    | nil => exact absurd hl hne
    | cons m r => simp
  · have h5' := h5 (by simpa using hi)
    by_cases hm : ((M.process b).pick pace).1 = true
    · rw [if_pos hm]
      show (b.prog.length - (M.process b).carry.at_) * 33 + (M.process b).carry.left.length < _
      rw [c1, c4]
      unfold MS.fuel at h5' ⊢
      have : (M.process b).left.tail.length ≤ (M.process b).left.length := by simp
      omega
    · rw [if_neg hm]
      show (b.prog.length - (M.process b).at_) * 33 + (M.process b).left.length < _
      unfold MS.fuel at h5' ⊢
      omega
theorem Going.beat (h : Going b M) (g : Good b) (ho : M.over b = false) (pace : List Bool) : Going b (M.beat b pace) := by
  have hf := beat_less g ho pace
  obtain ⟨h1, h2, h3, h4, h5, h6⟩ := process_grew (M := M) g
  obtain ⟨c1, c2, c3, c4, c5⟩ := carry_grew (M := M.process b)
  have hb : (M.beat b pace).beats = M.beats + 1 := by
    unfold MS.beat MS.tick MS.moved
    split
    · show (M.process b).carry.beats + 1 = _
      rw [c2, h1]
    · show (M.process b).beats + 1 = _
      rw [h1]
  have hr : (M.beat b pace).rows.length ≤ M.rows.length + 9 := by
    unfold MS.beat MS.tick MS.moved
    split
    · show (M.process b).carry.rows.length ≤ _
      omega
    · show (M.process b).rows.length ≤ _
      omega
  have := h.far
  have := h.rows
  refine ⟨h.ok.beat g pace, by omega, by omega, ?_⟩
  have ha : (M.process b).at_ ≤ b.prog.length := by
    unfold MS.process
    split
    · exact h.le
    · split
      · rename_i d e
        have := (deed_grew (M := { M with idle := false, at_ := M.at_ + 1 }) g.ordsOk g.ords d).1
        rw [this]
        exact (List.getElem?_eq_some_iff.mp e).1
      · exact h.le
  unfold MS.beat MS.tick MS.moved
  split
  · show (M.process b).carry.at_ ≤ _
    rw [c1]
    exact ha
  · exact ha
end
/-! ### the end -/
theorem clean_out {M : MS} {l : Nat} (h : l ∉ M.held.map (·.1)) : M.clean l = M := by
  unfold MS.clean
  split
  · rename_i e
    have : (hget M.held l).isSome = true := by rw [e]; rfl
    exact absurd (hget_mem.mp this) h
  · rfl
theorem clean_keys (M : MS) (l : Nat) : (M.clean l).held.map (·.1) = M.held.map (·.1) := by
  unfold MS.clean
  split
  · show (hset M.held l _).map (·.1) = _
    rw [hset_keys]
  · rfl
theorem cleans_keys : ∀ (ls : List Nat) (M : MS), (ls.foldl MS.clean M).held.map (·.1) = M.held.map (·.1)
  | [], _ => rfl
  | l :: r, M => by
    rw [List.foldl_cons, cleans_keys r, clean_keys]
theorem cleans_filter : ∀ (ls : List Nat) (M : MS), ls.foldl MS.clean M = (ls.filter fun l => decide (l ∈ M.held.map (·.1))).foldl MS.clean M
  | [], _ => rfl
  | l :: r, M => by
    rw [List.foldl_cons, cleans_filter r, clean_keys]
    by_cases h : l ∈ M.held.map (·.1)
    · rw [List.filter_cons, if_pos (decide_eq_true h), List.foldl_cons]
    · rw [List.filter_cons, if_neg (by simpa using h), clean_out h]
theorem cleans_ok {n : Nat} : ∀ (ls : List Nat) {M : MS}, M.Ok n → (ls.foldl MS.clean M).Ok n
  | [], _, h => h
  | l :: r, M, h => by
    rw [List.foldl_cons]
    exact cleans_ok r (h.clean l)
theorem cleans_grew : ∀ (ls : List Nat) (M : MS), Grew ls.length M (ls.foldl MS.clean M)
  | [], _ => Grew.refl _ _
  | l :: r, M => by
    rw [List.foldl_cons]
    exact ((grew_clean l).trans (cleans_grew r _)).mono (by simp only [List.length_cons]; omega)
/-- the keys in order -/
theorem sorted_keys {n : Nat} {M : MS} (h : M.Ok n) (h16 : n / 4 ≤ 4) {ys : List Int} (hp : ys.Perm (M.held.map fun e => (e.1 : Int))) (hs : ys.Pairwise (· ≤ ·)) :
    ys = ((List.range 4).filter fun l => decide (l ∈ M.held.map (·.1))).map fun l : Nat => (l : Int) := by
  have inj : ∀ {a b : Nat}, (a : Int) = (b : Int) → a = b := fun h => Int.ofNat.inj h
  have nd1 : (M.held.map fun e => (e.1 : Int)).Nodup := by
    have e : (M.held.map fun e => (e.1 : Int)) = (M.held.map (·.1)).map fun l : Nat => (l : Int) := by rw [List.map_map]; rfl
    rw [e]
    exact List.Pairwise.map _ (fun a b hab z => hab (inj z)) h.nd
  have nd2 : (((List.range 4).filter fun l => decide (l ∈ M.held.map (·.1))).map fun l : Nat => (l : Int)).Nodup := by
    refine List.Pairwise.map _ (fun a b hab z => hab (inj z)) (List.Pairwise.filter _ List.nodup_range)
  refine List.Perm.eq_of_pairwise (le := (· ≤ ·)) (fun a b _ _ h1 h2 => Int.le_antisymm h1 h2) hs ?_ (hp.trans ?_)
  · refine List.Pairwise.map (R := fun a b : Nat => a < b) _ (fun a b hab => ?_) (List.Pairwise.filter _ List.pairwise_lt_range)
    show (a : Int) ≤ (b : Int)
    omega
  · rw [List.perm_ext_iff_of_nodup nd1 nd2]
    intro a
    simp only [List.mem_map, List.mem_filter, List.mem_range, decide_eq_true_eq]
    constructor
    · rintro ⟨e, he, rfl⟩
      have := (h.lines e he).1
      exact ⟨e.1, ⟨by omega, ⟨e, he, rfl⟩⟩, rfl⟩
    · rintro ⟨l, ⟨_, ⟨e, he, rfl⟩⟩, rfl⟩
      exact ⟨e, he, rfl⟩
/-! ### a board that a machine goes by -/
def BoardAt (H : Hp) (b : Bd) (vo vp : V) : Prop := Im H (pyOrds (b.ords.map Ord.raw)) vo ∧ Im H (pyProg (b.prog.map Deed.raw)) vp
theorem BoardAt.kp {H H2 : Hp} {b : Bd} {vo vp : V} (h : BoardAt H b vo vp) (k : Kp H H2) : BoardAt H2 b vo vp := ⟨h.1.kp k, h.2.kp k⟩
theorem eqv_wait (d : Deed) : PyData.eqv (pyDeed d.raw) (.tuple [.str "wait"]) = decide (d = .wait) := by
  cases d <;> simp [pyDeed, Deed.raw, PyData.eqv, PyData.eqvAll, ofS_inj, ofS_beq]
theorem sh_deed (d : Deed) : SeqAt.shaped (pyDeed d.raw) = true := by
  refine (sh_tup (n := 0) fun e he => ?_).shaped
  cases d <;> simp only [Deed.raw, List.map_cons, List.map_nil, List.mem_cons, List.not_mem_nil, or_false] at he
  · rcases he with rfl | rfl | rfl
    · exact sh_str (by decide +kernel)
    · exact sh_int
    · exact sh_int
  · rcases he with rfl | rfl | rfl
    · exact sh_str (by decide +kernel)
    · exact sh_int
    · exact sh_int
  · rcases he with rfl | rfl
    · exact sh_str (by decide +kernel)
    · exact sh_int
  · rcases he with rfl | rfl
    · exact sh_str (by decide +kernel)
    · exact sh_int
  · rcases he with rfl
    exact sh_str (by decide +kernel)
  · rcases he with rfl | rfl
    · exact sh_str (by decide +kernel)
    · exact sh_int
  · rcases he with rfl | rfl
    · exact sh_str (by decide +kernel)
    · exact sh_int
theorem st_eqWait {K : PySem.W.Frag} {H H0 : Hp} {Q : VK} {v : V} {t : Addr} {d : Deed} (h : Im H0 (pyDeed d.raw) v) (k : Kp H0 H) (ht : H t = some (.tup [.str "wait"])) (q : Q (.bl (decide (d = .wait))) H) : rEqD K v (.ref t) H Q := by
  refine st_eqD ((h.kp k).dp _ _) ((im_tup ht (iml_cons im_str iml_nil)).dp _ _) (sh_deed d) (sh_deed .wait) ?_
  rw [eqv_wait]
  exact q
theorem st_sorted {K : PySem.W.Frag} {H : Hp} {Q : VK} {a : Addr} {kvs : List (Key × V)} {es : List HE} {cs : List Addr} (h : H a = some (.dK kvs)) (hR : HeldR H kvs es cs) (hl : es.length < 64)
    (q : ∀ (ys : List Int) p H2, ys.Perm (es.map fun e => (e.1 : Int)) → ys.Pairwise (· ≤ ·) → H p = none → Ex H H2 → H2 p = some (.lst (ys.map V.int)) → Q (.ref p) H2) :
    ∃ (a' : Addr) (kvs : List (Key × V)) (ks : List Int), [V.ref a] = [.ref a'] ∧ Rd H a' (.dK kvs) ∧ kvs.map (·.1) = ks.map Sum.inl ∧ ks.length < 64 ∧
      ∀ (ys : List Int) (p : Addr), ys.Perm ks → ys.Pairwise (· ≤ ·) → H p = none → Q (.ref p) (upd H p (.lst (ys.map V.int))) :=
  ⟨a, kvs, _, rfl, .inl h, hR.keys, by rw [List.length_map]; exact hl, fun ys p h1 h2 hp => q ys p _ h1 h2 hp (Ex.new hp) upd_same⟩
theorem iml_bls {H : Hp} : ∀ {bs : List Bool}, ImL H (bs.map PyData.bool) (bs.map V.bl)
  | [] => iml_nil
  | _ :: _ => iml_cons im_bl iml_bls
theorem sh_bls {bs : List Bool} : SeqAt.shaped (.list (bs.map PyData.bool)) = true := (sh_lst (n := 0) fun d hd => by
  obtain ⟨m, _, rfl⟩ := List.mem_map.mp hd
  exact sh_bool).shaped
theorem st_neBl {K : PySem.W.Frag} {H : Hp} {Q : VK} {a b : Addr} {bs : List Bool} (ha : H a = some (.lst (bs.map V.bl))) (hb : H b = some (.lst [])) (q : Q (.bl (!bs.isEmpty)) H) : rNeD K (.ref a) (.ref b) H Q := by
  refine st_neD (lst_dp ha iml_bls) (lst_dp hb iml_nil) sh_bls sh_lnil ?_
  rw [eqv_lnil, show (bs.map PyData.bool).isEmpty = bs.isEmpty by cases bs <;> rfl]
  exact q
def saidOf (rs : List Row) : List Int := (rs.filter fun r => decide (r.2.1 = ("say" : Str))).map fun r => r.2.2.2
/-- [row[3] for row in rows if row[1] == "say"] -/
theorem st_said {K : PySem.W.Frag} {σ : L2.St} {H1 : Hp} {Q : VK} {l : Addr} {i : Nat} {own : List Nat} {rs : List Row} {xs : List V} (h : H1 l = some (.lst xs)) (hi : ImL H1 (rs.map pyRow) xs) (hn : rs.length ≤ 50000)
    (hv : ∀ v, ((wipe σ own).set i (some v))[i]? = some (some v)) (hw : ∀ v, wipe ((wipe σ own).set i (some v)) own = wipe σ own)
    (q : ∀ D H2, H1 D = none → Ex H1 H2 → H2 D = some (.lst ((saidOf rs).map V.int)) → Q (.ref D) H2) :
    LcL K (gName i) (tTest (tOp rEq (tOp (rIxT K) (tVar i) (tC (.int 1))) (tC (.str "say")))) (tOp (rIxT K) (tVar i) (tC (.int 3))) own σ (.ref l) H1 Q := by
  refine st_lcList (SqL.of h) fun D H2 nD e2 hD => ?_
  refine ⟨fun j H' => Ex H1 H' ∧ H' D = some (.lst ((saidOf (rs.take j)).map V.int)), ⟨e2, hD⟩, fun j H' hh => SqL.of (hh.1 _ _ h), fun j v H' hv1 hh => ?_, fun H' hh => ?_⟩
  · obtain ⟨e', hacc⟩ := hh
    obtain ⟨dd, g1, g2⟩ := hi.get' hv1
    obtain ⟨r, g3, rfl⟩ := map_at' g1
    refine st_name ⟨hw v, ?_⟩
    have g2' := g2.ex e'
    refine st_test (st_op (st_op (st_var (hv v) (st_c ?_))))
    refine st_ixT_str g2' (Kp.refl _) (atI_nat (j := 1) rfl) ?_
    refine st_c (st_eqS (st_bl ?_))
    have ht : rs.take (j + 1) = rs.take j ++ [r] := by rw [List.take_add_one, g3]; rfl
    refine st_D (fun hs => ?_) (fun hs => ?_)
    · refine st_op (st_var (hv v) (st_c ?_))
      refine st_ixT_int g2' (Kp.refl _) (atI_nat (j := 3) rfl) ?_
      have hl : ((saidOf (rs.take j)).map V.int).length ≤ rs.length := by
        rw [List.length_map]
        unfold saidOf
        rw [List.length_map]
        exact Nat.le_trans (List.length_filter_le _ _) (by rw [List.length_take]; omega)
      refine st_lcPut hacc (by omega) fun H5 f5 k5 h5 => ?_
      refine ⟨Fr.ex e' (fun a ha => by rw [List.mem_singleton.mp ha]; exact nD) f5, ?_⟩
      rw [h5, ht]
      unfold saidOf
      rw [List.filter_append, List.filter_cons, if_pos (decide_eq_true hs)]
      simp
    · refine ⟨e', ?_⟩
      rw [hacc, ht]
      unfold saidOf
      rw [List.filter_append, List.filter_cons, if_neg (by simpa using hs)]
      simp
  · obtain ⟨e', hacc⟩ := hh
    rw [hi.length, List.length_map, List.take_length] at hacc
    exact q D H' nD e' hacc
/-- how much a run tells -/
theorem run_going {b : Bd} (g : Good b) : ∀ (n : Nat) {M : MS} (pace : List Bool), Going b M → Going b (MS.run b n M pace)
  | 0, _, _, h => h
  | n + 1, M, pace, h => by
    show Going b (if M.over b = true then M else _)
    by_cases ho : M.over b = true
    · rw [if_pos ho]
      exact h
    · rw [if_neg ho]
      exact run_going g n _ (h.beat g (by simpa using ho) pace)
theorem gone_ok {b : Bd} (g : Good b) (pace : List Bool) : (goneOf b pace).Ok b.mem.length ∧ (goneOf b pace).rows.length ≤ 18010 ∧ (goneOf b pace).beats ≤ 1980 := by
  have h := run_going g 1980 pace (Going.init g)
  have gr := cleans_grew (List.range 4) (MS.run b 1980 (MS.init b) pace)
  have h1 := h.rows'
  have h2 := h.far
  have h3 := gr.rows
  have h4 := gr.beats
  rw [List.length_range] at h3
  have e : goneOf b pace = (List.range 4).foldl MS.clean (MS.run b 1980 (MS.init b) pace) := rfl
  rw [e]
  exact ⟨cleans_ok _ h.ok, by omega, by rw [h4]; omega⟩
def MS.start (ns : List Int) : MS := ⟨ns, [], [], 0, 0, [], false, 0, 0⟩
/-- the parts of a board, memory a list or a tuple -/
def Parts (H : Hp) (x vo vp : V) (ns : List Int) : Prop := ∃ ax am, x = .ref ax ∧ H ax = some (.tup [.ref am, vo, vp]) ∧ (H am = some (.lst (ns.map V.int)) ∨ H am = some (.tup (ns.map V.int)))
theorem Im.parts {H : Hp} {b : Bd} {x : V} (h : Im H (pyB b.raw) x) : ∃ vo vp, Parts H x vo vp b.mem ∧ BoardAt H b vo vp := by
  obtain ⟨ax, xs, rfl, hax, hxs⟩ := h.tup
  obtain ⟨vm, xs, rfl, hm, hxs⟩ := hxs.cons_inv
  obtain ⟨vo, xs, rfl, hos, hxs⟩ := hxs.cons_inv
  obtain ⟨vp, xs, rfl, hpr, hxs⟩ := hxs.cons_inv
  cases hxs.nil_inv
  obtain ⟨am, xm, rfl, ham, hxm⟩ := hm.tup
  cases ImL.ints.mp hxm
  exact ⟨vo, vp, ⟨ax, am, rfl, hax, .inr ham⟩, hos, hpr⟩
theorem BoxAt.new {H : Hp} {b l D : Addr} (h : BoxAt H b l) (n : H D = none) : D ∉ [b, l] := by
  obtain ⟨_, h1, _⟩ := h.box
  obtain ⟨_, h2⟩ := h.nums
  simp only [List.mem_cons, List.not_mem_nil, or_false, not_or]
  exact ⟨fun z => (by rw [z, h1] at n; cases n), fun z => (by rw [z, h2] at n; cases n)⟩
theorem Dr.free {b l D : Addr} {H H1 : Hp} (d : Dr b l H H1) (n : H1 D = none) : H D = none := by
  cases e : H D with
  | none => rfl
  | some o =>
    have := d.1 D o e (d.2.2.new n)
    rw [this] at n
    cases n
theorem log_small {z : Int} (hz : z.natAbs < 512) : z.natAbs.log2 < 9000 := by
  have := Nat.log2_le_self z.natAbs
  omega
/-! ### the words of the rows -/
def RowsOk (M : MS) : Prop := ∀ r ∈ M.rows, PyData.strOk r.2.1 = true
section
variable {M : MS}
theorem RowsOk.note (h : RowsOk M) {w : Str} (hw : PyData.strOk w = true) (p : Nat) (k : Int) : RowsOk (M.note w p k) := fun r hr => by
  rcases List.mem_append.mp hr with hr | hr
  · exact h r hr
  · rw [List.mem_singleton.mp hr]
    exact hw
theorem RowsOk.take (h : RowsOk M) (l : Nat) : RowsOk (M.take l) := by
  unfold MS.take
  split
  · exact h
  · exact RowsOk.note (M := { M with held := _ }) h (by decide +kernel) _ _
theorem RowsOk.read (h : RowsOk M) (c : Nat) : RowsOk (M.read c) := (h.take _).note (by decide +kernel) _ _
theorem RowsOk.write (h : RowsOk M) (c : Nat) (v : Int) : RowsOk (M.write c v) := RowsOk.note (M := (M.take (c / 4)).put (c / 4) _) (h.take _) (by decide +kernel) _ _
theorem RowsOk.clean (h : RowsOk M) (l : Nat) : RowsOk (M.clean l) := by
  unfold MS.clean
  split
  · exact RowsOk.note (M := { M with mem := _, held := _ }) h (by decide +kernel) _ _
  · exact h
theorem RowsOk.drop (h : RowsOk M) (l : Nat) : RowsOk (M.drop l) := by
  unfold MS.drop
  split
  · exact RowsOk.note (M := { M with held := _ }) h (by decide +kernel) _ _
  · exact h
theorem RowsOk.deed (h : RowsOk M) (os : List Ord) (d : Deed) : RowsOk (M.deed os d) := by
  cases d with
  | set c k => exact h.write c _
  | add c o => exact ((h.read c).read o).write c _
  | say c => exact (h.read c).note (by decide +kernel) _ _
  | start k => exact RowsOk.note (M := { M with left := _ }) h (by decide +kernel) _ _
  | wait => exact h
  | clean l => exact h.clean l
  | drop l => exact h.drop l
theorem RowsOk.process (h : RowsOk M) (b : Bd) : RowsOk (M.process b) := by
  unfold MS.process
  split
  · exact h
  · split
    · exact RowsOk.deed (M := { M with idle := false, at_ := M.at_ + 1 }) h _ _
    · exact h
theorem RowsOk.bell (h : RowsOk M) (o : Option Nat) : RowsOk (M.bell o) := by
  cases o with
  | none => exact h
  | some k => exact h.note (by decide +kernel) _ _
theorem RowsOk.carry (h : RowsOk M) : RowsOk M.carry := by
  unfold MS.carry
  split
  · exact h
  · rename_i m r e
    have h1 : RowsOk (({ M with left := r } : MS).note "fetch" m.src (M.mem.getD m.src 0)) := RowsOk.note (M := { M with left := r }) h (by decide +kernel) _ _
    exact RowsOk.bell (RowsOk.note (M := { (({ M with left := r } : MS).note "fetch" m.src (M.mem.getD m.src 0)) with mem := M.mem.set m.dst (M.mem.getD m.src 0) }) h1 (by decide +kernel) _ _) _
theorem RowsOk.beat (h : RowsOk M) (b : Bd) (pace : List Bool) : RowsOk (M.beat b pace) := by
  unfold MS.beat MS.tick MS.moved
  split
  · exact (h.process b).carry
  · exact h.process b
theorem RowsOk.run (b : Bd) : ∀ (n : Nat) {M : MS} (pace : List Bool), RowsOk M → RowsOk (MS.run b n M pace)
  | 0, _, _, h => h
  | n + 1, M, pace, h => by
    show RowsOk (if M.over b = true then M else _)
    split
    · exact h
    · exact RowsOk.run b n _ (h.beat b pace)
theorem RowsOk.cleans : ∀ (ls : List Nat) {M : MS}, RowsOk M → RowsOk (ls.foldl MS.clean M)
  | [], _, h => h
  | l :: r, M, h => by
    rw [List.foldl_cons]
    exact RowsOk.cleans r (h.clean l)
theorem gone_rows (b : Bd) (pace : List Bool) : RowsOk (goneOf b pace) := RowsOk.cleans _ (RowsOk.run b 1980 pace fun r hr => by cases hr)
end
theorem al_rows {n : Nat} {M : MS} (h : RowsOk M) (hl : M.rows.length ≤ 100000) : Al (n + 2) (.list (M.rows.map pyRow)) := al_lst (by rw [List.length_map]; omega) fun d hd => by
  obtain ⟨r, hr, rfl⟩ := List.mem_map.mp hd
  refine al_tup (by simp) fun e he => ?_
  simp only [List.mem_cons, List.not_mem_nil, or_false] at he
  rcases he with rfl | rfl | rfl | rfl
  · exact al_int
  · exact al_str (h r hr)
  · exact al_int
  · exact al_int
theorem saidOf_len (rs : List Row) : (saidOf rs).length ≤ rs.length := by
  unfold saidOf
  rw [List.length_map]
  exact List.length_filter_le _ _
theorem st_neSame {K : PySem.W.Frag} {H : Hp} {Q : VK} {a b : Addr} {bs : List Bool} (ha : H a = some (.lst (bs.map V.bl))) (hb : H b = some (.lst (bs.map V.bl))) (q : Q (.bl false) H) : rNeD K (.ref a) (.ref b) H Q := by
  refine st_neD (lst_dp ha iml_bls) (lst_dp hb iml_bls) sh_bls sh_bls ?_
  rw [eqv_same (n := 1) (sh_lst fun d hd => by
    obtain ⟨m, _, rfl⟩ := List.mem_map.mp hd
    exact sh_bool)]
  exact q
end BC
/-! BCAmiss: the readings of a run stand in turn with those that are due. -/
namespace BC
open PySem PySem.Spec PyProof.Rows L2
def cellsOf (w : Str) (rs : List Row) : List Nat := (rs.filter fun r => decide (r.2.1 = w)).map fun r => r.2.2.1
theorem cellsOf_snoc (w w' : Str) (rs : List Row) (t p : Nat) (k : Int) : cellsOf w (rs ++ [(t, w', p, k)]) = cellsOf w rs ++ (if w' = w then [p] else []) := by
  unfold cellsOf
  rw [List.filter_append, List.filter_cons]
  by_cases h : w' = w
  · rw [if_pos (decide_eq_true h), if_pos h]
    simp
  · rw [if_neg (by simpa using h), if_neg h]
    simp
def readsOf : Deed → List Nat
  | .add c o => [c, o]
  | .say c => [c]
  | _ => []
def startMoves (os : List Ord) : Deed → List Mv
  | .start k => movesOf os k
  | _ => []
/-- what the rows tell more -/
structure Tells (M M2 : MS) (rd ft : List Nat) : Prop where
  rd : cellsOf "read" M2.rows = cellsOf "read" M.rows ++ rd
  ft : cellsOf "fetch" M2.rows = cellsOf "fetch" M.rows ++ ft
section
variable {M : MS}
theorem Tells.none {M2 : MS} (h : M2.rows = M.rows) : Tells M M2 [] [] := ⟨by rw [h]; simp, by rw [h]; simp⟩
theorem Tells.trans {M1 M2 : MS} {a b c d : List Nat} (h : Tells M M1 a b) (g : Tells M1 M2 c d) : Tells M M2 (a ++ c) (b ++ d) := ⟨by rw [g.rd, h.rd, List.append_assoc], by rw [g.ft, h.ft, List.append_assoc]⟩
theorem tells_note {w : Str} {p : Nat} {k : Int} : Tells M (M.note w p k) (if w = ("read" : Str) then [p] else []) (if w = ("fetch" : Str) then [p] else []) := ⟨cellsOf_snoc _ _ _ _ _ _, cellsOf_snoc _ _ _ _ _ _⟩
theorem tells_other {w : String} {p : Nat} {k : Int} (h1 : w ≠ "read") (h2 : w ≠ "fetch") : Tells M (M.note (Str.ofString w) p k) [] [] := by
  have := tells_note (M := M) (w := Str.ofString w) (p := p) (k := k)
  rwa [if_neg (fun z => h1 (ofS_inj.mp z)), if_neg (fun z => h2 (ofS_inj.mp z))] at this
theorem tells_via {M0 : MS} {w : String} {p : Nat} {k : Int} (h : M0.rows = M.rows) (h1 : w ≠ "read") (h2 : w ≠ "fetch") : Tells M (M0.note (Str.ofString w) p k) [] [] := by
  have := tells_other (M := M0) (p := p) (k := k) h1 h2
  exact ⟨by rw [this.rd, h], by rw [this.ft, h]⟩
theorem tells_take (l : Nat) : Tells M (M.take l) [] [] := by
  unfold MS.take
  split
  · exact Tells.none rfl
  · exact tells_via (w := "take") rfl (by decide) (by decide)
theorem tells_read (c : Nat) : Tells M (M.read c) [c] [] := by
  have h : Tells (M.take (c / 4)) (M.read c) [c] [] := by
    have := tells_note (M := M.take (c / 4)) (w := "read") (p := c) (k := M.val c)
    rwa [if_pos rfl, if_neg (fun z => by have := ofS_inj.mp z; simp at this)] at this
  exact (tells_take _).trans h
theorem tells_write (c : Nat) (v : Int) : Tells M (M.write c v) [] [] := by
  exact (tells_take (c / 4)).trans (tells_via (w := "write") (M0 := (M.take (c / 4)).put (c / 4) (((M.take (c / 4)).cells (c / 4)).set (c % 4) v, true)) rfl (by decide) (by decide))
theorem tells_clean (l : Nat) : Tells M (M.clean l) [] [] := by
  unfold MS.clean
  split
  · exact tells_via (w := "clean") rfl (by decide) (by decide)
  · exact Tells.none rfl
theorem tells_drop (l : Nat) : Tells M (M.drop l) [] [] := by
  unfold MS.drop
  split
  · exact tells_via (w := "drop") rfl (by decide) (by decide)
  · exact Tells.none rfl
theorem tells_deed (os : List Ord) (d : Deed) : Tells M (M.deed os d) (readsOf d) [] := by
  cases d with
  | set c k => exact tells_write c _
  | add c o => exact ((tells_read c).trans (tells_read o)).trans (tells_write c _)
  | say c => exact (tells_read c).trans (tells_other (w := "say") (by decide) (by decide))
  | start k => exact tells_via (w := "start") rfl (by decide) (by decide)
  | wait => exact Tells.none rfl
  | clean l => exact tells_clean l
  | drop l => exact tells_drop l
theorem deed_left (os : List Ord) (d : Deed) : (M.deed os d).left = M.left ++ startMoves os d ∧ (M.deed os d).at_ = M.at_ := by
  cases d with
  | set c k => exact ⟨by rw [show (M.deed os (.set c k)).left = M.left from (grew_write c _).left]; simp [startMoves], (grew_write c _).at_⟩
  | add c o =>
    have h := ((grew_read (M := M) c).trans (grew_read o)).trans (grew_write c ((M.val c + (M.read c).val o) % 10))
    exact ⟨by rw [show (M.deed os (.add c o)).left = M.left from h.left]; simp [startMoves], h.at_⟩
  | say c => exact ⟨by rw [show (M.deed os (.say c)).left = M.left from (grew_read c).left]; simp [startMoves], (grew_read c).at_⟩
  | start k => exact ⟨rfl, rfl⟩
  | wait => exact ⟨by simp [MS.deed, startMoves], rfl⟩
  | clean l => exact ⟨by rw [show (M.deed os (.clean l)).left = M.left from (grew_clean l).left]; simp [startMoves], (grew_clean l).at_⟩
  | drop l => exact ⟨by rw [show (M.deed os (.drop l)).left = M.left from (grew_drop l).left]; simp [startMoves], (grew_drop l).at_⟩
theorem tells_bell (o : Option Nat) : Tells M (M.bell o) [] [] := by
  cases o with
  | none => exact Tells.none rfl
  | some k => exact tells_other (w := "bell") (by decide) (by decide)
theorem tells_carry : Tells M M.carry [] (M.left.take 1 |>.map (·.src)) := by
  unfold MS.carry
  split
  · rename_i e
    rw [e]
    exact Tells.none rfl
  · rename_i m r e
    rw [e]
    have h1 : Tells ({ M with left := r } : MS) (({ M with left := r } : MS).note "fetch" m.src (M.mem.getD m.src 0)) [] [m.src] := by
      have := tells_note (M := { M with left := r }) (w := "fetch") (p := m.src) (k := M.mem.getD m.src 0)
      rwa [if_neg (fun z => by have := ofS_inj.mp z; simp at this), if_pos rfl] at this
    have h2 := (Tells.none (M := (({ M with left := r } : MS).note "fetch" m.src (M.mem.getD m.src 0))) (M2 := { (({ M with left := r } : MS).note "fetch" m.src (M.mem.getD m.src 0)) with mem := M.mem.set m.dst (M.mem.getD m.src 0) }) rfl).trans (tells_other (w := "put") (p := m.dst) (k := M.mem.getD m.src 0) (by decide) (by decide))
    exact (((Tells.none (M := M) (M2 := { M with left := r }) rfl).trans h1).trans h2).trans (tells_bell m.bell)
end
/-- the rows so far tell of just what is done so far -/
structure Told (b : Bd) (M : MS) : Prop where
  rd : cellsOf "read" M.rows = (b.prog.take M.at_).flatMap readsOf
  ft : cellsOf "fetch" M.rows ++ M.left.map (·.src) = ((b.prog.take M.at_).flatMap (startMoves b.ords)).map (·.src)
theorem Told.init (b : Bd) : Told b (MS.init b) := ⟨by simp [MS.init, cellsOf], by simp [MS.init, cellsOf]⟩
section
variable {b : Bd} {M : MS}
theorem Told.process (h : Told b M) : Told b (M.process b) := by
  unfold MS.process
  split
  · exact ⟨h.rd, h.ft⟩
  · split
    · rename_i d e
      obtain ⟨h1, h2⟩ := deed_left (M := { M with idle := false, at_ := M.at_ + 1 }) b.ords d
      have t := tells_deed (M := { M with idle := false, at_ := M.at_ + 1 }) b.ords d
      have et : b.prog.take (M.at_ + 1) = b.prog.take M.at_ ++ [d] := by rw [List.take_add_one, e]; rfl
      constructor
      · rw [t.rd, h2]
        show cellsOf "read" M.rows ++ readsOf d = (b.prog.take (M.at_ + 1)).flatMap readsOf
        rw [et, h.rd, List.flatMap_append]
        simp
      · rw [t.ft, h1, h2]
        show (cellsOf "fetch" M.rows ++ []) ++ (M.left ++ startMoves b.ords d).map (·.src) = ((b.prog.take (M.at_ + 1)).flatMap (startMoves b.ords)).map (·.src)
        rw [et, List.flatMap_append, List.map_append, List.map_append, ← h.ft]
        simp
    · exact h
theorem Told.carry (h : Told b M) : Told b M.carry := by
  obtain ⟨c1, c2, c3, c4, c5⟩ := carry_grew (M := M)
  have t := tells_carry (M := M)
  constructor
  · rw [t.rd, c1, List.append_nil]
    exact h.rd
  · rw [t.ft, c1, c4, ← h.ft, List.append_assoc]
    congr 1
    cases M.left <;> simp
theorem Told.beat (h : Told b M) (pace : List Bool) : Told b (M.beat b pace) := by
  unfold MS.beat MS.tick MS.moved
  split
  · exact ⟨h.process.carry.rd, h.process.carry.ft⟩
  · exact ⟨h.process.rd, h.process.ft⟩
theorem Told.run (b : Bd) : ∀ (n : Nat) {M : MS} (pace : List Bool), Told b M → Told b (MS.run b n M pace)
  | 0, _, _, h => h
  | n + 1, M, pace, h => by
    show Told b (if M.over b = true then M else _)
    split
    · exact h
    · exact Told.run b n _ (h.beat pace)
theorem run_over (g : Good b) : ∀ (n : Nat) {M : MS} (pace : List Bool), M.fuel b ≤ n → (MS.run b n M pace).over b = true
  | 0, M, _, h => by
    show M.over b = true
    unfold MS.fuel at h
    unfold MS.over
    rw [List.length_eq_zero_iff.mp (show M.left.length = 0 by omega), decide_eq_true (by omega)]
    rfl
  | n + 1, M, pace, h => by
    show (if M.over b = true then M else _).over b = true
    by_cases ho : M.over b = true
    · rw [if_pos ho]
      exact ho
    · rw [if_neg ho]
      have := beat_less g (by simpa using ho) pace
      exact run_over g n _ (by omega)
theorem cleans_tells : ∀ (ls : List Nat) (M : MS), Tells M (ls.foldl MS.clean M) [] []
  | [], _ => Tells.none rfl
  | l :: r, M => by
    rw [List.foldl_cons]
    exact (tells_clean l).trans (cleans_tells r _)
end
/-- the whole run -/
theorem gone_told {b : Bd} (g : Good b) (pace : List Bool) : cellsOf "read" (goneOf b pace).rows = b.prog.flatMap readsOf ∧ cellsOf "fetch" (goneOf b pace).rows = (b.prog.flatMap (startMoves b.ords)).map (·.src) := by
  have h := Told.run b 1980 pace (Told.init b)
  have ho := run_over g 1980 pace (show (MS.init b).fuel b ≤ 1980 by have := (Going.init g).far; omega)
  have t := cleans_tells (List.range 4) (MS.run b 1980 (MS.init b) pace)
  have e : goneOf b pace = (List.range 4).foldl MS.clean (MS.run b 1980 (MS.init b) pace) := rfl
  rw [e, t.rd, t.ft, List.append_nil, List.append_nil]
  unfold MS.over at ho
  simp only [Bool.and_eq_true, decide_eq_true_eq, List.isEmpty_iff] at ho
  have h1 := h.rd
  have h2 := h.ft
  rw [List.take_of_length_le ho.1] at h1 h2
  rw [ho.2] at h2
  exact ⟨h1, by simpa using h2⟩
theorem plain_fetches : ∀ (ms : List Mv) (S : PS), (ms.foldl PS.move S).fetches.map (·.1) = S.fetches.map (·.1) ++ ms.map (·.src) ∧ (ms.foldl PS.move S).reads = S.reads
  | [], S => by simp
  | m :: r, S => by
    obtain ⟨h1, h2⟩ := plain_fetches r (S.move m)
    rw [List.foldl_cons, h1, h2]
    simp [PS.move]
theorem plain_deed (os : List Ord) (S : PS) (d : Deed) : (PS.deed os S d).reads.map (·.1) = S.reads.map (·.1) ++ readsOf d ∧ (PS.deed os S d).fetches.map (·.1) = S.fetches.map (·.1) ++ (startMoves os d).map (·.src) := by
  cases d with
  | start k =>
    obtain ⟨h1, h2⟩ := plain_fetches (movesOf os k) S
    exact ⟨by show (((movesOf os k).foldl PS.move S).reads).map _ = _; rw [h2]; simp [readsOf], h1⟩
  | _ => simp [PS.deed, PS.set, PS.look, readsOf, startMoves]
theorem plain_told (os : List Ord) : ∀ (p : List Deed) (S : PS), (p.foldl (PS.deed os) S).reads.map (·.1) = S.reads.map (·.1) ++ p.flatMap readsOf ∧ (p.foldl (PS.deed os) S).fetches.map (·.1) = S.fetches.map (·.1) ++ (p.flatMap (startMoves os)).map (·.src)
  | [], S => by simp
  | d :: r, S => by
    obtain ⟨h1, h2⟩ := plain_told os r (PS.deed os S d)
    obtain ⟨g1, g2⟩ := plain_deed os S d
    rw [List.foldl_cons, h1, h2, g1, g2]
    simp
/-- as many readings as are due -/
theorem reads_due {b : Bd} (g : Good b) (pace : List Bool) : cellsOf "read" (goneOf b pace).rows = (plainOf b).reads.map (·.1) ∧ cellsOf "fetch" (goneOf b pace).rows = (plainOf b).fetches.map (·.1) := by
  obtain ⟨h1, h2⟩ := gone_told g pace
  obtain ⟨p1, p2⟩ := plain_told b.ords b.prog (PS.init b.mem)
  constructor
  · rw [h1]
    exact p1.symm
  · rw [h2]
    exact p2.symm
/-! ### what is amiss -/
structure AS where
  rs : List (Nat × Int)
  fs : List (Nat × Int)
  found : List Row
def AS.step (S : AS) (r : Row) : AS :=
  if r.2.1 = ("read" : Str) then { S with rs := S.rs.tail, found := S.found ++ (if S.rs.head? = some r.2.2 then [] else [r]) }
  else if r.2.1 = ("fetch" : Str) then { S with fs := S.fs.tail, found := S.found ++ (if S.fs.head? = some r.2.2 then [] else [r]) } else S
def endRow (beats : Nat) (mem aim : List Int) (c : Nat) : List Row := if mem.getD c 0 = aim.getD c 0 then [] else [(beats, "end", c, mem.getD c 0)]
def amissRows (b : Bd) (pace : List Bool) : AS := (goneOf b pace).rows.foldl AS.step ⟨(plainOf b).reads, (plainOf b).fetches, []⟩
def amissOf (b : Bd) (pace : List Bool) : List Row := (amissRows b pace).found ++ (List.range (goneOf b pace).mem.length).flatMap (endRow (goneOf b pace).beats (goneOf b pace).mem (plainOf b).mem)
theorem step_lens (rows : List Row) (S : AS) : (rows.foldl AS.step S).rs.length = S.rs.length - (cellsOf "read" rows).length ∧ (rows.foldl AS.step S).fs.length = S.fs.length - (cellsOf "fetch" rows).length ∧ (rows.foldl AS.step S).found.length ≤ S.found.length + rows.length := by
  induction rows generalizing S with
  | nil => simp [cellsOf]
  | cons r rest ih =>
    obtain ⟨h1, h2, h3⟩ := ih (S.step r)
    have ne : (Str.ofString "fetch") ≠ Str.ofString "read" := fun z => by have := ofS_inj.mp z; simp at this
    rw [List.foldl_cons, h1, h2]
    unfold AS.step at h3 ⊢
    by_cases e1 : r.2.1 = ("read" : Str)
    · rw [if_pos e1] at h3 ⊢
      have c1 : cellsOf "read" (r :: rest) = r.2.2.1 :: cellsOf "read" rest := by
        unfold cellsOf
        rw [List.filter_cons, if_pos (decide_eq_true e1)]
        rfl
      have c2 : cellsOf "fetch" (r :: rest) = cellsOf "fetch" rest := by
        unfold cellsOf
        rw [List.filter_cons, if_neg (by rw [e1]; simpa using ne.symm)]
      rw [c1, c2]
      refine ⟨by simp; omega, rfl, Nat.le_trans h3 ?_⟩
      simp only [List.length_append, List.length_cons]
      split <;> simp <;> omega
    · rw [if_neg e1] at h3 ⊢
      have c1 : cellsOf "read" (r :: rest) = cellsOf "read" rest := by
        unfold cellsOf
        rw [List.filter_cons, if_neg (by simpa using e1)]
      rw [c1]
      by_cases e2 : r.2.1 = ("fetch" : Str)
      · rw [if_pos e2] at h3 ⊢
        have c2 : cellsOf "fetch" (r :: rest) = r.2.2.1 :: cellsOf "fetch" rest := by
          unfold cellsOf
          rw [List.filter_cons, if_pos (decide_eq_true e2)]
          rfl
        rw [c2]
        refine ⟨rfl, by simp; omega, Nat.le_trans h3 ?_⟩
        simp only [List.length_append, List.length_cons]
        split <;> simp <;> omega
      · rw [if_neg e2] at h3 ⊢
        have c2 : cellsOf "fetch" (r :: rest) = cellsOf "fetch" rest := by
          unfold cellsOf
          rw [List.filter_cons, if_neg (by simpa using e2)]
        rw [c2]
        exact ⟨rfl, rfl, by simp only [List.length_cons]; omega⟩
/-- where the next row is a read there is one that is due -/
theorem due_left {b : Bd} (g : Good b) (pace : List Bool) {i : Nat} {r : Row} (hi : (goneOf b pace).rows[i]? = some r) :
    (r.2.1 = ("read" : Str) → (((goneOf b pace).rows.take i).foldl AS.step ⟨(plainOf b).reads, (plainOf b).fetches, []⟩).rs ≠ []) ∧ (r.2.1 = ("fetch" : Str) → (((goneOf b pace).rows.take i).foldl AS.step ⟨(plainOf b).reads, (plainOf b).fetches, []⟩).fs ≠ []) := by
  obtain ⟨d1, d2⟩ := reads_due g pace
  obtain ⟨s1, s2, _⟩ := step_lens ((goneOf b pace).rows.take i) ⟨(plainOf b).reads, (plainOf b).fetches, []⟩
  have key : ∀ (w : Str), r.2.1 = w → (cellsOf w ((goneOf b pace).rows.take i)).length < (cellsOf w (goneOf b pace).rows).length := by
    intro w hw
    have e : (goneOf b pace).rows = (goneOf b pace).rows.take i ++ r :: (goneOf b pace).rows.drop (i + 1) := by
      have := List.getElem?_eq_some_iff.mp hi
      obtain ⟨h, e⟩ := this
      rw [← e, ← List.drop_eq_getElem_cons h, List.take_append_drop]
    rw [e]
    unfold cellsOf
    simp only [List.take_append_drop, List.filter_append, List.map_append, List.length_append, List.filter_cons, if_pos (decide_eq_true hw), List.map_cons, List.length_cons]
    rw [← e]
    omega
  constructor
  · intro hw z
    have := key _ hw
    rw [d1] at this
    rw [z] at s1
    simp at s1 this
    omega
  · intro hw z
    have := key _ hw
    rw [d2] at this
    rw [z] at s2
    simp at s2 this
    omega
theorem amissOf_len {b : Bd} (g : Good b) (pace : List Bool) : (amissOf b pace).length ≤ 18100 := by
  obtain ⟨g1, g2, g3⟩ := gone_ok g pace
  obtain ⟨_, _, s3⟩ := step_lens (goneOf b pace).rows ⟨(plainOf b).reads, (plainOf b).fetches, []⟩
  have hl := g1.len
  have gl := g.lines
  have key : ∀ (ls : List Nat), (ls.flatMap (endRow (goneOf b pace).beats (goneOf b pace).mem (plainOf b).mem)).length ≤ ls.length := by
    intro ls
    induction ls with
    | nil => simp
    | cons l r ih =>
      rw [List.flatMap_cons, List.length_append, List.length_cons]
      have : (endRow (goneOf b pace).beats (goneOf b pace).mem (plainOf b).mem l).length ≤ 1 := by
        unfold endRow
        split <;> simp
      omega
  unfold amissOf
  rw [List.length_append]
  have h1 := key (List.range (goneOf b pace).mem.length)
  rw [List.length_range] at h1
  have h2 : (amissRows b pace).found.length ≤ 0 + (goneOf b pace).rows.length := s3
  omega
end BC
/-! BCMore: enumerate over a list, ends of rows, what is compared. -/
namespace BC
open PySem PySem.Spec PyProof.Rows L2
def EnL (K : PySem.W.Frag) (g : TG) (tb : TS) (D : Ends) (σ : L2.St) (us : List V) (H1 : Hp) : Prop := ∃ a xs, us = [.ref a] ∧ SqL K H1 a xs ∧ ∃ W : Nat → Nat → L2.St → Hp → Prop, (∃ m, W 0 m σ H1) ∧ ∀ i m σ H, W i m σ H →
  ((Ite K a).stop i H ∧ D.nx σ H) ∨ ((Ite K a).go i H ∧ ∃ N : L2.St → Hp → Prop, (∀ σ' H', N σ' H' → ∃ m', m' < m ∧ W (i + 1) m' σ' H') ∧ ∀ x H', (Ite K a).yld i H x H' → g x σ H' fun σ2 H2 => tb { D with nx := N, ct := N, bk := D.nx } σ2 H2)
section
variable {K : PySem.W.Frag} {σ : L2.St} {H H0 H1 : Hp} {D : Ends} {Q : VK} {te : TE} {ta : TA} {g : TG} {tb : TS} {x : V} {l : Addr} {xs : List V} {ds : List PyData}
theorem st_wE (h : ta σ H fun us H1 => EnL K g tb D σ us H1) : tFor (iEnum K ta) g tb D σ H := h
theorem st_walkE {m1 m2 : Nat} (h : H l = some (.lst xs)) (Pv : Nat → L2.St → Hp → Prop) (h0 : Pv 0 σ H) (hk : ∀ m σ' H', Pv m σ' H' → H' l = some (.lst xs))
    (hs : ∀ (m : Nat) v σ' H' H'', xs[m]? = some v → Pv m σ' H' → Ex H' H'' → tb { D with nx := Pv (m + 1), ct := Pv (m + 1), bk := D.nx } ((σ'.set m1 (some (.int (m : Int)))).set m2 (some v)) H'')
    (hd : ∀ σ' H', Pv xs.length σ' H' → D.nx σ' H') : EnL K (gTup K 2 (gCons (gName m1) (gCons (gName m2) gNil))) tb D σ [.ref l] H := by
  refine ⟨l, xs, rfl, SqL.of h, for_it (walk_enum (K := K) (a := l) (xs := xs)) Pv h0 (fun m σ' H' _ p => SqL.of (hk m σ' H' p)) (fun m v σ' H' H'' hlt p y => ?_) hd⟩
  obtain ⟨T, y1, y2, rfl, f, rfl, ee1, e2⟩ := y
  have ee1' : y1 = .int (m : Int) := (Option.some.inj ee1).symm
  subst ee1'
  refine ⟨T, [.int (m : Int), y2], rfl, SqT.of upd_same, rfl, _, [y2], rfl, y2, [], rfl, rfl, ?_⟩
  exact hs m y2 σ' H' _ e2 p (Ex.new f)
/-- t[k:] of what never changes -/
theorem st_slFrom {k : Nat} (h : Im H0 (.tuple ds) x) (k0 : Kp H0 H) (hk : k ≤ ds.length) (q : ∀ v H2, Ex H H2 → Im H2 (.tuple (ds.drop k)) v → Q v H2) : rSlA K x (some (k : Int)) none H Q := by
  obtain ⟨a, xs, rfl, ha, ix⟩ := (h.kp k0).tup
  have hl := ix.length
  refine ⟨a, xs, rfl, SqT.of ha, fun z => ?_, fun _ p hp => ?_⟩
  · rw [HT.sIx_nat] at z
    have : k = 0 := by omega
    subst this
    exact q _ H (Ex.refl _) (im_tup ha ix)
  · rw [cut_from (by omega)]
    exact q _ _ (Ex.new hp) (im_tup upd_same ((ix.ex (Ex.new hp)).drop k))
end
theorem eqv_seen (a b : Nat × Int) : PyData.eqv (pySeen a) (pySeen b) = decide (a = b) := by
  obtain ⟨a1, a2⟩ := a
  obtain ⟨b1, b2⟩ := b
  by_cases h1 : a1 = b1
  · by_cases h2 : a2 = b2
    · simp [pySeen, PyData.eqv, PyData.eqvAll, h1, h2]
    · simp [pySeen, PyData.eqv, PyData.eqvAll, h1, h2]
  · have : ((a1 : Int) = (b1 : Int)) = False := by simp; omega
    simp [pySeen, PyData.eqv, PyData.eqvAll, h1, this]
theorem sh_seen {n : Nat} (s : Nat × Int) : Sh (n + 1) (pySeen s) := sh_tup fun d hd => by
  simp only [List.mem_cons, List.not_mem_nil, or_false] at hd
  rcases hd with rfl | rfl
  · exact sh_int
  · exact sh_int
theorem st_neSeen {K : PySem.W.Frag} {H H0 H1 : Hp} {Q : VK} {x y : V} {a b : Nat × Int} (hx : Im H0 (pySeen a) x) (k0 : Kp H0 H) (hy : Im H1 (pySeen b) y) (k1 : Kp H1 H) (q : Q (.bl (!decide (a = b))) H) : rNeD K x y H Q := by
  refine st_neD ((hx.kp k0).dp _ _) ((hy.kp k1).dp _ _) (sh_seen (n := 0) a).shaped (sh_seen (n := 0) b).shaped ?_
  rw [eqv_seen]
  exact q
/-! the lists of what is due, and of what is found -/
structure AmL (H : Hp) (rd ff fo : Addr) (S : AS) : Prop where
  r : ∃ xs, H rd = some (.lst xs) ∧ ImL H (S.rs.map pySeen) xs
  f : ∃ xs, H ff = some (.lst xs) ∧ ImL H (S.fs.map pySeen) xs
  o : ∃ xs, H fo = some (.lst xs) ∧ ImL H (S.found.map pyRow) xs
section
variable {H H2 : Hp} {rd ff fo : Addr} {S : AS}
theorem AmL.ex (h : AmL H rd ff fo S) (e : Ex H H2) : AmL H2 rd ff fo S := by
  obtain ⟨⟨x, a1, a2⟩, ⟨y, b1, b2⟩, ⟨z, c1, c2⟩⟩ := h
  exact ⟨⟨x, e _ _ a1, a2.ex e⟩, ⟨y, e _ _ b1, b2.ex e⟩, ⟨z, e _ _ c1, c2.ex e⟩⟩
theorem AmL.setR (h : AmL H rd ff fo S) (n : [rd, ff, fo].Nodup) (f : Fr [rd] H H2) (k : Kp H H2) {rs : List (Nat × Int)} {xs : List V} (h2 : H2 rd = some (.lst xs)) (i2 : ImL H2 (rs.map pySeen) xs) : AmL H2 rd ff fo { S with rs := rs } := by
  simp only [List.nodup_cons, List.mem_cons, List.not_mem_nil, or_false, not_or] at n
  obtain ⟨_, ⟨y, b1, b2⟩, ⟨z, c1, c2⟩⟩ := h
  exact ⟨⟨xs, h2, i2⟩, ⟨y, fr1 f b1 (fun z => n.1.1 z.symm), b2.kp k⟩, ⟨z, fr1 f c1 (fun z => n.1.2 z.symm), c2.kp k⟩⟩
theorem AmL.setF (h : AmL H rd ff fo S) (n : [rd, ff, fo].Nodup) (f : Fr [ff] H H2) (k : Kp H H2) {fs : List (Nat × Int)} {xs : List V} (h2 : H2 ff = some (.lst xs)) (i2 : ImL H2 (fs.map pySeen) xs) : AmL H2 rd ff fo { S with fs := fs } := by
  simp only [List.nodup_cons, List.mem_cons, List.not_mem_nil, or_false, not_or] at n
  obtain ⟨⟨x, a1, a2⟩, _, ⟨z, c1, c2⟩⟩ := h
  exact ⟨⟨x, fr1 f a1 (fun z => n.1.1 z), a2.kp k⟩, ⟨xs, h2, i2⟩, ⟨z, fr1 f c1 (fun z => n.2.1 z.symm), c2.kp k⟩⟩
theorem AmL.setO (h : AmL H rd ff fo S) (n : [rd, ff, fo].Nodup) (f : Fr [fo] H H2) (k : Kp H H2) {rows : List Row} {xs : List V} (h2 : H2 fo = some (.lst xs)) (i2 : ImL H2 (rows.map pyRow) xs) : AmL H2 rd ff fo { S with found := rows } := by
  simp only [List.nodup_cons, List.mem_cons, List.not_mem_nil, or_false, not_or] at n
  obtain ⟨⟨x, a1, a2⟩, ⟨y, b1, b2⟩, _⟩ := h
  exact ⟨⟨x, fr1 f a1 (fun z => n.1.2 z), a2.kp k⟩, ⟨y, fr1 f b1 (fun z => n.2.1 z), b2.kp k⟩, ⟨xs, h2, i2⟩⟩
end
end BC
/-! BCText: boards as texts: words, rows, what a text reads as. -/
namespace BC
open PySem PySem.Spec PyProof.Rows L2 TL
/-! ### words -/
def numS (n : Int) : Str := Str.ofString (toString n)
def optS : Option Int → Str
  | none => "-"
  | some n => numS n
abbrev wMem (m : List Int) : List Str := "memory" :: m.map numS
abbrev wOrd (o : ROrd) : List Str := ["order", numS o.1, numS o.2.1, numS o.2.2.1, optS o.2.2.2]
abbrev wDeed (d : RDeed) : List Str := d.1 :: d.2.map numS
def rowsW (b : RB) : List (List Str) := wMem b.mem :: (b.ords.map wOrd ++ b.prog.map wDeed)
def rowT (ws : List Str) : Str := Txt.join " " ws
def textOf (b : RB) : Str := Txt.join "\n" ((rowsW b).map rowT)
/-! ### signs -/
theorem tl_sp : tl (" " : Str) = [32] := by decide +kernel
theorem tl_nl : tl ("\n" : Str) = [10] := by decide +kernel
theorem joinL_cons (S p : List Nat) : ∀ ps : List (List Nat), joinL S (p :: ps) = p ++ ps.flatMap (S ++ ·)
  | [] => by simp [joinL]
  | q :: r => by
    show p ++ (S ++ joinL S (q :: r)) = _
    rw [joinL_cons S q r, List.flatMap_cons, List.append_assoc]
theorem tl_rowT (w : Str) (ws : List Str) : tl (rowT (w :: ws)) = tl w ++ ws.flatMap fun x => 32 :: tl x := by
  unfold rowT
  rw [join_eq, tl_join, tl_sp, List.map_cons, joinL_cons, List.flatMap_map]
  rfl
theorem tl_rows (p : Str) (ps : List Str) : tl (Txt.join "\n" (p :: ps)) = tl p ++ ps.flatMap fun x => 10 :: tl x := by
  rw [join_eq, tl_join, tl_nl, List.map_cons, joinL_cons, List.flatMap_map]
  rfl
/-- a word that may stand in a row -/
structure OkW (w : Str) : Prop where
  len : w.length ≤ 20
  nl : 10 ∉ tl w
  sp : 32 ∉ tl w
  ok : ∀ c ∈ tl w, c < 1114112
theorem OkW.by {w : Str} (h : (decide (w.length ≤ 20) && (tl w).all fun c => decide (c ≠ 10) && decide (c ≠ 32) && decide (c < 1114112)) = true) : OkW w := by
  simp only [Bool.and_eq_true, decide_eq_true_eq, List.all_eq_true] at h
  exact ⟨h.1, fun z => (h.2 _ z).1.1 rfl, fun z => (h.2 _ z).1.2 rfl, fun c z => (h.2 c z).2⟩
theorem okW_num100 : ∀ n : Nat, n < 100 → (decide ((numS (n : Int)).length ≤ 20) && (tl (numS (n : Int))).all fun c => decide (c ≠ 10) && decide (c ≠ 32) && decide (c < 1114112)) = true := by decide +kernel
/-- a number that a good board holds -/
def Sm (i : Int) : Prop := 0 ≤ i ∧ i < 100
theorem Sm.nat {i : Int} (h : Sm i) : ∃ n : Nat, n < 100 ∧ i = (n : Int) := ⟨i.toNat, by have := h.1; have := h.2; omega, by have := h.1; omega⟩
theorem okW_num {i : Int} (h : Sm i) : OkW (numS i) := by
  obtain ⟨n, hn, rfl⟩ := h.nat
  exact .by (okW_num100 n hn)
theorem okW_opt {o : Option Int} (h : ∀ i, o = some i → Sm i) : OkW (optS o) := by
  cases o with
  | none => exact .by (by decide +kernel)
  | some i => exact okW_num (h i rfl)
theorem okW_memory : OkW "memory" := .by (by decide +kernel)
theorem okW_order : OkW "order" := .by (by decide +kernel)
theorem okW_words : (["set", "add", "say", "start", "wait", "clean", "drop"] : List Str).all (fun w => decide (w.length ≤ 20) && (tl w).all fun c => decide (c ≠ 10) && decide (c ≠ 32) && decide (c < 1114112)) = true := by decide +kernel
theorem okW_deed (d : Deed) : OkW d.raw.1 := .by (List.all_eq_true.mp okW_words _ (by cases d <;> simp [Deed.raw]))
theorem join_len (y : Str) (ps : List Str) : (Txt.join y ps).length ≤ (ps.map (·.length)).sum + ps.length * y.length := by
  rw [join_eq, len_tl, tl_join]
  cases ps with
  | nil => simp [joinL]
  | cons p ps =>
    rw [List.map_cons, joinL_cons, List.length_append, List.map_cons, List.sum_cons, List.length_cons, len_tl p, len_tl y, Nat.succ_mul]
    have : ∀ qs : List Str, ((qs.map tl).flatMap (tl y ++ ·)).length ≤ (qs.map (·.length)).sum + qs.length * (tl y).length := by
      intro qs
      induction qs with
      | nil => simp
      | cons q qs ih =>
        rw [List.map_cons, List.flatMap_cons, List.length_append, List.length_append, List.map_cons, List.sum_cons, List.length_cons, Nat.succ_mul, len_tl q]
        omega
    have := this ps
    omega
theorem sum_le {α : Type} {f : α → Nat} {k : Nat} : ∀ {l : List α}, (∀ x ∈ l, f x ≤ k) → (l.map f).sum ≤ l.length * k
  | [], _ => by simp
  | x :: l, h => by
    rw [List.map_cons, List.sum_cons, List.length_cons, Nat.succ_mul]
    have := sum_le (l := l) fun y hy => h y (List.mem_cons_of_mem _ hy)
    have := h x List.mem_cons_self
    omega
theorem rowT_len {ws : List Str} (h : ∀ w ∈ ws, OkW w) : (rowT ws).length ≤ ws.length * 21 := by
  have h1 := join_len " " ws
  have h2 := sum_le (f := fun w : Str => w.length) (k := 20) (l := ws) fun w hw => (h w hw).len
  have h3 : (" " : Str).length = 1 := by decide +kernel
  rw [h3] at h1
  unfold rowT
  have : (ws.map fun w : Str => w.length) = ws.map (·.length) := rfl
  omega
theorem row_len {ws : List Str} (h : ∀ w ∈ ws, OkW w) : (ws.map (·.length)).sum + ws.length * (" " : Str).length ≤ ws.length * 21 := by
  have h2 := sum_le (f := fun w : Str => w.length) (k := 20) (l := ws) fun w hw => (h w hw).len
  have h3 : (" " : Str).length = 1 := by decide +kernel
  rw [h3]
  omega
theorem rowT_free {ws : List Str} (h : ∀ w ∈ ws, OkW w) : 10 ∉ tl (rowT ws) ∧ ∀ c ∈ tl (rowT ws), c < 1114112 := by
  cases ws with
  | nil => exact ⟨by decide +kernel, by decide +kernel⟩
  | cons w ws =>
    have key : ∀ c ∈ tl (rowT (w :: ws)), c = 32 ∨ ∃ x ∈ w :: ws, c ∈ tl x := fun c hc => by
      rw [tl_rowT] at hc
      rcases List.mem_append.mp hc with hc | hc
      · exact .inr ⟨w, List.mem_cons_self, hc⟩
      · obtain ⟨x, hx, hc⟩ := List.mem_flatMap.mp hc
        rcases List.mem_cons.mp hc with rfl | hc
        · exact .inl rfl
        · exact .inr ⟨x, List.mem_cons_of_mem _ hx, hc⟩
    refine ⟨fun z => ?_, fun c hc => ?_⟩
    · rcases key _ z with z | ⟨x, hx, hc⟩
      · cases z
      · exact (h x hx).nl hc
    · rcases key c hc with rfl | ⟨x, hx, hc⟩
      · decide
      · exact (h x hx).ok c hc
theorem split_row {ws : List Str} (h : ∀ w ∈ ws, OkW w) (hn : ws ≠ []) : Txt.split (rowT ws) " " = ws := split_join tl_sp (by decide +kernel) hn fun w hw => (h w hw).sp
theorem split_rows {ps : List Str} (h : ∀ p ∈ ps, 10 ∉ tl p) (hn : ps ≠ []) : Txt.split (Txt.join "\n" ps) "\n" = ps := split_join tl_nl (by decide +kernel) hn h
/-! ### the numbers of a good board -/
structure SmB (b : RB) : Prop where
  mem : ∀ n ∈ b.mem, Sm n
  ords : ∀ o ∈ b.ords, Sm o.1 ∧ Sm o.2.1 ∧ Sm o.2.2.1 ∧ ∀ i, o.2.2.2 = some i → Sm i
  prog : ∀ d ∈ b.prog, OkW d.1 ∧ (∀ n ∈ d.2, Sm n) ∧ d.2.length ≤ 2
theorem Good.sm {b : Bd} (g : Good b) : SmB b.raw := by
  have h16 : b.mem.length ≤ 19 := by
    have := g.lines
    omega
  have h4 := g.ords
  refine ⟨fun n hn => ?_, fun o ho => ?_, fun d hd => ?_⟩
  · have := g.digits n hn
    exact ⟨this.1, by omega⟩
  · obtain ⟨o, ho', rfl⟩ := List.mem_map.mp ho
    obtain ⟨k, hk⟩ := List.getElem?_of_mem ho'
    obtain ⟨_, h2, h3, h5, h6⟩ := g.ordsOk.ok k o hk
    refine ⟨⟨Int.natCast_nonneg _, by show ((o.src : Nat) : Int) < 100; omega⟩, ⟨Int.natCast_nonneg _, by show ((o.dst : Nat) : Int) < 100; omega⟩, ⟨Int.natCast_nonneg _, by show ((o.many : Nat) : Int) < 100; omega⟩, fun i hi => ?_⟩
    cases hl : o.later with
    | none =>
      have hi : oN o.later = some i := hi
      rw [hl] at hi
      cases hi
    | some m =>
      have hi : oN o.later = some i := hi
      rw [hl] at hi
      cases hi
      have := (h6 m hl).2
      exact ⟨Int.natCast_nonneg _, by omega⟩
  · obtain ⟨d, hd', rfl⟩ := List.mem_map.mp hd
    have hk := g.deeds d hd'
    have hw : OkW d.raw.1 := okW_deed d
    refine ⟨hw, ?_, by cases d <;> simp [Deed.raw]⟩
    cases d with
    | set c n =>
      intro x hx
      have hk : c < b.mem.length ∧ n ≤ 9 := hk
      have hx : x ∈ [(c : Int), (n : Int)] := hx
      simp only [List.mem_cons, List.not_mem_nil, or_false] at hx
      rcases hx with rfl | rfl <;> exact ⟨Int.natCast_nonneg _, by omega⟩
    | add c o =>
      intro x hx
      have hk : c < b.mem.length ∧ o < b.mem.length := hk
      have hx : x ∈ [(c : Int), (o : Int)] := hx
      simp only [List.mem_cons, List.not_mem_nil, or_false] at hx
      rcases hx with rfl | rfl <;> exact ⟨Int.natCast_nonneg _, by omega⟩
    | say c =>
      intro x hx
      have hk : c < b.mem.length := hk
      have hx : x ∈ [(c : Int)] := hx
      simp only [List.mem_cons, List.not_mem_nil, or_false] at hx
      subst hx
      exact ⟨Int.natCast_nonneg _, by omega⟩
    | start k =>
      intro x hx
      have hk : k < b.ords.length := hk
      have hx : x ∈ [(k : Int)] := hx
      simp only [List.mem_cons, List.not_mem_nil, or_false] at hx
      subst hx
      exact ⟨Int.natCast_nonneg _, by omega⟩
    | wait =>
      intro x hx
      have hx : x ∈ ([] : List Int) := hx
      cases hx
    | clean l =>
      intro x hx
      have hk : l < b.mem.length / 4 := hk
      have hx : x ∈ [(l : Int)] := hx
      simp only [List.mem_cons, List.not_mem_nil, or_false] at hx
      subst hx
      exact ⟨Int.natCast_nonneg _, by omega⟩
    | drop l =>
      intro x hx
      have hk : l < b.mem.length / 4 := hk
      have hx : x ∈ [(l : Int)] := hx
      simp only [List.mem_cons, List.not_mem_nil, or_false] at hx
      subst hx
      exact ⟨Int.natCast_nonneg _, by omega⟩
theorem SmB.wm {b : RB} (h : SmB b) : ∀ w ∈ wMem b.mem, OkW w := fun w hw => by
  rcases List.mem_cons.mp hw with rfl | hw
  · exact okW_memory
  · obtain ⟨n, hn, rfl⟩ := List.mem_map.mp hw
    exact okW_num (h.mem n hn)
theorem SmB.wo {b : RB} (h : SmB b) {o : ROrd} (ho : o ∈ b.ords) : ∀ w ∈ wOrd o, OkW w := fun w hw => by
  obtain ⟨h1, h2, h3, h4⟩ := h.ords o ho
  simp only [List.mem_cons, List.not_mem_nil, or_false] at hw
  rcases hw with rfl | rfl | rfl | rfl | rfl
  · exact okW_order
  · exact okW_num h1
  · exact okW_num h2
  · exact okW_num h3
  · exact okW_opt h4
theorem SmB.wd {b : RB} (h : SmB b) {d : RDeed} (hd : d ∈ b.prog) : ∀ w ∈ wDeed d, OkW w := fun w hw => by
  obtain ⟨h1, h2, _⟩ := h.prog d hd
  rcases List.mem_cons.mp hw with rfl | hw
  · exact h1
  · obtain ⟨n, hn, rfl⟩ := List.mem_map.mp hw
    exact okW_num (h2 n hn)
theorem SmB.rows {b : RB} (h : SmB b) : ∀ r ∈ rowsW b, ∀ w ∈ r, OkW w := fun r hr => by
  rcases List.mem_cons.mp hr with rfl | hr
  · exact h.wm
  · rcases List.mem_append.mp hr with hr | hr
    · obtain ⟨o, ho, rfl⟩ := List.mem_map.mp hr
      exact h.wo ho
    · obtain ⟨d, hd, rfl⟩ := List.mem_map.mp hr
      exact h.wd hd
theorem rowsW_len (b : RB) : (rowsW b).length = 1 + b.ords.length + b.prog.length := by
  unfold rowsW
  rw [List.length_cons, List.length_append, List.length_map, List.length_map]
  omega
theorem rowsW_ne {b : RB} : ∀ r ∈ rowsW b, r ≠ [] := fun r hr => by
  rcases List.mem_cons.mp hr with rfl | hr
  · simp
  · rcases List.mem_append.mp hr with hr | hr
    · obtain ⟨o, ho, rfl⟩ := List.mem_map.mp hr
      simp
    · obtain ⟨d, hd, rfl⟩ := List.mem_map.mp hr
      simp
/-- few words in each row -/
theorem SmB.few {b : RB} (h : SmB b) (hm : b.mem.length ≤ 19) : ∀ r ∈ rowsW b, r.length ≤ 20 := fun r hr => by
  rcases List.mem_cons.mp hr with rfl | hr
  · rw [List.length_cons, List.length_map]; omega
  · rcases List.mem_append.mp hr with hr | hr
    · obtain ⟨o, ho, rfl⟩ := List.mem_map.mp hr
      simp
    · obtain ⟨d, hd, rfl⟩ := List.mem_map.mp hr
      rw [List.length_cons, List.length_map]
      have := (h.prog d hd).2.2
      omega
theorem SmB.rowLen {b : RB} (h : SmB b) (hm : b.mem.length ≤ 19) : ∀ p ∈ (rowsW b).map rowT, p.length ≤ 420 := fun p hp => by
  obtain ⟨r, hr, rfl⟩ := List.mem_map.mp hp
  have h1 := rowT_len (h.rows r hr)
  have h2 := h.few hm r hr
  have : r.length * 21 ≤ 20 * 21 := Nat.mul_le_mul_right _ h2
  omega
theorem SmB.joinLen {b : RB} (h : SmB b) (hm : b.mem.length ≤ 19) (hr : (rowsW b).length ≤ 100) : (((rowsW b).map rowT).map (·.length)).sum + ((rowsW b).map rowT).length * ("\n" : Str).length ≤ 50000 := by
  have h2 := sum_le (f := fun w : Str => w.length) (k := 420) (l := (rowsW b).map rowT) (h.rowLen hm)
  have h3 : ("\n" : Str).length = 1 := by decide +kernel
  rw [h3]
  rw [List.length_map] at h2 ⊢
  have : (rowsW b).length * 420 ≤ 100 * 420 := Nat.mul_le_mul_right _ hr
  omega
theorem SmB.textLen {b : RB} (h : SmB b) (hm : b.mem.length ≤ 19) (hr : (rowsW b).length ≤ 100) : (textOf b).length ≤ 50000 := Nat.le_trans (join_len _ _) (h.joinLen hm hr)
theorem SmB.split {b : RB} (h : SmB b) : Txt.split (textOf b) "\n" = (rowsW b).map rowT := split_rows (fun p hp => by
  obtain ⟨r, hr, rfl⟩ := List.mem_map.mp hp
  exact (rowT_free (h.rows r hr)).1) (by unfold rowsW; simp)
theorem SmB.strOk {b : RB} (h : SmB b) : PyData.strOk (textOf b) = true := by
  have key : ∀ c ∈ tl (textOf b), c < 1114112 := by
    unfold textOf rowsW
    rw [List.map_cons, tl_rows]
    intro c hc
    rcases List.mem_append.mp hc with hc | hc
    · exact (rowT_free h.wm).2 c hc
    · obtain ⟨p, hp, hc⟩ := List.mem_flatMap.mp hc
      rcases List.mem_cons.mp hc with rfl | hc
      · decide
      · obtain ⟨r, hr, rfl⟩ := List.mem_map.mp hp
        exact (rowT_free (h.rows r (List.mem_cons_of_mem _ hr))).2 c hc
  unfold PyData.strOk
  rw [← Array.all_toList, List.all_eq_true]
  exact fun c hc => decide_eq_true (key c hc)
/-! ### what a word, a row reads as -/
def fig (c : Nat) : Bool := decide (48 ≤ c) && decide (c ≤ 57)
def numOf (w : Str) : Option Int :=
  if w = "" then none else if 9 < w.length then none else if (tl w).headD 0 = 48 ∧ w ≠ "0" then none else if (tl w).all fig = true then some ((NumText.digitsVal (tl w) : Nat) : Int) else none
theorem numOf_100 : ∀ n : Nat, n < 100 → numOf (numS (n : Int)) = some (n : Int) := by decide +kernel
theorem numOf_num {i : Int} (h : Sm i) : numOf (numS i) = some i := by
  obtain ⟨n, hn, rfl⟩ := h.nat
  exact numOf_100 n hn
theorem numOf_dash : numOf "-" = none := by decide +kernel
theorem numOf_opt {o : Option Int} (h : ∀ i, o = some i → Sm i) : numOf (optS o) = o := by
  cases o with
  | none => exact numOf_dash
  | some i => exact numOf_num (h i rfl)
theorem map_numOf : ∀ {ns : List Int}, (∀ n ∈ ns, Sm n) → (ns.map numS).map numOf = ns.map some
  | [], _ => rfl
  | n :: ns, h => by
    rw [List.map_cons, List.map_cons, List.map_cons, numOf_num (h n List.mem_cons_self), map_numOf fun m hm => h m (List.mem_cons_of_mem _ hm)]
def countsL : List (Str × Int) := [("set", 2), ("add", 2), ("say", 1), ("start", 1), ("wait", 0), ("clean", 1), ("drop", 1)]
def countOf (w : Str) : Int := (countsL.lookup w).getD (-1)
def rowOf (ws : List Str) : Option (Str × List (Option Int)) := match ws with
  | [] => none
  | w :: r =>
    let ns := r.map numOf
    if w = "order" then
      if ns.length ≠ 4 then none else if none ∈ ns.take 3 then none else if ns[3]? = some none ∧ r[3]? ≠ some ("-" : Str) then none else some (w, ns)
    else if none ∈ ns then none else if w ≠ "memory" ∧ countOf w ≠ (ns.length : Int) then none else some (w, ns)
theorem none_some (ns : List Int) : none ∉ ns.map (some : Int → Option Int) := fun h => by
  obtain ⟨_, _, z⟩ := List.mem_map.mp h
  cases z
theorem rowOf_mem {b : RB} (h : SmB b) : rowOf (wMem b.mem) = some (("memory" : Str), b.mem.map some) := by
  unfold rowOf
  simp only [map_numOf h.mem]
  rw [if_neg (by decide), if_neg (none_some _), if_neg (fun z => z.1 rfl)]
theorem rowOf_ord {b : RB} (h : SmB b) {o : ROrd} (ho : o ∈ b.ords) : rowOf (wOrd o) = some (("order" : Str), [some o.1, some o.2.1, some o.2.2.1, o.2.2.2]) := by
  obtain ⟨h1, h2, h3, h4⟩ := h.ords o ho
  unfold rowOf
  simp only [List.map_cons, List.map_nil, numOf_num h1, numOf_num h2, numOf_num h3, numOf_opt h4]
  rw [if_pos trivial, if_neg (by simp), if_neg (by simp), if_neg]
  rintro ⟨z1, z2⟩
  simp only [List.getElem?_cons_succ, List.getElem?_cons_zero, Option.some.injEq] at z1 z2
  rw [z1] at z2
  exact z2 rfl
theorem no_orders : (["set", "add", "say", "start", "wait", "clean", "drop"] : List Str).all (fun w => decide (w ≠ "order") && decide (w ≠ "memory")) = true := by decide +kernel
theorem deed_word (d : Deed) : d.raw.1 ∈ (["set", "add", "say", "start", "wait", "clean", "drop"] : List Str) := by cases d <;> simp [Deed.raw]
theorem no_order (d : Deed) : d.raw.1 ≠ "order" := by
  have := List.all_eq_true.mp no_orders _ (deed_word d)
  rw [Bool.and_eq_true, decide_eq_true_eq] at this
  exact this.1
theorem no_memory (d : Deed) : d.raw.1 ≠ "memory" := by
  have := List.all_eq_true.mp no_orders _ (deed_word d)
  rw [Bool.and_eq_true, decide_eq_true_eq, decide_eq_true_eq] at this
  exact this.2
theorem rowOf_deed {b : Bd} (g : Good b) {d : Deed} (hd : d ∈ b.prog) : rowOf (wDeed d.raw) = some (d.raw.1, d.raw.2.map some) := by
  have h := (g.sm.prog d.raw (List.mem_map_of_mem hd)).2.1
  unfold rowOf
  simp only [map_numOf h]
  have h1 : d.raw.1 ≠ "order" := no_order d
  have h2 : countOf d.raw.1 = ((d.raw.2.map (some : Int → Option Int)).length : Int) := by
    rw [List.length_map]
    cases d <;> (simp only [Deed.raw, List.length_cons, List.length_nil]; decide +kernel)
  rw [if_neg h1, if_neg (none_some _), if_neg (fun z => z.2 h2)]
end BC
/-! BCTextW: steps of walks over texts, lists of texts, a written dict's get. -/
namespace BC
open PySem PySem.Spec PyProof.Rows L2 TL
/-! ### a written dict of texts and numbers -/
def EntS : List DictEntry → List (Str × Int) → Prop
  | [], [] => True
  | e :: es, p :: ps => (∃ t, e.key = .str p.1 t) ∧ (∃ t, e.val = .int p.2 t) ∧ EntS es ps
  | _, _ => False
structure KTab (K : PySem.W.Frag) (w : World) (a : Addr) (ps : List (Str × Int)) : Prop where
  ex : ∃ es n, K.lookup a = some ⟨.type "dict", none, .dict es n, #[]⟩ ∧ PySem.W.KeysLit w.params es.toList ∧ EntS es.toList ps
  sys : (a == sysModules) = false
theorem entS_find {z : Str} : ∀ {es : List DictEntry} {ps : List (Str × Int)}, EntS es ps → RelO ((ps.lookup z).map V.int) ((es.find? fun e => Value.isStrOf z e.key).map (·.val))
  | [], [], _ => True.intro
  | e :: es, p :: ps, h => by
    obtain ⟨⟨t, h1⟩, ⟨u, h2⟩, h3⟩ := h
    obtain ⟨k, i⟩ := p
    have hb : Value.isStrOf z e.key = (z == k) := by
      rw [h1]
      show (k == z) = (z == k)
      exact Bool.eq_iff_iff.mpr ⟨fun q => by rw [beq_iff_eq.mp q]; exact beq_self_eq_true _, fun q => by rw [beq_iff_eq.mp q]; exact beq_self_eq_true _⟩
    rw [List.find?_cons, hb]
    simp only [List.lookup]
    cases z == k with
    | true => exact ⟨u, h2⟩
    | false => exact entS_find h3
  | [], _ :: _, h => h.elim
  | _ :: _, [], h => h.elim
def tKGet2 (K : PySem.W.Frag) (w : World) (td ty tx : TE) : TE := fun σ H Q => td σ H fun x H1 => ∃ a ps, x = .ref a ∧ KTab K w a ps ∧ ty σ H1 fun y H2 => ∃ z, y = .str z ∧ tx σ H2 fun d H3 => Q (((ps.lookup z).map V.int).getD d) H3
theorem pe_kget2 {X : Cx} {o e f : Expr} {apos cpos : Pos} {td ty tx : TE} (ho : PE X o td) (he : PE X e ty) (hf : PE X f tx) (m : M2 X o "get" apos e f cpos) : PE X (.Call (.Attribute o "get" apos) [e, f] [] cpos) (tKGet2 X.K X.w td ty tx) := by
  refine ⟨fun pins s σ H Q I h => ?_⟩
  refine wpAny_Call_method m.base m.few m.line PySem.F.plainAttrs_dict PySem.F.slot_dict_get PySem.F.type_dict_get (thn (ho.run pins s σ H _ I h) fun u s1 ⟨x, H1, I1, rx, a, ps, ex, d, q1⟩ => ?_)
  subst ex
  obtain rfl : u = Value.ref a := rx
  obtain ⟨⟨es, n, hl, hk, hes⟩, hs⟩ := d
  have hm1 := PySem.W.mapOf_K (prog := X.prog) (w := X.w) I1.kIn hl hk
  refine ⟨hm1.typeIs, fun b q => by cases q; exact ⟨_, I1.kIn _ _ hl, rfl⟩, ?_⟩
  rw [m.trees]
  refine Calls.callWith_builtin rfl (Calls.evalArgs_plain (Calls.spliced_cons (thn (he.run pins s1 σ H1 _ I1 q1) fun iv s2 ⟨y, H2, I2, ry, z, ey, q2⟩ =>
    Calls.spliced_cons (thn (hf.run pins s2 σ H2 _ I2 q2) fun fv s3 ⟨dv, H3, I3, rz, q3⟩ => Calls.spliced_nil ?_))))
  subst ey
  obtain ⟨t, rfl⟩ := (show ∃ t, iv = Value.str z t from ry)
  have hm3 := PySem.W.mapOf_K (prog := X.prog) (w := X.w) I3.kIn hl hk
  refine call_meetsIn PySem.F.slot_dict_get hm3.typeIs PySem.F.entry_dict_get (PySem.F.args_dict_get_3 _ _ _) (meets_dict_get_default (strKind X.prog X.w) a (strKind_is X.prog X.w z t) hs fv) ⟨_, hm3, ?_⟩
  refine ⟨_, H3, I3.tok _, ?_, q3⟩
  have r := entS_find (z := z) hes
  have e : findBy Value.isStrOf es z = (es.toList.find? fun e => Value.isStrOf z e.key).map (·.val) := by
    unfold findBy
    rw [Array.find?_toList]
  rw [e]
  exact RelO.getD r rz
def rJoin (K : PySem.W.Frag) : V → List V → Hp → VK → Prop := fun x xs H Q => ∃ a p, ∃ ys : List Str, x = .str a ∧ xs = [.ref p] ∧ (SqL K H p (ys.map V.str) ∨ SqT K H p (ys.map V.str)) ∧
    (ys.map (·.length)).sum + ys.length * a.length ≤ 16777216 ∧ Q (.str (Txt.join a ys)) H
theorem pe_joinR {X : Cx} {o e : Expr} {to te : TE} {apos pos : Pos} (ho : PE X o to) (he : PE X e te) (hs : starEach [e] X.env = [(false, eval e X.env)] := by rfl) (hbase : attributeBase o "join" X.env (eval o X.env) = eval o X.env := by rfl) (hline : (apos.endLine == pos.line) = true := by rfl) :
    PE X (.Call (.Attribute o "join" apos) [e] [] pos) (tM1 (rJoin X.K) to te) := pe_join ho he hs hbase hline
/-! ### steps -/
section
variable {K : PySem.W.Frag} {σ : L2.St} {H H0 H1 : Hp} {D : Ends} {Q : VK} {te to tl' : TE} {ta : TA} {g : TG} {tb : TS} {x : V} {l : Addr} {xs : List V} {ds es : List PyData}
theorem st_tM1 {r : V → List V → Hp → VK → Prop} (h : to σ H fun x H1 => (∃ a, x = .str a) ∧ te σ H1 fun y H2 => r x [y] H2 Q) : tM1 r to te σ H Q := h
theorem tyS {s : Str} {A : Prop} (h : A) : (∃ a, V.str s = .str a) ∧ A := ⟨⟨_, rfl⟩, h⟩
theorem st_str {i : Int} (h : Sm i) (q : Q (.str (numS i)) H) : rStrI [.int i] H Q := by
  obtain ⟨n, hn, rfl⟩ := h.nat
  refine ⟨_, rfl, ?_, q⟩
  have : ((n : Int)).natAbs = n := rfl
  rw [this]
  exact Nat.lt_of_le_of_lt (Nat.log2_le_self n) (by omega)
theorem st_addS {i j : Str} (hl : i.length + j.length ≤ 1000000) (q : Q (.str (i ++ j)) H) : rAddS (.str i) (.str j) H Q := ⟨i, j, rfl, rfl, Nat.le_trans hl (by decide), q⟩
theorem st_join {a : Str} {p : Addr} {ys : List Str} (h : SqL K H p (ys.map V.str)) (hl : (ys.map (·.length)).sum + ys.length * a.length ≤ 1000000) (q : Q (.str (Txt.join a ys)) H) : rJoin K (.str a) [.ref p] H Q :=
  ⟨a, p, ys, rfl, rfl, .inl h, Nat.le_trans hl (by decide), q⟩
theorem st_split {a b : Str} (hb : (b.length == 0) = false) (hl : a.length ≤ 1000000) (q : ∀ p H2, H p = none → Ex H H2 → H2 p = some (.lst ((Txt.split a b).map V.str)) → Q (.ref p) H2) :
    ∃ a' b', V.str a = .str a' ∧ [V.str b] = [.str b'] ∧ (b'.length == 0) = false ∧ a'.length + 2 ≤ sizeLine ∧ rNewStrs (Txt.split a' b') H Q :=
  ⟨a, b, rfl, rfl, hb, Nat.le_trans (Nat.add_le_add_right hl 2) (by decide), fun p hp => q p _ hp (Ex.new hp) upd_same⟩
/-- two tuples -/
theorem tx_catT {y : V} (hx : Im H0 (.tuple ds) x) (kx : Kp H0 H) (hy : Im H1 (.tuple es) y) (ky : Kp H1 H) (hl : ds.length + es.length ≤ 100000) (q : ∀ v H2, Ex H H2 → Im H2 (.tuple (ds ++ es)) v → Q v H2) : rCatA K x y H Q := by
  obtain ⟨a, xs, rfl, h1, h2⟩ := (hx.kp kx).tup
  obtain ⟨b, ys, rfl, g1, g2⟩ := (hy.kp ky).tup
  refine ⟨a, b, xs, ys, rfl, rfl, SqT.of h1, SqT.of g1, by rw [h2.length, g2.length]; exact sz_le hl, fun e => ?_, fun e1 e2 => ?_, fun e1 e2 p np => ?_⟩
  · subst e
    have : ds = [] := List.length_eq_zero_iff.mp h2.length.symm
    subst this
    exact q _ H (Ex.refl _) (im_tup g1 g2)
  · subst e2
    have : es = [] := List.length_eq_zero_iff.mp g2.length.symm
    subst this
    exact q _ H (Ex.refl _) (by rw [List.append_nil]; exact im_tup h1 h2)
  · exact q _ _ (Ex.new np) (im_tup upd_same ((h2.append g2).kp (Ex.new np).kp))
/-- two new lists in one -/
theorem tx_cat {a b : Addr} {ys : List V} (ha : H a = some (.lst xs)) (hb : H b = some (.lst ys)) (hl : xs.length + ys.length ≤ 100000) (q : ∀ p H2, H p = none → Ex H H2 → H2 p = some (.lst (xs ++ ys)) → Q (.ref p) H2) : rCat (.ref a) (.ref b) H Q :=
  ⟨a, b, xs, ys, rfl, rfl, ha, hb, sz_le hl, fun p hp => q p _ hp (Ex.new hp) upd_same⟩
/-- xs != [], both empty; and not -/
theorem tx_neNil0 {a b : Addr} (ha : H a = some (.lst [])) (hb : H b = some (.lst [])) (q : Q (.bl false) H) : rNeD K (.ref a) (.ref b) H Q := by
  refine st_neD (lst_dp ha iml_nil) (lst_dp hb iml_nil) sh_lnil sh_lnil ?_
  rw [eqv_lnil]
  exact q
end
/-! ### lists of texts -/
def RowsA (H : Hp) : List (List Str) → List V → Prop
  | [], xs => xs = []
  | r :: rs, xs => ∃ a vs, xs = .ref a :: vs ∧ H a = some (.lst (r.map V.str)) ∧ RowsA H rs vs
theorem RowsA.ex {H H' : Hp} (e : Ex H H') : ∀ {rs : List (List Str)} {xs : List V}, RowsA H rs xs → RowsA H' rs xs
  | [], _, h => h
  | r :: rs, _, h => by
    obtain ⟨a, vs, rfl, h1, h2⟩ := h
    exact ⟨a, vs, rfl, e _ _ h1, h2.ex e⟩
theorem RowsA.append {H : Hp} {qs : List (List Str)} {ys : List V} (g : RowsA H qs ys) : ∀ {rs : List (List Str)} {xs : List V}, RowsA H rs xs → RowsA H (rs ++ qs) (xs ++ ys)
  | [], _, h => by
    cases (show _ = [] from h)
    exact g
  | r :: rs, _, h => by
    obtain ⟨a, vs, rfl, h1, h2⟩ := h
    exact ⟨a, vs ++ ys, rfl, h1, g.append h2⟩
theorem RowsA.length {H : Hp} : ∀ {rs : List (List Str)} {xs : List V}, RowsA H rs xs → xs.length = rs.length
  | [], _, h => by
    cases (show _ = [] from h)
    rfl
  | r :: rs, _, h => by
    obtain ⟨a, vs, rfl, h1, h2⟩ := h
    rw [List.length_cons, List.length_cons, h2.length]
theorem RowsA.at {H : Hp} {v : V} : ∀ {rs : List (List Str)} {xs : List V} {i : Nat}, RowsA H rs xs → xs[i]? = some v → ∃ a r, v = .ref a ∧ rs[i]? = some r ∧ H a = some (.lst (r.map V.str))
  | [], _, _, h, e => by
    cases (show _ = [] from h)
    simp at e
  | r :: rs, _, 0, h, e => by
    obtain ⟨a, vs, rfl, h1, h2⟩ := h
    simp at e
    exact ⟨a, r, e.symm, by simp, h1⟩
  | r :: rs, _, i + 1, h, e => by
    obtain ⟨a, vs, rfl, h1, h2⟩ := h
    obtain ⟨a', r', e1, e2, e3⟩ := h2.at (i := i) (by simpa using e)
    exact ⟨a', r', e1, by simpa using e2, e3⟩
theorem RowsA.one {H : Hp} {a : Addr} {r : List Str} (h : H a = some (.lst (r.map V.str))) : RowsA H [r] [.ref a] := ⟨a, [], rfl, h, rfl⟩
/-! ### comprehensions that make texts -/
section
variable {K : PySem.W.Frag} {σ : L2.St} {H H0 H1 : Hp} {Q : VK} {te : TE} {own : List Nat} {x : V} {l : Addr} {xs : List V} {ds : List PyData} {i : Nat}
/-- [.. for d in t], each a text -/
theorem st_lcStr {f : PyData → Str} (h : Im H0 (.tuple ds) x) (k0 : Kp H0 H1) (hn : ds.length ≤ 50000) (hw : ∀ v, wipe ((wipe σ own).set i (some v)) own = wipe σ own)
    (turn : ∀ d v H R, d ∈ ds → Ex H1 H → Im H d v → (∀ H', Ex H H' → R (.str (f d)) H') → te ((wipe σ own).set i (some v)) H R)
    (q : ∀ D H2, H1 D = none → Ex H1 H2 → H2 D = some (.lst ((ds.map f).map V.str)) → Q (.ref D) H2) : LcU K (gName i) tYes te own σ x H1 Q := by
  refine st_lcTup h k0 fun D H2 nD e2 hD => ?_
  refine ⟨fun j H' => Ex H1 H' ∧ H' D = some (.lst (((ds.take j).map f).map V.str)), ⟨e2, hD⟩, fun j H' p => k0.trans p.1.kp, fun j d v H' hd hv p => ?_, fun H' p => ?_⟩
  · refine ⟨hw v, ?_⟩
    with_reducible refine st_yes ?_
    with_reducible refine st_T ?_
    have hj : j < ds.length := (List.getElem?_eq_some_iff.mp hd).1
    refine turn d v H' _ (List.mem_of_getElem? hd) p.1 hv fun H3 e3 => ?_
    refine st_lcPut (e3 _ _ p.2) (by rw [List.length_map, List.length_map, List.length_take]; omega) fun H5 f5 k5 h5 => ?_
    refine ⟨Fr.ex (p.1.trans e3) (fun a ha => by rw [List.mem_singleton.mp ha]; exact nD) f5, ?_⟩
    rw [h5, List.take_add_one, hd, List.map_append, List.map_append]
    rfl
  · obtain ⟨p1, p2⟩ := p
    rw [List.take_length] at p2
    exact q D H' nD p1 p2
/-- [.. for d in t], each a new list of texts -/
theorem st_lcRows {f : PyData → List Str} (h : Im H0 (.tuple ds) x) (k0 : Kp H0 H1) (hn : ds.length ≤ 50000) (hw : ∀ v, wipe ((wipe σ own).set i (some v)) own = wipe σ own)
    (turn : ∀ d v H R, d ∈ ds → Ex H1 H → Im H d v → (∀ a H', H a = none → Ex H H' → H' a = some (.lst ((f d).map V.str)) → R (.ref a) H') → te ((wipe σ own).set i (some v)) H R)
    (q : ∀ D H2 xs, H1 D = none → Ex H1 H2 → H2 D = some (.lst xs) → RowsA H2 (ds.map f) xs → Q (.ref D) H2) : LcU K (gName i) tYes te own σ x H1 Q := by
  refine st_lcTup h k0 fun D H2 nD e2 hD => ?_
  refine ⟨fun j H' => ∃ xs, Ex H1 H' ∧ H' D = some (.lst xs) ∧ xs.length = j ∧ (∀ H'', Fr [D] H' H'' → RowsA H'' ((ds.take j).map f) xs), ⟨[], e2, hD, rfl, fun _ _ => by simp [RowsA]⟩, fun j H' p => k0.trans p.choose_spec.1.kp, fun j d v H' hd hv p => ?_, fun H' p => ?_⟩
  · obtain ⟨xs, p1, p2, p3, p4⟩ := p
    refine ⟨hw v, ?_⟩
    with_reducible refine st_yes ?_
    with_reducible refine st_T ?_
    have hj : j < ds.length := (List.getElem?_eq_some_iff.mp hd).1
    refine turn d v H' _ (List.mem_of_getElem? hd) p1 hv fun a H3 na e3 ha => ?_
    have haD : a ∉ [D] := fun z => by
      rw [List.mem_singleton.mp z, p2] at na
      cases na
    refine st_lcPut (e3 _ _ p2) (by omega) fun H5 f5 k5 h5 => ?_
    refine ⟨xs ++ [.ref a], Fr.ex (p1.trans e3) (fun a ha => by rw [List.mem_singleton.mp ha]; exact nD) f5, h5, by simp [p3], fun H6 f6 => ?_⟩
    rw [List.take_add_one, hd, List.map_append]
    exact (RowsA.one (f6 _ _ (f5 _ _ ha haD) haD)).append (p4 H6 ((e3.fr.trans f5).trans f6))
  · obtain ⟨xs, p1, p2, p3, p4⟩ := p
    rw [List.take_length] at p4
    exact q D H' xs nD p1 p2 (p4 H' (Fr.refl _ _))
/-- [.. for row in rows], each a text -/
theorem st_lcJoins {rs : List (List Str)} {f : List Str → Str} (h : H1 l = some (.lst xs)) (hr : RowsA H1 rs xs) (hn : rs.length ≤ 50000) (hw : ∀ v, wipe ((wipe σ own).set i (some v)) own = wipe σ own)
    (turn : ∀ r a H R, r ∈ rs → Ex H1 H → H a = some (.lst (r.map V.str)) → R (.str (f r)) H → te ((wipe σ own).set i (some (.ref a))) H R)
    (q : ∀ D H2, H1 D = none → Ex H1 H2 → H2 D = some (.lst ((rs.map f).map V.str)) → Q (.ref D) H2) : LcL K (gName i) tYes te own σ (.ref l) H1 Q := by
  refine st_lcList (SqL.of h) fun D H2 nD e2 hD => ?_
  refine ⟨fun j H' => Ex H1 H' ∧ H' D = some (.lst (((rs.take j).map f).map V.str)), ⟨e2, hD⟩, fun j H' p => SqL.of (p.1 _ _ h), fun j v H' hv p => ?_, fun H' p => ?_⟩
  · refine ⟨hw v, ?_⟩
    with_reducible refine st_yes ?_
    with_reducible refine st_T ?_
    obtain ⟨a, r, rfl, hrr, ha⟩ := hr.at hv
    have hj : j < rs.length := (List.getElem?_eq_some_iff.mp hrr).1
    refine turn r a H' _ (List.mem_of_getElem? hrr) p.1 (p.1 _ _ ha) ?_
    refine st_lcPut p.2 (by rw [List.length_map, List.length_map, List.length_take]; omega) fun H5 f5 k5 h5 => ?_
    refine ⟨Fr.ex p.1 (fun a ha => by rw [List.mem_singleton.mp ha]; exact nD) f5, ?_⟩
    rw [h5, List.take_add_one, hrr, List.map_append, List.map_append]
    rfl
  · obtain ⟨p1, p2⟩ := p
    rw [hr.length, List.take_length] at p2
    exact q D H' nD p1 p2
/-- [.. for word in words], words a list of texts; what is made is V-valued -/
theorem st_lcWords {ws : List Str} {f : Str → V} (h : H1 l = some (.lst (ws.map V.str))) (hn : ws.length ≤ 50000) (hw : ∀ v, wipe ((wipe σ own).set i (some v)) own = wipe σ own)
    (turn : ∀ w H R, w ∈ ws → Ex H1 H → (∀ H', Ex H H' → R (f w) H') → te ((wipe σ own).set i (some (.str w))) H R)
    (q : ∀ D H2, H1 D = none → Ex H1 H2 → H2 D = some (.lst (ws.map f)) → Q (.ref D) H2) : LcL K (gName i) tYes te own σ (.ref l) H1 Q := by
  refine st_lcList (SqL.of h) fun D H2 nD e2 hD => ?_
  refine ⟨fun j H' => Ex H1 H' ∧ H' D = some (.lst ((ws.take j).map f)), ⟨e2, hD⟩, fun j H' p => SqL.of (p.1 _ _ h), fun j v H' hv p => ?_, fun H' p => ?_⟩
  · refine ⟨hw v, ?_⟩
    with_reducible refine st_yes ?_
    with_reducible refine st_T ?_
    obtain ⟨w, hw', rfl⟩ := map_at' hv
    have hj : j < ws.length := (List.getElem?_eq_some_iff.mp hw').1
    refine turn w H' _ (List.mem_of_getElem? hw') p.1 fun H3 e3 => ?_
    refine st_lcPut (e3 _ _ p.2) (by rw [List.length_map, List.length_take]; omega) fun H5 f5 k5 h5 => ?_
    refine ⟨Fr.ex (p.1.trans e3) (fun a ha => by rw [List.mem_singleton.mp ha]; exact nD) f5, ?_⟩
    rw [h5, List.take_add_one, hw', List.map_append]
    rfl
  · obtain ⟨p1, p2⟩ := p
    rw [List.length_map, List.take_length] at p2
    exact q D H' nD p1 p2
/-- the turns of a comprehension over a text's signs -/
def LcS (g : TG) (tt : TT) (te : TE) (own : List Nat) (σ : L2.St) (x : V) (H1 : Hp) (Q : VK) : Prop := ∃ z, x = .str z ∧ LcT (Its z) g tt te own σ H1 Q
theorem st_lcS {tl' : TE} {g : TG} {tt : TT} (h : tl' σ H fun x H1 => LcS g tt te own σ x H1 Q) : tLc (iStr tl') g tt te own σ H Q := h
theorem st_lcSigns {z : Str} {f : Nat → V} (hn : (tl z).length ≤ 50000) (hw : ∀ v, wipe ((wipe σ own).set i (some v)) own = wipe σ own)
    (turn : ∀ c H R, c ∈ tl z → Ex H1 H → R (f c) H → te ((wipe σ own).set i (some (.str ⟨#[c]⟩))) H R)
    (q : ∀ D H2, H1 D = none → Ex H1 H2 → H2 D = some (.lst ((tl z).map f)) → Q (.ref D) H2) : LcS (gName i) tYes te own σ (.str z) H1 Q := by
  refine ⟨z, rfl, fun D nD => ?_⟩
  refine lc_it (walk_str (z := z)) (fun j H' => Ex H1 H' ∧ H' D = some (.lst (((tl z).take j).map f))) ⟨Ex.new nD, by rw [upd_same]; rfl⟩ (fun _ _ _ _ => True.intro) (fun j x H H' hj p y => ?_) fun H' p => ?_
  · obtain ⟨rfl, c, hc, rfl⟩ := y
    refine ⟨hw _, ?_⟩
    with_reducible refine st_yes ?_
    with_reducible refine st_T ?_
    have hc' : (tl z)[j]? = some c := by
      rw [← hc]
      exact Array.getElem?_toList
    refine turn c H' _ (List.mem_of_getElem? hc') p.1 ?_
    have hl : j < (tl z).length := (List.getElem?_eq_some_iff.mp hc').1
    refine ⟨_, p.2, sz_lt (by rw [List.length_map, List.length_take]; omega), Ex.mut nD p.1, ?_⟩
    rw [upd_same, List.take_add_one, hc', List.map_append]
    rfl
  · obtain ⟨p1, p2⟩ := p
    rw [show z.cps.size = (tl z).length from Array.length_toList.symm, List.take_length] at p2
    exact q D H' nD p1 p2
end
end BC
namespace BC
open PySem PySem.Spec PyProof.Rows L2 TL
def rInSign : R2 := fun x y H Q => ∃ (c : Nat) (z : Str), x = .str ⟨#[c]⟩ ∧ y = .str z ∧ Q (.bl (decide (c ∈ z.cps.toList))) H
theorem o_inSign {X : Cx} : OpR X (compareOp .In) rInSign := op_in_sign
def rIntS : List V → Hp → VK → Prop := fun xs H Q => ∃ a n, xs = [.str a] ∧ PySem.intText? a = some n ∧ a.length ≤ 640 ∧ Q (.int n) H
theorem c_intS {X : Cx} : CallR X (.type "int") rIntS := call_int_str
def strD : PyData → Str
  | .int i => numS i
  | .none => "-"
  | .str s => s
  | _ => ""
def wordsO : PyData → List Str
  | .tuple ds => "order" :: ds.map strD
  | _ => []
def wordsP : PyData → List Str
  | .tuple (d :: ds) => strD d :: ds.map strD
  | _ => []
theorem strD_ints (ns : List Int) : (ns.map PyData.int).map strD = ns.map numS := by
  rw [List.map_map]
  rfl
theorem strD_opt (o : Option Int) : strD (pyOpt o) = optS o := by cases o <;> rfl
theorem wordsO_ords (os : List ROrd) : (os.map pyOrd).map wordsO = os.map wOrd := by
  rw [List.map_map]
  refine List.map_congr_left fun o _ => ?_
  show ("order" : Str) :: [numS o.1, numS o.2.1, numS o.2.2.1, strD (pyOpt o.2.2.2)] = wOrd o
  rw [strD_opt]
theorem wordsP_prog (p : List RDeed) : (p.map pyDeed).map wordsP = p.map wDeed := by
  rw [List.map_map]
  refine List.map_congr_left fun d _ => ?_
  show d.1 :: (d.2.map PyData.int).map strD = wDeed d
  rw [strD_ints]
theorem sm_opt {H : Hp} {v : V} {d : PyData} {o : ROrd} (hd : d ∈ [PyData.int o.1, .int o.2.1, .int o.2.2.1, pyOpt o.2.2.2]) (hs : Sm o.1 ∧ Sm o.2.1 ∧ Sm o.2.2.1 ∧ ∀ i, o.2.2.2 = some i → Sm i) (hv : Im H d v) :
    ∃ u : Option Int, v = vOpt u ∧ (∀ i, u = some i → Sm i) ∧ optS u = strD d := by
  obtain ⟨h1, h2, h3, h4⟩ := hs
  simp only [List.mem_cons, List.not_mem_nil, or_false] at hd
  rcases hd with rfl | rfl | rfl | rfl
  · exact ⟨some o.1, Im.int_iff.mp hv, fun i e => by cases e; exact h1, rfl⟩
  · exact ⟨some o.2.1, Im.int_iff.mp hv, fun i e => by cases e; exact h2, rfl⟩
  · exact ⟨some o.2.2.1, Im.int_iff.mp hv, fun i e => by cases e; exact h3, rfl⟩
  · exact ⟨o.2.2.2, im_opt.mp hv, h4, (strD_opt _).symm⟩
theorem tl_figures : tl ("0123456789" : Str) = [48, 49, 50, 51, 52, 53, 54, 55, 56, 57] := by decide +kernel
theorem fig_in (c : Nat) : decide (c ∈ tl ("0123456789" : Str)) = fig c := by
  rw [tl_figures]
  unfold fig
  rw [Bool.eq_iff_iff, decide_eq_true_eq, Bool.and_eq_true, decide_eq_true_eq, decide_eq_true_eq]
  simp only [List.mem_cons, List.not_mem_nil, or_false]
  omega
theorem tl_zero : tl ("0" : Str) = [48] := by decide +kernel
theorem sign_zero (c : Nat) : ((⟨#[c]⟩ : Str) = "0") ↔ c = 48 := by
  constructor
  · intro h
    have : tl (⟨#[c]⟩ : Str) = tl "0" := by rw [h]
    rw [tl_zero] at this
    exact (List.cons.inj this).1
  · rintro rfl
    refine ext_tl ?_
    rw [tl_zero]
theorem empty_tl (w : Str) : w = "" ↔ tl w = [] := by
  constructor
  · rintro rfl
    decide +kernel
  · intro h
    refine ext_tl ?_
    rw [h]
    decide +kernel
theorem inV_none : ∀ ns : List (Option Int), inV .non (ns.map vOpt) = decide (none ∈ ns)
  | [] => by simp [inV]
  | o :: ns => by
    have ih := inV_none ns
    unfold inV at ih ⊢
    rw [List.map_cons, List.any_cons, ih]
    cases o with
    | none => simp [vOpt, eqV]
    | some i =>
      rw [Bool.eq_iff_iff]
      simp [vOpt, eqV]
theorem vOpt_non (o : Option Int) : decide (vOpt o = .non) = o.isNone := by cases o <;> simp [vOpt]
theorem flat_opts (ns : List (Option Int)) : (ns.map vOpt).all flatV = true := by
  rw [List.all_eq_true]
  intro v hv
  obtain ⟨o, _, rfl⟩ := List.mem_map.mp hv
  cases o <;> rfl
theorem im_opts {H : Hp} : ∀ ns : List (Option Int), ImL H (ns.map pyOpt) (ns.map vOpt)
  | [] => iml_nil
  | o :: ns => iml_cons (im_opt.mpr rfl) (im_opts ns)
end BC
namespace BC
open PySem PySem.Spec PyProof.Rows L2 TL
theorem rowT_snoc (w : Str) (ws : List Str) (x : Str) : rowT (w :: ws) ++ (" " : Str) ++ x = rowT (w :: (ws ++ [x])) := by
  refine ext_tl ?_
  rw [tl_append, tl_append, tl_rowT, tl_rowT, tl_sp, List.flatMap_append]
  simp
theorem rowT_one (w : Str) : rowT [w] = w := by
  refine ext_tl ?_
  rw [tl_rowT]
  simp
theorem join_snoc {ps : List Str} (h : ps ≠ []) (p : Str) : Txt.join "\n" ps ++ ("\n" : Str) ++ p = Txt.join "\n" (ps ++ [p]) := by
  cases ps with
  | nil => exact absurd rfl h
  | cons a r =>
    refine ext_tl ?_
    rw [List.cons_append, tl_append, tl_append, tl_rows, tl_rows, tl_nl, List.flatMap_append]
    simp
theorem join_ext {ps : List Str} (h : ps ≠ []) (p x : Str) : Txt.join "\n" (ps ++ [p]) ++ x = Txt.join "\n" (ps ++ [p ++ x]) := by
  cases ps with
  | nil => exact absurd rfl h
  | cons a r =>
    refine ext_tl ?_
    rw [List.cons_append, List.cons_append, tl_append, tl_rows, tl_rows, List.flatMap_append, List.flatMap_append]
    simp only [List.flatMap_cons, List.flatMap_nil, List.append_nil, List.append_assoc, List.cons_append, tl_append]
theorem join_one (p : Str) : Txt.join "\n" [p] = p := by
  refine ext_tl ?_
  rw [tl_rows]
  simp
theorem nl_order : ("\norder" : Str) = ("\n" : Str) ++ ("order" : Str) := by decide +kernel
theorem join_small {ps : List Str} (h : ∀ p ∈ ps, p.length ≤ 500) (hn : ps.length ≤ 100) : (Txt.join "\n" ps).length ≤ 60000 := by
  have h1 := join_len "\n" ps
  have h2 := sum_le (f := fun w : Str => w.length) (k := 500) (l := ps) h
  have h3 : ("\n" : Str).length = 1 := by decide +kernel
  rw [h3] at h1
  have h4 : ps.length * 500 ≤ 100 * 500 := Nat.mul_le_mul_right _ hn
  have : (ps.map fun w : Str => w.length) = ps.map (·.length) := rfl
  omega
theorem len_app (a b : Str) : (a ++ b).length = a.length + b.length := by
  rw [len_tl, len_tl a, len_tl b, tl_append, List.length_append]
/-- what the rows of a good board read as, row by row -/
theorem row_at {b : Bd} (g : Good b) {i : Nat} {r : List Str} (h : (rowsW b.raw)[i]? = some r) : ∃ (w : Str) (ns : List (Option Int)), rowOf r = some (w, ns) ∧ decide (w = "memory") = decide ((i : Int) = 0) ∧
    (w = "order" → 1 ≤ i ∧ i ≤ b.raw.ords.length ∧ ∃ o, b.raw.ords[i - 1]? = some o ∧ PyData.tuple (ns.map pyOpt) = pyOrd o) ∧ (i = 0 → w ≠ "order" ∧ ns.map pyOpt = b.raw.mem.map .int) ∧
    (i ≠ 0 → w ≠ "order" → b.raw.ords.length + 1 ≤ i ∧ ∃ d, b.raw.prog[i - 1 - b.raw.ords.length]? = some d ∧ PyData.tuple (.str w :: ns.map pyOpt) = pyDeed d) := by
  have sm := g.sm
  have e0 : ∀ ns : List Int, (ns.map (some : Int → Option Int)).map pyOpt = ns.map .int := fun ns => by
    rw [List.map_map]
    rfl
  cases i with
  | zero =>
    have : r = wMem b.raw.mem := by
      unfold rowsW at h
      rw [List.getElem?_cons_zero] at h
      exact (Option.some.inj h).symm
    subst this
    exact ⟨_, _, rowOf_mem sm, by decide +kernel, fun z => absurd z (by decide +kernel), fun _ => ⟨by decide +kernel, e0 _⟩, fun z => absurd rfl z⟩
  | succ i =>
    unfold rowsW at h
    rw [List.getElem?_cons_succ] at h
    by_cases hi : i < b.raw.ords.length
    · rw [List.getElem?_append_left (by rw [List.length_map]; exact hi)] at h
      obtain ⟨o, ho, rfl⟩ := map_at' h
      refine ⟨_, _, rowOf_ord sm (List.mem_of_getElem? ho), ?_, fun _ => ⟨by omega, by omega, o, by simpa using ho, rfl⟩, fun z => absurd z (by omega), fun _ z => absurd rfl z⟩
      rw [decide_eq_false (show ¬ (("order" : Str) = "memory") by decide +kernel), decide_eq_false (by omega)]
    · rw [List.getElem?_append_right (by rw [List.length_map]; omega), List.length_map] at h
      obtain ⟨d, hd, rfl⟩ := map_at' h
      obtain ⟨d', hd', rfl⟩ := List.mem_map.mp (List.mem_of_getElem? hd)
      refine ⟨_, _, rowOf_deed g hd', ?_, fun z => absurd z (no_order d'), fun z => absurd z (by omega), fun _ _ => ⟨by omega, d'.raw, by simpa [Nat.add_sub_cancel] using hd, by rw [e0]⟩⟩
      rw [decide_eq_false (no_memory d'), decide_eq_false (by omega)]
end BC
namespace BC
open PySem PySem.Spec PyProof.Rows L2 TL
theorem tx_al_deed {n : Nat} (d : Deed) : Al (n + 1) (pyDeed d.raw) := by
  have w : ∀ s ∈ [("set" : Str), "add", "say", "start", "wait", "clean", "drop"], PyData.strOk s = true := by decide +kernel
  have hs : PyData.strOk d.raw.1 = true := w _ (by cases d <;> simp [Deed.raw])
  have hl : d.raw.2.length ≤ 2 := by cases d <;> simp [Deed.raw]
  refine al_tup (by simp; omega) fun e he => ?_
  rcases List.mem_cons.mp he with rfl | he
  · exact al_str hs
  · exact al_ints e he
theorem tx_al_board {n : Nat} {b : Bd} (g : Good b) : Al (n + 3) (pyB b.raw) := by
  have h1 := g.lines
  have h2 := g.ords
  have h3 := g.len
  refine al_tup (by simp) fun e he => ?_
  simp only [List.mem_cons, List.not_mem_nil, or_false] at he
  rcases he with rfl | rfl | rfl
  · exact al_tup (by rw [List.length_map]; show b.mem.length ≤ _; omega) al_ints
  · refine al_tup (by rw [List.length_map, List.length_map]; omega) fun d hd => ?_
    obtain ⟨o, _, rfl⟩ := List.mem_map.mp hd
    refine al_tup (by simp) fun e he => ?_
    simp only [List.mem_cons, List.not_mem_nil, or_false] at he
    rcases he with rfl | rfl | rfl | rfl
    · exact al_int
    · exact al_int
    · exact al_int
    · exact al_opt
  · refine al_tup (by rw [List.length_map, List.length_map]; omega) fun d hd => ?_
    rw [List.map_map] at hd
    obtain ⟨d, _, rfl⟩ := List.mem_map.mp hd
    exact tx_al_deed d
end BC
/-! BCTurn: the rows of a run in turn: beats, moves, bells. -/
namespace BC
open PySem PySem.Spec PyProof.Rows L2
/-- the beats of the rows of a word -/
def beatsOf (w : Str) (rs : List Row) : List Nat := (rs.filter fun r => decide (r.2.1 = w)).map fun r => r.1
theorem beatsOf_snoc (w w' : Str) (rs : List Row) (t p : Nat) (k : Int) : beatsOf w (rs ++ [(t, w', p, k)]) = beatsOf w rs ++ (if w' = w then [t] else []) := by
  unfold beatsOf
  rw [List.filter_append, List.filter_cons]
  by_cases h : w' = w
  · rw [if_pos (decide_eq_true h), if_pos h]
    simp
  · rw [if_neg (by simpa using h), if_neg h]
    simp
/-- where the law's own check of the moves stands -/
structure WS where
  left : List Mv
  at_ : Nat
  here : Nat × Int
def WS.step (os : List Ord) (S : WS) (r : Row) : Option WS :=
  if r.2.1 = ("start" : Str) then some { S with left := S.left ++ movesOf os r.2.2.1 }
  else if r.2.1 = ("fetch" : Str) then (match S.left[S.at_]? with | some m => if m.src = r.2.2.1 then some { S with here := (r.1, r.2.2.2) } else none | none => none)
  else if r.2.1 = ("put" : Str) then (match S.left[S.at_]? with | some m => if m.dst = r.2.2.1 ∧ (r.1, r.2.2.2) = S.here then some { S with at_ := S.at_ + 1 } else none | none => none)
  else if r.2.1 = ("bell" : Str) then (if S.at_ = 0 then none else match S.left[S.at_ - 1]? with | some m => if m.bell = some r.2.2.1 then some S else none | none => none)
  else some S
def WS.walk (os : List Ord) (S : WS) : List Row → Option WS
  | [] => some S
  | r :: rest => match S.step os r with
    | some T => T.walk os rest
    | none => none
theorem WS.walk_append (os : List Ord) : ∀ (a b : List Row) (S : WS), S.walk os (a ++ b) = (S.walk os a).bind fun T => T.walk os b
  | [], b, S => rfl
  | r :: a, b, S => by
    show (match S.step os r with | some T => T.walk os (a ++ b) | none => none) = _
    cases e : S.step os r with
    | none =>
      show none = (match S.step os r with | some T => T.walk os a | none => none).bind _
      rw [e]
      rfl
    | some T =>
      show T.walk os (a ++ b) = (match S.step os r with | some T => T.walk os a | none => none).bind _
      rw [e, WS.walk_append os a b T]
/-- a word that the check passes over -/
def Plainword (w : Str) : Prop := w ≠ Str.ofString "start" ∧ w ≠ Str.ofString "fetch" ∧ w ≠ Str.ofString "put" ∧ w ≠ Str.ofString "bell"
theorem WS.step_plain {os : List Ord} {S : WS} {r : Row} (h : Plainword r.2.1) : S.step os r = some S := by
  unfold WS.step
  rw [if_neg h.1, if_neg h.2.1, if_neg h.2.2.1, if_neg h.2.2.2]
/-- rows that follow: none of the moves', none of the bells', none of the starts'; of this beat -/
structure Quiet (M M2 : MS) : Prop where
  more : ∃ rs : List Row, M2.rows = M.rows ++ rs ∧ ∀ r ∈ rs, Plainword r.2.1 ∧ r.1 = M.beats
  beats : M2.beats = M.beats
  left : M2.left = M.left
  at_ : M2.at_ = M.at_
section
variable {M : MS}
theorem Quiet.same {M2 : MS} (h : M2.rows = M.rows) (b : M2.beats = M.beats) (l : M2.left = M.left) (a : M2.at_ = M.at_) : Quiet M M2 := ⟨⟨[], by rw [h]; simp, by simp⟩, b, l, a⟩
theorem Quiet.trans {M1 M2 : MS} (h : Quiet M M1) (g : Quiet M1 M2) : Quiet M M2 := by
  obtain ⟨⟨a, a1, a2⟩, h2, h3, h4⟩ := h
  obtain ⟨⟨b, b1, b2⟩, g2, g3, g4⟩ := g
  refine ⟨⟨a ++ b, by rw [b1, a1, List.append_assoc], fun r hr => ?_⟩, g2.trans h2, g3.trans h3, g4.trans h4⟩
  rcases List.mem_append.mp hr with z | z
  · exact a2 r z
  · exact ⟨(b2 r z).1, (b2 r z).2.trans h2⟩
theorem pw {w : String} (h : w ≠ "start" ∧ w ≠ "fetch" ∧ w ≠ "put" ∧ w ≠ "bell") : Plainword (Str.ofString w) := ⟨fun z => h.1 (ofS_inj.mp z), fun z => h.2.1 (ofS_inj.mp z), fun z => h.2.2.1 (ofS_inj.mp z), fun z => h.2.2.2 (ofS_inj.mp z)⟩
theorem quiet_via {M0 : MS} {w : String} {p : Nat} {k : Int} (h : M0.rows = M.rows) (b : M0.beats = M.beats) (l : M0.left = M.left) (a : M0.at_ = M.at_) (hw : w ≠ "start" ∧ w ≠ "fetch" ∧ w ≠ "put" ∧ w ≠ "bell") : Quiet M (M0.note (Str.ofString w) p k) :=
  ⟨⟨[(M0.beats, Str.ofString w, p, k)], by show M0.rows ++ _ = _; rw [h], fun r hr => by rw [List.mem_singleton.mp hr]; exact ⟨pw hw, b⟩⟩, b, l, a⟩
theorem quiet_take (l : Nat) : Quiet M (M.take l) := by
  unfold MS.take
  split
  · exact Quiet.same rfl rfl rfl rfl
  · exact quiet_via (w := "take") rfl rfl rfl rfl (by decide)
theorem quiet_read (c : Nat) : Quiet M (M.read c) := (quiet_take _).trans (quiet_via (w := "read") rfl rfl rfl rfl (by decide))
theorem quiet_write (c : Nat) (v : Int) : Quiet M (M.write c v) := (quiet_take (c / 4)).trans (quiet_via (w := "write") (M0 := (M.take (c / 4)).put (c / 4) (((M.take (c / 4)).cells (c / 4)).set (c % 4) v, true)) rfl rfl rfl rfl (by decide))
theorem quiet_clean (l : Nat) : Quiet M (M.clean l) := by
  unfold MS.clean
  split
  · exact quiet_via (w := "clean") rfl rfl rfl rfl (by decide)
  · exact Quiet.same rfl rfl rfl rfl
theorem quiet_drop (l : Nat) : Quiet M (M.drop l) := by
  unfold MS.drop
  split
  · exact quiet_via (w := "drop") rfl rfl rfl rfl (by decide)
  · exact Quiet.same rfl rfl rfl rfl
theorem quiet_cleans : ∀ (ls : List Nat) (M : MS), Quiet M (ls.foldl MS.clean M)
  | [], _ => Quiet.same rfl rfl rfl rfl
  | l :: r, M => by
    rw [List.foldl_cons]
    exact (quiet_clean l).trans (quiet_cleans r _)
end
/-- the number of a start -/
def startNo : Deed → Option Nat
  | .start k => some k
  | _ => none
/-- what holds of the rows so far (t: the beat that may still tell) -/
structure Turn (b : Bd) (n : Nat) (M : MS) (ps ss : Nat) : Prop where
  sorted : (M.rows.map (·.1)).Pairwise (· ≤ ·)
  top : ∀ r ∈ M.rows, r.1 ≤ M.beats
  puts : (beatsOf "put" M.rows).Pairwise (· < ·)
  putTop : ∀ t ∈ beatsOf "put" M.rows, t < M.beats + ps
  starts : (beatsOf "start" M.rows).Pairwise (· < ·)
  startTop : ∀ t ∈ beatsOf "start" M.rows, t < M.beats + ss
  walk : ∃ S : WS, WS.walk b.ords ⟨[], 0, (0, 0)⟩ M.rows = some S ∧ S.left = (b.prog.take n).flatMap (startMoves b.ords) ∧ S.left.drop S.at_ = M.left ∧ S.at_ ≤ S.left.length ∧ (cellsOf "fetch" M.rows).length = S.at_ ∧ (beatsOf "put" M.rows).length = S.at_ ∧
    cellsOf "bell" M.rows = (S.left.take S.at_).filterMap (·.bell)
  startNos : cellsOf "start" M.rows = (b.prog.take n).filterMap startNo
theorem Turn.init (b : Bd) : Turn b 0 (MS.init b) 0 0 := by
  refine ⟨by simp [MS.init], by simp [MS.init], by simp [MS.init, beatsOf], by simp [MS.init, beatsOf], by simp [MS.init, beatsOf], by simp [MS.init, beatsOf], ⟨⟨[], 0, (0, 0)⟩, rfl, by simp [MS.init], by simp [MS.init], by simp, by simp [MS.init, cellsOf], by simp [MS.init, beatsOf], by simp [MS.init, cellsOf]⟩, by simp [MS.init, cellsOf]⟩
theorem plain_none {w : Str} {rs : List Row} (h : ∀ r ∈ rs, Plainword r.2.1) (hw : w = Str.ofString "start" ∨ w = Str.ofString "fetch" ∨ w = Str.ofString "put" ∨ w = Str.ofString "bell") : cellsOf w rs = [] ∧ beatsOf w rs = [] := by
  have e : (rs.filter fun r => decide (r.2.1 = w)) = [] := by
    rw [List.filter_eq_nil_iff]
    intro r hr z
    have z' := of_decide_eq_true z
    have hp := h r hr
    rcases hw with rfl | rfl | rfl | rfl
    · exact hp.1 z'
    · exact hp.2.1 z'
    · exact hp.2.2.1 z'
    · exact hp.2.2.2 z'
  unfold cellsOf beatsOf
  rw [e]
  exact ⟨rfl, rfl⟩
theorem walk_plain (os : List Ord) : ∀ {rs : List Row} (S : WS), (∀ r ∈ rs, Plainword r.2.1) → S.walk os rs = some S
  | [], _, _ => rfl
  | r :: rest, S, h => by
    show (match S.step os r with | some T => T.walk os rest | none => none) = _
    rw [WS.step_plain (h r List.mem_cons_self)]
    exact walk_plain os S fun r hr => h r (List.mem_cons_of_mem _ hr)
theorem cellsOf_append (w : Str) (a c : List Row) : cellsOf w (a ++ c) = cellsOf w a ++ cellsOf w c := by
  unfold cellsOf
  rw [List.filter_append, List.map_append]
theorem beatsOf_append (w : Str) (a c : List Row) : beatsOf w (a ++ c) = beatsOf w a ++ beatsOf w c := by
  unfold beatsOf
  rw [List.filter_append, List.map_append]
section
variable {b : Bd} {n : Nat} {M : MS} {ps ss : Nat}
theorem Turn.rowsTop (h : Turn b n M ps ss) {rs : List Row} (hr : ∀ r ∈ rs, r.1 = M.beats) : ((M.rows ++ rs).map (·.1)).Pairwise (· ≤ ·) ∧ ∀ r ∈ M.rows ++ rs, r.1 ≤ M.beats := by
  constructor
  · rw [List.map_append, List.pairwise_append]
    refine ⟨h.sorted, ?_, fun x hx y hy => ?_⟩
    · have : rs.map (·.1) = List.replicate rs.length M.beats := by
        rw [List.eq_replicate_iff]
        refine ⟨by simp, fun x hx => ?_⟩
        obtain ⟨r, h1, rfl⟩ := List.mem_map.mp hx
        exact hr r h1
      rw [this]
      exact List.pairwise_replicate.mpr (.inr (Nat.le_refl _))
    · obtain ⟨r, h1, rfl⟩ := List.mem_map.mp hx
      obtain ⟨r2, h2, rfl⟩ := List.mem_map.mp hy
      rw [hr r2 h2]
      exact h.top r h1
  · intro r hr'
    rcases List.mem_append.mp hr' with z | z
    · exact h.top r z
    · exact Nat.le_of_eq (hr r z)
theorem Turn.quiet {M2 : MS} (h : Turn b n M ps ss) (q : Quiet M M2) : Turn b n M2 ps ss := by
  obtain ⟨⟨rs, e, hr⟩, qb, ql, qa⟩ := q
  obtain ⟨h1, h2⟩ := h.rowsTop (rs := rs) fun r z => (hr r z).2
  have pl : ∀ r ∈ rs, Plainword r.2.1 := fun r z => (hr r z).1
  obtain ⟨p1, p2⟩ := plain_none (w := "put") pl (.inr (.inr (.inl rfl)))
  obtain ⟨s1, s2⟩ := plain_none (w := "start") pl (.inl rfl)
  obtain ⟨f1, f2⟩ := plain_none (w := "fetch") pl (.inr (.inl rfl))
  obtain ⟨b1, b2⟩ := plain_none (w := "bell") pl (.inr (.inr (.inr rfl)))
  obtain ⟨S, w1, w2, w3, w4, w5, w6, w7⟩ := h.walk
  refine ⟨by rw [e]; exact h1, by rw [e, qb]; exact h2, ?_, ?_, ?_, ?_, ⟨S, ?_, w2, by rw [ql]; exact w3, w4, ?_, ?_, ?_⟩, ?_⟩
  · rw [e, beatsOf_append, p2, List.append_nil]
    exact h.puts
  · rw [e, beatsOf_append, p2, List.append_nil, qb]
    exact h.putTop
  · rw [e, beatsOf_append, s2, List.append_nil]
    exact h.starts
  · rw [e, beatsOf_append, s2, List.append_nil, qb]
    exact h.startTop
  · rw [e, WS.walk_append, w1]
    exact walk_plain _ S pl
  · rw [e, cellsOf_append, f1, List.append_nil]
    exact w5
  · rw [e, beatsOf_append, p2, List.append_nil]
    exact w6
  · rw [e, cellsOf_append, b1, List.append_nil]
    exact w7
  · rw [e, cellsOf_append, s1, List.append_nil]
    exact h.startNos
theorem Turn.done {d : Deed} (h : Turn b n M ps ss) (e : b.prog[n]? = some d) (h1 : startMoves b.ords d = []) (h2 : startNo d = none) : Turn b (n + 1) M ps ss := by
  have et : b.prog.take (n + 1) = b.prog.take n ++ [d] := by rw [List.take_add_one, e]; rfl
  obtain ⟨S, w1, w2, w3⟩ := h.walk
  refine ⟨h.sorted, h.top, h.puts, h.putTop, h.starts, h.startTop, ⟨S, w1, ?_, w3⟩, ?_⟩
  · rw [et, List.flatMap_append, w2]
    simp [h1]
  · rw [et, List.filterMap_append, h.startNos]
    simp [h2]
theorem snoc_sorted {xs : List Nat} {t : Nat} (h : xs.Pairwise (· < ·)) (ht : ∀ x ∈ xs, x < t) : (xs ++ [t]).Pairwise (· < ·) := by
  rw [List.pairwise_append]
  exact ⟨h, by simp, fun x hx y hy => by rw [List.mem_singleton.mp hy]; exact ht x hx⟩
theorem nes : (Str.ofString "start" ≠ Str.ofString "fetch" ∧ Str.ofString "start" ≠ Str.ofString "put" ∧ Str.ofString "start" ≠ Str.ofString "bell") ∧ (Str.ofString "fetch" ≠ Str.ofString "put" ∧ Str.ofString "fetch" ≠ Str.ofString "bell" ∧ Str.ofString "put" ≠ Str.ofString "bell") := by
  refine ⟨⟨?_, ?_, ?_⟩, ?_, ?_, ?_⟩ <;> intro z <;> have := ofS_inj.mp z <;> simp at this
theorem Turn.startDeed {k : Nat} (h : Turn b n M ps 0) (e : b.prog[n]? = some (.start k)) : Turn b (n + 1) (M.deed b.ords (.start k)) ps 1 := by
  have et : b.prog.take (n + 1) = b.prog.take n ++ [.start k] := by rw [List.take_add_one, e]; rfl
  obtain ⟨S, w1, w2, w3, w4, w5, w6, w7⟩ := h.walk
  obtain ⟨h1, h2⟩ := h.rowsTop (rs := [(M.beats, Str.ofString "start", k, (0 : Int))]) fun r z => by rw [List.mem_singleton.mp z]
  obtain ⟨⟨n1, n2, n3⟩, _⟩ := nes
  refine ⟨h1, h2, ?_, ?_, ?_, ?_, ⟨{ S with left := S.left ++ movesOf b.ords k }, ?_, ?_, ?_, ?_, ?_, ?_, ?_⟩, ?_⟩
  · show (beatsOf "put" (M.rows ++ [_])).Pairwise (· < ·)
    rw [beatsOf_snoc, if_neg n2, List.append_nil]
    exact h.puts
  · show ∀ t ∈ beatsOf "put" (M.rows ++ [_]), _
    rw [beatsOf_snoc, if_neg n2, List.append_nil]
    exact h.putTop
  · show (beatsOf "start" (M.rows ++ [_])).Pairwise (· < ·)
    rw [beatsOf_snoc, if_pos rfl]
    exact snoc_sorted h.starts h.startTop
  · show ∀ t ∈ beatsOf "start" (M.rows ++ [_]), t < M.beats + 1
    rw [beatsOf_snoc, if_pos rfl]
    intro t ht
    rcases List.mem_append.mp ht with z | z
    · exact Nat.lt_succ_of_lt (h.startTop t z)
    · rw [List.mem_singleton.mp z]
      exact Nat.lt_succ_self _
  · show WS.walk b.ords _ (M.rows ++ [_]) = _
    rw [WS.walk_append, w1]
    show (match S.step b.ords (M.beats, Str.ofString "start", k, (0 : Int)) with | some T => some T | none => none) = _
    unfold WS.step
    rw [if_pos rfl]
  · show S.left ++ movesOf b.ords k = _
    rw [et, List.flatMap_append, w2]
    simp [startMoves]
  · show (S.left ++ movesOf b.ords k).drop S.at_ = M.left ++ movesOf b.ords k
    rw [List.drop_append_of_le_length w4, w3]
  · show S.at_ ≤ (S.left ++ movesOf b.ords k).length
    rw [List.length_append]
    omega
  · show (cellsOf "fetch" (M.rows ++ [_])).length = S.at_
    rw [cellsOf_snoc, if_neg n1, List.append_nil]
    exact w5
  · show (beatsOf "put" (M.rows ++ [_])).length = S.at_
    rw [beatsOf_snoc, if_neg n2, List.append_nil]
    exact w6
  · show cellsOf "bell" (M.rows ++ [_]) = ((S.left ++ movesOf b.ords k).take S.at_).filterMap (·.bell)
    rw [cellsOf_snoc, if_neg n3, List.append_nil, List.take_append_of_le_length w4]
    exact w7
  · show cellsOf "start" (M.rows ++ [_]) = _
    rw [cellsOf_snoc, if_pos rfl, et, List.filterMap_append, h.startNos]
    simp [startNo]
theorem Turn.process (h : Turn b M.at_ M 0 0) : Turn b (M.process b).at_ (M.process b) 0 1 := by
  have up : ∀ {n : Nat} {M : MS}, Turn b n M 0 0 → Turn b n M 0 1 := fun h => ⟨h.sorted, h.top, h.puts, h.putTop, h.starts, fun t ht => Nat.lt_succ_of_lt (h.startTop t ht), h.walk, h.startNos⟩
  unfold MS.process
  split
  · exact up (h.quiet (M2 := { M with idle := true }) (Quiet.same rfl rfl rfl rfl))
  · split
    · rename_i d e
      have h1 : Turn b M.at_ ({ M with idle := false, at_ := M.at_ + 1 } : MS) 0 0 := ⟨h.sorted, h.top, h.puts, h.putTop, h.starts, h.startTop, h.walk, h.startNos⟩
      have ha := (deed_left (M := { M with idle := false, at_ := M.at_ + 1 }) b.ords d).2
      have ha' : (MS.deed b.ords { M with idle := false, at_ := M.at_ + 1 } d).at_ = M.at_ + 1 := ha
      rw [ha']
      cases d with
      | start k => exact h1.startDeed e
      | set c k => exact up ((h1.quiet (quiet_write c _)).done e rfl rfl)
      | add c o => exact up ((h1.quiet (((quiet_read c).trans (quiet_read o)).trans (quiet_write c _))).done e rfl rfl)
      | say c => exact up ((h1.quiet ((quiet_read c).trans (quiet_via (w := "say") rfl rfl rfl rfl (by decide)))).done e rfl rfl)
      | wait => exact up (h1.done e rfl rfl)
      | clean l => exact up ((h1.quiet (quiet_clean l)).done e rfl rfl)
      | drop l => exact up ((h1.quiet (quiet_drop l)).done e rfl rfl)
    · exact up h
theorem Turn.carry (h : Turn b n M 0 ss) : Turn b n M.carry 1 ss := by
  have up : ∀ {n : Nat} {M : MS}, Turn b n M 0 ss → Turn b n M 1 ss := fun h => ⟨h.sorted, h.top, h.puts, fun t ht => Nat.lt_succ_of_lt (h.putTop t ht), h.starts, h.startTop, h.walk, h.startNos⟩
  unfold MS.carry
  split
  · exact up h
  · rename_i m r e
    obtain ⟨S, w1, w2, w3, w4, w5, w6, w7⟩ := h.walk
    obtain ⟨⟨n1, n2, n3⟩, n4, n5, n6⟩ := nes
    have hat : S.left[S.at_]? = some m := by
      have : (S.left.drop S.at_)[0]? = some m := by rw [w3, e]; rfl
      rw [List.getElem?_drop] at this
      simpa using this
    have hlt : S.at_ < S.left.length := (List.getElem?_eq_some_iff.mp hat).1
    generalize ev : M.mem.getD m.src 0 = v
    obtain ⟨rs, erows, hrs⟩ : ∃ rs : List Row, ((({ (({ M with left := r } : MS).note "fetch" m.src v) with mem := M.mem.set m.dst v } : MS).note "put" m.dst v).bell m.bell).rows = M.rows ++ ([(M.beats, Str.ofString "fetch", m.src, v), (M.beats, Str.ofString "put", m.dst, v)] ++ rs) ∧ rs = (match m.bell with | none => [] | some k => [(M.beats, Str.ofString "bell", k, (0 : Int))]) := by
      cases m.bell with
      | none => exact ⟨[], by simp [MS.bell, MS.note], rfl⟩
      | some k => exact ⟨_, by simp [MS.bell, MS.note], rfl⟩
    obtain ⟨q1, q2, q3⟩ : ((({ (({ M with left := r } : MS).note "fetch" m.src v) with mem := M.mem.set m.dst v } : MS).note "put" m.dst v).bell m.bell).beats = M.beats ∧ ((({ (({ M with left := r } : MS).note "fetch" m.src v) with mem := M.mem.set m.dst v } : MS).note "put" m.dst v).bell m.bell).left = r ∧ True := by
      have g := grew_bell (M := (({ (({ M with left := r } : MS).note "fetch" m.src v) with mem := M.mem.set m.dst v } : MS).note "put" m.dst v)) m.bell
      exact ⟨g.beats, g.left, trivial⟩
    generalize ((({ (({ M with left := r } : MS).note "fetch" m.src v) with mem := M.mem.set m.dst v } : MS).note "put" m.dst v).bell m.bell) = N at erows q1 q2
    have rbeat : ∀ x ∈ [(M.beats, Str.ofString "fetch", m.src, v), (M.beats, Str.ofString "put", m.dst, v)] ++ rs, x.1 = M.beats := by
      intro x hx
      rcases List.mem_append.mp hx with z | z
      · simp only [List.mem_cons, List.not_mem_nil, or_false] at z
        rcases z with rfl | rfl <;> rfl
      · rw [hrs] at z
        cases hb : m.bell with
        | none => rw [hb] at z; cases z
        | some k => rw [hb] at z; rw [List.mem_singleton.mp z]
    obtain ⟨h1, h2⟩ := h.rowsTop rbeat
    have cw : ∀ w : Str, cellsOf w rs = (match m.bell with | none => [] | some k => if Str.ofString "bell" = w then [k] else []) ∧ beatsOf w rs = (match m.bell with | none => [] | some k => if Str.ofString "bell" = w then [M.beats] else []) := by
      intro w
      rw [hrs]
      cases m.bell with
      | none => exact ⟨rfl, rfl⟩
      | some k => exact ⟨(cellsOf_snoc w (Str.ofString "bell") [] M.beats k 0).trans (List.nil_append _), (beatsOf_snoc w (Str.ofString "bell") [] M.beats k 0).trans (List.nil_append _)⟩
    have two : ∀ w : Str, cellsOf w [(M.beats, Str.ofString "fetch", m.src, v), (M.beats, Str.ofString "put", m.dst, v)] = (if Str.ofString "fetch" = w then [m.src] else []) ++ (if Str.ofString "put" = w then [m.dst] else []) ∧ beatsOf w [(M.beats, Str.ofString "fetch", m.src, v), (M.beats, Str.ofString "put", m.dst, v)] = (if Str.ofString "fetch" = w then [M.beats] else []) ++ (if Str.ofString "put" = w then [M.beats] else []) := by
      intro w
      constructor
      · exact (cellsOf_snoc w (Str.ofString "put") [(M.beats, Str.ofString "fetch", m.src, v)] M.beats m.dst v).trans (by rw [show cellsOf w [(M.beats, Str.ofString "fetch", m.src, v)] = _ from (cellsOf_snoc w (Str.ofString "fetch") [] M.beats m.src v).trans (List.nil_append _)])
      · exact (beatsOf_snoc w (Str.ofString "put") [(M.beats, Str.ofString "fetch", m.src, v)] M.beats m.dst v).trans (by rw [show beatsOf w [(M.beats, Str.ofString "fetch", m.src, v)] = _ from (beatsOf_snoc w (Str.ofString "fetch") [] M.beats m.src v).trans (List.nil_append _)])
    have b0 : ∀ w : Str, Str.ofString "bell" ≠ w → cellsOf w rs = [] ∧ beatsOf w rs = [] := by
      intro w hw
      obtain ⟨c1, c2⟩ := cw w
      rw [c1, c2]
      cases m.bell with
      | none => exact ⟨rfl, rfl⟩
      | some k => exact ⟨if_neg hw, if_neg hw⟩
    have eput : beatsOf "put" N.rows = beatsOf "put" M.rows ++ [M.beats] := by
      rw [erows, beatsOf_append, beatsOf_append, (two _).2, (b0 _ n6.symm).2, if_neg n4, if_pos rfl]
      simp
    have estart : beatsOf "start" N.rows = beatsOf "start" M.rows ∧ cellsOf "start" N.rows = cellsOf "start" M.rows := by
      rw [erows, beatsOf_append, beatsOf_append, cellsOf_append, cellsOf_append, (two _).2, (two _).1, (b0 _ n3.symm).2, (b0 _ n3.symm).1, if_neg n1.symm, if_neg n2.symm, if_neg n1.symm, if_neg n2.symm]
      simp
    have efetch : cellsOf "fetch" N.rows = cellsOf "fetch" M.rows ++ [m.src] := by
      rw [erows, cellsOf_append, cellsOf_append, (two _).1, (b0 _ n5.symm).1, if_pos rfl, if_neg n4.symm]
      simp
    have ebell : cellsOf "bell" N.rows = cellsOf "bell" M.rows ++ m.bell.toList := by
      rw [erows, cellsOf_append, cellsOf_append, (two _).1, (cw _).1, if_neg n5, if_neg n6]
      cases m.bell <;> simp
    refine ⟨by rw [erows]; exact h1, by rw [erows, q1]; exact h2, ?_, ?_, ?_, ?_, ⟨{ S with at_ := S.at_ + 1, here := (M.beats, v) }, ?_, w2, ?_, hlt, ?_, ?_, ?_⟩, ?_⟩
    · rw [eput]
      exact snoc_sorted h.puts h.putTop
    · rw [eput, q1]
      intro t ht
      rcases List.mem_append.mp ht with z | z
      · have := h.putTop t z
        omega
      · rw [List.mem_singleton.mp z]
        omega
    · rw [estart.1]
      exact h.starts
    · rw [estart.1, q1]
      exact h.startTop
    · rw [erows, WS.walk_append, w1]
      show WS.walk b.ords S _ = _
      have s1 : S.step b.ords (M.beats, Str.ofString "fetch", m.src, v) = some { S with here := (M.beats, v) } := by
        unfold WS.step
        rw [if_neg n1.symm, if_pos rfl, hat]
        show (if m.src = m.src then _ else _) = _
        rw [if_pos rfl]
      have s2 : WS.step b.ords { S with here := (M.beats, v) } (M.beats, Str.ofString "put", m.dst, v) = some { S with at_ := S.at_ + 1, here := (M.beats, v) } := by
        unfold WS.step
        rw [if_neg n2.symm, if_neg n4.symm, if_pos rfl]
        show (match S.left[S.at_]? with | some m' => if m'.dst = m.dst ∧ (M.beats, v) = (M.beats, v) then some _ else none | none => none) = _
        rw [hat]
        exact if_pos ⟨rfl, rfl⟩
      show (match S.step b.ords (M.beats, Str.ofString "fetch", m.src, v) with | some T => T.walk b.ords ((M.beats, Str.ofString "put", m.dst, v) :: rs) | none => none) = _
      rw [s1]
      show (match WS.step b.ords { S with here := (M.beats, v) } (M.beats, Str.ofString "put", m.dst, v) with | some T => T.walk b.ords rs | none => none) = _
      rw [s2]
      show WS.walk b.ords { S with at_ := S.at_ + 1, here := (M.beats, v) } rs = _
      rw [hrs]
      cases hb : m.bell with
      | none => rfl
      | some k =>
        show (match WS.step b.ords { S with at_ := S.at_ + 1, here := (M.beats, v) } (M.beats, Str.ofString "bell", k, (0 : Int)) with | some T => some T | none => none) = _
        have s3 : WS.step b.ords { S with at_ := S.at_ + 1, here := (M.beats, v) } (M.beats, Str.ofString "bell", k, (0 : Int)) = some { S with at_ := S.at_ + 1, here := (M.beats, v) } := by
          unfold WS.step
          rw [if_neg n3.symm, if_neg n5.symm, if_neg n6.symm, if_pos rfl, if_neg (Nat.succ_ne_zero _)]
          show (match S.left[S.at_ + 1 - 1]? with | some m' => if m'.bell = some k then some _ else none | none => none) = _
          rw [Nat.add_sub_cancel, hat]
          exact if_pos hb
        rw [s3]
    · show S.left.drop (S.at_ + 1) = N.left
      rw [q2, ← List.drop_drop, w3, e]
      rfl
    · show (cellsOf "fetch" N.rows).length = S.at_ + 1
      rw [efetch, List.length_append, w5]
      rfl
    · show (beatsOf "put" N.rows).length = S.at_ + 1
      rw [eput, List.length_append, w6]
      rfl
    · show cellsOf "bell" N.rows = (S.left.take (S.at_ + 1)).filterMap (·.bell)
      rw [ebell, List.take_add_one, hat, List.filterMap_append, ← w7]
      congr 1
    · rw [estart.2]
      exact h.startNos
theorem Turn.tick (h : Turn b n M ps ss) (hp : ps ≤ 1) (hs : ss ≤ 1) : Turn b n M.tick 0 0 :=
  ⟨h.sorted, fun r hr => Nat.le_succ_of_le (h.top r hr), h.puts, fun t ht => by have := h.putTop t ht; show t < M.beats + 1 + 0; omega, h.starts, fun t ht => by have := h.startTop t ht; show t < M.beats + 1 + 0; omega, h.walk, h.startNos⟩
theorem Turn.beat (h : Turn b M.at_ M 0 0) (pace : List Bool) : Turn b (M.beat b pace).at_ (M.beat b pace) 0 0 := by
  unfold MS.beat MS.moved
  split
  · have := h.process.carry.tick (Nat.le_refl _) (Nat.le_refl _)
    have ea : ((M.process b).carry.tick).at_ = (M.process b).at_ := (carry_grew (M := M.process b)).1
    rw [ea]
    exact this
  · exact h.process.tick (Nat.zero_le _) (Nat.le_refl _)
end
theorem Turn.run (b : Bd) : ∀ (n : Nat) {M : MS} (pace : List Bool), Turn b M.at_ M 0 0 → Turn b (MS.run b n M pace).at_ (MS.run b n M pace) 0 0
  | 0, _, _, h => h
  | n + 1, M, pace, h => by
    show Turn b (if M.over b = true then M else MS.run b n (M.beat b pace) ((M.process b).pick pace).2).at_ (if M.over b = true then M else MS.run b n (M.beat b pace) ((M.process b).pick pace).2) 0 0
    split
    · exact h
    · exact Turn.run b n _ (h.beat pace)
/-! ### how many beats -/
theorem quiet_puts {M M2 : MS} (q : Quiet M M2) : beatsOf "put" M2.rows = beatsOf "put" M.rows := by
  obtain ⟨⟨rs, e, hr⟩, _⟩ := q
  rw [e, beatsOf_append, (plain_none (w := "put") (fun r z => (hr r z).1) (.inr (.inr (.inl rfl)))).2, List.append_nil]
theorem deed_puts {M : MS} (os : List Ord) (d : Deed) : beatsOf "put" (M.deed os d).rows = beatsOf "put" M.rows := by
  cases d with
  | start k =>
    show beatsOf "put" (M.rows ++ [_]) = _
    rw [beatsOf_snoc, if_neg nes.1.2.1, List.append_nil]
  | set c k => exact quiet_puts (quiet_write c _)
  | add c o => exact quiet_puts (((quiet_read c).trans (quiet_read o)).trans (quiet_write c _))
  | say c => exact quiet_puts ((quiet_read c).trans (quiet_via (w := "say") rfl rfl rfl rfl (by decide)))
  | wait => rfl
  | clean l => exact quiet_puts (quiet_clean l)
  | drop l => exact quiet_puts (quiet_drop l)
theorem process_puts {b : Bd} {M : MS} : beatsOf "put" (M.process b).rows = beatsOf "put" M.rows ∧ ((M.process b).idle = false → (M.process b).at_ = M.at_ + 1 ∨ M.process b = M) := by
  unfold MS.process
  split
  · exact ⟨rfl, fun z => by cases z⟩
  · split
    · rename_i d e
      exact ⟨deed_puts (M := { M with idle := false, at_ := M.at_ + 1 }) b.ords d, fun _ => .inl (deed_left (M := { M with idle := false, at_ := M.at_ + 1 }) b.ords d).2⟩
    · exact ⟨rfl, fun _ => .inr rfl⟩
theorem carry_puts {M : MS} : (beatsOf "put" M.carry.rows).length = (beatsOf "put" M.rows).length + (if M.left = [] then 0 else 1) := by
  unfold MS.carry
  split
  · rename_i e
    rw [e, if_pos rfl]
    rfl
  · rename_i m r e
    rw [e, if_neg (by simp)]
    have eb : ∀ N : MS, beatsOf "put" (N.bell m.bell).rows = beatsOf "put" N.rows := by
      intro N
      cases m.bell with
      | none => rfl
      | some k =>
        show beatsOf "put" (N.rows ++ [_]) = _
        rw [beatsOf_snoc, if_neg nes.2.2.2.symm, List.append_nil]
    rw [eb]
    show (beatsOf "put" ((M.rows ++ [(M.beats, Str.ofString "fetch", m.src, M.mem.getD m.src 0)]) ++ [(M.beats, Str.ofString "put", m.dst, M.mem.getD m.src 0)])).length = _
    rw [beatsOf_snoc, if_pos rfl, beatsOf_snoc, if_neg nes.2.1, List.append_nil, List.length_append]
    rfl
structure Cnt (M : MS) : Prop where
  lo : M.at_ ≤ M.beats
  hi : M.beats ≤ M.at_ + (beatsOf "put" M.rows).length
theorem Cnt.beat {b : Bd} {M : MS} (h : Cnt M) (g : Good b) (ho : M.over b = false) (pace : List Bool) : Cnt (M.beat b pace) := by
  obtain ⟨h1, h2, h3, h4, h5, h6⟩ := process_grew (M := M) g
  obtain ⟨c1, c2, c3, c4, c5⟩ := carry_grew (M := M.process b)
  obtain ⟨p1, p2⟩ := process_puts (b := b) (M := M)
  have cp := carry_puts (M := M.process b)
  have hlo := h.lo
  have hhi := h.hi
  unfold MS.beat MS.tick MS.moved
  by_cases hi : (M.process b).idle = true
  · have hp : ((M.process b).pick pace).1 = true := by
      unfold MS.pick MS.mayRest
      rw [hi]
      simp
    rw [hp, if_pos rfl]
    obtain ⟨e1, e2⟩ := h4 hi
    have hne : M.left ≠ [] := by
      intro z
      rw [hi] at h6
      unfold MS.isIdle at h6
      unfold MS.over at ho
      rw [z] at h6 ho
      simp at h6 ho
      omega
    rw [e1, if_neg hne, p1] at cp
    refine ⟨?_, ?_⟩
    · show (M.process b).carry.at_ ≤ (M.process b).carry.beats + 1
      rw [c1, c2, e2, h1]
      omega
    · show (M.process b).carry.beats + 1 ≤ (M.process b).carry.at_ + (beatsOf "put" (M.process b).carry.rows).length
      rw [c1, c2, e2, h1, cp]
      omega
  · have hi' : (M.process b).idle = false := by simpa using hi
    have hat : (M.process b).at_ = M.at_ + 1 := by
      rcases p2 hi' with z | z
      · exact z
      · have hf := h5 hi'
        rw [z] at hf
        omega
    by_cases hm : ((M.process b).pick pace).1 = true
    · rw [if_pos hm]
      rw [p1] at cp
      refine ⟨?_, ?_⟩
      · show (M.process b).carry.at_ ≤ (M.process b).carry.beats + 1
        rw [c1, c2, hat, h1]
        omega
      · show (M.process b).carry.beats + 1 ≤ (M.process b).carry.at_ + (beatsOf "put" (M.process b).carry.rows).length
        rw [c1, c2, hat, h1, cp]
        omega
    · rw [if_neg hm]
      refine ⟨?_, ?_⟩
      · show (M.process b).at_ ≤ (M.process b).beats + 1
        rw [hat, h1]
        omega
      · show (M.process b).beats + 1 ≤ (M.process b).at_ + (beatsOf "put" (M.process b).rows).length
        rw [hat, h1, p1]
        omega
theorem Cnt.run {b : Bd} (g : Good b) : ∀ (n : Nat) {M : MS} (pace : List Bool), Cnt M → Cnt (MS.run b n M pace)
  | 0, _, _, h => h
  | n + 1, M, pace, h => by
    show Cnt (if M.over b = true then M else _)
    by_cases ho : M.over b = true
    · rw [if_pos ho]
      exact h
    · rw [if_neg ho]
      exact Cnt.run g n _ (h.beat g (by simpa using ho) pace)
theorem run_le {b : Bd} (g : Good b) (pace : List Bool) : (MS.run b 1980 (MS.init b) pace).at_ ≤ b.prog.length := (run_going g 1980 pace (Going.init g)).le
/-- what a whole run tells -/
structure Whole (b : Bd) (R : MS) : Prop where
  sorted : (R.rows.map (·.1)).Pairwise (· ≤ ·)
  top : ∀ r ∈ R.rows, r.1 ≤ R.beats
  puts : (beatsOf "put" R.rows).Nodup
  starts : (beatsOf "start" R.rows).Nodup
  walk : ∃ S : WS, WS.walk b.ords ⟨[], 0, (0, 0)⟩ R.rows = some S ∧ S.at_ = S.left.length ∧ (cellsOf "fetch" R.rows).length = S.at_
  bells : cellsOf "bell" R.rows = (b.prog.flatMap (startMoves b.ords)).filterMap (·.bell)
  startNos : cellsOf "start" R.rows = b.prog.filterMap startNo
  lo : b.prog.length ≤ R.beats
  hi : R.beats ≤ b.prog.length + (beatsOf "put" R.rows).length
  few : (beatsOf "put" R.rows).length ≤ 1980
theorem lt_nodup {xs : List Nat} (h : xs.Pairwise (· < ·)) : xs.Nodup := h.imp fun {a c} hac z => by omega
theorem gone_whole {b : Bd} (g : Good b) (pace : List Bool) : Whole b (goneOf b pace) := by
  have h0 : Turn b 0 (MS.init b) 0 0 := Turn.init b
  have h := Turn.run b 1980 (M := MS.init b) pace h0
  have c := Cnt.run g 1980 (M := MS.init b) pace ⟨Nat.le_refl _, Nat.le_refl _⟩
  have ho := run_over g 1980 pace (show (MS.init b).fuel b ≤ 1980 by have := (Going.init g).far; omega)
  have hb := (run_going g 1980 pace (Going.init g)).far
  have q := quiet_cleans (List.range 4) (MS.run b 1980 (MS.init b) pace)
  have e : goneOf b pace = (List.range 4).foldl MS.clean (MS.run b 1980 (MS.init b) pace) := rfl
  have h2 := h.quiet q
  unfold MS.over at ho
  simp only [Bool.and_eq_true, decide_eq_true_eq, List.isEmpty_iff] at ho
  have hat : (MS.run b 1980 (MS.init b) pace).at_ = b.prog.length := Nat.le_antisymm (run_le g pace) ho.1
  rw [hat, ← e] at h2
  obtain ⟨S, w1, w2, w3, w4, w5, w6, w7⟩ := h2.walk
  have hleft : (goneOf b pace).left = [] := by
    rw [e, q.left]
    exact ho.2
  have hS : S.at_ = S.left.length := by
    rw [hleft] at w3
    have := List.drop_eq_nil_iff.mp w3
    omega
  have hbe : (goneOf b pace).beats = (MS.run b 1980 (MS.init b) pace).beats := by
    rw [e, q.beats]
  have hpu : beatsOf "put" (goneOf b pace).rows = beatsOf "put" (MS.run b 1980 (MS.init b) pace).rows := by
    rw [e]
    exact quiet_puts q
  have few : (beatsOf "put" (goneOf b pace).rows).length ≤ 1980 := by
    have h3 := nodup_bound _ _ (lt_nodup h2.puts) h2.putTop
    omega
  refine ⟨h2.sorted, h2.top, lt_nodup h2.puts, lt_nodup h2.starts, ⟨S, w1, hS, w5⟩, ?_, ?_, ?_, ?_, few⟩
  · rw [w7, hS, List.take_length, w2, List.take_length]
  · rw [h2.startNos, List.take_length]
  · rw [hbe, ← hat]
    exact c.lo
  · rw [hbe, hpu, ← hat]
    exact c.hi
end BC
/-! BCBad: machines that stand alike; whether at some pace something is amiss (Bad). -/
namespace BC
open PySem PySem.Spec PyProof.Rows L2
abbrev Tail := Str × Nat × Int
def tails (rs : List Row) : List Tail := rs.map (·.2)
theorem tails_append (a b : List Row) : tails (a ++ b) = tails a ++ tails b := List.map_append
theorem hget_hdel {es : List HE} {l k : Nat} : hget (hdel es l) k = if k = l then none else hget es k := by
  induction es with
  | nil => simp [hdel, hget]
  | cons e r ih =>
    have ih' : hget (r.filter fun e => decide (e.1 ≠ l)) k = if k = l then none else hget r k := ih
    show hget ((e :: r).filter fun e => decide (e.1 ≠ l)) k = _
    rw [List.filter_cons]
    by_cases e1 : e.1 = l
    · rw [if_neg (by simp [e1]), ih']
      by_cases e2 : k = l
      · rw [if_pos e2, if_pos e2]
      · rw [if_neg e2, if_neg e2]
        show _ = if e.1 = k then some e.2 else hget r k
        rw [if_neg (fun z => e2 (z.symm.trans e1))]
    · rw [if_pos (by simp [e1])]
      show (if e.1 = k then some e.2 else hget _ k) = if k = l then none else if e.1 = k then some e.2 else hget r k
      rw [ih']
      by_cases e2 : k = l
      · rw [if_pos e2, if_pos e2, if_neg (fun z => e1 (z.trans e2))]
      · rw [if_neg e2, if_neg e2]
/-- M stands as N does; its story is that of N behind pre -/
structure Lk (pre : List Tail) (M N : MS) : Prop where
  mem : M.mem = N.mem
  left : M.left = N.left
  at_ : M.at_ = N.at_
  held : ∀ l, hget M.held l = hget N.held l
  rows : tails M.rows = pre ++ tails N.rows
section
variable {pre : List Tail} {M N : MS} {b : Bd}
theorem Lk.refl (M : MS) : Lk [] M M := ⟨rfl, rfl, rfl, fun _ => rfl, rfl⟩
theorem Lk.symm (h : Lk [] M N) : Lk [] N M := ⟨h.mem.symm, h.left.symm, h.at_.symm, fun l => (h.held l).symm, h.rows.symm⟩
theorem Lk.trans {O : MS} (h : Lk pre M N) (g : Lk [] N O) : Lk pre M O := ⟨h.mem.trans g.mem, h.left.trans g.left, h.at_.trans g.at_, fun l => (h.held l).trans (g.held l), by rw [h.rows, g.rows]; rfl⟩
theorem Lk.note (h : Lk pre M N) (w : Str) (p : Nat) (k : Int) : Lk pre (M.note w p k) (N.note w p k) := ⟨h.mem, h.left, h.at_, h.held, by
  show tails (M.rows ++ [(M.beats, w, p, k)]) = pre ++ tails (N.rows ++ [(N.beats, w, p, k)])
  rw [tails_append, tails_append, h.rows, List.append_assoc]
  rfl⟩
theorem Lk.take (h : Lk pre M N) (l : Nat) : Lk pre (M.take l) (N.take l) := by
  have e := h.held l
  unfold MS.take
  rw [e]
  cases q : hget N.held l with
  | some v => exact h
  | none =>
    rw [q] at e
    refine Lk.note (M := { M with held := M.held ++ [(l, (M.mem.drop (4 * l)).take 4, false)] }) (N := { N with held := N.held ++ [(l, (N.mem.drop (4 * l)).take 4, false)] }) ⟨h.mem, h.left, h.at_, fun k => ?_, h.rows⟩ _ _ _
    show hget (M.held ++ [(l, (M.mem.drop (4 * l)).take 4, false)]) k = hget (N.held ++ [(l, (N.mem.drop (4 * l)).take 4, false)]) k
    rw [hget_append e, hget_append q, h.mem, h.held k]
theorem Lk.cells (h : Lk pre M N) (l : Nat) : M.cells l = N.cells l := by
  unfold MS.cells
  rw [h.held l]
theorem Lk.val (h : Lk pre M N) (c : Nat) : M.val c = N.val c := by
  unfold MS.val
  rw [(h.take (c / 4)).cells]
theorem Lk.read (h : Lk pre M N) (c : Nat) : Lk pre (M.read c) (N.read c) := by
  unfold MS.read
  rw [h.val c]
  exact (h.take _).note _ _ _
theorem Lk.put (h : Lk pre M N) (l : Nat) (v : List Int × Bool) : Lk pre (M.put l v) (N.put l v) := ⟨h.mem, h.left, h.at_, fun k => by
  show hget (hset M.held l v) k = hget (hset N.held l v) k
  rw [hget_set, hget_set, h.held l, h.held k], h.rows⟩
theorem Lk.write (h : Lk pre M N) (c : Nat) (v : Int) : Lk pre (M.write c v) (N.write c v) := by
  unfold MS.write
  rw [(h.take (c / 4)).cells]
  exact ((h.take _).put _ _).note _ _ _
theorem Lk.clean (h : Lk pre M N) (l : Nat) : Lk pre (M.clean l) (N.clean l) := by
  unfold MS.clean
  rw [h.held l]
  split
  · rename_i cs e
    refine Lk.note (M := { M with mem := M.mem.take (4 * l) ++ cs ++ M.mem.drop (4 * l + 4), held := hset M.held l (cs, false) }) (N := { N with mem := N.mem.take (4 * l) ++ cs ++ N.mem.drop (4 * l + 4), held := hset N.held l (cs, false) }) ⟨?_, h.left, h.at_, (h.put l (cs, false)).held, h.rows⟩ _ _ _
    show M.mem.take (4 * l) ++ cs ++ M.mem.drop (4 * l + 4) = N.mem.take (4 * l) ++ cs ++ N.mem.drop (4 * l + 4)
    rw [h.mem]
  · exact h
theorem Lk.drop (h : Lk pre M N) (l : Nat) : Lk pre (M.drop l) (N.drop l) := by
  unfold MS.drop
  rw [h.held l]
  split
  · refine Lk.note (M := { M with held := hdel M.held l }) (N := { N with held := hdel N.held l }) ⟨h.mem, h.left, h.at_, fun k => ?_, h.rows⟩ _ _ _
    show hget (hdel M.held l) k = hget (hdel N.held l) k
    rw [hget_hdel, hget_hdel, h.held k]
  · exact h
theorem Lk.deed (h : Lk pre M N) (os : List Ord) (d : Deed) : Lk pre (M.deed os d) (N.deed os d) := by
  cases d with
  | set c k => exact h.write c _
  | add c o =>
    show Lk pre (((M.read c).read o).write c ((M.val c + (M.read c).val o) % 10)) (((N.read c).read o).write c ((N.val c + (N.read c).val o) % 10))
    rw [h.val c, (h.read c).val o]
    exact ((h.read c).read o).write c _
  | say c =>
    show Lk pre ((M.read c).note "say" c (M.val c)) ((N.read c).note "say" c (N.val c))
    rw [h.val c]
    exact (h.read c).note _ _ _
  | start k =>
    refine Lk.note (M := { M with left := M.left ++ movesOf os k }) (N := { N with left := N.left ++ movesOf os k }) ⟨h.mem, ?_, h.at_, h.held, h.rows⟩ _ _ _
    show M.left ++ movesOf os k = N.left ++ movesOf os k
    rw [h.left]
  | wait => exact h
  | clean l => exact h.clean l
  | drop l => exact h.drop l
theorem Lk.idle (h : Lk pre M N) (p : List Deed) : M.isIdle p = N.isIdle p := by
  unfold MS.isIdle
  rw [h.at_, h.left]
theorem Lk.process (h : Lk pre M N) (b : Bd) : Lk pre (M.process b) (N.process b) := by
  unfold MS.process
  rw [h.idle, h.at_]
  split
  · exact ⟨h.mem, h.left, rfl, h.held, h.rows⟩
  · split
    · rename_i d e
      exact Lk.deed (M := { M with idle := false, at_ := N.at_ + 1 }) (N := { N with idle := false, at_ := N.at_ + 1 }) ⟨h.mem, h.left, rfl, h.held, h.rows⟩ _ _
    · exact ⟨h.mem, h.left, h.at_, h.held, h.rows⟩
theorem Lk.bell (h : Lk pre M N) (o : Option Nat) : Lk pre (M.bell o) (N.bell o) := by
  cases o with
  | none => exact h
  | some k => exact h.note _ _ _
theorem Lk.carry (h : Lk pre M N) : Lk pre M.carry N.carry := by
  unfold MS.carry
  rw [h.left]
  split
  · exact h
  · rename_i m r e
    rw [h.mem]
    refine Lk.bell (Lk.note (M := { (({ M with left := r } : MS).note "fetch" m.src (N.mem.getD m.src 0)) with mem := N.mem.set m.dst (N.mem.getD m.src 0) }) (N := { (({ N with left := r } : MS).note "fetch" m.src (N.mem.getD m.src 0)) with mem := N.mem.set m.dst (N.mem.getD m.src 0) }) ⟨rfl, rfl, h.at_, h.held, ?_⟩ _ _ _) _
    exact (Lk.note (M := { M with left := r }) (N := { N with left := r }) ⟨h.mem, rfl, h.at_, h.held, h.rows⟩ "fetch" m.src (N.mem.getD m.src 0)).rows
theorem Lk.moved (h : Lk pre M N) (mv : Bool) : Lk pre (M.moved mv) (N.moved mv) := by
  unfold MS.moved
  split
  · exact h.carry
  · exact h
theorem Lk.mayRest (h : Lk pre M N) (g : Good b) : (M.process b).mayRest = (N.process b).mayRest := by
  have e1 := (process_grew (M := M) g).2.2.2.2.2
  have e2 := (process_grew (M := N) g).2.2.2.2.2
  unfold MS.mayRest
  rw [(h.process b).left, e1, e2, h.idle]
theorem Lk.over (h : Lk pre M N) (b : Bd) : M.over b = N.over b := by
  unfold MS.over
  rw [h.at_, h.left]
theorem Lk.cleans : ∀ (ls : List Nat) {M N : MS}, Lk pre M N → Lk pre (ls.foldl MS.clean M) (ls.foldl MS.clean N)
  | [], _, _, h => h
  | l :: r, M, N, h => by
    rw [List.foldl_cons, List.foldl_cons]
    exact Lk.cleans r (h.clean l)
theorem Lk.finish (h : Lk pre M N) : Lk pre M.finish N.finish := h.cleans (List.range 4)
theorem Lk.tick (h : Lk pre M N) : Lk pre M.tick N.tick := ⟨h.mem, h.left, h.at_, h.held, h.rows⟩
theorem Lk.pick (h : Lk pre M N) (g : Good b) (pace : List Bool) : (M.process b).pick pace = (N.process b).pick pace := by
  unfold MS.pick
  rw [h.mayRest g]
theorem Lk.beat (h : Lk pre M N) (g : Good b) (pace : List Bool) : Lk pre (M.beat b pace) (N.beat b pace) := by
  unfold MS.beat
  rw [h.pick g]
  exact ((h.process b).moved _).tick
theorem Lk.run (g : Good b) : ∀ (n : Nat) {M N : MS} (pace : List Bool), Lk pre M N → Lk pre (MS.run b n M pace) (MS.run b n N pace)
  | 0, _, _, _, h => h
  | n + 1, M, N, pace, h => by
    show Lk pre (if M.over b = true then M else _) (if N.over b = true then N else _)
    rw [h.over b]
    split
    · exact h
    · rw [h.pick g]
      exact Lk.run g n _ (h.beat g pace)
/-- what is told already stands ahead of all that is told later -/
theorem run_tells (g : Good b) (n : Nat) (M : MS) (pace : List Bool) : ∃ more, tails (MS.run b n M pace).rows = tails M.rows ++ more :=
  ⟨_, (Lk.run g n pace (show Lk (tails M.rows) M { M with rows := [] } from ⟨rfl, rfl, rfl, fun _ => rfl, by simp [tails]⟩)).rows⟩
end
/-! ### how many readings were looked at -/
structure Cn (M M2 : MS) : Prop where
  nr : M2.nr = M.nr
  nf : M2.nf = M.nf
section
variable {M : MS} {b : Bd}
theorem Cn.refl (M : MS) : Cn M M := ⟨rfl, rfl⟩
theorem Cn.trans {M1 M2 : MS} (h : Cn M M1) (g : Cn M1 M2) : Cn M M2 := ⟨g.nr.trans h.nr, g.nf.trans h.nf⟩
theorem cn_take (l : Nat) : Cn M (M.take l) := by
  unfold MS.take
  split <;> exact ⟨rfl, rfl⟩
theorem cn_read (c : Nat) : Cn M (M.read c) := (cn_take (c / 4)).trans ⟨rfl, rfl⟩
theorem cn_write (c : Nat) (v : Int) : Cn M (M.write c v) := (cn_take (c / 4)).trans ⟨rfl, rfl⟩
theorem cn_clean (l : Nat) : Cn M (M.clean l) := by
  unfold MS.clean
  split <;> exact ⟨rfl, rfl⟩
theorem cn_drop (l : Nat) : Cn M (M.drop l) := by
  unfold MS.drop
  split <;> exact ⟨rfl, rfl⟩
theorem cn_deed (os : List Ord) (d : Deed) : Cn M (M.deed os d) := by
  cases d with
  | set c k => exact cn_write c _
  | add c o => exact ((cn_read c).trans (cn_read o)).trans (cn_write c _)
  | say c => exact (cn_read c).trans ⟨rfl, rfl⟩
  | start k => exact ⟨rfl, rfl⟩
  | wait => exact ⟨rfl, rfl⟩
  | clean l => exact cn_clean l
  | drop l => exact cn_drop l
theorem cn_process (b : Bd) : Cn M (M.process b) := by
  unfold MS.process
  split
  · exact ⟨rfl, rfl⟩
  · split
    · exact Cn.trans (M1 := { M with idle := false, at_ := M.at_ + 1 }) ⟨rfl, rfl⟩ (cn_deed _ _)
    · exact ⟨rfl, rfl⟩
theorem cn_carry : Cn M M.carry := by
  unfold MS.carry
  split
  · exact ⟨rfl, rfl⟩
  · rename_i m r e
    cases m.bell <;> exact ⟨rfl, rfl⟩
theorem cn_moved (mv : Bool) : Cn M (M.moved mv) := by
  unfold MS.moved
  split
  · exact cn_carry
  · exact ⟨rfl, rfl⟩
end
/-! ### the rows looked through -/
def look (aim : PS) (s : Nat × Nat) (t : Tail) : Option (Nat × Nat) :=
  if t.1 = ("read" : Str) then (if aim.reads[s.1]? = some t.2 then some (s.1 + 1, s.2) else none)
  else if t.1 = ("fetch" : Str) then (if aim.fetches[s.2]? = some t.2 then some (s.1, s.2 + 1) else none) else some s
def seen (aim : PS) : List Tail → Nat × Nat → Option (Nat × Nat)
  | [], s => some s
  | t :: r, s => match look aim s t with
    | none => none
    | some s' => seen aim r s'
theorem seen_append (aim : PS) : ∀ (a c : List Tail) (s : Nat × Nat), seen aim (a ++ c) s = (seen aim a s).bind fun s' => seen aim c s'
  | [], c, s => rfl
  | t :: r, c, s => by
    show (match look aim s t with | none => none | some s' => seen aim (r ++ c) s') = _
    cases e : look aim s t with
    | none => simp [seen, e]
    | some s' =>
      simp only [seen, e]
      exact seen_append aim r c s'
/-- the machine behind a look at its rows -/
def after (aim : PS) (N : MS) : Option MS := (seen aim (tails N.rows) (N.nr, N.nf)).map fun s => { N with rows := [], nr := s.1, nf := s.2 }
def nextOf (b : Bd) (M : MS) (mv : Bool) : MS := (M.process b).moved mv
def may (b : Bd) (M : MS) (mv : Bool) : Prop := mv = true ∨ (M.process b).mayRest = true
inductive Bad (b : Bd) : MS → Prop
  | fin (M : MS) (ho : M.over b = true) (h : M.finish.mem ≠ (plainOf b).mem) : Bad b M
  | see (M : MS) (mv : Bool) (ho : M.over b = false) (h : may b M mv) (hn : after (plainOf b) (nextOf b M mv) = none) : Bad b M
  | on (M : MS) (mv : Bool) (N : MS) (ho : M.over b = false) (h : may b M mv) (hn : after (plainOf b) (nextOf b M mv) = some N) (hb : Bad b N) : Bad b M
structure Eqv (M N : MS) : Prop where
  lk : Lk [] M N
  nr : M.nr = N.nr
  nf : M.nf = N.nf
theorem Eqv.refl (M : MS) : Eqv M M := ⟨Lk.refl M, rfl, rfl⟩
theorem Eqv.symm {M N : MS} (h : Eqv M N) : Eqv N M := ⟨h.lk.symm, h.nr.symm, h.nf.symm⟩
theorem Eqv.trans {M N O : MS} (h : Eqv M N) (g : Eqv N O) : Eqv M O := ⟨h.lk.trans g.lk, h.nr.trans g.nr, h.nf.trans g.nf⟩
theorem Eqv.tick (M : MS) : Eqv M M.tick := ⟨⟨rfl, rfl, rfl, fun _ => rfl, rfl⟩, rfl, rfl⟩
section
variable {M N : MS} {b : Bd} {aim : PS}
theorem Eqv.next (h : Eqv M N) (b : Bd) (mv : Bool) : Eqv (nextOf b M mv) (nextOf b N mv) := by
  have c1 := (cn_process (M := M) b).trans (cn_moved mv)
  have c2 := (cn_process (M := N) b).trans (cn_moved mv)
  exact ⟨(h.lk.process b).moved mv, by unfold nextOf; rw [c1.nr, c2.nr, h.nr], by unfold nextOf; rw [c1.nf, c2.nf, h.nf]⟩
theorem Eqv.seen (h : Eqv M N) : seen aim (tails M.rows) (M.nr, M.nf) = BC.seen aim (tails N.rows) (N.nr, N.nf) := by
  rw [h.lk.rows, h.nr, h.nf]
  rfl
theorem Eqv.after_none (h : Eqv M N) (e : after aim M = none) : after aim N = none := by
  unfold after at e ⊢
  rw [← h.seen]
  rw [Option.map_eq_none_iff] at e ⊢
  exact e
theorem Eqv.after_some {M1 : MS} (h : Eqv M N) (e : after aim M = some M1) : ∃ N1, after aim N = some N1 ∧ Eqv M1 N1 := by
  unfold after at e ⊢
  rw [← h.seen]
  cases q : BC.seen aim (tails M.rows) (M.nr, M.nf) with
  | none =>
    rw [q] at e
    cases e
  | some s =>
    rw [q] at e
    cases e
    exact ⟨_, rfl, ⟨h.lk.mem, h.lk.left, h.lk.at_, h.lk.held, rfl⟩, rfl, rfl⟩
theorem Eqv.may (h : Eqv M N) (g : Good b) {mv : Bool} (e : may b M mv) : may b N mv := by
  unfold BC.may at e ⊢
  rw [← h.lk.mayRest g]
  exact e
theorem Bad.congr (g : Good b) (hb : Bad b M) : ∀ {N : MS}, Eqv M N → Bad b N := by
  induction hb with
  | fin M ho h =>
    intro N e
    exact .fin N (by rw [← e.lk.over b]; exact ho) (by rw [← e.lk.finish.mem]; exact h)
  | see M mv ho h hn =>
    intro N e
    exact .see N mv (by rw [← e.lk.over b]; exact ho) (e.may g h) ((e.next b mv).after_none hn)
  | on M mv M1 ho h hn hb ih =>
    intro N e
    obtain ⟨N1, h1, h2⟩ := (e.next b mv).after_some hn
    exact .on N mv N1 (by rw [← e.lk.over b]; exact ho) (e.may g h) h1 (ih h2)
end
end BC
/-! BCBad2: a run at a pace is amiss just where Bad says so; where a search's machines stand. -/
namespace BC
open PySem PySem.Spec PyProof.Rows L2
theorem look_other {aim : PS} {s : Nat × Nat} {t : Tail} (h1 : t.1 ≠ Str.ofString "read") (h2 : t.1 ≠ Str.ofString "fetch") : look aim s t = some s := by
  unfold look
  rw [if_neg h1, if_neg h2]
theorem ne_rf : Str.ofString "fetch" ≠ Str.ofString "read" := fun z => by have := ofS_inj.mp z; simp at this
theorem found_seen (aim : PS) : ∀ (rows : List Row) (a c : Nat) (found : List Row), (rows.foldl AS.step ⟨aim.reads.drop a, aim.fetches.drop c, found⟩).found = [] ↔ found = [] ∧ ∃ s, seen aim (tails rows) (a, c) = some s
  | [], a, c, found => ⟨fun h => ⟨h, _, rfl⟩, fun h => h.1⟩
  | r :: rest, a, c, found => by
    rw [List.foldl_cons]
    have es : seen aim (tails (r :: rest)) (a, c) = match look aim (a, c) r.2 with | none => none | some s' => seen aim (tails rest) s' := rfl
    rw [es]
    unfold AS.step look
    by_cases h1 : r.2.1 = Str.ofString "read"
    · rw [if_pos h1, if_pos h1]
      show (rest.foldl AS.step ⟨(aim.reads.drop a).tail, aim.fetches.drop c, found ++ (if (aim.reads.drop a).head? = some r.2.2 then [] else [r])⟩).found = [] ↔ _
      rw [List.tail_drop, found_seen aim rest (a + 1) c, List.head?_drop]
      by_cases h2 : aim.reads[a]? = some r.2.2
      · rw [if_pos h2, if_pos h2, List.append_nil]
      · rw [if_neg h2, if_neg h2]
        simp
    · rw [if_neg h1, if_neg h1]
      by_cases h3 : r.2.1 = Str.ofString "fetch"
      · rw [if_pos h3, if_pos h3]
        show (rest.foldl AS.step ⟨aim.reads.drop a, (aim.fetches.drop c).tail, found ++ (if (aim.fetches.drop c).head? = some r.2.2 then [] else [r])⟩).found = [] ↔ _
        rw [List.tail_drop, found_seen aim rest a (c + 1), List.head?_drop]
        by_cases h2 : aim.fetches[c]? = some r.2.2
        · rw [if_pos h2, if_pos h2, List.append_nil]
        · rw [if_neg h2, if_neg h2]
          simp
      · rw [if_neg h3, if_neg h3]
        exact found_seen aim rest a c found
theorem cleans_rows : ∀ (ls : List Nat) (M : MS), ∃ more, (ls.foldl MS.clean M).rows = M.rows ++ more ∧ ∀ r ∈ more, r.2.1 = Str.ofString "clean"
  | [], M => ⟨[], by simp, by simp⟩
  | l :: r, M => by
    obtain ⟨m1, h1, h2⟩ := cleans_rows r (M.clean l)
    have : ∃ m0, (M.clean l).rows = M.rows ++ m0 ∧ ∀ r ∈ m0, r.2.1 = Str.ofString "clean" := by
      unfold MS.clean
      split
      · exact ⟨[_], rfl, by simp⟩
      · exact ⟨[], by simp, by simp⟩
    obtain ⟨m0, g1, g2⟩ := this
    refine ⟨m0 ++ m1, by rw [List.foldl_cons, h1, g1, List.append_assoc], fun r hr => ?_⟩
    rcases List.mem_append.mp hr with hr | hr
    · exact g2 r hr
    · exact h2 r hr
theorem seen_plain (aim : PS) : ∀ {rows : List Row} (s : Nat × Nat), (∀ r ∈ rows, r.2.1 = Str.ofString "clean") → seen aim (tails rows) s = some s
  | [], s, _ => rfl
  | r :: rest, s, h => by
    have h0 := h r List.mem_cons_self
    show (match look aim s r.2 with | none => none | some s' => seen aim (tails rest) s') = _
    rw [look_other (by rw [h0]; intro z; have := ofS_inj.mp z; simp at this) (by rw [h0]; intro z; have := ofS_inj.mp z; simp at this)]
    exact seen_plain aim s fun r hr => h r (List.mem_cons_of_mem _ hr)
theorem getD_ext {xs ys : List Int} (hl : xs.length = ys.length) (h : ∀ i < xs.length, xs.getD i 0 = ys.getD i 0) : xs = ys := by
  refine List.ext_getElem hl fun i h1 h2 => ?_
  have := h i h1
  rwa [List.getD_eq_getElem?_getD, List.getD_eq_getElem?_getD, List.getElem?_eq_getElem h1, List.getElem?_eq_getElem h2] at this
theorem amiss_iff {b : Bd} (g : Good b) (pace : List Bool) : amissOf b pace ≠ [] ↔ (seen (plainOf b) (tails (MS.run b 1980 (MS.init b) pace).rows) (0, 0) = none ∨ (MS.run b 1980 (MS.init b) pace).finish.mem ≠ (plainOf b).mem) := by
  obtain ⟨more, hm, hc⟩ := cleans_rows (List.range 4) (MS.run b 1980 (MS.init b) pace)
  have hg : goneOf b pace = (List.range 4).foldl MS.clean (MS.run b 1980 (MS.init b) pace) := rfl
  have h1 : (amissRows b pace).found = [] ↔ ∃ s, seen (plainOf b) (tails (goneOf b pace).rows) (0, 0) = some s := by
    have := found_seen (plainOf b) (goneOf b pace).rows 0 0 []
    simpa [amissRows] using this
  have h2 : seen (plainOf b) (tails (goneOf b pace).rows) (0, 0) = seen (plainOf b) (tails (MS.run b 1980 (MS.init b) pace).rows) (0, 0) := by
    rw [hg, hm, tails_append, seen_append]
    cases seen (plainOf b) (tails (MS.run b 1980 (MS.init b) pace).rows) (0, 0) with
    | none => rfl
    | some s => exact seen_plain _ s hc
  have hl : (goneOf b pace).mem.length = (plainOf b).mem.length := by
    rw [(gone_ok g pace).1.len]
    exact (plain_mem_len b.ords b.prog (PS.init b.mem)).symm
  have h3 : (List.range (goneOf b pace).mem.length).flatMap (endRow (goneOf b pace).beats (goneOf b pace).mem (plainOf b).mem) = [] ↔ (goneOf b pace).mem = (plainOf b).mem := by
    rw [List.flatMap_eq_nil_iff]
    constructor
    · intro h
      refine getD_ext hl fun i hi => ?_
      have := h i (List.mem_range.mpr hi)
      unfold endRow at this
      by_cases e : (goneOf b pace).mem.getD i 0 = (plainOf b).mem.getD i 0
      · exact e
      · rw [if_neg e] at this
        cases this
    · intro h i hi
      unfold endRow
      rw [h, if_pos rfl]
  unfold amissOf
  rw [Ne, List.append_eq_nil_iff, h1, h3, h2]
  show ¬ (_ ∧ (MS.run b 1980 (MS.init b) pace).finish.mem = _) ↔ _
  rw [Classical.not_and_iff_not_or_not]
  constructor
  · rintro (h | h)
    · refine .inl ?_
      cases e : seen (plainOf b) (tails (MS.run b 1980 (MS.init b) pace).rows) (0, 0) with
      | none => rfl
      | some s => exact absurd ⟨s, e⟩ h
    · exact .inr h
  · rintro (h | h)
    · exact .inl fun ⟨s, e⟩ => by rw [h] at e; cases e
    · exact .inr h
/-- M, gone with its story, is S, which was looked through -/
structure Bare (b : Bd) (M S : MS) : Prop where
  lk : Lk (tails M.rows) M S
  se : seen (plainOf b) (tails M.rows) (0, 0) = some (S.nr, S.nf)
section
variable {b : Bd} {M S : MS}
theorem Bare.bare (h : Bare b M S) : tails S.rows = [] := by
  have := h.lk.rows
  have hl := congrArg List.length this
  rw [List.length_append] at hl
  exact List.length_eq_zero_iff.mp (by omega)
theorem Bare.init (b : Bd) : Bare b (MS.init b) (MS.init b) := ⟨⟨rfl, rfl, rfl, fun _ => rfl, rfl⟩, rfl⟩
theorem Bare.eqv {S2 : MS} (h : Bare b M S) (e : Eqv S S2) : Bare b M S2 := ⟨h.lk.trans e.lk, by rw [h.se, e.nr, e.nf]⟩
/-- a beat: told amiss there, and so here -/
theorem Bare.no {mv : Bool} (h : Bare b M S) (e : after (plainOf b) (nextOf b S mv) = none) : seen (plainOf b) (tails (nextOf b M mv).tick.rows) (0, 0) = none := by
  have c := (cn_process (M := S) b).trans (cn_moved mv)
  have l := (h.lk.process b).moved mv
  have hs := h.bare
  unfold after at e
  rw [Option.map_eq_none_iff] at e
  show seen (plainOf b) (tails ((M.process b).moved mv).rows) (0, 0) = none
  rw [l.rows, seen_append, h.se]
  have e' : seen (plainOf b) (tails ((S.process b).moved mv).rows) (((S.process b).moved mv).nr, ((S.process b).moved mv).nf) = none := e
  rw [c.nr, c.nf] at e'
  exact e'
theorem Bare.yes {mv : Bool} {S1 : MS} (h : Bare b M S) (e : after (plainOf b) (nextOf b S mv) = some S1) : Bare b (nextOf b M mv).tick S1 := by
  have c := (cn_process (M := S) b).trans (cn_moved mv)
  have l := (h.lk.process b).moved mv
  unfold after at e
  obtain ⟨s, h1, h2⟩ := Option.map_eq_some_iff.mp e
  subst h2
  have e' : seen (plainOf b) (tails ((S.process b).moved mv).rows) (((S.process b).moved mv).nr, ((S.process b).moved mv).nf) = some s := h1
  rw [c.nr, c.nf] at e'
  refine ⟨⟨l.mem, l.left, l.at_, l.held, ?_⟩, ?_⟩
  · show tails ((M.process b).moved mv).rows = tails ((M.process b).moved mv).rows ++ []
    rw [List.append_nil]
  · show seen (plainOf b) (tails ((M.process b).moved mv).rows) (0, 0) = _
    rw [l.rows, seen_append, h.se]
    exact e'
theorem run_done {k : Nat} {pace : List Bool} (ho : M.over b = true) : MS.run b k M pace = M := by
  cases k with
  | zero => rfl
  | succ k =>
    show (if M.over b = true then M else _) = M
    rw [if_pos ho]
/-- at this pace something is amiss: Bad -/
theorem bad_of_run (g : Good b) : ∀ (k : Nat) {M S : MS} (pace : List Bool), Bare b M S → M.fuel b ≤ k →
    (seen (plainOf b) (tails (MS.run b k M pace).rows) (0, 0) = none ∨ (MS.run b k M pace).finish.mem ≠ (plainOf b).mem) → Bad b S := by
  intro k
  induction k with
  | zero =>
    intro M S pace h hf hr
    have ho : M.over b = true := run_over g 0 pace hf
    rw [run_done ho, h.se] at hr
    rcases hr with hr | hr
    · cases hr
    · exact .fin S (by rw [← h.lk.over b]; exact ho) (by rw [← h.lk.finish.mem]; exact hr)
  | succ k ih =>
    intro M S pace h hf hr
    by_cases ho : M.over b = true
    · rw [run_done ho, h.se] at hr
      rcases hr with hr | hr
      · cases hr
      · exact .fin S (by rw [← h.lk.over b]; exact ho) (by rw [← h.lk.finish.mem]; exact hr)
    · have ho' : M.over b = false := by simpa using ho
      have e : MS.run b (k + 1) M pace = MS.run b k (M.beat b pace) ((M.process b).pick pace).2 := by
        show (if M.over b = true then M else _) = _
        rw [if_neg ho]
      have hless := beat_less g ho' pace
      rw [e] at hr
      have hm : may b S ((M.process b).pick pace).1 := by
        unfold may
        rw [← h.lk.mayRest g]
        unfold MS.pick
        split
        · rename_i hh
          exact .inr hh
        · exact .inl rfl
      have hoS : S.over b = false := by rw [← h.lk.over b]; exact ho'
      have eb : M.beat b pace = (nextOf b M ((M.process b).pick pace).1).tick := rfl
      cases ea : after (plainOf b) (nextOf b S ((M.process b).pick pace).1) with
      | none => exact .see S _ hoS hm ea
      | some S1 =>
        refine .on S _ S1 hoS hm ea (ih ((M.process b).pick pace).2 ?_ (show (M.beat b pace).fuel b ≤ k by omega) hr)
        rw [eb]
        exact h.yes ea
/-- the pace that takes this way -/
def paceOf (b : Bd) (M : MS) (mv : Bool) : List Bool := if (M.process b).mayRest = true then [mv] else []
theorem pick_of {mv : Bool} {rest : List Bool} (h : may b M mv) : (M.process b).pick (paceOf b M mv ++ rest) = (mv, rest) := by
  unfold MS.pick paceOf
  by_cases hm : (M.process b).mayRest = true
  · rw [if_pos hm, if_pos hm]
    rfl
  · rw [if_neg hm, if_neg hm]
    rcases h with h | h
    · rw [h]
      rfl
    · exact absurd h hm
theorem run_next {k : Nat} {mv : Bool} {rest : List Bool} (ho : M.over b = false) (h : may b M mv) : MS.run b (k + 1) M (paceOf b M mv ++ rest) = MS.run b k (nextOf b M mv).tick rest := by
  show (if M.over b = true then M else MS.run b k (M.beat b (paceOf b M mv ++ rest)) ((M.process b).pick (paceOf b M mv ++ rest)).2) = _
  rw [ho]
  show MS.run b k (((M.process b).moved ((M.process b).pick (paceOf b M mv ++ rest)).1).tick) ((M.process b).pick (paceOf b M mv ++ rest)).2 = _
  rw [pick_of h]
  rfl
theorem next_less (g : Good b) {mv : Bool} (ho : M.over b = false) (h : may b M mv) : (nextOf b M mv).tick.fuel b < M.fuel b := by
  have := beat_less g ho (paceOf b M mv ++ [])
  unfold MS.beat at this
  rw [pick_of h] at this
  exact this
/-- S, met by a search at the pace p -/
def Way (b : Bd) (p : List Bool) (S : MS) : Prop := ∃ M k, Bare b M S ∧ M.fuel b ≤ k ∧ p.length + k ≤ 1980 ∧ ∀ rest, MS.run b 1980 (MS.init b) (p ++ rest) = MS.run b k M rest
theorem Way.init (g : Good b) : Way b [] (MS.init b) := ⟨MS.init b, 1980, Bare.init b, by have := (Going.init g).far; omega, by simp, fun _ => rfl⟩
theorem Way.len {p : List Bool} (h : Way b p S) : p.length ≤ 1980 := by
  obtain ⟨_, _, _, _, h, _⟩ := h
  omega
theorem Way.eqv {p : List Bool} {S2 : MS} (h : Way b p S) (e : Eqv S S2) : Way b p S2 := by
  obtain ⟨M, k, h1, h2, h3, h4⟩ := h
  exact ⟨M, k, h1.eqv e, h2, h3, h4⟩
theorem Bare.paceOf (h : Bare b M S) (g : Good b) (mv : Bool) : BC.paceOf b M mv = BC.paceOf b S mv := by
  unfold BC.paceOf
  rw [h.lk.mayRest g]
theorem Bare.may (h : Bare b M S) (g : Good b) {mv : Bool} (hm : may b S mv) : BC.may b M mv := by
  unfold BC.may at hm ⊢
  rw [h.lk.mayRest g]
  exact hm
theorem paceOf_len (mv : Bool) : (paceOf b M mv).length ≤ 1 := by
  unfold paceOf
  split <;> simp
theorem Way.next {p : List Bool} {mv : Bool} {S1 : MS} (g : Good b) (h : Way b p S) (ho : S.over b = false) (hm : may b S mv) (e : after (plainOf b) (nextOf b S mv) = some S1) : Way b (p ++ paceOf b S mv) S1 := by
  obtain ⟨M, k, h1, h2, h3, h4⟩ := h
  have hoM : M.over b = false := by rw [h1.lk.over b]; exact ho
  have hmM := h1.may g hm
  have hless := next_less g hoM hmM
  obtain ⟨k, rfl⟩ := Nat.exists_eq_succ_of_ne_zero (show k ≠ 0 by omega)
  refine ⟨(nextOf b M mv).tick, k, h1.yes e, by omega, ?_, fun rest => ?_⟩
  · have := paceOf_len (b := b) (M := S) mv
    rw [List.length_append]
    omega
  · rw [List.append_assoc, h4, ← h1.paceOf g]
    exact run_next hoM hmM
theorem Way.see {p : List Bool} {mv : Bool} (g : Good b) (h : Way b p S) (ho : S.over b = false) (hm : may b S mv) (e : after (plainOf b) (nextOf b S mv) = none) : amissOf b (p ++ paceOf b S mv) ≠ [] ∧ (p ++ paceOf b S mv).length ≤ 1980 := by
  obtain ⟨M, k, h1, h2, h3, h4⟩ := h
  have hoM : M.over b = false := by rw [h1.lk.over b]; exact ho
  have hmM := h1.may g hm
  have hless := next_less g hoM hmM
  obtain ⟨k, rfl⟩ := Nat.exists_eq_succ_of_ne_zero (show k ≠ 0 by omega)
  refine ⟨(amiss_iff g _).mpr (.inl ?_), ?_⟩
  · have e1 := h4 (BC.paceOf b M mv ++ [])
    rw [run_next hoM hmM, List.append_nil, h1.paceOf g] at e1
    rw [e1]
    obtain ⟨more, hr⟩ := run_tells g k (nextOf b M mv).tick []
    rw [hr, seen_append, h1.no e]
    rfl
  · have := paceOf_len (b := b) (M := S) mv
    rw [List.length_append]
    omega
theorem Way.fin {p : List Bool} (g : Good b) (h : Way b p S) (ho : S.over b = true) (e : S.finish.mem ≠ (plainOf b).mem) : amissOf b p ≠ [] := by
  obtain ⟨M, k, h1, h2, h3, h4⟩ := h
  have e1 := h4 []
  rw [List.append_nil, run_done (M := M) (by rw [h1.lk.over b]; exact ho)] at e1
  refine (amiss_iff g _).mpr (.inr ?_)
  rw [e1, h1.lk.finish.mem]
  exact e
/-- Bad: at some pace something is amiss -/
theorem amiss_of_bad (g : Good b) (hb : Bad b S) : ∀ {p : List Bool}, Way b p S → ∃ q, amissOf b q ≠ [] ∧ q.length ≤ 1980 := by
  induction hb with
  | fin S ho h => exact fun {p} w => ⟨p, w.fin g ho h, w.len⟩
  | see S mv ho h hn => exact fun {p} w => ⟨_, w.see g ho h hn⟩
  | on S mv S1 ho h hn hb ih => exact fun {p} w => ih (w.next g ho h hn)
theorem bad_iff (g : Good b) : Bad b (MS.init b) ↔ ∃ pace, amissOf b pace ≠ [] := by
  constructor
  · intro h
    obtain ⟨q, h1, _⟩ := amiss_of_bad g h (Way.init g)
    exact ⟨q, h1⟩
  · rintro ⟨pace, h⟩
    exact bad_of_run g 1980 pace (Bare.init b) (by have := (Going.init g).far; omega) ((amiss_iff g pace).mp h)
end
end BC
/-! BCSrch: what a search's machines are, their keys, how many there are; a search that ends tells Bad. -/
namespace BC
open PySem PySem.Spec PyProof.Rows L2
def allMoves (b : Bd) (n : Nat) : List Mv := (b.prog.take n).flatMap (startMoves b.ords)
def allReads (b : Bd) (n : Nat) : List Nat := (b.prog.take n).flatMap readsOf
/-- where a machine is -/
structure Pl (b : Bd) (M : MS) : Prop where
  ok : M.Ok b.mem.length
  le : M.at_ ≤ b.prog.length
  rd : M.nr + (cellsOf "read" M.rows).length = (allReads b M.at_).length
  ft : M.nf + (cellsOf "fetch" M.rows).length ≤ (allMoves b M.at_).length
  lf : M.left = (allMoves b M.at_).drop (M.nf + (cellsOf "fetch" M.rows).length)
section
variable {b : Bd} {M : MS}
theorem Pl.init (b : Bd) : Pl b (MS.init b) := ⟨MS.Ok.init, Nat.zero_le _, by simp [MS.init, cellsOf, allReads], by simp [MS.init, cellsOf, allMoves], by simp [MS.init, cellsOf, allMoves]⟩
theorem all_next {d : Deed} (e : b.prog[M.at_]? = some d) : allMoves b (M.at_ + 1) = allMoves b M.at_ ++ startMoves b.ords d ∧ allReads b (M.at_ + 1) = allReads b M.at_ ++ readsOf d := by
  have et : b.prog.take (M.at_ + 1) = b.prog.take M.at_ ++ [d] := by rw [List.take_add_one, e]; rfl
  unfold allMoves allReads
  rw [et, List.flatMap_append, List.flatMap_append]
  simp
theorem Pl.process (h : Pl b M) (g : Good b) : Pl b (M.process b) := by
  have hok := h.ok.process g
  unfold MS.process at hok ⊢
  split
  · exact ⟨⟨h.ok.len, h.ok.nd, h.ok.lines, h.ok.left⟩, h.le, h.rd, h.ft, h.lf⟩
  · rename_i hi
    rw [if_neg hi] at hok
    split
    · rename_i d e
      rw [e] at hok
      obtain ⟨h1, h2⟩ := deed_left (M := { M with idle := false, at_ := M.at_ + 1 }) b.ords d
      have t := tells_deed (M := { M with idle := false, at_ := M.at_ + 1 }) b.ords d
      have c := cn_deed (M := { M with idle := false, at_ := M.at_ + 1 }) b.ords d
      obtain ⟨a1, a2⟩ := all_next e
      refine ⟨hok, ?_, ?_, ?_, ?_⟩
      · rw [h2]
        exact (List.getElem?_eq_some_iff.mp e).1
      · rw [c.nr, t.rd, h2]
        show M.nr + (cellsOf "read" M.rows ++ readsOf d).length = (allReads b (M.at_ + 1)).length
        have := h.rd
        rw [a2, List.length_append, List.length_append]
        omega
      · rw [c.nf, t.ft, h2]
        show M.nf + (cellsOf "fetch" M.rows ++ []).length ≤ (allMoves b (M.at_ + 1)).length
        have := h.ft
        rw [a1, List.append_nil, List.length_append]
        omega
      · rw [c.nf, t.ft, h1, h2]
        show M.left ++ startMoves b.ords d = (allMoves b (M.at_ + 1)).drop (M.nf + (cellsOf "fetch" M.rows ++ []).length)
        rw [a1, List.append_nil, List.drop_append_of_le_length h.ft, ← h.lf]
    · exact h
theorem Pl.carry (h : Pl b M) : Pl b M.carry := by
  obtain ⟨c1, c2, c3, c4, c5⟩ := carry_grew (M := M)
  have t := tells_carry (M := M)
  have c := cn_carry (M := M)
  refine ⟨h.ok.carry, by rw [c1]; exact h.le, ?_, ?_, ?_⟩
  · rw [c.nr, t.rd, c1, List.append_nil]
    exact h.rd
  · rw [c.nf, t.ft, c1]
    have h1 := h.ft
    have h2 := congrArg List.length h.lf
    rw [List.length_drop] at h2
    simp only [List.length_append, List.length_map, List.length_take]
    omega
  · rw [c.nf, t.ft, c1, c4]
    have h2 := h.lf
    cases e : M.left with
    | nil =>
      rw [e] at h2
      simp only [List.take_nil, List.map_nil, List.append_nil, List.tail_nil]
      exact h2
    | cons m r =>
      rw [e] at h2
      have : (cellsOf "fetch" M.rows ++ List.map (·.src) (List.take 1 (m :: r))).length = (cellsOf "fetch" M.rows).length + 1 := by simp
      rw [this, ← Nat.add_assoc, ← List.tail_drop, ← h2]
theorem Pl.moved (h : Pl b M) (mv : Bool) : Pl b (M.moved mv) := by
  unfold MS.moved
  split
  · exact h.carry
  · exact h
theorem Pl.next (h : Pl b M) (g : Good b) (mv : Bool) : Pl b (nextOf b M mv) := (h.process g).moved mv
theorem Pl.tick (h : Pl b M) : Pl b M.tick := ⟨⟨h.ok.len, h.ok.nd, h.ok.lines, h.ok.left⟩, h.le, h.rd, h.ft, h.lf⟩
theorem seen_count (aim : PS) : ∀ (rows : List Row) (s t : Nat × Nat), seen aim (tails rows) s = some t → t.1 = s.1 + (cellsOf "read" rows).length ∧ t.2 = s.2 + (cellsOf "fetch" rows).length
  | [], s, t, h => by
    have : s = t := Option.some.inj h
    subst this
    simp [cellsOf]
  | r :: rest, s, t, h => by
    have h' : (match look aim s r.2 with | none => none | some s' => seen aim (tails rest) s') = some t := h
    unfold look at h'
    by_cases e1 : r.2.1 = Str.ofString "read"
    · rw [if_pos e1] at h'
      have c1 : cellsOf "read" (r :: rest) = r.2.2.1 :: cellsOf "read" rest := by
        unfold cellsOf
        rw [List.filter_cons, if_pos (decide_eq_true e1)]
        rfl
      have c2 : cellsOf "fetch" (r :: rest) = cellsOf "fetch" rest := by
        unfold cellsOf
        rw [List.filter_cons, if_neg (by rw [e1]; simpa using ne_rf.symm)]
      by_cases e2 : aim.reads[s.1]? = some r.2.2
      · rw [if_pos e2] at h'
        obtain ⟨g1, g2⟩ := seen_count aim rest _ t h'
        rw [c1, c2, g1, g2]
        exact ⟨by simp only [List.length_cons]; omega, rfl⟩
      · rw [if_neg e2] at h'
        cases h'
    · rw [if_neg e1] at h'
      have c1 : cellsOf "read" (r :: rest) = cellsOf "read" rest := by
        unfold cellsOf
        rw [List.filter_cons, if_neg (by simpa using e1)]
      by_cases e3 : r.2.1 = Str.ofString "fetch"
      · rw [if_pos e3] at h'
        have c2 : cellsOf "fetch" (r :: rest) = r.2.2.1 :: cellsOf "fetch" rest := by
          unfold cellsOf
          rw [List.filter_cons, if_pos (decide_eq_true e3)]
          rfl
        by_cases e2 : aim.fetches[s.2]? = some r.2.2
        · rw [if_pos e2] at h'
          obtain ⟨g1, g2⟩ := seen_count aim rest _ t h'
          rw [c1, c2, g1, g2]
          exact ⟨rfl, by simp only [List.length_cons]; omega⟩
        · rw [if_neg e2] at h'
          cases h'
      · rw [if_neg e3] at h'
        have c2 : cellsOf "fetch" (r :: rest) = cellsOf "fetch" rest := by
          unfold cellsOf
          rw [List.filter_cons, if_neg (by simpa using e3)]
        obtain ⟨g1, g2⟩ := seen_count aim rest _ t h'
        rw [c1, c2]
        exact ⟨g1, g2⟩
/-- a machine of a search -/
structure Std (b : Bd) (S : MS) : Prop where
  pl : Pl b S
  rows : S.rows = []
theorem Std.init (b : Bd) : Std b (MS.init b) := ⟨Pl.init b, rfl⟩
theorem Pl.after {S : MS} (h : Pl b M) (e : after (plainOf b) M = some S) : Std b S := by
  unfold BC.after at e
  obtain ⟨s, h1, h2⟩ := Option.map_eq_some_iff.mp e
  obtain ⟨g1, g2⟩ := seen_count _ _ _ _ h1
  subst h2
  refine ⟨⟨⟨h.ok.len, h.ok.nd, h.ok.lines, h.ok.left⟩, h.le, ?_, ?_, ?_⟩, rfl⟩
  · show s.1 + 0 = _
    rw [g1]
    exact h.rd
  · show s.2 + 0 ≤ _
    rw [g2]
    exact h.ft
  · show M.left = (allMoves b M.at_).drop (s.2 + 0)
    rw [g2]
    exact h.lf
theorem Std.tick {S : MS} (h : Std b S) : Std b S.tick := ⟨h.pl.tick, h.rows⟩
theorem take_le_len {α β : Type} (f : α → List β) : ∀ (xs : List α) (n : Nat), ((xs.take n).flatMap f).length ≤ (xs.flatMap f).length
  | [], n => by simp
  | x :: r, 0 => by simp
  | x :: r, n + 1 => by
    have := take_le_len f r n
    simp only [List.take_succ_cons, List.flatMap_cons, List.length_append]
    omega
theorem plain_lens (b : Bd) : (plainOf b).reads.length = (b.prog.flatMap readsOf).length ∧ (plainOf b).fetches.length = (b.prog.flatMap (startMoves b.ords)).length := by
  obtain ⟨p1, p2⟩ := plain_told b.ords b.prog (PS.init b.mem)
  have h1 := congrArg List.length p1
  have h2 := congrArg List.length p2
  simp only [List.length_map, List.length_append] at h1 h2
  refine ⟨?_, ?_⟩
  · unfold plainOf
    simpa [PS.init] using h1
  · unfold plainOf
    simpa [PS.init] using h2
/-- each reading that is looked at is due -/
theorem Pl.due (h : Pl b M) {x y : List Row} {r : Row} (e : M.rows = x ++ r :: y) : (r.2.1 = Str.ofString "read" → M.nr + (cellsOf "read" x).length < (plainOf b).reads.length) ∧ (r.2.1 = Str.ofString "fetch" → M.nf + (cellsOf "fetch" x).length < (plainOf b).fetches.length) := by
  obtain ⟨p1, p2⟩ := plain_lens b
  have t1 := take_le_len readsOf b.prog M.at_
  have t2 := take_le_len (startMoves b.ords) b.prog M.at_
  have key : ∀ w : Str, r.2.1 = w → (cellsOf w x).length < (cellsOf w M.rows).length := by
    intro w hw
    rw [e]
    unfold cellsOf
    simp only [List.filter_append, List.map_append, List.length_append, List.filter_cons, if_pos (decide_eq_true hw), List.map_cons, List.length_cons]
    omega
  have h1 := h.rd
  have h2 := h.ft
  unfold allReads at h1
  unfold allMoves at h2
  constructor
  · intro hw
    have := key _ hw
    omega
  · intro hw
    have := key _ hw
    omega
/-- few rows in a beat -/
theorem next_rows (g : Good b) (mv : Bool) : (nextOf b M mv).rows.length ≤ M.rows.length + 9 := by
  have h1 := (process_grew (M := M) g).2.1
  have h2 := (carry_grew (M := M.process b)).2.2.2.2
  unfold nextOf MS.moved
  split <;> omega
end
/-! ### keys -/
abbrev KeyD := Nat × List Int × List HE × Nat
set_option synthInstance.maxSize 1000 in
instance : DecidableEq KeyD := inferInstanceAs (DecidableEq (Nat × List Int × List (Nat × List Int × Bool) × Nat))
def heldUp (M : MS) : List HE := (List.range 4).filterMap fun l => (hget M.held l).map fun v => (l, v)
def keyOf (M : MS) : KeyD := (M.at_, M.mem, heldUp M, M.left.length)
theorem hget_up (M : MS) (l : Nat) : hget (heldUp M) l = if l < 4 then hget M.held l else none := by
  have key : ∀ (ls : List Nat), ls.Nodup → hget (ls.filterMap fun l => (hget M.held l).map fun v => (l, v)) l = if l ∈ ls then hget M.held l else none := by
    intro ls
    induction ls with
    | nil => intro _; simp [hget]
    | cons k r ih =>
      intro nd
      simp only [List.nodup_cons] at nd
      rw [List.filterMap_cons]
      cases e : hget M.held k with
      | none =>
        simp only [Option.map_none]
        rw [ih nd.2]
        by_cases h : l = k
        · subst h
          rw [if_neg nd.1, if_pos List.mem_cons_self, e]
        · by_cases h2 : l ∈ r
          · rw [if_pos h2, if_pos (List.mem_cons_of_mem _ h2)]
          · rw [if_neg h2, if_neg (by simp [h, h2])]
      | some v =>
        simp only [Option.map_some]
        show (if k = l then some v else hget _ l) = _
        by_cases h : k = l
        · subst h
          rw [if_pos rfl, if_pos List.mem_cons_self, e]
        · rw [if_neg h, ih nd.2]
          by_cases h2 : l ∈ r
          · rw [if_pos h2, if_pos (List.mem_cons_of_mem _ h2)]
          · rw [if_neg h2, if_neg (by simp [Ne.symm h, h2])]
  unfold heldUp
  rw [key _ List.nodup_range]
  simp only [List.mem_range]
section
variable {b : Bd} {M N : MS}
theorem Eqv.key (h : Eqv M N) : keyOf M = keyOf N := by
  unfold keyOf heldUp
  rw [h.lk.at_, h.lk.mem, h.lk.left]
  simp only [h.lk.held]
theorem key_eqv (g : Good b) (hM : Std b M) (hN : Std b N) (h : keyOf M = keyOf N) : Eqv M N := by
  unfold keyOf at h
  simp only [Prod.mk.injEq] at h
  obtain ⟨h1, h2, h3, h4⟩ := h
  have hm := hM.pl.lf
  have hn := hN.pl.lf
  have fm := hM.pl.ft
  have fn := hN.pl.ft
  have rm := hM.pl.rd
  have rn := hN.pl.rd
  rw [hM.rows] at hm fm rm
  rw [hN.rows] at hn fn rn
  have c0 : ∀ w : Str, (cellsOf w []).length = 0 := fun _ => rfl
  simp only [c0, Nat.add_zero] at hm fm rm hn fn rn
  have hf : M.nf = N.nf := by
    have l1 := congrArg List.length hm
    have l2 := congrArg List.length hn
    rw [List.length_drop] at l1 l2
    rw [h1] at l1 fm
    omega
  refine ⟨⟨h2, by rw [hm, hn, h1, hf], h1, fun l => ?_, by rw [hM.rows, hN.rows]; rfl⟩, by rw [rm, rn, h1], hf⟩
  have a1 := hget_up M l
  have a2 := hget_up N l
  rw [h3] at a1
  by_cases hl : l < 4
  · rw [if_pos hl] at a1 a2
    exact a1.symm.trans a2
  · have out : ∀ {S : MS}, Std b S → hget S.held l = none := by
      intro S hS
      cases e : hget S.held l with
      | none => rfl
      | some v =>
        have := (hS.pl.ok.cells4 e).2
        have := g.lines
        omega
    rw [out hM, out hN]
end
/-! ### searches -/
inductive Reach (b : Bd) : MS → Prop
  | init : Reach b (MS.init b)
  | next {S S1 S2 : MS} {mv : Bool} (h : Reach b S) (ho : S.over b = false) (hm : may b S mv) (e : after (plainOf b) (nextOf b S mv) = some S1) (q : Eqv S1 S2) : Reach b S2
/-- A: the machines that were met; P: those that are done with; met: their keys -/
structure Srch (b : Bd) (A P : MS → Prop) (met : List KeyD) : Prop where
  std : ∀ S, A S → Std b S ∧ Reach b S
  key : ∀ k ∈ met, ∃ S, A S ∧ keyOf S = k
  init : ∃ S, A S ∧ Eqv (MS.init b) S
  sub : ∀ S, P S → A S
  over : ∀ S, P S → S.over b = true → S.finish.mem = (plainOf b).mem
  on : ∀ S, P S → S.over b = false → ∀ mv, may b S mv → ∃ N, after (plainOf b) (nextOf b S mv) = some N ∧ keyOf N ∈ met
  nd : met.Nodup
section
variable {b : Bd} {A P : MS → Prop} {met : List KeyD}
theorem Srch.start (b : Bd) : Srch b (fun S => S = MS.init b) (fun _ => False) [] :=
  ⟨fun S h => (by rw [h]; exact ⟨Std.init b, Reach.init⟩), fun k hk => (by cases hk), ⟨_, rfl, Eqv.refl _⟩, fun _ h => False.elim h, fun _ h => False.elim h, fun _ h => False.elim h, List.nodup_nil⟩
theorem Srch.sure (g : Good b) (h : Srch b A A met) : ¬ Bad b (MS.init b) := by
  have key : ∀ {S : MS}, Bad b S → ∀ {S' : MS}, A S' → Eqv S S' → False := by
    intro S hb
    induction hb with
    | fin S ho hf =>
      intro S' hA e
      refine hf ?_
      rw [e.lk.finish.mem]
      exact h.over S' hA (by rw [← e.lk.over b]; exact ho)
    | see S mv ho hm hn =>
      intro S' hA e
      obtain ⟨N, h1, _⟩ := h.on S' hA (by rw [← e.lk.over b]; exact ho) mv (e.may g hm)
      rw [(e.next b mv).after_none hn] at h1
      cases h1
    | on S mv S1 ho hm hn hb ih =>
      intro S' hA e
      obtain ⟨N, h1, h2⟩ := h.on S' hA (by rw [← e.lk.over b]; exact ho) mv (e.may g hm)
      obtain ⟨N1, h3, h4⟩ := (e.next b mv).after_some hn
      rw [h1] at h3
      cases h3
      obtain ⟨S2, hA2, hk⟩ := h.key _ h2
      have hN : Std b N := ((h.std S' hA).1.pl.next g mv).after h1
      exact ih hA2 (h4.trans (key_eqv g hN (h.std S2 hA2).1 hk.symm))
  intro hb
  obtain ⟨S, hA, e⟩ := h.init
  exact key hb hA e
/-- another machine is met -/
theorem Srch.push (h : Srch b A P met) {N : MS} (hs : Std b N) (hr : Reach b N) (hk : keyOf N ∉ met) : Srch b (fun S => A S ∨ S = N) P (met ++ [keyOf N]) where
  std := fun S hS => by
    rcases hS with hS | rfl
    · exact h.std S hS
    · exact ⟨hs, hr⟩
  key := fun k hk' => by
    rcases List.mem_append.mp hk' with hk' | hk'
    · obtain ⟨S, h1, h2⟩ := h.key k hk'
      exact ⟨S, .inl h1, h2⟩
    · rw [List.mem_singleton] at hk'
      exact ⟨N, .inr rfl, hk'.symm⟩
  init := let ⟨S, h1, h2⟩ := h.init; ⟨S, .inl h1, h2⟩
  sub := fun S hS => .inl (h.sub S hS)
  over := h.over
  on := fun S hS ho mv hm => let ⟨N, h1, h2⟩ := h.on S hS ho mv hm; ⟨N, h1, List.mem_append_left _ h2⟩
  nd := by
    rw [List.nodup_append]
    refine ⟨h.nd, by simp, fun a ha c hc => ?_⟩
    rw [List.mem_singleton] at hc
    rintro rfl
    exact hk (hc ▸ ha)
/-- a machine is done with -/
theorem Srch.pop (h : Srch b A P met) {S : MS} (hA : A S) (ho : S.over b = true → S.finish.mem = (plainOf b).mem) (hn : S.over b = false → ∀ mv, may b S mv → ∃ N, after (plainOf b) (nextOf b S mv) = some N ∧ keyOf N ∈ met) : Srch b A (fun T => P T ∨ T = S) met where
  std := h.std
  key := h.key
  init := h.init
  sub := fun T hT => by
    rcases hT with hT | rfl
    · exact h.sub T hT
    · exact hA
  over := fun T hT => by
    rcases hT with hT | rfl
    · exact h.over T hT
    · exact ho
  on := fun T hT => by
    rcases hT with hT | rfl
    · exact h.on T hT
    · exact hn
  nd := h.nd
theorem Srch.iff {A2 P2 : MS → Prop} (h : Srch b A P met) (hA : ∀ S, A S ↔ A2 S) (hP : ∀ S, P S ↔ P2 S) : Srch b A2 P2 met := by
  have e1 : A = A2 := funext fun S => propext (hA S)
  have e2 : P = P2 := funext fun S => propext (hP S)
  rw [← e1, ← e2]
  exact h
end
/-- there are at most n machines to be met -/
def Few (b : Bd) (n : Nat) : Prop := ∃ U : List KeyD, U.length ≤ n ∧ ∀ S, Reach b S → keyOf S ∈ U
theorem nodup_sub {α : Type} [DecidableEq α] : ∀ (xs ys : List α), xs.Nodup → (∀ x ∈ xs, x ∈ ys) → xs.length ≤ ys.length
  | [], ys, _, _ => Nat.zero_le _
  | x :: r, ys, nd, h => by
    simp only [List.nodup_cons] at nd
    have hx := h x List.mem_cons_self
    have := nodup_sub r (ys.erase x) nd.2 fun y hy => by
      have hne : y ≠ x := fun z => nd.1 (z ▸ hy)
      exact (List.mem_erase_of_ne hne).mpr (h y (List.mem_cons_of_mem _ hy))
    rw [List.length_erase_of_mem hx] at this
    have := List.length_pos_of_mem hx
    simp only [List.length_cons]
    omega
theorem Srch.few {b : Bd} {A P : MS → Prop} {met : List KeyD} {n : Nat} (h : Srch b A P met) (f : Few b n) : met.length ≤ n := by
  obtain ⟨U, h1, h2⟩ := f
  refine Nat.le_trans (nodup_sub met U h.nd fun k hk => ?_) h1
  obtain ⟨S, hA, rfl⟩ := h.key k hk
  exact h2 S (h.std S hA).2
/-! ### the tree of all ways -/
def tree (b : Bd) : Nat → MS → List KeyD
  | 0, M => [keyOf M]
  | n + 1, M => keyOf M :: if M.over b = true then [] else if (M.process b).mayRest = true then tree b n (nextOf b M false) ++ tree b n (nextOf b M true) else tree b n (nextOf b M true)
/-- what is left to be done and moved, in all -/
def toDo (b : Bd) (M : MS) : Nat := (b.prog.length - M.at_) + M.left.length + ((b.prog.drop M.at_).flatMap (startMoves b.ords)).length
section
variable {b : Bd} {M : MS}
theorem next_toDo (g : Good b) {mv : Bool} (ho : M.over b = false) (hm : may b M mv) : toDo b (nextOf b M mv) < toDo b M ∧ ((M.process b).mayRest = true → b.prog.length - (nextOf b M mv).at_ + 1 ≤ b.prog.length - M.at_) ∧ M.at_ ≤ (nextOf b M mv).at_ := by
  obtain ⟨c1, c2, c3, c4, c5⟩ := carry_grew (M := M.process b)
  have e2 := (process_grew (M := M) g).2.2.2.2.2
  by_cases hi : M.isIdle b.prog = true
  · have ep : M.process b = { M with idle := true } := by unfold MS.process; rw [if_pos hi]
    have hr : (M.process b).mayRest = false := by
      unfold MS.mayRest
      rw [e2, hi]
      simp
    have hmv : mv = true := by
      rcases hm with h | h
      · exact h
      · rw [hr] at h
        cases h
    subst hmv
    have en : nextOf b M true = (M.process b).carry := rfl
    rw [hr, en]
    have hne : M.left ≠ [] := by
      intro z
      unfold MS.isIdle at hi
      unfold MS.over at ho
      rw [z] at hi ho
      simp at hi ho
      omega
    refine ⟨?_, fun z => (by cases z), by rw [c1, ep]; exact Nat.le_refl _⟩
    unfold toDo
    rw [c1, c4, ep]
    show (b.prog.length - M.at_) + M.left.tail.length + _ < _
    cases hl : M.left with
    | nil => exact absurd hl hne
    | cons m r =>
      simp only [List.tail_cons, List.length_cons]
      omega
  · have hlt : M.at_ < b.prog.length := by
      unfold MS.isIdle at hi
      simp only [Bool.or_eq_true, decide_eq_true_eq, not_or] at hi
      omega
    have e : b.prog[M.at_]? = some b.prog[M.at_] := List.getElem?_eq_getElem hlt
    obtain ⟨h1, h2⟩ := deed_left (M := { M with idle := false, at_ := M.at_ + 1 }) b.ords b.prog[M.at_]
    have ep : M.process b = MS.deed b.ords { M with idle := false, at_ := M.at_ + 1 } b.prog[M.at_] := by
      unfold MS.process
      rw [if_neg hi, e]
    have pa : (M.process b).at_ = M.at_ + 1 := by rw [ep, h2]
    have pl : (M.process b).left = M.left ++ startMoves b.ords b.prog[M.at_] := by rw [ep, h1]
    have ed : ((b.prog.drop M.at_).flatMap (startMoves b.ords)).length = (startMoves b.ords b.prog[M.at_]).length + ((b.prog.drop (M.at_ + 1)).flatMap (startMoves b.ords)).length := by
      rw [List.drop_eq_getElem_cons hlt, List.flatMap_cons, List.length_append]
    have na : (nextOf b M mv).at_ = M.at_ + 1 := by
      unfold nextOf MS.moved
      split
      · rw [c1, pa]
      · exact pa
    have nl : (nextOf b M mv).left.length ≤ (M.process b).left.length := by
      unfold nextOf MS.moved
      split
      · rw [c4]
        simp
      · exact Nat.le_refl _
    refine ⟨?_, fun _ => by rw [na]; omega, by rw [na]; omega⟩
    unfold toDo
    rw [na, ed]
    rw [pl, List.length_append] at nl
    omega
theorem tree_len (g : Good b) : ∀ (n : Nat) (M : MS), toDo b M ≤ n → (tree b n M).length ≤ 2 ^ (b.prog.length - M.at_) * (n + 1)
  | 0, M, h => by
    show 1 ≤ _
    exact Nat.mul_pos (Nat.two_pow_pos _) (Nat.succ_pos _)
  | n + 1, M, h => by
    have pos := Nat.two_pow_pos (b.prog.length - M.at_)
    have big : 2 ^ (b.prog.length - M.at_) * (n + 1 + 1) = 2 ^ (b.prog.length - M.at_) * (n + 1) + 2 ^ (b.prog.length - M.at_) := Nat.mul_succ _ _
    unfold tree
    by_cases ho : M.over b = true
    · rw [if_pos ho, big]
      simp only [List.length_cons, List.length_nil]
      omega
    · rw [if_neg ho]
      have ho' : M.over b = false := by simpa using ho
      by_cases hm : (M.process b).mayRest = true
      · rw [if_pos hm]
        obtain ⟨a1, a2, a3⟩ := next_toDo g (mv := false) ho' (.inr hm)
        obtain ⟨b1, b2, b3⟩ := next_toDo g (mv := true) ho' (.inl rfl)
        have t1 := tree_len g n _ (show toDo b (nextOf b M false) ≤ n by omega)
        have t2 := tree_len g n _ (show toDo b (nextOf b M true) ≤ n by omega)
        have a2' := a2 hm
        have b2' := b2 hm
        have p1 : 2 ^ (b.prog.length - (nextOf b M false).at_) ≤ 2 ^ (b.prog.length - M.at_ - 1) := Nat.pow_le_pow_right (by decide) (by omega)
        have p2 : 2 ^ (b.prog.length - (nextOf b M true).at_) ≤ 2 ^ (b.prog.length - M.at_ - 1) := Nat.pow_le_pow_right (by decide) (by omega)
        have q1 := Nat.mul_le_mul_right (n + 1) p1
        have q2 := Nat.mul_le_mul_right (n + 1) p2
        have dbl : 2 ^ (b.prog.length - M.at_) = 2 ^ (b.prog.length - M.at_ - 1) + 2 ^ (b.prog.length - M.at_ - 1) := by
          rw [← Nat.two_mul, ← Nat.pow_succ']
          congr 1
          omega
        have dm : 2 ^ (b.prog.length - M.at_) * (n + 1) = 2 ^ (b.prog.length - M.at_ - 1) * (n + 1) + 2 ^ (b.prog.length - M.at_ - 1) * (n + 1) := by rw [dbl, Nat.add_mul]
        rw [big]
        simp only [List.length_cons, List.length_append]
        omega
      · rw [if_neg hm]
        obtain ⟨b1, b2, b3⟩ := next_toDo g (mv := true) ho' (.inl rfl)
        have t2 := tree_len g n _ (show toDo b (nextOf b M true) ≤ n by omega)
        have p2 : 2 ^ (b.prog.length - (nextOf b M true).at_) ≤ 2 ^ (b.prog.length - M.at_) := Nat.pow_le_pow_right (by decide) (by omega)
        have q2 := Nat.mul_le_mul_right (n + 1) p2
        rw [big]
        simp only [List.length_cons]
        omega
/-- M as S, whatever they tell -/
theorem Lk.key {pre : List Tail} {M S : MS} (h : Lk pre M S) : keyOf M = keyOf S := by
  unfold keyOf heldUp
  rw [h.at_, h.mem, h.left]
  simp only [h.held]
theorem tree_self (n : Nat) : keyOf M ∈ tree b n M := by
  cases n with
  | zero => exact List.mem_singleton.mpr rfl
  | succ n => exact List.mem_cons_self
theorem reach_tree (g : Good b) {S : MS} (h : Reach b S) : ∃ M n, toDo b M ≤ n ∧ Lk (tails M.rows) M S ∧ tails S.rows = [] ∧ ∀ k ∈ tree b n M, k ∈ tree b (toDo b (MS.init b)) (MS.init b) := by
  induction h with
  | init => exact ⟨MS.init b, _, Nat.le_refl _, ⟨rfl, rfl, rfl, fun _ => rfl, rfl⟩, rfl, fun k hk => hk⟩
  | @next S S1 S2 mv h ho hm e q ih =>
    obtain ⟨M, n, h1, h2, h3, h4⟩ := ih
    have hoM : M.over b = false := by rw [h2.over b]; exact ho
    have hmM : may b M mv := by
      unfold may at hm ⊢
      rw [h2.mayRest g]
      exact hm
    obtain ⟨a1, a2, a3⟩ := next_toDo g hoM hmM
    obtain ⟨n, rfl⟩ := Nat.exists_eq_succ_of_ne_zero (show n ≠ 0 by omega)
    have l := (h2.process b).moved mv
    have ek : S1.rows = [] ∧ Lk (tails (nextOf b M mv).rows) (nextOf b M mv) S1 := by
      unfold after at e
      obtain ⟨s, g1, g2⟩ := Option.map_eq_some_iff.mp e
      subst g2
      refine ⟨rfl, l.mem, l.left, l.at_, l.held, ?_⟩
      show tails (nextOf b M mv).rows = tails (nextOf b M mv).rows ++ []
      rw [List.append_nil]
    refine ⟨nextOf b M mv, n, by omega, ek.2.trans q.lk, ?_, fun k hk => h4 k ?_⟩
    · have := q.lk.rows
      rw [ek.1] at this
      exact this.symm
    · show k ∈ keyOf M :: if M.over b = true then [] else if (M.process b).mayRest = true then tree b n (nextOf b M false) ++ tree b n (nextOf b M true) else tree b n (nextOf b M true)
      rw [if_neg (by rw [hoM]; exact Bool.false_ne_true)]
      refine List.mem_cons_of_mem _ ?_
      by_cases hr : (M.process b).mayRest = true
      · rw [if_pos hr]
        cases mv with
        | true => exact List.mem_append_right _ hk
        | false => exact List.mem_append_left _ hk
      · rw [if_neg hr]
        rcases hmM with z | z
        · rw [z] at hk
          exact hk
        · exact absurd z hr
/-- as many as the tree has -/
theorem few_of {n : Nat} (g : Good b) (h : (tree b (toDo b (MS.init b)) (MS.init b)).length ≤ n) : Few b n := ⟨_, h, fun S hS => by
  obtain ⟨M, m, h1, h2, h3, h4⟩ := reach_tree g hS
  rw [← h2.key]
  exact h4 _ (tree_self m)⟩
theorem few_tree {n : Nat} (g : Good b) (h : 2 ^ b.prog.length * (b.prog.length + (b.prog.flatMap (startMoves b.ords)).length + 1) ≤ n) : Few b n := by
  refine few_of g (Nat.le_trans (tree_len g _ _ (Nat.le_refl _)) (Nat.le_trans ?_ h))
  have e : toDo b (MS.init b) = b.prog.length + (b.prog.flatMap (startMoves b.ords)).length := by simp [toDo, MS.init]
  rw [e]
  exact Nat.le_refl _
end
theorem moves_all {b : Bd} (g : Good b) : (b.prog.flatMap (startMoves b.ords)).length ≤ 96 := by
  have key : ∀ ds : List Deed, (ds.flatMap (startMoves b.ords)).length ≤ 32 * (ds.filter Deed.isStart).length := by
    intro ds
    induction ds with
    | nil => simp
    | cons d r ih =>
      rw [List.flatMap_cons, List.length_append, List.filter_cons]
      cases d with
      | start k =>
        have h1 := moves_len g.ordsOk b.ords.length k
        have h2 := g.ords
        have h3 : (startMoves b.ords (.start k)).length ≤ 32 := by
          show (movesFrom b.ords b.ords.length k).length ≤ 32
          omega
        simp only [Deed.isStart, if_true, List.length_cons]
        omega
      | _ => simpa [startMoves, Deed.isStart] using ih
  have := key b.prog
  have := g.starts
  omega
end BC
/-! BCCalm: while the carrier has nothing to move, what the processor sees is what it is to see. -/
namespace BC
open PySem PySem.Spec PyProof.Rows L2
def colOf (w : Str) (rs : List Row) : List (Nat × Int) := (rs.filter fun r => decide (r.2.1 = w)).map fun r => r.2.2
theorem colOf_append (w : Str) (a c : List Row) : colOf w (a ++ c) = colOf w a ++ colOf w c := by
  unfold colOf
  rw [List.filter_append, List.map_append]
theorem colOf_one (w w' : Str) (t p : Nat) (k : Int) : colOf w [(t, w', p, k)] = if w' = w then [(p, k)] else [] := by
  unfold colOf
  by_cases h : w' = w
  · rw [if_pos h, List.filter_cons, if_pos (decide_eq_true h)]
    rfl
  · rw [if_neg h, List.filter_cons, if_neg (by simpa using h)]
    rfl
theorem saidOf_append (a c : List Row) : saidOf (a ++ c) = saidOf a ++ saidOf c := by
  unfold saidOf
  rw [List.filter_append, List.map_append]
theorem saidOf_one (w' : Str) (t p : Nat) (k : Int) : saidOf [(t, w', p, k)] = if w' = Str.ofString "say" then [k] else [] := by
  unfold saidOf
  by_cases h : w' = Str.ofString "say"
  · rw [if_pos h, List.filter_cons, if_pos (decide_eq_true h)]
    rfl
  · rw [if_neg h, List.filter_cons, if_neg (by simpa using h)]
    rfl
/-- what the processor would see in a cell -/
def vw (M : MS) (c : Nat) : Int := match hget M.held (c / 4) with
  | some (cs, _) => cs.getD (c % 4) 0
  | none => M.mem.getD c 0
section
variable {M : MS} {n : Nat}
theorem slice_get (m : List Int) (c : Nat) : ((m.drop (4 * (c / 4))).take 4).getD (c % 4) 0 = m.getD c 0 := by
  rw [List.getD_eq_getElem?_getD, List.getD_eq_getElem?_getD, List.getElem?_take, List.getElem?_drop, if_pos (by omega)]
  congr 2
  omega
theorem val_vw (M : MS) (c : Nat) : M.val c = vw M c := by
  unfold MS.val MS.take vw
  cases e : hget M.held (c / 4) with
  | some v =>
    obtain ⟨cs, t⟩ := v
    simp only [MS.cells, e]
  | none =>
    have e2 : hget (M.held ++ [(c / 4, (M.mem.drop (4 * (c / 4))).take 4, false)]) (c / 4) = some ((M.mem.drop (4 * (c / 4))).take 4, false) := (hget_append e).trans (if_pos rfl)
    show (match hget (M.held ++ [(c / 4, (M.mem.drop (4 * (c / 4))).take 4, false)]) (c / 4) with | some (c, _) => c | none => []).getD (c % 4) 0 = M.mem.getD c 0
    rw [e2]
    exact slice_get _ _
theorem vw_note (w : Str) (p : Nat) (k : Int) (c : Nat) : vw (M.note w p k) c = vw M c := rfl
theorem vw_take (l c : Nat) : vw (M.take l) c = vw M c := by
  unfold MS.take
  cases e : hget M.held l with
  | some v => rfl
  | none =>
    show (match hget (M.held ++ [(l, (M.mem.drop (4 * l)).take 4, false)]) (c / 4) with | some (cs, _) => cs.getD (c % 4) 0 | none => M.mem.getD c 0) = _
    rw [hget_append e]
    unfold vw
    by_cases h : c / 4 = l
    · rw [if_pos h, h, e, ← h]
      exact slice_get _ _
    · rw [if_neg h]
theorem vw_put {l c : Nat} {cs : List Int} {t : Bool} {v : List Int × Bool} (h : hget M.held l = some v) : vw (M.put l (cs, t)) c = if c / 4 = l then cs.getD (c % 4) 0 else vw M c := by
  show (match hget (hset M.held l (cs, t)) (c / 4) with | some (cs, _) => cs.getD (c % 4) 0 | none => M.mem.getD c 0) = _
  rw [hget_set]
  by_cases e : c / 4 = l
  · rw [if_pos e, if_pos e, h]
    rfl
  · rw [if_neg e, if_neg e]
    rfl
theorem getD_set (xs : List Int) (i j : Nat) (v : Int) (hi : i < xs.length) : (xs.set i v).getD j 0 = if j = i then v else xs.getD j 0 := by
  rw [List.getD_eq_getElem?_getD, List.getD_eq_getElem?_getD]
  by_cases h : j = i
  · subst h
    rw [if_pos rfl, List.getElem?_set_self hi]
    rfl
  · rw [if_neg h, List.getElem?_set_ne (fun z => h z.symm)]
theorem vw_write (ok : M.Ok n) (h4 : n % 4 = 0) {k : Nat} (hk : k < n) (v : Int) (c : Nat) : vw (M.write k v) c = if c = k then v else vw M c := by
  obtain ⟨⟨cs, t⟩, e⟩ := MS.take_some M (k / 4)
  have hc : (M.take (k / 4)).cells (k / 4) = cs := by
    unfold MS.cells
    rw [e]
  have hl := (ok.take h4 (l := k / 4) (by omega)).cells4 e
  unfold MS.write
  rw [vw_note, hc, vw_put e]
  by_cases h : c / 4 = k / 4
  · rw [if_pos h, getD_set _ _ _ _ (by omega)]
    by_cases h2 : c = k
    · rw [if_pos h2, if_pos (by rw [h2])]
    · rw [if_neg h2, if_neg (by omega)]
      have : vw (M.take (k / 4)) c = cs.getD (c % 4) 0 := by
        unfold vw
        rw [h, e]
      rw [← this, vw_take]
  · rw [if_neg h, if_neg (fun z => h (by rw [z])), vw_take]
theorem splice_get (m cs : List Int) (l c : Nat) (hl : cs.length = 4) (hm : 4 * l + 4 ≤ m.length) : (m.take (4 * l) ++ cs ++ m.drop (4 * l + 4)).getD c 0 = if c / 4 = l then cs.getD (c % 4) 0 else m.getD c 0 := by
  rw [List.getD_eq_getElem?_getD]
  have lt : (m.take (4 * l)).length = 4 * l := by rw [List.length_take]; omega
  by_cases h1 : c < 4 * l
  · rw [List.append_assoc, List.getElem?_append_left (by omega), List.getElem?_take, if_pos h1, if_neg (by omega), List.getD_eq_getElem?_getD]
  · by_cases h2 : c < 4 * l + 4
    · rw [List.append_assoc, List.getElem?_append_right (by omega), lt, List.getElem?_append_left (by omega), if_pos (by omega), List.getD_eq_getElem?_getD]
      congr 2
      omega
    · rw [List.getElem?_append_right (by rw [List.length_append]; omega), List.length_append, lt, hl, List.getElem?_drop, if_neg (by omega), List.getD_eq_getElem?_getD]
      congr 2
      omega
theorem vw_clean (ok : M.Ok n) (h4 : n % 4 = 0) (l c : Nat) : vw (M.clean l) c = vw M c := by
  unfold MS.clean
  split
  · rename_i cs e
    obtain ⟨h1, h2⟩ := ok.cells4 e
    show (match hget (hset M.held l (cs, false)) (c / 4) with | some (cs, _) => cs.getD (c % 4) 0 | none => (M.mem.take (4 * l) ++ cs ++ M.mem.drop (4 * l + 4)).getD c 0) = _
    rw [hget_set]
    unfold vw
    by_cases h : c / 4 = l
    · rw [if_pos h, h, e]
      rfl
    · rw [if_neg h, splice_get _ _ _ _ h1 (by rw [ok.len]; omega), if_neg h]
  · rfl
/-- lines that are held and not touched are as memory -/
def Un (M : MS) : Prop := ∀ l cs, hget M.held l = some (cs, false) → ∀ i < 4, cs.getD i 0 = M.mem.getD (4 * l + i) 0
theorem un_take (h : Un M) (l : Nat) : Un (M.take l) := by
  unfold MS.take
  cases e : hget M.held l with
  | some v => exact h
  | none =>
    intro k cs hk i hi
    have hk' : hget (M.held ++ [(l, (M.mem.drop (4 * l)).take 4, false)]) k = some (cs, false) := hk
    rw [hget_append e] at hk'
    by_cases z : k = l
    · rw [if_pos z] at hk'
      cases hk'
      show ((M.mem.drop (4 * l)).take 4).getD i 0 = M.mem.getD (4 * k + i) 0
      have := slice_get M.mem (4 * l + i)
      rw [show (4 * l + i) / 4 = l by omega, show (4 * l + i) % 4 = i by omega] at this
      rw [z]
      exact this
    · rw [if_neg z] at hk'
      exact h k cs hk' i hi
theorem un_note (h : Un M) (w : Str) (p : Nat) (k : Int) : Un (M.note w p k) := h
theorem un_write (h : Un M) (k : Nat) (v : Int) : Un (M.write k v) := by
  obtain ⟨⟨cs, t⟩, e⟩ := MS.take_some M (k / 4)
  have h1 := un_take h (k / 4)
  unfold MS.write
  refine un_note (M := (M.take (k / 4)).put (k / 4) _) ?_ _ _ _
  intro l cs' hl i hi
  have hl' : hget (hset (M.take (k / 4)).held (k / 4) (((M.take (k / 4)).cells (k / 4)).set (k % 4) v, true)) l = some (cs', false) := hl
  rw [hget_set] at hl'
  by_cases z : l = k / 4
  · rw [if_pos z, e] at hl'
    simp at hl'
  · rw [if_neg z] at hl'
    exact h1 l cs' hl' i hi
theorem un_clean (ok : M.Ok n) (h4 : n % 4 = 0) (h : Un M) (l : Nat) : Un (M.clean l) := by
  unfold MS.clean
  split
  · rename_i cs e
    obtain ⟨h1, h2⟩ := ok.cells4 e
    intro k cs' hk i hi
    have hk' : hget (hset M.held l (cs, false)) k = some (cs', false) := hk
    rw [hget_set] at hk'
    show cs'.getD i 0 = (M.mem.take (4 * l) ++ cs ++ M.mem.drop (4 * l + 4)).getD (4 * k + i) 0
    rw [splice_get _ _ _ _ h1 (by rw [ok.len]; omega)]
    by_cases z : k = l
    · rw [if_pos z, e] at hk'
      simp at hk'
      rw [if_pos (by omega), hk', show (4 * k + i) % 4 = i by omega]
    · rw [if_neg z] at hk'
      rw [if_neg (by omega)]
      exact h k cs' hk' i hi
  · exact h
/-- M sees and tells as S is to -/
structure Sim (n : Nat) (M : MS) (S : PS) : Prop where
  ok : M.Ok n
  len : S.mem.length = n
  v : ∀ c < n, vw M c = S.mem.getD c 0
  un : Un M
  rd : colOf "read" M.rows = S.reads
  ft : colOf "fetch" M.rows = S.fetches
  sd : saidOf M.rows = S.said
def Deed.calm : Deed → Bool
  | .start _ => false
  | .drop _ => false
  | _ => true
variable {S : PS}
theorem Sim.other (h : Sim n M S) {w : String} {p : Nat} {k : Int} (h1 : w ≠ "read") (h2 : w ≠ "fetch") (h3 : w ≠ "say") : Sim n (M.note (Str.ofString w) p k) S := by
  refine ⟨h.ok.note _ _ _, h.len, h.v, h.un, ?_, ?_, ?_⟩
  · show colOf "read" (M.rows ++ [(M.beats, Str.ofString w, p, k)]) = _
    rw [colOf_append, colOf_one, if_neg (fun z => h1 (ofS_inj.mp z)), List.append_nil, h.rd]
  · show colOf "fetch" (M.rows ++ [(M.beats, Str.ofString w, p, k)]) = _
    rw [colOf_append, colOf_one, if_neg (fun z => h2 (ofS_inj.mp z)), List.append_nil, h.ft]
  · show saidOf (M.rows ++ [(M.beats, Str.ofString w, p, k)]) = _
    rw [saidOf_append, saidOf_one, if_neg (fun z => h3 (ofS_inj.mp z)), List.append_nil, h.sd]
theorem Sim.rowsEq {M2 : MS} (h : Sim n M S) (ok : M2.Ok n) (v : ∀ c < n, vw M2 c = vw M c) (un : Un M2) (r : M2.rows = M.rows) : Sim n M2 S :=
  ⟨ok, h.len, fun c hc => (v c hc).trans (h.v c hc), un, by rw [r]; exact h.rd, by rw [r]; exact h.ft, by rw [r]; exact h.sd⟩
theorem Sim.take (h : Sim n M S) (h4 : n % 4 = 0) {l : Nat} (hl : l < n / 4) : Sim n (M.take l) S := by
  have ok := h.ok.take h4 hl
  have un := un_take h.un l
  have v : ∀ c, vw (M.take l) c = vw M c := vw_take l
  unfold MS.take at ok un v ⊢
  cases e : hget M.held l with
  | some w => exact h
  | none =>
    rw [e] at ok un v
    exact Sim.other (w := "take") (M := { M with held := M.held ++ [(l, (M.mem.drop (4 * l)).take 4, false)] }) (h.rowsEq ⟨ok.len, ok.nd, ok.lines, ok.left⟩ (fun c _ => v c) un rfl) (by decide) (by decide) (by decide)
theorem Sim.read (h : Sim n M S) (h4 : n % 4 = 0) {c : Nat} (hc : c < n) : Sim n (M.read c) (S.look c) ∧ M.val c = S.mem.getD c 0 := by
  have ev : M.val c = S.mem.getD c 0 := (val_vw M c).trans (h.v c hc)
  refine ⟨?_, ev⟩
  have h1 := h.take h4 (l := c / 4) (by omega)
  unfold MS.read
  refine ⟨h1.ok.note _ _ _, h.len, h1.v, h1.un, ?_, ?_, ?_⟩
  · show colOf "read" ((M.take (c / 4)).rows ++ [(_, Str.ofString "read", c, M.val c)]) = S.reads ++ [(c, S.mem.getD c 0)]
    rw [colOf_append, colOf_one, if_pos rfl, h1.rd, ev]
  · show colOf "fetch" ((M.take (c / 4)).rows ++ [(_, Str.ofString "read", c, M.val c)]) = S.fetches
    rw [colOf_append, colOf_one, if_neg (fun z => by have := ofS_inj.mp z; simp at this), List.append_nil, h1.ft]
  · show saidOf ((M.take (c / 4)).rows ++ [(_, Str.ofString "read", c, M.val c)]) = S.said
    rw [saidOf_append, saidOf_one, if_neg (fun z => by have := ofS_inj.mp z; simp at this), List.append_nil, h1.sd]
theorem Sim.write (h : Sim n M S) (h4 : n % 4 = 0) {c : Nat} (hc : c < n) (k : Int) : Sim n (M.write c k) (S.set c k) := by
  have ok := h.ok.write h4 hc k
  have hr : ∃ rs : List Row, (M.write c k).rows = M.rows ++ rs ∧ ∀ r ∈ rs, r.2.1 = Str.ofString "take" ∨ r.2.1 = Str.ofString "write" := by
    unfold MS.write MS.take
    cases hget M.held (c / 4) with
    | some v => exact ⟨[_], rfl, by simp⟩
    | none => exact ⟨[_, _], by show (M.rows ++ [_]) ++ [_] = _; rw [List.append_assoc]; rfl, by simp⟩
  obtain ⟨rs, e, hw⟩ := hr
  have out : ∀ w : String, w ≠ "take" → w ≠ "write" → ∀ r ∈ rs, r.2.1 ≠ Str.ofString w := fun w a b r hr z => by
    rcases hw r hr with q | q
    · exact a (ofS_inj.mp (z.symm.trans q))
    · exact b (ofS_inj.mp (z.symm.trans q))
  have nil : ∀ w : String, w ≠ "take" → w ≠ "write" → colOf (Str.ofString w) rs = [] := fun w a b => by
    unfold colOf
    rw [List.map_eq_nil_iff, List.filter_eq_nil_iff]
    intro r hr
    simpa using out w a b r hr
  refine ⟨ok, by show (S.mem.set c k).length = n; rw [List.length_set]; exact h.len, fun x hx => ?_, un_write h.un c k, ?_, ?_, ?_⟩
  · rw [vw_write h.ok h4 hc]
    show _ = (S.mem.set c k).getD x 0
    rw [getD_set _ _ _ _ (by rw [h.len]; exact hc), h.v x hx]
  · rw [e, colOf_append, nil "read" (by decide) (by decide), List.append_nil]
    exact h.rd
  · rw [e, colOf_append, nil "fetch" (by decide) (by decide), List.append_nil]
    exact h.ft
  · rw [e, saidOf_append]
    have : saidOf rs = [] := by
      unfold saidOf
      rw [List.map_eq_nil_iff, List.filter_eq_nil_iff]
      intro r hr
      simpa using out "say" (by decide) (by decide) r hr
    rw [this, List.append_nil]
    exact h.sd
theorem Sim.clean (h : Sim n M S) (h4 : n % 4 = 0) (l : Nat) : Sim n (M.clean l) S := by
  have ok := h.ok.clean l
  have un := un_clean h.ok h4 h.un l
  have v : ∀ c, vw (M.clean l) c = vw M c := vw_clean h.ok h4 l
  unfold MS.clean at ok un v ⊢
  split
  · rename_i cs e
    rw [e] at ok un v
    exact Sim.other (w := "clean") (M := { M with mem := M.mem.take (4 * l) ++ cs ++ M.mem.drop (4 * l + 4), held := hset M.held l (cs, false) }) (h.rowsEq ⟨ok.len, ok.nd, ok.lines, ok.left⟩ (fun c _ => v c) un rfl) (by decide) (by decide) (by decide)
  · exact h
theorem Sim.deed (h : Sim n M S) (h4 : n % 4 = 0) {os : List Ord} {d : Deed} (hd : d.Ok n os.length) (hc : d.calm = true) : Sim n (M.deed os d) (PS.deed os S d) := by
  cases d with
  | set c k => exact h.write h4 hd.1 _
  | add c o =>
    obtain ⟨h1, e1⟩ := h.read h4 hd.1
    obtain ⟨h2, e2⟩ := h1.read h4 hd.2
    have e2' : (M.read c).val o = S.mem.getD o 0 := e2
    show Sim n (((M.read c).read o).write c ((M.val c + (M.read c).val o) % 10)) (((S.look c).look o).set c ((S.mem.getD c 0 + S.mem.getD o 0) % 10))
    rw [e1, e2']
    exact h2.write h4 hd.1 _
  | say c =>
    obtain ⟨h1, e1⟩ := h.read h4 hd
    show Sim n ((M.read c).note "say" c (M.val c)) { S.look c with said := S.said ++ [S.mem.getD c 0] }
    refine ⟨h1.ok.note _ _ _, h1.len, h1.v, h1.un, ?_, ?_, ?_⟩
    · show colOf "read" ((M.read c).rows ++ [(_, Str.ofString "say", c, M.val c)]) = _
      rw [colOf_append, colOf_one, if_neg (fun z => by have := ofS_inj.mp z; simp at this), List.append_nil, h1.rd]
    · show colOf "fetch" ((M.read c).rows ++ [(_, Str.ofString "say", c, M.val c)]) = _
      rw [colOf_append, colOf_one, if_neg (fun z => by have := ofS_inj.mp z; simp at this), List.append_nil, h1.ft]
    · show saidOf ((M.read c).rows ++ [(_, Str.ofString "say", c, M.val c)]) = S.said ++ [S.mem.getD c 0]
      rw [saidOf_append, saidOf_one, if_pos rfl, h1.sd, e1]
      rfl
  | start k => cases hc
  | wait => exact h
  | clean l => exact h.clean h4 l
  | drop l => cases hc
theorem Sim.with_ {M2 : MS} (h : Sim n M S) (a : M2.mem = M.mem) (b : M2.held = M.held) (c : M2.left = M.left) (d : M2.rows = M.rows) : Sim n M2 S := by
  refine h.rowsEq ⟨by rw [a]; exact h.ok.len, by rw [b]; exact h.ok.nd, by rw [b]; exact h.ok.lines, by rw [c]; exact h.ok.left⟩ (fun x _ => ?_) ?_ d
  · unfold vw
    rw [a, b]
  · have := h.un
    unfold Un at this ⊢
    rw [a, b]
    exact this
theorem calm_quiet (os : List Ord) {d : Deed} (hc : d.calm = true) : Quiet M (M.deed os d) := by
  cases d with
  | set c k => exact quiet_write c _
  | add c o => exact ((quiet_read c).trans (quiet_read o)).trans (quiet_write c _)
  | say c => exact (quiet_read c).trans (quiet_via (w := "say") rfl rfl rfl rfl (by decide))
  | start k => cases hc
  | wait => exact Quiet.same rfl rfl rfl rfl
  | clean l => exact quiet_clean l
  | drop l => cases hc
/-! ### the end -/
theorem clean_line (l k : Nat) : hget (M.clean l).held k = if k = l then (hget M.held l).map (fun v => (v.1, false)) else hget M.held k := by
  unfold MS.clean
  split
  · rename_i cs e
    show hget (hset M.held l (cs, false)) k = _
    rw [hget_set, e]
    rfl
  · rename_i h
    by_cases z : k = l
    · rw [if_pos z, z]
      cases e : hget M.held l with
      | none => rfl
      | some v =>
        obtain ⟨cs, t⟩ := v
        cases t with
        | true => exact absurd e (h cs)
        | false => rfl
    · rw [if_neg z]
theorem cleans_line : ∀ (ls : List Nat) (M : MS) (k : Nat), k ∈ ls → ∀ cs, hget (ls.foldl MS.clean M).held k ≠ some (cs, true)
  | [], _, _, h, _ => by cases h
  | l :: r, M, k, h, cs => by
    rw [List.foldl_cons]
    by_cases hr : k ∈ r
    · exact cleans_line r (M.clean l) k hr cs
    · have hkl : k = l := by simpa [hr] using h
      have key : ∀ (ls : List Nat) (N : MS), k ∉ ls → hget (ls.foldl MS.clean N).held k = hget N.held k := by
        intro ls
        induction ls with
        | nil => exact fun _ _ => rfl
        | cons a b ih =>
          intro N hn
          simp only [List.mem_cons, not_or] at hn
          rw [List.foldl_cons, ih _ hn.2, clean_line, if_neg hn.1]
      rw [key r _ hr, clean_line, if_pos hkl]
      intro z
      cases e : hget M.held l with
      | none =>
        rw [e] at z
        cases z
      | some v =>
        rw [e] at z
        simp at z
theorem Sim.cleans (h4 : n % 4 = 0) : ∀ (ls : List Nat) {M : MS}, Sim n M S → Sim n (ls.foldl MS.clean M) S
  | [], _, h => h
  | l :: r, M, h => by
    rw [List.foldl_cons]
    exact Sim.cleans h4 r (h.clean h4 l)
/-- no line is touched: memory is as it is to be -/
theorem Sim.mem (h : Sim n M S) (h4 : n % 4 = 0) (hu : ∀ l cs, hget M.held l ≠ some (cs, true)) : M.mem = S.mem := by
  refine getD_ext (by rw [h.ok.len, h.len]) fun c hc => ?_
  rw [h.ok.len] at hc
  rw [← h.v c hc]
  unfold vw
  cases e : hget M.held (c / 4) with
  | none => rfl
  | some v =>
    obtain ⟨cs, t⟩ := v
    cases t with
    | true => exact absurd e (hu _ _)
    | false =>
      have := h.un _ _ e (c % 4) (by omega)
      rw [show 4 * (c / 4) + c % 4 = c by omega] at this
      exact this.symm
theorem Sim.finish (h : Sim n M S) (h4 : n % 4 = 0) (h16 : n / 4 ≤ 4) : M.finish.mem = S.mem ∧ Sim n M.finish S := by
  have h1 : Sim n M.finish S := Sim.cleans h4 (List.range 4) h
  refine ⟨h1.mem h4 fun l cs z => ?_, h1⟩
  by_cases hl : l < 4
  · exact cleans_line (List.range 4) M l (List.mem_range.mpr hl) cs z
  · have := (h1.ok.cells4 z).2
    omega
theorem seen_of (aim : PS) : ∀ (rows : List Row) (a c : Nat), (∃ x, aim.reads.drop a = colOf "read" rows ++ x) → (∃ y, aim.fetches.drop c = colOf "fetch" rows ++ y) → ∃ s, seen aim (tails rows) (a, c) = some s
  | [], a, c, _, _ => ⟨_, rfl⟩
  | r :: rest, a, c, ⟨x, hx⟩, ⟨y, hy⟩ => by
    have e0 : seen aim (tails (r :: rest)) (a, c) = match look aim (a, c) r.2 with | none => none | some s' => seen aim (tails rest) s' := rfl
    have cr : colOf "read" (r :: rest) = (if r.2.1 = Str.ofString "read" then [r.2.2] else []) ++ colOf "read" rest := by
      show colOf "read" ([r] ++ rest) = _
      rw [colOf_append]
      congr 1
      exact colOf_one "read" r.2.1 r.1 r.2.2.1 r.2.2.2
    have cf : colOf "fetch" (r :: rest) = (if r.2.1 = Str.ofString "fetch" then [r.2.2] else []) ++ colOf "fetch" rest := by
      show colOf "fetch" ([r] ++ rest) = _
      rw [colOf_append]
      congr 1
      exact colOf_one "fetch" r.2.1 r.1 r.2.2.1 r.2.2.2
    rw [e0]
    unfold look
    by_cases h1 : r.2.1 = Str.ofString "read"
    · rw [if_pos h1] at cr ⊢
      rw [if_neg (by rw [h1]; exact ne_rf.symm)] at cf
      rw [cr] at hx
      rw [cf] at hy
      have hat : aim.reads[a]? = some r.2.2 := by
        rw [← List.head?_drop, hx]
        rfl
      rw [if_pos hat]
      refine seen_of aim rest (a + 1) c ⟨x, ?_⟩ ⟨y, hy⟩
      rw [← List.tail_drop, hx]
      rfl
    · rw [if_neg h1] at cr ⊢
      rw [cr] at hx
      by_cases h2 : r.2.1 = Str.ofString "fetch"
      · rw [if_pos h2] at cf ⊢
        rw [cf] at hy
        have hat : aim.fetches[c]? = some r.2.2 := by
          rw [← List.head?_drop, hy]
          rfl
        rw [if_pos hat]
        refine seen_of aim rest a (c + 1) ⟨x, hx⟩ ⟨y, ?_⟩
        rw [← List.tail_drop, hy]
        rfl
      · rw [if_neg h2] at cf ⊢
        rw [cf] at hy
        exact seen_of aim rest a c ⟨x, hx⟩ ⟨y, hy⟩
end
/-- a run that ends as it is to, with all that was to be seen: nothing is amiss -/
theorem amiss_none {b : Bd} (g : Good b) {pace : List Bool} (h : Sim b.mem.length (MS.run b 1980 (MS.init b) pace) (plainOf b)) : amissOf b pace = [] := by
  have h2 := (h.finish g.four g.lines.2).1
  obtain ⟨s, hs⟩ := seen_of (plainOf b) (MS.run b 1980 (MS.init b) pace).rows 0 0 ⟨[], by rw [h.rd]; simp⟩ ⟨[], by rw [h.ft]; simp⟩
  rcases Classical.em (amissOf b pace = []) with e | e
  · exact e
  · rcases (amiss_iff g pace).mp e with z | z
    · rw [hs] at z
      cases z
    · exact absurd h2 z
theorem Sim.init {b : Bd} (g : Good b) : Sim b.mem.length (MS.init b) (PS.init b.mem) :=
  ⟨MS.Ok.init, rfl, fun c _ => rfl, fun l cs h => by simp [MS.init, hget] at h, rfl, rfl, rfl⟩
/-! ### boards of calm deeds alone -/
def allCalm (b : Bd) : Prop := ∀ d ∈ b.prog, d.calm = true
/-- where such a run stands -/
structure CalmAt (b : Bd) (M : MS) : Prop where
  sim : Sim b.mem.length M ((b.prog.take M.at_).foldl (PS.deed b.ords) (PS.init b.mem))
  left : M.left = []
  beats : M.beats = M.at_
  le : M.at_ ≤ b.prog.length
  rows : ∀ r ∈ M.rows, Plainword r.2.1
section
variable {b : Bd} {M : MS}
theorem CalmAt.init (g : Good b) : CalmAt b (MS.init b) := ⟨Sim.init g, rfl, rfl, Nat.zero_le _, by simp [MS.init]⟩
theorem CalmAt.beat (h : CalmAt b M) (g : Good b) (hc : allCalm b) (ho : M.over b = false) (pace : List Bool) : CalmAt b (M.beat b pace) := by
  have hl := h.left
  have hlt : M.at_ < b.prog.length := by
    unfold MS.over at ho
    rw [hl] at ho
    simp at ho
    exact ho
  have e : b.prog[M.at_]? = some b.prog[M.at_] := List.getElem?_eq_getElem hlt
  have hi : M.isIdle b.prog = false := by
    unfold MS.isIdle
    rw [hl]
    simp
    omega
  have hd := g.deeds b.prog[M.at_] (List.getElem_mem hlt)
  have hcd := hc b.prog[M.at_] (List.getElem_mem hlt)
  generalize b.prog[M.at_] = d at e hd hcd
  have ep : M.process b = MS.deed b.ords { M with idle := false, at_ := M.at_ + 1 } d := by
    unfold MS.process
    rw [hi, e]
    rfl
  obtain ⟨⟨rs, q1, q2⟩, q3, q4, q5⟩ := calm_quiet (M := { M with idle := false, at_ := M.at_ + 1 }) b.ords hcd
  have hpl : (M.process b).left = [] := by rw [ep, q4]; exact hl
  have hmv : ∀ mv, (M.process b).moved mv = M.process b := fun mv => by
    unfold MS.moved MS.carry
    rw [hpl]
    cases mv <;> rfl
  have eb : M.beat b pace = (M.process b).tick := by
    unfold MS.beat
    rw [hmv]
  have s1 : Sim b.mem.length { M with idle := false, at_ := M.at_ + 1 } ((b.prog.take M.at_).foldl (PS.deed b.ords) (PS.init b.mem)) := h.sim.with_ rfl rfl rfl rfl
  have s2 := s1.deed (os := b.ords) g.four hd hcd
  have et : b.prog.take (M.at_ + 1) = b.prog.take M.at_ ++ [d] := by rw [List.take_add_one, e]; rfl
  have ha : (M.process b).at_ = M.at_ + 1 := by rw [ep, q5]
  rw [eb]
  refine ⟨?_, hpl, ?_, ?_, ?_⟩
  · show Sim b.mem.length (M.process b).tick ((b.prog.take (M.process b).at_).foldl (PS.deed b.ords) (PS.init b.mem))
    rw [ha, et, List.foldl_append]
    have s3 : Sim b.mem.length (M.process b) (PS.deed b.ords ((b.prog.take M.at_).foldl (PS.deed b.ords) (PS.init b.mem)) d) := by rw [ep]; exact s2
    exact s3.with_ rfl rfl rfl rfl
  · show (M.process b).beats + 1 = (M.process b).at_
    rw [ha, ep, q3]
    show M.beats + 1 = _
    rw [h.beats]
  · show (M.process b).at_ ≤ _
    omega
  · show ∀ r ∈ (M.process b).rows, _
    rw [ep, q1]
    intro r hr
    rcases List.mem_append.mp hr with z | z
    · exact h.rows r z
    · exact (q2 r z).1
theorem CalmAt.run (g : Good b) (hc : allCalm b) : ∀ (k : Nat) {M : MS} (pace : List Bool), CalmAt b M → CalmAt b (MS.run b k M pace)
  | 0, _, _, h => h
  | k + 1, M, pace, h => by
    show CalmAt b (if M.over b = true then M else _)
    by_cases ho : M.over b = true
    · rw [if_pos ho]
      exact h
    · rw [if_neg ho]
      exact CalmAt.run g hc k _ (h.beat g hc (by simpa using ho) pace)
/-- what a run tells of such a board -/
theorem calm_gone (g : Good b) (hc : allCalm b) (pace : List Bool) : saidOf (goneOf b pace).rows = (plainOf b).said ∧ (goneOf b pace).mem = (plainOf b).mem ∧ (goneOf b pace).beats = b.prog.length ∧ amissOf b pace = [] ∧ ∀ r ∈ (goneOf b pace).rows, Plainword r.2.1 := by
  have h := CalmAt.run g hc 1980 pace (CalmAt.init g)
  have ho := run_over g 1980 pace (show (MS.init b).fuel b ≤ 1980 by have := (Going.init g).far; omega)
  have hat : (MS.run b 1980 (MS.init b) pace).at_ = b.prog.length := by
    have := h.le
    unfold MS.over at ho
    simp at ho
    omega
  have hs := h.sim
  rw [hat, List.take_length] at hs
  have hs' : Sim b.mem.length (MS.run b 1980 (MS.init b) pace) (plainOf b) := hs
  obtain ⟨f1, f2⟩ := hs'.finish g.four g.lines.2
  have q := quiet_cleans (List.range 4) (MS.run b 1980 (MS.init b) pace)
  refine ⟨f2.sd, f1, ?_, amiss_none g hs', ?_⟩
  · show (MS.run b 1980 (MS.init b) pace).finish.beats = _
    have : (MS.run b 1980 (MS.init b) pace).finish.beats = (MS.run b 1980 (MS.init b) pace).beats := q.beats
    rw [this, h.beats, hat]
  · obtain ⟨rs, e1, e2⟩ := q.more
    show ∀ r ∈ (MS.run b 1980 (MS.init b) pace).finish.rows, _
    have : (MS.run b 1980 (MS.init b) pace).finish.rows = (MS.run b 1980 (MS.init b) pace).rows ++ rs := e1
    rw [this]
    intro r hr
    rcases List.mem_append.mp hr with z | z
    · exact h.rows r z
    · exact (e2 r z).1
theorem calm_sure (g : Good b) (hc : allCalm b) : ¬ Bad b (MS.init b) := fun h => by
  obtain ⟨p, hp⟩ := (bad_iff g).mp h
  exact hp (calm_gone g hc p).2.2.2.1
theorem calm_few (g : Good b) (hc : allCalm b) (hl : b.prog.length ≤ 17) : Few b 16000000 := by
  refine few_tree g ?_
  have e : b.prog.flatMap (startMoves b.ords) = [] := by
    rw [List.flatMap_eq_nil_iff]
    intro d hd
    have := hc d hd
    cases d <;> first | rfl | cases this
  rw [e, List.length_nil]
  have h2 : 2 ^ b.prog.length ≤ 2 ^ 17 := Nat.pow_le_pow_right (by decide) hl
  have := Nat.mul_le_mul h2 (show b.prog.length + 0 + 1 ≤ 18 by omega)
  omega
end
end BC
/-! BCFull: boards whose starts are fenced on both sides are sure. -/
namespace BC
open PySem PySem.Spec PyProof.Rows L2
mutual
/-- what may be done while no line of T is touched; n lines -/
inductive OkA (n : Nat) : List Nat → List Deed → Prop
  | nil {T : List Nat} : OkA n T []
  | calm {T : List Nat} {d : Deed} {r : List Deed} (hc : d.calm = true) (h : OkA n [] r) : OkA n T (d :: r)
  | clean {T : List Nat} {l : Nat} {r : List Deed} (h : OkA n (l :: T) r) : OkA n T (.clean l :: r)
  | start {T : List Nat} {k : Nat} {r : List Deed} (ht : ∀ l < n, l ∈ T) (h : OkD n (List.range n) r) : OkA n T (.start k :: .wait :: r)
/-- the lines D are to be dropped first -/
inductive OkD (n : Nat) : List Nat → List Deed → Prop
  | nil {r : List Deed} (h : OkA n [] r) : OkD n [] r
  | drop {l : Nat} {D : List Nat} {r : List Deed} (h : OkD n D r) : OkD n (l :: D) (.drop l :: r)
end
def Clean1 (M : MS) (l : Nat) : Prop := ∀ cs, hget M.held l ≠ some (cs, true)
/-- told so far, and memory, as S has it -/
structure Cols (n : Nat) (M : MS) (S : PS) : Prop where
  ok : M.Ok n
  len : S.mem.length = n
  mem : M.mem = S.mem
  rd : colOf "read" M.rows = S.reads
  ft : colOf "fetch" M.rows = S.fetches
  sd : saidOf M.rows = S.said
theorem Cols.sim {n : Nat} {M : MS} {S : PS} (h : Cols n M S) (hh : ∀ l, hget M.held l = none) : Sim n M S :=
  ⟨h.ok, h.len, fun c hc => (by unfold vw; rw [hh, h.mem]), fun l cs hl => (by rw [hh] at hl; cases hl), h.rd, h.ft, h.sd⟩
theorem Sim.cols {n : Nat} {M : MS} {S : PS} (h : Sim n M S) (h4 : n % 4 = 0) (hu : ∀ l, Clean1 M l) : Cols n M S := ⟨h.ok, h.len, h.mem h4 hu, h.rd, h.ft, h.sd⟩
theorem Cols.with_ {n : Nat} {M M2 : MS} {S : PS} (h : Cols n M S) (a : M2.mem = M.mem) (b : M2.held = M.held) (c : M2.left = M.left) (d : M2.rows = M.rows) : Cols n M2 S :=
  ⟨⟨by rw [a]; exact h.ok.len, by rw [b]; exact h.ok.nd, by rw [b]; exact h.ok.lines, by rw [c]; exact h.ok.left⟩, h.len, by rw [a]; exact h.mem, by rw [d]; exact h.rd, by rw [d]; exact h.ft, by rw [d]; exact h.sd⟩
/-- the plain state when the next deed is number k -/
def plainAt (b : Bd) (k : Nat) : PS := (b.prog.take k).foldl (PS.deed b.ords) (PS.init b.mem)
/-- where a run stands -/
inductive FI (b : Bd) (M : MS) : Prop
  | a (T : List Nat) (sim : Sim b.mem.length M (plainAt b M.at_)) (left : M.left = []) (cl : ∀ l ∈ T, Clean1 M l) (h : OkA (b.mem.length / 4) T (b.prog.drop M.at_)) (le : M.at_ ≤ b.prog.length)
  | w (r : List Deed) (S : PS) (cols : Cols b.mem.length M S) (hS : M.left.foldl PS.move S = plainAt b M.at_) (cl : ∀ l, Clean1 M l) (e : b.prog.drop M.at_ = .wait :: r) (h : OkD (b.mem.length / 4) (List.range (b.mem.length / 4)) r)
  | d (D : List Nat) (cols : Cols b.mem.length M (plainAt b M.at_)) (left : M.left = []) (hh : ∀ l, hget M.held l ≠ none → l ∈ D) (h : OkD (b.mem.length / 4) D (b.prog.drop M.at_)) (le : M.at_ ≤ b.prog.length) (hD : D ≠ [])
section
variable {b : Bd} {M : MS}
theorem FI.tick (h : FI b M) : FI b M.tick := by
  cases h with
  | a T sim left cl h le => exact .a T (sim.with_ rfl rfl rfl rfl) left cl h le
  | w r S cols hS cl e h => exact .w r S (cols.with_ rfl rfl rfl rfl) hS cl e h
  | d D cols left hh h le hD => exact .d D (cols.with_ rfl rfl rfl rfl) left hh h le hD
theorem FI.dd {D : List Nat} (cols : Cols b.mem.length M (plainAt b M.at_)) (left : M.left = []) (hh : ∀ l, hget M.held l ≠ none → l ∈ D) (h : OkD (b.mem.length / 4) D (b.prog.drop M.at_)) (le : M.at_ ≤ b.prog.length) : FI b M := by
  cases D with
  | nil =>
    cases h with
    | nil h =>
      refine .a [] (cols.sim fun l => ?_) left (by simp) h le
      rcases Classical.em (hget M.held l = none) with z | z
      · exact z
      · exact absurd (hh l z) (by simp)
  | cons l D => exact .d (l :: D) cols left hh h le (by simp)
theorem clean1_out (g : Good b) (ok : M.Ok b.mem.length) {l : Nat} (h : ¬ l < b.mem.length / 4) : Clean1 M l := fun cs z => h (ok.cells4 z).2
theorem drop_at {r : List Deed} {d : Deed} {k : Nat} (e : b.prog.drop k = d :: r) : b.prog[k]? = some d ∧ b.prog.drop (k + 1) = r ∧ k < b.prog.length ∧ plainAt b (k + 1) = PS.deed b.ords (plainAt b k) d := by
  have hk : k < b.prog.length := by
    rcases Nat.lt_or_ge k b.prog.length with h | h
    · exact h
    · rw [List.drop_of_length_le h] at e
      cases e
  rw [List.drop_eq_getElem_cons hk] at e
  simp only [List.cons.injEq] at e
  have h1 : b.prog[k]? = some d := by rw [List.getElem?_eq_getElem hk, e.1]
  refine ⟨h1, e.2, hk, ?_⟩
  unfold plainAt
  rw [List.take_add_one, h1, List.foldl_append]
  rfl
theorem process_of {d : Deed} (hi : M.isIdle b.prog = false) (e : b.prog[M.at_]? = some d) : M.process b = MS.deed b.ords { M with idle := false, at_ := M.at_ + 1 } d := by
  unfold MS.process
  rw [hi, e]
  rfl
theorem idle_no (hl : M.left = []) (hk : M.at_ < b.prog.length) : M.isIdle b.prog = false := by
  unfold MS.isIdle
  rw [hl]
  simp
  omega
theorem moved_none (mv : Bool) (h : M.left = []) : M.moved mv = M := by
  unfold MS.moved MS.carry
  rw [h]
  cases mv <;> rfl
theorem rest_none (h : M.left = []) : M.mayRest = false := by
  unfold MS.mayRest
  rw [h]
  rfl
/-- a move -/
theorem carry_fi {r : List Deed} {S : PS} (cols : Cols b.mem.length M S) (hS : M.left.foldl PS.move S = plainAt b M.at_) (cl : ∀ l, Clean1 M l) (e : b.prog.drop M.at_ = .wait :: r) (h : OkD (b.mem.length / 4) (List.range (b.mem.length / 4)) r) : FI b M.carry := by
  cases hl : M.left with
  | nil =>
    have : M.carry = M := by
      unfold MS.carry
      rw [hl]
    rw [this]
    exact .w r S cols hS cl e h
  | cons m ms =>
    have em : M.carry = (({ (({ M with left := ms } : MS).note "fetch" m.src (M.mem.getD m.src 0)) with mem := M.mem.set m.dst (M.mem.getD m.src 0) } : MS).note "put" m.dst (M.mem.getD m.src 0)).bell m.bell := by
      unfold MS.carry
      rw [hl]
    have hok := cols.ok.carry
    obtain ⟨c1, c2, c3, c4, c5⟩ := carry_grew (M := M)
    have hcells := cols.mem
    have hheld : M.carry.held = M.held := by rw [em]; cases m.bell <;> rfl
    have hmem : M.carry.mem = S.mem.set m.dst (S.mem.getD m.src 0) := by rw [em, ← hcells]; cases m.bell <;> rfl
    have hrows : ∃ more, M.carry.rows = M.rows ++ (M.beats, Str.ofString "fetch", m.src, M.mem.getD m.src 0) :: more ∧ ∀ x ∈ more, x.2.1 = Str.ofString "put" ∨ x.2.1 = Str.ofString "bell" := by
      rw [em]
      cases m.bell with
      | none => exact ⟨[(M.beats, Str.ofString "put", m.dst, M.mem.getD m.src 0)], by show (M.rows ++ [_]) ++ [_] = _; rw [List.append_assoc]; rfl, by simp⟩
      | some k => exact ⟨[(M.beats, Str.ofString "put", m.dst, M.mem.getD m.src 0), (M.beats, Str.ofString "bell", k, 0)], by show ((M.rows ++ [_]) ++ [_]) ++ [_] = _; rw [List.append_assoc, List.append_assoc]; rfl, by simp⟩
    obtain ⟨more, hm1, hm2⟩ := hrows
    have col : ∀ w : String, w ≠ "put" → w ≠ "bell" → colOf (Str.ofString w) more = [] := fun w a c => by
      unfold colOf
      rw [List.map_eq_nil_iff, List.filter_eq_nil_iff]
      intro x hx
      rcases hm2 x hx with z | z
      · simpa [z, ofS_inj] using fun q => a q.symm
      · simpa [z, ofS_inj] using fun q => c q.symm
    have sd : saidOf more = [] := by
      unfold saidOf
      rw [List.map_eq_nil_iff, List.filter_eq_nil_iff]
      intro x hx
      rcases hm2 x hx with z | z <;> simp [z, ofS_inj]
    have em1 : M.rows ++ (M.beats, Str.ofString "fetch", m.src, M.mem.getD m.src 0) :: more = M.rows ++ ([(M.beats, Str.ofString "fetch", m.src, M.mem.getD m.src 0)] ++ more) := rfl
    refine .w r (S.move m) ⟨hok, by simp [PS.move, cols.len], by rw [hmem]; rfl, ?_, ?_, ?_⟩ ?_ (fun l cs z => cl l cs (by rw [← hheld]; exact z)) (by rw [c1]; exact e) h
    · rw [hm1, em1, colOf_append, colOf_append, colOf_one, if_neg (fun z => by have := ofS_inj.mp z; simp at this), col "read" (by decide) (by decide), cols.rd]
      simp [PS.move]
    · rw [hm1, em1, colOf_append, colOf_append, colOf_one, if_pos rfl, col "fetch" (by decide) (by decide), cols.ft, hcells]
      simp [PS.move]
    · rw [hm1, em1, saidOf_append, saidOf_append, saidOf_one, if_neg (fun z => by have := ofS_inj.mp z; simp at this), sd, cols.sd]
      simp [PS.move]
    · rw [c4, c1, hl, ← hS, hl]
      rfl
theorem moved_fi {r : List Deed} {S : PS} {mv : Bool} (cols : Cols b.mem.length M S) (hS : M.left.foldl PS.move S = plainAt b M.at_) (cl : ∀ l, Clean1 M l) (e : b.prog.drop M.at_ = .wait :: r) (h : OkD (b.mem.length / 4) (List.range (b.mem.length / 4)) r) : FI b (M.moved mv) := by
  unfold MS.moved
  split
  · exact carry_fi cols hS cl e h
  · exact .w r S cols hS cl e h
/-- a beat, and whether the carrier may rest in it -/
theorem FI.next (h : FI b M) (g : Good b) (ho : M.over b = false) {mv : Bool} (hm : may b M mv) : FI b (nextOf b M mv) ∧ ((M.process b).mayRest = true → ((b.prog.drop (nextOf b M mv).at_).filter Deed.isStart).length + 1 ≤ ((b.prog.drop M.at_).filter Deed.isStart).length) ∧ M.at_ ≤ (nextOf b M mv).at_ := by
  have h4 := g.four
  have ha := (next_toDo g ho hm).2.2
  cases h with
  | a T sim left cl h le =>
    have hk : M.at_ < b.prog.length := by
      unfold MS.over at ho
      rw [left] at ho
      simp at ho
      exact ho
    have hi := idle_no left hk
    generalize er : b.prog.drop M.at_ = rem at h
    have calmCase : ∀ {d : Deed} {r : List Deed} (T' : List Nat), b.prog.drop M.at_ = d :: r → d.calm = true → OkA (b.mem.length / 4) T' r → (∀ l ∈ T', Clean1 (M.process b) l) → FI b (nextOf b M mv) ∧ ((M.process b).mayRest = true → ((b.prog.drop (nextOf b M mv).at_).filter Deed.isStart).length + 1 ≤ (rem.filter Deed.isStart).length) ∧ M.at_ ≤ (nextOf b M mv).at_ := by
      intro d r T' e hc hr hcl
      obtain ⟨d1, d2, d3, d4⟩ := drop_at e
      have hd := g.deeds d (List.mem_of_getElem? d1)
      have ep := process_of hi d1
      have q := calm_quiet (M := { M with idle := false, at_ := M.at_ + 1 }) b.ords hc
      have hpl : (M.process b).left = [] := by rw [ep, q.left]; exact left
      have hpa : (M.process b).at_ = M.at_ + 1 := by rw [ep, q.at_]
      have s1 : Sim b.mem.length { M with idle := false, at_ := M.at_ + 1 } (plainAt b M.at_) := sim.with_ rfl rfl rfl rfl
      have s2 := s1.deed (os := b.ords) h4 hd hc
      have en : nextOf b M mv = M.process b := moved_none mv hpl
      rw [en]
      refine ⟨.a T' (by rw [hpa, d4, ep]; exact s2) hpl hcl (by rw [hpa, d2]; exact hr) (by rw [hpa]; omega), fun z => ?_, by rw [hpa]; omega⟩
      rw [rest_none hpl] at z
      cases z
    cases h with
    | nil =>
      rw [List.drop_eq_nil_iff] at er
      omega
    | calm hc h' => exact calmCase [] er hc h' (by simp)
    | @clean _ l r h' =>
      refine calmCase (l :: T) er rfl h' ?_
      obtain ⟨d1, d2, d3, d4⟩ := drop_at er
      have ep := process_of hi d1
      have ep' : M.process b = MS.clean { M with idle := false, at_ := M.at_ + 1 } l := ep
      intro k hk' cs z
      rw [ep', clean_line] at z
      have z' : (if k = l then (hget M.held l).map (fun v => (v.1, false)) else hget M.held k) = some (cs, true) := z
      by_cases e : k = l
      · rw [if_pos e] at z'
        cases e2 : hget M.held l with
        | none =>
          rw [e2] at z'
          cases z'
        | some v =>
          rw [e2] at z'
          simp at z'
      · rw [if_neg e] at z'
        rcases List.mem_cons.mp hk' with y | y
        · exact e y
        · exact cl k y cs z'
    | @start _ k r ht h' =>
      obtain ⟨d1, d2, d3, d4⟩ := drop_at er
      have ep := process_of hi d1
      have ep' : M.process b = MS.note { M with idle := false, at_ := M.at_ + 1, left := M.left ++ movesOf b.ords k } "start" k 0 := ep
      have hcl : ∀ l, Clean1 M l := fun l => by
        rcases Classical.em (l < b.mem.length / 4) with z | z
        · exact cl l (ht l z)
        · exact clean1_out g sim.ok z
      have cols := sim.cols h4 hcl
      have s1 : Sim b.mem.length (M.process b) (plainAt b M.at_) := by
        have hok := sim.ok.process g
        rw [ep'] at hok ⊢
        refine Sim.other (w := "start") (M := { M with idle := false, at_ := M.at_ + 1, left := M.left ++ movesOf b.ords k }) (sim.rowsEq ⟨hok.len, hok.nd, hok.lines, hok.left⟩ (fun _ _ => rfl) sim.un rfl) (by decide) (by decide) (by decide)
      have c1 : Cols b.mem.length (M.process b) (plainAt b M.at_) := ⟨s1.ok, s1.len, by rw [ep']; exact cols.mem, s1.rd, s1.ft, s1.sd⟩
      have hpa : (M.process b).at_ = M.at_ + 1 := by rw [ep']; rfl
      have hpl : (M.process b).left = movesOf b.ords k := by rw [ep']; show M.left ++ movesOf b.ords k = _; rw [left]; rfl
      have hS : (M.process b).left.foldl PS.move (plainAt b M.at_) = plainAt b (M.process b).at_ := by rw [hpa, d4, hpl]; rfl
      have hph : (M.process b).held = M.held := by rw [ep']; rfl
      refine ⟨moved_fi c1 hS (fun l cs z => hcl l cs (by rw [← hph]; exact z)) (by rw [hpa, d2]) h', fun _ => ?_, ha⟩
      have hna : (nextOf b M mv).at_ = M.at_ + 1 := by
        unfold nextOf MS.moved
        split
        · rw [(carry_grew (M := M.process b)).1, hpa]
        · exact hpa
      rw [hna, d2]
      have : (Deed.start k :: Deed.wait :: r).filter Deed.isStart = Deed.start k :: (Deed.wait :: r).filter Deed.isStart := rfl
      rw [this, List.length_cons]
      exact Nat.le_refl _
  | w r S cols hS cl e h =>
    obtain ⟨d1, d2, d3, d4⟩ := drop_at e
    cases hl : M.left with
    | nil =>
      have hi := idle_no hl d3
      have ep : M.process b = { M with idle := false, at_ := M.at_ + 1 } := process_of hi d1
      have hpl : (M.process b).left = [] := by rw [ep]; exact hl
      have en : nextOf b M mv = M.process b := moved_none mv hpl
      have hS' : S = plainAt b M.at_ := by rw [← hS, hl]; rfl
      rw [en]
      have hpa : (M.process b).at_ = M.at_ + 1 := by rw [ep]
      refine ⟨.dd (D := List.range (b.mem.length / 4)) ?_ hpl (fun l z => ?_) (by rw [hpa, d2]; exact h) (by rw [hpa]; omega), fun z => ?_, by rw [hpa]; omega⟩
      · rw [hpa, d4, ep, ← hS']
        exact cols.with_ rfl rfl rfl rfl
      · rw [List.mem_range]
        cases e2 : hget M.held l with
        | none =>
          rw [ep] at z
          exact absurd e2 z
        | some v => exact (cols.ok.cells4 (l := l) (c := v.1) (t := v.2) e2).2
      · rw [rest_none hpl] at z
        cases z
    | cons m ms =>
      have hi : M.isIdle b.prog = true := by
        unfold MS.isIdle
        rw [d1, hl]
        simp
      have ep : M.process b = { M with idle := true } := by
        unfold MS.process
        rw [if_pos hi]
      have hr : (M.process b).mayRest = false := by
        rw [ep]
        unfold MS.mayRest
        simp
      have hmv : mv = true := by
        rcases hm with z | z
        · exact z
        · rw [hr] at z
          cases z
      subst hmv
      refine ⟨?_, fun z => (by rw [hr] at z; cases z), ha⟩
      show FI b (M.process b).carry
      rw [ep]
      exact carry_fi (M := { M with idle := true }) (cols.with_ rfl rfl rfl rfl) hS cl e h
  | d D cols left hh h le hD =>
    have hk : M.at_ < b.prog.length := by
      unfold MS.over at ho
      rw [left] at ho
      simp at ho
      exact ho
    have hi := idle_no left hk
    generalize er : b.prog.drop M.at_ = rem at h
    cases h with
    | nil h => exact absurd rfl hD
    | @drop l D' r h' =>
      obtain ⟨d1, d2, d3, d4⟩ := drop_at er
      have ep := process_of hi d1
      have ep' : M.process b = MS.drop { M with idle := false, at_ := M.at_ + 1 } l := ep
      have q := quiet_drop (M := { M with idle := false, at_ := M.at_ + 1 }) l
      have hpl : (M.process b).left = [] := by rw [ep', q.left]; exact left
      have hpa : (M.process b).at_ = M.at_ + 1 := by rw [ep', q.at_]
      have en : nextOf b M mv = M.process b := moved_none mv hpl
      have hheld : ∀ k, hget (M.process b).held k = if k = l then none else hget M.held k := by
        intro k
        rw [ep']
        unfold MS.drop
        cases e2 : hget M.held l with
        | none =>
          show hget M.held k = _
          by_cases z : k = l
          · rw [if_pos z, z, e2]
          · rw [if_neg z]
        | some v => exact hget_hdel
      have hcols : Cols b.mem.length (M.process b) (plainAt b M.at_) := by
        have hok := cols.ok.process g
        rw [ep'] at hok ⊢
        unfold MS.drop at hok ⊢
        cases e2 : hget M.held l with
        | none => exact cols.with_ rfl rfl rfl rfl
        | some v =>
          have e2' : hget ({ M with idle := false, at_ := M.at_ + 1 } : MS).held l = some v := e2
          rw [e2'] at hok
          refine ⟨hok, cols.len, cols.mem, ?_, ?_, ?_⟩
          · show colOf "read" (M.rows ++ [(M.beats, Str.ofString "drop", l, 0)]) = _
            rw [colOf_append, colOf_one, if_neg (fun z => by have := ofS_inj.mp z; simp at this), List.append_nil, cols.rd]
          · show colOf "fetch" (M.rows ++ [(M.beats, Str.ofString "drop", l, 0)]) = _
            rw [colOf_append, colOf_one, if_neg (fun z => by have := ofS_inj.mp z; simp at this), List.append_nil, cols.ft]
          · show saidOf (M.rows ++ [(M.beats, Str.ofString "drop", l, 0)]) = _
            rw [saidOf_append, saidOf_one, if_neg (fun z => by have := ofS_inj.mp z; simp at this), List.append_nil, cols.sd]
      rw [en]
      refine ⟨.dd (D := D') ?_ hpl (fun k z => ?_) (by rw [hpa, d2]; exact h') (by rw [hpa]; omega), fun z => ?_, by rw [hpa]; omega⟩
      · rw [hpa, d4]
        exact hcols
      · rw [hheld] at z
        by_cases y : k = l
        · rw [if_pos y] at z
          exact absurd rfl z
        · rw [if_neg y] at z
          exact (List.mem_cons.mp (hh k z)).resolve_left y
      · rw [rest_none hpl] at z
        cases z
theorem FI.init (g : Good b) (h : OkA (b.mem.length / 4) [] b.prog) : FI b (MS.init b) := .a [] (Sim.init g) rfl (by simp) (by simpa [MS.init] using h) (Nat.zero_le _)
theorem FI.run (g : Good b) : ∀ (k : Nat) {M : MS} (pace : List Bool), FI b M → FI b (MS.run b k M pace)
  | 0, _, _, h => h
  | k + 1, M, pace, h => by
    show FI b (if M.over b = true then M else _)
    by_cases ho : M.over b = true
    · rw [if_pos ho]
      exact h
    · rw [if_neg ho]
      refine FI.run g k _ ?_
      have hm : may b M ((M.process b).pick pace).1 := by
        unfold may MS.pick
        split
        · rename_i hh
          exact .inr hh
        · exact .inl rfl
      exact (h.next g (by simpa using ho) hm).1.tick
theorem FI.over (h : FI b M) (ho : M.over b = true) : Sim b.mem.length M (plainOf b) := by
  unfold MS.over at ho
  simp only [Bool.and_eq_true, decide_eq_true_eq, List.isEmpty_iff] at ho
  have hd : b.prog.drop M.at_ = [] := List.drop_eq_nil_iff.mpr ho.1
  cases h with
  | a T sim left cl h le =>
    have : plainAt b M.at_ = plainOf b := by
      unfold plainAt plainOf
      rw [List.take_of_length_le ho.1]
    rw [← this]
    exact sim
  | w r S cols hS cl e h =>
    rw [hd] at e
    cases e
  | d D cols left hh h le hD =>
    rw [hd] at h
    cases h with
    | nil h => exact absurd rfl hD
/-- what a run of such a board tells -/
theorem full_gone (g : Good b) (h : OkA (b.mem.length / 4) [] b.prog) (pace : List Bool) : Sim b.mem.length (goneOf b pace) (plainOf b) ∧ (goneOf b pace).mem = (plainOf b).mem ∧ amissOf b pace = [] := by
  have ho := run_over g 1980 pace (show (MS.init b).fuel b ≤ 1980 by have := (Going.init g).far; omega)
  have s := (FI.run g 1980 pace (FI.init g h)).over ho
  obtain ⟨f1, f2⟩ := s.finish g.four g.lines.2
  exact ⟨f2, f1, amiss_none g s⟩
theorem full_sure (g : Good b) (h : OkA (b.mem.length / 4) [] b.prog) : ¬ Bad b (MS.init b) := fun z => by
  obtain ⟨p, hp⟩ := (bad_iff g).mp z
  exact hp (full_gone g h p).2.2
theorem full_tree (g : Good b) : ∀ (n : Nat) (M : MS), FI b M → toDo b M ≤ n → (tree b n M).length ≤ 2 ^ ((b.prog.drop M.at_).filter Deed.isStart).length * (n + 1)
  | 0, M, _, h => by
    show 1 ≤ _
    exact Nat.mul_pos (Nat.two_pow_pos _) (Nat.succ_pos _)
  | n + 1, M, hF, h => by
    have pos := Nat.two_pow_pos ((b.prog.drop M.at_).filter Deed.isStart).length
    have big : 2 ^ ((b.prog.drop M.at_).filter Deed.isStart).length * (n + 1 + 1) = 2 ^ ((b.prog.drop M.at_).filter Deed.isStart).length * (n + 1) + 2 ^ ((b.prog.drop M.at_).filter Deed.isStart).length := Nat.mul_succ _ _
    unfold tree
    by_cases ho : M.over b = true
    · rw [if_pos ho, big]
      simp only [List.length_cons, List.length_nil]
      omega
    · rw [if_neg ho]
      have ho' : M.over b = false := by simpa using ho
      by_cases hm : (M.process b).mayRest = true
      · rw [if_pos hm]
        have a1 := (next_toDo g (mv := false) ho' (.inr hm)).1
        have b1 := (next_toDo g (mv := true) ho' (.inl rfl)).1
        obtain ⟨f1, s1, _⟩ := hF.next g ho' (mv := false) (.inr hm)
        obtain ⟨f2, s2, _⟩ := hF.next g ho' (mv := true) (.inl rfl)
        have t1 := full_tree g n _ f1 (by omega)
        have t2 := full_tree g n _ f2 (by omega)
        have s1' := s1 hm
        have s2' := s2 hm
        have p1 : 2 ^ ((b.prog.drop (nextOf b M false).at_).filter Deed.isStart).length ≤ 2 ^ (((b.prog.drop M.at_).filter Deed.isStart).length - 1) := Nat.pow_le_pow_right (by decide) (by omega)
        have p2 : 2 ^ ((b.prog.drop (nextOf b M true).at_).filter Deed.isStart).length ≤ 2 ^ (((b.prog.drop M.at_).filter Deed.isStart).length - 1) := Nat.pow_le_pow_right (by decide) (by omega)
        have q1 := Nat.mul_le_mul_right (n + 1) p1
        have q2 := Nat.mul_le_mul_right (n + 1) p2
        have dbl : 2 ^ ((b.prog.drop M.at_).filter Deed.isStart).length = 2 ^ (((b.prog.drop M.at_).filter Deed.isStart).length - 1) + 2 ^ (((b.prog.drop M.at_).filter Deed.isStart).length - 1) := by
          rw [← Nat.two_mul, ← Nat.pow_succ']
          congr 1
          omega
        have dm : 2 ^ ((b.prog.drop M.at_).filter Deed.isStart).length * (n + 1) = 2 ^ (((b.prog.drop M.at_).filter Deed.isStart).length - 1) * (n + 1) + 2 ^ (((b.prog.drop M.at_).filter Deed.isStart).length - 1) * (n + 1) := by rw [dbl, Nat.add_mul]
        rw [big]
        simp only [List.length_cons, List.length_append]
        omega
      · rw [if_neg hm]
        have b1 := (next_toDo g (mv := true) ho' (.inl rfl)).1
        obtain ⟨f2, s2, a2⟩ := hF.next g ho' (mv := true) (.inl rfl)
        have t2 := full_tree g n _ f2 (by omega)
        have hsub : ((b.prog.drop (nextOf b M true).at_).filter Deed.isStart).length ≤ ((b.prog.drop M.at_).filter Deed.isStart).length := by
          have : (b.prog.drop (nextOf b M true).at_).Sublist (b.prog.drop M.at_) := by
            obtain ⟨k, hk⟩ := Nat.exists_eq_add_of_le a2
            rw [hk, ← List.drop_drop]
            exact List.drop_sublist _ _
          exact (this.filter _).length_le
        have p2 : 2 ^ ((b.prog.drop (nextOf b M true).at_).filter Deed.isStart).length ≤ 2 ^ ((b.prog.drop M.at_).filter Deed.isStart).length := Nat.pow_le_pow_right (by decide) hsub
        have q2 := Nat.mul_le_mul_right (n + 1) p2
        rw [big]
        simp only [List.length_cons]
        omega
theorem full_few (g : Good b) (h : OkA (b.mem.length / 4) [] b.prog) : Few b 16000000 := by
  refine few_of g ?_
  have t := full_tree g _ _ (FI.init g h) (Nat.le_refl (toDo b (MS.init b)))
  have e : toDo b (MS.init b) = b.prog.length + (b.prog.flatMap (startMoves b.ords)).length := by simp [toDo, MS.init]
  have h1 := moves_all g
  have h2 := g.len
  have h3 : ((b.prog.drop (MS.init b).at_).filter Deed.isStart).length ≤ 3 := g.starts
  have h4 : 2 ^ ((b.prog.drop (MS.init b).at_).filter Deed.isStart).length ≤ 2 ^ 3 := Nat.pow_le_pow_right (by decide) h3
  have := Nat.mul_le_mul h4 (show toDo b (MS.init b) + 1 ≤ 157 by omega)
  omega
end
end BC
/-! BCKeyed: a dict whose keys are nested tuples and whose values are True. -/
namespace BC
open PySem PySem.Spec PyProof.Rows L2
mutual
def toN : PyData → NestedKey
  | .none => .none
  | .bool b => .num (if b = true then 1 else 0)
  | .int i => .num i
  | .str s => .text s
  | .tuple ds => .tup (toNs ds)
  | .list _ => .none
  | .dict _ => .none
def toNs : List PyData → List NestedKey
  | [] => []
  | d :: r => toN d :: toNs r
end
section
variable {P : Program} {w : World} {H : Hp} {h : Heap}
mutual
theorem Im.nested (ok : HOk P w H h) : ∀ (d : PyData) (v : V) (u : Value), Im H d v → RelV v u → NestedIs h (toN d) u
  | .none, _, _, i, r => by
    rw [Im.none_iff] at i
    subst i
    cases (show _ = Value.none from r)
    exact .none
  | .bool b, _, _, i, r => by
    rw [Im.bool_iff] at i
    subst i
    cases (show _ = Value.bool b from r)
    exact .bool rfl
  | .int n, _, _, i, r => by
    rw [Im.int_iff] at i
    subst i
    obtain ⟨t, rfl⟩ := (show ∃ t, _ = Value.int n t from r)
    exact .int n t
  | .str s, _, _, i, r => by
    rw [Im.str_iff] at i
    subst i
    obtain ⟨t, rfl⟩ := (show ∃ t, _ = Value.str s t from r)
    exact .text s t
  | .tuple ds, v, u, i, r => by
    obtain ⟨a, xs, rfl, h1, h2⟩ := i.tup
    obtain rfl : u = Value.ref a := r
    obtain ⟨_, its, rel, o, g1, g2, n, g3⟩ := (show ObjOk P w H h a (.tup xs) from ok a _ h1)
    exact .tup g1 g2 g3 (by simpa using ImL.nested ok ds xs its h2 rel)
  | .list _, _, _, i, _ => by simp only [Im] at i
  | .dict _, _, _, i, _ => by simp only [Im] at i
theorem ImL.nested (ok : HOk P w H h) : ∀ (ds : List PyData) (vs : List V) (us : List Value), ImL H ds vs → Vals vs us → NestedAll h (toNs ds) us
  | [], vs, us, i, r => by
    cases i.nil_inv
    cases r
    exact .nil
  | d :: ds, vs, us, i, r => by
    obtain ⟨v, vs', rfl, h1, h2⟩ := i.cons_inv
    cases r with
    | cons r1 r2 => exact .cons (Im.nested ok d v _ h1 r1) (ImL.nested ok ds vs' _ h2 r2)
end
end
/-- the dict at d with these keys, each where its tuple stands -/
def KRaw (P : Program) (w : World) (d : Addr) (xs : List (NestedKey × Addr)) (h : Heap) : Prop := (d == sysModules) = false ∧ ∃ o es ep, h.get? d = some o ∧ o.ExactDict ∧ o.data = .dict es ep ∧
  es.toList = (xs.map fun x => (x.1, x.2, Value.bool true)).map (entryOfKey (nestedKind P w)) ∧ (xs.map (·.1)).Nodup
def KD (P : Program) (w : World) (d : Addr) (xs : List (NestedKey × Addr)) : HO := .ext (KRaw P w d xs)
theorem kRaw_at {P : Program} {w : World} {d : Addr} {xs : List (NestedKey × Addr)} {h h' : Heap} (x : KRaw P w d xs h) (k : ∀ o, h.get? d = some o → h'.get? d = some o) : KRaw P w d xs h' := by
  obtain ⟨a, o, es, ep, ho, r⟩ := x
  exact ⟨a, o, es, ep, k o ho, r⟩
theorem kd_ok {P : Program} {w : World} {H : Hp} {h : Heap} {d : Addr} {xs : List (NestedKey × Addr)} (x : KRaw P w d xs h) : ObjOk P w H h d (KD P w d xs) := by
  have ⟨_, o, _, _, ho, _⟩ := x
  exact ⟨x, ⟨o, ho⟩, fun h1 h2 p k => kRaw_at p k⟩
/-- keys and where they stand -/
inductive KeysR (H : Hp) : List PyData → List (NestedKey × Addr) → Prop
  | nil : KeysR H [] []
  | cons {k : PyData} {a : Addr} {ks : List PyData} {xs : List (NestedKey × Addr)} (h1 : Im H k (.ref a)) (h2 : (toN k).depth ≤ 8) (h3 : KeysR H ks xs) : KeysR H (k :: ks) ((toN k, a) :: xs)
section
variable {H H2 : Hp} {ks : List PyData} {xs : List (NestedKey × Addr)} {k : PyData} {a : Addr}
theorem KeysR.kp (h : KeysR H ks xs) (e : Kp H H2) : KeysR H2 ks xs := by
  induction h with
  | nil => exact .nil
  | cons h1 h2 h3 ih => exact .cons (h1.kp e) h2 ih
theorem KeysR.fst (h : KeysR H ks xs) : xs.map (·.1) = ks.map toN := by
  induction h with
  | nil => rfl
  | cons h1 h2 h3 ih => simp [ih]
theorem KeysR.snoc (h : KeysR H ks xs) (h1 : Im H k (.ref a)) (h2 : (toN k).depth ≤ 8) : KeysR H (ks ++ [k]) (xs ++ [(toN k, a)]) := by
  induction h with
  | nil => exact .cons h1 h2 .nil
  | cons g1 g2 g3 ih => exact .cons g1 g2 ih
theorem KeysR.is {P : Program} {w : World} {h : Heap} (r : KeysR H ks xs) (ok : HOk P w H h) : ∀ x ∈ xs, (nestedKind P w).is h x.1 x.2 := by
  induction r with
  | nil => exact fun x hx => by cases hx
  | cons h1 h2 h3 ih =>
    intro x hx
    rcases List.mem_cons.mp hx with rfl | hx
    · exact ⟨h1.nested ok _ _ _ rfl, h2⟩
    · exact ih x hx
end
/-- the dict at d has these keys -/
def MetAt (P : Program) (w : World) (H : Hp) (d : Addr) (ks : List PyData) : Prop := ∃ xs, H d = some (KD P w d xs) ∧ KeysR H ks xs
def nIn (ks : List PyData) (k : PyData) : Bool := (ks.map toN).any fun x => decide (x = toN k)
section
variable {P : Program} {w : World} {H H2 : Hp} {d : Addr} {ks : List PyData}
theorem MetAt.keep {G : List Addr} (h : MetAt P w H d ks) (f : Fr G H H2) (k : Kp H H2) (n : d ∉ G) : MetAt P w H2 d ks := by
  obtain ⟨xs, h1, h2⟩ := h
  exact ⟨xs, f _ _ h1 n, h2.kp k⟩
theorem MetAt.ex (h : MetAt P w H d ks) (e : Ex H H2) : MetAt P w H2 d ks := h.keep (G := []) e.fr e.kp (by simp)
end
theorem atKey_any (xs : List (NestedKey × Addr)) (k : NestedKey) : (atKey (xs.map fun x => (x.1, x.2, Value.bool true)) k).isSome = (xs.map (·.1)).any fun x => decide (x = k) := by
  induction xs with
  | nil => rfl
  | cons x r ih =>
    have ih' : ((r.map fun x => (x.1, x.2, Value.bool true)).find? fun x => decide (x.1 = k)).isSome = (r.map (·.1)).any fun x => decide (x = k) := by
      have := ih
      unfold atKey at this
      simpa using this
    unfold atKey
    rw [List.map_cons, List.find?_cons, Option.isSome_map]
    show (match decide (x.1 = k) with | true => some _ | false => _).isSome = _
    rw [List.map_cons, List.any_cons]
    cases decide (x.1 = k) with
    | true => rfl
    | false => simpa using ih'
def tNNew (P : Program) (w : World) : TE := fun _ H Q => ∀ p, H p = none → Q (.ref p) (upd H p (KD P w p []))
def NNotP (P : Program) (w : World) (y x : V) (H2 : Hp) (Q : VK) : Prop := ∃ d ks k, x = .ref d ∧ MetAt P w H2 d ks ∧ Im H2 k y ∧ (∃ a, y = .ref a) ∧ (toN k).depth ≤ 8 ∧ Q (.bl (!nIn ks k)) H2
def tNNot (P : Program) (w : World) (ty td : TE) : TE := fun σ H Q => ty σ H fun y H1 => td σ H1 fun x H2 => NNotP P w y x H2 Q
def NPutP (P : Program) (w : World) (v x y : V) (H3 : Hp) (R : Hp → Prop) : Prop := v = .bl true ∧ ∃ d ks k, x = .ref d ∧ MetAt P w H3 d ks ∧ Im H3 k y ∧ (∃ a, y = .ref a) ∧ (toN k).depth ≤ 8 ∧ nIn ks k = false ∧ ks.length < sizeLine ∧
  ∀ H4, Fr [d] H3 H4 → Kp H3 H4 → MetAt P w H4 d (ks ++ [k]) → R H4
def sNPut (P : Program) (w : World) (td ty tv : TE) : TS := fun D σ H => tv σ H fun v H1 => td σ H1 fun x H2 => ty σ H2 fun y H3 => NPutP P w v x y H3 (D.nx σ)
section
variable {X : Cx} {o i value : Expr} {pos pos' : Pos} {td ty tv : TE}
theorem pe_nnew : PE X (.Dict [] [] pos) (tNNew X.prog X.w) := ⟨fun pins s σ H Q I h =>
  wpAny_Dict_empty ⟨.ref s.heap.objs.size, _, I.laid (a := s.heap.objs.size) (o := KD X.prog X.w s.heap.objs.size []) (t' := s.toks) (fun _ _ q => Heap.get?_push_of_some _ q) (Nat.le_refl _)
    (kd_ok ⟨beq_eq_false_iff_ne.mpr (Ne.symm (Nat.ne_of_lt I.big)), _, #[], 0, Heap.get?_push_size _ rfl, ⟨rfl, rfl, rfl⟩, rfl, rfl, List.nodup_nil⟩), rfl, h _ (I.hok.fresh (Nat.le_refl _))⟩⟩
theorem met_dict {pins : List (Addr × Obj)} {σ : L2.St} {H : Hp} {s : Shared} {d : Addr} {ks : List PyData} (I : Inv X pins σ H s) (m : MetAt X.prog X.w H d ks) :
    (d == sysModules) = false ∧ ∃ xs, H d = some (KD X.prog X.w d xs) ∧ KeysR H ks xs ∧ s.heap.DictOfH (nestedKind X.prog X.w) d (xs.map fun x => (x.1, x.2, Value.bool true)) := by
  obtain ⟨xs, h1, h2⟩ := m
  obtain ⟨⟨hd, ob, es, ep, g1, g2, g3, g4, g5⟩, _, _⟩ := (show ObjOk X.prog X.w H s.heap d (KD X.prog X.w d xs) from I.hok d _ h1)
  refine ⟨hd, xs, h1, h2, ob, es, ep, g1, g2, g3, g4, fun x hx => ?_, by simpa [Function.comp_def] using g5⟩
  obtain ⟨y, hy, rfl⟩ := List.mem_map.mp hx
  exact h2.is I.hok y hy
theorem n_room {A : Around} (hu : A.units + 20 < cLine) : (nestedKind X.prog X.w).room A.in1 := by
  show A.units + 1 + 8 < cLine
  omega
theorem pc_nnot (hu : X.A.units + 20 < cLine) (hi : PE X i ty) (ho : PE X o td) : PC X .NotIn i o (tNNot X.prog X.w ty td) := by
  refine ⟨fun pins s σ H Q I h => ?_⟩
  refine thn (hi.run pins s σ H _ I h) fun iv s1 ⟨y, H1, I1, ry, q1⟩ => thn (ho.run pins s1 σ H1 _ I1 q1) fun u s2 ⟨x, H2, I2, rx, d, ks, k, ex, m, ik, ⟨a, ey⟩, dp, q2⟩ => ?_
  subst ex ey
  obtain rfl : u = Value.ref d := rx
  obtain rfl : iv = Value.ref a := ry
  obtain ⟨hd, xs, h1, h2, h3⟩ := met_dict I2 m
  refine wpAny_notIn_heap (n_room hu) (show (nestedKind X.prog X.w).is s2.heap (toN k) a from ⟨ik.nested I2.hok _ _ _ rfl, dp⟩) hd h3 ?_
  rw [atKey_any, h2.fst]
  exact ⟨.bl (!nIn ks k), H2, I2.tok _, rfl, q2⟩
theorem ps_nput (hu : X.A.units + 20 < cLine) (ho : PE X o td) (hi : PE X i ty) (hv : PE X value tv) (hs : swapsWith value (some (.Subscript o i pos')) pos.line X.env = pure false) :
    L2.PS X (.Assign [.Subscript o i pos'] value pos) (sNPut X.prog X.w td ty tv) := by
  refine ⟨fun pins s σ H D I h => ?_⟩
  refine wpAny_Assign_Subscript (thn (hv.run pins s σ H _ I h) fun r s1 ⟨v, H1, I1, rv, q1⟩ => thn (ho.run pins s1 σ H1 _ I1 q1) fun u s2 ⟨x, H2, I2, rx, q2⟩ => thn (hi.run pins s2 σ H2 _ I2 q2) fun iv s3 ⟨y, H3, I3, ry, ev, d, ks, k, ex, m, ik, ⟨a, ey⟩, dp, hn, hl, q3⟩ => ?_) hs
  subst ex ey ev
  obtain rfl : u = Value.ref d := rx
  obtain rfl : iv = Value.ref a := ry
  obtain rfl : r = Value.bool true := rv
  obtain ⟨hd, xs, h1, h2, h3⟩ := met_dict I3 m
  have hlen : xs.length = ks.length := by
    have := congrArg List.length h2.fst
    simpa using this
  have hno : atKey (xs.map fun x => (x.1, x.2, Value.bool true)) (toN k) = none := by
    have := atKey_any xs (toN k)
    rw [h2.fst] at this
    have hn' : (ks.map toN).any (fun x => decide (x = toN k)) = false := hn
    rw [hn'] at this
    exact Option.isSome_eq_false_iff.mp this |> Option.isNone_iff_eq_none.mp
  refine wpAny_setItem_heap (hsz := by rw [List.length_map, hlen]; exact Nat.le_of_lt hl) (n_room hu) (show (nestedKind X.prog X.w).is s3.heap (toN k) a from ⟨ik.nested I3.hok _ _ _ rfl, dp⟩) h3 fun h' dd' sb => ?_
  rw [storedH_new hno] at dd'
  obtain ⟨q, es, ep, hq, g2, g3, g4, _, g5⟩ := dd'
  have e1 : (xs.map fun x => (x.1, x.2, Value.bool true)) ++ [(toN k, a, Value.bool true)] = (xs ++ [(toN k, a)]).map fun x => (x.1, x.2, Value.bool true) := by simp
  rw [e1] at g4 g5
  have ko : ObjOk X.prog X.w (upd H3 d (KD X.prog X.w d (xs ++ [(toN k, a)]))) h' d (KD X.prog X.w d (xs ++ [(toN k, a)])) :=
    kd_ok ⟨hd, q, es, ep, hq, g2, g3, g4, by simpa [Function.comp_def] using g5⟩
  have I4 := d_write (t' := s3.toks + (nestedKind X.prog X.w).draws (toN k)) I3 (show Mut (H3 d) by rw [h1]; exact True.intro) sb ⟨q, hq⟩ ko
  have kp : Kp H3 (upd H3 d (KD X.prog X.w d (xs ++ [(toN k, a)]))) := Kp.mut (nt_of h1 trivial) (Kp.refl _)
  exact ⟨σ, _, I4, q3 _ (Fr.mut (List.mem_singleton.mpr rfl) (Fr.refl _ _)) kp ⟨_, upd_same, (h2.kp kp).snoc (ik.kp kp) dp⟩⟩
end
section
variable {P : Program} {w : World} {σ : L2.St} {H : Hp} {Q : VK} {D : Ends} {td ty tv : TE} {d a : Addr} {ks : List PyData} {k : PyData}
theorem st_nnew (q : ∀ p H2, H p = none → Ex H H2 → MetAt P w H2 p [] → Q (.ref p) H2) : tNNew P w σ H Q := fun p hp => q p _ hp (Ex.new hp) ⟨[], upd_same, .nil⟩
theorem st_nnot (h : ty σ H fun y H1 => td σ H1 fun x H2 => NNotP P w y x H2 Q) : tNNot P w ty td σ H Q := h
theorem st_nnotP (m : MetAt P w H d ks) (ik : Im H k (.ref a)) (dp : (toN k).depth ≤ 8) (q : Q (.bl (!nIn ks k)) H) : NNotP P w (.ref a) (.ref d) H Q := ⟨d, ks, k, rfl, m, ik, ⟨a, rfl⟩, dp, q⟩
theorem st_nput (h : tv σ H fun v H1 => td σ H1 fun x H2 => ty σ H2 fun y H3 => NPutP P w v x y H3 (D.nx σ)) : sNPut P w td ty tv D σ H := h
theorem st_nputP {R : Hp → Prop} (m : MetAt P w H d ks) (ik : Im H k (.ref a)) (dp : (toN k).depth ≤ 8) (hn : nIn ks k = false) (hl : ks.length < sizeLine) (q : ∀ H4, Fr [d] H H4 → Kp H H4 → MetAt P w H4 d (ks ++ [k]) → R H4) :
    NPutP P w (.bl true) (.ref d) (.ref a) H R := ⟨rfl, d, ks, k, rfl, m, ik, ⟨a, rfl⟩, dp, hn, hl, q⟩
end
/-! ### the keys of machines -/
abbrev pyHE (e : HE) : PyData := .tuple [.int (e.1 : Int), pyMem e.2.1, .bool e.2.2]
abbrev pyKey (k : KeyD) : PyData := .tuple [.int (k.1 : Int), pyMem k.2.1, .tuple (k.2.2.1.map pyHE), .int (k.2.2.2 : Int)]
theorem toNs_ints (ns : List Int) : toNs (ns.map .int) = ns.map .num := by
  induction ns with
  | nil => rfl
  | cons n r ih => simp [toNs, toN, ih]
theorem nums_inj : ∀ {a c : List Int}, a.map NestedKey.num = c.map NestedKey.num → a = c
  | [], [], _ => rfl
  | [], _ :: _, h => by simp at h
  | _ :: _, [], h => by simp at h
  | x :: a, y :: c, h => by
    simp only [List.map_cons, List.cons.injEq, NestedKey.num.injEq] at h
    rw [h.1, nums_inj h.2]
theorem hes_inj : ∀ {a c : List HE}, toNs (a.map pyHE) = toNs (c.map pyHE) → a = c
  | [], [], _ => rfl
  | [], _ :: _, h => by simp [toNs] at h
  | _ :: _, [], h => by simp [toNs] at h
  | (l, ns, t) :: a, (l', ns', t') :: c, h => by
    simp only [List.map_cons, toNs, toN, List.cons.injEq, NestedKey.tup.injEq, NestedKey.num.injEq, toNs_ints, and_true] at h
    obtain ⟨⟨h1, h2, h3⟩, h4⟩ := h
    have e1 : l = l' := Int.ofNat.inj h1
    have e2 := nums_inj h2
    have e3 : t = t' := by cases t <;> cases t' <;> simp_all
    rw [e1, e2, e3, hes_inj h4]
theorem key_nInj {a c : KeyD} (h : toN (pyKey a) = toN (pyKey c)) : a = c := by
  obtain ⟨a1, a2, a3, a4⟩ := a
  obtain ⟨c1, c2, c3, c4⟩ := c
  simp only [pyKey, toN, toNs, List.cons.injEq, NestedKey.tup.injEq, NestedKey.num.injEq, toNs_ints, and_true] at h
  obtain ⟨h1, h2, h3, h4⟩ := h
  have e1 : a1 = c1 := Int.ofNat.inj h1
  have e4 : a4 = c4 := Int.ofNat.inj h4
  rw [e1, nums_inj h2, hes_inj h3, e4]
theorem nIn_keys (met : List KeyD) (k : KeyD) : nIn (met.map pyKey) (pyKey k) = decide (k ∈ met) := by
  unfold nIn
  rw [Bool.eq_iff_iff, decide_eq_true_eq, List.any_eq_true]
  constructor
  · rintro ⟨x, hx, e⟩
    simp only [List.mem_map] at hx
    obtain ⟨y, ⟨z, hz, rfl⟩, rfl⟩ := hx
    rw [decide_eq_true_eq] at e
    rw [← key_nInj e]
    exact hz
  · intro h
    exact ⟨_, List.mem_map_of_mem (List.mem_map_of_mem h), decide_eq_true rfl⟩
theorem depth_nums (ns : List Int) : NestedKey.depthAll (ns.map .num) = 0 := by
  induction ns with
  | nil => rfl
  | cons n r ih => simp [NestedKey.depthAll, NestedKey.depth, ih]
theorem depth_hes (es : List HE) : NestedKey.depthAll (toNs (es.map pyHE)) ≤ 2 := by
  induction es with
  | nil => exact Nat.zero_le _
  | cons e r ih =>
    simp only [List.map_cons, toNs, toN, NestedKey.depthAll, NestedKey.depth, toNs_ints, depth_nums]
    omega
theorem depth_key (k : KeyD) : (toN (pyKey k)).depth ≤ 8 := by
  have := depth_hes k.2.2.1
  simp only [pyKey, toN, toNs, NestedKey.depth, NestedKey.depthAll, toNs_ints, depth_nums]
  omega
theorem u20 {k : Nat} {A : Around} (h : Room k A) : A.units + 20 < cLine := by
  have := h.un
  omega
end BC
/-! BCCopy: walks of a dict's keys, copies of machines. -/
namespace BC
open PySem PySem.Spec PyProof.Rows L2
/-- the turns of a walk over the keys of a locked dict -/
def WalkK (g : TG) (tb : TS) (D : Ends) (σ : L2.St) (x : V) (H1 : Hp) : Prop := ∃ d o, x = .ref d ∧ ((∃ kvs : List (Key × V), H1 d = some (.frz o (.dK kvs)) ∧ ∃ W : Nat → Nat → L2.St → Hp → Prop, (∃ m, W 0 m σ H1) ∧ ∀ i m σ H, W i m σ H →
  ((Itk d o kvs).stop i H ∧ D.nx σ H) ∨ ((Itk d o kvs).go i H ∧ ∃ N : L2.St → Hp → Prop, (∀ σ' H', N σ' H' → ∃ m', m' < m ∧ W (i + 1) m' σ' H') ∧ ∀ x H', (Itk d o kvs).yld i H x H' → g x σ H' fun σ2 H2 => tb { D with nx := N, ct := N, bk := D.nx } σ2 H2)) ∨
  ∃ kvs : List (List Key × V), H1 d = some (.frz o (.dT kvs)) ∧ ∃ W : Nat → Nat → L2.St → Hp → Prop, (∃ m, W 0 m σ H1) ∧ ∀ i m σ H, W i m σ H →
  ((Itkt d o kvs).stop i H ∧ D.nx σ H) ∨ ((Itkt d o kvs).go i H ∧ ∃ N : L2.St → Hp → Prop, (∀ σ' H', N σ' H' → ∃ m', m' < m ∧ W (i + 1) m' σ' H') ∧ ∀ x H', (Itkt d o kvs).yld i H x H' → g x σ H' fun σ2 H2 => tb { D with nx := N, ct := N, bk := D.nx } σ2 H2))
section
variable {K : PySem.W.Frag} {σ : L2.St} {H H0 H1 : Hp} {D : Ends} {Q : VK} {te : TE} {g : TG} {tb : TS} {x v : V} {d a : Addr} {o : Obj} {kvs : List (Key × V)}
theorem st_wK (h : te σ H fun x H1 => WalkK g tb D σ x H1) : tFor (iKeys te) g tb D σ H := h
theorem st_walkK (h : H d = some (.frz o (.dK kvs))) (Pv : Nat → L2.St → Hp → Prop) (h0 : Pv 0 σ H) (hk : ∀ m σ' H', Pv m σ' H' → H' d = some (.frz o (.dK kvs)))
    (hs : ∀ m k v σ' H', kvs[m]? = some (k, v) → Pv m σ' H' → g (kV k) σ' H' fun σ2 H2 => tb { D with nx := Pv (m + 1), ct := Pv (m + 1), bk := D.nx } σ2 H2) (hd : ∀ σ' H', Pv kvs.length σ' H' → D.nx σ' H') : WalkK g tb D σ (.ref d) H :=
  ⟨d, o, rfl, .inl ⟨kvs, h, for_it (walk_keys (d := d) (o := o) (kvs := kvs)) Pv h0 (fun m σ' H' _ p => hk m σ' H' p) (fun m v σ' H' H'' hlt p y => by
    obtain ⟨rfl, k, w, e, rfl⟩ := y
    exact hs m k w σ' H'' e p) hd⟩⟩
/-- the dict at d is locked while t runs -/
theorem st_lock {t : TS} (h : H d = some (.dK kvs)) (q : ∀ od, t ⟨fun σ' H' => H' d = some (.frz od (.dK kvs)) ∧ D.nx σ' (upd H' d (.dK kvs)), fun v H' => H' d = some (.frz od (.dK kvs)) ∧ D.rt v (upd H' d (.dK kvs)), fun σ' H' => H' d = some (.frz od (.dK kvs)) ∧ D.bk σ' (upd H' d (.dK kvs)), fun σ' H' => H' d = some (.frz od (.dK kvs)) ∧ D.ct σ' (upd H' d (.dK kvs))⟩ σ (upd H d (.frz od (.dK kvs)))) : tLock t D σ H :=
  ⟨d, _, h, trivial, q⟩
theorem st_dgetZ {i : Int} (h : H a = some (.frz o (.dK kvs))) (e : valV kvs (Sum.inl i) = some v) (q : Q v H) : DGetP (.ref a) (.int i) H Q := ⟨a, v, rfl, .inl ⟨kvs, Sum.inl i, .inr ⟨o, h⟩, rfl, e.symm⟩, q⟩
end
theorem hget_at {es : List HE} {i l : Nat} {v : List Int × Bool} (nd : (es.map (·.1)).Nodup) (h : es[i]? = some (l, v)) : hget es l = some v := by
  induction es generalizing i with
  | nil => simp at h
  | cons e r ih =>
    simp only [List.map_cons, List.nodup_cons] at nd
    cases i with
    | zero =>
      simp at h
      subst h
      exact if_pos rfl
    | succ i =>
      have h' : r[i]? = some (l, v) := by simpa using h
      have hm : l ∈ r.map (·.1) := List.mem_map.mpr ⟨_, List.mem_of_getElem? h', rfl⟩
      show (if e.1 = l then some e.2 else hget r l) = some v
      rw [if_neg (fun z : e.1 = l => nd.1 (by rw [z]; exact hm))]
      exact ih nd.2 h'
theorem hget_take {es : List HE} {i l : Nat} {v : List Int × Bool} (nd : (es.map (·.1)).Nodup) (h : es[i]? = some (l, v)) : hget (es.take i) l = none := by
  cases e : hget (es.take i) l with
  | none => rfl
  | some w =>
    have hm := hget_in e
    obtain ⟨j, hj, e2⟩ := List.getElem_of_mem hm
    rw [List.length_take] at hj
    have e3 : es[j]? = some (l, w) := by
      rw [List.getElem_take] at e2
      rw [← e2]
      exact List.getElem?_eq_getElem (by omega)
    have a1 : (es.map (·.1))[j]? = some l := by rw [List.getElem?_map, e3]; rfl
    have a2 : (es.map (·.1))[i]? = some l := by rw [List.getElem?_map, h]; rfl
    have hjl : j < (es.map (·.1)).length := by rw [List.length_map]; omega
    have := (List.getElem?_inj hjl nd).mp (a1.trans a2.symm)
    omega
end BC
/-! BCJdg: steps for Judge: lists of anything beside [], pops, paces, the judge as an object. -/
namespace BC
open PySem PySem.Spec PyProof.Rows L2
/-- xs != [] -/
def rNeE : R2 := fun x y H Q => ∃ a xs b, x = .ref a ∧ y = .ref b ∧ H a = some (.lst xs) ∧ H b = some (.lst []) ∧ Q (.bl (!xs.isEmpty)) H
theorem lst_is {X : Cx} {pins : List (Addr × Obj)} {σ : L2.St} {H : Hp} {s : Shared} {a : Addr} {xs : List V} (I : Inv X pins σ H s) (h : H a = some (.lst xs)) : ∃ its : List Value, Vals xs its ∧ s.heap.IsList a its.toArray := by
  obtain ⟨_, its, n, r, e⟩ := (show ObjOk X.prog X.w H s.heap a (.lst xs) from I.hok a _ h)
  exact ⟨its, r, _, e, rfl, n, rfl⟩
theorem op_neE {X : Cx} (hu : X.A.units + 1 < cLine) : OpR X (compareOp .NotEq) rNeE := by
  intro pins s σ H x y v u Q I rx ry h
  obtain ⟨a, xs, b, rfl, rfl, ha, hb, q⟩ := h
  obtain rfl : v = Value.ref a := rx
  obtain rfl : u = Value.ref b := ry
  obtain ⟨as, r1, l1⟩ := lst_is I ha
  obtain ⟨bs, r2, l2⟩ := lst_is I hb
  cases r2
  have hu' : X.A.units < cLine := by omega
  cases xs with
  | nil =>
    cases r1
    refine SeqAt.RcNeAt.lists (e := fun _ => true) l1 l2 rfl hu' (fun j h1 _ => absurd h1 (Nat.not_lt_zero _)) X.prog X.w _ _ ?_
    exact ⟨.bl false, H, I, rfl, q⟩
  | cons z zs =>
    have hl := r1.length
    refine SeqAt.RcNeAt.lists_lengths l1 l2 ?_ hu' X.prog X.w _ _ ⟨.bl true, H, I, rfl, q⟩
    cases as with
    | nil => simp at hl
    | cons w ws => simp
section
variable {K : PySem.W.Frag} {σ : L2.St} {H H0 H1 : Hp} {D : Ends} {Q : VK} {x y v : V} {a b l : Addr} {xs ys : List V} {ds es : List PyData} {ps qs : List Bool}
theorem st_neE (ha : H a = some (.lst xs)) (hb : H b = some (.lst [])) (q : Q (.bl (!xs.isEmpty)) H) : rNeE (.ref a) (.ref b) H Q := ⟨a, xs, b, rfl, rfl, ha, hb, q⟩
theorem st_popLast (h : H l = some (.lst (xs ++ [y]))) (q : ∀ H2, Fr [l] H H2 → Kp H H2 → H2 l = some (.lst xs) → Q y H2) : rPop (.ref l) [] H Q := by
  refine ⟨l, xs ++ [y], y, rfl, rfl, h, by simp, q _ (Fr.mut (List.mem_singleton.mpr rfl) (Fr.refl _ _)) (Kp.mut (nt_of h trivial) (Kp.refl _)) ?_⟩
  rw [upd_same]
  simp
/-- two tuples, the second not empty -/
theorem st_catT (hx : Im H0 (.tuple ds) x) (kx : Kp H0 H) (hy : Im H1 (.tuple es) y) (ky : Kp H1 H) (hl : ds.length + es.length ≤ 100000) (q : ∀ v H2, Ex H H2 → Im H2 (.tuple (ds ++ es)) v → Q v H2) : rCatA K x y H Q := by
  obtain ⟨a, xs, rfl, h1, h2⟩ := (hx.kp kx).tup
  obtain ⟨b, ys, rfl, g1, g2⟩ := (hy.kp ky).tup
  refine ⟨a, b, xs, ys, rfl, rfl, SqT.of h1, SqT.of g1, by rw [h2.length, g2.length]; exact sz_le hl, fun e => ?_, fun e1 e2 => ?_, fun e1 e2 p np => ?_⟩
  · subst e
    have : ds = [] := List.length_eq_zero_iff.mp h2.length.symm
    subst this
    exact q _ H (Ex.refl _) (im_tup g1 g2)
  · subst e2
    have : es = [] := List.length_eq_zero_iff.mp g2.length.symm
    subst this
    exact q _ H (Ex.refl _) (by rw [List.append_nil]; exact im_tup h1 h2)
  · exact q _ _ (Ex.new np) (im_tup upd_same ((h2.append g2).kp (Ex.new np).kp))
theorem bls_iml : ∀ {ps : List Bool} {xs : List V}, ImL H (ps.map .bool) xs → xs = ps.map V.bl
  | [], _, h => h.nil_inv
  | p :: ps, _, h => by
    obtain ⟨v, vs, rfl, h1, h2⟩ := ImL.cons_inv (d := .bool p) (ds := ps.map .bool) h
    rw [Im.bool_iff.mp h1, bls_iml h2]
    rfl
end
theorem eqv_ints (a c : List Int) : PyData.eqv (.list (a.map .int)) (.list (c.map .int)) = decide (a = c) := by
  show PyData.eqvAll (a.map .int) (c.map .int) = _
  induction a generalizing c with
  | nil =>
    cases c with
    | nil => rfl
    | cons y c => rfl
  | cons x a ih =>
    cases c with
    | nil => rfl
    | cons y c =>
      show (PyData.eqv (.int x) (.int y) && PyData.eqvAll (a.map .int) (c.map .int)) = _
      rw [ih, Bool.eq_iff_iff]
      have : PyData.eqv (.int x) (.int y) = decide (x = y) := by
        rw [Bool.eq_iff_iff]
        simp [PyData.eqv]
      rw [this]
      simp
theorem sh_intsL' {ns : List Int} : SeqAt.shaped (.list (ns.map PyData.int)) = true := (sh_lst (n := 0) sh_ints).shaped
theorem st_neMem {K : PySem.W.Frag} {H : Hp} {Q : VK} {a b : Addr} {m n : List Int} (ha : H a = some (.lst (m.map V.int))) (hb : H b = some (.lst (n.map V.int))) (q : Q (.bl (!decide (m = n))) H) : rNeD K (.ref a) (.ref b) H Q := by
  refine st_neD (lst_dp ha (ImL.ints.mpr rfl)) (lst_dp hb (ImL.ints.mpr rfl)) sh_intsL' sh_intsL' ?_
  rw [eqv_ints]
  exact q
/-- a place in the dict of held lines -/
theorem HeldR.at' {H : Hp} {kvs : List (Key × V)} {es : List HE} {cs : List Addr} (h : HeldR H kvs es cs) : ∀ {i : Nat} {k : Key} {v : V}, kvs[i]? = some (k, v) → ∃ l ns b, es[i]? = some (l, ns, b) ∧ k = Sum.inl (l : Int) := by
  induction h with
  | nil => intro i k v e; simp at e
  | @cons l ns b t c kvs es cs h1 h2 h3 ih =>
    intro i k v e
    cases i with
    | zero =>
      simp at e
      exact ⟨l, ns, b, by simp, e.1.symm⟩
    | succ i =>
      obtain ⟨l', ns', b', g1, g2⟩ := ih (i := i) (by simpa using e)
      exact ⟨l', ns', b', by simpa using g1, g2⟩
def MS.bare (M : MS) : MS := { M with rows := [] }
theorem bare_same {M : MS} (h : M.rows = []) : M.bare = M := by
  unfold MS.bare
  rw [← h]
/-! ### the judge -/
def judgeF (vb : V) (ap md : Addr) : List (Str × V) := [("board", vb), ("aim", .ref ap), ("met", .ref md)]
section
variable {vb : V} {ap md : Addr}
theorem lk_J_board : (judgeF vb ap md).lookup ("board" : Str) = some vb := by simp [judgeF, List.lookup, ofS_beq]
theorem lk_J_aim : (judgeF vb ap md).lookup ("aim" : Str) = some (.ref ap) := by simp [judgeF, List.lookup, ofS_beq]
theorem lk_J_met : (judgeF vb ap md).lookup ("met" : Str) = some (.ref md) := by simp [judgeF, List.lookup, ofS_beq]
theorem no_J_is_amiss : (judgeF vb ap md).lookup ("is_amiss" : Str) = none := by simp [judgeF, List.lookup, ofS_beq]
theorem no_J_torn : (judgeF vb ap md).lookup ("torn" : Str) = none := by simp [judgeF, List.lookup, ofS_beq]
theorem no_J_onward : (judgeF vb ap md).lookup ("onward" : Str) = none := by simp [judgeF, List.lookup, ofS_beq]
end
/-- the judge of the board b at j, with all that it has (js), but for what is met (md) -/
structure JAt (P : Program) (w : World) (CJ CP : Addr) (H : Hp) (j md : Addr) (js : List Addr) (vb : V) (b : Bd) (met : List KeyD) : Prop where
  ob : ∃ dx ap, H j = some (.ins CJ dx (judgeF vb ap md)) ∧ ∃ pdx ml rl fl sl, js = [j, ap, ml, rl, fl, sl] ∧ PlainAt CP H ap pdx ml rl fl sl (plainOf b)
  nm : md ∉ js
  bd : Im H (pyB b.raw) vb
  me : MetAt P w H md (met.map pyKey)
section
variable {P : Program} {w : World} {CJ CP : Addr} {H H2 : Hp} {j md : Addr} {js : List Addr} {vb : V} {b : Bd} {met : List KeyD}
theorem PlainAt.keep {C : Addr} {p dx ml rl fl sl : Addr} {S : BC.PS} {G : List Addr} (h : PlainAt C H p dx ml rl fl sl S) (f : Fr G H H2) (k : Kp H H2) (n : ∀ a ∈ [p, ml, rl, fl, sl], a ∉ G) : PlainAt C H2 p dx ml rl fl sl S := by
  obtain ⟨x1, a1, b1⟩ := h.re
  obtain ⟨x2, a2, b2⟩ := h.fe
  exact ⟨f _ _ h.ob (n _ (by simp)), f _ _ h.me (n _ (by simp)), ⟨x1, f _ _ a1 (n _ (by simp)), b1.kp k⟩, ⟨x2, f _ _ a2 (n _ (by simp)), b2.kp k⟩, f _ _ h.sa (n _ (by simp)), h.nd⟩
theorem PlainAt.there {C : Addr} {p dx ml rl fl sl : Addr} {S : BC.PS} (h : PlainAt C H p dx ml rl fl sl S) : ∀ a ∈ [p, ml, rl, fl, sl], ∃ o, H a = some o := by
  obtain ⟨x1, a1, b1⟩ := h.re
  obtain ⟨x2, a2, b2⟩ := h.fe
  intro a ha
  simp only [List.mem_cons, List.not_mem_nil, or_false] at ha
  rcases ha with rfl | rfl | rfl | rfl | rfl
  · exact ⟨_, h.ob⟩
  · exact ⟨_, h.me⟩
  · exact ⟨_, a1⟩
  · exact ⟨_, a2⟩
  · exact ⟨_, h.sa⟩
/-- the judge stays, but for what is met -/
theorem JAt.keepM {met2 : List KeyD} {G : List Addr} (h : JAt P w CJ CP H j md js vb b met) (f : Fr G H H2) (k : Kp H H2) (n : ∀ a ∈ js, a ∉ G) (m : MetAt P w H2 md (met2.map pyKey)) : JAt P w CJ CP H2 j md js vb b met2 := by
  obtain ⟨⟨dx, ap, h1, pdx, ml, rl, fl, sl, rfl, h2⟩, h3, h4, h5⟩ := h
  exact ⟨⟨dx, ap, f _ _ h1 (n j (by simp)), pdx, ml, rl, fl, sl, rfl, h2.keep f k fun a ha => n a (List.mem_cons_of_mem _ ha)⟩, h3, h4.kp k, m⟩
theorem JAt.keep {G : List Addr} (h : JAt P w CJ CP H j md js vb b met) (f : Fr G H H2) (k : Kp H H2) (n : ∀ a ∈ md :: js, a ∉ G) : JAt P w CJ CP H2 j md js vb b met :=
  h.keepM f k (fun a ha => n a (List.mem_cons_of_mem _ ha)) (h.me.keep f k (n md (by simp)))
theorem JAt.ex (h : JAt P w CJ CP H j md js vb b met) (e : Ex H H2) : JAt P w CJ CP H2 j md js vb b met := h.keep (G := []) e.fr e.kp (by simp)
theorem JAt.there (h : JAt P w CJ CP H j md js vb b met) : ∀ a ∈ md :: js, ∃ o, H a = some o := by
  obtain ⟨⟨dx, ap, h1, pdx, ml, rl, fl, sl, rfl, h2⟩, h3, h4, ⟨xs, h5, _⟩⟩ := h
  intro a ha
  rcases List.mem_cons.mp ha with rfl | ha
  · exact ⟨_, h5⟩
  · rcases List.mem_cons.mp ha with rfl | ha
    · exact ⟨_, h1⟩
    · exact h2.there a ha
end
end BC
namespace BC
open PySem PySem.Spec PyProof.Rows L2
/-- the lines that are held, in order -/
def upLines (M : MS) : List Nat := (List.range 4).filter fun l => decide (l ∈ M.held.map (·.1))
theorem held_up (M : MS) : heldUp M = (upLines M).map fun l => (l, (hget M.held l).getD ([], false)) := by
  unfold heldUp upLines
  generalize List.range 4 = ls
  induction ls with
  | nil => rfl
  | cons l r ih =>
    rw [List.filterMap_cons, List.filter_cons, ih]
    cases e : hget M.held l with
    | none =>
      have : l ∉ M.held.map (·.1) := fun z => by
        have := hget_mem.mpr z
        rw [e] at this
        cases this
      rw [if_neg (by simpa using this)]
      rfl
    | some v =>
      have : l ∈ M.held.map (·.1) := hget_mem.mp (by rw [e]; rfl)
      rw [if_pos (decide_eq_true this), List.map_cons, e]
      rfl
theorem upLines_len (M : MS) : (upLines M).length ≤ 4 := Nat.le_trans (List.length_filter_le _ _) (by simp)
theorem upLines_get {M : MS} {i l : Nat} (h : (upLines M)[i]? = some l) : ∃ v, hget M.held l = some v ∧ (heldUp M)[i]? = some (l, v) := by
  have hm := List.mem_of_getElem? h
  unfold upLines at hm
  have hk := of_decide_eq_true (List.mem_filter.mp hm).2
  have hs := hget_mem.mpr hk
  cases e : hget M.held l with
  | none =>
    rw [e] at hs
    cases hs
  | some v =>
    refine ⟨v, rfl, ?_⟩
    rw [held_up, List.getElem?_map, h]
    simp [e]
theorem st_dgetK {K : PySem.W.Frag} {H : Hp} {Q : VK} {a : Addr} {kvs : List (Key × V)} {k : Key} {v : V} (h : H a = some (.dK kvs)) (e : valV kvs k = some v) (q : Q v H) : DGetP (.ref a) (kV k) H Q := ⟨a, v, rfl, by rw [← e]; exact DGet.k (k := k) h, q⟩
end BC
namespace BC
open PySem PySem.Spec PyProof.Rows L2
theorem Mac.there {C : Addr} {vo vp : V} {p : Addr} {F : List Addr} {H : Hp} {M : MS} (h : Mac C vo vp p F H M) : ∀ a ∈ F, ∃ o, H a = some o := by
  obtain ⟨dx, hd, ml, ll, rl, cs, rfl, A⟩ := h
  exact A.there
theorem Mac.keep {C : Addr} {vo vp : V} {p : Addr} {F G : List Addr} {H H2 : Hp} {M : MS} (h : Mac C vo vp p F H M) (f : Fr G H H2) (k : Kp H H2) (n : ∀ a ∈ F, a ∉ G) : Mac C vo vp p F H2 M := by
  obtain ⟨dx, hd, ml, ll, rl, cs, rfl, A⟩ := h
  exact ⟨dx, hd, ml, ll, rl, cs, rfl, A.keep f k n⟩
theorem Mac.self {C : Addr} {vo vp : V} {p : Addr} {F : List Addr} {H : Hp} {M : MS} (h : Mac C vo vp p F H M) : p ∈ F := by
  obtain ⟨dx, hd, ml, ll, rl, cs, rfl, A⟩ := h
  simp
/-- what was new once is new still -/
theorem Chg.news {F F2 : List Addr} {H0 H H2 : Hp} (c : Chg F H F2 H2) (e : Ex H0 H) (n : ∀ a ∈ F, H0 a = none) : Ex H0 H2 ∧ ∀ a ∈ F2, H0 a = none :=
  ⟨Fr.ex e n c.fr, fun a ha => (c.own a ha).elim (n a) e.free⟩
theorem apart_of {F G : List Addr} {H : Hp} (h : ∀ a ∈ F, ∃ o, H a = some o) (n : ∀ a ∈ G, H a = none) : ∀ a ∈ F, a ∉ G := fun a ha hg => by
  obtain ⟨o, e⟩ := h a ha
  rw [n a hg] at e
  cases e
/-- machines and their paces in a list -/
inductive WaysR (C : Addr) (vo vp : V) (H : Hp) : List V → List (MS × List Bool) → List Addr → Prop
  | nil : WaysR C vo vp H [] [] []
  | cons {t p : Addr} {pv : V} {F G : List Addr} {M : MS} {pace : List Bool} {xs : List V} {ws : List (MS × List Bool)} (h1 : H t = some (.tup [.ref p, pv])) (h2 : Mac C vo vp p F H M) (h3 : Im H (.tuple (pace.map .bool)) pv) (h4 : ∀ a ∈ F, a ∉ G)
      (h5 : WaysR C vo vp H xs ws G) : WaysR C vo vp H (.ref t :: xs) ((M, pace) :: ws) (F ++ G)
section
variable {C : Addr} {vo vp : V} {H H2 : Hp} {xs : List V} {ws : List (MS × List Bool)} {G B : List Addr}
theorem WaysR.keep (h : WaysR C vo vp H xs ws G) (f : Fr B H H2) (k : Kp H H2) (n : ∀ a ∈ G, a ∉ B) : WaysR C vo vp H2 xs ws G := by
  induction h with
  | nil => exact .nil
  | cons h1 h2 h3 h4 h5 ih => exact .cons (k _ _ h1) (h2.keep f k fun a ha => n a (List.mem_append_left _ ha)) (h3.kp k) h4 (ih fun a ha => n a (List.mem_append_right _ ha))
theorem WaysR.ex (h : WaysR C vo vp H xs ws G) (e : Ex H H2) : WaysR C vo vp H2 xs ws G := h.keep (B := []) e.fr e.kp (by simp)
theorem WaysR.len (h : WaysR C vo vp H xs ws G) : xs.length = ws.length := by
  induction h with
  | nil => rfl
  | cons h1 h2 h3 h4 h5 ih => simp [ih]
theorem WaysR.there (h : WaysR C vo vp H xs ws G) : ∀ a ∈ G, ∃ o, H a = some o := by
  induction h with
  | nil => exact fun a ha => by cases ha
  | cons h1 h2 h3 h4 h5 ih =>
    intro a ha
    rcases List.mem_append.mp ha with ha | ha
    · exact h2.there a ha
    · exact ih a ha
theorem WaysR.snoc (h : WaysR C vo vp H xs ws G) {t p : Addr} {pv : V} {F : List Addr} {M : MS} {pace : List Bool} (h1 : H t = some (.tup [.ref p, pv])) (h2 : Mac C vo vp p F H M) (h3 : Im H (.tuple (pace.map .bool)) pv) (h4 : ∀ a ∈ G, a ∉ F) :
    ∃ G', WaysR C vo vp H (xs ++ [.ref t]) (ws ++ [(M, pace)]) G' ∧ ∀ a, a ∈ G' ↔ a ∈ G ∨ a ∈ F := by
  induction h with
  | nil => exact ⟨F ++ [], .cons h1 h2 h3 (by simp) .nil, by simp⟩
  | @cons t' p' pv' F' G M' pace' xs ws g1 g2 g3 g4 g5 ih =>
    obtain ⟨G2, i1, i2⟩ := ih fun a ha => h4 a (List.mem_append_right _ ha)
    refine ⟨F' ++ G2, .cons g1 g2 g3 (fun a ha hg => ?_) i1, fun a => ?_⟩
    · rcases (i2 a).mp hg with z | z
      · exact g4 a ha z
      · exact h4 a (List.mem_append_left _ ha) z
    · rw [List.mem_append, List.mem_append, i2, or_assoc]
/-- the last one is taken away -/
theorem WaysR.last (h : WaysR C vo vp H xs ws G) (hne : xs ≠ []) : ∃ xs' ws' t p pv F G' M pace, xs = xs' ++ [.ref t] ∧ ws = ws' ++ [(M, pace)] ∧ H t = some (.tup [.ref p, pv]) ∧ Mac C vo vp p F H M ∧ Im H (.tuple (pace.map .bool)) pv ∧ WaysR C vo vp H xs' ws' G' ∧ (∀ a ∈ G', a ∉ F) ∧ (∀ a, a ∈ G ↔ a ∈ G' ∨ a ∈ F) := by
  induction h with
  | nil => exact absurd rfl hne
  | @cons t p pv F G M pace xs ws h1 h2 h3 h4 h5 ih =>
    cases xs with
    | nil =>
      cases h5
      exact ⟨[], [], t, p, pv, F, [], M, pace, rfl, rfl, h1, h2, h3, .nil, by simp, by simp⟩
    | cons x xs =>
      obtain ⟨xs', ws', t', p', pv', F', G', M', pace', e1, e2, i1, i2, i3, i4, i5, i6⟩ := ih (by simp)
      refine ⟨.ref t :: xs', (M, pace) :: ws', t', p', pv', F', F ++ G', M', pace', by rw [e1]; rfl, by rw [e2]; rfl, i1, i2, i3, .cons h1 h2 h3 (fun a ha hg => h4 a ha ((i6 a).mpr (.inl hg))) i4, fun a ha hf => ?_, fun a => ?_⟩
      · rcases List.mem_append.mp ha with z | z
        · exact h4 a z ((i6 a).mpr (.inr hf))
        · exact i5 a z hf
      · rw [List.mem_append, List.mem_append, i6, or_assoc]
end
/-- the ways in which a beat may go -/
def waysOf (b : Bd) (M : MS) (pace : List Bool) : List (MS × List Bool) :=
  if (M.process b).mayRest = true then [((nextOf b M false).tick, pace ++ paceOf b M false), ((nextOf b M true).tick, pace ++ paceOf b M true)] else [((nextOf b M true).tick, pace ++ paceOf b M true)]
theorem ways_may {b : Bd} {M : MS} {pace : List Bool} : ∀ w ∈ waysOf b M pace, ∃ mv, may b M mv ∧ w = ((nextOf b M mv).tick, pace ++ paceOf b M mv) := by
  intro w hw
  unfold waysOf at hw
  split at hw
  · rename_i h
    simp only [List.mem_cons, List.not_mem_nil, or_false] at hw
    rcases hw with rfl | rfl
    · exact ⟨false, .inr h, rfl⟩
    · exact ⟨true, .inl rfl, rfl⟩
  · simp only [List.mem_cons, List.not_mem_nil, or_false] at hw
    exact ⟨true, .inl rfl, hw⟩
theorem may_ways {b : Bd} {M : MS} {pace : List Bool} {mv : Bool} (h : may b M mv) : ((nextOf b M mv).tick, pace ++ paceOf b M mv) ∈ waysOf b M pace := by
  unfold waysOf
  split
  · cases mv <;> simp
  · rename_i hh
    rcases h with h | h
    · simp [h]
    · exact absurd h hh
end BC
namespace BC
open PySem PySem.Spec PyProof.Rows L2
theorem Fr.but {m : Addr} {B : List Addr} {H H1 H2 : Hp} (f : Fr [m] H H1) (f2 : Fr B H1 H2) (n : ∀ a ∈ B, a = m ∨ H a = none) : Fr [m] H H2 := fun a o ha hn =>
  f2 a o (f a o ha hn) fun z => (n a z).elim (fun e => hn (by rw [e]; simp)) fun e => by rw [e] at ha; cases ha
/-- where a search stands: waiting at wl, cur in hand -/
structure TornI (P : Program) (w : World) (CJ CP CM : Addr) (H : Hp) (j md wl : Addr) (js : List Addr) (vb vo vp : V) (b : Bd) (H' : Hp) (xs : List V) (ws : List (MS × List Bool)) (G : List Addr) (met : List KeyD) (Pd : MS → Prop) (cur : Option MS) : Prop where
  J : JAt P w CJ CP H' j md js vb b met
  hwl : H' wl = some (.lst xs)
  hws : WaysR CM vo vp H' xs ws G
  new : ∀ a ∈ G, H a = none
  nw : wl ∉ G
  fr : Fr [md] H H'
  kp : Kp H H'
  sr : Srch b (fun S => (Pd S ∨ ∃ p, (S, p) ∈ ws) ∨ cur = some S) Pd met
  way : ∀ x ∈ ws, Way b x.2 x.1
  len : xs.length + (if cur.isSome = true then 1 else 0) ≤ met.length + 1
section
variable {P : Program} {w : World} {CJ CP CM : Addr} {H : Hp} {j md wl : Addr} {js : List Addr} {vb vo vp : V} {b : Bd} {H' H2 : Hp} {xs : List V} {ws : List (MS × List Bool)} {G : List Addr} {met : List KeyD} {Pd : MS → Prop} {cur : Option MS}
/-- other things change -/
theorem TornI.keep {B : List Addr} (h : TornI P w CJ CP CM H j md wl js vb vo vp b H' xs ws G met Pd cur) (f : Fr B H' H2) (k : Kp H' H2) (n1 : ∀ a ∈ B, H a = none) (n2 : wl ∉ B) (n3 : ∀ a ∈ G, a ∉ B) (n4 : ∀ a ∈ md :: js, a ∉ B) :
    TornI P w CJ CP CM H j md wl js vb vo vp b H2 xs ws G met Pd cur :=
  ⟨h.J.keep f k n4, f _ _ h.hwl n2, h.hws.keep f k n3, h.new, h.nw, h.fr.but f fun a ha => .inr (n1 a ha), h.kp.trans k, h.sr, h.way, h.len⟩
theorem TornI.ex (h : TornI P w CJ CP CM H j md wl js vb vo vp b H' xs ws G met Pd cur) (e : Ex H' H2) : TornI P w CJ CP CM H j md wl js vb vo vp b H2 xs ws G met Pd cur :=
  h.keep (B := []) e.fr e.kp (by simp) (by simp) (by simp) (by simp)
end
/-- how far a search is from its end -/
def tornM (met : List KeyD) (xs : List V) : Nat := 2 * (16000000 - met.length) + xs.length
end BC
/-! BCFence: fences put in; a list that takes a tuple's items behind its own. -/
namespace BC
open PySem PySem.Spec PyProof.Rows L2
theorem meets_extT (l : Addr) (xs : Array Value) (n : Nat) (b : Addr) (ys : Array Value) (n2 : Nat) (dc : Option Addr) (sl : Array (Option Value)) (h0 : ¬(!xs.isEmpty && Builtin.List.listTooLong (xs.size + ys.size)) = true) (h1 : xs.size ≤ sizeLine) (h2 : xs.size + ys.size ≤ sizeLine + 1) :
    Meets (Builtin.«list.extend» ⟨[.ref l, .ref b], []⟩) (fun _ R s => s.heap.get? l = some ⟨.type "list", none, .seq xs n, #[]⟩ ∧ s.heap.get? b = some ⟨.type "tuple", dc, .seq ys n2, sl⟩ ∧
      R (.ok (.ret Value.none)) ⟨s.heap.update l (Obj.mapSeq fun x => x ++ ys), s.gens, s.drawn, s.toks, s.os⟩) := by
  refine .of_wp fun prog w A R s h => ?_
  obtain ⟨hp, g, d, tk, os⟩ := s
  obtain ⟨hl, hb, hR⟩ := h
  have f1 := AutoSeq1.idx_int
  have f2 := AutoSeq1.sub_tuple_tuple
  have f3 := AutoSeq1.sub_list_list
  have f4 := AutoSeq1.sub_tuple_list
  have f5 := AutoSeq1.sub_list_tuple
  have hz : (xs ++ ys).size ≤ sizeLine + 1 := by rw [Array.size_append]; exact h2
  wp_walk using (wpAny_updateSeq hl rfl (hz := h1) (_hz' := hz)), AutoSeq1.wpAny_loadPart' hl, AutoSeq1.wpAny_loadPart' hb
  exact ⟨_, rfl, hR⟩
/-- xs.extend(t) -/
def rExtT (K : PySem.W.Frag) : V → List V → Hp → VK → Prop := fun x vs H Q => ∃ l b xs zs, x = .ref l ∧ vs = [.ref b] ∧ H l = some (.lst xs) ∧ SqT K H b zs ∧ xs.length + zs.length ≤ sizeLine ∧ Q .non (upd H l (.lst (xs ++ zs)))
theorem mt_extT {X : Cx} : MtM X "list.extend" (rExtT X.K) := by
  intro pins s σ H x vs v us Q I rx rv h
  obtain ⟨l, b, xs, zs, rfl, rfl, hH, hB, hz, q⟩ := h
  cases rx
  obtain ⟨u, rfl, ru⟩ := rv.one
  cases ru
  obtain ⟨z, its, n, r, hl, e⟩ := I.lstM hH
  obtain ⟨its2, r2, ⟨o, e2, hc, n2, hd⟩, z2⟩ := I.tuple hB
  have hl2 := r2.length
  obtain ⟨cls, dc, dat, sl⟩ := o
  have hc' : cls = .type "tuple" := hc
  have hd' : dat = .seq its2.toArray n2 := hd
  subst hc'
  subst hd'
  have hsz : its.toArray.size + its2.toArray.size ≤ sizeLine := by rw [List.size_toArray, List.size_toArray]; omega
  have hlong : ¬ (!its.toArray.isEmpty && Builtin.List.listTooLong (its.toArray.size + its2.toArray.size)) = true := by
    rw [notLongL hsz, Bool.and_false]
    exact Bool.false_ne_true
  refine call_meets F.slot_list_extend ⟨_, e, rfl⟩ F.entry_list_extend (F.args_list_extend_2 _ _)
    (meets_extT l its.toArray n b its2.toArray n2 dc sl hlong (by rw [List.size_toArray]; omega) (by omega)) ⟨e, e2, ?_⟩
  refine ⟨.non, _, I.lset (its' := its ++ its2) hH e (by simp) (r.append r2) ?_, rfl, q⟩
  rw [List.length_append]
  omega
section
variable {K : PySem.W.Frag} {σ : L2.St} {H H0 H1 : Hp} {Q : VK} {l b : Addr} {x : V} {xs zs : List V} {ds : List PyData}
theorem st_ext (h : H l = some (.lst xs)) (hb : H b = some (.lst zs)) (hl : xs.length + zs.length ≤ 100000) (q : ∀ H2, Fr [l] H H2 → Kp H H2 → H2 l = some (.lst (xs ++ zs)) → Q .non H2) : rExtend (.ref l) [.ref b] H Q :=
  ⟨l, b, xs, zs, rfl, rfl, h, hb, sz_le hl, q _ (Fr.mut (List.mem_singleton.mpr rfl) (Fr.refl _ _)) (Kp.mut (nt_of h trivial) (Kp.refl _)) upd_same⟩
theorem st_extT (h : H l = some (.lst xs)) (hx : Im H0 (.tuple ds) x) (k : Kp H0 H) (hl : xs.length + ds.length ≤ 100000) (q : ∀ H2 zs, Fr [l] H H2 → Kp H H2 → ImL H0 ds zs → H2 l = some (.lst (xs ++ zs)) → Q .non H2) : rExtT K (.ref l) [x] H Q := by
  obtain ⟨a, zs, rfl, ha, hz⟩ := hx.tup
  exact ⟨l, a, xs, zs, rfl, rfl, h, SqT.of (k a zs ha), by rw [hz.length]; exact sz_le hl, q _ zs (Fr.mut (List.mem_singleton.mpr rfl) (Fr.refl _ _)) (Kp.mut (nt_of h trivial) (Kp.refl _)) hz upd_same⟩
/-- t[k:k + 1] -/
theorem st_slOne {k : Nat} {hi : Int} (e : hi = (k : Int) + 1) (h : Im H0 (.tuple ds) x) (k0 : Kp H0 H) (q : ∀ v H2, Ex H H2 → Im H2 (.tuple (ds[k]?.toList)) v → Q v H2) : rSlA K x (some (k : Int)) (some hi) H Q := by
  obtain ⟨a, xs, rfl, ha, ix⟩ := (h.kp k0).tup
  have hl := ix.length
  have e2 : hi = ((k + 1 : Nat) : Int) := by omega
  subst e2
  refine ⟨a, xs, rfl, SqT.of ha, fun z => ?_, fun _ p hp => ?_⟩
  · rw [HT.sIx_nat, HT.sIx_nat] at z
    have hd : ds[k]?.toList = ds := by
      cases ds with
      | nil => simp
      | cons d ds =>
        simp only [List.length_cons] at hl
        have : ds = [] := List.length_eq_zero_iff.mp (by omega)
        subst this
        have : k = 0 := by omega
        subst this
        rfl
    rw [hd] at q
    exact q _ H (Ex.refl _) (im_tup ha ix)
  · refine q _ _ (Ex.new hp) (im_tup upd_same ?_)
    unfold cutV
    rw [HT.sIx_nat, HT.sIx_nat]
    cases e : ds[k]? with
    | none =>
      have hk : ds.length ≤ k := by simpa using e
      rw [Nat.min_eq_right (by omega), Nat.min_eq_right (by omega), Nat.sub_self]
      exact iml_nil
    | some d =>
      have hk : k < ds.length := (List.getElem?_eq_some_iff.mp e).1
      rw [Nat.min_eq_left (by omega), Nat.min_eq_left (by omega), show k + 1 - k = 1 by omega]
      obtain ⟨v, g1, g2⟩ := ix.get e
      have : (xs.drop k).take 1 = [v] := by
        rw [List.getElem?_eq_some_iff] at g1
        obtain ⟨g3, g4⟩ := g1
        rw [List.drop_eq_getElem_cons g3, List.take_succ_cons, List.take_zero, g4]
      rw [this]
      exact iml_cons (g2.ex (Ex.new hp)) iml_nil
end
/-! ### fences -/
abbrev RF := Int × RDeed
abbrev pyF (f : RF) : PyData := .tuple [.int f.1, pyDeed f.2]
/-- the fences of a place -/
def atPlace (fs : List RF) (i : Nat) : List RDeed := (fs.filter fun f => decide (f.1 = (i : Int))).map (·.2)
def putTo (p : List RDeed) (fs : List RF) (n : Nat) : List RDeed := (List.range n).flatMap fun i => atPlace fs i ++ p[i]?.toList
def putIn (p : List RDeed) (fs : List RF) : List RDeed := putTo p fs (p.length + 1)
theorem atPlace_len (fs : List RF) (i : Nat) : (atPlace fs i).length ≤ fs.length := by
  unfold atPlace
  rw [List.length_map]
  exact List.length_filter_le _ _
theorem putTo_succ (p : List RDeed) (fs : List RF) (n : Nat) : putTo p fs (n + 1) = putTo p fs n ++ (atPlace fs n ++ p[n]?.toList) := by
  unfold putTo
  rw [List.range_succ, List.flatMap_append]
  simp
theorem toList_len {α : Type} (o : Option α) : o.toList.length ≤ 1 := by cases o <;> simp
theorem putTo_len (p : List RDeed) (fs : List RF) : ∀ n : Nat, (putTo p fs n).length ≤ n * (fs.length + 1)
  | 0 => by simp [putTo]
  | n + 1 => by
    have h1 := putTo_len p fs n
    have h2 := atPlace_len fs n
    have h3 := toList_len p[n]?
    rw [putTo_succ, List.length_append, List.length_append, Nat.succ_mul]
    omega
/-- a fence that can be -/
def fenceOk (b : RB) (f : RF) : Bool := decide (0 ≤ f.1 ∧ f.1 ≤ (b.prog.length : Int)) && (decide (f.2.1 = "wait" ∨ f.2.1 = "clean" ∨ f.2.1 = "drop") && deedOk b.mem.length b.ords.length f.2)
/-! ### typed ones -/
abbrev TF := Nat × Deed
abbrev TF.raw (f : TF) : RF := ((f.1 : Int), f.2.raw)
def atT (fs : List TF) (i : Nat) : List Deed := (fs.filter fun f => decide (f.1 = i)).map (·.2)
def putT (p : List Deed) (fs : List TF) (n : Nat) : List Deed := (List.range n).flatMap fun i => atT fs i ++ p[i]?.toList
theorem at_raw (fs : List TF) (i : Nat) : atPlace (fs.map TF.raw) i = (atT fs i).map Deed.raw := by
  unfold atPlace atT
  rw [List.filter_map, List.map_map, List.map_map]
  congr 1
  refine congrArg (List.filter · fs) ?_
  funext f
  simp [Function.comp, TF.raw]
  omega
theorem put_raw (p : List Deed) (fs : List TF) (n : Nat) : putTo (p.map Deed.raw) (fs.map TF.raw) n = (putT p fs n).map Deed.raw := by
  unfold putTo putT
  induction List.range n with
  | nil => rfl
  | cons i r ih =>
    rw [List.flatMap_cons, List.flatMap_cons, List.map_append, ih, at_raw, List.map_append, List.getElem?_map]
    cases p[i]? <;> rfl
theorem putIn_raw (p : List Deed) (fs : List TF) : putIn (p.map Deed.raw) (fs.map TF.raw) = (putT p fs (p.length + 1)).map Deed.raw := by
  unfold putIn
  rw [List.length_map]
  exact put_raw _ _ _
theorem atT_append (a c : List TF) (i : Nat) : atT (a ++ c) i = atT a i ++ atT c i := by
  unfold atT
  rw [List.filter_append, List.map_append]
theorem putT_succ (p : List Deed) (fs : List TF) (n : Nat) : putT p fs (n + 1) = putT p fs n ++ (atT fs n ++ p[n]?.toList) := by
  unfold putT
  rw [List.range_succ, List.flatMap_append]
  simp
/-! ### fences around each start -/
def ahead (n j : Nat) : List TF := (List.range n).map fun l => (j, .clean l)
def behind (n j : Nat) : List TF := (j + 1, .wait) :: (List.range n).map fun l => (j + 1, .drop l)
def around (n : Nat) (p : List Deed) (j : Nat) : List TF := match p[j]? with
  | some d => if d.isStart then ahead n j ++ behind n j else []
  | none => []
def fullyTo (n : Nat) (p : List Deed) (m : Nat) : List TF := (List.range m).flatMap (around n p)
def fullyOf (n : Nat) (p : List Deed) : List TF := fullyTo n p p.length
theorem fullyTo_succ (n : Nat) (p : List Deed) (m : Nat) : fullyTo n p (m + 1) = fullyTo n p m ++ around n p m := by
  unfold fullyTo
  rw [List.range_succ, List.flatMap_append]
  simp
theorem around_len (n : Nat) (p : List Deed) (j : Nat) : (around n p j).length ≤ 2 * n + 1 := by
  unfold around
  split
  · split
    · simp [ahead, behind]
      omega
    · simp
  · simp
theorem fullyTo_len (n : Nat) (p : List Deed) : ∀ m : Nat, (fullyTo n p m).length ≤ m * (2 * n + 1)
  | 0 => by simp [fullyTo]
  | m + 1 => by
    rw [fullyTo_succ, List.length_append, Nat.succ_mul]
    have := fullyTo_len n p m
    have := around_len n p m
    omega
def cleans (n : Nat) : List Deed := (List.range n).map .clean
def drops (n : Nat) : List Deed := .wait :: (List.range n).map .drop
def goesAt (p : List Deed) (j : Nat) : Bool := match p[j]? with
  | some d => d.isStart
  | none => false
/-- behind a start at the place ahead -/
def tailAt (n : Nat) (p : List Deed) : Nat → List Deed
  | 0 => []
  | j + 1 => if goesAt p j then drops n else []
def headAt (n : Nat) (p : List Deed) (j : Nat) : List Deed := if goesAt p j then cleans n else []
theorem filter_same {n j i : Nat} {f : Nat → Deed} : (((List.range n).map fun l => (j, f l)).filter fun g : TF => decide (g.1 = i)).map (·.2) = if j = i then (List.range n).map f else [] := by
  induction List.range n with
  | nil => simp
  | cons a r ih =>
    rw [List.map_cons, List.filter_cons]
    by_cases h : j = i
    · rw [if_pos h] at ih ⊢
      rw [if_pos (decide_eq_true h), List.map_cons, List.map_cons, ih]
    · rw [if_neg h] at ih ⊢
      rw [if_neg (by simpa using h)]
      exact ih
theorem around_goes {n : Nat} {p : List Deed} {j : Nat} : around n p j = if goesAt p j then ahead n j ++ behind n j else [] := by
  unfold around goesAt
  cases p[j]? with
  | none => rfl
  | some d => rfl
theorem at_around (n : Nat) (p : List Deed) (j i : Nat) : atT (around n p j) i = (if j = i then headAt n p i else []) ++ (if j + 1 = i then tailAt n p i else []) := by
  rw [around_goes]
  cases e : goesAt p j with
  | false =>
    rw [if_neg (by simp)]
    by_cases h : j = i
    · subst h
      rw [if_pos rfl, if_neg (by omega)]
      simp [atT, headAt, e]
    · rw [if_neg h]
      by_cases h2 : j + 1 = i
      · subst h2
        rw [if_pos rfl]
        simp [atT, tailAt, e]
      · rw [if_neg h2]
        rfl
  | true =>
    rw [if_pos rfl, atT_append]
    congr 1
    · unfold atT ahead
      rw [filter_same]
      by_cases h : j = i
      · subst h
        simp [headAt, e, cleans]
      · rw [if_neg h, if_neg h]
    · unfold behind atT
      rw [List.filter_cons]
      by_cases h2 : j + 1 = i
      · rw [if_pos (decide_eq_true h2), List.map_cons, filter_same, if_pos h2, if_pos h2, ← h2]
        simp [tailAt, e, drops]
      · rw [if_neg (by simpa using h2), filter_same, if_neg h2, if_neg h2]
theorem at_fullyTo (n : Nat) (p : List Deed) (i : Nat) : ∀ m : Nat, atT (fullyTo n p m) i = (if i ≤ m then tailAt n p i else []) ++ (if i < m then headAt n p i else [])
  | 0 => by
    cases i with
    | zero => simp [fullyTo, atT, tailAt]
    | succ i => simp [fullyTo, atT]
  | m + 1 => by
    rw [fullyTo_succ, atT_append, at_fullyTo n p i m, at_around]
    by_cases h1 : i < m
    · rw [if_pos (by omega), if_pos h1, if_neg (by omega), if_neg (by omega), if_pos (by omega), if_pos (by omega)]
      simp
    · by_cases h2 : i = m
      · rw [if_pos (by omega), if_neg h1, if_pos h2.symm, if_neg (by omega), if_pos (by omega), if_pos (by omega)]
        simp
      · by_cases h3 : i = m + 1
        · rw [if_neg (by omega), if_neg h1, if_neg (by omega), if_pos h3.symm, if_pos (by omega), if_neg (by omega)]
          simp
        · rw [if_neg (by omega), if_neg h1, if_neg (by omega), if_neg (by omega), if_neg (by omega), if_neg (by omega)]
          rfl
/-- with all fences put in -/
def fullP (n : Nat) (p : List Deed) : List Deed := p.flatMap fun d => if d.isStart then cleans n ++ d :: drops n else [d]
theorem put_full_to (n : Nat) (p : List Deed) : ∀ i : Nat, i ≤ p.length → putT p (fullyOf n p) i ++ tailAt n p i = fullP n (p.take i)
  | 0, _ => by simp [putT, tailAt, fullP]
  | i + 1, hi => by
    have hi' : i < p.length := by omega
    have e : p[i]? = some p[i] := List.getElem?_eq_getElem hi'
    rw [putT_succ, fullyOf, at_fullyTo, if_pos (by omega), if_pos hi', List.take_add_one, e]
    have ih := put_full_to n p i (by omega)
    rw [fullyOf] at ih
    show (_ ++ ((_ ++ _) ++ [p[i]])) ++ _ = fullP n (p.take i ++ [p[i]])
    rw [show fullP n (p.take i ++ [p[i]]) = fullP n (p.take i) ++ (if p[i].isStart then cleans n ++ p[i] :: drops n else [p[i]]) by unfold fullP; rw [List.flatMap_append]; simp, ← ih]
    have eg : goesAt p i = p[i].isStart := by
      unfold goesAt
      rw [e]
    simp only [headAt, eg]
    have et : tailAt n p (i + 1) = if p[i].isStart then drops n else [] := by
      show (if goesAt p i then drops n else []) = _
      rw [eg]
    rw [et]
    cases p[i].isStart with
    | true => simp
    | false => simp
theorem put_full (n : Nat) (p : List Deed) : putT p (fullyOf n p) (p.length + 1) = fullP n p := by
  rw [putT_succ, List.getElem?_eq_none (Nat.le_refl _), fullyOf, at_fullyTo, if_pos (Nat.le_refl _), if_neg (Nat.lt_irrefl _)]
  have := put_full_to n p p.length (Nat.le_refl _)
  rw [List.take_length, fullyOf] at this
  rw [← this]
  simp
/-- what the boards of k09 are made of -/
def tame (d : Deed) : Bool := d.calm || d.isStart || (match d with | .clean _ => true | _ => false)
theorem okA_cleans {n : Nat} {r : List Deed} : ∀ (ls T : List Nat), OkA n (ls.reverse ++ T) r → OkA n T (ls.map Deed.clean ++ r)
  | [], T, h => by simpa using h
  | l :: ls, T, h => by
    refine .clean (okA_cleans ls (l :: T) ?_)
    simpa [List.reverse_cons, List.append_assoc] using h
theorem okD_drops {n : Nat} {r : List Deed} (h : OkA n [] r) : ∀ ls : List Nat, OkD n ls (ls.map Deed.drop ++ r)
  | [] => .nil h
  | l :: ls => .drop (okD_drops h ls)
theorem okA_weak {n : Nat} : ∀ {r : List Deed} {T T2 : List Nat}, OkA n T r → (∀ l ∈ T, l ∈ T2) → OkA n T2 r
  | [], _, _, _, _ => .nil
  | d :: r, T, T2, h, hT => by
    cases h with
    | calm hc h => exact .calm hc h
    | @clean _ l _ h =>
      refine .clean (okA_weak h fun x hx => ?_)
      rcases List.mem_cons.mp hx with rfl | hx
      · exact List.mem_cons_self
      · exact List.mem_cons_of_mem _ (hT x hx)
    | start ht h => exact .start (fun l hl => hT l (ht l hl)) h
theorem full_ok (n : Nat) : ∀ p : List Deed, (∀ d ∈ p, tame d = true) → OkA n [] (fullP n p)
  | [], _ => .nil
  | d :: r, h => by
    have ih := full_ok n r fun e he => h e (List.mem_cons_of_mem _ he)
    have hd := h d List.mem_cons_self
    show OkA n [] ((if d.isStart then cleans n ++ d :: drops n else [d]) ++ fullP n r)
    cases hs : d.isStart with
    | true =>
      rw [if_pos rfl]
      cases d with
      | start k =>
        rw [List.append_assoc]
        refine okA_cleans _ _ ?_
        refine .start (fun l hl => by simpa using hl) ?_
        exact okD_drops ih _
      | _ => cases hs
    | false =>
      rw [if_neg (by simp)]
      cases hc : d.calm with
      | true => exact .calm hc ih
      | false =>
        cases d with
        | clean l => exact .clean (okA_weak ih (by simp))
        | _ => simp [tame, hs, hc] at hd
/-! ### steps -/
section
variable {K : PySem.W.Frag} {σ : L2.St} {H1 : Hp} {Q : VK} {own : List Nat}
/-- [deed for where, deed in fences if where == place] -/
theorem st_atPlace {a c p l : Nat} {fs : List RF} {xs : List V} {i : Nat} (h : H1 l = some (.lst xs)) (hi : ImL H1 (fs.map pyF) xs) (hn : fs.length ≤ 50000)
    (ha : ∀ u v, (((wipe σ own).set a (some u)).set c (some v))[a]? = some (some u)) (hc : ∀ u v, (((wipe σ own).set a (some u)).set c (some v))[c]? = some (some v))
    (hp : ∀ u v, (((wipe σ own).set a (some u)).set c (some v))[p]? = some (some (.int (i : Int)))) (hw : ∀ u v, wipe (((wipe σ own).set a (some u)).set c (some v)) own = wipe σ own)
    (q : ∀ D H2 ys, H1 D = none → Ex H1 H2 → H2 D = some (.lst ys) → ImL H2 ((atPlace fs i).map pyDeed) ys → Q (.ref D) H2) :
    LcL K (gTup K 2 (gCons (gName a) (gCons (gName c) gNil))) (tTest (tOp rEq (tVar a) (tVar p))) (tVar c) own σ (.ref l) H1 Q := by
  refine st_lcList (SqL.of h) fun D H2 nD e2 hD => ?_
  refine ⟨fun j H' => ∃ ys, Ex H1 H' ∧ H' D = some (.lst ys) ∧ ImL H' ((atPlace (fs.take j) i).map pyDeed) ys, ⟨[], e2, hD, iml_nil⟩, fun j H' hh => ?_, fun j v H' hv1 hh => ?_, fun H' hh => ?_⟩
  · obtain ⟨_, e', _⟩ := hh
    exact SqL.of (e' _ _ h)
  · obtain ⟨ys, e', hacc, hys⟩ := hh
    obtain ⟨dd, g1, g2⟩ := hi.get' hv1
    obtain ⟨f, g3, rfl⟩ := map_at' g1
    refine st_gtup (g2.ex e') (Kp.refl _) rfl fun vs hvs => ?_
    obtain ⟨v1, r1, rfl, h1, hvs⟩ := hvs.cons_inv
    obtain ⟨v2, r2, rfl, h2, hvs⟩ := hvs.cons_inv
    cases hvs.nil_inv
    cases Im.int_iff.mp h1
    refine st_gcons (st_name (st_gcons (st_name (st_gnil ⟨hw _ _, ?_⟩))))
    refine st_test (st_op (st_var (ha _ _) (st_var (hp _ _) (st_eqI (st_bl ?_)))))
    have ht : fs.take (j + 1) = fs.take j ++ [f] := by rw [List.take_add_one, g3]; rfl
    refine st_D (fun hs => ?_) (fun hs => ?_)
    · refine st_var (hc _ _) ?_
      have hl : ys.length ≤ fs.length := by
        rw [hys.length, List.length_map]
        exact Nat.le_trans (atPlace_len _ _) (by rw [List.length_take]; omega)
      refine st_lcPut hacc (by omega) fun H5 f5 k5 h5 => ?_
      refine ⟨ys ++ [v2], Fr.ex e' (fun a ha => by rw [List.mem_singleton.mp ha]; exact nD) f5, h5, ?_⟩
      rw [ht]
      unfold atPlace
      rw [List.filter_append, List.filter_cons, if_pos (decide_eq_true hs), List.map_append, List.map_append]
      exact (hys.kp k5).append (iml_cons (h2.kp k5) iml_nil)
    · refine ⟨ys, e', hacc, ?_⟩
      rw [ht]
      unfold atPlace
      rw [List.filter_append, List.filter_cons, if_neg (by simpa using hs)]
      simpa [atPlace] using hys
  · obtain ⟨ys, e', hacc, hys⟩ := hh
    rw [hi.length, List.length_map, List.take_length] at hys
    exact q D H' ys nD e' hacc hys
/-- fences of a word at a place, a line each -/
def linesAt (j : Int) (w : Str) (n : Nat) : List PyData := (List.range n).map fun k : Nat => pyF (j, (w, [(k : Int)]))
theorem fence_turn {i k D : Nat} {j : Int} {w : Str} {tp : TE} {H : Hp} (hk : k ≤ 1000) (nD : H1 D = none) (hv : ∀ v, ((wipe σ own).set i (some v))[i]? = some (some v)) (hw : ∀ v, wipe ((wipe σ own).set i (some v)) own = wipe σ own)
    (ht : ∀ v H (Q : VK), Q (.int j) H → tp ((wipe σ own).set i (some v)) H Q) (hh : ∃ ys, Ex H1 H ∧ H D = some (.lst ys) ∧ ImL H (linesAt j w k) ys) :
    LcTurn (gName i) tYes (tTup (tCons tp (tCons (tTup (tCons (tC (.str w)) (tCons (tVar i) tNil))) tNil))) own σ D (.int (k : Int)) H fun H => ∃ ys, Ex H1 H ∧ H D = some (.lst ys) ∧ ImL H (linesAt j w (k + 1)) ys := by
  obtain ⟨ys, e', hacc, hys⟩ := hh
  refine st_name ⟨hw _, st_yes (st_T ?_)⟩
  refine st_tup (st_cons (ht _ _ _ (st_cons (st_tup (st_cons (st_c (st_cons (st_var (hv _) (st_nil ?_)))))))))
  refine st_newT (by simp) fun t H2 n2 e2 h2 => ?_
  refine st_nil ?_
  refine st_newT (by simp) fun t2 H3 n3 e3 h3 => ?_
  have hl : ys.length = k := by
    rw [hys.length, linesAt, List.length_map, List.length_range]
  refine st_lcPut (e3 _ _ (e2 _ _ hacc)) (by omega) fun H5 f5 k5 h5 => ?_
  refine ⟨_, Fr.ex (e'.trans (e2.trans e3)) (fun a ha => by rw [List.mem_singleton.mp ha]; exact nD) f5, h5, ?_⟩
  unfold linesAt
  rw [List.range_succ, List.map_append]
  refine (((hys.ex e2).ex e3).kp k5).append (iml_cons (im_tup (k5 _ _ h3) (iml_cons im_int (iml_cons (im_tup (k5 _ _ (e3 _ _ h2)) (iml_cons im_str (iml_cons im_int iml_nil))) iml_nil))) iml_nil)
theorem st_linesR {i n : Nat} {j : Int} {w : Str} {tp : TE} (hn : n ≤ 1000) (hv : ∀ v, ((wipe σ own).set i (some v))[i]? = some (some v)) (hw : ∀ v, wipe ((wipe σ own).set i (some v)) own = wipe σ own)
    (ht : ∀ v H (Q : VK), Q (.int j) H → tp ((wipe σ own).set i (some v)) H Q) (q : ∀ D H2 ys, H1 D = none → Ex H1 H2 → H2 D = some (.lst ys) → ImL H2 (linesAt j w n) ys → Q (.ref D) H2) :
    LcR (gName i) tYes (tTup (tCons tp (tCons (tTup (tCons (tC (.str w)) (tCons (tVar i) tNil))) tNil))) own σ [.int (n : Int)] H1 Q := by
  refine st_lcRange (by omega) fun D H2 nD e2 hD => ?_
  refine ⟨fun k H => ∃ ys, Ex H1 H ∧ H D = some (.lst ys) ∧ ImL H (linesAt j w k) ys, ⟨[], e2, hD, iml_nil⟩, fun k H hk hh => fence_turn (by omega) nD hv hw ht hh, fun H hh => ?_⟩
  obtain ⟨ys, e', hacc, hys⟩ := hh
  exact q D H ys nD e' hacc hys
theorem st_linesL {i n l : Nat} {j : Int} {w : Str} {tp : TE} (h : H1 l = some (.lst ((List.range n).map fun k : Nat => V.int (k : Int)))) (hn : n ≤ 1000) (hv : ∀ v, ((wipe σ own).set i (some v))[i]? = some (some v)) (hw : ∀ v, wipe ((wipe σ own).set i (some v)) own = wipe σ own)
    (ht : ∀ v H (Q : VK), Q (.int j) H → tp ((wipe σ own).set i (some v)) H Q) (q : ∀ D H2 ys, H1 D = none → Ex H1 H2 → H2 D = some (.lst ys) → ImL H2 (linesAt j w n) ys → Q (.ref D) H2) :
    LcL K (gName i) tYes (tTup (tCons tp (tCons (tTup (tCons (tC (.str w)) (tCons (tVar i) tNil))) tNil))) own σ (.ref l) H1 Q := by
  refine st_lcList (SqL.of h) fun D H2 nD e2 hD => ?_
  refine ⟨fun k H => ∃ ys, Ex H1 H ∧ H D = some (.lst ys) ∧ ImL H (linesAt j w k) ys, ⟨[], e2, hD, iml_nil⟩, fun k H hh => ?_, fun k v H hv1 hh => ?_, fun H hh => ?_⟩
  · obtain ⟨_, e', _⟩ := hh
    exact SqL.of (e' _ _ h)
  · have hk : k < n := by
      have := (List.getElem?_eq_some_iff.mp hv1).1
      simpa using this
    have : v = V.int (k : Int) := by
      rw [List.getElem?_map, List.getElem?_range hk] at hv1
      exact (Option.some.inj hv1).symm
    subst this
    exact fence_turn (by omega) nD hv hw ht hh
  · obtain ⟨ys, e', hacc, hys⟩ := hh
    rw [List.length_map, List.length_range] at hys
    exact q D H ys nD e' hacc hys
/-- list(range(n)) -/
def rRg (x : V) (H : Hp) (Q : VK) : Prop := ∃ n : Int, x = .int n ∧ RgOk 0 n ∧ ∀ q, H q = none → Q (.ref q) (upd H q (.lst (rgV 0 n)))
theorem st_lstRg {te : TE} {H : Hp} (h : te σ H fun x H1 => rRg x H1 Q) : tLstRg (tRg1 te) σ H Q := h
theorem st_rg {n : Nat} (hn : n ≤ 1000) (q : ∀ D H2, H1 D = none → Ex H1 H2 → H2 D = some (.lst ((List.range n).map fun k : Nat => V.int (k : Int))) → Q (.ref D) H2) : rRg (.int (n : Int)) H1 Q := by
  refine ⟨(n : Int), rfl, RgOk.of_le (by omega) (by omega) (by omega) (by omega), fun D nD => q D _ nD (Ex.new nD) ?_⟩
  rw [upd_same]
  unfold rgV
  simp
end
/-- for i, x in enumerate(t), t any expression -/
def EnT (K : PySem.W.Frag) (g : TG) (tb : TS) (D : Ends) (σ : L2.St) (us : List V) (H1 : Hp) : Prop := ∃ a xs, us = [.ref a] ∧ SqT K H1 a xs ∧ ∃ W : Nat → Nat → L2.St → Hp → Prop, (∃ m, W 0 m σ H1) ∧ ∀ i m σ H, W i m σ H →
  ((ItT K a).stop i H ∧ D.nx σ H) ∨ ((ItT K a).go i H ∧ ∃ N : L2.St → Hp → Prop, (∀ σ' H', N σ' H' → ∃ m', m' < m ∧ W (i + 1) m' σ' H') ∧ ∀ x H', (ItT K a).yld i H x H' → g x σ H' fun σ2 H2 => tb { D with nx := N, ct := N, bk := D.nx } σ2 H2)
section
variable {K : PySem.W.Frag} {σ : L2.St} {H H0 : Hp} {D : Ends} {x : V} {ds : List PyData} {tb : TS}
theorem st_wET {ta : TA} {g : TG} (h : ta σ H fun us H1 => EnT K g tb D σ us H1) : tFor (iEnumT K ta) g tb D σ H := h
theorem st_walkET {m1 m2 : Nat} (h : Im H0 (.tuple ds) x) (k : Kp H0 H) (Pv : Nat → L2.St → Hp → Prop) (h0 : Pv 0 σ H) (kp0 : ∀ m σ' H', Pv m σ' H' → Kp H0 H')
    (hs : ∀ (m : Nat) d v σ' H' H'', ds[m]? = some d → Pv m σ' H' → Ex H' H'' → Im H'' d v → tb { D with nx := Pv (m + 1), ct := Pv (m + 1), bk := D.nx } ((σ'.set m1 (some (.int (m : Int)))).set m2 (some v)) H'')
    (hd : ∀ σ' H', Pv ds.length σ' H' → D.nx σ' H') : EnT K (gTup K 2 (gCons (gName m1) (gCons (gName m2) gNil))) tb D σ [x] H := by
  obtain ⟨a, xs, rfl, g1, h2⟩ := h.tup
  refine ⟨a, xs, rfl, SqT.of (k a xs g1), for_it (walk_enumT (K := K) (a := a) (xs := xs)) Pv h0 (fun m σ' H' _ p => SqT.of (kp0 m σ' H' p a xs g1)) (fun m v σ' H' H'' hlt p y => ?_) fun σ' H' p => hd σ' H' (h2.length ▸ p)⟩
  obtain ⟨T, y1, y2, rfl, f, rfl, ee1, e2⟩ := y
  have ee1' : y1 = .int (m : Int) := (Option.some.inj ee1).symm
  subst ee1'
  obtain ⟨d, g1, g2⟩ := h2.get' e2
  refine ⟨T, [.int (m : Int), y2], rfl, SqT.of upd_same, rfl, _, [y2], rfl, y2, [], rfl, rfl, ?_⟩
  exact hs m d y2 σ' H' _ g1 p (Ex.new f) (g2.kp ((kp0 m σ' H' p).trans (Ex.new f).kp))
end
/-! ### the whole board -/
def fullB (b : Bd) : Bd := ⟨b.mem, b.ords, fullP (b.mem.length / 4) b.prog⟩
theorem tame_split {n : Nat} {p : List Deed} {P : Deed → Prop} (h1 : ∀ d ∈ p, P d) (h2 : P .wait) (h3 : ∀ l < n, P (.clean l) ∧ P (.drop l)) : ∀ d ∈ fullP n p, P d := by
  intro d hd
  obtain ⟨e, he, hd⟩ := List.mem_flatMap.mp hd
  split at hd
  · rcases List.mem_append.mp hd with hd | hd
    · obtain ⟨l, hl, rfl⟩ := List.mem_map.mp hd
      exact (h3 l (List.mem_range.mp hl)).1
    · rcases List.mem_cons.mp hd with rfl | hd
      · exact h1 _ he
      · rcases List.mem_cons.mp hd with rfl | hd
        · exact h2
        · obtain ⟨l, hl, rfl⟩ := List.mem_map.mp hd
          exact (h3 l (List.mem_range.mp hl)).2
  · rw [List.mem_singleton.mp hd]
    exact h1 _ he
theorem full_starts (n : Nat) : ∀ p : List Deed, (fullP n p).filter Deed.isStart = p.filter Deed.isStart
  | [] => rfl
  | d :: r => by
    have c1 : ∀ ls : List Nat, (ls.map Deed.clean).filter Deed.isStart = [] := fun ls => by
      rw [List.filter_map]
      simp [Function.comp_def, Deed.isStart]
    have c2 : ∀ ls : List Nat, (ls.map Deed.drop).filter Deed.isStart = [] := fun ls => by
      rw [List.filter_map]
      simp [Function.comp_def, Deed.isStart]
    show ((if d.isStart then cleans n ++ d :: drops n else [d]) ++ fullP n r).filter Deed.isStart = _
    rw [List.filter_append, full_starts n r]
    cases hs : d.isStart with
    | true =>
      rw [if_pos rfl, List.filter_append, cleans, c1, List.filter_cons, hs, if_pos rfl, drops, List.filter_cons, if_neg (by simp [Deed.isStart]), c2, List.filter_cons, hs]
      simp
    | false =>
      rw [if_neg (by simp), List.filter_cons, hs, List.filter_cons, hs]
      simp
theorem full_len (n : Nat) : ∀ p : List Deed, (fullP n p).length = p.length + (p.filter Deed.isStart).length * (2 * n + 1)
  | [] => by simp [fullP]
  | d :: r => by
    show ((if d.isStart then cleans n ++ d :: drops n else [d]) ++ fullP n r).length = _
    rw [List.length_append, full_len n r, List.filter_cons]
    cases hs : d.isStart with
    | true =>
      rw [if_pos rfl, if_pos rfl, List.length_append, cleans, drops, List.length_cons, List.length_cons, List.length_cons, List.length_map, List.length_map, List.length_range, List.length_cons, Nat.add_mul]
      omega
    | false =>
      rw [if_neg (by simp), if_neg (by simp), List.length_cons, List.length_cons, List.length_nil]
      omega
theorem around_starts (n : Nat) (p : List Deed) : ∀ m : Nat, m ≤ p.length → (fullyTo n p m).length = ((p.take m).filter Deed.isStart).length * (2 * n + 1)
  | 0, _ => by simp [fullyTo]
  | m + 1, h => by
    have e : p[m]? = some p[m] := List.getElem?_eq_getElem (by omega)
    have eg : goesAt p m = p[m].isStart := by
      unfold goesAt
      rw [e]
    rw [fullyTo_succ, List.length_append, around_starts n p m (by omega), List.take_add_one, e, around_goes, eg, Option.toList_some, List.filter_append, List.length_append, Nat.add_mul]
    cases hs : p[m].isStart with
    | true =>
      rw [if_pos rfl, List.filter_cons, hs]
      simp [ahead, behind]
      omega
    | false =>
      rw [if_neg (by simp), List.filter_cons, hs]
      simp
theorem fully_count {b : Bd} (g : Good b) : (fullyOf (b.mem.length / 4) b.prog).length ≤ 27 := by
  have h1 := g.starts
  have h2 := g.lines
  rw [fullyOf, around_starts _ _ _ (Nat.le_refl _), List.take_length]
  exact Nat.le_trans (Nat.mul_le_mul h1 (show 2 * (b.mem.length / 4) + 1 ≤ 9 by omega)) (by omega)
theorem full_good {b : Bd} (g : Good b) (h : b.prog.length ≤ 33) : Good (fullB b) := by
  have h1 := g.starts
  have h2 := g.lines
  refine ⟨g.four, g.lines, g.digits, g.ords, g.ordsOk, ?_, ?_, ?_⟩
  · show (fullP _ _).length ≤ 60
    rw [full_len]
    have := Nat.mul_le_mul h1 (show 2 * (b.mem.length / 4) + 1 ≤ 9 by omega)
    omega
  · exact tame_split g.deeds trivial fun l hl => ⟨hl, hl⟩
  · show ((fullP _ _).filter Deed.isStart).length ≤ 3
    rw [full_starts]
    exact h1
theorem fully_ok {b : Bd} (f : RF) (hf : f ∈ (fullyOf (b.mem.length / 4) b.prog).map TF.raw) : fenceOk b.raw f = true := by
  obtain ⟨t, ht, rfl⟩ := List.mem_map.mp hf
  obtain ⟨j, hj, ht⟩ := List.mem_flatMap.mp ht
  have hj' := List.mem_range.mp hj
  rw [around_goes] at ht
  have hn : b.raw.prog.length = b.prog.length := List.length_map _
  unfold fenceOk
  rw [hn]
  split at ht
  · rcases List.mem_append.mp ht with ht | ht
    · obtain ⟨l, hl, rfl⟩ := List.mem_map.mp ht
      have hl' := List.mem_range.mp hl
      rw [Bool.and_eq_true, Bool.and_eq_true, decide_eq_true_eq, decide_eq_true_eq]
      refine ⟨⟨by show (0 : Int) ≤ (j : Int); omega, by show (j : Int) ≤ _; omega⟩, .inr (.inl rfl), deedOk_raw (d := .clean l) hl'⟩
    · rcases List.mem_cons.mp ht with rfl | ht
      · rw [Bool.and_eq_true, Bool.and_eq_true, decide_eq_true_eq, decide_eq_true_eq]
        refine ⟨⟨by show (0 : Int) ≤ ((j + 1 : Nat) : Int); omega, by show ((j + 1 : Nat) : Int) ≤ _; omega⟩, .inl rfl, deedOk_raw (d := .wait) trivial⟩
      · obtain ⟨l, hl, rfl⟩ := List.mem_map.mp ht
        have hl' := List.mem_range.mp hl
        rw [Bool.and_eq_true, Bool.and_eq_true, decide_eq_true_eq, decide_eq_true_eq]
        refine ⟨⟨by show (0 : Int) ≤ ((j + 1 : Nat) : Int); omega, by show ((j + 1 : Nat) : Int) ≤ _; omega⟩, .inr (.inr rfl), deedOk_raw (d := .drop l) hl'⟩
  · cases ht
theorem full_raw (b : Bd) : (⟨b.raw.mem, b.raw.ords, putIn b.raw.prog ((fullyOf (b.mem.length / 4) b.prog).map TF.raw)⟩ : RB) = (fullB b).raw := by
  show (⟨b.mem, b.ords.map Ord.raw, putIn (b.prog.map Deed.raw) _⟩ : RB) = ⟨b.mem, b.ords.map Ord.raw, (fullP _ b.prog).map Deed.raw⟩
  rw [putIn_raw, put_full]
theorem full_plain (b : Bd) : plainOf (fullB b) = plainOf b := by
  unfold plainOf fullB
  show (fullP (b.mem.length / 4) b.prog).foldl (PS.deed b.ords) (PS.init b.mem) = _
  generalize b.mem.length / 4 = n
  generalize PS.init b.mem = S
  have c1 : ∀ (ls : List Nat) (S : PS), (ls.map Deed.clean).foldl (PS.deed b.ords) S = S := fun ls => by
    induction ls with
    | nil => intro S; rfl
    | cons l ls ih => intro S; exact ih S
  have c2 : ∀ (ls : List Nat) (S : PS), (ls.map Deed.drop).foldl (PS.deed b.ords) S = S := fun ls => by
    induction ls with
    | nil => intro S; rfl
    | cons l ls ih => intro S; exact ih S
  induction b.prog generalizing S with
  | nil => rfl
  | cons d r ih =>
    show ((if d.isStart then cleans n ++ d :: drops n else [d]) ++ fullP n r).foldl (PS.deed b.ords) S = _
    rw [List.foldl_append, ih]
    cases hs : d.isStart with
    | true =>
      rw [if_pos rfl, List.foldl_append, cleans, c1, List.foldl_cons, drops, List.foldl_cons, c2]
      rfl
    | false => rfl
def ks9 : List Str := ["set", "set", "add", "say", "say", "start", "start", "wait", "clean"]
theorem tame_drawn {bd : Bd} (h : ∀ d ∈ bd.prog, d.raw.1 ∈ ks9 ∨ ∃ c, d = .say c) : ∀ d ∈ bd.prog, tame d = true := by
  intro d hd
  rcases h d hd with h | ⟨c, rfl⟩
  · cases d with
    | drop l =>
      have : ∀ s ∈ ks9, s ≠ ("drop" : Str) := by decide +kernel
      exact absurd rfl (this _ h)
    | _ => rfl
  · rfl
theorem al_deed {n : Nat} (d : Deed) : Al (n + 1) (pyDeed d.raw) := by
  have w : ∀ s ∈ [("set" : Str), "add", "say", "start", "wait", "clean", "drop"], PyData.strOk s = true := by decide +kernel
  have hs : PyData.strOk d.raw.1 = true := w _ (by cases d <;> simp [Deed.raw])
  have hl : d.raw.2.length ≤ 2 := by cases d <;> simp [Deed.raw]
  refine al_tup (by simp; omega) fun e he => ?_
  rcases List.mem_cons.mp he with rfl | he
  · exact al_str hs
  · exact al_ints e he
theorem al_tfs {n : Nat} {fs : List TF} (h : fs.length ≤ 100000) : Al (n + 3) (.list ((fs.map TF.raw).map pyF)) := by
  refine al_lst (by rw [List.length_map, List.length_map]; omega) fun d hd => ?_
  rw [List.map_map] at hd
  obtain ⟨f, _, rfl⟩ := List.mem_map.mp hd
  refine al_tup (by simp) fun e he => ?_
  simp only [List.mem_cons, List.not_mem_nil, or_false] at he
  rcases he with rfl | rfl
  · exact al_int
  · exact al_deed f.2
theorem al_board {n : Nat} {b : Bd} (g : Good b) : Al (n + 3) (pyB b.raw) := by
  have h1 := g.lines
  have h2 := g.ords
  have h3 := g.len
  refine al_tup (by simp) fun e he => ?_
  simp only [List.mem_cons, List.not_mem_nil, or_false] at he
  rcases he with rfl | rfl | rfl
  · exact al_tup (by rw [List.length_map]; show b.mem.length ≤ _; omega) al_ints
  · refine al_tup (by rw [List.length_map, List.length_map]; omega) fun d hd => ?_
    obtain ⟨o, _, rfl⟩ := List.mem_map.mp hd
    refine al_tup (by simp) fun e he => ?_
    simp only [List.mem_cons, List.not_mem_nil, or_false] at he
    rcases he with rfl | rfl | rfl | rfl
    · exact al_int
    · exact al_int
    · exact al_int
    · exact al_opt
  · refine al_tup (by rw [List.length_map, List.length_map]; omega) fun d hd => ?_
    rw [List.map_map] at hd
    obtain ⟨d, _, rfl⟩ := List.mem_map.mp hd
    exact al_deed d
/-- [row[2:] for row in rows if row[1] == w] -/
theorem st_col {K : PySem.W.Frag} {σ : L2.St} {H1 : Hp} {Q : VK} {l : Addr} {i : Nat} {own : List Nat} {rs : List Row} {xs : List V} {w : Str} (h : H1 l = some (.lst xs)) (hi : ImL H1 (rs.map pyRow) xs) (hn : rs.length ≤ 50000)
    (hv : ∀ v, ((wipe σ own).set i (some v))[i]? = some (some v)) (hw : ∀ v, wipe ((wipe σ own).set i (some v)) own = wipe σ own)
    (q : ∀ D H2 ys, H1 D = none → Ex H1 H2 → H2 D = some (.lst ys) → ImL H2 ((colOf w rs).map pySeen) ys → Q (.ref D) H2) :
    LcL K (gName i) (tTest (tOp rEq (tOp (rIxT K) (tVar i) (tC (.int 1))) (tC (.str w)))) (L2.tSl (rSlA K) (tVar i) (tPart (tC (.int 2))) tNoPart) own σ (.ref l) H1 Q := by
  refine st_lcList (SqL.of h) fun D H2 nD e2 hD => ?_
  refine ⟨fun j H' => ∃ ys, Ex H1 H' ∧ H' D = some (.lst ys) ∧ ImL H' ((colOf w (rs.take j)).map pySeen) ys, ⟨[], e2, hD, iml_nil⟩, fun j H' hh => ?_, fun j v H' hv1 hh => ?_, fun H' hh => ?_⟩
  · obtain ⟨_, e', _⟩ := hh
    exact SqL.of (e' _ _ h)
  · obtain ⟨ys, e', hacc, hys⟩ := hh
    obtain ⟨dd, g1, g2⟩ := hi.get' hv1
    obtain ⟨r, g3, rfl⟩ := map_at' g1
    refine st_name ⟨hw v, ?_⟩
    have g2' := g2.ex e'
    refine st_test (st_op (st_op (st_var (hv v) (st_c ?_))))
    refine st_ixT_str g2' (Kp.refl _) (atI_nat (j := 1) rfl) ?_
    refine st_c (st_eqS (st_bl ?_))
    have ht : rs.take (j + 1) = rs.take j ++ [r] := by rw [List.take_add_one, g3]; rfl
    have hone : colOf w [r] = if r.2.1 = w then [r.2.2] else [] := by
      unfold colOf
      by_cases hs : r.2.1 = w
      · rw [List.filter_cons, if_pos (decide_eq_true hs), if_pos hs]
        rfl
      · rw [List.filter_cons, if_neg (by simpa using hs), if_neg hs]
        rfl
    refine st_D (fun hs => ?_) (fun hs => ?_)
    · refine st_sl (st_var (hv v) (st_part (st_c (st_pint (st_npart ?_)))))
      refine st_slFrom (k := 2) g2' (Kp.refl _) (by simp) fun v3 H3 e3 i3 => ?_
      have hl : ys.length ≤ rs.length := by
        rw [hys.length, List.length_map]
        unfold colOf
        rw [List.length_map]
        exact Nat.le_trans (List.length_filter_le _ _) (by rw [List.length_take]; omega)
      refine st_lcPut (e3 _ _ hacc) (by omega) fun H5 f5 k5 h5 => ?_
      refine ⟨_, Fr.ex (e'.trans e3) (fun a ha => by rw [List.mem_singleton.mp ha]; exact nD) f5, h5, ?_⟩
      rw [ht, colOf_append, hone, if_pos hs, List.map_append]
      exact ((hys.ex e3).kp k5).append (iml_cons (i3.kp k5) iml_nil)
    · refine ⟨ys, e', hacc, ?_⟩
      rw [ht, colOf_append, hone, if_neg hs, List.append_nil]
      exact hys
  · obtain ⟨ys, e', hacc, hys⟩ := hh
    rw [hi.length, List.length_map, List.take_length] at hys
    exact q D H' ys nD e' hacc hys
theorem st_neSeens {K : PySem.W.Frag} {H : Hp} {Q : VK} {a b : Addr} {xs ys : List V} {ss : List (Nat × Int)} (ha : H a = some (.lst xs)) (hx : ImL H (ss.map pySeen) xs) (hb : H b = some (.lst ys)) (hy : ImL H (ss.map pySeen) ys) (q : Q (.bl false) H) : rNeD K (.ref a) (.ref b) H Q := by
  have sh : Sh 2 (.list (ss.map pySeen)) := sh_lst fun d hd => by
    obtain ⟨s, _, rfl⟩ := List.mem_map.mp hd
    exact sh_seen (n := 0) s
  refine st_neD (lst_dp ha hx) (lst_dp hb hy) sh.shaped sh.shaped ?_
  rw [eqv_same sh]
  exact q
theorem st_neInts {K : PySem.W.Frag} {H : Hp} {Q : VK} {a b : Addr} {m : List Int} (ha : H a = some (.lst (m.map V.int))) (hb : H b = some (.lst (m.map V.int))) (q : Q (.bl false) H) : rNeD K (.ref a) (.ref b) H Q :=
  st_neMem ha hb (by rw [decide_eq_true rfl]; exact q)
end BC
/-! BCRows: all fences that a board may have; rows of them; boards with fences. -/
namespace BC
open PySem PySem.Spec PyProof.Rows L2
/-- fences as data -/
def pyTFs (fs : List TF) : List PyData := (fs.map TF.raw).map pyF
theorem pyTFs_append (a c : List TF) : pyTFs (a ++ c) = pyTFs a ++ pyTFs c := by
  unfold pyTFs
  rw [List.map_append, List.map_append]
theorem pyTFs_len (a : List TF) : (pyTFs a).length = a.length := by
  unfold pyTFs
  rw [List.length_map, List.length_map]
theorem pyTFs_at {a : List TF} {i : Nat} {d : PyData} (h : (pyTFs a)[i]? = some d) : ∃ f, a[i]? = some f ∧ d = pyF (TF.raw f) := by
  obtain ⟨r, h1, rfl⟩ := map_at' h
  obtain ⟨f, h2, rfl⟩ := map_at' h1
  exact ⟨f, h2, rfl⟩
/-- the deeds that are fences -/
def kindsTo (n : Nat) : List Deed := .wait :: (List.range n).flatMap fun l => [.clean l, .drop l]
theorem kindsTo_succ (n : Nat) : kindsTo (n + 1) = kindsTo n ++ [.clean n, .drop n] := by
  unfold kindsTo
  rw [List.range_succ, List.flatMap_append]
  simp
theorem kindsTo_len (n : Nat) : (kindsTo n).length = 2 * n + 1 := by
  induction n with
  | zero => rfl
  | succ n ih =>
    rw [kindsTo_succ, List.length_append, ih]
    simp
    omega
theorem kindsTo_ok {n : Nat} {d : Deed} (h : d ∈ kindsTo n) : d = .wait ∨ (∃ l, l < n ∧ d = .clean l) ∨ ∃ l, l < n ∧ d = .drop l := by
  unfold kindsTo at h
  rcases List.mem_cons.mp h with rfl | h
  · exact .inl rfl
  · obtain ⟨l, hl, h⟩ := List.mem_flatMap.mp h
    have hl' := List.mem_range.mp hl
    simp only [List.mem_cons, List.not_mem_nil, or_false] at h
    rcases h with rfl | rfl
    · exact .inr (.inl ⟨l, hl', rfl⟩)
    · exact .inr (.inr ⟨l, hl', rfl⟩)
def placeF (n i : Nat) : List TF := (kindsTo n).map fun d => (i, d)
/-- all fences, by places -/
def allTo (n m : Nat) : List TF := (List.range m).flatMap (placeF n)
theorem allTo_succ (n m : Nat) : allTo n (m + 1) = allTo n m ++ placeF n m := by
  unfold allTo
  rw [List.range_succ, List.flatMap_append]
  simp
theorem allTo_len (n m : Nat) : (allTo n m).length = m * (2 * n + 1) := by
  induction m with
  | zero => simp [allTo]
  | succ m ih => rw [allTo_succ, List.length_append, ih, placeF, List.length_map, kindsTo_len, Nat.add_mul m 1, Nat.one_mul]
theorem allTo_mem {n m : Nat} {f : TF} : f ∈ allTo n m ↔ f.1 < m ∧ f.2 ∈ kindsTo n := by
  unfold allTo placeF
  constructor
  · intro h
    obtain ⟨i, hi, h⟩ := List.mem_flatMap.mp h
    obtain ⟨d, hd, rfl⟩ := List.mem_map.mp h
    exact ⟨List.mem_range.mp hi, hd⟩
  · rintro ⟨h1, h2⟩
    exact List.mem_flatMap.mpr ⟨f.1, List.mem_range.mpr h1, List.mem_map.mpr ⟨f.2, h2, rfl⟩⟩
/-- a fence may stand behind a row -/
def okNext (row : List TF) (f : TF) : Bool := match row.getLast? with
  | none => true
  | some g => decide (g.1 ≤ f.1)
def stepRows (fs : List TF) (row : List TF) : List (List TF) := (fs.filter (okNext row)).map fun f => row ++ [f]
def rowsOf (fs : List TF) : Nat → List (List TF)
  | 0 => [[]]
  | m + 1 => (rowsOf fs m).flatMap (stepRows fs)
theorem rowsOf_mem {fs : List TF} : ∀ {m : Nat} {row : List TF}, row ∈ rowsOf fs m → row.length = m ∧ ∀ f ∈ row, f ∈ fs
  | 0, row, h => by
    rw [List.mem_singleton.mp h]
    simp
  | m + 1, row, h => by
    obtain ⟨r, hr, h⟩ := List.mem_flatMap.mp h
    obtain ⟨f, hf, rfl⟩ := List.mem_map.mp h
    obtain ⟨h1, h2⟩ := rowsOf_mem hr
    refine ⟨by simp [h1], fun g hg => ?_⟩
    rcases List.mem_append.mp hg with hg | hg
    · exact h2 g hg
    · rw [List.mem_singleton.mp hg]
      exact (List.mem_filter.mp hf).1
theorem flatMap_len {α β : Type} (f : α → List β) (k : Nat) : ∀ l : List α, (∀ x ∈ l, (f x).length ≤ k) → (l.flatMap f).length ≤ l.length * k
  | [], _ => by simp
  | x :: l, h => by
    rw [List.flatMap_cons, List.length_append, List.length_cons, Nat.succ_mul]
    have := h x List.mem_cons_self
    have := flatMap_len f k l fun y hy => h y (List.mem_cons_of_mem _ hy)
    omega
theorem stepRows_len (fs row : List TF) : (stepRows fs row).length ≤ fs.length := by
  unfold stepRows
  rw [List.length_map]
  exact List.length_filter_le _ _
theorem rowsOf_len (fs : List TF) : ∀ m : Nat, (rowsOf fs m).length ≤ fs.length ^ m
  | 0 => by simp [rowsOf]
  | m + 1 => by
    rw [Nat.pow_succ]
    exact Nat.le_trans (flatMap_len _ fs.length _ fun x _ => stepRows_len _ _) (Nat.mul_le_mul_right _ (rowsOf_len fs m))
theorem rowsOf_small {fs : List TF} {m : Nat} (h : fs.length ≤ 100) (hm : m ≤ 2) : (rowsOf fs m).length ≤ 10000 :=
  Nat.le_trans (rowsOf_len fs m) (Nat.le_trans (Nat.pow_le_pow_left h m) (Nat.le_trans (Nat.pow_le_pow_right (by decide) hm) (by decide)))
/-! ### rows at the heap -/
/-- lists that hold rows, each one new since H0 -/
inductive RowsR (H0 H : Hp) : List V → List (List TF) → Prop
  | nil : RowsR H0 H [] []
  | cons {a : Addr} {ys : List V} {row : List TF} {xs : List V} {rows : List (List TF)} (h1 : H0 a = none) (h2 : H a = some (.lst ys)) (h3 : ImL H (pyTFs row) ys) (h4 : RowsR H0 H xs rows) : RowsR H0 H (.ref a :: xs) (row :: rows)
section
variable {H0 H1 H H2 : Hp} {xs : List V} {rows : List (List TF)}
theorem RowsR.keep {l : Addr} {o : HO} (h : RowsR H0 H xs rows) (f : Fr [l] H H2) (k : Kp H H2) (hl : H0 l = some o) : RowsR H0 H2 xs rows := by
  induction h with
  | nil => exact .nil
  | @cons a ys row xs rows h1 h2 h3 h4 ih =>
    refine .cons h1 (f _ _ h2 ?_) (h3.kp k) ih
    have : a ≠ l := fun z => by
      rw [z, hl] at h1
      cases h1
    simpa using this
theorem RowsR.ex (h : RowsR H0 H xs rows) (e : Ex H H2) : RowsR H0 H2 xs rows := by
  induction h with
  | nil => exact .nil
  | cons h1 h2 h3 h4 ih => exact .cons h1 (e _ _ h2) (h3.ex e) ih
theorem RowsR.since (h : RowsR H1 H xs rows) (e : Ex H0 H1) : RowsR H0 H xs rows := by
  induction h with
  | nil => exact .nil
  | cons h1 h2 h3 h4 ih => exact .cons (e.free h1) h2 h3 ih
theorem RowsR.len (h : RowsR H0 H xs rows) : xs.length = rows.length := by
  induction h with
  | nil => rfl
  | cons h1 h2 h3 h4 ih => simp [ih]
theorem RowsR.snoc (h : RowsR H0 H xs rows) {a : Addr} {ys : List V} {row : List TF} (h1 : H0 a = none) (h2 : H a = some (.lst ys)) (h3 : ImL H (pyTFs row) ys) : RowsR H0 H (xs ++ [.ref a]) (rows ++ [row]) := by
  induction h with
  | nil => exact .cons h1 h2 h3 .nil
  | cons g1 g2 g3 g4 ih => exact .cons g1 g2 g3 ih
theorem RowsR.at (h : RowsR H0 H xs rows) {i : Nat} {v : V} (e : xs[i]? = some v) : ∃ a ys row, v = .ref a ∧ H0 a = none ∧ H a = some (.lst ys) ∧ ImL H (pyTFs row) ys ∧ rows[i]? = some row := by
  induction h generalizing i with
  | nil => simp at e
  | @cons a ys row xs rows h1 h2 h3 h4 ih =>
    cases i with
    | zero =>
      simp at e
      exact ⟨a, ys, row, e.symm, h1, h2, h3, by simp⟩
    | succ i =>
      obtain ⟨a', ys', row', g1, g2, g3, g4, g5⟩ := ih (i := i) (by simpa using e)
      exact ⟨a', ys', row', g1, g2, g3, g4, by simpa using g5⟩
end
def RowsAt (H H' : Hp) (l : Addr) (rows : List (List TF)) : Prop := H l = none ∧ Ex H H' ∧ ∃ xs, H' l = some (.lst xs) ∧ RowsR H H' xs rows
/-! ### data in lists -/
theorem sh_deedR {n : Nat} (d : Deed) : Sh (n + 1) (pyDeed d.raw) := by
  have w : ∀ s ∈ [("set" : Str), "add", "say", "start", "wait", "clean", "drop"], PyData.strOk s = true := by decide +kernel
  have hs : PyData.strOk d.raw.1 = true := w _ (by cases d <;> simp [Deed.raw])
  refine sh_tup fun e he => ?_
  rcases List.mem_cons.mp he with rfl | he
  · exact sh_str hs
  · exact sh_ints e he
theorem sh_tfs {n : Nat} {fs : List TF} : Sh (n + 3) (.list (pyTFs fs)) := by
  refine sh_lst fun d hd => ?_
  unfold pyTFs at hd
  rw [List.map_map] at hd
  obtain ⟨f, _, rfl⟩ := List.mem_map.mp hd
  refine sh_tup fun e he => ?_
  simp only [List.mem_cons, List.not_mem_nil, or_false] at he
  rcases he with rfl | rfl
  · exact sh_int
  · exact sh_deedR f.2
theorem st_eqTfs {K : PySem.W.Frag} {H : Hp} {Q : VK} {a b : Addr} {xs : List V} {fs : List TF} (ha : H a = some (.lst xs)) (hi : ImL H (pyTFs fs) xs) (hb : H b = some (.lst [])) (q : Q (.bl fs.isEmpty) H) : rEqD K (.ref a) (.ref b) H Q := by
  refine st_eqD (lst_dp ha hi) (lst_dp hb iml_nil) (sh_tfs (n := 0)).shaped sh_lnil ?_
  rw [eqv_lnil, show (pyTFs fs).isEmpty = fs.isEmpty by cases fs <;> rfl]
  exact q
theorem atI_last {α : Type} {xs : List α} {x : α} (h : xs.getLast? = some x) : atI xs (-1) = some x := by
  unfold atI ixN
  cases xs with
  | nil => cases h
  | cons y ys =>
    rw [List.getLast?_eq_getElem?] at h
    rw [if_neg (by decide), if_pos (by simp only [List.length_cons]; omega)]
    show (y :: ys)[_]? = _
    rw [← h]
    congr 1
    simp only [List.length_cons]
    omega
theorem ImL.last {H : Hp} {ds : List PyData} {xs : List V} {d : PyData} (h : ImL H ds xs) (e : ds.getLast? = some d) : ∃ v, xs.getLast? = some v ∧ Im H d v := by
  rw [List.getLast?_eq_getElem?] at e
  obtain ⟨v, g1, g2⟩ := h.get e
  exact ⟨v, by rw [List.getLast?_eq_getElem?, h.length]; exact g1, g2⟩
/-! ### boards with fences -/
def withB (b : Bd) (fs : List TF) : Bd := ⟨b.mem, b.ords, putT b.prog fs (b.prog.length + 1)⟩
theorem with_raw (b : Bd) (fs : List TF) : (⟨b.raw.mem, b.raw.ords, putIn b.raw.prog (fs.map TF.raw)⟩ : RB) = (withB b fs).raw := by
  show (⟨b.mem, b.ords.map Ord.raw, putIn (b.prog.map Deed.raw) _⟩ : RB) = ⟨b.mem, b.ords.map Ord.raw, (putT b.prog fs _).map Deed.raw⟩
  rw [putIn_raw]
theorem at_split (fs : List TF) (n : Nat) : (atT fs n).length + (fs.filter fun f => decide (n + 1 ≤ f.1)).length = (fs.filter fun f => decide (n ≤ f.1)).length := by
  unfold atT
  rw [List.length_map]
  induction fs with
  | nil => rfl
  | cons f r ih =>
    rw [List.filter_cons, List.filter_cons, List.filter_cons]
    by_cases h1 : f.1 = n
    · rw [if_pos (decide_eq_true h1), if_neg (by simp; omega), if_pos (decide_eq_true (by omega)), List.length_cons, List.length_cons]
      omega
    · rw [if_neg (by simpa using h1)]
      by_cases h2 : n + 1 ≤ f.1
      · rw [if_pos (decide_eq_true h2), if_pos (decide_eq_true (by omega)), List.length_cons, List.length_cons]
        omega
      · rw [if_neg (by simpa using h2), if_neg (by simp; omega)]
        exact ih
theorem putT_len (p : List Deed) (fs : List TF) : ∀ n : Nat, (putT p fs n).length + (fs.filter fun f => decide (n ≤ f.1)).length ≤ fs.length + min n p.length
  | 0 => by
    have := List.length_filter_le (fun f : TF => decide (0 ≤ f.1)) fs
    show 0 + _ ≤ _
    omega
  | n + 1 => by
    have h1 := putT_len p fs n
    have h2 := at_split fs n
    rw [putT_succ, List.length_append, List.length_append]
    have h3 : p[n]?.toList.length + min n p.length ≤ min (n + 1) p.length := by
      cases e : p[n]? with
      | none =>
        have : p.length ≤ n := by simpa using e
        simp
        omega
      | some d =>
        have : n < p.length := (List.getElem?_eq_some_iff.mp e).1
        simp
        omega
    omega
theorem with_len (b : Bd) (fs : List TF) : (withB b fs).prog.length ≤ b.prog.length + fs.length := by
  have := putT_len b.prog fs (b.prog.length + 1)
  show (putT _ _ _).length ≤ _
  omega
theorem putT_mem {p : List Deed} {fs : List TF} {n : Nat} {d : Deed} (h : d ∈ putT p fs n) : (∃ f ∈ fs, f.2 = d) ∨ d ∈ p := by
  obtain ⟨i, _, h⟩ := List.mem_flatMap.mp h
  rcases List.mem_append.mp h with h | h
  · obtain ⟨f, hf, rfl⟩ := List.mem_map.mp h
    exact .inl ⟨f, (List.mem_filter.mp hf).1, rfl⟩
  · right
    cases e : p[i]? with
    | none =>
      rw [e] at h
      cases h
    | some x =>
      rw [e] at h
      simp at h
      rw [h]
      exact List.mem_of_getElem? e
theorem putT_starts {p : List Deed} {fs : List TF} (hf : ∀ f ∈ fs, f.2.isStart = false) : ∀ n : Nat, (putT p fs n).filter Deed.isStart = (p.take n).filter Deed.isStart
  | 0 => by simp [putT]
  | n + 1 => by
    rw [putT_succ, List.filter_append, List.filter_append, putT_starts hf n, List.take_add_one, List.filter_append]
    have : (atT fs n).filter Deed.isStart = [] := by
      rw [List.filter_eq_nil_iff]
      intro d hd
      obtain ⟨f, h1, rfl⟩ := List.mem_map.mp hd
      rw [hf f (List.mem_filter.mp h1).1]
      simp
    rw [this, List.nil_append]
/-- a fence, as to its deed -/
def fenceD (n : Nat) (d : Deed) : Prop := d = .wait ∨ (∃ l, l < n ∧ d = .clean l) ∨ ∃ l, l < n ∧ d = .drop l
theorem with_good {b : Bd} {fs : List TF} (g : Good b) (hf : ∀ f ∈ fs, fenceD (b.mem.length / 4) f.2) (hl : b.prog.length + fs.length ≤ 60) : Good (withB b fs) := by
  have ns : ∀ f ∈ fs, f.2.isStart = false := fun f h => by
    rcases hf f h with e | ⟨l, _, e⟩ | ⟨l, _, e⟩ <;> rw [e] <;> rfl
  refine ⟨g.four, g.lines, g.digits, g.ords, g.ordsOk, Nat.le_trans (with_len b fs) hl, fun d hd => ?_, ?_⟩
  · rcases putT_mem hd with ⟨f, h1, rfl⟩ | h
    · show f.2.Ok b.mem.length b.ords.length
      rcases hf f h1 with e | ⟨l, h, e⟩ | ⟨l, h, e⟩ <;> rw [e]
      · trivial
      · exact h
      · exact h
    · exact g.deeds d h
  · show ((putT _ _ _).filter _).length ≤ 3
    rw [putT_starts ns, List.take_of_length_le (by omega)]
    exact g.starts
theorem with_few {b : Bd} {fs : List TF} (g : Good b) (hf : ∀ f ∈ fs, fenceD (b.mem.length / 4) f.2) (hl : b.prog.length + fs.length ≤ 17) : Few (withB b fs) 16000000 := by
  have gW := with_good g hf (by omega)
  have h1 := with_len b fs
  refine few_tree gW ?_
  have h2 := moves_all gW
  have h3 : 2 ^ (withB b fs).prog.length ≤ 2 ^ 17 := Nat.pow_le_pow_right (by decide) (by omega)
  have := Nat.mul_le_mul h3 (show (withB b fs).prog.length + ((withB b fs).prog.flatMap (startMoves (withB b fs).ords)).length + 1 ≤ 114 by omega)
  exact Nat.le_trans this (by decide)
theorem all_fence {n m : Nat} {f : TF} (h : f ∈ allTo n m) : fenceD n f.2 := kindsTo_ok (allTo_mem.mp h).2
/-! ### what fewest finds -/
/-- no row of less fences, nor one ahead, does -/
def NoRow (b : Bd) (many : Nat) : Prop := ∀ row ∈ rowsOf (allTo (b.mem.length / 4) (b.prog.length + 1)) many, Bad (withB b row) (MS.init (withB b row))
/-- [(place, deed) for deed in deeds] -/
theorem st_placeF {K : PySem.W.Frag} {σ : L2.St} {H1 : Hp} {Q : VK} {l p i n j : Nat} {own : List Nat} {xs : List V} (h : H1 l = some (.lst xs)) (hi : ImL H1 ((kindsTo n).map fun d => pyDeed d.raw) xs) (hn : n ≤ 100)
    (hv : ∀ v, ((wipe σ own).set i (some v))[i]? = some (some v)) (hp : ∀ v, ((wipe σ own).set i (some v))[p]? = some (some (.int (j : Int)))) (hw : ∀ v, wipe ((wipe σ own).set i (some v)) own = wipe σ own)
    (q : ∀ D H2 ys, H1 D = none → Ex H1 H2 → H2 D = some (.lst ys) → ImL H2 (pyTFs (placeF n j)) ys → Q (.ref D) H2) :
    LcL K (gName i) tYes (tTup (tCons (tVar p) (tCons (tVar i) tNil))) own σ (.ref l) H1 Q := by
  refine st_lcList (SqL.of h) fun D H2 nD e2 hD => ?_
  refine ⟨fun k H' => ∃ ys, Ex H1 H' ∧ H' D = some (.lst ys) ∧ ImL H' (pyTFs ((placeF n j).take k)) ys, ⟨[], e2, hD, iml_nil⟩, fun k H' hh => ?_, fun k v H' hv1 hh => ?_, fun H' hh => ?_⟩
  · obtain ⟨_, e', _⟩ := hh
    exact SqL.of (e' _ _ h)
  · obtain ⟨ys, e', hacc, hys⟩ := hh
    obtain ⟨dd, g1, g2⟩ := hi.get' hv1
    obtain ⟨d, g3, rfl⟩ := map_at' g1
    have hk : k < 2 * n + 1 := by
      have := (List.getElem?_eq_some_iff.mp g3).1
      rw [kindsTo_len] at this
      exact this
    refine st_name ⟨hw v, st_yes (st_T ?_)⟩
    refine st_tup (st_cons (st_var (hp v) (st_cons (st_var (hv v) (st_nil ?_)))))
    refine st_newT (by simp) fun t H3 n3 e3 h3 => ?_
    have hl : ys.length ≤ k := by
      rw [hys.length, pyTFs_len, List.length_take]
      omega
    refine st_lcPut (e3 _ _ hacc) (by omega) fun H5 f5 k5 h5 => ?_
    refine ⟨_, Fr.ex (e'.trans e3) (fun a ha => by rw [List.mem_singleton.mp ha]; exact nD) f5, h5, ?_⟩
    have g4 : (placeF n j)[k]? = some (j, d) := by
      unfold placeF
      rw [List.getElem?_map, g3]
      rfl
    rw [List.take_add_one, g4, Option.toList_some, pyTFs_append]
    exact ((hys.ex e3).kp k5).append (iml_cons (im_tup (k5 _ _ h3) (iml_cons im_int (iml_cons (((g2.ex e').ex e3).kp k5) iml_nil))) iml_nil)
  · obtain ⟨ys, e', hacc, hys⟩ := hh
    rw [hi.length, List.length_map, List.take_of_length_le (by rw [placeF, List.length_map]; exact Nat.le_refl _)] at hys
    exact q D H' ys nD e' hacc hys
end BC
/-! BCExc: defs that raise, defs that are handed a caught exception, lists of truths. -/
namespace BC
open PySem PySem.Spec PyProof.Rows L2
/-! ### defs that raise -/
abbrev BodyX (P : Program) (w : World) (K : PySem.W.Frag) (mg : Str → Option Value) (base : Heap) (qual : Str) (st : Stmt) (f : Addr) (N : List Str) (k : Nat) (sp : Sp) : Prop :=
  ∀ (cdv : Value) (A : Around) (outer : List Env) (s : Shared) (H : Hp) (vs : List V) (Q : VK) (E : XK), Room k (A.deeper (envOfC qual (defScope st) s.heap.objs.size f cdv)) → sp vs H Q E →
      ∃ t, PSs (cxOf (L2.CX P w) P w K mg base N qual (defScope st) f cdv A outer s H E) (defBody st) t ∧ t { nx := fun _ H' => Q .non H', rt := Q } (start N vs) H
theorem cal_ofX {P : Program} {w : World} {K : PySem.W.Frag} {mg : Str → Option Value} {base : Heap} {x : Str} {st : Stmt} {f : Addr} {fd : FuncData} {N ps : List Str} {k : Nat} {sp : Sp} (F : Fun K x x st f fd) (hm : mg x = some (.ref f)) (b : BindsOf x x st ps) (S : FnScope N ps (defScope st))
    (len : ∀ vs H Q E, sp vs H Q E → vs.length = ps.length) (body : BodyX P w K mg base x st f N k sp) : Cal (L2.CX P w) P w K mg base (k + 1) x sp :=
  ⟨f, fd, ps, F.okX S len body, hm, F.kp, F.binds b⟩
section
variable {X : Cx} {k j : Nat} {x : Str} {sp : Sp} {p pos : Pos} {e : Expr} {es : List Expr} {t : TA}
/-- f(..), f may raise, within a try's body -/
theorem pe_cS {W : WX} (c : Cal (L2.CX X.prog X.w) X.prog X.w X.K X.mg X.base k x sp) (hr : Room j X.A) (hk : k ≤ j) (tk : Takes X W) (hg : Gl X x) (ha : PA X (e :: es) t)
    (h1 : (x == ("__debug__" : Str)) = false := by decide) (h2 : starEach (e :: es) X.env = (false, eval e X.env) :: starEach es X.env := by rfl) (h3 : (backTo pos (starEach es X.env)).any (·.1) = false := by rfl) :
    PE X (.Call (.Name x p) (e :: es) [] pos) (tCallS sp (WE W) t) := by
  obtain ⟨f, fd, ps, F, hm, kp, b⟩ := c.ex
  exact pe_callS F (hr.mono hk) hg hm kp b (fun σ => passAt tk σ) ha h1 h2 h3
/-- f(..), f may raise, out of a def that may raise -/
theorem pe_cX {E : XK} (c : Cal (L2.CX X.prog X.w) X.prog X.w X.K X.mg X.base k x sp) (hr : Room j X.A) (hk : k ≤ j) (tk : Takes X (fun cls d _ H => E cls d H)) (hg : Gl X x) (ha : PA X (e :: es) t)
    (h1 : (x == ("__debug__" : Str)) = false := by decide) (h2 : starEach (e :: es) X.env = (false, eval e X.env) :: starEach es X.env := by rfl) (h3 : (backTo pos (starEach es X.env)).any (·.1) = false := by rfl) :
    PE X (.Call (.Name x p) (e :: es) [] pos) (tCall sp [] E t) := by
  obtain ⟨f, fd, ps, F, hm, kp, b⟩ := c.ex
  exact pe_call F (hr.mono hk) hg hm kp b .nil (passes_call tk fun _ _ _ _ h => h) ha h1 h2 h3
theorem st_callS {Q : VK} {E : L2.St → XK} {σ : L2.St} {H : Hp} (h : t σ H fun vs H1 => sp vs H1 Q (E σ)) : tCallS sp E t σ H Q := h
end
/-! ### a def that is handed the exception which is handled -/
abbrev SpE := Addr → Value → Option Addr → Sp
structure CalE (P : Program) (w : World) (K : PySem.W.Frag) (mg : Str → Option Value) (base : Heap) (k : Nat) (x : Str) (sp : SpE) : Prop where
  ex : ∃ (f : Addr) (fd : FuncData) (ps : List Str), mg x = some (.ref f) ∧ PySem.W.keepIn K (.ref f) = true ∧ Binds K fd ps [] ∧ (∀ a c d vs H Q E, sp a c d vs H Q E → vs.length = ps.length) ∧
    ∀ (a : Addr) (oe : Obj) (cls : Value) (d : Option Addr) (A : Around) (outer : List Env) (s : Shared) (H : Hp) (args : Args) (us : List Value) (vs : List V) (Q : VK) (E : XK), Zc cls d oe → (∃ fs, oe.data = .fields fs) → L2H.RoomH k A → L2H.PinOk outer H s (a, oe) → Env0 P w K mg base A outer s H →
      BindsTo s fd args (ps.zip us) → Vals vs us → sp a cls d vs H Q E → codeAny (model P w) A (.call (.ref f) args) (CR CX0 outer P w H s Q E) s
theorem cal_ofE {P : Program} {w : World} {K : PySem.W.Frag} {mg : Str → Option Value} {base : Heap} {x : Str} {st : Stmt} {f : Addr} {fd : FuncData} {N ps : List Str} {k : Nat} {sp : SpE} (F : Fun K x x st f fd) (hm : mg x = some (.ref f)) (b : BindsOf x x st ps) (S : FnScope N ps (defScope st))
    (len : ∀ a c d vs H Q E, sp a c d vs H Q E → vs.length = ps.length)
    (body : ∀ (a : Addr) (oe : Obj) (cls : Value) (d : Option Addr) (cdv : Value) (A : Around) (outer : List Env) (s : Shared) (H : Hp) (vs : List V) (Q : VK) (E : XK), Zc cls d oe → (∃ fs, oe.data = .fields fs) → L2H.RoomH k (A.deeper (envOfC x (defScope st) s.heap.objs.size f cdv)) → sp a cls d vs H Q E →
      ∃ t, PSs (L2H.cxH CX0 P w K mg base N x (defScope st) f cdv A outer s H E (a, oe)).nox (defBody st) t ∧ t { nx := fun _ H' => Q .non H', rt := Q } (start N vs) H) : CalE P w K mg base (k + 1) x sp := by
  have bd := F.binds b
  have kp := F.kp
  obtain ⟨oc, od, kV, doc, pm, an, cdv, ct, osl, rfl, lk, hcd⟩ := F.ex
  refine ⟨f, _, ps, hm, kp, bd, len, fun a oe cls d A outer s H args us vs Q E hz hf hr hpin e0 hb r hsp => ?_⟩
  have hin : K.In s.heap := e0.mod.kin.keeps fun c o e => (e0.bs c o e).1
  have hlim : s.heap.NoLimit := e0.mod.nolimit.keeps fun c o e => (e0.bs c o e).1
  have hvl : vs.length = ps.length := len _ _ _ _ _ _ _ hsp
  refine codeAny_call_function hr.depth (hin _ _ lk) rfl S.co S.gen rfl (PySem.W.codeRec_of hin hcd) (hb _ _ _ _ ?_)
  refine wpAny_newFunctionEnv_cells S.kind (fun ⟨n, v⟩ hy => ?_) fun env he s1 nf => ?_
  · have := S.par n (List.of_mem_zip hy).1
    exact this.imp id fun q => ⟨q, PySem.W.cellsFrom_some _ _ _ (.inl q)⟩
  subst he
  refine ⟨hlim.keeps nf.toInCall.keep, codeAny_func ?_⟩
  obtain ⟨t, ht, hq⟩ := body a oe cls d cdv A outer s H vs Q E hz hf (hr.deeper _) hsp
  have I := L2H.inv_startH (CX := CX0) (qual := x) (f := f) (cd := cdv) (E := E) S hpin e0 hvl r nf
  refine wpAny_mono (ht.nox.run [] s1 _ H _ I hq) (fun fl s' hs => ?_) fun _ _ z => z
  cases fl with
  | ret u =>
    obtain ⟨v, _, H', J, rv, q⟩ := hs
    exact ⟨v, H', J.os, J.bare, J.base, J.hok, rv, q⟩
  | next =>
    obtain ⟨_, H', J, q⟩ := hs
    exact ⟨.non, H', J.os, J.bare, J.base, J.hok, rfl, q⟩
  | brk => exact (hs.choose_spec.choose_spec.2).elim
  | cont => exact (hs.choose_spec.choose_spec.2).elim
section
variable {X : Cx} {k j : Nat} {x : Str} {sp : SpE} {q pos : Pos} {e : Expr} {es : List Expr} {t : TA} {a : Addr} {oe : Obj} {cls : Value} {d : Option Addr} {pn : List (Addr × Obj)}
/-- f(e, ..) in the suite, f a def that is handed the exception -/
theorem pe_cE (c : CalE X.prog X.w X.K X.mg X.base k x sp) (hr : Room j X.A) (hk : k ≤ j) (hz : Zc cls d oe) (hf : ∃ fs, oe.data = .fields fs) (hg : Gl (X.suite a ((a, oe) :: pn)) x) (ha : PA (X.suite a ((a, oe) :: pn)) (e :: es) t)
    (hdb : (x == ("__debug__" : Str)) = false := by decide) (he : starEach (e :: es) X.env = (false, eval e X.env) :: starEach es X.env := by rfl) (hpl : (backTo pos (starEach es X.env)).any (·.1) = false := by rfl) :
    PE (X.suite a ((a, oe) :: pn)) (.Call (.Name x q) (e :: es) [] pos) (tCall (sp a cls d) [] E0 t) := by
  obtain ⟨f, fd, ps, hm, kp, bd, len, run⟩ := c.ex
  refine ⟨fun pins s σ H Q I h => ?_⟩
  refine wpAny_Call_Name_kw (ld_glob I hg hm ?_ hdb)
  refine PySem.W.callWith_K (h₀ := X.base) I.ok.mod.kin kp (thn (ha.run pos pins s σ H _ I h) fun us s1 ⟨vs, H1, I1, r, qq⟩ => ⟨I1.kIn, ?_⟩) he hpl
  have q2 : sp a cls d (vs ++ []) H1 Q E0 := qq
  rw [List.append_nil] at q2
  have hl : us.length = ps.length := by rw [← r.length]; exact len _ _ _ _ _ _ _ q2
  have bb := bd s1 us I1.kIn (by rw [List.append_nil]; exact hl)
  rw [List.append_nil] at bb
  have P1 := I1.pin (a, oe) (List.mem_append_left _ List.mem_cons_self)
  have hpin : L2H.PinOk X.stack H1 s1 (a, oe) := ⟨P1.1, P1.2.1, fun hm => (List.mem_cons.mp (I1.stkSub a hm)).elim P1.2.2.1 P1.2.2.2.1, P1.2.2.2.2⟩
  refine wpAny_call (codeAny_mono (run a oe cls d _ X.stack s1 H1 ⟨us, []⟩ us vs Q E0 hz hf ⟨(hr.mono hk).dp, (hr.mono hk).un⟩ hpin I1.env0 bb r q2) fun rr s' hq => ?_)
  cases rr with
  | error _ => exact False.elim hq
  | ok fl =>
    cases fl with
    | ret u => exact I1.after hq
    | next => exact False.elim hq
    | brk => exact False.elim hq
    | cont => exact False.elim hq
/-- isinstance(e, c), e a pinned exception without a dict of its own -/
theorem call_isP {D : Addr} (C : ExcC X.K D) (hz : Zc (.ref D) none oe) (hf : ∃ vs, oe.data = .fields vs) (hp : (a, oe) ∈ X.pn) : CallR X (.builtin "isinstance") (rIsE X.K D a) := by
  intro pins s σ H xs us Q I r h
  obtain ⟨c, cv, b, rfl, hcv, e, q⟩ := h
  obtain ⟨u1, u2, rfl, r1, r2⟩ := r.two
  cases r1
  obtain rfl := hcv _ r2
  have hget := (I.pin (a, oe) (List.mem_append_left _ hp)).1
  obtain ⟨vs, hv⟩ := hf
  have J : PySem.W.InstAt s.heap a oe D none := ⟨hget, hz.1, by unfold PySem.W.notCls; rw [hv] <;> rfl, by rw [hz.2]; trivial⟩
  exact PySem.W.kia_one (PySem.W.handS_kitx_exc C.hg C.hk C.hs C.hd C.ha C.hn C.ht C.hm) I.kIn J e (fun z => nomatch z) fun tk => ⟨.bl b, H, I.kept (t' := tk) fun _ _ z => z, rfl, q⟩
theorem st_isE {K : PySem.W.Frag} {D B : Addr} {b : Bool} {H : Hp} {Q : VK} (e : PySem.W.kitOne K (.ref D) (.ref B) = some b) (q : Q (.bl b) H) : rIsE K D a [.ref a, .ref B] H Q := ⟨.ref B, .ref B, b, rfl, fun _ h => h, e, q⟩
theorem st_isEV {K : PySem.W.Frag} {D : Addr} {b : Bool} {T : String} {H : Hp} {Q : VK} (e : PySem.W.kitOne K (.ref D) (.type T) = some b) (q : Q (.bl b) H) : rIsE K D a [.ref a, .ty T] H Q := ⟨.ty T, .type T, b, rfl, fun _ h => h, e, q⟩
end
/-! ### xs.count(True) -/
def isTrue (v : Value) : Bool := match v with
  | .bool b => b
  | _ => false
theorem bools_of : ∀ {bs : List Bool} {us : List Value}, Vals (bs.map V.bl) us → us = bs.map Value.bool
  | [], _, .nil => rfl
  | b :: bs, _, .cons r t => by rw [bools_of t, (show _ = Value.bool b from r)]; rfl
def rCntB (K : PySem.W.Frag) : V → List V → Hp → VK → Prop := fun x xs H Q => ∃ (p : Addr) (bs : List Bool), x = .ref p ∧ xs = [.bl true] ∧ SqL K H p (bs.map V.bl) ∧ Q (.int (bs.count true : Nat)) H
theorem mt_cntB {X : Cx} : MtR X "list.count" (rCntB X.K) := by
  intro pins s σ H x xs v us Q I rx rxs h
  obtain ⟨p, bs, rfl, rfl, hs, q⟩ := h
  cases rx
  obtain ⟨u, rfl, ru⟩ := rxs.one
  obtain rfl : u = Value.bool true := ru
  obtain ⟨its, rv, ⟨⟨cls, dd, data, sl⟩, n, ho, hc, hdn, hd⟩, hlen⟩ := I.list hs
  simp only at hc hd
  subst hc hd
  obtain rfl := bools_of rv
  refine call_meets PySem.F.slot_list_count ⟨_, ho, rfl⟩ PySem.F.entry_list_count (PySem.F.args_list_count_2 _ _)
    (SeqAt.list_countAt p (bs.map Value.bool).toArray n dd sl (.bool true) isTrue) ⟨ho, fun y hy => ?_, ?_⟩
  · obtain ⟨b, rfl⟩ : ∃ b, y = Value.bool b := by
      simp at hy
      rcases hy with ⟨_, h⟩ | ⟨_, h⟩
      · exact ⟨_, h.symm⟩
      · exact ⟨_, h.symm⟩
    have := eqAt_V (A := X.A.in1) (s := s) (y := .bl b) (x := .bl true) (u := .bool b) (v := .bool true) rfl rfl rfl rfl
    cases b <;> exact this
  · refine ⟨.int (bs.count true : Nat), H, I.tok _, ⟨s.toks, ?_⟩, q⟩
    have : (bs.map Value.bool).toArray.toList.countP isTrue = bs.count true := by
      show (bs.map Value.bool).countP isTrue = _
      rw [List.countP_map, List.count_eq_countP]
      congr 1
      funext b
      cases b <;> rfl
    rw [this]
end BC
namespace BC
open PySem PySem.Spec PyProof.Rows L2
theorem kit_self {K : PySem.W.Frag} {t : Value} : PySem.W.kitOne K t t = some true := by
  unfold PySem.W.kitOne
  rw [if_pos (by simp)]
theorem kit_ref {K : PySem.W.Frag} {D C : Addr} {b : Bool} (n : (Value.ref D == Value.ref C) = false) (hc : PySem.W.isClsIn K C = true) (ht : PySem.W.typeIn K (.ref C) = some (.type "type")) (hs : PySem.W.subIn K (.ref D) (.ref C) = some b) : PySem.W.kitOne K (.ref D) (.ref C) = some b := by
  have e : ((PySem.W.clsIn K C).isSome && PySem.W.typeIn K (.ref C) == some (.type "type")) = true := by
    have h2 : (PySem.W.clsIn K C).isSome = true := hc
    rw [h2, ht] <;> rfl
  unfold PySem.W.kitOne
  rw [n, if_neg (by simp)]
  show (if ((PySem.W.clsIn K C).isSome && PySem.W.typeIn K (.ref C) == some (.type "type")) = true then PySem.W.subIn K (.ref D) (.ref C) else none) = some b
  rw [if_pos e]
  exact hs
theorem kit_VE {K : PySem.W.Frag} {D : Addr} {b : Bool} (hs : PySem.W.subIn K (.ref D) (.type "ValueError") = some b) : PySem.W.kitOne K (.ref D) (.type "ValueError") = some b := by
  unfold PySem.W.kitOne
  rw [if_neg (by simp)]
  show (if PySem.W.kitMeta "ValueError" = true then PySem.W.subIn K (.ref D) (.type "ValueError") else none) = some b
  rw [if_pos (by decide +kernel)]
  exact hs
end BC
/-! BCTail: steps and data that laws about refusals take. -/
namespace BC
open PySem PySem.Spec PyProof.Rows L2
section
variable {K : PySem.W.Frag} {σ : L2.St} {H H0 H1 : Hp} {Q : VK} {x : V} {ds : List PyData}
/-- t[:k] of what never changes -/
theorem st_slTo {k : Nat} (h : Im H0 (.tuple ds) x) (k0 : Kp H0 H) (q : ∀ v H2, Ex H H2 → Im H2 (.tuple (ds.take k)) v → Q v H2) : rSlA K x none (some (k : Int)) H Q := by
  obtain ⟨a, xs, rfl, ha, ix⟩ := (h.kp k0).tup
  have hl := ix.length
  have tk : ∀ {H : Hp} {ds : List PyData} {xs : List V} (n : Nat), ImL H ds xs → ImL H (ds.take n) (xs.take n) := by
    intro H ds
    induction ds with
    | nil =>
      intro xs n h
      cases h.nil_inv
      simpa using iml_nil
    | cons d ds ih =>
      intro xs n h
      obtain ⟨v, vs, rfl, h1, h2⟩ := h.cons_inv
      cases n with
      | zero => simpa using iml_nil
      | succ n => exact iml_cons h1 (ih n h2)
  refine ⟨a, xs, rfl, SqT.of ha, fun z => ?_, fun _ p hp => ?_⟩
  · have z2 := z.2
    rw [HT.sIx_nat] at z2
    rw [List.take_of_length_le (by omega)] at q
    exact q _ H (Ex.refl _) (im_tup ha ix)
  · refine q _ _ (Ex.new hp) (im_tup upd_same ?_)
    have e : cutV xs none (some (k : Int)) = xs.take k := by
      unfold cutV
      rw [HT.sIx_nat]
      show (xs.drop 0).take (min k xs.length - 0) = _
      rw [List.drop_zero, Nat.sub_zero]
      by_cases hk : k ≤ xs.length
      · rw [Nat.min_eq_left hk]
      · rw [Nat.min_eq_right (by omega), List.take_of_length_le (Nat.le_refl _), List.take_of_length_le (by omega)]
    rw [e]
    exact (tk k ix).ex (Ex.new hp)
theorem iml_rep {d : PyData} {v : V} (h : Im H d v) : ∀ n : Nat, ImL H (List.replicate n d) (List.replicate n v)
  | 0 => iml_nil
  | n + 1 => iml_cons h (iml_rep h n)
theorem flat_one {α : Type} (v : α) : ∀ n : Nat, (List.replicate n [v]).flatten = List.replicate n v
  | 0 => rfl
  | n + 1 => by
    rw [List.replicate_succ, List.flatten_cons, flat_one v n]
    rfl
/-- (d,) * k -/
theorem st_repOne {a : Addr} {v : V} {d : PyData} {k : Nat} (h : H a = some (.tup [v])) (i : Im H d v) (h2 : 2 ≤ k) (h3 : k ≤ 1000) (q : ∀ p H2, Ex H H2 → Im H2 (.tuple (List.replicate k d)) p → Q p H2) : rRepT K (.ref a) (.int (k : Int)) H Q := by
  refine ⟨a, (k : Int), [v], rfl, rfl, SqT.of h, by simp, by omega, by omega, by simp, fun p np => q _ _ (Ex.new np) (im_tup upd_same ?_)⟩
  rw [show ((k : Int)).toNat = k by omega, flat_one]
  exact (iml_rep i k).ex (Ex.new np)
theorem st_neStr {s : Str} (hs : PyData.strOk s = true) (q : Q (.bl false) H) : rNeD K (.str s) (.str s) H Q := by
  refine st_neD (.str _) (.str _) (sh_str (n := 0) hs).shaped (sh_str (n := 0) hs).shaped ?_
  rw [eqv_same (sh_str (n := 0) hs)]
  exact q
theorem st_neNil {a b : Addr} (ha : H a = some (.lst [])) (hb : H b = some (.lst [])) (q : Q (.bl false) H) : rNeD K (.ref a) (.ref b) H Q := by
  refine st_neD (lst_dp ha iml_nil) (lst_dp hb iml_nil) sh_lnil sh_lnil ?_
  rw [eqv_lnil]
  exact q
end
theorem putT_nil (p : List Deed) : ∀ n : Nat, putT p [] n = p.take n
  | 0 => by simp [putT]
  | n + 1 => by
    rw [putT_succ, putT_nil p n, List.take_add_one]
    rfl
theorem with_nil (b : Bd) : withB b [] = b := by
  unfold withB
  rw [putT_nil, List.take_of_length_le (by omega)]
/-- of a board that is sure as it stands no fence is wanted -/
theorem fewest_nil {b : Bd} {n : Nat} (h : ¬ Bad b (MS.init b)) : (∀ row, (∃ many, many ≤ n ∧ row ∈ rowsOf (allTo (b.mem.length / 4) (b.prog.length + 1)) many ∧ ¬ Bad (withB b row) (MS.init (withB b row)) ∧ ∀ m < many, NoRow b m) → row = []) ∧ ¬ ∀ m ≤ n, NoRow b m := by
  have h0 : ¬ NoRow b 0 := fun z => by
    have := z [] (List.mem_singleton.mpr rfl)
    rw [with_nil] at this
    exact h this
  refine ⟨fun row ⟨many, _, h2, _, h4⟩ => ?_, fun z => h0 (z 0 (Nat.zero_le _))⟩
  cases many with
  | zero => exact List.mem_singleton.mp h2
  | succ k => exact absurd (h4 0 (by omega)) h0
/-- a board with another program -/
theorem Good.prog {b : Bd} (g : Good b) {p : List Deed} (hl : p.length ≤ 60) (hd : ∀ d ∈ p, d.Ok b.mem.length b.ords.length) (hs : (p.filter Deed.isStart).length ≤ 3) : Good ⟨b.mem, b.ords, p⟩ :=
  ⟨g.four, g.lines, g.digits, g.ords, g.ordsOk, hl, hd, hs⟩
end BC
/-! BCSpare: fences that can be left out. -/
namespace BC
open PySem PySem.Spec PyProof.Rows L2
def fenceT (b : Bd) (f : TF) : Prop := f.1 ≤ b.prog.length ∧ fenceD (b.mem.length / 4) f.2
theorem fenceT_raw {b : Bd} {f : TF} (h : fenceT b f) : fenceOk b.raw f.raw = true := by
  obtain ⟨h1, h2⟩ := h
  have hn : b.raw.prog.length = b.prog.length := List.length_map _
  unfold fenceOk
  rw [hn, Bool.and_eq_true, Bool.and_eq_true, decide_eq_true_eq, decide_eq_true_eq]
  refine ⟨⟨by show (0 : Int) ≤ (f.1 : Int); omega, by show (f.1 : Int) ≤ _; omega⟩, ?_, ?_⟩
  · show f.2.raw.1 = _ ∨ f.2.raw.1 = _ ∨ f.2.raw.1 = _
    rcases h2 with e | ⟨l, hl, e⟩ | ⟨l, hl, e⟩ <;> rw [e]
    · exact .inl rfl
    · exact .inr (.inl rfl)
    · exact .inr (.inr rfl)
  · show deedOk b.mem.length (b.ords.map Ord.raw).length f.2.raw = true
    rw [List.length_map]
    refine deedOk_raw ?_
    rcases h2 with e | ⟨l, hl, e⟩ | ⟨l, hl, e⟩ <;> rw [e]
    · trivial
    · exact hl
    · exact hl
def minus (fs : List TF) (k : Nat) : List TF := fs.take k ++ fs.drop (k + 1)
theorem minus_mem {fs : List TF} {k : Nat} {f : TF} (h : f ∈ minus fs k) : f ∈ fs := by
  rcases List.mem_append.mp h with h | h
  · exact List.mem_of_mem_take h
  · exact List.mem_of_mem_drop h
theorem minus_len (fs : List TF) (k : Nat) : (minus fs k).length ≤ fs.length := by
  unfold minus
  rw [List.length_append, List.length_take, List.length_drop]
  omega
open Classical in
noncomputable def spareTo (b : Bd) (fs : List TF) (n : Nat) : List Nat := (List.range n).filter fun k => decide (¬ Bad (withB b (minus fs k)) (MS.init (withB b (minus fs k))))
open Classical in
theorem spareTo_succ (b : Bd) (fs : List TF) (n : Nat) : spareTo b fs (n + 1) = spareTo b fs n ++ if Bad (withB b (minus fs n)) (MS.init (withB b (minus fs n))) then [] else [n] := by
  unfold spareTo
  rw [List.range_succ, List.filter_append, List.filter_cons]
  by_cases h : Bad (withB b (minus fs n)) (MS.init (withB b (minus fs n)))
  · rw [if_neg (by simpa using h), if_pos h]
    rfl
  · rw [if_pos (by simpa using h), if_neg h]
    rfl
theorem spareTo_len (b : Bd) (fs : List TF) (n : Nat) : (spareTo b fs n).length ≤ n := by
  unfold spareTo
  exact Nat.le_trans (List.length_filter_le _ _) (by simp)
def pyNats (ks : List Nat) : List PyData := ks.map fun k : Nat => .int (k : Int)
theorem pyTFs_minus (fs : List TF) (k : Nat) : pyTFs (minus fs k) = (pyTFs fs).take k ++ (pyTFs fs).drop (k + 1) := by
  unfold minus pyTFs
  rw [List.map_append, List.map_append, List.map_take, List.map_take, List.map_drop, List.map_drop]
section
variable {H : Hp} {ds : List PyData} {xs : List V}
theorem ImL.take' (h : ImL H ds xs) : ∀ n : Nat, ImL H (ds.take n) (xs.take n) := by
  induction ds generalizing xs with
  | nil =>
    intro n
    cases h.nil_inv
    simpa using iml_nil
  | cons d ds ih =>
    obtain ⟨v, vs, rfl, h1, h2⟩ := h.cons_inv
    intro n
    cases n with
    | zero => simpa using iml_nil
    | succ n => exact iml_cons h1 (ih h2 n)
end
section
variable {K : PySem.W.Frag} {H : Hp} {Q : VK} {l a b : Addr} {xs ys : List V} {fs : List TF} {y : V}
theorem st_insert {i : Nat} (h : H l = some (.lst xs)) (hl : xs.length < 100000) (hi : i ≤ xs.length) (q : ∀ H2, Fr [l] H H2 → Kp H H2 → H2 l = some (.lst (xs.take i ++ [y] ++ xs.drop i)) → Q .non H2) :
    ∃ (l' : Addr) (zs : List V) (j : Int) (w : V), V.ref l = .ref l' ∧ [V.int (i : Int), y] = [.int j, w] ∧ H l' = some (.lst zs) ∧ zs.length < sizeLine ∧ 0 ≤ j ∧ j < 2 ^ 63 ∧ Q .non (upd H l' (.lst (zs.take j.toNat ++ [w] ++ zs.drop j.toNat))) :=
  ⟨l, xs, (i : Int), y, rfl, rfl, h, sz_lt hl, by omega, by omega, q _ (Fr.mut (List.mem_singleton.mpr rfl) (Fr.refl _ _)) (Kp.mut (nt_of h trivial) (Kp.refl _)) upd_same⟩
theorem st_popAt {i : Nat} (h : H l = some (.lst xs)) (e : xs[i]? = some y) (hl : xs.length ≤ 100000) (q : ∀ H2, Fr [l] H H2 → Kp H H2 → H2 l = some (.lst (xs.eraseIdx i)) → Q y H2) : rPopAt (.ref l) [.int (i : Int)] H Q := by
  have hi : i < xs.length := (List.getElem?_eq_some_iff.mp e).1
  refine ⟨l, xs, (i : Int), i, y, rfl, rfl, h, by omega, by omega, ?_, e, q _ (Fr.mut (List.mem_singleton.mpr rfl) (Fr.refl _ _)) (Kp.mut (nt_of h trivial) (Kp.refl _)) upd_same⟩
  rw [seqIndex_of (by omega) (by omega)]
  rfl
theorem st_neTfs (ha : H a = some (.lst xs)) (hi : ImL H (pyTFs fs) xs) (hb : H b = some (.lst [])) (q : Q (.bl (!fs.isEmpty)) H) : rNeD K (.ref a) (.ref b) H Q := by
  refine st_neD (lst_dp ha hi) (lst_dp hb iml_nil) (sh_tfs (n := 0)).shaped sh_lnil ?_
  rw [eqv_lnil, show (pyTFs fs).isEmpty = fs.isEmpty by cases fs <;> rfl]
  exact q
theorem st_neTfsSame (ha : H a = some (.lst xs)) (hi : ImL H (pyTFs fs) xs) (hb : H b = some (.lst ys)) (hj : ImL H (pyTFs fs) ys) (q : Q (.bl false) H) : rNeD K (.ref a) (.ref b) H Q := by
  refine st_neD (lst_dp ha hi) (lst_dp hb hj) (sh_tfs (n := 0)).shaped (sh_tfs (n := 0)).shaped ?_
  rw [eqv_same (sh_tfs (n := 0))]
  exact q
end
end BC
/-! BCInit: own exceptions with an own __init__ over an own class, isinstance of them. -/
namespace BC
open PySem PySem.Spec PyProof.Rows L2
/-! ### isinstance of an exception that has a dict -/
section
open PySem.W PySem.Calls
variable {prog : Program} {w : World} {A : Around} {E : Value → Shared → Prop} {sh : Shared} {FK : Frag} {e0 Dc : Addr} {oe : Obj}
theorem obj_data {Cc : Addr} {nm : Str} {at1 g1 : Value} {dic : Option Obj} (h1 : (clsIn FK Cc).isSome = true) (h2 : findIn FK (.ref Cc) nm = some (some at1)) (h3 : specialIn FK at1 "__get__" = some (some g1)) (h4 : takesIn FK at1 = some true) : findObj FK Cc dic nm = some (.bind g1 at1) := by
  obtain ⟨cc, h1⟩ := Option.isSome_iff_exists.mp h1
  unfold findObj
  rw [h1, Option.bind_some, h2, Option.bind_some]
  simp [h3, h4]
theorem exc_class {dic : Option Obj} {R : Option Value → Shared → Prop} (C : ExcC FK Dc) (KX : FK.In sh.heap) (J : InstAt sh.heap e0 oe Dc dic) (q : R (some (.ref Dc)) { sh with toks := sh.toks + 1 }) : wpAny (model prog w) A (getAttr? (.ref e0) "__class__") R E sh := by
  have found : findObj FK Dc dic "__class__" = some (.bind (.builtin "getset_descriptor.__get__") (.builtin "object.__class__")) :=
    obj_data (by obtain ⟨cc, hcc, _⟩ := any_some C.hd; rw [hcc] <;> rfl) C.ha C.hn C.ht
  obtain ⟨hh, gg, dd, tt, ss⟩ := sh
  have K0 := J.type (M := model prog w)
  have K1 := looks_findIn (M := model prog w) KX C.hg
  have K2 := looks_findIn (M := model prog w) KX C.hk
  have K3 := looks_find (M := model prog w) KX J found
  have isB : Looks (model prog w) hh (isInstance (.ref e0) (.type "BaseException")) true := K0.andThen (looks_subIn KX C.hs)
  have x0 : (false && onTheHeap (Value.builtin "BaseException.__getattribute__")) = false := rfl
  have x2 : (Value.builtin "BaseException.__getattribute__" == Value.builtin "object.__getattribute__") = false := by decide +kernel
  have x1 : (onTheHeap (Value.ref Dc) && Value.builtin "BaseException.__getattribute__" == Value.builtin "object.__getattribute__") = false := by rw [x2] <;> rfl
  unfold getAttr? getAttrBy? getAttrBy
  refine wpAny_bind (wpAny_mkText (wpAny_bind (wpAny_attempt (wpAny_holding (wpAny_bind (K0.at (wpAny_bind (K1.at ?_))))))))
  show wpAny _ _ (if (onTheHeap (Value.ref Dc) && Value.builtin "BaseException.__getattribute__" == Value.builtin "object.__getattribute__") = true then _ else _) _ _ _
  rw [x1, if_neg Bool.false_ne_true]
  unfold getAttrByItsOwn hookBefore
  refine wpAny_bind ?_
  rw [if_pos (show onTheHeap (Value.ref Dc) = true from rfl)]
  refine K2.at (wpAny_bind (wpAny_attempt (wpAny_holding ?_)))
  unfold callGetattribute
  rw [x0, if_neg Bool.false_ne_true]
  unfold boundAndCalled
  rw [PySem.F.excAttr_ValueError.ga.bind (.ref e0)]
  refine wpAny_bind (wpAny_pure ?_)
  show wpAny _ _ (call (.builtin "BaseException.__getattribute__") [.ref e0, .str "__class__" tt]) _ _ _
  refine wpAny_call (codeAny_call_builtin PySem.F.excAttr_ValueError.ga.plain PySem.F.entry_bexc_ga ?_)
  refine @check_slot (model prog w) _ _ ⟨hh, gg, dd, tt + 1, ss⟩ "BaseException.__getattribute__" "BaseException" "__getattribute__" (.ref e0) [.str "__class__" tt] [] _ (by decide +kernel) (by decide +kernel) isB (PySem.F.args_bexc_ga (.ref e0) (.str "__class__" tt)) ?_
  unfold Builtin.«object.__getattribute__»
  refine wpAny_bind (wpAny_of_eq (a := ((Value.ref e0 : Value), [Value.str "__class__" tt])) (by first | rfl | (simp only [slotArgs]; rfl)) ?_)
  refine wpAny_bind (wpAny_pure (wpAny_bind (K0.at (wpAny_bind (K3.at ?_)))))
  show wpAny _ _ (holding [Value.builtin "object.__class__"] (call (.builtin "getset_descriptor.__get__") [.builtin "object.__class__", .ref e0, .ref Dc]) >>= ret) _ _ _
  refine wpAny_bind (wpAny_holding (wpAny_call (class_get (s := ⟨hh, gg, dd, tt + 1, ss⟩) (ox := oe) (od := dic) KX J C.hm ?_)))
  refine wpAny_pure ?_
  show wpAny _ _ (handedOut (.ref Dc)) _ _ _
  rw [handedOut_of (v := .ref Dc) rfl]
  first
    | exact wpAny_pure (wpAny_pure q)
    | exact wpAny_pure q
    | exact wpAny_pure (wpAny_bind (wpAny_pure (wpAny_pure q)))
theorem kitx_dict {dic : Option Obj} (C : ExcC FK Dc) : KitX FK (.ref e0) (.ref Dc) (fun h => InstAt h e0 oe Dc dic) where
  ty := fun _ _ _ J => J.type
  it := fun _ _ KX _ => by
    obtain ⟨cc, hcc, _⟩ := any_some C.hd
    unfold clsIn at hcc
    split at hcc
    · rename_i c' d' cd' sl' hat
      intro A' Q' E' s' k q
      unfold isType loadHead
      exact wpAny_bind (wpAny_loadPart (k _ _ (KX _ _ hat)) (wpAny_pure q))
    · cases hcc
  ne := fun h tp dd its n sl KX htp => by
    obtain ⟨cc, hcc, _⟩ := any_some C.hd
    refine Bool.eq_false_iff.mpr fun q => ?_
    have same : Dc = tp := Value.ref.inj (beq_iff_eq.mp q)
    subst same
    unfold clsIn at hcc
    split at hcc
    · rename_i c' d' cd' sl' hat
      have z := (KX _ _ hat).symm.trans htp
      cases z
    · cases hcc
  ca := fun KX J q => exc_class C KX J q
end
section
variable {X : Cx} {a D dd : Addr} {oe : Obj}
/-- isinstance(e, c), e a pinned exception whose dict stands at dd -/
def rIsD (K : PySem.W.Frag) (D a dd : Addr) : List V → Hp → VK → Prop := fun xs H Q => ∃ (c : V) (cv : Value) (b : Bool) (fs : List (Str × V)), xs = [.ref a, c] ∧ (∀ u, RelV c u → u = cv) ∧ H dd = some (.xd fs) ∧ PySem.W.kitOne K (.ref D) cv = some b ∧ Q (.bl b) H
theorem call_isD (C : ExcC X.K D) (hz : Zc (.ref D) (some dd) oe) (hf : ∃ vs, oe.data = .fields vs) (hp : (a, oe) ∈ X.pn) : CallR X (.builtin "isinstance") (rIsD X.K D a dd) := by
  intro pins s σ H xs us Q I r h
  obtain ⟨c, cv, b, fs, rfl, hcv, hd, e, q⟩ := h
  obtain ⟨u1, u2, rfl, r1, r2⟩ := r.two
  cases r1
  obtain rfl := hcv _ r2
  have hget := (I.pin (a, oe) (List.mem_append_left _ hp)).1
  obtain ⟨vs, hv⟩ := hf
  have hx : ObjOk X.prog X.w H s.heap dd (.xd fs) := I.hok dd _ hd
  obtain ⟨mA, hns, _⟩ := hx
  obtain ⟨od, ho, _⟩ := lookIn_ns hns
  have J : PySem.W.InstAt s.heap a oe D (some od) := ⟨hget, hz.1, by unfold PySem.W.notCls; rw [hv] <;> rfl, by rw [hz.2]; exact ho⟩
  exact PySem.W.kia_one (kitx_dict C) I.kIn J e (fun z => nomatch z) fun tk => ⟨.bl b, H, I.kept (t' := tk) fun _ _ z => z, rfl, q⟩
theorem st_isDR {K : PySem.W.Frag} {B : Addr} {b : Bool} {fs : List (Str × V)} {H : Hp} {Q : VK} (hd : H dd = some (.xd fs)) (e : PySem.W.kitOne K (.ref D) (.ref B) = some b) (q : Q (.bl b) H) : rIsD K D a dd [.ref a, .ref B] H Q := ⟨.ref B, .ref B, b, fs, rfl, fun _ h => h, hd, e, q⟩
theorem st_isDV {K : PySem.W.Frag} {T : String} {b : Bool} {fs : List (Str × V)} {H : Hp} {Q : VK} (hd : H dd = some (.xd fs)) (e : PySem.W.kitOne K (.ref D) (.type T) = some b) (q : Q (.bl b) H) : rIsD K D a dd [.ref a, .ty T] H Q := ⟨.ty T, .type T, b, fs, rfl, fun _ h => h, hd, e, q⟩
end
/-! ### CarrierError.__init__(self, ..) -/
theorem pe_ceinit {X : Cx} {CE : Addr} {e : Expr} {es : List Expr} {ta : TA} {p1 p2 pos : Pos} {pl : Sem Bool} (hg : Gl X "CarrierError") (hm : X.mg "CarrierError" = some (.ref CE)) (rd : PySem.W.readsIn X.K CE (.type "type") = true)
    (ga : PySem.W.specialIn X.K (.ref CE) "__getattribute__" = some (some (.builtin "type.__getattribute__"))) (fv : PySem.W.findCls X.K (.ref CE) (.type "type") "__init__" = some (.val (.builtin "ValueError.__init__"))) (ha : PA X (e :: es) ta)
    (hc : eval (.Call (.Attribute (.Name "CarrierError" p1) "__init__" p2) (e :: es) [] pos) X.env = (do
      let ov ← eval (.Name "CarrierError" p1) X.env
      standAt p2.atName
      let (f, first) ← holding [ov] (getMethod ov "__init__" pl)
      callWith pos f first (backTo pos (starEach (e :: es) X.env)) (backToKw pos (keywordEach [] X.env))) := by rfl)
    (he : starEach (e :: es) X.env = (false, eval e X.env) :: starEach es X.env := by rfl) (hpl : (backTo pos (starEach es X.env)).any (·.1) = false := by rfl) :
    PE X (.Call (.Attribute (.Name "CarrierError" p1) "__init__" p2) (e :: es) [] pos) (tVeI X.K ta) := by
  refine ⟨fun pins s σ H Q I h => ?_⟩
  refine PySem.W.methodCall_KW (ld_glob I hg hm ?_ (by decide)) hc
  refine PySem.W.method_cls I.kIn ga (PySem.W.cls_value I.kIn rd fv (by decide +kernel) ?_)
  show wpAny _ _ (callWith pos (Value.builtin "ValueError.__init__") [] (backTo pos (starEach (e :: es) X.env)) []) _ _ _
  refine PyProof.Rows.callWith_method1 (thn (ha.run pos pins _ σ H _ (I.tok _) h) fun us s1 ⟨vs, H1, I1, r1, a, C, ws, ev, hl, T, ea, q⟩ => ?_) he hpl
  subst ev
  cases r1 with
  | @cons _ u0 _ ur ra rw' =>
    obtain rfl : u0 = Value.ref a := ra
    have hlen : ur.length ≤ sizeLine := by
      rw [← Paired.length rw', sizeLine_eq]
      omega
    exact oinit_ok T I1 ea hlen fun s' J => ⟨.non, H1, J, rfl, q⟩
/-! ### the making of such an exception -/
structure MakX (P : Program) (w : World) (K : PySem.W.Frag) (mg : Str → Option Value) (base : Heap) (k : Nat) (x : Str) (C : Addr) (sp : Sp) : Prop where
  ex : ∃ (f : Addr) (fd : FuncData) (ps : List Str), OexC K C ∧ PySem.W.findIn K (.ref C) "__init__" = some (some (.ref f)) ∧ PySem.W.typeIn K (.ref f) = some (.type "function") ∧ FnOk P w K mg base CX0 k f fd ps sp ∧ mg x = some (.ref C) ∧ Binds K fd ps []
theorem pmk_x {X : Cx} {k j : Nat} {x : Str} {C : Addr} {sp : Sp} {e : Expr} {es : List Expr} {t : TA} {p pos : Pos} (c : MakX X.prog X.w X.K X.mg X.base k x C sp) (hr : Room j X.A) (hk : k + 1 ≤ j) (hg : Gl X x) (ha : PA X (e :: es) t)
    (h1 : (x == ("__debug__" : Str)) = false := by decide) (h2 : starEach (e :: es) X.env = (false, eval e X.env) :: starEach es X.env := by rfl) (h3 : (backTo pos (starEach es X.env)).any (·.1) = false := by rfl) :
    PMk X (.Call (.Name x p) (e :: es) [] pos) (tMkO C sp [] t) := by
  obtain ⟨f, fd, ps, T, i, ty, F, hm, b⟩ := c.ex
  exact pmk_oex T i ty F (hr.mono hk) b .nil pass0 hg hm ha h1 h2 h3
theorem makx_of {P : Program} {w : World} {K : PySem.W.Frag} {mg : Str → Option Value} {base : Heap} {x qual : Str} {st : Stmt} {f C : Addr} {fd : FuncData} {N ps : List Str} {k : Nat} {sp : Sp} (T : OexC K C) (hi : PySem.W.findIn K (.ref C) "__init__" = some (some (.ref f))) (ht : PySem.W.typeIn K (.ref f) = some (.type "function"))
    (hm : mg x = some (.ref C)) (F : Fun K "__init__" qual st f fd) (b : BindsOf "__init__" qual st ps) (S : FnScope N ps (defScope st)) (len : ∀ vs H Q E, sp vs H Q E → vs.length = ps.length)
    (body : BodyOf P w K mg base qual st f N k sp) : MakX P w K mg base (k + 1) x C sp :=
  ⟨f, fd, ps, T, hi, ht, F.ok S len body, hm, F.binds b⟩
/-- what such an __init__ promises: its dict says mk of what it is handed -/
def spInit (C : Addr) (n : Nat) (mk : List V → List (Str × V)) : Sp := fun vs H Q _ => ∃ (a : Addr) (ys : List V), vs = .ref a :: ys ∧ ys.length = n ∧ H a = some (exo a C none) ∧
  ∀ dx H', H dx = none → dx ≠ a → H' a = some (exo a C (some dx)) → H' dx = some (exd dx (mk ys)) → (∀ b, b ≠ a → b ≠ dx → H' b = H b) → Q .non H'
def MkO (C : Addr) (sp : Sp) (vs : List V) (H1 : Hp) (Q : XK) : Prop := vs.length ≤ 1000 ∧ ∀ a, H1 a = none → sp (.ref a :: (vs ++ [])) (upd H1 a (exo a C none))
  (fun v H2 => v = .non ∧ ∃ (d : Addr) (fs : List (Str × V)), H2 a = some (exo a C (some d)) ∧ H2 d = some (exd d fs) ∧ H1 d = none ∧ Q (.ref C) (some d) (upd (del H2 a) d (.xd fs))) (fun _ _ _ => False)
theorem st_mkO {C : Addr} {sp : Sp} {t : TA} {σ : L2.St} {H : Hp} {Q : XK} (h : t σ H fun vs H1 => MkO C sp vs H1 Q) : tMkO C sp [] t σ H Q := h
theorem st_mk {C : Addr} {n : Nat} {mk : List V → List (Str × V)} {vs : List V} {H : Hp} {Q : XK} (hl : vs.length = n) (hn : n ≤ 1000) (q : ∀ d H', Ex H H' → H d = none → H' d = some (.xd (mk vs)) → Q (.ref C) (some d) H') : MkO C (spInit C n mk) vs H Q := by
  refine ⟨by omega, fun a ha => ⟨a, vs, by rw [List.append_nil], hl, upd_same, fun dx H' hd hne h1 h2 h3 => ⟨rfl, dx, mk vs, h1, h2, ?_, ?_⟩⟩⟩
  · rw [upd_ne hne] at hd
    exact hd
  · rw [upd_ne hne] at hd
    have e : upd (del H' a) dx (.xd (mk vs)) = upd H dx (.xd (mk vs)) := by
      funext b
      by_cases hb : b = dx
      · rw [hb, upd_same, upd_same]
      · rw [upd_ne hb, upd_ne hb]
        by_cases hba : b = a
        · rw [hba, del_same, ha]
        · rw [del_ne hba, h3 b hba hb, upd_ne hba]
    rw [e]
    exact q dx _ (Ex.new hd) hd upd_same
/-! ### self.f = e, step by step -/
def OstP (K : PySem.W.Frag) (f : Str) (y x : V) (H2 : Hp) (D : Hp → Prop) : Prop := ∃ a C : Addr, x = .ref a ∧ OexC K C ∧ PySem.W.findIn K (.ref C) f = some none ∧
  ((H2 a = some (exo a C none) ∧ ∀ dx, H2 dx = none → dx ≠ a → D (upd (upd H2 dx (exd dx [(f, y)])) a (exo a C (some dx)))) ∨
    ∃ (dx : Addr) (fs : List (Str × V)), H2 a = some (exo a C (some dx)) ∧ H2 dx = some (exd dx fs) ∧ fs.length ≤ 900 ∧ D (upd H2 dx (exd dx ((f, y) :: fs))))
theorem st_ost {K : PySem.W.Frag} {f : Str} {to te : TE} {D : Ends} {σ : L2.St} {H : Hp} (h : te σ H fun y H1 => to σ H1 fun x H2 => OstP K f y x H2 fun H3 => D.nx σ H3) : tOst K f to te D σ H := h
theorem st_ost1 {K : PySem.W.Frag} {f : Str} {y : V} {a C : Addr} {H : Hp} {D : Hp → Prop} (T : OexC K C) (hno : PySem.W.findIn K (.ref C) f = some none) (ha : H a = some (exo a C none))
    (q : ∀ dx H', H dx = none → dx ≠ a → H' a = some (exo a C (some dx)) → H' dx = some (exd dx [(f, y)]) → (∀ b, b ≠ a → b ≠ dx → H' b = H b) → D H') : OstP K f y (.ref a) H D :=
  ⟨a, C, rfl, T, hno, .inl ⟨ha, fun dx hd hne => q dx _ hd hne upd_same (by rw [upd_ne hne, upd_same]) fun b h1 h2 => by rw [upd_ne h1, upd_ne h2]⟩⟩
theorem st_ost2 {K : PySem.W.Frag} {f : Str} {y : V} {a C dx : Addr} {fs : List (Str × V)} {H : Hp} {D : Hp → Prop} (T : OexC K C) (hno : PySem.W.findIn K (.ref C) f = some none) (hne : dx ≠ a) (ha : H a = some (exo a C (some dx))) (hd : H dx = some (exd dx fs)) (hl : fs.length ≤ 900)
    (q : ∀ H', H' a = some (exo a C (some dx)) → H' dx = some (exd dx ((f, y) :: fs)) → (∀ b, b ≠ dx → H' b = H b) → D H') : OstP K f y (.ref a) H D :=
  ⟨a, C, rfl, T, hno, .inr ⟨dx, fs, ha, hd, hl, q _ (by rw [upd_ne hne.symm]; exact ha) upd_same fun b h => upd_ne h⟩⟩
theorem st_veI {K : PySem.W.Frag} {ta : TA} {σ : L2.St} {H : Hp} {Q : VK} (h : ta σ H fun vs H1 => ∃ (a C : Addr) (ws : List V), vs = .ref a :: ws ∧ ws.length ≤ 1000 ∧ OexC K C ∧ H1 a = some (exo a C none) ∧ Q .non H1) : tVeI K ta σ H Q := h
end BC
/-! BCRead: what a text reads as, what a board is refused with: plain data. -/
namespace BC
open PySem PySem.Spec PyProof.Rows L2 TL
/-! ### the first that is bad -/
def firstFrom (bad : Nat → Bool) : Nat → Nat → Option Nat
  | 0, _ => none
  | n + 1, i => if bad i = true then some i else firstFrom bad n (i + 1)
def firstBad (n : Nat) (bad : Nat → Bool) : Option Nat := firstFrom bad n 0
theorem firstFrom_at {bad : Nat → Bool} : ∀ {n k i : Nat}, k ≤ i → i < k + n → bad i = true → (∀ j, k ≤ j → j < i → bad j = false) → firstFrom bad n k = some i
  | 0, k, i, h1, h2, _, _ => absurd h2 (by omega)
  | n + 1, k, i, h1, h2, hb, hj => by
    by_cases e : k = i
    · subst e
      show (if bad k = true then some k else _) = _
      rw [if_pos hb]
    · show (if bad k = true then some k else _) = _
      rw [if_neg (by rw [hj k (Nat.le_refl _) (by omega)]; simp)]
      exact firstFrom_at (by omega) (by omega) hb fun j h3 h4 => hj j (by omega) h4
theorem firstFrom_none {bad : Nat → Bool} : ∀ {n k : Nat}, (∀ j, k ≤ j → j < k + n → bad j = false) → firstFrom bad n k = none
  | 0, _, _ => rfl
  | n + 1, k, hj => by
    show (if bad k = true then some k else _) = _
    rw [if_neg (by rw [hj k (Nat.le_refl _) (by omega)]; simp)]
    exact firstFrom_none fun j h1 h2 => hj j (by omega) (by omega)
theorem firstBad_at {bad : Nat → Bool} {n i : Nat} (hi : i < n) (hb : bad i = true) (hj : ∀ j, j < i → bad j = false) : firstBad n bad = some i := firstFrom_at (Nat.zero_le _) (by omega) hb fun j _ h => hj j h
theorem firstBad_none {bad : Nat → Bool} {n : Nat} (hj : ∀ j, j < n → bad j = false) : firstBad n bad = none := firstFrom_none fun j _ h => hj j (by omega)
/-! ### what a board is refused with -/
def ordBad (b : RB) (i : Nat) : Bool := decide (4 ≤ i) || !(b.ords[i]?.any (ordOk b.mem.length b.ords.length i))
def progBad (b : RB) (i : Nat) : Bool := decide (60 ≤ i) || !(b.prog[i]?.any (deedOk b.mem.length b.ords.length)) || decide (3 < ((b.prog.take (i + 1)).filter isStart).length)
def boardFault (b : RB) : Option (Str × Nat) := match memFault b.mem with
  | some k => some ("memory", k)
  | none => match firstBad b.ords.length (ordBad b) with
    | some k => some ("orders", k)
    | none => (firstBad b.prog.length (progBad b)).map fun k => ("program", k)
theorem fault_mem {b : RB} {k : Nat} (h : memFault b.mem = some k) : boardFault b = some (("memory" : Str), k) := by
  unfold boardFault
  rw [h]
theorem fault_ord {b : RB} {k : Nat} (h : memFault b.mem = none) (h2 : firstBad b.ords.length (ordBad b) = some k) : boardFault b = some (("orders" : Str), k) := by
  unfold boardFault
  rw [h, h2]
theorem fault_prog {b : RB} {o : Option Nat} (h : memFault b.mem = none) (h2 : firstBad b.ords.length (ordBad b) = none) (h3 : firstBad b.prog.length (progBad b) = o) : boardFault b = o.map fun k => (("program" : Str), k) := by
  unfold boardFault
  rw [h, h2, h3]
/-! ### what a text reads as -/
inductive RowR where
  | mem (ns : List Int)
  | ord (o : ROrd)
  | deed (d : RDeed)
abbrev gets (ns : List (Option Int)) : List Int := ns.map (·.getD 0)
def ordR (ns : List (Option Int)) : ROrd := ((ns.getD 0 none).getD 0, (ns.getD 1 none).getD 0, (ns.getD 2 none).getD 0, ns.getD 3 none)
def readRow (i : Nat) (b : RB) (ws : List Str) : Option RB := match rowOf ws with
  | none => none
  | some (w, ns) => if decide (w = "memory") ≠ decide (i = 0) then none else if w = "order" ∧ b.prog ≠ [] then none
    else if i = 0 then some { b with mem := gets ns } else if w = "order" then some { b with ords := b.ords ++ [ordR ns] } else some { b with prog := b.prog ++ [(w, gets ns)] }
inductive Rd where
  | bad (n : Nat)
  | st (b : RB)
def readRows : Nat → RB → List Str → Rd
  | _, b, [] => .st b
  | i, b, p :: ps => match readRow i b (Txt.split p " ") with
    | none => .bad i
    | some b' => readRows (i + 1) b' ps
def readOf (t : Str) : Rd := readRows 0 ⟨[], [], []⟩ (Txt.split t "\n")
def dueD (t : Str) : PyData := match readOf t with
  | .bad n => .tuple [.str "BadText", .str "", .int (n : Int)]
  | .st b => match boardFault b with
    | some (w, n) => .tuple [.str "BadBoard", .str w, .int (n : Int)]
    | none => .tuple [.str "told", pyB b, .int 0]
/-! ### rows as data -/
theorem gets_opts : ∀ {ns : List (Option Int)}, none ∉ ns → ns.map pyOpt = (gets ns).map .int
  | [], _ => rfl
  | o :: ns, h => by
    have h1 : none ∉ ns := fun z => h (List.mem_cons_of_mem _ z)
    cases o with
    | none => exact absurd List.mem_cons_self h
    | some i =>
      show pyOpt (some i) :: ns.map pyOpt = PyData.int i :: (gets ns).map .int
      rw [gets_opts h1]
      rfl
theorem rowOf_inv {ws : List Str} {w : Str} {ns : List (Option Int)} (h : rowOf ws = some (w, ns)) :
    ∃ r, ws = w :: r ∧ ns = r.map numOf ∧ ((w = "order" ∧ ns.length = 4 ∧ none ∉ ns.take 3) ∨ (w ≠ "order" ∧ none ∉ ns ∧ (w = "memory" ∨ countOf w = (ns.length : Int)))) := by
  cases ws with
  | nil => cases h
  | cons w0 r =>
    unfold rowOf at h
    simp only at h
    by_cases ho : w0 = "order"
    · rw [if_pos ho] at h
      by_cases h4 : (r.map numOf).length = 4
      · rw [if_neg (by omega)] at h
        by_cases h3 : none ∈ (r.map numOf).take 3
        · rw [if_pos h3] at h
          cases h
        · rw [if_neg h3] at h
          by_cases h5 : (r.map numOf)[3]? = some none ∧ r[3]? ≠ some ("-" : Str)
          · rw [if_pos h5] at h
            cases h
          · rw [if_neg h5] at h
            cases h
            exact ⟨r, rfl, rfl, .inl ⟨ho, h4, h3⟩⟩
      · rw [if_pos h4] at h
        cases h
    · rw [if_neg ho] at h
      by_cases h3 : none ∈ r.map numOf
      · rw [if_pos h3] at h
        cases h
      · rw [if_neg h3] at h
        by_cases h5 : w0 ≠ "memory" ∧ countOf w0 ≠ ((r.map numOf).length : Int)
        · rw [if_pos h5] at h
          cases h
        · rw [if_neg h5] at h
          cases h
          refine ⟨r, rfl, rfl, .inr ⟨ho, h3, ?_⟩⟩
          by_cases hm : w = "memory"
          · exact .inl hm
          · exact .inr (Classical.byContradiction fun z => h5 ⟨hm, z⟩)
theorem ordR_py {ns : List (Option Int)} (h4 : ns.length = 4) (h3 : none ∉ ns.take 3) : PyData.tuple (ns.map pyOpt) = pyOrd (ordR ns) := by
  match ns, h4 with
  | [a, b, c, d], _ =>
    cases a with
    | none => exact absurd (by simp) h3
    | some a =>
      cases b with
      | none => exact absurd (by simp) h3
      | some b =>
        cases c with
        | none => exact absurd (by simp) h3
        | some c => rfl
/-- numbers that a word writes are not below nought -/
theorem numOf_pos {w : Str} {i : Int} (h : numOf w = some i) : 0 ≤ i := by
  unfold numOf at h
  split at h
  · cases h
  · split at h
    · cases h
    · split at h
      · cases h
      · split at h
        · cases h
          exact Int.natCast_nonneg _
        · cases h
theorem gets_pos {r : List Str} : ∀ n ∈ gets (r.map numOf), 0 ≤ n := fun n hn => by
  obtain ⟨o, ho, rfl⟩ := List.mem_map.mp hn
  obtain ⟨w, _, rfl⟩ := List.mem_map.mp ho
  cases h : numOf w with
  | none => exact Int.le_refl _
  | some i => exact numOf_pos h
/-- what is read holds: counts as they must be, no number below nought -/
structure Nice (b : RB) : Prop where
  mem : ∀ n ∈ b.mem, 0 ≤ n
  ords : ∀ o ∈ b.ords, 0 ≤ o.1 ∧ 0 ≤ o.2.1 ∧ 0 ≤ o.2.2.1 ∧ ∀ l, o.2.2.2 = some l → 0 ≤ l
  prog : ∀ d ∈ b.prog, countsL.lookup d.1 = some (d.2.length : Int) ∧ ∀ n ∈ d.2, 0 ≤ n
theorem Nice.nil : Nice ⟨[], [], []⟩ := ⟨by simp, by simp, by simp⟩
theorem count_lookup {w : Str} {n : Nat} (h : countOf w = (n : Int)) : countsL.lookup w = some (n : Int) := by
  unfold countOf at h
  cases e : countsL.lookup w with
  | none =>
    rw [e] at h
    exact absurd h (by simp only [Option.getD_none]; omega)
  | some i =>
    rw [e] at h
    simp only [Option.getD_some] at h
    rw [h]
theorem getD_pos {r : List Str} (k : Nat) : 0 ≤ (((r.map numOf).getD k none).getD 0 : Int) := by
  rw [List.getD_eq_getElem?_getD]
  cases h : (r.map numOf)[k]? with
  | none => exact Int.le_refl _
  | some o =>
    obtain ⟨w, _, rfl⟩ := map_at' h
    cases h2 : numOf w with
    | none => simp [h2]
    | some i =>
      simp [h2]
      exact numOf_pos h2
theorem Nice.row {b b' : RB} {i : Nat} {ws : List Str} (g : Nice b) (h : readRow i b ws = some b') : Nice b' := by
  unfold readRow at h
  cases e : rowOf ws with
  | none =>
    rw [e] at h
    cases h
  | some q =>
    obtain ⟨w, ns⟩ := q
    rw [e] at h
    simp only at h
    obtain ⟨r, rfl, rfl, hw⟩ := rowOf_inv e
    split at h
    · cases h
    · rename_i hm
      split at h
      · cases h
      · split at h
        · cases h
          exact ⟨gets_pos, g.ords, g.prog⟩
        · rename_i hi
          split at h
          · cases h
            refine ⟨g.mem, fun o ho => ?_, g.prog⟩
            rcases List.mem_append.mp ho with ho | ho
            · exact g.ords o ho
            · rw [List.mem_singleton.mp ho]
              refine ⟨getD_pos 0, getD_pos 1, getD_pos 2, fun l hl => ?_⟩
              have hl : (r.map numOf).getD 3 none = some l := hl
              have := getD_pos (r := r) 3
              rw [hl] at this
              exact this
          · rename_i hno
            cases h
            refine ⟨g.mem, g.ords, fun d hd => ?_⟩
            rcases List.mem_append.mp hd with hd | hd
            · exact g.prog d hd
            · rw [List.mem_singleton.mp hd]
              refine ⟨?_, gets_pos⟩
              have hnm : w ≠ "memory" := fun z => by
                rw [decide_eq_true z, decide_eq_false hi] at hm
                exact hm (by simp)
              rcases hw with ⟨z, _⟩ | ⟨_, _, z | z⟩
              · exact absurd z hno
              · exact absurd z hnm
              · show countsL.lookup w = some ((gets (r.map numOf)).length : Int)
                rw [List.length_map]
                exact count_lookup z
/-! ### splits and counts -/
theorem spl1 (s c : Nat) (acc r : List Nat) : spl [s] 0 acc (c :: r) = if c = s then acc :: spl [s] 0 [] r else spl [s] 0 (acc ++ [c]) r := by
  by_cases h : c = s
  · subst h
    rw [if_pos rfl, spl_hit (show pre [c] (c :: r) = true from pre_self [c] r)]
    rfl
  · rw [if_neg h, spl_miss (pre_of_head [] r h)]
theorem spl_count (s : Nat) : ∀ (l acc : List Nat), (spl [s] 0 acc l).length = l.count s + 1
  | [], acc => by rw [spl_nil]; rfl
  | c :: r, acc => by
    rw [spl1]
    by_cases h : c = s
    · subst h
      rw [if_pos rfl, List.length_cons, spl_count c r, List.count_cons_self]
    · rw [if_neg h, spl_count s r, List.count_cons_of_ne h]
theorem spl_lens (s : Nat) : ∀ (l acc : List Nat), ∀ q ∈ spl [s] 0 acc l, q.length ≤ acc.length + l.length
  | [], acc, q, hq => by
    rw [spl_nil] at hq
    rw [List.mem_singleton.mp hq]
    omega
  | c :: r, acc, q, hq => by
    rw [spl1] at hq
    by_cases h : c = s
    · rw [if_pos h] at hq
      rcases List.mem_cons.mp hq with rfl | hq
      · omega
      · have := spl_lens s r [] q hq
        simp only [List.length_nil, List.length_cons] at this ⊢
        omega
    · rw [if_neg h] at hq
      have := spl_lens s r _ q hq
      simp only [List.length_append, List.length_cons, List.length_nil] at this ⊢
      omega
theorem spl_free (s : Nat) : ∀ (l acc : List Nat), s ∉ acc → ∀ q ∈ spl [s] 0 acc l, s ∉ q
  | [], acc, ha, q, hq => by
    rw [spl_nil] at hq
    rw [List.mem_singleton.mp hq]
    exact ha
  | c :: r, acc, ha, q, hq => by
    rw [spl1] at hq
    by_cases h : c = s
    · rw [if_pos h] at hq
      rcases List.mem_cons.mp hq with rfl | hq
      · exact ha
      · exact spl_free s r [] (by simp) q hq
    · rw [if_neg h] at hq
      exact spl_free s r _ (by simp; exact ⟨ha, fun z => h z.symm⟩) q hq
def nls (t : Str) : Nat := (tl t).count 10
theorem split_nl (t : Str) : (Txt.split t "\n").map tl = spl [10] 0 [] (tl t) := by
  rw [split_spl _ _ (by rw [tl_nl]; simp) (kind_ok (by decide +kernel)), tl_nl]
theorem split_sp (t : Str) : (Txt.split t " ").map tl = spl [32] 0 [] (tl t) := by
  rw [split_spl _ _ (by rw [tl_sp]; simp) (kind_ok (by decide +kernel)), tl_sp]
theorem rows_len (t : Str) : (Txt.split t "\n").length = nls t + 1 := by
  rw [← List.length_map (f := tl), split_nl, spl_count]
  rfl
theorem rows_each (t : Str) : ∀ p ∈ Txt.split t "\n", p.length ≤ t.length ∧ nls p = 0 := fun p hp => by
  have h : tl p ∈ (Txt.split t "\n").map tl := List.mem_map_of_mem hp
  rw [split_nl] at h
  refine ⟨?_, List.count_eq_zero.mpr (spl_free 10 _ [] (by simp) _ h)⟩
  rw [len_tl, len_tl t]
  have := spl_lens 10 _ [] _ h
  simpa using this
theorem words_len (t : Str) : (Txt.split t " ").length ≤ t.length + 1 := by
  rw [← List.length_map (f := tl), split_sp, spl_count, len_tl]
  have := List.count_le_length (a := 32) (l := tl t)
  omega
theorem words_ne (t : Str) : Txt.split t " " ≠ [] := fun z => by
  have h := congrArg List.length (split_sp t)
  rw [z, spl_count] at h
  simp at h
theorem words_each (t : Str) : ∀ p ∈ Txt.split t " ", p.length ≤ t.length := fun p hp => by
  have h : tl p ∈ (Txt.split t " ").map tl := List.mem_map_of_mem hp
  rw [split_sp] at h
  rw [len_tl, len_tl t]
  have := spl_lens 32 _ [] _ h
  simpa using this
theorem nls_join : ∀ ps : List Str, (∀ p ∈ ps, nls p = 0) → nls (Txt.join "\n" ps) ≤ ps.length - 1
  | [], _ => by decide +kernel
  | p :: ps, h => by
    unfold nls
    rw [tl_rows, List.count_append]
    have h0 : (tl p).count 10 = 0 := h p List.mem_cons_self
    have key : ∀ qs : List Str, (∀ q ∈ qs, nls q = 0) → (qs.flatMap fun x => 10 :: tl x).count 10 = qs.length := by
      intro qs
      induction qs with
      | nil => intro _; rfl
      | cons q qs ih =>
        intro hq
        have h1 : (tl q).count 10 = 0 := hq q List.mem_cons_self
        rw [List.flatMap_cons, List.count_append, List.count_cons_self, h1, ih fun x hx => hq x (List.mem_cons_of_mem _ hx), List.length_cons]
        omega
    rw [h0, key ps fun q hq => h q (List.mem_cons_of_mem _ hq), List.length_cons]
    omega
theorem nls_app (a b : Str) : nls (a ++ b) = nls a + nls b := by
  unfold nls
  rw [tl_append, List.count_append]
/-! ### slices of texts -/
theorem tl_to {z : Str} {p : Nat} (h : p ≤ z.length) : tl (Txt.slice z none (some (p : Int))) = (tl z).take p := by
  rw [← C8.cutS_slice]
  unfold cutS
  rw [HT.sIx_nat, HT.sIx_none, Nat.min_eq_left h]
  simp
theorem tl_from {z : Str} {p : Nat} : tl (Txt.slice z (some (p : Int)) none) = (tl z).drop p := by
  rw [← C8.cutS_slice]
  unfold cutS
  rw [HT.sIx_nat, HT.sIx_none]
  have hl : z.length = (tl z).length := len_tl z
  show ((tl z).drop (min p z.length)).take (z.length - min p z.length) = (tl z).drop p
  rw [List.take_of_length_le (by rw [List.length_drop]; omega)]
  by_cases hp : p ≤ z.length
  · rw [Nat.min_eq_left hp]
  · rw [Nat.min_eq_right (by omega), List.drop_of_length_le (by omega), List.drop_of_length_le (by omega)]
/-! ### the data that is told -/
theorem look_cons {β : Type} (f g : Str) (y : β) (fs : List (Str × β)) : ((f, y) :: fs).lookup g = if g = f then some y else fs.lookup g := by
  by_cases h : g = f
  · subst h
    simp [List.lookup]
  · rw [if_neg h]
    simp [List.lookup, show (g == f) = false by simpa using h]
theorem lookup_words {w : Str} {i : Int} (h : countsL.lookup w = some i) : w ∈ (["set", "add", "say", "start", "wait", "clean", "drop"] : List Str) := by
  have key : ∀ {l : List (Str × Int)}, l.lookup w = some i → w ∈ l.map (·.1) := by
    intro l
    induction l with
    | nil => intro h; cases h
    | cons p l ih =>
      intro h
      obtain ⟨a, b⟩ := p
      rw [look_cons] at h
      by_cases e : w = a
      · rw [e]
        exact List.mem_cons_self
      · rw [if_neg e] at h
        exact List.mem_cons_of_mem _ (ih h)
  exact key h
theorem al_due {t : Str} {b : RB} (g : Nice b) (hm : b.mem.length ≤ 1000000) (ho : b.ords.length ≤ 1000000) (hp : b.prog.length ≤ 1000000) : Al 3 (pyB b) := by
  refine al_tup (by simp) fun e he => ?_
  simp only [List.mem_cons, List.not_mem_nil, or_false] at he
  rcases he with rfl | rfl | rfl
  · exact al_tup (by rw [List.length_map]; exact hm) al_ints
  · refine al_tup (by rw [List.length_map]; exact ho) fun d hd => ?_
    obtain ⟨o, _, rfl⟩ := List.mem_map.mp hd
    refine al_tup (by simp) fun e he => ?_
    simp only [List.mem_cons, List.not_mem_nil, or_false] at he
    rcases he with rfl | rfl | rfl | rfl
    · exact al_int
    · exact al_int
    · exact al_int
    · exact al_opt
  · refine al_tup (by rw [List.length_map]; exact hp) fun d hd => ?_
    obtain ⟨d, hdp, rfl⟩ := List.mem_map.mp hd
    obtain ⟨h1, _⟩ := g.prog d hdp
    have hw := lookup_words h1
    have ok : ∀ s ∈ (["set", "add", "say", "start", "wait", "clean", "drop"] : List Str), PyData.strOk s = true := by decide +kernel
    have hl : d.2.length ≤ 2 := by
      have two : countsL.all fun p => decide (p.2 ≤ 2) := by decide +kernel
      have hm : ∀ {l : List (Str × Int)}, l.lookup d.1 = some (d.2.length : Int) → ∃ p ∈ l, p.2 = (d.2.length : Int) := by
        intro l
        induction l with
        | nil => intro h; cases h
        | cons p l ih =>
          intro h
          obtain ⟨a, b⟩ := p
          rw [look_cons] at h
          by_cases e : d.1 = a
          · rw [if_pos e] at h
            exact ⟨_, List.mem_cons_self, Option.some.inj h⟩
          · rw [if_neg e] at h
            obtain ⟨p, hp, e⟩ := ih h
            exact ⟨p, List.mem_cons_of_mem _ hp, e⟩
      obtain ⟨p, hp, e⟩ := hm h1
      have := List.all_eq_true.mp two p hp
      rw [decide_eq_true_eq] at this
      omega
    refine al_tup (by rw [List.length_cons, List.length_map]; omega) fun e he => ?_
    rcases List.mem_cons.mp he with rfl | he
    · exact al_str (ok _ hw)
    · exact al_ints e he
end BC
/-! BCXf: a caught exception's fields, its class told at run time. -/
namespace BC
open PySem PySem.Spec PyProof.Rows L2
def tXfG (K : PySem.W.Frag) (a : Addr) (cls : Value) (d : Option Addr) (f : Str) (te : TE) : TE := fun σ H Q => te σ H fun x H1 => x = .ref a ∧ ∃ (C dd : Addr) (fs : List (Str × V)) (v : V), cls = .ref C ∧ XfC K C ∧ PySem.W.findIn K (.ref C) f = some none ∧ d = some dd ∧ H1 dd = some (.xd fs) ∧ fs.lookup f = some v ∧ Q v H1
theorem pe_xfG {X : Cx} {a : Addr} {oe : Obj} {cls : Value} {d : Option Addr} {pn : List (Addr × Obj)} {e : Expr} {te : TE} {pos : Pos} {n : Str} (hz : Zc cls d oe) (hf : ∃ vs, oe.data = .fields vs) (he : PE (X.suite a ((a, oe) :: pn)) e te)
    (hb : attributeBase e n X.env (eval e X.env) = eval e X.env := by rfl) : PE (X.suite a ((a, oe) :: pn)) (.Attribute e n pos) (tXfG X.K a cls d n te) := by
  refine ⟨fun pins s0 σ H Q I h => attr_of hb (thn (he.run pins s0 σ H _ I h) fun u s1 ⟨x, H1, I1, rx, ex, C, dd, fs, v, ec, T, hno, ed, ea, l, q⟩ => ?_)⟩
  subst ex ec ed
  obtain rfl : u = Value.ref a := rx
  have here := (I1.pin (a, oe) (List.mem_append_left _ List.mem_cons_self)).1
  obtain ⟨vs, hd⟩ := hf
  have ok : ObjOk X.prog X.w H1 s1.heap dd (.xd fs) := I1.hok dd _ ea
  obtain ⟨mA, hns, hr⟩ := ok
  obtain ⟨od, ho, hl⟩ := lookIn_ns hns
  obtain ⟨u, hu, ru⟩ := RelO.some_of (v := v) (o := mA n) (by rw [← l]; exact hr n)
  have J : PySem.W.InstAt s1.heap a oe C (some od) := ⟨here, hz.1, by unfold PySem.W.notCls; rw [hd] <;> rfl, by rw [hz.2]; exact ho⟩
  exact HandSPX.exc_get I1.kIn J T.ga T.gg T.exC (PySem.W.findObj_own T.hdC hno rfl (by rw [hl, hu])) (handed_of ru) ⟨v, H1, I1.tok _, ru, q⟩
theorem xf_of {K : PySem.W.Frag} {C : Addr} (e : ExcC K C) : XfC K C := ⟨e.hg, e.hk, e.hs, e.hd⟩
section
variable {K : PySem.W.Frag} {a : Addr} {cls : Value} {d : Option Addr} {f : Str} {σ : L2.St} {H : Hp} {Q : VK} {te : TE}
def XfP (K : PySem.W.Frag) (a : Addr) (cls : Value) (d : Option Addr) (f : Str) (x : V) (H1 : Hp) (Q : VK) : Prop := x = .ref a ∧ ∃ (C dd : Addr) (fs : List (Str × V)) (v : V), cls = .ref C ∧ XfC K C ∧ PySem.W.findIn K (.ref C) f = some none ∧ d = some dd ∧ H1 dd = some (.xd fs) ∧ fs.lookup f = some v ∧ Q v H1
theorem st_xfG (h : te σ H fun x H1 => XfP K a cls d f x H1 Q) : tXfG K a cls d f te σ H Q := h
theorem st_xfP {C dd : Addr} {fs : List (Str × V)} {v : V} (e : ExcC K C) (hno : PySem.W.findIn K (.ref C) f = some none) (hd : H dd = some (.xd fs)) (hl : fs.lookup f = some v) (q : Q v H) : XfP K a (.ref C) (some dd) f (.ref a) H Q := ⟨rfl, C, dd, fs, v, rfl, xf_of e, hno, rfl, hd, hl, q⟩
end
end BC
/-! BCRow: comprehensions that leave out, written dicts of texts, rows by a law's own words. -/
namespace BC
open PySem PySem.Spec PyProof.Rows L2 TL
section
variable {K : PySem.W.Frag} {σ : L2.St} {H H0 H1 : Hp} {Q : VK} {te : TE} {tt : TT} {own : List Nat} {x : V} {l : Addr} {xs : List V} {ds : List PyData} {i : Nat}
/-- a turn of a comprehension that leaves out -/
theorem filt_turn {D : Addr} {p : V → Bool} {y : V} {acc : List V} {H' : Hp} {Nx : Hp → Prop} (hw : wipe ((wipe σ own).set i (some y)) own = wipe σ own) (nD : H1 D = none) (e1 : Ex H1 H') (hD : H' D = some (.lst acc)) (hl : acc.length < 100000)
    (turn : ∀ (R : Bool → Hp → Prop), (∀ H'', Ex H' H'' → R (p y) H'') → tt ((wipe σ own).set i (some y)) H' R) (hte : ∀ H'' R, R y H'' → te ((wipe σ own).set i (some y)) H'' R)
    (nx : ∀ H'', Ex H1 H'' → H'' D = some (.lst (if p y = true then acc ++ [y] else acc)) → Nx H'') : LcTurn (gName i) tt te own σ D y H' Nx := by
  refine ⟨hw, ?_⟩
  refine turn _ fun H'' e2 => ?_
  by_cases hp : p y = true
  · rw [hp]
    with_reducible refine st_T ?_
    refine hte H'' _ ?_
    refine st_lcPut (e2 _ _ hD) hl fun H5 f5 k5 h5 => ?_
    refine nx H5 (Fr.ex (e1.trans e2) (fun a ha => by rw [List.mem_singleton.mp ha]; exact nD) f5) ?_
    rw [if_pos hp]
    exact h5
  · rw [Bool.not_eq_true] at hp
    rw [hp]
    with_reducible refine st_F ?_
    refine nx H'' (e1.trans e2) ?_
    rw [if_neg (by rw [hp]; simp)]
    exact e2 _ _ hD
theorem filt_step {p : V → Bool} {ys : List V} {j : Nat} {y : V} (h : ys[j]? = some y) : (ys.take (j + 1)).filter p = if p y = true then (ys.take j).filter p ++ [y] else (ys.take j).filter p := by
  rw [List.take_add_one, h, List.filter_append]
  by_cases hp : p y = true
  · rw [if_pos hp]
    simp [hp]
  · rw [if_neg hp]
    simp [hp]
theorem filt_len {p : V → Bool} {ys : List V} {j n : Nat} (h : j ≤ n) : ((ys.take j).filter p).length ≤ n := Nat.le_trans (List.length_filter_le _ _) (by rw [List.length_take]; omega)
theorem st_lcFilt {p : V → Bool} (h : H1 l = some (.lst xs)) (hn : xs.length ≤ 50000) (hw : ∀ v, wipe ((wipe σ own).set i (some v)) own = wipe σ own)
    (turn : ∀ y H (R : Bool → Hp → Prop), y ∈ xs → Ex H1 H → (∀ H'', Ex H H'' → R (p y) H'') → tt ((wipe σ own).set i (some y)) H R) (hte : ∀ y H'' R, R y H'' → te ((wipe σ own).set i (some y)) H'' R)
    (q : ∀ D H2, H1 D = none → Ex H1 H2 → H2 D = some (.lst (xs.filter p)) → Q (.ref D) H2) : LcL K (gName i) tt te own σ (.ref l) H1 Q := by
  refine st_lcList (SqL.of h) fun D H2 nD e2 hD => ?_
  refine ⟨fun j H' => Ex H1 H' ∧ H' D = some (.lst ((xs.take j).filter p)), ⟨e2, hD⟩, fun j H' p => SqL.of (p.1 _ _ h), fun j v H' hv pp => ?_, fun H' pp => ?_⟩
  · have hj : j < xs.length := (List.getElem?_eq_some_iff.mp hv).1
    refine filt_turn (p := p) (hw v) nD pp.1 pp.2 (Nat.lt_of_le_of_lt (filt_len (n := 50000) (by omega)) (by decide)) (fun R hR => turn v H' R (List.mem_of_getElem? hv) pp.1 hR) (hte v) fun H'' e h'' => ⟨e, ?_⟩
    rw [h'', filt_step hv]
  · obtain ⟨p1, p2⟩ := pp
    rw [List.take_length] at p2
    exact q D H' nD p1 p2
theorem st_lcFiltS {z : Str} {p : V → Bool} (hn : (tl z).length ≤ 50000) (hw : ∀ v, wipe ((wipe σ own).set i (some v)) own = wipe σ own)
    (turn : ∀ c H (R : Bool → Hp → Prop), c ∈ tl z → Ex H1 H → (∀ H'', Ex H H'' → R (p (.str ⟨#[c]⟩)) H'') → tt ((wipe σ own).set i (some (.str ⟨#[c]⟩))) H R) (hte : ∀ y H'' R, R y H'' → te ((wipe σ own).set i (some y)) H'' R)
    (q : ∀ D H2, H1 D = none → Ex H1 H2 → H2 D = some (.lst (((tl z).map fun c => V.str ⟨#[c]⟩).filter p)) → Q (.ref D) H2) : LcS (gName i) tt te own σ (.str z) H1 Q := by
  refine ⟨z, rfl, fun D nD => ?_⟩
  refine lc_it (walk_str (z := z)) (fun j H' => Ex H1 H' ∧ H' D = some (.lst ((((tl z).map fun c => V.str ⟨#[c]⟩).take j).filter p))) ⟨Ex.new nD, by rw [upd_same]; rfl⟩ (fun _ _ _ _ => True.intro) (fun j x H H' hj pp y => ?_) fun H' pp => ?_
  · obtain ⟨rfl, c, hc, rfl⟩ := y
    have hc' : (tl z)[j]? = some c := by
      rw [← hc]
      exact Array.getElem?_toList
    have hl : j < (tl z).length := (List.getElem?_eq_some_iff.mp hc').1
    have hv : ((tl z).map fun c => V.str ⟨#[c]⟩)[j]? = some (.str ⟨#[c]⟩) := map_at hc'
    refine filt_turn (p := p) (hw _) nD pp.1 pp.2 (Nat.lt_of_le_of_lt (filt_len (n := 50000) (by omega)) (by decide)) (fun R hR => turn c H' R (List.mem_of_getElem? hc') pp.1 hR) (hte _) fun H'' e h'' => ⟨e, ?_⟩
    rw [h'', filt_step hv]
  · obtain ⟨p1, p2⟩ := pp
    rw [show z.cps.size = ((tl z).map fun c => V.str ⟨#[c]⟩).length by rw [List.length_map]; exact Array.length_toList.symm, List.take_length] at p2
    exact q D H' nD p1 p2
theorem st_lcFiltR {n : Nat} {p : V → Bool} (hn : n ≤ 50000) (hw : ∀ v, wipe ((wipe σ own).set i (some v)) own = wipe σ own)
    (turn : ∀ (k : Nat) H (R : Bool → Hp → Prop), k < n → Ex H1 H → (∀ H'', Ex H H'' → R (p (.int (k : Int))) H'') → tt ((wipe σ own).set i (some (.int (k : Int)))) H R) (hte : ∀ y H'' R, R y H'' → te ((wipe σ own).set i (some y)) H'' R)
    (q : ∀ D H2, H1 D = none → Ex H1 H2 → H2 D = some (.lst (((List.range n).map fun k : Nat => V.int (k : Int)).filter p)) → Q (.ref D) H2) : LcR (gName i) tt te own σ [.int (n : Int)] H1 Q := by
  refine st_lcRange (by omega) fun D H2 nD e2 hD => ?_
  refine ⟨fun j H' => Ex H1 H' ∧ H' D = some (.lst ((((List.range n).map fun k : Nat => V.int (k : Int)).take j).filter p)), ⟨e2, hD⟩, fun j H' hj pp => ?_, fun H' pp => ?_⟩
  · have hv : ((List.range n).map fun k : Nat => V.int (k : Int))[j]? = some (.int (j : Int)) := map_at (f := fun k : Nat => V.int (k : Int)) (by rw [List.getElem?_range hj])
    refine filt_turn (p := p) (hw _) nD pp.1 pp.2 (Nat.lt_of_le_of_lt (filt_len (n := 50000) (by omega)) (by decide)) (fun R hR => turn j H' R hj pp.1 hR) (hte _) fun H'' e h'' => ⟨e, ?_⟩
    rw [h'', filt_step hv]
  · obtain ⟨p1, p2⟩ := pp
    rw [List.take_of_length_le (by rw [List.length_map, List.length_range]; omega)] at p2
    exact q D H' nD p1 p2
theorem st_lcFiltT {p : PyData → Bool} (h : Im H0 (.tuple ds) x) (k0 : Kp H0 H1) (hn : ds.length ≤ 50000) (hw : ∀ v, wipe ((wipe σ own).set i (some v)) own = wipe σ own)
    (turn : ∀ d y H (R : Bool → Hp → Prop), d ∈ ds → Im H d y → Ex H1 H → (∀ H'', Ex H H'' → R (p d) H'') → tt ((wipe σ own).set i (some y)) H R) (hte : ∀ y H'' R, R y H'' → te ((wipe σ own).set i (some y)) H'' R)
    (q : ∀ D H2 ys, H1 D = none → Ex H1 H2 → H2 D = some (.lst ys) → ys.length = (ds.filter p).length → Q (.ref D) H2) : LcU K (gName i) tt te own σ x H1 Q := by
  refine st_lcTup h k0 fun D H2 nD e2 hD => ?_
  refine ⟨fun j H' => ∃ ys, Ex H1 H' ∧ H' D = some (.lst ys) ∧ ys.length = ((ds.take j).filter p).length, ⟨[], e2, hD, by simp⟩, fun j H' pp => k0.trans pp.choose_spec.1.kp, fun j d v H' hd hv pp => ?_, fun H' pp => ?_⟩
  · obtain ⟨ys, p1, p2, p3⟩ := pp
    have hj : j < ds.length := (List.getElem?_eq_some_iff.mp hd).1
    have hys : ys.length ≤ 50000 := by
      rw [p3]
      exact Nat.le_trans (List.length_filter_le _ _) (by rw [List.length_take]; omega)
    refine filt_turn (p := fun _ => p d) (hw v) nD p1 p2 (by omega) (fun R hR => turn d v H' R (List.mem_of_getElem? hd) hv p1 hR) (hte v) fun H'' e h'' => ⟨_, e, h'', ?_⟩
    rw [List.take_add_one, hd, List.filter_append, List.length_append]
    by_cases hp : p d = true
    · simp [hp, p3]
    · simp [hp, p3]
  · obtain ⟨ys, p1, p2, p3⟩ := pp
    rw [List.take_length] at p3
    exact q D H' ys nD p1 p2 p3
end
theorem st_dget2 {td ty tx : TE} {σ : L2.St} {H : Hp} {Q : VK} (h : td σ H fun x H1 => ∃ a, x = .ref a ∧ IsD H1 a ∧ ty σ H1 fun y H2 => tx σ H2 fun z H3 => ∃ o, DGet H3 a y o ∧ Q (o.getD z) H3) : tDGet2 td ty tx σ H Q := h
def rNotInSign : R2 := fun x y H Q => ∃ (c : Nat) (z : Str), x = .str ⟨#[c]⟩ ∧ y = .str z ∧ Q (.bl (!decide (c ∈ z.cps.toList))) H
theorem o_notInSign {X : Cx} : OpR X (compareOp .NotIn) rNotInSign := op_notIn_sign
/-! ### written dicts of texts -/
theorem put_fresh {κ : Type} [DecidableEq κ] {k : κ} {v : V} {acc : List (κ × V)} (h : k ∉ acc.map (·.1)) : putK acc k v = acc ++ [(k, v)] := by
  unfold putK
  rw [if_neg]
  intro z
  rw [List.any_eq_true] at z
  obtain ⟨p, hp, e⟩ := z
  exact h (List.mem_map.mpr ⟨p, hp, of_decide_eq_true e⟩)
theorem tx_merge : ∀ (kvs acc : List (Key × V)), (kvs.map (·.1)).Nodup → (∀ kv ∈ kvs, kv.1 ∉ acc.map (·.1)) → mergeK acc kvs = acc ++ kvs
  | [], acc, _, _ => by
    show acc = _
    rw [List.append_nil]
  | (k, v) :: r, acc, nd, h => by
    rw [List.map_cons, List.nodup_cons] at nd
    show mergeK (putK acc k v) r = _
    rw [put_fresh (h _ List.mem_cons_self), tx_merge r _ nd.2 fun kv hkv z => ?_, List.append_assoc]
    · rfl
    · rw [List.map_append] at z
      rcases List.mem_append.mp z with z | z
      · exact h kv (List.mem_cons_of_mem _ hkv) z
      · have e : kv.1 = k := List.mem_singleton.mp z
        exact nd.1 (by show k ∈ _; rw [← e]; exact List.mem_map_of_mem hkv)
def keysV {β : Type} (f : β → V) (l : List (Str × β)) : List (Key × V) := l.map fun p => (.inr p.1, f p.2)
theorem keysV_val {β : Type} (f : β → V) (w : Str) : ∀ l : List (Str × β), valV (keysV f l) (Sum.inr w) = (l.lookup w).map f
  | [] => rfl
  | (a, b) :: l => by
    rw [look_cons]
    unfold keysV
    rw [List.map_cons]
    by_cases h : w = a
    · subst h
      rw [if_pos rfl, valV_pos rfl]
      rfl
    · rw [if_neg h]
      have : valV ((Sum.inr a, f b) :: keysV f l) (Sum.inr w) = valV (keysV f l) (Sum.inr w) := by
        unfold valV
        rw [List.find?_cons, show decide ((Sum.inr a : Key) = Sum.inr w) = false from decide_eq_false fun z => h (Sum.inr.inj z).symm]
      exact this.trans (keysV_val f w l)
theorem keysV_nd {β : Type} (f : β → V) {l : List (Str × β)} (h : (l.map (·.1)).Nodup) : ((keysV f l).map (·.1)).Nodup := by
  unfold keysV
  rw [List.map_map]
  have : (l.map ((fun p : Key × V => p.1) ∘ fun p : Str × β => ((Sum.inr p.1 : Key), f p.2))) = (l.map (·.1)).map (Sum.inr : Str → Key) := by
    rw [List.map_map]
    rfl
  rw [this]
  exact List.Pairwise.map _ (fun a b hab z => hab (Sum.inr.inj z)) h
/-! ### texts that may be data -/
def okT (t : Str) : Prop := ∀ c ∈ tl t, c < 1114112
theorem spl_sub (s : Nat) : ∀ (l acc : List Nat), ∀ q ∈ spl [s] 0 acc l, ∀ c ∈ q, c ∈ acc ∨ c ∈ l
  | [], acc, q, hq, c, hc => by
    rw [spl_nil] at hq
    rw [List.mem_singleton.mp hq] at hc
    exact .inl hc
  | d :: r, acc, q, hq, c, hc => by
    rw [spl1] at hq
    by_cases h : d = s
    · rw [if_pos h] at hq
      rcases List.mem_cons.mp hq with rfl | hq
      · exact .inl hc
      · rcases spl_sub s r [] q hq c hc with z | z
        · cases z
        · exact .inr (List.mem_cons_of_mem _ z)
    · rw [if_neg h] at hq
      rcases spl_sub s r _ q hq c hc with z | z
      · rcases List.mem_append.mp z with z | z
        · exact .inl z
        · rw [List.mem_singleton.mp z]
          exact .inr List.mem_cons_self
      · exact .inr (List.mem_cons_of_mem _ z)
theorem okT.rows {t : Str} (h : okT t) : ∀ p ∈ Txt.split t "\n", okT p := fun p hp c hc => by
  have hm : tl p ∈ (Txt.split t "\n").map tl := List.mem_map_of_mem hp
  rw [split_nl] at hm
  rcases spl_sub 10 _ [] _ hm c hc with z | z
  · cases z
  · exact h c z
theorem okT.words {t : Str} (h : okT t) : ∀ p ∈ Txt.split t " ", okT p := fun p hp c hc => by
  have hm : tl p ∈ (Txt.split t " ").map tl := List.mem_map_of_mem hp
  rw [split_sp] at hm
  rcases spl_sub 32 _ [] _ hm c hc with z | z
  · cases z
  · exact h c z
theorem okT.app {a b : Str} (h : okT a) (g : okT b) : okT (a ++ b) := fun c hc => by
  rw [tl_append] at hc
  rcases List.mem_append.mp hc with z | z
  · exact h c z
  · exact g c z
theorem okT.join : ∀ {ps : List Str}, (∀ p ∈ ps, okT p) → okT (Txt.join "\n" ps)
  | [], _ => fun c hc => by
    have : tl (Txt.join "\n" []) = [] := by decide +kernel
    rw [this] at hc
    cases hc
  | p :: ps, h => fun c hc => by
    rw [tl_rows] at hc
    rcases List.mem_append.mp hc with hc | hc
    · exact h p List.mem_cons_self c hc
    · obtain ⟨x, hx, hc⟩ := List.mem_flatMap.mp hc
      rcases List.mem_cons.mp hc with rfl | hc
      · decide
      · exact h x (List.mem_cons_of_mem _ hx) c hc
theorem okT.strOk {t : Str} (h : okT t) : PyData.strOk t = true := by
  unfold PyData.strOk
  rw [← Array.all_toList, List.all_eq_true]
  exact fun c hc => decide_eq_true (h c hc)
theorem okT_text {b : RB} (h : SmB b) : okT (textOf b) := fun c hc => by
  have := h.strOk
  unfold PyData.strOk at this
  rw [← Array.all_toList, List.all_eq_true] at this
  exact of_decide_eq_true (this c hc)
/-! ### a row by the law's words -/
def lawL : List (Str × Int) := ("order", 4) :: countsL
def lawRow (ws : List Str) : Bool := match ws with
  | [] => false
  | w :: r => if (lawL.lookup w = none ∧ w ≠ "memory") ∨ (lawL.lookup w).getD (r.length : Int) ≠ (r.length : Int) then false
    else ((if w = "order" ∧ r[3]? = some ("-" : Str) then r.take 3 else r).filter fun x => (numOf x).isNone).isEmpty
theorem filt_none (r : List Str) : (r.filter fun x => (numOf x).isNone).isEmpty = decide (none ∉ r.map numOf) := by
  rw [Bool.eq_iff_iff, List.isEmpty_iff, List.filter_eq_nil_iff, decide_eq_true_eq]
  constructor
  · intro h z
    obtain ⟨w, hw, e⟩ := List.mem_map.mp z
    exact h w hw (by rw [e]; rfl)
  · intro h w hw z
    refine h (List.mem_map.mpr ⟨w, hw, ?_⟩)
    cases e : numOf w with
    | none => rfl
    | some i =>
      rw [e] at z
      cases z
theorem lawRow_eq (ws : List Str) : lawRow ws = (rowOf ws).isSome := by
  cases ws with
  | nil => rfl
  | cons w r =>
    have e1 : lawRow (w :: r) = if (lawL.lookup w = none ∧ w ≠ "memory") ∨ (lawL.lookup w).getD (r.length : Int) ≠ (r.length : Int) then false else decide (none ∉ (if w = "order" ∧ r[3]? = some ("-" : Str) then r.take 3 else r).map numOf) := by
      unfold lawRow
      simp only
      rw [filt_none]
    have e2 : rowOf (w :: r) = if w = "order" then (if (r.map numOf).length ≠ 4 then none else if none ∈ (r.map numOf).take 3 then none else if (r.map numOf)[3]? = some none ∧ r[3]? ≠ some ("-" : Str) then none else some (w, r.map numOf))
      else if none ∈ r.map numOf then none else if w ≠ "memory" ∧ countOf w ≠ ((r.map numOf).length : Int) then none else some (w, r.map numOf) := rfl
    rw [e1, e2]
    clear e1 e2
    by_cases ho : w = "order"
    · have hl : lawL.lookup w = some 4 := by
        rw [ho]
        decide +kernel
      rw [hl, if_pos ho]
      by_cases h4 : r.length = 4
      · have c1 : ¬ (((some (4 : Int)) = none ∧ w ≠ "memory") ∨ (some (4 : Int)).getD (r.length : Int) ≠ (r.length : Int)) := by
          rintro (⟨z, _⟩ | z)
          · cases z
          · exact z (by show (4 : Int) = _; omega)
        have c2 : ¬ ((r.map numOf).length ≠ 4) := by
          rw [List.length_map]
          omega
        rw [if_neg c1, if_neg c2]
        obtain ⟨a, b, c, d, rfl⟩ : ∃ a b c d, r = [a, b, c, d] := by
          match r, h4 with
          | [a, b, c, d], _ => exact ⟨a, b, c, d, rfl⟩
        have t3 : ([a, b, c, d].map numOf).take 3 = [numOf a, numOf b, numOf c] := rfl
        have t4 : ([a, b, c, d].map numOf)[3]? = some (numOf d) := rfl
        have t5 : ([a, b, c, d] : List Str)[3]? = some d := rfl
        rw [t3, t4, t5]
        by_cases hd : d = "-"
        · have c3 : w = "order" ∧ some d = some ("-" : Str) := ⟨ho, by rw [hd]⟩
          rw [if_pos c3]
          have t6 : ([a, b, c, d].take 3).map numOf = [numOf a, numOf b, numOf c] := rfl
          rw [t6]
          by_cases hn : none ∈ [numOf a, numOf b, numOf c]
          · rw [if_pos hn, decide_eq_false (fun z => z hn)]
            rfl
          · have c4 : ¬ (some (numOf d) = some none ∧ some d ≠ some ("-" : Str)) := fun z => z.2 c3.2
            rw [if_neg hn, if_neg c4, decide_eq_true hn]
            rfl
        · have c3 : ¬ (w = "order" ∧ some d = some ("-" : Str)) := fun z => hd (Option.some.inj z.2)
          rw [if_neg c3]
          have t6 : [a, b, c, d].map numOf = [numOf a, numOf b, numOf c] ++ [numOf d] := rfl
          rw [t6]
          by_cases hn : none ∈ [numOf a, numOf b, numOf c]
          · rw [if_pos hn, decide_eq_false (fun z => z (List.mem_append_left _ hn))]
            rfl
          · rw [if_neg hn]
            by_cases h5 : numOf d = none
            · have c4 : some (numOf d) = some none ∧ some d ≠ some ("-" : Str) := ⟨by rw [h5], fun z => hd (Option.some.inj z)⟩
              rw [if_pos c4, decide_eq_false (fun z => z (List.mem_append_right _ (by rw [h5]; exact List.mem_singleton.mpr rfl)))]
              rfl
            · have c4 : ¬ (some (numOf d) = some none ∧ some d ≠ some ("-" : Str)) := fun z => h5 (Option.some.inj z.1)
              have c5 : none ∉ [numOf a, numOf b, numOf c] ++ [numOf d] := fun z => by
                rcases List.mem_append.mp z with z | z
                · exact hn z
                · exact h5 (List.mem_singleton.mp z).symm
              rw [if_neg c4, decide_eq_true c5]
              rfl
      · have c1 : (((some (4 : Int)) = none ∧ w ≠ "memory") ∨ (some (4 : Int)).getD (r.length : Int) ≠ (r.length : Int)) := .inr (by show (4 : Int) ≠ _; omega)
        have c2 : (r.map numOf).length ≠ 4 := by
          rw [List.length_map]
          exact h4
        rw [if_pos c1, if_pos c2]
        rfl
    · have hl : lawL.lookup w = countsL.lookup w := by
        show ((("order" : Str), (4 : Int)) :: countsL).lookup w = _
        rw [look_cons, if_neg ho]
      have c0 : ¬ (w = "order" ∧ r[3]? = some ("-" : Str)) := fun z => ho z.1
      rw [hl, if_neg ho, if_neg c0]
      rw [List.length_map]
      by_cases hm : w = "memory"
      · have hn : countsL.lookup w = none := by
          rw [hm]
          decide +kernel
        have c1 : ¬ ((countsL.lookup w = none ∧ w ≠ "memory") ∨ (countsL.lookup w).getD (r.length : Int) ≠ (r.length : Int)) := by
          rintro (⟨_, z⟩ | z)
          · exact z hm
          · exact z (by rw [hn]; rfl)
        have c2 : ¬ (w ≠ "memory" ∧ countOf w ≠ (r.length : Int)) := fun z => z.1 hm
        rw [if_neg c1, if_neg c2]
        by_cases h3 : none ∈ r.map numOf
        · rw [if_pos h3, decide_eq_false (fun z => z h3)]
          rfl
        · rw [if_neg h3, decide_eq_true h3]
          rfl
      · have hcc : countOf w = (countsL.lookup w).getD (-1) := rfl
        rw [hcc]
        cases hc : countsL.lookup w with
        | none =>
          have c1 : ((none : Option Int) = none ∧ w ≠ "memory") ∨ (none : Option Int).getD (r.length : Int) ≠ (r.length : Int) := .inl ⟨rfl, hm⟩
          have c2 : w ≠ "memory" ∧ (none : Option Int).getD (-1) ≠ (r.length : Int) := ⟨hm, by show (-1 : Int) ≠ _; omega⟩
          rw [if_pos c1, if_pos c2]
          by_cases h3 : none ∈ r.map numOf
          · rw [if_pos h3]
            rfl
          · rw [if_neg h3]
            rfl
        | some k =>
          by_cases hk : k = (r.length : Int)
          · have c1 : ¬ (((some k : Option Int) = none ∧ w ≠ "memory") ∨ (some k : Option Int).getD (r.length : Int) ≠ (r.length : Int)) := by
              rintro (⟨z, _⟩ | z)
              · cases z
              · exact z hk
            have c2 : ¬ (w ≠ "memory" ∧ (some k : Option Int).getD (-1) ≠ (r.length : Int)) := fun z => z.2 hk
            rw [if_neg c1, if_neg c2]
            by_cases h3 : none ∈ r.map numOf
            · rw [if_pos h3, decide_eq_false (fun z => z h3)]
              rfl
            · rw [if_neg h3, decide_eq_true h3]
              rfl
          · have c1 : ((some k : Option Int) = none ∧ w ≠ "memory") ∨ (some k : Option Int).getD (r.length : Int) ≠ (r.length : Int) := .inr hk
            have c2 : w ≠ "memory" ∧ (some k : Option Int).getD (-1) ≠ (r.length : Int) := ⟨hm, hk⟩
            rw [if_pos c1, if_pos c2]
            by_cases h3 : none ∈ r.map numOf
            · rw [if_pos h3]
              rfl
            · rw [if_neg h3]
              rfl
end BC
/-! BCOrd: chains of comparisons, str of an optional number, boards by a law's own words. -/
namespace BC
open PySem PySem.Spec PyProof.Rows L2 TL
section
variable {σ : L2.St} {H : Hp} {Q : VK} {ta tb tc : TE} {r1 r2 : R2}
theorem st_chain (h : ta σ H fun x H1 => tb σ H1 fun y H2 => r1 x y H2 fun a H3 => ∃ c, a = .bl c ∧ if c = true then tc σ H3 fun z H4 => r2 y z H4 Q else Q (.bl false) H3) : tChain r1 r2 ta tb tc σ H Q := h
end
def noneS : Option Int → Str
  | none => "None"
  | some i => numS i
def rStrO : List V → Hp → VK → Prop := fun xs H Q => ∃ o : Option Int, xs = [vOpt o] ∧ (∀ i, o = some i → i.natAbs.log2 < 1920) ∧ Q (.str (noneS o)) H
theorem c_strO {X : Cx} : CallR X (.type "str") rStrO := by
  intro pins s σ H xs us Q I r h
  obtain ⟨o, rfl, hz, q⟩ := h
  cases o with
  | none =>
    obtain ⟨u, rfl, ru⟩ := r.one
    cases (show u = Value.none from ru)
    exact PySem.P.str_of_none ⟨.str _, H, I.tok _, ⟨_, rfl⟩, q⟩
  | some i =>
    obtain ⟨u, rfl, ru⟩ := r.one
    obtain ⟨t, rfl⟩ := (show ∃ t, u = Value.int i t from ru)
    exact PySem.P.str_of_int (hz i rfl) ⟨.str _, H, I.tok _, ⟨_, rfl⟩, q⟩
theorem st_strO {o : Option Int} {H : Hp} {Q : VK} (h : ∀ i, o = some i → Sm i) (q : Q (.str (noneS o)) H) : rStrO [vOpt o] H Q := by
  refine ⟨o, rfl, fun i hi => ?_, q⟩
  obtain ⟨n, hn, rfl⟩ := (h i hi).nat
  have : ((n : Int)).natAbs = n := rfl
  rw [this]
  exact Nat.lt_of_le_of_lt (Nat.log2_le_self n) (by omega)
/-! ### what the law tells of a board -/
def ofD (b : RB) : PyData := match boardFault b with
  | some (w, n) => .tuple [.str "BadBoard", .str w, .int (n : Int)]
  | none => .tuple [.str "told", pyB b, .int 0]
theorem dueD_st {t : Str} {b : RB} (h : readOf t = .st b) : dueD t = ofD b := by
  unfold dueD ofD
  rw [h] <;> rfl
theorem dueD_bad {t : Str} {n : Nat} (h : readOf t = .bad n) : dueD t = .tuple [.str "BadText", .str "", .int (n : Int)] := by
  unfold dueD
  rw [h]
/-- the bounds of a deed's numbers -/
def bounds (cells many : Nat) : List (Str × List Int) := [("set", [(cells : Int), 10]), ("add", [(cells : Int), (cells : Int)]), ("say", [(cells : Int)]), ("start", [(many : Int)]), ("wait", []), ("clean", [((cells / 4 : Nat) : Int)]), ("drop", [((cells / 4 : Nat) : Int)])]
theorem deedOk_bounds {cells many : Nat} {d : RDeed} (hc : countsL.lookup d.1 = some (d.2.length : Int)) (hp : ∀ n ∈ d.2, 0 ≤ n) :
    ∃ bs, (bounds cells many).lookup d.1 = some bs ∧ bs.length = d.2.length ∧ deedOk cells many d = ((List.range d.2.length).all fun k => decide (d.2.getD k 0 < bs.getD k 0)) := by
  obtain ⟨w, ns⟩ := d
  have hw := lookup_words hc
  simp only at hc hp hw ⊢
  have one : ∀ (l : Nat), countsL.lookup w = some (l : Int) → ns.length = l := fun l h => by
    rw [h] at hc
    have := Option.some.inj hc
    omega
  simp only [List.mem_cons, List.not_mem_nil, or_false] at hw
  rcases hw with rfl | rfl | rfl | rfl | rfl | rfl | rfl
  · have h2 := one 2 (by decide +kernel)
    match ns, h2 with
    | [a, b], _ =>
      have ha := hp a (by simp)
      have hb := hp b (by simp)
      refine ⟨[(cells : Int), 10], rfl, rfl, ?_⟩
      rw [Bool.eq_iff_iff]
      simp [deedOk, ofS_inj, List.range_succ, List.all_append]
      omega
  · have h2 := one 2 (by decide +kernel)
    match ns, h2 with
    | [a, b], _ =>
      have ha := hp a (by simp)
      have hb := hp b (by simp)
      refine ⟨[(cells : Int), (cells : Int)], rfl, rfl, ?_⟩
      rw [Bool.eq_iff_iff]
      simp [deedOk, ofS_inj, List.range_succ, List.all_append]
      omega
  · have h2 := one 1 (by decide +kernel)
    match ns, h2 with
    | [a], _ =>
      have ha := hp a (by simp)
      refine ⟨[(cells : Int)], rfl, rfl, ?_⟩
      rw [Bool.eq_iff_iff]
      simp [deedOk, ofS_inj, List.range_succ, List.all_append]
      omega
  · have h2 := one 1 (by decide +kernel)
    match ns, h2 with
    | [a], _ =>
      have ha := hp a (by simp)
      refine ⟨[(many : Int)], rfl, rfl, ?_⟩
      rw [Bool.eq_iff_iff]
      simp [deedOk, ofS_inj, List.range_succ, List.all_append]
      omega
  · have h2 := one 0 (by decide +kernel)
    match ns, h2 with
    | [], _ =>
      refine ⟨[], rfl, rfl, ?_⟩
      rw [Bool.eq_iff_iff]
      simp [deedOk, ofS_inj]
  · have h2 := one 1 (by decide +kernel)
    match ns, h2 with
    | [a], _ =>
      have ha := hp a (by simp)
      refine ⟨[((cells / 4 : Nat) : Int)], rfl, rfl, ?_⟩
      rw [Bool.eq_iff_iff]
      simp [deedOk, ofS_inj, List.range_succ, List.all_append]
      omega
  · have h2 := one 1 (by decide +kernel)
    match ns, h2 with
    | [a], _ =>
      have ha := hp a (by simp)
      refine ⟨[((cells / 4 : Nat) : Int)], rfl, rfl, ?_⟩
      rw [Bool.eq_iff_iff]
      simp [deedOk, ofS_inj, List.range_succ, List.all_append]
      omega
/-- an order, of numbers not below nought -/
theorem ordOk_law {cells many i : Nat} {o : ROrd} (h1 : 0 ≤ o.1) (h2 : 0 ≤ o.2.1) : ordOk cells many i o = (decide (1 ≤ o.2.2.1 ∧ o.2.2.1 ≤ 8) && (!decide ((cells : Int) < o.1 + o.2.2.1) && (!decide ((cells : Int) < o.2.1 + o.2.2.1) && (match o.2.2.2 with
    | none => true
    | some l => decide ((i : Int) < l ∧ l < (many : Int)))))) := by
  obtain ⟨a, b, c, l⟩ := o
  simp only at h1 h2 ⊢
  unfold ordOk
  rw [Bool.eq_iff_iff]
  cases l with
  | none => simp; omega
  | some l => simp; omega
theorem memFault_law {m : List Int} (hp : ∀ n ∈ m, 0 ≤ n) (h : m.length = 4 ∨ m.length = 8 ∨ m.length = 12 ∨ m.length = 16) : memFault m = ((List.range m.length).filter fun k => decide (9 < m.getD k 0)).head? := by
  unfold memFault
  rw [if_neg (by omega)]
  have key : ∀ (m : List Int) (o : Nat), (∀ n ∈ m, 0 ≤ n) → (m.findIdx? fun n => !digit n).map (· + o) = (((List.range m.length).map (· + o)).filter fun k => decide (9 < m.getD (k - o) 0)).head? := by
    intro m
    induction m with
    | nil => intro o _; rfl
    | cons n m ih =>
      intro o hp
      have hn := hp n List.mem_cons_self
      rw [List.findIdx?_cons, List.length_cons, List.range_succ_eq_map, List.map_cons, List.filter_cons]
      have e0 : (n :: m).getD (0 + o - o) 0 = n := by
        rw [Nat.add_sub_cancel]
        rfl
      rw [e0]
      have hd : (!digit n) = decide (9 < n) := by
        unfold digit
        rw [Bool.eq_iff_iff]
        simp
        omega
      rw [hd]
      by_cases h9 : 9 < n
      · rw [decide_eq_true h9]
        simp
      · rw [decide_eq_false h9]
        simp only [Bool.false_eq_true, if_false]
        have := ih (o + 1) fun x hx => hp x (List.mem_cons_of_mem _ hx)
        rw [Option.map_map]
        have e1 : ((fun x : Nat => x + o) ∘ fun i => i + 1) = fun x => x + (o + 1) := by
          funext x
          simp
          omega
        rw [e1, this]
        congr 1
        rw [List.map_map]
        have e2 : ((fun x : Nat => x + o) ∘ Nat.succ) = fun x => x + (o + 1) := by
          funext x
          simp
          omega
        rw [e2]
        refine List.filter_congr fun k hk => ?_
        obtain ⟨x, _, rfl⟩ := List.mem_map.mp hk
        congr 2
        rw [Nat.add_sub_cancel, show x + (o + 1) - o = x + 1 by omega]
        rfl
  have := key m 0 hp
  simpa using this
theorem memFault_odd {m : List Int} (h : ¬ (m.length = 4 ∨ m.length = 8 ∨ m.length = 12 ∨ m.length = 16)) : memFault m = some 0 := by
  unfold memFault
  rw [if_pos (by omega)]
end BC
/-! BCSpo: texts that are spoilt. -/
namespace BC
open PySem PySem.Spec PyProof.Rows L2 TL
abbrev rSlX := C8.rSlX
theorem sl_txt {X : Cx} : SlR X rSlX := C8.sl_txt
theorem st_slX {z : Str} {lo hi : Option Int} {H : Hp} {Q : VK} (hz : z.length ≤ 1000000) (q : Q (.str (Txt.slice z lo hi)) H) : rSlX (.str z) lo hi H Q := ⟨z, rfl, Nat.le_trans hz (by decide), q⟩
/-- what a spoilt text keeps -/
def SpOk (t t' : Str) : Prop := t'.length ≤ 2 * t.length + 100 ∧ nls t' ≤ nls t + 1 ∧ okT t'
def lens (ps : List Str) : Nat := (ps.map (·.length)).sum
theorem lens_app (a b : List Str) : lens (a ++ b) = lens a + lens b := by
  unfold lens
  rw [List.map_append, List.sum_append]
theorem lens_cons (a : Str) (b : List Str) : lens (a :: b) = a.length + lens b := rfl
theorem lens_take (ps : List Str) (k : Nat) : lens (ps.take k) + lens (ps.drop k) = lens ps := by
  rw [← lens_app, List.take_append_drop]
theorem lens_drop (ps : List Str) (k j : Nat) : lens (ps.drop (k + j)) ≤ lens (ps.drop k) := by
  rw [← List.drop_drop]
  have := lens_take (ps.drop k) j
  omega
theorem spl_sum (s : Nat) : ∀ (l acc : List Nat), ((spl [s] 0 acc l).map List.length).sum ≤ acc.length + l.length
  | [], acc => by
    rw [spl_nil]
    simp
  | c :: r, acc => by
    rw [spl1]
    by_cases h : c = s
    · rw [if_pos h, List.map_cons, List.sum_cons]
      have := spl_sum s r []
      simp only [List.length_nil, List.length_cons] at this ⊢
      omega
    · rw [if_neg h]
      have := spl_sum s r (acc ++ [c])
      simp only [List.length_append, List.length_nil, List.length_cons] at this ⊢
      omega
theorem rows_lens (t : Str) : lens (Txt.split t "\n") ≤ t.length := by
  have e : (Txt.split t "\n").map (·.length) = ((Txt.split t "\n").map tl).map List.length := by
    rw [List.map_map]
    refine List.map_congr_left fun p _ => ?_
    exact len_tl p
  unfold lens
  rw [e, split_nl, len_tl]
  have := spl_sum 10 (tl t) []
  simpa using this
/-- the odd rows -/
def oddRows : List Str := ["", " ", "memory", "memory 0 0 0 0", "order", "order 0 0 1 -", "order 0 0 1", "order - 0 1 -", "order 0 0 1 0", "order 0 0 0 -", "wait", "wait 0", "Wait", "say", "say 0", "say 00", "say -", "say 99",
  "set 0", "set 0 9", "set 0 10", "add 0 0", "add 0 0 0", "start 0", "start 9", "clean 0", "clean 4", "drop 0", "drop  0", "drop 0 ", "stop 0"]
theorem odd_ok : oddRows.all (fun w => decide (w.length ≤ 20) && (tl w).all fun c => decide (c ≠ 10) && decide (c < 1114112)) = true := by decide +kernel
theorem odd_at {w : Str} (h : w ∈ oddRows) : w.length ≤ 20 ∧ nls w = 0 ∧ okT w := by
  have := List.all_eq_true.mp odd_ok w h
  simp only [Bool.and_eq_true, decide_eq_true_eq, List.all_eq_true] at this
  exact ⟨this.1, List.count_eq_zero.mpr fun z => (this.2 _ z).1 rfl, fun c z => (this.2 c z).2⟩
theorem row_ok {t p : Str} (ok : okT t) (h : p ∈ Txt.split t "\n" ∨ p ∈ oddRows) : nls p = 0 ∧ okT p := by
  rcases h with h | h
  · exact ⟨(rows_each t p h).2, ok.rows p h⟩
  · exact (odd_at h).2
theorem spo_rows {t : Str} {ps : List Str} (ok : okT t) (hn : nls t ≤ 70) (h : ∀ p ∈ ps, p ∈ Txt.split t "\n" ∨ p ∈ oddRows) (hl : lens ps ≤ 2 * t.length + 20) (hc : ps.length ≤ nls t + 2) : SpOk t (Txt.join "\n" ps) := by
  have h1 := join_len "\n" ps
  have h3 : ("\n" : Str).length = 1 := by decide +kernel
  rw [h3] at h1
  have h4 := nls_join ps fun p hp => (row_ok ok (h p hp)).1
  have : (ps.map fun x : Str => x.length).sum = lens ps := rfl
  exact ⟨by omega, by omega, okT.join fun p hp => (row_ok ok (h p hp)).2⟩
theorem spo_sum {ps : List Str} (hl : lens ps ≤ 500000) (hc : ps.length ≤ 400000) : (ps.map (·.length)).sum + ps.length * ("\n" : Str).length ≤ 1000000 := by
  have h3 : ("\n" : Str).length = 1 := by decide +kernel
  rw [h3]
  have : (ps.map fun x : Str => x.length).sum = lens ps := rfl
  omega
theorem spo_sign {t s : Str} {p k : Nat} (ok : okT t) (hp : p ≤ t.length) (hk : p ≤ k) (hs : s.length ≤ 1) (oks : okT s) : SpOk t (Txt.slice t none (some (p : Int)) ++ s ++ Txt.slice t (some (k : Int)) none) := by
  have e : tl (Txt.slice t none (some (p : Int)) ++ s ++ Txt.slice t (some (k : Int)) none) = (tl t).take p ++ tl s ++ (tl t).drop k := by
    rw [tl_append, tl_append, tl_to hp, tl_from]
  obtain ⟨j, rfl⟩ : ∃ j, k = p + j := ⟨k - p, by omega⟩
  have hls : (tl s).length ≤ 1 := by rw [← len_tl]; exact hs
  have hcs : (tl s).count 10 ≤ 1 := Nat.le_trans List.count_le_length hls
  have hd : ((tl t).drop (p + j)).count 10 ≤ ((tl t).drop p).count 10 := by
    rw [← List.drop_drop]
    exact (List.drop_sublist j _).count_le 10
  have hc : ((tl t).take p).count 10 + ((tl t).drop p).count 10 = (tl t).count 10 := by
    rw [← List.count_append, List.take_append_drop]
  refine ⟨?_, ?_, ?_⟩
  · rw [len_tl, e, len_tl t]
    simp only [List.length_append, List.length_take, List.length_drop]
    omega
  · unfold nls
    rw [e, List.count_append, List.count_append]
    omega
  · intro c hc
    rw [e] at hc
    rcases List.mem_append.mp hc with hc | hc
    · rcases List.mem_append.mp hc with hc | hc
      · exact ok c (List.mem_of_mem_take hc)
      · exact oks c hc
    · exact ok c (List.mem_of_mem_drop hc)
theorem slice_to_len {t : Str} {p : Nat} (h : p ≤ t.length) : (Txt.slice t none (some (p : Int))).length ≤ t.length := by
  rw [len_tl, tl_to h, len_tl t, List.length_take]
  omega
theorem slice_from_len (t : Str) (p : Nat) : (Txt.slice t (some (p : Int)) none).length ≤ t.length := by
  rw [len_tl, tl_from, len_tl t, List.length_drop]
  omega
/-- the signs that are put in -/
def signsT : Str := " 0123456789-\nabdeilmnoprstwy!#$&()*+,./:;<=>?@ABCDEFGHIJKLMNOPQRSTUVWXYZ[]^_`{|}~"
theorem signs_len : 13 ≤ signsT.length ∧ signsT.length ≤ 200 := by decide +kernel
theorem signs_ok : signsT.cps.toList.all (fun c => decide (c < 1114112)) = true := by decide +kernel
theorem okT_sign {c : Nat} (h : c < 1114112) : okT ⟨#[c]⟩ := fun d hd => by
  have : d ∈ [c] := hd
  rw [List.mem_singleton.mp this]
  exact h
theorem okT_empty : okT "" := fun c hc => by
  have : tl ("" : Str) = [] := by decide +kernel
  rw [this] at hc
  cases hc
theorem nls_text {b : RB} (sm : SmB b) : nls (textOf b) + 1 = (rowsW b).length := by
  rw [← rows_len, sm.split, List.length_map]
theorem text_len {b : RB} (sm : SmB b) (hm : b.mem.length ≤ 19) (hr : (rowsW b).length ≤ 13) : (textOf b).length ≤ 5500 := by
  have h1 := join_len "\n" ((rowsW b).map rowT)
  have h2 := sum_le (f := fun w : Str => w.length) (k := 420) (l := (rowsW b).map rowT) (sm.rowLen hm)
  have h3 : ("\n" : Str).length = 1 := by decide +kernel
  rw [h3] at h1
  rw [List.length_map] at h1 h2
  have : (rowsW b).length * 420 ≤ 13 * 420 := Nat.mul_le_mul_right _ hr
  have e : (((rowsW b).map rowT).map fun w : Str => w.length) = ((rowsW b).map rowT).map (·.length) := rfl
  unfold textOf
  omega
end BC
namespace BC
open PySem PySem.Spec PyProof.Rows L2 TL
theorem gets_len (ns : List (Option Int)) : (gets ns).length = ns.length := by
  unfold gets
  rw [List.length_map]
/-- short -/
structure Sml (L i : Nat) (b : RB) : Prop where
  nice : Nice b
  mem : b.mem.length ≤ L
  ords : b.ords.length ≤ i
  prog : b.prog.length ≤ i
theorem Sml.row {L i : Nat} {b b' : RB} {ws : List Str} (g : Sml L i b) (hl : ws.length ≤ L) (h : readRow i b ws = some b') : Sml L (i + 1) b' := by
  have nice := g.nice.row h
  have g1 := g.mem
  have g2 := g.ords
  have g3 := g.prog
  unfold readRow at h
  cases e : rowOf ws with
  | none =>
    rw [e] at h
    cases h
  | some q =>
    obtain ⟨w, ns⟩ := q
    rw [e] at h
    simp only at h
    obtain ⟨r, rfl, rfl, hw⟩ := rowOf_inv e
    rw [List.length_cons] at hl
    split at h
    · cases h
    · split at h
      · cases h
      · split at h
        · cases h
          refine ⟨nice, ?_, ?_, ?_⟩
          · show (gets (r.map numOf)).length ≤ L
            rw [gets_len, List.length_map]
            omega
          · show b.ords.length ≤ i + 1
            omega
          · show b.prog.length ≤ i + 1
            omega
        · split at h
          · cases h
            refine ⟨nice, g1, ?_, ?_⟩
            · show (b.ords ++ [_]).length ≤ i + 1
              rw [List.length_append]
              exact Nat.add_le_add_right g2 1
            · show b.prog.length ≤ i + 1
              omega
          · cases h
            refine ⟨nice, g1, ?_, ?_⟩
            · show b.ords.length ≤ i + 1
              omega
            · show (b.prog ++ [_]).length ≤ i + 1
              rw [List.length_append]
              exact Nat.add_le_add_right g3 1
theorem Sml.rows {L : Nat} {b' : RB} : ∀ {ps : List Str} {i : Nat} {b : RB}, (∀ p ∈ ps, p.length + 1 ≤ L) → Sml L i b → readRows i b ps = .st b' → Sml L (i + ps.length) b'
  | [], i, b, _, g, h => by
    cases h
    exact g
  | p :: ps, i, b, hp, g, h => by
    have h : (match readRow i b (Txt.split p " ") with | none => Rd.bad i | some b' => readRows (i + 1) b' ps) = .st b' := h
    cases e : readRow i b (Txt.split p " ") with
    | none =>
      rw [e] at h
      cases h
    | some b1 =>
      rw [e] at h
      have g1 := g.row (Nat.le_trans (words_len p) (hp p List.mem_cons_self)) e
      have := Sml.rows (fun q hq => hp q (List.mem_cons_of_mem _ hq)) g1 h
      rw [List.length_cons, show i + (ps.length + 1) = i + 1 + ps.length by omega]
      exact this
theorem al_dueD {t : Str} (ht : t.length ≤ 40000) : Al 4 (dueD t) := by
  have w2 : PyData.strOk "BadText" = true := by decide +kernel
  have w3 : PyData.strOk "BadBoard" = true := by decide +kernel
  have w4 : PyData.strOk "told" = true := by decide +kernel
  have w5 : PyData.strOk "" = true := by decide +kernel
  have w6 : PyData.strOk "memory" = true := by decide +kernel
  have w7 : PyData.strOk "orders" = true := by decide +kernel
  have w8 : PyData.strOk "program" = true := by decide +kernel
  have three : ∀ {n : Nat} {a b c : PyData}, Al n a → Al n b → Al n c → Al (n + 1) (.tuple [a, b, c]) := fun ha hb hc => al_tup (by simp) fun e he => by
    simp only [List.mem_cons, List.not_mem_nil, or_false] at he
    rcases he with rfl | rfl | rfl
    · exact ha
    · exact hb
    · exact hc
  cases h : readOf t with
  | bad n =>
    rw [dueD_bad h]
    exact three (al_str w2) (al_str w5) al_int
  | st b =>
    rw [dueD_st h]
    have g : Sml 50000 (0 + (Txt.split t "\n").length) b := Sml.rows (fun p hp => by have := (rows_each t p hp).1; omega) ⟨Nice.nil, by simp, by simp, by simp⟩ h
    have hr := rows_len t
    have hn : nls t ≤ t.length := by
      unfold nls
      rw [len_tl]
      exact List.count_le_length
    unfold ofD
    cases hf : boardFault b with
    | none =>
      have := g.mem
      have := g.ords
      have := g.prog
      exact three (al_str w4) (al_due (t := t) g.nice (by omega) (by omega) (by omega)) al_int
    | some q =>
      obtain ⟨w, n⟩ := q
      have hw : w = "memory" ∨ w = "orders" ∨ w = "program" := by
        unfold boardFault at hf
        split at hf
        · cases hf
          exact .inl rfl
        · split at hf
          · cases hf
            exact .inr (.inl rfl)
          · obtain ⟨k, _, hk⟩ := Option.map_eq_some_iff.mp hf
            cases hk
            exact .inr (.inr rfl)
      refine three (al_str w3) ?_ al_int
      rcases hw with rfl | rfl | rfl
      · exact al_str w6
      · exact al_str w7
      · exact al_str w8
end BC
/-! BCFen: fences that cannot be, boards that are too long: plain data. -/
namespace BC
open PySem PySem.Spec PyProof.Rows L2
theorem deedOk_wait (cells n : Nat) : deedOk cells n (("wait" : Str), []) = true := by simp [deedOk]
theorem take_filter_le {α : Type} (p : α → Bool) (l : List α) (k : Nat) : ((l.take k).filter p).length ≤ (l.filter p).length := ((List.take_sublist k l).filter p).length_le
theorem ord_none {b : RB} (g : RGood b) : firstBad b.ords.length (ordBad b) = none := firstBad_none fun j hj => by
  unfold ordBad
  have ho := List.getElem?_eq_getElem hj
  rw [ho, decide_eq_false (by have := g.ords.1; omega)]
  show (false || !(ordOk b.mem.length b.ords.length j _)) = false
  rw [g.ords.2 j _ ho]
  rfl
theorem fault_none {b : RB} (g : RGood b) : boardFault b = none := by
  rw [fault_prog g.mem (ord_none g) (firstBad_none (n := b.prog.length) (bad := progBad b) fun j hj => ?_)]
  · rfl
  · have h1 := g.prog.1
    have hd := List.getElem?_eq_getElem hj
    have h3 := take_filter_le isStart b.prog (j + 1)
    have h4 := g.prog.2.2
    unfold progBad
    rw [hd, decide_eq_false (by omega), decide_eq_false (by omega)]
    show (false || !(deedOk b.mem.length b.ords.length _) || false) = false
    rw [g.prog.2.1 _ (List.mem_of_getElem? hd)]
    rfl
/-! ### fences -/
def fBad (b : RB) (fs : List RF) (i : Nat) : Bool := decide (30 ≤ i) || !(fs[i]?.any (fenceOk b))
theorem fBad_fine {b : RB} {fs : List RF} {i : Nat} {f : RF} (h : fs[i]? = some f) (hi : i < 30) (ok : fenceOk b f = true) : fBad b fs i = false := by
  unfold fBad
  rw [h, decide_eq_false (by omega)]
  show (false || !(fenceOk b f)) = false
  rw [ok]
  rfl
theorem fBad_at {b : RB} {fs : List RF} {i : Nat} {f : RF} (h : fs[i]? = some f) (bad : 30 ≤ i ∨ fenceOk b f = false) : fBad b fs i = true := by
  unfold fBad
  rw [h]
  rcases bad with z | z
  · rw [decide_eq_true z]
    rfl
  · show (_ || !(fenceOk b f)) = true
    rw [z]
    simp
/-- all fine -/
theorem fences_fine {b : RB} {fs : List RF} (hl : fs.length ≤ 30) (ok : ∀ f ∈ fs, fenceOk b f = true) : firstBad fs.length (fBad b fs) = none := firstBad_none fun j hj => by
  have h := List.getElem?_eq_getElem hj
  exact fBad_fine h (by omega) (ok _ (List.mem_of_getElem? h))
/-- one that cannot be, behind fine ones -/
theorem fences_bad {b : RB} {xs ys : List RF} {f : RF} (hl : xs.length ≤ 30) (ok : ∀ f ∈ xs, fenceOk b f = true) (hf : fenceOk b f = false) : firstBad (xs ++ [f] ++ ys).length (fBad b (xs ++ [f] ++ ys)) = some xs.length := by
  refine firstBad_at (by simp only [List.length_append, List.length_cons]; omega) ?_ fun j hj => ?_
  · refine fBad_at (f := f) ?_ (.inr hf)
    rw [List.append_assoc, List.getElem?_append_right (Nat.le_refl _), Nat.sub_self]
    rfl
  · have h : (xs ++ [f] ++ ys)[j]? = some xs[j] := by
      rw [List.append_assoc, List.getElem?_append_left hj]
      exact List.getElem?_eq_getElem hj
    exact fBad_fine h (by omega) (ok _ (List.getElem_mem hj))
/-- too many -/
theorem fences_many {b : RB} {f : RF} {n : Nat} (hn : 31 ≤ n) (ok : fenceOk b f = true) : firstBad (List.replicate n f).length (fBad b (List.replicate n f)) = some 30 := by
  have at' : ∀ j, j < n → (List.replicate n f)[j]? = some f := fun j hj => by rw [List.getElem?_replicate, if_pos hj]
  refine firstBad_at (by rw [List.length_replicate]; omega) (fBad_at (at' 30 (by omega)) (.inl (Nat.le_refl _))) fun j hj => fBad_fine (at' j (by omega)) (by omega) ok
/-- the eleven that cannot be -/
def someBad (many lines : Nat) (far : Int) : List RF :=
  ([(0, "say", [0]), (0, "start", [0]), (0, "set", [0, 1]), (-1, "wait", []), (0, "drop", [-1])] : List RF) ++ ([((many : Int) + 1, "wait", []), ((many : Int) + 1 + far, "clean", [0]), (0, "clean", [(lines : Int)])] : List RF) ++ ([(0, "wait", [0]), (0, "clean", []), (0, "none", [0])] : List RF)
theorem some_bad {b : RB} {far : Int} (h0 : 0 ≤ far) : ∀ f ∈ someBad b.prog.length (b.mem.length / 4) far, fenceOk b f = false := fun f hf => by
  simp only [someBad, List.cons_append, List.nil_append, List.mem_cons, List.not_mem_nil, or_false] at hf
  rcases hf with rfl | rfl | rfl | rfl | rfl | rfl | rfl | rfl | rfl | rfl | rfl
  all_goals
    simp [fenceOk, deedOk, ofS_inj]
  all_goals omega
/-! ### the board that is too long -/
def longB (b : RB) : RB := ⟨b.mem, b.ords, List.replicate 55 (("wait" : Str), [])⟩
def six : List RF := List.replicate 6 ((0 : Int), ("wait" : Str), [])
theorem long_good {b : RB} (g : RGood b) : RGood (longB b) := ⟨g.mem, g.ords, by show (List.replicate 55 _).length ≤ 60; rw [List.length_replicate]; decide, fun d hd => by
  rw [List.eq_of_mem_replicate hd]
  exact deedOk_wait _ _, by show ((List.replicate 55 ((("wait" : Str), []) : RDeed)).filter isStart).length ≤ 3; decide +kernel⟩
theorem six_ok (b : RB) : ∀ f ∈ six, fenceOk b f = true := fun f hf => by
  rw [List.eq_of_mem_replicate hf]
  have h1 : ((0 : Int) ≤ (0 : Int)) ∧ (0 : Int) ≤ (b.prog.length : Int) := ⟨Int.le_refl _, Int.natCast_nonneg _⟩
  have h2 : ((("wait" : Str) = "wait") ∨ (("wait" : Str) = "clean") ∨ (("wait" : Str) = "drop")) := .inl rfl
  show (decide _ && (decide _ && deedOk _ _ (("wait" : Str), []))) = true
  rw [decide_eq_true h1, decide_eq_true h2, deedOk_wait]
  rfl
theorem long_put : putIn (List.replicate 55 (("wait" : Str), [])) six = List.replicate 61 (("wait" : Str), []) := by decide +kernel
theorem long_fault {b : RB} (g : RGood b) : boardFault ⟨b.mem, b.ords, putIn (longB b).prog six⟩ = some (("program" : Str), 60) := by
  rw [show (⟨b.mem, b.ords, putIn (longB b).prog six⟩ : RB) = ⟨b.mem, b.ords, List.replicate 61 (("wait" : Str), [])⟩ from by show (⟨b.mem, b.ords, putIn (List.replicate 55 _) six⟩ : RB) = _; rw [long_put]]
  have h2 : firstBad b.ords.length (ordBad ⟨b.mem, b.ords, List.replicate 61 (("wait" : Str), [])⟩) = none := ord_none (b := b) g
  rw [fault_prog (b := ⟨b.mem, b.ords, List.replicate 61 (("wait" : Str), [])⟩) g.mem h2 (firstBad_at (i := 60) (by rw [List.length_replicate]; decide) ?_ fun j hj => ?_)]
  · rfl
  · unfold progBad
    rw [decide_eq_true (Nat.le_refl 60)]
    rfl
  · have hn : ∀ k, ((List.replicate k ((("wait" : Str), []) : RDeed)).filter isStart).length = 0 := fun k => by
      rw [List.filter_eq_nil_iff.mpr fun d hd => by rw [List.eq_of_mem_replicate hd]; decide +kernel]
      rfl
    unfold progBad
    rw [decide_eq_false (by omega)]
    show (false || !((List.replicate 61 ((("wait" : Str), []) : RDeed))[j]?.any _) || decide (3 < (((List.replicate 61 ((("wait" : Str), []) : RDeed)).take (j + 1)).filter isStart).length)) = false
    rw [List.getElem?_replicate, if_pos (by omega), List.take_replicate, hn, decide_eq_false (by decide)]
    show (false || !(deedOk b.mem.length b.ords.length (("wait" : Str), [])) || false) = false
    rw [deedOk_wait]
    rfl
theorem st_repL {H : Hp} {Q : VK} {l : Addr} {v : V} {d : PyData} {n : Nat} (h : H l = some (.lst [v])) (i : Im H d v) (hn : n ≤ 1000) (q : ∀ p H2, H p = none → Ex H H2 → H2 p = some (.lst (List.replicate n v)) → ImL H2 (List.replicate n d) (List.replicate n v) → Q (.ref p) H2) : rRep (.ref l) (.int (n : Int)) H Q := by
  have e : (List.replicate ((n : Int)).toNat [v]).flatten = List.replicate n v := by
    rw [Int.toNat_natCast]
    simp
  refine ⟨l, n, [v], rfl, rfl, h, by omega, by omega, ?_, fun p hp => ?_⟩
  · rw [Int.toNat_natCast, List.length_cons, List.length_nil, Nat.zero_add, Nat.one_mul]
    exact Nat.le_trans hn (by rw [sizeLine_eq]; decide)
  · rw [e]
    exact q p _ hp (Ex.new hp) upd_same ((iml_rep i n).ex (Ex.new hp))
/-- the fences with one that cannot be -/
abbrev badList (fs : List RF) (k : Nat) (f : RF) (m : Nat) : List RF := fs.take k ++ [f] ++ fs.drop k ++ List.replicate m ((0 : Int), ("none" : Str), ([0] : List Int))
theorem badList_first {b : RB} {fs : List RF} {k m : Nat} {f : RF} (hk : k ≤ fs.length) (hl : fs.length ≤ 30) (ok : ∀ f ∈ fs, fenceOk b f = true) (hf : fenceOk b f = false) : firstBad (badList fs k f m).length (fBad b (badList fs k f m)) = some k := by
  have h := fences_bad (b := b) (xs := fs.take k) (ys := fs.drop k ++ List.replicate m ((0 : Int), ("none" : Str), ([0] : List Int))) (f := f) (by rw [List.length_take]; omega) (fun f hf => ok f (List.mem_of_mem_take hf)) hf
  rw [List.length_take, Nat.min_eq_left hk, ← List.append_assoc] at h
  exact h
theorem badList_len {fs : List RF} {k m : Nat} {f : RF} (hk : k ≤ fs.length) : (badList fs k f m).length = fs.length + 1 + m := by
  simp only [List.length_append, List.length_take, List.length_drop, List.length_cons, List.length_nil, List.length_replicate]
  omega
end BC
/-! BCLam: lambdas (with or without one written default) as values, called without arguments. -/
namespace BC
open PySem PySem.Spec PyProof.Rows L2 LamX NdefX
/-- the object at f is the lambda with the words of F and this body, its defaults at dV -/
def LamO (f : Addr) (F : NF) (body : Expr) (dV : Value) : HO := .ext fun h => ∃ doc pm ctv : Value, h.get? f = some (PySem.W.kdv_obj F.name F.qual F.params (.expr body) F.scope F.cl dV doc pm F.c ctv)
theorem lamO_at {P : Program} {w : World} {H : Hp} {h : Heap} {f : Addr} {F : NF} {body : Expr} {dV : Value} (hok : HOk P w H h) (e : H f = some (LamO f F body dV)) :
    ∃ doc pm ctv : Value, h.get? f = some (PySem.W.kdv_obj F.name F.qual F.params (.expr body) F.scope F.cl dV doc pm F.c ctv) := (hok f _ e).1
/-- what stands at dV: no defaults, or a tuple of these -/
def DfV (H : Hp) (dV : Value) (dvs : List V) : Prop := (dvs = [] ∧ dV = .none) ∨ (dvs ≠ [] ∧ ∃ D : Addr, dV = .ref D ∧ H D = some (.tup dvs))
theorem DfV.kp {H H' : Hp} {dV : Value} {dvs : List V} (d : DfV H dV dvs) (k : Kp H H') : DfV H' dV dvs := by
  rcases d with d | ⟨z, D, e, h⟩
  · exact .inl d
  · exact .inr ⟨z, D, e, k _ _ h⟩
abbrev lamF (q : Str) (params : Arguments) (scope : Scope) (cells : List (Str × Addr)) (c' : Addr) : NF := ⟨"<lambda>", q ++ "<lambda>", params, [], scope, cloFrom cells scope.names [], c'⟩
section
variable {X : Cx} {pins : List (Addr × Obj)} {σ : L2.St} {H : Hp} {s : Shared}
/-- a lambda's object just made is known from now on -/
theorem inv_lam {F : NF} {body : Expr} {dV : Value} {t' : Nat} {doc pm ctv : Value} (I : Inv X pins σ H s) :
    Inv X pins σ (upd H s.heap.objs.size (LamO s.heap.objs.size F body dV)) { s with heap := s.heap.push (PySem.W.kdv_obj F.name F.qual F.params (.expr body) F.scope F.cl dV doc pm F.c ctv), toks := t' } := by
  have at' := Heap.get?_push_size (h := s.heap) (o := PySem.W.kdv_obj F.name F.qual F.params (.expr body) F.scope F.cl dV doc pm F.c ctv) rfl
  exact I.laid (fun b u e => Heap.get?_push_of_some _ e) (Nat.le_refl _) ⟨⟨doc, pm, ctv, at'⟩, ⟨_, at'⟩, fun h1 h2 ⟨a, b, c, z⟩ st => ⟨a, b, c, st _ z⟩⟩
/-- what the making of a lambda gives -/
def LamNew (X : Cx) (P : Addr) (T : List NTab) (params : Arguments) (scope : Scope) (body : Expr) (dV : Value) (H : Hp) (f c' : Addr) (H1 : Hp) : Prop :=
  Fr [P] H H1 ∧ Kp H H1 ∧ (∀ b, H1 b = Option.none → H b = Option.none) ∧ TabsN T H1 ∧ H f = none ∧ H1 f = some (LamO f (lamF X.env.qual params scope X.env.cells c') body dV) ∧ H1 c' = some (CodeO c' (X.env.qual ++ "<lambda>"))
theorem lam_tail {T : List NTab} {nm : Nat → Nat → Str} {c P : Addr} {params : Arguments} {body : Expr} {scope : Scope} {pos : Pos} {dV : Value} {E : Value → Shared → Prop} {Q : Value → Shared → Prop} (I : Inv X pins σ H s) (TB : TabB X.base X.mg c P) (hcode : X.env.code = .ref c)
    (hm : (P, nm) ∈ T) (hn : nm pos.line pos.col = X.env.qual ++ "<lambda>") (hu : ∀ p ∈ T, p.1 = P → p.2 = nm) (hT : TabsN T H) (hfree : ∀ y ∈ scope.names, y.2 = .free → ∃ c, X.env.cells.lookup y.1 = some c)
    (h : ∀ (f c' : Addr) (H1 : Hp) (s' : Shared), Inv X pins σ H1 s' → LamNew X P T params scope body dV H f c' H1 → Q (.ref f) s') :
    wpAny (model X.prog X.w) X.A (makeTail "<lambda>" (X.env.qual ++ "<lambda>") params (.expr body) scope X.env dV .none none pos pos.line) Q E s := by
  obtain ⟨ps, hP, ht, ha⟩ := (show TabN H P nm from hT _ hm)
  have bP : s.heap.BuiltinsAt X.mg P := TB.bm.keeps I.bk
  have hP' : s.heap.get? P = some { cls := .none, data := .fields ps } := I.hok P _ hP
  -- the last step: the lambda's object is laid
  have last : ∀ (H1 : Hp) (s1 : Shared) (c' : Addr) (doc ctv : Value) (tk : Tok), Inv X pins σ H1 s1 → Fr [P] H H1 → Kp H H1 → (∀ b, H1 b = Option.none → H b = Option.none) → TabsN T H1 → s.heap.objs.size ≤ s1.heap.objs.size → H1 c' = some (CodeO c' (X.env.qual ++ "<lambda>")) →
      Q (.ref s1.heap.objs.size) { s1 with heap := s1.heap.push (PySem.W.kdv_obj "<lambda>" (X.env.qual ++ "<lambda>") params (.expr body) scope (cloFrom X.env.cells scope.names []) dV doc ((X.mg "__name__").getD .none) c' ctv), toks := tk } := by
    intro H1 s1 c' doc ctv tk I1 f1 k1 n1 T1 hsz hc'
    have nF : H1 s1.heap.objs.size = none := I1.hok.fresh (Nat.le_refl _)
    have I2 := inv_lam (F := lamF X.env.qual params scope X.env.cells c') (body := body) (dV := dV) (t' := tk) (doc := doc) (pm := (X.mg "__name__").getD .none) (ctv := ctv) I1
    have up : Ex H1 (upd H1 s1.heap.objs.size (LamO s1.heap.objs.size (lamF X.env.qual params scope X.env.cells c') body dV)) := fun b o e => (upd_ne (ne_of_none e nF)).trans e
    exact h _ c' _ _ I2 ⟨f1.trans up.fr, k1.trans up.kp, fun b e => n1 b (upd_none e), T1.ext up, I.hok.fresh hsz, upd_same, up _ _ hc'⟩
  cases hc : codeAmong pos ps.toList with
  | none =>
    refine PySem.W.kdv_makeTail (mg := X.mg) (c := c) (P := P) (ps := ps) (closure_ok hfree) I.ok.glob (I.mod.glob.keeps I.bk) hcode (TB.code.keeps I.bk) hP' ht hc TB.gP bP fun c' ctv doc h' tk hx hge hlt hrec htb => ?_
    obtain ⟨_, oc, vs, t, e2, hoc, hd, hv⟩ := hrec
    cases e2
    have nC : H c' = none := I.hok.fresh hge
    have I1 := inv_table (t' := s.toks) (more := #[rawInt pos.line, rawInt pos.col, .ref c']) (h' := h') I hP hx htb hge ⟨oc, vs, t, hoc, hd, hv⟩
    have eL : (ps ++ #[rawInt pos.line, rawInt pos.col, .ref c']).toList = ps.toList ++ [rawInt pos.line, rawInt pos.col, .ref c'] := by simp
    have kept : ∀ b o, H b = some o → b ≠ P → upd (upd H P (.tbl (ps ++ #[rawInt pos.line, rawInt pos.col, .ref c']))) c' (CodeO c' (X.env.qual ++ "<lambda>")) b = some o := fun b o e n => by
      rw [upd_ne (ne_of_none e nC), upd_ne n]
      exact e
    have notP : ∀ {b : Addr} {o : HO}, H b = some o → (∀ q, o ≠ .tbl q) → b ≠ P := fun {b o} e n z => by
      rw [z, hP] at e
      exact n ps (Option.some.inj e).symm
    refine last _ { s with heap := h' } c' doc ctv tk I1 (fun b o e n => kept b o e (by simpa using n)) (fun b xs e => kept b _ e (notP e fun q z => by cases z)) (fun b e => upd_none (upd_none e)) (fun p hp => ?_) (Nat.le_trans hge (Nat.le_of_lt hlt)) upd_same
    by_cases hb : p.1 = P
    · rw [hu p hp hb, hb]
      refine ⟨_, by rw [upd_ne (ne_of_none hP nC), upd_same], by rw [eL]; exact PySem.TriplesOk_snoc _ _ _ _ ht, fun p' cv hcv => ?_⟩
      rw [eL] at hcv
      rcases among_app2 _ ht hcv with z | ⟨z, z1, z2⟩
      · obtain ⟨c0, e1, e2⟩ := ha p' cv z
        exact ⟨c0, e1, kept _ _ e2 (notP e2 codeO_ne)⟩
      · exact ⟨c', z, by rw [← z1, ← z2, hn]; exact upd_same⟩
    · obtain ⟨qs, a1, a2, a3⟩ := hT p hp
      refine ⟨qs, kept _ _ a1 hb, a2, fun p' cv hcv => ?_⟩
      obtain ⟨c0, e1, e2⟩ := a3 p' cv hcv
      exact ⟨c0, e1, kept _ _ e2 (notP e2 codeO_ne)⟩
  | some cv =>
    obtain ⟨c', rfl, hco⟩ := ha pos cv hc
    rw [hn] at hco
    refine PySem.W.kdv_makeTailHit (mg := X.mg) (c := c) (P := P) (ps := ps) (closure_ok hfree) I.ok.glob (I.mod.glob.keeps I.bk) hcode (TB.code.keeps I.bk) hP' ht hc bP fun ctv doc h' tk hx hsz => ?_
    exact last H { s with heap := h' } c' doc ctv tk (I.kept hx) (Fr.refl _ _) (Kp.refl _) (fun _ e => e) hT hsz hco
end
/-! ### a lambda as a value -/
/-- the reading: its object is new -/
def tLamV (X : Cx) (P : Addr) (T : List NTab) (params : Arguments) (scope : Scope) (body : Expr) (dvs : List V) : TE := fun _ H Q => TabsN T H ∧ ∀ (dV : Value) (f c' : Addr) (H0 H1 : Hp), Ex H H0 → DfV H0 dV dvs → LamNew X P T params scope body dV H0 f c' H1 → Q (.ref f) H1
section
variable {X : Cx}
theorem lam_frees (ok : X.Ok) {scope : Scope} (hfree : ∀ y ∈ scope.names, y.2 = .free → X.env.scope.names.lookup y.1 = some .cell ∨ X.env.scope.names.lookup y.1 = some .free) : ∀ y ∈ scope.names, y.2 = .free → ∃ c, X.env.cells.lookup y.1 = some c := fun y hy e => by
  rcases hfree y hy e with k | k
  · exact ok.has _ (.inl k)
  · exact ok.has _ (.inr k)
/-- without defaults -/
theorem pe_lam0 {T : List NTab} {nm : Nat → Nat → Str} {c P : Addr} {params : Arguments} {body : Expr} {scope : Scope} {pos : Pos} (TB : TabB X.base X.mg c P) (hcode : X.env.code = .ref c) (hm : (P, nm) ∈ T) (hn : nm pos.line pos.col = X.env.qual ++ "<lambda>") (hu : ∀ p ∈ T, p.1 = P → p.2 = nm)
    (hfree : ∀ y ∈ scope.names, y.2 = .free → X.env.scope.names.lookup y.1 = some .cell ∨ X.env.scope.names.lookup y.1 = some .free) (hdef : defaultsOf params X.env = ([], [])) :
    PE X (.Lambda params body scope pos) (tLamV X P T params scope body []) := by
  refine ⟨fun pins s σ H Q I h => ?_⟩
  obtain ⟨hT, h⟩ := h
  refine PySem.W.kla_eval hdef ?_
  rw [makeFunction_eq]
  simp only [List.zip_nil_right, List.filterMap_nil, List.isEmpty_nil, if_true, pure_bind]
  exact lam_tail I TB hcode hm hn hu hT (lam_frees I.ok hfree) fun f c' H1 s' I1 new => ⟨.ref f, H1, I1, rfl, h .none f c' H H1 (Ex.refl _) (.inl ⟨rfl, rfl⟩) new⟩
/-- with one default, a written whole number -/
theorem pe_lam1 {T : List NTab} {nm : Nat → Nat → Str} {c P : Addr} {params : Arguments} {body : Expr} {scope : Scope} {pos dp : Pos} {i : Int} {j : Nat} (TB : TabB X.base X.mg c P) (hcode : X.env.code = .ref c) (hm : (P, nm) ∈ T) (hn : nm pos.line pos.col = X.env.qual ++ "<lambda>") (hu : ∀ p ∈ T, p.1 = P → p.2 = nm)
    (hfree : ∀ y ∈ scope.names, y.2 = .free → X.env.scope.names.lookup y.1 = some .cell ∨ X.env.scope.names.lookup y.1 = some .free) (hdef : params.defaults = [.Constant (.int i) j dp]) (hkw : params.kw_defaults = []) :
    PE X (.Lambda params body scope pos) (tLamV X P T params scope body [.int i]) := by
  refine ⟨fun pins s σ H Q I h => ?_⟩
  obtain ⟨hT, h⟩ := h
  refine PySem.W.kdv_lam (by rw [hdef]; rfl) hkw ?_
  rw [hdef]
  refine PySem.W.kdv_all1 (thn ((pe_int (X := X)).run pins s σ H (fun v H1 => v = .int i ∧ H1 = H) I ⟨rfl, rfl⟩) fun u s1 ⟨v, H1, I1, r1, q1⟩ => ?_)
  obtain ⟨rfl, rfl⟩ := q1
  refine PySem.W.kdv_all0 ?_
  rw [makeFunction_eq]
  simp only [List.zip_nil_right, List.filterMap_nil, List.isEmpty_nil, if_true, pure_bind, List.isEmpty_cons, Bool.false_eq_true, if_false]
  refine wpAny_bind (wpAny_newTextTuple ?_)
  have nD := I1.hok.fresh (Nat.le_refl s1.heap.objs.size)
  have I2 : Inv X pins σ (upd H1 s1.heap.objs.size (.tup [V.int i])) { s1 with heap := s1.heap.push { cls := .type "tuple", data := .seq [u].toArray } } :=
    I1.laid (t' := s1.toks) (fun b o q => Heap.get?_push_of_some _ q) (Nat.le_refl _) ⟨by show 1 ≤ sizeLine; rw [sizeLine_eq]; decide, [u], .cons r1 .nil, IsTup.new _ _⟩
  have e2 : Ex H1 (upd H1 s1.heap.objs.size (.tup [V.int i])) := fun b o e => (upd_ne (ne_of_none e nD)).trans e
  exact lam_tail I2 TB hcode hm hn hu (hT.ext e2) (lam_frees I2.ok hfree) fun f c' H3 s' I3 new => ⟨.ref f, H3, I3, rfl, h _ f c' _ H3 e2 (.inr ⟨by simp, _, rfl, upd_same⟩) new⟩
end
/-! ### what a lambda promises -/
/-- what stands for the lambda g: its object, its defaults, its code object -/
def LamAt (H : Hp) (g : Addr) (F : NF) (body : Expr) (dvs : List V) : Prop := ∃ dV, H g = some (LamO g F body dV) ∧ DfV H dV dvs ∧ H F.c = some (CodeO F.c F.qual)
theorem LamAt.ex {H H' : Hp} {g : Addr} {F : NF} {body : Expr} {dvs : List V} (l : LamAt H g F body dvs) (e : Ex H H') : LamAt H' g F body dvs := by
  obtain ⟨dV, h1, h2, h3⟩ := l
  exact ⟨dV, e _ _ h1, h2.kp e.kp, e _ _ h3⟩
abbrev LSp := Hp → VK → XK → Prop
/-- the promise of a lambda: sp ws, ws what its captured cells hold at the call -/
structure LOk (P : Program) (w : World) (K : PySem.W.Frag) (mg : Str → Option Value) (base : Heap) (CX : CXT) (k : Nat) (F : NF) (body : Expr) (dvs : List V) (fr : List Str) (sp : List (Option V) → LSp) : Prop where
  run : ∀ (A : Around) (outer : List Env) (s : Shared) (H : Hp) (g : Addr) (ws : List (Option V)) (Q : VK) (E : XK), Room k A → Env0 P w K mg base A outer s H → LamAt H g F body dvs → CellsAt F.cl fr ws s.heap H → sp ws H Q E → codeAny (model P w) A (.call (.ref g) ⟨[], []⟩) (CR CX outer P w H s Q E) s
/-- how the defaults bind the parameters -/
def LBinds (F : NF) (body : Expr) (dvs : List V) (ps : List Str) : Prop := ∀ (P : Program) (w : World) (H : Hp) (s : Shared) (dV doc pm ctv : Value), HOk P w H s.heap → DfV H dV dvs → ∃ us, Vals dvs us ∧ dvs.length = ps.length ∧ BindsTo s (PySem.W.kdv_fn F.name F.qual F.params (.expr body) F.scope F.cl dV doc pm (.ref F.c) ctv) ⟨[], []⟩ (ps.zip us)
theorem lbinds0 {F : NF} {body : Expr} (h : ∀ doc pm ctv : Value, bindArgs (PySem.W.kdv_fn F.name F.qual F.params (.expr body) F.scope F.cl .none doc pm (.ref F.c) ctv) ⟨[], []⟩ = pure []) : LBinds F body [] [] :=
  fun P w H s dV doc pm ctv hok d => ⟨[], .nil, rfl, by
    rcases d with ⟨_, e⟩ | ⟨z, _⟩
    · rw [e]
      exact BindsTo.of_eq (h doc pm ctv)
    · exact absurd rfl z⟩
theorem lbinds1 {F : NF} {body : Expr} {x : Str} {i : Int}
    (h : ∀ (D : Addr) (doc pm ctv : Value) (u : Value), ∃ k : Option (Array Value) → Sem (List (Str × Value)), bindArgs (PySem.W.kdv_fn F.name F.qual F.params (.expr body) F.scope F.cl (.ref D) doc pm (.ref F.c) ctv) ⟨[], []⟩ = seqItems? (.ref D) >>= k ∧ k (some #[u]) = pure [(x, u)]) : LBinds F body [.int i] [x] :=
  fun P w H s dV doc pm ctv hok d => by
    rcases d with ⟨d, _⟩ | ⟨_, D, rfl, hD⟩
    · cases d
    · obtain ⟨_, its, r, ob, h1, _, n, h2⟩ := hok D _ hD
      obtain ⟨u, rfl, ru⟩ := r.one
      obtain ⟨k, e1, e2⟩ := h D doc pm ctv u
      exact ⟨[u], r, rfl, BindsTo.of_defaults rfl h1 h2 e1 e2⟩
section
variable {CX : CXT} {P : Program} {w : World} {K : PySem.W.Frag} {mg : Str → Option Value} {base : Heap} {N ps fr : List Str} {F : NF} {body : Expr} {dvs : List V} {k : Nat} {sp : List (Option V) → LSp}
theorem lok_of (S : NScope N ps fr F.scope) (hb : LBinds F body dvs ps)
    (hbody : ∀ (A : Around) (outer : List Env) (s : Shared) (H : Hp) (g : Addr) (ws : List (Option V)) (Q : VK) (E : XK), Room k (A.deeper (envF F g s.heap.objs.size)) → ws.length = fr.length → sp ws H Q E →
      ∃ t, PE (ncx CX P w K mg base N F g A outer s H E) body t ∧ t (startF N dvs ws) H Q) : LOk P w K mg base CX (k + 1) F body dvs fr sp := by
  refine ⟨fun A outer s H g ws Q E hr e0 hl C hsp => ?_⟩
  obtain ⟨dV, hg, hd, hc⟩ := hl
  obtain ⟨doc, pm, ctv, ho⟩ := lamO_at e0.hok hg
  obtain ⟨us, r, hlen, hbind⟩ := hb P w H s dV doc pm ctv e0.hok hd
  have lim : s.heap.NoLimit := e0.mod.nolimit.keeps fun b o e => (e0.bs b o e).1
  refine PySem.W.kla_callFunE hr.depth ho rfl S.co S.gen rfl (codeO_at e0.hok hc) (hbind _ _ _ _ ?_)
  refine wpAny_newFunctionEnv S.nocell (fun ⟨n, _⟩ hy => S.par n (List.of_mem_zip hy).1) (fun h₁ hns hsb => ⟨lim.fresh _ hsb, ?_⟩) S.kind
  show codeAny _ _ (.expr body (envF F g s.heap.objs.size)) _ _
  have kp : ∀ b o, s.heap.get? b = some o → h₁.get? b = some o := fun b o e => hsb.extBut b o (Nat.ne_of_lt (Heap.lt_size e)) (Heap.get?_push_of_some _ e)
  obtain ⟨t, ht, hq⟩ := hbody A outer s H g ws Q E (hr.deeper _) C.len hsp
  have I : Inv (ncx CX P w K mg base N F g A outer s H E) [] (startF N dvs ws) H { s with heap := h₁, toks := s.toks + (ps.zip us).length } := inv_startN S hr.hd e0 hlen r C hns kp
  refine PySem.W.kla_codeExpr (wpAny_mono (ht.run [] _ _ H Q I hq) (fun v s' hv => ?_) fun e s' he => he)
  obtain ⟨v', H', J, rv, q⟩ := hv
  exact ⟨v', H', J.os, J.bare, J.base, J.hok, rv, q⟩
end
/-- what the cells held when the running frame began they hold still -/
theorem cells_later {X : Cx} {pins : List (Addr × Obj)} {σ : L2.St} {H : Hp} {s : Shared} {cl : List (Str × Addr)} {fr : List Str} {ws : List (Option V)} (C : CellsAt cl fr ws X.s_0.heap X.H_0) (hx : X.ex = []) (I : Inv X pins σ H s) : CellsAt cl fr ws s.heap H := by
  have nx : ∀ b, b ∉ X.ex := fun b z => by
    rw [hx] at z
    cases z
  have kp : ∀ y c, cl.lookup y = some c → ∀ v, X.s_0.heap.IsCell c v → s.heap.IsCell c v := fun y c e v ⟨o, ho, hd⟩ => by
    obtain ⟨sl, q⟩ := I.base.any ho (C.all y c e).1 (nx c)
    exact ⟨_, q, hd⟩
  refine ⟨C.len, fun y c e => ?_, C.inj, fun i y e => ?_⟩
  · obtain ⟨n, v, z⟩ := C.all y c e
    have z' := kp y c e v z
    obtain ⟨o, ho, _⟩ := z
    exact ⟨I.base.free c o ho n (nx c), v, z'⟩
  · obtain ⟨c, hc, hv⟩ := C.has i y e
    refine ⟨c, hc, fun v ev => ?_⟩
    obtain ⟨u, r, z⟩ := hv v ev
    exact ⟨u, r, kp y c hc _ z⟩
/-! ### a def that is handed a lambda and calls it in a try -/
abbrev SpT := LSp → Hp → VK → Prop
structure CalT (P : Program) (w : World) (K : PySem.W.Frag) (mg : Str → Option Value) (base : Heap) (k kl : Nat) (x : Str) (spT : SpT) : Prop where
  ex : ∃ (f : Addr) (fd : FuncData) (p : Str), mg x = some (.ref f) ∧ PySem.W.keepIn K (.ref f) = true ∧ Binds K fd [p] [] ∧
    ∀ (A : Around) (outer : List Env) (s : Shared) (H : Hp) (args : Args) (g : Addr) (F : NF) (body : Expr) (dvs : List V) (fr : List Str) (ws : List (Option V)) (sp : List (Option V) → LSp) (Q : VK) (E : XK), Room k A → Env0 P w K mg base A outer s H → BindsTo s fd args [(p, .ref g)] →
      LOk P w K mg base (L2.CX P w) kl F body dvs fr sp → LamAt H g F body dvs → CellsAt F.cl fr ws s.heap H → spT (sp ws) H Q → codeAny (model P w) A (.call (.ref f) args) (CR CX0 outer P w H s Q E) s
/-- the reading of g(): the i-th slot holds the lambda -/
def tAct (i : Nat) (g : Addr) (F : NF) (body : Expr) (dvs : List V) (sp : LSp) (W : WX) : TE := fun σ H Q => σ[i]? = some (some (.ref g)) ∧ LamAt H g F body dvs ∧ sp H Q (WE W σ)
section
variable {P : Program} {w : World} {K : PySem.W.Frag} {mg : Str → Option Value} {base : Heap}
theorem pe_act2 {X : Cx} {W : WX} {i k j : Nat} {a : Str} {p1 p2 : Pos} {g : Addr} {F : NF} {body : Expr} {dvs : List V} {fr : List Str} {ws : List (Option V)} {sp : List (Option V) → LSp} (L : LOk X.prog X.w X.K X.mg X.base (L2.CX X.prog X.w) k F body dvs fr sp) (C : CellsAt F.cl fr ws X.s_0.heap X.H_0) (hx : X.ex = [])
    (hr : Room j X.A) (hk : k ≤ j) (tk : Takes X W) (hN : X.N[i]? = some a) (hv : Vis X.env.scope a) (hd : (a == ("__debug__" : Str)) = false := by decide) (hcd : (a == ("__classdict__" : Str)) = false := by decide) :
    PE X (.Call (.Name a p1) [] [] p2) (tAct i g F body dvs (sp ws) W) := by
  refine ⟨fun pins s σ H Q I h => ?_⟩
  obtain ⟨hs, hl, hq⟩ := h
  refine wpAny_Call_Name_kw (thn ((pe_var (pos := p1) (i := i) hN hv hd hcd).run pins s σ H (fun v H1 => v = .ref g ∧ H1 = H) I ⟨.ref g, hs, rfl, rfl⟩) fun u s1 ⟨v, H1, I1, r1, q1⟩ => ?_)
  obtain ⟨rfl, rfl⟩ := q1
  obtain rfl : u = Value.ref g := r1
  obtain ⟨dV, h1, h2, h3⟩ := id hl
  obtain ⟨doc, pm, ctv, ho⟩ := lamO_at I1.hok h1
  refine PySem.W.callWith_F0 (first := []) ⟨_, _, _, _, ho⟩ ?_
  show wpAny _ _ (call (.ref g) []) _ _ _
  refine wpAny_call (codeAny_mono (L.run X.A X.stack s1 H1 g ws Q (WE W σ) (hr.mono hk) I1.env0 hl (cells_later C hx I1) hq) fun r s' hq => ?_)
  cases r with
  | error e => exact passAt tk σ pins H1 s1 e s' I1 hq
  | ok fl =>
    cases fl with
    | ret u => exact I1.after hq
    | next => exact False.elim hq
    | brk => exact False.elim hq
    | cont => exact False.elim hq
theorem st_act {i : Nat} {g : Addr} {F : NF} {body : Expr} {dvs : List V} {sp : LSp} {W : WX} {σ : L2.St} {H : Hp} {Q : VK} (hs : σ[i]? = some (some (.ref g))) (hl : LamAt H g F body dvs) (h : sp H Q (WE W σ)) : tAct i g F body dvs sp W σ H Q := ⟨hs, hl, h⟩
theorem cal_ofT {x p : Str} {st : Stmt} {f : Addr} {fd : FuncData} {N : List Str} {k kl : Nat} {spT : SpT} (F0 : Fun K x x st f fd) (hm : mg x = some (.ref f)) (b : BindsOf x x st [p]) (S : FnScope N [p] (defScope st))
    (bd : ∀ (cdv : Value) (A : Around) (outer : List Env) (s : Shared) (H : Hp) (g : Addr) (F : NF) (body : Expr) (dvs : List V) (fr : List Str) (ws : List (Option V)) (sp : List (Option V) → LSp) (Q : VK) (E : XK), Room k (A.deeper (envOfC x (defScope st) s.heap.objs.size f cdv)) →
      LOk P w K mg base (L2.CX P w) kl F body dvs fr sp → LamAt H g F body dvs → CellsAt F.cl fr ws s.heap H → spT (sp ws) H Q →
      ∃ t, PSs (cxOf CX0 P w K mg base N x (defScope st) f cdv A outer s H E).nox (defBody st) t ∧ t { nx := fun _ H' => Q .non H', rt := Q } (start N [.ref g]) H) : CalT P w K mg base (k + 1) kl x spT := by
  have kp := F0.kp
  have bb := F0.binds b
  obtain ⟨oc, od, kV, doc, pm, an, cdv, ct, osl, rfl, lk, hcd⟩ := F0.ex
  refine ⟨f, _, p, hm, kp, bb, fun A outer s H args g F body dvs fr ws sp Q E hr e0 hbn L hl C h => ?_⟩
  have KX : K.In s.heap := e0.mod.kin.keeps fun b o e => (e0.bs b o e).1
  have lim : s.heap.NoLimit := e0.mod.nolimit.keeps fun b o e => (e0.bs b o e).1
  refine codeAny_call_function hr.depth (KX _ _ lk) rfl S.co S.gen rfl (PySem.W.codeRec_of KX hcd) (hbn _ _ _ _ ?_)
  refine wpAny_newFunctionEnv_cells S.kind (fun ⟨n, v⟩ hy => ?_) fun env he s1 nf => ?_
  · have := S.par n (by
      have : (n, v) = (p, Value.ref g) := List.mem_singleton.mp hy
      cases this
      exact List.mem_singleton.mpr rfl)
    exact this.imp id fun q => ⟨q, PySem.W.cellsFrom_some _ _ _ (.inl q)⟩
  subst he
  refine ⟨lim.keeps nf.toInCall.keep, codeAny_func ?_⟩
  obtain ⟨t, ht, hq⟩ := bd cdv A outer s H g F body dvs fr ws sp Q E (hr.deeper _) L hl C h
  have I : Inv (cxOf CX0 P w K mg base N x (defScope st) f cdv A outer s H E) [] (start N [.ref g]) H s1 := inv_start (us := [.ref g]) S hr.hd e0 rfl (.cons rfl .nil) nf
  refine wpAny_mono (ht.nox.run [] s1 _ H _ I hq) (fun fl s' hs => ?_) fun _ _ z => z
  cases fl with
  | ret u =>
    obtain ⟨v, _, H', J, rv, q⟩ := hs
    exact ⟨v, H', J.os, J.bare, J.base, J.hok, rv, q⟩
  | next =>
    obtain ⟨_, H', J, q⟩ := hs
    exact ⟨.non, H', J.os, J.bare, J.base, J.hok, rfl, q⟩
  | brk => exact (hs.choose_spec.choose_spec.2).elim
  | cont => exact (hs.choose_spec.choose_spec.2).elim
end
/-! ### x(e), x such a def, e a lambda that was made in the running def -/
/-- one of the lambdas that the running def makes: its words, its captured names, where they stand, its promise -/
structure LKind where
  params : Arguments
  scope : Scope
  body : Expr
  dvs : List V
  fr : List Str
  js : List Nat
  sp : List (Option V) → LSp
abbrev LKind.F (l : LKind) (X : Cx) (c' : Addr) : NF := lamF X.env.qual l.params l.scope X.env.cells c'
/-- what is known of it in the def -/
structure LKok (X : Cx) (kl : Nat) (l : LKind) : Prop where
  ok : ∀ c', LOk X.prog X.w X.K X.mg X.base (L2.CX X.prog X.w) kl (l.F X c') l.body l.dvs l.fr l.sp
  free : ∀ y ∈ l.scope.names, y.2 = .free → X.env.scope.names.lookup y.1 = some .cell ∨ X.env.scope.names.lookup y.1 = some .free
  cap : ∀ y ∈ l.fr, (y, NameKind.free) ∈ l.scope.names
  at_ : l.js.map (fun j => X.N[j]?) = l.fr.map some
def tThunk (X : Cx) (S : List LKind) (spT : SpT) (t : TA) : TE := fun σ H Q => t σ H fun vs H1 => ∃ g l c', vs = [.ref g] ∧ l ∈ S ∧ LamAt H1 g (LKind.F l X c') l.body l.dvs ∧ spT (l.sp (l.js.map (slotAt σ))) H1 Q
theorem st_thunk {X : Cx} {S : List LKind} {spT : SpT} {t : TA} {σ : L2.St} {H : Hp} {Q : VK} (h : t σ H fun vs H1 => ∃ g l c', vs = [.ref g] ∧ l ∈ S ∧ LamAt H1 g (LKind.F l X c') l.body l.dvs ∧ spT (l.sp (l.js.map (slotAt σ))) H1 Q) : tThunk X S spT t σ H Q := h
theorem pe_thunk {X : Cx} {S : List LKind} {spT : SpT} {x : Str} {k j kl : Nat} {e : Expr} {es : List Expr} {t : TA} {p pos : Pos} (c : CalT X.prog X.w X.K X.mg X.base k kl x spT) (hS : ∀ l ∈ S, LKok X kl l) (hr : Room j X.A) (hk : k ≤ j) (hg : Gl X x) (ha : PA X (e :: es) t)
    (hdb : (x == ("__debug__" : Str)) = false := by decide) (h2 : starEach (e :: es) X.env = (false, eval e X.env) :: starEach es X.env := by rfl) (hpl : (backTo pos (starEach es X.env)).any (·.1) = false := by rfl) :
    PE X (.Call (.Name x p) (e :: es) [] pos) (tThunk X S spT t) := by
  obtain ⟨f, fd, a, hm, kp, bd, run⟩ := c.ex
  refine ⟨fun pins s σ H Q I h => ?_⟩
  refine wpAny_Call_Name_kw (ld_glob I hg hm ?_ hdb)
  refine PySem.W.callWith_K (h₀ := X.base) I.ok.mod.kin kp (thn (ha.run pos pins s σ H _ I h) fun us s1 ⟨vs, H1, I1, r, qq⟩ => ⟨I1.kIn, ?_⟩) h2 hpl
  obtain ⟨g, l, c', rfl, hl, hat, hq⟩ := qq
  obtain ⟨u, rfl, ru⟩ := r.one
  obtain rfl : u = Value.ref g := ru
  have bb := bd s1 [.ref g] I1.kIn rfl
  rw [List.append_nil] at bb
  have lk := hS l hl
  refine wpAny_call (codeAny_mono (run X.A X.stack s1 H1 ⟨[.ref g], []⟩ g _ l.body l.dvs l.fr _ l.sp Q E0 (hr.mono hk) I1.env0 bb (lk.ok c') hat (cells_of I1 (Caps.made I1.ok lk.free lk.cap lk.at_)) hq) fun rr s' hq => ?_)
  cases rr with
  | error _ => exact False.elim hq
  | ok fl =>
    cases fl with
    | ret u => exact I1.after hq
    | next => exact False.elim hq
    | brk => exact False.elim hq
    | cont => exact False.elim hq
/-! ### the def that makes lambdas: its code object is known -/
section
variable {P : Program} {w : World} {K : PySem.W.Frag} {mg : Str → Option Value} {base : Heap}
theorem fun_okC {x qual : Str} {st : Stmt} {f c : Addr} {fd : FuncData} {N ps : List Str} {k : Nat} {sp : Sp} (F : Fun K x qual st f fd) (hc : fd.code = .ref c) (S : FnScope N ps (defScope st)) (len : ∀ vs H Q E, sp vs H Q E → vs.length = ps.length)
    (hbody : ∀ (A : Around) (outer : List Env) (s : Shared) (H : Hp) (vs : List V) (Q : VK) (E : XK), Room k (A.deeper (envOfC qual (defScope st) s.heap.objs.size f (.ref c))) → sp vs H Q E →
      ∃ t, PSs (cxOf CX0 P w K mg base N qual (defScope st) f (.ref c) A outer s H E).nox (defBody st) t ∧ t { nx := fun _ H' => Q .non H', rt := Q } (start N vs) H) : FnOk P w K mg base CX0 (k + 1) f fd ps sp := by
  obtain ⟨oc, od, kV, doc, pm, an, cdv, ct, osl, rfl, lk, hcd⟩ := F.ex
  obtain rfl : cdv = .ref c := hc
  refine fn_of lk hcd S len fun A outer s H vs Q E hr hsp => ?_
  obtain ⟨t, h, q⟩ := hbody A outer s H vs Q E hr hsp
  exact ⟨t, h.nox, q⟩
/-- nothing is promised of a def that is never reached -/
def spNo : Sp := fun _ _ _ _ => False
theorem cal_no {CX : CXT} {x : Str} {st : Stmt} {f : Addr} {fd : FuncData} {ps : List Str} {k : Nat} (F : Fun K x x st f fd) (hm : mg x = some (.ref f)) (b : BindsOf x x st ps) : Cal CX P w K mg base k x spNo :=
  ⟨f, fd, ps, ⟨fun _ _ _ _ h => h.elim, fun _ _ _ _ _ _ _ _ _ _ _ _ _ h => h.elim⟩, hm, F.kp, F.binds b⟩
end
def nmL : Nat → Nat → Str := fun _ _ => (("law" : Str) ++ (".<locals>." : Str)) ++ ("<lambda>" : Str)
def lamT (P : Addr) : List NTab := [(P, nmL)]
theorem lamT_mem (P : Addr) : (P, nmL) ∈ lamT P := List.mem_singleton.mpr rfl
theorem lamT_one (P : Addr) : ∀ p ∈ lamT P, p.1 = P → p.2 = nmL := fun p hp _ => by
  rw [List.mem_singleton.mp hp]
/-- a def that may raise, where it does not -/
theorem cal_calm {P : Program} {w : World} {K : PySem.W.Frag} {mg : Str → Option Value} {base : Heap} {k : Nat} {x : Str} {sp : Sp} (c : Cal (L2.CX P w) P w K mg base k x sp) : Cal CX0 P w K mg base k x (fun vs H Q _ => sp vs H Q fun _ _ _ => False) := by
  obtain ⟨f, fd, ps, F, hm, kp, b⟩ := c.ex
  refine ⟨f, fd, ps, ⟨fun vs H Q E h => F.len _ _ _ _ h, fun A outer s H args us vs Q E hr e0 hb r h => codeAny_mono (F.run A outer s H args us vs Q _ hr e0 hb r h) fun rr s' hq => ?_⟩, hm, kp, b⟩
  cases rr with
  | error e =>
    obtain ⟨_, _, _, _, _, _, _, _, _, _, _, _, z⟩ := (show L2.CX P w outer H s _ e s' from hq)
    exact z.elim
  | ok fl => cases fl <;> exact hq
theorem op_in_seqK {X : Cx} {K : PySem.W.Frag} (h : X.K = K := by rfl) : OpR X (compareOp .In) (rIn K false) := by
  subst h
  exact op_in_seq
/-! ### where a lambda stands in the text -/
def stE : Stmt → Expr
  | .For _ it _ _ _ => it
  | .If t _ _ _ => t
  | .Return (some e) _ => e
  | .Assign _ e _ => e
  | _ => .Name "" ⟨0, 0, 0, 0⟩
def subE : Expr → Nat → Expr
  | .List es _, i => es.getD i (.Name "" ⟨0, 0, 0, 0⟩)
  | .UnaryOp _ e _, _ => e
  | .Call _ es _ _, i => es.getD i (.Name "" ⟨0, 0, 0, 0⟩)
  | .BinOp a _ b _, i => if i = 0 then a else b
  | e, _ => e
def lamArgs : Expr → Arguments
  | .Lambda p _ _ _ => p
  | _ => ⟨[], [], none, [], [], none, []⟩
def lamBody : Expr → Expr
  | .Lambda _ b _ _ => b
  | e => e
def lamScope : Expr → Scope
  | .Lambda _ _ s _ => s
  | _ => ⟨.function, [], false, false, []⟩
abbrev lamF0 (e : Expr) (q : Str) (cl : List (Str × Addr)) (c' : Addr) : NF := ⟨"<lambda>", q ++ "<lambda>", lamArgs e, [], lamScope e, cl, c'⟩
abbrev lKind (e : Expr) (dvs : List V) (fr : List Str) (js : List Nat) (sp : List (Option V) → LSp) : LKind := ⟨lamArgs e, lamScope e, lamBody e, dvs, fr, js, sp⟩
/-! ### what stays while lambdas are made -/
theorem fr_tab {H H' : Hp} {PP a : Addr} {o : HO} (hT : TabsN (lamT PP) H) (f : Fr [PP] H H') (h : H a = some o) (n : ∀ ps, o ≠ .tbl ps) : H' a = some o := by
  obtain ⟨ps, hP, _⟩ := (show TabN H PP nmL from hT _ (lamT_mem PP))
  refine f a o h fun z => ?_
  rw [List.mem_singleton.mp z, hP] at h
  exact n ps (Option.some.inj h).symm
theorem LamAt.keep {H H' : Hp} {PP g : Addr} {F : NF} {body : Expr} {dvs : List V} (l : LamAt H g F body dvs) (hT : TabsN (lamT PP) H) (f : Fr [PP] H H') (k : Kp H H') : LamAt H' g F body dvs := by
  obtain ⟨dV, h1, h2, h3⟩ := l
  exact ⟨dV, fr_tab hT f h1 (fun ps z => by unfold LamO at z; cases z), h2.kp k, fr_tab hT f h3 codeO_ne⟩
theorem tabs_nil {H : Hp} {PP : Addr} (h : H PP = some (.tbl #[])) : TabsN (lamT PP) H := fun p hp => by
  rw [List.mem_singleton.mp hp]
  exact TabN.nil h
theorem box_tab {H H' : Hp} {PP b l : Addr} (hT : TabsN (lamT PP) H) (f : Fr [PP] H H') (h : BoxAt H b l) : BoxAt H' b l := by
  obtain ⟨⟨st, hb, z⟩, ⟨ns, hl⟩⟩ := h
  exact ⟨⟨st, fr_tab hT f hb (fun ps z => by cases z), z⟩, ⟨ns, fr_tab hT f hl (fun ps z => by cases z)⟩⟩
end BC
/-! BCEnd: the end of a law whose def makes lambdas: its code object's table is empty at the call. -/
namespace BC
open PySem PySem.Spec PyProof.Rows L2
theorem walk_ofL {l : PySem.W.OpenLaw} {n k : Nat} {q : Program} {loose : List Str} {XP : (Str → Option Value) → Heap → Prop} {YP : World → Heap → Prop} {d : DefRec} {K : Params → PySem.W.Frag} {CX : World → CXT} {x : Str}
    (hn : l.most = some n) (hn2 : n ≤ sizeLine) (hdf : d.params.defaults = []) (hr : Room k callerA) (hY : ∀ (w : World) (h : Heap), YP w h → (K w.params).In h) (hrec : (recsOf q).find? (fun e => e.name == d.name) = some d)
    (F : ∀ (w : World) (mg : Str → Option Value) (fa : Addr) (h : Heap), YP w h → (K w.params).In h → h.Ns mainGlobals mg → mg d.name = some (.ref fa) →
      ∃ (fd : FuncData) (cc PP : Addr) (sp : Sp), PySem.W.tabIn (K w.params) d.name = some (cc, PP) ∧ (K w.params).lookup PP = none ∧ (∀ (s : Shared) (u : Value), BindsTo s fd ⟨[u], []⟩ [(x, u)]) ∧
        (∀ (H : Hp) (a : Addr) (ns : List Int), ns.length ≤ n → H PP = some (.tbl #[]) → SqL (K w.params) H a (ns.map V.int) → sp [.ref a] H (fun v _ => v = .bl true) fun _ _ _ => False) ∧
        ∀ base : Heap, (K w.params).In base → base.Ns mainGlobals mg → LamX.TabB base mg cc PP → FnOk l.prog w (K w.params) mg base (CX w) k fa fd [x] sp)
    (hCX : ∀ (w : World) (H : Hp) (s : Shared) (e : Value) (s' : Shared), CX w [] H s (fun _ _ _ => False) e s' → False) : PySem.W.WalkO q loose XP YP l.row.toRowW d [] (fun f vs => PySem.call f vs) := by
  refine Att.attach_callB hn hdf fun w s₀ s₁ mg mb fa o pm cd doc a vs ns G Y ho hd hcd hmg hobj hints hlen hbits hg => ?_
  have KX := hY w _ Y
  obtain ⟨fd, cc, PP, sp, ht, nT, hb, hsp, hF⟩ := F w mg fa _ Y KX G.T.g hmg
  obtain ⟨hC, hE⟩ := PySem.W.tab_of G.T KX hrec ht
  have one : ∀ {φ : Addr × Addr → Prop}, φ (cc, PP) → ∀ p ∈ [(cc, PP)], φ p := fun h p hp => by
    rw [List.mem_singleton.mp hp]
    exact h
  exact LamX.law_callTs (cs := [(cc, PP)]) KX G.T.g G.T.b G.T.builtins G.T.nolimit hg (one hE) (one nT) (one hC) G.T.bmain hobj hints (Nat.le_trans hlen hn2) hr (fun base h1 h2 h3 => hF base h1 h2 (h3 _ (List.mem_singleton.mpr rfl))) hb (fun H hH hS => hsp H a ns hlen (hH _ (List.mem_singleton.mpr rfl)) hS) fun H e s' => hCX w H s₁ e s'
end BC
/-! the law's own text: where each def stands, what the top has written. -/
namespace BC
open PySem PySem.Spec PyProof.Rows L2
open C8 (tCut pss_cut)
def topS (i : Nat) : Stmt := PySem.Challenge.pw_blockcarrier_k10_fences_put_in.main.body.getD i (.Pass ⟨0, 0, 0, 0⟩)
abbrev s_is_from : Stmt := topS 16
abbrev s_lines_in : Stmt := topS 17
abbrev s_memory_fault : Stmt := topS 18
abbrev s_is_order : Stmt := topS 19
abbrev s_is_deed : Stmt := topS 20
abbrev s_check_board : Stmt := topS 21
abbrev s_check_fences : Stmt := topS 31
abbrev s_put_in : Stmt := topS 32
abbrev s_fenced : Stmt := topS 33
abbrev s_is_sure : Stmt := topS 34
abbrev s_spare : Stmt := topS 35
abbrev s__law_begun : Stmt := topS 37
abbrev s__law_take : Stmt := topS 38
abbrev s__law_alike : Stmt := topS 39
abbrev s__law_class : Stmt := topS 40
abbrev s__law_order : Stmt := topS 41
abbrev s__law_deed : Stmt := topS 42
abbrev s__law_board : Stmt := topS 43
abbrev s__law_fence : Stmt := topS 44
abbrev s__law_refused : Stmt := topS 45
abbrev s__law_kinds : Stmt := topS 46
abbrev s_law : Stmt := topS 47
/-- where the classes stand -/
structure Cl where
  none : Unit
/-- what the top has written -/
structure Txt (K : PySem.W.Frag) (mg : Str → Option Value) (c : Cl) : Prop where
  len : mg "len" = none
  range : mg "range" = none
  min : mg "min" = none
  int : mg "int" = none
  list : mg "list" = none
  tuple : mg "tuple" = none
  sorted : mg "sorted" = none
  enumerate : mg "enumerate" = none
  isinstance : mg "isinstance" = none
  bool : mg "bool" = none
  str : mg "str" = none
  ValueError : mg "ValueError" = none
  g_WIDE : HasC mg "WIDE" (.int 4)
  g_MOST_LINES : HasC mg "MOST_LINES" (.int 4)
  g_MOST_DIGIT : HasC mg "MOST_DIGIT" (.int 9)
  g_MOST_ORDERS : HasC mg "MOST_ORDERS" (.int 4)
  g_MOST_CELLS : HasC mg "MOST_CELLS" (.int 8)
  g_MOST_DEEDS : HasC mg "MOST_DEEDS" (.int 60)
  g_MOST_STARTS : HasC mg "MOST_STARTS" (.int 3)
  g_MOST_FENCES : HasC mg "MOST_FENCES" (.int 30)
  g_FENCES : ∃ a, HasC mg "FENCES" (.ref a) ∧ ∀ H, SqT K H a [.str "wait", .str "clean", .str "drop"]
  F_is_from : ∃ f fd, Fun K "is_from" "is_from" s_is_from f fd ∧ mg "is_from" = some (.ref f)
  F_lines_in : ∃ f fd, Fun K "lines_in" "lines_in" s_lines_in f fd ∧ mg "lines_in" = some (.ref f)
  F_memory_fault : ∃ f fd, Fun K "memory_fault" "memory_fault" s_memory_fault f fd ∧ mg "memory_fault" = some (.ref f)
  F_is_order : ∃ f fd, Fun K "is_order" "is_order" s_is_order f fd ∧ mg "is_order" = some (.ref f)
  F_is_deed : ∃ f fd, Fun K "is_deed" "is_deed" s_is_deed f fd ∧ mg "is_deed" = some (.ref f)
  F_check_board : ∃ f fd, Fun K "check_board" "check_board" s_check_board f fd ∧ mg "check_board" = some (.ref f)
  F_check_fences : ∃ f fd, Fun K "check_fences" "check_fences" s_check_fences f fd ∧ mg "check_fences" = some (.ref f)
  F_put_in : ∃ f fd, Fun K "put_in" "put_in" s_put_in f fd ∧ mg "put_in" = some (.ref f)
  F_fenced : ∃ f fd, Fun K "fenced" "fenced" s_fenced f fd ∧ mg "fenced" = some (.ref f)
  F_is_sure : ∃ f fd, Fun K "is_sure" "is_sure" s_is_sure f fd ∧ mg "is_sure" = some (.ref f)
  F_spare : ∃ f fd, Fun K "spare" "spare" s_spare f fd ∧ mg "spare" = some (.ref f)
  F__law_begun : ∃ f fd, Fun K "_law_begun" "_law_begun" s__law_begun f fd ∧ mg "_law_begun" = some (.ref f)
  F__law_take : ∃ f fd, Fun K "_law_take" "_law_take" s__law_take f fd ∧ mg "_law_take" = some (.ref f)
  F__law_alike : ∃ f fd, Fun K "_law_alike" "_law_alike" s__law_alike f fd ∧ mg "_law_alike" = some (.ref f)
  F__law_class : ∃ f fd, Fun K "_law_class" "_law_class" s__law_class f fd ∧ mg "_law_class" = some (.ref f)
  F__law_order : ∃ f fd, Fun K "_law_order" "_law_order" s__law_order f fd ∧ mg "_law_order" = some (.ref f)
  F__law_deed : ∃ f fd, Fun K "_law_deed" "_law_deed" s__law_deed f fd ∧ mg "_law_deed" = some (.ref f)
  F__law_board : ∃ f fd, Fun K "_law_board" "_law_board" s__law_board f fd ∧ mg "_law_board" = some (.ref f)
  F__law_fence : ∃ f fd, Fun K "_law_fence" "_law_fence" s__law_fence f fd ∧ mg "_law_fence" = some (.ref f)
  F__law_refused : ∃ f fd, Fun K "_law_refused" "_law_refused" s__law_refused f fd ∧ mg "_law_refused" = some (.ref f)
  F__law_kinds : ∃ f fd, Fun K "_law_kinds" "_law_kinds" s__law_kinds f fd ∧ mg "_law_kinds" = some (.ref f)
  F_law : ∃ f fd, Fun K "law" "law" s_law f fd ∧ mg "law" = some (.ref f)
end BC
namespace BC
open PySem PySem.Spec PyProof.Rows L2
abbrev s_BadBoard___init__ : Stmt := inClass (topS 2) 0
abbrev s_BadFence___init__ : Stmt := inClass (topS 3) 0
/-- where the own exceptions stand -/
structure Xc where
  CarrierError : Addr
  BadBoard : Addr
  BadFence : Addr
  NotSure : Addr
  BadCount : Addr
  BadText : Addr
structure XTxt (K : PySem.W.Frag) (mg : Str → Option Value) (x : Xc) : Prop where
  g_CarrierError : mg "CarrierError" = some (.ref x.CarrierError)
  g_BadBoard : mg "BadBoard" = some (.ref x.BadBoard)
  g_BadFence : mg "BadFence" = some (.ref x.BadFence)
  g_NotSure : mg "NotSure" = some (.ref x.NotSure)
  g_BadCount : mg "BadCount" = some (.ref x.BadCount)
  g_BadText : mg "BadText" = some (.ref x.BadText)
  bC : PySem.W.subIn K (.ref x.CarrierError) (.type "BaseException") = some true
  dC : PySem.W.hasDictIn K x.CarrierError = true
  tC : PySem.W.typeIn K (.ref x.CarrierError) = some (.type "type")
  k_BadBoard : PySem.W.keepIn K (.ref x.BadBoard) = true
  b_BadBoard : PySem.W.subIn K (.ref x.BadBoard) (.type "BaseException") = some true
  t_BadBoard : PySem.W.typeIn K (.ref x.BadBoard) = some (.type "type")
  e_BadBoard : ExcC K x.BadBoard
  m_BadBoard : PySem.W.exmOne K (.ref x.BadBoard) (.ref x.CarrierError) = some true
  q_BadBoard_BadBoard : PySem.W.kitOne K (.ref x.BadBoard) (.ref x.BadBoard) = some true
  q_BadBoard_BadFence : PySem.W.kitOne K (.ref x.BadBoard) (.ref x.BadFence) = some false
  q_BadBoard_NotSure : PySem.W.kitOne K (.ref x.BadBoard) (.ref x.NotSure) = some false
  q_BadBoard_BadCount : PySem.W.kitOne K (.ref x.BadBoard) (.ref x.BadCount) = some false
  q_BadBoard_BadText : PySem.W.kitOne K (.ref x.BadBoard) (.ref x.BadText) = some false
  q_BadBoard_V : PySem.W.kitOne K (.ref x.BadBoard) (.type "ValueError") = some true
  k_BadFence : PySem.W.keepIn K (.ref x.BadFence) = true
  b_BadFence : PySem.W.subIn K (.ref x.BadFence) (.type "BaseException") = some true
  t_BadFence : PySem.W.typeIn K (.ref x.BadFence) = some (.type "type")
  e_BadFence : ExcC K x.BadFence
  m_BadFence : PySem.W.exmOne K (.ref x.BadFence) (.ref x.CarrierError) = some true
  q_BadFence_BadBoard : PySem.W.kitOne K (.ref x.BadFence) (.ref x.BadBoard) = some false
  q_BadFence_BadFence : PySem.W.kitOne K (.ref x.BadFence) (.ref x.BadFence) = some true
  q_BadFence_NotSure : PySem.W.kitOne K (.ref x.BadFence) (.ref x.NotSure) = some false
  q_BadFence_BadCount : PySem.W.kitOne K (.ref x.BadFence) (.ref x.BadCount) = some false
  q_BadFence_BadText : PySem.W.kitOne K (.ref x.BadFence) (.ref x.BadText) = some false
  q_BadFence_V : PySem.W.kitOne K (.ref x.BadFence) (.type "ValueError") = some true
  k_NotSure : PySem.W.keepIn K (.ref x.NotSure) = true
  b_NotSure : PySem.W.subIn K (.ref x.NotSure) (.type "BaseException") = some true
  t_NotSure : PySem.W.typeIn K (.ref x.NotSure) = some (.type "type")
  e_NotSure : ExcC K x.NotSure
  m_NotSure : PySem.W.exmOne K (.ref x.NotSure) (.ref x.CarrierError) = some true
  x_NotSure : PySem.W.excIn K x.NotSure [.type "ValueError", .type "Exception", .type "BaseException", .type "object"] "ValueError.__new__" = true
  q_NotSure_BadBoard : PySem.W.kitOne K (.ref x.NotSure) (.ref x.BadBoard) = some false
  q_NotSure_BadFence : PySem.W.kitOne K (.ref x.NotSure) (.ref x.BadFence) = some false
  q_NotSure_NotSure : PySem.W.kitOne K (.ref x.NotSure) (.ref x.NotSure) = some true
  q_NotSure_BadCount : PySem.W.kitOne K (.ref x.NotSure) (.ref x.BadCount) = some false
  q_NotSure_BadText : PySem.W.kitOne K (.ref x.NotSure) (.ref x.BadText) = some false
  q_NotSure_V : PySem.W.kitOne K (.ref x.NotSure) (.type "ValueError") = some true
  rC : PySem.W.readsIn K x.CarrierError (.type "type") = true
  gC : PySem.W.specialIn K (.ref x.CarrierError) "__getattribute__" = some (some (.builtin "type.__getattribute__"))
  fC : PySem.W.findCls K (.ref x.CarrierError) (.type "type") "__init__" = some (.val (.builtin "ValueError.__init__"))
  o_BadBoard : OexC K x.BadBoard
  i_BadBoard : ∃ f fd, Fun K "__init__" "BadBoard.__init__" s_BadBoard___init__ f fd ∧ PySem.W.findIn K (.ref x.BadBoard) "__init__" = some (some (.ref f)) ∧ PySem.W.typeIn K (.ref f) = some (.type "function")
  n_BadBoard_word : PySem.W.findIn K (.ref x.BadBoard) "word" = some none
  n_BadBoard_number : PySem.W.findIn K (.ref x.BadBoard) "number" = some none
  o_BadFence : OexC K x.BadFence
  i_BadFence : ∃ f fd, Fun K "__init__" "BadFence.__init__" s_BadFence___init__ f fd ∧ PySem.W.findIn K (.ref x.BadFence) "__init__" = some (some (.ref f)) ∧ PySem.W.typeIn K (.ref f) = some (.type "function")
  n_BadFence_number : PySem.W.findIn K (.ref x.BadFence) "number" = some none
end BC
namespace BC
open PySem PySem.Spec PyProof.Rows L2
open C8 (tCut pss_cut)
local macro_rules | `(tactic| walk_at "kp") => `(tactic| first
  | exact Kp.refl _ | assumption | exact Ex.kp (by assumption)
  | (refine Kp.new (by assumption) ?_; walk_at "kp")
  | (refine Kp.mut (nt_of (by assumption) trivial) ?_; walk_at "kp")
  | (refine Kp.trans ?_ (by assumption); walk_at "kp")
  | (refine Kp.trans ?_ (Ex.kp (by assumption)); walk_at "kp"))
local macro_rules | `(tactic| walk_at "ex") => `(tactic| first
  | exact Ex.refl _ | assumption
  | (refine Ex.trans ?_ (Ex.new (by assumption)); walk_at "ex")
  | (refine Ex.trans ?_ (by assumption); walk_at "ex"))
local macro_rules | `(tactic| walk_at "rd1") => `(tactic| first
  | with_reducible refine st_seq ?_ | with_reducible refine st_asg ?_ | with_reducible refine st_ret ?_ | with_reducible refine st_retN ?_ | with_reducible refine st_drop ?_ | with_reducible refine st_ifS ?_ | with_reducible refine st_name ?_
  | with_reducible refine st_var rfl ?_ | with_reducible refine st_c ?_ | with_reducible refine st_op ?_ | with_reducible refine st_un ?_ | with_reducible refine st_if ?_
  | with_reducible refine st_cons ?_ | with_reducible refine st_nil ?_ | with_reducible refine st_call ?_ | with_reducible refine st_CB ?_ | with_reducible refine st_tup ?_ | with_reducible refine st_lst ?_
  | with_reducible refine st_test ?_ | with_reducible refine st_tB ?_ | with_reducible refine st_and ?_ | with_reducible refine st_or ?_ | with_reducible refine st_not ?_ | with_reducible refine st_andV ?_ | with_reducible refine st_orV ?_ | with_reducible refine st_notV ?_
  | with_reducible refine st_bl ?_ | with_reducible refine st_T ?_ | with_reducible refine st_F ?_ | with_reducible refine st_next ?_ | with_reducible refine st_brk ?_ | with_reducible refine st_cont ?_
  | with_reducible refine st_I0 ?_ | with_reducible refine st_eqI ?_ | with_reducible refine st_neI ?_ | with_reducible refine st_eqS ?_ | with_reducible refine st_neS ?_ | with_reducible refine st_eqB ?_ | with_reducible refine st_neB ?_
  | with_reducible refine st_isN0 ?_ | with_reducible refine st_isNI ?_ | with_reducible refine st_isNR ?_ | with_reducible refine st_notN0 ?_ | with_reducible refine st_notNI ?_ | with_reducible refine st_notNR ?_ | with_reducible refine st_isN ?_ | with_reducible refine st_notN ?_
  | with_reducible refine st_intS ?_ | with_reducible refine st_intN (by decide) ?_ | with_reducible refine st_intB ?_ | with_reducible refine st_oT1 ?_ | with_reducible refine st_oT2 ?_ | with_reducible refine st_oF (by decide) (by decide) ?_ | with_reducible refine st_min ?_ | with_reducible refine st_gnil ?_ | with_reducible refine st_gcons ?_ | with_reducible refine st_bm ?_ | with_reducible refine st_bm0 ?_ | with_reducible refine st_yes ?_ | with_reducible refine st_lcR ?_ | with_reducible refine st_lcL ?_ | with_reducible refine st_lcU ?_ | with_reducible refine st_lcS ?_ | with_reducible refine st_sT ?_ | with_reducible refine st_sF (by decide) ?_ | with_reducible refine st_wL ?_ | with_reducible refine st_wT ?_ | with_reducible refine st_wR ?_ | with_reducible refine st_wE ?_ | with_reducible refine st_NT ?_ | with_reducible refine st_NF ?_ | with_reducible refine st_fld ?_ | with_reducible refine st_sfld ?_ | with_reducible refine st_meth ?_ | with_reducible refine st_make ?_ | with_reducible refine st_fldaug ?_ | with_reducible refine st_gsub ?_ | with_reducible refine st_dget ?_ | with_reducible refine st_din ?_ | with_reducible refine st_dnotin ?_ | with_reducible refine st_dput ?_ | with_reducible refine st_dupd ?_ | with_reducible refine st_dpop ?_ | with_reducible refine st_pcons ?_ | with_reducible refine st_pnil ?_ | with_reducible refine st_sl ?_ | with_reducible refine st_npart ?_ | with_reducible refine st_part ?_ | with_reducible refine st_pint ?_ | with_reducible refine st_aug rfl ?_ | with_reducible refine st_ip ?_ | with_reducible refine st_fdiv ⟨by decide, by decide⟩ ?_ | with_reducible refine st_mod (by decide) ?_)
local macro_rules | `(tactic| walk_at "rd") => `(tactic| repeat walk_at "rd1")
/-! ### is_from -/
theorem sc_is_from : FnScope ["number", "least", "most"] ["number", "least", "most"] (defScope s_is_from) := ⟨rfl, rfl, rfl, by decide +kernel, rfl, by decide +kernel, by decide +kernel⟩
def sp_is_from : Sp := fun vs H Q _ => ∃ a b c : Int, vs = [.int a, .int b, .int c] ∧ Q (.bl (decide (b ≤ a ∧ a ≤ c))) H
theorem cal_is_from {P w base K mg c} (T : Txt K mg c) : Cal CX0 P w K mg base 1 "is_from" sp_is_from := by
  obtain ⟨f, fd, F, m⟩ := T.F_is_from
  refine cal_of F m (fun _ _ _ _ _ _ us hl => match us, hl with | [_, _, _], _ => rfl) sc_is_from (fun vs H Q E h => ?_) (fun cdv A outer s H vs Q E hr h => ?_)
  · obtain ⟨a, b, c, rfl, _⟩ := h
    rfl
  · obtain ⟨a, b, c, rfl, q⟩ := h
    refine ⟨_, (pss_one (ps_ret (pe_and (pe_cmpR op_le (pv 1) (pv 0) (nomark _)) (pe_one (pe_cmpR op_le (pv 0) (pv 2) (nomark _)))))), ?_⟩
    walk_at "rd"
    refine st_D (fun h1 => ?_) (fun h1 => ?_)
    · walk_at "rd"
      rw [show decide (b ≤ a ∧ a ≤ c) = decide (a ≤ c) from decide_eq_decide.mpr ⟨fun h => h.2, fun h => ⟨h1, h⟩⟩] at q
      exact q
    · rw [decide_eq_false (fun h : b ≤ a ∧ a ≤ c => h1 h.1)] at q
      exact q
/-! ### lines_in -/
theorem sc_lines_in : FnScope ["memory"] ["memory"] (defScope s_lines_in) := ⟨rfl, rfl, rfl, by decide +kernel, rfl, by decide +kernel, by decide +kernel⟩
def sp_lines_in : Sp := fun vs H Q _ => ∃ (x : V) (ds : List PyData), vs = [x] ∧ Im H (.tuple ds) x ∧ Q (.int ((ds.length / 4 : Nat) : Int)) H
theorem cal_lines_in {P w base K mg c} (T : Txt K mg c) : Cal CX0 P w K mg base 1 "lines_in" sp_lines_in := by
  obtain ⟨f, fd, F, m⟩ := T.F_lines_in
  refine cal_of F m (fun _ _ _ _ _ _ us hl => match us, hl with | [_], _ => rfl) sc_lines_in (fun vs H Q E h => ?_) (fun cdv A outer s H vs Q E hr h => ?_)
  · obtain ⟨x, ds, rfl, _⟩ := h
    rfl
  · obtain ⟨x, ds, rfl, hx, q⟩ := h
    refine ⟨_, (pss_one (ps_ret (pe_op op_fdiv (pe_callB c_len (by rfl) T.len PySem.boot_len (pa_cons (pv 0) pa_nil)) (pe_gc (by rfl) T.g_WIDE)))), ?_⟩
    walk_at "rd"
    refine st_lenT hx (Kp.refl _) ?_
    walk_at "rd"
    exact q
/-! ### memory_fault -/
theorem sc_memory_fault : FnScope ["memory", "place", "number"] ["memory"] (defScope s_memory_fault) := ⟨rfl, rfl, rfl, by decide +kernel, rfl, by decide +kernel, by decide +kernel⟩
def vNat : Option Nat → V
  | none => .non
  | some n => .int (n : Int)
def sp_memory_fault : Sp := fun vs H Q _ => ∃ (x : V) (m : List Int), vs = [x] ∧ Im H (pyMem m) x ∧ ∀ H', Ex H H' → Q (vNat (memFault m)) H'
theorem cal_memory_fault {P w base K mg c} (T : Txt K mg c) : Cal CX0 P w K mg base 2 "memory_fault" sp_memory_fault := by
  obtain ⟨f, fd, F, m⟩ := T.F_memory_fault
  have c_is_from := cal_is_from (P := P) (w := w) (base := base) T
  have c_lines_in := cal_lines_in (P := P) (w := w) (base := base) T
  refine cal_of F m (fun _ _ _ _ _ _ us hl => match us, hl with | [_], _ => rfl) sc_memory_fault (fun vs H Q E h => ?_) (fun cdv A outer s H vs Q E hr h => ?_)
  · obtain ⟨x, ds, rfl, _⟩ := h
    rfl
  · obtain ⟨x, m, rfl, hx, q⟩ := h
    refine ⟨_, (pss_cons (ps_if (PW.pt (pw_or (pt_cmpR op_ne (pe_op op_mod (pe_callB c_len (by rfl) T.len PySem.boot_len (pa_cons (pv 0) pa_nil)) (pe_gc (by rfl) T.g_WIDE)) pe_int (nomark _)) (pw_or1 (pt_not (pt_val (pe_c c_is_from hr (by decide) (by rfl) (pa_cons (pe_c c_lines_in hr (by decide) (by rfl) (pa_cons (pv 0) pa_nil)) (pa_cons pe_int (pa_cons (pe_gc (by rfl) T.g_MOST_LINES) pa_nil))))))))) (pss_one (ps_ret pe_int)) pss_nil)
      (pss_cons (ps_for PassesOwn.never rfl (pi_enumT (by rfl) T.enumerate (pa_cons (pv 0) pa_nil)) (pg_tup (n := 2) rfl (pgs_cons (pg_name (i := 1) sc_memory_fault.nd rfl (.inl rfl)) (pgs_cons (pg_name (i := 2) sc_memory_fault.nd rfl (.inl rfl)) pgs_nil)))
      (pss_one (ps_if (pt_not (pt_val (pe_c c_is_from hr (by decide) (by rfl) (pa_cons (pv 2) (pa_cons pe_int (pa_cons (pe_gc (by rfl) T.g_MOST_DIGIT) pa_nil)))))) (pss_one (ps_ret (pv 1))) pss_nil)))
      (pss_one (ps_ret pe_non)))), ?_⟩
    walk_at "rd"
    refine st_lenT hx (Kp.refl _) ?_
    walk_at "rd"
    have ez : ((m.map PyData.int).length : Int) % 4 = ((m.length % 4 : Nat) : Int) := by
      rw [List.length_map]
      omega
    rw [ez]
    have bad : (m.length % 4 ≠ 0 ∨ ¬ (1 ≤ m.length / 4 ∧ m.length / 4 ≤ 4)) → Q (.int 0) H := fun h => by
      have e : memFault m = some 0 := by
        unfold memFault
        rw [if_pos h]
      rw [e] at q
      exact q H (Ex.refl H)
    have main : ¬ (m.length % 4 ≠ 0 ∨ ¬ (1 ≤ m.length / 4 ∧ m.length / 4 ≤ 4)) → (tFor (iEnumT K (tCons (tVar 0) tNil)) (gTup K 2 (gCons (gName 1) (gCons (gName 2) gNil)))
        (tIfS (tNot (tB (tCall sp_is_from [] L2.E0 (tCons (tVar 2) (tCons (tC (.int 0)) (tCons (tC (.int 9)) tNil)))))) (tRet (tVar 1)) tNext)) ⟨tRet (tC .non) { nx := fun _ H' => Q .non H', rt := Q }, Q, fun _ _ => False, fun _ _ => False⟩ (L2.start ["memory", "place", "number"] [x]) H := fun hg => by
      have e0 : memFault m = m.findIdx? fun n => !digit n := by
        unfold memFault
        rw [if_neg hg]
      refine st_forET (H0 := H) (fun i σ H' => ∃ y z, σ = [some x, y, z] ∧ Ex H H' ∧ ∀ j n, j < i → m[j]? = some n → digit n = true) rfl hx (Kp.refl _) ⟨none, none, rfl, Ex.refl _, fun j n hj => absurd hj (Nat.not_lt_zero _)⟩ (fun i σ H' p => ?_) (fun i d v σ H' H'' hd p ht hv => ?_) (fun σ H' p => ?_)
      · obtain ⟨_, _, _, e, _⟩ := p
        exact e.kp
      · obtain ⟨y, z, rfl, e, hj⟩ := p
        obtain ⟨n, en, rfl⟩ := map_at' hd
        rw [Im.int_iff.mp hv]
        walk_at "rd"
        refine ⟨_, _, _, rfl, ?_⟩
        walk_at "rd"
        refine st_ND (fun h => ?_) (fun h => ?_)
        · walk_at "rd"
          have hd : digit n = false := decide_eq_false h
          have e1 : m.findIdx? (fun n => !digit n) = some i := by
            rw [List.findIdx?_eq_some_iff_getElem]
            obtain ⟨hi, g⟩ := List.getElem?_eq_some_iff.mp en
            refine ⟨hi, by rw [g, hd]; rfl, fun j hj' => ?_⟩
            rw [hj j m[j] hj' (List.getElem?_eq_getElem (by omega))]
            simp
          rw [e0, e1] at q
          exact q _ (e.trans ht)
        · walk_at "rd"
          refine ⟨some (.int (i : Int)), some (.int n), rfl, e.trans ht, fun j n' hj' en' => ?_⟩
          rcases Nat.lt_succ_iff_lt_or_eq.mp hj' with h1 | h1
          · exact hj j n' h1 en'
          · subst h1
            rw [en] at en'
            cases en'
            exact decide_eq_true h
      · obtain ⟨y, z, rfl, e, hj⟩ := p
        walk_at "rd"
        have e1 : m.findIdx? (fun n => !digit n) = none := by
          rw [List.findIdx?_eq_none_iff]
          intro n hn
          obtain ⟨j, h1, h2⟩ := List.mem_iff_getElem.mp hn
          rw [hj j n (by simpa using h1) (by rw [List.getElem?_eq_getElem h1, h2])]
          rfl
        rw [e0, e1] at q
        exact q _ e
    refine st_ND (fun h => ?_) (fun h => ?_)
    · walk_at "rd"
      exact bad (.inl fun z => h (by rw [z]; rfl))
    · walk_at "rd"
      refine ⟨x, _, rfl, hx, ?_⟩
      walk_at "rd"
      refine ⟨_, _, _, rfl, ?_⟩
      walk_at "rd"
      rw [List.length_map]
      refine st_ND (fun h2 => ?_) (fun h2 => ?_)
      · walk_at "rd"
        exact bad (.inr fun z => h2 (by omega))
      · walk_at "rd"
        exact main fun z => z.elim (fun z => z (by omega)) fun z => z (by omega)
/-! ### is_order -/
theorem sc_is_order : FnScope ["board", "number", "memory", "orders", "program", "source", "goal", "many", "later"] ["board", "number"] (defScope s_is_order) := ⟨rfl, rfl, rfl, by decide +kernel, rfl, by decide +kernel, by decide +kernel⟩
def sp_is_order : Sp := fun vs H Q _ => ∃ (x : V) (b : RB) (i : Nat) (o : ROrd), vs = [x, .int (i : Int)] ∧ Im H (pyB b) x ∧ b.ords[i]? = some o ∧ Q (.bl (ordOk b.mem.length b.ords.length i o)) H
theorem cal_is_order {P w base K mg c} (T : Txt K mg c) : Cal CX0 P w K mg base 2 "is_order" sp_is_order := by
  obtain ⟨f, fd, F, m⟩ := T.F_is_order
  have c_is_from := cal_is_from (P := P) (w := w) (base := base) T
  refine cal_of F m (fun _ _ _ _ _ _ us hl => match us, hl with | [_, _], _ => rfl) sc_is_order (fun vs H Q E h => ?_) (fun cdv A outer s H vs Q E hr h => ?_)
  · obtain ⟨x, b, i, o, rfl, _⟩ := h
    rfl
  · obtain ⟨x, b, i, o, rfl, hx, ho, q⟩ := h
    refine ⟨_, (pss_cons (ps_asg (pv 0) (pg_tup (n := 3) rfl (pgs_cons (pg_name (i := 2) sc_is_order.nd rfl (.inl rfl)) (pgs_cons (pg_name (i := 3) sc_is_order.nd rfl (.inl rfl)) (pgs_cons (pg_name (i := 4) sc_is_order.nd rfl (.inl rfl)) pgs_nil)))))
      (pss_cons (ps_asg (pe_ix ix_tup (pv 3) (pv 1) (fun _ _ => rfl)) (pg_tup (n := 4) rfl (pgs_cons (pg_name (i := 5) sc_is_order.nd rfl (.inl rfl)) (pgs_cons (pg_name (i := 6) sc_is_order.nd rfl (.inl rfl)) (pgs_cons (pg_name (i := 7) sc_is_order.nd rfl (.inl rfl)) (pgs_cons (pg_name (i := 8) sc_is_order.nd rfl (.inl rfl)) pgs_nil))))))
      (pss_cons (ps_if (pt_not (pt_val (pe_c c_is_from hr (by decide) (by rfl) (pa_cons (pv 7) (pa_cons pe_int (pa_cons (pe_gc (by rfl) T.g_MOST_CELLS) pa_nil)))))) (pss_one (ps_ret pe_bl)) pss_nil)
      (pss_cons (ps_if (PW.pt (pw_or (pt_not (pt_val (pe_c c_is_from hr (by decide) (by rfl) (pa_cons (pv 5) (pa_cons pe_int (pa_cons (pe_op op_sub (pe_callB c_len (by rfl) T.len PySem.boot_len (pa_cons (pv 2) pa_nil)) (pv 7)) pa_nil)))))) (pw_or1 (pt_not (pt_val (pe_c c_is_from hr (by decide) (by rfl) (pa_cons (pv 6) (pa_cons pe_int (pa_cons (pe_op op_sub (pe_callB c_len (by rfl) T.len PySem.boot_len (pa_cons (pv 2) pa_nil)) (pv 7)) pa_nil))))))))) (pss_one (ps_ret pe_bl)) pss_nil)
      (pss_one (ps_ret (pe_or (pe_cmpR o_isN (pv 8) pe_non (nomark _)) (pe_one (pe_c c_is_from hr (by decide) (by rfl) (pa_cons (pv 8) (pa_cons (pe_op op_add (pv 1) pe_int) (pa_cons (pe_op op_sub (pe_callB c_len (by rfl) T.len PySem.boot_len (pa_cons (pv 3) pa_nil)) pe_int) pa_nil)))))))))))), ?_⟩
    walk_at "rd"
    refine st_gtup hx (Kp.refl _) rfl fun xs hxs => ?_
    obtain ⟨vm, xs, rfl, hm, hxs⟩ := hxs.cons_inv
    obtain ⟨vo, xs, rfl, hos, hxs⟩ := hxs.cons_inv
    obtain ⟨vp, xs, rfl, hp, hxs⟩ := hxs.cons_inv
    cases hxs.nil_inv
    walk_at "rd"
    refine st_ixT hos (Kp.refl _) (atI_nat (map_at ho)) fun v hv => ?_
    refine st_gtup hv (Kp.refl _) rfl fun xs hxs => ?_
    cases ord_inv hxs
    walk_at "rd"
    refine ⟨_, _, _, rfl, ?_⟩
    walk_at "rd"
    unfold ordOk at q
    refine st_ND (fun h1 => ?_) (fun h1 => ?_)
    · walk_at "rd"
      rw [decide_eq_false h1] at q
      exact q
    rw [decide_eq_true h1] at q
    walk_at "rd"
    refine st_lenT hm (Kp.refl _) ?_
    walk_at "rd"
    refine ⟨_, _, _, rfl, ?_⟩
    walk_at "rd"
    rw [List.length_map]
    refine st_ND (fun h2 => ?_) (fun h2 => ?_)
    · walk_at "rd"
      rw [decide_eq_false h2] at q
      exact q
    rw [decide_eq_true h2] at q
    walk_at "rd"
    refine st_lenT hm (Kp.refl _) ?_
    walk_at "rd"
    refine ⟨_, _, _, rfl, ?_⟩
    walk_at "rd"
    rw [List.length_map]
    refine st_ND (fun h3 => ?_) (fun h3 => ?_)
    · walk_at "rd"
      rw [decide_eq_false h3] at q
      exact q
    rw [decide_eq_true h3] at q
    walk_at "rd"
    cases e : o.2.2.2 with
    | none =>
      rw [e] at q
      show if decide (V.non = V.non) = true then _ else _
      rw [decide_eq_true rfl]
      walk_at "rd"
      exact q
    | some l =>
      rw [e] at q
      show if decide (V.int l = V.non) = true then _ else _
      rw [decide_eq_false (fun z => by cases z)]
      walk_at "rd"
      refine st_lenT hos (Kp.refl _) ?_
      walk_at "rd"
      refine ⟨_, _, _, rfl, ?_⟩
      rw [List.length_map]
      exact q
/-! ### is_deed -/
theorem sc_is_deed : FnScope ["board", "deed", "memory", "orders", "program", "word"] ["board", "deed"] (defScope s_is_deed) := ⟨rfl, rfl, rfl, by decide +kernel, rfl, by decide +kernel, by decide +kernel⟩
def sp_is_deed : Sp := fun vs H Q _ => ∃ (x y : V) (b : RB) (d : RDeed), vs = [x, y] ∧ Im H (pyB b) x ∧ Im H (pyDeed d) y ∧ ∀ H', Ex H H' → Q (.bl (deedOk b.mem.length b.ords.length d)) H'
theorem deed_len (d : RDeed) : ((PyData.str d.1 :: d.2.map .int).length : Int) = (d.2.length : Int) + 1 := by
  rw [List.length_cons, List.length_map]
  rfl
theorem cal_is_deed {P w base K mg c} (T : Txt K mg c) : Cal CX0 P w K mg base 2 "is_deed" sp_is_deed := by
  obtain ⟨f, fd, F, m⟩ := T.F_is_deed
  have c_is_from := cal_is_from (P := P) (w := w) (base := base) T
  have c_lines_in := cal_lines_in (P := P) (w := w) (base := base) T
  refine cal_of F m (fun _ _ _ _ _ _ us hl => match us, hl with | [_, _], _ => rfl) sc_is_deed (fun vs H Q E h => ?_) (fun cdv A outer s H vs Q E hr h => ?_)
  · obtain ⟨x, y, b, d, rfl, _⟩ := h
    rfl
  · obtain ⟨x, y, b, d, rfl, hx, hy, q⟩ := h
    refine ⟨_, (pss_cons (ps_asg (pv 0) (pg_tup (n := 3) rfl (pgs_cons (pg_name (i := 2) sc_is_deed.nd rfl (.inl rfl)) (pgs_cons (pg_name (i := 3) sc_is_deed.nd rfl (.inl rfl)) (pgs_cons (pg_name (i := 4) sc_is_deed.nd rfl (.inl rfl)) pgs_nil)))))
      (pss_cons (ps_set (i := 5) sc_is_deed.nd rfl (.inl rfl) (pe_ix ix_tup (pv 1) pe_int (fun _ _ => rfl)))
      (pss_cons (ps_if (pt_cmpR op_eq (pv 5) pe_str (nomark _)) (pss_one (ps_ret (pe_cmpR op_eq (pe_callB c_len (by rfl) T.len PySem.boot_len (pa_cons (pv 1) pa_nil)) pe_int (nomark _)))) pss_nil)
      (pss_cons (ps_if (pt_cmpR op_in_seq (pv 5) (pe_tup (pa_cons pe_str (pa_cons pe_str pa_nil))) (by rfl)) (pss_cons (ps_if (PW.pt (pw_or (pt_cmpR op_ne (pe_callB c_len (by rfl) T.len PySem.boot_len (pa_cons (pv 1) pa_nil)) pe_int (nomark _)) (pw_or1 (pt_not (pt_val (pe_c c_is_from hr (by decide) (by rfl) (pa_cons (pe_ix ix_tup (pv 1) pe_int (fun _ _ => rfl)) (pa_cons pe_int (pa_cons (pe_op op_sub (pe_callB c_len (by rfl) T.len PySem.boot_len (pa_cons (pv 2) pa_nil)) pe_int) pa_nil))))))))) (pss_one (ps_ret pe_bl)) pss_nil)
      (pss_one (ps_ret (pe_c c_is_from hr (by decide) (by rfl) (pa_cons (pe_ix ix_tup (pv 1) pe_int (fun _ _ => rfl)) (pa_cons pe_int (pa_cons (pe_ifExp (pt_cmpR op_eq (pv 5) pe_str (nomark _)) (pe_gc (by rfl) T.g_MOST_DIGIT) (pe_op op_sub (pe_callB c_len (by rfl) T.len PySem.boot_len (pa_cons (pv 2) pa_nil)) pe_int)) pa_nil))))))) pss_nil)
      (pss_cons (ps_if (pt_cmpR op_ne (pe_callB c_len (by rfl) T.len PySem.boot_len (pa_cons (pv 1) pa_nil)) pe_int (nomark _)) (pss_one (ps_ret pe_bl)) pss_nil)
      (pss_cons (ps_if (pt_cmpR op_eq (pv 5) pe_str (nomark _)) (pss_one (ps_ret (pe_c c_is_from hr (by decide) (by rfl) (pa_cons (pe_ix ix_tup (pv 1) pe_int (fun _ _ => rfl)) (pa_cons pe_int (pa_cons (pe_op op_sub (pe_callB c_len (by rfl) T.len PySem.boot_len (pa_cons (pv 2) pa_nil)) pe_int) pa_nil)))))) pss_nil)
      (pss_cons (ps_if (pt_cmpR op_eq (pv 5) pe_str (nomark _)) (pss_one (ps_ret (pe_c c_is_from hr (by decide) (by rfl) (pa_cons (pe_ix ix_tup (pv 1) pe_int (fun _ _ => rfl)) (pa_cons pe_int (pa_cons (pe_op op_sub (pe_callB c_len (by rfl) T.len PySem.boot_len (pa_cons (pv 3) pa_nil)) pe_int) pa_nil)))))) pss_nil)
      (pss_one (ps_ret (pe_and (pe_cmpR op_in_seq (pv 5) (pe_tup (pa_cons pe_str (pa_cons pe_str pa_nil))) (by rfl)) (pe_one (pe_c c_is_from hr (by decide) (by rfl) (pa_cons (pe_ix ix_tup (pv 1) pe_int (fun _ _ => rfl)) (pa_cons pe_int (pa_cons (pe_op op_sub (pe_c c_lines_in hr (by decide) (by rfl) (pa_cons (pv 2) pa_nil)) pe_int) pa_nil))))))))))))))), ?_⟩
    walk_at "rd"
    refine st_gtup hx (Kp.refl _) rfl fun xs hxs => ?_
    obtain ⟨vm, xs, rfl, hm, hxs⟩ := hxs.cons_inv
    obtain ⟨vo, xs, rfl, hos, hxs⟩ := hxs.cons_inv
    obtain ⟨vp, xs, rfl, hp, hxs⟩ := hxs.cons_inv
    cases hxs.nil_inv
    walk_at "rd"
    refine st_ixT_str hy (Kp.refl _) (atI_nat (j := 0) rfl) ?_
    walk_at "rd"
    have fin : ∀ (v : Bool), deedOk b.mem.length b.ords.length d = v → ∀ H', Ex H H' → Q (.bl v) H' := fun v e H' e' => by
      rw [← e]
      exact q H' e'
    clear q
    unfold deedOk at fin
    obtain ⟨w0, ns⟩ := d
    have hL : ∀ H', Ex H H' → Im H' (.tuple (.str w0 :: ns.map .int)) y := fun H' e => hy.ex e
    refine st_D (fun h1 => ?_) (fun h1 => ?_)
    · walk_at "rd"
      refine st_lenT hy (Kp.refl _) ?_
      walk_at "rd"
      refine fin _ ?_ H (Ex.refl H)
      rw [if_pos h1, deed_len, Bool.eq_iff_iff, beq_iff_eq, decide_eq_true_eq]
      simp only
      omega
    rw [if_neg h1] at fin
    walk_at "rd"
    refine st_newT (by simp) fun p H1 hp e1 t1 => ?_
    refine st_in2 t1 ?_
    walk_at "rd"
    refine st_D (fun h2 => ?_) (fun h2 => ?_)
    · rw [if_pos h2] at fin
      walk_at "rd"
      refine st_lenT hy e1.kp ?_
      walk_at "rd"
      refine st_ND (fun h3 => ?_) (fun h3 => ?_)
      · walk_at "rd"
        refine fin _ ?_ H1 e1
        rw [deed_len] at h3
        match ns, h3 with
        | [], _ => rfl
        | [_], _ => rfl
        | [_, _], h3 => exact absurd rfl h3
        | _ :: _ :: _ :: _, _ => rfl
      rw [deed_len] at h3
      obtain ⟨x1, y1, rfl⟩ : ∃ x1 y1, ns = [x1, y1] := by
        match ns, h3 with
        | [x1, y1], _ => exact ⟨x1, y1, rfl⟩
        | [], h3 => exact absurd h3 (by simp)
        | [_], h3 => exact absurd h3 (by simp)
        | _ :: _ :: _ :: _, h3 => exact absurd h3 (by simp only [List.length_cons]; omega)
      walk_at "rd"
      refine st_ixT_int hy e1.kp (atI_nat (j := 1) rfl) ?_
      walk_at "rd"
      refine st_lenT hm e1.kp ?_
      walk_at "rd"
      refine ⟨_, _, _, rfl, ?_⟩
      walk_at "rd"
      rw [List.length_map]
      refine st_ND (fun h4 => ?_) (fun h4 => ?_)
      · walk_at "rd"
        refine fin _ ?_ H1 e1
        show (decide (0 ≤ x1 ∧ x1 ≤ (b.mem.length : Int) - 1) && _) = _
        rw [decide_eq_false h4]
        rfl
      walk_at "rd"
      refine st_ixT_int hy e1.kp (atI_nat (j := 2) rfl) ?_
      walk_at "rd"
      refine st_D (fun h5 => ?_) (fun h5 => ?_)
      · walk_at "rd"
        refine ⟨_, _, _, rfl, ?_⟩
        refine fin _ ?_ H1 e1
        show (decide (0 ≤ x1 ∧ x1 ≤ (b.mem.length : Int) - 1) && _) = _
        rw [decide_eq_true h4, Bool.true_and]
        simp only [if_pos h5]
      · walk_at "rd"
        refine st_lenT hm e1.kp ?_
        walk_at "rd"
        refine ⟨_, _, _, rfl, ?_⟩
        refine fin _ ?_ H1 e1
        show (decide (0 ≤ x1 ∧ x1 ≤ (b.mem.length : Int) - 1) && _) = _
        rw [decide_eq_true h4, Bool.true_and, List.length_map]
        simp only [if_neg h5]
    rw [if_neg h2] at fin
    walk_at "rd"
    refine st_lenT hy e1.kp ?_
    walk_at "rd"
    refine st_ND (fun h3 => ?_) (fun h3 => ?_)
    · walk_at "rd"
      refine fin _ ?_ H1 e1
      rw [deed_len] at h3
      match ns, h3 with
      | [], _ => rfl
      | [_], h3 => exact absurd rfl h3
      | _ :: _ :: _, _ => rfl
    rw [deed_len] at h3
    obtain ⟨x1, rfl⟩ : ∃ x1, ns = [x1] := by
      match ns, h3 with
      | [x1], _ => exact ⟨x1, rfl⟩
      | [], h3 => exact absurd h3 (by simp)
      | _ :: _ :: _, h3 => exact absurd h3 (by simp only [List.length_cons]; omega)
    have fin' : ∀ (v : Bool), (if w0 = "say" then decide (0 ≤ x1 ∧ x1 ≤ (b.mem.length : Int) - 1) else if w0 = "start" then decide (0 ≤ x1 ∧ x1 ≤ (b.ords.length : Int) - 1) else decide (w0 = "clean" ∨ w0 = "drop") && decide (0 ≤ x1 ∧ x1 ≤ ((b.mem.length / 4 : Nat) : Int) - 1)) = v → ∀ H', Ex H H' → Q (.bl v) H' := fin
    clear fin
    walk_at "rd"
    refine st_D (fun h4 => ?_) (fun h4 => ?_)
    · rw [if_pos h4] at fin'
      walk_at "rd"
      refine st_ixT_int hy e1.kp (atI_nat (j := 1) rfl) ?_
      walk_at "rd"
      refine st_lenT hm e1.kp ?_
      walk_at "rd"
      refine ⟨_, _, _, rfl, ?_⟩
      refine fin' _ ?_ H1 e1
      rw [List.length_map]
    rw [if_neg h4] at fin'
    walk_at "rd"
    refine st_D (fun h5 => ?_) (fun h5 => ?_)
    · rw [if_pos h5] at fin'
      walk_at "rd"
      refine st_ixT_int hy e1.kp (atI_nat (j := 1) rfl) ?_
      walk_at "rd"
      refine st_lenT hos e1.kp ?_
      walk_at "rd"
      refine ⟨_, _, _, rfl, ?_⟩
      refine fin' _ ?_ H1 e1
      rw [List.length_map]
    rw [if_neg h5] at fin'
    walk_at "rd"
    refine st_newT (by simp) fun p2 H2 hp2 e2 t2 => ?_
    refine st_in2 t2 ?_
    walk_at "rd"
    refine st_D (fun h6 => ?_) (fun h6 => ?_)
    · rw [decide_eq_true h6, Bool.true_and] at fin'
      walk_at "rd"
      refine st_ixT_int hy (e1.trans e2).kp (atI_nat (j := 1) rfl) ?_
      walk_at "rd"
      refine ⟨_, _, rfl, hm.ex (e1.trans e2), ?_⟩
      walk_at "rd"
      refine ⟨_, _, _, rfl, ?_⟩
      refine fin' _ ?_ H2 (e1.trans e2)
      rw [List.length_map]
    · refine fin' _ ?_ H2 (e1.trans e2)
      rw [decide_eq_false h6]
      rfl
/-! ### BadBoard.__init__ -/
theorem sc_BadBoard___init__ : FnScope ["self", "word", "number"] ["self", "word", "number"] (defScope s_BadBoard___init__) := ⟨rfl, rfl, rfl, by decide +kernel, rfl, by decide +kernel, by decide +kernel⟩
def mkBadBoard : List V → List (Str × V)
  | [y, z] => [("number", z), ("word", y)]
  | _ => []
theorem makx_BadBoard {P w base K mg c x} (T : Txt K mg c) (xt : XTxt K mg x) : MakX P w K mg base 6 "BadBoard" x.BadBoard (spInit x.BadBoard 2 mkBadBoard) := by
  obtain ⟨f, fd, F, hi, ht⟩ := xt.i_BadBoard
  refine makx_of xt.o_BadBoard hi ht xt.g_BadBoard F (fun _ _ _ _ _ _ us hl => match us, hl with | [_, _, _], _ => rfl) sc_BadBoard___init__ (fun vs H Q E h => ?_) (fun cdv A outer s H vs Q E hr h => ?_)
  · obtain ⟨a, ys, rfl, hl, _⟩ := h
    show (V.ref a :: ys).length = 3
    rw [List.length_cons, hl]
  · obtain ⟨a, ys, rfl, hl, ha, q⟩ := h
    obtain ⟨y, z, rfl⟩ : ∃ y z, ys = [y, z] := by
      match ys, hl with
      | [y, z], _ => exact ⟨y, z, rfl⟩
    refine ⟨_, (pss_cons (ps_expr (pe_ceinit (by rfl) xt.g_CarrierError xt.rC xt.gC xt.fC (pa_cons (pv 0) (pa_cons (pv 1) pa_nil))))
      (pss_cons (ps_ost (pv 0) (pv 1))
      (pss_one (ps_ost (pv 0) (pv 2))))), ?_⟩
    walk_at "rd"
    refine st_veI ?_
    walk_at "rd"
    refine ⟨a, x.BadBoard, [y], rfl, by simp, xt.o_BadBoard, ha, ?_⟩
    walk_at "rd"
    dsimp only
    refine st_ost ?_
    walk_at "rd"
    refine st_ost1 xt.o_BadBoard xt.n_BadBoard_word ha fun dx H1 nd ne h1 h2 h3 => ?_
    walk_at "rd"
    dsimp only
    refine st_ost ?_
    walk_at "rd"
    refine st_ost2 xt.o_BadBoard xt.n_BadBoard_number ne h1 h2 (by simp) fun H2 g1 g2 g3 => ?_
    exact q dx H2 nd ne g1 g2 fun b hb hd => (g3 b hd).trans (h3 b hb hd)
/-! ### BadFence.__init__ -/
theorem sc_BadFence___init__ : FnScope ["self", "number"] ["self", "number"] (defScope s_BadFence___init__) := ⟨rfl, rfl, rfl, by decide +kernel, rfl, by decide +kernel, by decide +kernel⟩
def mkBadFence : List V → List (Str × V)
  | [y] => [("number", y)]
  | _ => []
theorem makx_BadFence {P w base K mg c x} (T : Txt K mg c) (xt : XTxt K mg x) : MakX P w K mg base 6 "BadFence" x.BadFence (spInit x.BadFence 1 mkBadFence) := by
  obtain ⟨f, fd, F, hi, ht⟩ := xt.i_BadFence
  refine makx_of xt.o_BadFence hi ht xt.g_BadFence F (fun _ _ _ _ _ _ us hl => match us, hl with | [_, _], _ => rfl) sc_BadFence___init__ (fun vs H Q E h => ?_) (fun cdv A outer s H vs Q E hr h => ?_)
  · obtain ⟨a, ys, rfl, hl, _⟩ := h
    show (V.ref a :: ys).length = 2
    rw [List.length_cons, hl]
  · obtain ⟨a, ys, rfl, hl, ha, q⟩ := h
    obtain ⟨y, rfl⟩ : ∃ y, ys = [y] := by
      match ys, hl with
      | [y], _ => exact ⟨y, rfl⟩
    refine ⟨_, (pss_cons (ps_expr (pe_ceinit (by rfl) xt.g_CarrierError xt.rC xt.gC xt.fC (pa_cons (pv 0) (pa_cons pe_str pa_nil))))
      (pss_one (ps_ost (pv 0) (pv 1)))), ?_⟩
    walk_at "rd"
    refine st_veI ?_
    walk_at "rd"
    refine ⟨a, x.BadFence, _, rfl, by simp, xt.o_BadFence, ha, ?_⟩
    walk_at "rd"
    dsimp only
    refine st_ost ?_
    walk_at "rd"
    refine st_ost1 xt.o_BadFence xt.n_BadFence_number ha fun dx H1 nd ne h1 h2 h3 => ?_
    exact q dx H1 nd ne h1 h2 h3
/-! ### check_board -/
theorem sc_check_board : FnScope ["board", "memory", "orders", "program", "place", "number", "starts", "deed"] ["board"] (defScope s_check_board) := ⟨rfl, rfl, rfl, by decide +kernel, rfl, by decide +kernel, by decide +kernel⟩
def sp_check_board (x : Xc) : Sp := fun vs H Q E => ∃ (v : V) (b : RB), vs = [v] ∧ Im H (pyB b) v ∧ b.ords.length ≤ 100000 ∧ b.prog.length ≤ 100000 ∧ (boardFault b = none → ∀ H', Ex H H' → Q .non H') ∧
  ∀ w n, boardFault b = some (w, n) → ∀ d H', Ex H H' → H' d = some (.xd [("number", .int (n : Int)), ("word", .str w)]) → E (.ref x.BadBoard) (some d) H'
theorem cal_check_board {P w base K mg c x} (T : Txt K mg c) (xt : XTxt K mg x) : Cal (L2.CX P w) P w K mg base 8 "check_board" (sp_check_board x) := by
  obtain ⟨f, fd, F, m⟩ := T.F_check_board
  have c_memory_fault := cal_memory_fault (P := P) (w := w) (base := base) T
  have c_is_order := cal_is_order (P := P) (w := w) (base := base) T
  have c_is_deed := cal_is_deed (P := P) (w := w) (base := base) T
  have kx_BadBoard := makx_BadBoard (P := P) (w := w) (base := base) T xt
  refine cal_ofX F m (fun _ _ _ _ _ _ us hl => match us, hl with | [_], _ => rfl) sc_check_board (fun vs H Q E h => ?_) (fun cdv A outer s H vs Q E hr h => ?_)
  · obtain ⟨v, b, rfl, _⟩ := h
    rfl
  · obtain ⟨v, b, rfl, hx, lo, lp, q, qe⟩ := h
    refine ⟨_, (pss_cons (ps_asg (pv 0) (pg_tup (n := 3) rfl (pgs_cons (pg_name (i := 1) sc_check_board.nd rfl (.inl rfl)) (pgs_cons (pg_name (i := 2) sc_check_board.nd rfl (.inl rfl)) (pgs_cons (pg_name (i := 3) sc_check_board.nd rfl (.inl rfl)) pgs_nil)))))
      (pss_cons (ps_set (i := 4) sc_check_board.nd rfl (.inl rfl) (pe_c c_memory_fault hr (by decide) (by rfl) (pa_cons (pv 1) pa_nil)))
      (pss_cons (ps_if (pt_cmpR o_notN (pv 4) pe_non (nomark _)) (pss_one (ps_raise rfl (takes_of rfl rfl rfl rfl) (pmk_x kx_BadBoard hr (by decide) (by rfl) (pa_cons pe_str (pa_cons (pv 4) pa_nil))))) pss_nil)
      (pss_cons (ps_for (passes_of rfl) rfl (pi_range1 rfl T.range (pa_cons (pe_callB c_len (by rfl) T.len PySem.boot_len (pa_cons (pv 2) pa_nil)) pa_nil)) (pg_name (i := 5) sc_check_board.nd rfl (.inl rfl))
      (pss_one (ps_if (PW.pt (pw_or (pt_cmpR op_ge (pv 5) (pe_gc (by rfl) T.g_MOST_ORDERS) (nomark _)) (pw_or1 (pt_not (pt_val (pe_c c_is_order hr (by decide) (by rfl) (pa_cons (pv 0) (pa_cons (pv 5) pa_nil)))))))) (pss_one (ps_raise rfl (takes_of rfl rfl rfl rfl) (pmk_x kx_BadBoard hr (by decide) (by rfl) (pa_cons pe_str (pa_cons (pv 5) pa_nil))))) pss_nil)))
      (pss_cons (ps_set (i := 6) sc_check_board.nd rfl (.inl rfl) pe_int)
      (pss_one (ps_for (passes_of rfl) rfl (pi_enumT (by rfl) T.enumerate (pa_cons (pv 3) pa_nil)) (pg_tup (n := 2) rfl (pgs_cons (pg_name (i := 5) sc_check_board.nd rfl (.inl rfl)) (pgs_cons (pg_name (i := 7) sc_check_board.nd rfl (.inl rfl)) pgs_nil)))
      (pss_cons (ps_if (PW.pt (pw_or (pt_cmpR op_ge (pv 5) (pe_gc (by rfl) T.g_MOST_DEEDS) (nomark _)) (pw_or1 (pt_not (pt_val (pe_c c_is_deed hr (by decide) (by rfl) (pa_cons (pv 0) (pa_cons (pv 7) pa_nil)))))))) (pss_one (ps_raise rfl (takes_of rfl rfl rfl rfl) (pmk_x kx_BadBoard hr (by decide) (by rfl) (pa_cons pe_str (pa_cons (pv 5) pa_nil))))) pss_nil)
      (pss_cons (ps_aug (i := 6) sc_check_board.nd rfl (.inl rfl) (pe_callTy c_int (by rfl) T.int (by decide +kernel) (pa_cons (pe_cmpR op_eq (pe_ix ix_tup (pv 7) pe_int (fun _ _ => rfl)) pe_str (nomark _)) pa_nil)) ip_add)
      (pss_one (ps_if (pt_cmpR op_gt (pv 6) (pe_gc (by rfl) T.g_MOST_STARTS) (nomark _)) (pss_one (ps_raise rfl (takes_of rfl rfl rfl rfl) (pmk_x kx_BadBoard hr (by decide) (by rfl) (pa_cons pe_str (pa_cons (pv 5) pa_nil))))) pss_nil))))))))))), ?_⟩
    -- a refusal
    have bad : ∀ (w : Str) (n : Nat) H', boardFault b = some (w, n) → Ex H H' → MkO x.BadBoard (spInit x.BadBoard 2 mkBadBoard) [.str w, .int (n : Int)] H' E := fun w n H' hw e => st_mk rfl (by decide) fun d H2 e2 _ hd => qe w n hw d H2 (e.trans e2) hd
    walk_at "rd"
    refine st_gtup hx (Kp.refl _) rfl fun xs hxs => ?_
    obtain ⟨vm, xs, rfl, hm, hxs⟩ := hxs.cons_inv
    obtain ⟨vo, xs, rfl, hos, hxs⟩ := hxs.cons_inv
    obtain ⟨vp, xs, rfl, hp, hxs⟩ := hxs.cons_inv
    cases hxs.nil_inv
    walk_at "rd"
    refine ⟨_, _, rfl, hm, fun H1 e1 => ?_⟩
    cases hmf : memFault b.mem with
    | some k =>
      simp only [vNat]
      walk_at "rd"
      refine st_mkO ?_
      walk_at "rd"
      exact bad "memory" k H1 (fault_mem hmf) e1
    | none =>
    simp only [vNat]
    walk_at "rd"
    refine st_lenT hos e1.kp ?_
    walk_at "rd"
    rw [List.length_map]
    refine st_walkR (n := b.ords.length) (by omega) (fun i σ H' => ∃ y, σ = [some v, some vm, some vo, some vp, some .non, y, none, none] ∧ Ex H H' ∧ ∀ j, j < i → ordBad b j = false) ⟨none, rfl, e1, fun j hj => absurd hj (by omega)⟩ (fun i σ' H' hi p => ?_) (fun σ' H' p => ?_)
    · obtain ⟨y, rfl, e, hj⟩ := p
      have hi' : i < b.ords.length := by omega
      have hob : ordBad b i = (decide (4 ≤ i) || !ordOk b.mem.length b.ords.length i b.ords[i]) := by
        unfold ordBad
        rw [List.getElem?_eq_getElem hi']
        rfl
      walk_at "rd"
      refine st_D (fun h4 => ?_) (fun h4 => ?_)
      · walk_at "rd"
        refine st_mkO ?_
        walk_at "rd"
        exact bad "orders" i H' (fault_ord hmf (firstBad_at hi' (by rw [hob, decide_eq_true (by omega : 4 ≤ i)]; rfl) hj)) e
      walk_at "rd"
      refine ⟨v, b, i, b.ords[i], rfl, hx.ex e, List.getElem?_eq_getElem hi', ?_⟩
      walk_at "rd"
      refine st_NB (fun h5 => ?_) (fun h5 => ?_)
      · walk_at "rd"
        refine st_mkO ?_
        walk_at "rd"
        exact bad "orders" i H' (fault_ord hmf (firstBad_at hi' (by rw [hob, h5]; simp) hj)) e
      · walk_at "rd"
        refine ⟨_, rfl, e, fun j hji => ?_⟩
        by_cases z : j < i
        · exact hj j z
        · obtain rfl : j = i := by omega
          rw [hob, h5, decide_eq_false (by omega)]
          rfl
    · obtain ⟨y, rfl, e, hj⟩ := p
      have hord := firstBad_none hj
      walk_at "rd"
      refine st_forET (H0 := H) (fun i σ H' => ∃ y z, σ = [some v, some vm, some vo, some vp, some .non, y, some (.int (((b.prog.take i).filter isStart).length : Int)), z] ∧ Ex H H' ∧ ∀ j, j < i → progBad b j = false) rfl hp e.kp ⟨y, none, rfl, e, fun j hj => absurd hj (by omega)⟩ (fun i σ H' p => ?_) (fun i d u σ H' H'' hd p ht hv => ?_) (fun σ H' p => ?_)
      · obtain ⟨_, _, _, e, _⟩ := p
        exact e.kp
      · obtain ⟨y, z, rfl, e, hj⟩ := p
        obtain ⟨dd, en, rfl⟩ := map_at' hd
        have hi : i < b.prog.length := (List.getElem?_eq_some_iff.mp en).1
        have hpb : progBad b i = (decide (60 ≤ i) || !deedOk b.mem.length b.ords.length dd || decide (3 < ((b.prog.take (i + 1)).filter isStart).length)) := by
          unfold progBad
          rw [en]
          rfl
        have E2 := e.trans ht
        have no : ∀ (H' : Hp), Ex H H' → progBad b i = true → MkO x.BadBoard (spInit x.BadBoard 2 mkBadBoard) [.str "program", .int (i : Int)] H' E := fun H' e' hb => bad "program" i H' (by rw [fault_prog hmf hord (firstBad_at hi hb hj)]; rfl) e'
        walk_at "rd"
        refine st_D (fun h => ?_) (fun h60 => ?_)
        · walk_at "rd"
          refine st_mkO ?_
          walk_at "rd"
          exact no _ E2 (by rw [hpb, decide_eq_true (by omega : 60 ≤ i)]; rfl)
        walk_at "rd"
        refine ⟨v, u, b, dd, rfl, hx.ex E2, hv, fun H2 e2 => ?_⟩
        walk_at "rd"
        refine st_NB (fun h5 => ?_) (fun h5 => ?_)
        · walk_at "rd"
          refine st_mkO ?_
          walk_at "rd"
          exact no _ (E2.trans e2) (by rw [hpb, h5]; simp)
        walk_at "rd"
        refine st_ixT_str hv e2.kp (atI_nat (j := 0) rfl) ?_
        walk_at "rd"
        have ec : (((b.prog.take i).filter isStart).length : Int) + (if decide (dd.1 = "start") = true then 1 else 0) = (((b.prog.take (i + 1)).filter isStart).length : Int) := by
          rw [List.take_add_one, en]
          simp only [Option.toList_some, List.filter_append, List.length_append, List.filter_cons, List.filter_nil, isStart]
          by_cases hs : dd.1 = "start"
          · simp [hs]
          · simp [hs]
        rw [ec]
        refine st_D (fun h => ?_) (fun h3 => ?_)
        · walk_at "rd"
          refine st_mkO ?_
          walk_at "rd"
          exact no _ (E2.trans e2) (by rw [hpb, decide_eq_true (by omega : 3 < ((b.prog.take (i + 1)).filter isStart).length)]; simp)
        · walk_at "rd"
          refine ⟨_, _, rfl, E2.trans e2, fun j hji => ?_⟩
          by_cases z : j < i
          · exact hj j z
          · obtain rfl : j = i := by omega
            rw [hpb, h5, decide_eq_false (by omega), decide_eq_false (by omega)]
            rfl
      · obtain ⟨y, z, rfl, e, hj⟩ := p
        rw [List.length_map] at hj
        have : boardFault b = none := by rw [fault_prog hmf hord (firstBad_none hj)]; rfl
        exact q this _ e
/-! ### check_fences, with refusals -/
theorem sc_check_fences : FnScope ["board", "fences", "number", "fence", "place", "deed", "good"] ["board", "fences"] (defScope s_check_fences) := ⟨rfl, rfl, rfl, by decide +kernel, rfl, by decide +kernel, by decide +kernel⟩
def sp_check_fences (x : Xc) : Sp := fun vs H Q E => ∃ (v : V) (b : RB) (l : Addr) (xs : List V) (fs : List RF), vs = [v, .ref l] ∧ Im H (pyB b) v ∧ H l = some (.lst xs) ∧ ImL H (fs.map pyF) xs ∧ fs.length ≤ 1000 ∧
  (firstBad fs.length (fBad b fs) = none → ∀ H', Ex H H' → Q .non H') ∧ ∀ n, firstBad fs.length (fBad b fs) = some n → ∀ d H', Ex H H' → H' d = some (.xd [("number", .int (n : Int))]) → E (.ref x.BadFence) (some d) H'
theorem cal_check_fences {P w base K mg c x} (T : Txt K mg c) (xt : XTxt K mg x) : Cal (L2.CX P w) P w K mg base 8 "check_fences" (sp_check_fences x) := by
  obtain ⟨f, fd, F, m⟩ := T.F_check_fences
  obtain ⟨aF, g_FENCES, sF⟩ := T.g_FENCES
  have c_is_deed := cal_is_deed (P := P) (w := w) (base := base) T
  have kx_BadFence := makx_BadFence (P := P) (w := w) (base := base) T xt
  refine cal_ofX F m (fun _ _ _ _ _ _ us hl => match us, hl with | [_, _], _ => rfl) sc_check_fences (fun vs H Q E h => ?_) (fun cdv A outer s H vs Q E hr h => ?_)
  · obtain ⟨v, b, l, xs, fs, rfl, _⟩ := h
    rfl
  · obtain ⟨v, b, l, xs, fs, rfl, hx, hl, hxs, hf, q, qe⟩ := h
    refine ⟨_, (pss_one (ps_for (passes_of rfl) rfl (pi_enum (by rfl) T.enumerate (pa_cons (pv 1) pa_nil)) (pg_tup (n := 2) rfl (pgs_cons (pg_name (i := 2) sc_check_fences.nd rfl (.inl rfl)) (pgs_cons (pg_name (i := 3) sc_check_fences.nd rfl (.inl rfl)) pgs_nil)))
      (pss_cons (ps_asg (pv 3) (pg_tup (n := 2) rfl (pgs_cons (pg_name (i := 4) sc_check_fences.nd rfl (.inl rfl)) (pgs_cons (pg_name (i := 5) sc_check_fences.nd rfl (.inl rfl)) pgs_nil))))
      (pss_cons (ps_set (i := 6) sc_check_fences.nd rfl (.inl rfl) (pe_and (pe_cmpR op_le pe_int (pv 4) (nomark _)) (pe_and (pe_cmpR op_le (pv 4) (pe_callB c_len (by rfl) T.len PySem.boot_len (pa_cons (pe_ix ix_tup (pv 0) pe_int (fun _ _ => rfl)) pa_nil)) (nomark _)) (pe_and (pe_cmpR op_in_seq (pe_ix ix_tup (pv 5) pe_int (fun _ _ => rfl)) (pe_gc (by rfl) g_FENCES) (by rfl)) (pe_one (pe_c c_is_deed hr (by decide) (by rfl) (pa_cons (pv 0) (pa_cons (pv 5) pa_nil))))))))
      (pss_one (ps_if (PW.pt (pw_or (pt_cmpR op_ge (pv 2) (pe_gc (by rfl) T.g_MOST_FENCES) (nomark _)) (pw_or1 (pt_not (pt_val (pv 6)))))) (pss_one (ps_raise rfl (takes_of rfl rfl rfl rfl) (pmk_x kx_BadFence hr (by decide) (by rfl) (pa_cons (pv 2) pa_nil)))) pss_nil)))))), ?_⟩
    have bad : ∀ (n : Nat) H', firstBad fs.length (fBad b fs) = some n → Ex H H' → MkO x.BadFence (spInit x.BadFence 1 mkBadFence) [.int (n : Int)] H' E := fun n H' hw e => st_mk rfl (by decide) fun d H2 e2 _ hd => qe n hw d H2 (e.trans e2) hd
    walk_at "rd"
    refine st_walkE hl (fun i σ H' => ∃ (y1 y2 y3 y4 y5 : Option V), σ = [some v, some (.ref l), y1, y2, y3, y4, y5] ∧ Ex H H' ∧ ∀ j, j < i → fBad b fs j = false) ⟨none, none, none, none, none, rfl, Ex.refl _, fun j hj => absurd hj (by omega)⟩ (fun i σ' H' p => ?_) (fun i v' σ' H' H'' hv p e2 => ?_) (fun σ' H' p => ?_)
    · obtain ⟨_, _, _, _, _, _, e, _⟩ := p
      exact e _ _ hl
    · obtain ⟨y1, y2, y3, y4, y5, rfl, e, hj⟩ := p
      have E2 := e.trans e2
      obtain ⟨dd, g1, g2⟩ := hxs.get' hv
      obtain ⟨fe, g3, rfl⟩ := map_at' g1
      have hi : i < fs.length := (List.getElem?_eq_some_iff.mp g3).1
      have isBad : (30 ≤ i ∨ fenceOk b fe = false) → firstBad fs.length (fBad b fs) = some i := fun h => firstBad_at hi (by
        unfold fBad
        rw [g3]
        rcases h with h | h
        · rw [decide_eq_true h]
          rfl
        · show (_ || !(fenceOk b fe)) = true
          rw [h]
          simp) hj
      have isFine : ¬ 30 ≤ i → fenceOk b fe = true → ∀ j, j < i + 1 → fBad b fs j = false := fun h h2 j hj' => by
        by_cases z : j = i
        · subst z
          unfold fBad
          rw [g3, decide_eq_false h]
          show (false || !(fenceOk b fe)) = false
          rw [h2]
          rfl
        · exact hj j (by omega)
      walk_at "rd"
      refine st_gtup (g2.ex E2) (Kp.refl _) rfl fun vs hvs => ?_
      obtain ⟨v1, r1, rfl, i1, hvs⟩ := hvs.cons_inv
      obtain ⟨v2, r2, rfl, i2, hvs⟩ := hvs.cons_inv
      cases hvs.nil_inv
      cases Im.int_iff.mp i1
      walk_at "rd"
      refine st_D (fun h0 => ?_) (fun h0 => ?ba)
      case ba =>
        have nok : fenceOk b fe = false := by
          unfold fenceOk
          rw [decide_eq_false (fun z => h0 z.1)]
          rfl
        walk_at "rd"
        refine st_D (fun h30 => ?_) (fun h30 => ?_)
        all_goals
          walk_at "rd"
          refine st_mkO ?_
          walk_at "rd"
          exact bad i H'' (isBad (.inr nok)) E2
      walk_at "rd"
      refine st_ixT hx E2.kp (atI_nat (j := 2) rfl) fun vp hvp => ?_
      walk_at "rd"
      refine st_lenT hvp (Kp.refl _) ?_
      walk_at "rd"
      rw [List.length_map]
      refine st_D (fun h1 => ?_) (fun h1 => ?bb)
      case bb =>
        have nok : fenceOk b fe = false := by
          unfold fenceOk
          rw [decide_eq_false (fun z => h1 z.2)]
          rfl
        walk_at "rd"
        refine st_D (fun h30 => ?_) (fun h30 => ?_)
        all_goals
          walk_at "rd"
          refine st_mkO ?_
          walk_at "rd"
          exact bad i H'' (isBad (.inr nok)) E2
      walk_at "rd"
      refine st_ixT_str i2 (Kp.refl _) (atI_nat (j := 0) rfl) ?_
      walk_at "rd"
      refine ⟨aF, _, rfl, .inr (sF _), rfl, rfl, ?_⟩
      have hin : inV (.str fe.2.1) [.str "wait", .str "clean", .str "drop"] = decide (fe.2.1 = "wait" ∨ fe.2.1 = "clean" ∨ fe.2.1 = "drop") := by
        rw [Bool.eq_iff_iff]
        simp only [inV, List.any_cons, List.any_nil, eqV, Bool.or_false, Bool.or_eq_true, beq_iff_eq, decide_eq_true_eq]
        constructor
        · rintro (h | h | h)
          · exact .inl h.symm
          · exact .inr (.inl h.symm)
          · exact .inr (.inr h.symm)
        · rintro (h | h | h)
          · exact .inl h.symm
          · exact .inr (.inl h.symm)
          · exact .inr (.inr h.symm)
      rw [hin]
      walk_at "rd"
      refine st_D (fun hw => ?_) (fun hw => ?bc)
      case bc =>
        have nok : fenceOk b fe = false := by
          unfold fenceOk
          rw [decide_eq_false hw]
          simp
        walk_at "rd"
        refine st_D (fun h30 => ?_) (fun h30 => ?_)
        all_goals
          walk_at "rd"
          refine st_mkO ?_
          walk_at "rd"
          exact bad i H'' (isBad (.inr nok)) E2
      walk_at "rd"
      refine ⟨v, v2, b, fe.2, rfl, hx.ex E2, i2, fun H3 e3 => ?_⟩
      have hok : fenceOk b fe = deedOk b.mem.length b.ords.length fe.2 := by
        unfold fenceOk
        rw [decide_eq_true ⟨h0, h1⟩, decide_eq_true hw]
        rfl
      rw [← hok]
      walk_at "rd"
      refine st_D (fun h30 => ?_) (fun h30 => ?_)
      · walk_at "rd"
        refine st_mkO ?_
        walk_at "rd"
        exact bad i H3 (isBad (.inl (by omega))) (E2.trans e3)
      · cases hg : fenceOk b fe with
        | false =>
          walk_at "rd"
          refine st_mkO ?_
          walk_at "rd"
          exact bad i H3 (isBad (.inr hg)) (E2.trans e3)
        | true =>
          walk_at "rd"
          exact ⟨_, _, _, _, _, rfl, E2.trans e3, isFine (by omega) hg⟩
    · obtain ⟨y1, y2, y3, y4, y5, rfl, e, hj⟩ := p
      rw [hxs.length, List.length_map] at hj
      exact q (firstBad_none hj) _ e
/-! ### put_in -/
theorem sc_put_in : FnScope ["board", "fences", "program", "place", "where", "deed"] ["board", "fences"] (defScope s_put_in) := ⟨rfl, rfl, rfl, by decide +kernel, rfl, by decide +kernel, by decide +kernel⟩
def sp_put_in : Sp := fun vs H Q _ => ∃ (x : V) (b : RB) (l : Addr) (xs : List V) (fs : List RF), vs = [x, .ref l] ∧ Im H (pyB b) x ∧ H l = some (.lst xs) ∧ ImL H (fs.map pyF) xs ∧ b.prog.length ≤ 100 ∧ fs.length ≤ 100 ∧
  ∀ v H', Ex H H' → Im H' (pyB ⟨b.mem, b.ords, putIn b.prog fs⟩) v → Q v H'
theorem cal_put_in {P w base K mg c} (T : Txt K mg c) : Cal CX0 P w K mg base 1 "put_in" sp_put_in := by
  obtain ⟨f, fd, F, m⟩ := T.F_put_in
  refine cal_of F m (fun _ _ _ _ _ _ us hl => match us, hl with | [_, _], _ => rfl) sc_put_in (fun vs H Q E h => ?_) (fun cdv A outer s H vs Q E hr h => ?_)
  · obtain ⟨x, b, l, xs, fs, rfl, _⟩ := h
    rfl
  · obtain ⟨x, b, l, xs, fs, rfl, hx, hl, hxs, hb, hf, q⟩ := h
    refine ⟨_, (pss_cons (ps_set (i := 2) sc_put_in.nd rfl (.inl rfl) (pe_lst pa_nil))
      (pss_cons (ps_for PassesOwn.never rfl (pi_range1 rfl T.range (pa_cons (pe_op op_add (pe_callB c_len (by rfl) T.len PySem.boot_len (pa_cons (pe_ix ix_tup (pv 0) pe_int (fun _ _ => rfl)) pa_nil)) pe_int) pa_nil)) (pg_name (i := 3) sc_put_in.nd rfl (.inr rfl))
      (pss_cons (ps_expr (pe_bm PySem.F.plainAttrs_list PySem.F.slot_list_extend PySem.F.type_list_extend mt_extend (pv 2) (pa_cons (pe_lc (own := [("where", 4), ("deed", 5)]) (g := (gTup K 2 (gCons (gName 4) (gCons (gName 5) gNil)))) (tt := (tTest (tOp rEq (tVar 4) (tVar 3)))) (te := (tVar 5)) rfl sc_put_in.nd (pi_list (pv 1)) (blkOk_by (N := ["board", "fences", "program", "place", "where", "deed"]) (sc := defScope s_put_in) (own := [("where", 4), ("deed", 5)]) (by decide +kernel)) (fun _ _ _ _ _ => (pg_tup (n := 2) rfl (pgs_cons (pg_name (i := 4) sc_put_in.nd rfl (.inl rfl)) (pgs_cons (pg_name (i := 5) sc_put_in.nd rfl (.inl rfl)) pgs_nil)))) (fun _ _ _ _ _ => (pts_one (pt_cmpR op_eq (pv 4) (pv 3) (nomark _)))) (fun _ _ _ _ _ => (pv 5))) pa_nil)))
      (pss_one (ps_expr (pe_bm PySem.F.plainAttrs_list PySem.F.slot_list_extend PySem.F.type_list_extend mt_extT (pv 2) (pa_cons (pe_slice sl_tupA (pe_ix ix_tup (pv 0) pe_int (fun _ _ => rfl)) (po_some (pv 3)) (po_some (pe_op op_add (pv 3) pe_int))) pa_nil))))))
      (pss_one (ps_ret (pe_tup (pa_cons (pe_ix ix_tup (pv 0) pe_int (fun _ _ => rfl)) (pa_cons (pe_ix ix_tup (pv 0) pe_int (fun _ _ => rfl)) (pa_cons (pe_callTy c_tuple (by rfl) T.tuple (by decide +kernel) (pa_cons (pv 2) pa_nil)) pa_nil)))))))), ?_⟩
    walk_at "rd"
    refine st_newL (by simp) fun pl H1 npl e1 hpl => ?_
    walk_at "rd"
    refine st_ixT hx e1.kp (atI_nat (j := 2) rfl) fun vp hvp => ?_
    walk_at "rd"
    refine st_lenT hvp (Kp.refl _) ?_
    walk_at "rd"
    rw [List.length_map, show ((b.prog.length : Int) + 1) = ((b.prog.length + 1 : Nat) : Int) by omega]
    refine st_walkR (n := b.prog.length + 1) (by omega) (fun i σ H' => ∃ (y1 y2 y3 : Option V) (ys : List V), σ = [some x, some (.ref l), some (.ref pl), y1, y2, y3] ∧ Ex H H' ∧ H' pl = some (.lst ys) ∧ ImL H' ((putTo b.prog fs i).map pyDeed) ys) ⟨none, none, none, [], rfl, e1, hpl, iml_nil⟩ (fun i σ' H' hi p => ?_) (fun σ' H' p => ?_)
    · obtain ⟨y1, y2, y3, ys, rfl, e, hpl', hys⟩ := p
      walk_at "rd"
      refine tyL hpl' ?_
      walk_at "rd"
      refine st_atPlace (fs := fs) (i := i) (e _ _ hl) (hxs.ex e) (by omega) (fun _ _ => rfl) (fun _ _ => rfl) (fun _ _ => rfl) (fun _ _ => rfl) fun D H2 zs nD e2 hD hzs => ?_
      walk_at "rd"
      have hlen : ys.length ≤ 101 * 101 := by
        rw [hys.length, List.length_map]
        exact Nat.le_trans (putTo_len _ _ _) (Nat.mul_le_mul (by omega) (by omega))
      have hzl : zs.length ≤ 100 := by
        rw [hzs.length, List.length_map]
        exact Nat.le_trans (atPlace_len _ _) hf
      refine st_ext (e2 _ _ hpl') hD (by omega) fun H3 f3 k3 h3 => ?_
      walk_at "rd"
      have E3 : Ex H H3 := Fr.ex (e.trans e2) (fun a ha => by rw [List.mem_singleton.mp ha]; exact npl) f3
      refine tyL h3 ?_
      walk_at "rd"
      refine st_ixT hx E3.kp (atI_nat (j := 2) rfl) fun vp' hvp' => ?_
      walk_at "rd"
      refine st_slOne rfl hvp' (Kp.refl _) fun v4 H4 e4 i4 => ?_
      walk_at "rd"
      refine st_extT (e4 _ _ h3) i4 (Kp.refl _) (by rw [List.length_append]; have := toList_len ((b.prog.map pyDeed)[i]?); omega) fun H5 zs2 f5 k5 hz2 h5 => ?_
      refine ⟨_, _, _, _, rfl, Fr.ex (E3.trans e4) (fun a ha => by rw [List.mem_singleton.mp ha]; exact npl) f5, h5, ?_⟩
      rw [putTo_succ, List.map_append, List.map_append, List.append_assoc]
      refine (((hys.ex e2).kp k3).ex e4 |>.kp k5).append ((((hzs.kp k3).ex e4).kp k5).append ?_)
      have : (b.prog[i]?.toList).map pyDeed = (b.prog.map pyDeed)[i]?.toList := by
        rw [List.getElem?_map]
        cases b.prog[i]? <;> rfl
      rw [this]
      exact hz2.kp k5
    · obtain ⟨y1, y2, y3, ys, rfl, e, hpl', hys⟩ := p
      walk_at "rd"
      refine st_ixT hx e.kp (atI_nat (j := 0) rfl) fun vm hm => ?_
      walk_at "rd"
      refine st_ixT hx e.kp (atI_nat (j := 1) rfl) fun vo ho => ?_
      walk_at "rd"
      refine st_tupL hpl' fun tp H2 n2 e2 h2 => ?_
      walk_at "rd"
      refine st_newT (by simp) fun t H3 n3 e3 h3 => ?_
      refine q _ H3 ((e.trans e2).trans e3) (im_tup h3 (iml_cons (hm.ex (e2.trans e3)) (iml_cons (ho.ex (e2.trans e3)) (iml_cons ((im_tup h2 (hys.ex e2)).ex e3) iml_nil))))
/-! ### fenced, with refusals -/
theorem sc_fenced : FnScope ["board", "fences", "found"] ["board", "fences"] (defScope s_fenced) := ⟨rfl, rfl, rfl, by decide +kernel, rfl, by decide +kernel, by decide +kernel⟩
abbrev foundOf (b : RB) (fs : List RF) : RB := ⟨b.mem, b.ords, putIn b.prog fs⟩
/-- what a board with fences is refused with, if it is -/
def FencedE (x : Xc) (b : RB) (fs : List RF) (H : Hp) (E : XK) : Prop := (∀ n, firstBad fs.length (fBad b fs) = some n → ∀ d H', Ex H H' → H' d = some (.xd [("number", .int (n : Int))]) → E (.ref x.BadFence) (some d) H') ∧
  (firstBad fs.length (fBad b fs) = none → ∀ w n, boardFault (foundOf b fs) = some (w, n) → ∀ d H', Ex H H' → H' d = some (.xd [("number", .int (n : Int)), ("word", .str w)]) → E (.ref x.BadBoard) (some d) H')
theorem FencedE.ex {x : Xc} {b : RB} {fs : List RF} {H H1 : Hp} {E : XK} (h : FencedE x b fs H E) (e : Ex H H1) : FencedE x b fs H1 E :=
  ⟨fun n hn d H' e' hd => h.1 n hn d H' (e.trans e') hd, fun hn w n hw d H' e' hd => h.2 hn w n hw d H' (e.trans e') hd⟩
def sp_fenced (x : Xc) : Sp := fun vs H Q E => ∃ (v : V) (b : RB) (l : Addr) (xs : List V) (fs : List RF), vs = [v, .ref l] ∧ Im H (pyB b) v ∧ H l = some (.lst xs) ∧ ImL H (fs.map pyF) xs ∧ fs.length ≤ 100 ∧ b.prog.length ≤ 100 ∧ b.ords.length ≤ 100 ∧ boardFault b = none ∧
  FencedE x b fs H E ∧ (firstBad fs.length (fBad b fs) = none → boardFault (foundOf b fs) = none → ∀ v' H', Ex H H' → Im H' (pyB (foundOf b fs)) v' → Q v' H')
theorem cal_fenced {P w base K mg c x} (T : Txt K mg c) (xt : XTxt K mg x) : Cal (L2.CX P w) P w K mg base 9 "fenced" (sp_fenced x) := by
  obtain ⟨f, fd, F, m⟩ := T.F_fenced
  have c_check_board := cal_check_board (P := P) (w := w) (base := base) T xt
  have c_check_fences := cal_check_fences (P := P) (w := w) (base := base) T xt
  have c_put_in := cal_put_in (P := P) (w := w) (base := base) T
  refine cal_ofX F m (fun _ _ _ _ _ _ us hl => match us, hl with | [_, _], _ => rfl) sc_fenced (fun vs H Q E h => ?_) (fun cdv A outer s H vs Q E hr h => ?_)
  · obtain ⟨v, b, l, xs, fs, rfl, _⟩ := h
    rfl
  · obtain ⟨v, b, l, xs, fs, rfl, hx, hl, hxs, hf, hp, ho, hb, qe, q⟩ := h
    refine ⟨_, (pss_cons (ps_expr (pe_cX c_check_board hr (by decide) (takes_of rfl rfl rfl rfl) (by rfl) (pa_cons (pv 0) pa_nil)))
      (pss_cons (ps_expr (pe_cX c_check_fences hr (by decide) (takes_of rfl rfl rfl rfl) (by rfl) (pa_cons (pv 0) (pa_cons (pv 1) pa_nil))))
      (pss_cons (ps_set (i := 2) sc_fenced.nd rfl (.inl rfl) (pe_c c_put_in hr (by decide) (by rfl) (pa_cons (pv 0) (pa_cons (pv 1) pa_nil))))
      (pss_cons (ps_expr (pe_cX c_check_board hr (by decide) (takes_of rfl rfl rfl rfl) (by rfl) (pa_cons (pv 2) pa_nil)))
      (PSs.nox (pss_one (ps_ret (pv 2)))))))), ?_⟩
    walk_at "rd"
    refine ⟨v, b, rfl, hx, by omega, by omega, fun _ H1 e1 => ?_, fun w n hn => by rw [hb] at hn; cases hn⟩
    walk_at "rd"
    refine ⟨v, b, l, xs, fs, rfl, hx.ex e1, e1 _ _ hl, hxs.ex e1, by omega, fun hnone H2 e2 => ?_, fun n hn d H2 e2 hd => qe.1 n hn d H2 (e1.trans e2) hd⟩
    have E2 := e1.trans e2
    walk_at "rd"
    refine ⟨v, b, l, xs, fs, rfl, hx.ex E2, E2 _ _ hl, hxs.ex E2, by omega, by omega, fun v3 H3 e3 hv => ?_⟩
    have E3 := E2.trans e3
    have hlen : (putIn b.prog fs).length ≤ 100000 := Nat.le_trans (putTo_len _ _ _) (Nat.le_trans (Nat.mul_le_mul (show _ ≤ 101 by omega) (show _ ≤ 101 by omega)) (by decide))
    walk_at "rd"
    refine ⟨v3, foundOf b fs, rfl, hv, by show b.ords.length ≤ 100000; omega, hlen, fun hn H4 e4 => ?_, fun w n hn d H4 e4 hd => qe.2 hnone w n hn d H4 (E3.trans e4) hd⟩
    walk_at "rd"
    exact q hnone hn v3 H4 (E3.trans e4) (hv.ex e4)
/-! ### spare, of fences that are refused -/
theorem sc_spare : FnScope ["board", "fences", "found", "number"] ["board", "fences"] (defScope s_spare) := ⟨rfl, rfl, rfl, by decide +kernel, rfl, by decide +kernel, by decide +kernel⟩
def sp_spare (x : Xc) : Sp := fun vs H Q E => ∃ (v : V) (b : RB) (l : Addr) (xs : List V) (fs : List RF), vs = [v, .ref l] ∧ Im H (pyB b) v ∧ H l = some (.lst xs) ∧ ImL H (fs.map pyF) xs ∧ fs.length ≤ 100 ∧ b.prog.length ≤ 100 ∧ b.ords.length ≤ 100 ∧ boardFault b = none ∧
  FencedE x b fs H E ∧ (firstBad fs.length (fBad b fs) = none → boardFault (foundOf b fs) ≠ none)
theorem cal_spare {P w base K mg c x} (T : Txt K mg c) (xt : XTxt K mg x) : Cal (L2.CX P w) P w K mg base 10 "spare" (sp_spare x) := by
  obtain ⟨f, fd, F, m⟩ := T.F_spare
  have c_fenced := cal_fenced (P := P) (w := w) (base := base) T xt
  have c_is_sure : Cal CX0 P w K mg base 1 "is_sure" spNo := by
    obtain ⟨f2, fd2, F2, m2⟩ := T.F_is_sure
    exact cal_no F2 m2 (ps := ["board"]) (fun _ _ _ _ _ _ us hl => match us, hl with | [_], _ => rfl)
  have c_put_in := cal_put_in (P := P) (w := w) (base := base) T
  refine cal_ofX F m (fun _ _ _ _ _ _ us hl => match us, hl with | [_, _], _ => rfl) sc_spare (fun vs H Q E h => ?_) (fun cdv A outer s H vs Q E hr h => ?_)
  · obtain ⟨v, b, l, xs, fs, rfl, _⟩ := h
    rfl
  · obtain ⟨v, b, l, xs, fs, rfl, hx, hl, hxs, hf, hp, ho, hb, qe, q⟩ := h
    refine ⟨_, (pss_cons (ps_if (pt_not (pt_val (pe_c c_is_sure hr (by decide) (by rfl) (pa_cons (pe_cX c_fenced hr (by decide) (takes_of rfl rfl rfl rfl) (by rfl) (pa_cons (pv 0) (pa_cons (pv 1) pa_nil))) pa_nil)))) (pss_one (ps_raise rfl (takes_of rfl rfl rfl rfl) (pmk_own PySem.F.excBase_ValueError xt.x_NotSure xt.g_NotSure xt.k_NotSure (raises_own xt.b_NotSure xt.t_NotSure) rfl))) pss_nil)
      (PSs.nox (pss_cons (ps_set (i := 2) sc_spare.nd rfl (.inl rfl) (pe_lst pa_nil))
      (pss_cons (ps_for PassesOwn.never rfl (pi_range1 rfl T.range (pa_cons (pe_callB c_len (by rfl) T.len PySem.boot_len (pa_cons (pv 1) pa_nil)) pa_nil)) (pg_name (i := 3) sc_spare.nd rfl (.inl rfl))
      (pss_one (ps_if (pt_val (pe_c c_is_sure hr (by decide) (by rfl) (pa_cons (pe_c c_put_in hr (by decide) (by rfl) (pa_cons (pv 0) (pa_cons (pe_op op_cat (pe_slice sl_list (pv 1) po_none (po_some (pv 3))) (pe_slice sl_list (pv 1) (po_some (pe_op op_add (pv 3) pe_int)) po_none)) pa_nil))) pa_nil))) (pss_one (ps_expr (pe_bm PySem.F.plainAttrs_list PySem.F.slot_list_append PySem.F.type_list_append mt_append (pv 2) (pa_cons (pv 3) pa_nil)))) pss_nil)))
      (pss_one (ps_ret (pv 2))))))), ?_⟩
    walk_at "rd"
    exact ⟨v, b, l, xs, fs, rfl, hx, hl, hxs, hf, hp, ho, hb, qe, fun h1 h2 => absurd h2 (q h1)⟩
/-! ### _law_begun -/
theorem sc__law_begun : FnScope ["_law_script", "_law_stirred", "_law_cell"] ["_law_script"] (defScope s__law_begun) := ⟨rfl, rfl, rfl, by decide +kernel, rfl, by decide +kernel, by decide +kernel⟩
def sp_law_begun (K : PySem.W.Frag) : Sp := fun vs H Q _ => ∃ (a : Addr) (ns : List Int), vs = [.ref a] ∧ SqL K H a (ns.map V.int) ∧ ∀ b l H', Ex H H' → H b = none → H l = none → BoxAt H' b l → Q (.ref b) H'
theorem cal_law_begun {P w base K mg c} (T : Txt K mg c) : Cal CX0 P w K mg base 1 "_law_begun" (sp_law_begun K) := by
  obtain ⟨f, fd, F, m⟩ := T.F__law_begun
  refine cal_of F m (fun _ _ _ _ _ _ us hl => match us, hl with | [_], _ => rfl) sc__law_begun (fun vs H Q E h => ?_) (fun cdv A outer s H vs Q E hr h => ?_)
  · obtain ⟨a, ns, rfl, _⟩ := h
    rfl
  · obtain ⟨a, ns, rfl, hS, q⟩ := h
    refine ⟨_, (pss_cons (ps_set (i := 1) sc__law_begun.nd rfl (.inl rfl) pe_int)
      (pss_cons (ps_for PassesOwn.never rfl (pi_list (pv 0)) (pg_name (i := 2) sc__law_begun.nd rfl (.inl rfl))
      (pss_one (ps_set (i := 1) sc__law_begun.nd rfl (.inl rfl) (pe_op op_mod (pe_op op_add (pe_op op_add (pe_op op_mul (pv 1) pe_int) (pe_op op_mul (pv 2) pe_int)) pe_int) pe_int))))
      (pss_one (ps_ret (pe_lst (pa_cons (pe_callTy c_list (by rfl) T.list (by decide +kernel) (pa_cons (pv 0) pa_nil)) (pa_cons (pe_op op_mul (pv 1) (pe_callTy c_int (by rfl) T.int (by decide +kernel) (pa_cons (pe_cmpR op_gt (pe_callB c_len (by rfl) T.len PySem.boot_len (pa_cons (pv 0) pa_nil)) pe_int (nomark _)) pa_nil))) pa_nil))))))), ?_⟩
    walk_at "rd"
    refine st_walkLS hS (fun i σ H' => ∃ (z : Int) (y : Option V), σ = [some (.ref a), some (.int z), y] ∧ H' = H ∧ 0 ≤ z ∧ z < 2147483647) ⟨0, none, rfl, rfl, by omega, by omega⟩ (fun i σ H' p => ?_) (fun i v σ H' hv p => ?_) (fun σ H' p => ?_)
    · obtain ⟨_, _, _, rfl, _⟩ := p
      exact hS
    · obtain ⟨z, y, rfl, rfl, z1, z2⟩ := p
      obtain ⟨n, _, rfl⟩ := map_at' hv
      walk_at "rd"
      refine st_mul (.inl ⟨by omega, by omega⟩) ?_
      walk_at "rd"
      refine st_mul (.inr ⟨by decide, by decide⟩) ?_
      walk_at "rd"
      exact ⟨_, _, rfl, rfl, Int.emod_nonneg _ (by decide), Int.emod_lt_of_pos _ (by decide)⟩
    · obtain ⟨z, y, rfl, rfl, z1, z2⟩ := p
      walk_at "rd"
      refine st_listS hS fun l H1 nl e1 hl => ?_
      walk_at "rd"
      refine st_lenS (ex_l e1 hS) ?_
      walk_at "rd"
      refine st_mul (.inl ⟨by omega, by omega⟩) ?_
      walk_at "rd"
      refine st_newL (by simp) fun b H2 nb e2 hb => ?_
      refine q b l H2 (e1.trans e2) (e1.free nb) nl ⟨⟨_, hb, ?_, ?_⟩, ⟨ns, e2 _ _ hl⟩⟩
      · split <;> omega
      · split <;> omega
/-! ### _law_take -/
theorem sc__law_take : FnScope ["_law_box", "_law_many", "_law_number"] ["_law_box", "_law_many"] (defScope s__law_take) := ⟨rfl, rfl, rfl, by decide +kernel, rfl, by decide +kernel, by decide +kernel⟩
def sp_law_take : Sp := fun vs H Q _ => ∃ (b l : Addr) (m : Int), vs = [.ref b, .int m] ∧ BoxAt H b l ∧ 0 < m ∧ m.natAbs.log2 < 9000 ∧ ∀ (r : Int) H', Dr b l H H' → 0 ≤ r → r < m → Q (.int r) H'
theorem sh_empty : Sh 1 (.list []) := sh_lst (by simp)
theorem cal_law_take {P w base K mg c} (T : Txt K mg c) : Cal CX0 P w K mg base 1 "_law_take" sp_law_take := by
  obtain ⟨f, fd, F, m⟩ := T.F__law_take
  refine cal_of F m (fun _ _ _ _ _ _ us hl => match us, hl with | [_, _], _ => rfl) sc__law_take (fun vs H Q E h => ?_) (fun cdv A outer s H vs Q E hr h => ?_)
  · obtain ⟨b, l, m, rfl, _⟩ := h
    rfl
  · obtain ⟨b, l, m, rfl, hB, m0, ml, q⟩ := h
    refine ⟨_, (pss_cons (ps_if (pt_cmpR (op_eqD hr.units) (pe_ix ix_list (pv 0) pe_int (fun _ _ => rfl)) (pe_lst pa_nil) (nomark _)) (pss_cons (ps_asg (pe_op op_mod (pe_op op_mul (pe_ix ix_list (pv 0) pe_int (fun _ _ => rfl)) pe_int) pe_int) (pg_sub (pv 0) pe_int set_list))
      (pss_one (ps_ret (pe_op op_mod (pe_op op_fdiv (pe_ix ix_list (pv 0) pe_int (fun _ _ => rfl)) pe_int) (pv 1))))) pss_nil)
      (pss_cons (ps_set (i := 2) sc__law_take.nd rfl (.inl rfl) (pe_ix ix_list (pe_ix ix_list (pv 0) pe_int (fun _ _ => rfl)) pe_int (fun _ _ => rfl)))
      (pss_cons (ps_asg (pe_op op_fdivW (pv 2) (pv 1)) (pg_sub (pe_ix ix_list (pv 0) pe_int (fun _ _ => rfl)) pe_int set_list))
      (pss_cons (ps_if (PW.pt (pw_or (pt_cmpR op_eq (pe_ix ix_list (pe_ix ix_list (pv 0) pe_int (fun _ _ => rfl)) pe_int (fun _ _ => rfl)) pe_int (nomark _)) (pw_or1 (pt_cmpR op_eq (pe_ix ix_list (pe_ix ix_list (pv 0) pe_int (fun _ _ => rfl)) pe_int (fun _ _ => rfl)) (pe_un un_neg pe_int) (nomark _))))) (pss_one (ps_expr (pe_bm PySem.F.plainAttrs_list PySem.F.slot_list_pop PySem.F.type_list_pop mt_popAt (pe_ix ix_list (pv 0) pe_int (fun _ _ => rfl)) (pa_cons pe_int pa_nil)))) pss_nil)
      (pss_one (ps_ret (pe_op op_mod (pv 2) (pv 1)))))))), ?_⟩
    obtain ⟨⟨st, hb, z1, z2⟩, ⟨ns, hl⟩⟩ := id hB
    have nbl : b ≠ l := hB.ne
    have nlb : l ≠ b := fun z => nbl z.symm
    walk_at "rd"
    refine st_ixL hb (atI_nat (j := 0) rfl) ?_
    walk_at "rd"
    refine st_newL (by simp) fun e H1 ne e1 he => ?_
    refine st_eqD (lst_dp (ds := ns.map .int) (e1 _ _ hl) (ImL.ints.mpr rfl)) (lst_dp (ds := []) he iml_nil) (sh_lst (n := 0) sh_ints).shaped sh_empty.shaped ?_
    walk_at "rd"
    have hb1 := e1 _ _ hb
    have hl1 := e1 _ _ hl
    cases ns with
    | nil =>
      refine iteT ?_
      walk_at "rd"
      refine st_ixL hb1 (atI_nat (j := 1) rfl) ?_
      walk_at "rd"
      refine st_mul (.inl ⟨by omega, by omega⟩) ?_
      walk_at "rd"
      refine st_setI (k := 1) hb1 (by simp) fun H2 f2 k2 h2 => ?_
      walk_at "rd"
      refine st_ixL h2 (atI_nat (j := 1) rfl) ?_
      walk_at "rd"
      refine st_mod m0 ?_
      refine q _ H2 ⟨e1.fr.trans (f2.mono (by simp)), e1.kp.trans k2, ⟨_, h2, Int.emod_nonneg _ (by decide), Int.emod_lt_of_pos _ (by decide)⟩, ⟨[], fr1 f2 hl1 nlb⟩⟩ (Int.emod_nonneg _ (by omega)) (Int.emod_lt_of_pos _ m0)
    | cons n ns =>
      refine iteF ?_
      walk_at "rd"
      refine st_ixL hb1 (atI_nat (j := 0) rfl) ?_
      walk_at "rd"
      refine st_ixL hl1 (atI_nat (j := 0) rfl) ?_
      walk_at "rd"
      refine st_fdivW ⟨m0, ml⟩ ?_
      walk_at "rd"
      refine st_ixL hb1 (atI_nat (j := 0) rfl) ?_
      walk_at "rd"
      refine st_setI (k := 0) hl1 (by simp) fun H2 f2 k2 h2 => ?_
      have hb2 := fr1 f2 hb1 nbl
      have fin : ∀ H3, Fr [b, l] H2 H3 → Kp H2 H3 → BoxAt H3 b l → Q (.int (n % m)) H3 := fun H3 f3 k3 h3 =>
        q _ H3 ⟨(e1.fr.trans (f2.mono (by simp))).trans f3, (e1.kp.trans k2).trans k3, h3⟩ (Int.emod_nonneg _ (by omega)) (Int.emod_lt_of_pos _ m0)
      have hB2 : BoxAt H2 b l := ⟨⟨st, hb2, z1, z2⟩, ⟨(n / m) :: ns, h2⟩⟩
      have pop : ∀ Q' : VK, (∀ H3, Fr [l] H2 H3 → Kp H2 H3 → H3 l = some (.lst (ns.map V.int)) → Q' (.int (n / m)) H3) → rPopAt (.ref l) [.int 0] H2 Q' := fun Q' h => st_popAt0 h2 h
      walk_at "rd"
      refine st_ixL hb2 (atI_nat (j := 0) rfl) ?_
      walk_at "rd"
      refine st_ixL h2 (atI_nat (j := 0) rfl) ?_
      walk_at "rd"
      have last : ∀ H3, Fr [l] H2 H3 → Kp H2 H3 → H3 l = some (.lst (ns.map V.int)) → Q (.int (n % m)) H3 := fun H3 f3 k3 h3 => fin H3 (f3.mono (by simp)) k3 ⟨⟨st, fr1 f3 hb2 nbl, z1, z2⟩, ⟨ns, h3⟩⟩
      refine st_D (fun h => ?_) (fun h => ?_)
      · walk_at "rd"
        refine st_ixL hb2 (atI_nat (j := 0) rfl) ?_
        refine tyL h2 ?_
        walk_at "rd"
        refine pop _ fun H3 f3 k3 h3 => ?_
        walk_at "rd"
        refine st_mod m0 ?_
        exact last H3 f3 k3 h3
      · walk_at "rd"
        refine st_ixL hb2 (atI_nat (j := 0) rfl) ?_
        walk_at "rd"
        refine st_ixL h2 (atI_nat (j := 0) rfl) ?_
        walk_at "rd"
        refine ⟨1, rfl, ?_⟩
        walk_at "rd"
        refine st_D (fun h' => ?_) (fun h' => ?_)
        · walk_at "rd"
          refine st_ixL hb2 (atI_nat (j := 0) rfl) ?_
          refine tyL h2 ?_
          walk_at "rd"
          refine pop _ fun H3 f3 k3 h3 => ?_
          walk_at "rd"
          refine st_mod m0 ?_
          exact last H3 f3 k3 h3
        · walk_at "rd"
          refine st_mod m0 ?_
          exact fin H2 (Fr.refl _ _) (Kp.refl _) hB2
/-! ### _law_alike -/
theorem sc__law_alike : FnScope ["_law_found", "_law_due", "_law_k"] ["_law_found", "_law_due"] (defScope s__law_alike) := ⟨rfl, rfl, rfl, by decide +kernel, rfl, by decide +kernel, by decide +kernel⟩
/-- two that bear the same data -/
def sp_law_alike (K : PySem.W.Frag) : Nat → Sp
  | 0 => fun _ _ _ _ => False
  | n + 1 => fun vs H Q _ => ∃ (x y : V) (d : PyData), vs = [x, y] ∧ Dp K H x d ∧ Dp K H y d ∧ Al n d ∧ Q (.bl true) H
theorem cal_law_alike {P w base K mg c} (T : Txt K mg c) : ∀ n : Nat, Cal CX0 P w K mg base n "_law_alike" (sp_law_alike K n)
  | 0 => by
    obtain ⟨f, fd, F, m⟩ := T.F__law_alike
    exact ⟨f, fd, ["_law_found", "_law_due"], ⟨fun _ _ _ _ h => h.elim, fun _ _ _ _ _ _ _ _ _ _ _ _ _ h => h.elim⟩, m, F.kp, F.binds (fun _ _ _ _ _ _ us hl => match us, hl with | [_, _], _ => rfl)⟩
  | n + 1 => by
    obtain ⟨f, fd, F, m⟩ := T.F__law_alike
    have c__law_alike := cal_law_alike (P := P) (w := w) (base := base) T n
    refine cal_of F m (fun _ _ _ _ _ _ us hl => match us, hl with | [_, _], _ => rfl) sc__law_alike (fun vs H Q E h => ?_) (fun cdv A outer s H vs Q E hr h => ?_)
    · obtain ⟨x, y, d, rfl, _⟩ := h
      rfl
    · obtain ⟨x, y, d, rfl, hx, hy, ha, q⟩ := h
      refine ⟨_, (pss_cons (ps_if (pt_cmpR o_isN (pv 1) pe_non (nomark _)) (pss_one (ps_ret (pe_cmpR o_isN (pv 0) pe_non (nomark _)))) pss_nil)
      (pss_cons (ps_if (pt_val (pe_callB call_isi (by rfl) T.isinstance (by decide +kernel) (pa_cons (pv 1) (pa_cons (pe_bltn (v := .ty "bool") (u := .type "bool") (by rfl) T.bool (by decide +kernel) rfl) pa_nil)))) (pss_one (ps_ret (pe_and (pe_callB call_isi (by rfl) T.isinstance (by decide +kernel) (pa_cons (pv 0) (pa_cons (pe_bltn (v := .ty "bool") (u := .type "bool") (by rfl) T.bool (by decide +kernel) rfl) pa_nil))) (pe_one (pe_cmpR (op_eqD hr.units) (pv 0) (pv 1) (nomark _)))))) pss_nil)
      (pss_cons (ps_if (pt_val (pe_callB call_isi (by rfl) T.isinstance (by decide +kernel) (pa_cons (pv 1) (pa_cons (pe_bltn (v := .ty "int") (u := .type "int") (by rfl) T.int (by decide +kernel) rfl) pa_nil)))) (pss_one (ps_ret (pe_and (pe_callB call_isi (by rfl) T.isinstance (by decide +kernel) (pa_cons (pv 0) (pa_cons (pe_bltn (v := .ty "int") (u := .type "int") (by rfl) T.int (by decide +kernel) rfl) pa_nil))) (pe_and (pe_not (pe_callB call_isi (by rfl) T.isinstance (by decide +kernel) (pa_cons (pv 0) (pa_cons (pe_bltn (v := .ty "bool") (u := .type "bool") (by rfl) T.bool (by decide +kernel) rfl) pa_nil)))) (pe_one (pe_cmpR (op_eqD hr.units) (pv 0) (pv 1) (nomark _))))))) pss_nil)
      (pss_cons (ps_if (pt_val (pe_callB call_isi (by rfl) T.isinstance (by decide +kernel) (pa_cons (pv 1) (pa_cons (pe_bltn (v := .ty "str") (u := .type "str") (by rfl) T.str (by decide +kernel) rfl) pa_nil)))) (pss_one (ps_ret (pe_and (pe_callB call_isi (by rfl) T.isinstance (by decide +kernel) (pa_cons (pv 0) (pa_cons (pe_bltn (v := .ty "str") (u := .type "str") (by rfl) T.str (by decide +kernel) rfl) pa_nil))) (pe_one (pe_cmpR (op_eqD hr.units) (pv 0) (pv 1) (nomark _)))))) pss_nil)
      (pss_cons (ps_if (PW.pt (pw_or (pt_cmpR op_ne (pe_callB call_isi (by rfl) T.isinstance (by decide +kernel) (pa_cons (pv 1) (pa_cons (pe_bltn (v := .ty "tuple") (u := .type "tuple") (by rfl) T.tuple (by decide +kernel) rfl) pa_nil))) (pe_callB call_isi (by rfl) T.isinstance (by decide +kernel) (pa_cons (pv 0) (pa_cons (pe_bltn (v := .ty "tuple") (u := .type "tuple") (by rfl) T.tuple (by decide +kernel) rfl) pa_nil))) (nomark _)) (pw_or1 (pt_cmpR op_ne (pe_callB call_isi (by rfl) T.isinstance (by decide +kernel) (pa_cons (pv 1) (pa_cons (pe_bltn (v := .ty "list") (u := .type "list") (by rfl) T.list (by decide +kernel) rfl) pa_nil))) (pe_callB call_isi (by rfl) T.isinstance (by decide +kernel) (pa_cons (pv 0) (pa_cons (pe_bltn (v := .ty "list") (u := .type "list") (by rfl) T.list (by decide +kernel) rfl) pa_nil))) (nomark _))))) (pss_one (ps_ret pe_bl)) pss_nil)
      (pss_cons (ps_if (pt_cmpR op_ne (pe_callB c_len (by rfl) T.len PySem.boot_len (pa_cons (pv 0) pa_nil)) (pe_callB c_len (by rfl) T.len PySem.boot_len (pa_cons (pv 1) pa_nil)) (nomark _)) (pss_one (ps_ret pe_bl)) pss_nil)
      (pss_cons (ps_for PassesOwn.never rfl (pi_range1 rfl T.range (pa_cons (pe_callB c_len (by rfl) T.len PySem.boot_len (pa_cons (pv 1) pa_nil)) pa_nil)) (pg_name (i := 2) sc__law_alike.nd rfl (.inl rfl))
      (pss_one (ps_if (pt_not (pt_val (pe_c c__law_alike hr (by omega) (by rfl) (pa_cons (pe_ix ix_seq (pv 0) (pv 2) (fun _ _ => rfl)) (pa_cons (pe_ix ix_seq (pv 1) (pv 2) (fun _ _ => rfl)) pa_nil))))) (pss_one (ps_ret pe_bl)) pss_nil)))
      (pss_one (ps_ret pe_bl))))))))), ?_⟩
      walk_at "rd"
      have scal : (d = .none ∨ (∃ b, d = .bool b) ∨ (∃ i, d = .int i) ∨ ∃ s, d = .str s ∧ PyData.strOk s = true) ∨ ∃ ds m, n = m + 1 ∧ Seqs d ds ∧ ds.length ≤ 1000000 ∧ ∀ e ∈ ds, Al m e := by
        cases n with
        | zero => exact .inl ha
        | succ m =>
          rcases ha with ha | ⟨ds, h1, h2, h3⟩
          · exact .inl ha
          · exact .inr ⟨ds, m, rfl, h1, h2, h3⟩
      rcases scal with (rfl | ⟨b, rfl⟩ | ⟨i, rfl⟩ | ⟨s', rfl, hs⟩) | ⟨ds, m, rfl, hd, hl, he⟩
      · cases hx
        cases hy
        show if decide (V.non = V.non) = true then _ else _
        rw [decide_eq_true rfl]
        walk_at "rd"
        exact q
      · cases hx
        cases hy
        show if decide (V.bl b = V.non) = true then _ else _
        rw [decide_eq_false (fun z => by cases z)]
        walk_at "rd"
        refine st_isi (.bl b) kb_bool_bool ?_
        walk_at "rd"
        refine st_isi (.bl b) kb_bool_bool ?_
        walk_at "rd"
        refine st_eqD (.bl b) (.bl b) (sh_bool (n := 0)).shaped (sh_bool (n := 0)).shaped ?_
        rw [eqv_same (sh_bool (n := 0))]
        exact q
      · cases hx
        cases hy
        show if decide (V.int i = V.non) = true then _ else _
        rw [decide_eq_false (fun z => by cases z)]
        walk_at "rd"
        refine st_isi (.int i) kb_int_bool ?_
        walk_at "rd"
        refine st_isi (.int i) kb_int_int ?_
        walk_at "rd"
        refine st_isi (.int i) kb_int_int ?_
        walk_at "rd"
        refine st_isi (.int i) kb_int_bool ?_
        walk_at "rd"
        refine st_eqD (.int i) (.int i) (sh_int (n := 0)).shaped (sh_int (n := 0)).shaped ?_
        rw [eqv_same (sh_int (n := 0))]
        exact q
      · cases hx
        cases hy
        show if decide (V.str s' = V.non) = true then _ else _
        rw [decide_eq_false (fun z => by cases z)]
        walk_at "rd"
        refine st_isi (.str s') kb_str_bool ?_
        walk_at "rd"
        refine st_isi (.str s') kb_str_int ?_
        walk_at "rd"
        refine st_isi (.str s') kb_str_str ?_
        walk_at "rd"
        refine st_isi (.str s') kb_str_str ?_
        walk_at "rd"
        refine st_eqD (.str s') (.str s') (sh_str (n := 0) hs).shaped (sh_str (n := 0) hs).shaped ?_
        rw [eqv_same (sh_str (n := 0) hs)]
        exact q
      · have hny : decide (y = .non) = false := by
          rcases hd with rfl | rfl
          · obtain ⟨a, _, rfl, _⟩ := Dp.lst_inv hy
            rfl
          · obtain ⟨a, _, rfl, _⟩ := Dp.tup_inv hy
            rfl
        rw [hny]
        walk_at "rd"
        have k1 : kitB (tyN d) "bool" = some false := by
          rcases hd with rfl | rfl
          · exact kb_list_bool
          · exact kb_tuple_bool
        have k2 : kitB (tyN d) "int" = some false := by
          rcases hd with rfl | rfl
          · exact kb_list_int
          · exact kb_tuple_int
        have k3 : kitB (tyN d) "str" = some false := by
          rcases hd with rfl | rfl
          · exact kb_list_str
          · exact kb_tuple_str
        obtain ⟨b4, k4⟩ : ∃ b, kitB (tyN d) "tuple" = some b := by
          rcases hd with rfl | rfl
          · exact ⟨false, kb_list_tuple⟩
          · exact ⟨true, kb_tuple_tuple⟩
        obtain ⟨b5, k5⟩ : ∃ b, kitB (tyN d) "list" = some b := by
          rcases hd with rfl | rfl
          · exact ⟨true, kb_list_list⟩
          · exact ⟨false, kb_tuple_list⟩
        refine st_isi hy k1 ?_
        walk_at "rd"
        refine st_isi hy k2 ?_
        walk_at "rd"
        refine st_isi hy k3 ?_
        walk_at "rd"
        refine st_isi hy k4 ?_
        walk_at "rd"
        refine st_isi hx k4 ?_
        walk_at "rd"
        rw [decide_eq_true (rfl : b4 = b4)]
        walk_at "rd"
        refine st_isi hy k5 ?_
        walk_at "rd"
        refine st_isi hx k5 ?_
        walk_at "rd"
        rw [decide_eq_true (rfl : b5 = b5)]
        walk_at "rd"
        refine st_lenD hx hd ?_
        walk_at "rd"
        refine st_lenD hy hd ?_
        walk_at "rd"
        rw [decide_eq_true rfl]
        walk_at "rd"
        refine st_lenD hy hd ?_
        walk_at "rd"
        refine st_walkR hl (fun i σ' H' => ∃ z, σ' = [some x, some y, z] ∧ H' = H) ⟨none, rfl, rfl⟩ (fun i σ' H' hi p => ?_) (fun σ' H' p => ?_)
        · obtain ⟨z, rfl, rfl⟩ := p
          walk_at "rd"
          refine st_ixD hx hd (List.getElem?_eq_getElem hi) fun v1 h1 => ?_
          walk_at "rd"
          refine st_ixD hy hd (List.getElem?_eq_getElem hi) fun v2 h2 => ?_
          walk_at "rd"
          refine ⟨v1, v2, _, rfl, h1, h2, he _ (List.getElem_mem hi), ?_⟩
          walk_at "rd"
          exact ⟨_, rfl, rfl⟩
        · obtain ⟨z, rfl, rfl⟩ := p
          walk_at "rd"
          exact q
/-! ### _law_order -/
theorem sc__law_order : FnScope ["_law_box", "_law_cells", "_law_number", "_law_many", "_law_count", "_law_later"] ["_law_box", "_law_cells", "_law_number", "_law_many"] (defScope s__law_order) := ⟨rfl, rfl, rfl, by decide +kernel, rfl, by decide +kernel, by decide +kernel⟩
def sp_law_order : Sp := fun vs H Q _ => ∃ (b l : Addr) (cells i n : Nat), vs = [.ref b, .int (cells : Int), .int (i : Int), .int (n : Int)] ∧ BoxAt H b l ∧ 1 ≤ cells ∧ cells ≤ 16 ∧ i < n ∧ n ≤ 4 ∧
  ∀ (o : Ord) v H', Dr b l H H' → 1 ≤ o.many → o.many ≤ 8 → o.src + o.many ≤ cells → o.dst + o.many ≤ cells → (∀ k, o.later = some k → i < k ∧ k < n) → Im H' (pyOrd o.raw) v → Q v H'
theorem cal_law_order {P w base K mg c} (T : Txt K mg c) : Cal CX0 P w K mg base 2 "_law_order" sp_law_order := by
  obtain ⟨f, fd, F, m⟩ := T.F__law_order
  have c__law_take := cal_law_take (P := P) (w := w) (base := base) T
  refine cal_of F m (fun _ _ _ _ _ _ us hl => match us, hl with | [_, _, _, _], _ => rfl) sc__law_order (fun vs H Q E h => ?_) (fun cdv A outer s H vs Q E hr h => ?_)
  · obtain ⟨b, l, x, i, n, rfl, _⟩ := h
    rfl
  · obtain ⟨b, l, cells, i, n, rfl, hB, c1, c16, hi, hn, q⟩ := h
    refine ⟨_, (pss_cons (ps_set (i := 4) sc__law_order.nd rfl (.inl rfl) (pe_op op_add pe_int (pe_c c__law_take hr (by decide) (by rfl) (pa_cons (pv 0) (pa_cons (pe_callB (c_min rfl) (by rfl) T.min (by decide +kernel) (pa_cons pe_int (pa_cons (pv 1) pa_nil))) pa_nil)))))
      (pss_cons (ps_set (i := 5) sc__law_order.nd rfl (.inl rfl) pe_non)
      (pss_cut (ps_if (PW.pt (pw_and (pt_cmpR op_lt (pe_op op_add (pv 2) pe_int) (pv 3) (nomark _)) (pw_and1 (pt_cmpR op_eq (pe_c c__law_take hr (by decide) (by rfl) (pa_cons (pv 0) (pa_cons pe_int pa_nil))) pe_int (nomark _))))) (pss_one (ps_set (i := 5) sc__law_order.nd rfl (.inl rfl) (pe_op op_add (pe_op op_add (pv 2) pe_int) (pe_c c__law_take hr (by decide) (by rfl) (pa_cons (pv 0) (pa_cons (pe_op op_sub (pe_op op_sub (pv 3) (pv 2)) pe_int) pa_nil)))))) pss_nil)
      (pss_one (ps_ret (pe_tup (pa_cons (pe_c c__law_take hr (by decide) (by rfl) (pa_cons (pv 0) (pa_cons (pe_op op_add (pe_op op_sub (pv 1) (pv 4)) pe_int) pa_nil))) (pa_cons (pe_c c__law_take hr (by decide) (by rfl) (pa_cons (pv 0) (pa_cons (pe_op op_add (pe_op op_sub (pv 1) (pv 4)) pe_int) pa_nil))) (pa_cons (pv 4) (pa_cons (pv 5) pa_nil)))))))))), ?_⟩
    have small : ∀ z : Int, z.natAbs < 512 → z.natAbs.log2 < 9000 := fun z hz => by
      have := Nat.log2_le_self z.natAbs
      omega
    walk_at "rd"
    refine ⟨b, l, _, rfl, hB, ?_, ?_, fun r H1 d1 r0 r1 => ?_⟩
    · split <;> omega
    · split
      · exact small _ (by omega)
      · exact small _ (by decide)
    walk_at "rd"
    -- the count
    obtain ⟨m, rfl⟩ : ∃ m : Nat, r = (m : Int) := ⟨r.toNat, by omega⟩
    have hm : m + 1 ≤ 8 ∧ m + 1 ≤ cells := by
      split at r1 <;> omega
    refine st_cut (fun σ H2 => ∃ o : Option Nat, σ = [some (.ref b), some (.int (cells : Int)), some (.int (i : Int)), some (.int (n : Int)), some (.int (1 + (m : Int))), some (vOpt (oN o))] ∧ Dr b l H H2 ∧ ∀ k, o = some k → i < k ∧ k < n) ?_ fun σ H2 hM => ?_
    · walk_at "rd"
      refine st_D (fun h => ?_) (fun h => ?_)
      · walk_at "rd"
        refine ⟨b, l, 2, rfl, d1.2.2, by decide, by decide, fun r H2 d2 r0 r1 => ?_⟩
        walk_at "rd"
        refine st_D (fun h2 => ?_) (fun h2 => ?_)
        · walk_at "rd"
          refine ⟨b, l, _, rfl, d2.2.2, by omega, small _ (by omega), fun r3 H3 d3 r30 r31 => ?_⟩
          walk_at "rd"
          refine ⟨some (i + 1 + r3.toNat), ?_, (d1.trans d2).trans d3, ?_⟩
          · have e : V.int ((i : Int) + 1 + r3) = vOpt (oN (some (i + 1 + r3.toNat))) := by
              show V.int _ = V.int ((i + 1 + r3.toNat : Nat) : Int)
              congr 1
              omega
            rw [← e]
            rfl
          · intro k hk
            cases hk
            omega
        · walk_at "rd"
          exact ⟨none, rfl, d1.trans d2, by intro k hk; cases hk⟩
      · walk_at "rd"
        exact ⟨none, rfl, d1, by intro k hk; cases hk⟩
    · obtain ⟨o, rfl, d2, ho⟩ := hM
      walk_at "rd"
      refine ⟨b, l, _, rfl, d2.2.2, by omega, small _ (by omega), fun r3 H3 d3 r30 r31 => ?_⟩
      walk_at "rd"
      refine ⟨b, l, _, rfl, d3.2.2, by omega, small _ (by omega), fun r4 H4 d4 r40 r41 => ?_⟩
      walk_at "rd"
      refine st_newT (by simp) fun p H5 np e5 hp => ?_
      refine q ⟨r3.toNat, r4.toNat, m + 1, o⟩ _ H5 (((d2.trans d3).trans d4).ex e5) (by simp) hm.1 ?_ ?_ ho ?_
      · show r3.toNat + (m + 1) ≤ cells
        omega
      · show r4.toNat + (m + 1) ≤ cells
        omega
      · refine im_tup hp (iml_cons ?_ (iml_cons ?_ (iml_cons ?_ (iml_cons ?_ iml_nil))))
        · rw [Im.int_iff]
          show V.int r3 = V.int (r3.toNat : Int)
          congr 1
          omega
        · rw [Im.int_iff]
          show V.int r4 = V.int (r4.toNat : Int)
          congr 1
          omega
        · rw [Im.int_iff]
          show V.int (1 + (m : Int)) = V.int ((m + 1 : Nat) : Int)
          congr 1
          omega
        · exact im_opt.mpr rfl
/-! ### _law_deed -/
theorem sc__law_deed : FnScope ["_law_box", "_law_cells", "_law_orders", "_law_kinds_here", "_law_word", "_law_cell"] ["_law_box", "_law_cells", "_law_orders", "_law_kinds_here"] (defScope s__law_deed) := ⟨rfl, rfl, rfl, by decide +kernel, rfl, by decide +kernel, by decide +kernel⟩
/-- the words that stand for deeds -/
def words7 : List Str := ["set", "add", "say", "start", "wait", "clean", "drop"]
def sp_law_deed : Sp := fun vs H Q _ => ∃ (b l kl : Addr) (cells n : Nat) (ks : List Str), vs = [.ref b, .int (cells : Int), .int (n : Int), .ref kl] ∧ BoxAt H b l ∧ H kl = some (.lst (ks.map V.str)) ∧ kl ≠ b ∧ kl ≠ l ∧ ks ≠ [] ∧ ks.length ≤ 100 ∧ (∀ s ∈ ks, s ∈ words7) ∧
  4 ≤ cells ∧ cells ≤ 16 ∧ 1 ≤ n ∧ n ≤ 4 ∧ ∀ (d : Deed) v H', Dr b l H H' → d.Ok cells n → d.raw.1 ∈ ks → Im H' (pyDeed d.raw) v → Q v H'
theorem cal_law_deed {P w base K mg c} (T : Txt K mg c) : Cal CX0 P w K mg base 2 "_law_deed" sp_law_deed := by
  obtain ⟨f, fd, F, m⟩ := T.F__law_deed
  have c__law_take := cal_law_take (P := P) (w := w) (base := base) T
  refine cal_of F m (fun _ _ _ _ _ _ us hl => match us, hl with | [_, _, _, _], _ => rfl) sc__law_deed (fun vs H Q E h => ?_) (fun cdv A outer s H vs Q E hr h => ?_)
  · obtain ⟨b, l, kl, x, n, ks, rfl, _⟩ := h
    rfl
  · obtain ⟨b, l, kl, cells, n, ks, rfl, hB, hk, nkb, nkl, hne, hkl, hw, c4, c16, n1, n4, q⟩ := h
    refine ⟨_, (pss_cons (ps_set (i := 4) sc__law_deed.nd rfl (.inl rfl) (pe_ix ix_list (pv 3) (pe_c c__law_take hr (by decide) (by rfl) (pa_cons (pv 0) (pa_cons (pe_callB c_len (by rfl) T.len PySem.boot_len (pa_cons (pv 3) pa_nil)) pa_nil))) (fun _ _ => rfl)))
      (pss_cons (ps_if (pt_cmpR op_eq (pv 4) pe_str (nomark _)) (pss_one (ps_ret (pe_tup (pa_cons (pv 4) pa_nil)))) pss_nil)
      (pss_cons (ps_if (pt_cmpR op_in_seq (pv 4) (pe_tup (pa_cons pe_str (pa_cons pe_str pa_nil))) (by rfl)) (pss_one (ps_ret (pe_tup (pa_cons (pv 4) (pa_cons (pe_c c__law_take hr (by decide) (by rfl) (pa_cons (pv 0) (pa_cons (pe_op op_fdiv (pv 1) pe_int) pa_nil))) pa_nil))))) pss_nil)
      (pss_cons (ps_if (pt_cmpR op_eq (pv 4) pe_str (nomark _)) (pss_one (ps_ret (pe_tup (pa_cons (pv 4) (pa_cons (pe_c c__law_take hr (by decide) (by rfl) (pa_cons (pv 0) (pa_cons (pv 2) pa_nil))) pa_nil))))) pss_nil)
      (pss_cons (ps_set (i := 5) sc__law_deed.nd rfl (.inl rfl) (pe_c c__law_take hr (by decide) (by rfl) (pa_cons (pv 0) (pa_cons (pv 1) pa_nil))))
      (pss_cons (ps_if (pt_cmpR op_eq (pv 4) pe_str (nomark _)) (pss_one (ps_ret (pe_tup (pa_cons (pv 4) (pa_cons (pv 5) pa_nil))))) pss_nil)
      (pss_one (ps_ret (pe_tup (pa_cons (pv 4) (pa_cons (pv 5) (pa_cons (pe_c c__law_take hr (by decide) (by rfl) (pa_cons (pv 0) (pa_cons (pe_ix ix_list (pe_lst (pa_cons pe_int (pa_cons (pv 1) pa_nil))) (pe_callTy c_int (by rfl) T.int (by decide +kernel) (pa_cons (pe_cmpR op_eq (pv 4) pe_str (nomark _)) pa_nil)) (fun _ _ => rfl)) pa_nil))) pa_nil)))))))))))), ?_⟩
    have small : ∀ z : Int, z.natAbs < 512 → z.natAbs.log2 < 9000 := fun z hz => by
      have := Nat.log2_le_self z.natAbs
      omega
    have hpos : 0 < ks.length := List.length_pos_iff.mpr hne
    walk_at "rd"
    refine st_lenL hk ?_
    walk_at "rd"
    refine ⟨b, l, _, rfl, hB, by rw [List.length_map]; omega, small _ (by rw [List.length_map]; omega), fun r H1 d1 r0 r1 => ?_⟩
    rw [List.length_map] at r1
    obtain ⟨j, rfl⟩ : ∃ j : Nat, r = (j : Int) := ⟨r.toNat, by omega⟩
    have hj : j < ks.length := by omega
    have hk1 : H1 kl = some (.lst (ks.map V.str)) := d1.1 kl _ hk (by simp; exact ⟨nkb, nkl⟩)
    refine st_ixL hk1 (atI_nat (map_at (List.getElem?_eq_getElem hj))) ?_
    have hin : ks[j] ∈ ks := List.getElem_mem hj
    have hw7 := hw _ hin
    generalize ks[j] = s at hin hw7
    have mk1 : ∀ (H2 : Hp) (p : Addr) (s' : Str) (i : Nat), H2 p = some (.tup [.str s', .int (i : Int)]) → Im H2 (.tuple [.str s', .int (i : Int)]) (.ref p) := fun H2 p s' i hp => im_tup hp (iml_cons im_str (iml_cons im_int iml_nil))
    simp only [words7, List.mem_cons, List.not_mem_nil, or_false] at hw7
    rcases hw7 with rfl | rfl | rfl | rfl | rfl | rfl | rfl
    case inr.inr.inr.inr.inl =>
      walk_at "rd"
      refine st_newT (by simp) fun p H2 np e2 hp => ?_
      exact q .wait _ H2 (d1.ex e2) trivial hin (im_tup hp (iml_cons im_str iml_nil))
    all_goals walk_at "rd"
    all_goals refine st_newT (by simp) fun p H2 np e2 hp => ?_
    all_goals refine st_in2 hp ?_
    all_goals walk_at "rd"
    all_goals refine ⟨b, l, _, rfl, d1.2.2.ex e2, by omega, small _ (by omega), fun r3 H3 d3 r30 r31 => ?_⟩
    all_goals obtain ⟨x, rfl⟩ : ∃ x : Nat, r3 = (x : Int) := ⟨r3.toNat, by omega⟩
    all_goals walk_at "rd"
    all_goals have d3' := (d1.ex e2).trans d3
    case inr.inr.inl =>
      refine st_newT (by simp) fun p3 H4 np4 e4 hp4 => ?_
      exact q (.say x) _ H4 (d3'.ex e4) (show x < cells by omega) hin (im_tup hp4 (iml_cons im_str (iml_cons im_int iml_nil)))
    case inr.inr.inr.inl =>
      refine st_newT (by simp) fun p3 H4 np4 e4 hp4 => ?_
      exact q (.start x) _ H4 (d3'.ex e4) (show x < n by omega) hin (im_tup hp4 (iml_cons im_str (iml_cons im_int iml_nil)))
    case inr.inr.inr.inr.inr.inl =>
      refine st_newT (by simp) fun p3 H4 np4 e4 hp4 => ?_
      exact q (.clean x) _ H4 (d3'.ex e4) (show x < cells / 4 by omega) hin (im_tup hp4 (iml_cons im_str (iml_cons im_int iml_nil)))
    case inr.inr.inr.inr.inr.inr =>
      refine st_newT (by simp) fun p3 H4 np4 e4 hp4 => ?_
      exact q (.drop x) _ H4 (d3'.ex e4) (show x < cells / 4 by omega) hin (im_tup hp4 (iml_cons im_str (iml_cons im_int iml_nil)))
    all_goals refine st_newL (by simp) fun p4 H4 np4 e4 hp4 => ?_
    all_goals walk_at "rd"
    case inl =>
      refine st_ixL hp4 (atI_nat (j := 0) rfl) ?_
      walk_at "rd"
      refine ⟨b, l, 10, rfl, d3.2.2.ex e4, by decide, by decide, fun r5 H5 d5 r50 r51 => ?_⟩
      obtain ⟨y, rfl⟩ : ∃ y : Nat, r5 = (y : Int) := ⟨r5.toNat, by omega⟩
      walk_at "rd"
      refine st_newT (by simp) fun p6 H6 np6 e6 hp6 => ?_
      exact q (.set x y) _ H6 (((d3'.ex e4).trans d5).ex e6) (show x < cells ∧ y ≤ 9 by omega) hin (im_tup hp6 (iml_cons im_str (iml_cons im_int (iml_cons im_int iml_nil))))
    case inr.inl =>
      refine st_ixL hp4 (atI_nat (j := 1) rfl) ?_
      walk_at "rd"
      refine ⟨b, l, _, rfl, d3.2.2.ex e4, by omega, small _ (by omega), fun r5 H5 d5 r50 r51 => ?_⟩
      obtain ⟨y, rfl⟩ : ∃ y : Nat, r5 = (y : Int) := ⟨r5.toNat, by omega⟩
      walk_at "rd"
      refine st_newT (by simp) fun p6 H6 np6 e6 hp6 => ?_
      exact q (.add x y) _ H6 (((d3'.ex e4).trans d5).ex e6) (show x < cells ∧ y < cells by omega) hin (im_tup hp6 (iml_cons im_str (iml_cons im_int (iml_cons im_int iml_nil))))
/-! ### _law_board -/
theorem sc__law_board : FnScope ["_law_box", "_law_lines", "_law_deeds", "_law_kinds_here", "_law_cells", "_law_memory", "_law_cell", "_law_many", "_law_orders", "_law_number", "_law_program", "_law_turn", "_law_deed_here", "_law_one"] ["_law_box", "_law_lines", "_law_deeds", "_law_kinds_here"] (defScope s__law_board) := ⟨rfl, rfl, rfl, by decide +kernel, rfl, by decide +kernel, by decide +kernel⟩
/-- what a drawn board is -/
structure Drawn (lines deeds : Nat) (ks : List Str) (bd : Bd) : Prop where
  good : Good bd
  lines : bd.mem.length ≤ 4 * lines
  deeds : bd.prog.length ≤ deeds
  ords : 1 ≤ bd.ords.length
  words : ∀ d ∈ bd.prog, d.raw.1 ∈ ks ∨ ∃ c, d = .say c
def sp_law_board : Sp := fun vs H Q _ => ∃ (b l kl : Addr) (lines deeds : Nat) (ks : List Str), vs = [.ref b, .int (lines : Int), .int (deeds : Int), .ref kl] ∧ BoxAt H b l ∧ H kl = some (.lst (ks.map V.str)) ∧ kl ≠ b ∧ kl ≠ l ∧ ks ≠ [] ∧ ks.length ≤ 100 ∧ (∀ s ∈ ks, s ∈ words7) ∧
  1 ≤ lines ∧ lines ≤ 4 ∧ deeds ≤ 60 ∧ ∀ (bd : Bd) v H', Dr b l H H' → Drawn lines deeds ks bd → Im H' (pyB bd.raw) v → Q v H'
theorem cal_law_board {P w base K mg c} (T : Txt K mg c) : Cal CX0 P w K mg base 3 "_law_board" sp_law_board := by
  obtain ⟨f, fd, F, m⟩ := T.F__law_board
  have c__law_take := cal_law_take (P := P) (w := w) (base := base) T
  have c__law_order := cal_law_order (P := P) (w := w) (base := base) T
  have c__law_deed := cal_law_deed (P := P) (w := w) (base := base) T
  refine cal_of F m (fun _ _ _ _ _ _ us hl => match us, hl with | [_, _, _, _], _ => rfl) sc__law_board (fun vs H Q E h => ?_) (fun cdv A outer s H vs Q E hr h => ?_)
  · obtain ⟨b, l, kl, x, n, ks, rfl, _⟩ := h
    rfl
  · obtain ⟨b, l, kl, lines, deeds, ks, rfl, hB, hk, nkb, nkl, hne, hkl, hw, l1, l4, hd60, q⟩ := h
    refine ⟨_, (pss_cons (ps_set (i := 4) sc__law_board.nd rfl (.inr rfl) (pe_op op_mul pe_int (pe_op op_add pe_int (pe_c c__law_take hr (by decide) (by rfl) (pa_cons (pv 0) (pa_cons (pv 1) pa_nil))))))
      (pss_cons (ps_set (i := 5) sc__law_board.nd rfl (.inl rfl) (pe_callTy c_tuple (by rfl) T.tuple (by decide +kernel) (pa_cons (pe_lc (own := [("_law_cell", 6)]) (g := (gName 6)) (tt := tYes) (te := (tCall sp_law_take [] L2.E0 (tCons (tVar 0) (tCons (tC (.int 10)) tNil)))) rfl sc__law_board.nd (pi_range1 rfl T.range (pa_cons (pv 4) pa_nil)) (blkOk_by (N := ["_law_box", "_law_lines", "_law_deeds", "_law_kinds_here", "_law_cells", "_law_memory", "_law_cell", "_law_many", "_law_orders", "_law_number", "_law_program", "_law_turn", "_law_deed_here", "_law_one"]) (sc := defScope s__law_board) (own := [("_law_cell", 6)]) (by decide +kernel)) (fun _ _ _ _ _ => (pg_name (i := 6) sc__law_board.nd rfl (.inl rfl))) (fun _ _ _ _ _ => pts_nil) (fun _ _ _ _ _ => (pe_c c__law_take hr (by decide) (by rfl) (pa_cons (pv 0) (pa_cons pe_int pa_nil))))) pa_nil)))
      (pss_cons (ps_set (i := 7) sc__law_board.nd rfl (.inr rfl) (pe_op op_add pe_int (pe_c c__law_take hr (by decide) (by rfl) (pa_cons (pv 0) (pa_cons pe_int pa_nil)))))
      (pss_cons (ps_set (i := 8) sc__law_board.nd rfl (.inl rfl) (pe_callTy c_tuple (by rfl) T.tuple (by decide +kernel) (pa_cons (pe_lc (own := [("_law_number", 9)]) (g := (gName 9)) (tt := tYes) (te := (tCall sp_law_order [] L2.E0 (tCons (tVar 0) (tCons (tVar 4) (tCons (tVar 9) (tCons (tVar 7) tNil)))))) rfl sc__law_board.nd (pi_range1 rfl T.range (pa_cons (pv 7) pa_nil)) (blkOk_by (N := ["_law_box", "_law_lines", "_law_deeds", "_law_kinds_here", "_law_cells", "_law_memory", "_law_cell", "_law_many", "_law_orders", "_law_number", "_law_program", "_law_turn", "_law_deed_here", "_law_one"]) (sc := defScope s__law_board) (own := [("_law_number", 9)]) (by decide +kernel)) (fun _ _ _ _ _ => (pg_name (i := 9) sc__law_board.nd rfl (.inl rfl))) (fun _ _ _ _ _ => pts_nil) (fun _ _ _ _ _ => (pe_c c__law_order hr (by decide) (by rfl) (pa_cons (pv 0) (pa_cons (pv 4) (pa_cons (pv 9) (pa_cons (pv 7) pa_nil))))))) pa_nil)))
      (pss_cons (ps_set (i := 10) sc__law_board.nd rfl (.inl rfl) (pe_lst pa_nil))
      (pss_cons (ps_for PassesOwn.never rfl (pi_range1 rfl T.range (pa_cons (pe_c c__law_take hr (by decide) (by rfl) (pa_cons (pv 0) (pa_cons (pe_op op_add (pv 2) pe_int) pa_nil))) pa_nil)) (pg_name (i := 11) sc__law_board.nd rfl (.inl rfl))
      (pss_cons (ps_set (i := 12) sc__law_board.nd rfl (.inl rfl) (pe_c c__law_deed hr (by decide) (by rfl) (pa_cons (pv 0) (pa_cons (pv 4) (pa_cons (pv 7) (pa_cons (pv 3) pa_nil))))))
      (pss_cons (ps_if (PW.pt (pw_and (pt_cmpR op_eq (pe_ix ix_tup (pv 12) pe_int (fun _ _ => rfl)) pe_str (nomark _)) (pw_and1 (pt_cmpR op_eq (pe_callB c_len (by rfl) T.len PySem.boot_len (pa_cons (pe_lc (own := [("_law_one", 13)]) (g := (gName 13)) (tt := (tTest (tOp rEq (tOp (rIxT K) (tVar 13) (tC (.int 0))) (tC (.str "start"))))) (te := (tVar 13)) rfl sc__law_board.nd (pi_list (pv 10)) (blkOk_by (N := ["_law_box", "_law_lines", "_law_deeds", "_law_kinds_here", "_law_cells", "_law_memory", "_law_cell", "_law_many", "_law_orders", "_law_number", "_law_program", "_law_turn", "_law_deed_here", "_law_one"]) (sc := defScope s__law_board) (own := [("_law_one", 13)]) (by decide +kernel)) (fun _ _ _ _ _ => (pg_name (i := 13) sc__law_board.nd rfl (.inl rfl))) (fun _ _ _ _ _ => (pts_one (pt_cmpR op_eq (pe_ix ix_tup (pv 13) pe_int (fun _ _ => rfl)) pe_str (nomark _)))) (fun _ _ _ _ _ => (pv 13))) pa_nil)) pe_int (nomark _))))) (pss_one (ps_set (i := 12) sc__law_board.nd rfl (.inl rfl) (pe_tup (pa_cons pe_str (pa_cons (pe_c c__law_take hr (by decide) (by rfl) (pa_cons (pv 0) (pa_cons (pv 4) pa_nil))) pa_nil))))) pss_nil)
      (pss_one (ps_expr (pe_bm PySem.F.plainAttrs_list PySem.F.slot_list_append PySem.F.type_list_append mt_append (pv 10) (pa_cons (pv 12) pa_nil)))))))
      (pss_one (ps_ret (pe_tup (pa_cons (pv 5) (pa_cons (pv 8) (pa_cons (pe_callTy c_tuple (by rfl) T.tuple (by decide +kernel) (pa_cons (pv 10) pa_nil)) pa_nil)))))))))))), ?_⟩
    have small : ∀ z : Int, z.natAbs < 512 → z.natAbs.log2 < 9000 := fun z hz => by
      have := Nat.log2_le_self z.natAbs
      omega
    have nbl : ∀ {D : Addr}, H D = none → D ≠ b ∧ D ≠ l := fun {D} hD => by
      obtain ⟨_, h, _⟩ := hB.box
      obtain ⟨_, h2⟩ := hB.nums
      exact ⟨fun z => (by rw [z, h] at hD; cases hD), fun z => (by rw [z, h2] at hD; cases hD)⟩
    have free : ∀ {H1 : Hp} {D : Addr}, Dr b l H H1 → H1 D = none → H D = none := fun {H1 D} d hD => by
      cases e : H D with
      | none => rfl
      | some o =>
        by_cases hm : D ∈ [b, l]
        · obtain ⟨_, h, _⟩ := d.2.2.box
          obtain ⟨_, h2⟩ := d.2.2.nums
          simp only [List.mem_cons, List.not_mem_nil, or_false] at hm
          rcases hm with rfl | rfl
          · rw [h] at hD; cases hD
          · rw [h2] at hD; cases hD
        · rw [d.1 D o e hm] at hD
          cases hD
    walk_at "rd"
    refine ⟨b, l, _, rfl, hB, by omega, small _ (by omega), fun r H1 d1 r0 r1 => ?_⟩
    obtain ⟨k, rfl⟩ : ∃ k : Nat, r = (k : Int) := ⟨r.toNat, by omega⟩
    walk_at "rd"
    refine st_mul (.inl ⟨by decide, by decide⟩) ?_
    walk_at "rd"
    have ecells : (4 : Int) * (1 + (k : Int)) = ((4 * (1 + k) : Nat) : Int) := by omega
    rw [ecells]
    have hk4 : k < 4 := by omega
    have hkl' : k < lines := by omega
    generalize hc : 4 * (1 + k) = cells
    -- memory
    refine st_lcRange (n := cells) (by omega) fun D H2 nD e2 hD => ?_
    have nD0 := free d1 nD
    refine ⟨fun i H' => ∃ ns : List Int, ns.length = i ∧ (∀ n ∈ ns, 0 ≤ n ∧ n ≤ 9) ∧ Dr b l H H' ∧ H' D = some (.lst (ns.map V.int)), ⟨[], rfl, by simp, d1.ex e2, hD⟩, fun i H' hi hp => ?_, fun H' hp => ?_⟩
    · obtain ⟨ns, h1, h2, h3, h4⟩ := hp
      show gName 6 _ _ _ _
      walk_at "rd"
      refine ⟨rfl, ?_⟩
      walk_at "rd"
      refine ⟨b, l, 10, rfl, h3.2.2, by decide, by decide, fun r H3 d3 r0 r1 => ?_⟩
      have h4' : H3 D = some (.lst (ns.map V.int)) := d3.1 D _ h4 (by simp; exact nbl nD0)
      refine st_lcPut h4' (by rw [List.length_map]; omega) fun H4 f4 k4 h5 => ?_
      refine ⟨ns ++ [r], by simp [h1], ?_, Dr.put hB (h3.trans d3) nD0 f4 k4, by rw [h5, List.map_append]; rfl⟩
      intro n hn
      rcases List.mem_append.mp hn with hn | hn
      · exact h2 n hn
      · rw [List.mem_singleton.mp hn]
        omega
    obtain ⟨mem, hmem, hdig, d2, hD2⟩ := hp
    walk_at "rd"
    refine st_tupL hD2 fun tm H3 ntm e3 htm => ?_
    have d3 := d2.ex e3
    walk_at "rd"
    refine ⟨b, l, 4, rfl, d3.2.2, by decide, by decide, fun r H4 d4 r0 r1 => ?_⟩
    obtain ⟨k2, rfl⟩ : ∃ k2 : Nat, r = (k2 : Int) := ⟨r.toNat, by omega⟩
    walk_at "rd"
    have emany : (1 : Int) + (k2 : Int) = ((1 + k2 : Nat) : Int) := by omega
    rw [emany]
    have hm4 : 1 + k2 ≤ 4 := by omega
    have hm1 : 1 ≤ 1 + k2 := by omega
    generalize hmn : 1 + k2 = many at hm4 hm1
    have d34 := d3.trans d4
    -- orders
    refine st_lcRange (n := many) (by omega) fun D2 H5 nD2 e5 hD5 => ?_
    have nD20 := free d34 nD2
    refine ⟨fun i H' => ∃ (os : List Ord) (xs : List V), os.length = i ∧ (∀ j o, os[j]? = some o → 1 ≤ o.many ∧ o.many ≤ 8 ∧ o.src + o.many ≤ cells ∧ o.dst + o.many ≤ cells ∧ ∀ k, o.later = some k → j < k ∧ k < many) ∧ Dr b l H H' ∧ Kp H3 H' ∧ H' D2 = some (.lst xs) ∧ ImL H' ((os.map Ord.raw).map pyOrd) xs,
      ⟨[], [], rfl, by simp, d34.ex e5, d4.2.1.trans e5.kp, hD5, iml_nil⟩, fun i H' hi hp => ?_, fun H' hp => ?_⟩
    · obtain ⟨os, xs, h1, h2, h3, hkp, h4, h5⟩ := hp
      show gName 9 _ _ _ _
      walk_at "rd"
      refine ⟨rfl, ?_⟩
      walk_at "rd"
      refine ⟨b, l, cells, i, many, rfl, h3.2.2, by omega, by omega, hi, hm4, fun o v H6 d6 o1 o2 o3 o4 o5 hv => ?_⟩
      have h4' : H6 D2 = some (.lst xs) := d6.1 D2 _ h4 (by simp; exact nbl nD20)
      refine st_lcPut h4' (by rw [h5.length, List.length_map, List.length_map]; omega) fun H7 f7 k7 h7 => ?_
      refine ⟨os ++ [o], xs ++ [v], by simp [h1], ?_, Dr.put hB (h3.trans d6) nD20 f7 k7, (hkp.trans d6.2.1).trans k7, h7, ?_⟩
      · intro j o' hj
        by_cases hj' : j < os.length
        · rw [List.getElem?_append_left hj'] at hj
          exact h2 j o' hj
        · rw [List.getElem?_append_right (by omega)] at hj
          have hz : j - os.length = 0 := by
            cases e : j - os.length with
            | zero => rfl
            | succ n => rw [e] at hj; simp at hj
          rw [hz] at hj
          simp at hj
          subst hj
          have : j = i := by omega
          subst this
          exact ⟨o1, o2, o3, o4, o5⟩
      · rw [List.map_append, List.map_append]
        exact ((h5.kp d6.2.1).kp k7).append (iml_cons (hv.kp k7) iml_nil)
    obtain ⟨os, xs, hos, hok, d5, hkp5, hD2', hos'⟩ := hp
    walk_at "rd"
    refine st_tupL hD2' fun to H6 nto e6 hto => ?_
    have d6 := d5.ex e6
    walk_at "rd"
    refine st_newL (by simp) fun pl H7 npl e7 hpl => ?_
    have d7 := d6.ex e7
    have npl0 := free d6 npl
    have kl7 : H7 kl = some (.lst (ks.map V.str)) := d7.1 kl _ hk (by simp; exact ⟨nkb, nkl⟩)
    walk_at "rd"
    refine ⟨b, l, _, rfl, d7.2.2, by omega, small _ (by omega), fun r H8 d8 r0 r1 => ?_⟩
    obtain ⟨turns, rfl⟩ : ∃ k2 : Nat, r = (k2 : Int) := ⟨r.toNat, by omega⟩
    have hpl8 : H8 pl = some (.lst []) := d8.1 pl _ hpl (by simp; exact nbl npl0)
    walk_at "rd"
    refine st_walkR (n := turns) (by omega) (fun i σ' H' => ∃ (p : List Deed) (ys : List V) (y1 y2 y3 y4 y5 : Option V), σ' = [some (.ref b), some (.int (lines : Int)), some (.int (deeds : Int)), some (.ref kl), some (.int (cells : Int)), some (.ref tm), y1, some (.int (many : Int)), some (.ref to), y2, some (.ref pl), y3, y4, y5] ∧
      p.length = i ∧ (∀ d ∈ p, d.Ok cells many) ∧ (p.filter Deed.isStart).length ≤ 3 ∧ (∀ d ∈ p, d.raw.1 ∈ ks ∨ ∃ c, d = .say c) ∧ Dr b l H H' ∧ Kp H7 H' ∧ H' pl = some (.lst ys) ∧ ImL H' ((p.map Deed.raw).map pyDeed) ys) ⟨[], [], _, _, _, _, _, rfl, rfl, by simp, by simp, by simp, d7.trans d8, d8.2.1, hpl8, iml_nil⟩ (fun i σ' H' hi hp => ?_) (fun σ' H' hp => ?_)
    · obtain ⟨p, ys, y1, y2, y3, y4, y5, rfl, p1, p2, p3, p4, dd, kk, hp', hys⟩ := hp
      walk_at "rd"
      have klh : H' kl = some (.lst (ks.map V.str)) := dd.1 kl _ hk (by simp; exact ⟨nkb, nkl⟩)
      refine ⟨b, l, kl, cells, many, ks, rfl, dd.2.2, klh, nkb, nkl, hne, hkl, hw, by omega, by omega, hm1, hm4, fun d v H9 d9 ok inks hv => ?_⟩
      have hp9 : H9 pl = some (.lst ys) := d9.1 pl _ hp' (by simp; exact nbl npl0)
      have hys9 := hys.kp d9.2.1
      have hylen : ys.length = i := by rw [hys.length, List.length_map, List.length_map]; exact p1
      -- the deed is put
      have put : ∀ (d' : Deed) (v' : V) (H10 : Hp) (y4 y5 : Option V), Dr b l H9 H10 → Kp H9 H10 → H10 pl = some (.lst ys) → d'.Ok cells many → (d'.isStart = true → (p.filter Deed.isStart).length ≤ 2) → (d'.raw.1 ∈ ks ∨ ∃ c, d' = .say c) → Im H10 (pyDeed d'.raw) v' →
          ∀ H11, Fr [pl] H10 H11 → Kp H10 H11 → H11 pl = some (.lst (ys ++ [v'])) → ∃ (p : List Deed) (ys : List V) (z1 z2 z3 z4 z5 : Option V), ([some (.ref b), some (.int (lines : Int)), some (.int (deeds : Int)), some (.ref kl), some (.int (cells : Int)), some (.ref tm), y1, some (.int (many : Int)), some (.ref to), y2, some (.ref pl), some (.int (i : Int)), y4, y5] : L2.St) = [some (.ref b), some (.int (lines : Int)), some (.int (deeds : Int)), some (.ref kl), some (.int (cells : Int)), some (.ref tm), z1, some (.int (many : Int)), some (.ref to), z2, some (.ref pl), z3, z4, z5] ∧
            p.length = i + 1 ∧ (∀ d ∈ p, d.Ok cells many) ∧ (p.filter Deed.isStart).length ≤ 3 ∧ (∀ d ∈ p, d.raw.1 ∈ ks ∨ ∃ c, d = .say c) ∧ Dr b l H H11 ∧ Kp H7 H11 ∧ H11 pl = some (.lst ys) ∧ ImL H11 ((p.map Deed.raw).map pyDeed) ys := by
        intro d' v' H10 y4 y5 d10 k10 hp10 ok' st' in' hv' H11 f11 k11 h11
        refine ⟨p ++ [d'], ys ++ [v'], _, _, _, _, _, rfl, by simp [p1], ?_, ?_, ?_, Dr.put hB ((dd.trans d9).trans d10) npl0 f11 k11, ((kk.trans d9.2.1).trans k10).trans k11, h11, ?_⟩
        · intro e he
          rcases List.mem_append.mp he with he | he
          · exact p2 e he
          · rw [List.mem_singleton.mp he]; exact ok'
        · rw [List.filter_append, List.length_append]
          cases hs : d'.isStart with
          | true =>
            have := st' hs
            simp [List.filter_cons, hs]
            omega
          | false =>
            simp [List.filter_cons, hs]
            omega
        · intro e he
          rcases List.mem_append.mp he with he | he
          · exact p4 e he
          · rw [List.mem_singleton.mp he]; exact in'
        · rw [List.map_append, List.map_append]
          exact ((hys9.kp k10).kp k11).append (iml_cons (hv'.kp k11) iml_nil)
      walk_at "rd"
      refine st_ixT_str hv (Kp.refl _) (atI_nat (j := 0) rfl) ?_
      walk_at "rd"
      have eS : decide (d.raw.1 = ("start" : Str)) = d.isStart := isStart_raw d
      rw [eS]
      refine st_B (fun h => ?_) (fun h => ?_)
      · walk_at "rd"
        refine st_lcList (SqL.of hp9) fun D3 H10 nD3 e10 hD3 => ?_
        refine ⟨fun j H11 => ∃ acc, Ex H9 H11 ∧ H11 D3 = some (.lst acc) ∧ acc.length = ((p.take j).filter Deed.isStart).length, ⟨[], e10, hD3, by simp⟩, fun j H11 hh => ?_, fun j v1 H11 hv1 hh => ?_, fun H11 hh => ?_⟩
        · obtain ⟨_, e, _⟩ := hh
          exact SqL.of (e _ _ hp9)
        · obtain ⟨acc, e11, hacc, hlen⟩ := hh
          obtain ⟨dd1, g1, g2⟩ := hys9.get' hv1
          obtain ⟨dr, g3, rfl⟩ := map_at' g1
          obtain ⟨dj, g4, rfl⟩ := map_at' g3
          show gName 13 _ _ _ _
          walk_at "rd"
          refine ⟨rfl, ?_⟩
          walk_at "rd"
          refine st_ixT_str (g2.ex e11) (Kp.refl _) (atI_nat (j := 0) rfl) ?_
          walk_at "rd"
          have eS2 : decide (dj.raw.1 = ("start" : Str)) = dj.isStart := isStart_raw dj
          rw [eS2]
          have ht : p.take (j + 1) = p.take j ++ [dj] := by rw [List.take_add_one, g4]; rfl
          refine st_B (fun hs => ?_) (fun hs => ?_)
          · walk_at "rd"
            have : ((p.take j).filter Deed.isStart).length ≤ p.length := Nat.le_trans (List.length_filter_le _ _) (by rw [List.length_take]; omega)
            refine st_lcPut hacc (by omega) fun H12 f12 k12 h12 => ?_
            refine ⟨acc ++ [v1], Fr.ex e11 (fun a ha => by rw [List.mem_singleton.mp ha]; exact nD3) f12, h12, ?_⟩
            rw [ht, List.filter_append, List.length_append, List.length_append, hlen]
            simp [List.filter_cons, hs]
          · refine ⟨acc, e11, hacc, ?_⟩
            rw [ht, List.filter_append, List.length_append, hlen]
            simp [List.filter_cons, hs]
        · obtain ⟨acc, e11, hacc, hlen⟩ := hh
          rw [hylen, ← p1, List.take_length] at hlen
          walk_at "rd"
          refine st_lenL hacc ?_
          walk_at "rd"
          have d11 := d9.2.2.ex e11
          refine st_D (fun h3 => ?_) (fun h3 => ?_)
          · walk_at "rd"
            refine ⟨b, l, _, rfl, d11, by omega, small _ (by omega), fun r H12 d12 r0 r1 => ?_⟩
            obtain ⟨cell, rfl⟩ : ∃ k2 : Nat, r = (k2 : Int) := ⟨r.toNat, by omega⟩
            walk_at "rd"
            refine st_newT (by simp) fun t H13 nt e13 ht => ?_
            have hp13 : H13 pl = some (.lst ys) := e13 _ _ (d12.1 pl _ (e11 _ _ hp9) (by simp; exact nbl npl0))
            walk_at "rd"
            refine tyL hp13 ?_
            walk_at "rd"
            refine st_app hp13 (sz_lt (by omega)) fun H14 f14 k14 h14 => ?_
            exact put (.say cell) _ H13 _ _ (((Dr.start d9.2.2).ex e11).trans (d12.ex e13)) ((e11.kp.trans d12.2.1).trans e13.kp) hp13 (show cell < cells by omega) (fun z => by cases z) (.inr ⟨cell, rfl⟩) (im_tup ht (iml_cons im_str (iml_cons im_int iml_nil))) H14 f14 k14 h14
          · walk_at "rd"
            refine tyL (e11 _ _ hp9) ?_
            walk_at "rd"
            refine st_app (e11 _ _ hp9) (sz_lt (by omega)) fun H14 f14 k14 h14 => ?_
            exact put d _ H11 _ _ ((Dr.start d9.2.2).ex e11) e11.kp (e11 _ _ hp9) ok (fun _ => by omega) (.inl inks) (hv.ex e11) H14 f14 k14 h14
      · walk_at "rd"
        refine tyL hp9 ?_
        walk_at "rd"
        refine st_app hp9 (sz_lt (by omega)) fun H14 f14 k14 h14 => ?_
        exact put d _ H9 _ _ (Dr.start d9.2.2) (Kp.refl _) hp9 ok (fun z => by rw [h] at z; cases z) (.inl inks) hv H14 f14 k14 h14
    · obtain ⟨p, ys, y1, y2, y3, y4, y5, rfl, p1, p2, p3, p4, dd, kk, hp', hys⟩ := hp
      walk_at "rd"
      refine st_tupL hp' fun tp H9 ntp e9 htp => ?_
      walk_at "rd"
      refine st_newT (by simp) fun t H10 nt e10 ht => ?_
      have hmem' : Im H3 (pyMem mem) (.ref tm) := im_tup htm (ImL.ints.mpr rfl)
      have hord' : Im H6 (pyOrds (os.map Ord.raw)) (.ref to) := im_tup hto (hos'.ex e6)
      refine q ⟨mem, os, p⟩ _ H10 ((dd.ex e9).ex e10) ⟨⟨?_, ?_, hdig, by show os.length ≤ 4; omega, ⟨?_⟩, by show p.length ≤ 60; omega, ?_, p3⟩, by show mem.length ≤ _; omega, by show p.length ≤ _; omega, by show 1 ≤ os.length; omega, p4⟩ ?_
      · show mem.length % 4 = 0
        omega
      · show 1 ≤ mem.length / 4 ∧ mem.length / 4 ≤ 4
        omega
      · intro i o ho
        show _ ∧ _ ∧ o.src + o.many ≤ mem.length ∧ o.dst + o.many ≤ mem.length ∧ ∀ l, o.later = some l → i < l ∧ l < os.length
        rw [hmem, hos]
        exact hok i o ho
      · intro d hd
        show d.Ok mem.length os.length
        rw [hmem, hos]
        exact p2 d hd
      · refine im_tup ht (iml_cons (hmem'.kp ?_) (iml_cons (hord'.kp ?_) (iml_cons ?_ iml_nil)))
        · exact (((hkp5.trans e6.kp).trans e7.kp).trans kk).trans (e9.kp.trans e10.kp)
        · exact (e7.kp.trans kk).trans (e9.kp.trans e10.kp)
        · exact (im_tup htp (hys.ex e9)).ex e10
/-! ### _law_fence -/
theorem sc__law_fence : FnScope ["_law_box", "_law_board_here", "_law_line", "_law_deed_here"] ["_law_box", "_law_board_here"] (defScope s__law_fence) := ⟨rfl, rfl, rfl, by decide +kernel, rfl, by decide +kernel, by decide +kernel⟩
def sp_law_fence : Sp := fun vs H Q _ => ∃ (b l : Addr) (x : V) (bd : Bd), vs = [.ref b, x] ∧ BoxAt H b l ∧ Im H (pyB bd.raw) x ∧ Good bd ∧ ∀ (f : TF) v H', Dr b l H H' → fenceT bd f → Im H' (pyF f.raw) v → Q v H'
theorem cal_law_fence {P w base K mg c} (T : Txt K mg c) : Cal CX0 P w K mg base 2 "_law_fence" sp_law_fence := by
  obtain ⟨f, fd, F, m⟩ := T.F__law_fence
  have c__law_take := cal_law_take (P := P) (w := w) (base := base) T
  refine cal_of F m (fun _ _ _ _ _ _ us hl => match us, hl with | [_, _], _ => rfl) sc__law_fence (fun vs H Q E h => ?_) (fun cdv A outer s H vs Q E hr h => ?_)
  · obtain ⟨b, l, x, bd, rfl, _⟩ := h
    rfl
  · obtain ⟨b, l, x, bd, rfl, hB, hx, g, q⟩ := h
    refine ⟨_, (pss_cons (ps_set (i := 2) sc__law_fence.nd rfl (.inl rfl) (pe_c c__law_take hr (by decide) (by rfl) (pa_cons (pv 0) (pa_cons (pe_op op_fdiv (pe_callB c_len (by rfl) T.len PySem.boot_len (pa_cons (pe_ix ix_tup (pv 1) pe_int (fun _ _ => rfl)) pa_nil)) pe_int) pa_nil))))
      (pss_cons (ps_set (i := 3) sc__law_fence.nd rfl (.inl rfl) (pe_ix ix_list (pe_lst (pa_cons (pe_tup (pa_cons pe_str pa_nil)) (pa_cons (pe_tup (pa_cons pe_str (pa_cons (pv 2) pa_nil))) (pa_cons (pe_tup (pa_cons pe_str (pa_cons (pv 2) pa_nil))) pa_nil)))) (pe_c c__law_take hr (by decide) (by rfl) (pa_cons (pv 0) (pa_cons pe_int pa_nil))) (fun _ _ => rfl)))
      (pss_one (ps_ret (pe_tup (pa_cons (pe_c c__law_take hr (by decide) (by rfl) (pa_cons (pv 0) (pa_cons (pe_op op_add (pe_callB c_len (by rfl) T.len PySem.boot_len (pa_cons (pe_ix ix_tup (pv 1) pe_int (fun _ _ => rfl)) pa_nil)) pe_int) pa_nil))) (pa_cons (pv 3) pa_nil))))))), ?_⟩
    have small : ∀ z : Int, z.natAbs < 512 → z.natAbs.log2 < 9000 := fun z hz => by
      have := Nat.log2_le_self z.natAbs
      omega
    have hlin := g.lines
    have h60 := g.len
    walk_at "rd"
    refine st_ixT hx (Kp.refl _) (atI_nat (j := 0) rfl) fun vm hvm => ?_
    walk_at "rd"
    refine st_lenT hvm (Kp.refl _) ?_
    walk_at "rd"
    rw [List.length_map]
    have hml : (bd.raw.mem.length : Int) = (bd.mem.length : Int) := rfl
    refine ⟨b, l, _, rfl, hB, by omega, small _ (by omega), fun r H1 d1 r0 r1 => ?_⟩
    obtain ⟨n, rfl⟩ : ∃ n : Nat, r = (n : Int) := ⟨r.toNat, by omega⟩
    walk_at "rd"
    refine st_newT (by simp) fun t1 H2 n2 e2 h2 => ?_
    walk_at "rd"
    refine st_newT (by simp) fun t2 H3 n3 e3 h3 => ?_
    walk_at "rd"
    refine st_newT (by simp) fun t3 H4 n4 e4 h4 => ?_
    walk_at "rd"
    refine st_newL (by simp) fun tl H5 n5 e5 h5 => ?_
    walk_at "rd"
    have D5 := (((d1.ex e2).ex e3).ex e4).ex e5
    refine ⟨b, l, 3, rfl, D5.2.2, by decide, by decide, fun r2 H6 d6 r20 r21 => ?_⟩
    obtain ⟨j, rfl⟩ : ∃ j : Nat, r2 = (j : Int) := ⟨r2.toNat, by omega⟩
    have D6 := D5.trans d6
    have h56 := d6.1 _ _ h5 ((((d1.ex e2).ex e3).ex e4).2.2.new n5)
    have i1 : Im H6 (pyDeed Deed.wait.raw) (.ref t1) := (im_tup (ds := [.str "wait"]) h2 (iml_cons im_str iml_nil)).kp (((e3.trans e4).trans e5).kp.trans d6.2.1)
    have i2 : Im H6 (pyDeed (Deed.clean n).raw) (.ref t2) := (im_tup (ds := [.str "clean", .int n]) h3 (iml_cons im_str (iml_cons im_int iml_nil))).kp ((e4.trans e5).kp.trans d6.2.1)
    have i3 : Im H6 (pyDeed (Deed.drop n).raw) (.ref t3) := (im_tup (ds := [.str "drop", .int n]) h4 (iml_cons im_str (iml_cons im_int iml_nil))).kp (e5.kp.trans d6.2.1)
    obtain ⟨d, t, ht, hd, hi⟩ : ∃ (d : Deed) (t : Addr), [V.ref t1, V.ref t2, V.ref t3][j]? = some (.ref t) ∧ fenceD (bd.mem.length / 4) d ∧ Im H6 (pyDeed d.raw) (.ref t) := by
      match j, r21 with
      | 0, _ => exact ⟨.wait, t1, rfl, .inl rfl, i1⟩
      | 1, _ => exact ⟨.clean n, t2, rfl, .inr (.inl ⟨n, by omega, rfl⟩), i2⟩
      | 2, _ => exact ⟨.drop n, t3, rfl, .inr (.inr ⟨n, by omega, rfl⟩), i3⟩
      | j + 3, h => omega
    walk_at "rd"
    refine st_ixL h56 (atI_nat (j := j) ht) ?_
    walk_at "rd"
    refine st_ixT hx D6.2.1 (atI_nat (j := 2) rfl) fun vp hvp => ?_
    walk_at "rd"
    refine st_lenT hvp (Kp.refl _) ?_
    walk_at "rd"
    rw [List.length_map]
    have hpl : (bd.raw.prog.length : Int) = (bd.prog.length : Int) := by
      show ((bd.prog.map Deed.raw).length : Int) = _
      rw [List.length_map]
    refine ⟨b, l, _, rfl, D6.2.2, by omega, small _ (by omega), fun r3 H7 d7 r30 r31 => ?_⟩
    obtain ⟨p, rfl⟩ : ∃ p : Nat, r3 = (p : Int) := ⟨r3.toNat, by omega⟩
    walk_at "rd"
    refine st_newT (by simp) fun t4 H8 n8 e8 h8 => ?_
    exact q (p, d) _ H8 ((D6.trans d7).ex e8) ⟨by omega, hd⟩ (im_tup h8 (iml_cons im_int (iml_cons (hi.kp (d7.2.1.trans e8.kp)) iml_nil)))
/-! ### _law_class: of the exceptions that set fields -/
theorem sc__law_class : FnScope ["_law_e", "_law_kinds_here", "_law_words"] ["_law_e"] (defScope s__law_class) := ⟨rfl, rfl, rfl, by decide +kernel, rfl, by decide +kernel, by decide +kernel⟩
def sp_law_class (x : Xc) : SpE := fun a cls d vs H Q _ => ∃ (dd : Addr) (fs : List (Str × V)), d = some dd ∧ H dd = some (.xd fs) ∧ vs = [.ref a] ∧ ((cls = .ref x.BadBoard ∧ ∀ H', Ex H H' → Q (.str "BadBoard") H') ∨ (cls = .ref x.BadFence ∧ ∀ H', Ex H H' → Q (.str "BadFence") H'))
theorem cal_law_class {P w base K mg c x} (T : Txt K mg c) (xt : XTxt K mg x) : CalE P w K mg base 1 "_law_class" (sp_law_class x) := by
  obtain ⟨f, fd, F, m⟩ := T.F__law_class
  refine cal_ofE F m (fun _ _ _ _ _ _ us hl => match us, hl with | [_], _ => rfl) sc__law_class (fun a c d vs H Q E h => ?_) (fun a oe cls d cdv A outer s H vs Q E hz hf hr h => ?_)
  · obtain ⟨dd, fs, _, _, rfl, _⟩ := h
    rfl
  · obtain ⟨dd, fs, rfl, hd, rfl, ⟨rfl, q⟩ | ⟨rfl, q⟩⟩ := h
    · have eC := xt.e_BadBoard
      have hp : (a, oe) ∈ (L2H.cxH CX0 P w K mg base ["_law_e", "_law_kinds_here", "_law_words"] "_law_class" (defScope s__law_class) f cdv A outer s H E (a, oe)).nox.pn := List.mem_cons_self
      refine ⟨_, (pss_cons (ps_set (i := 1) sc__law_class.nd rfl (.inl rfl) (pe_lst (pa_cons (pe_callB (call_isD eC hz hf hp) (by rfl) T.isinstance (by decide +kernel) (pa_cons (pv 0) (pa_cons (pe_gc (v := .ref _) (by rfl) ⟨_, xt.g_BadBoard, rfl⟩) pa_nil))) (pa_cons (pe_callB (call_isD eC hz hf hp) (by rfl) T.isinstance (by decide +kernel) (pa_cons (pv 0) (pa_cons (pe_gc (v := .ref _) (by rfl) ⟨_, xt.g_BadFence, rfl⟩) pa_nil))) (pa_cons (pe_callB (call_isD eC hz hf hp) (by rfl) T.isinstance (by decide +kernel) (pa_cons (pv 0) (pa_cons (pe_gc (v := .ref _) (by rfl) ⟨_, xt.g_NotSure, rfl⟩) pa_nil))) (pa_cons (pe_callB (call_isD eC hz hf hp) (by rfl) T.isinstance (by decide +kernel) (pa_cons (pv 0) (pa_cons (pe_gc (v := .ref _) (by rfl) ⟨_, xt.g_BadCount, rfl⟩) pa_nil))) pa_nil))))))
      (pss_cons (ps_expr (pe_bm PySem.F.plainAttrs_list PySem.F.slot_list_append PySem.F.type_list_append mt_append (pv 1) (pa_cons (pe_callB (call_isD eC hz hf hp) (by rfl) T.isinstance (by decide +kernel) (pa_cons (pv 0) (pa_cons (pe_gc (v := .ref _) (by rfl) ⟨_, xt.g_BadText, rfl⟩) pa_nil))) pa_nil)))
      (pss_cons (ps_set (i := 2) sc__law_class.nd rfl (.inl rfl) (pe_lst (pa_cons pe_str (pa_cons pe_str (pa_cons pe_str (pa_cons pe_str (pa_cons pe_str pa_nil)))))))
      (pss_one (ps_ret (pe_ifExp (PW.pt (pw_and (pt_cmpR op_eq (pe_bm PySem.F.plainAttrs_list PySem.F.slot_list_count PySem.F.type_list_count mt_cntB (pv 1) (pa_cons pe_bl pa_nil)) pe_int (nomark _)) (pw_and1 (pt_val (pe_callB (call_isD eC hz hf hp) (by rfl) T.isinstance (by decide +kernel) (pa_cons (pv 0) (pa_cons (pe_bltn (v := .ty "ValueError") (u := .type "ValueError") (by rfl) T.ValueError (by decide +kernel) rfl) pa_nil))))))) (pe_ix ix_list (pv 2) (pe_bm PySem.F.plainAttrs_list PySem.F.slot_list_index PySem.F.type_list_index mt_index (pv 1) (pa_cons pe_bl pa_nil)) (fun _ _ => rfl)) pe_str)))))), ?_⟩
      walk_at "rd"
      refine st_isDR hd xt.q_BadBoard_BadBoard ?_
      walk_at "rd"
      refine st_isDR hd xt.q_BadBoard_BadFence ?_
      walk_at "rd"
      refine st_isDR hd xt.q_BadBoard_NotSure ?_
      walk_at "rd"
      refine st_isDR hd xt.q_BadBoard_BadCount ?_
      walk_at "rd"
      refine st_newL (by simp) fun l1 H1 n1 e1 h1 => ?_
      walk_at "rd"
      refine tyL h1 ?_
      walk_at "rd"
      refine st_isDR (e1 _ _ hd) xt.q_BadBoard_BadText ?_
      walk_at "rd"
      refine st_app h1 (sz_lt (by simp)) fun H2 f2 k2 h2 => ?_
      walk_at "rd"
      have E2 : Ex H H2 := Fr.ex e1 (fun a ha => by rw [List.mem_singleton.mp ha]; exact n1) f2
      refine st_newL (by simp) fun l3 H3 n3 e3 h3 => ?_
      walk_at "rd"
      have h23 := e3 _ _ h2
      refine tyL h23 ?_
      walk_at "rd"
      refine ⟨l1, [true, false, false, false, false], rfl, rfl, SqL.of h23, ?_⟩
      walk_at "rd"
      refine st_D (fun _ => ?_) (fun z => absurd (by decide) z)
      walk_at "rd"
      refine st_isDV ((E2.trans e3) _ _ hd) xt.q_BadBoard_V ?_
      walk_at "rd"
      refine tyL h23 ?_
      walk_at "rd"
      refine ⟨l1, _, .bl true, 0, .bl true, rfl, rfl, SqL.of h23, rfl, rfl, rfl, rfl, fun m z hm hz => ?_, ?_⟩
      · match m, hm, hz with
          | 0, h0, hz => first | (cases hz; rfl) | (exact absurd h0 (by decide))
          | 1, h0, hz => first | (cases hz; rfl) | (exact absurd h0 (by decide))
          | 2, h0, hz => first | (cases hz; rfl) | (exact absurd h0 (by decide))
          | 3, h0, hz => first | (cases hz; rfl) | (exact absurd h0 (by decide))
          | m + 4, h0, hz => exact absurd h0 (by omega)
      refine st_ixL h3 (atI_nat (j := 0) rfl) ?_
      exact q H3 (E2.trans e3)
    · have eC := xt.e_BadFence
      have hp : (a, oe) ∈ (L2H.cxH CX0 P w K mg base ["_law_e", "_law_kinds_here", "_law_words"] "_law_class" (defScope s__law_class) f cdv A outer s H E (a, oe)).nox.pn := List.mem_cons_self
      refine ⟨_, (pss_cons (ps_set (i := 1) sc__law_class.nd rfl (.inl rfl) (pe_lst (pa_cons (pe_callB (call_isD eC hz hf hp) (by rfl) T.isinstance (by decide +kernel) (pa_cons (pv 0) (pa_cons (pe_gc (v := .ref _) (by rfl) ⟨_, xt.g_BadBoard, rfl⟩) pa_nil))) (pa_cons (pe_callB (call_isD eC hz hf hp) (by rfl) T.isinstance (by decide +kernel) (pa_cons (pv 0) (pa_cons (pe_gc (v := .ref _) (by rfl) ⟨_, xt.g_BadFence, rfl⟩) pa_nil))) (pa_cons (pe_callB (call_isD eC hz hf hp) (by rfl) T.isinstance (by decide +kernel) (pa_cons (pv 0) (pa_cons (pe_gc (v := .ref _) (by rfl) ⟨_, xt.g_NotSure, rfl⟩) pa_nil))) (pa_cons (pe_callB (call_isD eC hz hf hp) (by rfl) T.isinstance (by decide +kernel) (pa_cons (pv 0) (pa_cons (pe_gc (v := .ref _) (by rfl) ⟨_, xt.g_BadCount, rfl⟩) pa_nil))) pa_nil))))))
      (pss_cons (ps_expr (pe_bm PySem.F.plainAttrs_list PySem.F.slot_list_append PySem.F.type_list_append mt_append (pv 1) (pa_cons (pe_callB (call_isD eC hz hf hp) (by rfl) T.isinstance (by decide +kernel) (pa_cons (pv 0) (pa_cons (pe_gc (v := .ref _) (by rfl) ⟨_, xt.g_BadText, rfl⟩) pa_nil))) pa_nil)))
      (pss_cons (ps_set (i := 2) sc__law_class.nd rfl (.inl rfl) (pe_lst (pa_cons pe_str (pa_cons pe_str (pa_cons pe_str (pa_cons pe_str (pa_cons pe_str pa_nil)))))))
      (pss_one (ps_ret (pe_ifExp (PW.pt (pw_and (pt_cmpR op_eq (pe_bm PySem.F.plainAttrs_list PySem.F.slot_list_count PySem.F.type_list_count mt_cntB (pv 1) (pa_cons pe_bl pa_nil)) pe_int (nomark _)) (pw_and1 (pt_val (pe_callB (call_isD eC hz hf hp) (by rfl) T.isinstance (by decide +kernel) (pa_cons (pv 0) (pa_cons (pe_bltn (v := .ty "ValueError") (u := .type "ValueError") (by rfl) T.ValueError (by decide +kernel) rfl) pa_nil))))))) (pe_ix ix_list (pv 2) (pe_bm PySem.F.plainAttrs_list PySem.F.slot_list_index PySem.F.type_list_index mt_index (pv 1) (pa_cons pe_bl pa_nil)) (fun _ _ => rfl)) pe_str)))))), ?_⟩
      walk_at "rd"
      refine st_isDR hd xt.q_BadFence_BadBoard ?_
      walk_at "rd"
      refine st_isDR hd xt.q_BadFence_BadFence ?_
      walk_at "rd"
      refine st_isDR hd xt.q_BadFence_NotSure ?_
      walk_at "rd"
      refine st_isDR hd xt.q_BadFence_BadCount ?_
      walk_at "rd"
      refine st_newL (by simp) fun l1 H1 n1 e1 h1 => ?_
      walk_at "rd"
      refine tyL h1 ?_
      walk_at "rd"
      refine st_isDR (e1 _ _ hd) xt.q_BadFence_BadText ?_
      walk_at "rd"
      refine st_app h1 (sz_lt (by simp)) fun H2 f2 k2 h2 => ?_
      walk_at "rd"
      have E2 : Ex H H2 := Fr.ex e1 (fun a ha => by rw [List.mem_singleton.mp ha]; exact n1) f2
      refine st_newL (by simp) fun l3 H3 n3 e3 h3 => ?_
      walk_at "rd"
      have h23 := e3 _ _ h2
      refine tyL h23 ?_
      walk_at "rd"
      refine ⟨l1, [false, true, false, false, false], rfl, rfl, SqL.of h23, ?_⟩
      walk_at "rd"
      refine st_D (fun _ => ?_) (fun z => absurd (by decide) z)
      walk_at "rd"
      refine st_isDV ((E2.trans e3) _ _ hd) xt.q_BadFence_V ?_
      walk_at "rd"
      refine tyL h23 ?_
      walk_at "rd"
      refine ⟨l1, _, .bl true, 1, .bl true, rfl, rfl, SqL.of h23, rfl, rfl, rfl, rfl, fun m z hm hz => ?_, ?_⟩
      · match m, hm, hz with
          | 0, h0, hz => first | (cases hz; rfl) | (exact absurd h0 (by decide))
          | 1, h0, hz => first | (cases hz; rfl) | (exact absurd h0 (by decide))
          | 2, h0, hz => first | (cases hz; rfl) | (exact absurd h0 (by decide))
          | 3, h0, hz => first | (cases hz; rfl) | (exact absurd h0 (by decide))
          | m + 4, h0, hz => exact absurd h0 (by omega)
      refine st_ixL h3 (atI_nat (j := 1) rfl) ?_
      exact q H3 (E2.trans e3)
/-! ### _law_refused -/
theorem sc__law_refused : FnScope ["_law_work", "_law_e", "_law_word"] ["_law_work"] (defScope s__law_refused) := ⟨rfl, rfl, rfl, by decide +kernel, rfl, by decide +kernel, by decide +kernel⟩
/-- what the suite makes of an exception -/
def refE (x : Xc) (Q : VK) : XK := fun cls d H' => ∃ dd, d = some dd ∧ ((∃ n : Int, cls = .ref x.BadFence ∧ H' dd = some (.xd [("number", .int n)]) ∧ ∀ t H'', Ex H' H'' → H'' t = some (.tup [.str "BadFence", .int n]) → Q (.ref t) H'') ∨
  (∃ (n : Int) (w : Str), cls = .ref x.BadBoard ∧ H' dd = some (.xd [("number", .int n), ("word", .str w)]) ∧ ∀ t H'', Ex H' H'' → H'' t = some (.tup [.str "BadBoard", .int n]) → Q (.ref t) H''))
def spT_refused (x : Xc) : SpT := fun sp H Q => ∀ (Qn : VK) (E : XK), (∀ cls d H', refE x Q cls d H' → E cls d H') → (∀ v H', Q .non H' → Qn v H') → sp H Qn E
theorem cal_law_refused {P w base K mg c x} (T : Txt K mg c) (xt : XTxt K mg x) : CalT P w K mg base 12 11 "_law_refused" (spT_refused x) := by
  obtain ⟨f, fd, F0, m⟩ := T.F__law_refused
  have c__law_class := cal_law_class (P := P) (w := w) (base := base) T xt
  refine cal_ofT F0 m (fun _ _ _ _ _ _ us hl => match us, hl with | [_], _ => rfl) sc__law_refused fun cdv A outer s H g F body dvs fr ws sp Q E hr L hl C h => ?_
  refine ⟨_, (pss_cons (ps_try_as (i := 1) rfl rfl sc__law_refused.nd rfl rfl ⟨rfl, by decide, .inl xt.g_CarrierError⟩ takes0 (fun W pn xe tk _ => (pss_one (ps_expr (pe_act2 (i := 0) (g := g) L C rfl hr (by decide) tk rfl (.inl rfl))))) (fun a oe cls d pn hz hf => (pss_cons (ps_set (i := 2) sc__law_refused.nd rfl (.inl rfl) (pe_cE c__law_class hr (by decide) hz hf (by rfl) (pa_cons (pv 1) pa_nil)))
      (pss_one (ps_ret (pe_ifExp (pt_cmpR (op_in_seqK (K := K)) (pv 2) (pe_tup (pa_cons pe_str (pa_cons pe_str pa_nil))) (by rfl)) (pe_tup (pa_cons (pv 2) (pa_cons (pe_xfG hz hf (pv 1)) pa_nil))) (pe_tup (pa_cons (pv 2) (pa_cons pe_int pa_nil)))))))))
      (pss_one (ps_ret pe_non))), ?_⟩
  walk_at "rd"
  refine st_act rfl hl ?_
  refine h _ _ (fun cls d H1 hE => ?_) (fun v H1 hq => ?_)
  · obtain ⟨dd, rfl, ⟨n, rfl, hd, k⟩ | ⟨n, w', rfl, hd, k⟩⟩ := hE
    · refine ⟨true, xt.m_BadFence, fun _ a na => ?_, fun z => by cases z⟩
      walk_at "rd"
      refine ⟨dd, _, rfl, hd, rfl, .inr ⟨rfl, fun H2 e2 => ?_⟩⟩
      walk_at "rd"
      refine st_newT (by simp) fun t2 H3 n3 e3 h3 => ?_
      refine ⟨t2, _, rfl, .inr (SqT.of h3), rfl, rfl, ?_⟩
      rw [show inV (.str "BadFence") [.str "BadFence", .str "BadBoard"] = true by decide +kernel]
      walk_at "rd"
      rw [if_pos (show (if false = true then !true else true) = true from rfl)]
      walk_at "rd"
      refine st_xfG ?_
      walk_at "rd"
      refine st_xfP xt.e_BadFence xt.n_BadFence_number (e3 _ _ (e2 _ _ hd)) rfl ?_
      walk_at "rd"
      refine st_newT (by simp) fun t3 H4 n4 e4 h4 => ?_
      exact k t3 H4 ((e2.trans e3).trans e4) h4
    · refine ⟨true, xt.m_BadBoard, fun _ a na => ?_, fun z => by cases z⟩
      walk_at "rd"
      refine ⟨dd, _, rfl, hd, rfl, .inl ⟨rfl, fun H2 e2 => ?_⟩⟩
      walk_at "rd"
      refine st_newT (by simp) fun t2 H3 n3 e3 h3 => ?_
      refine ⟨t2, _, rfl, .inr (SqT.of h3), rfl, rfl, ?_⟩
      rw [show inV (.str "BadBoard") [.str "BadFence", .str "BadBoard"] = true by decide +kernel]
      walk_at "rd"
      rw [if_pos (show (if false = true then !true else true) = true from rfl)]
      walk_at "rd"
      refine st_xfG ?_
      walk_at "rd"
      refine st_xfP xt.e_BadBoard xt.n_BadBoard_number (e3 _ _ (e2 _ _ hd)) rfl ?_
      walk_at "rd"
      refine st_newT (by simp) fun t3 H4 n4 e4 h4 => ?_
      exact k t3 H4 ((e2.trans e3).trans e4) h4
  · walk_at "rd"
    exact hq
/-! ### _law_kinds -/
theorem sc__law_kinds : FnScope [] [] (defScope s__law_kinds) := ⟨rfl, rfl, rfl, by decide +kernel, rfl, by decide +kernel, by decide +kernel⟩
def kindsAll : List Str := ["set", "set", "add", "say", "say", "start", "start", "wait", "clean", "drop"]
def sp_law_kinds : Sp := fun vs H Q _ => vs = [] ∧ ∀ k H', H k = none → Ex H H' → H' k = some (.lst (kindsAll.map V.str)) → Q (.ref k) H'
theorem cal_law_kinds {P w base K mg c} (T : Txt K mg c) : Cal CX0 P w K mg base 1 "_law_kinds" sp_law_kinds := by
  obtain ⟨f, fd, F, m⟩ := T.F__law_kinds
  refine cal_of F m (fun _ _ _ _ _ _ us hl => match us, hl with | [], _ => rfl) sc__law_kinds (fun vs H Q E h => ?_) (fun cdv A outer s H vs Q E hr h => ?_)
  · obtain ⟨rfl, _⟩ := h
    rfl
  · obtain ⟨rfl, q⟩ := h
    refine ⟨_, (pss_one (ps_ret (pe_lst (pa_cons pe_str (pa_cons pe_str (pa_cons pe_str (pa_cons pe_str (pa_cons pe_str (pa_cons pe_str (pa_cons pe_str (pa_cons pe_str (pa_cons pe_str (pa_cons pe_str pa_nil))))))))))))), ?_⟩
    walk_at "rd"
    refine st_newL (by simp) fun k H1 nk e1 hk => ?_
    exact q k H1 nk e1 hk
/-! ### the lambdas -/
def lamE (i : Nat) : Expr := match i with
  | 0 => subE (stE ((defBody s_law).getD 16 (.Pass ⟨0, 0, 0, 0⟩))) 0
  | 1 => subE (stE ((defBody s_law).getD 16 (.Pass ⟨0, 0, 0, 0⟩))) 1
  | 2 => subE (subE (subE (stE ((defBody s_law).getD 18 (.Pass ⟨0, 0, 0, 0⟩))) 0) 0) 0
  | 3 => subE (subE (subE (stE ((defBody s_law).getD 21 (.Pass ⟨0, 0, 0, 0⟩))) 0) 0) 0
  | _ => subE (subE (stE ((defBody s_law).getD 22 (.Pass ⟨0, 0, 0, 0⟩))) 0) 0
/-- a call of two names that are captured -/
def two (sp : Sp) (ws : List (Option V)) : LSp := fun H Q E => ∃ a b, ws = [some a, some b] ∧ sp [a, b] H Q E
def lamS (x : Xc) : List LKind := [
  lKind (lamE 0) [] ["_law_board_here", "_law_bad"] [2, 15] (two (sp_fenced x)), lKind (lamE 1) [.int 0] ["_law_board_here", "_law_bad"] [2, 15] (two (sp_spare x)),
  lKind (lamE 2) [.int 0] ["_law_board_here", "_law_wide"] [2, 17] (two (sp_fenced x)), lKind (lamE 3) [.int 0] ["_law_long", "_law_six"] [18, 19] (two (sp_spare x)), lKind (lamE 4) [.int 0] ["_law_long", "_law_six"] [18, 19] (two (sp_fenced x))]
section
variable {P : Program} {w : World} {K : PySem.W.Frag} {mg : Str → Option Value} {base : Heap} {c : Cl} {x : Xc}
theorem lok0 (T : Txt K mg c) (xt : XTxt K mg x) (q : Str) (cl : List (Str × Addr)) (c' : Addr) : LOk P w K mg base (L2.CX P w) 11 (lamF0 (lamE 0) q cl c') (lamBody (lamE 0)) [] ["_law_board_here", "_law_bad"] (two (sp_fenced x)) := by
  have c_fenced := cal_fenced (P := P) (w := w) (base := base) T xt
  refine lok_of (N := ["_law_board_here", "_law_bad"]) (ps := []) (NdefX.nscope_by (sc := lamScope (lamE 0)) (by decide +kernel)) (lbinds0 fun _ _ _ => rfl) fun A outer s H g ws Q E hr hl h => ?_
  obtain ⟨a, b, rfl, h⟩ := h
  exact ⟨_, pe_cX c_fenced hr (by decide) (takes_of rfl rfl rfl rfl) (by rfl) (pa_cons (pv 0) (pa_cons (pv 1) pa_nil)), st_call (st_cons (st_var rfl (st_cons (st_var rfl (st_nil h)))))⟩
theorem lok1 (T : Txt K mg c) (xt : XTxt K mg x) (q : Str) (cl : List (Str × Addr)) (c' : Addr) : LOk P w K mg base (L2.CX P w) 11 (lamF0 (lamE 1) q cl c') (lamBody (lamE 1)) [.int 0] ["_law_board_here", "_law_bad"] (two (sp_spare x)) := by
  have c_spare := cal_spare (P := P) (w := w) (base := base) T xt
  refine lok_of (N := ["_law_a", "_law_board_here", "_law_bad"]) (ps := ["_law_a"]) (NdefX.nscope_by (sc := lamScope (lamE 1)) (by decide +kernel)) (lbinds1 fun D doc pm ctv u => ⟨_, rfl, rfl⟩) fun A outer s H g ws Q E hr hl h => ?_
  obtain ⟨a, b, rfl, h⟩ := h
  exact ⟨_, pe_cX c_spare hr (by decide) (takes_of rfl rfl rfl rfl) (by rfl) (pa_cons (pv 1) (pa_cons (pv 2) pa_nil)), st_call (st_cons (st_var rfl (st_cons (st_var rfl (st_nil h)))))⟩
theorem lok2 (T : Txt K mg c) (xt : XTxt K mg x) (q : Str) (cl : List (Str × Addr)) (c' : Addr) : LOk P w K mg base (L2.CX P w) 11 (lamF0 (lamE 2) q cl c') (lamBody (lamE 2)) [.int 0] ["_law_board_here", "_law_wide"] (two (sp_fenced x)) := by
  have c_fenced := cal_fenced (P := P) (w := w) (base := base) T xt
  refine lok_of (N := ["_law_b", "_law_board_here", "_law_wide"]) (ps := ["_law_b"]) (NdefX.nscope_by (sc := lamScope (lamE 2)) (by decide +kernel)) (lbinds1 fun D doc pm ctv u => ⟨_, rfl, rfl⟩) fun A outer s H g ws Q E hr hl h => ?_
  obtain ⟨a, b, rfl, h⟩ := h
  exact ⟨_, pe_cX c_fenced hr (by decide) (takes_of rfl rfl rfl rfl) (by rfl) (pa_cons (pv 1) (pa_cons (pv 2) pa_nil)), st_call (st_cons (st_var rfl (st_cons (st_var rfl (st_nil h)))))⟩
theorem lok3 (T : Txt K mg c) (xt : XTxt K mg x) (q : Str) (cl : List (Str × Addr)) (c' : Addr) : LOk P w K mg base (L2.CX P w) 11 (lamF0 (lamE 3) q cl c') (lamBody (lamE 3)) [.int 0] ["_law_long", "_law_six"] (two (sp_spare x)) := by
  have c_spare := cal_spare (P := P) (w := w) (base := base) T xt
  refine lok_of (N := ["_law_d", "_law_long", "_law_six"]) (ps := ["_law_d"]) (NdefX.nscope_by (sc := lamScope (lamE 3)) (by decide +kernel)) (lbinds1 fun D doc pm ctv u => ⟨_, rfl, rfl⟩) fun A outer s H g ws Q E hr hl h => ?_
  obtain ⟨a, b, rfl, h⟩ := h
  exact ⟨_, pe_cX c_spare hr (by decide) (takes_of rfl rfl rfl rfl) (by rfl) (pa_cons (pv 1) (pa_cons (pv 2) pa_nil)), st_call (st_cons (st_var rfl (st_cons (st_var rfl (st_nil h)))))⟩
theorem lok4 (T : Txt K mg c) (xt : XTxt K mg x) (q : Str) (cl : List (Str × Addr)) (c' : Addr) : LOk P w K mg base (L2.CX P w) 11 (lamF0 (lamE 4) q cl c') (lamBody (lamE 4)) [.int 0] ["_law_long", "_law_six"] (two (sp_fenced x)) := by
  have c_fenced := cal_fenced (P := P) (w := w) (base := base) T xt
  refine lok_of (N := ["_law_c", "_law_long", "_law_six"]) (ps := ["_law_c"]) (NdefX.nscope_by (sc := lamScope (lamE 4)) (by decide +kernel)) (lbinds1 fun D doc pm ctv u => ⟨_, rfl, rfl⟩) fun A outer s H g ws Q E hr hl h => ?_
  obtain ⟨a, b, rfl, h⟩ := h
  exact ⟨_, pe_cX c_fenced hr (by decide) (takes_of rfl rfl rfl rfl) (by rfl) (pa_cons (pv 1) (pa_cons (pv 2) pa_nil)), st_call (st_cons (st_var rfl (st_cons (st_var rfl (st_nil h)))))⟩
end
theorem lams_ok {P w K mg base c x} (T : Txt K mg c) (xt : XTxt K mg x) {f cc : Addr} {A : Around} {outer : List Env} {s : Shared} {H : Hp} {E : XK} :
    ∀ l ∈ lamS x, LKok ((cxOf CX0 P w K mg base ["_law_script", "_law_box", "_law_board_here", "_law_many", "_law_fences", "_law_turn", "_law_handed", "_law_program", "_law_place", "_law_where", "_law_deed_here", "_law_whole", "_law_far", "_law_some", "_law_at", "_law_bad", "_law_work", "_law_wide", "_law_long", "_law_six"] "law" (defScope s_law) f (.ref cc) A outer s H E).nox) 11 l := by
  intro l hl
  unfold lamS at hl
  rcases List.mem_cons.mp hl with rfl | hl
  · exact ⟨fun c' => lok0 T xt _ _ c', NdefX.ndef_free (sc := defScope s_law) (nsc := lamScope (lamE 0)) (fr := []) (by decide +kernel), NdefX.ndef_fr (sc := defScope s_law) (nsc := lamScope (lamE 0)) (fr := ["_law_board_here", "_law_bad"]) (by decide +kernel), rfl⟩
  rcases List.mem_cons.mp hl with rfl | hl
  · exact ⟨fun c' => lok1 T xt _ _ c', NdefX.ndef_free (sc := defScope s_law) (nsc := lamScope (lamE 1)) (fr := []) (by decide +kernel), NdefX.ndef_fr (sc := defScope s_law) (nsc := lamScope (lamE 1)) (fr := ["_law_board_here", "_law_bad"]) (by decide +kernel), rfl⟩
  rcases List.mem_cons.mp hl with rfl | hl
  · exact ⟨fun c' => lok2 T xt _ _ c', NdefX.ndef_free (sc := defScope s_law) (nsc := lamScope (lamE 2)) (fr := []) (by decide +kernel), NdefX.ndef_fr (sc := defScope s_law) (nsc := lamScope (lamE 2)) (fr := ["_law_board_here", "_law_wide"]) (by decide +kernel), rfl⟩
  rcases List.mem_cons.mp hl with rfl | hl
  · exact ⟨fun c' => lok3 T xt _ _ c', NdefX.ndef_free (sc := defScope s_law) (nsc := lamScope (lamE 3)) (fr := []) (by decide +kernel), NdefX.ndef_fr (sc := defScope s_law) (nsc := lamScope (lamE 3)) (fr := ["_law_long", "_law_six"]) (by decide +kernel), rfl⟩
  rcases List.mem_cons.mp hl with rfl | hl
  · exact ⟨fun c' => lok4 T xt _ _ c', NdefX.ndef_free (sc := defScope s_law) (nsc := lamScope (lamE 4)) (fr := []) (by decide +kernel), NdefX.ndef_fr (sc := defScope s_law) (nsc := lamScope (lamE 4)) (fr := ["_law_long", "_law_six"]) (by decide +kernel), rfl⟩
  · cases hl
theorem sh_fences (fs : List TF) : Sh 3 (.list (pyTFs fs)) := sh_lst fun d hd => by
  obtain ⟨r, hr, rfl⟩ := List.mem_map.mp hd
  obtain ⟨t, ht, rfl⟩ := List.mem_map.mp hr
  exact sh_tup fun e he => by
    simp only [List.mem_cons, List.not_mem_nil, or_false] at he
    rcases he with rfl | rfl
    · exact sh_int
    · exact sh_deedR t.2
theorem opt_map {α β : Type} (f : α → β) (l : List α) (i : Nat) : (l[i]?.toList).map f = (l.map f)[i]?.toList := by
  rw [List.getElem?_map]
  cases l[i]? <;> rfl
/-! ### the law -/
theorem sc_law : FnScope ["_law_script", "_law_box", "_law_board_here", "_law_many", "_law_fences", "_law_turn", "_law_handed", "_law_program", "_law_place", "_law_where", "_law_deed_here", "_law_whole", "_law_far", "_law_some", "_law_at", "_law_bad", "_law_work", "_law_wide", "_law_long", "_law_six"] ["_law_script"] (defScope s_law) := ⟨rfl, rfl, rfl, by decide +kernel, rfl, by decide +kernel, by decide +kernel⟩
def sp_law (K : PySem.W.Frag) (PP : Addr) : Sp := fun vs H Q _ => ∃ (a : Addr) (ns : List Int), vs = [.ref a] ∧ SqL K H a (ns.map V.int) ∧ ns.length ≤ 63 ∧ H PP = some (.tbl #[]) ∧ ∀ H', Q (.bl true) H'
theorem ok_law {P w base K mg c x f fd cc PP} (T : Txt K mg c) (xt : XTxt K mg x) (F : Fun K "law" "law" s_law f fd) (hc : fd.code = .ref cc) (TB : LamX.TabB base mg cc PP) : FnOk P w K mg base CX0 13 f fd ["_law_script"] (sp_law K PP) := by
  have c__law_begun := cal_law_begun (P := P) (w := w) (base := base) T
  have c__law_take := cal_law_take (P := P) (w := w) (base := base) T
  have c__law_kinds := cal_law_kinds (P := P) (w := w) (base := base) T
  have c__law_board := cal_law_board (P := P) (w := w) (base := base) T
  have c__law_fence := cal_law_fence (P := P) (w := w) (base := base) T
  have c__law_alike := cal_law_alike (P := P) (w := w) (base := base) T 12
  have c__law_refused := cal_law_refused (P := P) (w := w) (base := base) T xt
  have c_fenced := cal_calm (cal_fenced (P := P) (w := w) (base := base) T xt)
  refine fun_okC F hc sc_law (fun vs H Q E h => ?_) (fun A outer s H vs Q E hr h => ?_)
  · obtain ⟨a, ns, rfl, _⟩ := h
    rfl
  · obtain ⟨a, ns, rfl, hS, hlen, hPP, q⟩ := h
    refine ⟨_, (pss_cons (ps_set (i := 1) sc_law.nd rfl (.inr rfl) (pe_c c__law_begun hr (by decide) (by rfl) (pa_cons (pv 0) pa_nil)))
      (pss_cons (ps_set (i := 2) sc_law.nd rfl (.inr rfl) (pe_c c__law_board hr (by decide) (by rfl) (pa_cons (pv 1) (pa_cons pe_int (pa_cons pe_int (pa_cons (pe_c0 c__law_kinds hr (by decide) (by rfl)) pa_nil))))))
      (pss_cons (ps_set (i := 3) sc_law.nd rfl (.inl rfl) (pe_callB c_len (by rfl) T.len PySem.boot_len (pa_cons (pe_ix ix_tup (pv 2) pe_int (fun _ _ => rfl)) pa_nil)))
      (pss_cons (ps_setLc (i := 4) (own := [("_law_turn", 5)]) (g := (gName 5)) (tt := tYes) (te := (tCall sp_law_fence [] L2.E0 (tCons (tVar 1) (tCons (tVar 2) tNil)))) rfl sc_law.nd rfl rfl (sw_true rfl rfl rfl (by decide +kernel)) (pi_range1 rfl T.range (pa_cons (pe_c c__law_take hr (by decide) (by rfl) (pa_cons (pv 1) (pa_cons (pe_ix ix_list (pe_lst (pa_cons pe_int (pa_cons pe_int pa_nil))) (pe_c c__law_take hr (by decide) (by rfl) (pa_cons (pv 1) (pa_cons pe_int pa_nil))) (fun _ _ => rfl)) pa_nil))) pa_nil)) (blkOk_by (N := ["_law_script", "_law_box", "_law_board_here", "_law_many", "_law_fences", "_law_turn", "_law_handed", "_law_program", "_law_place", "_law_where", "_law_deed_here", "_law_whole", "_law_far", "_law_some", "_law_at", "_law_bad", "_law_work", "_law_wide", "_law_long", "_law_six"]) (sc := defScope s_law) (own := [("_law_turn", 5)]) (by decide +kernel)) (fun _ _ _ _ _ => (pg_name (i := 5) sc_law.nd rfl (.inl rfl))) (fun _ _ _ _ _ => pts_nil) (fun _ _ _ _ _ => (pe_c c__law_fence hr (by decide) (by rfl) (pa_cons (pv 1) (pa_cons (pv 2) pa_nil)))))
      (pss_cons (ps_set (i := 6) sc_law.nd rfl (.inl rfl) (pe_callTy c_list (by rfl) T.list (by decide +kernel) (pa_cons (pv 4) pa_nil)))
      (pss_cons (ps_set (i := 7) sc_law.nd rfl (.inl rfl) (pe_lst pa_nil))
      (pss_cons (ps_for PassesOwn.never rfl (pi_range1 rfl T.range (pa_cons (pe_op op_add (pv 3) pe_int) pa_nil)) (pg_name (i := 8) sc_law.nd rfl (.inr rfl))
      (pss_cons (ps_set (i := 7) sc_law.nd rfl (.inl rfl) (pe_op op_cat (pv 7) (pe_lc (own := [("_law_where", 9), ("_law_deed_here", 10)]) (g := (gTup K 2 (gCons (gName 9) (gCons (gName 10) gNil)))) (tt := (tTest (tOp rEq (tVar 9) (tVar 8)))) (te := (tVar 10)) rfl sc_law.nd (pi_list (pv 4)) (blkOk_by (N := ["_law_script", "_law_box", "_law_board_here", "_law_many", "_law_fences", "_law_turn", "_law_handed", "_law_program", "_law_place", "_law_where", "_law_deed_here", "_law_whole", "_law_far", "_law_some", "_law_at", "_law_bad", "_law_work", "_law_wide", "_law_long", "_law_six"]) (sc := defScope s_law) (own := [("_law_where", 9), ("_law_deed_here", 10)]) (by decide +kernel)) (fun _ _ _ _ _ => (pg_tup (n := 2) rfl (pgs_cons (pg_name (i := 9) sc_law.nd rfl (.inl rfl)) (pgs_cons (pg_name (i := 10) sc_law.nd rfl (.inl rfl)) pgs_nil)))) (fun _ _ _ _ _ => (pts_one (pt_cmpR op_eq (pv 9) (pv 8) (nomark _)))) (fun _ _ _ _ _ => (pv 10)))))
      (pss_one (ps_set (i := 7) sc_law.nd rfl (.inl rfl) (pe_op op_cat (pv 7) (pe_callTy c_list (by rfl) T.list (by decide +kernel) (pa_cons (pe_slice sl_tupA (pe_ix ix_tup (pv 2) pe_int (fun _ _ => rfl)) (po_some (pv 8)) (po_some (pe_op op_add (pv 8) pe_int))) pa_nil)))))))
      (pss_cons (ps_set (i := 11) sc_law.nd rfl (.inl rfl) (pe_tup (pa_cons (pe_ix ix_tup (pv 2) pe_int (fun _ _ => rfl)) (pa_cons (pe_ix ix_tup (pv 2) pe_int (fun _ _ => rfl)) (pa_cons (pe_callTy c_tuple (by rfl) T.tuple (by decide +kernel) (pa_cons (pv 7) pa_nil)) pa_nil)))))
      (pss_cons (ps_for PassesOwn.never rfl (pi_range1 rfl T.range (pa_cons pe_int pa_nil)) (pg_name (i := 5) sc_law.nd rfl (.inl rfl))
      (pss_one (ps_if (PW.pt (pw_or (pt_not (pt_val (pe_c c__law_alike hr (by decide) (by rfl) (pa_cons (pe_c c_fenced hr (by decide) (by rfl) (pa_cons (pv 2) (pa_cons (pv 6) pa_nil))) (pa_cons (pv 11) pa_nil))))) (pw_or1 (pt_cmpR (op_neD hr.units) (pv 6) (pv 4) (nomark _))))) (pss_one (ps_ret pe_bl)) pss_nil)))
      (pss_cons (ps_set (i := 12) sc_law.nd rfl (.inl rfl) (pe_c c__law_take hr (by decide) (by rfl) (pa_cons (pv 1) (pa_cons (pe_op op_pow pe_int pe_int) pa_nil))))
      (pss_cons (ps_set (i := 13) sc_law.nd rfl (.inl rfl) (pe_lst (pa_cons (pe_tup (pa_cons pe_int (pa_cons (pe_tup (pa_cons pe_str (pa_cons pe_int pa_nil))) pa_nil))) (pa_cons (pe_tup (pa_cons pe_int (pa_cons (pe_tup (pa_cons pe_str (pa_cons pe_int pa_nil))) pa_nil))) (pa_cons (pe_tup (pa_cons pe_int (pa_cons (pe_tup (pa_cons pe_str (pa_cons pe_int (pa_cons pe_int pa_nil)))) pa_nil))) (pa_cons (pe_tup (pa_cons (pe_un un_neg pe_int) (pa_cons (pe_tup (pa_cons pe_str pa_nil)) pa_nil))) (pa_cons (pe_tup (pa_cons pe_int (pa_cons (pe_tup (pa_cons pe_str (pa_cons (pe_un un_neg pe_int) pa_nil))) pa_nil))) pa_nil)))))))
      (pss_cons (ps_set (i := 13) sc_law.nd rfl (.inl rfl) (pe_op op_cat (pv 13) (pe_lst (pa_cons (pe_tup (pa_cons (pe_op op_add (pv 3) pe_int) (pa_cons (pe_tup (pa_cons pe_str pa_nil)) pa_nil))) (pa_cons (pe_tup (pa_cons (pe_op op_add (pe_op op_add (pv 3) pe_int) (pv 12)) (pa_cons (pe_tup (pa_cons pe_str (pa_cons pe_int pa_nil))) pa_nil))) (pa_cons (pe_tup (pa_cons pe_int (pa_cons (pe_tup (pa_cons pe_str (pa_cons (pe_op op_fdiv (pe_callB c_len (by rfl) T.len PySem.boot_len (pa_cons (pe_ix ix_tup (pv 2) pe_int (fun _ _ => rfl)) pa_nil)) pe_int) pa_nil))) pa_nil))) pa_nil))))))
      (pss_cons (ps_set (i := 13) sc_law.nd rfl (.inl rfl) (pe_op op_cat (pv 13) (pe_lst (pa_cons (pe_tup (pa_cons pe_int (pa_cons (pe_tup (pa_cons pe_str (pa_cons pe_int pa_nil))) pa_nil))) (pa_cons (pe_tup (pa_cons pe_int (pa_cons (pe_tup (pa_cons pe_str pa_nil)) pa_nil))) (pa_cons (pe_tup (pa_cons pe_int (pa_cons (pe_tup (pa_cons pe_str (pa_cons pe_int pa_nil))) pa_nil))) pa_nil))))))
      (pss_cons (ps_set (i := 14) sc_law.nd rfl (.inl rfl) (pe_c c__law_take hr (by decide) (by rfl) (pa_cons (pv 1) (pa_cons (pe_op op_add (pe_callB c_len (by rfl) T.len PySem.boot_len (pa_cons (pv 4) pa_nil)) pe_int) pa_nil))))
      (pss_cons (ps_set (i := 15) sc_law.nd rfl (.inr rfl) (pe_op op_cat (pe_op op_cat (pe_slice sl_list (pv 4) po_none (po_some (pv 14))) (pe_lst (pa_cons (pe_ix ix_list (pv 13) (pe_c c__law_take hr (by decide) (by rfl) (pa_cons (pv 1) (pa_cons pe_int pa_nil))) (fun _ _ => rfl)) pa_nil))) (pe_slice sl_list (pv 4) (po_some (pv 14)) po_none)))
      (pss_cons (ps_set (i := 15) sc_law.nd rfl (.inr rfl) (pe_op op_cat (pv 15) (pe_op op_rep (pe_lst (pa_cons (pe_tup (pa_cons pe_int (pa_cons (pe_tup (pa_cons pe_str (pa_cons pe_int pa_nil))) pa_nil))) pa_nil)) (pe_c c__law_take hr (by decide) (by rfl) (pa_cons (pv 1) (pa_cons pe_int pa_nil))))))
      (pss_cons (ps_for PassesOwn.never rfl (pi_list (pe_lst (pa_cons (pe_lam0 TB rfl (lamT_mem PP) rfl (lamT_one PP) (NdefX.ndef_free (sc := defScope s_law) (fr := []) (by decide +kernel)) rfl) (pa_cons (pe_lam1 TB rfl (lamT_mem PP) rfl (lamT_one PP) (NdefX.ndef_free (sc := defScope s_law) (fr := []) (by decide +kernel)) rfl rfl) pa_nil)))) (pg_name (i := 16) sc_law.nd rfl (.inl rfl))
      (pss_one (ps_if (pt_not (pt_val (pe_c c__law_alike hr (by decide) (by rfl) (pa_cons (pe_thunk c__law_refused (lams_ok T xt) hr (by decide) (by rfl) (pa_cons (pv 16) pa_nil)) (pa_cons (pe_tup (pa_cons pe_str (pa_cons (pv 14) pa_nil))) pa_nil))))) (pss_one (ps_ret pe_bl)) pss_nil)))
      (pss_cons (ps_set (i := 17) sc_law.nd rfl (.inr rfl) (pe_op op_rep (pe_lst (pa_cons (pe_tup (pa_cons (pv 3) (pa_cons (pe_tup (pa_cons pe_str pa_nil)) pa_nil))) pa_nil)) (pe_op op_add pe_int (pe_c c__law_take hr (by decide) (by rfl) (pa_cons (pv 1) (pa_cons pe_int pa_nil))))))
      (pss_cons (ps_if (pt_not (pt_val (pe_c c__law_alike hr (by decide) (by rfl) (pa_cons (pe_thunk c__law_refused (lams_ok T xt) hr (by decide) (by rfl) (pa_cons (pe_lam1 TB rfl (lamT_mem PP) rfl (lamT_one PP) (NdefX.ndef_free (sc := defScope s_law) (fr := []) (by decide +kernel)) rfl rfl) pa_nil)) (pa_cons (pe_tup (pa_cons pe_str (pa_cons pe_int pa_nil))) pa_nil))))) (pss_one (ps_ret pe_bl)) pss_nil)
      (pss_cons (ps_set (i := 18) sc_law.nd rfl (.inr rfl) (pe_tup (pa_cons (pe_ix ix_tup (pv 2) pe_int (fun _ _ => rfl)) (pa_cons (pe_ix ix_tup (pv 2) pe_int (fun _ _ => rfl)) (pa_cons (pe_op op_repT (pe_tup (pa_cons (pe_tup (pa_cons pe_str pa_nil)) pa_nil)) pe_int) pa_nil)))))
      (pss_cons (ps_set (i := 19) sc_law.nd rfl (.inr rfl) (pe_op op_rep (pe_lst (pa_cons (pe_tup (pa_cons pe_int (pa_cons (pe_tup (pa_cons pe_str pa_nil)) pa_nil))) pa_nil)) pe_int))
      (pss_cons (ps_if (pt_not (pt_val (pe_c c__law_alike hr (by decide) (by rfl) (pa_cons (pe_thunk c__law_refused (lams_ok T xt) hr (by decide) (by rfl) (pa_cons (pe_lam1 TB rfl (lamT_mem PP) rfl (lamT_one PP) (NdefX.ndef_free (sc := defScope s_law) (fr := []) (by decide +kernel)) rfl rfl) pa_nil)) (pa_cons (pe_tup (pa_cons pe_str (pa_cons pe_int pa_nil))) pa_nil))))) (pss_one (ps_ret pe_bl)) pss_nil)
      (pss_one (ps_ret (pe_c c__law_alike hr (by decide) (by rfl) (pa_cons (pe_thunk c__law_refused (lams_ok T xt) hr (by decide) (by rfl) (pa_cons (pe_lam1 TB rfl (lamT_mem PP) rfl (lamT_one PP) (NdefX.ndef_free (sc := defScope s_law) (fr := []) (by decide +kernel)) rfl rfl) pa_nil)) (pa_cons (pe_tup (pa_cons pe_str (pa_cons pe_int pa_nil))) pa_nil))))))))))))))))))))))))))), ?_⟩
    have small : ∀ z : Int, z.natAbs < 512 → z.natAbs.log2 < 9000 := fun z hz => by
      have := Nat.log2_le_self z.natAbs
      omega
    walk_at "rd"
    refine ⟨a, ns, rfl, hS, fun b l H1 e1 nb nl hB => ?_⟩
    walk_at "rd"
    refine ⟨rfl, fun kl H2 nk e2 hk => ?_⟩
    walk_at "rd"
    have nkb := hB.new nk
    simp only [List.mem_cons, List.not_mem_nil, or_false, not_or] at nkb
    refine ⟨b, l, kl, 4, 10, kindsAll, rfl, hB.ex e2, hk, nkb.1, nkb.2, by decide, by decide, by decide, by decide, by decide, by decide, fun bd v H3 d3 hDr hv => ?_⟩
    have g := hDr.good
    have gr := g.raw
    have hfn := fault_none gr
    have hdl := hDr.deeds
    have hpl : bd.raw.prog.length = bd.prog.length := List.length_map _
    have nPb : PP ∉ [b, l] := fun z => by
      simp only [List.mem_cons, List.not_mem_nil, or_false] at z
      rcases z with z | z
      · rw [z] at hPP
        rw [hPP] at nb
        cases nb
      · rw [z] at hPP
        rw [hPP] at nl
        cases nl
    have hPP2 : H2 PP = some (.tbl #[]) := e2 _ _ (e1 _ _ hPP)
    walk_at "rd"
    refine st_ixT hv (Kp.refl _) (atI_nat (j := 2) rfl) fun vp hvp => ?_
    walk_at "rd"
    refine st_lenT hvp (Kp.refl _) ?_
    walk_at "rd"
    rw [List.length_map, hpl]
    refine st_newL (by simp) fun c1 H4 n4 e4 h4 => ?_
    walk_at "rd"
    refine ⟨b, l, 2, rfl, (d3.ex e4).2.2, by decide, by decide, fun r H5 d5 r0 r1 => ?_⟩
    have h45 := d5.1 _ _ h4 (d3.2.2.new n4)
    obtain ⟨j, rfl⟩ : ∃ j : Nat, r = (j : Int) := ⟨r.toNat, by omega⟩
    obtain ⟨m, hm, m1, m2⟩ : ∃ m : Nat, [V.int 13, V.int 31][j]? = some (.int (m : Int)) ∧ 1 ≤ m ∧ m ≤ 31 := by
      match j, r1 with
      | 0, _ => exact ⟨13, rfl, by decide, by decide⟩
      | 1, _ => exact ⟨31, rfl, by decide, by decide⟩
      | j + 2, h => omega
    walk_at "rd"
    refine st_ixL h45 (atI_nat (j := j) hm) ?_
    walk_at "rd"
    have D5 := (d3.ex e4).trans d5
    refine ⟨b, l, _, rfl, D5.2.2, by omega, small _ (by omega), fun r2 H6 d6 r20 r21 => ?_⟩
    obtain ⟨n, rfl⟩ : ∃ n : Nat, r2 = (n : Int) := ⟨r2.toNat, by omega⟩
    have D6 := D5.trans d6
    have hv6 : Im H6 (pyB bd.raw) v := (hv.ex e4).kp (d5.2.1.trans d6.2.1)
    walk_at "rd"
    refine st_lcRange (n := n) (by omega) fun D H7 nD e7 hD => ?_
    have nDb : D ∉ [b, l] := D6.2.2.new nD
    refine ⟨fun i H' => ∃ (fs : List TF) (xs : List V), fs.length = i ∧ (∀ f ∈ fs, fenceT bd f) ∧ Dr b l H6 H' ∧ H' D = some (.lst xs) ∧ ImL H' (pyTFs fs) xs,
      ⟨[], [], rfl, by simp, (Dr.start D6.2.2).ex e7, hD, iml_nil⟩, fun i H8 hi hp => ?_, fun H8 hp => ?_⟩
    · obtain ⟨fs, xs, h1, h2, h3, h5, h6⟩ := hp
      show gName _ _ _ _ _
      walk_at "rd"
      refine ⟨rfl, ?_⟩
      walk_at "rd"
      refine ⟨b, l, v, bd, rfl, h3.2.2, hv6.kp h3.2.1, g, fun t v2 H9 d9 ht hv2 => ?_⟩
      have h5' : H9 D = some (.lst xs) := d9.1 D _ h5 nDb
      refine st_lcPut h5' (by rw [h6.length, pyTFs_len]; omega) fun H10 f10 k10 h10 => ?_
      refine ⟨fs ++ [t], xs ++ [v2], by simp [h1], fun z hz => ?_, Dr.put D6.2.2 (h3.trans d9) nD f10 k10, h10, ?_⟩
      · rcases List.mem_append.mp hz with hz | hz
        · exact h2 z hz
        · rw [List.mem_singleton.mp hz]
          exact ht
      · unfold pyTFs
        rw [List.map_append, List.map_append]
        exact ((h6.kp d9.2.1).kp k10).append (iml_cons (hv2.kp k10) iml_nil)
    obtain ⟨fs, xs, hfl, hfT, D68, hD8, hxs⟩ := hp
    have hv8 := hv6.kp D68.2.1
    have D8 := D6.trans D68
    have hPP8 : H8 PP = some (.tbl #[]) := D8.1 _ _ hPP2 nPb
    walk_at "rd"
    refine st_listL hD8 fun hd H9 n9 e9 h9 => ?_
    walk_at "rd"
    refine st_newL (by simp) fun pl0 H10 n10 e10 h10 => ?_
    walk_at "rd"
    rw [show ((bd.prog.length : Int) + 1) = ((bd.prog.length + 1 : Nat) : Int) by omega]
    have E10 := e9.trans e10
    have hpys : ∀ i, i ≤ bd.prog.length + 1 → (putTo bd.raw.prog (fs.map TF.raw) i).length ≤ 1000 := fun i hi => by
      have h1 := putTo_len bd.raw.prog (fs.map TF.raw) i
      rw [List.length_map] at h1
      have : i * (fs.length + 1) ≤ 11 * 31 := Nat.mul_le_mul (by omega) (by omega)
      omega
    refine st_walkR (n := bd.prog.length + 1) (by omega) (fun i σ' H' => ∃ (pl : Addr) (ys : List V) (y8 : Option V), σ' = [some (.ref a), some (.ref b), some v, some (.int (bd.prog.length : Int)), some (.ref D), none, some (.ref hd), some (.ref pl), y8, none, none, none, none, none, none, none, none, none, none, none] ∧
      Ex H10 H' ∧ H' pl = some (.lst ys) ∧ ImL H' ((putTo bd.raw.prog (fs.map TF.raw) i).map pyDeed) ys) ⟨pl0, [], _, rfl, Ex.refl _, h10, iml_nil⟩ (fun i σ' H' hi p => ?_) (fun σ' H' p => ?_)
    · obtain ⟨pl, ys, y8, rfl, e, hpl', hys⟩ := p
      have E := E10.trans e
      walk_at "rd"
      refine st_atPlace (fs := fs.map TF.raw) (i := i) (E _ _ hD8) (hxs.ex E) (by rw [List.length_map]; omega) (fun _ _ => rfl) (fun _ _ => rfl) (fun _ _ => rfl) (fun _ _ => rfl) fun D1 H11 zs nD1 e11 hD1 hzs => ?_
      have hyl : ys.length ≤ 1000 := by rw [hys.length, List.length_map]; exact hpys i (by omega)
      have hzl : zs.length ≤ 100 := by
        rw [hzs.length, List.length_map]
        exact Nat.le_trans (atPlace_len _ _) (by rw [List.length_map]; omega)
      refine tx_cat (e11 _ _ hpl') hD1 (by omega) fun p1 H12 n12 e12 h12 => ?_
      walk_at "rd"
      have E12 := (E.trans e11).trans e12
      refine st_ixT hv8 E12.kp (atI_nat (j := 2) rfl) fun vp' hvp' => ?_
      walk_at "rd"
      refine st_slOne rfl hvp' (Kp.refl _) fun v4 H13 e13 i13 => ?_
      walk_at "rd"
      refine st_listT i13 (Kp.refl _) fun l5 xs5 H14 n14 e14 i14 h14 => ?_
      have hx5 : xs5.length ≤ 1 := by
        rw [i14.length]
        exact toList_len _
      refine tx_cat (e14 _ _ (e13 _ _ h12)) h14 (by rw [List.length_append]; omega) fun p2 H15 n15 e15 h15 => ?_
      walk_at "rd"
      have e12_15 := (e13.trans e14).trans e15
      refine ⟨p2, _, _, rfl, ((e.trans e11).trans e12).trans e12_15, h15, ?_⟩
      rw [putTo_succ, List.map_append, List.map_append]
      have hi0 : ImL H15 ((putTo bd.raw.prog (fs.map TF.raw) i).map pyDeed) ys := hys.ex ((e11.trans e12).trans e12_15)
      have hi1 : ImL H15 ((atPlace (fs.map TF.raw) i).map pyDeed) zs := hzs.ex (e12.trans e12_15)
      rw [opt_map, ← List.append_assoc]
      exact (hi0.append hi1).append (i14.ex e15)
    obtain ⟨pl, ys, y8, rfl, e, hpl', hys⟩ := p
    have E := E10.trans e
    walk_at "rd"
    refine st_ixT hv8 E.kp (atI_nat (j := 0) rfl) fun vm hvm => ?_
    walk_at "rd"
    refine st_ixT hv8 E.kp (atI_nat (j := 1) rfl) fun vo hvo => ?_
    walk_at "rd"
    refine st_tupL hpl' fun tp H11 n11 e11 h11 => ?_
    walk_at "rd"
    refine st_newT (by simp) fun wh H12 n12 e12 h12 => ?_
    walk_at "rd"
    have e1112 := e11.trans e12
    have E12 := E.trans e1112
    have hput : putTo bd.raw.prog (fs.map TF.raw) (bd.prog.length + 1) = putIn bd.raw.prog (fs.map TF.raw) := by
      unfold putIn
      rw [hpl]
    rw [hput] at hys
    have hwh : Im H12 (pyB (foundOf bd.raw (fs.map TF.raw))) (.ref wh) := im_tup h12 (iml_cons (hvm.ex e1112) (iml_cons (hvo.ex e1112) (iml_cons ((im_tup h11 (hys.ex e11)).ex e12) iml_nil)))
    have hrl : (fs.map TF.raw).length ≤ 30 := by rw [List.length_map]; omega
    have hok : ∀ f ∈ fs.map TF.raw, fenceOk bd.raw f = true := fun f hf => by
      obtain ⟨t, ht, rfl⟩ := List.mem_map.mp hf
      exact fenceT_raw (hfT t ht)
    have hfine := fences_fine hrl hok
    have gW := with_good g (fun f hf => (hfT f hf).2) (by omega)
    have hfound : foundOf bd.raw (fs.map TF.raw) = (withB bd fs).raw := with_raw bd fs
    have hff : boardFault (foundOf bd.raw (fs.map TF.raw)) = none := by
      rw [hfound]
      exact fault_none gW.raw
    have hol : bd.raw.ords.length ≤ 100 := Nat.le_trans gr.ords.1 (by decide)
    have h912 : Ex H9 H12 := (e10.trans e).trans e1112
    refine st_walkR (n := 2) (by decide) (fun i σ' H' => ∃ y5, σ' = [some (.ref a), some (.ref b), some v, some (.int (bd.prog.length : Int)), some (.ref D), y5, some (.ref hd), some (.ref pl), y8, none, none, some (.ref wh), none, none, none, none, none, none, none, none] ∧ Ex H12 H')
      ⟨_, rfl, Ex.refl _⟩ (fun i σ' H' hi p => ?_) (fun σ' H' p => ?_)
    · obtain ⟨y5, rfl, e'⟩ := p
      have E' := E12.trans e'
      walk_at "rd"
      refine ⟨v, bd.raw, hd, xs, fs.map TF.raw, rfl, hv8.ex E', e' _ _ (h912 _ _ h9), hxs.ex E', by omega, by omega, hol, hfn, ⟨fun n hn => absurd (hfine.symm.trans hn) (by simp), fun _ w n hn => absurd (hff.symm.trans hn) (by simp)⟩, fun _ _ v' H13 e13 hv' => ?_⟩
      walk_at "rd"
      refine ⟨v', .ref wh, pyB (foundOf bd.raw (fs.map TF.raw)), rfl, hv'.dp _ _, ((hwh.ex e').ex e13).dp _ _, by rw [hfound]; exact al_mono (n := 3) (by decide) (al_board (n := 0) gW), ?_⟩
      walk_at "rd"
      have E13 := E'.trans e13
      refine st_neD (lst_dp (e13 _ _ (e' _ _ (h912 _ _ h9))) (hxs.ex E13)) (lst_dp (E13 _ _ hD8) (hxs.ex E13)) (sh_fences fs).shaped (sh_fences fs).shaped ?_
      rw [eqv_same (sh_fences fs)]
      walk_at "rd"
      exact ⟨_, rfl, e'.trans e13⟩
    obtain ⟨y5, rfl, e'⟩ := p
    have E' := E12.trans e'
    have D8' := D8.ex E'
    walk_at "rd"
    refine st_I ⟨by decide, by decide, by decide⟩ ?_
    walk_at "rd"
    refine ⟨b, l, _, rfl, D8'.2.2, by decide +kernel, by decide +kernel, fun far H13 d13 far0 far1 => ?_⟩
    have D13 := D8'.trans d13
    have hv13 : Im H13 (pyB bd.raw) v := (hv8.ex E').kp d13.2.1
    have hml : (bd.raw.mem.length : Int) = (bd.mem.length : Int) := rfl
    have EC0 : Ex H13 H13 := Ex.refl _
    walk_at "rd"
    refine st_newT (by simp) fun ta1 Ha1 na1 ea1 ha1 => ?_
    walk_at "rd"
    refine st_newT (by simp) fun tb1 Hb1 nb1 eb1 hb1 => ?_
    have EC1 : Ex H13 Hb1 := EC0.trans (ea1.trans eb1)
    have i1 : Im Hb1 (pyF ((0, ("say" : Str), ([0] : List Int)) : RF)) (.ref tb1) := im_tup hb1 (iml_cons im_int (iml_cons (im_tup (eb1 _ _ ha1) (iml_cons im_str (iml_cons im_int iml_nil))) iml_nil))
    walk_at "rd"
    refine st_newT (by simp) fun ta2 Ha2 na2 ea2 ha2 => ?_
    walk_at "rd"
    refine st_newT (by simp) fun tb2 Hb2 nb2 eb2 hb2 => ?_
    have EC2 : Ex H13 Hb2 := EC1.trans (ea2.trans eb2)
    have i2 : Im Hb2 (pyF ((0, ("start" : Str), ([0] : List Int)) : RF)) (.ref tb2) := im_tup hb2 (iml_cons im_int (iml_cons (im_tup (eb2 _ _ ha2) (iml_cons im_str (iml_cons im_int iml_nil))) iml_nil))
    walk_at "rd"
    refine st_newT (by simp) fun ta3 Ha3 na3 ea3 ha3 => ?_
    walk_at "rd"
    refine st_newT (by simp) fun tb3 Hb3 nb3 eb3 hb3 => ?_
    have EC3 : Ex H13 Hb3 := EC2.trans (ea3.trans eb3)
    have i3 : Im Hb3 (pyF ((0, ("set" : Str), ([0, 1] : List Int)) : RF)) (.ref tb3) := im_tup hb3 (iml_cons im_int (iml_cons (im_tup (eb3 _ _ ha3) (iml_cons im_str (iml_cons im_int (iml_cons im_int iml_nil)))) iml_nil))
    walk_at "rd"
    refine ⟨_, rfl, ?_⟩
    walk_at "rd"
    refine st_newT (by simp) fun ta4 Ha4 na4 ea4 ha4 => ?_
    walk_at "rd"
    refine st_newT (by simp) fun tb4 Hb4 nb4 eb4 hb4 => ?_
    have EC4 : Ex H13 Hb4 := EC3.trans (ea4.trans eb4)
    have i4 : Im Hb4 (pyF ((-1, ("wait" : Str), ([] : List Int)) : RF)) (.ref tb4) := im_tup hb4 (iml_cons im_int (iml_cons (im_tup (eb4 _ _ ha4) (iml_cons im_str iml_nil)) iml_nil))
    walk_at "rd"
    refine ⟨_, rfl, ?_⟩
    walk_at "rd"
    refine st_newT (by simp) fun ta5 Ha5 na5 ea5 ha5 => ?_
    walk_at "rd"
    refine st_newT (by simp) fun tb5 Hb5 nb5 eb5 hb5 => ?_
    have EC5 : Ex H13 Hb5 := EC4.trans (ea5.trans eb5)
    have i5 : Im Hb5 (pyF ((0, ("drop" : Str), ([-1] : List Int)) : RF)) (.ref tb5) := im_tup hb5 (iml_cons im_int (iml_cons (im_tup (eb5 _ _ ha5) (iml_cons im_str (iml_cons im_int iml_nil))) iml_nil))
    walk_at "rd"
    refine st_newL (by simp) fun sl1 Hl1 nl1 el1 hl1 => ?_
    have x5 := el1
    have x4 := (ea5.trans eb5).trans x5
    have x3 := (ea4.trans eb4).trans x4
    have x2 := (ea3.trans eb3).trans x3
    have x1 := (ea2.trans eb2).trans x2
    have I1 := (iml_cons (i1.ex x1) (iml_cons (i2.ex x2) (iml_cons (i3.ex x3) (iml_cons (i4.ex x4) (iml_cons (i5.ex x5) iml_nil)))))
    have EL1 : Ex H13 Hl1 := EC5.trans el1
    have EC5c := EL1
    have EC5 := EC5c
    walk_at "rd"
    refine st_newT (by simp) fun ta6 Ha6 na6 ea6 ha6 => ?_
    walk_at "rd"
    refine st_newT (by simp) fun tb6 Hb6 nb6 eb6 hb6 => ?_
    have EC6 : Ex H13 Hb6 := EC5.trans (ea6.trans eb6)
    have i6 : Im Hb6 (pyF (((bd.prog.length : Int) + 1, ("wait" : Str), ([] : List Int)) : RF)) (.ref tb6) := im_tup hb6 (iml_cons im_int (iml_cons (im_tup (eb6 _ _ ha6) (iml_cons im_str iml_nil)) iml_nil))
    walk_at "rd"
    refine st_newT (by simp) fun ta7 Ha7 na7 ea7 ha7 => ?_
    walk_at "rd"
    refine st_newT (by simp) fun tb7 Hb7 nb7 eb7 hb7 => ?_
    have EC7 : Ex H13 Hb7 := EC6.trans (ea7.trans eb7)
    have i7 : Im Hb7 (pyF (((bd.prog.length : Int) + 1 + far, ("clean" : Str), ([0] : List Int)) : RF)) (.ref tb7) := im_tup hb7 (iml_cons im_int (iml_cons (im_tup (eb7 _ _ ha7) (iml_cons im_str (iml_cons im_int iml_nil))) iml_nil))
    walk_at "rd"
    refine st_ixT hv13 EC7.kp (atI_nat (j := 0) rfl) fun vq hvq => ?_
    walk_at "rd"
    refine st_lenT hvq (Kp.refl _) ?_
    walk_at "rd"
    rw [List.length_map, hml]
    refine st_newT (by simp) fun ta8 Ha8 na8 ea8 ha8 => ?_
    walk_at "rd"
    refine st_newT (by simp) fun tb8 Hb8 nb8 eb8 hb8 => ?_
    have EC8 : Ex H13 Hb8 := EC7.trans (ea8.trans eb8)
    have i8 : Im Hb8 (pyF ((0, ("clean" : Str), ([((bd.mem.length / 4 : Nat) : Int)] : List Int)) : RF)) (.ref tb8) := im_tup hb8 (iml_cons im_int (iml_cons (im_tup (eb8 _ _ ha8) (iml_cons im_str (iml_cons im_int iml_nil))) iml_nil))
    walk_at "rd"
    refine st_newL (by simp) fun sl2 Hl2 nl2 el2 hl2 => ?_
    have x8 := el2
    have x7 := (ea8.trans eb8).trans x8
    have x6 := (ea7.trans eb7).trans x7
    have I2 := (iml_cons (i6.ex x6) (iml_cons (i7.ex x7) (iml_cons (i8.ex x8) iml_nil)))
    have EL2 : Ex H13 Hl2 := EC8.trans el2
    have y2 : Ex Hl1 Hl2 := (ea6.trans eb6).trans x6
    refine tx_cat (y2 _ _ hl1) hl2 (show 5 + 3 ≤ 100000 by decide) fun sc2 Hc2 nc2 ec2 hc2 => ?_
    have J2 := (I1.ex (y2.trans ec2)).append (I2.ex ec2)
    have EC8c : Ex H13 Hc2 := EL2.trans ec2
    have EC8 := EC8c
    walk_at "rd"
    refine st_newT (by simp) fun ta9 Ha9 na9 ea9 ha9 => ?_
    walk_at "rd"
    refine st_newT (by simp) fun tb9 Hb9 nb9 eb9 hb9 => ?_
    have EC9 : Ex H13 Hb9 := EC8.trans (ea9.trans eb9)
    have i9 : Im Hb9 (pyF ((0, ("wait" : Str), ([0] : List Int)) : RF)) (.ref tb9) := im_tup hb9 (iml_cons im_int (iml_cons (im_tup (eb9 _ _ ha9) (iml_cons im_str (iml_cons im_int iml_nil))) iml_nil))
    walk_at "rd"
    refine st_newT (by simp) fun ta10 Ha10 na10 ea10 ha10 => ?_
    walk_at "rd"
    refine st_newT (by simp) fun tb10 Hb10 nb10 eb10 hb10 => ?_
    have EC10 : Ex H13 Hb10 := EC9.trans (ea10.trans eb10)
    have i10 : Im Hb10 (pyF ((0, ("clean" : Str), ([] : List Int)) : RF)) (.ref tb10) := im_tup hb10 (iml_cons im_int (iml_cons (im_tup (eb10 _ _ ha10) (iml_cons im_str iml_nil)) iml_nil))
    walk_at "rd"
    refine st_newT (by simp) fun ta11 Ha11 na11 ea11 ha11 => ?_
    walk_at "rd"
    refine st_newT (by simp) fun tb11 Hb11 nb11 eb11 hb11 => ?_
    have EC11 : Ex H13 Hb11 := EC10.trans (ea11.trans eb11)
    have i11 : Im Hb11 (pyF ((0, ("none" : Str), ([0] : List Int)) : RF)) (.ref tb11) := im_tup hb11 (iml_cons im_int (iml_cons (im_tup (eb11 _ _ ha11) (iml_cons im_str (iml_cons im_int iml_nil))) iml_nil))
    walk_at "rd"
    refine st_newL (by simp) fun sl3 Hl3 nl3 el3 hl3 => ?_
    have x11 := el3
    have x10 := (ea11.trans eb11).trans x11
    have x9 := (ea10.trans eb10).trans x10
    have I3 := (iml_cons (i9.ex x9) (iml_cons (i10.ex x10) (iml_cons (i11.ex x11) iml_nil)))
    have EL3 : Ex H13 Hl3 := EC11.trans el3
    have y3 : Ex Hc2 Hl3 := (ea9.trans eb9).trans x9
    refine tx_cat (y3 _ _ hc2) hl3 (show 8 + 3 ≤ 100000 by decide) fun sc3 Hc3 nc3 ec3 hc3 => ?_
    have J3 := (J2.ex (y3.trans ec3)).append (I3.ex ec3)
    have EC11c : Ex H13 Hc3 := EL3.trans ec3
    have EC11 := EC11c
    walk_at "rd"
    have hxl : xs.length = fs.length := by rw [hxs.length, pyTFs_len]
    have hD13 : H13 D = some (.lst xs) := d13.1 _ _ (E' _ _ hD8) (fun z => nDb z)
    have hxs13 : ImL H13 ((fs.map TF.raw).map pyF) xs := (hxs.ex E').kp d13.2.1
    have hsb : ∀ f ∈ someBad bd.prog.length (bd.mem.length / 4) far, fenceOk bd.raw f = false := by
      have := some_bad (b := bd.raw) far0
      rw [hpl] at this
      exact this
    have J3' : ImL Hc3 ((someBad bd.prog.length (bd.mem.length / 4) far).map pyF) _ := J3
    have DC := D13.ex EC11
    refine st_lenL (EC11 _ _ hD13) ?_
    walk_at "rd"
    refine ⟨b, l, _, rfl, DC.2.2, by omega, small _ (by omega), fun ra H14 d14 ra0 ra1 => ?_⟩
    obtain ⟨k, rfl⟩ : ∃ k : Nat, ra = (k : Int) := ⟨ra.toNat, by omega⟩
    have hk : k ≤ fs.length := by omega
    have D14 := DC.trans d14
    have hD14 : H14 D = some (.lst xs) := d14.1 _ _ (EC11 _ _ hD13) (fun z => nDb z)
    have hxs14 := (hxs13.ex EC11).kp d14.2.1
    have nsc : sc3 ∉ [b, l] := (D13.ex EL3).2.2.new nc3
    have hsc14 := d14.1 _ _ hc3 nsc
    have J14 := J3'.kp d14.2.1
    have hcut1 : cutV xs none (some (k : Int)) = xs.take k := cut_to (by omega)
    have hcut2 : cutV xs (some (k : Int)) none = xs.drop k := cut_from (by omega)
    walk_at "rd"
    refine st_slL hD14 hcut1 fun s1 H15 n15 e15 h15 => ?_
    walk_at "rd"
    refine ⟨b, l, 11, rfl, (D14.ex e15).2.2, by decide, by decide, fun rb H16 d16 rb0 rb1 => ?_⟩
    obtain ⟨j2, rfl⟩ : ∃ j2 : Nat, rb = (j2 : Int) := ⟨rb.toNat, by omega⟩
    have D16 := (D14.ex e15).trans d16
    have hD16 : H16 D = some (.lst xs) := d16.1 _ _ (e15 _ _ hD14) (fun z => nDb z)
    have h15' := d16.1 _ _ h15 (D14.2.2.new n15)
    have hsc16 := d16.1 _ _ (e15 _ _ hsc14) nsc
    have J16 := (J14.ex e15).kp d16.2.1
    have hxs16 := (hxs14.ex e15).kp d16.2.1
    generalize hvs : ([V.ref tb1, V.ref tb2, V.ref tb3, V.ref tb4, V.ref tb5] ++ [V.ref tb6, V.ref tb7, V.ref tb8] ++ [V.ref tb9, V.ref tb10, V.ref tb11] : List V) = vs11 at *
    have hvl : vs11.length = 11 := by rw [← hvs]; rfl
    have hvb : vs11[j2]? = some (vs11[j2]'(by omega)) := List.getElem?_eq_getElem (by omega)
    generalize vs11[j2]'(by omega) = vb at hvb
    obtain ⟨dd, gd1, gd2⟩ := J16.get' hvb
    obtain ⟨fb, gd3, rfl⟩ := map_at' gd1
    have hfb := hsb fb (List.mem_of_getElem? gd3)
    walk_at "rd"
    refine st_ixL hsc16 (atI_nat (j := j2) hvb) ?_
    walk_at "rd"
    refine st_newL (by simp) fun s2 H17 n17 e17 h17 => ?_
    refine tx_cat (e17 _ _ h15') h17 (by simp; omega) fun s3 H18 n18 e18 h18 => ?_
    walk_at "rd"
    refine st_slL (e18 _ _ (e17 _ _ hD16)) hcut2 fun s4 H19 n19 e19 h19 => ?_
    refine tx_cat (e19 _ _ h18) h19 (by simp; omega) fun s5 H20 n20 e20 h20 => ?_
    walk_at "rd"
    have e1620 := ((e17.trans e18).trans e19).trans e20
    have hb20 : ImL H20 (((fs.map TF.raw).take k ++ [fb] ++ (fs.map TF.raw).drop k).map pyF) (xs.take k ++ [vb] ++ xs.drop k) := by
      have hx := hxs16.ex e1620
      rw [List.map_append, List.map_append, List.map_take, List.map_drop]
      exact ((hx.take k).append (iml_cons (gd2.ex e1620) iml_nil)).append (hx.drop k)
    refine st_newT (by simp) fun ta Ha na ea ha => ?_
    walk_at "rd"
    refine st_newT (by simp) fun tb Hb nb' eb hb' => ?_
    walk_at "rd"
    refine st_newL (by simp) fun tl Ht nt et ht => ?_
    walk_at "rd"
    have E20t := (ea.trans eb).trans et
    have inone : Im Ht (pyF (((0 : Int), ("none" : Str), ([0] : List Int)) : RF)) (.ref tb) := (im_tup hb' (iml_cons im_int (iml_cons (im_tup (eb _ _ ha) (iml_cons im_str (iml_cons im_int iml_nil))) iml_nil))).ex et
    have D20 := (D16.ex e1620).ex E20t
    refine ⟨b, l, 2, rfl, D20.2.2, by decide, by decide, fun rm H21 d21 rm0 rm1 => ?_⟩
    obtain ⟨mm, rfl⟩ : ∃ mm : Nat, rm = (mm : Int) := ⟨rm.toNat, by omega⟩
    have D21 := D20.trans d21
    have h20' : H21 s5 = _ := d21.1 _ _ (E20t _ _ h20) (((D16.ex e17).ex e18).ex e19 |>.2.2.new n20)
    have ht' := d21.1 _ _ ht (((D16.ex e1620).ex ea).ex eb |>.2.2.new nt)
    walk_at "rd"
    refine st_repL ht' (inone.kp d21.2.1) (by omega) fun s6 H22 n22 e22 h22 i22 => ?_
    refine tx_cat (e22 _ _ h20') h22 (by simp; omega) fun lb H23 n23 e23 h23 => ?_
    walk_at "rd"
    obtain ⟨vbs, hlb, hbad⟩ : ∃ vbs, H23 lb = some (.lst vbs) ∧ ImL H23 ((badList (fs.map TF.raw) k fb mm).map pyF) vbs := ⟨_, h23, by
      have := (((hb20.ex E20t).kp d21.2.1).ex (e22.trans e23)).append (i22.ex e23)
      rw [show List.replicate mm (pyF (((0 : Int), ("none" : Str), ([0] : List Int)) : RF)) = (List.replicate mm ((((0 : Int), ("none" : Str), ([0] : List Int)) : RF))).map pyF from (List.map_replicate).symm, ← List.map_append] at this
      exact this⟩
    have hrk : k ≤ (fs.map TF.raw).length := by rw [List.length_map]; exact hk
    have hbl : (badList (fs.map TF.raw) k fb mm).length ≤ 100 := by rw [badList_len hrk]; omega
    have hbf := badList_first (b := bd.raw) (m := mm) hrk hrl hok hfb
    generalize badList (fs.map TF.raw) k fb mm = bads at *
    have D23 := D21.ex (e22.trans e23)
    have hPP23 : H23 PP = some (.tbl #[]) := D23.1 _ _ hPP2 nPb
    have hv23 : Im H23 (pyB bd.raw) v := hv13.kp ((((EC11.kp.trans d14.2.1).trans (e15.kp.trans d16.2.1)).trans (e1620.kp.trans E20t.kp)).trans (d21.2.1.trans (e22.trans e23).kp))
    refine ⟨tabs_nil hPP23, fun dV0 g0 c0 Ha0 Hb0 ea0 df0 new0 => ?_⟩
    walk_at "rd"
    refine ⟨new0.2.2.2.1, fun dV1 g1 c1' Ha1 Hb1 ea1 df1 new1 => ?_⟩
    walk_at "rd"
    refine st_newL (by simp) fun ll Hl nll ell hll => ?_
    walk_at "rd"
    have hT0 := tabs_nil hPP23
    have hTa0 := hT0.ext ea0
    have hTb0 := new0.2.2.2.1
    have hTa1 := hTb0.ext ea1
    have hTl := (new1.2.2.2.1).ext ell
    have L0b : LamAt Hb0 g0 _ _ [] := ⟨dV0, new0.2.2.2.2.2.1, df0.kp new0.2.1, new0.2.2.2.2.2.2⟩
    have L0l := ((L0b.ex ea1).keep hTa1 new1.1 new1.2.1).ex ell
    have L1b : LamAt Hb1 g1 _ _ [.int 0] := ⟨dV1, new1.2.2.2.2.2.1, df1.kp new1.2.1, new1.2.2.2.2.2.2⟩
    have L1l := L1b.ex ell
    have hlbl : Hl lb = some (.lst vbs) := ell _ _ (fr_tab hTa1 new1.1 (ea1 _ _ (fr_tab hTa0 new0.1 (ea0 _ _ hlb) (fun ps z => by cases z))) (fun ps z => by cases z))
    have k23l : Kp H23 Hl := ((ea0.kp.trans new0.2.1).trans (ea1.kp.trans new1.2.1)).trans ell.kp
    have hbadl := hbad.kp k23l
    have hvl' := hv23.kp k23l
    have hBl : BoxAt Hl b l := (box_tab hTa1 new1.1 ((box_tab hTa0 new0.1 (D23.2.2.ex ea0)).ex ea1)).ex ell
    have okF : PyData.strOk "BadFence" = true := by decide +kernel
    have okB : PyData.strOk "BadBoard" = true := by decide +kernel
    have alF : ∀ n : Int, Al 11 (.tuple [.str "BadFence", .int n]) := fun n => al_tup (by simp) fun e he => by
      simp only [List.mem_cons, List.not_mem_nil, or_false] at he
      rcases he with rfl | rfl
      · exact al_str okF
      · exact al_int
    have alB : ∀ n : Int, Al 11 (.tuple [.str "BadBoard", .int n]) := fun n => al_tup (by simp) fun e he => by
      simp only [List.mem_cons, List.not_mem_nil, or_false] at he
      rcases he with rfl | rfl
      · exact al_str okB
      · exact al_int
    refine st_walkL hll (fun i σ' H' => ∃ y16, σ' = [some (.ref a), some (.ref b), some v, some (.int (bd.prog.length : Int)), some (.ref D), y5, some (.ref hd), some (.ref pl), y8, none, none, some (.ref wh), some (.int far), some (.ref sc3), some (.int (k : Int)), some (.ref lb), y16, none, none, none] ∧ Ex Hl H')
      ⟨_, rfl, Ex.refl _⟩ (fun i σ' H' p => ?_) (fun i w' σ' H' hw p => ?_) (fun σ' H' p => ?_)
    · obtain ⟨_, _, e⟩ := p
      exact e _ _ hll
    · obtain ⟨y16, rfl, e⟩ := p
      walk_at "rd"
      refine st_thunk ?_
      walk_at "rd"
      match i, hw with
      | 0, hw =>
        obtain rfl : V.ref g0 = w' := Option.some.inj hw
        refine ⟨g0, _, c0, rfl, List.mem_cons_self, L0l.ex e, fun Qn E hE hN => ?_⟩
        refine ⟨v, .ref lb, rfl, v, bd.raw, lb, vbs, bads, rfl, hvl'.ex e, e _ _ hlbl, hbadl.ex e, hbl, by omega, hol, hfn, ⟨fun n hn d H3 e3 hd => hE _ _ _ ⟨d, rfl, .inl ⟨n, rfl, hd, fun t H4 e4 ht => ?_⟩⟩, fun hn => absurd (hbf.symm.trans hn) (by simp)⟩, fun hn => absurd (hbf.symm.trans hn) (by simp)⟩
        obtain rfl : k = n := Option.some.inj (hbf.symm.trans hn)
        walk_at "rd"
        refine st_newT (by simp) fun t2 H5 n5 e5 h5 => ?_
        refine ⟨.ref t, .ref t2, .tuple [.str "BadFence", .int (k : Int)], rfl, (im_tup (e5 _ _ ht) (iml_cons im_str (iml_cons im_int iml_nil))).dp _ _, (im_tup h5 (iml_cons im_str (iml_cons im_int iml_nil))).dp _ _, alF _, ?_⟩
        walk_at "rd"
        exact ⟨_, rfl, ((e.trans e3).trans e4).trans e5⟩
      | 1, hw =>
        obtain rfl : V.ref g1 = w' := Option.some.inj hw
        refine ⟨g1, _, c1', rfl, List.mem_cons_of_mem _ List.mem_cons_self, L1l.ex e, fun Qn E hE hN => ?_⟩
        refine ⟨v, .ref lb, rfl, v, bd.raw, lb, vbs, bads, rfl, hvl'.ex e, e _ _ hlbl, hbadl.ex e, hbl, by omega, hol, hfn, ⟨fun n hn d H3 e3 hd => hE _ _ _ ⟨d, rfl, .inl ⟨n, rfl, hd, fun t H4 e4 ht => ?_⟩⟩, fun hn => absurd (hbf.symm.trans hn) (by simp)⟩, fun hn => absurd (hbf.symm.trans hn) (by simp)⟩
        obtain rfl : k = n := Option.some.inj (hbf.symm.trans hn)
        walk_at "rd"
        refine st_newT (by simp) fun t2 H5 n5 e5 h5 => ?_
        refine ⟨.ref t, .ref t2, .tuple [.str "BadFence", .int (k : Int)], rfl, (im_tup (e5 _ _ ht) (iml_cons im_str (iml_cons im_int iml_nil))).dp _ _, (im_tup h5 (iml_cons im_str (iml_cons im_int iml_nil))).dp _ _, alF _, ?_⟩
        walk_at "rd"
        exact ⟨_, rfl, ((e.trans e3).trans e4).trans e5⟩
      | i + 2, hw => simp at hw
    obtain ⟨y16, rfl, e⟩ := p
    have hB24 := hBl.ex e
    have hT24 := hTl.ext e
    have hv24 := hvl'.ex e
    walk_at "rd"
    have d2l : ∀ {H1 H2 : Hp}, NdefX.TabsN (lamT PP) H1 → BoxAt H1 b l → Dr b l H1 H2 → NdefX.TabsN (lamT PP) H2 := fun {H1 H2} hT hB d p hp => by
      rw [List.mem_singleton.mp hp]
      obtain ⟨ps, hP, h2, h3⟩ := (show NdefX.TabN H1 PP nmL from hT _ (lamT_mem PP))
      refine ⟨ps, d.1 _ _ hP nPb, h2, fun pos cv hc => ?_⟩
      obtain ⟨c9, e9, h9⟩ := h3 pos cv hc
      refine ⟨c9, e9, d.1 _ _ h9 (fun z => ?_)⟩
      obtain ⟨⟨_, hb9, _⟩, ⟨_, hl9⟩⟩ := hB
      simp only [List.mem_cons, List.not_mem_nil, or_false] at z
      rcases z with z | z
      · rw [z, hb9] at h9
        unfold LamX.CodeO at h9
        cases h9
      · rw [z, hl9] at h9
        unfold LamX.CodeO at h9
        cases h9
    refine st_newT (by simp) fun t1 W1 w1 we1 wh1 => ?_
    walk_at "rd"
    refine st_newT (by simp) fun t2 W2 w2 we2 wh2 => ?_
    walk_at "rd"
    refine st_newL (by simp) fun t3 W3 w3 we3 wh3 => ?_
    walk_at "rd"
    have eW3 := (we1.trans we2).trans we3
    have iw : Im W3 (pyF ((((bd.prog.length : Nat) : Int), ("wait" : Str), ([] : List Int)) : RF)) (.ref t2) := (im_tup wh2 (iml_cons im_int (iml_cons (im_tup (we2 _ _ wh1) (iml_cons im_str iml_nil)) iml_nil))).ex we3
    refine ⟨b, l, 3, rfl, hB24.ex eW3, by decide, by decide, fun rw3 W4 dw4 rw30 rw31 => ?_⟩
    obtain ⟨nw, rfl⟩ : ∃ nw : Nat, rw3 = (nw : Int) := ⟨rw3.toNat, by omega⟩
    walk_at "rd"
    rw [show ((31 : Int) + (nw : Int)) = ((31 + nw : Nat) : Int) by omega]
    refine st_repL (dw4.1 _ _ wh3 ((hB24.ex we1).ex we2 |>.new w3)) (iw.kp dw4.2.1) (by omega) fun lw W5 w5 we5 wh5 wi5 => ?_
    walk_at "rd"
    have hT5 := (d2l (hT24.ext eW3) (hB24.ex eW3) dw4).ext we5
    have hv5 := (hv24.kp (eW3.kp.trans dw4.2.1)).ex we5
    have wi5' : ImL W5 ((List.replicate (31 + nw) ((((bd.prog.length : Nat) : Int), ("wait" : Str), ([] : List Int)) : RF)).map pyF) (List.replicate (31 + nw) (.ref t2)) := by rw [List.map_replicate]; exact wi5
    have hwok : fenceOk bd.raw ((((bd.prog.length : Nat) : Int), ("wait" : Str), ([] : List Int)) : RF) = true := by
      have := fenceT_raw (b := bd) (f := (bd.prog.length, Deed.wait)) ⟨Nat.le_refl _, .inl rfl⟩
      exact this
    have hwf := fences_many (b := bd.raw) (n := 31 + nw) (by omega) hwok
    have hwl : (List.replicate (31 + nw) ((((bd.prog.length : Nat) : Int), ("wait" : Str), ([] : List Int)) : RF)).length ≤ 100 := by rw [List.length_replicate]; omega
    generalize (List.replicate (31 + nw) ((((bd.prog.length : Nat) : Int), ("wait" : Str), ([] : List Int)) : RF)) = wides at *
    refine st_thunk ?_
    refine ⟨hT5, fun dV2 g2 c2 Ha2 Hb2 ea2 df2 new2 => ?_⟩
    walk_at "rd"
    have hTa2 := hT5.ext ea2
    have hTb2 := new2.2.2.2.1
    have L2b : LamAt Hb2 g2 _ _ [.int 0] := ⟨dV2, new2.2.2.2.2.2.1, df2.kp new2.2.1, new2.2.2.2.2.2.2⟩
    have hlw2 := fr_tab hTa2 new2.1 (ea2 _ _ wh5) (fun ps z => by cases z)
    have k2 : Kp W5 Hb2 := ea2.kp.trans new2.2.1
    refine ⟨g2, _, c2, rfl, List.mem_cons_of_mem _ (List.mem_cons_of_mem _ List.mem_cons_self), L2b, fun Qn E hE hN => ?_⟩
    refine ⟨v, .ref lw, rfl, v, bd.raw, lw, _, wides, rfl, hv5.kp k2, hlw2, wi5'.kp k2, hwl, by omega, hol, hfn, ⟨fun n hn d X3 x3 hd => hE _ _ _ ⟨d, rfl, .inl ⟨n, rfl, hd, fun t X4 x4 ht => ?_⟩⟩, fun hn => absurd (hwf.symm.trans hn) (by simp)⟩, fun hn => absurd (hwf.symm.trans hn) (by simp)⟩
    obtain rfl : 30 = n := Option.some.inj (hwf.symm.trans hn)
    walk_at "rd"
    refine st_newT (by simp) fun t5 X5 xn5 x5 xh5 => ?_
    refine ⟨.ref t, .ref t5, .tuple [.str "BadFence", .int 30], rfl, (im_tup (x5 _ _ ht) (iml_cons im_str (iml_cons im_int iml_nil))).dp _ _, (im_tup xh5 (iml_cons im_str (iml_cons im_int iml_nil))).dp _ _, alF _, ?_⟩
    have X35 := (x3.trans x4).trans x5
    have hTx := hTb2.ext X35
    have hvx := (hv5.kp k2).ex X35
    walk_at "rd"
    refine st_ixT hvx (Kp.refl _) (atI_nat (j := 0) rfl) fun vm2 hvm2 => ?_
    walk_at "rd"
    refine st_ixT hvx (Kp.refl _) (atI_nat (j := 1) rfl) fun vo2 hvo2 => ?_
    walk_at "rd"
    refine st_newT (by simp) fun u1 Y1 yn1 y1 yh1 => ?_
    walk_at "rd"
    refine st_newT (by simp) fun u2 Y2 yn2 y2 yh2 => ?_
    walk_at "rd"
    refine st_repOne (k := 55) (d := pyDeed Deed.wait.raw) yh2 (im_tup (y2 _ _ yh1) (iml_cons im_str iml_nil)) (by decide) (by decide) fun vr Y3 y3 ivr => ?_
    walk_at "rd"
    refine st_newT (by simp) fun lg Y4 yn4 y4 yh4 => ?_
    walk_at "rd"
    have y14 := ((y1.trans y2).trans y3).trans y4
    have ivr' : Im Y3 (.tuple ((List.replicate 55 ((("wait" : Str), []) : RDeed)).map pyDeed)) vr := by rw [List.map_replicate]; exact ivr
    have hlong : Im Y4 (pyB (longB bd.raw)) (.ref lg) := im_tup yh4 (iml_cons (hvm2.ex y14) (iml_cons (hvo2.ex y14) (iml_cons (ivr'.ex y4) iml_nil)))
    refine st_newT (by simp) fun z1 Z1 zn1 ze1 zh1 => ?_
    walk_at "rd"
    refine st_newT (by simp) fun z2 Z2 zn2 ze2 zh2 => ?_
    walk_at "rd"
    refine st_newL (by simp) fun z3 Z3 zn3 ze3 zh3 => ?_
    walk_at "rd"
    have iz : Im Z3 (pyF (((0 : Int), ("wait" : Str), ([] : List Int)) : RF)) (.ref z2) := (im_tup zh2 (iml_cons im_int (iml_cons (im_tup (ze2 _ _ zh1) (iml_cons im_str iml_nil)) iml_nil))).ex ze3
    refine st_repL (n := 6) zh3 iz (by decide) fun sx Z4 zn4 ze4 zh4 zi4 => ?_
    walk_at "rd"
    have eYZ := ((ze1.trans ze2).trans ze3).trans ze4
    have hlongZ := hlong.ex eYZ
    have hsix : ImL Z4 (six.map pyF) (List.replicate 6 (.ref z2)) := by
      unfold six
      rw [List.map_replicate]
      exact zi4
    have hTs := (hTx.ext y14).ext eYZ
    have hsf : firstBad six.length (fBad (longB bd.raw) six) = none := fences_fine (by decide) (six_ok _)
    have hlf : boardFault (foundOf (longB bd.raw) six) = some (("program" : Str), 60) := long_fault (b := bd.raw) gr
    have hl55 : (longB bd.raw).prog.length ≤ 100 := by
      show (List.replicate 55 (((("wait" : Str), []) : RDeed))).length ≤ 100
      rw [List.length_replicate]
      decide
    have hlfn := fault_none (long_good gr)
    refine st_thunk ?_
    refine ⟨hTs, fun dV3 g3 c3 Ha3 Hb3 ea3 df3 new3 => ?_⟩
    walk_at "rd"
    have hTa3 := (hTs).ext ea3
    have hTb3 := new3.2.2.2.1
    have L3b : LamAt Hb3 g3 _ _ [.int 0] := ⟨dV3, new3.2.2.2.2.2.1, df3.kp new3.2.1, new3.2.2.2.2.2.2⟩
    have k3 : Kp Z4 Hb3 := ea3.kp.trans new3.2.1
    have hsx3 := fr_tab hTa3 new3.1 (ea3 _ _ zh4) (fun ps z => by cases z)
    refine ⟨g3, _, c3, rfl, List.mem_cons_of_mem _ (List.mem_cons_of_mem _ (List.mem_cons_of_mem _ List.mem_cons_self)), L3b, fun Qn E hE hN => ?_⟩
    refine ⟨.ref lg, .ref sx, rfl, .ref lg, longB bd.raw, sx, _, six, rfl, hlongZ.kp k3, hsx3, hsix.kp k3, by decide, hl55, hol, hlfn, ⟨fun n hn => absurd (hsf.symm.trans hn) (by simp), fun _ w' n hn d X6 x6 hd => hE _ _ _ ⟨d, rfl, .inr ⟨n, w', rfl, hd, fun t X7 x7 ht => ?_⟩⟩⟩, fun _ hn => absurd (hlf.symm.trans hn) (by simp)⟩
    obtain ⟨rfl, rfl⟩ := Prod.mk.inj (Option.some.inj (hlf.symm.trans hn))
    walk_at "rd"
    refine st_newT (by simp) fun t8 X8 xn8 x8 xh8 => ?_
    refine ⟨.ref t, .ref t8, .tuple [.str "BadBoard", .int 60], rfl, (im_tup (x8 _ _ ht) (iml_cons im_str (iml_cons im_int iml_nil))).dp _ _, (im_tup xh8 (iml_cons im_str (iml_cons im_int iml_nil))).dp _ _, alB _, ?_⟩
    walk_at "rd"
    have X68 := (x6.trans x7).trans x8
    have hTz := hTb3.ext X68
    refine st_thunk ?_
    refine ⟨hTz, fun dV4 g4 c4 Ha4 Hb4 ea4 df4 new4 => ?_⟩
    walk_at "rd"
    have hTa4 := (hTz).ext ea4
    have hTb4 := new4.2.2.2.1
    have L4b : LamAt Hb4 g4 _ _ [.int 0] := ⟨dV4, new4.2.2.2.2.2.1, df4.kp new4.2.1, new4.2.2.2.2.2.2⟩
    have k4 : Kp X8 Hb4 := ea4.kp.trans new4.2.1
    have hsx4 := fr_tab hTa4 new4.1 (ea4 _ _ (X68 _ _ hsx3)) (fun ps z => by cases z)
    refine ⟨g4, _, c4, rfl, List.mem_cons_of_mem _ (List.mem_cons_of_mem _ (List.mem_cons_of_mem _ (List.mem_cons_of_mem _ List.mem_cons_self))), L4b, fun Qn E hE hN => ?_⟩
    refine ⟨.ref lg, .ref sx, rfl, .ref lg, longB bd.raw, sx, _, six, rfl, ((hlongZ.kp k3).ex X68).kp k4, hsx4, ((hsix.kp k3).ex X68).kp k4, by decide, hl55, hol, hlfn, ⟨fun n hn => absurd (hsf.symm.trans hn) (by simp), fun _ w' n hn d X9 x9 hd => hE _ _ _ ⟨d, rfl, .inr ⟨n, w', rfl, hd, fun t2 X10 x10 ht2 => ?_⟩⟩⟩, fun _ hn => absurd (hlf.symm.trans hn) (by simp)⟩
    obtain ⟨rfl, rfl⟩ := Prod.mk.inj (Option.some.inj (hlf.symm.trans hn))
    walk_at "rd"
    refine st_newT (by simp) fun t11 X11 xn11 x11 xh11 => ?_
    refine ⟨.ref t2, .ref t11, .tuple [.str "BadBoard", .int 60], rfl, (im_tup (x11 _ _ ht2) (iml_cons im_str (iml_cons im_int iml_nil))).dp _ _, (im_tup xh11 (iml_cons im_str (iml_cons im_int iml_nil))).dp _ _, alB _, ?_⟩
    exact q _
end BC
namespace BC
open PySem PySem.Spec PyProof.Rows L2
theorem all_mk {l : PySem.W.OpenLaw} {w : World} {K : PySem.W.Frag} {h : Heap} {mg : Str → Option Value} {fa : Addr} (X : K.In h) (G : h.Ns mainGlobals mg) (hfa : mg "law" = some (.ref fa))
    {Z_CarrierError : Addr}
    {Z_BadBoard : Addr}
    {Z_BadFence : Addr}
    {Z_NotSure : Addr}
    {Z_BadCount : Addr}
    {Z_BadText : Addr}
    {t_WIDE : Tok}
    {t_MOST_LINES : Tok}
    {t_MOST_DIGIT : Tok}
    {t_MOST_ORDERS : Tok}
    {t_MOST_CELLS : Tok}
    {t_MOST_DEEDS : Tok}
    {t_MOST_STARTS : Tok}
    {t_MOST_FENCES : Tok}
    {a_FENCES : Addr} {od_FENCES : Option Addr} {ar_FENCES : Array Value} {nn_FENCES : Nat} {sl_FENCES : Array (Option Value)}
    {f_is_from : Addr} {od_is_from an_is_from : Option Addr} {sl_is_from : Array (Option Value)} {oc_is_from kV_is_from dc_is_from pm_is_from cd_is_from ct_is_from : Value}
    {f_lines_in : Addr} {od_lines_in an_lines_in : Option Addr} {sl_lines_in : Array (Option Value)} {oc_lines_in kV_lines_in dc_lines_in pm_lines_in cd_lines_in ct_lines_in : Value}
    {f_memory_fault : Addr} {od_memory_fault an_memory_fault : Option Addr} {sl_memory_fault : Array (Option Value)} {oc_memory_fault kV_memory_fault dc_memory_fault pm_memory_fault cd_memory_fault ct_memory_fault : Value}
    {f_is_order : Addr} {od_is_order an_is_order : Option Addr} {sl_is_order : Array (Option Value)} {oc_is_order kV_is_order dc_is_order pm_is_order cd_is_order ct_is_order : Value}
    {f_is_deed : Addr} {od_is_deed an_is_deed : Option Addr} {sl_is_deed : Array (Option Value)} {oc_is_deed kV_is_deed dc_is_deed pm_is_deed cd_is_deed ct_is_deed : Value}
    {f_check_board : Addr} {od_check_board an_check_board : Option Addr} {sl_check_board : Array (Option Value)} {oc_check_board kV_check_board dc_check_board pm_check_board cd_check_board ct_check_board : Value}
    {f_check_fences : Addr} {od_check_fences an_check_fences : Option Addr} {sl_check_fences : Array (Option Value)} {oc_check_fences kV_check_fences dc_check_fences pm_check_fences cd_check_fences ct_check_fences : Value}
    {f_put_in : Addr} {od_put_in an_put_in : Option Addr} {sl_put_in : Array (Option Value)} {oc_put_in kV_put_in dc_put_in pm_put_in cd_put_in ct_put_in : Value}
    {f_fenced : Addr} {od_fenced an_fenced : Option Addr} {sl_fenced : Array (Option Value)} {oc_fenced kV_fenced dc_fenced pm_fenced cd_fenced ct_fenced : Value}
    {f_is_sure : Addr} {od_is_sure an_is_sure : Option Addr} {sl_is_sure : Array (Option Value)} {oc_is_sure kV_is_sure dc_is_sure pm_is_sure cd_is_sure ct_is_sure : Value}
    {f_spare : Addr} {od_spare an_spare : Option Addr} {sl_spare : Array (Option Value)} {oc_spare kV_spare dc_spare pm_spare cd_spare ct_spare : Value}
    {f__law_begun : Addr} {od__law_begun an__law_begun : Option Addr} {sl__law_begun : Array (Option Value)} {oc__law_begun kV__law_begun dc__law_begun pm__law_begun cd__law_begun ct__law_begun : Value}
    {f__law_take : Addr} {od__law_take an__law_take : Option Addr} {sl__law_take : Array (Option Value)} {oc__law_take kV__law_take dc__law_take pm__law_take cd__law_take ct__law_take : Value}
    {f__law_alike : Addr} {od__law_alike an__law_alike : Option Addr} {sl__law_alike : Array (Option Value)} {oc__law_alike kV__law_alike dc__law_alike pm__law_alike cd__law_alike ct__law_alike : Value}
    {f__law_class : Addr} {od__law_class an__law_class : Option Addr} {sl__law_class : Array (Option Value)} {oc__law_class kV__law_class dc__law_class pm__law_class cd__law_class ct__law_class : Value}
    {f__law_order : Addr} {od__law_order an__law_order : Option Addr} {sl__law_order : Array (Option Value)} {oc__law_order kV__law_order dc__law_order pm__law_order cd__law_order ct__law_order : Value}
    {f__law_deed : Addr} {od__law_deed an__law_deed : Option Addr} {sl__law_deed : Array (Option Value)} {oc__law_deed kV__law_deed dc__law_deed pm__law_deed cd__law_deed ct__law_deed : Value}
    {f__law_board : Addr} {od__law_board an__law_board : Option Addr} {sl__law_board : Array (Option Value)} {oc__law_board kV__law_board dc__law_board pm__law_board cd__law_board ct__law_board : Value}
    {f__law_fence : Addr} {od__law_fence an__law_fence : Option Addr} {sl__law_fence : Array (Option Value)} {oc__law_fence kV__law_fence dc__law_fence pm__law_fence cd__law_fence ct__law_fence : Value}
    {f__law_refused : Addr} {od__law_refused an__law_refused : Option Addr} {sl__law_refused : Array (Option Value)} {oc__law_refused kV__law_refused dc__law_refused pm__law_refused cd__law_refused ct__law_refused : Value}
    {f__law_kinds : Addr} {od__law_kinds an__law_kinds : Option Addr} {sl__law_kinds : Array (Option Value)} {oc__law_kinds kV__law_kinds dc__law_kinds pm__law_kinds cd__law_kinds ct__law_kinds : Value}
    {f_law : Addr} {od_law an_law : Option Addr} {sl_law : Array (Option Value)} {oc_law kV_law dc_law pm_law cd_law ct_law : Value}
    {nmx_BadBoard qx_BadBoard : Str} {Nx_BadBoard : Addr} {bsx_BadBoard bmx_BadBoard : List Value} {snx_BadBoard : List Str} {subx_BadBoard : List Value} {abx_BadBoard : Bool} {colx_BadBoard : Option Bool} {ddx_BadBoard : Option Addr} {k0x_BadBoard k1x_BadBoard k2x_BadBoard k3x_BadBoard k5x_BadBoard : Option Value}
    {f_BadBoard___init__ : Addr} {od_BadBoard___init__ an_BadBoard___init__ : Option Addr} {sl_BadBoard___init__ : Array (Option Value)} {oc_BadBoard___init__ kV_BadBoard___init__ dc_BadBoard___init__ pm_BadBoard___init__ cd_BadBoard___init__ ct_BadBoard___init__ : Value}
    {nmx_BadFence qx_BadFence : Str} {Nx_BadFence : Addr} {bsx_BadFence bmx_BadFence : List Value} {snx_BadFence : List Str} {subx_BadFence : List Value} {abx_BadFence : Bool} {colx_BadFence : Option Bool} {ddx_BadFence : Option Addr} {k0x_BadFence k1x_BadFence k2x_BadFence k3x_BadFence k5x_BadFence : Option Value}
    {f_BadFence___init__ : Addr} {od_BadFence___init__ an_BadFence___init__ : Option Addr} {sl_BadFence___init__ : Array (Option Value)} {oc_BadFence___init__ kV_BadFence___init__ dc_BadFence___init__ pm_BadFence___init__ cd_BadFence___init__ ct_BadFence___init__ : Value}
    {cc_law PP_law : Addr}
    (ax_CarrierError : PySem.W.nsIn K mainGlobals "CarrierError" = some (some (.ref Z_CarrierError)))
    (ax_BadBoard : PySem.W.nsIn K mainGlobals "BadBoard" = some (some (.ref Z_BadBoard)))
    (ax_BadFence : PySem.W.nsIn K mainGlobals "BadFence" = some (some (.ref Z_BadFence)))
    (ax_NotSure : PySem.W.nsIn K mainGlobals "NotSure" = some (some (.ref Z_NotSure)))
    (ax_BadCount : PySem.W.nsIn K mainGlobals "BadCount" = some (some (.ref Z_BadCount)))
    (ax_BadText : PySem.W.nsIn K mainGlobals "BadText" = some (some (.ref Z_BadText)))
    (z_len : PySem.W.nsIn K mainGlobals "len" = some none)
    (z_range : PySem.W.nsIn K mainGlobals "range" = some none)
    (z_min : PySem.W.nsIn K mainGlobals "min" = some none)
    (z_int : PySem.W.nsIn K mainGlobals "int" = some none)
    (z_list : PySem.W.nsIn K mainGlobals "list" = some none)
    (z_tuple : PySem.W.nsIn K mainGlobals "tuple" = some none)
    (z_sorted : PySem.W.nsIn K mainGlobals "sorted" = some none)
    (z_enumerate : PySem.W.nsIn K mainGlobals "enumerate" = some none)
    (z_isinstance : PySem.W.nsIn K mainGlobals "isinstance" = some none)
    (z_bool : PySem.W.nsIn K mainGlobals "bool" = some none)
    (z_str : PySem.W.nsIn K mainGlobals "str" = some none)
    (z_ValueError : PySem.W.nsIn K mainGlobals "ValueError" = some none)
    (v_WIDE : PySem.W.nsIn K mainGlobals "WIDE" = some (some (.int 4 t_WIDE)))
    (v_MOST_LINES : PySem.W.nsIn K mainGlobals "MOST_LINES" = some (some (.int 4 t_MOST_LINES)))
    (v_MOST_DIGIT : PySem.W.nsIn K mainGlobals "MOST_DIGIT" = some (some (.int 9 t_MOST_DIGIT)))
    (v_MOST_ORDERS : PySem.W.nsIn K mainGlobals "MOST_ORDERS" = some (some (.int 4 t_MOST_ORDERS)))
    (v_MOST_CELLS : PySem.W.nsIn K mainGlobals "MOST_CELLS" = some (some (.int 8 t_MOST_CELLS)))
    (v_MOST_DEEDS : PySem.W.nsIn K mainGlobals "MOST_DEEDS" = some (some (.int 60 t_MOST_DEEDS)))
    (v_MOST_STARTS : PySem.W.nsIn K mainGlobals "MOST_STARTS" = some (some (.int 3 t_MOST_STARTS)))
    (v_MOST_FENCES : PySem.W.nsIn K mainGlobals "MOST_FENCES" = some (some (.int 30 t_MOST_FENCES)))
    (v_FENCES : PySem.W.nsIn K mainGlobals "FENCES" = some (some (.ref a_FENCES)))
    (l_FENCES : K.lookup a_FENCES = some ⟨.type "tuple", od_FENCES, .seq ar_FENCES nn_FENCES, sl_FENCES⟩)
    (w_FENCES : L2.Vals [.str "wait", .str "clean", .str "drop"] ar_FENCES.toList)
    (a_is_from : PySem.W.nsIn K mainGlobals "is_from" = some (some (.ref f_is_from)))
    (l_is_from : K.lookup f_is_from = some ⟨oc_is_from, od_is_from, .func (PySem.W.fnOf "is_from" "is_from" (defArgs s_is_from) (defBody s_is_from) (defScope s_is_from) .none kV_is_from dc_is_from pm_is_from an_is_from cd_is_from ct_is_from), sl_is_from⟩)
    (c_is_from : PySem.W.codeIn K cd_is_from "is_from" = true)
    (k_is_from : PySem.W.keepIn K (.ref f_is_from) = true)
    (a_lines_in : PySem.W.nsIn K mainGlobals "lines_in" = some (some (.ref f_lines_in)))
    (l_lines_in : K.lookup f_lines_in = some ⟨oc_lines_in, od_lines_in, .func (PySem.W.fnOf "lines_in" "lines_in" (defArgs s_lines_in) (defBody s_lines_in) (defScope s_lines_in) .none kV_lines_in dc_lines_in pm_lines_in an_lines_in cd_lines_in ct_lines_in), sl_lines_in⟩)
    (c_lines_in : PySem.W.codeIn K cd_lines_in "lines_in" = true)
    (k_lines_in : PySem.W.keepIn K (.ref f_lines_in) = true)
    (a_memory_fault : PySem.W.nsIn K mainGlobals "memory_fault" = some (some (.ref f_memory_fault)))
    (l_memory_fault : K.lookup f_memory_fault = some ⟨oc_memory_fault, od_memory_fault, .func (PySem.W.fnOf "memory_fault" "memory_fault" (defArgs s_memory_fault) (defBody s_memory_fault) (defScope s_memory_fault) .none kV_memory_fault dc_memory_fault pm_memory_fault an_memory_fault cd_memory_fault ct_memory_fault), sl_memory_fault⟩)
    (c_memory_fault : PySem.W.codeIn K cd_memory_fault "memory_fault" = true)
    (k_memory_fault : PySem.W.keepIn K (.ref f_memory_fault) = true)
    (a_is_order : PySem.W.nsIn K mainGlobals "is_order" = some (some (.ref f_is_order)))
    (l_is_order : K.lookup f_is_order = some ⟨oc_is_order, od_is_order, .func (PySem.W.fnOf "is_order" "is_order" (defArgs s_is_order) (defBody s_is_order) (defScope s_is_order) .none kV_is_order dc_is_order pm_is_order an_is_order cd_is_order ct_is_order), sl_is_order⟩)
    (c_is_order : PySem.W.codeIn K cd_is_order "is_order" = true)
    (k_is_order : PySem.W.keepIn K (.ref f_is_order) = true)
    (a_is_deed : PySem.W.nsIn K mainGlobals "is_deed" = some (some (.ref f_is_deed)))
    (l_is_deed : K.lookup f_is_deed = some ⟨oc_is_deed, od_is_deed, .func (PySem.W.fnOf "is_deed" "is_deed" (defArgs s_is_deed) (defBody s_is_deed) (defScope s_is_deed) .none kV_is_deed dc_is_deed pm_is_deed an_is_deed cd_is_deed ct_is_deed), sl_is_deed⟩)
    (c_is_deed : PySem.W.codeIn K cd_is_deed "is_deed" = true)
    (k_is_deed : PySem.W.keepIn K (.ref f_is_deed) = true)
    (a_check_board : PySem.W.nsIn K mainGlobals "check_board" = some (some (.ref f_check_board)))
    (l_check_board : K.lookup f_check_board = some ⟨oc_check_board, od_check_board, .func (PySem.W.fnOf "check_board" "check_board" (defArgs s_check_board) (defBody s_check_board) (defScope s_check_board) .none kV_check_board dc_check_board pm_check_board an_check_board cd_check_board ct_check_board), sl_check_board⟩)
    (c_check_board : PySem.W.codeIn K cd_check_board "check_board" = true)
    (k_check_board : PySem.W.keepIn K (.ref f_check_board) = true)
    (a_check_fences : PySem.W.nsIn K mainGlobals "check_fences" = some (some (.ref f_check_fences)))
    (l_check_fences : K.lookup f_check_fences = some ⟨oc_check_fences, od_check_fences, .func (PySem.W.fnOf "check_fences" "check_fences" (defArgs s_check_fences) (defBody s_check_fences) (defScope s_check_fences) .none kV_check_fences dc_check_fences pm_check_fences an_check_fences cd_check_fences ct_check_fences), sl_check_fences⟩)
    (c_check_fences : PySem.W.codeIn K cd_check_fences "check_fences" = true)
    (k_check_fences : PySem.W.keepIn K (.ref f_check_fences) = true)
    (a_put_in : PySem.W.nsIn K mainGlobals "put_in" = some (some (.ref f_put_in)))
    (l_put_in : K.lookup f_put_in = some ⟨oc_put_in, od_put_in, .func (PySem.W.fnOf "put_in" "put_in" (defArgs s_put_in) (defBody s_put_in) (defScope s_put_in) .none kV_put_in dc_put_in pm_put_in an_put_in cd_put_in ct_put_in), sl_put_in⟩)
    (c_put_in : PySem.W.codeIn K cd_put_in "put_in" = true)
    (k_put_in : PySem.W.keepIn K (.ref f_put_in) = true)
    (a_fenced : PySem.W.nsIn K mainGlobals "fenced" = some (some (.ref f_fenced)))
    (l_fenced : K.lookup f_fenced = some ⟨oc_fenced, od_fenced, .func (PySem.W.fnOf "fenced" "fenced" (defArgs s_fenced) (defBody s_fenced) (defScope s_fenced) .none kV_fenced dc_fenced pm_fenced an_fenced cd_fenced ct_fenced), sl_fenced⟩)
    (c_fenced : PySem.W.codeIn K cd_fenced "fenced" = true)
    (k_fenced : PySem.W.keepIn K (.ref f_fenced) = true)
    (a_is_sure : PySem.W.nsIn K mainGlobals "is_sure" = some (some (.ref f_is_sure)))
    (l_is_sure : K.lookup f_is_sure = some ⟨oc_is_sure, od_is_sure, .func (PySem.W.fnOf "is_sure" "is_sure" (defArgs s_is_sure) (defBody s_is_sure) (defScope s_is_sure) .none kV_is_sure dc_is_sure pm_is_sure an_is_sure cd_is_sure ct_is_sure), sl_is_sure⟩)
    (c_is_sure : PySem.W.codeIn K cd_is_sure "is_sure" = true)
    (k_is_sure : PySem.W.keepIn K (.ref f_is_sure) = true)
    (a_spare : PySem.W.nsIn K mainGlobals "spare" = some (some (.ref f_spare)))
    (l_spare : K.lookup f_spare = some ⟨oc_spare, od_spare, .func (PySem.W.fnOf "spare" "spare" (defArgs s_spare) (defBody s_spare) (defScope s_spare) .none kV_spare dc_spare pm_spare an_spare cd_spare ct_spare), sl_spare⟩)
    (c_spare : PySem.W.codeIn K cd_spare "spare" = true)
    (k_spare : PySem.W.keepIn K (.ref f_spare) = true)
    (a__law_begun : PySem.W.nsIn K mainGlobals "_law_begun" = some (some (.ref f__law_begun)))
    (l__law_begun : K.lookup f__law_begun = some ⟨oc__law_begun, od__law_begun, .func (PySem.W.fnOf "_law_begun" "_law_begun" (defArgs s__law_begun) (defBody s__law_begun) (defScope s__law_begun) .none kV__law_begun dc__law_begun pm__law_begun an__law_begun cd__law_begun ct__law_begun), sl__law_begun⟩)
    (c__law_begun : PySem.W.codeIn K cd__law_begun "_law_begun" = true)
    (k__law_begun : PySem.W.keepIn K (.ref f__law_begun) = true)
    (a__law_take : PySem.W.nsIn K mainGlobals "_law_take" = some (some (.ref f__law_take)))
    (l__law_take : K.lookup f__law_take = some ⟨oc__law_take, od__law_take, .func (PySem.W.fnOf "_law_take" "_law_take" (defArgs s__law_take) (defBody s__law_take) (defScope s__law_take) .none kV__law_take dc__law_take pm__law_take an__law_take cd__law_take ct__law_take), sl__law_take⟩)
    (c__law_take : PySem.W.codeIn K cd__law_take "_law_take" = true)
    (k__law_take : PySem.W.keepIn K (.ref f__law_take) = true)
    (a__law_alike : PySem.W.nsIn K mainGlobals "_law_alike" = some (some (.ref f__law_alike)))
    (l__law_alike : K.lookup f__law_alike = some ⟨oc__law_alike, od__law_alike, .func (PySem.W.fnOf "_law_alike" "_law_alike" (defArgs s__law_alike) (defBody s__law_alike) (defScope s__law_alike) .none kV__law_alike dc__law_alike pm__law_alike an__law_alike cd__law_alike ct__law_alike), sl__law_alike⟩)
    (c__law_alike : PySem.W.codeIn K cd__law_alike "_law_alike" = true)
    (k__law_alike : PySem.W.keepIn K (.ref f__law_alike) = true)
    (a__law_class : PySem.W.nsIn K mainGlobals "_law_class" = some (some (.ref f__law_class)))
    (l__law_class : K.lookup f__law_class = some ⟨oc__law_class, od__law_class, .func (PySem.W.fnOf "_law_class" "_law_class" (defArgs s__law_class) (defBody s__law_class) (defScope s__law_class) .none kV__law_class dc__law_class pm__law_class an__law_class cd__law_class ct__law_class), sl__law_class⟩)
    (c__law_class : PySem.W.codeIn K cd__law_class "_law_class" = true)
    (k__law_class : PySem.W.keepIn K (.ref f__law_class) = true)
    (a__law_order : PySem.W.nsIn K mainGlobals "_law_order" = some (some (.ref f__law_order)))
    (l__law_order : K.lookup f__law_order = some ⟨oc__law_order, od__law_order, .func (PySem.W.fnOf "_law_order" "_law_order" (defArgs s__law_order) (defBody s__law_order) (defScope s__law_order) .none kV__law_order dc__law_order pm__law_order an__law_order cd__law_order ct__law_order), sl__law_order⟩)
    (c__law_order : PySem.W.codeIn K cd__law_order "_law_order" = true)
    (k__law_order : PySem.W.keepIn K (.ref f__law_order) = true)
    (a__law_deed : PySem.W.nsIn K mainGlobals "_law_deed" = some (some (.ref f__law_deed)))
    (l__law_deed : K.lookup f__law_deed = some ⟨oc__law_deed, od__law_deed, .func (PySem.W.fnOf "_law_deed" "_law_deed" (defArgs s__law_deed) (defBody s__law_deed) (defScope s__law_deed) .none kV__law_deed dc__law_deed pm__law_deed an__law_deed cd__law_deed ct__law_deed), sl__law_deed⟩)
    (c__law_deed : PySem.W.codeIn K cd__law_deed "_law_deed" = true)
    (k__law_deed : PySem.W.keepIn K (.ref f__law_deed) = true)
    (a__law_board : PySem.W.nsIn K mainGlobals "_law_board" = some (some (.ref f__law_board)))
    (l__law_board : K.lookup f__law_board = some ⟨oc__law_board, od__law_board, .func (PySem.W.fnOf "_law_board" "_law_board" (defArgs s__law_board) (defBody s__law_board) (defScope s__law_board) .none kV__law_board dc__law_board pm__law_board an__law_board cd__law_board ct__law_board), sl__law_board⟩)
    (c__law_board : PySem.W.codeIn K cd__law_board "_law_board" = true)
    (k__law_board : PySem.W.keepIn K (.ref f__law_board) = true)
    (a__law_fence : PySem.W.nsIn K mainGlobals "_law_fence" = some (some (.ref f__law_fence)))
    (l__law_fence : K.lookup f__law_fence = some ⟨oc__law_fence, od__law_fence, .func (PySem.W.fnOf "_law_fence" "_law_fence" (defArgs s__law_fence) (defBody s__law_fence) (defScope s__law_fence) .none kV__law_fence dc__law_fence pm__law_fence an__law_fence cd__law_fence ct__law_fence), sl__law_fence⟩)
    (c__law_fence : PySem.W.codeIn K cd__law_fence "_law_fence" = true)
    (k__law_fence : PySem.W.keepIn K (.ref f__law_fence) = true)
    (a__law_refused : PySem.W.nsIn K mainGlobals "_law_refused" = some (some (.ref f__law_refused)))
    (l__law_refused : K.lookup f__law_refused = some ⟨oc__law_refused, od__law_refused, .func (PySem.W.fnOf "_law_refused" "_law_refused" (defArgs s__law_refused) (defBody s__law_refused) (defScope s__law_refused) .none kV__law_refused dc__law_refused pm__law_refused an__law_refused cd__law_refused ct__law_refused), sl__law_refused⟩)
    (c__law_refused : PySem.W.codeIn K cd__law_refused "_law_refused" = true)
    (k__law_refused : PySem.W.keepIn K (.ref f__law_refused) = true)
    (a__law_kinds : PySem.W.nsIn K mainGlobals "_law_kinds" = some (some (.ref f__law_kinds)))
    (l__law_kinds : K.lookup f__law_kinds = some ⟨oc__law_kinds, od__law_kinds, .func (PySem.W.fnOf "_law_kinds" "_law_kinds" (defArgs s__law_kinds) (defBody s__law_kinds) (defScope s__law_kinds) .none kV__law_kinds dc__law_kinds pm__law_kinds an__law_kinds cd__law_kinds ct__law_kinds), sl__law_kinds⟩)
    (c__law_kinds : PySem.W.codeIn K cd__law_kinds "_law_kinds" = true)
    (k__law_kinds : PySem.W.keepIn K (.ref f__law_kinds) = true)
    (a_law : PySem.W.nsIn K mainGlobals "law" = some (some (.ref f_law)))
    (l_law : K.lookup f_law = some ⟨oc_law, od_law, .func (PySem.W.fnOf "law" "law" (defArgs s_law) (defBody s_law) (defScope s_law) .none kV_law dc_law pm_law an_law cd_law ct_law), sl_law⟩)
    (c_law : PySem.W.codeIn K cd_law "law" = true)
    (k_law : PySem.W.keepIn K (.ref f_law) = true)
    (bC : PySem.W.subIn K (.ref Z_CarrierError) (.type "BaseException") = some true)
    (dC : PySem.W.hasDictIn K Z_CarrierError = true)
    (tC : PySem.W.typeIn K (.ref Z_CarrierError) = some (.type "type"))
    (hn_ : PySem.W.specialIn K (.builtin "object.__class__") "__get__" = some (some (.builtin "getset_descriptor.__get__")))
    (ht_ : PySem.W.takesIn K (.builtin "object.__class__") = some true)
    (ix_BadBoard : PySem.W.isClsIn K Z_BadBoard = true)
    (tx_BadBoard : PySem.W.typeIn K (.ref Z_BadBoard) = some (.type "type"))
    (ix_BadFence : PySem.W.isClsIn K Z_BadFence = true)
    (tx_BadFence : PySem.W.typeIn K (.ref Z_BadFence) = some (.type "type"))
    (ix_NotSure : PySem.W.isClsIn K Z_NotSure = true)
    (tx_NotSure : PySem.W.typeIn K (.ref Z_NotSure) = some (.type "type"))
    (ix_BadCount : PySem.W.isClsIn K Z_BadCount = true)
    (tx_BadCount : PySem.W.typeIn K (.ref Z_BadCount) = some (.type "type"))
    (ix_BadText : PySem.W.isClsIn K Z_BadText = true)
    (tx_BadText : PySem.W.typeIn K (.ref Z_BadText) = some (.type "type"))
    (k_xBadBoard : PySem.W.keepIn K (.ref Z_BadBoard) = true)
    (b_xBadBoard : PySem.W.subIn K (.ref Z_BadBoard) (.type "BaseException") = some true)
    (s_xBadBoard : PySem.W.subIn K (.ref Z_BadBoard) (.ref Z_CarrierError) = some true)
    (hg_xBadBoard : PySem.W.findIn K (.ref Z_BadBoard) "__getattribute__" = some (some (.builtin "BaseException.__getattribute__")))
    (hk_xBadBoard : PySem.W.findIn K (.ref Z_BadBoard) "__getattr__" = some none)
    (hd_xBadBoard : PySem.W.hasDictIn K Z_BadBoard = true)
    (ha_xBadBoard : PySem.W.findIn K (.ref Z_BadBoard) "__class__" = some (some (.builtin "object.__class__")))
    (hm_xBadBoard : PySem.W.mroIn K Z_BadBoard (.type "object") = some true)
    (v_xBadBoard : PySem.W.subIn K (.ref Z_BadBoard) (.type "ValueError") = some true)
    (nn_BadBoard_BadFence : (Value.ref Z_BadBoard == Value.ref Z_BadFence) = false)
    (ss_BadBoard_BadFence : PySem.W.subIn K (.ref Z_BadBoard) (.ref Z_BadFence) = some false)
    (nn_BadBoard_NotSure : (Value.ref Z_BadBoard == Value.ref Z_NotSure) = false)
    (ss_BadBoard_NotSure : PySem.W.subIn K (.ref Z_BadBoard) (.ref Z_NotSure) = some false)
    (nn_BadBoard_BadCount : (Value.ref Z_BadBoard == Value.ref Z_BadCount) = false)
    (ss_BadBoard_BadCount : PySem.W.subIn K (.ref Z_BadBoard) (.ref Z_BadCount) = some false)
    (nn_BadBoard_BadText : (Value.ref Z_BadBoard == Value.ref Z_BadText) = false)
    (ss_BadBoard_BadText : PySem.W.subIn K (.ref Z_BadBoard) (.ref Z_BadText) = some false)
    (k_xBadFence : PySem.W.keepIn K (.ref Z_BadFence) = true)
    (b_xBadFence : PySem.W.subIn K (.ref Z_BadFence) (.type "BaseException") = some true)
    (s_xBadFence : PySem.W.subIn K (.ref Z_BadFence) (.ref Z_CarrierError) = some true)
    (hg_xBadFence : PySem.W.findIn K (.ref Z_BadFence) "__getattribute__" = some (some (.builtin "BaseException.__getattribute__")))
    (hk_xBadFence : PySem.W.findIn K (.ref Z_BadFence) "__getattr__" = some none)
    (hd_xBadFence : PySem.W.hasDictIn K Z_BadFence = true)
    (ha_xBadFence : PySem.W.findIn K (.ref Z_BadFence) "__class__" = some (some (.builtin "object.__class__")))
    (hm_xBadFence : PySem.W.mroIn K Z_BadFence (.type "object") = some true)
    (v_xBadFence : PySem.W.subIn K (.ref Z_BadFence) (.type "ValueError") = some true)
    (nn_BadFence_BadBoard : (Value.ref Z_BadFence == Value.ref Z_BadBoard) = false)
    (ss_BadFence_BadBoard : PySem.W.subIn K (.ref Z_BadFence) (.ref Z_BadBoard) = some false)
    (nn_BadFence_NotSure : (Value.ref Z_BadFence == Value.ref Z_NotSure) = false)
    (ss_BadFence_NotSure : PySem.W.subIn K (.ref Z_BadFence) (.ref Z_NotSure) = some false)
    (nn_BadFence_BadCount : (Value.ref Z_BadFence == Value.ref Z_BadCount) = false)
    (ss_BadFence_BadCount : PySem.W.subIn K (.ref Z_BadFence) (.ref Z_BadCount) = some false)
    (nn_BadFence_BadText : (Value.ref Z_BadFence == Value.ref Z_BadText) = false)
    (ss_BadFence_BadText : PySem.W.subIn K (.ref Z_BadFence) (.ref Z_BadText) = some false)
    (k_xNotSure : PySem.W.keepIn K (.ref Z_NotSure) = true)
    (b_xNotSure : PySem.W.subIn K (.ref Z_NotSure) (.type "BaseException") = some true)
    (s_xNotSure : PySem.W.subIn K (.ref Z_NotSure) (.ref Z_CarrierError) = some true)
    (hg_xNotSure : PySem.W.findIn K (.ref Z_NotSure) "__getattribute__" = some (some (.builtin "BaseException.__getattribute__")))
    (hk_xNotSure : PySem.W.findIn K (.ref Z_NotSure) "__getattr__" = some none)
    (hd_xNotSure : PySem.W.hasDictIn K Z_NotSure = true)
    (ha_xNotSure : PySem.W.findIn K (.ref Z_NotSure) "__class__" = some (some (.builtin "object.__class__")))
    (hm_xNotSure : PySem.W.mroIn K Z_NotSure (.type "object") = some true)
    (v_xNotSure : PySem.W.subIn K (.ref Z_NotSure) (.type "ValueError") = some true)
    (xx_NotSure : PySem.W.excIn K Z_NotSure [.type "ValueError", .type "Exception", .type "BaseException", .type "object"] "ValueError.__new__" = true)
    (nn_NotSure_BadBoard : (Value.ref Z_NotSure == Value.ref Z_BadBoard) = false)
    (ss_NotSure_BadBoard : PySem.W.subIn K (.ref Z_NotSure) (.ref Z_BadBoard) = some false)
    (nn_NotSure_BadFence : (Value.ref Z_NotSure == Value.ref Z_BadFence) = false)
    (ss_NotSure_BadFence : PySem.W.subIn K (.ref Z_NotSure) (.ref Z_BadFence) = some false)
    (nn_NotSure_BadCount : (Value.ref Z_NotSure == Value.ref Z_BadCount) = false)
    (ss_NotSure_BadCount : PySem.W.subIn K (.ref Z_NotSure) (.ref Z_BadCount) = some false)
    (nn_NotSure_BadText : (Value.ref Z_NotSure == Value.ref Z_BadText) = false)
    (ss_NotSure_BadText : PySem.W.subIn K (.ref Z_NotSure) (.ref Z_BadText) = some false)
    (rC : PySem.W.readsIn K Z_CarrierError (.type "type") = true)
    (gC : PySem.W.specialIn K (.ref Z_CarrierError) "__getattribute__" = some (some (.builtin "type.__getattribute__")))
    (fC : PySem.W.findCls K (.ref Z_CarrierError) (.type "type") "__init__" = some (.val (.builtin "ValueError.__init__")))
    (lx_BadBoard : K.lookup Z_BadBoard = some (excClassObj nmx_BadBoard qx_BadBoard Z_BadBoard Nx_BadBoard bsx_BadBoard bmx_BadBoard true snx_BadBoard subx_BadBoard abx_BadBoard colx_BadBoard ddx_BadBoard k0x_BadBoard k1x_BadBoard k2x_BadBoard k3x_BadBoard k5x_BadBoard "ValueError.__new__"))
    (rv_BadBoard : PySem.HandSPX.refsVE bmx_BadBoard = true)
    (sx_BadBoard : PySem.W.findIn K (.ref Z_BadBoard) "__setattr__" = some (some (.builtin "object.__setattr__")))
    (a_BadBoard___init__ : PySem.W.findIn K (.ref Z_BadBoard) "__init__" = some (some (.ref f_BadBoard___init__)))
    (y_BadBoard___init__ : PySem.W.typeIn K (.ref f_BadBoard___init__) = some (.type "function"))
    (l_BadBoard___init__ : K.lookup f_BadBoard___init__ = some ⟨oc_BadBoard___init__, od_BadBoard___init__, .func (PySem.W.fnOf "__init__" "BadBoard.__init__" (defArgs s_BadBoard___init__) (defBody s_BadBoard___init__) (defScope s_BadBoard___init__) .none kV_BadBoard___init__ dc_BadBoard___init__ pm_BadBoard___init__ an_BadBoard___init__ cd_BadBoard___init__ ct_BadBoard___init__), sl_BadBoard___init__⟩)
    (c_BadBoard___init__ : PySem.W.codeIn K cd_BadBoard___init__ "BadBoard.__init__" = true)
    (k_BadBoard___init__ : PySem.W.keepIn K (.ref f_BadBoard___init__) = true)
    (nx_BadBoard_word : PySem.W.findIn K (.ref Z_BadBoard) "word" = some none)
    (nx_BadBoard_number : PySem.W.findIn K (.ref Z_BadBoard) "number" = some none)
    (lx_BadFence : K.lookup Z_BadFence = some (excClassObj nmx_BadFence qx_BadFence Z_BadFence Nx_BadFence bsx_BadFence bmx_BadFence true snx_BadFence subx_BadFence abx_BadFence colx_BadFence ddx_BadFence k0x_BadFence k1x_BadFence k2x_BadFence k3x_BadFence k5x_BadFence "ValueError.__new__"))
    (rv_BadFence : PySem.HandSPX.refsVE bmx_BadFence = true)
    (sx_BadFence : PySem.W.findIn K (.ref Z_BadFence) "__setattr__" = some (some (.builtin "object.__setattr__")))
    (a_BadFence___init__ : PySem.W.findIn K (.ref Z_BadFence) "__init__" = some (some (.ref f_BadFence___init__)))
    (y_BadFence___init__ : PySem.W.typeIn K (.ref f_BadFence___init__) = some (.type "function"))
    (l_BadFence___init__ : K.lookup f_BadFence___init__ = some ⟨oc_BadFence___init__, od_BadFence___init__, .func (PySem.W.fnOf "__init__" "BadFence.__init__" (defArgs s_BadFence___init__) (defBody s_BadFence___init__) (defScope s_BadFence___init__) .none kV_BadFence___init__ dc_BadFence___init__ pm_BadFence___init__ an_BadFence___init__ cd_BadFence___init__ ct_BadFence___init__), sl_BadFence___init__⟩)
    (c_BadFence___init__ : PySem.W.codeIn K cd_BadFence___init__ "BadFence.__init__" = true)
    (k_BadFence___init__ : PySem.W.keepIn K (.ref f_BadFence___init__) = true)
    (nx_BadFence_number : PySem.W.findIn K (.ref Z_BadFence) "number" = some none)
    (tb_law : PySem.W.tabIn K "law" = some (cc_law, PP_law))
    (tn_law : K.lookup PP_law = none)
    (tc_law : cd_law = .ref cc_law)
    : ∃ (fd : FuncData) (cc PP : Addr) (sp : Sp), PySem.W.tabIn K "law" = some (cc, PP) ∧ K.lookup PP = none ∧ (∀ (s : Shared) (v : Value), BindsTo s fd ⟨[v], []⟩ [("_law_script", v)]) ∧ (∀ (H : Hp) (a : Addr) (ns : List Int), ns.length ≤ 63 → H PP = some (.tbl #[]) → SqL K H a (ns.map V.int) → sp [.ref a] H (fun v _ => v = .bl true) fun _ _ _ => False) ∧ ∀ base : Heap, K.In base → base.Ns mainGlobals mg → LamX.TabB base mg cc PP → FnOk l.prog w K mg base CX0 13 fa fd ["_law_script"] sp := by
  have e := hfa.symm.trans (PySem.W.mg_of X G a_law)
  cases e
  have T : Txt K mg ⟨()⟩ := {
    len := PySem.W.mg_none_of X G z_len,
    range := PySem.W.mg_none_of X G z_range,
    min := PySem.W.mg_none_of X G z_min,
    int := PySem.W.mg_none_of X G z_int,
    list := PySem.W.mg_none_of X G z_list,
    tuple := PySem.W.mg_none_of X G z_tuple,
    sorted := PySem.W.mg_none_of X G z_sorted,
    enumerate := PySem.W.mg_none_of X G z_enumerate,
    isinstance := PySem.W.mg_none_of X G z_isinstance,
    bool := PySem.W.mg_none_of X G z_bool,
    str := PySem.W.mg_none_of X G z_str,
    ValueError := PySem.W.mg_none_of X G z_ValueError,
    g_WIDE := ⟨_, PySem.W.mg_of X G v_WIDE, _, rfl⟩,
    g_MOST_LINES := ⟨_, PySem.W.mg_of X G v_MOST_LINES, _, rfl⟩,
    g_MOST_DIGIT := ⟨_, PySem.W.mg_of X G v_MOST_DIGIT, _, rfl⟩,
    g_MOST_ORDERS := ⟨_, PySem.W.mg_of X G v_MOST_ORDERS, _, rfl⟩,
    g_MOST_CELLS := ⟨_, PySem.W.mg_of X G v_MOST_CELLS, _, rfl⟩,
    g_MOST_DEEDS := ⟨_, PySem.W.mg_of X G v_MOST_DEEDS, _, rfl⟩,
    g_MOST_STARTS := ⟨_, PySem.W.mg_of X G v_MOST_STARTS, _, rfl⟩,
    g_MOST_FENCES := ⟨_, PySem.W.mg_of X G v_MOST_FENCES, _, rfl⟩,
    g_FENCES := ⟨a_FENCES, ⟨_, PySem.W.mg_of X G v_FENCES, rfl⟩, fun H => .inr ⟨_, ar_FENCES, nn_FENCES, l_FENCES, rfl, rfl, by have := w_FENCES.length; simp at this; rw [← this]; decide, w_FENCES⟩⟩,
    F_is_from := ⟨_, _, fun_mk (st := s_is_from) l_is_from c_is_from k_is_from, PySem.W.mg_of X G a_is_from⟩,
    F_lines_in := ⟨_, _, fun_mk (st := s_lines_in) l_lines_in c_lines_in k_lines_in, PySem.W.mg_of X G a_lines_in⟩,
    F_memory_fault := ⟨_, _, fun_mk (st := s_memory_fault) l_memory_fault c_memory_fault k_memory_fault, PySem.W.mg_of X G a_memory_fault⟩,
    F_is_order := ⟨_, _, fun_mk (st := s_is_order) l_is_order c_is_order k_is_order, PySem.W.mg_of X G a_is_order⟩,
    F_is_deed := ⟨_, _, fun_mk (st := s_is_deed) l_is_deed c_is_deed k_is_deed, PySem.W.mg_of X G a_is_deed⟩,
    F_check_board := ⟨_, _, fun_mk (st := s_check_board) l_check_board c_check_board k_check_board, PySem.W.mg_of X G a_check_board⟩,
    F_check_fences := ⟨_, _, fun_mk (st := s_check_fences) l_check_fences c_check_fences k_check_fences, PySem.W.mg_of X G a_check_fences⟩,
    F_put_in := ⟨_, _, fun_mk (st := s_put_in) l_put_in c_put_in k_put_in, PySem.W.mg_of X G a_put_in⟩,
    F_fenced := ⟨_, _, fun_mk (st := s_fenced) l_fenced c_fenced k_fenced, PySem.W.mg_of X G a_fenced⟩,
    F_is_sure := ⟨_, _, fun_mk (st := s_is_sure) l_is_sure c_is_sure k_is_sure, PySem.W.mg_of X G a_is_sure⟩,
    F_spare := ⟨_, _, fun_mk (st := s_spare) l_spare c_spare k_spare, PySem.W.mg_of X G a_spare⟩,
    F__law_begun := ⟨_, _, fun_mk (st := s__law_begun) l__law_begun c__law_begun k__law_begun, PySem.W.mg_of X G a__law_begun⟩,
    F__law_take := ⟨_, _, fun_mk (st := s__law_take) l__law_take c__law_take k__law_take, PySem.W.mg_of X G a__law_take⟩,
    F__law_alike := ⟨_, _, fun_mk (st := s__law_alike) l__law_alike c__law_alike k__law_alike, PySem.W.mg_of X G a__law_alike⟩,
    F__law_class := ⟨_, _, fun_mk (st := s__law_class) l__law_class c__law_class k__law_class, PySem.W.mg_of X G a__law_class⟩,
    F__law_order := ⟨_, _, fun_mk (st := s__law_order) l__law_order c__law_order k__law_order, PySem.W.mg_of X G a__law_order⟩,
    F__law_deed := ⟨_, _, fun_mk (st := s__law_deed) l__law_deed c__law_deed k__law_deed, PySem.W.mg_of X G a__law_deed⟩,
    F__law_board := ⟨_, _, fun_mk (st := s__law_board) l__law_board c__law_board k__law_board, PySem.W.mg_of X G a__law_board⟩,
    F__law_fence := ⟨_, _, fun_mk (st := s__law_fence) l__law_fence c__law_fence k__law_fence, PySem.W.mg_of X G a__law_fence⟩,
    F__law_refused := ⟨_, _, fun_mk (st := s__law_refused) l__law_refused c__law_refused k__law_refused, PySem.W.mg_of X G a__law_refused⟩,
    F__law_kinds := ⟨_, _, fun_mk (st := s__law_kinds) l__law_kinds c__law_kinds k__law_kinds, PySem.W.mg_of X G a__law_kinds⟩,
    F_law := ⟨_, _, fun_mk (st := s_law) l_law c_law k_law, PySem.W.mg_of X G a_law⟩ }
  have XT : XTxt K mg ⟨Z_CarrierError, Z_BadBoard, Z_BadFence, Z_NotSure, Z_BadCount, Z_BadText⟩ := {
    g_CarrierError := PySem.W.mg_of X G ax_CarrierError,
    g_BadBoard := PySem.W.mg_of X G ax_BadBoard,
    g_BadFence := PySem.W.mg_of X G ax_BadFence,
    g_NotSure := PySem.W.mg_of X G ax_NotSure,
    g_BadCount := PySem.W.mg_of X G ax_BadCount,
    g_BadText := PySem.W.mg_of X G ax_BadText,
    bC := bC,
    dC := dC,
    tC := tC,
    k_BadBoard := k_xBadBoard,
    b_BadBoard := b_xBadBoard,
    t_BadBoard := tx_BadBoard,
    e_BadBoard := ⟨hg_xBadBoard, hk_xBadBoard, b_xBadBoard, hd_xBadBoard, ha_xBadBoard, hn_, ht_, hm_xBadBoard⟩,
    m_BadBoard := PySem.W.exm_ref bC dC tC s_xBadBoard,
    q_BadBoard_BadBoard := kit_self,
    q_BadBoard_BadFence := kit_ref nn_BadBoard_BadFence ix_BadFence tx_BadFence ss_BadBoard_BadFence,
    q_BadBoard_NotSure := kit_ref nn_BadBoard_NotSure ix_NotSure tx_NotSure ss_BadBoard_NotSure,
    q_BadBoard_BadCount := kit_ref nn_BadBoard_BadCount ix_BadCount tx_BadCount ss_BadBoard_BadCount,
    q_BadBoard_BadText := kit_ref nn_BadBoard_BadText ix_BadText tx_BadText ss_BadBoard_BadText,
    q_BadBoard_V := kit_VE v_xBadBoard,
    k_BadFence := k_xBadFence,
    b_BadFence := b_xBadFence,
    t_BadFence := tx_BadFence,
    e_BadFence := ⟨hg_xBadFence, hk_xBadFence, b_xBadFence, hd_xBadFence, ha_xBadFence, hn_, ht_, hm_xBadFence⟩,
    m_BadFence := PySem.W.exm_ref bC dC tC s_xBadFence,
    q_BadFence_BadBoard := kit_ref nn_BadFence_BadBoard ix_BadBoard tx_BadBoard ss_BadFence_BadBoard,
    q_BadFence_BadFence := kit_self,
    q_BadFence_NotSure := kit_ref nn_BadFence_NotSure ix_NotSure tx_NotSure ss_BadFence_NotSure,
    q_BadFence_BadCount := kit_ref nn_BadFence_BadCount ix_BadCount tx_BadCount ss_BadFence_BadCount,
    q_BadFence_BadText := kit_ref nn_BadFence_BadText ix_BadText tx_BadText ss_BadFence_BadText,
    q_BadFence_V := kit_VE v_xBadFence,
    k_NotSure := k_xNotSure,
    b_NotSure := b_xNotSure,
    t_NotSure := tx_NotSure,
    e_NotSure := ⟨hg_xNotSure, hk_xNotSure, b_xNotSure, hd_xNotSure, ha_xNotSure, hn_, ht_, hm_xNotSure⟩,
    m_NotSure := PySem.W.exm_ref bC dC tC s_xNotSure,
    x_NotSure := xx_NotSure,
    q_NotSure_BadBoard := kit_ref nn_NotSure_BadBoard ix_BadBoard tx_BadBoard ss_NotSure_BadBoard,
    q_NotSure_BadFence := kit_ref nn_NotSure_BadFence ix_BadFence tx_BadFence ss_NotSure_BadFence,
    q_NotSure_NotSure := kit_self,
    q_NotSure_BadCount := kit_ref nn_NotSure_BadCount ix_BadCount tx_BadCount ss_NotSure_BadCount,
    q_NotSure_BadText := kit_ref nn_NotSure_BadText ix_BadText tx_BadText ss_NotSure_BadText,
    q_NotSure_V := kit_VE v_xNotSure,
    rC := rC,
    gC := gC,
    fC := fC,
    o_BadBoard := ⟨⟨_, _, _, _, _, _, _, _, _, _, _, _, _, _, _, lx_BadBoard, rv_BadBoard⟩, sx_BadBoard, b_xBadBoard, tx_BadBoard, k_xBadBoard⟩,
    i_BadBoard := ⟨_, _, fun_mk (st := s_BadBoard___init__) l_BadBoard___init__ c_BadBoard___init__ k_BadBoard___init__, a_BadBoard___init__, y_BadBoard___init__⟩,
    n_BadBoard_word := nx_BadBoard_word,
    n_BadBoard_number := nx_BadBoard_number,
    o_BadFence := ⟨⟨_, _, _, _, _, _, _, _, _, _, _, _, _, _, _, lx_BadFence, rv_BadFence⟩, sx_BadFence, b_xBadFence, tx_BadFence, k_xBadFence⟩,
    i_BadFence := ⟨_, _, fun_mk (st := s_BadFence___init__) l_BadFence___init__ c_BadFence___init__ k_BadFence___init__, a_BadFence___init__, y_BadFence___init__⟩,
    n_BadFence_number := nx_BadFence_number }
  refine ⟨PySem.W.fnOf "law" "law" (defArgs s_law) (defBody s_law) (defScope s_law) .none kV_law dc_law pm_law an_law cd_law ct_law, cc_law, PP_law, sp_law K PP_law, tb_law, tn_law, fun s v => .of_eq rfl, fun H a ns hl hP hS => ⟨a, ns, rfl, hS, hl, hP, fun _ => rfl⟩, fun base _ _ TB => ok_law T XT (fun_mk (st := s_law) l_law c_law k_law) tc_law TB⟩
end BC
open PySem PySem.W PyProof.Rows
set_option maxRecDepth 100000 in
set_option maxHeartbeats 0 in
theorem PySem.Challenge.cw_blockcarrier_k10_fences_put_in_holds : PySem.Challenge.rw_blockcarrier_k10_fences_put_in.Holds := by
  w_on; o_law; k_head; (case hw => w_witness2)
  k_fill
  refine BC.walk_ofL (l := PySem.Challenge.rw_blockcarrier_k10_fences_put_in) (n := 63) (k := 13) (x := "_law_script") (CX := fun _ => L2.CX0) rfl (by decide) rfl ⟨rfl, by decide, by decide⟩ (fun w h Y => PySem.W.km_in_of Y) rfl ?F (fun _ _ _ _ _ h => h)
  case F =>
    intro w mg fa h Y KX G hmg
    refine' BC.all_mk KX G hmg ?ax_CarrierError ?ax_BadBoard ?ax_BadFence ?ax_NotSure ?ax_BadCount ?ax_BadText ?z_len ?z_range ?z_min ?z_int ?z_list ?z_tuple ?z_sorted ?z_enumerate ?z_isinstance ?z_bool ?z_str ?z_ValueError ?v_WIDE ?v_MOST_LINES ?v_MOST_DIGIT ?v_MOST_ORDERS ?v_MOST_CELLS ?v_MOST_DEEDS ?v_MOST_STARTS ?v_MOST_FENCES ?v_FENCES ?l_FENCES ?w_FENCES ?a_is_from ?l_is_from ?c_is_from ?k_is_from ?a_lines_in ?l_lines_in ?c_lines_in ?k_lines_in ?a_memory_fault ?l_memory_fault ?c_memory_fault ?k_memory_fault ?a_is_order ?l_is_order ?c_is_order ?k_is_order ?a_is_deed ?l_is_deed ?c_is_deed ?k_is_deed ?a_check_board ?l_check_board ?c_check_board ?k_check_board ?a_check_fences ?l_check_fences ?c_check_fences ?k_check_fences ?a_put_in ?l_put_in ?c_put_in ?k_put_in ?a_fenced ?l_fenced ?c_fenced ?k_fenced ?a_is_sure ?l_is_sure ?c_is_sure ?k_is_sure ?a_spare ?l_spare ?c_spare ?k_spare ?a__law_begun ?l__law_begun ?c__law_begun ?k__law_begun ?a__law_take ?l__law_take ?c__law_take ?k__law_take ?a__law_alike ?l__law_alike ?c__law_alike ?k__law_alike ?a__law_class ?l__law_class ?c__law_class ?k__law_class ?a__law_order ?l__law_order ?c__law_order ?k__law_order ?a__law_deed ?l__law_deed ?c__law_deed ?k__law_deed ?a__law_board ?l__law_board ?c__law_board ?k__law_board ?a__law_fence ?l__law_fence ?c__law_fence ?k__law_fence ?a__law_refused ?l__law_refused ?c__law_refused ?k__law_refused ?a__law_kinds ?l__law_kinds ?c__law_kinds ?k__law_kinds ?a_law ?l_law ?c_law ?k_law ?bC ?dC ?tC ?hn_ ?ht_ ?ix_BadBoard ?tx_BadBoard ?ix_BadFence ?tx_BadFence ?ix_NotSure ?tx_NotSure ?ix_BadCount ?tx_BadCount ?ix_BadText ?tx_BadText ?k_xBadBoard ?b_xBadBoard ?s_xBadBoard ?hg_xBadBoard ?hk_xBadBoard ?hd_xBadBoard ?ha_xBadBoard ?hm_xBadBoard ?v_xBadBoard ?nn_BadBoard_BadFence ?ss_BadBoard_BadFence ?nn_BadBoard_NotSure ?ss_BadBoard_NotSure ?nn_BadBoard_BadCount ?ss_BadBoard_BadCount ?nn_BadBoard_BadText ?ss_BadBoard_BadText ?k_xBadFence ?b_xBadFence ?s_xBadFence ?hg_xBadFence ?hk_xBadFence ?hd_xBadFence ?ha_xBadFence ?hm_xBadFence ?v_xBadFence ?nn_BadFence_BadBoard ?ss_BadFence_BadBoard ?nn_BadFence_NotSure ?ss_BadFence_NotSure ?nn_BadFence_BadCount ?ss_BadFence_BadCount ?nn_BadFence_BadText ?ss_BadFence_BadText ?k_xNotSure ?b_xNotSure ?s_xNotSure ?hg_xNotSure ?hk_xNotSure ?hd_xNotSure ?ha_xNotSure ?hm_xNotSure ?v_xNotSure ?xx_NotSure ?nn_NotSure_BadBoard ?ss_NotSure_BadBoard ?nn_NotSure_BadFence ?ss_NotSure_BadFence ?nn_NotSure_BadCount ?ss_NotSure_BadCount ?nn_NotSure_BadText ?ss_NotSure_BadText ?rC ?gC ?fC ?lx_BadBoard ?rv_BadBoard ?sx_BadBoard ?a_BadBoard___init__ ?y_BadBoard___init__ ?l_BadBoard___init__ ?c_BadBoard___init__ ?k_BadBoard___init__ ?nx_BadBoard_word ?nx_BadBoard_number ?lx_BadFence ?rv_BadFence ?sx_BadFence ?a_BadFence___init__ ?y_BadFence___init__ ?l_BadFence___init__ ?c_BadFence___init__ ?k_BadFence___init__ ?nx_BadFence_number ?tb_law ?tn_law ?tc_law
    (case ax_CarrierError => k_is)
    (case ax_BadBoard => k_is)
    (case ax_BadFence => k_is)
    (case ax_NotSure => k_is)
    (case ax_BadCount => k_is)
    (case ax_BadText => k_is)
    (case z_len => k_is)
    (case z_range => k_is)
    (case z_min => k_is)
    (case z_int => k_is)
    (case z_list => k_is)
    (case z_tuple => k_is)
    (case z_sorted => k_is)
    (case z_enumerate => k_is)
    (case z_isinstance => k_is)
    (case z_bool => k_is)
    (case z_str => k_is)
    (case z_ValueError => k_is)
    (case v_WIDE => k_is)
    (case v_MOST_LINES => k_is)
    (case v_MOST_DIGIT => k_is)
    (case v_MOST_ORDERS => k_is)
    (case v_MOST_CELLS => k_is)
    (case v_MOST_DEEDS => k_is)
    (case v_MOST_STARTS => k_is)
    (case v_MOST_FENCES => k_is)
    (case v_FENCES => k_is)
    (case l_FENCES => k_is)
    (case w_FENCES => exact .cons ⟨_, rfl⟩ (.cons ⟨_, rfl⟩ (.cons ⟨_, rfl⟩ (.nil))))
    (case a_is_from => k_is)
    (case l_is_from => k_is)
    (case c_is_from => k_is)
    (case k_is_from => k_is)
    (case a_lines_in => k_is)
    (case l_lines_in => k_is)
    (case c_lines_in => k_is)
    (case k_lines_in => k_is)
    (case a_memory_fault => k_is)
    (case l_memory_fault => k_is)
    (case c_memory_fault => k_is)
    (case k_memory_fault => k_is)
    (case a_is_order => k_is)
    (case l_is_order => k_is)
    (case c_is_order => k_is)
    (case k_is_order => k_is)
    (case a_is_deed => k_is)
    (case l_is_deed => k_is)
    (case c_is_deed => k_is)
    (case k_is_deed => k_is)
    (case a_check_board => k_is)
    (case l_check_board => k_is)
    (case c_check_board => k_is)
    (case k_check_board => k_is)
    (case a_check_fences => k_is)
    (case l_check_fences => k_is)
    (case c_check_fences => k_is)
    (case k_check_fences => k_is)
    (case a_put_in => k_is)
    (case l_put_in => k_is)
    (case c_put_in => k_is)
    (case k_put_in => k_is)
    (case a_fenced => k_is)
    (case l_fenced => k_is)
    (case c_fenced => k_is)
    (case k_fenced => k_is)
    (case a_is_sure => k_is)
    (case l_is_sure => k_is)
    (case c_is_sure => k_is)
    (case k_is_sure => k_is)
    (case a_spare => k_is)
    (case l_spare => k_is)
    (case c_spare => k_is)
    (case k_spare => k_is)
    (case a__law_begun => k_is)
    (case l__law_begun => k_is)
    (case c__law_begun => k_is)
    (case k__law_begun => k_is)
    (case a__law_take => k_is)
    (case l__law_take => k_is)
    (case c__law_take => k_is)
    (case k__law_take => k_is)
    (case a__law_alike => k_is)
    (case l__law_alike => k_is)
    (case c__law_alike => k_is)
    (case k__law_alike => k_is)
    (case a__law_class => k_is)
    (case l__law_class => k_is)
    (case c__law_class => k_is)
    (case k__law_class => k_is)
    (case a__law_order => k_is)
    (case l__law_order => k_is)
    (case c__law_order => k_is)
    (case k__law_order => k_is)
    (case a__law_deed => k_is)
    (case l__law_deed => k_is)
    (case c__law_deed => k_is)
    (case k__law_deed => k_is)
    (case a__law_board => k_is)
    (case l__law_board => k_is)
    (case c__law_board => k_is)
    (case k__law_board => k_is)
    (case a__law_fence => k_is)
    (case l__law_fence => k_is)
    (case c__law_fence => k_is)
    (case k__law_fence => k_is)
    (case a__law_refused => k_is)
    (case l__law_refused => k_is)
    (case c__law_refused => k_is)
    (case k__law_refused => k_is)
    (case a__law_kinds => k_is)
    (case l__law_kinds => k_is)
    (case c__law_kinds => k_is)
    (case k__law_kinds => k_is)
    (case a_law => k_is)
    (case l_law => k_is)
    (case c_law => k_is)
    (case k_law => k_is)
    (case bC => k_is)
    (case dC => k_is)
    (case tC => k_is)
    (case hn_ => k_is)
    (case ht_ => k_is)
    (case ix_BadBoard => k_is)
    (case tx_BadBoard => k_is)
    (case ix_BadFence => k_is)
    (case tx_BadFence => k_is)
    (case ix_NotSure => k_is)
    (case tx_NotSure => k_is)
    (case ix_BadCount => k_is)
    (case tx_BadCount => k_is)
    (case ix_BadText => k_is)
    (case tx_BadText => k_is)
    (case k_xBadBoard => k_is)
    (case b_xBadBoard => k_is)
    (case s_xBadBoard => k_is)
    (case hg_xBadBoard => k_is)
    (case hk_xBadBoard => k_is)
    (case hd_xBadBoard => k_is)
    (case ha_xBadBoard => k_is)
    (case hm_xBadBoard => k_is)
    (case v_xBadBoard => k_is)
    (case nn_BadBoard_BadFence => first | rfl | decide)
    (case ss_BadBoard_BadFence => k_is)
    (case nn_BadBoard_NotSure => first | rfl | decide)
    (case ss_BadBoard_NotSure => k_is)
    (case nn_BadBoard_BadCount => first | rfl | decide)
    (case ss_BadBoard_BadCount => k_is)
    (case nn_BadBoard_BadText => first | rfl | decide)
    (case ss_BadBoard_BadText => k_is)
    (case k_xBadFence => k_is)
    (case b_xBadFence => k_is)
    (case s_xBadFence => k_is)
    (case hg_xBadFence => k_is)
    (case hk_xBadFence => k_is)
    (case hd_xBadFence => k_is)
    (case ha_xBadFence => k_is)
    (case hm_xBadFence => k_is)
    (case v_xBadFence => k_is)
    (case nn_BadFence_BadBoard => first | rfl | decide)
    (case ss_BadFence_BadBoard => k_is)
    (case nn_BadFence_NotSure => first | rfl | decide)
    (case ss_BadFence_NotSure => k_is)
    (case nn_BadFence_BadCount => first | rfl | decide)
    (case ss_BadFence_BadCount => k_is)
    (case nn_BadFence_BadText => first | rfl | decide)
    (case ss_BadFence_BadText => k_is)
    (case k_xNotSure => k_is)
    (case b_xNotSure => k_is)
    (case s_xNotSure => k_is)
    (case hg_xNotSure => k_is)
    (case hk_xNotSure => k_is)
    (case hd_xNotSure => k_is)
    (case ha_xNotSure => k_is)
    (case hm_xNotSure => k_is)
    (case v_xNotSure => k_is)
    (case xx_NotSure => k_exc)
    (case nn_NotSure_BadBoard => first | rfl | decide)
    (case ss_NotSure_BadBoard => k_is)
    (case nn_NotSure_BadFence => first | rfl | decide)
    (case ss_NotSure_BadFence => k_is)
    (case nn_NotSure_BadCount => first | rfl | decide)
    (case ss_NotSure_BadCount => k_is)
    (case nn_NotSure_BadText => first | rfl | decide)
    (case ss_NotSure_BadText => k_is)
    (case rC => k_is)
    (case gC => k_is)
    (case fC => k_is)
    (case lx_BadBoard => k_is)
    (case rv_BadBoard => first | rfl | decide +kernel)
    (case sx_BadBoard => k_is)
    (case a_BadBoard___init__ => k_is)
    (case y_BadBoard___init__ => k_is)
    (case l_BadBoard___init__ => k_is)
    (case c_BadBoard___init__ => k_is)
    (case k_BadBoard___init__ => k_is)
    (case nx_BadBoard_word => k_is)
    (case nx_BadBoard_number => k_is)
    (case lx_BadFence => k_is)
    (case rv_BadFence => first | rfl | decide +kernel)
    (case sx_BadFence => k_is)
    (case a_BadFence___init__ => k_is)
    (case y_BadFence___init__ => k_is)
    (case l_BadFence___init__ => k_is)
    (case c_BadFence___init__ => k_is)
    (case k_BadFence___init__ => k_is)
    (case nx_BadFence_number => k_is)
    (case tb_law => first | k_is | rfl | decide +kernel)
    (case tn_law => first | k_is | rfl | decide +kernel)
    (case tc_law => first | k_is | rfl | decide +kernel)
